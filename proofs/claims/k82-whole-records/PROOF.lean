import PyProof.Rows.All
import Wide.All
import OpenK.AllK
import Wide.FinOn
import HandS.ForMost
import HandS.Evl
import HandS.IsInst
import HandS.Style
import HandS.TupAny
import HandS.StrMore
import HandS.SortOrd
import HandS.SortRule
import HandS.More
import KE.KRevSl
import KE.KSortTupAny
import HandS.Defaults
import HandS.HeadHook3
import PySem.Challenge.RW_greedycuts_k82_whole_records_by_whomever
import HandS.HeadHook4
import KE.KStateDown
import Lean
import HandS.Head0
import HandS.Head1
import HandS.Head2
import HandS.HeadEnd
import HandS.HeadHook1
import HandS.HeadHook2
import HandS.NoneIn
set_option Elab.async false
set_option linter.all false
set_option maxRecDepth 100000
set_option maxHeartbeats 0
/-! Rules that the layer lacks: text * int, t[::-1], sorted of (text, int) pairs out of a list or a tuple, d.get of a written dict. -/
namespace G
open PySem PySem.Spec PyProof.Rows L2

/-! ### text * int -/
theorem op_mulS {X : Cx} : OpR X (binaryOp .Mult) (fun x y H Q => ∃ i n, x = .str i ∧ y = .int n ∧ MulOk i n ∧ Q (.str (Txt.mul i n)) H) := by
  intro pins s σ H x y v u Q I rx ry h
  obtain ⟨i, n, rfl, rfl, hk, q⟩ := h
  obtain ⟨t, rfl⟩ := rx
  obtain ⟨t', rfl⟩ := ry
  exact SB.mul hk (fun t2 k => ⟨.str (Txt.mul i n), H, I.tok _, ⟨_, rfl⟩, q⟩)

/-! ### t[::-1] -/
section
variable {prog : Program} {w : World} {A : Around} {E : Value → Shared → Prop} {s : Shared}
theorem adjust_rev (n : Nat) : Builtin.Slice.sliceAdjust none none (-1) (n : Int) = ((n : Int) - 1, -1) := by
  unfold Builtin.Slice.sliceAdjust
  have h1 : ((-1 : Int) < 0) := by omega
  simp only [h1, if_true]
theorem places_rev (n : Nat) : Builtin.Slice.slicePlaces ((n : Int) - 1) (-1) (-1) = n := by
  unfold Builtin.Slice.slicePlaces
  have h1 : ¬ ((-1 : Int) > 0) := by omega
  have e : ((n : Int) - 1 - -1 - -1 - 1) / (- -1) = (n : Int) := by
    rw [show (- -1 : Int) = 1 by decide, Int.ediv_one]
    omega
  by_cases h : n = 0
  · subst h
    simp
  · have h2 : ((n : Int) - 1 > -1) := by omega
    simp only [h1, if_false, h2, if_true]
    have e2 : ((n : Int) - 1 - -1 + - -1 - 1) / (- -1) = (n : Int) := by
      rw [show (- -1 : Int) = 1 by decide, Int.ediv_one]
      omega
    simp only [show (- -1 : Int) = 1 by decide, Int.ediv_one]
    omega
theorem sliceApplied_rev {sl : Addr} {vl vu vs : Value} {n : Nat} {Q : Int × Int × Nat → Shared → Prop} (hs : s.heap.IsSliceOf sl vl vu vs) (pl : IsPart vl none) (pu : IsPart vu none) (ps : IsPart vs (some (-1)))
    (h : Q ((n : Int) - 1, -1, n) s) : wpAny (model prog w) A (Builtin.Slice.sliceApplied (.ref sl) (pure (n : Int))) Q E s := by
  obtain ⟨os, hos, hcs, hds⟩ := id hs
  unfold Builtin.Slice.sliceApplied Builtin.Slice.sliceFields
  refine wpAny_bind (wpAny_bind (wpAny_field hos hds (x := vl) rfl (wpAny_bind (wpAny_field hos hds (x := vu) rfl (wpAny_bind (wpAny_field hos hds (x := vs) rfl (wpAny_pure ?_)))))))
  refine wpAny_bind (HT.slicePart_ ps ?_)
  show wpAny _ _ (if ((-1 : Int) == 0) = true then _ else _) _ _ s
  rw [if_neg (by decide)]
  refine wpAny_bind (HT.slicePart_ pl (wpAny_bind (HT.slicePart_ pu (wpAny_bind (wpAny_pure ?_)))))
  show wpAny _ _ (match Builtin.Slice.sliceAdjust none none (-1) (n : Int) with | (lo, hi) => pure (lo, (-1 : Int), Builtin.Slice.slicePlaces lo hi (-1))) _ _ s
  rw [adjust_rev n]
  show wpAny _ _ (pure ((n : Int) - 1, (-1 : Int), Builtin.Slice.slicePlaces ((n : Int) - 1) (-1) (-1))) _ _ s
  rw [places_rev]
  exact wpAny_pure h
theorem pick_rev (xs : Array Value) : ((List.range xs.size).filterMap fun (k : Nat) => xs[((xs.size : Int) - 1 + (k : Int) * -1).toNat]?).toArray = xs.toList.reverse.toArray := by
  have h := PySem.W.krv_range xs.size
  have e : ((List.range xs.size).filterMap fun (k : Nat) => xs[((xs.size : Int) - 1 + (k : Int) * -1).toNat]?) = ((List.range xs.size).map fun k => xs.size - 1 - k).filterMap (xs[·]?) := by
    rw [List.filterMap_map]
    have e2 : (fun (k : Nat) => xs[((xs.size : Int) - 1 + (k : Int) * -1).toNat]?) = ((fun x => xs[x]?) ∘ fun k => xs.size - 1 - k) := by
      funext k
      show xs[((xs.size : Int) - 1 + (k : Int) * -1).toNat]? = xs[xs.size - 1 - k]?
      have e3 : ((xs.size : Int) - 1 + (k : Int) * -1).toNat = xs.size - 1 - k := by omega
      rw [e3]
    rw [e2]
  rw [e, h, List.filterMap_reverse, PySem.W.krv_all]
theorem getItem_tuple_rev {t sl : Addr} {items : Array Value} {vl vu vs : Value} {Q : Value → Shared → Prop} (ht : IsTup s.heap t items) (hs : s.heap.IsSliceOf sl vl vu vs) (pl : IsPart vl none) (pu : IsPart vu none) (ps : IsPart vs (some (-1)))
    (h : Q (.ref s.heap.objs.size) { s with heap := s.heap.push { cls := .type "tuple", data := .seq items.toList.reverse.toArray } })
    (hsz : items.size ≤ sizeLine) : wpAny (model prog w) A (getItem (.ref t) (.ref sl)) Q E s := by
  have htake : sizeOk (.seq items.toList.reverse.toArray) := by
    show items.toList.reverse.toArray.size ≤ sizeLine
    rw [List.size_toArray, List.length_reverse, Array.length_toList]
    exact hsz
  obtain ⟨os, hos, hcs, hds⟩ := id hs
  have hTs : s.TypeIs (.ref sl) "slice" := ⟨os, hos, hcs⟩
  unfold getItem
  try with_reducible refine wpAny_holding ?_
  first | refine wpAny_bind (wpAny_pure ?_) | skip
  refine wpAny_bind (wpAny_sequenceKey ht.typeIs (by decide) ?_)
  refine wpAny_bind (wpAny_callSpecial?_slot (name := Str.ofString "__getitem__") ht.typeIs PyProof.Rows.slot_tuple_getitem
    (wpAny_call_entry PyProof.Rows.slot_tuple_getitem ht.typeIs entry_tuple_getitem ?_ (args_tuple_getitem _ _)))
  show wpAny _ _ (Builtin.Tuple.tupleItemsOf (.ref t) >>= _) _ _ s
  refine wpAny_bind (tupleItemsOf_ ht ?_)
  refine wpAny_bind (wpAny_typeOf hTs ?_)
  rw [if_pos (by decide)]
  refine wpAny_bind (sliceApplied_rev hs pl pu ps ?_)
  have hno : ¬ ((((items.size : Int) - 1) == 0 && (-1 : Int) == 1 && items.size == items.size) = true) := by
    intro q
    rw [Bool.and_eq_true, Bool.and_eq_true] at q
    exact absurd q.1.2 (by decide)
  show wpAny _ _ (if (((items.size : Int) - 1) == 0 && (-1 : Int) == 1 && items.size == items.size) = true then _ else _) _ _ s
  rw [if_neg hno, pick_rev]
  first
    | exact wpAny_bind (m := Builtin.Tuple.tupleExact _) (wpAny_newObj_type (wpAny_pure ⟨_, rfl, wpAny_pure h⟩) htake)
    | exact wpAny_bind (m := Builtin.Tuple.tupleExact _) (wpAny_newObj_type (wpAny_bind (wpAny_pure (wpAny_pure ⟨_, rfl, wpAny_pure h⟩))) htake)
    | exact wpAny_bind (wpAny_bind (m := Builtin.Tuple.tupleExact _) (wpAny_newObj_type (wpAny_pure (wpAny_pure ⟨_, rfl, wpAny_pure h⟩)) htake))
    | exact wpAny_bind (wpAny_bind (m := Builtin.Tuple.tupleExact _) (wpAny_newObj_type (wpAny_pure ⟨_, rfl, wpAny_pure h⟩) htake))
end
section
variable {X : Cx}
def tRevT (K : PySem.W.Frag) (te : TE) : TE := fun σ H Q => te σ H fun x H1 => ∃ a xs, x = .ref a ∧ SqT K H1 a xs ∧ ∀ p, H1 p = none → Q (.ref p) (upd H1 p (.tup xs.reverse))
theorem pe_revT {e : Expr} {te : TE} {k : Nat} {p1 p2 p3 pos : Pos} (he : PE X e te) : PE X (.Subscript e (.Slice none none (some (.UnaryOp .USub (.Constant (.int 1) k p1) p2)) p3) pos) (tRevT X.K te) := by
  refine ⟨fun pins s σ H Q I h => ?_⟩
  refine Subscript_ (thn (he.run pins s σ H _ I h) fun v s1 ⟨x, H1, I1, r1, q1⟩ => ?_)
  obtain ⟨a, xs, ex, hx, q⟩ := q1
  subst ex
  cases r1
  have hst : PO X (some (.UnaryOp .USub (.Constant (.int 1) k p1) p2)) (tPart (tUn (rU fun i => .int (-i)) (tC (.int 1)))) := po_some (pe_un un_neg pe_int)
  refine wpAny_Slice (thn (po_none.run pins s1 σ H1 (fun o H2 => o = none ∧ H2 = H1) I1 ⟨rfl, rfl⟩) fun vl s2 ⟨l, H2, I2, pl, el, e2⟩ => ?_)
  subst el e2
  refine thn (po_none.run pins s2 σ H2 (fun o H3 => o = none ∧ H3 = H2) I2 ⟨rfl, rfl⟩) fun vu s3 ⟨u, H3, I3, pu, eu, e3⟩ => ?_
  subst eu e3
  refine thn (hst.run pins s3 σ H3 (fun o H4 => o = some (-1) ∧ H4 = H3) I3 ⟨1, rfl, -1, rfl, rfl, rfl⟩) fun vs s4 ⟨o, H4, I4, ps, eo, e4⟩ => ?_
  subst eo e4
  have I5 : Inv X pins σ H4 { s4 with heap := s4.heap.push { cls := .type "slice", data := .fields #[vl, vu, vs] } } := I4.kept (t' := s4.toks) fun b ob q => Heap.get?_push_of_some _ q
  obtain ⟨its, r, ht, hz⟩ := I5.tuple hx
  have hlen := r.length
  show wpAny (model X.prog X.w) X.A (subscriptTail e (.Slice none none (some (.UnaryOp .USub (.Constant (.int 1) k p1) p2)) p3) (.ref a) (.ref s4.heap.objs.size)) (EP X pins σ Q) X.xe { s4 with heap := s4.heap.push { cls := .type "slice", data := .fields #[vl, vu, vs] } }
  refine tail_any (ops := [.ref a, .ref s4.heap.objs.size]) ht.typeIs (PyProof.Rows.slot_tuple_getitem.lookup) ?_ (by with_unfolding_all rfl)
  refine getItem_tuple_rev ht (Heap.IsSliceOf.new _ vl vu vs) pl pu ps ?_ (by rw [List.size_toArray, ← hlen]; exact hz)
  refine ⟨.ref _, _, I5.laid (t' := s4.toks) (o := .tup xs.reverse) (fun b ob q => Heap.get?_push_of_some _ q) (Nat.le_refl _) ?_, rfl, q _ (I5.hok.fresh (Nat.le_refl _))⟩
  exact ⟨by rw [List.length_reverse]; exact hz, _, r.reverse, IsTup.new _ _⟩
end
end G

/-! ### sorted of (text, int) pairs, out of a list or a tuple -/
namespace G
open PySem PySem.Spec PyProof.Rows L2 SrtO
abbrev Ky := List Nat × Int
def lexW (p q : Ky) : Bool := if p.1 = q.1 then decide (p.2 < q.2) else decide (p.1 < q.1)
theorem lexW_iff {p q : Ky} : lexW p q = true ↔ p.1 < q.1 ∨ (p.1 = q.1 ∧ p.2 < q.2) := by
  unfold lexW
  by_cases e : p.1 = q.1
  · rw [if_pos e, decide_eq_true_eq]
    constructor
    · intro h; exact .inr ⟨e, h⟩
    · rintro (h | ⟨_, h⟩)
      · rw [e] at h; exact absurd h (List.lt_irrefl _)
      · exact h
  · rw [if_neg e, decide_eq_true_eq]
    constructor
    · intro h; exact .inl h
    · rintro (h | ⟨h, _⟩)
      · exact h
      · exact absurd h e
theorem lexW_no {p q : Ky} : lexW p q = false ↔ ¬ (p.1 < q.1 ∨ (p.1 = q.1 ∧ p.2 < q.2)) := by
  rw [← lexW_iff]
  cases lexW p q <;> simp
theorem lexW_asym {p q : Ky} (h : lexW p q = true) : lexW q p = false := by
  rw [lexW_iff] at h
  rw [lexW_no]
  rintro (h2 | ⟨e, h2⟩)
  · rcases h with h | ⟨e, h⟩
    · exact List.lt_asymm h h2
    · rw [e] at h2; exact List.lt_irrefl _ h2
  · rcases h with h | ⟨_, h⟩
    · rw [e] at h; exact List.lt_irrefl _ h
    · omega
/-- not less is a total preorder: q ≤ p, r ≤ q, so r ≤ p -/
theorem lexW_tr {x y z : Ky} (h1 : lexW y x = false) (h2 : lexW z y = false) : lexW z x = false := by
  rw [lexW_no] at *
  rintro (h | ⟨e, h⟩)
  · rcases Classical.em (z.1 < y.1) with a | a
    · exact h2 (.inl a)
    · rcases Classical.em (y.1 < z.1) with b | b
      · exact h1 (.inl (List.lt_trans b h))
      · have e : z.1 = y.1 := List.le_antisymm (List.not_lt.mp b) (List.not_lt.mp a)
        rw [e] at h
        exact h1 (.inl h)
  · rcases Classical.em (z.1 < y.1) with a | a
    · exact h2 (.inl a)
    · rcases Classical.em (y.1 < z.1) with b | b
      · rw [e] at b; exact h1 (.inl b)
      · have e2 : z.1 = y.1 := List.le_antisymm (List.not_lt.mp b) (List.not_lt.mp a)
        have h2' : ¬ z.2 < y.2 := fun q => h2 (.inr ⟨e2, q⟩)
        have h1' : ¬ y.2 < x.2 := fun q => h1 (.inr ⟨e2 ▸ e, q⟩)
        omega
theorem swo_W {α : Type} (k : α → Ky) : Swo fun v u => lexW (k v) (k u) := ⟨fun _ _ h => lexW_asym h, fun _ _ _ h1 h2 => lexW_tr h1 h2⟩

section
variable {prog : Program} {w : World} {A : Around} {E : Value → Shared → Prop} {s : Shared}
/-- a pair of a text and an int -/
def IsEnt (h : Heap) (v : Value) (k : Ky) : Prop := ∃ a o x t u n, v = .ref a ∧ h.get? a = some o ∧ o.cls = .type "tuple" ∧ o.data = .seq #[.str x t, .int k.2 u] n ∧ x.cps.toList = k.1
theorem IsEnt.keeps {h h' : Heap} {v : Value} {k : Ky} (p : IsEnt h v k) (kp : ∀ b o, h.get? b = some o → o.cls = .type "tuple" → h'.get? b = some o) : IsEnt h' v k := by
  obtain ⟨a, o, x, t, u, n, e, ho, hc, hd, hk⟩ := p
  exact ⟨a, o, x, t, u, n, e, kp _ _ ho hc, hc, hd, hk⟩
theorem ent_firsts {h : Heap} : ∀ {vs : List Value} {k : Value → Ky}, (∀ v ∈ vs, IsEnt h v (k v)) → ∃ fs : List Value, PySem.W.KatTups h vs fs ∧ fs.length = vs.length ∧ ∀ f ∈ fs, ∃ x t, f = Value.str x t
  | [], _, _ => ⟨[], PySem.W.KatTups.nil, rfl, fun _ hm => by simp at hm⟩
  | v :: vs, k, hp => by
    obtain ⟨fs, h1, h2, h3⟩ := ent_firsts (vs := vs) (k := k) fun v' hm => hp v' (List.mem_cons_of_mem _ hm)
    obtain ⟨a, o, x, t, u, n, e, ho, hc, hd, hk⟩ := hp v (List.mem_cons_self ..)
    subst e
    refine ⟨.str x t :: fs, PySem.W.KatTups.cons ho hc hd rfl h1, by rw [List.length_cons, List.length_cons, h2], fun f hm => ?_⟩
    rcases List.mem_cons.mp hm with rfl | hm
    · exact ⟨x, t, rfl⟩
    · exact h3 f hm
theorem ent_cmp {vs : List Value} {k : Value → Ky} (hp : ∀ v ∈ vs, IsEnt s.heap v (k v)) : SrtO.Cmp prog w A s (tuples' true) (fun p => p.1 ∈ vs) (lt2 fun v u => lexW (k v) (k u)) := by
  intro p q hm hm'
  have h1 := hp _ hm
  have h2 := hp _ hm'
  show wpAny (model prog w) A (keyLt' (tuples' true) p.1 q.1) (fun r s' => s' = s ∧ r = lexW (k p.1) (k q.1)) (fun _ _ => False) s
  unfold lexW
  generalize (k p.1) = kx at h1 ⊢
  generalize (k q.1) = ky at h2 ⊢
  obtain ⟨x, y⟩ := kx
  obtain ⟨x', y'⟩ := ky
  obtain ⟨a, o, z, t, u, n, e, ho, hc, hd, hk⟩ := h1
  obtain ⟨a', o', z', t', u', n', e', ho', hc', hd', hk'⟩ := h2
  simp only at hd hk hd' hk' ⊢
  subst hk hk'
  rw [e, e']
  refine PySem.W.kat_lt ho hd ho' hd' ?_
  show PySem.W.KatLex prog w A true (decide (2 < 2)) _ [(.str z t, .str z' t'), (.int y u, .int y' u')] 0 s
  refine PySem.W.kat_cons (SeqAt.EqAt.str_str z t z' t' prog w _ _ ?_)
  refine PySem.W.kat_go (fun e1 => ?_) (fun e1 => ?_)
  · have ex : z = z' := by simpa using e1
    subst ex
    rw [if_pos rfl]
    refine PySem.W.kat_yes (PySem.W.kat_cons (SeqAt.EqAt.int_int y u y' u' prog w _ _ ?_))
    refine PySem.W.kat_go (fun e2 => ?_) (fun e2 => ?_)
    · have ey : y = y' := by simpa using e2
      subst ey
      exact PySem.W.kat_yes (PySem.W.kat_nil ⟨rfl, (decide_eq_false (Int.lt_irrefl _)).symm⟩)
    · refine PySem.W.kat_no (PySem.W.kat_one _ _ (PyProof.Rows.lt_int ?_))
      exact (show s = s ∧ decide (y < y') = decide (y < y') from ⟨rfl, rfl⟩)
  · have ex : ¬ z = z' := by simpa using e1
    have ex2 : ¬ z.cps.toList = z'.cps.toList := fun q => ex (by
      cases z; cases z'
      simp only at q
      rw [Array.toList_inj] at q
      rw [q])
    rw [if_neg ex2]
    exact PySem.W.kat_no (PyProof.Rows.oneLt_str ⟨rfl, rfl⟩)
theorem ent_sortable {a : Addr} {vs : List Value} {k : Value → Ky} (h0 : 0 < vs.length) (hp : ∀ v ∈ vs, IsEnt s.heap v (k v)) (ha : ∀ o, s.heap.get? a = some o → o.cls ≠ .type "tuple") : SortableO prog w A s a vs fun v u => lexW (k v) (k u) := by
  intro h' keep
  have hp' : ∀ v ∈ vs, IsEnt h' v (k v) := fun v hm => (hp v hm).keeps fun b o e c => keep b o (fun z => by subst z; exact ha o e c) e
  obtain ⟨fs, h1, h2, h3⟩ := ent_firsts hp'
  refine ⟨tuples' true, fun Q E hq => ?_, ent_cmp hp'⟩
  refine PySem.W.kat_kind (T := .type "str") h1 (by omega) (fun f hm => ?_) (by rfl) ?_
  · obtain ⟨x, t, rfl⟩ := h3 f hm
    exact PySem.W.Looks.now
  · have e : (Value.type "str" != Value.type "tuple") = true := by first | decide +kernel | rfl | decide
    rw [e]
    exact hq
/-- sorted(a), a list or a tuple -/
theorem sorted_ordS {a : Addr} {T : String} {o : Obj} {vs : List Value} {n : Nat} {ltv : Value → Value → Bool} {Q : Value → Shared → Prop} (O : Swo ltv) (hT : T = "list" ∨ T = "tuple") (ho : s.heap.get? a = some o) (hc : o.cls = .type T)
    (hd : o.data = .seq vs.toArray n) (hz : vs.length ≤ sizeLine)
    (hS : 2 ≤ vs.length → ∀ (h₁ : Heap) (a : Addr), h₁.get? a = some (seqObj "list" vs.toArray 0) → (∀ b o, s.heap.get? b = some o → b ≠ a ∧ h₁.get? b = some o) → SortableO prog w A.in1.in1 { s with heap := h₁ } a vs ltv)
    (h : ∀ (h1 h' : Heap) (out : List Value), Srtd ltv out → Stb ltv out vs → (∀ b o, s.heap.get? b = some o → h1.get? b = some o) → (∀ b o, h1.get? b = some o → h'.get? b = some o) → (∃ n, h'.get? h1.objs.size = some (seqObj "list" out.toArray n)) → Q (.ref h1.objs.size) { s with heap := h' }) :
    wpAny (model prog w) A (call (.builtin "sorted") [.ref a]) Q E s := by
  refine Calls.call_function_entry kind_sorted plain_sorted entry_sorted (args_sorted1 _) ?_
  unfold Builtin.«sorted»
  refine wpAny_bind (m := checkCount "sorted" 1 1 _) (wpAny_pure ?_)
  refine wpAny_bind (PySem.wpAny_collect_seq a hT ho hc hd (fun h1 k1 => ?_) (by rw [List.size_toArray]; exact hz))
  refine wpAny_bind (wpAny_newList ?_ (by simpa using hz))
  have hoL : (h1.push (seqObj "list" vs.toArray 0)).get? h1.objs.size = some (seqObj "list" vs.toArray 0) := Heap.get?_push_size _ rfl
  have keep : ∀ b o, s.heap.get? b = some o → b ≠ h1.objs.size ∧ (h1.push (seqObj "list" vs.toArray 0)).get? b = some o := fun b o q =>
    ⟨Nat.ne_of_lt (Heap.lt_size (k1 b o q)), Heap.get?_push_of_some _ (k1 b o q)⟩
  show wpAny _ _ _ _ _ { s with heap := h1.push (seqObj "list" vs.toArray 0) }
  refine wpAny_bind (wpAny_holding (wpAny_call_entry slot_list_sort ⟨_, hoL, rfl⟩ entry_list_sort (list_sort_ord O hoL hz (fun h2 => hS h2 _ _ hoL keep) fun out hs hb => ⟨_, rfl, ?_⟩) (args_list_sort _)))
  refine wpAny_pure ⟨_, rfl, h h1 _ out hs hb k1 (fun b o q => ?_) (sortedHeap_at hoL)⟩
  have hlt := Heap.lt_size q
  rw [sortedHeap_old (Nat.ne_of_lt hlt) (by rw [size_push']; exact Nat.lt_succ_of_lt hlt)]
  exact Heap.get?_push_of_some _ q
end
/-- the key of a pair that is told by k -/
abbrev ltE (k : V → Ky) (x y : V) : Bool := lexW (k x) (k y)
/-- sorted(xs), xs a list or a tuple of pairs (text, int) (k says which) -/
def rSortedE (K : PySem.W.Frag) : List V → Hp → VK → Prop := fun vs H Q => ∃ (a : Addr) (xs : List V) (k : V → Ky), vs = [V.ref a] ∧ (SqL K H a xs ∨ SqT K H a xs) ∧ (∀ x ∈ xs, ∃ t z, x = V.ref t ∧ H t = some (.tup [.str z, .int (k x).2]) ∧ z.cps.toList = (k x).1) ∧
  ∀ ys p, SrtO.Srtd (ltE k) ys → ys.Perm xs → H p = none → Q (.ref p) (upd H p (.lst ys))
section
variable {X : Cx}
theorem cr_sortedE : CallR X (.builtin "sorted") (rSortedE X.K) := by
  intro pins s σ H vs us Q I r h
  obtain ⟨a, xs, k, rfl, hs, hx, q⟩ := h
  obtain ⟨u, rfl, ru⟩ := vals1 r
  obtain rfl : u = Value.ref a := ru
  obtain ⟨T, o, its, n, hT, ho, hc, hd, rv, hz⟩ : ∃ (T : String) (o : Obj) (its : List Value) (n : Nat), (T = "list" ∨ T = "tuple") ∧ s.heap.get? a = some o ∧ o.cls = .type T ∧ o.data = .seq its.toArray n ∧ Vals xs its ∧ xs.length ≤ sizeLine := by
    rcases hs with hs | hs
    · obtain ⟨its, rv, ⟨o, n, ho, hc, _, hd⟩, hz⟩ := I.list hs
      exact ⟨"list", o, its, n, .inl rfl, ho, hc, hd, rv, hz⟩
    · obtain ⟨its, rv, ⟨o, ho, hc, n, hd⟩, hz⟩ := I.tuple hs
      exact ⟨"tuple", o, its, n, .inr rfl, ho, hc, hd, rv, hz⟩
  obtain ⟨e1, e2⟩ := refs_back rv fun x m => by
    obtain ⟨t, _, e, _⟩ := hx x m
    exact ⟨t, e⟩
  have hE : ∀ v ∈ its, IsEnt s.heap v (k (backV v)) := fun v hv => by
    obtain ⟨t, rfl⟩ := e2 v hv
    have hm : V.ref t ∈ xs := by rw [e1]; exact List.mem_map.mpr ⟨_, hv, rfl⟩
    obtain ⟨t', z, e, ht, hk⟩ := hx _ hm
    cases e
    obtain ⟨_, its2, r2, o, ho, hc, n, hd⟩ := I.hok _ _ ht
    obtain ⟨u1, u2, rfl, ri, rj⟩ := vals2 r2
    obtain ⟨t1, rfl⟩ := ri
    obtain ⟨t2, rfl⟩ := rj
    exact ⟨t, o, z, t1, t2, n, rfl, ho, hc, hd, hk⟩
  refine sorted_ordS (ltv := fun v u => lexW (k (backV v)) (k (backV u))) (swo_W fun v => k (backV v)) hT ho hc hd (by rw [← rv.length]; exact hz) (fun h2 h₁ b hb kk => ?_) fun h1 h' out hs hb k1 k2 hn => ?_
  · refine ent_sortable (s := { s with heap := h₁ }) (by omega) (fun v hm => (hE v hm).keeps fun b o e _ => (kk b o e).2) fun o e => ?_
    have e' : some o = some (seqObj "list" its.toArray 0) := e.symm.trans hb
    cases e'
    intro c
    exact absurd (Value.type.inj c) (by decide)
  · have h3 : ∀ u ∈ out, ∃ a, u = Value.ref a := fun u hu => e2 u (hb.perm.mem_iff.mp hu)
    obtain ⟨n, hn⟩ := hn
    have hp : (out.map backV).Perm xs := by
      rw [e1]
      exact hb.perm.map backV
    have I1 : Inv X pins σ H { s with heap := h1 } := I.kept (t' := s.toks) k1
    refine ⟨.ref h1.objs.size, upd H h1.objs.size (.lst (out.map backV)), I1.laid (t' := s.toks) k2 (Nat.le_refl _) ⟨?_, out, n, vals_back h3, hn⟩, rfl, q _ _ (SrtO.srtd_map hs) hp (I1.hok.fresh (Nat.le_refl _))⟩
    rw [hp.length_eq]
    exact hz
end
end G
/-! What an expression comes to, told by a property (EvP); comprehensions by their items; calls of defs by name. -/
namespace G
open PySem PySem.Spec PyProof.Rows L2 Evl

/-! ### a written dict's get -/
section
variable {X : Cx} {d : Addr} {es : Array DictEntry} {n : Nat}
def tKGet (K : PySem.W.Frag) (d : Addr) (ty tx : TE) : TE := fun σ H Q => ty σ H fun y H2 => tx σ H2 fun z H3 => ∃ (k : Str) (r : Option Value), y = .str k ∧ PySem.W.nsIn K d k = some r ∧
  ((r = none ∧ Q z H3) ∨ ∃ u v, r = some u ∧ RelV v u ∧ Q v H3)
theorem pe_kget {x : Str} {p apos cpos : Pos} {e f : Expr} {ty tx : TE} (D : KDict X.K X.w d es n) (hg : X.mg x = some (.ref d)) (he : PE X e ty) (hf : PE X f tx) (hG : Gl X x := by rfl) (hdb : (x == ("__debug__" : Str)) = false := by decide)
    (hb : attributeBase (.Name x p) "get" X.env (eval (.Name x p) X.env) = eval (.Name x p) X.env := by rfl)
    (hfew : ((backTo cpos (starEach [e, f] X.env)).all (fun x => !x.1) && (backToKw cpos (keywordEach [] X.env)).all (fun x => x.1.isSome)
      && decide (([e, f] : List Expr).length + ([] : List Keyword).length + (if ([] : List Keyword).isEmpty then 0 else 1) < 30)) = true := by rfl)
    (hline : (apos.endLine == cpos.line) = true := by rfl) (htrees : backTo cpos (starEach [e, f] X.env) = [(false, eval e X.env), (false, eval f X.env)] := by rfl) :
    PE X (.Call (.Attribute (.Name x p) "get" apos) [e, f] [] cpos) (tKGet X.K d ty tx) := by
  refine ⟨fun pins s σ H Q I h => ?_⟩
  refine wpAny_Call_method hb hfew hline PySem.F.plainAttrs_dict PySem.F.slot_dict_get PySem.F.type_dict_get (ld_glob I hG hg ?_ hdb)
  have t1 : s.TypeIs (.ref d) "dict" := kd_type D I
  have t2 : ∀ b, Value.ref d = .ref b → ∃ ob, s.heap.get? b = some ob ∧ ob.dict = none := fun b q => by
    cases q
    exact ⟨_, I.kIn _ _ D.at_, rfl⟩
  refine ⟨t1, t2, ?_⟩
  rw [htrees]
  refine Calls.callWith_builtin rfl (Calls.evalArgs_plain (Calls.spliced_cons (thn (he.run pins s σ H _ I h) fun iv s2 ⟨y, H2, I2, ry, q2⟩ =>
    Calls.spliced_cons (thn (hf.run pins s2 σ H2 _ I2 q2) fun fv s3 ⟨z, H3, I3, rz, k, r, ey, en, q3⟩ => Calls.spliced_nil ?_))))
  subst ey
  obtain ⟨t, rfl⟩ := ry
  have M := PySem.W.mapOf_K (prog := X.prog) (w := X.w) I3.kIn D.at_ D.lit
  refine call_meetsIn PySem.F.slot_dict_get M.typeIs PySem.F.entry_dict_get (PySem.F.args_dict_get_3 _ _ _) (meets_dict_get_default (PySem.strKind X.prog X.w) d (PySem.strKind_is X.prog X.w k t) D.low fv) ⟨_, M, ?_⟩
  rw [PySem.W.find_K D.at_ en]
  rcases q3 with ⟨rfl, q⟩ | ⟨u, v, rfl, rv, q⟩
  · exact ⟨z, H3, I3.tok _, rz, q⟩
  · exact ⟨v, H3, I3.tok _, rv, q⟩
end

/-! ### names of the module, built-in types -/
section
variable {X : Cx} {x : Str} {pos : Pos}
theorem pe_gint {i : Int} (hm : ∃ t, X.mg x = some (.int i t)) (hg : Gl X x := by rfl) (hd : (x == ("__debug__" : Str)) = false := by decide) : PE X (.Name x pos) (tC (.int i)) := by
  obtain ⟨t, e⟩ := hm
  exact pe_glob hg e ⟨_, rfl⟩ hd
theorem pe_gstr {z : Str} (hm : ∃ t, X.mg x = some (.str z t)) (hg : Gl X x := by rfl) (hd : (x == ("__debug__" : Str)) = false := by decide) : PE X (.Name x pos) (tC (.str z)) := by
  obtain ⟨t, e⟩ := hm
  exact pe_glob hg e ⟨_, rfl⟩ hd
theorem pe_tyb (T : String) (hm : X.mg x = none) (hg : Gl X x := by rfl) (hv : bootBuiltins x = some (.type T) := by decide +kernel) (hn : x ≠ "__name__" := by decide) (hd : (x == ("__debug__" : Str)) = false := by decide) : PE X (.Name x pos) (tC (.ty T)) :=
  pe_bltn hg hm hv rfl hn hd
end

/-! ### rules with the written part named (within a comprehension the context is a letter's) -/
section
variable {X : Cx}
theorem op_inK (K : PySem.W.Frag) (h : X.K = K) : OpR X (compareOp .In) (rIn K false) := h ▸ op_in_seq
theorem op_notInK (K : PySem.W.Frag) (h : X.K = K) : OpR X (compareOp .NotIn) (rIn K true) := h ▸ op_notIn_seq
theorem op_eqDK (K : PySem.W.Frag) (h : X.K = K) (hu : X.A.units + 64 < cLine) : OpR X (compareOp .Eq) (rEqD K) := h ▸ op_eqD hu
theorem op_neDK (K : PySem.W.Frag) (h : X.K = K) (hu : X.A.units + 64 < cLine) : OpR X (compareOp .NotEq) (rNeD K) := h ▸ op_neD hu
theorem call_lenK (K : PySem.W.Frag) (h : X.K = K) : CallR X (.builtin "len") (rLenS K) := h ▸ call_len_seq
theorem call_isK (K : PySem.W.Frag) (h : X.K = K) : CallR X (.builtin "isinstance") (rIsi K) := h ▸ call_isi
theorem cr_allK (K : PySem.W.Frag) (h : X.K = K) (hc : X.calm = true) : CallR X (.builtin "all") (rAll K) := h ▸ cr_all hc
theorem cr_anyK (K : PySem.W.Frag) (h : X.K = K) (hc : X.calm = true) : CallR X (.builtin "any") (rAny K) := h ▸ cr_any hc
theorem ix_listK (K : PySem.W.Frag) (h : X.K = K) : IxR X (rIxL K) := h ▸ ix_list
theorem ix_tupK (K : PySem.W.Frag) (h : X.K = K) : IxR X (rIxT K) := h ▸ ix_tup
theorem sl_tupK (K : PySem.W.Frag) (h : X.K = K) : SlR X (rSlA K) := h ▸ sl_tupA
theorem sl_listK (K : PySem.W.Frag) (h : X.K = K) : SlR X (rSlL K) := h ▸ sl_list
theorem pg_tupK (K : PySem.W.Frag) (h : X.K = K) {es : List Expr} {k : Nat} {pos : Pos} {t : TGs} {n : Nat} (hc : X.calm = true) (hp : PGs X es t)
    (hn : (assignEach es X.env).length = n := by rfl) (hst : (assignEach es X.env).findIdx? (·.1) = none := by rfl) : PG X (.Tuple es k pos) (gTup K n t) := h ▸ pg_tup hc hp hn hst
theorem pi_tupK (K : PySem.W.Frag) (h : X.K = K) {tg l : Expr} {tl : TE} (hl : PE X l tl) : PI X tg l (iTup K tl) := h ▸ pi_tup hl
theorem pi_listK (K : PySem.W.Frag) (h : X.K = K) {tg l : Expr} {tl : TE} (hl : PE X l tl) : PI X tg l (iList K tl) := h ▸ pi_list hl
theorem pe_bmK (K : PySem.W.Frag) (h : X.K = K) {T : String} {id : String} {name : Str} {o e : Expr} {es : List Expr} {apos cpos : Pos} {to : TE} {t : TA} {r : V → List V → Hp → VK → Prop} (pa : PlainAttrs T) (slot : Slot T name id) (hty : typeOf (.builtin id) = pure (.type "method_descriptor")) (hm : MtR X id r) (ho : PE X o to) (ha : PA X (e :: es) t)
    (hbase : attributeBase o name X.env (eval o X.env) = eval o X.env := by rfl)
    (hfew : ((backTo cpos (starEach (e :: es) X.env)).all (fun x => !x.1) && (backToKw cpos (keywordEach [] X.env)).all (fun x => x.1.isSome)
      && decide ((e :: es).length + ([] : List Keyword).length + (if ([] : List Keyword).isEmpty then 0 else 1) < 30)) = true := by rfl)
    (hline : (apos.endLine == cpos.line) = true := by rfl) (hs : starEach (e :: es) X.env = (false, eval e X.env) :: starEach es X.env := by rfl) (hplain : (backTo cpos (starEach es X.env)).any (·.1) = false := by rfl) :
    PE X (.Call (.Attribute o name apos) (e :: es) [] cpos) (tBM K T r to t) := h ▸ pe_bm pa slot hty hm ho ha hbase hfew hline hs hplain
theorem op_catK (K : PySem.W.Frag) (h : X.K = K) : OpR X (binaryOp .Add) (rCatA K) := h ▸ op_catA
end

/-! ### a def of the module by its promise -/
abbrev FnP (K : PySem.W.Frag) (x : Str) (st : Stmt) (f : Addr) (fd : FuncData) : Prop := FunD K x x (defArgs st) (defBody st) (defScope st) [] [] f fd
def Ok (P : Program) (w : World) (K : PySem.W.Frag) (mg : Str → Option Value) (base : Heap) (k : Nat) (x : Str) (ps : List Str) (sp : Sp) : Prop :=
  ∃ f fd, FnOk P w K mg base CX0 k f fd ps sp ∧ mg x = some (.ref f) ∧ PySem.W.keepIn K (.ref f) = true ∧ Binds K fd ps []
/-- x of the module is the def y of the text at st -/
structure DefIs (K : PySem.W.Frag) (mg : Str → Option Value) (x y : Str) (st : Stmt) : Prop where
  ex : ∃ f fd, FnP K y st f fd ∧ mg x = some (.ref f)
section
variable {P : Program} {w : World} {K : PySem.W.Frag} {mg : Str → Option Value} {base : Heap}
theorem Ok.mk {x y : Str} {st : Stmt} {N ps : List Str} {k : Nat} {sp : Sp} (D : DefIs K mg x y st) (S : FnScope N ps (defScope st))
    (hb : ∀ (kV doc pm : Value) (an : Option Addr) (cdv ct : Value) (us : List Value), us.length = ps.length → bindArgs (PySem.W.fnOf y y (defArgs st) (defBody st) (defScope st) .none kV doc pm an cdv ct) ⟨us, []⟩ = pure (ps.zip us))
    (len : ∀ vs H Q E, sp vs H Q E → vs.length = ps.length)
    (hbody : ∀ (f : Addr) (cdv : Value) (A : Around) (outer : List Env) (s : Shared) (H : Hp) (vs : List V) (Q : VK) (E : XK), Room k (A.deeper (envOfC y (defScope st) s.heap.objs.size f cdv)) → sp vs H Q E →
      ∃ t, PSs (cxOf CX0 P w K mg base N y (defScope st) f cdv A outer s H E).nox (defBody st) t ∧ t { nx := fun _ H' => Q .non H', rt := Q } (start N vs) H) : Ok P w K mg base (k + 1) x ps sp := by
  obtain ⟨f, fd, F, hm⟩ := D.ex
  refine ⟨f, fd, F.ok S len (fun cdv A outer s H vs Q E hr h => ?_), hm, F.kp, F.bindsN hb⟩
  obtain ⟨t, h1, h2⟩ := hbody f cdv A outer s H vs Q E hr h
  exact ⟨t, h1.nox, h2⟩
theorem Ok.mono {j k : Nat} {x : Str} {ps : List Str} {sp : Sp} (O : Ok P w K mg base j x ps sp) (h : j ≤ k) : Ok P w K mg base k x ps sp := by
  obtain ⟨f, fd, F, r⟩ := O
  exact ⟨f, fd, F.mono h, r⟩
end
section
variable {X : Cx} {x : Str} {p pos : Pos} {e : Expr} {es : List Expr} {t : TA} {k j : Nat} {ps : List Str} {sp : Sp}
theorem pe_fn (O : Ok X.prog X.w X.K X.mg X.base k x ps sp) (hr : Room j X.A) (ha : PA X (e :: es) t) (hj : k ≤ j := by decide) (hg : Gl X x := by rfl) (hdb : (x == ("__debug__" : Str)) = false := by decide)
    (he : starEach (e :: es) X.env = (false, eval e X.env) :: starEach es X.env := by rfl) (hpl : (backTo pos (starEach es X.env)).any (·.1) = false := by rfl) : PE X (.Call (.Name x p) (e :: es) [] pos) (tCall sp [] E0 t) := by
  obtain ⟨f, fd, F, hm, hk, hb⟩ := O
  exact pe_call F (hr.mono hj) hg hm hk hb .nil pass0 ha hdb he hpl
end

/-! ### tuples stay -/
def ExT (H H' : Hp) : Prop := ∀ a xs, H a = some (.tup xs) → H' a = some (.tup xs)
theorem ExT.refl (H : Hp) : ExT H H := fun _ _ h => h
theorem ExT.trans {H H1 H2 : Hp} (a : ExT H H1) (b : ExT H1 H2) : ExT H H2 := fun x o h => b x o (a x o h)
theorem ext_of {H H' : Hp} (e : Ex H H') : ExT H H' := fun a xs h => e a _ h
theorem ext_lst {H : Hp} {a : Addr} {xs ys : List V} (h : H a = some (.lst xs)) : ExT H (upd H a (.lst ys)) := fun b zs hb => by
  have hne : b ≠ a := fun q => by
    rw [q, h] at hb
    cases hb
  rw [upd_ne hne]
  exact hb
theorem ext_ins {H : Hp} {a C dx : Addr} {fs gs : List (Str × V)} (h : H a = some (.ins C dx fs)) : ExT H (upd H a (.ins C dx gs)) := fun b zs hb => by
  have hne : b ≠ a := fun q => by
    rw [q, h] at hb
    cases hb
  rw [upd_ne hne]
  exact hb

/-! ### what a reading comes to, by a property -/
def Mon (P : V → Hp → Prop) : Prop := ∀ v H H', Ex H H' → P v H → P v H'
def EvP (te : TE) (σ : L2.St) (H : Hp) (P : V → Hp → Prop) : Prop := ∀ H1, Ex H H1 → ∀ Q : VK, (∀ v H2, Ex H1 H2 → P v H2 → Q v H2) → te σ H1 Q
def EvAP (ta : TA) (σ : L2.St) (H : Hp) (P : List V → Hp → Prop) : Prop := ∀ H1, Ex H H1 → ∀ Q : List V → Hp → Prop, (∀ vs H2, Ex H1 H2 → P vs H2 → Q vs H2) → ta σ H1 Q
def RetP (P : V → Hp → Prop) (H : Hp) (Q : VK) : Prop := ∀ v H2, Ex H H2 → P v H2 → Q v H2
def SpP (sp : Sp) (vs : List V) (H : Hp) (P : V → Hp → Prop) : Prop := ∀ H1, Ex H H1 → ∀ Q : VK, RetP P H1 Q → ∀ E : XK, sp vs H1 Q E
section
variable {K : PySem.W.Frag} {σ : L2.St} {H H' : Hp} {ta tb te : TE} {t u : TT} {x y z v : V} {r : R2} {P P' : V → Hp → Prop} {D : Ends} {tz : TS}
theorem EvP.mono (e : Ex H H') (h : EvP te σ H P) : EvP te σ H' P := fun H1 a Q q => h H1 (e.trans a) Q q
theorem ev_p (h : Ev te σ H v) : EvP te σ H (fun x _ => x = v) := fun H1 e Q q => h H1 e Q fun H2 e2 => q v H2 e2 rfl
theorem EvP.toEv (h : EvP te σ H (fun x _ => x = v)) : Ev te σ H v := fun H1 e Q q => h H1 e Q fun x H2 e2 ex => by rw [ex]; exact q H2 e2
theorem EvP.imp (h : EvP te σ H P) (hi : ∀ v H1, Ex H H1 → P v H1 → P' v H1) : EvP te σ H P' := fun H1 e Q q => h H1 e Q fun x H2 e2 p => q x H2 e2 (hi x H2 (e.trans e2) p)
theorem evu_p {xs : List V} (h : EvU te σ H xs) : EvP te σ H (fun v H1 => ∃ p, v = .ref p ∧ H1 p = some (.tup xs)) := fun H1 e Q q => h H1 e Q fun p H2 _ e2 hp => q _ H2 e2 ⟨p, rfl, hp⟩
theorem evl_p {xs : List V} (h : EvL te σ H xs) : EvP te σ H (fun v H1 => ∃ p, v = .ref p ∧ H1 p = some (.lst xs)) := fun H1 e Q q => h H1 e Q fun p H2 _ e2 hp => q _ H2 e2 ⟨p, rfl, hp⟩
/-- a list that stands -/
theorem evl_of {a : Addr} {xs : List V} (h : Ev te σ H (.ref a)) (ha : H a = some (.lst xs)) : EvP te σ H (fun v H1 => ∃ p, v = .ref p ∧ H1 p = some (.lst xs)) := fun H1 e Q q => h H1 e Q fun H2 e2 => q _ H2 e2 ⟨a, rfl, e2 _ _ (e _ _ ha)⟩
theorem evt_of {a : Addr} {xs : List V} (h : Ev te σ H (.ref a)) (ha : H a = some (.tup xs)) : EvP te σ H (fun v H1 => ∃ p, v = .ref p ∧ H1 p = some (.tup xs)) := fun H1 e Q q => h H1 e Q fun H2 e2 => q _ H2 e2 ⟨a, rfl, e2 _ _ (e _ _ ha)⟩
/-- use it at a heap -/
theorem ev_at (h : Ev te σ H v) {H1 : Hp} (e : Ex H H1) {Q : VK} (q : ∀ H2, Ex H1 H2 → Q v H2) : te σ H1 Q := h H1 e Q q
theorem EvP.at (h : EvP te σ H P) {H1 : Hp} (e : Ex H H1) {Q : VK} (q : ∀ v H2, Ex H1 H2 → P v H2 → Q v H2) : te σ H1 Q := h H1 e Q q
theorem evp_call {sp : Sp} {vs : List V} {E : XK} {ta : TA} (h : EvA ta σ H vs) (hs : SpP sp vs H P) : EvP (tCall sp [] E ta) σ H P := fun H1 e Q q =>
  h H1 e _ fun H2 e2 => by
    show sp (vs ++ []) H2 Q E
    rw [List.append_nil]
    exact hs H2 (e.trans e2) Q (fun v H3 e3 p => q v H3 (e2.trans e3) p) E
/-- a call whose arguments are told by a property -/
theorem evp_callP {sp : Sp} {E : XK} {ta : TA} {PA : List V → Hp → Prop} (h : EvAP ta σ H PA) (hs : ∀ vs H1, Ex H H1 → PA vs H1 → SpP sp vs H1 P) : EvP (tCall sp [] E ta) σ H P := fun H1 e Q q =>
  h H1 e _ fun vs H2 e2 p => by
    show sp (vs ++ []) H2 Q E
    rw [List.append_nil]
    exact hs vs H2 (e.trans e2) p H2 (Ex.refl _) Q (fun v H3 e3 p => q v H3 (e2.trans e3) p) E
theorem eva_p {ta : TA} {vs : List V} (h : EvA ta σ H vs) : EvAP ta σ H (fun us _ => us = vs) := fun H1 e Q q => h H1 e Q fun H2 e2 => q vs H2 e2 rfl
theorem eap_nil : EvAP tNil σ H (fun vs _ => vs = []) := fun H1 _ _ q => q [] H1 (Ex.refl H1) rfl
theorem eap_cons {tr : TA} {PA : List V → Hp → Prop} (hm : Mon P) (h : EvP ta σ H P) (hr : EvAP tr σ H PA) : EvAP (tCons ta tr) σ H (fun vs H1 => ∃ v us, vs = v :: us ∧ P v H1 ∧ PA us H1) := fun H1 e Q q =>
  h H1 e _ fun v H2 e2 p => hr H2 (e.trans e2) _ fun us H3 e3 p3 => q (v :: us) H3 (e2.trans e3) ⟨v, us, rfl, hm v H2 H3 e3 p, p3⟩
theorem eap_one (h : EvP ta σ H P) : EvAP (tCons ta tNil) σ H (fun vs H1 => ∃ v, vs = [v] ∧ P v H1) := fun H1 e Q q =>
  h H1 e _ fun v H2 e2 p => q [v] H2 e2 ⟨v, rfl, p⟩
theorem evp_cb {r : List V → Hp → VK → Prop} {ta : TA} {PA : List V → Hp → Prop} (h : EvAP ta σ H PA) (hr : ∀ vs H1, Ex H H1 → PA vs H1 → ∀ Q : VK, (∀ v H2, Ex H1 H2 → P v H2 → Q v H2) → r vs H1 Q) : EvP (tCB r ta) σ H P := fun H1 e Q q =>
  h H1 e _ fun vs H2 e2 p => hr vs H2 (e.trans e2) p Q fun v H3 e3 p3 => q v H3 (e2.trans e3) p3
theorem evp_op (hm : Mon P) (ha : EvP ta σ H P) (hb : EvP tb σ H P') {P2 : V → Hp → Prop} (hr : ∀ x y H1, Ex H H1 → P x H1 → P' y H1 → ∀ Q : VK, (∀ v H2, Ex H1 H2 → P2 v H2 → Q v H2) → r x y H1 Q) : EvP (tOp r ta tb) σ H P2 := fun H1 e Q q =>
  ha H1 e _ fun x H2 e2 p => hb H2 (e.trans e2) _ fun y H3 e3 p' => hr x y H3 ((e.trans e2).trans e3) (hm x H2 H3 e3 p) p' Q fun v H4 e4 p4 => q v H4 ((e2.trans e3).trans e4) p4
theorem evp_tup {ta : TA} {PA : List V → Hp → Prop} (hm : ∀ vs H H', Ex H H' → PA vs H → PA vs H') (h : EvAP ta σ H PA) (hl : ∀ vs H1, PA vs H1 → vs.length ≤ 100000) : EvP (tTup ta) σ H (fun v H1 => ∃ p vs, v = .ref p ∧ H1 p = some (.tup vs) ∧ PA vs H1) := fun H1 e Q q =>
  h H1 e _ fun vs H2 e2 p => ⟨sz_of (hl vs H2 p), fun a ha => q _ _ (e2.trans (Ex.new ha)) ⟨a, vs, rfl, upd_same, hm vs _ _ (Ex.new ha) p⟩⟩
theorem evp_lst {ta : TA} {PA : List V → Hp → Prop} (hm : ∀ vs H H', Ex H H' → PA vs H → PA vs H') (h : EvAP ta σ H PA) (hl : ∀ vs H1, PA vs H1 → vs.length ≤ 100000) : EvP (tLst ta) σ H (fun v H1 => ∃ p vs, v = .ref p ∧ H1 p = some (.lst vs) ∧ PA vs H1) := fun H1 e Q q =>
  h H1 e _ fun vs H2 e2 p => ⟨sz_of (hl vs H2 p), fun a ha => q _ _ (e2.trans (Ex.new ha)) ⟨a, vs, rfl, upd_same, hm vs _ _ (Ex.new ha) p⟩⟩
theorem evp_if {b : Bool} (h : EvT t σ H b) (h1 : b = true → EvP ta σ H P) (h2 : b = false → EvP tb σ H P) : EvP (tIf t ta tb) σ H P := fun H1 e Q q => h H1 e _ fun H2 e2 => by
  cases b with
  | true =>
    rw [if_pos rfl]
    exact h1 rfl H2 (e.trans e2) Q fun v H3 e3 p => q v H3 (e2.trans e3) p
  | false =>
    rw [if_neg Bool.false_ne_true]
    exact h2 rfl H2 (e.trans e2) Q fun v H3 e3 p => q v H3 (e2.trans e3) p
/-! statements -/
theorem s_asgP {i : Nat} (h : EvP te σ H P) (k : ∀ v H1, Ex H H1 → P v H1 → D.nx (σ.set i (some v)) H1) : tAsg te (gName i) D σ H := h H (Ex.refl H) _ fun v H1 e p => k v H1 e p
theorem q_asgP {i : Nat} (h : EvP te σ H P) (k : ∀ v H1, Ex H H1 → P v H1 → tz D (σ.set i (some v)) H1) : tSeq (tAsg te (gName i)) tz D σ H := s_asgP (D := { D with nx := tz D }) h k
theorem s_retP (h : EvP te σ H P) (k : ∀ v H1, Ex H H1 → P v H1 → D.rt v H1) : tRet te D σ H := h H (Ex.refl H) _ fun v H1 e p => k v H1 e p
/-- an if one of whose ways is not gone -/
theorem q_no {t1 t2 : TS} (h : EvT t σ H false) (k : ∀ H1, Ex H H1 → t2 { D with nx := tz D } σ H1) : tSeq (tIfS t t1 t2) tz D σ H := q_if h (fun e => Bool.noConfusion e) fun _ => k
theorem q_skip {t1 : TS} (h : EvT t σ H false) (k : ∀ H1, Ex H H1 → tz D σ H1) : tSeq (tIfS t t1 tNext) tz D σ H := q_when h (fun e => Bool.noConfusion e) fun _ => k
theorem s_no {t1 t2 : TS} (h : EvT t σ H false) (k : ∀ H1, Ex H H1 → t2 D σ H1) : tIfS t t1 t2 D σ H := s_if h (fun e => Bool.noConfusion e) fun _ => k
theorem s_yes {t1 t2 : TS} (h : EvT t σ H true) (k : ∀ H1, Ex H H1 → t1 D σ H1) : tIfS t t1 t2 D σ H := s_if h (fun _ => k) fun e => Bool.noConfusion e
theorem q_yes {t1 t2 : TS} (h : EvT t σ H true) (k : ∀ H1, Ex H H1 → t1 { D with nx := tz D } σ H1) : tSeq (tIfS t t1 t2) tz D σ H := q_if h (fun _ => k) fun e => Bool.noConfusion e
/-- a truth -/
theorem et_tru {b : Bool} (h : Ev te σ H v) (ht : ∀ H1, Ex H H1 → TruV K v H1 b) : EvT (fun σ H Q => te σ H fun x H' => ∃ k, TruV K x H' k ∧ Q k H') σ H b := fun H1 e Q q =>
  h H1 e _ fun H2 e2 => ⟨b, ht H2 (e.trans e2), q H2 e2⟩
end

/-! unpacking -/
section
variable {K : PySem.W.Frag} {σ : L2.St} {H : Hp} {te : TE} {D : Ends} {tz : TS}
theorem q_unp2 {i j : Nat} {P : V → V → Hp → Prop} (h : EvP te σ H (fun v H1 => ∃ p y z, v = .ref p ∧ H1 p = some (.tup [y, z]) ∧ P y z H1)) (k : ∀ y z H1, Ex H H1 → P y z H1 → tz D ((σ.set i (some y)).set j (some z)) H1) :
    tSeq (tAsg te (gTup K 2 (gCons (gName i) (gCons (gName j) gNil)))) tz D σ H :=
  h H (Ex.refl H) _ fun v H1 e ⟨p, y, z, ev, hp, r⟩ => by
    subst ev
    exact ⟨p, [y, z], rfl, SqT.of hp, rfl, y, [z], rfl, z, [], rfl, rfl, k y z H1 e r⟩
theorem q_unp3 {i j l : Nat} {P : V → V → V → Hp → Prop} (h : EvP te σ H (fun v H1 => ∃ p y z u, v = .ref p ∧ H1 p = some (.tup [y, z, u]) ∧ P y z u H1)) (k : ∀ y z u H1, Ex H H1 → P y z u H1 → tz D (((σ.set i (some y)).set j (some z)).set l (some u)) H1) :
    tSeq (tAsg te (gTup K 3 (gCons (gName i) (gCons (gName j) (gCons (gName l) gNil))))) tz D σ H :=
  h H (Ex.refl H) _ fun v H1 e ⟨p, y, z, u, ev, hp, r⟩ => by
    subst ev
    exact ⟨p, [y, z, u], rfl, SqT.of hp, rfl, y, [z, u], rfl, z, [u], rfl, u, [], rfl, rfl, k y z u H1 e r⟩
end

/-! ### what is walked: the items, fixed -/
def Runs (J : It) (xs : List V) (H : Hp) : Prop := ∀ i H', Ex H H' → (i < xs.length → J.go i H' ∧ ∀ x H2, J.yld i H' x H2 → xs[i]? = some x ∧ H2 = H') ∧ (¬ i < xs.length → J.stop i H')
def EvI (wi : TI) (σ : L2.St) (H : Hp) (xs : List V) : Prop := ∀ H1, Ex H H1 → ∀ R : It → Hp → Prop, (∀ J H2, Ex H1 H2 → Runs J xs H2 → R J H2) → wi σ H1 R
section
variable {K : PySem.W.Frag} {σ : L2.St} {H H' : Hp} {te : TE} {x y z v : V} {xs : List V}
theorem Runs.mono {J : It} (h : Runs J xs H) (e : Ex H H') : Runs J xs H' := fun i H2 e2 => h i H2 (e.trans e2)
theorem runs_l {a : Addr} (h : SqL K H a xs) (hu : ∀ H1, Ex H H1 → ∀ ys, SqL K H1 a ys → ys = xs) : Runs (Itl K a) xs H := fun i H1 e =>
  ⟨fun hi => ⟨⟨xs, xs[i], ex_l e h, List.getElem?_eq_getElem hi⟩, fun x H2 y => ⟨y.2 xs (ex_l e h), y.1⟩⟩, fun hi => ⟨xs, ex_l e h, Nat.le_of_not_lt hi⟩⟩
theorem runs_l' {a : Addr} (h : SqL K H a xs) : Runs (Itl K a) xs H := fun i H1 e =>
  ⟨fun hi => ⟨⟨xs, xs[i], ex_l e h, List.getElem?_eq_getElem hi⟩, fun x H2 y => ⟨y.2 xs (ex_l e h), y.1⟩⟩, fun hi => ⟨xs, ex_l e h, Nat.le_of_not_lt hi⟩⟩
theorem runs_t {a : Addr} (h : SqT K H a xs) : Runs (Itt K a) xs H := fun i H1 e =>
  ⟨fun hi => ⟨⟨xs, xs[i], ex_t e h, List.getElem?_eq_getElem hi⟩, fun x H2 y => ⟨y.2 xs (ex_t e h), y.1⟩⟩, fun hi => ⟨xs, ex_t e h, Nat.le_of_not_lt hi⟩⟩
theorem runs_s {z : Str} : Runs (Its z) (z.cps.toList.map fun c => V.str ⟨#[c]⟩) H := fun i H1 e => by
  have hl : (z.cps.toList.map fun c => V.str ⟨#[c]⟩).length = z.cps.size := by simp
  refine ⟨fun hi => ⟨by rw [hl] at hi; exact hi, fun x H2 y => ?_⟩, fun hi => by rw [hl] at hi; exact Nat.le_of_not_lt hi⟩
  obtain ⟨e1, c, hc, rfl⟩ := y
  refine ⟨?_, e1⟩
  rw [List.getElem?_map, Array.getElem?_toList, hc] <;> rfl
theorem runs_r {lo : Int} {n : Nat} : Runs (Itr lo n) ((List.range n).map fun i => V.int (lo + (i : Nat))) H := fun i H1 e => by
  have hl : ((List.range n).map fun i => V.int (lo + (i : Nat))).length = n := by simp
  refine ⟨fun hi => ⟨by rw [hl] at hi; exact hi, fun x H2 y => ?_⟩, fun hi => by rw [hl] at hi; exact Nat.le_of_not_lt hi⟩
  obtain ⟨e1, rfl⟩ := y
  refine ⟨?_, e1⟩
  rw [hl] at hi
  rw [List.getElem?_map, List.getElem?_range hi] <;> rfl
theorem ei_list {a : Addr} (h : Ev te σ H (.ref a)) (hs : ∀ H1, Ex H H1 → SqL K H1 a xs) : EvI (iList K te) σ H xs := fun H1 e R q => h H1 e _ fun H2 e2 => ⟨a, rfl, ⟨xs, hs H2 (e.trans e2)⟩, q _ H2 e2 (runs_l' (hs H2 (e.trans e2)))⟩
theorem ei_listN (h : EvL te σ H xs) : EvI (iList K te) σ H xs := fun H1 e R q => h H1 e _ fun p H2 _ e2 hp => ⟨p, rfl, ⟨xs, SqL.of hp⟩, q _ H2 e2 (runs_l' (SqL.of hp))⟩
theorem ei_tup {a : Addr} (h : Ev te σ H (.ref a)) (hs : ∀ H1, Ex H H1 → SqT K H1 a xs) : EvI (iTup K te) σ H xs := fun H1 e R q => h H1 e _ fun H2 e2 => ⟨a, rfl, ⟨xs, hs H2 (e.trans e2)⟩, q _ H2 e2 (runs_t (hs H2 (e.trans e2)))⟩
theorem ei_tupP (h : EvP te σ H (fun v H1 => ∃ p, v = .ref p ∧ H1 p = some (.tup xs))) : EvI (iTup K te) σ H xs := fun H1 e R q => h H1 e _ fun v H2 e2 ⟨p, ev, hp⟩ => by
  subst ev
  exact ⟨p, rfl, ⟨xs, SqT.of hp⟩, q _ H2 e2 (runs_t (SqT.of hp))⟩
theorem ei_str {z : Str} (h : Ev te σ H (.str z)) : EvI (iStr te) σ H (z.cps.toList.map fun c => V.str ⟨#[c]⟩) := fun H1 e R q => h H1 e _ fun H2 e2 => ⟨z, rfl, q _ H2 e2 runs_s⟩
theorem ei_r1 {ta : TA} {n : Int} (h : EvA ta σ H [.int n]) (h0 : -1000000 ≤ n) (h1 : n ≤ 1000000) : EvI (iRng1 ta) σ H ((List.range n.toNat).map fun i => V.int ((i : Nat) : Int)) := fun H1 e R q =>
  h H1 e _ fun H2 e2 => ⟨n, rfl, by omega, by omega, q _ H2 e2 (by
    have z := runs_r (lo := 0) (n := n.toNat) (H := H2)
    simp only [Int.zero_add] at z
    exact z)⟩
theorem ei_id {wi : TI} (h : EvI wi σ H xs) : EvI wi σ H (xs.map id) := by rw [List.map_id]; exact h
theorem ei_r2 {ta : TA} {i j : Int} (h : EvA ta σ H [.int i, .int j]) (h0 : -1000000 ≤ i ∧ i ≤ 1000000) (h1 : -1000000 ≤ j ∧ j ≤ 1000000) : EvI (iRng2 ta) σ H ((List.range (j - i).toNat).map fun k => V.int (i + (k : Nat))) := fun H1 e R q =>
  h H1 e _ fun H2 e2 => ⟨i, j, rfl, ⟨by omega, by omega, by omega, by omega⟩, q _ H2 e2 runs_r⟩
theorem ei_r2n {ta : TA} {i j : Int} {n : Nat} (h : EvA ta σ H [.int i, .int j]) (hn : (j - i).toNat = n) (h0 : -1000000 ≤ i ∧ i ≤ 1000000) (h1 : -1000000 ≤ j ∧ j ≤ 1000000) : EvI (iRng2 ta) σ H ((List.range n).map fun k => V.int (i + (k : Nat))) := hn ▸ ei_r2 h h0 h1
theorem ei_r1n {ta : TA} {i : Int} {n : Nat} (h : EvA ta σ H [.int i]) (hn : i.toNat = n) (h0 : -1000000 ≤ i) (h1 : i ≤ 1000000) : EvI (iRng1 ta) σ H ((List.range n).map fun k => V.int ((k : Nat) : Int)) := hn ▸ ei_r1 h h0 h1

/-! ### targets -/
/-- storing x leaves the names at s2 -/
def Bnd (g : TG) (x : V) (σ : L2.St) (H : Hp) (σ2 : L2.St) : Prop := ∀ H1, Ex H H1 → ∀ Q : L2.St → Hp → Prop, Q σ2 H1 → g x σ H1 Q
theorem bnd_name {j : Nat} : Bnd (gName j) x σ H (σ.set j (some x)) := fun _ _ _ q => q
theorem bnd_two {i j : Nat} {a : Addr} {y z : V} (h : ∀ H1, Ex H H1 → SqT K H1 a [y, z]) : Bnd (gTup K 2 (gCons (gName i) (gCons (gName j) gNil))) (.ref a) σ H ((σ.set i (some y)).set j (some z)) := fun H1 e Q q =>
  ⟨a, [y, z], rfl, h H1 e, rfl, y, [z], rfl, z, [], rfl, rfl, q⟩

/-! ### comprehensions -/
theorem paired_app {α β : Type} {F : α → β → Prop} : ∀ {a : List α} {b : List β} {c : List α} {d : List β}, Paired F a b → Paired F c d → Paired F (a ++ c) (b ++ d)
  | _, _, _, _, .nil, h => h
  | _, _, _, _, .cons x r, h => .cons x (paired_app r h)
theorem paired_map {α β : Type} {g : α → β} : ∀ {a : List α} {b : List β}, Paired (fun x y => y = g x) a b → b = a.map g
  | _, _, .nil => rfl
  | _, _, .cons x r => by rw [List.map_cons, x, paired_map r]
/-- one for, its items told (fv of the things l); R: which value a thing gives -/
theorem el_lcR {α : Type} {l : List α} {fv : α → V} {wi : TI} {g : TG} {tt : TT} {te : TE} {vs : List Nat} (f : α → Bool) (R : α → V → Hp → Prop) (hR : ∀ x y H H', ExT H H' → R x y H → R x y H') (hi : EvI wi σ H (l.map fv)) (hz : l.length ≤ 100000)
    (hs : ∀ x ∈ l, ∃ σ2, Bnd g (fv x) (wipe σ vs) H σ2 ∧ wipe σ2 vs = wipe σ vs ∧ EvT tt σ2 H (f x) ∧ (f x = true → EvP te σ2 H (R x))) :
    EvP (tLc wi g tt te vs) σ H (fun v H1 => ∃ p ys, v = .ref p ∧ H1 p = some (.lst ys) ∧ Paired (fun x y => R x y H1) (l.filter f) ys) := fun H0 e0 Q q =>
  hi H0 e0 _ fun J H1 e1 hJ => by
    intro Dl hD
    refine ⟨fun i m H' => m = l.length - i ∧ i ≤ l.length ∧ Ex H1 H' ∧ ∃ ys, H' Dl = some (.lst ys) ∧ ys.length ≤ i ∧ Paired (fun x y => R x y H') ((l.take i).filter f) ys, ⟨l.length, by simp, Nat.zero_le _, Ex.new hD, [], upd_same, Nat.le_refl _, .nil⟩, ?_⟩
    rintro i m H' ⟨rfl, hle, eH, ys, hy, hyl, hp⟩
    by_cases hlt : i < l.length
    · have hlt' : i < (l.map fv).length := by rw [List.length_map]; exact hlt
      refine .inr ⟨((hJ i H' eH).1 hlt').1, fun H'' => i + 1 ≤ l.length ∧ Ex H1 H'' ∧ ∃ ys, H'' Dl = some (.lst ys) ∧ ys.length ≤ i + 1 ∧ Paired (fun x y => R x y H'') ((l.take (i + 1)).filter f) ys, fun H'' hn => ⟨l.length - (i + 1), by omega, rfl, hn⟩, fun x0 H2 y => ?_⟩
      obtain ⟨hx0, rfl⟩ := ((hJ i H' eH).1 hlt').2 x0 H2 y
      obtain ⟨x, hx, rfl⟩ : ∃ x, l[i]? = some x ∧ x0 = fv x := by
        rw [List.getElem?_map] at hx0
        cases e : l[i]? with
        | none =>
          rw [e] at hx0
          cases hx0
        | some x =>
          rw [e] at hx0
          exact ⟨x, rfl, (Option.some.inj hx0).symm⟩
      have hx' : l.take (i + 1) = l.take i ++ [x] := by
        rw [List.take_add_one, hx]
        rfl
      have hmem : x ∈ l := List.mem_of_getElem? hx
      obtain ⟨σ2, hb, hw, ht, hv⟩ := hs x hmem
      have eT : Ex H H2 := (e0.trans e1).trans eH
      have noD : ∀ {H3 : Hp}, Ex H2 H3 → H3 Dl = some (.lst ys) := fun e => e _ _ hy
      refine hb H2 eT _ ⟨hw, ht H2 eT _ fun H3 e3 => ?_⟩
      cases hf : f x with
      | true =>
        rw [if_pos rfl]
        refine hv hf H3 (eT.trans e3) _ fun y H4 e4 r => ⟨ys, noD (e3.trans e4), sz_lt (by omega), by omega, ?_, ys ++ [y], upd_same, by simp; omega, ?_⟩
        · exact Ex.mut ((eH.trans e3).trans e4) hD
        · rw [hx', List.filter_append, List.filter_cons_of_pos hf, List.filter_nil]
          have k1 : ExT H2 (upd H4 Dl (.lst (ys ++ [y]))) := (ext_of (e3.trans e4)).trans (ext_lst (noD (e3.trans e4)))
          exact paired_app (Paired.mapP hp fun a b r => hR a b _ _ k1 r) (.cons (hR _ _ _ _ (ext_lst (noD (e3.trans e4))) r) .nil)
      | false =>
        rw [if_neg Bool.false_ne_true]
        refine ⟨by omega, eH.trans e3, ys, noD e3, by omega, ?_⟩
        rw [hx', List.filter_append, List.filter_cons_of_neg (by rw [hf]; decide), List.filter_nil, List.append_nil]
        exact Paired.mapP hp fun a b r => hR a b _ _ (ext_of e3) r
    · have hi' : i = l.length := by omega
      subst hi'
      refine .inl ⟨(hJ _ H' eH).2 (by rw [List.length_map]; exact hlt), ?_⟩
      rw [List.take_length] at hp
      exact q _ H' (e1.trans eH) ⟨Dl, ys, rfl, hy, hp⟩
/-- .. whose values are known -/
theorem el_lc {α : Type} {l : List α} {fv : α → V} {wi : TI} {g : TG} {tt : TT} {te : TE} {vs : List Nat} (f : α → Bool) (gv : α → V) (hi : EvI wi σ H (l.map fv)) (hz : l.length ≤ 100000)
    (hs : ∀ x ∈ l, ∃ σ2, Bnd g (fv x) (wipe σ vs) H σ2 ∧ wipe σ2 vs = wipe σ vs ∧ EvT tt σ2 H (f x) ∧ (f x = true → Ev te σ2 H (gv x))) :
    EvP (tLc wi g tt te vs) σ H (fun v H1 => ∃ p, v = .ref p ∧ H1 p = some (.lst ((l.filter f).map gv))) :=
  (el_lcR f (fun x y _ => y = gv x) (fun _ _ _ _ _ h => h) hi hz fun x hx => by
    obtain ⟨σ2, h1, h2, h3, h4⟩ := hs x hx
    exact ⟨σ2, h1, h2, h3, fun e => ev_p (h4 e)⟩).imp fun v H1 _ ⟨p, ys, ev, hp, hq⟩ => ⟨p, ev, by rw [← paired_map hq]; exact hp⟩
theorem et_yes : EvT tYes σ H true := fun H1 _ _ q => q H1 (Ex.refl H1)
/-- .. without a test -/
theorem el_lcA {α : Type} {l : List α} {fv : α → V} {wi : TI} {g : TG} {te : TE} {vs : List Nat} (gv : α → V) (hi : EvI wi σ H (l.map fv)) (hz : l.length ≤ 100000)
    (hs : ∀ x ∈ l, ∃ σ2, Bnd g (fv x) (wipe σ vs) H σ2 ∧ wipe σ2 vs = wipe σ vs ∧ Ev te σ2 H (gv x)) :
    EvP (tLc wi g tYes te vs) σ H (fun v H1 => ∃ p, v = .ref p ∧ H1 p = some (.lst (l.map gv))) :=
  (el_lc (fun _ => true) gv hi hz fun x hx => by
    obtain ⟨σ2, h1, h2, h3⟩ := hs x hx
    exact ⟨σ2, h1, h2, et_yes, fun _ => h3⟩).imp fun v H1 _ ⟨p, ev, hp⟩ => ⟨p, ev, by rw [List.filter_eq_self.mpr (fun _ _ => rfl)] at hp; exact hp⟩
/-- all(..), any(..) of one whose values are truths -/
theorem ev_all {ta : TE} (bs : List Bool) (h : EvP ta σ H (fun v H1 => ∃ p, v = .ref p ∧ H1 p = some (.lst (bs.map V.bl)))) : Ev (tCB (rAll K) (tCons ta tNil)) σ H (.bl (bs.all id)) := fun H1 e Q q =>
  h H1 e _ fun v H2 e2 ⟨p, ev, hp⟩ => by
    subst ev
    exact ⟨p, bs, rfl, SqL.of hp, q H2 e2⟩
theorem ev_any {ta : TE} (bs : List Bool) (h : EvP ta σ H (fun v H1 => ∃ p, v = .ref p ∧ H1 p = some (.lst (bs.map V.bl)))) : Ev (tCB (rAny K) (tCons ta tNil)) σ H (.bl (bs.any id)) := fun H1 e Q q =>
  h H1 e _ fun v H2 e2 ⟨p, ev, hp⟩ => by
    subst ev
    exact ⟨p, bs, rfl, SqL.of hp, q H2 e2⟩
theorem ev_allC {α : Type} {l : List α} {fv : α → V} {wi : TI} {g : TG} {te : TE} {vs : List Nat} (b : α → Bool) (hi : EvI wi σ H (l.map fv)) (hz : l.length ≤ 100000)
    (hs : ∀ x ∈ l, ∃ σ2, Bnd g (fv x) (wipe σ vs) H σ2 ∧ wipe σ2 vs = wipe σ vs ∧ Ev te σ2 H (.bl (b x))) : Ev (tCB (rAll K) (tCons (tLc wi g tYes te vs) tNil)) σ H (.bl (l.all b)) := by
  have h := ev_all (K := K) (l.map b) ((el_lcA (fun x => .bl (b x)) hi hz hs).imp fun v H1 _ ⟨p, ev, hp⟩ => ⟨p, ev, by rw [List.map_map]; exact hp⟩)
  rw [List.all_map] at h
  exact h
theorem ev_anyC {α : Type} {l : List α} {fv : α → V} {wi : TI} {g : TG} {te : TE} {vs : List Nat} (b : α → Bool) (hi : EvI wi σ H (l.map fv)) (hz : l.length ≤ 100000)
    (hs : ∀ x ∈ l, ∃ σ2, Bnd g (fv x) (wipe σ vs) H σ2 ∧ wipe σ2 vs = wipe σ vs ∧ Ev te σ2 H (.bl (b x))) : Ev (tCB (rAny K) (tCons (tLc wi g tYes te vs) tNil)) σ H (.bl (l.any b)) := by
  have h := ev_any (K := K) (l.map b) ((el_lcA (fun x => .bl (b x)) hi hz hs).imp fun v H1 _ ⟨p, ev, hp⟩ => ⟨p, ev, by rw [List.map_map]; exact hp⟩)
  rw [List.any_map] at h
  exact h
theorem ev_allCF {α : Type} {l : List α} {fv : α → V} {wi : TI} {g : TG} {tt : TT} {te : TE} {vs : List Nat} (f : α → Bool) (b : α → Bool) (hi : EvI wi σ H (l.map fv)) (hz : l.length ≤ 100000)
    (hs : ∀ x ∈ l, ∃ σ2, Bnd g (fv x) (wipe σ vs) H σ2 ∧ wipe σ2 vs = wipe σ vs ∧ EvT tt σ2 H (f x) ∧ (f x = true → Ev te σ2 H (.bl (b x)))) : Ev (tCB (rAll K) (tCons (tLc wi g tt te vs) tNil)) σ H (.bl ((l.filter f).all b)) := by
  have h := ev_all (K := K) ((l.filter f).map b) ((el_lc f (fun x => .bl (b x)) hi hz hs).imp fun v H1 _ ⟨p, ev, hp⟩ => ⟨p, ev, by rw [List.map_map]; exact hp⟩)
  rw [List.all_map] at h
  exact h
theorem ev_anyCF {α : Type} {l : List α} {fv : α → V} {wi : TI} {g : TG} {tt : TT} {te : TE} {vs : List Nat} (f : α → Bool) (b : α → Bool) (hi : EvI wi σ H (l.map fv)) (hz : l.length ≤ 100000)
    (hs : ∀ x ∈ l, ∃ σ2, Bnd g (fv x) (wipe σ vs) H σ2 ∧ wipe σ2 vs = wipe σ vs ∧ EvT tt σ2 H (f x) ∧ (f x = true → Ev te σ2 H (.bl (b x)))) : Ev (tCB (rAny K) (tCons (tLc wi g tt te vs) tNil)) σ H (.bl ((l.filter f).any b)) := by
  have h := ev_any (K := K) ((l.filter f).map b) ((el_lc f (fun x => .bl (b x)) hi hz hs).imp fun v H1 _ ⟨p, ev, hp⟩ => ⟨p, ev, by rw [List.map_map]; exact hp⟩)
  rw [List.any_map] at h
  exact h
end
end G
/-! The text by places; the defs as data; the facts by names. Printed by gen_head.py. -/
namespace G
open PySem PySem.Spec PyProof.Rows L2
def top (i : Nat) : Stmt := PySem.Challenge.pw_greedycuts_k82_whole_records_by_whomever.main.body.getD i (.Pass ⟨0, 0, 0, 0⟩)
abbrev s_is_between_lists : Stmt := top 12
abbrev s_is_word : Stmt := top 14
abbrev s_is_entry : Stmt := top 15
abbrev s_is_list : Stmt := top 16
abbrev s_check_list : Stmt := top 17
abbrev s_letters_in : Stmt := top 18
abbrev s_is_text_of : Stmt := top 19
abbrev s_is_text : Stmt := top 20
abbrev s_names_in : Stmt := top 21
abbrev s_words_from : Stmt := top 24
abbrev s_longest_from : Stmt := top 25
abbrev s_match_of : Stmt := top 27
abbrev s_check_text : Stmt := top 30
abbrev s_alike_ahead : Stmt := top 32
abbrev s_change_of : Stmt := top 33
abbrev s_is_between_desk : Stmt := top 42
abbrev s_is_new_word : Stmt := top 44
abbrev s_is_edit : Stmt := top 45
abbrev s_is_command : Stmt := top 46
abbrev s_why_not_add : Stmt := top 47
abbrev s_why_not_drop : Stmt := top 48
abbrev s_edited : Stmt := top 49
abbrev s_why_not : Stmt := top 50
abbrev s_behind : Stmt := top 51
abbrev s_is_match : Stmt := top 54
abbrev s_are_right : Stmt := top 55
abbrev s_law_stream : Stmt := top 57
abbrev s_law_next : Stmt := top 58
abbrev s_law_is_integer : Stmt := top 59
abbrev s_law_words : Stmt := top 60
abbrev s_law_text : Stmt := top 61
abbrev s_law_longest : Stmt := top 63
abbrev s_law_behind : Stmt := top 65
abbrev s_law_why : Stmt := top 66
abbrev s_law_command : Stmt := top 67
abbrev s_law_start : Stmt := top 68
abbrev s_law_has_form : Stmt := top 70
abbrev s_law_takes : Stmt := top 71
abbrev s_law_turned : Stmt := top 72
abbrev s_law_bad_command : Stmt := top 73
abbrev s_law : Stmt := top 74
abbrev s_Desk_init : Stmt := inClass (top 52) 0
abbrev s_Desk_do : Stmt := inClass (top 52) 1
abbrev s_Desk_row : Stmt := inClass (top 52) 5
abbrev s_Desk_records : Stmt := inClass (top 52) 10
/-- where a def stands, its row -/
def dd (x y : Str) (st : Stmt) : He.DefD := ⟨(x, none), y, y, defArgs st, defBody st, defScope st, [], []⟩
def dm (m q : Str) (st : Stmt) : He.DefD := ⟨("Desk", some m), m, q, defArgs st, defBody st, defScope st, [], []⟩
def fns0 : List He.DefD := [dd "is_between_lists" "is_between" s_is_between_lists, dd "is_word" "is_word" s_is_word, dd "is_entry" "is_entry" s_is_entry, dd "is_list" "is_list" s_is_list, dd "check_list" "check_list" s_check_list, dd "letters_in" "letters_in" s_letters_in, dd "is_text_of" "is_text_of" s_is_text_of, dd "is_text" "is_text" s_is_text, dd "names_in" "names_in" s_names_in, dd "words_from" "words_from" s_words_from, dd "longest_from" "longest_from" s_longest_from, dd "match_of" "match_of" s_match_of, dd "check_text" "check_text" s_check_text, dd "alike_ahead" "alike_ahead" s_alike_ahead, dd "change_of" "change_of" s_change_of, dd "is_between_desk" "is_between" s_is_between_desk, dd "is_new_word" "is_new_word" s_is_new_word, dd "is_edit" "is_edit" s_is_edit, dd "is_command" "is_command" s_is_command, dd "why_not_add" "why_not_add" s_why_not_add, dd "why_not_drop" "why_not_drop" s_why_not_drop, dd "edited" "edited" s_edited, dd "why_not" "why_not" s_why_not, dd "behind" "behind" s_behind, dd "is_match" "is_match" s_is_match, dd "are_right" "are_right" s_are_right, dd "_law_stream" "_law_stream" s_law_stream, dd "_law_next" "_law_next" s_law_next, dd "_law_is_integer" "_law_is_integer" s_law_is_integer, dd "_law_words" "_law_words" s_law_words]
def fns1 : List He.DefD := [dd "_law_text" "_law_text" s_law_text, dd "_law_longest" "_law_longest" s_law_longest, dd "_law_behind" "_law_behind" s_law_behind, dd "_law_why" "_law_why" s_law_why, dd "_law_command" "_law_command" s_law_command, dd "_law_start" "_law_start" s_law_start, dd "_law_has_form" "_law_has_form" s_law_has_form, dd "_law_takes" "_law_takes" s_law_takes, dd "_law_turned" "_law_turned" s_law_turned, dd "_law_bad_command" "_law_bad_command" s_law_bad_command, dd "law" "law" s_law, dm "__init__" "Desk.__init__" s_Desk_init, dm "do" "Desk.do" s_Desk_do, dm "row" "Desk.row" s_Desk_row, dm "records" "Desk.records" s_Desk_records]
def fns : List He.DefD := fns0 ++ fns1
def fas0 : List He.Fa := [.glo "is_between_lists", .glo "is_word", .glo "is_entry", .glo "is_list", .glo "check_list", .glo "letters_in", .glo "is_text_of", .glo "is_text", .glo "names_in", .glo "words_from", .glo "longest_from", .glo "match_of", .glo "check_text", .glo "alike_ahead", .glo "change_of", .glo "is_between_desk", .glo "is_new_word", .glo "is_edit", .glo "is_command", .glo "why_not_add", .glo "why_not_drop", .glo "edited", .glo "why_not", .glo "behind", .glo "is_match", .glo "are_right", .glo "_law_stream", .glo "_law_next", .glo "_law_is_integer", .glo "_law_words"]
def fas1 : List He.Fa := [.glo "_law_text", .glo "_law_longest", .glo "_law_behind", .glo "_law_why", .glo "_law_command", .glo "_law_start", .glo "_law_has_form", .glo "_law_takes", .glo "_law_turned", .glo "_law_bad_command", .glo "law", .glo "Desk", .glo "LENGTHS", .int "LONGEST" 4, .int "MOST_WORDS_lists" 8, .int "MOST_COST_lists" 9, .int "MOST_LETTERS_lists" 30, .int "MOST_LETTERS_desk" 30, .int "MOST_WORDS_desk" 8, .int "MOST_WORD" 4, .int "MOST_COST_desk" 9, .int "MOST_COMMANDS" 20, .str "ALPHABET" "abcdefghijklmnopqrstuvwxyz", .str "LETTERS" "abcdefghijklmnopqrstuvwxyz", .free "len", .free "isinstance", .free "all", .free "any", .free "tuple", .free "list"]
def fas2 : List He.Fa := [.free "sorted", .free "min", .free "max", .free "abs", .free "int", .free "range", .free "enumerate", .free "str", .free "bool", .cls "Desk", .noat "Desk" "states", .noat "Desk" "commands", .mkr "Desk", .meth "Desk" "do", .meth "Desk" "row", .meth "Desk" "records"]
def fas : List He.Fa := fas0 ++ fas1 ++ fas2
def tabs : List He.Tab := [(fun K => He.ga K "LENGTHS", ["insert", "remove", "replace", "add", "drop"])]
def tvals : List (Str × He.Dv) := [("insert", .int 3), ("remove", .int 3), ("replace", .int 4), ("add", .int 3), ("drop", .int 2)]
abbrev lawAt : Nat := 74
def loose0 : List Str := ["_wall", "CutError", "BadValue", "TooLarge", "NotPossible", "ALPHABET", "LONGEST", "MOST_WORDS_lists", "MOST_COST_lists", "MOST_LETTERS_lists", "is_between", "is_between_lists", "is_word", "is_entry", "is_list", "check_list", "letters_in", "is_text_of", "is_text", "names_in", "cost_in", "words_from", "longest_from", "match_of", "cost_of_row", "check_text", "alike_ahead", "change_of", "MOST_LETTERS_desk", "MOST_WORDS_desk"]
def loose1 : List Str := ["MOST_WORD", "MOST_COST_desk", "MOST_COMMANDS", "LETTERS", "LENGTHS", "is_between_desk", "is_new_word", "is_edit", "is_command", "why_not_add", "why_not_drop", "edited", "why_not", "behind", "Desk", "is_match", "are_right", "_law_stream", "_law_next", "_law_is_integer", "_law_words", "_law_text", "_law_cost", "_law_longest", "_law_changed", "_law_behind", "_law_why", "_law_command", "_law_start", "_law_told"]
def loose2 : List Str := ["_law_has_form", "_law_takes", "_law_turned", "_law_bad_command"]
def loose : List Str := loose0 ++ loose1 ++ loose2
-- where each stands: fns, fas
-- 0 dd "is_between_lists" "is_between" s_is_between_lists; 1 dd "is_word" "is_word" s_is_word; 2 dd "is_entry" "is_entry" s_is_entry; 3 dd "is_list" "is_list" s_is_list; 4 dd "check_list" "check_list" s_check_list; 5 dd "letters_in" "letters_in" s_letters_in; 6 dd "is_text_of" "is_text_of" s_is_text_of; 7 dd "is_text" "is_text" s_is_text; 8 dd "names_in" "names_in" s_names_in; 9 dd "words_from" "words_from" s_words_from; 10 dd "longest_from" "longest_from" s_longest_from; 11 dd "match_of" "match_of" s_match_of; 12 dd "check_text" "check_text" s_check_text; 13 dd "alike_ahead" "alike_ahead" s_alike_ahead; 14 dd "change_of" "change_of" s_change_of; 15 dd "is_between_desk" "is_between" s_is_between_desk; 16 dd "is_new_word" "is_new_word" s_is_new_word; 17 dd "is_edit" "is_edit" s_is_edit; 18 dd "is_command" "is_command" s_is_command; 19 dd "why_not_add" "why_not_add" s_why_not_add; 20 dd "why_not_drop" "why_not_drop" s_why_not_drop; 21 dd "edited" "edited" s_edited; 22 dd "why_not" "why_not" s_why_not; 23 dd "behind" "behind" s_behind; 24 dd "is_match" "is_match" s_is_match; 25 dd "are_right" "are_right" s_are_right; 26 dd "_law_stream" "_law_stream" s_law_stream; 27 dd "_law_next" "_law_next" s_law_next; 28 dd "_law_is_integer" "_law_is_integer" s_law_is_integer; 29 dd "_law_words" "_law_words" s_law_words; 30 dd "_law_text" "_law_text" s_law_text; 31 dd "_law_longest" "_law_longest" s_law_longest; 32 dd "_law_behind" "_law_behind" s_law_behind; 33 dd "_law_why" "_law_why" s_law_why; 34 dd "_law_command" "_law_command" s_law_command; 35 dd "_law_start" "_law_start" s_law_start; 36 dd "_law_has_form" "_law_has_form" s_law_has_form; 37 dd "_law_takes" "_law_takes" s_law_takes; 38 dd "_law_turned" "_law_turned" s_law_turned; 39 dd "_law_bad_command" "_law_bad_command" s_law_bad_command; 40 dd "law" "law" s_law; 41 dm "__init__" "Desk.__init__" s_Desk_init; 42 dm "do" "Desk.do" s_Desk_do; 43 dm "row" "Desk.row" s_Desk_row; 44 dm "records" "Desk.records" s_Desk_records
-- 0 .glo "is_between_lists"; 1 .glo "is_word"; 2 .glo "is_entry"; 3 .glo "is_list"; 4 .glo "check_list"; 5 .glo "letters_in"; 6 .glo "is_text_of"; 7 .glo "is_text"; 8 .glo "names_in"; 9 .glo "words_from"; 10 .glo "longest_from"; 11 .glo "match_of"; 12 .glo "check_text"; 13 .glo "alike_ahead"; 14 .glo "change_of"; 15 .glo "is_between_desk"; 16 .glo "is_new_word"; 17 .glo "is_edit"; 18 .glo "is_command"; 19 .glo "why_not_add"; 20 .glo "why_not_drop"; 21 .glo "edited"; 22 .glo "why_not"; 23 .glo "behind"; 24 .glo "is_match"; 25 .glo "are_right"; 26 .glo "_law_stream"; 27 .glo "_law_next"; 28 .glo "_law_is_integer"; 29 .glo "_law_words"; 30 .glo "_law_text"; 31 .glo "_law_longest"; 32 .glo "_law_behind"; 33 .glo "_law_why"; 34 .glo "_law_command"; 35 .glo "_law_start"; 36 .glo "_law_has_form"; 37 .glo "_law_takes"; 38 .glo "_law_turned"; 39 .glo "_law_bad_command"; 40 .glo "law"; 41 .glo "Desk"; 42 .glo "LENGTHS"; 43 .int "LONGEST" 4; 44 .int "MOST_WORDS_lists" 8; 45 .int "MOST_COST_lists" 9; 46 .int "MOST_LETTERS_lists" 30; 47 .int "MOST_LETTERS_desk" 30; 48 .int "MOST_WORDS_desk" 8; 49 .int "MOST_WORD" 4; 50 .int "MOST_COST_desk" 9; 51 .int "MOST_COMMANDS" 20; 52 .str "ALPHABET" "abcdefghijklmnopqrstuvwxyz"; 53 .str "LETTERS" "abcdefghijklmnopqrstuvwxyz"; 54 .free "len"; 55 .free "isinstance"; 56 .free "all"; 57 .free "any"; 58 .free "tuple"; 59 .free "list"; 60 .free "sorted"; 61 .free "min"; 62 .free "max"; 63 .free "abs"; 64 .free "int"; 65 .free "range"; 66 .free "enumerate"; 67 .free "str"; 68 .free "bool"; 69 .cls "Desk"; 70 .noat "Desk" "states"; 71 .noat "Desk" "commands"; 72 .mkr "Desk"; 73 .meth "Desk" "do"; 74 .meth "Desk" "row"; 75 .meth "Desk" "records"
end G
/-! What the top has written, as the walk asks it. Printed by gen_head.py. -/
namespace G
open PySem PySem.Spec PyProof.Rows L2
def exB (K : PySem.W.Frag) : Bool := He.valsB K (He.ga K "LENGTHS") tvals && He.eqO (PySem.W.nsIn K (He.ga K "LENGTHS") "move") (some none)
abbrev dC (K : PySem.W.Frag) : Addr := He.ga K "Desk"
structure MethIs (K : PySem.W.Frag) (m q : Str) (st : Stmt) : Prop where
  ex : ∃ fd, FunD K m q (defArgs st) (defBody st) (defScope st) [] [] (He.ma K (dC K) m) fd
structure Txt (K : PySem.W.Frag) (mg : Str → Option Value) (w : World) : Prop where
  b_len : mg "len" = none
  b_isinstance : mg "isinstance" = none
  b_all : mg "all" = none
  b_any : mg "any" = none
  b_tuple : mg "tuple" = none
  b_list : mg "list" = none
  b_sorted : mg "sorted" = none
  b_min : mg "min" = none
  b_max : mg "max" = none
  b_abs : mg "abs" = none
  b_int : mg "int" = none
  b_range : mg "range" = none
  b_enumerate : mg "enumerate" = none
  b_str : mg "str" = none
  b_bool : mg "bool" = none
  c_LONGEST : ∃ t, mg "LONGEST" = some (.int 4 t)
  c_MOST_WORDS_lists : ∃ t, mg "MOST_WORDS_lists" = some (.int 8 t)
  c_MOST_COST_lists : ∃ t, mg "MOST_COST_lists" = some (.int 9 t)
  c_MOST_LETTERS_lists : ∃ t, mg "MOST_LETTERS_lists" = some (.int 30 t)
  c_MOST_LETTERS_desk : ∃ t, mg "MOST_LETTERS_desk" = some (.int 30 t)
  c_MOST_WORDS_desk : ∃ t, mg "MOST_WORDS_desk" = some (.int 8 t)
  c_MOST_WORD : ∃ t, mg "MOST_WORD" = some (.int 4 t)
  c_MOST_COST_desk : ∃ t, mg "MOST_COST_desk" = some (.int 9 t)
  c_MOST_COMMANDS : ∃ t, mg "MOST_COMMANDS" = some (.int 20 t)
  c_ALPHABET : ∃ t, mg "ALPHABET" = some (.str "abcdefghijklmnopqrstuvwxyz" t)
  c_LETTERS : ∃ t, mg "LETTERS" = some (.str "abcdefghijklmnopqrstuvwxyz" t)
  d_is_between_lists : DefIs K mg "is_between_lists" "is_between" s_is_between_lists
  d_is_word : DefIs K mg "is_word" "is_word" s_is_word
  d_is_entry : DefIs K mg "is_entry" "is_entry" s_is_entry
  d_is_list : DefIs K mg "is_list" "is_list" s_is_list
  d_check_list : DefIs K mg "check_list" "check_list" s_check_list
  d_letters_in : DefIs K mg "letters_in" "letters_in" s_letters_in
  d_is_text_of : DefIs K mg "is_text_of" "is_text_of" s_is_text_of
  d_is_text : DefIs K mg "is_text" "is_text" s_is_text
  d_names_in : DefIs K mg "names_in" "names_in" s_names_in
  d_words_from : DefIs K mg "words_from" "words_from" s_words_from
  d_longest_from : DefIs K mg "longest_from" "longest_from" s_longest_from
  d_match_of : DefIs K mg "match_of" "match_of" s_match_of
  d_check_text : DefIs K mg "check_text" "check_text" s_check_text
  d_alike_ahead : DefIs K mg "alike_ahead" "alike_ahead" s_alike_ahead
  d_change_of : DefIs K mg "change_of" "change_of" s_change_of
  d_is_between_desk : DefIs K mg "is_between_desk" "is_between" s_is_between_desk
  d_is_new_word : DefIs K mg "is_new_word" "is_new_word" s_is_new_word
  d_is_edit : DefIs K mg "is_edit" "is_edit" s_is_edit
  d_is_command : DefIs K mg "is_command" "is_command" s_is_command
  d_why_not_add : DefIs K mg "why_not_add" "why_not_add" s_why_not_add
  d_why_not_drop : DefIs K mg "why_not_drop" "why_not_drop" s_why_not_drop
  d_edited : DefIs K mg "edited" "edited" s_edited
  d_why_not : DefIs K mg "why_not" "why_not" s_why_not
  d_behind : DefIs K mg "behind" "behind" s_behind
  d_is_match : DefIs K mg "is_match" "is_match" s_is_match
  d_are_right : DefIs K mg "are_right" "are_right" s_are_right
  d_law_stream : DefIs K mg "_law_stream" "_law_stream" s_law_stream
  d_law_next : DefIs K mg "_law_next" "_law_next" s_law_next
  d_law_is_integer : DefIs K mg "_law_is_integer" "_law_is_integer" s_law_is_integer
  d_law_words : DefIs K mg "_law_words" "_law_words" s_law_words
  d_law_text : DefIs K mg "_law_text" "_law_text" s_law_text
  d_law_longest : DefIs K mg "_law_longest" "_law_longest" s_law_longest
  d_law_behind : DefIs K mg "_law_behind" "_law_behind" s_law_behind
  d_law_why : DefIs K mg "_law_why" "_law_why" s_law_why
  d_law_command : DefIs K mg "_law_command" "_law_command" s_law_command
  d_law_start : DefIs K mg "_law_start" "_law_start" s_law_start
  d_law_has_form : DefIs K mg "_law_has_form" "_law_has_form" s_law_has_form
  d_law_takes : DefIs K mg "_law_takes" "_law_takes" s_law_takes
  d_law_turned : DefIs K mg "_law_turned" "_law_turned" s_law_turned
  d_law_bad_command : DefIs K mg "_law_bad_command" "_law_bad_command" s_law_bad_command
  d_law : DefIs K mg "law" "law" s_law
  gL : mg "LENGTHS" = some (.ref (He.ga K "LENGTHS"))
  kL : ∃ es n, KDict K w (He.ga K "LENGTHS") es n
  vL : ∀ q ∈ tvals, ∃ u, PySem.W.nsIn K (He.ga K "LENGTHS") q.1 = some (some u) ∧ RelV (q.2.v K) u
  vM : PySem.W.nsIn K (He.ga K "LENGTHS") "move" = some none
  gDesk : mg "Desk" = some (.ref (dC K))
  cl : Cls K (dC K)
  nStates : NoAttr K (dC K) "states"
  nCommands : NoAttr K (dC K) "commands"
  mkD : Mk K (dC K) (He.ma K (dC K) "__init__")
  m_do : Meth K (dC K) "do" (He.ma K (dC K) "do")
  m_row : Meth K (dC K) "row" (He.ma K (dC K) "row")
  m_records : Meth K (dC K) "records" (He.ma K (dC K) "records")
  md_init : MethIs K "__init__" "Desk.__init__" s_Desk_init
  md_do : MethIs K "do" "Desk.do" s_Desk_do
  md_row : MethIs K "row" "Desk.row" s_Desk_row
  md_records : MethIs K "records" "Desk.records" s_Desk_records
theorem txt_of {K : PySem.W.Frag} {h : Heap} {mg : Str → Option Value} {w : World} (X : K.In h) (G : h.Ns mainGlobals mg) (c : He.SaysX fas fns tabs [] exB w h K) : Txt K mg w := by
  have cd := c.t.d
  have ce := He.ba c.more
  have D : ∀ (i : Nat) (x y : Str) (st : Stmt), fns[i]? = some (dd x y st) → (He.Fa.glo x).ok K = true → DefIs K mg x y st := fun i x y st hi hg => by
    obtain ⟨fd, F⟩ := cd.def_ i hi
    exact ⟨_, fd, F, He.glo_ok X G hg⟩
  have M : ∀ (i : Nat) (m q : Str) (st : Stmt), fns[i]? = some (dm m q st) → MethIs K m q st := fun i m q st hi => by
    obtain ⟨fd, F⟩ := cd.def_ i hi
    exact ⟨fd, F⟩
  exact {
    b_len := He.free_ok X G (cd.fact 54 (f := .free "len") rfl)
    b_isinstance := He.free_ok X G (cd.fact 55 (f := .free "isinstance") rfl)
    b_all := He.free_ok X G (cd.fact 56 (f := .free "all") rfl)
    b_any := He.free_ok X G (cd.fact 57 (f := .free "any") rfl)
    b_tuple := He.free_ok X G (cd.fact 58 (f := .free "tuple") rfl)
    b_list := He.free_ok X G (cd.fact 59 (f := .free "list") rfl)
    b_sorted := He.free_ok X G (cd.fact 60 (f := .free "sorted") rfl)
    b_min := He.free_ok X G (cd.fact 61 (f := .free "min") rfl)
    b_max := He.free_ok X G (cd.fact 62 (f := .free "max") rfl)
    b_abs := He.free_ok X G (cd.fact 63 (f := .free "abs") rfl)
    b_int := He.free_ok X G (cd.fact 64 (f := .free "int") rfl)
    b_range := He.free_ok X G (cd.fact 65 (f := .free "range") rfl)
    b_enumerate := He.free_ok X G (cd.fact 66 (f := .free "enumerate") rfl)
    b_str := He.free_ok X G (cd.fact 67 (f := .free "str") rfl)
    b_bool := He.free_ok X G (cd.fact 68 (f := .free "bool") rfl)
    c_LONGEST := He.int_ok X G (cd.fact 43 (f := .int "LONGEST" 4) rfl)
    c_MOST_WORDS_lists := He.int_ok X G (cd.fact 44 (f := .int "MOST_WORDS_lists" 8) rfl)
    c_MOST_COST_lists := He.int_ok X G (cd.fact 45 (f := .int "MOST_COST_lists" 9) rfl)
    c_MOST_LETTERS_lists := He.int_ok X G (cd.fact 46 (f := .int "MOST_LETTERS_lists" 30) rfl)
    c_MOST_LETTERS_desk := He.int_ok X G (cd.fact 47 (f := .int "MOST_LETTERS_desk" 30) rfl)
    c_MOST_WORDS_desk := He.int_ok X G (cd.fact 48 (f := .int "MOST_WORDS_desk" 8) rfl)
    c_MOST_WORD := He.int_ok X G (cd.fact 49 (f := .int "MOST_WORD" 4) rfl)
    c_MOST_COST_desk := He.int_ok X G (cd.fact 50 (f := .int "MOST_COST_desk" 9) rfl)
    c_MOST_COMMANDS := He.int_ok X G (cd.fact 51 (f := .int "MOST_COMMANDS" 20) rfl)
    c_ALPHABET := He.str_ok X G (cd.fact 52 (f := .str "ALPHABET" "abcdefghijklmnopqrstuvwxyz") rfl)
    c_LETTERS := He.str_ok X G (cd.fact 53 (f := .str "LETTERS" "abcdefghijklmnopqrstuvwxyz") rfl)
    d_is_between_lists := D 0 "is_between_lists" "is_between" s_is_between_lists rfl (cd.fact 0 (f := .glo "is_between_lists") rfl)
    d_is_word := D 1 "is_word" "is_word" s_is_word rfl (cd.fact 1 (f := .glo "is_word") rfl)
    d_is_entry := D 2 "is_entry" "is_entry" s_is_entry rfl (cd.fact 2 (f := .glo "is_entry") rfl)
    d_is_list := D 3 "is_list" "is_list" s_is_list rfl (cd.fact 3 (f := .glo "is_list") rfl)
    d_check_list := D 4 "check_list" "check_list" s_check_list rfl (cd.fact 4 (f := .glo "check_list") rfl)
    d_letters_in := D 5 "letters_in" "letters_in" s_letters_in rfl (cd.fact 5 (f := .glo "letters_in") rfl)
    d_is_text_of := D 6 "is_text_of" "is_text_of" s_is_text_of rfl (cd.fact 6 (f := .glo "is_text_of") rfl)
    d_is_text := D 7 "is_text" "is_text" s_is_text rfl (cd.fact 7 (f := .glo "is_text") rfl)
    d_names_in := D 8 "names_in" "names_in" s_names_in rfl (cd.fact 8 (f := .glo "names_in") rfl)
    d_words_from := D 9 "words_from" "words_from" s_words_from rfl (cd.fact 9 (f := .glo "words_from") rfl)
    d_longest_from := D 10 "longest_from" "longest_from" s_longest_from rfl (cd.fact 10 (f := .glo "longest_from") rfl)
    d_match_of := D 11 "match_of" "match_of" s_match_of rfl (cd.fact 11 (f := .glo "match_of") rfl)
    d_check_text := D 12 "check_text" "check_text" s_check_text rfl (cd.fact 12 (f := .glo "check_text") rfl)
    d_alike_ahead := D 13 "alike_ahead" "alike_ahead" s_alike_ahead rfl (cd.fact 13 (f := .glo "alike_ahead") rfl)
    d_change_of := D 14 "change_of" "change_of" s_change_of rfl (cd.fact 14 (f := .glo "change_of") rfl)
    d_is_between_desk := D 15 "is_between_desk" "is_between" s_is_between_desk rfl (cd.fact 15 (f := .glo "is_between_desk") rfl)
    d_is_new_word := D 16 "is_new_word" "is_new_word" s_is_new_word rfl (cd.fact 16 (f := .glo "is_new_word") rfl)
    d_is_edit := D 17 "is_edit" "is_edit" s_is_edit rfl (cd.fact 17 (f := .glo "is_edit") rfl)
    d_is_command := D 18 "is_command" "is_command" s_is_command rfl (cd.fact 18 (f := .glo "is_command") rfl)
    d_why_not_add := D 19 "why_not_add" "why_not_add" s_why_not_add rfl (cd.fact 19 (f := .glo "why_not_add") rfl)
    d_why_not_drop := D 20 "why_not_drop" "why_not_drop" s_why_not_drop rfl (cd.fact 20 (f := .glo "why_not_drop") rfl)
    d_edited := D 21 "edited" "edited" s_edited rfl (cd.fact 21 (f := .glo "edited") rfl)
    d_why_not := D 22 "why_not" "why_not" s_why_not rfl (cd.fact 22 (f := .glo "why_not") rfl)
    d_behind := D 23 "behind" "behind" s_behind rfl (cd.fact 23 (f := .glo "behind") rfl)
    d_is_match := D 24 "is_match" "is_match" s_is_match rfl (cd.fact 24 (f := .glo "is_match") rfl)
    d_are_right := D 25 "are_right" "are_right" s_are_right rfl (cd.fact 25 (f := .glo "are_right") rfl)
    d_law_stream := D 26 "_law_stream" "_law_stream" s_law_stream rfl (cd.fact 26 (f := .glo "_law_stream") rfl)
    d_law_next := D 27 "_law_next" "_law_next" s_law_next rfl (cd.fact 27 (f := .glo "_law_next") rfl)
    d_law_is_integer := D 28 "_law_is_integer" "_law_is_integer" s_law_is_integer rfl (cd.fact 28 (f := .glo "_law_is_integer") rfl)
    d_law_words := D 29 "_law_words" "_law_words" s_law_words rfl (cd.fact 29 (f := .glo "_law_words") rfl)
    d_law_text := D 30 "_law_text" "_law_text" s_law_text rfl (cd.fact 30 (f := .glo "_law_text") rfl)
    d_law_longest := D 31 "_law_longest" "_law_longest" s_law_longest rfl (cd.fact 31 (f := .glo "_law_longest") rfl)
    d_law_behind := D 32 "_law_behind" "_law_behind" s_law_behind rfl (cd.fact 32 (f := .glo "_law_behind") rfl)
    d_law_why := D 33 "_law_why" "_law_why" s_law_why rfl (cd.fact 33 (f := .glo "_law_why") rfl)
    d_law_command := D 34 "_law_command" "_law_command" s_law_command rfl (cd.fact 34 (f := .glo "_law_command") rfl)
    d_law_start := D 35 "_law_start" "_law_start" s_law_start rfl (cd.fact 35 (f := .glo "_law_start") rfl)
    d_law_has_form := D 36 "_law_has_form" "_law_has_form" s_law_has_form rfl (cd.fact 36 (f := .glo "_law_has_form") rfl)
    d_law_takes := D 37 "_law_takes" "_law_takes" s_law_takes rfl (cd.fact 37 (f := .glo "_law_takes") rfl)
    d_law_turned := D 38 "_law_turned" "_law_turned" s_law_turned rfl (cd.fact 38 (f := .glo "_law_turned") rfl)
    d_law_bad_command := D 39 "_law_bad_command" "_law_bad_command" s_law_bad_command rfl (cd.fact 39 (f := .glo "_law_bad_command") rfl)
    d_law := D 40 "law" "law" s_law rfl (cd.fact 40 (f := .glo "law") rfl)
    gL := He.glo_ok X G (cd.fact 42 (f := .glo "LENGTHS") rfl)
    kL := c.t.tab 0 rfl
    vL := fun q hq => He.valsB_ok ce.1 hq
    vM := He.eqO_ok ce.2
    gDesk := He.glo_ok X G (cd.fact 41 (f := .glo "Desk") rfl)
    cl := He.cls_ok (cd.fact 69 (f := .cls "Desk") rfl)
    nStates := He.noat_ok (cd.fact 70 (f := .noat "Desk" "states") rfl)
    nCommands := He.noat_ok (cd.fact 71 (f := .noat "Desk" "commands") rfl)
    mkD := He.mkr_ok (cd.fact 72 (f := .mkr "Desk") rfl)
    m_do := He.meth_ok (cd.fact 73 (f := .meth "Desk" "do") rfl)
    m_row := He.meth_ok (cd.fact 74 (f := .meth "Desk" "row") rfl)
    m_records := He.meth_ok (cd.fact 75 (f := .meth "Desk" "records") rfl)
    md_init := M 41 "__init__" "Desk.__init__" s_Desk_init rfl
    md_do := M 42 "do" "Desk.do" s_Desk_do rfl
    md_row := M 43 "row" "Desk.row" s_Desk_row rfl
    md_records := M 44 "records" "Desk.records" s_Desk_records rfl
  }
end G
/-! The top's run in the kernel, looked at by names. -/
namespace G
open PySem PySem.Spec PyProof.Rows L2
abbrev R : PySem.W.OpenRow := PySem.W.OpenLaw.row PySem.Challenge.rw_greedycuts_k82_whole_records_by_whomever
abbrev hk : PySem.W.Hook := He.hookX 6 fas fns tabs [] exB
def ob (s : PySem.W.SharedT) : He.AlX := He.obsX 6 fas fns tabs [] exB (HandSHeadRun.getT s)
theorem ob_eq (s : PySem.W.SharedT) : ob s = hk.obs s.abs := He.obsX_eq (HandSHeadRun.getT_eq s)
def RunP (w : World) : Prop := HandSHeadRun.RunEq R (PySem.W.view R.prog [lawAt]) hk ob 4000 loose w
theorem top_run (w : World) : RunP w := PySem.W.byRow2 "special-get-raises" (P := RunP) (fun w os => by kernel_rfl) (fun w os => by kernel_rfl) w
end G
/-! Data made of tuples, texts, ints, bools, None (RD); texts as lists of code points; what common expressions come to. -/
namespace G
open PySem PySem.Spec PyProof.Rows L2 Evl

/-! ### texts -/
abbrev Wd := List Nat
def S (l : Wd) : Str := ⟨l.toArray⟩
theorem S_len (l : Wd) : (S l).length = l.length := by simp [S, Str.length]
theorem S_list (l : Wd) : (S l).cps.toList = l := by simp [S]
theorem S_inj {a b : Wd} (h : S a = S b) : a = b := by
  have := congrArg (fun z : Str => z.cps.toList) h
  simpa [S_list] using this
theorem S_eta (z : Str) : S z.cps.toList = z := by cases z; simp [S]
theorem S_app (a b : Wd) : S a ++ S b = S (a ++ b) := by
  show (⟨a.toArray ++ b.toArray⟩ : Str) = ⟨(a ++ b).toArray⟩
  simp
/-- the value of a text -/
abbrev vS (l : Wd) : V := .str (S l)
theorem vS_inj {a b : Wd} (h : vS a = vS b) : a = b := S_inj (V.str.inj h)
theorem dec_vS (a b : Wd) : decide (vS a = vS b) = decide (a = b) := by
  by_cases h : a = b
  · subst h; simp
  · rw [decide_eq_false h, decide_eq_false fun q => h (vS_inj q)]

/-! ### data -/
mutual
inductive RD (H : Hp) : PyData → V → Prop
  | non : RD H .none .non
  | bl (b : Bool) : RD H (.bool b) (.bl b)
  | int (i : Int) : RD H (.int i) (.int i)
  | str (z : Str) : RD H (.str z) (.str z)
  | tup {a : Addr} {xs : List V} {ds : List PyData} : H a = some (.tup xs) → RDs H ds xs → RD H (.tuple ds) (.ref a)
inductive RDs (H : Hp) : List PyData → List V → Prop
  | nil : RDs H [] []
  | cons {v : V} {vs : List V} {d : PyData} {ds : List PyData} : RD H d v → RDs H ds vs → RDs H (d :: ds) (v :: vs)
end
mutual
theorem RD.mono {H H' : Hp} (e : ExT H H') : ∀ {d : PyData} {v : V}, RD H d v → RD H' d v
  | _, _, .non => .non
  | _, _, .bl b => .bl b
  | _, _, .int i => .int i
  | _, _, .str z => .str z
  | _, _, .tup h hs => .tup (e _ _ h) (RDs.mono e hs)
theorem RDs.mono {H H' : Hp} (e : ExT H H') : ∀ {ds : List PyData} {vs : List V}, RDs H ds vs → RDs H' ds vs
  | _, _, .nil => .nil
  | _, _, .cons h hs => .cons (RD.mono e h) (RDs.mono e hs)
end
theorem RD.ex {H H' : Hp} (e : Ex H H') {d : PyData} {v : V} (h : RD H d v) : RD H' d v := h.mono (ext_of e)
theorem RDs.ex {H H' : Hp} (e : Ex H H') {ds : List PyData} {vs : List V} (h : RDs H ds vs) : RDs H' ds vs := h.mono (ext_of e)
theorem RDs.length {H : Hp} : ∀ {ds : List PyData} {vs : List V}, RDs H ds vs → vs.length = ds.length
  | _, _, .nil => rfl
  | _, _, .cons _ r => by rw [List.length_cons, List.length_cons, RDs.length r]
theorem RDs.get {H : Hp} : ∀ {ds : List PyData} {vs : List V} {i : Nat} {d : PyData}, RDs H ds vs → ds[i]? = some d → ∃ v, vs[i]? = some v ∧ RD H d v
  | [], _, i, d, .nil, h => by simp at h
  | _ :: _, _, 0, d, .cons x r, h => ⟨_, rfl, by simp at h; subst h; exact x⟩
  | _ :: _, _, i + 1, d, .cons x r, h => by
    have h' := h
    simp at h'
    obtain ⟨v, h1, h2⟩ := RDs.get r h'
    exact ⟨v, by simpa using h1, h2⟩
theorem RDs.app {H : Hp} : ∀ {ds es : List PyData} {vs us : List V}, RDs H ds vs → RDs H es us → RDs H (ds ++ es) (vs ++ us)
  | _, _, _, _, .nil, h => h
  | _, _, _, _, .cons x r, h => .cons x (RDs.app r h)
theorem RDs.take {H : Hp} : ∀ {ds : List PyData} {vs : List V} (n : Nat), RDs H ds vs → RDs H (ds.take n) (vs.take n)
  | _, _, 0, _ => by simp; exact .nil
  | _, _, _ + 1, .nil => .nil
  | _, _, n + 1, .cons x r => .cons x (RDs.take n r)
theorem RDs.drop {H : Hp} : ∀ {ds : List PyData} {vs : List V} (n : Nat), RDs H ds vs → RDs H (ds.drop n) (vs.drop n)
  | _, _, 0, h => h
  | _, _, _ + 1, .nil => .nil
  | _, _, n + 1, .cons _ r => RDs.drop n r
mutual
theorem RD.dp {K : PySem.W.Frag} {H : Hp} : ∀ {d : PyData} {v : V}, RD H d v → Dp K H v d
  | _, _, .non => .non
  | _, _, .bl b => .bl b
  | _, _, .int i => .int i
  | _, _, .str z => .str z
  | _, _, .tup h hs => .tup (SqT.of h) (RDs.dp hs)
theorem RDs.dp {K : PySem.W.Frag} {H : Hp} : ∀ {ds : List PyData} {vs : List V}, RDs H ds vs → DpAll K H vs ds
  | _, _, .nil => .nil
  | _, _, .cons h hs => .cons (RD.dp h) (RDs.dp hs)
end
theorem RD.tup_inv {H : Hp} {ds : List PyData} {v : V} (h : RD H (.tuple ds) v) : ∃ a xs, v = .ref a ∧ H a = some (.tup xs) ∧ RDs H ds xs := by
  cases h with
  | tup h1 h2 => exact ⟨_, _, rfl, h1, h2⟩
theorem RD.int_inv {H : Hp} {i : Int} {v : V} (h : RD H (.int i) v) : v = .int i := by cases h; rfl
theorem RD.str_inv {H : Hp} {z : Str} {v : V} (h : RD H (.str z) v) : v = .str z := by cases h; rfl
theorem RD.non_inv {H : Hp} {v : V} (h : RD H .none v) : v = .non := by cases h; rfl
theorem RD.bool_inv {H : Hp} {b : Bool} {v : V} (h : RD H (.bool b) v) : v = .bl b := by cases h; rfl
theorem RDs.nil_inv {H : Hp} {vs : List V} (h : RDs H [] vs) : vs = [] := by cases h; rfl
theorem RDs.cons_inv {H : Hp} {d : PyData} {ds : List PyData} {vs : List V} (h : RDs H (d :: ds) vs) : ∃ x xs, vs = x :: xs ∧ RD H d x ∧ RDs H ds xs := by
  cases h with
  | cons a b => exact ⟨_, _, rfl, a, b⟩
theorem RD.fun_ {H : Hp} {d e : PyData} {v : V} : RD H d v → RD H e v → d = e := by
  intro h1 h2
  have key : ∀ (n : Nat), (∀ d e v, sizeOf d ≤ n → RD H d v → RD H e v → d = e) := by
    intro n
    induction n with
    | zero =>
      intro d e v hn
      cases d <;> simp at hn <;> omega
    | succ n ih =>
      intro d e v hn h1 h2
      cases h1 with
      | non => cases h2; rfl
      | bl b => cases h2; rfl
      | int i => cases h2; rfl
      | str z => cases h2; rfl
      | tup ha hs =>
        rename_i a xs ds
        cases h2 with
        | tup hb ht =>
          rename_i ys es
          rw [ha] at hb
          cases hb
          have all : ∀ (ds es : List PyData) (xs : List V), (∀ d ∈ ds, sizeOf d ≤ n) → RDs H ds xs → RDs H es xs → ds = es := by
            intro ds
            induction ds with
            | nil =>
              intro es xs _ h1 h2
              cases h1
              cases h2
              rfl
            | cons d ds ihd =>
              intro es xs hd h1 h2
              cases h1 with
              | cons a1 a2 =>
                cases h2 with
                | cons b1 b2 =>
                  rw [ih _ _ _ (hd _ (List.mem_cons_self ..)) a1 b1, ihd _ _ (fun q hq => hd q (List.mem_cons_of_mem _ hq)) a2 b2]
          rw [all ds es xs (fun q hq => by
            have := List.sizeOf_lt_of_mem hq
            simp at hn
            omega) hs ht]
  exact key (sizeOf d) d e v (Nat.le_refl _) h1 h2

/-! ### data that may hold lists: of texts, or any (told as an empty dict) -/
mutual
inductive RL (H : Hp) : PyData → V → Prop
  | non : RL H .none .non
  | bl (b : Bool) : RL H (.bool b) (.bl b)
  | int (i : Int) : RL H (.int i) (.int i)
  | str (z : Str) : RL H (.str z) (.str z)
  | tup {a : Addr} {xs : List V} {ds : List PyData} : H a = some (.tup xs) → RLs H ds xs → RL H (.tuple ds) (.ref a)
  | lst {a : Addr} {l : List Wd} : H a = some (.lst (l.map vS)) → RL H (.list (l.map fun u => .str (S u))) (.ref a)
  | obj {a : Addr} {xs : List V} : H a = some (.lst xs) → RL H (.dict []) (.ref a)
inductive RLs (H : Hp) : List PyData → List V → Prop
  | nil : RLs H [] []
  | cons {v : V} {vs : List V} {d : PyData} {ds : List PyData} : RL H d v → RLs H ds vs → RLs H (d :: ds) (v :: vs)
end
mutual
theorem RL.ex {H H' : Hp} (e : Ex H H') : ∀ {d : PyData} {v : V}, RL H d v → RL H' d v
  | _, _, .non => .non
  | _, _, .bl b => .bl b
  | _, _, .int i => .int i
  | _, _, .str z => .str z
  | _, _, .tup h hs => .tup (e _ _ h) (RLs.ex e hs)
  | _, _, .lst h => .lst (e _ _ h)
  | _, _, .obj h => .obj (e _ _ h)
theorem RLs.ex {H H' : Hp} (e : Ex H H') : ∀ {ds : List PyData} {vs : List V}, RLs H ds vs → RLs H' ds vs
  | _, _, .nil => .nil
  | _, _, .cons h hs => .cons (RL.ex e h) (RLs.ex e hs)
end
mutual
theorem RD.rl {H : Hp} : ∀ {d : PyData} {v : V}, RD H d v → RL H d v
  | _, _, .non => .non
  | _, _, .bl b => .bl b
  | _, _, .int i => .int i
  | _, _, .str z => .str z
  | _, _, .tup h hs => .tup h (RDs.rl hs)
theorem RDs.rl {H : Hp} : ∀ {ds : List PyData} {vs : List V}, RDs H ds vs → RLs H ds vs
  | _, _, .nil => .nil
  | _, _, .cons h hs => .cons (RD.rl h) (RDs.rl hs)
end
theorem RL.tup_inv {H : Hp} {ds : List PyData} {v : V} (h : RL H (.tuple ds) v) : ∃ a xs, v = .ref a ∧ H a = some (.tup xs) ∧ RLs H ds xs := by
  cases h with
  | tup h1 h2 => exact ⟨_, _, rfl, h1, h2⟩
theorem RL.int_inv {H : Hp} {i : Int} {v : V} (h : RL H (.int i) v) : v = .int i := by cases h; rfl
theorem RL.str_inv {H : Hp} {z : Str} {v : V} (h : RL H (.str z) v) : v = .str z := by cases h; rfl
theorem RLs.nil_inv {H : Hp} {vs : List V} (h : RLs H [] vs) : vs = [] := by cases h; rfl
theorem RLs.cons_inv {H : Hp} {d : PyData} {ds : List PyData} {vs : List V} (h : RLs H (d :: ds) vs) : ∃ x xs, vs = x :: xs ∧ RL H d x ∧ RLs H ds xs := by
  cases h with
  | cons a b => exact ⟨_, _, rfl, a, b⟩
theorem RLs.length {H : Hp} : ∀ {ds : List PyData} {vs : List V}, RLs H ds vs → vs.length = ds.length
  | _, _, .nil => rfl
  | _, _, .cons _ r => by rw [List.length_cons, List.length_cons, RLs.length r]

/-! ### kinds -/
def dInt : PyData → Bool | .int _ => true | .bool _ => true | _ => false
def dBool : PyData → Bool | .bool _ => true | _ => false
def dStr : PyData → Bool | .str _ => true | _ => false
def dTup : PyData → Bool | .tuple _ => true | _ => false
section
variable {K : PySem.W.Frag} {σ : L2.St} {H H' : Hp} {ta tb te : TE} {x y z v : V} {d : PyData}
theorem ev_isi {n m : String} {b : Bool} (ha : Ev ta σ H x) (ht : ∀ H1, Ex H H1 → TyOf K H1 x (.type m)) (hk : kitB m n = some b) : Ev (tCB (rIsi K) (tCons ta (tCons (tC (.ty n)) tNil))) σ H (.bl b) := fun H1 e Q q =>
  ha H1 e _ fun H2 e2 => ⟨x, .ty n, _, _, b, rfl, .ty n, .base (ht H2 (e.trans e2)), kit_ty hk, q H2 e2⟩
theorem isi_int (ha : Ev ta σ H x) (h : RL H d x) : Ev (tCB (rIsi K) (tCons ta (tCons (tC (.ty "int")) tNil))) σ H (.bl (dInt d)) := by
  cases h with
  | non => exact ev_isi (b := false) ha (fun _ _ => .non) (by decide +kernel)
  | bl b => exact ev_isi (b := true) ha (fun _ _ => .bl b) (by decide +kernel)
  | int i => exact ev_isi (b := true) ha (fun _ _ => .int i) (by decide +kernel)
  | str i => exact ev_isi (b := false) ha (fun _ _ => .str i) (by decide +kernel)
  | tup h _ => exact ev_isi (b := false) ha (fun _ e => .tup (e _ _ h)) (by decide +kernel)
  | lst h => exact ev_isi (b := false) ha (fun _ e => .lst (e _ _ h)) (by decide +kernel)
  | obj h => exact ev_isi (b := false) ha (fun _ e => .lst (e _ _ h)) (by decide +kernel)
theorem isi_bool (ha : Ev ta σ H x) (h : RL H d x) : Ev (tCB (rIsi K) (tCons ta (tCons (tC (.ty "bool")) tNil))) σ H (.bl (dBool d)) := by
  cases h with
  | non => exact ev_isi (b := false) ha (fun _ _ => .non) (by decide +kernel)
  | bl b => exact ev_isi (b := true) ha (fun _ _ => .bl b) (by decide +kernel)
  | int i => exact ev_isi (b := false) ha (fun _ _ => .int i) (by decide +kernel)
  | str i => exact ev_isi (b := false) ha (fun _ _ => .str i) (by decide +kernel)
  | tup h _ => exact ev_isi (b := false) ha (fun _ e => .tup (e _ _ h)) (by decide +kernel)
  | lst h => exact ev_isi (b := false) ha (fun _ e => .lst (e _ _ h)) (by decide +kernel)
  | obj h => exact ev_isi (b := false) ha (fun _ e => .lst (e _ _ h)) (by decide +kernel)
theorem isi_str (ha : Ev ta σ H x) (h : RL H d x) : Ev (tCB (rIsi K) (tCons ta (tCons (tC (.ty "str")) tNil))) σ H (.bl (dStr d)) := by
  cases h with
  | non => exact ev_isi (b := false) ha (fun _ _ => .non) (by decide +kernel)
  | bl b => exact ev_isi (b := false) ha (fun _ _ => .bl b) (by decide +kernel)
  | int i => exact ev_isi (b := false) ha (fun _ _ => .int i) (by decide +kernel)
  | str i => exact ev_isi (b := true) ha (fun _ _ => .str i) (by decide +kernel)
  | tup h _ => exact ev_isi (b := false) ha (fun _ e => .tup (e _ _ h)) (by decide +kernel)
  | lst h => exact ev_isi (b := false) ha (fun _ e => .lst (e _ _ h)) (by decide +kernel)
  | obj h => exact ev_isi (b := false) ha (fun _ e => .lst (e _ _ h)) (by decide +kernel)
theorem isi_tup (ha : Ev ta σ H x) (h : RL H d x) : Ev (tCB (rIsi K) (tCons ta (tCons (tC (.ty "tuple")) tNil))) σ H (.bl (dTup d)) := by
  cases h with
  | non => exact ev_isi (b := false) ha (fun _ _ => .non) (by decide +kernel)
  | bl b => exact ev_isi (b := false) ha (fun _ _ => .bl b) (by decide +kernel)
  | int i => exact ev_isi (b := false) ha (fun _ _ => .int i) (by decide +kernel)
  | str i => exact ev_isi (b := false) ha (fun _ _ => .str i) (by decide +kernel)
  | tup h _ => exact ev_isi (b := true) ha (fun _ e => .tup (e _ _ h)) (by decide +kernel)
  | lst h => exact ev_isi (b := false) ha (fun _ e => .lst (e _ _ h)) (by decide +kernel)
  | obj h => exact ev_isi (b := false) ha (fun _ e => .lst (e _ _ h)) (by decide +kernel)
/-- of a list that stands -/
theorem isi_lst {a : Addr} {xs : List V} {n : String} {b : Bool} (ha : Ev ta σ H (.ref a)) (h : H a = some (.lst xs)) (hk : kitB "list" n = some b) : Ev (tCB (rIsi K) (tCons ta (tCons (tC (.ty n)) tNil))) σ H (.bl b) :=
  ev_isi ha (fun _ e => .lst (e _ _ h)) hk

/-! ### numbers, places, lengths -/
theorem ev_chain {r r' : R2} {tc : TE} {w : V} {a b : Bool} (ha : Ev ta σ H x) (hb : Ev tb σ H y) (h1 : RV r x y H (.bl a)) (hc : Ev tc σ H w) (h2 : RV r' y w H (.bl b)) : Ev (tChain r r' ta tb tc) σ H (.bl (a && b)) := fun H1 e Q q =>
  ha H1 e _ fun H2 e2 => hb H2 (e.trans e2) _ fun H3 e3 => h1 H3 ((e.trans e2).trans e3) _ fun H4 e4 => ⟨a, rfl, by
    cases a with
    | true =>
      rw [if_pos rfl]
      refine hc H4 (((e.trans e2).trans e3).trans e4) _ fun H5 e5 => h2 H5 ((((e.trans e2).trans e3).trans e4).trans e5) Q fun H6 e6 => ?_
      exact q H6 ((((e2.trans e3).trans e4).trans e5).trans e6)
    | false =>
      rw [if_neg Bool.false_ne_true]
      exact q H4 ((e2.trans e3).trans e4)⟩
theorem rv_le {i j : Int} : RV (rI0 fun i j => .bl (decide (i ≤ j))) (.int i) (.int j) H (.bl (decide (i ≤ j))) := rv_I0
theorem ev_lenS {z : Str} (ha : Ev ta σ H (.str z)) (hz : z.length ≤ 100000) : Ev (tCB (fun xs H Q => ∃ z, xs = [.str z] ∧ z.length ≤ sizeLine ∧ Q (.int z.length) H) (tCons ta tNil)) σ H (.int z.length) := fun H1 e Q q =>
  ha H1 e _ fun H2 e2 => ⟨z, rfl, sz_of hz, q H2 e2⟩
theorem ev_lenT {a : Addr} {xs : List V} (ha : Ev ta σ H (.ref a)) (h : H a = some (.tup xs)) : Ev (tCB (rLenS K) (tCons ta tNil)) σ H (.int xs.length) := fun H1 e Q q =>
  ha H1 e _ fun H2 e2 => ⟨a, xs, rfl, .inr (SqT.of (e2 _ _ (e _ _ h))), q H2 e2⟩
theorem ev_lenL {a : Addr} {xs : List V} (ha : Ev ta σ H (.ref a)) (h : H a = some (.lst xs)) : Ev (tCB (rLenS K) (tCons ta tNil)) σ H (.int xs.length) := fun H1 e Q q =>
  ha H1 e _ fun H2 e2 => ⟨a, xs, rfl, .inl (SqL.of (e2 _ _ (e _ _ h))), q H2 e2⟩
theorem atI_n {α : Type} {xs : List α} {i : Nat} {v : α} (h : xs[i]? = some v) : atI xs (i : Int) = some v := by
  have hi : i < xs.length := (List.getElem?_eq_some_iff.mp h).1
  unfold atI
  rw [ixN_nat hi]
  exact h
theorem ev_ixT {a : Addr} {xs : List V} {i : Nat} (ha : Ev ta σ H (.ref a)) (h : H a = some (.tup xs)) (hi : Ev tb σ H (.int (i : Int))) (hv : xs[i]? = some v) : Ev (tOp (rIxT K) ta tb) σ H v :=
  ev_op ha hi (rv_ixT (SqT.of h) (atI_n hv))
theorem ev_ixL {a : Addr} {xs : List V} {i : Nat} (ha : Ev ta σ H (.ref a)) (h : H a = some (.lst xs)) (hi : Ev tb σ H (.int (i : Int))) (hv : xs[i]? = some v) : Ev (tOp (rIxL K) ta tb) σ H v :=
  ev_op ha hi (rv_ixL (SqL.of h) (atI_n hv))
theorem ev_cmp {r : R2} {w : V} (ha : Ev ta σ H x) (hb : Ev tb σ H y) (hr : RV r x y H w) : Ev (tOp r ta tb) σ H w := ev_op ha hb hr
theorem rv_S {g : Str → Str → V} {i j : Str} : RV (fun x y H Q => ∃ i j, x = .str i ∧ y = .str j ∧ Q (g i j) H) (.str i) (.str j) H (g i j) := fun H1 _ _ q => ⟨i, j, rfl, rfl, q H1 (Ex.refl H1)⟩
/-- one sign in a text -/
theorem rv_in {c : Nat} {l : Wd} : RV (fun x y H Q => ∃ (c : Nat) (z : Str), x = .str ⟨#[c]⟩ ∧ y = .str z ∧ Q (.bl (decide (c ∈ z.cps.toList))) H) (.str ⟨#[c]⟩) (vS l) H (.bl (decide (c ∈ l))) := fun H1 _ _ q => ⟨c, S l, rfl, rfl, by rw [S_list]; exact q H1 (Ex.refl H1)⟩
end

/-! ### word lists -/
abbrev Ent := Wd × Int
abbrev WL := List Ent
def names (ws : WL) : List Wd := ws.map (·.1)
def entD (e : Ent) : PyData := .tuple [.str (S e.1), .int e.2]
def wlD (ws : WL) : PyData := .tuple (ws.map entD)
/-- the pair that stands at a value -/
def keyE (H : Hp) : V → Ent
  | .ref t => (match H t with
    | some (.tup [.str z, .int c]) => (z.cps.toList, c)
    | _ => ([], 0))
  | _ => ([], 0)
def IsE (H : Hp) (x : V) : Prop := ∃ t, x = .ref t ∧ H t = some (.tup [vS (keyE H x).1, .int (keyE H x).2])
theorem keyE_at {H : Hp} {t : Addr} {l : Wd} {c : Int} (h : H t = some (.tup [vS l, .int c])) : keyE H (.ref t) = (l, c) := by
  show (match H t with
    | some (.tup [.str z, .int c]) => (z.cps.toList, c)
    | _ => ([], 0)) = (l, c)
  rw [h]
  show ((S l).cps.toList, c) = (l, c)
  rw [S_list]
theorem ent_inv {H : Hp} {e : Ent} {x : V} (h : RD H (entD e) x) : ∃ t, x = .ref t ∧ H t = some (.tup [vS e.1, .int e.2]) := by
  obtain ⟨a, xs, rfl, ha, hs⟩ := h.tup_inv
  obtain ⟨x1, r1, rfl, h1, hs⟩ := hs.cons_inv
  obtain ⟨x2, r2, rfl, h2, hs⟩ := hs.cons_inv
  cases hs.nil_inv
  rw [h1.str_inv, h2.int_inv] at ha
  exact ⟨a, rfl, ha⟩
theorem ent_mk {H : Hp} {e : Ent} {t : Addr} (h : H t = some (.tup [vS e.1, .int e.2])) : RD H (entD e) (.ref t) := .tup h (.cons (.str _) (.cons (.int _) .nil))
theorem ent_key {H : Hp} {e : Ent} {x : V} (h : RD H (entD e) x) : IsE H x ∧ keyE H x = e := by
  obtain ⟨t, rfl, ht⟩ := ent_inv h
  have hk : keyE H (.ref t) = (e.1, e.2) := keyE_at ht
  exact ⟨⟨t, rfl, by rw [hk]; exact ht⟩, hk⟩
theorem wls_inv {H : Hp} : ∀ {ws : WL} {xs : List V}, RDs H (ws.map entD) xs → xs.map (keyE H) = ws ∧ ∀ x ∈ xs, IsE H x
  | [], _, h => by
    cases h
    exact ⟨rfl, fun _ hx => by simp at hx⟩
  | e :: ws, _, h => by
    obtain ⟨x, xs, rfl, h1, h2⟩ := RDs.cons_inv h
    obtain ⟨k1, k2⟩ := wls_inv h2
    obtain ⟨i1, i2⟩ := ent_key h1
    refine ⟨by rw [List.map_cons, k1, i2], fun y hy => ?_⟩
    rcases List.mem_cons.mp hy with rfl | hy
    · exact i1
    · exact k2 y hy
theorem wls_mk {H : Hp} : ∀ {xs : List V}, (∀ x ∈ xs, IsE H x) → RDs H ((xs.map (keyE H)).map entD) xs
  | [], _ => .nil
  | x :: xs, h => by
    obtain ⟨t, rfl, ht⟩ := h x (List.mem_cons_self ..)
    exact .cons (ent_mk ht) (wls_mk fun y hy => h y (List.mem_cons_of_mem _ hy))
theorem wl_inv {H : Hp} {ws : WL} {v : V} (h : RD H (wlD ws) v) : ∃ a xs, v = .ref a ∧ H a = some (.tup xs) ∧ xs.map (keyE H) = ws ∧ ∀ x ∈ xs, IsE H x := by
  obtain ⟨a, xs, rfl, ha, hs⟩ := h.tup_inv
  obtain ⟨h1, h2⟩ := wls_inv hs
  exact ⟨a, xs, rfl, ha, h1, h2⟩
theorem wl_mk {H : Hp} {a : Addr} {xs : List V} (ha : H a = some (.tup xs)) (h : ∀ x ∈ xs, IsE H x) : RD H (wlD (xs.map (keyE H))) (.ref a) := .tup ha (wls_mk h)
theorem IsE.ext {H H' : Hp} {x : V} (e : ExT H H') (h : IsE H x) : IsE H' x ∧ keyE H' x = keyE H x := by
  obtain ⟨t, rfl, ht⟩ := h
  have h' := e _ _ ht
  have hk : keyE H' (.ref t) = ((keyE H (.ref t)).1, (keyE H (.ref t)).2) := keyE_at h'
  exact ⟨⟨t, rfl, by rw [hk]; exact h'⟩, hk⟩

theorem ei_strL {σ : L2.St} {H : Hp} {te : TE} {l : Wd} (h : Ev te σ H (vS l)) : EvI (iStr te) σ H (l.map fun c => V.str ⟨#[c]⟩) := by
  have z := ei_str h
  rw [S_list] at z
  exact z

/-! ### lists of texts -/
theorem eqV_S (a b : Wd) : eqV (vS a) (vS b) = decide (a = b) := by
  show ((S a) == (S b)) = decide (a = b)
  by_cases h : a = b
  · subst h; simp
  · rw [decide_eq_false h]
    simp only [beq_eq_false_iff_ne, ne_eq]
    exact fun q => h (S_inj q)
theorem inV_S (a : Wd) (l : List Wd) : inV (vS a) (l.map vS) = decide (a ∈ l) := by
  unfold inV
  induction l with
  | nil => simp
  | cons b l ih =>
    rw [List.map_cons, List.any_cons, ih, eqV_S]
    by_cases h : b = a
    · subst h; simp
    · have h' : ¬ a = b := fun q => h q.symm
      simp [h, h']
theorem join_S (l : List Wd) : Txt.join (S []) (l.map S) = S l.flatten := by
  have key : ∀ (r : List Wd) (acc : Wd), (r.map S).foldl (fun acc p => acc ++ (S []).cps ++ p.cps) acc.toArray = (acc ++ r.flatten).toArray := by
    intro r
    induction r with
    | nil => intro acc; simp
    | cons a r ih =>
      intro acc
      rw [List.map_cons, List.foldl_cons]
      have e : acc.toArray ++ (S []).cps ++ (S a).cps = (acc ++ a).toArray := by simp [S]
      rw [e, ih]
      simp
  cases l with
  | nil => rfl
  | cons a r =>
    show (⟨(r.map S).foldl (fun acc p => acc ++ (S []).cps ++ p.cps) (S a).cps⟩ : Str) = S (a :: r).flatten
    rw [show (S a).cps = a.toArray from rfl, key]
    rfl
theorem empty_S : ("" : Str) = S [] := by decide +kernel
abbrev rJoinL (K : PySem.W.Frag) : V → List V → Hp → VK → Prop := fun x xs H Q => ∃ a p, ∃ ys : List Str, x = .str a ∧ xs = [.ref p] ∧ (SqL K H p (ys.map V.str) ∨ SqT K H p (ys.map V.str)) ∧ (ys.map (·.length)).sum + ys.length * a.length ≤ 16777216 ∧ Q (.str (Txt.join a ys)) H
theorem sum_len {l : List Wd} {b : Nat} (h : ∀ u ∈ l, u.length ≤ b) : ((l.map S).map (·.length)).sum ≤ l.length * b := by
  induction l with
  | nil => simp
  | cons a l ih =>
    have h1 := h a (List.mem_cons_self ..)
    have h2 := ih fun u hu => h u (List.mem_cons_of_mem _ hu)
    rw [List.map_cons, List.map_cons, List.sum_cons, S_len, List.length_cons, Nat.add_mul]
    omega
/-- "".join(l), l a list of texts -/
theorem ev_join {K : PySem.W.Frag} {σ : L2.St} {H : Hp} {te : TE} {l : List Wd} (h : EvP te σ H (fun v H1 => ∃ p, v = .ref p ∧ H1 p = some (.lst (l.map vS)))) (hz : l.length ≤ 1000) (hb : ∀ u ∈ l, u.length ≤ 1000) : Ev (tM1 (rJoinL K) (tC (.str "")) te) σ H (vS l.flatten) := fun H1 e Q q =>
  ⟨⟨_, rfl⟩, h H1 e _ fun v H2 e2 ⟨p, ev, hp⟩ => by
    subst ev
    refine ⟨"", p, l.map S, rfl, rfl, .inl (SqL.of (by rw [List.map_map]; exact hp)), ?_, ?_⟩
    · have h1 := sum_len hb
      have h2 : l.length * 1000 ≤ 1000 * 1000 := Nat.mul_le_mul_right _ hz
      rw [empty_S, S_len]
      simp only [List.length_nil, Nat.mul_zero, Nat.add_zero]
      omega
    · rw [empty_S, join_S]
      exact q H2 e2⟩
/-- of a tuple of texts that stands -/
theorem ev_joinT {K : PySem.W.Frag} {σ : L2.St} {H : Hp} {te : TE} {l : List Wd} {a : Addr} (h : Ev te σ H (.ref a)) (ha : ∀ H1, Ex H H1 → H1 a = some (.tup (l.map vS)) ∨ H1 a = some (.lst (l.map vS))) (hz : l.length ≤ 1000) (hb : ∀ u ∈ l, u.length ≤ 1000) : Ev (tM1 (rJoinL K) (tC (.str "")) te) σ H (vS l.flatten) := fun H1 e Q q =>
  ⟨⟨_, rfl⟩, h H1 e _ fun H2 e2 => by
    refine ⟨"", a, l.map S, rfl, rfl, ?_, ?_, ?_⟩
    · rcases ha H2 (e.trans e2) with hp | hp
      · exact .inr (SqT.of (by rw [List.map_map]; exact hp))
      · exact .inl (SqL.of (by rw [List.map_map]; exact hp))
    · have h1 := sum_len hb
      have h2 : l.length * 1000 ≤ 1000 * 1000 := Nat.mul_le_mul_right _ hz
      rw [empty_S, S_len]
      simp only [List.length_nil, Nat.mul_zero, Nat.add_zero]
      omega
    · rw [empty_S, join_S]
      exact q H2 e2⟩
theorem flat_S (l : List Wd) : (l.map vS).all flatV = true := by
  rw [List.all_map, List.all_eq_true]
  intro x _
  rfl
end G
/-! greedycuts.lists -/
namespace G
open PySem PySem.Spec PyProof.Rows L2 Evl
section
variable {P : Program} {w : World} {K : PySem.W.Frag} {mg : Str → Option Value} {base : Heap}

/-! ### is_between -/
def btw : PyData → Int → Int → Bool
  | .int i, lo, hi => decide (lo ≤ i) && decide (i ≤ hi)
  | _, _, _ => false
def sp_between : Sp := fun vs H Q _ => ∃ (x : V) (d : PyData) (lo hi : Int), vs = [x, .int lo, .int hi] ∧ RL H d x ∧ RetV (.bl (btw d lo hi)) H Q
theorem sc_between1 : FnScope ["value", "low", "high"] ["value", "low", "high"] (defScope s_is_between_lists) := ⟨rfl, rfl, rfl, by decide +kernel, rfl, by decide +kernel, by decide +kernel⟩
theorem ok_is_between_lists (T : Txt K mg w) : Ok P w K mg base 1 "is_between_lists" ["value", "low", "high"] sp_between := by
  have nd := sc_between1.nd
  refine Ok.mk T.d_is_between_lists sc_between1 (fun _ _ _ _ _ _ us hl => match us, hl with | [_, _, _], _ => rfl) (fun vs H Q E h => ?_) fun f cdv A outer s H vs Q E hr h => ?_
  · obtain ⟨x, d, lo, hi, rfl, _⟩ := h
    rfl
  · obtain ⟨x, d, lo, hi, rfl, hd, k⟩ := h
    refine ⟨_, (pss_one (ps_ret (pe_and (pe_callB call_isi (by rfl) T.b_isinstance (by decide +kernel) (pa_cons (pv 0) (pa_cons (pe_tyb "int" T.b_int) pa_nil))) (pe_and (pe_not (pe_callB call_isi (by rfl) T.b_isinstance (by decide +kernel) (pa_cons (pv 0) (pa_cons (pe_tyb "bool" T.b_bool) pa_nil)))) (pe_one (pe_chain op_le op_le (pv 1) (pv 0) (pv 2))))))), ?_⟩
    refine s_ret (v := .bl (btw d lo hi)) ?_ fun H1 e => k H1 e
    cases hd with
    | non => exact ev_is (ev_andV (b := false) (isi_int (ev_var rfl) .non) fun h => Bool.noConfusion h) rfl
    | bl b => exact ev_is (ev_andV (b := false) (isi_int (ev_var rfl) (.bl b)) fun h => ev_is (ev_andV (b := false) (ev_notV (isi_bool (ev_var rfl) (.bl b))) fun h => Bool.noConfusion h) rfl) rfl
    | str b => exact ev_is (ev_andV (b := false) (isi_int (ev_var rfl) (.str b)) fun h => Bool.noConfusion h) rfl
    | tup h1 h2 => exact ev_is (ev_andV (b := false) (isi_int (ev_var rfl) (.tup h1 h2)) fun h => Bool.noConfusion h) rfl
    | lst h1 => exact ev_is (ev_andV (b := false) (isi_int (ev_var rfl) (.lst h1)) fun h => Bool.noConfusion h) rfl
    | obj h1 => exact ev_is (ev_andV (b := false) (isi_int (ev_var rfl) (.obj h1)) fun h => Bool.noConfusion h) rfl
    | int i => exact ev_is (ev_andV (isi_int (ev_var rfl) (.int i)) fun h => ev_andV (ev_notV (isi_bool (ev_var rfl) (.int i))) fun h => ev_chain (ev_var rfl) (ev_var rfl) rv_I0 (ev_var rfl) rv_I0) rfl

/-! ### is_word -/
def alphaL : Wd := (List.range 26).map (97 + ·)
theorem alpha_eq : ("abcdefghijklmnopqrstuvwxyz" : Str) = S alphaL := by decide +kernel
def okL (l : Wd) : Bool := (decide (1 ≤ l.length) && decide (l.length ≤ 4)) && l.all fun c => decide (c ∈ alphaL)
def wordB : PyData → Bool
  | .str z => okL z.cps.toList
  | _ => false
def small : PyData → Prop
  | .str z => z.length ≤ 100
  | _ => True
def sp_word : Sp := fun vs H Q _ => ∃ (x : V) (d : PyData), vs = [x] ∧ RL H d x ∧ small d ∧ RetV (.bl (wordB d)) H Q
theorem sc_word : FnScope ["value", "letter"] ["value"] (defScope s_is_word) := ⟨rfl, rfl, rfl, by decide +kernel, rfl, by decide +kernel, by decide +kernel⟩
theorem len_cps (z : Str) : z.cps.toList.length = z.length := by simp [Str.length]
theorem dec_nat (a b : Nat) : decide ((a : Int) ≤ (b : Int)) = decide (a ≤ b) := by
  by_cases h : a ≤ b
  · rw [decide_eq_true h, decide_eq_true (by omega)]
  · rw [decide_eq_false h, decide_eq_false (by omega)]
theorem orN {b : Bool} (h : (!true || !b) = true) : b = false := by cases b <;> simp_all
theorem orY {b : Bool} (h : (!true || !b) = false) : b = true := by cases b <;> simp_all
theorem ok_is_word (T : Txt K mg w) : Ok P w K mg base 1 "is_word" ["value"] sp_word := by
  have nd := sc_word.nd
  refine Ok.mk T.d_is_word sc_word (fun _ _ _ _ _ _ us hl => match us, hl with | [_], _ => rfl) (fun vs H Q E h => ?_) fun f cdv A outer s H vs Q E hr h => ?_
  · obtain ⟨x, d, rfl, _⟩ := h
    rfl
  · obtain ⟨x, d, rfl, hd, hz, k⟩ := h
    refine ⟨_, (pss_cons (ps_if (PW.pt (pw_or (pt_not (pt_val (pe_callB call_isi (by rfl) T.b_isinstance (by decide +kernel) (pa_cons (pv 0) (pa_cons (pe_tyb "str" T.b_str) pa_nil))))) (pw_or1 (pt_not (pt_chain op_le op_le pe_int (pe_callB call_len_str (by rfl) T.b_len PySem.boot_len (pa_cons (pv 0) pa_nil)) (pe_gint T.c_LONGEST)))))) (pss_one (ps_ret pe_bl)) pss_nil)
      (pss_one (ps_ret (pe_callB (cr_all rfl) (by rfl) T.b_all (by decide +kernel) (pa_cons (pe_lc (own := [("letter", 1)]) (by rfl) nd (pi_str (pv 0)) (blkOk_by (N := ["value", "letter"]) (sc := defScope s_is_word) (by decide +kernel)) (fun _ _ _ _ _ => (pg_name (i := 1) nd rfl (Or.inl rfl))) (fun _ _ _ _ _ => pts_nil) (fun _ _ _ _ _ => (pe_cmpR op_in_sign (pv 1) (pe_gstr T.c_ALPHABET) (by rfl)))) pa_nil))))), ?_⟩
    have no : dStr d = false → wordB d = false := by cases d <;> intro h <;> first | rfl | cases h
    cases hs : dStr d with
    | false =>
      refine q_yes (et_is (et_or (b := true) (et_not (et_B (isi_str (ev_var rfl) hd))) (fun h => by rw [hs] at h; cases h)) (by rw [hs] <;> rfl)) fun H1 e => ?_
      exact s_ret ev_c fun H2 e2 => by rw [← no hs]; exact k H2 (e.trans e2)
    | true =>
      cases hd <;> try cases hs
      rename_i z
      have hz' : z.length ≤ 1000 := Nat.le_trans (show z.length ≤ 100 from hz) (by decide)
      refine q_if (et_or (et_not (et_B (isi_str (ev_var rfl) (.str z)))) fun _ => et_not (et_test (ev_chain ev_c (ev_lenS (ev_var rfl) (by omega)) rv_I0 ev_c rv_I0))) (fun hb H1 e => ?_) fun hb H1 e => ?_
      · refine s_ret ev_c fun H2 e2 => ?_
        have q := k H2 (e.trans e2)
        have : wordB (.str z) = false := by
          show ((_ && _) && _) = false
          rw [len_cps]
          have hb' : (decide ((1 : Int) ≤ (z.length : Int)) && decide ((z.length : Int) ≤ 4)) = false := orN hb
          have h1 := dec_nat 1 z.length
          have h2 := dec_nat z.length 4
          rw [show (decide (1 ≤ z.length) && decide (z.length ≤ 4)) = false by rw [← h1, ← h2]; exact hb']
          rfl
        rw [this] at q
        exact q
      · refine s_ret (v := .bl (z.cps.toList.all fun c => decide (c ∈ alphaL))) (ev_allC (fv := fun c => V.str ⟨#[c]⟩) (fun c => decide (c ∈ alphaL)) (ei_str (ev_var rfl)) (by rw [len_cps]; omega) fun c _ => ⟨_, bnd_name, rfl, ?_⟩) fun H2 e2 => ?_
        · refine ev_op (ev_var rfl) ev_c ?_
          rw [alpha_eq]
          exact rv_in
        · have q := k H2 (e.trans e2)
          have : wordB (.str z) = z.cps.toList.all fun c => decide (c ∈ alphaL) := by
            show ((_ && _) && _) = _
            rw [len_cps]
            have hb' : (decide ((1 : Int) ≤ (z.length : Int)) && decide ((z.length : Int) ≤ 4)) = true := orY hb
            have h1 := dec_nat 1 z.length
            have h2 := dec_nat z.length 4
            rw [show (decide (1 ≤ z.length) && decide (z.length ≤ 4)) = true by rw [← h1, ← h2]; exact hb']
            rfl
          rw [this] at q
          exact q
end
end G
/-! greedycuts.lists, further -/
namespace G
open PySem PySem.Spec PyProof.Rows L2 Evl
/-- a word list -/
structure Valid (ws : WL) : Prop where
  ge : 1 ≤ ws.length
  le : ws.length ≤ 8
  ent : ∀ e ∈ ws, okL e.1 = true ∧ 1 ≤ e.2 ∧ e.2 ≤ 9
  asc : (names ws).Pairwise (· < ·)
  lets : ∀ u ∈ names ws, ∀ c ∈ u, [c] ∈ names ws
theorem okL_len {l : Wd} (h : okL l = true) : 1 ≤ l.length ∧ l.length ≤ 4 := by
  unfold okL at h
  simp only [Bool.and_eq_true, decide_eq_true_eq] at h
  exact h.1
section
variable {P : Program} {w : World} {K : PySem.W.Frag} {mg : Str → Option Value} {base : Heap}
def sp_entry : Sp := fun vs H Q _ => ∃ (t : Addr) (e : Ent), vs = [.ref t] ∧ H t = some (.tup [vS e.1, .int e.2]) ∧ okL e.1 = true ∧ 1 ≤ e.2 ∧ e.2 ≤ 9 ∧ RetV (.bl true) H Q
theorem sc_is_entry : FnScope ["value"] ["value"] (defScope s_is_entry) := ⟨rfl, rfl, rfl, by decide +kernel, rfl, by decide +kernel, by decide +kernel⟩
theorem ok_is_entry (T : Txt K mg w) : Ok P w K mg base 2 "is_entry" ["value"] sp_entry := by
  have nd := sc_is_entry.nd
  refine Ok.mk T.d_is_entry sc_is_entry (fun _ _ _ _ _ _ us hl => match us, hl with | [_], _ => rfl) (fun vs H Q E h => ?_) fun f cdv A outer s H vs Q E hr h => ?_
  · obtain ⟨_, _, rfl, _⟩ := h
    rfl
  · obtain ⟨t, e, rfl, ht, h1, h2, h3, k⟩ := h
    refine ⟨_, (pss_one (ps_ret (pe_and (pe_callB (call_isK K rfl) (by rfl) T.b_isinstance (by decide +kernel) (pa_cons (pv 0) (pa_cons (pe_tyb "tuple" T.b_tuple) pa_nil))) (pe_and (pe_cmpR op_eq (pe_callB (call_lenK K rfl) (by rfl) T.b_len PySem.boot_len (pa_cons (pv 0) pa_nil)) pe_int (nomark _)) (pe_and (pe_fn (ok_is_word T) hr (pa_cons (pe_ix (ix_tupK K rfl) (pv 0) pe_int (fun _ _ => rfl)) pa_nil)) (pe_one (pe_fn (ok_is_between_lists T) hr (pa_cons (pe_ix (ix_tupK K rfl) (pv 0) pe_int (fun _ _ => rfl)) (pa_cons pe_int (pa_cons (pe_gint T.c_MOST_COST_lists) pa_nil)))))))))), ?_⟩
    refine s_ret (v := .bl true) ?_ k
    refine ev_is (ev_andV (ev_isi (b := true) (ev_var rfl) (fun _ e => .tup (e _ _ ht)) (by decide +kernel)) fun _ => ev_andV (ev_op (ev_lenT (ev_var rfl) ht) ev_c (rv_eq rfl)) fun _ => ev_andV (b := true) (a := true)
      (ev_call (ea_cons (ev_ixT (i := 0) (ev_var rfl) ht ev_c rfl) ea_nil) fun H1 e1 Q q E => ⟨_, .str _, rfl, .str _, ?_, ?_⟩) fun _ =>
      ev_call (ea_cons (ev_ixT (i := 1) (ev_var rfl) ht ev_c rfl) (ea_cons ev_c (ea_cons ev_c ea_nil))) fun H1 e1 Q q E => ⟨_, .int _, _, _, rfl, .int _, ?_⟩) rfl
    · show (S e.1).length ≤ 100
      rw [S_len]
      have := (okL_len h1).2
      omega
    · have e0 : wordB (.str (S e.1)) = true := by
        show okL (S e.1).cps.toList = true
        rw [S_list]
        exact h1
      rw [e0]
      exact q
    · have e0 : btw (.int e.2) 1 9 = true := by
        show (decide _ && decide _) = true
        rw [decide_eq_true h2, decide_eq_true h3] <;> rfl
      rw [e0]
      exact q

def sp_list : Sp := fun vs H Q _ => ∃ (x : V) (ws : WL), vs = [x] ∧ RD H (wlD ws) x ∧ Valid ws ∧ RetV (.bl true) H Q
theorem dec_lt (a b : Nat) : decide ((a : Int) < (b : Int)) = decide (a < b) := by
  by_cases h : a < b
  · rw [decide_eq_true h, decide_eq_true (by omega)]
  · rw [decide_eq_false h, decide_eq_false (by omega)]
/-- [entry[0] for entry in words], slot j -/
theorem ev_names {H : Hp} {σ : L2.St} {a : Addr} {xs : List V} {ws : WL} {ta : TE} {j : Nat} {vs : List Nat} (ha : Ev ta σ H (.ref a)) (hx : H a = some (.tup xs)) (hk : xs.map (keyE H) = ws) (hE : ∀ x ∈ xs, IsE H x) (hz : xs.length ≤ 1000)
    (hw : ∀ x, wipe ((wipe σ vs).set j (some x)) vs = wipe σ vs) (hj : ∀ x, ((wipe σ vs).set j (some x))[j]? = some (some x)) :
    EvP (tLc (iTup K ta) (gName j) tYes (tOp (rIxT K) (tVar j) (tC (.int 0))) vs) σ H (fun v H1 => ∃ p, v = .ref p ∧ H1 p = some (.lst ((names ws).map vS))) := by
  refine (el_lcA (fv := id) (fun x => vS (keyE H x).1) (ei_id (ei_tup ha fun _ e => SqT.of (e _ _ hx))) (by omega) fun x hm => ?_).imp fun v H1 _ ⟨p, ev, hp⟩ => ⟨p, ev, ?_⟩
  · obtain ⟨t, rfl, ht⟩ := hE x hm
    exact ⟨_, bnd_name, hw _, ev_ixT (i := 0) (ev_var (hj _)) ht ev_c rfl⟩
  · rw [hp, ← hk]
    show some (HO.lst _) = some (HO.lst (((xs.map (keyE H)).map (·.1)).map vS))
    rw [List.map_map, List.map_map]
    rfl
theorem sc_is_list : FnScope ["value", "names", "one", "entry", "at", "letter"] ["value"] (defScope s_is_list) := ⟨rfl, rfl, rfl, by decide +kernel, rfl, by decide +kernel, by decide +kernel⟩
theorem ok_is_list (T : Txt K mg w) : Ok P w K mg base 3 "is_list" ["value"] sp_list := by
  have nd := sc_is_list.nd
  refine Ok.mk T.d_is_list sc_is_list (fun _ _ _ _ _ _ us hl => match us, hl with | [_], _ => rfl) (fun vs H Q E h => ?_) fun f cdv A outer s H vs Q E hr h => ?_
  · obtain ⟨_, _, rfl, _⟩ := h
    rfl
  · obtain ⟨x, ws, rfl, hx, hV, k⟩ := h
    obtain ⟨a, xs, rfl, ha, hk, hE⟩ := wl_inv hx
    have hl : xs.length = ws.length := by rw [← hk, List.length_map]
    have v1 := hV.ge
    have v2 := hV.le
    refine ⟨_, (pss_cons (ps_if (PW.pt (pw_or (pt_not (pt_val (pe_callB (call_isK K rfl) (by rfl) T.b_isinstance (by decide +kernel) (pa_cons (pv 0) (pa_cons (pe_tyb "tuple" T.b_tuple) pa_nil))))) (pw_or (pt_not (pt_chain op_le op_le pe_int (pe_callB (call_lenK K rfl) (by rfl) T.b_len PySem.boot_len (pa_cons (pv 0) pa_nil)) (pe_gint T.c_MOST_WORDS_lists))) (pw_or1 (pt_not (pt_val (pe_callB (cr_allK K rfl rfl) (by rfl) T.b_all (by decide +kernel) (pa_cons (pe_lc (own := [("one", 2)]) (by rfl) nd (pi_tupK K rfl (pv 0)) (blkOk_by (N := ["value", "names", "one", "entry", "at", "letter"]) (sc := defScope s_is_list) (by decide +kernel)) (fun _ _ _ _ _ => (pg_name (i := 2) nd rfl (Or.inl rfl))) (fun _ _ _ _ _ => pts_nil) (fun _ _ _ _ _ => (pe_fn (ok_is_entry T) hr (pa_cons (pv 2) pa_nil)))) pa_nil)))))))) (pss_one (ps_ret pe_bl)) pss_nil)
      (pss_cons (ps_set (i := 1) nd rfl (Or.inr rfl) (pe_lc (own := [("entry", 3)]) (by rfl) nd (pi_tupK K rfl (pv 0)) (blkOk_by (N := ["value", "names", "one", "entry", "at", "letter"]) (sc := defScope s_is_list) (by decide +kernel)) (fun _ _ _ _ _ => (pg_name (i := 3) nd rfl (Or.inl rfl))) (fun _ _ _ _ _ => pts_nil) (fun _ _ _ _ _ => (pe_ix (ix_tupK K rfl) (pv 3) pe_int (fun _ _ => rfl)))))
      (pss_cons (ps_if (pt_not (pt_val (pe_callB (cr_allK K rfl rfl) (by rfl) T.b_all (by decide +kernel) (pa_cons (pe_lc (own := [("at", 4)]) (by rfl) nd (pi_range1 (by rfl) T.b_range (pa_cons (pe_op op_sub (pe_callB (call_lenK K rfl) (by rfl) T.b_len PySem.boot_len (pa_cons (pv 1) pa_nil)) pe_int) pa_nil)) (blkOk_by (N := ["value", "names", "one", "entry", "at", "letter"]) (sc := defScope s_is_list) (by decide +kernel)) (fun _ _ _ _ _ => (pg_name (i := 4) nd rfl (Or.inl rfl))) (fun _ _ _ _ _ => pts_nil) (fun _ _ _ _ _ => (pe_cmpR op_lt_str (pe_ix (ix_listK K rfl) (pv 1) (pv 4) (fun _ _ => rfl)) (pe_ix (ix_listK K rfl) (pv 1) (pe_op op_add (pv 4) pe_int) (fun _ _ => rfl)) (nomark _)))) pa_nil)))) (pss_one (ps_ret pe_bl)) pss_nil)
      (pss_one (ps_ret (pe_callB (cr_allK K rfl rfl) (by rfl) T.b_all (by decide +kernel) (pa_cons (pe_lc (own := [("letter", 5)]) (by rfl) nd (pi_str (pe_join pe_str (pv 1))) (blkOk_by (N := ["value", "names", "one", "entry", "at", "letter"]) (sc := defScope s_is_list) (by decide +kernel)) (fun _ _ _ _ _ => (pg_name (i := 5) nd rfl (Or.inl rfl))) (fun _ _ _ _ _ => pts_nil) (fun _ _ _ _ _ => (pe_cmpR (op_inK K rfl) (pv 5) (pv 1) (by rfl)))) pa_nil))))))), ?_⟩
    refine q_skip (et_is (et_or (et_not (et_B (ev_isi (b := true) (ev_var rfl) (fun _ e => .tup (e _ _ ha)) (by decide +kernel)))) fun _ => et_or (et_not (et_test (ev_chain ev_c (ev_lenT (ev_var rfl) ha) rv_I0 ev_c rv_I0))) fun _ =>
      et_not (et_B (ev_allC (fv := id) (fun _ => true) (ei_id (ei_tup (ev_var rfl) fun _ e => SqT.of (e _ _ ha))) (by omega) fun x hm => ⟨_, bnd_name, rfl, ?_⟩))) ?_) fun H1 e1 => ?_
    · obtain ⟨t, rfl, ht⟩ := hE x hm
      have hw : keyE H (.ref t) ∈ ws := by rw [← hk]; exact List.mem_map.mpr ⟨_, hm, rfl⟩
      obtain ⟨h1, h2, h3⟩ := hV.ent _ hw
      exact ev_call (ea_cons (ev_var rfl) ea_nil) fun H1 e1 Q q E => ⟨t, _, rfl, e1 _ _ ht, h1, h2, h3, q⟩
    · rw [show (xs.all fun _ => true) = true by simp, decide_eq_true (show (1 : Int) ≤ (xs.length : Int) by omega), decide_eq_true (show (xs.length : Int) ≤ 8 by omega)]
      rfl
    · refine q_asgP ((ev_names (ev_var rfl) ha hk hE (by omega) (fun _ => rfl) (fun _ => rfl)).mono e1) fun v H2 e2 ⟨p, ev, hp⟩ => ?_
      subst ev
      have hn : (names ws).length = ws.length := by unfold names; rw [List.length_map]
      refine q_skip (et_is (et_not (et_B (ev_allC (fv := fun i : Nat => V.int (i : Int)) (fun _ => true) (ei_r1 (ea_cons (ev_op (ev_lenL (ev_var rfl) hp) ev_c rv_I0) ea_nil) ?_ ?_) ?_ fun i hi => ⟨_, bnd_name, rfl, ?_⟩))) ?_) fun H3 e3 => ?_
      · rw [List.length_map]; omega
      · rw [List.length_map]; omega
      · rw [List.length_range, List.length_map]; omega
      · rw [List.mem_range, List.length_map] at hi
        have hi1 : i < (names ws).length := by omega
        have hi2 : i + 1 < (names ws).length := by omega
        refine ev_is (ev_op (ev_ixL (i := i) (v := vS (names ws)[i]) (ev_var rfl) hp (ev_var rfl) ?_) (ev_ixL (i := i + 1) (v := vS (names ws)[i + 1]) (ev_var rfl) hp (ev_op (ev_var rfl) ev_c rv_I0) ?_) rv_S) ?_
        · rw [List.getElem?_map, List.getElem?_eq_getElem hi1] <;> rfl
        · rw [List.getElem?_map, List.getElem?_eq_getElem hi2] <;> rfl
        · rw [S_list, S_list, decide_eq_true (List.pairwise_iff_getElem.mp hV.asc i (i + 1) hi1 hi2 (by omega))]
      · rw [show ((List.range _).all fun _ => true) = true by simp]
        rfl
      · have hp3 : H3 p = some (.lst ((names ws).map vS)) := e3 _ _ hp
        refine s_ret (v := .bl true) (ev_is (ev_allC (fv := fun c => V.str ⟨#[c]⟩) (l := (names ws).flatten) (fun c => decide ([c] ∈ names ws)) ?_ ?_ fun c hc => ⟨_, bnd_name, rfl, ?_⟩) ?_) fun H4 e4 => ?_
        · exact ei_strL (ev_joinT (K := K) (l := names ws) (ev_var rfl) (fun _ e => .inr (e _ _ hp3)) (by omega) fun u hu => by
            obtain ⟨e, he, rfl⟩ := List.mem_map.mp hu
            have := (okL_len (hV.ent e he).1).2
            omega)
        · have : (names ws).flatten.length ≤ ws.length * 4 := by
            rw [List.length_flatten, ← hn]
            have : ∀ l : List Wd, (∀ u ∈ l, u.length ≤ 4) → (l.map List.length).sum ≤ l.length * 4 := by
              intro l
              induction l with
              | nil => simp
              | cons a l ih =>
                intro h
                have h1 := h a (List.mem_cons_self ..)
                have h2 := ih fun u hu => h u (List.mem_cons_of_mem _ hu)
                rw [List.map_cons, List.sum_cons, List.length_cons]
                omega
            exact this _ fun u hu => by
              obtain ⟨e, he, rfl⟩ := List.mem_map.mp hu
              exact (okL_len (hV.ent e he).1).2
          omega
        · have z := inV_S [c] (names ws)
          refine ev_is (ev_op (ev_var rfl) (ev_var rfl) (rv_isL (SqL.of hp3) rfl (flat_S _))) ?_
          exact congrArg V.bl z
        · rw [List.all_eq_true.mpr]
          intro c hc
          obtain ⟨u, hu, hcu⟩ := List.mem_flatten.mp hc
          exact decide_eq_true (hV.lets u hu c hcu)
        · exact k H4 (((e1.trans e2).trans e3).trans e4)

def sp_check_list : Sp := fun vs H Q _ => ∃ (x : V) (ws : WL), vs = [x] ∧ RD H (wlD ws) x ∧ Valid ws ∧ RetV .non H Q
theorem sc_check_list : FnScope ["words"] ["words"] (defScope s_check_list) := ⟨rfl, rfl, rfl, by decide +kernel, rfl, by decide +kernel, by decide +kernel⟩
theorem ok_check_list (T : Txt K mg w) : Ok P w K mg base 4 "check_list" ["words"] sp_check_list := by
  have nd := sc_check_list.nd
  refine Ok.mk T.d_check_list sc_check_list (fun _ _ _ _ _ _ us hl => match us, hl with | [_], _ => rfl) (fun vs H Q E h => ?_) fun f cdv A outer s H vs Q E hr h => ?_
  · obtain ⟨_, _, rfl, _⟩ := h
    rfl
  · obtain ⟨x, ws, rfl, hx, hV, k⟩ := h
    refine ⟨_, (pss_one (ps_if (pt_not (pt_val (pe_fn (ok_is_list T) hr (pa_cons (pv 0) pa_nil)))) (pss_one ps_never) pss_nil)), ?_⟩
    exact s_no (et_not (et_B (b := true) (ev_call (ea_cons (ev_var rfl) ea_nil) fun H1 e1 Q q E => ⟨x, ws, rfl, hx.ex e1, hV, q⟩))) fun H1 e1 => k H1 e1

/-! ### letters -/
def letters (ws : WL) : Wd := ((names ws).filter fun u => decide (u.length = 1)).flatten
theorem mem_letters {ws : WL} {c : Nat} : c ∈ letters ws ↔ [c] ∈ names ws := by
  unfold letters
  rw [List.mem_flatten]
  constructor
  · rintro ⟨u, hu, hc⟩
    obtain ⟨h1, h2⟩ := List.mem_filter.mp hu
    have h2' : u.length = 1 := of_decide_eq_true h2
    match u, h2' with
    | [d], _ =>
      rw [List.mem_singleton.mp hc]
      exact h1
  · intro h
    exact ⟨[c], List.mem_filter.mpr ⟨h, by simp⟩, by simp⟩
def sp_letters_in : Sp := fun vs H Q _ => ∃ (x : V) (ws : WL), vs = [x] ∧ RD H (wlD ws) x ∧ Valid ws ∧ RetV (vS (letters ws)) H Q
theorem sc_letters_in : FnScope ["words", "entry"] ["words"] (defScope s_letters_in) := ⟨rfl, rfl, rfl, by decide +kernel, rfl, by decide +kernel, by decide +kernel⟩
theorem ok_letters_in (T : Txt K mg w) : Ok P w K mg base 1 "letters_in" ["words"] sp_letters_in := by
  have nd := sc_letters_in.nd
  refine Ok.mk T.d_letters_in sc_letters_in (fun _ _ _ _ _ _ us hl => match us, hl with | [_], _ => rfl) (fun vs H Q E h => ?_) fun f cdv A outer s H vs Q E hr h => ?_
  · obtain ⟨_, _, rfl, _⟩ := h
    rfl
  · obtain ⟨x, ws, rfl, hx, hV, k⟩ := h
    obtain ⟨a, xs, rfl, ha, hk, hE⟩ := wl_inv hx
    have hl : xs.length = ws.length := by rw [← hk, List.length_map]
    have v2 := hV.le
    have hlen : ∀ x ∈ xs, (keyE H x).1.length ≤ 4 := fun x hm => by
      have hw : keyE H x ∈ ws := by rw [← hk]; exact List.mem_map.mpr ⟨_, hm, rfl⟩
      exact (okL_len (hV.ent _ hw).1).2
    refine ⟨_, (pss_one (ps_ret (pe_join pe_str (pe_lc (own := [("entry", 1)]) (by rfl) nd (pi_tupK K rfl (pv 0)) (blkOk_by (N := ["words", "entry"]) (sc := defScope s_letters_in) (by decide +kernel)) (fun _ _ _ _ _ => (pg_name (i := 1) nd rfl (Or.inl rfl))) (fun _ _ _ _ _ => (pts_one (pt_cmpR op_eq (pe_callB call_len_str (by rfl) T.b_len PySem.boot_len (pa_cons (pe_ix (ix_tupK K rfl) (pv 1) pe_int (fun _ _ => rfl)) pa_nil)) pe_int (nomark _)))) (fun _ _ _ _ _ => (pe_ix (ix_tupK K rfl) (pv 1) pe_int (fun _ _ => rfl))))))), ?_⟩
    have hn : ((xs.filter fun x => decide ((keyE H x).1.length = 1)).map fun x => vS (keyE H x).1) = ((names ws).filter fun u => decide (u.length = 1)).map vS := by
      unfold names
      rw [← hk, List.map_map, List.filter_map, List.map_map]
      rfl
    refine s_ret (v := vS (letters ws)) (ev_join (l := (names ws).filter fun u => decide (u.length = 1)) ((el_lc (fv := id) (fun x => decide ((keyE H x).1.length = 1)) (fun x => vS (keyE H x).1) (ei_id (ei_tup (ev_var rfl) fun _ e => SqT.of (e _ _ ha))) (by omega) fun x hm => ?_).imp
      fun v H1 _ ⟨p, ev, hp⟩ => ⟨p, ev, by rw [← hn]; exact hp⟩) ?_ ?_) k
    · obtain ⟨t, rfl, ht⟩ := hE x hm
      have h4 := hlen _ hm
      refine ⟨_, bnd_name, rfl, et_is (et_test (ev_op (ev_lenS (ev_ixT (i := 0) (ev_var rfl) ht ev_c rfl) ?_) ev_c (rv_eq rfl))) ?_, fun _ => ev_ixT (i := 0) (ev_var rfl) ht ev_c rfl⟩
      · rw [S_len]
        omega
      · rw [S_len]
        by_cases h1 : (keyE H (.ref t)).1.length = 1
        · rw [h1, decide_eq_true rfl]
          rfl
        · rw [decide_eq_false h1, decide_eq_false]
          intro q
          have q2 := V.int.inj q
          omega
    · have : (names ws).length = ws.length := by unfold names; rw [List.length_map]
      have := List.length_filter_le (fun u : Wd => decide (u.length = 1)) (names ws)
      omega
    · intro u hu
      have h2 : u.length = 1 := of_decide_eq_true (List.mem_filter.mp hu).2
      omega

/-! ### is_text_of, is_text -/
def textB (ws : WL) : PyData → Bool
  | .str z => decide (z.length ≤ 30) && z.cps.toList.all fun c => decide (c ∈ letters ws)
  | _ => false
def sp_text_of : Sp := fun vs H Q _ => ∃ (x y : V) (ws : WL) (d : PyData), vs = [x, y] ∧ RD H (wlD ws) x ∧ Valid ws ∧ RL H d y ∧ small d ∧ RetV (.bl (textB ws d)) H Q
theorem sc_is_text_of : FnScope ["words", "value", "letters", "letter"] ["words", "value"] (defScope s_is_text_of) := ⟨rfl, rfl, rfl, by decide +kernel, rfl, by decide +kernel, by decide +kernel⟩
theorem ok_is_text_of (T : Txt K mg w) : Ok P w K mg base 2 "is_text_of" ["words", "value"] sp_text_of := by
  have nd := sc_is_text_of.nd
  refine Ok.mk T.d_is_text_of sc_is_text_of (fun _ _ _ _ _ _ us hl => match us, hl with | [_, _], _ => rfl) (fun vs H Q E h => ?_) fun f cdv A outer s H vs Q E hr h => ?_
  · obtain ⟨_, _, _, _, rfl, _⟩ := h
    rfl
  · obtain ⟨x, y, ws, d, rfl, hx, hV, hd, hz, k⟩ := h
    refine ⟨_, (pss_cons (ps_if (PW.pt (pw_or (pt_not (pt_val (pe_callB (call_isK K rfl) (by rfl) T.b_isinstance (by decide +kernel) (pa_cons (pv 1) (pa_cons (pe_tyb "str" T.b_str) pa_nil))))) (pw_or1 (pt_cmpR op_gt (pe_callB call_len_str (by rfl) T.b_len PySem.boot_len (pa_cons (pv 1) pa_nil)) (pe_gint T.c_MOST_LETTERS_lists) (nomark _))))) (pss_one (ps_ret pe_bl)) pss_nil)
      (pss_cons (ps_set (i := 2) nd rfl (Or.inr rfl) (pe_fn (ok_letters_in T) hr (pa_cons (pv 0) pa_nil)))
      (pss_one (ps_ret (pe_callB (cr_allK K rfl rfl) (by rfl) T.b_all (by decide +kernel) (pa_cons (pe_lc (own := [("letter", 3)]) (by rfl) nd (pi_str (pv 1)) (blkOk_by (N := ["words", "value", "letters", "letter"]) (sc := defScope s_is_text_of) (by decide +kernel)) (fun _ _ _ _ _ => (pg_name (i := 3) nd rfl (Or.inl rfl))) (fun _ _ _ _ _ => pts_nil) (fun _ _ _ _ _ => (pe_cmpR op_in_sign (pv 3) (pv 2) (by rfl)))) pa_nil)))))), ?_⟩
    have no : dStr d = false → textB ws d = false := by cases d <;> intro h <;> first | rfl | cases h
    cases hs : dStr d with
    | false =>
      refine q_yes (et_is (et_or (b := true) (et_not (et_B (isi_str (ev_var rfl) hd))) (fun h => by rw [hs] at h; cases h)) (by rw [hs] <;> rfl)) fun H1 e => ?_
      exact s_ret ev_c fun H2 e2 => by rw [← no hs]; exact k H2 (e.trans e2)
    | true =>
      cases hd <;> try cases hs
      rename_i z
      have hz' : z.length ≤ 1000 := Nat.le_trans (show z.length ≤ 100 from hz) (by decide)
      refine q_if (et_or (et_not (et_B (isi_str (ev_var rfl) (.str z)))) fun _ => et_test (ev_op (ev_lenS (ev_var rfl) (by omega)) ev_c rv_I0)) (fun hb H1 e => ?_) fun hb H1 e => ?_
      · refine s_ret ev_c fun H2 e2 => ?_
        have q := k H2 (e.trans e2)
        have hb' : decide ((30 : Int) < (z.length : Int)) = true := hb
        have : textB ws (.str z) = false := by
          show (decide (z.length ≤ 30) && _) = false
          rw [decide_eq_false (show ¬ z.length ≤ 30 by have := of_decide_eq_true hb'; omega)]
          rfl
        rw [this] at q
        exact q
      · refine q_asg (ev_call (ea_cons (ev_var rfl) ea_nil) fun H1' e1 Q q E => ⟨x, ws, rfl, (hx.ex e).ex e1, hV, q⟩) fun H2 e2 => ?_
        refine s_ret (v := .bl (z.cps.toList.all fun c => decide (c ∈ letters ws))) (ev_allC (fv := fun c => V.str ⟨#[c]⟩) (fun c => decide (c ∈ letters ws)) (ei_str (ev_var rfl)) (by rw [len_cps]; omega) fun c _ => ⟨_, bnd_name, rfl, ?_⟩) fun H3 e3 => ?_
        · exact ev_op (ev_var rfl) (ev_var rfl) rv_in
        · have q := k H3 ((e.trans e2).trans e3)
          have hb' : decide ((30 : Int) < (z.length : Int)) = false := hb
          have : textB ws (.str z) = z.cps.toList.all fun c => decide (c ∈ letters ws) := by
            show (decide (z.length ≤ 30) && _) = _
            rw [decide_eq_true (show z.length ≤ 30 by have := of_decide_eq_false hb'; omega)]
            rfl
          rw [this] at q
          exact q
theorem sc_is_text : FnScope ["words", "value"] ["words", "value"] (defScope s_is_text) := ⟨rfl, rfl, rfl, by decide +kernel, rfl, by decide +kernel, by decide +kernel⟩
theorem ok_is_text (T : Txt K mg w) : Ok P w K mg base 5 "is_text" ["words", "value"] sp_text_of := by
  have nd := sc_is_text.nd
  refine Ok.mk T.d_is_text sc_is_text (fun _ _ _ _ _ _ us hl => match us, hl with | [_, _], _ => rfl) (fun vs H Q E h => ?_) fun f cdv A outer s H vs Q E hr h => ?_
  · obtain ⟨_, _, _, _, rfl, _⟩ := h
    rfl
  · obtain ⟨x, y, ws, d, rfl, hx, hV, hd, hz, k⟩ := h
    refine ⟨_, (pss_cons (ps_expr (pe_fn (ok_check_list T) hr (pa_cons (pv 0) pa_nil)))
      (pss_one (ps_ret (pe_fn (ok_is_text_of T) hr (pa_cons (pv 0) (pa_cons (pv 1) pa_nil)))))), ?_⟩
    refine q_drop (ev_call (ea_cons (ev_var rfl) ea_nil) fun H1 e1 Q q E => ⟨x, ws, rfl, hx.ex e1, hV, q⟩) fun H1 e1 => ?_
    exact s_ret (ev_call (ea_cons (ev_var rfl) (ea_cons (ev_var rfl) ea_nil)) fun H2 e2 Q q E => ⟨x, y, ws, d, rfl, (hx.ex e1).ex e2, hV, (hd.ex e1).ex e2, hz, q⟩) fun H2 e2 => k H2 (e1.trans e2)

def sp_names_in : Sp := fun vs H Q _ => ∃ (x : V) (ws : WL), vs = [x] ∧ RD H (wlD ws) x ∧ ws.length ≤ 8 ∧ RetP (fun v H1 => ∃ p, v = .ref p ∧ H1 p = some (.lst ((names ws).map vS))) H Q
theorem sc_names_in : FnScope ["words", "entry"] ["words"] (defScope s_names_in) := ⟨rfl, rfl, rfl, by decide +kernel, rfl, by decide +kernel, by decide +kernel⟩
theorem ok_names_in (T : Txt K mg w) : Ok P w K mg base 1 "names_in" ["words"] sp_names_in := by
  have nd := sc_names_in.nd
  refine Ok.mk T.d_names_in sc_names_in (fun _ _ _ _ _ _ us hl => match us, hl with | [_], _ => rfl) (fun vs H Q E h => ?_) fun f cdv A outer s H vs Q E hr h => ?_
  · obtain ⟨_, _, rfl, _⟩ := h
    rfl
  · obtain ⟨x, ws, rfl, hx, hl8, k⟩ := h
    obtain ⟨a, xs, rfl, ha, hk, hE⟩ := wl_inv hx
    have hl : xs.length = ws.length := by rw [← hk, List.length_map]
    refine ⟨_, (pss_one (ps_ret (pe_lc (own := [("entry", 1)]) (by rfl) nd (pi_tupK K rfl (pv 0)) (blkOk_by (N := ["words", "entry"]) (sc := defScope s_names_in) (by decide +kernel)) (fun _ _ _ _ _ => (pg_name (i := 1) nd rfl (Or.inl rfl))) (fun _ _ _ _ _ => pts_nil) (fun _ _ _ _ _ => (pe_ix (ix_tupK K rfl) (pv 1) pe_int (fun _ _ => rfl)))))), ?_⟩
    exact s_retP (ev_names (ev_var rfl) ha hk hE (by omega) (fun _ => rfl) (fun _ => rfl)) k
end
end G
/-! The longest match, in plain Lean. -/
namespace G
/-- u is the longest word that begins t -/
structure IsFirst (ws : WL) (t u : Wd) : Prop where
  mem : u ∈ names ws
  pre : u <+: t
  most : ∀ v ∈ names ws, v <+: t → v.length ≤ u.length
theorem IsFirst.uniq {ws : WL} {t u v : Wd} (a : IsFirst ws t u) (b : IsFirst ws t v) : u = v := by
  have h1 := a.most v b.mem b.pre
  have h2 := b.most u a.mem a.pre
  rw [List.prefix_iff_eq_take.mp a.pre, List.prefix_iff_eq_take.mp b.pre, Nat.le_antisymm h1 h2]
def cand (ws : WL) (t : Wd) : List Wd := ((List.range (min 4 t.length)).map fun k => t.take (k + 1)).filter fun u => decide (u ∈ names ws)
def first (ws : WL) (t : Wd) : Wd := (cand ws t).getLast?.getD []
def Letters (ws : WL) (t : Wd) : Prop := ∀ c ∈ t, [c] ∈ names ws
theorem Letters.drop {ws : WL} {t : Wd} (h : Letters ws t) (n : Nat) : Letters ws (t.drop n) := fun c hc => h c (List.mem_of_mem_drop hc)
theorem Letters.take {ws : WL} {t : Wd} (h : Letters ws t) (n : Nat) : Letters ws (t.take n) := fun c hc => h c (List.mem_of_mem_take hc)
theorem Letters.app {ws : WL} {a b : Wd} (h1 : Letters ws a) (h2 : Letters ws b) : Letters ws (a ++ b) := fun c hc => by
  rcases List.mem_append.mp hc with h | h
  · exact h1 c h
  · exact h2 c h
theorem mem_names_len {ws : WL} (hV : Valid ws) {u : Wd} (h : u ∈ names ws) : 1 ≤ u.length ∧ u.length ≤ 4 := by
  obtain ⟨e, he, rfl⟩ := List.mem_map.mp h
  exact okL_len (hV.ent e he).1
theorem last_most {α : Type} {R : α → α → Prop} : ∀ {l : List α} {u v : α}, l.Pairwise R → l.getLast? = some u → v ∈ l → v = u ∨ R v u
  | [], _, _, _, h, _ => by simp at h
  | [a], u, v, _, h, hv => by
    have e : a = u := by simpa using h
    rw [List.mem_singleton.mp hv]
    exact .inl e
  | a :: b :: l, u, v, hp, h, hv => by
    obtain ⟨h1, h2⟩ := List.pairwise_cons.mp hp
    have h' : (b :: l).getLast? = some u := by rw [List.getLast?_cons_cons] at h; exact h
    rcases List.mem_cons.mp hv with rfl | hv
    · exact .inr (h1 u (List.mem_of_getLast? h'))
    · exact last_most h2 h' hv
theorem cand_pw (ws : WL) (t : Wd) : (cand ws t).Pairwise (fun a b => a.length < b.length) := by
  refine List.Pairwise.filter _ ?_
  rw [List.pairwise_map]
  have h := List.pairwise_lt_range (n := min 4 t.length)
  refine List.Pairwise.imp_of_mem ?_ h
  intro a b ha hb hab
  have h1 := List.mem_range.mp ha
  have h2 := List.mem_range.mp hb
  rw [List.length_take, List.length_take]
  omega
theorem mem_cand {ws : WL} {t u : Wd} (h : u ∈ cand ws t) : u ∈ names ws ∧ u <+: t ∧ 1 ≤ u.length := by
  obtain ⟨h1, h2⟩ := List.mem_filter.mp h
  obtain ⟨k, hk, rfl⟩ := List.mem_map.mp h1
  have := List.mem_range.mp hk
  refine ⟨of_decide_eq_true h2, List.take_prefix _ _, ?_⟩
  rw [List.length_take]
  omega
theorem cand_mem {ws : WL} (hV : Valid ws) {t u : Wd} (h1 : u ∈ names ws) (h2 : u <+: t) : u ∈ cand ws t := by
  have hl := mem_names_len hV h1
  have hp := h2.length_le
  refine List.mem_filter.mpr ⟨List.mem_map.mpr ⟨u.length - 1, List.mem_range.mpr (by omega), ?_⟩, decide_eq_true h1⟩
  rw [show u.length - 1 + 1 = u.length by omega]
  exact (List.prefix_iff_eq_take.mp h2).symm
theorem cand_last {ws : WL} (hV : Valid ws) {t : Wd} (ht : t ≠ []) (hl : Letters ws t) : (cand ws t).getLast? = some (first ws t) := by
  have hne : cand ws t ≠ [] := by
    cases t with
    | nil => exact absurd rfl ht
    | cons c r =>
      have : [c] ∈ cand ws (c :: r) := cand_mem hV (hl c (List.mem_cons_self ..)) ⟨r, rfl⟩
      intro q
      rw [q] at this
      simp at this
  unfold first
  rw [List.getLast?_eq_some_getLast hne]
  rfl
theorem first_is {ws : WL} (hV : Valid ws) {t : Wd} (ht : t ≠ []) (hl : Letters ws t) : IsFirst ws t (first ws t) := by
  have h := cand_last hV ht hl
  obtain ⟨h1, h2, _⟩ := mem_cand (List.mem_of_getLast? h)
  refine ⟨h1, h2, fun v hv hp => ?_⟩
  rcases last_most (cand_pw ws t) h (cand_mem hV hv hp) with e | e
  · rw [e]; exact Nat.le_refl _
  · exact Nat.le_of_lt e
/-- the longest match, by fuel -/
def lg (ws : WL) : Nat → Wd → List Wd
  | 0, _ => []
  | n + 1, t => if t = [] then [] else first ws t :: lg ws n (t.drop (first ws t).length)
def longest (ws : WL) (t : Wd) : List Wd := lg ws t.length t
theorem lg_nil (ws : WL) (n : Nat) : lg ws n [] = [] := by
  cases n <;> rfl
theorem lg_more {ws : WL} (hV : Valid ws) : ∀ (n m : Nat) (t : Wd), Letters ws t → t.length ≤ n → t.length ≤ m → lg ws n t = lg ws m t
  | 0, m, t, _, h, _ => by
    have : t = [] := List.eq_nil_of_length_eq_zero (by omega)
    subst this
    rw [lg_nil, lg_nil]
  | n + 1, 0, t, _, _, h => by
    have : t = [] := List.eq_nil_of_length_eq_zero (by omega)
    subst this
    rw [lg_nil, lg_nil]
  | n + 1, m + 1, t, hl, h1, h2 => by
    by_cases ht : t = []
    · subst ht
      rw [lg_nil, lg_nil]
    · have hf := first_is hV ht hl
      have := (mem_names_len hV hf.mem).1
      show (if t = [] then [] else _) = (if t = [] then [] else _)
      rw [if_neg ht, if_neg ht, lg_more hV n m _ (hl.drop _) (by rw [List.length_drop]; omega) (by rw [List.length_drop]; omega)]
theorem longest_nil (ws : WL) : longest ws [] = [] := rfl
theorem longest_cons {ws : WL} (hV : Valid ws) {t : Wd} (ht : t ≠ []) (hl : Letters ws t) : longest ws t = first ws t :: longest ws (t.drop (first ws t).length) := by
  have hf := first_is hV ht hl
  have h1 := (mem_names_len hV hf.mem).1
  have hp : 1 ≤ t.length := by
    cases t with
    | nil => exact absurd rfl ht
    | cons c r => simp
  unfold longest
  rw [lg_more hV t.length (t.length - 1 + 1) t hl (Nat.le_refl _) (by omega)]
  show (if t = [] then [] else _) = _
  rw [if_neg ht, lg_more hV (t.length - 1) _ _ (hl.drop _) (by rw [List.length_drop]; omega) (Nat.le_refl _)]
theorem first_drop {ws : WL} (hV : Valid ws) {t : Wd} (ht : t ≠ []) (hl : Letters ws t) : first ws t ++ t.drop (first ws t).length = t := by
  have hf := (first_is hV ht hl).pre
  have h := List.prefix_iff_eq_take.mp hf
  conv => lhs; lhs; rw [h]
  exact List.take_append_drop _ _
theorem longest_flat {ws : WL} (hV : Valid ws) : ∀ (n : Nat) (t : Wd), t.length ≤ n → Letters ws t → (longest ws t).flatten = t
  | 0, t, h, _ => by
    have : t = [] := List.eq_nil_of_length_eq_zero (by omega)
    subst this
    rfl
  | n + 1, t, h, hl => by
    by_cases ht : t = []
    · subst ht; rfl
    · have hf := first_is hV ht hl
      have h1 := (mem_names_len hV hf.mem).1
      rw [longest_cons hV ht hl, List.flatten_cons, longest_flat hV n _ (by rw [List.length_drop]; omega) (hl.drop _), first_drop hV ht hl]
theorem longest_mem {ws : WL} (hV : Valid ws) : ∀ (n : Nat) (t : Wd), t.length ≤ n → Letters ws t → ∀ u ∈ longest ws t, u ∈ names ws
  | 0, t, h, _ => by
    have : t = [] := List.eq_nil_of_length_eq_zero (by omega)
    subst this
    intro u hu
    simp [longest_nil] at hu
  | n + 1, t, h, hl => by
    by_cases ht : t = []
    · subst ht
      intro u hu
      simp [longest_nil] at hu
    · have hf := first_is hV ht hl
      have h1 := (mem_names_len hV hf.mem).1
      rw [longest_cons hV ht hl]
      intro u hu
      rcases List.mem_cons.mp hu with rfl | hu
      · exact hf.mem
      · exact longest_mem hV n _ (by rw [List.length_drop]; omega) (hl.drop _) u hu
theorem longest_len {ws : WL} (hV : Valid ws) : ∀ (n : Nat) (t : Wd), t.length ≤ n → Letters ws t → (longest ws t).length ≤ t.length
  | 0, t, h, _ => by
    have : t = [] := List.eq_nil_of_length_eq_zero (by omega)
    subst this
    simp [longest_nil]
  | n + 1, t, h, hl => by
    by_cases ht : t = []
    · subst ht
      simp [longest_nil]
    · have hf := first_is hV ht hl
      have h1 := (mem_names_len hV hf.mem).1
      have hp := hf.pre.length_le
      have := longest_len hV n (t.drop (first ws t).length) (by rw [List.length_drop]; omega) (hl.drop _)
      rw [longest_cons hV ht hl, List.length_cons]
      rw [List.length_drop] at this
      omega
/-- judged word by word: us, joined t, is the longest match exactly if each word is the longest one that begins the rest -/
def matchB (ws : WL) : List Wd → Wd → Bool
  | [], t => decide (t = [])
  | u :: us, t => decide (u ∈ names ws) && ((names ws).all fun v => !(decide (u.length < v.length) && decide (v <+: t))) && matchB ws us (t.drop u.length)
theorem matchB_iff {ws : WL} (hV : Valid ws) : ∀ (us : List Wd) (t : Wd), Letters ws t → us.flatten = t → (matchB ws us t = true ↔ us = longest ws t)
  | [], t, _, e => by
    subst e
    simp [matchB, longest_nil]
  | u :: us, t, hl, e => by
    have hd : t.drop u.length = us.flatten := by rw [← e, List.flatten_cons, List.drop_left]
    have ih := matchB_iff hV us (t.drop u.length) (hl.drop _) hd.symm
    have hpre : u <+: t := ⟨us.flatten, by rw [← e, List.flatten_cons]⟩
    unfold matchB
    rw [Bool.and_eq_true, Bool.and_eq_true, ih, decide_eq_true_eq, List.all_eq_true]
    constructor
    · rintro ⟨⟨h1, h2⟩, h3⟩
      have hne : t ≠ [] := by
        intro q
        rw [q] at hpre
        have h5 : u.length ≤ 0 := hpre.length_le
        have := (mem_names_len hV h1).1
        omega
      have hI : IsFirst ws t u := ⟨h1, hpre, fun v hv hp => by
        have := h2 v hv
        rw [Bool.not_eq_true', Bool.and_eq_false_iff] at this
        rcases this with q | q
        · have := of_decide_eq_false q
          omega
        · exact absurd hp (of_decide_eq_false q)⟩
      have := hI.uniq (first_is hV hne hl)
      rw [longest_cons hV hne hl, ← this, h3]
    · intro h
      have hne : t ≠ [] := by
        intro q
        rw [q, longest_nil] at h
        cases h
      rw [longest_cons hV hne hl] at h
      have hu : u = first ws t := (List.cons.inj h).1
      have hI := first_is hV hne hl
      rw [← hu] at hI
      refine ⟨⟨hI.mem, fun v hv => ?_⟩, ?_⟩
      · rw [Bool.not_eq_true', Bool.and_eq_false_iff]
        by_cases hp : v <+: t
        · exact .inl (decide_eq_false (by have := hI.most v hv hp; omega))
        · exact .inr (decide_eq_false hp)
      · rw [hu]
        exact (List.cons.inj h).2
end G
/-! greedycuts.matches, longest, costs, smallest -/
namespace G
open PySem PySem.Spec PyProof.Rows L2 Evl

/-! ### slices -/
def cut (l : Wd) (lo hi : Option Int) : Wd := (l.drop (HT.sIx l.length 0 lo)).take (HT.sIx l.length l.length hi - HT.sIx l.length 0 lo)
theorem cutS_S (l : Wd) (lo hi : Option Int) : cutS (S l) lo hi = S (cut l lo hi) := by
  unfold cutS cut
  rw [S_list, S_len]
  rfl
theorem cut_nat (l : Wd) (i j : Nat) : cut l (some (i : Int)) (some (j : Int)) = (l.drop i).take (j - i) := by
  unfold cut
  rw [HT.sIx_nat, HT.sIx_nat]
  by_cases h : i ≤ l.length
  · rw [Nat.min_eq_left h]
    by_cases h2 : j ≤ l.length
    · rw [Nat.min_eq_left h2]
    · rw [Nat.min_eq_right (by omega), List.take_of_length_le (by rw [List.length_drop]; omega), List.take_of_length_le (by rw [List.length_drop]; omega)]
  · rw [show min i l.length = l.length by omega, List.drop_length, List.drop_eq_nil_of_le (show l.length ≤ i by omega)]
    simp
theorem cut_to (l : Wd) (j : Nat) : cut l none (some (j : Int)) = l.take j := by
  unfold cut
  rw [HT.sIx_nat, HT.sIx_none, Nat.sub_zero, List.drop_zero]
  by_cases h2 : j ≤ l.length
  · rw [Nat.min_eq_left h2]
  · rw [Nat.min_eq_right (by omega), List.take_of_length_le (Nat.le_refl _), List.take_of_length_le (by omega)]
theorem cut_from (l : Wd) (i : Nat) : cut l (some (i : Int)) none = l.drop i := by
  unfold cut
  rw [HT.sIx_nat, HT.sIx_none]
  by_cases h : i ≤ l.length
  · rw [Nat.min_eq_left h, List.take_of_length_le (by rw [List.length_drop]; omega)]
  · rw [show min i l.length = l.length by omega, List.drop_length, List.drop_eq_nil_of_le (show l.length ≤ i by omega)]
    simp
theorem cutV_nat (l : List V) (i j : Nat) : cutV l (some (i : Int)) (some (j : Int)) = (l.drop i).take (j - i) := by
  unfold cutV
  rw [HT.sIx_nat, HT.sIx_nat]
  by_cases h : i ≤ l.length
  · rw [Nat.min_eq_left h]
    by_cases h2 : j ≤ l.length
    · rw [Nat.min_eq_left h2]
    · rw [Nat.min_eq_right (by omega), List.take_of_length_le (by rw [List.length_drop]; omega), List.take_of_length_le (by rw [List.length_drop]; omega)]
  · rw [show min i l.length = l.length by omega, List.drop_length, List.drop_eq_nil_of_le (show l.length ≤ i by omega)]
    simp
theorem cutV_to (l : List V) (j : Nat) : cutV l none (some (j : Int)) = l.take j := by
  unfold cutV
  rw [HT.sIx_nat, HT.sIx_none, Nat.sub_zero, List.drop_zero]
  by_cases h2 : j ≤ l.length
  · rw [Nat.min_eq_left h2]
  · rw [Nat.min_eq_right (by omega), List.take_of_length_le (Nat.le_refl _), List.take_of_length_le (by omega)]
theorem cutV_from (l : List V) (i : Nat) : cutV l (some (i : Int)) none = l.drop i := by
  unfold cutV
  rw [HT.sIx_nat, HT.sIx_none]
  by_cases h : i ≤ l.length
  · rw [Nat.min_eq_left h, List.take_of_length_le (by rw [List.length_drop]; omega)]
  · rw [show min i l.length = l.length by omega, List.drop_length, List.drop_eq_nil_of_le (show l.length ≤ i by omega)]
    simp
section
variable {K : PySem.W.Frag} {σ : L2.St} {H : Hp} {ta tb te : TE} {x y z v : V}
theorem ev_slS {tl th : TO} {l : Wd} {lo hi : Option Int} (h : Ev te σ H (vS l)) (h1 : EvO tl σ H lo) (h2 : EvO th σ H hi) (hz : l.length ≤ 100000) : Ev (tSl rSlS te tl th) σ H (vS (cut l lo hi)) := fun H1 e Q q =>
  h H1 e _ fun H2 e2 => h1 H2 (e.trans e2) _ fun H3 e3 => h2 H3 ((e.trans e2).trans e3) _ fun H4 e4 => ⟨S l, rfl, by rw [S_len]; exact sz_of hz, by rw [cutS_S]; exact q H4 ((e2.trans e3).trans e4)⟩
theorem evp_slT {tl th : TO} {a : Addr} {xs : List V} {lo hi : Option Int} (h : Ev te σ H (.ref a)) (ha : H a = some (.tup xs)) (h1 : EvO tl σ H lo) (h2 : EvO th σ H hi) : EvP (tSl (rSlA K) te tl th) σ H (fun v H1 => ∃ p, v = .ref p ∧ H1 p = some (.tup (cutV xs lo hi))) := fun H1 e Q q =>
  h H1 e _ fun H2 e2 => h1 H2 (e.trans e2) _ fun H3 e3 => h2 H3 ((e.trans e2).trans e3) _ fun H4 e4 => by
    have h4 : H4 a = some (.tup xs) := e4 _ _ (e3 _ _ (e2 _ _ (e _ _ ha)))
    refine ⟨a, xs, rfl, SqT.of h4, fun hw => ?_, fun _ p hp => q _ _ (((e2.trans e3).trans e4).trans (Ex.new hp)) ⟨p, rfl, upd_same⟩⟩
    refine q _ H4 ((e2.trans e3).trans e4) ⟨a, rfl, ?_⟩
    have : cutV xs lo hi = xs := by
      unfold cutV
      rw [hw.1, hw.2]
      simp
    rw [this]
    exact h4
theorem evp_rev {xs : List V} (h : EvP te σ H (fun v H1 => ∃ p, v = .ref p ∧ H1 p = some (.tup xs))) : EvP (tRevT K te) σ H (fun v H1 => ∃ p, v = .ref p ∧ H1 p = some (.tup xs.reverse)) := fun H1 e Q q =>
  h H1 e _ fun v H2 e2 ⟨p, ev, hp⟩ => by
    subst ev
    exact ⟨p, xs, rfl, SqT.of hp, fun p2 hp2 => q _ _ (e2.trans (Ex.new hp2)) ⟨p2, rfl, upd_same⟩⟩
abbrev rTup (K : PySem.W.Frag) : List V → Hp → VK → Prop := fun xs H Q => ∃ p ys, xs = [.ref p] ∧ ((SqL K H p ys ∧ ∀ l, H l = none → Q (.ref l) (upd H l (.tup ys))) ∨ (SqT K H p ys ∧ Q (.ref p) H))
theorem evp_tupL {ys : List V} (h : EvP te σ H (fun v H1 => ∃ p, v = .ref p ∧ H1 p = some (.lst ys))) : EvP (tCB (rTup K) (tCons te tNil)) σ H (fun v H1 => ∃ p, v = .ref p ∧ H1 p = some (.tup ys)) := fun H1 e Q q =>
  h H1 e _ fun v H2 e2 ⟨p, ev, hp⟩ => by
    subst ev
    exact ⟨p, ys, rfl, .inl ⟨SqL.of hp, fun l hl => q _ _ (e2.trans (Ex.new hl)) ⟨l, rfl, upd_same⟩⟩⟩
/-- .. whose items are told by a property -/
theorem evp_tupLP {P : List V → Hp → Prop} (hP : ∀ ys H H', ExT H H' → P ys H → P ys H') (h : EvP te σ H (fun v H1 => ∃ p ys, v = .ref p ∧ H1 p = some (.lst ys) ∧ P ys H1)) : EvP (tCB (rTup K) (tCons te tNil)) σ H (fun v H1 => ∃ p ys, v = .ref p ∧ H1 p = some (.tup ys) ∧ P ys H1) := fun H1 e Q q =>
  h H1 e _ fun v H2 e2 ⟨p, ys, ev, hp, hy⟩ => by
    subst ev
    exact ⟨p, ys, rfl, .inl ⟨SqL.of hp, fun l hl => q _ _ (e2.trans (Ex.new hl)) ⟨l, ys, rfl, upd_same, hP _ _ _ (ext_of (Ex.new hl)) hy⟩⟩⟩
abbrev rMin2 : List V → Hp → VK → Prop := fun xs H Q => ∃ i j, xs = [.int i, .int j] ∧ Q (.int (if j < i then j else i)) H
theorem ev_min2 {i j : Int} (h1 : Ev ta σ H (.int i)) (h2 : Ev tb σ H (.int j)) : Ev (tCB rMin2 (tCons ta (tCons tb tNil))) σ H (.int (if j < i then j else i)) :=
  ev_cb (ea_cons h1 (ea_cons h2 ea_nil)) fun H1 _ Q q => ⟨i, j, rfl, q H1 (Ex.refl _)⟩
end

section
variable {P : Program} {w : World} {K : PySem.W.Frag} {mg : Str → Option Value} {base : Heap}
def sp_words_from : Sp := fun vs H Q _ => ∃ (x : V) (ws : WL) (t : Wd) (i : Nat), vs = [x, vS t, .int (i : Int)] ∧ RD H (wlD ws) x ∧ Valid ws ∧ t.length ≤ 1000 ∧ i ≤ t.length ∧
  RetP (fun v H1 => ∃ p, v = .ref p ∧ H1 p = some (.tup ((cand ws (t.drop i)).map vS))) H Q
theorem sc_words_from : FnScope ["words", "text", "index", "names", "parts", "size", "part"] ["words", "text", "index"] (defScope s_words_from) := ⟨rfl, rfl, rfl, by decide +kernel, rfl, by decide +kernel, by decide +kernel⟩
theorem ok_words_from (T : Txt K mg w) : Ok P w K mg base 2 "words_from" ["words", "text", "index"] sp_words_from := by
  have nd := sc_words_from.nd
  refine Ok.mk T.d_words_from sc_words_from (fun _ _ _ _ _ _ us hl => match us, hl with | [_, _, _], _ => rfl) (fun vs H Q E h => ?_) fun f cdv A outer s H vs Q E hr h => ?_
  · obtain ⟨_, _, _, _, rfl, _⟩ := h
    rfl
  · obtain ⟨x, ws, t, i, rfl, hx, hV, ht, hi, k⟩ := h
    refine ⟨_, (pss_cons (ps_set (i := 3) nd rfl (Or.inr rfl) (pe_fn (ok_names_in T) hr (pa_cons (pv 0) pa_nil)))
      (pss_cons (ps_setLc (i := 4) (own := [("size", 5)]) (by rfl) nd rfl rfl (sw_true rfl rfl rfl (by decide +kernel)) (pi_range2 (by rfl) T.b_range (pa_cons pe_int (pa_cons (pe_op op_add (pe_callB (call_min2 rfl) (by rfl) T.b_min (by decide +kernel) (pa_cons (pe_gint T.c_LONGEST) (pa_cons (pe_op op_sub (pe_callB call_len_str (by rfl) T.b_len PySem.boot_len (pa_cons (pv 1) pa_nil)) (pv 2)) pa_nil))) pe_int) pa_nil))) (blkOk_by (N := ["words", "text", "index", "names", "parts", "size", "part"]) (sc := defScope s_words_from) (by decide +kernel)) (fun _ _ _ _ _ => (pg_name (i := 5) nd rfl (Or.inl rfl))) (fun _ _ _ _ _ => pts_nil) (fun _ _ _ _ _ => (pe_slice sl_str (pv 1) (po_some (pv 2)) (po_some (pe_op op_add (pv 2) (pv 5))))))
      (pss_one (ps_ret (pe_callTy call_tuple_of (by rfl) T.b_tuple (by decide +kernel) (pa_cons (pe_lc (own := [("part", 6)]) (by rfl) nd (pi_listK K rfl (pv 4)) (blkOk_by (N := ["words", "text", "index", "names", "parts", "size", "part"]) (sc := defScope s_words_from) (by decide +kernel)) (fun _ _ _ _ _ => (pg_name (i := 6) nd rfl (Or.inl rfl))) (fun _ _ _ _ _ => (pts_one (pt_cmpR (op_inK K rfl) (pv 6) (pv 3) (by rfl)))) (fun _ _ _ _ _ => (pv 6))) pa_nil)))))), ?_⟩
    refine q_asgP (evp_call (ea_cons (ev_var rfl) ea_nil) fun H1 e1 Q q E => ⟨x, ws, rfl, hx.ex e1, hV.le, q⟩) fun v H1 e1 ⟨p, ev, hp⟩ => ?_
    subst ev
    have em : (if (t.length : Int) - (i : Int) < 4 then (t.length : Int) - (i : Int) else 4) = ((min 4 (t.drop i).length : Nat) : Int) := by
      rw [List.length_drop]
      split <;> omega
    refine q_asgP (el_lcA (l := List.range (min 4 (t.drop i).length)) (fv := fun k : Nat => V.int (1 + (k : Int))) (fun k => vS ((t.drop i).take (k + 1))) ?_ ?_ fun k hk => ⟨_, bnd_name, rfl, ?_⟩) fun v H2 e2 ⟨p2, ev, hp2⟩ => ?_
    · refine ei_r2n (i := 1) (j := ((min 4 (t.drop i).length : Nat) : Int) + 1) (ea_cons ev_c (ea_cons (ev_is (ev_op (ev_min2 ev_c (ev_op (ev_lenS (ev_var rfl) ?_) (ev_var rfl) rv_I0)) ev_c rv_I0) ?_) ea_nil)) (by omega) (by omega) (by omega)
      · rw [S_len]; omega
      · rw [S_len, em]
    · rw [List.length_range]; omega
    · refine ev_is (ev_slS (ev_var rfl) (eo_some (ev_var rfl)) (eo_some (ev_op (ev_var rfl) (ev_var rfl) rv_I0)) (by omega)) ?_
      rw [show (i : Int) + (1 + (k : Int)) = ((i + (1 + k) : Nat) : Int) by omega, cut_nat, show i + (1 + k) - i = k + 1 by omega]
    · subst ev
      have hp' := e2 _ _ hp
      refine s_retP (evp_tupL ((el_lc (l := (List.range (min 4 (t.drop i).length)).map fun k => (t.drop i).take (k + 1)) (fv := vS) (fun u => decide (u ∈ names ws)) vS (by
          rw [List.map_map]
          exact ei_list (ev_var rfl) fun _ e => SqL.of (e _ _ hp2)) (by rw [List.length_map, List.length_range]; omega) fun u _ => ⟨_, bnd_name, rfl, et_is (et_test (ev_op (ev_var rfl) (ev_var rfl) (rv_isL (SqL.of hp') rfl (flat_S _)))) (inV_S u (names ws)), fun _ => ev_var rfl⟩))) fun v H3 e3 hv => ?_
      exact k v H3 ((e1.trans e2).trans e3) hv

def sp_longest_from : Sp := fun vs H Q _ => ∃ (x : V) (ws : WL) (t : Wd) (i : Nat), vs = [x, vS t, .int (i : Int)] ∧ RD H (wlD ws) x ∧ Valid ws ∧ t.length ≤ 1000 ∧ i < t.length ∧ Letters ws t ∧ RetV (vS (first ws (t.drop i))) H Q
theorem sc_longest_from : FnScope ["words", "text", "index"] ["words", "text", "index"] (defScope s_longest_from) := ⟨rfl, rfl, rfl, by decide +kernel, rfl, by decide +kernel, by decide +kernel⟩
theorem ok_longest_from (T : Txt K mg w) : Ok P w K mg base 3 "longest_from" ["words", "text", "index"] sp_longest_from := by
  have nd := sc_longest_from.nd
  refine Ok.mk T.d_longest_from sc_longest_from (fun _ _ _ _ _ _ us hl => match us, hl with | [_, _, _], _ => rfl) (fun vs H Q E h => ?_) fun f cdv A outer s H vs Q E hr h => ?_
  · obtain ⟨_, _, _, _, rfl, _⟩ := h
    rfl
  · obtain ⟨x, ws, t, i, rfl, hx, hV, ht, hi, hl, k⟩ := h
    refine ⟨_, (pss_one (ps_ret (pe_ix (ix_tupK K rfl) (pe_fn (ok_words_from T) hr (pa_cons (pv 0) (pa_cons (pv 1) (pa_cons (pv 2) pa_nil)))) (pe_un un_neg pe_int) (fun _ _ => rfl)))), ?_⟩
    have hne : t.drop i ≠ [] := by
      intro q
      have := congrArg List.length q
      rw [List.length_drop] at this
      simp at this
      omega
    have hc := cand_last hV hne (hl.drop i)
    have hv : atI ((cand ws (t.drop i)).map vS) (-1) = some (vS (first ws (t.drop i))) := by
      obtain ⟨r, hr⟩ : ∃ r, cand ws (t.drop i) = r ++ [first ws (t.drop i)] := by
        have hne2 : cand ws (t.drop i) ≠ [] := by
          intro q
          rw [q] at hc
          simp at hc
        refine ⟨(cand ws (t.drop i)).dropLast, ?_⟩
        rw [List.getLast?_eq_some_getLast hne2] at hc
        rw [← Option.some.inj hc]
        exact (List.dropLast_concat_getLast hne2).symm
      rw [hr, List.map_append, List.map_cons, List.map_nil]
      exact atI_last _ _
    refine s_ret ((evp_op (P' := fun v _ => v = .int (-1)) (P2 := fun v _ => v = vS (first ws (t.drop i))) (fun v H H' e ⟨p, ev, hp⟩ => ⟨p, ev, e _ _ hp⟩) (evp_call (ea_cons (ev_var rfl) (ea_cons (ev_var rfl) (ea_cons (ev_var rfl) ea_nil))) fun H1 e1 Q q E => ⟨x, ws, t, i, rfl, hx.ex e1, hV, ht, by omega, q⟩)
      (ev_p (ev_un ev_c ru_neg)) fun x y H1 _ ⟨p, ex, hp⟩ ey Q q => ?_).toEv) k
    subst ex
    subst ey
    exact ⟨p, _, -1, _, rfl, rfl, SqT.of hp, hv, q _ H1 (Ex.refl _) rfl⟩
end
end G
/-! greedycuts.longest, costs, smallest -/
namespace G
open PySem PySem.Spec PyProof.Rows L2 Evl

section
variable {P : Program} {w : World} {K : PySem.W.Frag} {mg : Str → Option Value} {base : Heap}
/-- a row of texts stands -/
abbrev RowV (l : List Wd) : V → Hp → Prop := fun v H1 => ∃ p, v = .ref p ∧ H1 p = some (.tup (l.map vS))
def sp_match_of : Sp := fun vs H Q _ => ∃ (x : V) (ws : WL) (t : Wd), vs = [x, vS t] ∧ RD H (wlD ws) x ∧ Valid ws ∧ t.length ≤ 100 ∧ Letters ws t ∧ RetP (RowV (longest ws t)) H Q
theorem sc_match_of : FnScope ["words", "text", "found", "at", "word"] ["words", "text"] (defScope s_match_of) := ⟨rfl, rfl, rfl, by decide +kernel, rfl, by decide +kernel, by decide +kernel⟩
theorem ok_match_of (T : Txt K mg w) : Ok P w K mg base 4 "match_of" ["words", "text"] sp_match_of := by
  have nd := sc_match_of.nd
  refine Ok.mk T.d_match_of sc_match_of (fun _ _ _ _ _ _ us hl => match us, hl with | [_, _], _ => rfl) (fun vs H Q E h => ?_) fun f cdv A outer s H vs Q E hr h => ?_
  · obtain ⟨_, _, _, rfl, _⟩ := h
    rfl
  · obtain ⟨x, ws, t, rfl, hx, hV, ht, hl, k⟩ := h
    refine ⟨_, (pss_cons (ps_set (i := 2) nd rfl (Or.inl rfl) (pe_lst pa_nil))
      (pss_cons (ps_set (i := 3) nd rfl (Or.inl rfl) pe_int)
      (pss_cons (ps_while PassesOwn.never (pt_cmpR op_lt (pv 3) (pe_callB call_len_str (by rfl) T.b_len PySem.boot_len (pa_cons (pv 1) pa_nil)) (nomark _)) (pss_cons (ps_set (i := 4) nd rfl (Or.inl rfl) (pe_fn (ok_longest_from T) hr (pa_cons (pv 0) (pa_cons (pv 1) (pa_cons (pv 3) pa_nil)))))
      (pss_cons (ps_expr (pe_bmK K rfl PySem.F.plainAttrs_list PySem.F.slot_list_append PySem.F.type_list_append mt_append (pv 2) (pa_cons (pv 4) pa_nil)))
      (pss_one (ps_set (i := 3) nd rfl (Or.inl rfl) (pe_op op_add (pv 3) (pe_callB call_len_str (by rfl) T.b_len PySem.boot_len (pa_cons (pv 4) pa_nil))))))))
      (pss_one (ps_ret (pe_callTy call_tuple_of (by rfl) T.b_tuple (by decide +kernel) (pa_cons (pv 2) pa_nil))))))), ?_⟩
    refine q_asgL (el_lst ea_nil (Nat.zero_le _)) fun p H1 hp e1 h1 => ?_
    refine q_asg ev_c fun H2 e2 => ?_
    refine q_while (fun m σ' H' => ∃ (done : List Wd) (at_ : Nat) (wv : Option V), m = t.length - at_ ∧ σ' = [some x, some (vS t), some (.ref p), some (.int (at_ : Int)), wv] ∧ Ex H H' ∧ H' p = some (.lst (done.map vS)) ∧ at_ ≤ t.length ∧ done.length ≤ at_ ∧ done ++ longest ws (t.drop at_) = longest ws t)
      t.length ⟨[], 0, none, rfl, rfl, e1.trans e2, e2 _ _ h1, Nat.zero_le _, Nat.le_refl _, rfl⟩ ?_
    rintro m σ' H' ⟨done, at_, wv, rfl, rfl, eH, hp', hat, hdl, hd⟩
    refine ⟨decide (at_ < t.length), et_is (et_test (ev_op (ev_var rfl) (ev_lenS (ev_var rfl) (by rw [S_len]; omega)) rv_I0)) (by rw [S_len, dec_lt]), fun hb H3 e3 => ?_, fun hb H3 e3 => ?_⟩
    · have hlt := of_decide_eq_true hb
      have hne : t.drop at_ ≠ [] := by
        intro q
        have := congrArg List.length q
        rw [List.length_drop] at this
        simp at this
        omega
      have hf := first_is hV hne (hl.drop at_)
      have hfl := mem_names_len hV hf.mem
      have hfp := hf.pre.length_le
      rw [List.length_drop] at hfp
      refine ⟨fun σ2 H2 => ∃ (done : List Wd) (at2 : Nat) (wv : Option V), at_ < at2 ∧ σ2 = [some x, some (vS t), some (.ref p), some (.int (at2 : Int)), wv] ∧ Ex H H2 ∧ H2 p = some (.lst (done.map vS)) ∧ at2 ≤ t.length ∧ done.length ≤ at2 ∧ done ++ longest ws (t.drop at2) = longest ws t,
        fun σ2 H2 ⟨done, at2, wv, h1, h2⟩ => ⟨t.length - at2, by omega, done, at2, wv, rfl, h2⟩, ?_⟩
      refine q_asg (ev_call (ea_cons (ev_var rfl) (ea_cons (ev_var rfl) (ea_cons (ev_var rfl) ea_nil))) fun H4 e4 Q q E => ⟨x, ws, t, at_, rfl, ((hx.ex eH).ex e3).ex e4, hV, by omega, hlt, hl, q⟩) fun H4 e4 => ?_
      have hp4 := e4 _ _ (e3 _ _ hp')
      refine q_app hp4 (ev_var rfl) (ev_var rfl) (by rw [List.length_map]; omega) fun H5 e5 => ?_
      refine s_asg (ev_op (ev_var rfl) (ev_lenS (ev_var rfl) (by rw [S_len]; omega)) rv_I0) fun H6 e6 => ?_
      refine ⟨done ++ [first ws (t.drop at_)], at_ + (first ws (t.drop at_)).length, some (vS (first ws (t.drop at_))), by omega, ?_, ?_, ?_, by omega, by rw [List.length_append, List.length_singleton]; omega, ?_⟩
      · rw [S_len]
        rfl
      · exact (Ex.mut (((eH.trans e3).trans e4).trans e5) hp).trans e6
      · have h6 := e6 _ _ (upd_same (H := H5) (a := p) (o := .lst (done.map vS ++ [vS (first ws (t.drop at_))])))
        rw [List.map_append]
        exact h6
      · rw [← hd, List.append_assoc, longest_cons hV hne (hl.drop at_), List.drop_drop]
        rfl
    · have hge := of_decide_eq_false hb
      have : t.drop at_ = [] := List.drop_eq_nil_of_le (by omega)
      rw [this, longest_nil, List.append_nil] at hd
      subst hd
      refine s_retP (evp_tupL (evl_of (ev_var rfl) (e3 _ _ hp'))) fun v H4 e4 hv => k v H4 ((eH.trans e3).trans e4) hv

def sp_check_text : Sp := fun vs H Q _ => ∃ (x : V) (ws : WL) (t : Wd), vs = [x, vS t] ∧ RD H (wlD ws) x ∧ Valid ws ∧ t.length ≤ 30 ∧ Letters ws t ∧ RetV .non H Q
theorem textB_yes {ws : WL} {t : Wd} (h1 : t.length ≤ 30) (h2 : Letters ws t) : textB ws (.str (S t)) = true := by
  show (decide ((S t).length ≤ 30) && (S t).cps.toList.all fun c => decide (c ∈ letters ws)) = true
  rw [S_len, S_list, decide_eq_true h1, List.all_eq_true.mpr]
  · rfl
  · intro c hc
    exact decide_eq_true (mem_letters.mpr (h2 c hc))
theorem sc_check_text : FnScope ["words", "text"] ["words", "text"] (defScope s_check_text) := ⟨rfl, rfl, rfl, by decide +kernel, rfl, by decide +kernel, by decide +kernel⟩
theorem ok_check_text (T : Txt K mg w) : Ok P w K mg base 6 "check_text" ["words", "text"] sp_check_text := by
  have nd := sc_check_text.nd
  refine Ok.mk T.d_check_text sc_check_text (fun _ _ _ _ _ _ us hl => match us, hl with | [_, _], _ => rfl) (fun vs H Q E h => ?_) fun f cdv A outer s H vs Q E hr h => ?_
  · obtain ⟨_, _, _, rfl, _⟩ := h
    rfl
  · obtain ⟨x, ws, t, rfl, hx, hV, ht, hl, k⟩ := h
    refine ⟨_, (pss_cons (ps_if (pt_not (pt_val (pe_fn (ok_is_list T) hr (pa_cons (pv 0) pa_nil)))) (pss_one ps_never) pss_nil)
      (pss_one (ps_if (pt_not (pt_val (pe_fn (ok_is_text T) hr (pa_cons (pv 0) (pa_cons (pv 1) pa_nil))))) (pss_one ps_never) pss_nil))), ?_⟩
    refine q_skip (et_not (et_B (b := true) (ev_call (ea_cons (ev_var rfl) ea_nil) fun H1 e1 Q q E => ⟨x, ws, rfl, hx.ex e1, hV, q⟩))) fun H1 e1 => ?_
    refine s_no (et_not (et_B (b := true) (ev_call (ea_cons (ev_var rfl) (ea_cons (ev_var rfl) ea_nil)) fun H2 e2 Q q E => ⟨x, _, ws, .str (S t), rfl, (hx.ex e1).ex e2, hV, .str _, by show (S t).length ≤ 100; rw [S_len]; omega, by rw [textB_yes ht hl]; exact q⟩))) fun H2 e2 => k H2 (e1.trans e2)

/-! ### change_of: what it tells does not matter here -/
def sp_alike : Sp := fun vs H Q _ => ∃ (a b : Addr) (us ts : List Wd), vs = [.ref a, .ref b] ∧ H a = some (.tup (us.map vS)) ∧ H b = some (.tup (ts.map vS)) ∧ RetP (fun v _ => ∃ m : Nat, v = .int (m : Int) ∧ m ≤ us.length ∧ m ≤ ts.length) H Q
theorem sc_alike_ahead : FnScope ["old", "new", "many"] ["old", "new"] (defScope s_alike_ahead) := ⟨rfl, rfl, rfl, by decide +kernel, rfl, by decide +kernel, by decide +kernel⟩
theorem ok_alike_ahead (T : Txt K mg w) : Ok P w K mg base 1 "alike_ahead" ["old", "new"] sp_alike := by
  have nd := sc_alike_ahead.nd
  refine Ok.mk T.d_alike_ahead sc_alike_ahead (fun _ _ _ _ _ _ us hl => match us, hl with | [_, _], _ => rfl) (fun vs H Q E h => ?_) fun f cdv A outer s H vs Q E hr h => ?_
  · obtain ⟨_, _, _, _, rfl, _⟩ := h
    rfl
  · obtain ⟨a, b, us, ts, rfl, ha, hb, k⟩ := h
    refine ⟨_, (pss_cons (ps_set (i := 2) nd rfl (Or.inl rfl) pe_int)
      (pss_cons (ps_while PassesOwn.never (PW.pt (pw_and (pt_cmpR op_lt (pv 2) (pe_callB (call_min2 rfl) (by rfl) T.b_min (by decide +kernel) (pa_cons (pe_callB (call_lenK K rfl) (by rfl) T.b_len PySem.boot_len (pa_cons (pv 0) pa_nil)) (pa_cons (pe_callB (call_lenK K rfl) (by rfl) T.b_len PySem.boot_len (pa_cons (pv 1) pa_nil)) pa_nil))) (nomark _)) (pw_and1 (pt_cmpR op_eq (pe_ix (ix_tupK K rfl) (pv 0) (pv 2) (fun _ _ => rfl)) (pe_ix (ix_tupK K rfl) (pv 1) (pv 2) (fun _ _ => rfl)) (nomark _))))) (pss_one (ps_set (i := 2) nd rfl (Or.inl rfl) (pe_op op_add (pv 2) pe_int))))
      (pss_one (ps_ret (pv 2))))), ?_⟩
    refine q_asg ev_c fun H1 e1 => ?_
    refine q_while (fun m σ' H' => ∃ i : Nat, m = us.length - i ∧ σ' = [some (.ref a), some (.ref b), some (.int (i : Int))] ∧ Ex H H' ∧ i ≤ us.length ∧ i ≤ ts.length) us.length ⟨0, rfl, rfl, e1, Nat.zero_le _, Nat.zero_le _⟩ ?_
    rintro m σ' H' ⟨i, rfl, rfl, eH, h1, h2⟩
    have ha' := eH _ _ ha
    have hb' := eH _ _ hb
    refine ⟨_, et_and (et_test (ev_op (ev_var rfl) (ev_min2 (ev_lenT (ev_var rfl) ha') (ev_lenT (ev_var rfl) hb')) rv_I0)) (fun hc => et_test (ev_op (ev_ixT (i := i) (v := vS (us.getD i [])) (ev_var rfl) ha' (ev_var rfl) ?_) (ev_ixT (i := i) (v := vS (ts.getD i [])) (ev_var rfl) hb' (ev_var rfl) ?_) (rv_eq rfl))), fun hc H2 e2 => ?_, fun hc H2 e2 => ?_⟩
    · rw [List.length_map, List.length_map] at hc
      have := of_decide_eq_true hc
      have hi : i < us.length := by split at this <;> omega
      rw [List.getElem?_map, List.getElem?_eq_getElem hi, List.getD_eq_getElem?_getD, List.getElem?_eq_getElem hi] <;> rfl
    · rw [List.length_map, List.length_map] at hc
      have := of_decide_eq_true hc
      have hi : i < ts.length := by split at this <;> omega
      rw [List.getElem?_map, List.getElem?_eq_getElem hi, List.getD_eq_getElem?_getD, List.getElem?_eq_getElem hi] <;> rfl
    · rw [Bool.and_eq_true, List.length_map, List.length_map] at hc
      have := of_decide_eq_true hc.1
      have hi : i < us.length ∧ i < ts.length := by split at this <;> omega
      refine ⟨fun σ2 H2 => σ2 = [some (.ref a), some (.ref b), some (.int ((i + 1 : Nat) : Int))] ∧ Ex H H2, fun σ2 H2 ⟨h3, h4⟩ => ⟨us.length - (i + 1), by omega, i + 1, rfl, h3, h4, by omega, by omega⟩, ?_⟩
      exact s_asg (ev_op (ev_var rfl) ev_c rv_I0) fun H3 e3 => ⟨rfl, (eH.trans e2).trans e3⟩
    · exact s_ret (ev_var rfl) fun H3 e3 => k _ H3 ((eH.trans e2).trans e3) ⟨i, rfl, h1, h2⟩

def sp_change : Sp := fun vs H Q _ => ∃ (a b : Addr) (us ts : List Wd), vs = [.ref a, .ref b] ∧ H a = some (.tup (us.map vS)) ∧ H b = some (.tup (ts.map vS)) ∧ RetP (fun _ _ => True) H Q
theorem cut_map (l : List Wd) (i : Nat) : cutV (l.map vS) (some (i : Int)) none = (l.drop i).map vS := by rw [cutV_from, List.map_drop]
theorem sc_change_of : FnScope ["old", "new", "start", "end"] ["old", "new"] (defScope s_change_of) := ⟨rfl, rfl, rfl, by decide +kernel, rfl, by decide +kernel, by decide +kernel⟩
theorem ok_change_of (T : Txt K mg w) : Ok P w K mg base 2 "change_of" ["old", "new"] sp_change := by
  have nd := sc_change_of.nd
  refine Ok.mk T.d_change_of sc_change_of (fun _ _ _ _ _ _ us hl => match us, hl with | [_, _], _ => rfl) (fun vs H Q E h => ?_) fun f cdv A outer s H vs Q E hr h => ?_
  · obtain ⟨_, _, _, _, rfl, _⟩ := h
    rfl
  · obtain ⟨a, b, us, ts, rfl, ha, hb, k⟩ := h
    refine ⟨_, (pss_cons (ps_set (i := 2) nd rfl (Or.inl rfl) (pe_fn (ok_alike_ahead T) hr (pa_cons (pv 0) (pa_cons (pv 1) pa_nil))))
      (pss_cons (ps_set (i := 3) nd rfl (Or.inl rfl) (pe_fn (ok_alike_ahead T) hr (pa_cons (pe_revT (pe_slice (sl_tupK K rfl) (pv 0) (po_some (pv 2)) po_none)) (pa_cons (pe_revT (pe_slice (sl_tupK K rfl) (pv 1) (po_some (pv 2)) po_none)) pa_nil))))
      (pss_one (ps_ret (pe_tup (pa_cons (pv 2) (pa_cons (pe_op op_sub (pe_op op_sub (pe_callB (call_lenK K rfl) (by rfl) T.b_len PySem.boot_len (pa_cons (pv 0) pa_nil)) (pv 2)) (pv 3)) (pa_cons (pe_slice (sl_tupK K rfl) (pv 1) (po_some (pv 2)) (po_some (pe_op op_sub (pe_callB (call_lenK K rfl) (by rfl) T.b_len PySem.boot_len (pa_cons (pv 1) pa_nil)) (pv 3)))) pa_nil)))))))), ?_⟩
    refine q_asgP (evp_call (ea_cons (ev_var rfl) (ea_cons (ev_var rfl) ea_nil)) fun H1 e1 Q q E => ⟨a, b, us, ts, rfl, e1 _ _ ha, e1 _ _ hb, q⟩) fun v H1 e1 ⟨i, ev, hi1, hi2⟩ => ?_
    subst ev
    have mon : ∀ l : List V, Mon (fun v H1 => ∃ p, v = .ref p ∧ H1 p = some (.tup l)) := fun l v H H' e ⟨p, h1, h2⟩ => ⟨p, h1, e _ _ h2⟩
    refine q_asgP (evp_callP (P := fun v _ => ∃ m : Nat, v = .int (m : Int) ∧ m ≤ (us.drop i).length ∧ m ≤ (ts.drop i).length) (eap_cons (mon _) (evp_rev (evp_slT (ev_var rfl) (e1 _ _ ha) (eo_some (ev_var rfl)) eo_none)) (eap_one (evp_rev (evp_slT (ev_var rfl) (e1 _ _ hb) (eo_some (ev_var rfl)) eo_none)))) fun vs H2 e2 ⟨v1, us1, ev1, ⟨p1, ep1, hp1⟩, v2, ev2, p2, ep2, hp2⟩ => ?_) fun v H2 e2 ⟨j, ev, hj1, hj2⟩ => ?_
    · subst ep1 ep2 ev2 ev1
      intro H3 e3 Q q E
      rw [cut_map, ← List.map_reverse] at hp1 hp2
      refine ⟨p1, p2, _, _, rfl, e3 _ _ hp1, e3 _ _ hp2, fun v H4 e4 ⟨m, em, h1, h2⟩ => q v H4 e4 ⟨m, em, ?_, ?_⟩⟩
      · rw [List.length_reverse] at h1; exact h1
      · rw [List.length_reverse] at h2; exact h2
    · subst ev
      have ha2 := e2 _ _ (e1 _ _ ha)
      have hb2 := e2 _ _ (e1 _ _ hb)
      refine s_retP (evp_tup (PA := fun vs _ => vs.length = 3) (fun _ _ _ _ h => h) (fun H3 e3 Q q => ?_) (fun vs _ h => by rw [h]; decide)) fun v H3 e3 _ => k v H3 ((e1.trans e2).trans e3) trivial
      refine ev_at (ev_var rfl) e3 fun H4 e4 => ?_
      refine ev_at (ev_op (ev_op (ev_lenT (ev_var rfl) ha2) (ev_var rfl) rv_I0) (ev_var rfl) rv_I0) (e3.trans e4) fun H5 e5 => ?_
      refine (evp_slT (ev_var rfl) hb2 (eo_some (ev_var rfl)) (eo_some (ev_op (ev_lenT (ev_var rfl) hb2) (ev_var rfl) rv_I0))).at ((e3.trans e4).trans e5) fun v H6 e6 _ => ?_
      exact q _ _ ((e4.trans e5).trans e6) rfl
end
end G
/-! Commands in plain Lean: their form, whether they are possible, what stands behind them. -/
namespace G
open PySem
inductive Cmd where
  | ins (i : Nat) (p : Wd)
  | rem (i j : Nat)
  | rep (i j : Nat) (p : Wd)
  | add (u : Wd) (c : Int)
  | drop (u : Wd)
def cmdD : Cmd → PyData
  | .ins i p => .tuple [.str "insert", .int i, .str (S p)]
  | .rem i j => .tuple [.str "remove", .int i, .int j]
  | .rep i j p => .tuple [.str "replace", .int i, .int j, .str (S p)]
  | .add u c => .tuple [.str "add", .str (S u), .int c]
  | .drop u => .tuple [.str "drop", .str (S u)]
/-- the command of a right form that a value is -/
def decA (ws : WL) (t : Wd) (z : Str) (as : List PyData) : Option Cmd :=
  if z = "add" then (match as with
    | [.str u, .int c] => if (wordB (.str u) && btw (.int c) 1 9) = true then some (.add u.cps.toList c) else none
    | _ => none)
  else if z = "drop" then (match as with
    | [.str u] => some (.drop u.cps.toList)
    | _ => none)
  else if z = "insert" then (match as with
    | [.int i, .str p] => if (btw (.int i) 0 t.length && textB ws (.str p)) = true then some (.ins i.toNat p.cps.toList) else none
    | _ => none)
  else if z = "remove" then (match as with
    | [.int i, .int j] => if (btw (.int i) 0 t.length && btw (.int j) i t.length) = true then some (.rem i.toNat j.toNat) else none
    | _ => none)
  else if z = "replace" then (match as with
    | [.int i, .int j, .str p] => if ((btw (.int i) 0 t.length && btw (.int j) i t.length) && textB ws (.str p)) = true then some (.rep i.toNat j.toNat p.cps.toList) else none
    | _ => none)
  else none
def dec (ws : WL) (t : Wd) : PyData → Option Cmd
  | .tuple (.str z :: as) => decA ws t z as
  | _ => none
theorem n_add_drop : ¬ (("drop" : Str) = "add") := by decide +kernel
theorem n_ins_add : ¬ (("insert" : Str) = "add") := by decide +kernel
theorem n_ins_drop : ¬ (("insert" : Str) = "drop") := by decide +kernel
theorem n_rem_add : ¬ (("remove" : Str) = "add") := by decide +kernel
theorem n_rem_drop : ¬ (("remove" : Str) = "drop") := by decide +kernel
theorem n_rem_ins : ¬ (("remove" : Str) = "insert") := by decide +kernel
theorem n_rep_add : ¬ (("replace" : Str) = "add") := by decide +kernel
theorem n_rep_drop : ¬ (("replace" : Str) = "drop") := by decide +kernel
theorem n_rep_ins : ¬ (("replace" : Str) = "insert") := by decide +kernel
theorem n_rep_rem : ¬ (("replace" : Str) = "remove") := by decide +kernel
theorem n_mov_add : ¬ (("move" : Str) = "add") := by decide +kernel
theorem n_mov_drop : ¬ (("move" : Str) = "drop") := by decide +kernel
theorem n_mov_ins : ¬ (("move" : Str) = "insert") := by decide +kernel
theorem n_mov_rem : ¬ (("move" : Str) = "remove") := by decide +kernel
theorem n_mov_rep : ¬ (("move" : Str) = "replace") := by decide +kernel
section
variable (ws : WL) (t : Wd) (d1 d2 d3 : PyData)
theorem dec_ins : (decA ws t "insert" [d1, d2]).isSome = (btw d1 0 t.length && textB ws d2) := by
  unfold decA
  rw [if_neg n_ins_add, if_neg n_ins_drop, if_pos rfl]
  cases d1 <;> (try rfl)
  cases d2 <;> (try (simp [textB]; done))
  dsimp only
  split
  · rename_i h; rw [h]; rfl
  · rename_i h; rw [Bool.not_eq_true] at h; rw [h]; rfl
def btwD : PyData → PyData → Int → Bool
  | .int i, d, n => btw d i n
  | _, _, _ => false
theorem dec_rem : (decA ws t "remove" [d1, d2]).isSome = (btw d1 0 t.length && btwD d1 d2 t.length) := by
  unfold decA
  rw [if_neg n_rem_add, if_neg n_rem_drop, if_neg n_rem_ins, if_pos rfl]
  cases d1 <;> (try rfl)
  cases d2 <;> (try (simp [btwD, btw]; done))
  dsimp only
  split
  · rename_i h; rw [show btwD (.int _) (.int _) _ = btw (.int _) _ _ from rfl, h]; rfl
  · rename_i h; rw [Bool.not_eq_true] at h; rw [show btwD (.int _) (.int _) _ = btw (.int _) _ _ from rfl, h]; rfl
theorem dec_rep : (decA ws t "replace" [d1, d2, d3]).isSome = ((btw d1 0 t.length && btwD d1 d2 t.length) && textB ws d3) := by
  unfold decA
  rw [if_neg n_rep_add, if_neg n_rep_drop, if_neg n_rep_ins, if_neg n_rep_rem, if_pos rfl]
  cases d1 <;> (try rfl)
  cases d2 <;> (try (simp [btwD, btw]; done))
  cases d3 <;> (try (simp [textB]; done))
  dsimp only
  split
  · rename_i h; rw [show btwD (.int _) (.int _) _ = btw (.int _) _ _ from rfl, h]; rfl
  · rename_i h; rw [Bool.not_eq_true] at h; rw [show btwD (.int _) (.int _) _ = btw (.int _) _ _ from rfl, h]; rfl
theorem dec_add : (decA ws t "add" [d1, d2]).isSome = (wordB d1 && btw d2 1 9) := by
  unfold decA
  rw [if_pos rfl]
  cases d1 <;> (try rfl)
  cases d2 <;> (try (simp [btw]; done))
  dsimp only
  split
  · rename_i h; rw [h]; rfl
  · rename_i h; rw [Bool.not_eq_true] at h; rw [h]; rfl
theorem dec_drop : (decA ws t "drop" [d1]).isSome = dStr d1 := by
  unfold decA
  rw [if_neg n_add_drop, if_pos rfl]
  cases d1 <;> rfl
theorem dec_move (as : List PyData) : decA ws t "move" as = none := by
  unfold decA
  rw [if_neg n_mov_add, if_neg n_mov_drop, if_neg n_mov_ins, if_neg n_mov_rem, if_neg n_mov_rep]
end

/-! ### what stands behind -/
def editW (t : Wd) : Cmd → Wd
  | .ins i p => t.take i ++ p ++ t.drop i
  | .rem i j => t.take i ++ [] ++ t.drop j
  | .rep i j p => t.take i ++ p ++ t.drop j
  | _ => t
def leW (a b : Ent) : Bool := !lexW b a
def sortW (l : WL) : WL := l.mergeSort leW
def behindS (ws : WL) (t : Wd) : Cmd → WL × Wd
  | .add u c => (sortW (ws ++ [(u, c)]), t)
  | .drop u => (ws.filter fun e => !decide (e.1 = u), t)
  | c => (ws, editW t c)
def possB (ws : WL) (t : Wd) : Cmd → Bool
  | .add u _ => (!decide (u ∈ names ws) && !(decide (1 < u.length) && !(u.all fun c => decide ([c] ∈ names ws)))) && !decide (ws.length = 8)
  | .drop u => (decide (u ∈ names ws) && !decide ((names ws).length = 1)) && !(decide (u.length = 1) && ((t :: names ws).filter fun o => (!decide (o = u) || decide (o = t))).any fun o => decide (u.headD 0 ∈ o))
  | c => !decide (30 < (editW t c).length)

/-! ### sorting -/
theorem lexW_total {a b : Ent} (h1 : lexW a b = false) (h2 : lexW b a = false) : a = b := by
  rw [lexW_no] at h1 h2
  have e1 : a.1 = b.1 := List.le_antisymm (List.not_lt.mp fun q => h2 (.inl q)) (List.not_lt.mp fun q => h1 (.inl q))
  have e2 : ¬ a.2 < b.2 := fun q => h1 (.inr ⟨e1, q⟩)
  have e3 : ¬ b.2 < a.2 := fun q => h2 (.inr ⟨e1.symm, q⟩)
  exact Prod.ext e1 (by omega)
abbrev SrtW (l : WL) : Prop := l.Pairwise fun x y => lexW y x = false
theorem srt_uniq : ∀ {l m : WL}, SrtW l → SrtW m → l.Perm m → l = m
  | [], m, _, _, h => (List.Perm.eq_nil h.symm).symm
  | x :: l, [], _, _, h => absurd h.length_eq (by simp)
  | x :: l, y :: m, hl, hm, h => by
    obtain ⟨l1, l2⟩ := List.pairwise_cons.mp hl
    obtain ⟨m1, m2⟩ := List.pairwise_cons.mp hm
    have irr : ∀ z : Ent, lexW z z = false := fun z => by
      rw [lexW_no]
      rintro (q | ⟨_, q⟩)
      · exact List.lt_irrefl _ q
      · omega
    have h1 : lexW x y = false := by
      rcases List.mem_cons.mp (h.mem_iff.mp (List.mem_cons_self (a := x) (l := l))) with e | hx
      · rw [e]; exact irr y
      · exact m1 x hx
    have h2 : lexW y x = false := by
      rcases List.mem_cons.mp (h.mem_iff.mpr (List.mem_cons_self (a := y) (l := m))) with e | hy
      · rw [e]; exact irr x
      · exact l1 y hy
    have e := lexW_total h1 h2
    subst e
    rw [srt_uniq l2 m2 h.cons_inv]
theorem sortW_perm (l : WL) : (sortW l).Perm l := List.mergeSort_perm l leW
theorem sortW_srt (l : WL) : SrtW (sortW l) := by
  have h := List.pairwise_mergeSort (le := leW) (fun a b c h1 h2 => ?_) (fun a b => ?_) l
  · refine List.Pairwise.imp ?_ h
    intro a b hab
    unfold leW at hab
    simpa using hab
  · unfold leW at *
    rw [Bool.not_eq_true'] at *
    exact lexW_tr h1 h2
  · unfold leW
    by_cases h : lexW b a = true
    · rw [lexW_asym h, h]; rfl
    · rw [Bool.not_eq_true] at h
      rw [h]; rfl
theorem sortW_eq {l m : WL} (h1 : SrtW m) (h2 : m.Perm l) : m = sortW l := srt_uniq h1 (sortW_srt l) (h2.trans (sortW_perm l).symm)
end G
/-! greedycuts.desk: commands of a right form -/
namespace G
open PySem PySem.Spec PyProof.Rows L2 Evl

section
variable {P : Program} {w : World} {K : PySem.W.Frag} {mg : Str → Option Value} {base : Heap}
theorem sc_between2 : FnScope ["value", "low", "high"] ["value", "low", "high"] (defScope s_is_between_desk) := ⟨rfl, rfl, rfl, by decide +kernel, rfl, by decide +kernel, by decide +kernel⟩
theorem ok_is_between_desk (T : Txt K mg w) : Ok P w K mg base 1 "is_between_desk" ["value", "low", "high"] sp_between := by
  have nd := sc_between2.nd
  refine Ok.mk T.d_is_between_desk sc_between2 (fun _ _ _ _ _ _ us hl => match us, hl with | [_, _, _], _ => rfl) (fun vs H Q E h => ?_) fun f cdv A outer s H vs Q E hr h => ?_
  · obtain ⟨x, d, lo, hi, rfl, _⟩ := h
    rfl
  · obtain ⟨x, d, lo, hi, rfl, hd, k⟩ := h
    refine ⟨_, (pss_one (ps_ret (pe_and (pe_callB call_isi (by rfl) T.b_isinstance (by decide +kernel) (pa_cons (pv 0) (pa_cons (pe_tyb "int" T.b_int) pa_nil))) (pe_and (pe_not (pe_callB call_isi (by rfl) T.b_isinstance (by decide +kernel) (pa_cons (pv 0) (pa_cons (pe_tyb "bool" T.b_bool) pa_nil)))) (pe_one (pe_chain op_le op_le (pv 1) (pv 0) (pv 2))))))), ?_⟩
    refine s_ret (v := .bl (btw d lo hi)) ?_ fun H1 e => k H1 e
    cases hd with
    | non => exact ev_is (ev_andV (b := false) (isi_int (ev_var rfl) .non) fun h => Bool.noConfusion h) rfl
    | bl b => exact ev_is (ev_andV (b := false) (isi_int (ev_var rfl) (.bl b)) fun h => ev_is (ev_andV (b := false) (ev_notV (isi_bool (ev_var rfl) (.bl b))) fun h => Bool.noConfusion h) rfl) rfl
    | str b => exact ev_is (ev_andV (b := false) (isi_int (ev_var rfl) (.str b)) fun h => Bool.noConfusion h) rfl
    | tup h1 h2 => exact ev_is (ev_andV (b := false) (isi_int (ev_var rfl) (.tup h1 h2)) fun h => Bool.noConfusion h) rfl
    | lst h1 => exact ev_is (ev_andV (b := false) (isi_int (ev_var rfl) (.lst h1)) fun h => Bool.noConfusion h) rfl
    | obj h1 => exact ev_is (ev_andV (b := false) (isi_int (ev_var rfl) (.obj h1)) fun h => Bool.noConfusion h) rfl
    | int i => exact ev_is (ev_andV (isi_int (ev_var rfl) (.int i)) fun h => ev_andV (ev_notV (isi_bool (ev_var rfl) (.int i))) fun h => ev_chain (ev_var rfl) (ev_var rfl) rv_I0 (ev_var rfl) rv_I0) rfl
theorem sc_is_new_word : FnScope ["value", "letter"] ["value"] (defScope s_is_new_word) := ⟨rfl, rfl, rfl, by decide +kernel, rfl, by decide +kernel, by decide +kernel⟩
theorem ok_is_new_word (T : Txt K mg w) : Ok P w K mg base 1 "is_new_word" ["value"] sp_word := by
  have nd := sc_is_new_word.nd
  refine Ok.mk T.d_is_new_word sc_is_new_word (fun _ _ _ _ _ _ us hl => match us, hl with | [_], _ => rfl) (fun vs H Q E h => ?_) fun f cdv A outer s H vs Q E hr h => ?_
  · obtain ⟨x, d, rfl, _⟩ := h
    rfl
  · obtain ⟨x, d, rfl, hd, hz, k⟩ := h
    refine ⟨_, (pss_cons (ps_if (PW.pt (pw_or (pt_not (pt_val (pe_callB call_isi (by rfl) T.b_isinstance (by decide +kernel) (pa_cons (pv 0) (pa_cons (pe_tyb "str" T.b_str) pa_nil))))) (pw_or1 (pt_not (pt_chain op_le op_le pe_int (pe_callB call_len_str (by rfl) T.b_len PySem.boot_len (pa_cons (pv 0) pa_nil)) (pe_gint T.c_MOST_WORD)))))) (pss_one (ps_ret pe_bl)) pss_nil)
      (pss_one (ps_ret (pe_callB (cr_all rfl) (by rfl) T.b_all (by decide +kernel) (pa_cons (pe_lc (own := [("letter", 1)]) (by rfl) nd (pi_str (pv 0)) (blkOk_by (N := ["value", "letter"]) (sc := defScope s_is_new_word) (by decide +kernel)) (fun _ _ _ _ _ => (pg_name (i := 1) nd rfl (Or.inl rfl))) (fun _ _ _ _ _ => pts_nil) (fun _ _ _ _ _ => (pe_cmpR op_in_sign (pv 1) (pe_gstr T.c_LETTERS) (by rfl)))) pa_nil))))), ?_⟩
    have no : dStr d = false → wordB d = false := by cases d <;> intro h <;> first | rfl | cases h
    cases hs : dStr d with
    | false =>
      refine q_yes (et_is (et_or (b := true) (et_not (et_B (isi_str (ev_var rfl) hd))) (fun h => by rw [hs] at h; cases h)) (by rw [hs] <;> rfl)) fun H1 e => ?_
      exact s_ret ev_c fun H2 e2 => by rw [← no hs]; exact k H2 (e.trans e2)
    | true =>
      cases hd <;> try cases hs
      rename_i z
      have hz' : z.length ≤ 1000 := Nat.le_trans (show z.length ≤ 100 from hz) (by decide)
      refine q_if (et_or (et_not (et_B (isi_str (ev_var rfl) (.str z)))) fun _ => et_not (et_test (ev_chain ev_c (ev_lenS (ev_var rfl) (by omega)) rv_I0 ev_c rv_I0))) (fun hb H1 e => ?_) fun hb H1 e => ?_
      · refine s_ret ev_c fun H2 e2 => ?_
        have q := k H2 (e.trans e2)
        have : wordB (.str z) = false := by
          show ((_ && _) && _) = false
          rw [len_cps]
          have hb' : (decide ((1 : Int) ≤ (z.length : Int)) && decide ((z.length : Int) ≤ 4)) = false := orN hb
          have h1 := dec_nat 1 z.length
          have h2 := dec_nat z.length 4
          rw [show (decide (1 ≤ z.length) && decide (z.length ≤ 4)) = false by rw [← h1, ← h2]; exact hb']
          rfl
        rw [this] at q
        exact q
      · refine s_ret (v := .bl (z.cps.toList.all fun c => decide (c ∈ alphaL))) (ev_allC (fv := fun c => V.str ⟨#[c]⟩) (fun c => decide (c ∈ alphaL)) (ei_str (ev_var rfl)) (by rw [len_cps]; omega) fun c _ => ⟨_, bnd_name, rfl, ?_⟩) fun H2 e2 => ?_
        · refine ev_op (ev_var rfl) ev_c ?_
          rw [alpha_eq]
          exact rv_in
        · have q := k H2 (e.trans e2)
          have : wordB (.str z) = z.cps.toList.all fun c => decide (c ∈ alphaL) := by
            show ((_ && _) && _) = _
            rw [len_cps]
            have hb' : (decide ((1 : Int) ≤ (z.length : Int)) && decide ((z.length : Int) ≤ 4)) = true := orY hb
            have h1 := dec_nat 1 z.length
            have h2 := dec_nat z.length 4
            rw [show (decide (1 ≤ z.length) && decide (z.length ≤ 4)) = true by rw [← h1, ← h2]; exact hb']
            rfl
          rw [this] at q
          exact q

theorem dec_vstr (a b : Str) : decide (V.str a = V.str b) = decide (a = b) := by
  by_cases h : a = b
  · subst h; simp
  · rw [decide_eq_false h, decide_eq_false fun q => h (V.str.inj q)]
/-- the parts of an edit: the index, and the text or the second index, and the text -/
def sp_is_edit : Sp := fun vs H Q _ => ∃ (x : V) (ws : WL) (t : Wd) (a : Addr) (z : Str) (xs : List V) (ds : List PyData), vs = [x, vS t, .ref a] ∧ RD H (wlD ws) x ∧ Valid ws ∧ t.length ≤ 1000 ∧ H a = some (.tup (.str z :: xs)) ∧ RLs H ds xs ∧ (∀ d ∈ ds, small d) ∧
  ((z = "insert" ∧ ds.length = 2) ∨ (z = "remove" ∧ ds.length = 2) ∨ (z = "replace" ∧ ds.length = 3)) ∧ RetV (.bl (decA ws t z ds).isSome) H Q
theorem sc_is_edit : FnScope ["words", "text", "value"] ["words", "text", "value"] (defScope s_is_edit) := ⟨rfl, rfl, rfl, by decide +kernel, rfl, by decide +kernel, by decide +kernel⟩
theorem ok_is_edit (T : Txt K mg w) : Ok P w K mg base 6 "is_edit" ["words", "text", "value"] sp_is_edit := by
  have nd := sc_is_edit.nd
  refine Ok.mk T.d_is_edit sc_is_edit (fun _ _ _ _ _ _ us hl => match us, hl with | [_, _, _], _ => rfl) (fun vs H Q E h => ?_) fun f cdv A outer s H vs Q E hr h => ?_
  · obtain ⟨_, _, _, _, _, _, _, rfl, _⟩ := h
    rfl
  · obtain ⟨x, ws, t, a, z, xs, ds, rfl, hx, hV, ht, ha, hs, hm, hz, k⟩ := h
    refine ⟨_, (pss_cons (ps_if (pt_cmpR op_eq (pe_ix (ix_tupK K rfl) (pv 2) pe_int (fun _ _ => rfl)) pe_str (nomark _)) (pss_one (ps_ret (pe_and (pe_fn (ok_is_between_desk T) hr (pa_cons (pe_ix (ix_tupK K rfl) (pv 2) pe_int (fun _ _ => rfl)) (pa_cons pe_int (pa_cons (pe_callB call_len_str (by rfl) T.b_len PySem.boot_len (pa_cons (pv 1) pa_nil)) pa_nil)))) (pe_one (pe_fn (ok_is_text T) hr (pa_cons (pv 0) (pa_cons (pe_ix (ix_tupK K rfl) (pv 2) pe_int (fun _ _ => rfl)) pa_nil))))))) pss_nil)
      (pss_cons (ps_if (PW.pt (pw_or (pt_not (pt_val (pe_fn (ok_is_between_desk T) hr (pa_cons (pe_ix (ix_tupK K rfl) (pv 2) pe_int (fun _ _ => rfl)) (pa_cons pe_int (pa_cons (pe_callB call_len_str (by rfl) T.b_len PySem.boot_len (pa_cons (pv 1) pa_nil)) pa_nil)))))) (pw_or1 (pt_not (pt_val (pe_fn (ok_is_between_desk T) hr (pa_cons (pe_ix (ix_tupK K rfl) (pv 2) pe_int (fun _ _ => rfl)) (pa_cons (pe_ix (ix_tupK K rfl) (pv 2) pe_int (fun _ _ => rfl)) (pa_cons (pe_callB call_len_str (by rfl) T.b_len PySem.boot_len (pa_cons (pv 1) pa_nil)) pa_nil))))))))) (pss_one (ps_ret pe_bl)) pss_nil)
      (pss_one (ps_ret (pe_or (pe_cmpR op_eq (pe_ix (ix_tupK K rfl) (pv 2) pe_int (fun _ _ => rfl)) pe_str (nomark _)) (pe_one (pe_fn (ok_is_text T) hr (pa_cons (pv 0) (pa_cons (pe_ix (ix_tupK K rfl) (pv 2) pe_int (fun _ _ => rfl)) pa_nil))))))))), ?_⟩
    have e0 : ∀ {H1 : Hp}, Ex H H1 → Ev (tOp rEq (tOp (rIxT K) (tVar 2) (tC (.int 0))) (tC (.str "insert"))) (L2.start ["words", "text", "value"] [x, vS t, .ref a]) H1 (.bl (decide (z = "insert"))) := fun e1 =>
      ev_is (ev_op (ev_ixT (i := 0) (ev_var rfl) (e1 _ _ ha) ev_c rfl) ev_c (rv_eq rfl)) (by rw [dec_vstr])
    -- is_between_desk(value[1], 0, len(text))
    have b1 : ∀ {d1 : PyData} {x1 : V} {xr : List V} {H1 : Hp}, xs = x1 :: xr → RL H d1 x1 → Ex H H1 → Ev (tCall sp_between [] E0 (tCons (tOp (rIxT K) (tVar 2) (tC (.int 1))) (tCons (tC (.int 0)) (tCons (tCB (fun xs H Q => ∃ z, xs = [.str z] ∧ z.length ≤ sizeLine ∧ Q (.int z.length) H) (tCons (tVar 1) tNil)) tNil)))) (L2.start ["words", "text", "value"] [x, vS t, .ref a]) H1 (.bl (btw d1 0 t.length)) := fun {d1 x1 xr H1} he h1 e1 => by
      subst he
      exact ev_call (ea_cons (ev_ixT (i := 1) (ev_var rfl) (e1 _ _ ha) ev_c rfl) (ea_cons ev_c (ea_cons (ev_lenS (ev_var rfl) (by rw [S_len]; omega)) ea_nil))) fun H2 e2 Q q E => ⟨x1, d1, 0, (t.length : Int), by rw [S_len]; rfl, (h1.ex e1).ex e2, q⟩
    rcases hz with ⟨rfl, hl⟩ | hz
    · match ds, hl, hs with
      | [d1, d2], _, hs =>
        obtain ⟨x1, r1, rfl, h1, hs⟩ := hs.cons_inv
        obtain ⟨x2, r2, rfl, h2, hs⟩ := hs.cons_inv
        cases hs.nil_inv
        rw [dec_ins] at k
        refine q_yes (et_is (et_test (e0 (Ex.refl _))) (decide_eq_true rfl)) fun H1 e1 => ?_
        refine s_ret (v := .bl (btw d1 0 t.length && textB ws d2)) (ev_andV (b1 rfl h1 e1) fun _ => ev_call (ea_cons (ev_var rfl) (ea_cons (ev_ixT (i := 2) (ev_var rfl) (e1 _ _ ha) ev_c rfl) ea_nil)) fun H2 e2 Q q E => ⟨x, x2, ws, d2, rfl, (hx.ex e1).ex e2, hV, (h2.ex e1).ex e2, hm d2 (by simp), q⟩) fun H2 e2 => k H2 (e1.trans e2)
    · have hne : ¬ z = "insert" := by
        rcases hz with ⟨rfl, _⟩ | ⟨rfl, _⟩
        · exact n_rem_ins
        · exact n_rep_ins
      obtain ⟨d1, d2, dr, rfl⟩ : ∃ d1 d2 dr, ds = d1 :: d2 :: dr := by
        rcases hz with ⟨_, hl⟩ | ⟨_, hl⟩
        · match ds, hl with
          | [d1, d2], _ => exact ⟨d1, d2, [], rfl⟩
        · match ds, hl with
          | [d1, d2, d3], _ => exact ⟨d1, d2, [d3], rfl⟩
      obtain ⟨x1, r1, rfl, h1, hs⟩ := hs.cons_inv
      obtain ⟨x2, r2, rfl, h2, hs⟩ := hs.cons_inv
      refine q_skip (et_is (et_test (e0 (Ex.refl _))) (decide_eq_false hne)) fun H1 e1 => ?_
      have htest : ∀ {b1 b2 : Bool}, (!b1 || !b2) = !(b1 && b2) := fun {b1 b2} => by cases b1 <;> cases b2 <;> rfl
      refine q_if (b := !(btw d1 0 t.length && btwD d1 d2 t.length)) (et_is (et_or (et_not (et_B (b1 rfl h1 e1))) fun hb => et_not (et_B (b := btwD d1 d2 t.length) ?_)) htest) (fun hb H2 e2 => ?_) fun hb H2 e2 => ?_
      · rw [Bool.not_eq_false'] at hb
        cases d1 <;> (try (simp [btw] at hb; done))
        rename_i i
        cases h1
        exact ev_call (ea_cons (ev_ixT (i := 2) (ev_var rfl) (e1 _ _ ha) ev_c rfl) (ea_cons (ev_ixT (i := 1) (ev_var rfl) (e1 _ _ ha) ev_c rfl) (ea_cons (ev_lenS (ev_var rfl) (by rw [S_len]; omega)) ea_nil))) fun H2 e2 Q q E => ⟨x2, d2, i, (t.length : Int), by rw [S_len]; rfl, (h2.ex e1).ex e2, q⟩
      · rw [Bool.not_eq_true'] at hb
        refine s_ret ev_c fun H3 e3 => ?_
        have q := k H3 ((e1.trans e2).trans e3)
        have : (decA ws t z (d1 :: d2 :: dr)).isSome = false := by
          rcases hz with ⟨rfl, hl⟩ | ⟨rfl, hl⟩
          · match dr, hl with
            | [], _ => rw [dec_rem, hb]
          · match dr, hl with
            | [d3], _ => rw [dec_rep, hb]; rfl
        rw [this] at q
        exact q
      · rw [Bool.not_eq_false'] at hb
        refine s_ret (v := .bl (decA ws t z (d1 :: d2 :: dr)).isSome) (ev_is (ev_orV (ev_is (ev_op (ev_ixT (i := 0) (ev_var rfl) ((e1.trans e2) _ _ ha) ev_c rfl) ev_c (rv_eq rfl)) (by rw [dec_vstr])) fun hr2 => ev_call (z := .bl (decA ws t z (d1 :: d2 :: dr)).isSome) (ea_cons (ev_var rfl) (ea_cons (ev_ixT (i := 3) (v := (r2.headD .non)) (ev_var rfl) ((e1.trans e2) _ _ ha) ev_c ?_) ea_nil)) ?_) ?_) fun H3 e3 => k H3 ((e1.trans e2).trans e3)
        · rcases hz with ⟨rfl, hl⟩ | ⟨rfl, hl⟩
          · exact absurd rfl (of_decide_eq_false hr2)
          · match dr, hl, hs with
            | [d3], _, hs =>
              obtain ⟨x3, r3, rfl, h3, hs⟩ := hs.cons_inv
              rfl
        · rcases hz with ⟨rfl, hl⟩ | ⟨rfl, hl⟩
          · exact absurd rfl (of_decide_eq_false hr2)
          · match dr, hl, hs with
            | [d3], _, hs =>
              obtain ⟨x3, r3, rfl, h3, hs⟩ := hs.cons_inv
              intro H3 e3 Q q E
              rw [dec_rep, hb, Bool.true_and] at q
              exact ⟨x, x3, ws, d3, rfl, ((hx.ex e1).ex e2).ex e3, hV, ((h3.ex e1).ex e2).ex e3, hm d3 (by simp), q⟩
        · rcases hz with ⟨rfl, hl⟩ | ⟨rfl, hl⟩
          · match dr, hl with
            | [], _ => rw [dec_rem, hb]; rfl
          · rw [decide_eq_false n_rep_rem]
            rfl
end
end G
/-! greedycuts.desk: is_command, why_not, behind -/
namespace G
open PySem PySem.Spec PyProof.Rows L2 Evl

def Heads : List Str := ["insert", "remove", "replace", "add", "drop", "move"]
def Dom : PyData → Prop
  | .tuple (.str z :: as) => z ∈ Heads ∧ ∀ a ∈ as, small a
  | _ => True
def lenOf (z : Str) : Int := if z = "insert" then 3 else if z = "remove" then 3 else if z = "replace" then 4 else if z = "add" then 3 else if z = "drop" then 2 else 0
theorem n_add_ins : ¬ (("add" : Str) = "insert") := fun h => n_ins_add h.symm
theorem n_add_rem : ¬ (("add" : Str) = "remove") := fun h => n_rem_add h.symm
theorem n_add_rep : ¬ (("add" : Str) = "replace") := fun h => n_rep_add h.symm
theorem n_drop_ins : ¬ (("drop" : Str) = "insert") := fun h => n_ins_drop h.symm
theorem n_drop_rem : ¬ (("drop" : Str) = "remove") := fun h => n_rem_drop h.symm
theorem n_drop_rep : ¬ (("drop" : Str) = "replace") := fun h => n_rep_drop h.symm
theorem len_ins : lenOf "insert" = 3 := if_pos rfl
theorem len_rem : lenOf "remove" = 3 := by unfold lenOf; rw [if_neg n_rem_ins, if_pos rfl]
theorem len_rep : lenOf "replace" = 4 := by unfold lenOf; rw [if_neg n_rep_ins, if_neg n_rep_rem, if_pos rfl]
theorem len_add : lenOf "add" = 3 := by unfold lenOf; rw [if_neg n_add_ins, if_neg n_add_rem, if_neg n_add_rep, if_pos rfl]
theorem len_drop : lenOf "drop" = 2 := by unfold lenOf; rw [if_neg n_drop_ins, if_neg n_drop_rem, if_neg n_drop_rep, if_neg n_add_drop, if_pos rfl]
theorem len_move : lenOf "move" = 0 := by unfold lenOf; rw [if_neg n_mov_ins, if_neg n_mov_rem, if_neg n_mov_rep, if_neg n_mov_add, if_neg n_mov_drop]
section
variable {K : PySem.W.Frag} {mg : Str → Option Value} {w : World}
theorem len_ns (T : Txt K mg w) {z : Str} (hz : z ∈ Heads) : (∃ u, PySem.W.nsIn K (He.ga K "LENGTHS") z = some (some u) ∧ RelV (.int (lenOf z)) u) ∨ (PySem.W.nsIn K (He.ga K "LENGTHS") z = some none ∧ lenOf z = 0) := by
  unfold Heads at hz
  simp only [List.mem_cons, List.not_mem_nil, or_false] at hz
  rcases hz with rfl | rfl | rfl | rfl | rfl | rfl
  · rw [len_ins]; exact .inl (T.vL ("insert", .int 3) (by simp [tvals]))
  · rw [len_rem]; exact .inl (T.vL ("remove", .int 3) (by simp [tvals]))
  · rw [len_rep]; exact .inl (T.vL ("replace", .int 4) (by simp [tvals]))
  · rw [len_add]; exact .inl (T.vL ("add", .int 3) (by simp [tvals]))
  · rw [len_drop]; exact .inl (T.vL ("drop", .int 2) (by simp [tvals]))
  · rw [len_move]; exact .inr ⟨T.vM, rfl⟩
theorem ev_kget (T : Txt K mg w) {σ : L2.St} {H : Hp} {ty : TE} {z : Str} (h : Ev ty σ H (.str z)) (hz : z ∈ Heads) : Ev (tKGet K (He.ga K "LENGTHS") ty (tC (.int 0))) σ H (.int (lenOf z)) := fun H1 e Q q =>
  h H1 e _ fun H2 e2 => by
    rcases len_ns T hz with ⟨u, hu, hr⟩ | ⟨hn, h0⟩
    · exact ⟨z, _, rfl, hu, .inr ⟨u, _, rfl, hr, q H2 e2⟩⟩
    · rw [h0] at q
      exact ⟨z, _, rfl, hn, .inl ⟨rfl, q H2 e2⟩⟩
end
/-- other numbers of parts: no command -/
theorem dec_len (ws : WL) (t : Wd) {z : Str} (hz : z ∈ Heads) (ds : List PyData) (h : ¬ lenOf z = ((ds.length + 1 : Nat) : Int)) : decA ws t z ds = none := by
  unfold Heads at hz
  simp only [List.mem_cons, List.not_mem_nil, or_false] at hz
  rcases hz with rfl | rfl | rfl | rfl | rfl | rfl
  · rw [len_ins] at h
    unfold decA
    rw [if_neg n_ins_add, if_neg n_ins_drop, if_pos rfl]
    match ds, h with
    | [], _ => rfl
    | [a], _ => cases a <;> rfl
    | [a, b], h => simp at h
    | a :: b :: c :: r, _ => cases a <;> cases b <;> rfl
  · rw [len_rem] at h
    unfold decA
    rw [if_neg n_rem_add, if_neg n_rem_drop, if_neg n_rem_ins, if_pos rfl]
    match ds, h with
    | [], _ => rfl
    | [a], _ => cases a <;> rfl
    | [a, b], h => simp at h
    | a :: b :: c :: r, _ => cases a <;> cases b <;> rfl
  · rw [len_rep] at h
    unfold decA
    rw [if_neg n_rep_add, if_neg n_rep_drop, if_neg n_rep_ins, if_neg n_rep_rem, if_pos rfl]
    match ds, h with
    | [], _ => rfl
    | [a], _ => cases a <;> rfl
    | [a, b], _ => cases a <;> cases b <;> rfl
    | [a, b, c], h => simp at h
    | a :: b :: c :: d :: r, _ => cases a <;> cases b <;> cases c <;> rfl
  · rw [len_add] at h
    unfold decA
    rw [if_pos rfl]
    match ds, h with
    | [], _ => rfl
    | [a], _ => cases a <;> rfl
    | [a, b], h => simp at h
    | a :: b :: c :: r, _ => cases a <;> cases b <;> rfl
  · rw [len_drop] at h
    unfold decA
    rw [if_neg n_add_drop, if_pos rfl]
    match ds, h with
    | [], _ => rfl
    | [a], h => simp at h
    | a :: b :: r, _ => cases a <;> rfl
  · exact dec_move ws t ds
section
variable {P : Program} {w : World} {K : PySem.W.Frag} {mg : Str → Option Value} {base : Heap}
def sp_is_command : Sp := fun vs H Q _ => ∃ (x v : V) (ws : WL) (t : Wd) (d : PyData), vs = [x, vS t, v] ∧ RD H (wlD ws) x ∧ Valid ws ∧ t.length ≤ 1000 ∧ RL H d v ∧ Dom d ∧ RetV (.bl (dec ws t d).isSome) H Q
theorem sc_is_command : FnScope ["words", "text", "value"] ["words", "text", "value"] (defScope s_is_command) := ⟨rfl, rfl, rfl, by decide +kernel, rfl, by decide +kernel, by decide +kernel⟩
theorem ok_is_command (T : Txt K mg w) : Ok P w K mg base 7 "is_command" ["words", "text", "value"] sp_is_command := by
  have nd := sc_is_command.nd
  refine Ok.mk T.d_is_command sc_is_command (fun _ _ _ _ _ _ us hl => match us, hl with | [_, _, _], _ => rfl) (fun vs H Q E h => ?_) fun f cdv A outer s H vs Q E hr h => ?_
  · obtain ⟨_, _, _, _, _, rfl, _⟩ := h
    rfl
  · obtain ⟨x, v, ws, t, d, rfl, hx, hV, ht, hd, hm, k⟩ := h
    obtain ⟨es, n, D⟩ := T.kL
    refine ⟨_, (pss_cons (ps_if (PW.pt (pw_or (pt_not (pt_val (pe_callB (call_isK K rfl) (by rfl) T.b_isinstance (by decide +kernel) (pa_cons (pv 2) (pa_cons (pe_tyb "tuple" T.b_tuple) pa_nil))))) (pw_or (pt_cmpR op_eq (pe_callB (call_lenK K rfl) (by rfl) T.b_len PySem.boot_len (pa_cons (pv 2) pa_nil)) pe_int (nomark _)) (pw_or1 (pt_not (pt_val (pe_callB (call_isK K rfl) (by rfl) T.b_isinstance (by decide +kernel) (pa_cons (pe_ix (ix_tupK K rfl) (pv 2) pe_int (fun _ _ => rfl)) (pa_cons (pe_tyb "str" T.b_str) pa_nil))))))))) (pss_one (ps_ret pe_bl)) pss_nil)
      (pss_cons (ps_if (pt_cmpR op_ne (pe_kget D T.gL (pe_ix (ix_tupK K rfl) (pv 2) pe_int (fun _ _ => rfl)) pe_int) (pe_callB (call_lenK K rfl) (by rfl) T.b_len PySem.boot_len (pa_cons (pv 2) pa_nil)) (nomark _)) (pss_one (ps_ret pe_bl)) pss_nil)
      (pss_cons (ps_if (pt_cmpR op_eq (pe_ix (ix_tupK K rfl) (pv 2) pe_int (fun _ _ => rfl)) pe_str (nomark _)) (pss_one (ps_ret (pe_and (pe_fn (ok_is_new_word T) hr (pa_cons (pe_ix (ix_tupK K rfl) (pv 2) pe_int (fun _ _ => rfl)) pa_nil)) (pe_one (pe_fn (ok_is_between_desk T) hr (pa_cons (pe_ix (ix_tupK K rfl) (pv 2) pe_int (fun _ _ => rfl)) (pa_cons pe_int (pa_cons (pe_gint T.c_MOST_COST_desk) pa_nil)))))))) pss_nil)
      (pss_cons (ps_if (pt_cmpR op_eq (pe_ix (ix_tupK K rfl) (pv 2) pe_int (fun _ _ => rfl)) pe_str (nomark _)) (pss_one (ps_ret (pe_callB (call_isK K rfl) (by rfl) T.b_isinstance (by decide +kernel) (pa_cons (pe_ix (ix_tupK K rfl) (pv 2) pe_int (fun _ _ => rfl)) (pa_cons (pe_tyb "str" T.b_str) pa_nil))))) pss_nil)
      (pss_one (ps_ret (pe_fn (ok_is_edit T) hr (pa_cons (pv 0) (pa_cons (pv 1) (pa_cons (pv 2) pa_nil)))))))))), ?_⟩
    by_cases htu : dTup d = true
    case neg =>
      rw [Bool.not_eq_true] at htu
      refine q_yes (et_is (et_or (b := true) (et_not (et_B (isi_tup (ev_var rfl) hd))) (fun h => by rw [htu] at h; cases h)) (by rw [htu] <;> rfl)) fun H1 e => ?_
      refine s_ret ev_c fun H2 e2 => ?_
      have q := k H2 (e.trans e2)
      have : (dec ws t d).isSome = false := by cases d <;> first | rfl | cases htu
      rw [this] at q
      exact q
    cases d <;> try (exact Bool.noConfusion htu)
    rename_i ds
    obtain ⟨a, xs, rfl, ha, hs⟩ := hd.tup_inv
    match ds, hs with
    | [], hs =>
      cases hs.nil_inv
      refine q_yes (et_is (et_or (b := true) (et_not (et_B (isi_tup (ev_var rfl) hd))) (fun _ => et_or (b := true) (et_test (ev_op (ev_lenT (ev_var rfl) ha) ev_c (rv_eq rfl))) fun h => by cases h)) rfl) fun H1 e => ?_
      exact s_ret ev_c fun H2 e2 => k H2 (e.trans e2)
    | d0 :: ds, hs =>
      obtain ⟨x0, xr, rfl, h0, hsr⟩ := hs.cons_inv
      have hl : (decide (V.int (((x0 :: xr).length : Nat) : Int) = V.int 0)) = false := decide_eq_false fun q => by
        have := V.int.inj q
        simp at this
        omega
      by_cases hst : dStr d0 = true
      case neg =>
        rw [Bool.not_eq_true] at hst
        refine q_yes (et_is (et_or (et_not (et_B (isi_tup (ev_var rfl) hd))) (fun _ => et_or (et_test (ev_op (ev_lenT (ev_var rfl) ha) ev_c (rv_eq rfl))) fun _ => et_not (et_B (isi_str (ev_ixT (i := 0) (ev_var rfl) ha ev_c rfl) h0)))) (by rw [hl, hst]; rfl)) fun H1 e => ?_
        refine s_ret ev_c fun H2 e2 => ?_
        have q := k H2 (e.trans e2)
        have : (dec ws t (.tuple (d0 :: ds))).isSome = false := by cases d0 <;> first | rfl | cases hst
        rw [this] at q
        exact q
      cases d0 <;> try (exact Bool.noConfusion hst)
      rename_i z
      cases h0
      obtain ⟨hz, hsm⟩ := hm
      have hlen : xr.length = ds.length := hsr.length
      refine q_skip (et_is (et_or (et_not (et_B (isi_tup (ev_var rfl) hd))) (fun _ => et_or (et_test (ev_op (ev_lenT (ev_var rfl) ha) ev_c (rv_eq rfl))) fun _ => et_not (et_B (isi_str (ev_ixT (i := 0) (ev_var rfl) ha ev_c rfl) (.str z))))) (by rw [hl]; rfl)) fun H1 e1 => ?_
      have ha1 := e1 _ _ ha
      refine q_if (b := !decide (lenOf z = ((ds.length + 1 : Nat) : Int))) (et_test (ev_is (ev_op (ev_kget T (ev_ixT (i := 0) (ev_var rfl) ha1 ev_c rfl) hz) (ev_lenT (ev_var rfl) ha1) (rv_ne rfl)) ?_)) (fun hb H2 e2 => ?_) fun hb H2 e2 => ?_
      · rw [List.length_cons, hlen]
        congr 2
        by_cases h : lenOf z = ((ds.length + 1 : Nat) : Int)
        · rw [decide_eq_true h, decide_eq_true (by rw [h])]
        · rw [decide_eq_false h, decide_eq_false fun q => h (V.int.inj q)]
      · rw [Bool.not_eq_true'] at hb
        refine s_ret ev_c fun H3 e3 => ?_
        have q := k H3 ((e1.trans e2).trans e3)
        rw [show dec ws t (.tuple (.str z :: ds)) = decA ws t z ds from rfl, dec_len ws t hz ds (of_decide_eq_false hb)] at q
        exact q
      · rw [Bool.not_eq_false', decide_eq_true_eq] at hb
        have hbl := hb
        have ha2 := e2 _ _ ha1
        have k2 : RetV (.bl (decA ws t z ds).isSome) H2 Q := fun H3 e3 => k H3 ((e1.trans e2).trans e3)
        have hx2 := (hx.ex e1).ex e2
        have hs2 := (hsr.ex e1).ex e2
        clear k
        have eq0 : ∀ {s : Str} {H3 : Hp}, Ex H2 H3 → Ev (tOp rEq (tOp (rIxT K) (tVar 2) (tC (.int 0))) (tC (.str s))) (L2.start ["words", "text", "value"] [x, vS t, .ref a]) H3 (.bl (decide (z = s))) := fun {s H3} e3 =>
          ev_is (ev_op (ev_ixT (i := 0) (ev_var rfl) (e3 _ _ ha2) ev_c rfl) ev_c (rv_eq rfl)) (by rw [dec_vstr])
        refine q_if (et_test (eq0 (Ex.refl _))) (fun hb H3 e3 => ?_) fun hb H3 e3 => ?_
        · have hza := of_decide_eq_true hb
          subst hza
          rw [len_add] at hbl
          match ds, hbl, hs2 with
          | [d1, d2], _, hs2 =>
            obtain ⟨x1, r1, rfl, h1, hs2⟩ := hs2.cons_inv
            obtain ⟨x2, r2, rfl, h2, hs2⟩ := hs2.cons_inv
            cases hs2.nil_inv
            rw [dec_add] at k2
            exact s_ret (v := .bl (wordB d1 && btw d2 1 9)) (ev_andV (ev_call (ea_cons (ev_ixT (i := 1) (ev_var rfl) (e3 _ _ ha2) ev_c rfl) ea_nil) fun H4 e4 Q q E => ⟨x1, d1, rfl, (h1.ex e3).ex e4, hsm d1 (by simp), q⟩) fun _ =>
              ev_call (ea_cons (ev_ixT (i := 2) (ev_var rfl) (e3 _ _ ha2) ev_c rfl) (ea_cons ev_c (ea_cons ev_c ea_nil))) fun H4 e4 Q q E => ⟨x2, d2, 1, 9, rfl, (h2.ex e3).ex e4, q⟩) fun H4 e4 => k2 H4 (e3.trans e4)
          | [], h, _ => simp at h
          | [_], h, _ => simp at h
          | _ :: _ :: _ :: _, h, _ => simp at h; omega
        · have hza := of_decide_eq_false hb
          refine q_if (et_test (eq0 e3)) (fun hb H4 e4 => ?_) fun hb H4 e4 => ?_
          · have hzd := of_decide_eq_true hb
            subst hzd
            rw [len_drop] at hbl
            match ds, hbl, hs2 with
            | [d1], _, hs2 =>
              obtain ⟨x1, r1, rfl, h1, hs2⟩ := hs2.cons_inv
              cases hs2.nil_inv
              rw [dec_drop] at k2
              exact s_ret (isi_str (ev_ixT (i := 1) (ev_var rfl) (e4 _ _ (e3 _ _ ha2)) ev_c rfl) ((h1.ex e3).ex e4)) fun H5 e5 => k2 H5 ((e3.trans e4).trans e5)
            | [], h, _ => simp at h
            | _ :: _ :: _, h, _ => simp at h; omega
          · have hzd := of_decide_eq_false hb
            refine s_ret (ev_call (ea_cons (ev_var rfl) (ea_cons (ev_var rfl) (ea_cons (ev_var rfl) ea_nil))) fun H5 e5 Q q E => ⟨x, ws, t, a, z, xr, ds, rfl, ((hx2.ex e3).ex e4).ex e5, hV, ht, e5 _ _ (e4 _ _ (e3 _ _ ha2)), ((hs2.ex e3).ex e4).ex e5, hsm, ?_, q⟩) fun H5 e5 => k2 H5 ((e3.trans e4).trans e5)
            unfold Heads at hz
            simp only [List.mem_cons, List.not_mem_nil, or_false] at hz
            rcases hz with rfl | rfl | rfl | rfl | rfl | rfl
            · rw [len_ins] at hbl; exact .inl ⟨rfl, by omega⟩
            · rw [len_rem] at hbl; exact .inr (.inl ⟨rfl, by omega⟩)
            · rw [len_rep] at hbl; exact .inr (.inr ⟨rfl, by omega⟩)
            · exact absurd rfl hza
            · exact absurd rfl hzd
            · rw [len_move] at hbl; omega
end
end G
/-! greedycuts.desk: why_not, behind -/
namespace G
open PySem PySem.Spec PyProof.Rows L2 Evl

/-! ### commands as they stand -/
def cmdV : Cmd → List V
  | .ins i p => [.str "insert", .int i, vS p]
  | .rem i j => [.str "remove", .int i, .int j]
  | .rep i j p => [.str "replace", .int i, .int j, vS p]
  | .add u c => [.str "add", vS u, .int c]
  | .drop u => [.str "drop", vS u]
theorem cmd_at {H : Hp} {c : Cmd} {v : V} (h : RD H (cmdD c) v) : ∃ a, v = .ref a ∧ H a = some (.tup (cmdV c)) := by
  cases c with
  | ins i p =>
    obtain ⟨a, xs, rfl, ha, hs⟩ := h.tup_inv
    obtain ⟨x1, r1, rfl, h1, hs⟩ := hs.cons_inv
    obtain ⟨x2, r2, rfl, h2, hs⟩ := hs.cons_inv
    obtain ⟨x3, r3, rfl, h3, hs⟩ := hs.cons_inv
    cases hs.nil_inv
    rw [h1.str_inv, h2.int_inv, h3.str_inv] at ha
    exact ⟨a, rfl, ha⟩
  | rem i j =>
    obtain ⟨a, xs, rfl, ha, hs⟩ := h.tup_inv
    obtain ⟨x1, r1, rfl, h1, hs⟩ := hs.cons_inv
    obtain ⟨x2, r2, rfl, h2, hs⟩ := hs.cons_inv
    obtain ⟨x3, r3, rfl, h3, hs⟩ := hs.cons_inv
    cases hs.nil_inv
    rw [h1.str_inv, h2.int_inv, h3.int_inv] at ha
    exact ⟨a, rfl, ha⟩
  | rep i j p =>
    obtain ⟨a, xs, rfl, ha, hs⟩ := h.tup_inv
    obtain ⟨x1, r1, rfl, h1, hs⟩ := hs.cons_inv
    obtain ⟨x2, r2, rfl, h2, hs⟩ := hs.cons_inv
    obtain ⟨x3, r3, rfl, h3, hs⟩ := hs.cons_inv
    obtain ⟨x4, r4, rfl, h4, hs⟩ := hs.cons_inv
    cases hs.nil_inv
    rw [h1.str_inv, h2.int_inv, h3.int_inv, h4.str_inv] at ha
    exact ⟨a, rfl, ha⟩
  | add u c =>
    obtain ⟨a, xs, rfl, ha, hs⟩ := h.tup_inv
    obtain ⟨x1, r1, rfl, h1, hs⟩ := hs.cons_inv
    obtain ⟨x2, r2, rfl, h2, hs⟩ := hs.cons_inv
    obtain ⟨x3, r3, rfl, h3, hs⟩ := hs.cons_inv
    cases hs.nil_inv
    rw [h1.str_inv, h2.str_inv, h3.int_inv] at ha
    exact ⟨a, rfl, ha⟩
  | drop u =>
    obtain ⟨a, xs, rfl, ha, hs⟩ := h.tup_inv
    obtain ⟨x1, r1, rfl, h1, hs⟩ := hs.cons_inv
    obtain ⟨x2, r2, rfl, h2, hs⟩ := hs.cons_inv
    cases hs.nil_inv
    rw [h1.str_inv, h2.str_inv] at ha
    exact ⟨a, rfl, ha⟩
theorem cmd_mk {H : Hp} {c : Cmd} {a : Addr} (h : H a = some (.tup (cmdV c))) : RD H (cmdD c) (.ref a) := by
  cases c with
  | ins i p => exact .tup h (.cons (.str _) (.cons (.int _) (.cons (.str _) .nil)))
  | rem i j => exact .tup h (.cons (.str _) (.cons (.int _) (.cons (.int _) .nil)))
  | rep i j p => exact .tup h (.cons (.str _) (.cons (.int _) (.cons (.int _) (.cons (.str _) .nil))))
  | add u c => exact .tup h (.cons (.str _) (.cons (.str _) (.cons (.int _) .nil)))
  | drop u => exact .tup h (.cons (.str _) (.cons (.str _) .nil))
/-- the pieces of a command are short -/
def CmdSm : Cmd → Prop
  | .ins _ p => p.length ≤ 100
  | .rem _ _ => True
  | .rep _ _ p => p.length ≤ 100
  | .add u _ => u.length ≤ 100
  | .drop u => u.length ≤ 100
section
variable {K : PySem.W.Frag} {σ : L2.St} {H : Hp} {ta tb te : TE}
theorem ev_eqS {a b : Str} (ha : Ev ta σ H (.str a)) (hb : Ev tb σ H (.str b)) : Ev (tOp rEq ta tb) σ H (.bl (decide (a = b))) := ev_is (ev_op ha hb (rv_eq rfl)) (by rw [dec_vstr])
theorem ev_neS {a b : Str} (ha : Ev ta σ H (.str a)) (hb : Ev tb σ H (.str b)) : Ev (tOp rNe ta tb) σ H (.bl (!decide (a = b))) := ev_is (ev_op ha hb (rv_ne rfl)) (by rw [dec_vstr])
theorem dec_1lt (n : Nat) : decide ((1 : Int) < (n : Int)) = decide (1 < n) := dec_lt 1 n
theorem dec_S (a b : Wd) : decide (S a = S b) = decide (a = b) := by
  by_cases h : a = b
  · subst h; simp
  · rw [decide_eq_false h, decide_eq_false fun q => h (S_inj q)]
abbrev rAddS : R2 := fun x y H Q => ∃ i j, x = .str i ∧ y = .str j ∧ i.length + j.length ≤ sizeLine ∧ Q (.str (i ++ j)) H
theorem ev_addS {a b : Wd} (ha : Ev ta σ H (vS a)) (hb : Ev tb σ H (vS b)) (hz : a.length + b.length ≤ 100000) : Ev (tOp rAddS ta tb) σ H (vS (a ++ b)) := ev_op ha hb fun H1 _ Q q => ⟨S a, S b, rfl, rfl, by rw [S_len, S_len]; exact sz_of hz, by rw [S_app]; exact q H1 (Ex.refl _)⟩
theorem evp_cat {xs ys : List V} (ha : EvP ta σ H (fun v H1 => ∃ p, v = .ref p ∧ H1 p = some (.lst xs))) (hb : EvP tb σ H (fun v H1 => ∃ p, v = .ref p ∧ H1 p = some (.lst ys))) (hz : xs.length + ys.length ≤ 100000) : EvP (tOp rCat ta tb) σ H (fun v H1 => ∃ p, v = .ref p ∧ H1 p = some (.lst (xs ++ ys))) :=
  evp_op (fun v H H' e ⟨p, h1, h2⟩ => ⟨p, h1, e _ _ h2⟩) ha hb fun x y H1 _ ⟨p, ex, hp⟩ ⟨q, ey, hq⟩ Q k => by
    subst ex ey
    exact ⟨p, q, xs, ys, rfl, rfl, hp, hq, sz_of hz, fun r hr => k _ _ (Ex.new hr) ⟨r, rfl, upd_same⟩⟩
theorem ei_listP {xs : List V} (h : EvP te σ H (fun v H1 => ∃ p, v = .ref p ∧ H1 p = some (.lst xs))) : EvI (iList K te) σ H xs := fun H1 e R q => h H1 e _ fun v H2 e2 ⟨p, ev, hp⟩ => by
  subst ev
  exact ⟨p, rfl, ⟨xs, SqL.of hp⟩, q _ H2 e2 (runs_l' (SqL.of hp))⟩
end
section
variable {P : Program} {w : World} {K : PySem.W.Frag} {mg : Str → Option Value} {base : Heap}
def addB (ws : WL) (u : Wd) : Bool := (!decide (u ∈ names ws) && !(decide (1 < u.length) && !(u.all fun c => decide ([c] ∈ names ws)))) && !decide (ws.length = 8)
def sp_why_not_add : Sp := fun vs H Q _ => ∃ (x : V) (ws : WL) (u : Wd), vs = [x, vS u] ∧ RD H (wlD ws) x ∧ ws.length ≤ 8 ∧ u.length ≤ 100 ∧ RetP (fun v _ => decide (v = .non) = addB ws u) H Q
theorem sc_why_not_add : FnScope ["words", "word", "known", "entry", "letter"] ["words", "word"] (defScope s_why_not_add) := ⟨rfl, rfl, rfl, by decide +kernel, rfl, by decide +kernel, by decide +kernel⟩
theorem ok_why_not_add (T : Txt K mg w) : Ok P w K mg base 1 "why_not_add" ["words", "word"] sp_why_not_add := by
  have nd := sc_why_not_add.nd
  refine Ok.mk T.d_why_not_add sc_why_not_add (fun _ _ _ _ _ _ us hl => match us, hl with | [_, _], _ => rfl) (fun vs H Q E h => ?_) fun f cdv A outer s H vs Q E hr h => ?_
  · obtain ⟨_, _, _, rfl, _⟩ := h
    rfl
  · obtain ⟨x, ws, u, rfl, hx, hl8, hu, k⟩ := h
    obtain ⟨a, xs, rfl, ha, hk, hE⟩ := wl_inv hx
    have hl : xs.length = ws.length := by rw [← hk, List.length_map]
    refine ⟨_, (pss_cons (ps_set (i := 2) nd rfl (Or.inr rfl) (pe_lc (own := [("entry", 3)]) (by rfl) nd (pi_tupK K rfl (pv 0)) (blkOk_by (N := ["words", "word", "known", "entry", "letter"]) (sc := defScope s_why_not_add) (by decide +kernel)) (fun _ _ _ _ _ => (pg_name (i := 3) nd rfl (Or.inl rfl))) (fun _ _ _ _ _ => pts_nil) (fun _ _ _ _ _ => (pe_ix (ix_tupK K rfl) (pv 3) pe_int (fun _ _ => rfl)))))
      (pss_cons (ps_if (pt_cmpR (op_inK K rfl) (pv 1) (pv 2) (by rfl)) (pss_one (ps_ret pe_str)) pss_nil)
      (pss_cons (ps_if (PW.pt (pw_and (pt_cmpR op_gt (pe_callB call_len_str (by rfl) T.b_len PySem.boot_len (pa_cons (pv 1) pa_nil)) pe_int (nomark _)) (pw_and1 (pt_not (pt_val (pe_callB (cr_allK K rfl rfl) (by rfl) T.b_all (by decide +kernel) (pa_cons (pe_lc (own := [("letter", 4)]) (by rfl) nd (pi_str (pv 1)) (blkOk_by (N := ["words", "word", "known", "entry", "letter"]) (sc := defScope s_why_not_add) (by decide +kernel)) (fun _ _ _ _ _ => (pg_name (i := 4) nd rfl (Or.inl rfl))) (fun _ _ _ _ _ => pts_nil) (fun _ _ _ _ _ => (pe_cmpR (op_inK K rfl) (pv 4) (pv 2) (by rfl)))) pa_nil))))))) (pss_one (ps_ret pe_str)) pss_nil)
      (pss_one (ps_ret (pe_ifExp (pt_cmpR op_eq (pe_callB (call_lenK K rfl) (by rfl) T.b_len PySem.boot_len (pa_cons (pv 0) pa_nil)) (pe_gint T.c_MOST_WORDS_desk) (nomark _)) pe_str pe_non)))))), ?_⟩
    refine q_asgP (ev_names (ev_var rfl) ha hk hE (by omega) (fun _ => rfl) (fun _ => rfl)) fun v H1 e1 ⟨p, ev, hp⟩ => ?_
    subst ev
    refine q_when (et_test (ev_is (ev_op (ev_var rfl) (ev_var rfl) (rv_isL (SqL.of hp) rfl (flat_S _))) (congrArg V.bl (inV_S u (names ws))))) (fun hb H2 e2 => ?_) fun hb H2 e2 => ?_
    · refine s_ret ev_c fun H3 e3 => k _ H3 ((e1.trans e2).trans e3) ?_
      unfold addB
      rw [hb]
      rfl
    · have hp2 := e2 _ _ hp
      refine q_when (et_and (b := !(u.all fun c => decide ([c] ∈ names ws))) (et_test (ev_op (ev_lenS (ev_var rfl) (by rw [S_len]; omega)) ev_c rv_I0)) fun _ => et_not (et_B (ev_allC (fv := fun c => V.str ⟨#[c]⟩) (l := u) (fun c => decide ([c] ∈ names ws)) (ei_strL (ev_var rfl)) (by omega) fun c hc => ⟨_, bnd_name, rfl,
        ev_is (ev_op (ev_var rfl) (ev_var rfl) (rv_isL (SqL.of hp2) rfl (flat_S _))) (congrArg V.bl (inV_S [c] (names ws)))⟩))) (fun hb2 H3 e3 => ?_) fun hb2 H3 e3 => ?_
      · refine s_ret ev_c fun H4 e4 => k _ H4 (((e1.trans e2).trans e3).trans e4) ?_
        rw [S_len, dec_1lt] at hb2
        unfold addB
        rw [hb, hb2]
        rfl
      · rw [S_len, dec_1lt] at hb2
        have ha3 := e3 _ _ (e2 _ _ (e1 _ _ ha))
        refine s_retP (evp_if (et_test (ev_op (ev_lenT (ev_var rfl) ha3) ev_c (rv_eq rfl))) (fun hb3 => (ev_p ev_c).imp ?_) fun hb3 => (ev_p ev_c).imp ?_) fun v H4 e4 q => k v H4 (((e1.trans e2).trans e3).trans e4) q
        · intro v H4 _ ev
          subst ev
          have h8 : ws.length = 8 := by
            have := V.int.inj (of_decide_eq_true hb3)
            omega
          unfold addB
          rw [decide_eq_true h8]
          simp
        · intro v H4 _ ev
          subst ev
          have h8 : ¬ ws.length = 8 := by
            intro q
            have := of_decide_eq_false hb3
            exact this (by rw [hl, q]; rfl)
          unfold addB
          rw [hb, hb2, decide_eq_false h8]
          rfl

def dropB (ws : WL) (t u : Wd) : Bool := (decide (u ∈ names ws) && !decide ((names ws).length = 1)) && !(decide (u.length = 1) && ((t :: names ws).filter fun o => (!decide (o = u) || decide (o = t))).any fun o => decide (u.headD 0 ∈ o))
def sp_why_not_drop : Sp := fun vs H Q _ => ∃ (x : V) (ws : WL) (t u : Wd), vs = [x, vS t, vS u] ∧ RD H (wlD ws) x ∧ ws.length ≤ 8 ∧ u.length ≤ 100 ∧ t.length ≤ 100 ∧ RetP (fun v _ => decide (v = .non) = dropB ws t u) H Q
theorem sc_why_not_drop : FnScope ["words", "text", "word", "known", "entry", "other"] ["words", "text", "word"] (defScope s_why_not_drop) := ⟨rfl, rfl, rfl, by decide +kernel, rfl, by decide +kernel, by decide +kernel⟩
theorem ok_why_not_drop (T : Txt K mg w) : Ok P w K mg base 1 "why_not_drop" ["words", "text", "word"] sp_why_not_drop := by
  have nd := sc_why_not_drop.nd
  refine Ok.mk T.d_why_not_drop sc_why_not_drop (fun _ _ _ _ _ _ us hl => match us, hl with | [_, _, _], _ => rfl) (fun vs H Q E h => ?_) fun f cdv A outer s H vs Q E hr h => ?_
  · obtain ⟨_, _, _, _, rfl, _⟩ := h
    rfl
  · obtain ⟨x, ws, t, u, rfl, hx, hl8, hu, ht, k⟩ := h
    obtain ⟨a, xs, rfl, ha, hk, hE⟩ := wl_inv hx
    have hl : xs.length = ws.length := by rw [← hk, List.length_map]
    refine ⟨_, (pss_cons (ps_setLc (i := 3) (own := [("entry", 4)]) (by rfl) nd rfl rfl (sw_true rfl rfl rfl (by decide +kernel)) (pi_tupK K rfl (pv 0)) (blkOk_by (N := ["words", "text", "word", "known", "entry", "other"]) (sc := defScope s_why_not_drop) (by decide +kernel)) (fun _ _ _ _ _ => (pg_name (i := 4) nd rfl (Or.inl rfl))) (fun _ _ _ _ _ => pts_nil) (fun _ _ _ _ _ => (pe_ix (ix_tupK K rfl) (pv 4) pe_int (fun _ _ => rfl))))
      (pss_cons (ps_if (pt_cmpR (op_notInK K rfl) (pv 2) (pv 3) (by rfl)) (pss_one (ps_ret pe_str)) pss_nil)
      (pss_cons (ps_if (pt_cmpR op_eq (pe_callB (call_lenK K rfl) (by rfl) T.b_len PySem.boot_len (pa_cons (pv 3) pa_nil)) pe_int (nomark _)) (pss_one (ps_ret pe_str)) pss_nil)
      (pss_cons (ps_if (PW.pt (pw_and (pt_cmpR op_eq (pe_callB call_len_str (by rfl) T.b_len PySem.boot_len (pa_cons (pv 2) pa_nil)) pe_int (nomark _)) (pw_and1 (pt_val (pe_callB (cr_anyK K rfl rfl) (by rfl) T.b_any (by decide +kernel) (pa_cons (pe_lc (own := [("other", 5)]) (by rfl) nd (pi_listK K rfl (pe_op op_cat (pe_lst (pa_cons (pv 1) pa_nil)) (pv 3))) (blkOk_by (N := ["words", "text", "word", "known", "entry", "other"]) (sc := defScope s_why_not_drop) (by decide +kernel)) (fun _ _ _ _ _ => (pg_name (i := 5) nd rfl (Or.inl rfl))) (fun _ _ _ _ _ => (pts_one (PW.pt (pw_or (pt_cmpR op_ne (pv 5) (pv 2) (nomark _)) (pw_or1 (pt_cmpR op_eq (pv 5) (pv 1) (nomark _))))))) (fun _ _ _ _ _ => (pe_cmpR op_in_sign (pv 2) (pv 5) (by rfl)))) pa_nil)))))) (pss_one (ps_ret pe_str)) pss_nil)
      (pss_one (ps_ret pe_non)))))), ?_⟩
    refine q_asgP (ev_names (ev_var rfl) ha hk hE (by omega) (fun _ => rfl) (fun _ => rfl)) fun v H1 e1 ⟨p, ev, hp⟩ => ?_
    subst ev
    refine q_when (et_test (ev_is (ev_op (ev_var rfl) (ev_var rfl) (rv_niL (SqL.of hp) rfl (flat_S _))) (congrArg (fun b => V.bl (!b)) (inV_S u (names ws))))) (fun hb H2 e2 => ?_) fun hb H2 e2 => ?_
    · refine s_ret ev_c fun H3 e3 => k _ H3 ((e1.trans e2).trans e3) ?_
      rw [Bool.not_eq_true'] at hb
      unfold dropB
      rw [hb]
      rfl
    · rw [Bool.not_eq_false'] at hb
      have hp2 := e2 _ _ hp
      have hnl : (names ws).length = ws.length := by unfold names; rw [List.length_map]
      have hlen : decide (V.int (((names ws).map vS).length : Int) = V.int 1) = decide ((names ws).length = 1) := by
        rw [List.length_map]
        by_cases h : (names ws).length = 1
        · rw [decide_eq_true h, h]; rfl
        · rw [decide_eq_false h, decide_eq_false fun q => h (by have := V.int.inj q; omega)]
      refine q_when (et_test (ev_is (ev_op (ev_lenL (ev_var rfl) hp2) ev_c (rv_eq rfl)) (congrArg V.bl hlen))) (fun hb2 H3 e3 => ?_) fun hb2 H3 e3 => ?_
      · refine s_ret ev_c fun H4 e4 => k _ H4 (((e1.trans e2).trans e3).trans e4) ?_
        unfold dropB
        rw [hb, hb2]
        rfl
      · have hp3 := e3 _ _ hp2
        have hlen1 : decide (V.int ((S u).length : Int) = V.int 1) = decide (u.length = 1) := by
          rw [S_len]
          by_cases h : u.length = 1
          · rw [decide_eq_true h, h]; rfl
          · rw [decide_eq_false h, decide_eq_false fun q => h (by have := V.int.inj q; omega)]
        refine q_when (et_and (b := ((t :: names ws).filter fun o => (!decide (o = u) || decide (o = t))).any fun o => decide (u.headD 0 ∈ o)) (et_test (ev_is (ev_op (ev_lenS (ev_var rfl) (by rw [S_len]; omega)) ev_c (rv_eq rfl)) (congrArg V.bl hlen1))) fun h1 => et_B (ev_anyCF (l := t :: names ws) (fv := vS) (fun o => (!decide (o = u) || decide (o = t))) (fun o => decide (u.headD 0 ∈ o)) ?_ ?_ fun o ho => ⟨_, bnd_name, rfl,
          et_is (et_or (et_test (ev_neS (ev_var rfl) (ev_var rfl))) fun _ => et_test (ev_eqS (ev_var rfl) (ev_var rfl))) (by rw [dec_S, dec_S]), fun _ => ?_⟩)) (fun hb3 H4 e4 => ?_) fun hb3 H4 e4 => ?_
        · exact ei_listP (evp_cat (xs := [vS t]) (evl_p (el_lst (ea_cons (ev_var rfl) ea_nil) (by simp))) (evl_of (ev_var rfl) hp3) (by rw [List.length_map]; simp; omega))
        · simp; omega
        · match u, of_decide_eq_true h1 with
          | [c], _ => exact ev_op (ev_var rfl) (ev_var rfl) rv_in
        · refine s_ret ev_c fun H5 e5 => k _ H5 ((((e1.trans e2).trans e3).trans e4).trans e5) ?_
          unfold dropB
          rw [hb, hb2, hb3]
          rfl
        · refine s_ret ev_c fun H5 e5 => k _ H5 ((((e1.trans e2).trans e3).trans e4).trans e5) ?_
          unfold dropB
          rw [hb, hb2, hb3]
          rfl

/-! ### edited -/
def isEdit : Cmd → Prop
  | .add _ _ => False
  | .drop _ => False
  | _ => True
def sp_edited : Sp := fun vs H Q _ => ∃ (v : V) (t : Wd) (c : Cmd), vs = [vS t, v] ∧ RD H (cmdD c) v ∧ isEdit c ∧ CmdSm c ∧ t.length ≤ 100 ∧ RetV (vS (editW t c)) H Q
theorem sc_edited : FnScope ["text", "command", "put"] ["text", "command"] (defScope s_edited) := ⟨rfl, rfl, rfl, by decide +kernel, rfl, by decide +kernel, by decide +kernel⟩
theorem ok_edited (T : Txt K mg w) : Ok P w K mg base 1 "edited" ["text", "command"] sp_edited := by
  have nd := sc_edited.nd
  refine Ok.mk T.d_edited sc_edited (fun _ _ _ _ _ _ us hl => match us, hl with | [_, _], _ => rfl) (fun vs H Q E h => ?_) fun f cdv A outer s H vs Q E hr h => ?_
  · obtain ⟨_, _, _, rfl, _⟩ := h
    rfl
  · obtain ⟨v, t, c, rfl, hc, hi, hs, ht, k⟩ := h
    obtain ⟨a, rfl, ha⟩ := cmd_at hc
    refine ⟨_, (pss_cons (ps_if (pt_cmpR op_eq (pe_ix (ix_tupK K rfl) (pv 1) pe_int (fun _ _ => rfl)) pe_str (nomark _)) (pss_one (ps_ret (pe_op op_add_str (pe_op op_add_str (pe_slice sl_str (pv 0) po_none (po_some (pe_ix (ix_tupK K rfl) (pv 1) pe_int (fun _ _ => rfl)))) (pe_ix (ix_tupK K rfl) (pv 1) pe_int (fun _ _ => rfl))) (pe_slice sl_str (pv 0) (po_some (pe_ix (ix_tupK K rfl) (pv 1) pe_int (fun _ _ => rfl))) po_none)))) pss_nil)
      (pss_cons (ps_set (i := 2) nd rfl (Or.inl rfl) (pe_ifExp (pt_cmpR op_eq (pe_ix (ix_tupK K rfl) (pv 1) pe_int (fun _ _ => rfl)) pe_str (nomark _)) (pe_ix (ix_tupK K rfl) (pv 1) pe_int (fun _ _ => rfl)) pe_str))
      (pss_one (ps_ret (pe_op op_add_str (pe_op op_add_str (pe_slice sl_str (pv 0) po_none (po_some (pe_ix (ix_tupK K rfl) (pv 1) pe_int (fun _ _ => rfl)))) (pv 2)) (pe_slice sl_str (pv 0) (po_some (pe_ix (ix_tupK K rfl) (pv 1) pe_int (fun _ _ => rfl))) po_none)))))), ?_⟩
    have l1 : ∀ n, (t.take n).length ≤ t.length := fun n => by rw [List.length_take]; omega
    have l2 : ∀ n, (t.drop n).length ≤ t.length := fun n => by rw [List.length_drop]; omega
    cases c with
    | ins i p =>
      have hs' : p.length ≤ 100 := hs
      have q1 := l1 i
      have q2 := l2 i
      refine q_yes (et_is (et_test (ev_eqS (ev_ixT (i := 0) (ev_var rfl) ha ev_c rfl) ev_c)) (decide_eq_true rfl)) fun H1 e1 => ?_
      have ha1 := e1 _ _ ha
      refine s_ret (ev_addS (a := t.take i ++ p) (b := t.drop i) (ev_addS (a := t.take i) (ev_is (ev_slS (ev_var rfl) eo_none (eo_some (ev_ixT (i := 1) (ev_var rfl) ha1 ev_c rfl)) (by omega)) (by rw [cut_to])) (ev_ixT (i := 2) (ev_var rfl) ha1 ev_c rfl) (by omega)) (ev_is (ev_slS (ev_var rfl) (eo_some (ev_ixT (i := 1) (ev_var rfl) ha1 ev_c rfl)) eo_none (by omega)) (by rw [cut_from])) (by rw [List.length_append]; omega)) fun H2 e2 => k H2 (e1.trans e2)
    | rem i j =>
      have q1 := l1 i
      have q2 := l2 j
      refine q_skip (et_is (et_test (ev_eqS (ev_ixT (i := 0) (ev_var rfl) ha ev_c rfl) ev_c)) (decide_eq_false n_rem_ins)) fun H1 e1 => ?_
      have ha1 := e1 _ _ ha
      refine q_asg (v := vS []) (ev_if (et_is (et_test (ev_eqS (ev_ixT (i := 0) (ev_var rfl) ha1 ev_c rfl) ev_c)) (decide_eq_false fun q => n_rep_rem q.symm)) (fun h => by cases h) fun _ => ev_is ev_c (by rw [empty_S])) fun H2 e2 => ?_
      have ha2 := e2 _ _ ha1
      refine s_ret (ev_addS (a := t.take i ++ []) (b := t.drop j) (ev_addS (a := t.take i) (ev_is (ev_slS (ev_var rfl) eo_none (eo_some (ev_ixT (i := 1) (ev_var rfl) ha2 ev_c rfl)) (by omega)) (by rw [cut_to])) (ev_var rfl) (by simp; omega)) (ev_is (ev_slS (ev_var rfl) (eo_some (ev_ixT (i := 2) (ev_var rfl) ha2 ev_c rfl)) eo_none (by omega)) (by rw [cut_from])) (by rw [List.append_nil]; omega)) fun H3 e3 => k H3 ((e1.trans e2).trans e3)
    | rep i j p =>
      have hs' : p.length ≤ 100 := hs
      have q1 := l1 i
      have q2 := l2 j
      refine q_skip (et_is (et_test (ev_eqS (ev_ixT (i := 0) (ev_var rfl) ha ev_c rfl) ev_c)) (decide_eq_false n_rep_ins)) fun H1 e1 => ?_
      have ha1 := e1 _ _ ha
      refine q_asg (v := vS p) (ev_if (et_is (et_test (ev_eqS (ev_ixT (i := 0) (ev_var rfl) ha1 ev_c rfl) ev_c)) (decide_eq_true rfl)) (fun _ => ev_ixT (i := 3) (ev_var rfl) ha1 ev_c rfl) fun h => by cases h) fun H2 e2 => ?_
      have ha2 := e2 _ _ ha1
      refine s_ret (ev_addS (a := t.take i ++ p) (b := t.drop j) (ev_addS (a := t.take i) (ev_is (ev_slS (ev_var rfl) eo_none (eo_some (ev_ixT (i := 1) (ev_var rfl) ha2 ev_c rfl)) (by omega)) (by rw [cut_to])) (ev_var rfl) (by omega)) (ev_is (ev_slS (ev_var rfl) (eo_some (ev_ixT (i := 2) (ev_var rfl) ha2 ev_c rfl)) eo_none (by omega)) (by rw [cut_from])) (by rw [List.length_append]; omega)) fun H3 e3 => k H3 ((e1.trans e2).trans e3)
    | add u c => exact hi.elim
    | drop u => exact hi.elim
end
end G
/-! greedycuts.desk: why_not, behind -/
namespace G
open PySem PySem.Spec PyProof.Rows L2 Evl

/-- word lists as they stand, through sorting -/
def KeysIs (ws : WL) (ys : List V) (H : Hp) : Prop := (∀ y ∈ ys, IsE H y) ∧ ys.map (keyE H) = ws
theorem KeysIs.ext {ws : WL} {ys : List V} {H H' : Hp} (e : ExT H H') (h : KeysIs ws ys H) : KeysIs ws ys H' := by
  refine ⟨fun y hy => ((h.1 y hy).ext e).1, ?_⟩
  rw [← h.2]
  apply List.map_congr_left
  intro y hy
  exact ((h.1 y hy).ext e).2
section
variable {K : PySem.W.Frag} {σ : L2.St} {H : Hp} {ta tb te : TE}
theorem evp_sorted {ws : WL} (h : EvP te σ H (fun v H1 => ∃ p xs, v = .ref p ∧ (H1 p = some (.lst xs) ∨ H1 p = some (.tup xs)) ∧ KeysIs ws xs H1)) : EvP (tCB (rSortedE K) (tCons te tNil)) σ H (fun v H1 => ∃ p ys, v = .ref p ∧ H1 p = some (.lst ys) ∧ KeysIs (sortW ws) ys H1) := fun H1 e Q q =>
  h H1 e _ fun v H2 e2 ⟨p, xs, ev, hp, hk⟩ => by
    subst ev
    refine ⟨p, xs, keyE H2, rfl, ?_, fun x hx => ?_, fun ys p2 hs hperm hn => ?_⟩
    · rcases hp with hp | hp
      · exact .inl (SqL.of hp)
      · exact .inr (SqT.of hp)
    · obtain ⟨t, rfl, ht⟩ := hk.1 x hx
      exact ⟨t, S (keyE H2 (.ref t)).1, rfl, ht, S_list _⟩
    · have k2 : KeysIs (sortW ws) ys H2 := by
        refine ⟨fun y hy => hk.1 y (hperm.mem_iff.mp hy), sortW_eq ?_ ?_⟩
        · exact List.pairwise_map.mpr hs
        · rw [← hk.2]
          exact hperm.map _
      exact q _ _ (e2.trans (Ex.new hn)) ⟨p2, ys, rfl, upd_same, k2.ext (ext_of (Ex.new hn))⟩
end
theorem cmd_kind (c : Cmd) : (∃ z xs, cmdV c = .str z :: xs ∧ ¬ z = "add" ∧ ¬ z = "drop" ∧ isEdit c) ∨ (∃ u k, c = .add u k) ∨ (∃ u, c = .drop u) := by
  cases c with
  | ins i p => exact .inl ⟨_, _, rfl, n_ins_add, n_ins_drop, trivial⟩
  | rem i j => exact .inl ⟨_, _, rfl, n_rem_add, n_rem_drop, trivial⟩
  | rep i j p => exact .inl ⟨_, _, rfl, n_rep_add, n_rep_drop, trivial⟩
  | add u c => exact .inr (.inl ⟨u, c, rfl⟩)
  | drop u => exact .inr (.inr ⟨u, rfl⟩)
section
variable {P : Program} {w : World} {K : PySem.W.Frag} {mg : Str → Option Value} {base : Heap}
theorem editW_len {t : Wd} {c : Cmd} (ht : t.length ≤ 100) (hs : CmdSm c) : (editW t c).length ≤ 1000 := by
  cases c with
  | ins i p =>
    have : p.length ≤ 100 := hs
    show (t.take i ++ p ++ t.drop i).length ≤ 1000
    rw [List.length_append, List.length_append, List.length_take, List.length_drop]
    omega
  | rem i j =>
    show (t.take i ++ [] ++ t.drop j).length ≤ 1000
    rw [List.length_append, List.length_append, List.length_take, List.length_drop]
    simp
    omega
  | rep i j p =>
    have : p.length ≤ 100 := hs
    show (t.take i ++ p ++ t.drop j).length ≤ 1000
    rw [List.length_append, List.length_append, List.length_take, List.length_drop]
    omega
  | add u c => show t.length ≤ 1000; omega
  | drop u => show t.length ≤ 1000; omega
def sp_why_not : Sp := fun vs H Q _ => ∃ (x v : V) (ws : WL) (t : Wd) (c : Cmd), vs = [x, vS t, v] ∧ RD H (wlD ws) x ∧ ws.length ≤ 8 ∧ RD H (cmdD c) v ∧ CmdSm c ∧ t.length ≤ 100 ∧ RetP (fun v _ => decide (v = .non) = possB ws t c) H Q
theorem sc_why_not : FnScope ["words", "text", "command"] ["words", "text", "command"] (defScope s_why_not) := ⟨rfl, rfl, rfl, by decide +kernel, rfl, by decide +kernel, by decide +kernel⟩
theorem ok_why_not (T : Txt K mg w) : Ok P w K mg base 2 "why_not" ["words", "text", "command"] sp_why_not := by
  have nd := sc_why_not.nd
  refine Ok.mk T.d_why_not sc_why_not (fun _ _ _ _ _ _ us hl => match us, hl with | [_, _, _], _ => rfl) (fun vs H Q E h => ?_) fun f cdv A outer s H vs Q E hr h => ?_
  · obtain ⟨_, _, _, _, _, rfl, _⟩ := h
    rfl
  · obtain ⟨x, v, ws, t, c, rfl, hx, hl8, hc, hs, ht, k⟩ := h
    obtain ⟨a, rfl, ha⟩ := cmd_at hc
    refine ⟨_, (pss_cons (ps_if (pt_cmpR op_eq (pe_ix (ix_tupK K rfl) (pv 2) pe_int (fun _ _ => rfl)) pe_str (nomark _)) (pss_one (ps_ret (pe_fn (ok_why_not_add T) hr (pa_cons (pv 0) (pa_cons (pe_ix (ix_tupK K rfl) (pv 2) pe_int (fun _ _ => rfl)) pa_nil))))) pss_nil)
      (pss_cons (ps_if (pt_cmpR op_eq (pe_ix (ix_tupK K rfl) (pv 2) pe_int (fun _ _ => rfl)) pe_str (nomark _)) (pss_one (ps_ret (pe_fn (ok_why_not_drop T) hr (pa_cons (pv 0) (pa_cons (pv 1) (pa_cons (pe_ix (ix_tupK K rfl) (pv 2) pe_int (fun _ _ => rfl)) pa_nil)))))) pss_nil)
      (pss_one (ps_ret (pe_ifExp (pt_cmpR op_gt (pe_callB call_len_str (by rfl) T.b_len PySem.boot_len (pa_cons (pe_fn (ok_edited T) hr (pa_cons (pv 1) (pa_cons (pv 2) pa_nil))) pa_nil)) (pe_gint T.c_MOST_LETTERS_desk) (nomark _)) pe_str pe_non))))), ?_⟩
    have hed := editW_len ht hs
    rcases cmd_kind c with ⟨z, zs, hv, na, nd', hi⟩ | ⟨u, c, rfl⟩ | ⟨u, rfl⟩
    · rw [hv] at ha
      refine q_skip (et_is (et_test (ev_eqS (ev_ixT (i := 0) (ev_var rfl) ha ev_c rfl) ev_c)) (decide_eq_false na)) fun H1 e1 => ?_
      refine q_skip (et_is (et_test (ev_eqS (ev_ixT (i := 0) (ev_var rfl) (e1 _ _ ha) ev_c rfl) ev_c)) (decide_eq_false nd')) fun H2 e2 => ?_
      refine s_retP (evp_if (et_test (ev_op (ev_lenS (z := S (editW t c)) (ev_call (ea_cons (ev_var rfl) (ea_cons (ev_var rfl) ea_nil)) fun H3 e3 Q q E => ⟨_, t, c, rfl, ((hc.ex e1).ex e2).ex e3, hi, hs, ht, q⟩) (by rw [S_len]; omega)) ev_c rv_I0)) (fun hb => (ev_p ev_c).imp (P' := fun v _ => decide (v = .non) = possB ws t c) ?_) fun hb => (ev_p ev_c).imp ?_) fun v H3 e3 q => k v H3 ((e1.trans e2).trans e3) q
      · intro v H3 _ ev
        subst ev
        rw [S_len] at hb
        have h30 := of_decide_eq_true hb
        have : possB ws t c = !decide (30 < (editW t c).length) := by cases c <;> first | rfl | exact hi.elim
        rw [this, decide_eq_true (show 30 < (editW t c).length by omega)]
        rfl
      · intro v H3 _ ev
        subst ev
        rw [S_len] at hb
        have h30 := of_decide_eq_false hb
        have : possB ws t c = !decide (30 < (editW t c).length) := by cases c <;> first | rfl | exact hi.elim
        rw [this, decide_eq_false (show ¬ 30 < (editW t c).length by omega)]
        rfl
    · refine q_yes (et_is (et_test (ev_eqS (ev_ixT (i := 0) (ev_var rfl) ha ev_c rfl) ev_c)) (decide_eq_true rfl)) fun H1 e1 => ?_
      refine s_retP (evp_call (ea_cons (ev_var rfl) (ea_cons (ev_ixT (i := 1) (ev_var rfl) (e1 _ _ ha) ev_c rfl) ea_nil)) fun H2 e2 Q q E => ⟨x, ws, u, rfl, (hx.ex e1).ex e2, hl8, hs, q⟩) fun v H2 e2 q => k v H2 (e1.trans e2) q
    · refine q_skip (et_is (et_test (ev_eqS (ev_ixT (i := 0) (ev_var rfl) ha ev_c rfl) ev_c)) (decide_eq_false n_add_drop)) fun H0 e0 => ?_
      refine q_yes (et_is (et_test (ev_eqS (ev_ixT (i := 0) (ev_var rfl) (e0 _ _ ha) ev_c rfl) ev_c)) (decide_eq_true rfl)) fun H1 e1 => ?_
      refine s_retP (evp_call (ea_cons (ev_var rfl) (ea_cons (ev_var rfl) (ea_cons (ev_ixT (i := 1) (ev_var rfl) (e1 _ _ (e0 _ _ ha)) ev_c rfl) ea_nil))) fun H2 e2 Q q E => ⟨x, ws, t, u, rfl, ((hx.ex e0).ex e1).ex e2, hl8, hs, ht, q⟩) fun v H2 e2 q => k v H2 ((e0.trans e1).trans e2) q

/-- a pair (words, text) -/
abbrev StV (st : WL × Wd) : V → Hp → Prop := fun v H1 => ∃ p y, v = .ref p ∧ H1 p = some (.tup [y, vS st.2]) ∧ RD H1 (wlD st.1) y
def sp_behind : Sp := fun vs H Q _ => ∃ (x v : V) (ws : WL) (t : Wd) (c : Cmd), vs = [x, vS t, v] ∧ RD H (wlD ws) x ∧ 1 ≤ ws.length ∧ ws.length ≤ 8 ∧ (∀ u ∈ names ws, u.length ≤ 100) ∧ RD H (cmdD c) v ∧ CmdSm c ∧ t.length ≤ 100 ∧ RetP (StV (behindS ws t c)) H Q
theorem mon_wl (ws : WL) : Mon (fun v H1 => RD H1 (wlD ws) v) := fun v H H' e h => h.ex e
/-- the display (words, text) -/
theorem evp_state {σ : L2.St} {H : Hp} {ta tb : TE} {ws : WL} {t : Wd} (ha : EvP ta σ H (fun v H1 => RD H1 (wlD ws) v)) (hb : Ev tb σ H (vS t)) : EvP (tTup (tCons ta (tCons tb tNil))) σ H (StV (ws, t)) :=
  (evp_tup (PA := fun vs H1 => ∃ v us, vs = v :: us ∧ RD H1 (wlD ws) v ∧ ∃ v', us = [v'] ∧ v' = vS t) (fun vs H H' e ⟨v, us, h1, h2, h3⟩ => ⟨v, us, h1, h2.ex e, h3⟩) (eap_cons (mon_wl ws) ha (eap_one (ev_p hb))) (fun vs H1 ⟨v, us, h1, h2, v', h3, h4⟩ => by subst h1 h3; simp)).imp
    fun v H1 _ ⟨p, vs, ev, hp, y, us, h1, h2, v', h3, h4⟩ => ⟨p, y, ev, by subst h1 h3 h4; exact hp, h2⟩
theorem sc_behind : FnScope ["words", "text", "command", "entry"] ["words", "text", "command"] (defScope s_behind) := ⟨rfl, rfl, rfl, by decide +kernel, rfl, by decide +kernel, by decide +kernel⟩
theorem ok_behind (T : Txt K mg w) : Ok P w K mg base 2 "behind" ["words", "text", "command"] sp_behind := by
  have nd := sc_behind.nd
  refine Ok.mk T.d_behind sc_behind (fun _ _ _ _ _ _ us hl => match us, hl with | [_, _, _], _ => rfl) (fun vs H Q E h => ?_) fun f cdv A outer s H vs Q E hr h => ?_
  · obtain ⟨_, _, _, _, _, rfl, _⟩ := h
    rfl
  · obtain ⟨x, v, ws, t, c, rfl, hx, hg1, hl8, hw4, hc, hs, ht, k⟩ := h
    obtain ⟨a, rfl, ha⟩ := cmd_at hc
    obtain ⟨b, xs, rfl, hb, hk, hE⟩ := wl_inv hx
    have hl : xs.length = ws.length := by rw [← hk, List.length_map]
    refine ⟨_, (pss_cons (ps_if (pt_cmpR op_eq (pe_ix (ix_tupK K rfl) (pv 2) pe_int (fun _ _ => rfl)) pe_str (nomark _)) (pss_one (ps_ret (pe_tup (pa_cons (pe_callTy call_tuple_of (by rfl) T.b_tuple (by decide +kernel) (pa_cons (pe_callB cr_sortedE (by rfl) T.b_sorted (by decide +kernel) (pa_cons (pe_op (op_catK K rfl) (pv 0) (pe_tup (pa_cons (pe_slice (sl_tupK K rfl) (pv 2) (po_some pe_int) po_none) pa_nil))) pa_nil)) pa_nil)) (pa_cons (pv 1) pa_nil))))) pss_nil)
      (pss_cons (ps_if (pt_cmpR op_eq (pe_ix (ix_tupK K rfl) (pv 2) pe_int (fun _ _ => rfl)) pe_str (nomark _)) (pss_one (ps_ret (pe_tup (pa_cons (pe_callTy call_tuple_of (by rfl) T.b_tuple (by decide +kernel) (pa_cons (pe_lc (own := [("entry", 3)]) (by rfl) nd (pi_tupK K rfl (pv 0)) (blkOk_by (N := ["words", "text", "command", "entry"]) (sc := defScope s_behind) (by decide +kernel)) (fun _ _ _ _ _ => (pg_name (i := 3) nd rfl (Or.inl rfl))) (fun _ _ _ _ _ => (pts_one (pt_cmpR op_ne (pe_ix (ix_tupK K rfl) (pv 3) pe_int (fun _ _ => rfl)) (pe_ix (ix_tupK K rfl) (pv 2) pe_int (fun _ _ => rfl)) (nomark _)))) (fun _ _ _ _ _ => (pv 3))) pa_nil)) (pa_cons (pv 1) pa_nil))))) pss_nil)
      (pss_one (ps_ret (pe_tup (pa_cons (pv 0) (pa_cons (pe_fn (ok_edited T) hr (pa_cons (pv 1) (pa_cons (pv 2) pa_nil))) pa_nil))))))), ?_⟩
    rcases cmd_kind c with ⟨z, zs, hv, na, nd', hi⟩ | ⟨u, c, rfl⟩ | ⟨u, rfl⟩
    · rw [hv] at ha
      refine q_skip (et_is (et_test (ev_eqS (ev_ixT (i := 0) (ev_var rfl) ha ev_c rfl) ev_c)) (decide_eq_false na)) fun H1 e1 => ?_
      refine q_skip (et_is (et_test (ev_eqS (ev_ixT (i := 0) (ev_var rfl) (e1 _ _ ha) ev_c rfl) ev_c)) (decide_eq_false nd')) fun H2 e2 => ?_
      refine s_retP (evp_state (ws := ws) (t := editW t c) ((ev_p (ev_var rfl)).imp fun v H3 e3 ev => by rw [ev]; exact ((hx.ex e1).ex e2).ex e3) (ev_call (ea_cons (ev_var rfl) (ea_cons (ev_var rfl) ea_nil)) fun H3 e3 Q q E => ⟨_, t, c, rfl, ((hc.ex e1).ex e2).ex e3, hi, hs, ht, q⟩)) fun v H3 e3 q => k v H3 ((e1.trans e2).trans e3) ?_
      have : behindS ws t c = (ws, editW t c) := by cases c <;> first | rfl | exact hi.elim
      rw [this]
      exact q
    · refine q_yes (et_is (et_test (ev_eqS (ev_ixT (i := 0) (ev_var rfl) ha ev_c rfl) ev_c)) (decide_eq_true rfl)) fun H1 e1 => ?_
      have ha1 := e1 _ _ ha
      have hb1 := e1 _ _ hb
      have hcut : cutV (cmdV (.add u c)) (some ((1 : Nat) : Int)) none = [vS u, .int c] := by rw [cutV_from]; rfl
      refine s_retP (evp_state (ws := sortW (ws ++ [(u, c)])) ((evp_tupLP (P := KeysIs (sortW (ws ++ [(u, c)]))) (fun ys H H' e h => h.ext e) (evp_sorted (ws := ws ++ [(u, c)]) (evp_op (P := fun v H2 => ∃ p, v = .ref p ∧ H2 p = some (.tup xs)) (fun v H H' e ⟨p, h1, h2⟩ => ⟨p, h1, e _ _ h2⟩) (evt_of (ev_var rfl) hb1)
        (evp_tup (PA := fun vs H2 => ∃ v, vs = [v] ∧ ∃ p, v = .ref p ∧ H2 p = some (.tup [vS u, .int c])) (fun vs H H' e ⟨v, h1, p, h2, h3⟩ => ⟨v, h1, p, h2, e _ _ h3⟩) (eap_one ((evp_slT (lo := some ((1 : Nat) : Int)) (hi := none) (ev_var rfl) ha1 (eo_some ev_c) eo_none).imp fun v H2 _ ⟨p, h1, h2⟩ => ⟨p, h1, by rw [hcut] at h2; exact h2⟩)) (fun vs H2 ⟨v, h1, _⟩ => by subst h1; simp))
        ?_))).imp fun v H2 _ ⟨p, ys, ev, hp, hky⟩ => ?_) (ev_var rfl)) fun v H2 e2 q => k v H2 (e1.trans e2) q
      · rintro x y H2 e2 ⟨p, rfl, hp⟩ ⟨q, vs, rfl, hq, v, rfl, r, rfl, hr⟩ Q kk
        refine ⟨p, q, xs, [.ref r], rfl, rfl, SqT.of hp, SqT.of hq, ?_, fun h0 => ?_, fun _ h0 => (by cases h0), fun _ _ l hl' => ?_⟩
        · rw [hl]; exact sz_of (by simp; omega)
        · rw [h0] at hl
          simp at hl
          omega
        · have e12 : ExT H H2 := (ext_of e1).trans (ext_of e2)
          have k0 : KeysIs ws xs H2 := KeysIs.ext e12 ⟨hE, hk⟩
          have kr : keyE H2 (.ref r) = (u, c) := keyE_at hr
          have k1 : KeysIs (ws ++ [(u, c)]) (xs ++ [.ref r]) H2 := by
            refine ⟨fun y hy => ?_, ?_⟩
            · rcases List.mem_append.mp hy with h | h
              · exact k0.1 y h
              · rw [List.mem_singleton.mp h]
                exact ⟨r, rfl, by rw [kr]; exact hr⟩
            · rw [List.map_append, k0.2, List.map_cons, kr]
              rfl
          exact kk _ _ (Ex.new hl') ⟨l, _, rfl, .inr upd_same, k1.ext (ext_of (Ex.new hl'))⟩
      · subst ev
        have := wl_mk hp hky.1
        rw [hky.2] at this
        exact this
    · refine q_skip (et_is (et_test (ev_eqS (ev_ixT (i := 0) (ev_var rfl) ha ev_c rfl) ev_c)) (decide_eq_false n_add_drop)) fun H0 e0 => ?_
      refine q_yes (et_is (et_test (ev_eqS (ev_ixT (i := 0) (ev_var rfl) (e0 _ _ ha) ev_c rfl) ev_c)) (decide_eq_true rfl)) fun H1 e1 => ?_
      have ha1 := e1 _ _ (e0 _ _ ha)
      have hb1 := e1 _ _ (e0 _ _ hb)
      have e01 : ExT H H1 := (ext_of e0).trans (ext_of e1)
      refine s_retP (evp_state (ws := ws.filter fun e => !decide (e.1 = u)) ((evp_tupL (el_lc (l := xs) (fv := id) (fun x => !decide ((keyE H x).1 = u)) id (ei_id (ei_tup (ev_var rfl) fun _ e => SqT.of (e _ _ hb1))) (by omega) fun y hy => ?_)).imp fun v H2 e2 ⟨p, ev, hp⟩ => ?_) (ev_var rfl)) fun v H2 e2 q => k v H2 ((e0.trans e1).trans e2) q
      · obtain ⟨t', rfl, ht'⟩ := hE y hy
        exact ⟨_, bnd_name, rfl, et_is (et_test (ev_neS (ev_ixT (i := 0) (ev_var rfl) (e01 _ _ ht') ev_c rfl) (ev_ixT (i := 1) (ev_var rfl) ha1 ev_c rfl))) (by rw [dec_S]), fun _ => ev_var rfl⟩
      · subst ev
        rw [List.map_id] at hp
        have e02 : ExT H H2 := e01.trans (ext_of e2)
        have k0 : KeysIs (ws.filter fun e => !decide (e.1 = u)) (xs.filter fun x => !decide ((keyE H x).1 = u)) H := by
          refine ⟨fun y hy => hE y (List.mem_filter.mp hy).1, ?_⟩
          rw [← hk, List.filter_map]
          rfl
        have k2 := k0.ext e02
        have := wl_mk hp k2.1
        rw [k2.2] at this
        exact this
end
end G
/-! What a possible command leaves is a word list and a text of it; records judged one by one. -/
namespace G
open PySem
def FormOk (ws : WL) (t : Wd) : Cmd → Prop
  | .ins i p => i ≤ t.length ∧ p.length ≤ 30 ∧ Letters ws p
  | .rem i j => i ≤ j ∧ j ≤ t.length
  | .rep i j p => i ≤ j ∧ j ≤ t.length ∧ p.length ≤ 30 ∧ Letters ws p
  | .add u c => okL u = true ∧ 1 ≤ c ∧ c ≤ 9
  | .drop _ => True
theorem textB_iff {ws : WL} {z : Str} : textB ws (.str z) = true ↔ z.cps.toList.length ≤ 30 ∧ Letters ws z.cps.toList := by
  show (decide (z.length ≤ 30) && z.cps.toList.all fun c => decide (c ∈ letters ws)) = true ↔ _
  rw [Bool.and_eq_true, decide_eq_true_eq, List.all_eq_true, len_cps]
  refine and_congr Iff.rfl ⟨fun h c hc => mem_letters.mp (of_decide_eq_true (h c hc)), fun h c hc => decide_eq_true (mem_letters.mpr (h c hc))⟩
theorem btw_iff {i lo hi : Int} : btw (.int i) lo hi = true ↔ lo ≤ i ∧ i ≤ hi := by
  show (decide (lo ≤ i) && decide (i ≤ hi)) = true ↔ _
  rw [Bool.and_eq_true, decide_eq_true_eq, decide_eq_true_eq]
theorem decA_form {ws : WL} {t : Wd} {z : Str} {ds : List PyData} {c : Cmd} (h : decA ws t z ds = some c) : .tuple (.str z :: ds) = cmdD c ∧ FormOk ws t c := by
  unfold decA at h
  split at h
  · rename_i hz
    subst hz
    split at h
    · rename_i u k
      split at h
      · rename_i hb
        rw [Bool.and_eq_true, btw_iff] at hb
        cases h
        refine ⟨?_, hb.1, hb.2⟩
        show _ = PyData.tuple [.str "add", .str (S u.cps.toList), .int k]
        rw [S_eta]
      · cases h
    · cases h
  · split at h
    · rename_i hz
      subst hz
      split at h
      · rename_i u
        cases h
        refine ⟨?_, trivial⟩
        show _ = PyData.tuple [.str "drop", .str (S u.cps.toList)]
        rw [S_eta]
      · cases h
    · split at h
      · rename_i hz
        subst hz
        split at h
        · rename_i i p
          split at h
          · rename_i hb
            rw [Bool.and_eq_true, btw_iff, textB_iff] at hb
            cases h
            refine ⟨?_, by omega, hb.2⟩
            show _ = PyData.tuple [.str "insert", .int (i.toNat : Int), .str (S p.cps.toList)]
            rw [S_eta, Int.toNat_of_nonneg hb.1.1]
          · cases h
        · cases h
      · split at h
        · rename_i hz
          subst hz
          split at h
          · rename_i i j
            split at h
            · rename_i hb
              rw [Bool.and_eq_true, btw_iff, btw_iff] at hb
              cases h
              refine ⟨?_, by omega, by omega⟩
              show _ = PyData.tuple [.str "remove", .int (i.toNat : Int), .int (j.toNat : Int)]
              rw [Int.toNat_of_nonneg hb.1.1, Int.toNat_of_nonneg (by omega)]
            · cases h
          · cases h
        · split at h
          · rename_i hz
            subst hz
            split at h
            · rename_i i j p
              split at h
              · rename_i hb
                rw [Bool.and_eq_true, Bool.and_eq_true, btw_iff, btw_iff, textB_iff] at hb
                cases h
                refine ⟨?_, by omega, by omega, hb.2⟩
                show _ = PyData.tuple [.str "replace", .int (i.toNat : Int), .int (j.toNat : Int), .str (S p.cps.toList)]
                rw [S_eta, Int.toNat_of_nonneg hb.1.1.1, Int.toNat_of_nonneg (by omega)]
              · cases h
            · cases h
          · cases h
theorem dec_form {ws : WL} {t : Wd} {d : PyData} {c : Cmd} (h : dec ws t d = some c) : d = cmdD c ∧ FormOk ws t c := by
  unfold dec at h
  split at h
  · exact decA_form h
  · cases h
theorem form_dec {ws : WL} {t : Wd} {c : Cmd} (h : FormOk ws t c) : dec ws t (cmdD c) = some c := by
  cases c with
  | ins i p =>
    obtain ⟨h1, h2, h3⟩ := h
    show decA ws t "insert" [.int i, .str (S p)] = _
    unfold decA
    rw [if_neg n_ins_add, if_neg n_ins_drop, if_pos rfl]
    show (if (btw (.int i) 0 t.length && textB ws (.str (S p))) = true then _ else _) = _
    rw [if_pos (by rw [Bool.and_eq_true, btw_iff, textB_iff, S_list]; exact ⟨⟨by omega, by omega⟩, h2, h3⟩), S_list, Int.toNat_natCast]
  | rem i j =>
    obtain ⟨h1, h2⟩ := h
    show decA ws t "remove" [.int i, .int j] = _
    unfold decA
    rw [if_neg n_rem_add, if_neg n_rem_drop, if_neg n_rem_ins, if_pos rfl]
    show (if (btw (.int i) 0 t.length && btw (.int j) i t.length) = true then _ else _) = _
    rw [if_pos (by rw [Bool.and_eq_true, btw_iff, btw_iff]; omega), Int.toNat_natCast, Int.toNat_natCast]
  | rep i j p =>
    obtain ⟨h1, h2, h3, h4⟩ := h
    show decA ws t "replace" [.int i, .int j, .str (S p)] = _
    unfold decA
    rw [if_neg n_rep_add, if_neg n_rep_drop, if_neg n_rep_ins, if_neg n_rep_rem, if_pos rfl]
    show (if ((btw (.int i) 0 t.length && btw (.int j) i t.length) && textB ws (.str (S p))) = true then _ else _) = _
    rw [if_pos (by rw [Bool.and_eq_true, Bool.and_eq_true, btw_iff, btw_iff, textB_iff, S_list]; exact ⟨⟨⟨by omega, by omega⟩, by omega, by omega⟩, h3, h4⟩), S_list, Int.toNat_natCast, Int.toNat_natCast]
  | add u c =>
    obtain ⟨h1, h2, h3⟩ := h
    show decA ws t "add" [.str (S u), .int c] = _
    unfold decA
    rw [if_pos rfl]
    show (if (okL (S u).cps.toList && btw (.int c) 1 9) = true then _ else _) = _
    rw [if_pos (by rw [Bool.and_eq_true, btw_iff, S_list]; exact ⟨h1, h2, h3⟩), S_list]
  | drop u =>
    show decA ws t "drop" [.str (S u)] = _
    unfold decA
    rw [if_neg n_add_drop, if_pos rfl]
    show some (Cmd.drop (S u).cps.toList) = _
    rw [S_list]
/-- a word list and a text of it -/
structure Good (st : WL × Wd) : Prop where
  val : Valid st.1
  let_ : Letters st.1 st.2
  len : st.2.length ≤ 30
theorem names_nd {ws : WL} (hV : Valid ws) : (names ws).Nodup := hV.asc.imp fun {a b} h e => by
  rw [e] at h
  exact List.lt_irrefl _ h
theorem mem_sort_names {ws : WL} {e : Ent} {u : Wd} : u ∈ names (sortW (ws ++ [e])) ↔ u ∈ names ws ∨ u = e.1 := by
  unfold names
  rw [List.mem_map]
  constructor
  · rintro ⟨f, hf, rfl⟩
    rcases List.mem_append.mp ((sortW_perm _).mem_iff.mp hf) with h | h
    · exact .inl (List.mem_map.mpr ⟨f, h, rfl⟩)
    · rw [List.mem_singleton.mp h]; exact .inr rfl
  · rintro (h | rfl)
    · obtain ⟨f, hf, rfl⟩ := List.mem_map.mp h
      exact ⟨f, (sortW_perm _).mem_iff.mpr (List.mem_append_left _ hf), rfl⟩
    · exact ⟨e, (sortW_perm _).mem_iff.mpr (List.mem_append_right _ (by simp)), rfl⟩
theorem good_add {ws : WL} {t u : Wd} {c : Int} (hg : Good (ws, t)) (hf : FormOk ws t (.add u c)) (hp : possB ws t (.add u c) = true) : Good (behindS ws t (.add u c)) := by
  obtain ⟨hV, hl, hn⟩ := hg
  obtain ⟨f1, f2, f3⟩ := hf
  have hp' : ((!decide (u ∈ names ws) && !(decide (1 < u.length) && !(u.all fun c => decide ([c] ∈ names ws)))) && !decide (ws.length = 8)) = true := hp
  simp only [Bool.and_eq_true, Bool.not_eq_true', decide_eq_false_iff_not, Bool.and_eq_false_iff, Bool.not_eq_false', List.all_eq_true, decide_eq_true_eq] at hp'
  obtain ⟨⟨h1, h2⟩, h3⟩ := hp'
  have v1 := hV.ge
  have v2 := hV.le
  have hlen : (sortW (ws ++ [(u, c)])).length = ws.length + 1 := by rw [(sortW_perm _).length_eq]; simp
  refine ⟨⟨?_, ?_, fun e he => ?_, ?_, fun x hx d hd => ?_⟩, fun d hd => mem_sort_names.mpr (.inl (hl d hd)), hn⟩
  · show 1 ≤ (sortW (ws ++ [(u, c)])).length
    omega
  · show (sortW (ws ++ [(u, c)])).length ≤ 8
    have : ¬ ws.length = 8 := h3
    have v2' : ws.length ≤ 8 := v2
    omega
  · rcases List.mem_append.mp ((sortW_perm _).mem_iff.mp he) with h | h
    · exact hV.ent e h
    · rw [List.mem_singleton.mp h]; exact ⟨f1, f2, f3⟩
  · have hnd : (names (sortW (ws ++ [(u, c)]))).Nodup := by
      unfold names
      have p := (sortW_perm (ws ++ [(u, c)])).map (·.1)
      refine p.nodup_iff.mpr ?_
      rw [List.map_append]
      refine List.nodup_append.mpr ⟨names_nd hV, by simp, fun a ha b hb => ?_⟩
      have hb' : b = u := by simpa using hb
      rw [hb']
      intro q
      rw [q] at ha
      exact h1 ha
    have hs := sortW_srt (ws ++ [(u, c)])
    unfold names at hnd ⊢
    have hboth := List.Pairwise.and hs (List.pairwise_map.mp hnd)
    refine List.pairwise_map.mpr (hboth.imp fun {a b} ⟨q1, q2⟩ => ?_)
    rw [lexW_no] at q1
    rcases Classical.em (a.1 < b.1) with q | q
    · exact q
    · exact absurd (List.le_antisymm (List.not_lt.mp fun q' => q1 (.inl q')) (List.not_lt.mp q)) q2
  · rcases mem_sort_names.mp hx with h | h
    · exact mem_sort_names.mpr (.inl (hV.lets x h d hd))
    · have hxu : x = u := h
      subst hxu
      by_cases hl1 : 1 < x.length
      · rcases h2 with q | q
        · exact absurd hl1 q
        · exact mem_sort_names.mpr (.inl (q d hd))
      · have := (okL_len f1).1
        match x, hd, this, hl1 with
        | [e], hd, _, _ =>
          rw [List.mem_singleton.mp hd]
          exact mem_sort_names.mpr (.inr rfl)
        | e :: e' :: r, _, _, hl1 => exact absurd (by simp) hl1
theorem mem_drop_names {ws : WL} {u v : Wd} : v ∈ names (ws.filter fun e => !decide (e.1 = u)) ↔ v ∈ names ws ∧ v ≠ u := by
  unfold names
  rw [List.mem_map, List.mem_map]
  constructor
  · rintro ⟨e, he, rfl⟩
    obtain ⟨h1, h2⟩ := List.mem_filter.mp he
    exact ⟨⟨e, h1, rfl⟩, by simpa using h2⟩
  · rintro ⟨⟨e, he, rfl⟩, h⟩
    exact ⟨e, List.mem_filter.mpr ⟨he, by simpa using h⟩, rfl⟩
theorem good_drop {ws : WL} {t u : Wd} (hg : Good (ws, t)) (hp : possB ws t (.drop u) = true) : Good (behindS ws t (.drop u)) := by
  obtain ⟨hV, hl, hn⟩ := hg
  have hp' : ((decide (u ∈ names ws) && !decide ((names ws).length = 1)) && !(decide (u.length = 1) && ((t :: names ws).filter fun o => (!decide (o = u) || decide (o = t))).any fun o => decide (u.headD 0 ∈ o))) = true := hp
  simp only [Bool.and_eq_true, Bool.not_eq_true', decide_eq_true_eq, decide_eq_false_iff_not, Bool.and_eq_false_iff] at hp'
  obtain ⟨⟨h1, h2⟩, h3⟩ := hp'
  have hnl : (names ws).length = ws.length := by unfold names; rw [List.length_map]
  have v1 : 1 ≤ ws.length := hV.ge
  have v2 : ws.length ≤ 8 := hV.le
  -- a letter that stands is not dropped
  have keep : ∀ (o : Wd) (d : Nat), (o = t ∨ (o ∈ names ws ∧ o ≠ u)) → d ∈ o → [d] ≠ u := fun o d ho hd q => by
    subst q
    rcases h3 with h3 | h3
    · exact h3 rfl
    · rw [List.any_eq_false] at h3
      have ho' : o ∈ (t :: names ws).filter fun o => (!decide (o = [d]) || decide (o = t)) := by
        rcases ho with rfl | ⟨ho, hne⟩
        · exact List.mem_filter.mpr ⟨List.mem_cons_self .., by simp⟩
        · exact List.mem_filter.mpr ⟨List.mem_cons_of_mem _ ho, by simp [hne]⟩
      have := h3 o ho'
      simp at this
      exact this hd
  refine ⟨⟨?_, ?_, fun e he => hV.ent e (List.mem_filter.mp he).1, ?_, fun x hx d hd => ?_⟩, fun d hd => ?_, hn⟩
  · show 1 ≤ (ws.filter fun e => !decide (e.1 = u)).length
    obtain ⟨e, he, hne⟩ : ∃ e ∈ ws, e.1 ≠ u := by
      rcases Classical.em (∃ e ∈ ws, e.1 ≠ u) with q | q
      · exact q
      · exfalso
        have all : ∀ v ∈ names ws, v = u := fun v hv => by
          obtain ⟨e, he, rfl⟩ := List.mem_map.mp hv
          rcases Classical.em (e.1 = u) with z | z
          · exact z
          · exact absurd ⟨e, he, z⟩ q
        have hnd := names_nd hV
        match hm : names ws, hnd, all with
        | [], _, _ => rw [hm] at h1; simp at h1
        | [a], _, _ => rw [hm] at h2; exact h2 rfl
        | a :: b :: r, hnd, all =>
          have ha := all a (by simp)
          have hb := all b (by simp)
          rw [ha, hb] at hnd
          simp at hnd
    exact List.length_pos_of_mem (List.mem_filter.mpr ⟨he, by simpa using hne⟩)
  · exact Nat.le_trans (List.length_filter_le _ _) v2
  · show (names (ws.filter fun e => !decide (e.1 = u))).Pairwise (· < ·)
    unfold names
    exact List.pairwise_map.mpr (List.Pairwise.filter _ (List.pairwise_map.mp hV.asc))
  · obtain ⟨q1, q2⟩ := mem_drop_names.mp hx
    exact mem_drop_names.mpr ⟨hV.lets x q1 d hd, keep x d (.inr ⟨q1, q2⟩) hd⟩
  · exact mem_drop_names.mpr ⟨hl d hd, keep t d (.inl rfl) hd⟩
theorem good_behind {ws : WL} {t : Wd} {c : Cmd} (hg : Good (ws, t)) (hf : FormOk ws t c) (hp : possB ws t c = true) : Good (behindS ws t c) := by
  cases c with
  | ins i p =>
    have hp' : (!decide (30 < (editW t (.ins i p)).length)) = true := hp
    rw [Bool.not_eq_true', decide_eq_false_iff_not] at hp'
    exact ⟨hg.val, ((hg.let_.take i).app hf.2.2).app (hg.let_.drop i), Nat.le_of_not_lt hp'⟩
  | rem i j =>
    have hp' : (!decide (30 < (editW t (.rem i j)).length)) = true := hp
    rw [Bool.not_eq_true', decide_eq_false_iff_not] at hp'
    exact ⟨hg.val, ((hg.let_.take i).app (fun c h => by simp at h)).app (hg.let_.drop j), Nat.le_of_not_lt hp'⟩
  | rep i j p =>
    have hp' : (!decide (30 < (editW t (.rep i j p)).length)) = true := hp
    rw [Bool.not_eq_true', decide_eq_false_iff_not] at hp'
    exact ⟨hg.val, ((hg.let_.take i).app hf.2.2.2).app (hg.let_.drop j), Nat.le_of_not_lt hp'⟩
  | add u c => exact good_add hg hf hp
  | drop u => exact good_drop hg hp

/-! ### records -/
def rowD (l : List Wd) : PyData := .tuple (l.map fun u => .str (S u))
def strsOf : List PyData → Option (List Wd)
  | [] => some []
  | .str z :: r => (strsOf r).map (z.cps.toList :: ·)
  | _ => none
def rowOf : PyData → Option (List Wd)
  | .tuple ds => strsOf ds
  | _ => none
theorem strsOf_map (l : List Wd) : strsOf (l.map fun u => .str (S u)) = some l := by
  induction l with
  | nil => rfl
  | cons a l ih =>
    rw [List.map_cons]
    show (strsOf _).map _ = _
    rw [ih, S_list]
    rfl
theorem rowOf_row (l : List Wd) : rowOf (rowD l) = some l := strsOf_map l
def isM (ws : WL) (t : Wd) (r : PyData) : Bool := match rowOf r with
  | some us => decide (us = longest ws t)
  | none => false
def step (st : WL × Wd) : PyData → Option (WL × Wd)
  | .tuple [c, r] => (match dec st.1 st.2 c with
    | some k => if (possB st.1 st.2 k && isM (behindS st.1 st.2 k).1 (behindS st.1 st.2 k).2 r) = true then some (behindS st.1 st.2 k) else none
    | none => none)
  | _ => none
def run (st : WL × Wd) : List PyData → Option (WL × Wd)
  | [] => some st
  | d :: ds => (step st d).bind fun st' => run st' ds
theorem step_good {st st' : WL × Wd} {d : PyData} (hg : Good st) (h : step st d = some st') : Good st' := by
  unfold step at h
  split at h
  · split at h
    · rename_i k hk
      split at h
      · rename_i hb
        cases h
        rw [Bool.and_eq_true] at hb
        exact good_behind hg (dec_form hk).2 hb.1
      · cases h
    · cases h
  · cases h
theorem run_app (st : WL × Wd) (a b : List PyData) : run st (a ++ b) = (run st a).bind fun st' => run st' b := by
  induction a generalizing st with
  | nil => rfl
  | cons d a ih =>
    show (step st d).bind _ = ((step st d).bind _).bind _
    cases step st d with
    | none => rfl
    | some s => exact ih s
theorem run_good {st st' : WL × Wd} : ∀ {ds : List PyData}, Good st → run st ds = some st' → Good st'
  | [], hg, h => by cases h; exact hg
  | d :: ds, hg, h => by
    have h' : (step st d).bind (fun st' => run st' ds) = some st' := h
    cases e : step st d with
    | none => rw [e] at h'; cases h'
    | some s =>
      rw [e] at h'
      exact run_good (step_good hg e) h'
end G
/-! greedycuts.journals -/
namespace G
open PySem PySem.Spec PyProof.Rows L2 Evl

/-! ### startswith -/
open PySem.StrLaws in
theorem sw3 {t o : Wd} {i : Nat} (hi : i ≤ t.length) : Txt.startswith3 (S t) (S o) (i : Int) = decide (o <+: t.drop i) := by
  have hf : fromIndex (S t).length (i : Int) = i := by
    unfold fromIndex
    rw [if_neg (by omega)]
    omega
  unfold Txt.startswith3
  rw [hf, S_len, S_len, subAt_eq, S_list, S_list, S_len]
  by_cases h : o <+: t.drop i
  · rw [decide_eq_true h]
    have h1 := h.length_le
    have h2 := List.prefix_iff_eq_take.mp h
    rw [List.length_drop] at h1
    rw [decide_eq_true (show i + o.length ≤ t.length by omega), ← h2]
    simp
  · rw [decide_eq_false h]
    have h2 : ¬ (t.drop i).take o.length = o := fun q => h (by rw [List.prefix_iff_eq_take, q])
    rw [Bool.and_eq_false_iff]
    exact .inr (by simpa using h2)
open PySem.StrLaws in
theorem sw0 {t o : Wd} : Txt.startswith (S t) (S o) = decide (o <+: t) := by
  unfold Txt.startswith
  rw [S_len, S_len, subAt_eq, S_list, S_list, S_len, List.drop_zero, Nat.zero_add]
  by_cases h : o <+: t
  · rw [decide_eq_true h]
    have h1 := h.length_le
    have h2 := List.prefix_iff_eq_take.mp h
    rw [decide_eq_true (show o.length ≤ t.length by omega), ← h2]
    simp
  · rw [decide_eq_false h]
    have h2 : ¬ t.take o.length = o := fun q => h (by rw [List.prefix_iff_eq_take, q])
    rw [Bool.and_eq_false_iff]
    exact .inr (by simpa using h2)
section
variable {K : PySem.W.Frag} {σ : L2.St} {H : Hp} {ta tb te : TE}
abbrev rSw3 : V → List V → Hp → VK → Prop := fun x xs H Q => ∃ (a b : Str) (i : Int), x = .str a ∧ xs = [.str b, .int i] ∧ Q (.bl (Txt.startswith3 a b i)) H
abbrev rSw0 : V → List V → Hp → VK → Prop := fun x xs H Q => ∃ a b, x = .str a ∧ xs = [.str b] ∧ Q (.bl (Txt.startswith a b)) H
theorem ev_sw3 {t o : Wd} {i : Nat} (hi : i ≤ t.length) (h : Ev te σ H (vS t)) (h1 : Ev ta σ H (vS o)) (h2 : Ev tb σ H (.int (i : Int))) : Ev (tBM K "str" rSw3 te (tCons ta (tCons tb tNil))) σ H (.bl (decide (o <+: t.drop i))) := fun H1 e Q q =>
  h H1 e _ fun H2 e2 => ⟨rfl, ea_cons h1 (ea_cons h2 ea_nil) H2 (e.trans e2) _ fun H3 e3 => ⟨S t, S o, i, rfl, rfl, by rw [sw3 hi]; exact q H3 (e2.trans e3)⟩⟩
theorem ev_sw0 {t o : Wd} (h : Ev te σ H (vS t)) (h1 : Ev ta σ H (vS o)) : Ev (tBM K "str" rSw0 te (tCons ta tNil)) σ H (.bl (decide (o <+: t))) := fun H1 e Q q =>
  h H1 e _ fun H2 e2 => ⟨rfl, ea_cons h1 ea_nil H2 (e.trans e2) _ fun H3 e3 => ⟨S t, S o, rfl, rfl, by rw [sw0]; exact q H3 (e2.trans e3)⟩⟩
end
/-- rows that are judged: texts, or no tuple -/
def RowK : PyData → Prop
  | .tuple ds => ∃ us : List Wd, ds = us.map (fun u => .str (S u)) ∧ us.length ≤ 100 ∧ ∀ u ∈ us, u.length ≤ 100
  | _ => True
theorem rls_texts {H : Hp} : ∀ {us : List Wd} {xs : List V}, RLs H (us.map fun u => .str (S u)) xs → xs = us.map vS
  | [], _, h => h.nil_inv
  | u :: us, _, h => by
    obtain ⟨x, xs, rfl, h1, h2⟩ := RLs.cons_inv h
    rw [h1.str_inv, rls_texts h2]
    rfl
section
variable {P : Program} {w : World} {K : PySem.W.Frag} {mg : Str → Option Value} {base : Heap}
def sp_is_match : Sp := fun vs H Q _ => ∃ (x v : V) (ws : WL) (t : Wd) (r : PyData), vs = [x, vS t, v] ∧ RD H (wlD ws) x ∧ Good (ws, t) ∧ RL H r v ∧ RowK r ∧ RetV (.bl (isM ws t r)) H Q
theorem sc_is_match : FnScope ["words", "text", "row", "known", "start", "word", "entry", "other"] ["words", "text", "row"] (defScope s_is_match) := ⟨rfl, rfl, rfl, by decide +kernel, rfl, by decide +kernel, by decide +kernel⟩
theorem ok_is_match (T : Txt K mg w) : Ok P w K mg base 1 "is_match" ["words", "text", "row"] sp_is_match := by
  have nd := sc_is_match.nd
  refine Ok.mk T.d_is_match sc_is_match (fun _ _ _ _ _ _ us hl => match us, hl with | [_, _, _], _ => rfl) (fun vs H Q E h => ?_) fun f cdv A outer s H vs Q E hr h => ?_
  · obtain ⟨_, _, _, _, _, rfl, _⟩ := h
    rfl
  · obtain ⟨x, v, ws, t, r, rfl, hx, hg, hr0, hrk, k⟩ := h
    obtain ⟨hV, hlt, hn⟩ := hg
    have hn' : t.length ≤ 30 := hn
    obtain ⟨b, xs, rfl, hb, hk, hE⟩ := wl_inv hx
    have hl : xs.length = ws.length := by rw [← hk, List.length_map]
    have hV8 : ws.length ≤ 8 := hV.le
    refine ⟨_, (pss_cons (ps_if (PW.pt (pw_or (pt_not (pt_val (pe_callB (call_isK K rfl) (by rfl) T.b_isinstance (by decide +kernel) (pa_cons (pv 2) (pa_cons (pe_tyb "tuple" T.b_tuple) pa_nil))))) (pw_or (pt_not (pt_val (pe_callB (cr_allK K rfl rfl) (by rfl) T.b_all (by decide +kernel) (pa_cons (pe_lc (own := [("word", 5)]) (by rfl) nd (pi_tupK K rfl (pv 2)) (blkOk_by (N := ["words", "text", "row", "known", "start", "word", "entry", "other"]) (sc := defScope s_is_match) (by decide +kernel)) (fun _ _ _ _ _ => (pg_name (i := 5) nd rfl (Or.inl rfl))) (fun _ _ _ _ _ => pts_nil) (fun _ _ _ _ _ => (pe_callB (call_isK K rfl) (by rfl) T.b_isinstance (by decide +kernel) (pa_cons (pv 5) (pa_cons (pe_tyb "str" T.b_str) pa_nil))))) pa_nil)))) (pw_or1 (pt_cmpR op_ne (pe_join pe_str (pv 2)) (pv 1) (nomark _)))))) (pss_one (ps_ret pe_bl)) pss_nil)
      (pss_cons (ps_setLc (i := 3) (own := [("entry", 6)]) (by rfl) nd rfl rfl (sw_true rfl rfl rfl (by decide +kernel)) (pi_tupK K rfl (pv 0)) (blkOk_by (N := ["words", "text", "row", "known", "start", "word", "entry", "other"]) (sc := defScope s_is_match) (by decide +kernel)) (fun _ _ _ _ _ => (pg_name (i := 6) nd rfl (Or.inl rfl))) (fun _ _ _ _ _ => pts_nil) (fun _ _ _ _ _ => (pe_ix (ix_tupK K rfl) (pv 6) pe_int (fun _ _ => rfl))))
      (pss_cons (ps_set (i := 4) nd rfl (Or.inr rfl) pe_int)
      (pss_cons (ps_for PassesOwn.never rfl (pi_tupK K rfl (pv 2)) (pg_name (i := 5) nd rfl (Or.inr rfl)) (pss_cons (ps_if (pt_cmpR (op_notInK K rfl) (pv 5) (pv 3) (by rfl)) (pss_one (ps_ret pe_bl)) pss_nil)
      (pss_cons (ps_if (pt_val (pe_callB (cr_anyK K rfl rfl) (by rfl) T.b_any (by decide +kernel) (pa_cons (pe_lc (own := [("other", 7)]) (by rfl) nd (pi_listK K rfl (pv 3)) (blkOk_by (N := ["words", "text", "row", "known", "start", "word", "entry", "other"]) (sc := defScope s_is_match) (by decide +kernel)) (fun _ _ _ _ _ => (pg_name (i := 7) nd rfl (Or.inl rfl))) (fun _ _ _ _ _ => pts_nil) (fun _ _ _ _ _ => (pe_and (pe_cmpR op_gt (pe_callB call_len_str (by rfl) T.b_len PySem.boot_len (pa_cons (pv 7) pa_nil)) (pe_callB call_len_str (by rfl) T.b_len PySem.boot_len (pa_cons (pv 5) pa_nil)) (nomark _)) (pe_one (pe_bmK K rfl PySem.F.plainAttrs_str PySem.F.slot_str_startswith PySem.F.type_str_startswith mt_startswith3 (pv 1) (pa_cons (pv 7) (pa_cons (pv 4) pa_nil))))))) pa_nil))) (pss_one (ps_ret pe_bl)) pss_nil)
      (pss_one (ps_set (i := 4) nd rfl (Or.inr rfl) (pe_op op_add (pv 4) (pe_callB call_len_str (by rfl) T.b_len PySem.boot_len (pa_cons (pv 5) pa_nil))))))))
      (pss_one (ps_ret pe_bl)))))), ?_⟩
    by_cases htu : dTup r = true
    case neg =>
      rw [Bool.not_eq_true] at htu
      refine q_yes (et_is (et_or (b := true) (et_not (et_B (isi_tup (ev_var rfl) hr0))) (fun h => by rw [htu] at h; cases h)) (by rw [htu] <;> rfl)) fun H1 e => ?_
      refine s_ret ev_c fun H2 e2 => ?_
      have q := k H2 (e.trans e2)
      have : isM ws t r = false := by cases r <;> first | rfl | cases htu
      rw [this] at q
      exact q
    cases r <;> try (exact Bool.noConfusion htu)
    rename_i ds
    obtain ⟨us, rfl, hul, hue⟩ := hrk
    obtain ⟨a, ys, rfl, ha, hs⟩ := hr0.tup_inv
    obtain rfl := rls_texts hs
    have hM : isM ws t (.tuple (us.map fun u => .str (S u))) = decide (us = longest ws t) := by
      unfold isM
      rw [show rowOf (.tuple (us.map fun u => .str (S u))) = some us from rowOf_row us]
    rw [hM] at k
    refine q_when (et_or (et_not (et_B (isi_tup (ev_var rfl) hr0))) fun _ => et_or (et_not (et_B (ev_allC (l := us) (fv := vS) (fun _ => true) (ei_tup (ev_var rfl) fun _ e => SqT.of (e _ _ ha)) (by omega) fun u _ => ⟨_, bnd_name, rfl, isi_str (d := .str (S u)) (ev_var rfl) (.str _)⟩))) fun _ =>
      et_test (ev_neS (ev_joinT (l := us) (ev_var rfl) (fun _ e => .inl (e _ _ ha)) (by omega) fun u hu => by have := hue u hu; omega) (ev_var rfl))) (fun hb0 H1 e1 => ?_) fun hb0 H1 e1 => ?_
    · refine s_ret ev_c fun H2 e2 => ?_
      have q := k H2 (e1.trans e2)
      have hall : (us.all fun _ => true) = true := by simp
      rw [hall, dec_S] at hb0
      have hb1 : (!decide (us.flatten = t)) = true := hb0
      rw [Bool.not_eq_true', decide_eq_false_iff_not] at hb1
      rw [decide_eq_false (fun e => hb1 (by rw [e, longest_flat hV t.length t (Nat.le_refl _) hlt]))] at q
      exact q
    · have hall : (us.all fun _ => true) = true := by simp
      rw [hall, dec_S] at hb0
      have hb1 : (!decide (us.flatten = t)) = false := hb0
      rw [Bool.not_eq_false', decide_eq_true_eq] at hb1
      have hiff := matchB_iff hV us t hlt hb1
      have hdec : decide (us = longest ws t) = matchB ws us t := by
        cases hm : matchB ws us t with
        | true => exact decide_eq_true (hiff.mp hm)
        | false => exact decide_eq_false fun q => by rw [hiff.mpr q] at hm; cases hm
      rw [hdec] at k
      refine q_asgP ((ev_names (ev_var rfl) hb hk hE (by omega) (fun _ => rfl) (fun _ => rfl)).mono e1) fun v H2 e2 ⟨p, ev, hp⟩ => ?_
      subst ev
      refine q_asg ev_c fun H3 e3 => ?_
      have ha3 := e3 _ _ (e2 _ _ (e1 _ _ ha))
      have e03 := (e1.trans e2).trans e3
      have hp3 := e3 _ _ hp
      refine q_forT (xs := us.map vS) (ev_var rfl) (SqT.of ha3) (fun i σ' H' => ∃ wv : Option V, σ' = [some (.ref b), some (vS t), some (.ref a), some (.ref p), some (.int ((us.take i).flatten.length : Int)), wv, none, none] ∧ Ex H3 H' ∧ matchB ws us t = matchB ws (us.drop i) (t.drop (us.take i).flatten.length))
        (fun H4 e4 => ⟨none, rfl, e4, rfl⟩) (fun i σ' H' _ ⟨_, _, e, _⟩ => SqT.of (e _ _ ha3)) ?_ ?_
      · rintro i y σ' H' hy ⟨wv, rfl, e4, hm⟩
        obtain ⟨u, hu, rfl⟩ : ∃ u, us[i]? = some u ∧ y = vS u := by
          rw [List.getElem?_map] at hy
          cases e : us[i]? with
          | none => rw [e] at hy; cases hy
          | some u => rw [e] at hy; exact ⟨u, rfl, (Option.some.inj hy).symm⟩
        have hil := (List.getElem?_eq_some_iff.mp hu).1
        have hd : us.drop i = u :: us.drop (i + 1) := by
          rw [List.drop_eq_getElem_cons hil]
          rw [List.getElem?_eq_getElem hil] at hu
          rw [Option.some.inj hu]
        have htk : us.take (i + 1) = us.take i ++ [u] := by
          rw [List.take_add_one, hu]
          rfl
        have hst : (us.take i).flatten.length ≤ t.length := by
          rw [← hb1]
          conv => rhs; rw [← List.take_append_drop i us, List.flatten_append, List.length_append]
          omega
        have hul2 : u.length ≤ 100 := hue u (List.mem_of_getElem? hu)
        have hp4 := e4 _ _ hp3
        rw [hd] at hm
        refine q_when (et_test (ev_is (ev_op (ev_var rfl) (ev_var rfl) (rv_niL (SqL.of hp4) rfl (flat_S _))) (congrArg (fun b => V.bl (!b)) (inV_S u (names ws))))) (fun hb2 H5 e5 => ?_) fun hb2 H5 e5 => ?_
        · refine s_ret ev_c fun H6 e6 => ?_
          have q := k H6 (((e03.trans e4).trans e5).trans e6)
          rw [Bool.not_eq_true'] at hb2
          rw [hm, show matchB ws (u :: us.drop (i + 1)) (t.drop (us.take i).flatten.length) = false by
            unfold matchB
            rw [hb2]
            rfl] at q
          exact q
        · rw [Bool.not_eq_false'] at hb2
          have hp5 := e5 _ _ hp4
          refine q_when (et_B (ev_anyC (l := names ws) (fv := vS) (fun o => decide (u.length < o.length) && decide (o <+: t.drop (us.take i).flatten.length)) (ei_list (ev_var rfl) fun _ e => SqL.of (e _ _ hp5)) ?_ fun o ho => ⟨_, bnd_name, rfl, ev_andV (ev_is (ev_op (ev_lenS (ev_var rfl) ?_) (ev_lenS (ev_var rfl) ?_) rv_I0) ?_) fun _ => ev_sw3 hst (ev_var rfl) (ev_var rfl) (ev_var rfl)⟩)) (fun hb3 H6 e6 => ?_) fun hb3 H6 e6 => ?_
          · unfold names
            rw [List.length_map]
            omega
          · have := (mem_names_len hV ho).2
            rw [S_len]
            omega
          · rw [S_len]
            omega
          · rw [S_len, S_len, dec_lt]
          · refine s_ret ev_c fun H7 e7 => ?_
            have q := k H7 ((((e03.trans e4).trans e5).trans e6).trans e7)
            rw [hm, show matchB ws (u :: us.drop (i + 1)) (t.drop (us.take i).flatten.length) = false by
              unfold matchB
              rw [hb2, show ((names ws).all fun v => !(decide (u.length < v.length) && decide (v <+: t.drop (us.take i).flatten.length))) = false by
                rw [List.all_eq_false]
                obtain ⟨o, ho, h1⟩ := List.any_eq_true.mp hb3
                exact ⟨o, ho, by rw [h1]; decide⟩]
              rfl] at q
            exact q
          · refine s_asg (ev_op (ev_var rfl) (ev_lenS (ev_var rfl) (by rw [S_len]; omega)) rv_I0) fun H7 e7 => ?_
            have hfl : (us.take (i + 1)).flatten.length = (us.take i).flatten.length + u.length := by
              rw [htk, List.flatten_append, List.length_append]
              simp
            refine ⟨some (vS u), ?_, ((e4.trans e5).trans e6).trans e7, ?_⟩
            · rw [S_len, hfl]
              rfl
            · have hdd : t.drop ((us.take i).flatten.length + u.length) = (t.drop (us.take i).flatten.length).drop u.length := by rw [List.drop_drop]
              rw [hm, hfl, hdd]
              conv => lhs; unfold matchB
              rw [hb2, show ((names ws).all fun v => !(decide (u.length < v.length) && decide (v <+: t.drop (us.take i).flatten.length))) = true by
                rw [List.all_eq_true]
                intro o ho
                have h1 := List.any_eq_false.mp hb3 o ho
                rw [Bool.not_eq_true] at h1
                rw [h1]
                rfl]
              rfl
      · rintro σ' H' ⟨wv, rfl, e4, hm⟩
        have hll : us.take (us.map vS).length = us := by rw [List.length_map, List.take_length]
        have hdl : us.drop (us.map vS).length = [] := by rw [List.length_map, List.drop_length]
        rw [hll, hdl, hb1, List.drop_length] at hm
        refine s_ret ev_c fun H5 e5 => ?_
        have q := k H5 ((e03.trans e4).trans e5)
        rw [hm] at q
        exact q
end
end G
/-! greedycuts.journals: are_right -/
namespace G
open PySem PySem.Spec PyProof.Rows L2 Evl

theorem rl_cmd {H : Hp} {c : Cmd} {v : V} (h : RL H (cmdD c) v) : RD H (cmdD c) v := by
  cases c with
  | ins i p =>
    obtain ⟨a, xs, rfl, ha, hs⟩ := h.tup_inv
    obtain ⟨x1, r1, rfl, h1, hs⟩ := hs.cons_inv
    obtain ⟨x2, r2, rfl, h2, hs⟩ := hs.cons_inv
    obtain ⟨x3, r3, rfl, h3, hs⟩ := hs.cons_inv
    cases hs.nil_inv
    rw [h1.str_inv, h2.int_inv, h3.str_inv] at ha
    exact cmd_mk (c := .ins i p) ha
  | rem i j =>
    obtain ⟨a, xs, rfl, ha, hs⟩ := h.tup_inv
    obtain ⟨x1, r1, rfl, h1, hs⟩ := hs.cons_inv
    obtain ⟨x2, r2, rfl, h2, hs⟩ := hs.cons_inv
    obtain ⟨x3, r3, rfl, h3, hs⟩ := hs.cons_inv
    cases hs.nil_inv
    rw [h1.str_inv, h2.int_inv, h3.int_inv] at ha
    exact cmd_mk (c := .rem i j) ha
  | rep i j p =>
    obtain ⟨a, xs, rfl, ha, hs⟩ := h.tup_inv
    obtain ⟨x1, r1, rfl, h1, hs⟩ := hs.cons_inv
    obtain ⟨x2, r2, rfl, h2, hs⟩ := hs.cons_inv
    obtain ⟨x3, r3, rfl, h3, hs⟩ := hs.cons_inv
    obtain ⟨x4, r4, rfl, h4, hs⟩ := hs.cons_inv
    cases hs.nil_inv
    rw [h1.str_inv, h2.int_inv, h3.int_inv, h4.str_inv] at ha
    exact cmd_mk (c := .rep i j p) ha
  | add u c =>
    obtain ⟨a, xs, rfl, ha, hs⟩ := h.tup_inv
    obtain ⟨x1, r1, rfl, h1, hs⟩ := hs.cons_inv
    obtain ⟨x2, r2, rfl, h2, hs⟩ := hs.cons_inv
    obtain ⟨x3, r3, rfl, h3, hs⟩ := hs.cons_inv
    cases hs.nil_inv
    rw [h1.str_inv, h2.str_inv, h3.int_inv] at ha
    exact cmd_mk (c := .add u c) ha
  | drop u =>
    obtain ⟨a, xs, rfl, ha, hs⟩ := h.tup_inv
    obtain ⟨x1, r1, rfl, h1, hs⟩ := hs.cons_inv
    obtain ⟨x2, r2, rfl, h2, hs⟩ := hs.cons_inv
    cases hs.nil_inv
    rw [h1.str_inv, h2.str_inv] at ha
    exact cmd_mk (c := .drop u) ha
/-- the pieces of a command of a right form are short -/
theorem cmd_small {ws : WL} {t : Wd} {d : PyData} {c : Cmd} (h : dec ws t d = some c) (hm : Dom d) : CmdSm c := by
  obtain ⟨rfl, hf⟩ := dec_form h
  cases c with
  | ins i p => exact Nat.le_trans hf.2.1 (by decide)
  | rem i j => exact trivial
  | rep i j p => exact Nat.le_trans hf.2.2.1 (by decide)
  | add u c => exact Nat.le_trans (okL_len hf.1).2 (by decide)
  | drop u =>
    have h1 : (S u).length ≤ 100 := hm.2 (.str (S u)) (by simp)
    rw [S_len] at h1
    exact h1
def RecK : PyData → Prop
  | .tuple [c, r] => Dom c ∧ RowK r
  | _ => True
def RecsK : PyData → Prop
  | .tuple ds => ds.length ≤ 100 ∧ ∀ r ∈ ds, RecK r
  | _ => True
def rightB (st : WL × Wd) : PyData → Bool
  | .tuple ds => (run st ds).isSome
  | _ => false
abbrev rNotN0 : R2 := fun x y H Q => y = .non ∧ Q (.bl (!decide (x = .non))) H
theorem et_notN {σ : L2.St} {H : Hp} {te : TE} {b : Bool} (h : EvP te σ H (fun v _ => decide (v = .non) = b)) : EvT (tTest (tOp rNotN0 te (tC .non))) σ H (!b) := fun H1 e Q q =>
  h H1 e _ fun v H2 e2 hv => ⟨rfl, _, rfl, by rw [hv]; exact q H2 e2⟩
theorem RLs.get {H : Hp} : ∀ {ds : List PyData} {vs : List V} {i : Nat} {v : V}, RLs H ds vs → vs[i]? = some v → ∃ d, ds[i]? = some d ∧ RL H d v
  | [], _, i, v, .nil, h => by simp at h
  | _ :: _, _, 0, v, .cons x r, h => ⟨_, rfl, by simp at h; subst h; exact x⟩
  | _ :: _, _, i + 1, v, .cons x r, h => by
    have h' := h
    simp at h'
    obtain ⟨d, h1, h2⟩ := RLs.get r h'
    exact ⟨d, by simpa using h1, h2⟩
section
variable {P : Program} {w : World} {K : PySem.W.Frag} {mg : Str → Option Value} {base : Heap}
def sp_are_right : Sp := fun vs H Q _ => ∃ (x v : V) (ws : WL) (t : Wd) (d : PyData), vs = [x, vS t, v] ∧ RD H (wlD ws) x ∧ Good (ws, t) ∧ RL H d v ∧ RecsK d ∧ RetV (.bl (rightB (ws, t) d)) H Q
theorem sc_are_right : FnScope ["words", "text", "records", "record"] ["words", "text", "records"] (defScope s_are_right) := ⟨rfl, rfl, rfl, by decide +kernel, rfl, by decide +kernel, by decide +kernel⟩
theorem ok_are_right (T : Txt K mg w) : Ok P w K mg base 8 "are_right" ["words", "text", "records"] sp_are_right := by
  have nd := sc_are_right.nd
  refine Ok.mk T.d_are_right sc_are_right (fun _ _ _ _ _ _ us hl => match us, hl with | [_, _, _], _ => rfl) (fun vs H Q E h => ?_) fun f cdv A outer s H vs Q E hr h => ?_
  · obtain ⟨_, _, _, _, _, rfl, _⟩ := h
    rfl
  · obtain ⟨x, v, ws, t, r, rfl, hx, hg, hr0, hrk, k⟩ := h
    have hn' : t.length ≤ 30 := hg.len
    refine ⟨_, (pss_cons (ps_expr (pe_fn (ok_check_text T) hr (pa_cons (pv 0) (pa_cons (pv 1) pa_nil))))
      (pss_cons (ps_if (pt_not (pt_val (pe_callB (call_isK K rfl) (by rfl) T.b_isinstance (by decide +kernel) (pa_cons (pv 2) (pa_cons (pe_tyb "tuple" T.b_tuple) pa_nil))))) (pss_one (ps_ret pe_bl)) pss_nil)
      (pss_cons (ps_for PassesOwn.never rfl (pi_tupK K rfl (pv 2)) (pg_name (i := 3) nd rfl (Or.inl rfl)) (pss_cons (ps_if (PW.pt (pw_or (pt_not (pt_val (pe_callB (call_isK K rfl) (by rfl) T.b_isinstance (by decide +kernel) (pa_cons (pv 3) (pa_cons (pe_tyb "tuple" T.b_tuple) pa_nil))))) (pw_or (pt_cmpR op_ne (pe_callB (call_lenK K rfl) (by rfl) T.b_len PySem.boot_len (pa_cons (pv 3) pa_nil)) pe_int (nomark _)) (pw_or1 (pt_not (pt_val (pe_fn (ok_is_command T) hr (pa_cons (pv 0) (pa_cons (pv 1) (pa_cons (pe_ix (ix_tupK K rfl) (pv 3) pe_int (fun _ _ => rfl)) pa_nil)))))))))) (pss_one (ps_ret pe_bl)) pss_nil)
      (pss_cons (ps_if (pt_cmpR op_notN (pe_fn (ok_why_not T) hr (pa_cons (pv 0) (pa_cons (pv 1) (pa_cons (pe_ix (ix_tupK K rfl) (pv 3) pe_int (fun _ _ => rfl)) pa_nil)))) pe_non (nomark _)) (pss_one (ps_ret pe_bl)) pss_nil)
      (pss_cons (ps_asg (pe_fn (ok_behind T) hr (pa_cons (pv 0) (pa_cons (pv 1) (pa_cons (pe_ix (ix_tupK K rfl) (pv 3) pe_int (fun _ _ => rfl)) pa_nil)))) (pg_tupK K rfl rfl (pgs_cons (pg_name (i := 0) nd rfl (Or.inl rfl)) (pgs_cons (pg_name (i := 1) nd rfl (Or.inl rfl)) pgs_nil))))
      (pss_one (ps_if (pt_not (pt_val (pe_fn (ok_is_match T) hr (pa_cons (pv 0) (pa_cons (pv 1) (pa_cons (pe_ix (ix_tupK K rfl) (pv 3) pe_int (fun _ _ => rfl)) pa_nil)))))) (pss_one (ps_ret pe_bl)) pss_nil))))))
      (pss_one (ps_ret pe_bl))))), ?_⟩
    refine q_drop (ev_call (ea_cons (ev_var rfl) (ea_cons (ev_var rfl) ea_nil)) fun H1 e1 Q q E => ⟨x, ws, t, rfl, hx.ex e1, hg.val, hg.len, hg.let_, q⟩) fun H1 e1 => ?_
    have hr1 := hr0.ex e1
    by_cases htu : dTup r = true
    case neg =>
      rw [Bool.not_eq_true] at htu
      refine q_yes (et_is (et_not (et_B (isi_tup (ev_var rfl) hr1))) (by rw [htu] <;> rfl)) fun H2 e2 => ?_
      refine s_ret ev_c fun H3 e3 => ?_
      have q := k H3 ((e1.trans e2).trans e3)
      have : rightB (ws, t) r = false := by cases r <;> first | rfl | cases htu
      rw [this] at q
      exact q
    cases r <;> try (exact Bool.noConfusion htu)
    rename_i ds
    obtain ⟨a, ys, rfl, ha, hs⟩ := hr1.tup_inv
    obtain ⟨hdl, hdk⟩ := hrk
    refine q_skip (et_is (et_not (et_B (isi_tup (ev_var rfl) hr1))) rfl) fun H2 e2 => ?_
    have ha2 := e2 _ _ ha
    have hs2 := hs.ex e2
    refine q_forT (xs := ys) (ev_var rfl) (SqT.of ha2) (fun i σ' H' => ∃ (st : WL × Wd) (xw : V) (rv : Option V), σ' = [some xw, some (vS st.2), some (.ref a), rv] ∧ Ex H2 H' ∧ RD H' (wlD st.1) xw ∧ Good st ∧ run (ws, t) ds = run st (ds.drop i))
      (fun H3 e3 => ⟨(ws, t), x, none, rfl, e3, ((hx.ex e1).ex e2).ex e3, hg, rfl⟩) (fun i σ' H' _ ⟨_, _, _, _, e, _⟩ => SqT.of (e _ _ ha2)) ?_ ?_
    · rintro i y σ' H' hy ⟨st, xw, rv, rfl, e3, hxw, hst, hrun⟩
      have hlen30 : st.2.length ≤ 30 := hst.len
      obtain ⟨d, hd, hdy⟩ := (hs2.ex e3).get hy
      have hid := (List.getElem?_eq_some_iff.mp hd).1
      have hdd : ds.drop i = d :: ds.drop (i + 1) := by
        rw [List.drop_eq_getElem_cons hid]
        rw [List.getElem?_eq_getElem hid] at hd
        rw [Option.some.inj hd]
      have hdk' := hdk d (List.mem_of_getElem? hd)
      rw [hdd] at hrun
      have bad : step st d = none → ∀ H4, Ex H' H4 → Q (.bl false) H4 := fun hn H4 e4 => by
        have q := k H4 (((e1.trans e2).trans e3).trans e4)
        rw [show rightB (ws, t) (.tuple ds) = (run (ws, t) ds).isSome from rfl, hrun, show run st (d :: ds.drop (i + 1)) = (step st d).bind (fun st' => run st' (ds.drop (i + 1))) from rfl, hn] at q
        exact q
      by_cases hdt : dTup d = true
      case neg =>
        rw [Bool.not_eq_true] at hdt
        refine q_yes (et_is (et_or (b := true) (et_not (et_B (isi_tup (ev_var rfl) hdy))) (fun h => by rw [hdt] at h; cases h)) (by rw [hdt] <;> rfl)) fun H4 e4 => ?_
        exact s_ret ev_c fun H5 e5 => bad (by cases d <;> first | rfl | cases hdt) H5 (e4.trans e5)
      cases d <;> try (exact Bool.noConfusion hdt)
      rename_i cs
      obtain ⟨b, zs, rfl, hb, hzs⟩ := hdy.tup_inv
      by_cases h2 : cs.length = 2
      case neg =>
        refine q_yes (et_is (et_or (et_not (et_B (isi_tup (ev_var rfl) hdy))) fun _ => et_or (b := true) (et_test (ev_op (ev_lenT (ev_var rfl) hb) ev_c (rv_ne rfl))) fun hc => ?_) ?_) fun H4 e4 => ?_
        · exfalso
          rw [Bool.not_eq_false', decide_eq_true_eq] at hc
          have := V.int.inj hc
          rw [hzs.length] at this
          omega
        · rw [decide_eq_false fun hc => h2 (by have := V.int.inj hc; rw [hzs.length] at this; omega)]
          rfl
        · refine s_ret ev_c fun H5 e5 => bad ?_ H5 (e4.trans e5)
          match cs, h2 with
          | [], _ => rfl
          | [_], _ => rfl
          | [_, _], h => exact absurd rfl h
          | _ :: _ :: _ :: _, _ => rfl
      match cs, h2, hzs, hdk' with
      | [c, r], _, hzs, hdk' =>
        obtain ⟨v1, r1, rfl, hv1, hzs⟩ := hzs.cons_inv
        obtain ⟨v2, r2, rfl, hv2, hzs⟩ := hzs.cons_inv
        cases hzs.nil_inv
        obtain ⟨hdom, hrow⟩ := hdk'
        refine q_when (b := !(dec st.1 st.2 c).isSome) (et_is (et_or (et_not (et_B (isi_tup (ev_var rfl) hdy))) fun _ => et_or (et_test (ev_op (ev_lenT (ev_var rfl) hb) ev_c (rv_ne rfl))) fun _ => et_not (et_B (b := (dec st.1 st.2 c).isSome) (ev_call (ea_cons (ev_var rfl) (ea_cons (ev_var rfl) (ea_cons (ev_ixT (i := 0) (ev_var rfl) hb ev_c rfl) ea_nil))) fun H4 e4 Q q E => ⟨xw, v1, st.1, st.2, c, rfl, hxw.ex e4, hst.val, by omega, hv1.ex e4, hdom, q⟩))) rfl) (fun hb1 H4 e4 => ?_) fun hb1 H4 e4 => ?_
        · rw [Bool.not_eq_true'] at hb1
          refine s_ret ev_c fun H5 e5 => bad ?_ H5 (e4.trans e5)
          show (match dec st.1 st.2 c with | some k => _ | none => none) = none
          cases hde : dec st.1 st.2 c with
          | none => rfl
          | some k => rw [hde] at hb1; cases hb1
        · rw [Bool.not_eq_false', Option.isSome_iff_exists] at hb1
          obtain ⟨cmd, hcmd⟩ := hb1
          have hsm := cmd_small hcmd hdom
          obtain ⟨hceq, hform⟩ := dec_form hcmd
          have hstep : step st (.tuple [c, r]) = if (possB st.1 st.2 cmd && isM (behindS st.1 st.2 cmd).1 (behindS st.1 st.2 cmd).2 r) = true then some (behindS st.1 st.2 cmd) else none := by
            show (match dec st.1 st.2 c with | some k => _ | none => none) = _
            rw [hcmd]
          have hb4 := e4 _ _ hb
          subst hceq
          have hv1' := rl_cmd hv1
          refine q_when (et_notN (b := possB st.1 st.2 cmd) (evp_call (ea_cons (ev_var rfl) (ea_cons (ev_var rfl) (ea_cons (ev_ixT (i := 0) (ev_var rfl) hb4 ev_c rfl) ea_nil))) fun H5 e5 Q q E => ⟨xw, v1, st.1, st.2, cmd, rfl, (hxw.ex e4).ex e5, hst.val.le, (hv1'.ex e4).ex e5, hsm, by omega, q⟩)) (fun hb2 H5 e5 => ?_) fun hb2 H5 e5 => ?_
          · rw [Bool.not_eq_true'] at hb2
            exact s_ret ev_c fun H6 e6 => bad (by rw [hstep, hb2]; rfl) H6 ((e4.trans e5).trans e6)
          · rw [Bool.not_eq_false'] at hb2
            have hb5 := e5 _ _ hb4
            have hgb : Good (behindS st.1 st.2 cmd) := good_behind hst hform hb2
            refine q_unp2 (P := fun y z H6 => z = vS (behindS st.1 st.2 cmd).2 ∧ RD H6 (wlD (behindS st.1 st.2 cmd).1) y) ((evp_call (ea_cons (ev_var rfl) (ea_cons (ev_var rfl) (ea_cons (ev_ixT (i := 0) (ev_var rfl) hb5 ev_c rfl) ea_nil))) fun H6 e6 Q q E => ⟨xw, v1, st.1, st.2, cmd, rfl, ((hxw.ex e4).ex e5).ex e6, hst.val.ge, hst.val.le, fun u hu => by have := (mem_names_len hst.val hu).2; omega, ((hv1'.ex e4).ex e5).ex e6, hsm, by omega, q⟩).imp
              fun v H6 _ ⟨p, y, ev, hp, hy⟩ => ⟨p, y, _, ev, hp, rfl, hy⟩) fun y z H6 e6 ⟨hz, hy⟩ => ?_
            subst hz
            refine s_when (et_not (et_B (b := isM (behindS st.1 st.2 cmd).1 (behindS st.1 st.2 cmd).2 r) (ev_call (ea_cons (ev_var rfl) (ea_cons (ev_var rfl) (ea_cons (ev_ixT (i := 1) (ev_var rfl) (e6 _ _ hb5) ev_c rfl) ea_nil))) fun H7 e7 Q q E => ⟨y, v2, _, _, r, rfl, hy.ex e7, hgb, (((hv2.ex e4).ex e5).ex e6).ex e7, hrow, q⟩))) (fun hb3 H7 e7 => ?_) fun hb3 H7 e7 => ?_
            · rw [Bool.not_eq_true'] at hb3
              exact s_ret ev_c fun H8 e8 => bad (by rw [hstep, hb2, hb3]; rfl) H8 ((((e4.trans e5).trans e6).trans e7).trans e8)
            · rw [Bool.not_eq_false'] at hb3
              refine ⟨behindS st.1 st.2 cmd, y, some (.ref b), rfl, (((e3.trans e4).trans e5).trans e6).trans e7, hy.ex e7, hgb, ?_⟩
              rw [hrun, show run st (.tuple [cmdD cmd, r] :: ds.drop (i + 1)) = (step st (.tuple [cmdD cmd, r])).bind (fun st' => run st' (ds.drop (i + 1))) from rfl, hstep, hb2, hb3]
              rfl
    · rintro σ' H' ⟨st, xw, rv, rfl, e3, hxw, hst, hrun⟩
      refine s_ret ev_c fun H4 e4 => ?_
      have q := k H4 (((e1.trans e2).trans e3).trans e4)
      rw [show rightB (ws, t) (.tuple ds) = (run (ws, t) ds).isSome from rfl, hrun, hs.length, List.drop_length] at q
      exact q
end
end G
/-! greedycuts.desk: Desk -/
namespace G
open PySem PySem.Spec PyProof.Rows L2 Evl

/-! ### methods by their promises -/
def OkM (P : Program) (w : World) (K : PySem.W.Frag) (mg : Str → Option Value) (base : Heap) (k : Nat) (m : Str) (ps : List Str) (sp : Sp) : Prop :=
  ∃ fd, FnOk P w K mg base CX0 k (He.ma K (dC K) m) fd ps sp ∧ Binds K fd ps []
section
variable {P : Program} {w : World} {K : PySem.W.Frag} {mg : Str → Option Value} {base : Heap}
theorem OkM.mk {m q : Str} {st : Stmt} {N ps : List Str} {k : Nat} {sp : Sp} (D : MethIs K m q st) (S : FnScope N ps (defScope st))
    (hb : ∀ (kV doc pm : Value) (an : Option Addr) (cdv ct : Value) (us : List Value), us.length = ps.length → bindArgs (PySem.W.fnOf m q (defArgs st) (defBody st) (defScope st) .none kV doc pm an cdv ct) ⟨us, []⟩ = pure (ps.zip us))
    (len : ∀ vs H Q E, sp vs H Q E → vs.length = ps.length)
    (hbody : ∀ (f : Addr) (cdv : Value) (A : Around) (outer : List Env) (s : Shared) (H : Hp) (vs : List V) (Q : VK) (E : XK), Room k (A.deeper (envOfC q (defScope st) s.heap.objs.size f cdv)) → sp vs H Q E →
      ∃ t, PSs (cxOf CX0 P w K mg base N q (defScope st) f cdv A outer s H E).nox (defBody st) t ∧ t { nx := fun _ H' => Q .non H', rt := Q } (start N vs) H) : OkM P w K mg base (k + 1) m ps sp := by
  obtain ⟨fd, F⟩ := D.ex
  refine ⟨fd, F.ok S len (fun cdv A outer s H vs Q E hr h => ?_), F.bindsN hb⟩
  obtain ⟨t, h1, h2⟩ := hbody _ cdv A outer s H vs Q E hr h
  exact ⟨t, h1.nox, h2⟩
end
section
variable {X : Cx} {m : Str} {o e : Expr} {es : List Expr} {apos pos p : Pos} {ta : TE} {t : TA} {k j : Nat} {ps : List Str} {sp : Sp} {pl : Sem Bool}
theorem pe_mt (he : PE X o ta) (c : Cls X.K (dC X.K)) (hm : Meth X.K (dC X.K) m (He.ma X.K (dC X.K) m)) (O : OkM X.prog X.w X.K X.mg X.base k m ps sp) (hr : Room j X.A) (ha : PA X (e :: es) t) (hj : k ≤ j := by decide)
    (hst : starEach (e :: es) X.env = (false, eval e X.env) :: starEach es X.env := by rfl) (hpl : (backTo pos (starEach es X.env)).any (·.1) = false := by rfl)
    (ht : eval (.Call (.Attribute o m apos) (e :: es) [] pos) X.env = (do
      let ov ← eval o X.env
      standAt apos.atName
      let (f, first) ← holding [ov] (getMethod ov m pl)
      callWith pos f first (backTo pos (starEach (e :: es) X.env)) (backToKw pos (keywordEach [] X.env))) := by rfl) : PE X (.Call (.Attribute o m apos) (e :: es) [] pos) (tMeth (dC X.K) m sp [] E0 ta t) := by
  obtain ⟨fd, F, hb⟩ := O
  exact pe_meth he c hm F (hr.mono hj) hb .nil pass0 ha hst hpl ht
theorem pe_mt0 (he : PE X o ta) (c : Cls X.K (dC X.K)) (hm : Meth X.K (dC X.K) m (He.ma X.K (dC X.K) m)) (O : OkM X.prog X.w X.K X.mg X.base k m ps sp) (hr : Room j X.A) (hj : k ≤ j := by decide)
    (ht : eval (.Call (.Attribute o m apos) [] [] pos) X.env = (do
      let ov ← eval o X.env
      standAt apos.atName
      let (f, first) ← holding [ov] (getMethod ov m pl)
      callWith pos f first (backTo pos (starEach [] X.env)) (backToKw pos (keywordEach [] X.env))) := by rfl) : PE X (.Call (.Attribute o m apos) [] [] pos) (tMeth (dC X.K) m sp [] E0 ta tNil) := by
  obtain ⟨fd, F, hb⟩ := O
  exact pe_meth0 he c hm F (hr.mono hj) hb .nil pass0 ht
theorem pe_mkD {w : World} (T : Txt X.K X.mg w) (O : OkM X.prog X.w X.K X.mg X.base k "__init__" ps sp) (hr : Room j X.A) (ha : PA X (e :: es) t) (hj : k + 1 ≤ j := by decide) (hg : Gl X "Desk" := by rfl)
    (he : starEach (e :: es) X.env = (false, eval e X.env) :: starEach es X.env := by rfl) (hpl : (backTo pos (starEach es X.env)).any (·.1) = false := by rfl) : PE X (.Call (.Name "Desk" p) (e :: es) [] pos) (tMake (dC X.K) sp [] E0 t) := by
  obtain ⟨fd, F, hb⟩ := O
  exact pe_make T.mkD F (hr.mono hj) hg T.gDesk hb .nil pass0 ha (by decide) he hpl
theorem pe_fldK (K : PySem.W.Frag) (h : X.K = K) {f : Str} (he : PE X e ta) (hb : attributeBase e f X.env (eval e X.env) = eval e X.env) : PE X (.Attribute e f pos) (tFld K ta f) := h ▸ pe_fld he hb
end

/-! ### attributes -/
theorem n_sc : ¬ (("states" : Str) = "commands") := by decide +kernel
def df (ls lc : Addr) : List (Str × V) := putF "commands" (.ref lc) (putF "states" (.ref ls) [])
theorem df_states (ls lc : Addr) : (df ls lc).lookup ("states" : Str) = some (.ref ls) := by
  unfold df
  rw [lookup_putF, if_neg n_sc, lookup_putF, if_pos rfl]
theorem df_commands (ls lc : Addr) : (df ls lc).lookup ("commands" : Str) = some (.ref lc) := by
  unfold df
  rw [lookup_putF, if_pos rfl]
theorem df_no (ls lc : Addr) {m : Str} (h1 : ¬ m = "commands") (h2 : ¬ m = "states") : (df ls lc).lookup m = none := by
  unfold df
  rw [lookup_putF, if_neg h1, lookup_putF, if_neg h2]
  all_goals rfl
section
variable {K : PySem.W.Frag} {σ : L2.St} {H : Hp} {ta tb te tv : TE} {D : Ends} {tz : TS} {P : V → Hp → Prop}
theorem ev_fld {x C dx : Addr} {fs : List (Str × V)} {f : Str} {v : V} (ha : Ev ta σ H (.ref x)) (hx : H x = some (.ins C dx fs)) (c : Cls K C) (n : NoAttr K C f) (hl : fs.lookup f = some v) : Ev (tFld K ta f) σ H v := fun H1 e Q q =>
  ha H1 e _ fun H2 e2 => ⟨x, C, dx, fs, v, rfl, e2 _ _ (e _ _ hx), c, n, hl, q H2 e2⟩
theorem s_fldP {x C dx : Addr} {fs : List (Str × V)} {f : Str} (h : EvP tv σ H P) (hP : Mon P) (ha : Ev ta σ H (.ref x)) (hx : H x = some (.ins C dx fs)) (c : Cls K C) (n : NoAttr K C f) (hl : fs.length < 1000) (k : ∀ v H1, Ex H H1 → P v H1 → D.nx σ (upd H1 x (.ins C dx (putF f v fs)))) :
    sFld K ta tv f D σ H := h H (Ex.refl H) _ fun v H1 e p => ha H1 e _ fun H2 e2 => ⟨x, C, dx, fs, rfl, e2 _ _ (e _ _ hx), c, n, hl, k v H2 (e.trans e2) (hP v _ _ e2 p)⟩
theorem q_fldP {x C dx : Addr} {fs : List (Str × V)} {f : Str} (h : EvP tv σ H P) (hP : Mon P) (ha : Ev ta σ H (.ref x)) (hx : H x = some (.ins C dx fs)) (c : Cls K C) (n : NoAttr K C f) (hl : fs.length < 1000) (k : ∀ v H1, Ex H H1 → P v H1 → tz D σ (upd H1 x (.ins C dx (putF f v fs)))) :
    tSeq (sFld K ta tv f) tz D σ H := s_fldP (D := { D with nx := tz D }) h hP ha hx c n hl k
theorem q_appP {l : Addr} {xs : List V} (hl : H l = some (.lst xs)) (ha : Ev ta σ H (.ref l)) (h : EvP te σ H P) (hz : xs.length < 100000) (k : ∀ v H1, Ex H H1 → P v H1 → tz D σ (upd H1 l (.lst (xs ++ [v])))) :
    tSeq (tDrop (tBM K "list" rAppend ta (tCons te tNil))) tz D σ H := ha H (Ex.refl H) _ fun H1 e1 =>
  ⟨Or.inl ⟨rfl, xs, sq_of (e1 l _ hl)⟩, h H1 e1 _ fun v H2 e2 p => ⟨l, xs, v, rfl, rfl, e2 l _ (e1 l _ hl), sz_lt hz, k v H2 (e1.trans e2) p⟩⟩
theorem ev_last {a : Addr} {xs : List V} {v : V} (ha : Ev ta σ H (.ref a)) (h : H a = some (.lst (xs ++ [v]))) : Ev (tOp (rIxL K) ta (tUn (rU fun i => .int (-i)) (tC (.int 1)))) σ H v :=
  ev_op ha (ev_un ev_c ru_neg) (rv_ixL (SqL.of h) (atI_last xs v))
/-- a method without arguments -/
theorem evp_mt0 {x dx C : Addr} {fs : List (Str × V)} {m : Str} {sp : Sp} {E : XK} (ha : Ev ta σ H (.ref x)) (hx : H x = some (.ins C dx fs)) (hl : fs.lookup m = none) (hs : SpP sp [.ref x] H P) : EvP (tMeth C m sp [] E ta tNil) σ H P := fun H1 e Q q =>
  ha H1 e _ fun H2 e2 => ⟨x, dx, fs, rfl, e2 _ _ (e _ _ hx), hl, hs H2 (e.trans e2) Q (fun v H3 e3 p => q v H3 (e2.trans e3) p) E⟩
theorem evp_lst1 (hm : Mon P) (h : EvP te σ H P) : EvP (tLst (tCons te tNil)) σ H (fun v H1 => ∃ p y, v = .ref p ∧ H p = none ∧ H1 p = some (.lst [y]) ∧ P y H1) := fun H1 e Q q =>
  h H1 e _ fun y H2 e2 hp => ⟨sz_of (by simp), fun p hn => q _ _ (e2.trans (Ex.new hn)) ⟨p, y, rfl, fresh_back (e.trans e2) hn, upd_same, hm _ _ _ (Ex.new hn) hp⟩⟩
theorem evp_lst0 : EvP (tLst tNil) σ H (fun v H1 => ∃ p, v = .ref p ∧ H p = none ∧ H1 p = some (.lst [])) := fun H1 e Q q =>
  ⟨by decide, fun p hn => q _ _ (Ex.new hn) ⟨p, rfl, fresh_back e hn, upd_same⟩⟩
/-- a comprehension over enumerate(..) of a list -/
theorem el_lcE {l : List V} {a : Addr} {ta : TA} {g : TG} {vs : List Nat} (R : Nat → V → Hp → Prop) (hR : ∀ x y H H', ExT H H' → R x y H → R x y H') (hi : EvA ta σ H [.ref a]) (ha : H a = some (.lst l)) (hz : l.length ≤ 10000)
    (hs : ∀ i y, l[i]? = some y → ∀ H1 p, Ex H H1 → H1 p = some (.tup [.int (i : Nat), y]) → ∃ σ2, Bnd g (.ref p) (wipe σ vs) H1 σ2 ∧ wipe σ2 vs = wipe σ vs ∧ EvP te σ2 H1 (R i)) :
    EvP (tLc (iEnum K ta) g tYes te vs) σ H (fun v H1 => ∃ p ys, v = .ref p ∧ H1 p = some (.lst ys) ∧ Paired (fun x y => R x y H1) (List.range l.length) ys) := fun H0 e0 Q q =>
  hi H0 e0 _ fun H1 e1 => ⟨a, l, rfl, SqL.of (e1 _ _ (e0 _ _ ha)), fun Dl hD => by
    have ha1 := e1 _ _ (e0 _ _ ha)
    refine ⟨fun i m H' => m = l.length - i ∧ i ≤ l.length ∧ Ex H1 H' ∧ ∃ ys, H' Dl = some (.lst ys) ∧ ys.length ≤ i ∧ Paired (fun x y => R x y H') (List.range i) ys, ⟨l.length, by simp, Nat.zero_le _, Ex.new hD, [], upd_same, Nat.le_refl _, .nil⟩, ?_⟩
    rintro i m H' ⟨rfl, hle, eH, ys, hy, hyl, hp⟩
    by_cases hlt : i < l.length
    · have hx : l[i]? = some l[i] := List.getElem?_eq_getElem hlt
      refine .inr ⟨⟨l, _, SqL.of (eH _ _ ha1), hx⟩, fun H'' => i + 1 ≤ l.length ∧ Ex H1 H'' ∧ ∃ ys, H'' Dl = some (.lst ys) ∧ ys.length ≤ i + 1 ∧ Paired (fun x y => R x y H'') (List.range (i + 1)) ys, fun H'' hn => ⟨l.length - (i + 1), by omega, rfl, hn⟩, ?_⟩
      rintro _ H2 ⟨T, x, rfl, hT, rfl, hq⟩
      have hx2 := hq l (SqL.of (eH _ _ ha1))
      have eU : Ex H' (upd H' T (.tup [.int (i : Nat), x])) := Ex.new hT
      have eT : Ex H (upd H' T (.tup [.int (i : Nat), x])) := ((e0.trans e1).trans eH).trans eU
      obtain ⟨σ2, hb, hw, hv⟩ := hs i x hx2 _ T eT upd_same
      refine hb _ (Ex.refl _) _ ⟨hw, et_yes (σ := σ2) _ (Ex.refl _) _ fun H3 e3 => ?_⟩
      rw [if_pos rfl]
      refine hv _ e3 _ fun y H4 e4' r => ?_
      have e4 := e3.trans e4'
      refine ⟨ys, e4 _ _ (eU _ _ hy), sz_lt (by omega), by omega, ?_, ys ++ [y], upd_same, by simp; omega, ?_⟩
      · exact Ex.mut ((eH.trans eU).trans e4) hD
      · rw [List.range_succ]
        have k1 : ExT H' (upd H4 Dl (.lst (ys ++ [y]))) := (ext_of (eU.trans e4)).trans (ext_lst (e4 _ _ (eU _ _ hy)))
        exact paired_app (Paired.mapP hp fun a b r => hR a b _ _ k1 r) (.cons (hR _ _ _ _ (ext_lst (e4 _ _ (eU _ _ hy))) r) .nil)
    · have hi' : i = l.length := by omega
      subst hi'
      exact .inl ⟨⟨l, SqL.of (eH _ _ ha1), Nat.le_refl _⟩, q _ H' (e1.trans eH) ⟨Dl, ys, rfl, hy, hp⟩⟩⟩
end

/-! ### states of a desk -/
def SV (H : Hp) (st : WL × Wd) (v : V) : Prop := ∃ p y r, v = .ref p ∧ H p = some (.tup [y, vS st.2, .ref r]) ∧ RD H (wlD st.1) y ∧ H r = some (.tup ((longest st.1 st.2).map vS))
theorem SV.ext {H H' : Hp} {st : WL × Wd} {v : V} (e : ExT H H') (h : SV H st v) : SV H' st v := by
  obtain ⟨p, y, r, h1, h2, h3, h4⟩ := h
  exact ⟨p, y, r, h1, e _ _ h2, h3.mono e, e _ _ h4⟩
section
variable {K : PySem.W.Frag} {σ : L2.St} {H : Hp} {ta tb tc : TE}
theorem evp_sv {ws : WL} {t : Wd} {y : V} (ha : Ev ta σ H y) (hy : RD H (wlD ws) y) (hb : Ev tb σ H (vS t)) (hc : EvP tc σ H (RowV (longest ws t))) : EvP (tTup (tCons ta (tCons tb (tCons tc tNil)))) σ H (fun v H1 => SV H1 (ws, t) v) :=
  (evp_tup (PA := fun vs H1 => ∃ r, vs = [y, vS t, .ref r] ∧ RD H1 (wlD ws) y ∧ H1 r = some (.tup ((longest ws t).map vS))) (fun vs H H' e ⟨r, h1, h2, h3⟩ => ⟨r, h1, h2.ex e, e _ _ h3⟩)
    (fun H1 e Q q => ev_at ha e fun H2 e2 => ev_at hb (e.trans e2) fun H3 e3 => hc.at ((e.trans e2).trans e3) fun v H4 e4 ⟨r, ev, hr⟩ => by
      subst ev
      exact q _ H4 ((e2.trans e3).trans e4) ⟨r, rfl, ((((hy.ex e).ex e2).ex e3).ex e4), hr⟩)
    (fun vs _ ⟨r, h, _⟩ => by rw [h]; simp)).imp fun v H1 _ ⟨p, vs, ev, hp, r, e2, h3, h4⟩ => ⟨p, y, r, ev, by rw [hp, e2], h3, h4⟩
end

/-! ### Desk -/
section
variable {P : Program} {w : World} {K : PySem.W.Frag} {mg : Str → Option Value} {base : Heap}
def sp_init (K : PySem.W.Frag) : Sp := fun vs H Q _ => ∃ (x dx : Addr) (y : V) (ws : WL) (t : Wd), vs = [.ref x, y, vS t] ∧ H x = some (.ins (dC K) dx []) ∧ RD H (wlD ws) y ∧ Good (ws, t) ∧
  ∀ H' ls lc s, (∀ b o, b ≠ x → H b = some o → H' b = some o) → H ls = none → H lc = none → ls ≠ lc → H' x = some (.ins (dC K) dx (df ls lc)) → H' ls = some (.lst [s]) → H' lc = some (.lst []) → SV H' (ws, t) s → Q .non H'
theorem sc_Desk_init : FnScope ["self", "words", "text"] ["self", "words", "text"] (defScope s_Desk_init) := ⟨rfl, rfl, rfl, by decide +kernel, rfl, by decide +kernel, by decide +kernel⟩
theorem ok_Desk_init (T : Txt K mg w) : OkM P w K mg base 7 "__init__" ["self", "words", "text"] (sp_init K) := by
  have nd := sc_Desk_init.nd
  refine OkM.mk T.md_init sc_Desk_init (fun _ _ _ _ _ _ us hl => match us, hl with | [_, _, _], _ => rfl) (fun vs H Q E h => ?_) fun f cdv A outer s H vs Q E hr h => ?_
  · obtain ⟨_, _, _, _, _, rfl, _⟩ := h
    rfl
  · obtain ⟨x, dx, y, ws, t, rfl, hx, hy, hg, k⟩ := h
    refine ⟨_, (pss_cons (ps_expr (pe_fn (ok_check_text T) hr (pa_cons (pv 1) (pa_cons (pv 2) pa_nil))))
      (pss_cons (ps_fld (pv 0) (pe_lst (pa_cons (pe_tup (pa_cons (pv 1) (pa_cons (pv 2) (pa_cons (pe_fn (ok_match_of T) hr (pa_cons (pv 1) (pa_cons (pv 2) pa_nil))) pa_nil)))) pa_nil)) rfl)
      (pss_one (ps_fld (pv 0) (pe_lst pa_nil) rfl)))), ?_⟩
    refine q_drop (ev_call (ea_cons (ev_var rfl) (ea_cons (ev_var rfl) ea_nil)) fun H1 e1 Q q E => ⟨y, ws, t, rfl, hy.ex e1, hg.val, hg.len, hg.let_, q⟩) fun H1 e1 => ?_
    refine q_fldP (evp_lst1 (fun _ _ _ e h => h.ext (ext_of e)) (evp_sv (ev_var rfl) (hy.ex e1) (ev_var rfl) (evp_call (ea_cons (ev_var rfl) (ea_cons (ev_var rfl) ea_nil)) fun H2 e2 Q q E => ⟨y, ws, t, rfl, (hy.ex e1).ex e2, hg.val, Nat.le_trans hg.len (by decide), hg.let_, q⟩))) (fun v H H' e ⟨p, y, h1, h2, h3, h4⟩ => ⟨p, y, h1, h2, e _ _ h3, h4.ext (ext_of e)⟩) (ev_var rfl) (e1 _ _ hx) T.cl T.nStates (by simp) fun v H2 e2 ⟨ls, s, ev, hl0, hl1, hsv⟩ => ?_
    subst ev
    have hx2 := e2 _ _ (e1 _ _ hx)
    have hxl : ls ≠ x := fun h => by rw [h, e1 _ _ hx] at hl0; cases hl0
    refine s_fldP (x := x) evp_lst0 (fun v H H' e ⟨p, h1, h2, h3⟩ => ⟨p, h1, h2, e _ _ h3⟩) (ev_var rfl) upd_same T.cl T.nCommands (by simp [putF]) fun v H3 e3 ⟨lc, ev, hc0, hc1⟩ => ?_
    subst ev
    have hxc : lc ≠ x := fun h => by rw [h, upd_same] at hc0; cases hc0
    rw [upd_ne hxc] at hc0
    have hlc : ls ≠ lc := fun h => by rw [← h, hl1] at hc0; cases hc0
    have hl3 : H3 ls = some (.lst [s]) := e3 _ _ (by rw [upd_ne hxl]; exact hl1)
    have hx3 := e3 _ _ (upd_same (H := H2) (a := x) (o := .ins (dC K) dx (putF "states" (.ref ls) [])))
    refine k _ ls lc s (fun b o hb ho => ?_) ?_ ?_ hlc upd_same (by rw [upd_ne hxl]; exact hl3) (by rw [upd_ne hxc]; exact hc1) ?_
    · rw [upd_ne hb]
      exact e3 _ _ (by rw [upd_ne hb]; exact e2 _ _ (e1 _ _ ho))
    · exact fresh_back e1 hl0
    · exact fresh_back (e1.trans e2) hc0
    · exact hsv.ext (((ext_ins hx2).trans (ext_of e3)).trans (ext_ins hx3))

def sp_row (K : PySem.W.Frag) : Sp := fun vs H Q _ => ∃ (x dx ls lc : Addr) (ss : List V) (s : V) (st : WL × Wd), vs = [.ref x] ∧ H x = some (.ins (dC K) dx (df ls lc)) ∧ H ls = some (.lst (ss ++ [s])) ∧ SV H st s ∧ RetP (RowV (longest st.1 st.2)) H Q
theorem sc_Desk_row : FnScope ["self"] ["self"] (defScope s_Desk_row) := ⟨rfl, rfl, rfl, by decide +kernel, rfl, by decide +kernel, by decide +kernel⟩
theorem ok_Desk_row (T : Txt K mg w) : OkM P w K mg base 1 "row" ["self"] (sp_row K) := by
  have nd := sc_Desk_row.nd
  refine OkM.mk T.md_row sc_Desk_row (fun _ _ _ _ _ _ us hl => match us, hl with | [_], _ => rfl) (fun vs H Q E h => ?_) fun f cdv A outer s H vs Q E hr h => ?_
  · obtain ⟨_, _, _, _, _, _, _, rfl, _⟩ := h
    rfl
  · obtain ⟨x, dx, ls, lc, ss, s, st, rfl, hx, hl, ⟨p, y, r, rfl, hp, hy, hr'⟩, k⟩ := h
    refine ⟨_, (pss_one (ps_ret (pe_ix (ix_tupK K rfl) (pe_ix (ix_listK K rfl) (pe_fldK K rfl (pv 0) rfl) (pe_un un_neg pe_int) (fun _ _ => rfl)) pe_int (fun _ _ => rfl)))), ?_⟩
    exact s_retP ((ev_p (ev_ixT (i := 2) (ev_last (ev_fld (ev_var rfl) hx T.cl T.nStates (df_states ls lc)) hl) hp ev_c rfl)).imp fun v H1 e h => (⟨r, h, e _ _ hr'⟩ : RowV _ v H1)) k

theorem dom_cmd {c : Cmd} (h : CmdSm c) : Dom (cmdD c) := by
  cases c with
  | ins i p => exact ⟨by decide +kernel, fun a ha => by
      simp only [List.mem_cons, List.not_mem_nil, or_false] at ha
      rcases ha with rfl | rfl
      · trivial
      · show (S p).length ≤ 100
        rw [S_len]; exact h⟩
  | rem i j => exact ⟨by decide +kernel, fun a ha => by
      simp only [List.mem_cons, List.not_mem_nil, or_false] at ha
      rcases ha with rfl | rfl <;> trivial⟩
  | rep i j p => exact ⟨by decide +kernel, fun a ha => by
      simp only [List.mem_cons, List.not_mem_nil, or_false] at ha
      rcases ha with rfl | rfl | rfl
      · trivial
      · trivial
      · show (S p).length ≤ 100
        rw [S_len]; exact h⟩
  | add u c => exact ⟨by decide +kernel, fun a ha => by
      simp only [List.mem_cons, List.not_mem_nil, or_false] at ha
      rcases ha with rfl | rfl
      · show (S u).length ≤ 100
        rw [S_len]; exact h
      · trivial⟩
  | drop u => exact ⟨by decide +kernel, fun a ha => by
      simp only [List.mem_cons, List.not_mem_nil, or_false] at ha
      rcases ha with rfl
      show (S u).length ≤ 100
      rw [S_len]; exact h⟩
def sp_do (K : PySem.W.Frag) : Sp := fun vs H Q _ => ∃ (x dx ls lc : Addr) (v : V) (ss : List V) (s : V) (cv : List V) (st : WL × Wd) (c : Cmd), vs = [.ref x, v] ∧ H x = some (.ins (dC K) dx (df ls lc)) ∧ H ls = some (.lst (ss ++ [s])) ∧ ss.length < 100 ∧ SV H st s ∧ H lc = some (.lst cv) ∧ cv.length < 20 ∧ ls ≠ lc ∧ Good st ∧ RD H (cmdD c) v ∧ CmdSm c ∧ FormOk st.1 st.2 c ∧ possB st.1 st.2 c = true ∧
  ∀ v' H' s', (∀ b o, b ≠ ls → b ≠ lc → H b = some o → H' b = some o) → H' ls = some (.lst (ss ++ [s] ++ [s'])) → SV H' (behindS st.1 st.2 c) s' → H' lc = some (.lst (cv ++ [v])) → Q v' H'
theorem noM {x : Addr} {ls lc : Addr} {m : Str} (h1 : ¬ m = "commands") (h2 : ¬ m = "states") : (df ls lc).lookup m = none := df_no ls lc h1 h2
theorem sc_Desk_do : FnScope ["self", "command", "words", "text", "row", "why"] ["self", "command"] (defScope s_Desk_do) := ⟨rfl, rfl, rfl, by decide +kernel, rfl, by decide +kernel, by decide +kernel⟩
theorem ok_Desk_do (T : Txt K mg w) : OkM P w K mg base 8 "do" ["self", "command"] (sp_do K) := by
  have nd := sc_Desk_do.nd
  refine OkM.mk T.md_do sc_Desk_do (fun _ _ _ _ _ _ us hl => match us, hl with | [_, _], _ => rfl) (fun vs H Q E h => ?_) fun f cdv A outer s H vs Q E hr h => ?_
  · obtain ⟨_, _, _, _, _, _, _, _, _, _, rfl, _⟩ := h
    rfl
  · obtain ⟨x, dx, ls, lc, v, ss, s, cv, st, c, rfl, hx, hl, hsl, hsv, hc, hcl, hne, hg, hv, hsm, hf, hpb, k⟩ := h
    obtain ⟨ws, t⟩ := st
    have ht30 : t.length ≤ 30 := hg.len
    refine ⟨_, (pss_cons (ps_asg (pe_ix (ix_listK K rfl) (pe_fldK K rfl (pv 0) rfl) (pe_un un_neg pe_int) (fun _ _ => rfl)) (pg_tupK K rfl (n := 3) rfl (pgs_cons (pg_name (i := 2) nd rfl (Or.inl rfl)) (pgs_cons (pg_name (i := 3) nd rfl (Or.inl rfl)) (pgs_cons (pg_name (i := 4) nd rfl (Or.inl rfl)) pgs_nil)))))
      (pss_cons (ps_if (pt_not (pt_val (pe_fn (ok_is_command T) hr (pa_cons (pv 2) (pa_cons (pv 3) (pa_cons (pv 1) pa_nil)))))) (pss_one ps_never) pss_nil)
      (pss_cons (ps_set (i := 5) nd rfl (Or.inl rfl) (pe_fn (ok_why_not T) hr (pa_cons (pv 2) (pa_cons (pv 3) (pa_cons (pv 1) pa_nil)))))
      (pss_cons (ps_if (pt_cmpR op_notN (pv 5) pe_non (nomark _)) (pss_one ps_never) pss_nil)
      (pss_cons (ps_if (pt_cmpR op_eq (pe_callB (call_lenK K rfl) (by rfl) T.b_len PySem.boot_len (pa_cons (pe_fldK K rfl (pv 0) rfl) pa_nil)) (pe_gint T.c_MOST_COMMANDS) (nomark _)) (pss_one ps_never) pss_nil)
      (pss_cons (ps_asg (pe_fn (ok_behind T) hr (pa_cons (pv 2) (pa_cons (pv 3) (pa_cons (pv 1) pa_nil)))) (pg_tupK K rfl (n := 2) rfl (pgs_cons (pg_name (i := 2) nd rfl (Or.inl rfl)) (pgs_cons (pg_name (i := 3) nd rfl (Or.inl rfl)) pgs_nil))))
      (pss_cons (ps_expr (pe_bmK K rfl PySem.F.plainAttrs_list PySem.F.slot_list_append PySem.F.type_list_append mt_append (pe_fldK K rfl (pv 0) rfl) (pa_cons (pe_tup (pa_cons (pv 2) (pa_cons (pv 3) (pa_cons (pe_fn (ok_match_of T) hr (pa_cons (pv 2) (pa_cons (pv 3) pa_nil))) pa_nil)))) pa_nil)))
      (pss_cons (ps_expr (pe_bmK K rfl PySem.F.plainAttrs_list PySem.F.slot_list_append PySem.F.type_list_append mt_append (pe_fldK K rfl (pv 0) rfl) (pa_cons (pv 1) pa_nil)))
      (pss_one (ps_ret (pe_fn (ok_change_of T) hr (pa_cons (pv 4) (pa_cons (pe_mt0 (pv 0) T.cl T.m_row (ok_Desk_row T) hr) pa_nil))))))))))))), ?_⟩
    obtain ⟨p, y, r, es, hp, hy, hrow⟩ := hsv
    subst es
    refine q_unp3 (P := fun a b d H1 => a = y ∧ b = vS t ∧ d = .ref r) ((ev_p (ev_last (ev_fld (ev_var rfl) hx T.cl T.nStates (df_states ls lc)) hl)).imp fun v' H1 e h => ⟨p, y, vS t, .ref r, h, e _ _ hp, rfl, rfl, rfl⟩) fun a b d H1 e1 ⟨ea, eb, ed⟩ => ?_
    subst ea eb ed
    have hy1 := hy.ex e1
    have hv1 := hv.ex e1
    refine q_skip (et_is (et_not (et_B (ev_call (ea_cons (ev_var rfl) (ea_cons (ev_var rfl) (ea_cons (ev_var rfl) ea_nil))) fun H2 e2 Q q E => ⟨a, v, ws, t, cmdD c, rfl, hy1.ex e2, hg.val, by omega, (hv1.ex e2).rl, dom_cmd hsm, q⟩))) (by rw [form_dec hf] <;> rfl)) fun H2 e2 => ?_
    refine q_asgP (evp_call (ea_cons (ev_var rfl) (ea_cons (ev_var rfl) (ea_cons (ev_var rfl) ea_nil))) fun H3 e3 Q q E => ⟨a, v, ws, t, c, rfl, (hy1.ex e2).ex e3, hg.val.le, (hv1.ex e2).ex e3, hsm, by omega, q⟩) fun why H3 e3 hwhy => ?_
    refine q_skip (et_is (et_notN (b := true) ((ev_p (ev_var rfl)).imp fun v H1 _ h => by rw [h, hwhy, hpb])) rfl) fun H4 e4 => ?_
    have e04 := ((e1.trans e2).trans e3).trans e4
    refine q_skip (et_is (et_test (ev_op (ev_lenL (ev_fld (ev_var rfl) (e04 _ _ hx) T.cl T.nCommands (df_commands ls lc)) (e04 _ _ hc)) ev_c (rv_eq rfl))) (decide_eq_false fun h => by have := V.int.inj h; omega)) fun H5 e5 => ?_
    have e05 := e04.trans e5
    have e15 := ((e2.trans e3).trans e4).trans e5
    have hgb : Good (behindS ws t c) := good_behind hg hf hpb
    refine q_unp2 (P := fun y z H6 => z = vS (behindS ws t c).2 ∧ RD H6 (wlD (behindS ws t c).1) y) ((evp_call (ea_cons (ev_var rfl) (ea_cons (ev_var rfl) (ea_cons (ev_var rfl) ea_nil))) fun H6 e6 Q q E => ⟨a, v, ws, t, c, rfl, (hy1.ex e15).ex e6, hg.val.ge, hg.val.le, fun u hu => by have := (mem_names_len hg.val hu).2; omega, (hv1.ex e15).ex e6, hsm, by omega, q⟩).imp
      fun v H6 _ ⟨p, y, ev, hp, hy⟩ => ⟨p, y, _, ev, hp, rfl, hy⟩) fun y2 z2 H6 e6 ⟨hz, hy2⟩ => ?_
    subst hz
    have e06 := e05.trans e6
    have hx6 := e06 _ _ hx
    have hl6 := e06 _ _ hl
    have hc6 := e06 _ _ hc
    have hxl : ls ≠ x := fun h => by rw [h, hx] at hl; cases hl
    have hxc : lc ≠ x := fun h => by rw [h, hx] at hc; cases hc
    refine q_appP hl6 (ev_fld (ev_var rfl) hx6 T.cl T.nStates (df_states ls lc)) (evp_sv (ws := (behindS ws t c).1) (t := (behindS ws t c).2) (ev_var rfl) hy2 (ev_var rfl) (evp_call (ea_cons (ev_var rfl) (ea_cons (ev_var rfl) ea_nil)) fun H7 e7 Q q E => ⟨y2, _, _, rfl, hy2.ex e7, hgb.val, Nat.le_trans hgb.len (by decide), hgb.let_, q⟩)) (by simp; omega) fun s' H7 e7 hs' => ?_
    have e07 := e06.trans e7
    have hl7 := e07 _ _ hl
    have hx7 : upd H7 ls (.lst (ss ++ [.ref p] ++ [s'])) x = some (.ins (dC K) dx (df ls lc)) := by rw [upd_ne (Ne.symm hxl)]; exact e07 _ _ hx
    have hc7 : upd H7 ls (.lst (ss ++ [.ref p] ++ [s'])) lc = some (.lst cv) := by rw [upd_ne (Ne.symm hne)]; exact e07 _ _ hc
    refine q_app hc7 (ev_fld (ev_var rfl) hx7 T.cl T.nCommands (df_commands ls lc)) (ev_var rfl) (by omega) fun H8 e8 => ?_
    have hl8 : upd H8 lc (.lst (cv ++ [v])) ls = some (.lst (ss ++ [.ref p] ++ [s'])) := by rw [upd_ne hne]; exact e8 _ _ upd_same
    have hx8 : upd H8 lc (.lst (cv ++ [v])) x = some (.ins (dC K) dx (df ls lc)) := by rw [upd_ne (Ne.symm hxc)]; exact e8 _ _ hx7
    have hc8 := e8 _ _ hc7
    have t78 : ExT H7 (upd H8 lc (.lst (cv ++ [v]))) := ((ext_lst hl7).trans (ext_of e8)).trans (ext_lst hc8)
    have hsv8 : SV (upd H8 lc (.lst (cv ++ [v]))) (behindS ws t c) s' := hs'.ext t78
    have hr8 := t78 _ _ (e07 _ _ hrow)
    have keep : ∀ b o, b ≠ ls → b ≠ lc → H b = some o → upd H8 lc (.lst (cv ++ [v])) b = some o := fun b o h1 h2 ho => by
      rw [upd_ne h2]
      exact e8 _ _ (by rw [upd_ne h1]; exact e07 _ _ ho)
    have fin : ∀ v' H9, Ex (upd H8 lc (.lst (cv ++ [v]))) H9 → Q v' H9 := fun v' H9 e9 => k v' H9 s' (fun b o h1 h2 ho => e9 _ _ (keep b o h1 h2 ho)) (e9 _ _ hl8) (hsv8.ext (ext_of e9)) (e9 _ _ upd_same)
    refine s_retP (P := fun _ _ => True) (evp_callP (eap_cons (P := fun v _ => v = .ref r) (fun _ _ _ _ h => h) (ev_p (ev_var rfl)) (eap_one (evp_mt0 (P := RowV (longest (behindS ws t c).1 (behindS ws t c).2)) (ev_var rfl) hx8 (df_no ls lc (by decide +kernel) (by decide +kernel)) fun H9 e9 Q q E => ⟨x, dx, ls, lc, _, s', behindS ws t c, rfl, e9 _ _ hx8, e9 _ _ hl8, hsv8.ext (ext_of e9), q⟩))) fun vs H9 e9 ⟨v1, us, ev, e1', v2, ev2, r2, er2, hr2⟩ => ?_) fun v' H9 e9 _ => fin v' H9 e9
    subst er2 ev2 e1' ev
    exact fun H10 e10 Q q E => ⟨r, r2, _, _, rfl, (e9.trans e10) _ _ hr8, e10 _ _ hr2, q⟩

def recD (c : Cmd) (l : List Wd) : PyData := .tuple [cmdD c, rowD l]
/-- a command that was done and the state behind it -/
abbrev Hist := List (Cmd × (WL × Wd))
def histD (e : Cmd × (WL × Wd)) : PyData := recD e.1 (longest e.2.1 e.2.2)
theorem RDs.of {H : Hp} : ∀ {ds : List PyData} {ys : List V}, ys.length = ds.length → (∀ (i : Nat) (d : PyData) (y : V), ds[i]? = some d → ys[i]? = some y → RD H d y) → RDs H ds ys
  | [], [], _, _ => .nil
  | d :: ds, y :: ys, h, k => .cons (k 0 d y rfl rfl) (RDs.of (by simpa using h) fun i d y h1 h2 => k (i + 1) d y (by simpa using h1) (by simpa using h2))
  | [], _ :: _, h, _ => by simp at h
  | _ :: _, [], h, _ => by simp at h
theorem paired_len {α β : Type} {F : α → β → Prop} : ∀ {a : List α} {b : List β}, Paired F a b → b.length = a.length
  | _, _, .nil => rfl
  | _, _, .cons _ r => by rw [List.length_cons, List.length_cons, paired_len r]
theorem paired_get {α β : Type} {F : α → β → Prop} : ∀ {a : List α} {b : List β} {i : Nat} {x : α} {y : β}, Paired F a b → a[i]? = some x → b[i]? = some y → F x y
  | _, _, _, _, _, .nil, h, _ => by simp at h
  | _, _, 0, _, _, .cons x r, h1, h2 => by
    simp at h1 h2
    rw [← h1, ← h2]
    exact x
  | _, _, i + 1, _, _, .cons x r, h1, h2 => paired_get r (i := i) (by simpa using h1) (by simpa using h2)
theorem row_rd {H : Hp} {r : Addr} : ∀ {l : List Wd}, H r = some (.tup (l.map vS)) → RD H (rowD l) (.ref r) := fun {l} h => .tup h (by
  clear h
  induction l with
  | nil => exact .nil
  | cons u l ih => exact .cons (.str _) ih)
def sp_records (K : PySem.W.Frag) : Sp := fun vs H Q _ => ∃ (x dx ls lc : Addr) (s0 : V) (ss cv : List V) (hist : Hist), vs = [.ref x] ∧ H x = some (.ins (dC K) dx (df ls lc)) ∧ H ls = some (.lst (s0 :: ss)) ∧ H lc = some (.lst cv) ∧ hist.length ≤ 100 ∧ Paired (fun e v => SV H e.2 v) hist ss ∧ Paired (fun e v => RD H (cmdD e.1) v) hist cv ∧
  RetP (fun v H1 => RD H1 (.tuple (hist.map histD)) v) H Q
theorem sc_Desk_records : FnScope ["self", "at", "command"] ["self"] (defScope s_Desk_records) := ⟨rfl, rfl, rfl, by decide +kernel, rfl, by decide +kernel, by decide +kernel⟩
theorem ok_Desk_records (T : Txt K mg w) : OkM P w K mg base 1 "records" ["self"] (sp_records K) := by
  have nd := sc_Desk_records.nd
  refine OkM.mk T.md_records sc_Desk_records (fun _ _ _ _ _ _ us hl => match us, hl with | [_], _ => rfl) (fun vs H Q E h => ?_) fun f cdv A outer s H vs Q E hr h => ?_
  · obtain ⟨_, _, _, _, _, _, _, _, rfl, _⟩ := h
    rfl
  · obtain ⟨x, dx, ls, lc, s0, ss, cv, hist, rfl, hx, hl, hc, hlen, hps, hpc, k⟩ := h
    have hcl := paired_len hpc
    have hsl := paired_len hps
    refine ⟨_, (pss_one (ps_ret (pe_callTy call_tuple_of (by rfl) T.b_tuple (by decide +kernel) (pa_cons (pe_lc (own := [("at", 1), ("command", 2)]) (by rfl) nd (pi_enum (by rfl) T.b_enumerate (pa_cons (pe_fldK K rfl (pv 0) rfl) pa_nil)) (blkOk_by (N := ["self", "at", "command"]) (sc := defScope s_Desk_records) (by decide +kernel)) (fun _ _ _ _ _ => (pg_tupK K rfl (n := 2) rfl (pgs_cons (pg_name (i := 1) nd rfl (Or.inl rfl)) (pgs_cons (pg_name (i := 2) nd rfl (Or.inl rfl)) pgs_nil)))) (fun _ _ _ _ _ => pts_nil) (fun _ _ _ _ _ => (pe_tup (pa_cons (pv 2) (pa_cons (pe_ix (ix_tupK K rfl) (pe_ix (ix_listK K rfl) (pe_fldK K rfl (pv 0) rfl) (pe_op op_add (pv 1) pe_int) (fun _ _ => rfl)) pe_int (fun _ _ => rfl)) pa_nil))))) pa_nil)))), ?_⟩
    refine s_retP ((evp_tupLP (P := fun ys H1 => RDs H1 (hist.map histD) ys) (fun ys H H' e h => h.mono e) ((el_lcE (R := fun i y H => ∃ e, hist[i]? = some e ∧ RD H (histD e) y) (fun i y H H' e ⟨z, h1, h2⟩ => ⟨z, h1, h2.mono e⟩) (ea_cons (ev_fld (ev_var rfl) hx T.cl T.nCommands (df_commands ls lc)) ea_nil) hc (by omega) fun i y hy H1 p e1 hp => ⟨_, bnd_two fun H2 e2 => SqT.of (e2 _ _ hp), rfl, ?_⟩).imp
      fun v H1 e1 ⟨p, ys, ev, hp, hq⟩ => ⟨p, ys, ev, hp, ?_⟩)).imp fun v H1 e1 ⟨p, ys, ev, hp, hq⟩ => ev ▸ .tup hp hq) k
    · have hi : i < hist.length := by
        have := (List.getElem?_eq_some_iff.mp hy).1
        omega
      have he : hist[i]? = some hist[i] := List.getElem?_eq_getElem hi
      have hrd := (paired_get hpc he hy).ex e1
      have hi2 : i < ss.length := by omega
      obtain ⟨q, y2, r, h1, h2, h3, h4⟩ := paired_get hps he (List.getElem?_eq_getElem hi2)
      have hss : (s0 :: ss)[i + 1]? = some (.ref q) := by
        rw [List.getElem?_cons_succ, List.getElem?_eq_getElem hi2, h1]
      refine (evp_tup (PA := fun vs H1 => vs = [y, .ref r]) (fun _ _ _ _ h => h) (eva_p (ea_cons (ev_var rfl) (ea_cons (ev_ixT (i := 2) (ev_ixL (i := i + 1) (ev_fld (ev_var rfl) (e1 _ _ hx) T.cl T.nStates (df_states ls lc)) (e1 _ _ hl) (ev_op (ev_var rfl) ev_c rv_I0) hss) (e1 _ _ h2) ev_c rfl) ea_nil))) (fun vs _ h => by rw [h]; simp)).imp fun v H2 e2 ⟨p2, vs, ev, hp2, evs⟩ => ⟨_, he, ?_⟩
      subst ev evs
      exact .tup hp2 (.cons (hrd.ex e2) (.cons (row_rd ((e1.trans e2) _ _ h4)) .nil))
    · have hyl := paired_len hq
      rw [List.length_range, hcl] at hyl
      refine RDs.of (by rw [List.length_map, hyl]) fun i d y h1 h2 => ?_
      have hi : i < hist.length := by
        have := (List.getElem?_eq_some_iff.mp h2).1
        omega
      obtain ⟨e, he, hr⟩ := paired_get hq (i := i) (List.getElem?_range (by omega)) h2
      rw [List.getElem?_map, he] at h1
      rw [← Option.some.inj h1]
      exact hr
end
end G
/-! the stream of draws -/
namespace G
open PySem PySem.Spec PyProof.Rows L2 Evl

theorem cr_listStr {X : Cx} (hc : X.calm = true) : CallR X (.type "list") (fun xs H Q => ∃ z, xs = [.str z] ∧ z.length ≤ sizeLine ∧ ∀ l, H l = none → Q (.ref l) (upd H l (.lst (z.cps.toList.map fun c => .str ⟨#[c]⟩)))) := by
  intro pins s σ H xs us Q I r h
  obtain ⟨z, rfl, hz, q⟩ := h
  obtain ⟨u, rfl, t, rfl⟩ := vals1 r
  refine call_list_str (I.ok.hd hc) z t (hn := hz) fun h' tk acc c' hk e hi => ?_
  refine ⟨.ref s.heap.objs.size, upd H s.heap.objs.size (.lst (z.cps.toList.map fun c => .str ⟨#[c]⟩)), I.laid hk (Nat.le_refl _) ⟨by rw [List.length_map, Array.length_toList]; exact hz, acc.toList, c', ?_, by rw [Array.toArray_toList]; exact e⟩, rfl, q _ (I.hok.fresh (Nat.le_refl _))⟩
  refine vals_of_idx _ _ (by rw [List.length_map, Array.length_toList, Array.length_toList]; exact hi.1) fun j u hj => ?_
  obtain ⟨c, t', hc, rfl⟩ := hi.2 j u (by rw [← Array.getElem?_toList]; exact hj)
  exact ⟨.str ⟨#[c]⟩, by rw [List.getElem?_map, Array.getElem?_toList, hc] <;> rfl, ⟨_, rfl⟩⟩

/-! ### the stream -/
abbrev Strm := Addr × Addr
def StrOk (a : Strm) (H : Hp) : Prop := ∃ (c k : Int) (is : List Int), H a.1 = some (.lst [.ref a.2, .int c, .int k]) ∧ H a.2 = some (.lst (is.map V.int)) ∧ a.2 ≠ a.1 ∧ 0 ≤ k
def SI (a : Strm) (H H' : Hp) : Prop := (∀ b o, b ≠ a.1 → H b = some o → H' b = some o) ∧ StrOk a H'
theorem SI.trans {a : Strm} {H H1 H2 : Hp} (h : SI a H H1) (g : SI a H1 H2) : SI a H H2 := ⟨fun b o n e => g.1 b o n (h.1 b o n e), g.2⟩
theorem StrOk.ex {a : Strm} {H H' : Hp} (h : StrOk a H) (e : Ex H H') : StrOk a H' := by
  obtain ⟨c, k, is, h1, h2, h3, h4⟩ := h
  exact ⟨c, k, is, e _ _ h1, e _ _ h2, h3, h4⟩
theorem SI.of {a : Strm} {H H' : Hp} (e : Ex H H') (h : StrOk a H) : SI a H H' := ⟨fun b o _ hb => e b o hb, h.ex e⟩
theorem SI.refl {a : Strm} {H : Hp} (h : StrOk a H) : SI a H H := SI.of (Ex.refl H) h
theorem SI.ext {a : Strm} {H H' : Hp} (i : SI a H H') (h : StrOk a H) : ExT H H' := fun b xs hb => i.1 b _ (fun e => by
  obtain ⟨c, k, is, h1, _⟩ := h
  rw [e, h1] at hb
  cases hb) hb
theorem StrOk.ne {a : Strm} {p : Addr} {H : Hp} (h : StrOk a H) (hp : H p = none) : p ≠ a.1 ∧ p ≠ a.2 := by
  obtain ⟨c, k, is, h1, h2, _⟩ := h
  exact ⟨fun e => (by rw [e, h1] at hp; cases hp), fun e => (by rw [e, h2] at hp; cases hp)⟩
theorem StrOk.upd {a : Strm} {p : Addr} {o : HO} {H : Hp} (h : StrOk a H) (h1 : p ≠ a.1) (h2 : p ≠ a.2) : StrOk a (upd H p o) := by
  obtain ⟨c, k, is, g1, g2, g3⟩ := h
  exact ⟨c, k, is, by rw [upd_ne (Ne.symm h1)]; exact g1, by rw [upd_ne (Ne.symm h2)]; exact g2, g3⟩

section
variable {P : Program} {w : World} {K : PySem.W.Frag} {mg : Str → Option Value} {base : Heap}
def sp_stream (K : PySem.W.Frag) : Sp := fun vs H Q _ => ∃ (b : Addr) (is : List Int), vs = [.ref b] ∧ SqL K H b (is.map V.int) ∧ ∀ a H', Ex H H' → StrOk a H' → H a.1 = none → Q (.ref a.1) H'
theorem sc_law_stream : FnScope ["_law_script"] ["_law_script"] (defScope s_law_stream) := ⟨rfl, rfl, rfl, by decide +kernel, rfl, by decide +kernel, by decide +kernel⟩
theorem ok_law_stream (T : Txt K mg w) : Ok P w K mg base 1 "_law_stream" ["_law_script"] (sp_stream K) := by
  have nd := sc_law_stream.nd
  refine Ok.mk T.d_law_stream sc_law_stream (fun _ _ _ _ _ _ us hl => match us, hl with | [_], _ => rfl) (fun vs H Q E h => ?_) fun f cdv A outer s H vs Q E hr h => ?_
  · obtain ⟨_, _, rfl, _⟩ := h
    rfl
  · obtain ⟨b, is, rfl, hb, k⟩ := h
    refine ⟨_, (pss_one (ps_ret (pe_lst (pa_cons (pe_callTy call_list_of (by rfl) T.b_list (by decide +kernel) (pa_cons (pv 0) pa_nil)) (pa_cons pe_int (pa_cons pe_int pa_nil)))))), ?_⟩
    refine s_retP (P := fun v H1 => ∃ a : Strm, v = .ref a.1 ∧ StrOk a H1 ∧ H a.1 = none) (fun H1 e1 Q' q => ?_) fun v H1 e1 ⟨a, ev, h1, h2⟩ => by rw [ev]; exact k a H1 e1 h1 h2
    have hL : ∀ σ : L2.St, σ[0]? = some (some (.ref b)) → EvL (tCB (rListS K) (tCons (tVar 0) tNil)) σ H (is.map V.int) := fun σ hσ => el_list (ev_var hσ) hb
    unfold tLst tCons
    refine hL (L2.start ["_law_script"] [.ref b]) rfl H1 e1 _ fun l H2 hl e2 hl2 => ?_
    refine ⟨sz_of (by simp), fun p hp => q _ _ (e2.trans (Ex.new hp)) ⟨(p, l), rfl, ⟨0, 0, is, upd_same, Ex.new hp _ _ hl2, (fun e => by rw [show l = p from e, hp] at hl2; cases hl2), Int.le_refl 0⟩, fresh_back (e1.trans e2) hp⟩⟩

theorem ev_int1 {σ : L2.St} {H : Hp} {te : TE} {i : Int} (h : Ev te σ H (.int i)) : Ev (tCB (fun xs H Q => (∃ i, xs = [.int i] ∧ Q (.int i) H) ∨ ∃ k, xs = [.bl k] ∧ Q (.int (if k then 1 else 0)) H) (tCons te tNil)) σ H (.int i) :=
  ev_cb (ea_cons h ea_nil) fun H1 _ Q q => .inl ⟨i, rfl, q H1 (Ex.refl _)⟩
theorem seq_gen {t u : TS} {D : Ends} {σ : L2.St} {H : Hp} (M : L2.St → Hp → Prop) (k : ∀ σ' H', M σ' H' → u D σ' H') (h : ∀ G : L2.St → Hp → Prop, (∀ σ' H', M σ' H' → G σ' H') → t { D with nx := G } σ H) : tSeq t u D σ H := h (u D) k
def sp_next : Sp := fun vs H Q _ => ∃ (a : Strm) (n : Nat), vs = [.ref a.1, .int (n : Int)] ∧ StrOk a H ∧ 0 < n ∧ n < 1000000000 ∧ ∀ (d : Nat) H', SI a H H' → d < n → Q (.int (d : Int)) H'
theorem sc_law_next : FnScope ["_law_stream_here", "_law_many", "_law_k", "_law_cell", "_law_digit"] ["_law_stream_here", "_law_many"] (defScope s_law_next) := ⟨rfl, rfl, rfl, by decide +kernel, rfl, by decide +kernel, by decide +kernel⟩
theorem ok_law_next (T : Txt K mg w) : Ok P w K mg base 1 "_law_next" ["_law_stream_here", "_law_many"] sp_next := by
  have nd := sc_law_next.nd
  refine Ok.mk T.d_law_next sc_law_next (fun _ _ _ _ _ _ us hl => match us, hl with | [_, _], _ => rfl) (fun vs H Q E h => ?_) fun f cdv A outer s H vs Q E hr h => ?_
  · obtain ⟨_, _, rfl, _⟩ := h
    rfl
  · obtain ⟨⟨a, l⟩, n, rfl, ⟨c, kk, is, ha, hl, hla, hk0⟩, hn0, hn1, k⟩ := h
    refine ⟨_, (pss_cons (ps_if (pt_cmpR op_eq (pe_ix (ix_listK K rfl) (pv 0) pe_int (fun _ _ => rfl)) pe_int (nomark _)) (pss_cons (ps_set (i := 2) nd rfl (Or.inl rfl) (pe_ix (ix_listK K rfl) (pv 0) pe_int (fun _ _ => rfl)))
      (pss_cons (ps_set (i := 3) nd rfl (Or.inl rfl) (pe_op op_add pe_int (pv 2)))
      (pss_cons (ps_if (pt_cmpR op_lt (pv 2) (pe_callB (call_lenK K rfl) (by rfl) T.b_len PySem.boot_len (pa_cons (pe_ix (ix_listK K rfl) (pv 0) pe_int (fun _ _ => rfl)) pa_nil)) (nomark _)) (pss_one (ps_set (i := 3) nd rfl (Or.inl rfl) (pe_callB call_abs (by rfl) T.b_abs (by decide +kernel) (pa_cons (pe_ix (ix_listK K rfl) (pe_ix (ix_listK K rfl) (pv 0) pe_int (fun _ _ => rfl)) (pv 2) (fun _ _ => rfl)) pa_nil)))) pss_nil)
      (pss_cons (ps_if (pt_cmpR op_lt (pv 3) (pe_op op_pow pe_int pe_int) (nomark _)) (pss_cons (ps_set (i := 3) nd rfl (Or.inl rfl) (pe_op op_modN (pe_callTy call_int1 (by rfl) T.b_int (by decide +kernel) (pa_cons (pe_op op_add (pe_op op_add (pe_op op_mul (pv 3) pe_int) (pe_op op_mul (pv 2) pe_int)) pe_int) pa_nil)) pe_int))
      (pss_one (ps_set (i := 3) nd rfl (Or.inl rfl) (pe_op op_add (pe_op op_mul (pe_op op_modN (pe_callTy call_int1 (by rfl) T.b_int (by decide +kernel) (pa_cons (pe_op op_add (pe_op op_mul (pv 3) pe_int) pe_int) pa_nil)) pe_int) pe_int) (pv 3))))) pss_nil)
      (pss_cons (ps_asg (pv 3) (pg_sub (pv 0) pe_int set_list))
      (pss_one (ps_asg (pe_op op_add (pv 2) pe_int) (pg_sub (pv 0) pe_int set_list)))))))) pss_nil)
      (pss_cons (ps_set (i := 4) nd rfl (Or.inl rfl) (pe_op op_modN (pe_callTy call_int1 (by rfl) T.b_int (by decide +kernel) (pa_cons (pe_ix (ix_listK K rfl) (pv 0) pe_int (fun _ _ => rfl)) pa_nil)) (pv 1)))
      (pss_cons (ps_asg (pe_op op_fdivN (pe_ix (ix_listK K rfl) (pv 0) pe_int (fun _ _ => rfl)) (pv 1)) (pg_sub (pv 0) pe_int set_list))
      (pss_one (ps_ret (pv 4)))))), ?_⟩
    refine seq_gen (fun σ' H1 => ∃ (v2 v3 : Option V) (c' k' : Int), σ' = [some (.ref a), some (.int n), v2, v3, none] ∧ (∀ b o, b ≠ a → H b = some o → H1 b = some o) ∧ H1 a = some (.lst [.ref l, .int c', .int k']) ∧ 0 ≤ k') ?_ fun G hG => ?_
    · rintro σ' H1 ⟨v2, v3, c', k', rfl, h1, h2, h3⟩
      refine q_asg (ev_op (ev_int1 (ev_ixL (i := 1) (ev_var rfl) h2 ev_c rfl)) (ev_var rfl) (rv_I (by omega))) fun H2 e2 => ?_
      have h22 := e2 _ _ h2
      refine q_setL (j := 1) h22 (ev_op (ev_ixL (i := 1) (ev_var rfl) h22 ev_c rfl) (ev_var rfl) (rv_I ⟨by omega, by omega⟩)) (ev_var rfl) ev_c (by simp) fun H3 e3 => ?_
      refine s_ret (ev_var (i := 4) rfl) fun H4 e4 => ?_
      have hm : (0 : Int) ≤ Int.fmod c' n ∧ Int.fmod c' n < n := ⟨Int.fmod_nonneg_of_pos _ (by omega), Int.fmod_lt_of_pos _ (by omega)⟩
      rw [show Int.fmod c' n = ((Int.fmod c' n).toNat : Int) by omega]
      refine k _ H4 ⟨fun b o hb ho => ?_, _, k', is, e4 _ _ upd_same, ?_, hla, h3⟩ (by omega)
      · refine e4 _ _ ?_
        rw [upd_ne hb]
        exact e3 _ _ (e2 _ _ (h1 b o hb ho))
      · refine e4 _ _ ?_
        rw [upd_ne hla]
        exact e3 _ _ (e2 _ _ (h1 l _ hla hl))
    · refine s_when (et_test (ev_op (ev_ixL (i := 1) (ev_var rfl) ha ev_c rfl) ev_c (rv_eq rfl))) (fun hb H1 e1 => ?_) fun hb H1 e1 => hG _ _ ⟨none, none, c, kk, rfl, fun b o _ ho => e1 _ _ ho, e1 _ _ ha, hk0⟩
      refine q_asg (ev_ixL (i := 2) (ev_var rfl) (e1 _ _ ha) ev_c rfl) fun H2 e2 => ?_
      refine q_asg (ev_op ev_c (ev_var rfl) rv_I0) fun H3 e3 => ?_
      have e03 := (e1.trans e2).trans e3
      refine seq_gen (fun σ' H1 => ∃ i : Int, σ' = [some (.ref a), some (.int n), some (.int kk), some (.int i), none] ∧ Ex H H1) ?_ fun G1 hG1 => ?_
      · rintro σ' H4 ⟨i, rfl, e4⟩
        refine seq_gen (fun σ' H1 => ∃ i : Int, σ' = [some (.ref a), some (.int n), some (.int kk), some (.int i), none] ∧ Ex H H1) ?_ fun G2 hG2 => ?_
        · rintro σ' H5 ⟨i, rfl, e5⟩
          refine q_setL (j := 1) (e5 _ _ ha) (ev_var rfl) (ev_var rfl) ev_c (by simp) fun H6 e6 => ?_
          refine s_setL (j := 2) upd_same (ev_op (ev_var rfl) ev_c rv_I0) (ev_var rfl) ev_c (by simp [List.set]) fun H7 e7 => ?_
          exact hG _ _ ⟨_, _, i, kk + 1, rfl, fun b o hb ho => by
              rw [upd_ne hb]
              refine e7 _ _ ?_
              rw [upd_ne hb]
              exact e6 _ _ (e5 _ _ ho), upd_same, by omega⟩
        · refine s_when (et_test (ev_op (ev_var rfl) (ev_op ev_c ev_c (rv_I ⟨by omega, by omega, by decide⟩)) rv_I0)) (fun hb2 H5 e5 => ?_) fun hb2 H5 e5 => hG2 _ _ ⟨i, rfl, e4.trans e5⟩
          refine q_asg (ev_op (ev_int1 (ev_op (ev_op (ev_op (ev_var rfl) ev_c (rv_I (.inr ⟨by omega, by omega⟩))) (ev_op (ev_var rfl) ev_c (rv_I (.inr ⟨by omega, by omega⟩))) rv_I0) ev_c rv_I0)) ev_c (rv_I (by omega))) fun H6 e6 => ?_
          exact s_asg (ev_op (ev_op (ev_op (ev_int1 (ev_op (ev_op (ev_var rfl) ev_c (rv_I (.inr ⟨by omega, by omega⟩))) ev_c rv_I0)) ev_c (rv_I (by omega))) ev_c (rv_I (.inr ⟨by omega, by omega⟩))) (ev_var rfl) rv_I0) fun H7 e7 => hG2 _ _ ⟨_, rfl, ((e4.trans e5).trans e6).trans e7⟩
      · refine s_when (et_test (ev_op (ev_var rfl) (ev_lenL (ev_ixL (i := 0) (ev_var rfl) (e03 _ _ ha) ev_c rfl) (e03 _ _ hl)) rv_I0)) (fun hb2 H4 e4 => ?_) fun hb2 H4 e4 => hG1 _ _ ⟨_, rfl, e03.trans e4⟩
        rw [decide_eq_true_eq, List.length_map] at hb2
        have hki : kk = ((kk.toNat : Nat) : Int) := by omega
        have hkl : kk.toNat < is.length := by omega
        refine s_asg (ev_cb (ea_cons (ev_ixL (i := kk.toNat) (ev_ixL (i := 0) (ev_var rfl) (e4 _ _ (e03 _ _ ha)) ev_c rfl) (e4 _ _ (e03 _ _ hl)) (ev_var (by rw [← hki] <;> rfl)) (by rw [List.getElem?_map, List.getElem?_eq_getElem hkl] <;> rfl)) ea_nil) fun H5 _ Q q => ⟨_, rfl, q H5 (Ex.refl _)⟩) fun H5 e5 => hG1 _ _ ⟨_, rfl, (e03.trans e4).trans e5⟩
end
end G
/-! draws: expressions that turn the stream -/
namespace G
open PySem PySem.Spec PyProof.Rows L2 Evl

def EvM (a : Strm) (te : TE) (σ : L2.St) (H : Hp) (P : V → Hp → Prop) : Prop := ∀ H1, SI a H H1 → ∀ Q : VK, (∀ v H2, SI a H1 H2 → P v H2 → Q v H2) → te σ H1 Q
/-- what is walked, whatever the heap -/
def RunsA (J : It) (xs : List V) : Prop := ∀ i H', (i < xs.length → J.go i H' ∧ ∀ x H2, J.yld i H' x H2 → xs[i]? = some x ∧ H2 = H') ∧ (¬ i < xs.length → J.stop i H')
def RunsM (a : Strm) (J : It) (xs : List V) (H : Hp) : Prop := ∀ i H', SI a H H' → (i < xs.length → J.go i H' ∧ ∀ x H2, J.yld i H' x H2 → xs[i]? = some x ∧ H2 = H') ∧ (¬ i < xs.length → J.stop i H')
def upto (n : Nat) : List V := (List.range n).map fun i => V.int ((i : Nat) : Int)
theorem upto_len (n : Nat) : (upto n).length = n := by simp [upto]
theorem upto_get {n i : Nat} {x : V} (h : (upto n)[i]? = some x) : i < n ∧ x = .int (i : Int) := by
  have hi := (List.getElem?_eq_some_iff.mp h).1
  rw [upto_len] at hi
  unfold upto at h
  rw [List.getElem?_map, List.getElem?_range hi] at h
  exact ⟨hi, (Option.some.inj h).symm⟩
theorem runsA_r {n : Nat} : RunsA (Itr 0 n) (upto n) := fun i H' => by
  have z := runs_r (lo := 0) (n := n) (H := H') i H' (Ex.refl _)
  simp only [Int.zero_add] at z
  exact z
def EvIR (a : Strm) (wi : TI) (σ : L2.St) (H : Hp) (B : Nat → Prop) : Prop := ∀ H1, SI a H H1 → ∀ R : It → Hp → Prop, (∀ J H2 n, SI a H1 H2 → B n → RunsA J (upto n) → R J H2) → wi σ H1 R
def EvIM (a : Strm) (wi : TI) (σ : L2.St) (H : Hp) (B : List V → Prop) : Prop := ∀ H1, SI a H H1 → ∀ R : It → Hp → Prop, (∀ J H2 xs, SI a H1 H2 → B xs → RunsM a J xs H2 → R J H2) → wi σ H1 R
section
variable {K : PySem.W.Frag} {σ : L2.St} {H H' : Hp} {te ta tb : TE} {P P' : V → Hp → Prop} {a : Strm} {v : V} {D : Ends} {tz tu tw : TS} {t : TT}
theorem em_of (h : ∀ H1, SI a H H1 → EvP te σ H1 P) : EvM a te σ H P := fun H1 i Q q => h H1 i H1 (Ex.refl _) Q fun v H2 e p => q v H2 (SI.of e i.2) p
theorem em_ev (h : ∀ H1, SI a H H1 → Ev te σ H1 v) : EvM a te σ H (fun x _ => x = v) := em_of fun H1 i => ev_p (h H1 i)
theorem EvM.mono (i : SI a H H') (h : EvM a te σ H P) : EvM a te σ H' P := fun H1 j => h H1 (i.trans j)
theorem EvM.imp (h : EvM a te σ H P) (hi : ∀ v H1, SI a H H1 → P v H1 → P' v H1) : EvM a te σ H P' := fun H1 i Q q => h H1 i Q fun v H2 j p => q v H2 j (hi v H2 (i.trans j) p)
theorem em_draw {i n : Nat} {tm : TE} {E : XK} (hσ : σ[i]? = some (some (.ref a.1))) (hn : ∀ H1, SI a H H1 → Ev tm σ H1 (.int (n : Int))) (h0 : 0 < n) (h1 : n < 1000000000) :
    EvM a (tCall sp_next [] E (tCons (tVar i) (tCons tm tNil))) σ H (fun v _ => ∃ d : Nat, v = .int (d : Int) ∧ d < n) := fun H1 j Q q =>
  have h : EvA (tCons (tVar i) (tCons tm tNil)) σ H1 [.ref a.1, .int (n : Int)] := ea_cons (ev_var hσ) (ea_cons (hn H1 j) ea_nil)
  h H1 (Ex.refl _) _ fun H2 e2 => ⟨a, n, rfl, j.2.ex e2, h0, h1, fun d H' s hd => q _ H' ((SI.of e2 j.2).trans s) ⟨d, rfl, hd⟩⟩
theorem em_op {r : R2} {P1 P2 : V → Prop} (ha : EvM a ta σ H (fun v _ => P1 v)) (hb : EvM a tb σ H (fun v _ => P2 v)) (hr : ∀ x y H1, SI a H H1 → P1 x → P2 y → ∃ z, RV r x y H1 z ∧ ∀ H2, P z H2) : EvM a (tOp r ta tb) σ H P := fun H1 i Q q =>
  ha H1 i _ fun x H2 j px => hb H2 (i.trans j) _ fun y H3 k py => by
    obtain ⟨z, hz, pz⟩ := hr x y H3 ((i.trans j).trans k) px py
    exact hz H3 (Ex.refl _) Q fun H4 e4 => q z H4 ((j.trans k).trans (SI.of e4 k.2)) (pz H4)
theorem eir_r1 {B : Nat → Prop} (h : EvM a te σ H (fun v _ => ∃ n : Nat, v = .int (n : Int) ∧ B n)) (hb : ∀ n, B n → n ≤ 1000000) : EvIR a (iRng1 (tCons te tNil)) σ H B := fun H1 i R q =>
  h H1 i (fun v H2 => tNil σ H2 fun vs H3 => _) fun v H2 j ⟨n, ev, hn⟩ => by
    subst ev
    have := hb n hn
    exact ⟨(n : Int), rfl, by omega, by omega, q _ H2 n j hn (by rw [Int.toNat_natCast]; exact runsA_r)⟩
theorem EvIR.im {wi : TI} {B : Nat → Prop} (h : EvIR a wi σ H B) : EvIM a wi σ H (fun xs => ∃ n, B n ∧ xs = upto n) := fun H1 i R q => h H1 i R fun J H2 n j hn hr => q J H2 _ j ⟨n, hn, rfl⟩ fun k H' _ => hr k H'
theorem eim_list {b : Addr} {xs : List V} (h : ∀ H1, SI a H H1 → Ev te σ H1 (.ref b)) (hb : ∀ H1, SI a H H1 → H1 b = some (.lst xs)) : EvIM a (iList K te) σ H (fun ys => ys = xs) := fun H1 i R q =>
  h H1 i H1 (Ex.refl _) _ fun H2 e2 => ⟨b, rfl, ⟨xs, SqL.of (e2 _ _ (hb H1 i))⟩, q _ H2 xs (SI.of e2 i.2) rfl fun k H3 j =>
    have h3 := hb H3 ((i.trans (SI.of e2 i.2)).trans j)
    ⟨fun hk => ⟨⟨xs, xs[k], SqL.of h3, List.getElem?_eq_getElem hk⟩, fun x H4 y => ⟨y.2 xs (SqL.of h3), y.1⟩⟩, fun hk => ⟨xs, SqL.of h3, Nat.le_of_not_lt hk⟩⟩⟩
/-- a comprehension whose values draw -/
theorem em_lc {wi : TI} {g : TG} {vs : List Nat} {B : List V → Prop} {R : V → Prop} (hi : EvIM a wi σ H B) (hz : ∀ xs, B xs → xs.length ≤ 10000)
    (hs : ∀ xs, B xs → ∀ x ∈ xs, ∃ σ2, (∀ H1, Bnd g x (wipe σ vs) H1 σ2) ∧ wipe σ2 vs = wipe σ vs ∧ EvM a te σ2 H (fun v _ => R v)) :
    EvM a (tLc wi g tYes te vs) σ H (fun v H1 => ∃ p xs ys, v = .ref p ∧ p ≠ a.1 ∧ p ≠ a.2 ∧ H p = none ∧ H1 p = some (.lst ys) ∧ B xs ∧ ys.length = xs.length ∧ ∀ y ∈ ys, R y) := fun H0 i0 Q q =>
  hi H0 i0 _ fun J H1 xs i1 hB hJ => by
    intro Dl hD
    obtain ⟨hDa, hDb⟩ := i1.2.ne hD
    have hD0 : H Dl = none := by
      cases e : H Dl with
      | none => rfl
      | some o =>
        have := (i0.trans i1).1 Dl o hDa e
        rw [hD] at this
        cases this
    refine ⟨fun i m H' => m = xs.length - i ∧ i ≤ xs.length ∧ SI a H1 H' ∧ ∃ ys, H' Dl = some (.lst ys) ∧ ys.length = i ∧ ∀ y ∈ ys, R y, ⟨xs.length, by simp, Nat.zero_le _, SI.of (Ex.new hD) i1.2, [], upd_same, rfl, fun y hy => by simp at hy⟩, ?_⟩
    rintro i m H' ⟨rfl, hle, sH, ys, hy, hyl, hp⟩
    by_cases hlt : i < xs.length
    · refine .inr ⟨((hJ i H' sH).1 hlt).1, fun H'' => i + 1 ≤ xs.length ∧ SI a H1 H'' ∧ ∃ ys, H'' Dl = some (.lst ys) ∧ ys.length = i + 1 ∧ ∀ y ∈ ys, R y, fun H'' hn => ⟨xs.length - (i + 1), by omega, rfl, hn⟩, fun x H2 y => ?_⟩
      obtain ⟨hx, rfl⟩ := ((hJ i H' sH).1 hlt).2 x H2 y
      obtain ⟨σ2, hb, hw, hv⟩ := hs xs hB x (List.mem_of_getElem? hx)
      refine hb H2 H2 (Ex.refl _) _ ⟨hw, et_yes (σ := σ2) H2 (Ex.refl _) _ fun H3 e3 => ?_⟩
      rw [if_pos rfl]
      have s3 : SI a H1 H3 := sH.trans (SI.of e3 sH.2)
      refine hv H3 ((i0.trans i1).trans s3) _ fun z H4 i4 hz4 => ?_
      have hy4 := i4.1 Dl _ hDa (e3 _ _ hy)
      have hzz := hz xs hB
      refine ⟨ys, hy4, sz_lt (by omega), by omega, ?_, ys ++ [z], upd_same, by simp [hyl], ?_⟩
      · have s4 := s3.trans i4
        refine ⟨fun b o hb ho => ?_, ?_⟩
        · by_cases hbD : b = Dl
          · rw [hbD, hD] at ho
            cases ho
          · rw [upd_ne hbD]
            exact s4.1 b o hb ho
        · exact s4.2.upd hDa hDb
      · intro y hy'
        rcases List.mem_append.mp hy' with h | h
        · exact hp y h
        · rw [List.mem_singleton.mp h]; exact hz4
    · have hi' : i = xs.length := by omega
      subst hi'
      exact .inl ⟨(hJ _ H' sH).2 hlt, q _ H' (i1.trans sH) ⟨Dl, xs, ys, rfl, hDa, hDb, hD0, hy, hB, hyl, hp⟩⟩
end
end G
/-! draws: text, words, start -/
namespace G
open PySem PySem.Spec PyProof.Rows L2 Evl

section
variable {K : PySem.W.Frag} {σ : L2.St} {H H' : Hp} {te ta tb : TE} {P P' : V → Hp → Prop} {a : Strm} {v : V} {D : Ends} {tz tu tw : TS} {t : TT}
theorem s_asgM {i : Nat} (h : EvM a te σ H P) (hs : StrOk a H) (k : ∀ v H1, SI a H H1 → P v H1 → D.nx (σ.set i (some v)) H1) : tAsg te (gName i) D σ H := h H (SI.refl hs) _ fun v H1 e p => k v H1 e p
theorem q_asgM {i : Nat} (h : EvM a te σ H P) (hs : StrOk a H) (k : ∀ v H1, SI a H H1 → P v H1 → tz D (σ.set i (some v)) H1) : tSeq (tAsg te (gName i)) tz D σ H := s_asgM (D := { D with nx := tz D }) h hs k
theorem s_retM (h : EvM a te σ H P) (hs : StrOk a H) (k : ∀ v H1, SI a H H1 → P v H1 → D.rt v H1) : tRet te D σ H := h H (SI.refl hs) _ fun v H1 e p => k v H1 e p
/-- a test that draws: either way -/
theorem q_whenM (h : EvM a te σ H (fun v _ => ∃ b, v = .bl b)) (hs : StrOk a H) (h1 : ∀ H1, SI a H H1 → tu { D with nx := tz D } σ H1) (h2 : ∀ H1, SI a H H1 → tz D σ H1) : tSeq (tIfS (tTest te) tu tNext) tz D σ H :=
  h H (SI.refl hs) _ fun v H1 e ⟨b, ev⟩ => ⟨b, ev, by
    cases b with
    | true => rw [if_pos rfl]; exact h1 H1 e
    | false => rw [if_neg Bool.false_ne_true]; exact h2 H1 e⟩
theorem s_whenM (h : EvM a te σ H (fun v _ => ∃ b, v = .bl b)) (hs : StrOk a H) (h1 : ∀ H1, SI a H H1 → tu D σ H1) (h2 : ∀ H1, SI a H H1 → D.nx σ H1) : tIfS (tTest te) tu tNext D σ H :=
  h H (SI.refl hs) _ fun v H1 e ⟨b, ev⟩ => ⟨b, ev, by
    cases b with
    | true => rw [if_pos rfl]; exact h1 H1 e
    | false => rw [if_neg Bool.false_ne_true]; exact h2 H1 e⟩
theorem em_eqI {i : Int} {B : Nat → Prop} (h : EvM a te σ H (fun v _ => ∃ d : Nat, v = .int (d : Int) ∧ B d)) : EvM a (tOp rEq te (tC (.int i))) σ H (fun v _ => ∃ b, v = .bl b) :=
  em_op h (em_ev fun H1 _ => ev_c) fun x y H1 _ ⟨d, ex, _⟩ ey => by
    subst ex ey
    exact ⟨_, rv_eq rfl, fun _ => ⟨_, rfl⟩⟩
/-- k + a draw -/
theorem em_addI {i : Nat} {B : Nat → Prop} (h : EvM a te σ H (fun v _ => ∃ d : Nat, v = .int (d : Int) ∧ B d)) : EvM a (tOp (rI0 fun i j => .int (i + j)) (tC (.int (i : Int))) te) σ H (fun v _ => ∃ d : Nat, v = .int (d : Int) ∧ ∃ e, B e ∧ d = i + e) :=
  em_op (em_ev fun H1 _ => ev_c) h fun x y H1 _ ex ⟨d, ey, hb⟩ => by
    subst ex ey
    exact ⟨_, rv_I0, fun _ => ⟨i + d, by rw [Int.natCast_add], d, hb, rfl⟩⟩
/-- a letter that is drawn -/
theorem em_ixS {l : Wd} (hl : l.length ≤ 100000) (ha : ∀ H1, SI a H H1 → Ev ta σ H1 (vS l)) (h : EvM a te σ H (fun v _ => ∃ d : Nat, v = .int (d : Int) ∧ d < l.length)) : EvM a (tOp rIxS ta te) σ H (fun v _ => ∃ c ∈ l, v = vS [c]) :=
  em_op (em_ev ha) h fun x y H1 _ ex ⟨d, ey, hd⟩ => by
    subst ex ey
    exact ⟨_, rv_ixS (w := S l) (i := (d : Int)) (c := l[d]) (by rw [S_len]; exact hl) (atI_n (by rw [S_list, List.getElem?_eq_getElem hd])), fun _ => ⟨l[d], List.getElem_mem hd, rfl⟩⟩
/-- an item that is drawn, of a list that stands -/
theorem em_ixL {b : Addr} {xs : List V} (ha : ∀ H1, SI a H H1 → Ev ta σ H1 (.ref b)) (hb : ∀ H1, SI a H H1 → H1 b = some (.lst xs)) (h : EvM a te σ H (fun v _ => ∃ d : Nat, v = .int (d : Int) ∧ d < xs.length)) : EvM a (tOp (rIxL K) ta te) σ H (fun v _ => v ∈ xs) :=
  em_op (em_ev ha) h fun x y H1 i ex ⟨d, ey, hd⟩ => by
    subst ex ey
    exact ⟨_, rv_ixL (SqL.of (hb H1 i)) (atI_n (List.getElem?_eq_getElem hd)), fun _ => List.getElem_mem hd⟩
theorem signs_of {l : Wd} : ∀ {ys : List V}, (∀ y ∈ ys, ∃ c ∈ l, y = vS [c]) → ∃ u : Wd, ys = (u.map fun c => [c]).map vS ∧ ∀ c ∈ u, c ∈ l
  | [], _ => ⟨[], rfl, fun _ h => by simp at h⟩
  | y :: ys, h => by
    obtain ⟨c, hc, e⟩ := h y (List.mem_cons_self ..)
    obtain ⟨u, hu, hm⟩ := signs_of fun y hy => h y (List.mem_cons_of_mem _ hy)
    refine ⟨c :: u, by rw [List.map_cons, List.map_cons, ← hu, e], fun d hd => ?_⟩
    rcases List.mem_cons.mp hd with h | h
    · rw [h]; exact hc
    · exact hm d h
theorem flat1 (u : Wd) : (u.map fun c => [c]).flatten = u := by
  induction u with
  | nil => rfl
  | cons c u ih => rw [List.map_cons, List.flatten_cons, ih] <;> rfl
/-- the first signs of a text, how many is drawn -/
theorem em_slTo {l : Wd} {B : Nat → Prop} (ha : ∀ H1, SI a H H1 → Ev ta σ H1 (vS l)) (hl : l.length ≤ 100000) (h : EvM a te σ H (fun v _ => ∃ d : Nat, v = .int (d : Int) ∧ B d)) : EvM a (tSl rSlS ta tNoPart (tPart te)) σ H (fun v _ => ∃ d, v = vS (l.take d) ∧ B d) := fun H1 i Q q =>
  ha H1 i H1 (Ex.refl _) (fun x H1 => tNoPart σ H1 fun lo H2 => tPart te σ H2 fun hi H3 => rSlS x lo hi H3 Q) fun H2 e2 => h H2 (i.trans (SI.of e2 i.2)) _ fun v H3 j ⟨d, ev, hd⟩ => by
    subst ev
    refine ⟨_, rfl, ?_⟩
    refine ⟨S l, rfl, sz_of (by rw [S_len]; exact hl), ?_⟩
    rw [cutS_S, cut_to]
    exact q _ H3 ((SI.of e2 i.2).trans j) ⟨d, rfl, hd⟩
theorem em_join {l : Wd} {B : List V → Prop} (h : EvM a te σ H (fun v H1 => ∃ p xs ys, v = .ref p ∧ p ≠ a.1 ∧ p ≠ a.2 ∧ H p = none ∧ H1 p = some (.lst ys) ∧ B xs ∧ ys.length = xs.length ∧ ∀ y ∈ ys, ∃ c ∈ l, y = vS [c])) (hz : ∀ xs, B xs → xs.length ≤ 1000) :
    EvM a (tM1 (rJoinL K) (tC (.str "")) te) σ H (fun v _ => ∃ u xs, v = vS u ∧ B xs ∧ u.length = xs.length ∧ ∀ c ∈ u, c ∈ l) := fun H1 i Q q =>
  ⟨⟨_, rfl⟩, h H1 i _ fun v H2 j ⟨p, xs, ys, ev, _, _, _, hp, hb, hl, hr⟩ => by
    subst ev
    obtain ⟨u, rfl, hu⟩ := signs_of hr
    have hz' := hz xs hb
    rw [List.length_map, List.length_map] at hl
    refine ⟨"", p, (u.map fun c => [c]).map S, rfl, rfl, .inl (SqL.of (by rw [List.map_map]; exact hp)), ?_, ?_⟩
    · have h1 := sum_len (l := u.map fun c => [c]) (b := 1) (fun x hx => by
        obtain ⟨c, _, rfl⟩ := List.mem_map.mp hx
        simp)
      rw [empty_S, S_len]
      simp only [List.length_nil, Nat.mul_zero, Nat.add_zero]
      rw [List.length_map] at h1
      omega
    · rw [empty_S, join_S, flat1]
      exact q _ H2 j ⟨u, xs, rfl, hb, hl, hu⟩⟩
/-- a loop over range(..), the bound drawn -/
theorem s_forR {wi : TI} {j : Nat} {B : Nat → Prop} (hi : EvIR a wi σ H B) (hS : StrOk a H) (Pv : Nat → Nat → L2.St → Hp → Prop) (h0 : ∀ n H1, SI a H H1 → B n → Pv n 0 σ H1)
    (hs : ∀ n i σ' H', B n → i < n → Pv n i σ' H' → tu { D with nx := Pv n (i + 1), ct := Pv n (i + 1), bk := D.nx } (σ'.set j (some (.int (i : Int)))) H') (hd : ∀ n σ' H', B n → Pv n n σ' H' → D.nx σ' H') : tFor wi (gName j) tu D σ H :=
  hi H (SI.refl hS) _ fun J H1 n s hn hJ => ⟨fun i m σ' H' => m = n - i ∧ i ≤ n ∧ Pv n i σ' H', ⟨n, by simp, Nat.zero_le _, h0 n H1 s hn⟩, by
    rintro i m σ' H' ⟨rfl, hle, p⟩
    by_cases hlt : i < n
    · have hl : i < (upto n).length := by rw [upto_len]; exact hlt
      refine .inr ⟨((hJ i H').1 hl).1, Pv n (i + 1), fun σ2 H2 h2 => ⟨n - (i + 1), by omega, rfl, by omega, h2⟩, fun x H2 y => ?_⟩
      obtain ⟨hx, rfl⟩ := ((hJ i H').1 hl).2 x H2 y
      obtain ⟨_, rfl⟩ := upto_get hx
      exact hs n i σ' H2 hn hlt p
    · have hi' : i = n := by omega
      subst hi'
      exact .inl ⟨(hJ i H').2 (by rw [upto_len]; exact hlt), hd i σ' H' hn p⟩⟩
theorem q_forR {wi : TI} {j : Nat} {B : Nat → Prop} (hi : EvIR a wi σ H B) (hS : StrOk a H) (Pv : Nat → Nat → L2.St → Hp → Prop) (h0 : ∀ n H1, SI a H H1 → B n → Pv n 0 σ H1)
    (hs : ∀ n i σ' H', B n → i < n → Pv n i σ' H' → tu { D with nx := Pv n (i + 1), ct := Pv n (i + 1), bk := tz D } (σ'.set j (some (.int (i : Int)))) H') (hd : ∀ n σ' H', B n → Pv n n σ' H' → tz D σ' H') : tSeq (tFor wi (gName j) tu) tz D σ H :=
  s_forR (D := { D with nx := tz D }) hi hS Pv h0 hs hd
theorem ev_lenW {l : Wd} (h : Ev te σ H (vS l)) (hl : l.length ≤ 100000) : Ev (tCB (fun xs H Q => ∃ z, xs = [.str z] ∧ z.length ≤ sizeLine ∧ Q (.int z.length) H) (tCons te tNil)) σ H (.int (l.length : Int)) :=
  ev_is (ev_lenS h (by rw [S_len]; exact hl)) (by rw [S_len])
end

section
variable {P : Program} {w : World} {K : PySem.W.Frag} {mg : Str → Option Value} {base : Heap}
def sp_text : Sp := fun vs H Q _ => ∃ (a : Strm) (l : Wd) (m : Nat), vs = [.ref a.1, vS l, .int (m : Int)] ∧ StrOk a H ∧ 0 < l.length ∧ l.length ≤ 1000 ∧ m ≤ 900 ∧ ∀ u H', SI a H H' → u.length ≤ m → (∀ c ∈ u, c ∈ l) → Q (vS u) H'
theorem sc_law_text : FnScope ["_law_stream_here", "_law_letters", "_law_most", "_law_k"] ["_law_stream_here", "_law_letters", "_law_most"] (defScope s_law_text) := ⟨rfl, rfl, rfl, by decide +kernel, rfl, by decide +kernel, by decide +kernel⟩
theorem ok_law_text (T : Txt K mg w) : Ok P w K mg base 2 "_law_text" ["_law_stream_here", "_law_letters", "_law_most"] sp_text := by
  have nd := sc_law_text.nd
  refine Ok.mk T.d_law_text sc_law_text (fun _ _ _ _ _ _ us hl => match us, hl with | [_, _, _], _ => rfl) (fun vs H Q E h => ?_) fun f cdv A outer s H vs Q E hr h => ?_
  · obtain ⟨_, _, _, rfl, _⟩ := h
    rfl
  · obtain ⟨a, l, m, rfl, hs, hl0, hl1, hm, k⟩ := h
    refine ⟨_, (pss_one (ps_ret (pe_join pe_str (pe_lc (own := [("_law_k", 3)]) (by rfl) nd (pi_range1 (by rfl) T.b_range (pa_cons (pe_fn (ok_law_next T) hr (pa_cons (pv 0) (pa_cons (pe_op op_add (pv 2) pe_int) pa_nil))) pa_nil)) (blkOk_by (N := ["_law_stream_here", "_law_letters", "_law_most", "_law_k"]) (sc := defScope s_law_text) (by decide +kernel)) (fun _ _ _ _ _ => (pg_name (i := 3) nd rfl (Or.inl rfl))) (fun _ _ _ _ _ => pts_nil) (fun _ _ _ _ _ => (pe_ix ix_str (pv 1) (pe_fn (ok_law_next T) hr (pa_cons (pv 0) (pa_cons (pe_callB call_len_str (by rfl) T.b_len PySem.boot_len (pa_cons (pv 1) pa_nil)) pa_nil))) (fun _ _ => rfl))))))), ?_⟩
    refine s_retM (em_join (l := l) (B := fun xs => ∃ n, n ≤ m ∧ xs = upto n) (em_lc (EvIR.im (eir_r1 ((em_draw (n := m + 1) rfl (fun H1 _ => ev_op (ev_var rfl) ev_c rv_I0) (by omega) (by omega)).imp fun v H1 _ ⟨d, ev, hd⟩ => ⟨d, ev, by omega⟩) fun n hn => by omega)) (fun xs ⟨n, hn, e⟩ => by rw [e, upto_len]; omega) fun xs _ x _ => ⟨_, fun H1 => bnd_name, rfl, em_ixS (by omega) (fun H1 _ => ev_var rfl) (em_draw rfl (fun H1 _ => ev_lenW (ev_var rfl) (by omega)) hl0 (by omega))⟩) fun xs ⟨n, hn, e⟩ => by rw [e, upto_len]; omega) hs fun v H1 i ⟨u, xs, ev, ⟨n, hn, e⟩, hul, huc⟩ => ?_
    subst ev
    exact k u H1 i (by rw [hul, e, upto_len]; exact hn) huc
end
end G
/-! draws: words, start -/
namespace G
open PySem PySem.Spec PyProof.Rows L2 Evl

def EvAM (a : Strm) (ta : TA) (σ : L2.St) (H : Hp) (R : List V → Hp → Prop) : Prop := ∀ H1, SI a H H1 → ∀ Q : List V → Hp → Prop, (∀ vs H2, SI a H1 H2 → R vs H2 → Q vs H2) → ta σ H1 Q
section
variable {K : PySem.W.Frag} {σ : L2.St} {H H' : Hp} {te tb : TE} {ta : TA} {P P' : V → Hp → Prop} {R : List V → Hp → Prop} {a : Strm} {v : V} {D : Ends} {tz tu tw : TS} {t : TT}
theorem eam_nil : EvAM a tNil σ H (fun vs _ => vs = []) := fun H1 i Q q => q [] H1 (SI.refl i.2) rfl
theorem eam_cons (hP : ∀ v H H', SI a H H' → StrOk a H → P v H → P v H') (h : EvM a te σ H P) (hr : EvAM a ta σ H R) : EvAM a (tCons te ta) σ H (fun vs H1 => ∃ v us, vs = v :: us ∧ P v H1 ∧ R us H1) := fun H1 i Q q =>
  h H1 i _ fun v H2 j p => hr H2 (i.trans j) _ fun us H3 k r => q _ H3 (j.trans k) ⟨v, us, rfl, hP v _ _ k j.2 p, r⟩
/-- an item of a list that is written out, drawn -/
theorem em_pick {n : Nat} (hR : ∀ vs H H', SI a H H' → StrOk a H → R vs H → R vs H') (h : EvAM a ta σ H R) (hn : ∀ vs H1, R vs H1 → vs.length = n) (hz : n ≤ 1000) (hd : EvM a te σ H (fun v _ => ∃ d : Nat, v = .int (d : Int) ∧ d < n)) :
    EvM a (tOp (rIxL K) (tLst ta) te) σ H (fun v H1 => ∃ vs, R vs H1 ∧ v ∈ vs) := fun H1 i Q q =>
  h H1 i (fun xs H1 => xs.length ≤ sizeLine ∧ ∀ p, H1 p = none → te σ (upd H1 p (.lst xs)) fun y H3 => rIxL K (.ref p) y H3 Q) fun vs H2 j r => by
    have hl := hn vs H2 r
    refine ⟨sz_of (by omega), fun p hp => ?_⟩
    obtain ⟨n1, n2⟩ := j.2.ne hp
    have s2 : SI a H2 (upd H2 p (.lst vs)) := SI.of (Ex.new hp) j.2
    refine hd _ ((i.trans j).trans s2) _ fun y H3 k ⟨d, ey, hdn⟩ => ?_
    subst ey
    have hp3 := k.1 p _ n1 (upd_same (H := H2) (a := p) (o := .lst vs))
    exact ⟨p, vs, (d : Int), vs[d]'(by omega), rfl, rfl, SqL.of hp3, atI_n (List.getElem?_eq_getElem (by omega)), q _ H3 ((j.trans s2).trans k) ⟨vs, hR vs _ _ (s2.trans k) j.2 r, List.getElem_mem _⟩⟩
theorem em_lst {n : Nat} (hR : ∀ vs H H', SI a H H' → StrOk a H → R vs H → R vs H') (h : EvAM a ta σ H R) (hn : ∀ vs H1, R vs H1 → vs.length = n) (hz : n ≤ 1000) :
    EvM a (tLst ta) σ H (fun v H1 => ∃ p vs, v = .ref p ∧ p ≠ a.1 ∧ p ≠ a.2 ∧ H p = none ∧ H1 p = some (.lst vs) ∧ R vs H1) := fun H1 i Q q =>
  h H1 i _ fun vs H2 j r => by
    have hl := hn vs H2 r
    refine ⟨sz_of (by omega), fun p hp => ?_⟩
    obtain ⟨n1, n2⟩ := j.2.ne hp
    have s2 : SI a H2 (upd H2 p (.lst vs)) := SI.of (Ex.new hp) j.2
    refine q _ _ (j.trans s2) ⟨p, vs, rfl, n1, n2, ?_, upd_same, hR vs _ _ s2 j.2 r⟩
    cases e : H p with
    | none => rfl
    | some o =>
      have := (i.trans j).1 p o n1 e
      rw [hp] at this
      cases this
theorem em_tup {n : Nat} (hR : ∀ vs H H', SI a H H' → StrOk a H → R vs H → R vs H') (h : EvAM a ta σ H R) (hn : ∀ vs H1, R vs H1 → vs.length = n) (hz : n ≤ 1000) :
    EvM a (tTup ta) σ H (fun v H1 => ∃ p vs, v = .ref p ∧ H1 p = some (.tup vs) ∧ R vs H1) := fun H1 i Q q =>
  h H1 i _ fun vs H2 j r => by
    have hl := hn vs H2 r
    refine ⟨sz_of (by omega), fun p hp => ?_⟩
    have s2 : SI a H2 (upd H2 p (.tup vs)) := SI.of (Ex.new hp) j.2
    exact q _ _ (j.trans s2) ⟨p, vs, rfl, upd_same, hR vs _ _ s2 j.2 r⟩
theorem em_call {sp : Sp} {vs : List V} {E : XK} (h : ∀ H1, SI a H H1 → EvA ta σ H1 vs) (hs : ∀ H1, SI a H H1 → ∀ Q : VK, (∀ v H2, SI a H1 H2 → P v H2 → Q v H2) → ∀ E, sp vs H1 Q E) : EvM a (tCall sp [] E ta) σ H P := fun H1 i Q q =>
  h H1 i H1 (Ex.refl _) _ fun H2 e2 => by
    show sp (vs ++ []) H2 Q E
    rw [List.append_nil]
    have s2 := SI.of e2 i.2
    exact hs H2 (i.trans s2) Q (fun v H3 j p => q v H3 (s2.trans j) p) E
theorem evp_listW {l : Wd} (h : Ev te σ H (vS l)) (hl : l.length ≤ 100000) : EvP (tCB (fun xs H Q => ∃ z, xs = [.str z] ∧ z.length ≤ sizeLine ∧ ∀ l, H l = none → Q (.ref l) (upd H l (.lst (z.cps.toList.map fun c => .str ⟨#[c]⟩)))) (tCons te tNil)) σ H
    (fun v H1 => ∃ p, v = .ref p ∧ H p = none ∧ H1 p = some (.lst ((l.map fun c => [c]).map vS))) := fun H1 e Q q =>
  h H1 e _ fun H2 e2 => ⟨S l, rfl, sz_of (by rw [S_len]; exact hl), fun p hp => q _ _ (e2.trans (Ex.new hp)) ⟨p, rfl, fresh_back (e.trans e2) hp, by rw [upd_same, S_list, List.map_map] <;> rfl⟩⟩
end

theorem asc_sort {ws : WL} (nd : (names ws).Nodup) : (names (sortW ws)).Pairwise (· < ·) := by
  have hnd : (names (sortW ws)).Nodup := ((sortW_perm ws).map (fun e : Ent => e.1)).nodup_iff.mpr nd
  have hs := sortW_srt ws
  unfold names at hnd ⊢
  have hboth := List.Pairwise.and hs (List.pairwise_map.mp hnd)
  refine List.pairwise_map.mpr (hboth.imp fun {a b} ⟨q1, q2⟩ => ?_)
  rw [lexW_no] at q1
  rcases Classical.em (a.1 < b.1) with q | q
  · exact q
  · exact absurd (List.le_antisymm (List.not_lt.mp fun q' => q1 (.inl q')) (List.not_lt.mp q)) q2
theorem mem_sortN {ws : WL} {u : Wd} : u ∈ names (sortW ws) ↔ u ∈ names ws := ((sortW_perm ws).map (fun e : Ent => e.1)).mem_iff
/-- the names while the words are drawn -/
structure NamesOk (L : Wd) (i : Nat) (l : List Wd) : Prop where
  nd : l.Nodup
  len : l.length ≤ L.length + i
  let_ : ∀ c ∈ L, [c] ∈ l
  ok : ∀ u ∈ l, 1 ≤ u.length ∧ u.length ≤ 4 ∧ ∀ c ∈ u, c ∈ L
theorem namesOk0 {L : Wd} (h : L.Nodup) : NamesOk L 0 (L.map fun c => [c]) := by
  refine ⟨?_, by simp, fun c hc => List.mem_map.mpr ⟨c, hc, rfl⟩, fun u hu => ?_⟩
  · unfold List.Nodup
    rw [List.pairwise_map]
    exact h.imp fun {a b} hab e => hab (List.cons.inj e).1
  · obtain ⟨c, hc, rfl⟩ := List.mem_map.mp hu
    exact ⟨by simp, by simp, fun d hd => by rw [List.mem_singleton.mp hd]; exact hc⟩
theorem NamesOk.up {L : Wd} {i : Nat} {l : List Wd} (h : NamesOk L i l) : NamesOk L (i + 1) l := ⟨h.nd, by have := h.len; omega, h.let_, h.ok⟩
theorem NamesOk.add {L : Wd} {i : Nat} {l : List Wd} {u : Wd} (h : NamesOk L i l) (hu : u ∉ l) (h1 : 1 ≤ u.length ∧ u.length ≤ 4) (h2 : ∀ c ∈ u, c ∈ L) : NamesOk L (i + 1) (l ++ [u]) := by
  refine ⟨List.nodup_append.mpr ⟨h.nd, by simp, fun a ha b hb => ?_⟩, by have := h.len; simp; omega, fun c hc => List.mem_append_left _ (h.let_ c hc), fun v hv => ?_⟩
  · intro e
    rw [e, List.mem_singleton.mp hb] at ha
    exact hu ha
  · rcases List.mem_append.mp hv with q | q
    · exact h.ok v q
    · rw [List.mem_singleton.mp q]; exact ⟨h1.1, h1.2, h2⟩
/-- the word list of names and costs -/
def wsOf (l : List Wd) (cs : List Int) : WL := (List.range l.length).map fun i => (l.getD i [], cs.getD i 0)
theorem names_wsOf (l : List Wd) (cs : List Int) : names (wsOf l cs) = l := by
  unfold names wsOf
  rw [List.map_map]
  apply List.ext_getElem
  · simp
  · intro i h1 h2
    simp [List.getD_eq_getElem?_getD, List.getElem?_eq_getElem h2]
theorem valid_wsOf {L : Wd} {i : Nat} {l : List Wd} {cs : List Int} (h : NamesOk L i l) (hL : 0 < L.length) (hi : L.length + i ≤ 8) (hz : ∀ c ∈ L, 97 ≤ c ∧ c ≤ 100) (hc : cs.length = l.length) (hcs : ∀ c ∈ cs, 1 ≤ c ∧ c ≤ 9) : Valid (sortW (wsOf l cs)) := by
  have hnm : ∀ u, u ∈ names (sortW (wsOf l cs)) ↔ u ∈ l := fun u => by rw [mem_sortN, names_wsOf]
  have hlen : (sortW (wsOf l cs)).length = l.length := by rw [(sortW_perm _).length_eq]; simp [wsOf]
  have hpos : 0 < l.length := by
    match L, hL, h.let_ with
    | c :: L, _, h => exact List.length_pos_of_mem (h c (List.mem_cons_self ..))
  have h8 := h.len
  refine ⟨by omega, by omega, fun e he => ?_, asc_sort (by rw [names_wsOf]; exact h.nd), fun u hu c hc => ?_⟩
  · have he' := (sortW_perm _).mem_iff.mp he
    unfold wsOf at he'
    obtain ⟨k, hk, rfl⟩ := List.mem_map.mp he'
    rw [List.mem_range] at hk
    have e1 : l.getD k [] = l[k] := by simp [List.getD_eq_getElem?_getD, List.getElem?_eq_getElem hk]
    have hk2 : k < cs.length := by omega
    have e2 : cs.getD k 0 = cs[k] := by simp [List.getD_eq_getElem?_getD, List.getElem?_eq_getElem hk2]
    obtain ⟨o1, o2, o3⟩ := h.ok _ (List.getElem_mem hk)
    have o4 := hcs _ (List.getElem_mem hk2)
    refine ⟨?_, by show 1 ≤ cs.getD k 0; rw [e2]; exact o4.1, by show cs.getD k 0 ≤ 9; rw [e2]; exact o4.2⟩
    show okL (l.getD k []) = true
    rw [e1]
    unfold okL
    simp only [Bool.and_eq_true, decide_eq_true_eq, List.all_eq_true]
    refine ⟨⟨o1, o2⟩, fun c hc => ?_⟩
    have := hz c (o3 c hc)
    unfold alphaL
    exact List.mem_map.mpr ⟨c - 97, List.mem_range.mpr (by omega), by omega⟩
  · rw [hnm] at hu ⊢
    exact h.let_ c ((h.ok u hu).2.2 c hc)
theorem keys_of {H : Hp} {f : Nat → Wd} {g : Nat → Int} : ∀ {is : List Nat} {ys : List V}, Paired (fun i y => ∃ t, y = .ref t ∧ H t = some (.tup [vS (f i), .int (g i)])) is ys → KeysIs (is.map fun i => (f i, g i)) ys H
  | _, _, .nil => ⟨fun y h => by simp at h, rfl⟩
  | _, _, .cons ⟨t, e, ht⟩ r => by
    obtain ⟨k1, k2⟩ := keys_of r
    subst e
    have hk := keyE_at ht
    refine ⟨fun y hy => ?_, by rw [List.map_cons, List.map_cons, k2, hk]⟩
    rcases List.mem_cons.mp hy with q | q
    · rw [q]
      exact ⟨t, rfl, by rw [hk]; exact ht⟩
    · exact k1 y q
theorem ints_of {ys : List V} (h : ∀ y ∈ ys, ∃ c : Int, y = .int c ∧ 1 ≤ c ∧ c ≤ 9) : ∃ cs : List Int, ys = cs.map V.int ∧ ∀ c ∈ cs, 1 ≤ c ∧ c ≤ 9 := by
  induction ys with
  | nil => exact ⟨[], rfl, fun _ h => by simp at h⟩
  | cons y ys ih =>
    obtain ⟨c, e, hc⟩ := h y (List.mem_cons_self ..)
    obtain ⟨cs, e2, h2⟩ := ih fun y hy => h y (List.mem_cons_of_mem _ hy)
    refine ⟨c :: cs, by rw [List.map_cons, e, e2], fun d hd => ?_⟩
    rcases List.mem_cons.mp hd with q | q
    · rw [q]; exact hc
    · exact h2 d q

section
variable {P : Program} {w : World} {K : PySem.W.Frag} {mg : Str → Option Value} {base : Heap}
def sp_lwords : Sp := fun vs H Q _ => ∃ (a : Strm) (L : Wd), vs = [.ref a.1, vS L, .int 4] ∧ StrOk a H ∧ 0 < L.length ∧ L.length ≤ 3 ∧ L.Nodup ∧ (∀ c ∈ L, 97 ≤ c ∧ c ≤ 100) ∧
  ∀ v ws H', SI a H H' → RD H' (wlD ws) v → Valid ws → (∀ u ∈ names ws, ∀ c ∈ u, c ∈ L) → (∀ c ∈ L, [c] ∈ names ws) → Q v H'
theorem sc_law_words : FnScope ["_law_stream_here", "_law_letters", "_law_most", "_law_names", "_law_k", "_law_word", "_law_costs", "_law_i", "_law_name"] ["_law_stream_here", "_law_letters", "_law_most"] (defScope s_law_words) := ⟨rfl, rfl, rfl, by decide +kernel, rfl, by decide +kernel, by decide +kernel⟩
theorem ok_law_words (T : Txt K mg w) : Ok P w K mg base 2 "_law_words" ["_law_stream_here", "_law_letters", "_law_most"] sp_lwords := by
  have nd := sc_law_words.nd
  refine Ok.mk T.d_law_words sc_law_words (fun _ _ _ _ _ _ us hl => match us, hl with | [_, _, _], _ => rfl) (fun vs H Q E h => ?_) fun f cdv A outer s H vs Q E hr h => ?_
  · obtain ⟨_, _, rfl, _⟩ := h
    rfl
  · obtain ⟨a, L, rfl, hs, hL0, hL3, hLn, hLz, k⟩ := h
    refine ⟨_, (pss_cons (ps_set (i := 3) nd rfl (Or.inr rfl) (pe_callTy (cr_listStr rfl) (by rfl) T.b_list (by decide +kernel) (pa_cons (pv 1) pa_nil)))
      (pss_cons (ps_for PassesOwn.never rfl (pi_range1 (by rfl) T.b_range (pa_cons (pe_fn (ok_law_next T) hr (pa_cons (pv 0) (pa_cons (pe_op op_add (pv 2) pe_int) pa_nil))) pa_nil)) (pg_name (i := 4) nd rfl (Or.inl rfl)) (pss_cons (ps_set (i := 5) nd rfl (Or.inl rfl) (pe_join pe_str (pe_lc (own := [("_law_i", 7)]) (by rfl) nd (pi_range1 (by rfl) T.b_range (pa_cons (pe_op op_add pe_int (pe_fn (ok_law_next T) hr (pa_cons (pv 0) (pa_cons pe_int pa_nil)))) pa_nil)) (blkOk_by (N := ["_law_stream_here", "_law_letters", "_law_most", "_law_names", "_law_k", "_law_word", "_law_costs", "_law_i", "_law_name"]) (sc := defScope s_law_words) (by decide +kernel)) (fun _ _ _ _ _ => (pg_name (i := 7) nd rfl (Or.inl rfl))) (fun _ _ _ _ _ => pts_nil) (fun _ _ _ _ _ => (pe_ix ix_str (pv 1) (pe_fn (ok_law_next T) hr (pa_cons (pv 0) (pa_cons (pe_callB call_len_str (by rfl) T.b_len PySem.boot_len (pa_cons (pv 1) pa_nil)) pa_nil))) (fun _ _ => rfl))))))
      (pss_one (ps_if (pt_cmpR (op_notInK K rfl) (pv 5) (pv 3) (by rfl)) (pss_one (ps_expr (pe_bmK K rfl PySem.F.plainAttrs_list PySem.F.slot_list_append PySem.F.type_list_append mt_append (pv 3) (pa_cons (pv 5) pa_nil)))) pss_nil))))
      (pss_cons (ps_set (i := 6) nd rfl (Or.inr rfl) (pe_lc (own := [("_law_name", 8)]) (by rfl) nd (pi_listK K rfl (pv 3)) (blkOk_by (N := ["_law_stream_here", "_law_letters", "_law_most", "_law_names", "_law_k", "_law_word", "_law_costs", "_law_i", "_law_name"]) (sc := defScope s_law_words) (by decide +kernel)) (fun _ _ _ _ _ => (pg_name (i := 8) nd rfl (Or.inl rfl))) (fun _ _ _ _ _ => pts_nil) (fun _ _ _ _ _ => (pe_ix (ix_listK K rfl) (pe_lst (pa_cons pe_int (pa_cons pe_int (pa_cons pe_int (pa_cons pe_int (pa_cons (pe_op op_add pe_int (pe_fn (ok_law_next T) hr (pa_cons (pv 0) (pa_cons pe_int pa_nil)))) pa_nil)))))) (pe_fn (ok_law_next T) hr (pa_cons (pv 0) (pa_cons pe_int pa_nil))) (fun _ _ => rfl)))))
      (pss_cons (ps_if (pt_cmpR op_eq (pe_fn (ok_law_next T) hr (pa_cons (pv 0) (pa_cons pe_int pa_nil))) pe_int (nomark _)) (pss_one (ps_set (i := 6) nd rfl (Or.inr rfl) (pe_lc (own := [("_law_name", 8)]) (by rfl) nd (pi_listK K rfl (pv 3)) (blkOk_by (N := ["_law_stream_here", "_law_letters", "_law_most", "_law_names", "_law_k", "_law_word", "_law_costs", "_law_i", "_law_name"]) (sc := defScope s_law_words) (by decide +kernel)) (fun _ _ _ _ _ => (pg_name (i := 8) nd rfl (Or.inl rfl))) (fun _ _ _ _ _ => pts_nil) (fun _ _ _ _ _ => pe_int)))) pss_nil)
      (pss_one (ps_ret (pe_callTy call_tuple_of (by rfl) T.b_tuple (by decide +kernel) (pa_cons (pe_callB cr_sortedE (by rfl) T.b_sorted (by decide +kernel) (pa_cons (pe_lc (own := [("_law_k", 4)]) (by rfl) nd (pi_range1 (by rfl) T.b_range (pa_cons (pe_callB (call_lenK K rfl) (by rfl) T.b_len PySem.boot_len (pa_cons (pv 3) pa_nil)) pa_nil)) (blkOk_by (N := ["_law_stream_here", "_law_letters", "_law_most", "_law_names", "_law_k", "_law_word", "_law_costs", "_law_i", "_law_name"]) (sc := defScope s_law_words) (by decide +kernel)) (fun _ _ _ _ _ => (pg_name (i := 4) nd rfl (Or.inl rfl))) (fun _ _ _ _ _ => pts_nil) (fun _ _ _ _ _ => (pe_tup (pa_cons (pe_ix (ix_listK K rfl) (pv 3) (pv 4) (fun _ _ => rfl)) (pa_cons (pe_ix (ix_listK K rfl) (pv 6) (pv 4) (fun _ _ => rfl)) pa_nil))))) pa_nil)) pa_nil)))))))), ?_⟩
    refine q_asgP (evp_listW (ev_var rfl) (by omega)) fun v H1 e1 ⟨p, ev, hpn, hp1⟩ => ?_
    subst ev
    obtain ⟨pa1, pa2⟩ := hs.ne hpn
    have hs1 := hs.ex e1
    refine q_forR (B := fun n => n < 5) (eir_r1 (em_draw (n := 5) rfl (fun H1 _ => ev_op (ev_var rfl) ev_c rv_I0) (by omega) (by omega)) fun n hn => by omega) hs1
      (fun n i σ' H' => ∃ (l : List Wd) (v4 v5 : Option V), σ' = [some (.ref a.1), some (vS L), some (.int 4), some (.ref p), v4, v5, none, none, none] ∧ NamesOk L i l ∧ H' p = some (.lst (l.map vS)) ∧ SI a H H')
      (fun n H2 s2 hn => ⟨_, none, none, rfl, namesOk0 hLn, s2.1 _ _ pa1 hp1, (SI.of e1 hs).trans s2⟩) ?_ ?_
    · rintro n i σ' H' hn hi ⟨l, v4, v5, rfl, hok, hp, s⟩
      have hp2 := s.2
      refine q_asgM (em_join (l := L) (B := fun xs => ∃ n, (∃ e, e < 3 ∧ n = 2 + e) ∧ xs = upto n) (em_lc (EvIR.im (eir_r1 (em_addI (i := 2) (em_draw (n := 3) rfl (fun H1 _ => ev_c) (by omega) (by omega))) fun n ⟨e, h1, h2⟩ => by omega)) (fun xs ⟨n, ⟨e, h1, h2⟩, ex⟩ => by rw [ex, upto_len]; omega) fun xs _ x _ => ⟨_, fun H1 => bnd_name, rfl, em_ixS (by omega) (fun H1 _ => ev_var rfl) (em_draw rfl (fun H1 _ => ev_lenW (ev_var rfl) (by omega)) hL0 (by omega))⟩) fun xs ⟨n, ⟨e, h1, h2⟩, ex⟩ => by rw [ex, upto_len]; omega) hp2 fun v H1 i1 ⟨u, xs, ev, ⟨n2, ⟨e, h1, h2⟩, ex⟩, hul, huc⟩ => ?_
      subst ev
      rw [ex, upto_len, h2] at hul
      have hp1 := i1.1 _ _ pa1 hp
      refine s_when (b := !decide (u ∈ l)) (et_is (et_test (ev_op (ev_var rfl) (ev_var rfl) (rv_niL (SqL.of hp1) rfl (flat_S l)))) (by rw [inV_S])) (fun hb H2 e2 => ?_) fun hb H2 e2 => ⟨l, _, _, rfl, hok.up, e2 _ _ hp1, (s.trans i1).trans (SI.of e2 i1.2)⟩
      rw [Bool.not_eq_true', decide_eq_false_iff_not] at hb
      have hll := hok.len
      refine s_app (l := p) (e2 _ _ hp1) (ev_var rfl) (ev_var rfl) (by rw [List.length_map]; omega) fun H3 e3 => ⟨l ++ [u], _, _, rfl, hok.add hb ⟨by omega, by omega⟩ huc, by rw [List.map_append]; exact upd_same, ?_⟩
      have s3 : SI a H H3 := ((s.trans i1).trans (SI.of e2 i1.2)).trans (SI.of e3 (i1.2.ex e2))
      refine ⟨fun b o hb1 ho => ?_, s3.2.upd pa1 pa2⟩
      rw [upd_ne (fun e => by rw [e, hpn] at ho; cases ho)]
      exact s3.1 b o hb1 ho
    · rintro n σ' H' hn ⟨l, v4, v5, rfl, hok, hp, s⟩
      have hll := hok.len
      refine q_asgM (em_lc (R := fun y => ∃ c : Int, y = .int c ∧ 1 ≤ c ∧ c ≤ 9) (eim_list (fun H1 _ => ev_var rfl) fun H1 i => i.1 _ _ pa1 hp) (fun xs ex => by rw [ex, List.length_map]; omega) fun xs _ x _ => ⟨_, fun H1 => bnd_name, rfl, ?_⟩) s.2 fun v H1 s1 ⟨q, xs, ys, ev, q1, q2, qn, hq, ex, hyl, hyr⟩ => ?_
      · refine (em_pick (n := 5) (fun vs H H' _ _ h => h) ((?_ : EvAM a _ _ _ (fun vs _ => vs.length = 5 ∧ ∀ v ∈ vs, ∃ c : Int, v = .int c ∧ 1 ≤ c ∧ c ≤ 9))) (fun vs _ h => h.1) (by omega) (em_draw (n := 5) rfl (fun H1 _ => ev_c) (by omega) (by omega))).imp fun v H1 _ ⟨vs, h, hv⟩ => h.2 v hv
        intro H2 i2 Q2 q2'
        refine (eam_cons (P := fun v _ => v = .int 1) (fun _ _ _ _ _ h => h) (em_ev fun _ _ => ev_c) (eam_cons (P := fun v _ => v = .int 1) (fun _ _ _ _ _ h => h) (em_ev fun _ _ => ev_c) (eam_cons (P := fun v _ => v = .int 2) (fun _ _ _ _ _ h => h) (em_ev fun _ _ => ev_c) (eam_cons (P := fun v _ => v = .int 3) (fun _ _ _ _ _ h => h) (em_ev fun _ _ => ev_c) (eam_cons (fun _ _ _ _ _ h => h) (em_addI (i := 1) (em_draw (n := 9) rfl (fun H1 _ => ev_c) (by omega) (by omega))) eam_nil))))) H2 i2 Q2 fun vs H3 i3 ⟨v1, u1, g1, p1, v2, u2, g2, p2, v3, u3, g3, p3, v4, u4, g4, p4, v5, u5, g5, ⟨d, g6, e6, g7, g8⟩, g9⟩ => q2' vs H3 i3 ⟨?_, ?_⟩
        · rw [g1, g2, g3, g4, g5, g9] <;> rfl
        · intro v hv
          rw [g1, g2, g3, g4, g5, g9] at hv
          simp only [List.mem_cons, List.not_mem_nil, or_false] at hv
          rcases hv with r | r | r | r | r
          · exact ⟨1, by rw [r, p1], by omega, by omega⟩
          · exact ⟨1, by rw [r, p2], by omega, by omega⟩
          · exact ⟨2, by rw [r, p3], by omega, by omega⟩
          · exact ⟨3, by rw [r, p4], by omega, by omega⟩
          · exact ⟨(d : Int), by rw [r, g6], by omega, by omega⟩
      · subst ev ex
        obtain ⟨cs, rfl, hcs⟩ := ints_of hyr
        rw [List.length_map, List.length_map] at hyl
        have hp1 := s1.1 _ _ pa1 hp
        refine seq_gen (fun σ' H2 => ∃ (q : Addr) (cs : List Int), σ' = [some (.ref a.1), some (vS L), some (.int 4), some (.ref p), v4, v5, some (.ref q), none, none] ∧ H2 q = some (.lst (cs.map V.int)) ∧ cs.length = l.length ∧ (∀ c ∈ cs, 1 ≤ c ∧ c ≤ 9) ∧ H2 p = some (.lst (l.map vS)) ∧ SI a H' H2) ?_ fun G hG => ?_
        · rintro σ' H2 ⟨q, cs, rfl, hq2, hcl, hcs, hp2, s2⟩
          refine s_retP ((evp_tupLP (P := fun ys H1 => KeysIs (sortW (wsOf l cs)) ys H1) (fun ys H H' e h => h.ext e) (evp_sorted ((el_lcR (l := List.range l.length) (fv := fun i => V.int ((i : Nat) : Int)) (fun _ => true) (fun i y H => ∃ t, y = .ref t ∧ H t = some (.tup [vS (l.getD i []), .int (cs.getD i 0)])) (fun i y H H' e ⟨t, h1, h2⟩ => ⟨t, h1, e _ _ h2⟩) (ei_r1n (ea_cons (ev_lenL (ev_var rfl) hp2) ea_nil) (by rw [List.length_map, Int.toNat_natCast]) (by omega) (by rw [List.length_map]; omega)) (by rw [List.length_range]; omega) fun i hi => ⟨_, bnd_name, rfl, et_yes, fun _ => ?_⟩).imp
            fun v H1 _ ⟨p3, ys, ev, hp3, hq3⟩ => ⟨p3, ys, ev, .inl hp3, ?_⟩))).imp fun v H1 _ ⟨p3, ys, ev, hp3, hq3⟩ => ?_) (P := fun v H1 => RD H1 (wlD (sortW (wsOf l cs))) v) fun v H3 e3 hv => ?_
          · rw [List.mem_range] at hi
            have hi2 : i < cs.length := by omega
            refine (evu_p (eu_tup (vs := [vS (l.getD i []), .int (cs.getD i 0)]) (ea_cons (ev_ixL (i := i) (ev_var rfl) hp2 (ev_var rfl) ?_) (ea_cons (ev_ixL (i := i) (ev_var rfl) hq2 (ev_var rfl) ?_) ea_nil)) (by simp))).imp fun v H1 _ h => h
            · rw [List.getElem?_map, List.getElem?_eq_getElem hi, List.getD_eq_getElem?_getD, List.getElem?_eq_getElem hi] <;> rfl
            · rw [List.getElem?_map, List.getElem?_eq_getElem hi2, List.getD_eq_getElem?_getD, List.getElem?_eq_getElem hi2] <;> rfl
          · rw [List.filter_eq_self.mpr (fun _ _ => rfl)] at hq3
            exact keys_of hq3
          · subst ev
            rw [← hq3.2]
            exact wl_mk hp3 hq3.1
          · refine k v _ H3 ((s.trans s2).trans (SI.of e3 s2.2)) hv (valid_wsOf hok hL0 (by omega) hLz hcl hcs) (fun u hu c hc => ?_) fun c hc => ?_
            · rw [mem_sortN, names_wsOf] at hu
              exact (hok.ok u hu).2.2 c hc
            · rw [mem_sortN, names_wsOf]
              exact hok.let_ c hc
        · refine s_whenM (em_eqI (em_draw (n := 2) rfl (fun H1 _ => ev_c) (by omega) (by omega))) s1.2 (fun H2 s2 => ?_) fun H2 s2 => ?_
          · have hp2 := s2.1 _ _ pa1 hp1
            refine s_asgP (el_lcA (l := l) (fv := vS) (fun _ => .int 1) (ei_list (ev_var rfl) fun H3 e3 => SqL.of (e3 _ _ hp2)) (by omega) fun x _ => ⟨_, bnd_name, rfl, ev_c⟩) fun v H3 e3 ⟨q', ev, hq'⟩ => ?_
            subst ev
            exact hG _ _ ⟨q', l.map fun _ => 1, rfl, by rw [List.map_map]; exact hq', by rw [List.length_map], fun c hc => by
              obtain ⟨_, _, rfl⟩ := List.mem_map.mp hc
              omega, e3 _ _ hp2, (s1.trans s2).trans (SI.of e3 s2.2)⟩
          · exact hG _ _ ⟨q, cs, rfl, s2.1 _ _ q1 hq, hyl, hcs, s2.1 _ _ pa1 hp1, s1.trans s2⟩

def Ab (ws : WL) : Prop := ∀ u ∈ names ws, ∀ c ∈ u, 97 ≤ c ∧ c ≤ 100
theorem abc_eq : ("abc" : Str) = S [97, 98, 99] := by decide +kernel
def sp_start : Sp := fun vs H Q _ => ∃ (a : Strm), vs = [.ref a.1] ∧ StrOk a H ∧
  ∀ b w ws t H', SI a H H' → H' b = some (.lst [w, vS t]) → b ≠ a.1 → H b = none → RD H' (wlD ws) w → Good (ws, t) → Ab ws → Q (.ref b) H'
theorem sc_law_start : FnScope ["_law_stream_here", "_law_letters", "_law_words_here"] ["_law_stream_here"] (defScope s_law_start) := ⟨rfl, rfl, rfl, by decide +kernel, rfl, by decide +kernel, by decide +kernel⟩
theorem ok_law_start (T : Txt K mg w) : Ok P w K mg base 3 "_law_start" ["_law_stream_here"] sp_start := by
  have nd := sc_law_start.nd
  refine Ok.mk T.d_law_start sc_law_start (fun _ _ _ _ _ _ us hl => match us, hl with | [_], _ => rfl) (fun vs H Q E h => ?_) fun f cdv A outer s H vs Q E hr h => ?_
  · obtain ⟨_, rfl, _⟩ := h
    rfl
  · obtain ⟨a, rfl, hs, k⟩ := h
    refine ⟨_, (pss_cons (ps_set (i := 1) nd rfl (Or.inl rfl) (pe_slice sl_str pe_str po_none (po_some (pe_op op_add pe_int (pe_fn (ok_law_next T) hr (pa_cons (pv 0) (pa_cons pe_int pa_nil)))))))
      (pss_cons (ps_set (i := 2) nd rfl (Or.inl rfl) (pe_fn (ok_law_words T) hr (pa_cons (pv 0) (pa_cons (pv 1) (pa_cons pe_int pa_nil)))))
      (pss_one (ps_ret (pe_lst (pa_cons (pv 2) (pa_cons (pe_fn (ok_law_text T) hr (pa_cons (pv 0) (pa_cons (pv 1) (pa_cons pe_int pa_nil)))) pa_nil))))))), ?_⟩
    refine q_asgM (em_slTo (l := [97, 98, 99]) (fun H1 _ => by rw [abc_eq]; exact ev_c) (by simp) (em_addI (i := 1) (em_draw (n := 3) rfl (fun H1 _ => ev_c) (by omega) (by omega)))) hs fun v H1 s1 ⟨d, ev, e, he, hde⟩ => ?_
    subst ev
    have hL : 0 < (List.take d [97, 98, 99]).length ∧ (List.take d [97, 98, 99]).length ≤ 3 ∧ (List.take d [97, 98, 99]).Nodup ∧ ∀ c ∈ List.take d [97, 98, 99], 97 ≤ c ∧ c ≤ 100 := by
      have : d = 1 ∨ d = 2 ∨ d = 3 := by omega
      rcases this with r | r | r <;> subst r <;> decide
    obtain ⟨L0, L1, L2, L3⟩ := hL
    refine q_asgM (P := fun v H2 => ∃ ws, RD H2 (wlD ws) v ∧ Valid ws ∧ (∀ u ∈ names ws, ∀ c ∈ u, c ∈ List.take d [97, 98, 99]) ∧ ∀ c ∈ List.take d [97, 98, 99], [c] ∈ names ws) (em_call (fun H2 _ => ea_cons (ev_var rfl) (ea_cons (ev_var rfl) (ea_cons ev_c ea_nil))) fun H2 s2 Q q E => ⟨a, _, rfl, s2.2, L0, L1, L2, L3, fun v ws H' s h1 h2 h3 h4 => q v H' s ⟨ws, h1, h2, h3, h4⟩⟩) s1.2 fun v H2 s2 ⟨ws, hw, hV, hw1, hw2⟩ => ?_
    refine s_retM (em_lst (n := 2) (R := fun vs H1 => ∃ t, vs = [v, vS t] ∧ RD H1 (wlD ws) v ∧ t.length ≤ 12 ∧ ∀ c ∈ t, c ∈ List.take d [97, 98, 99]) (fun vs H H' i hs ⟨t, h1, h2, h3⟩ => ⟨t, h1, h2.mono (i.ext hs), h3⟩) (fun H3 s3 Q q => ?_) (fun vs _ ⟨t, h, _⟩ => by rw [h] <;> rfl) (by omega)) s2.2 fun v' H3 s3 ⟨p, vs, ev, p1, p2, pn, hp, t, evs, hw', htl, htc⟩ => ?_
    · refine (eam_cons (P := fun x H1 => x = v ∧ RD H1 (wlD ws) v) (fun x H H' i hs ⟨h1, h2⟩ => ⟨h1, h2.mono (i.ext hs)⟩) (em_of fun H4 s4 => (ev_p (ev_var rfl)).imp fun x H5 e5 h => ⟨h, (hw.mono (s4.ext s2.2)).ex e5⟩) (eam_cons (P := fun x _ => ∃ t, x = vS t ∧ t.length ≤ 12 ∧ ∀ c ∈ t, c ∈ List.take d [97, 98, 99]) (fun x H H' i hs h => h) (em_call (fun H4 _ => ea_cons (ev_var rfl) (ea_cons (ev_var rfl) (ea_cons ev_c ea_nil))) fun H4 s4 Q q E => ⟨a, _, 12, rfl, s4.2, L0, by omega, by omega, fun u H' s h1 h2 => q _ H' s ⟨u, rfl, h1, h2⟩⟩) eam_nil)) H3 s3 Q fun vs H4 s4 ⟨x1, u1, g1, ⟨g2, g3⟩, x2, u2, g4, ⟨t, g5, g6, g7⟩, g8⟩ => q vs H4 s4 ⟨t, by rw [g1, g2, g4, g5, g8], g3, g6, g7⟩
    · subst ev evs
      have pn' : H p = none := by
        cases e : H p with
        | none => rfl
        | some o =>
          have := (s1.trans s2).1 p o p1 e
          rw [pn] at this
          cases this
      exact k p v ws t H3 ((s1.trans s2).trans s3) hp p1 pn' hw' ⟨hV, fun c hc => hw2 c (htc c hc), by show t.length ≤ 30; omega⟩ fun u hu c hc => L3 c (hw1 u hu c hc)
end
end G
/-! the law: longest, behind -/
namespace G
open PySem PySem.Spec PyProof.Rows L2 Evl

section
variable {K : PySem.W.Frag} {σ : L2.St} {H H' : Hp} {te ta tb tl : TE} {tt : TT}
/-- [.. for word, cost in words if ..] -/
theorem evp_ents {ws : WL} {x : V} {i j : Nat} {vs : List Nat} (hx : RD H (wlD ws) x) (hz : ws.length ≤ 1000) (he : Ev tl σ H x) (f : Wd → Bool) (gv : Wd → V)
    (hs : ∀ e ∈ ws, wipe (((wipe σ vs).set i (some (vS e.1))).set j (some (.int e.2))) vs = wipe σ vs ∧ EvT tt (((wipe σ vs).set i (some (vS e.1))).set j (some (.int e.2))) H (f e.1) ∧ (f e.1 = true → Ev te (((wipe σ vs).set i (some (vS e.1))).set j (some (.int e.2))) H (gv e.1))) :
    EvP (tLc (iTup K tl) (gTup K 2 (gCons (gName i) (gCons (gName j) gNil))) tt te vs) σ H (fun v H1 => ∃ p, v = .ref p ∧ H1 p = some (.lst (((names ws).filter f).map gv))) := by
  obtain ⟨a, xs, rfl, ha, hk, hE⟩ := wl_inv hx
  have hl : xs.length = ws.length := by rw [← hk, List.length_map]
  refine (el_lc (l := xs) (fv := id) (fun y => f (keyE H y).1) (fun y => gv (keyE H y).1) (ei_id (ei_tup he fun H1 e1 => SqT.of (e1 _ _ ha))) (by omega) fun y hy => ?_).imp fun v H1 _ ⟨p, ev, hp⟩ => ⟨p, ev, ?_⟩
  · obtain ⟨t, rfl, ht⟩ := hE y hy
    have hm : keyE H (.ref t) ∈ ws := by rw [← hk]; exact List.mem_map.mpr ⟨_, hy, rfl⟩
    obtain ⟨h1, h2, h3⟩ := hs _ hm
    exact ⟨_, bnd_two fun H1 e1 => SqT.of (e1 _ _ ht), h1, h2, h3⟩
  · rw [hp, ← hk]
    unfold names
    rw [List.map_map, List.filter_map, List.map_map]
    rfl
theorem ev_max {a : Addr} {ns : List Int} {m : Int} (ha : Ev ta σ H (.ref a)) (h : H a = some (.lst (ns.map V.int))) (hm : m ∈ ns) (hmx : ∀ y ∈ ns, y ≤ m) : Ev (tCB (rMax K) (tCons ta tNil)) σ H (.int m) := fun H1 e Q q =>
  ha H1 e _ fun H2 e2 => ⟨a, ns, rfl, SqL.of (e2 _ _ (e _ _ h)), List.length_pos_of_mem hm, fun m' h1 h2 => by
    rw [show m' = m from Int.le_antisymm (hmx m' h1) (h2 m hm)]
    exact q H2 e2⟩
end
theorem tru_S {K : PySem.W.Frag} {H : Hp} {l : Wd} (h : l.length ≤ 100000) : TruV K (vS l) H (decide (0 < l.length)) := by
  refine ⟨by rw [S_len]; exact sz_of h, ?_⟩
  rw [S_len]
  cases l with
  | nil => rfl
  | cons c l =>
    rw [decide_eq_true (by simp)]
    symm
    rw [bne_iff_ne, List.length_cons]
    omega
section
variable {P : Program} {w : World} {K : PySem.W.Frag} {mg : Str → Option Value} {base : Heap}
def sp_llongest : Sp := fun vs H Q _ => ∃ (x : V) (ws : WL) (t : Wd), vs = [x, vS t] ∧ RD H (wlD ws) x ∧ Valid ws ∧ t.length ≤ 100 ∧ Letters ws t ∧ RetP (RowV (longest ws t)) H Q
theorem sc_law_longest : FnScope ["_law_words_here", "_law_text_here", "_law_row", "_law_rest", "_law_k", "_law_sizes", "_law_word", "_law_cost_here"] ["_law_words_here", "_law_text_here"] (defScope s_law_longest) := ⟨rfl, rfl, rfl, by decide +kernel, rfl, by decide +kernel, by decide +kernel⟩
theorem ok_law_longest (T : Txt K mg w) : Ok P w K mg base 1 "_law_longest" ["_law_words_here", "_law_text_here"] sp_llongest := by
  have nd := sc_law_longest.nd
  refine Ok.mk T.d_law_longest sc_law_longest (fun _ _ _ _ _ _ us hl => match us, hl with | [_, _], _ => rfl) (fun vs H Q E h => ?_) fun f cdv A outer s H vs Q E hr h => ?_
  · obtain ⟨_, _, _, rfl, _⟩ := h
    rfl
  · obtain ⟨x, ws, t, rfl, hx, hV, ht, hl, k⟩ := h
    have h8 := hV.le
    refine ⟨_, (pss_cons (ps_set (i := 2) nd rfl (Or.inl rfl) (pe_lst pa_nil))
      (pss_cons (ps_set (i := 3) nd rfl (Or.inr rfl) (pv 1))
      (pss_cons (ps_for PassesOwn.never rfl (pi_range1 (by rfl) T.b_range (pa_cons (pe_callB call_len_str (by rfl) T.b_len PySem.boot_len (pa_cons (pv 1) pa_nil)) pa_nil)) (pg_name (i := 4) nd rfl (Or.inl rfl)) (pss_one (ps_if (pt_truth (pv 3) (by intro _; rfl)) (pss_cons (ps_setLc (i := 5) (own := [("_law_word", 6), ("_law_cost_here", 7)]) (by rfl) nd rfl rfl (sw_true rfl rfl rfl (by decide +kernel)) (pi_tupK K rfl (pv 0)) (blkOk_by (N := ["_law_words_here", "_law_text_here", "_law_row", "_law_rest", "_law_k", "_law_sizes", "_law_word", "_law_cost_here"]) (sc := defScope s_law_longest) (by decide +kernel)) (fun _ _ _ _ _ => (pg_tupK K rfl (n := 2) rfl (pgs_cons (pg_name (i := 6) nd rfl (Or.inl rfl)) (pgs_cons (pg_name (i := 7) nd rfl (Or.inl rfl)) pgs_nil)))) (fun _ _ _ _ _ => (pts_one (pt_val (pe_bmK K rfl PySem.F.plainAttrs_str PySem.F.slot_str_startswith PySem.F.type_str_startswith mt_startswith (pv 3) (pa_cons (pv 6) pa_nil))))) (fun _ _ _ _ _ => (pe_callB call_len_str (by rfl) T.b_len PySem.boot_len (pa_cons (pv 6) pa_nil))))
      (pss_cons (ps_expr (pe_bmK K rfl PySem.F.plainAttrs_list PySem.F.slot_list_append PySem.F.type_list_append mt_append (pv 2) (pa_cons (pe_slice sl_str (pv 3) po_none (po_some (pe_callB (cr_max rfl) (by rfl) T.b_max (by decide +kernel) (pa_cons (pv 5) pa_nil)))) pa_nil)))
      (pss_one (ps_set (i := 3) nd rfl (Or.inr rfl) (pe_slice sl_str (pv 3) (po_some (pe_callB (cr_max rfl) (by rfl) T.b_max (by decide +kernel) (pa_cons (pv 5) pa_nil))) po_none))))) pss_nil)))
      (pss_one (ps_ret (pe_callTy call_tuple_of (by rfl) T.b_tuple (by decide +kernel) (pa_cons (pv 2) pa_nil))))))), ?_⟩
    refine q_asgL (el_lst ea_nil (Nat.zero_le _)) fun p H1 hp e1 h1 => ?_
    refine q_asg (ev_var rfl) fun H2 e2 => ?_
    refine q_forR1 (ea_cons (ev_lenW (ev_var rfl) (by omega)) ea_nil) ⟨by omega, by omega⟩ (fun i σ' H' => ∃ (done : List Wd) (at_ : Nat) (v4 v5 : Option V), σ' = [some x, some (vS t), some (.ref p), some (vS (t.drop at_)), v4, v5, none, none] ∧ Ex H H' ∧ H' p = some (.lst (done.map vS)) ∧ done.length ≤ i ∧ (t.drop at_).length ≤ t.length - i ∧ done ++ longest ws (t.drop at_) = longest ws t)
      (fun H3 e3 => ⟨[], 0, none, none, rfl, (e1.trans e2).trans e3, e3 _ _ (e2 _ _ h1), Nat.le_refl _, Nat.le_refl _, rfl⟩) ?_ ?_
    · rintro i σ' H' hi ⟨done, at_, v4, v5, rfl, eH, hp', hdl, hr, hd⟩
      refine s_when (b := decide (0 < (t.drop at_).length)) (et_tru (ev_var rfl) fun H3 _ => ?_) (fun hb H3 e3 => ?_) fun hb H3 e3 => ?_
      · exact tru_S (by rw [List.length_drop]; omega)
      · have hlt := of_decide_eq_true hb
        have hne : t.drop at_ ≠ [] := fun q => by rw [q] at hlt; exact absurd hlt (Nat.lt_irrefl 0)
        have hf := first_is hV hne (hl.drop at_)
        have hfl := mem_names_len hV hf.mem
        refine q_asgP (evp_ents (((hx.ex eH).ex e3)) (by omega) (ev_var rfl) (fun u => decide (u <+: t.drop at_)) (fun u => .int (u.length : Int)) fun e he => ⟨rfl, et_B (ev_sw0 (ev_var rfl) (ev_var rfl)), fun _ => ev_lenW (ev_var rfl) (by
          have := (mem_names_len hV (List.mem_map.mpr ⟨e, he, rfl⟩)).2
          omega)⟩) fun v H4 e4 ⟨q, ev, hq⟩ => ?_
        subst ev
        have hq' : H4 q = some (.lst ((((names ws).filter fun u => decide (u <+: t.drop at_)).map fun u => (u.length : Int)).map V.int)) := by rw [List.map_map]; exact hq
        have hmem : ((first ws (t.drop at_)).length : Int) ∈ ((names ws).filter fun u => decide (u <+: t.drop at_)).map fun u => (u.length : Int) := List.mem_map.mpr ⟨_, List.mem_filter.mpr ⟨hf.mem, decide_eq_true hf.pre⟩, rfl⟩
        have hmax : ∀ y ∈ ((names ws).filter fun u => decide (u <+: t.drop at_)).map fun u => (u.length : Int), y ≤ ((first ws (t.drop at_)).length : Int) := fun y hy => by
          obtain ⟨u, hu, rfl⟩ := List.mem_map.mp hy
          obtain ⟨h1, h2⟩ := List.mem_filter.mp hu
          have := hf.most u h1 (of_decide_eq_true h2)
          omega
        have hp4 := e4 _ _ (e3 _ _ hp')
        have htk : (t.drop at_).take (first ws (t.drop at_)).length = first ws (t.drop at_) := (List.prefix_iff_eq_take.mp hf.pre).symm
        refine q_app hp4 (ev_var rfl) (v := vS (first ws (t.drop at_))) (ev_is (ev_slS (ev_var rfl) eo_none (eo_some (ev_max (ev_var rfl) hq' hmem hmax)) (by rw [List.length_drop]; omega)) (by rw [cut_to, htk])) (by rw [List.length_map]; omega) fun H5 e5 => ?_
        have hqp : q ≠ p := fun e => by
          rw [e, hp4] at hq'
          have h1 := HO.lst.inj (Option.some.inj hq')
          have h2 := List.mem_map_of_mem (f := V.int) hmem
          rw [← h1] at h2
          obtain ⟨_, _, h3⟩ := List.mem_map.mp h2
          cases h3
        have hq5 : upd H5 p (.lst (done.map vS ++ [vS (first ws (t.drop at_))])) q = _ := (upd_ne hqp).trans (e5 _ _ hq')
        refine s_asg (v := vS (t.drop (at_ + (first ws (t.drop at_)).length))) (ev_is (ev_slS (ev_var rfl) (eo_some (ev_max (ev_var rfl) hq5 hmem hmax)) eo_none (by rw [List.length_drop]; omega)) (by rw [cut_from, List.drop_drop])) fun H6 e6 => ?_
        refine ⟨done ++ [first ws (t.drop at_)], at_ + (first ws (t.drop at_)).length, _, _, rfl, ?_, ?_, ?_, ?_, ?_⟩
        · exact (Ex.mut (((eH.trans e3).trans e4).trans e5) hp).trans e6
        · have h6 := e6 _ _ (upd_same (H := H5) (a := p) (o := .lst (done.map vS ++ [vS (first ws (t.drop at_))])))
          rw [List.map_append]
          exact h6
        · rw [List.length_append, List.length_singleton]; omega
        · rw [List.length_drop] at hr ⊢
          omega
        · rw [← hd, List.append_assoc, longest_cons hV hne (hl.drop at_), List.drop_drop]
          rfl
      · have hge := of_decide_eq_false hb
        exact ⟨done, at_, _, _, rfl, eH.trans e3, e3 _ _ hp', by omega, by omega, hd⟩
    · rintro σ' H' ⟨done, at_, v4, v5, rfl, eH, hp', hdl, hr, hd⟩
      rw [Int.toNat_natCast] at hr
      have : t.drop at_ = [] := List.eq_nil_of_length_eq_zero (by omega)
      rw [this, longest_nil, List.append_nil] at hd
      subst hd
      refine s_retP (evp_tupL (evl_of (ev_var rfl) hp')) fun v H4 e4 hv => k v H4 (eH.trans e4) hv
end
end G
/-! the law: behind, why -/
namespace G
open PySem PySem.Spec PyProof.Rows L2 Evl

theorem pg_unlK {X : Cx} (K : PySem.W.Frag) (hK : X.K = K) {es : List Expr} {k : Nat} {pos : Pos} {t : TGs} {n : Nat} (hc : X.calm = true) (h : PGs X es t)
    (hn : (assignEach es X.env).length = n := by rfl) (hst : (assignEach es X.env).findIdx? (·.1) = none := by rfl) : PG X (.Tuple es k pos) (gUnl K n t) := hK ▸ pg_unl hc h hn hst
/-- a state as a new list -/
abbrev StN (H0 : Hp) (st : WL × Wd) : V → Hp → Prop := fun v H1 => ∃ b w, v = .ref b ∧ H0 b = none ∧ H1 b = some (.lst [w, vS st.2]) ∧ RD H1 (wlD st.1) w
section
variable {K : PySem.W.Frag} {σ : L2.St} {H H' : Hp} {te ta tb tl : TE} {tt : TT} {D : Ends} {tz : TS} {P : V → Hp → Prop}
theorem q_unpL {i j : Nat} {b : Addr} {y z : V} (h : Ev te σ H (.ref b)) (hb : H b = some (.lst [y, z])) (k : ∀ H1, Ex H H1 → tz D ((σ.set i (some y)).set j (some z)) H1) :
    tSeq (tAsg te (gUnl K 2 (gCons (gName i) (gCons (gName j) gNil)))) tz D σ H :=
  h H (Ex.refl H) _ fun H1 e => ⟨b, [y, z], rfl, SqL.of (e _ _ hb), rfl, y, [z], rfl, z, [], rfl, rfl, k H1 e⟩
theorem evp_stL {ws : WL} {t : Wd} (ha : EvP ta σ H (fun v H1 => RD H1 (wlD ws) v)) (hb : Ev tb σ H (vS t)) : EvP (tLst (tCons ta (tCons tb tNil))) σ H (StN H (ws, t)) := fun H1 e Q q =>
  ha H1 e (fun x H1 => tCons tb tNil σ H1 fun xs H2 => (x :: xs).length ≤ sizeLine ∧ ∀ p, H2 p = none → Q (.ref p) (upd H2 p (.lst (x :: xs)))) fun y H2 e2 hy => (ea_cons hb ea_nil : EvA (tCons tb tNil) σ H _) H2 (e.trans e2) _ fun H3 e3 => ⟨sz_of (by simp), fun p hp => q _ _ ((e2.trans e3).trans (Ex.new hp)) ⟨p, y, rfl, fresh_back ((e.trans e2).trans e3) hp, upd_same, (hy.ex e3).ex (Ex.new hp)⟩⟩
theorem evp_catP (hm : Mon P) {xs : List V} (ha : EvP ta σ H (fun v H1 => ∃ p, v = .ref p ∧ H1 p = some (.lst xs))) (hb : EvP tb σ H (fun v H1 => ∃ p y, v = .ref p ∧ H1 p = some (.lst [y]) ∧ P y H1)) (hz : xs.length ≤ 1000) : EvP (tOp rCat ta tb) σ H (fun v H1 => ∃ p y, v = .ref p ∧ H1 p = some (.lst (xs ++ [y])) ∧ P y H1) :=
  evp_op (fun v H H' e ⟨p, h1, h2⟩ => ⟨p, h1, e _ _ h2⟩) ha hb fun x y H1 e ⟨p, ex, hp⟩ ⟨q, z, ey, hq, hz'⟩ Q k => by
    subst ex ey
    exact ⟨p, q, xs, [z], rfl, rfl, hp, hq, sz_of (by simp; omega), fun r hr => k _ _ (Ex.new hr) ⟨r, z, rfl, upd_same, hm _ _ _ (Ex.new hr) hz'⟩⟩
theorem el_listT {p : Addr} {xs : List V} (ha : Ev ta σ H (.ref p)) (h : H p = some (.tup xs)) : EvL (tCB (rListS K) (tCons ta tNil)) σ H xs := fun H1 e Q q =>
  ha H1 e _ fun H2 e2 => ⟨p, xs, rfl, .inr (SqT.of (e2 _ _ (e _ _ h))), fun l hl => q l _ (fresh_back e2 hl) (e2.trans (Ex.new hl)) upd_same⟩
theorem tru_L {b : Addr} {xs : List V} (h : H b = some (.lst xs)) : ∀ H1, Ex H H1 → TruV K (.ref b) H1 (!xs.isEmpty) := fun H1 e => .inl ⟨xs, SqL.of (e _ _ h), rfl⟩
end
section
variable {P : Program} {w : World} {K : PySem.W.Frag} {mg : Str → Option Value} {base : Heap}
def sp_lbehind : Sp := fun vs H Q _ => ∃ (b : Addr) (x v : V) (ws : WL) (t : Wd) (c : Cmd), vs = [.ref b, v] ∧ H b = some (.lst [x, vS t]) ∧ RD H (wlD ws) x ∧ 1 ≤ ws.length ∧ ws.length ≤ 8 ∧ RD H (cmdD c) v ∧ CmdSm c ∧ t.length ≤ 100 ∧ RetP (StN H (behindS ws t c)) H Q
theorem sc_law_behind : FnScope ["_law_state", "_law_command_here", "_law_words_here", "_law_text_here", "_law_entry"] ["_law_state", "_law_command_here"] (defScope s_law_behind) := ⟨rfl, rfl, rfl, by decide +kernel, rfl, by decide +kernel, by decide +kernel⟩
theorem ok_law_behind (T : Txt K mg w) : Ok P w K mg base 1 "_law_behind" ["_law_state", "_law_command_here"] sp_lbehind := by
  have nd := sc_law_behind.nd
  refine Ok.mk T.d_law_behind sc_law_behind (fun _ _ _ _ _ _ us hl => match us, hl with | [_, _], _ => rfl) (fun vs H Q E h => ?_) fun f cdv A outer s H vs Q E hr h => ?_
  · obtain ⟨_, _, _, _, _, _, rfl, _⟩ := h
    rfl
  · obtain ⟨b, x, v, ws, t, c, rfl, hb, hx, hg1, hl8, hc, hs, ht, k⟩ := h
    obtain ⟨a, rfl, ha⟩ := cmd_at hc
    refine ⟨_, (pss_cons (ps_asg (pv 0) (pg_unlK K rfl (n := 2) rfl (pgs_cons (pg_name (i := 2) nd rfl (Or.inl rfl)) (pgs_cons (pg_name (i := 3) nd rfl (Or.inl rfl)) pgs_nil))))
      (pss_cons (ps_if (pt_cmpR op_eq (pe_ix (ix_tupK K rfl) (pv 1) pe_int (fun _ _ => rfl)) pe_str (nomark _)) (pss_one (ps_ret (pe_lst (pa_cons (pv 2) (pa_cons (pe_op op_add_str (pe_op op_add_str (pe_slice sl_str (pv 3) po_none (po_some (pe_ix (ix_tupK K rfl) (pv 1) pe_int (fun _ _ => rfl)))) (pe_ix (ix_tupK K rfl) (pv 1) pe_int (fun _ _ => rfl))) (pe_slice sl_str (pv 3) (po_some (pe_ix (ix_tupK K rfl) (pv 1) pe_int (fun _ _ => rfl))) po_none)) pa_nil))))) pss_nil)
      (pss_cons (ps_if (pt_cmpR op_eq (pe_ix (ix_tupK K rfl) (pv 1) pe_int (fun _ _ => rfl)) pe_str (nomark _)) (pss_one (ps_ret (pe_lst (pa_cons (pv 2) (pa_cons (pe_op op_add_str (pe_slice sl_str (pv 3) po_none (po_some (pe_ix (ix_tupK K rfl) (pv 1) pe_int (fun _ _ => rfl)))) (pe_slice sl_str (pv 3) (po_some (pe_ix (ix_tupK K rfl) (pv 1) pe_int (fun _ _ => rfl))) po_none)) pa_nil))))) pss_nil)
      (pss_cons (ps_if (pt_cmpR op_eq (pe_ix (ix_tupK K rfl) (pv 1) pe_int (fun _ _ => rfl)) pe_str (nomark _)) (pss_one (ps_ret (pe_lst (pa_cons (pv 2) (pa_cons (pe_op op_add_str (pe_op op_add_str (pe_slice sl_str (pv 3) po_none (po_some (pe_ix (ix_tupK K rfl) (pv 1) pe_int (fun _ _ => rfl)))) (pe_ix (ix_tupK K rfl) (pv 1) pe_int (fun _ _ => rfl))) (pe_slice sl_str (pv 3) (po_some (pe_ix (ix_tupK K rfl) (pv 1) pe_int (fun _ _ => rfl))) po_none)) pa_nil))))) pss_nil)
      (pss_cons (ps_if (pt_cmpR op_eq (pe_ix (ix_tupK K rfl) (pv 1) pe_int (fun _ _ => rfl)) pe_str (nomark _)) (pss_one (ps_ret (pe_lst (pa_cons (pe_callTy call_tuple_of (by rfl) T.b_tuple (by decide +kernel) (pa_cons (pe_callB cr_sortedE (by rfl) T.b_sorted (by decide +kernel) (pa_cons (pe_op op_cat (pe_callTy call_list_of (by rfl) T.b_list (by decide +kernel) (pa_cons (pv 2) pa_nil)) (pe_lst (pa_cons (pe_slice (sl_tupK K rfl) (pv 1) (po_some pe_int) po_none) pa_nil))) pa_nil)) pa_nil)) (pa_cons (pv 3) pa_nil))))) pss_nil)
      (pss_one (ps_ret (pe_lst (pa_cons (pe_callTy call_tuple_of (by rfl) T.b_tuple (by decide +kernel) (pa_cons (pe_lc (own := [("_law_entry", 4)]) (by rfl) nd (pi_tupK K rfl (pv 2)) (blkOk_by (N := ["_law_state", "_law_command_here", "_law_words_here", "_law_text_here", "_law_entry"]) (sc := defScope s_law_behind) (by decide +kernel)) (fun _ _ _ _ _ => (pg_name (i := 4) nd rfl (Or.inl rfl))) (fun _ _ _ _ _ => (pts_one (pt_cmpR op_ne (pe_ix (ix_tupK K rfl) (pv 4) pe_int (fun _ _ => rfl)) (pe_ix (ix_tupK K rfl) (pv 1) pe_int (fun _ _ => rfl)) (nomark _)))) (fun _ _ _ _ _ => (pv 4))) pa_nil)) (pa_cons (pv 3) pa_nil)))))))))), ?_⟩
    have l1 : ∀ n, (t.take n).length ≤ t.length := fun n => by rw [List.length_take]; omega
    have l2 : ∀ n, (t.drop n).length ≤ t.length := fun n => by rw [List.length_drop]; omega
    refine q_unpL (ev_var rfl) hb fun H0 e0 => ?_
    have ha0 := e0 _ _ ha
    have back : ∀ {H1 H2 : Hp} {v : V} {st : WL × Wd}, Ex H0 H1 → StN H1 st v H2 → StN H st v H2 := fun e ⟨b, w, h1, h2, h3⟩ => ⟨b, w, h1, fresh_back (e0.trans e) h2, h3⟩
    cases c with
    | ins i p =>
      have hs' : p.length ≤ 100 := hs
      have q1 := l1 i
      have q2 := l2 i
      refine q_yes (et_is (et_test (ev_eqS (ev_ixT (i := 0) (ev_var rfl) ha0 ev_c rfl) ev_c)) (decide_eq_true rfl)) fun H1 e1 => ?_
      have ha1 := e1 _ _ ha0
      exact s_retP (evp_stL (ws := ws) (t := t.take i ++ p ++ t.drop i) ((ev_p (ev_var rfl)).imp fun v H3 e3 ev => by rw [ev]; exact ((hx.ex e0).ex e1).ex e3) (ev_addS (a := t.take i ++ p) (b := t.drop i) (ev_addS (a := t.take i) (ev_is (ev_slS (ev_var rfl) eo_none (eo_some (ev_ixT (i := 1) (ev_var rfl) ha1 ev_c rfl)) (by omega)) (by rw [cut_to])) (ev_ixT (i := 2) (ev_var rfl) ha1 ev_c rfl) (by omega)) (ev_is (ev_slS (ev_var rfl) (eo_some (ev_ixT (i := 1) (ev_var rfl) ha1 ev_c rfl)) eo_none (by omega)) (by rw [cut_from])) (by rw [List.length_append]; omega))) fun v H2 e2 q => k v H2 ((e0.trans e1).trans e2) (back e1 q)
    | rem i j =>
      have q1 := l1 i
      have q2 := l2 j
      refine q_skip (et_is (et_test (ev_eqS (ev_ixT (i := 0) (ev_var rfl) ha0 ev_c rfl) ev_c)) (decide_eq_false n_rem_ins)) fun H1 e1 => ?_
      refine q_yes (et_is (et_test (ev_eqS (ev_ixT (i := 0) (ev_var rfl) (e1 _ _ ha0) ev_c rfl) ev_c)) (decide_eq_true rfl)) fun H2 e2 => ?_
      have e12 := e1.trans e2
      have ha2 := e12 _ _ ha0
      exact s_retP (evp_stL (ws := ws) (t := t.take i ++ [] ++ t.drop j) ((ev_p (ev_var rfl)).imp fun v H3 e3 ev => by rw [ev]; exact ((hx.ex e0).ex e12).ex e3) (ev_is (ev_addS (a := t.take i) (b := t.drop j) (ev_is (ev_slS (ev_var rfl) eo_none (eo_some (ev_ixT (i := 1) (ev_var rfl) ha2 ev_c rfl)) (by omega)) (by rw [cut_to])) (ev_is (ev_slS (ev_var rfl) (eo_some (ev_ixT (i := 2) (ev_var rfl) ha2 ev_c rfl)) eo_none (by omega)) (by rw [cut_from])) (by omega)) (by rw [List.append_nil]))) fun v H3 e3 q => k v H3 ((e0.trans e12).trans e3) (back e12 q)
    | rep i j p =>
      have hs' : p.length ≤ 100 := hs
      have q1 := l1 i
      have q2 := l2 j
      refine q_skip (et_is (et_test (ev_eqS (ev_ixT (i := 0) (ev_var rfl) ha0 ev_c rfl) ev_c)) (decide_eq_false n_rep_ins)) fun H1 e1 => ?_
      refine q_skip (et_is (et_test (ev_eqS (ev_ixT (i := 0) (ev_var rfl) (e1 _ _ ha0) ev_c rfl) ev_c)) (decide_eq_false n_rep_rem)) fun H2 e2 => ?_
      refine q_yes (et_is (et_test (ev_eqS (ev_ixT (i := 0) (ev_var rfl) (e2 _ _ (e1 _ _ ha0)) ev_c rfl) ev_c)) (decide_eq_true rfl)) fun H3 e3 => ?_
      have e13 := (e1.trans e2).trans e3
      have ha3 := e13 _ _ ha0
      exact s_retP (evp_stL (ws := ws) (t := t.take i ++ p ++ t.drop j) ((ev_p (ev_var rfl)).imp fun v H4 e4 ev => by rw [ev]; exact ((hx.ex e0).ex e13).ex e4) (ev_addS (a := t.take i ++ p) (b := t.drop j) (ev_addS (a := t.take i) (ev_is (ev_slS (ev_var rfl) eo_none (eo_some (ev_ixT (i := 1) (ev_var rfl) ha3 ev_c rfl)) (by omega)) (by rw [cut_to])) (ev_ixT (i := 3) (ev_var rfl) ha3 ev_c rfl) (by omega)) (ev_is (ev_slS (ev_var rfl) (eo_some (ev_ixT (i := 2) (ev_var rfl) ha3 ev_c rfl)) eo_none (by omega)) (by rw [cut_from])) (by rw [List.length_append]; omega))) fun v H4 e4 q => k v H4 ((e0.trans e13).trans e4) (back e13 q)
    | add u c =>
      refine q_skip (et_is (et_test (ev_eqS (ev_ixT (i := 0) (ev_var rfl) ha0 ev_c rfl) ev_c)) (decide_eq_false n_add_ins)) fun H1 e1 => ?_
      refine q_skip (et_is (et_test (ev_eqS (ev_ixT (i := 0) (ev_var rfl) (e1 _ _ ha0) ev_c rfl) ev_c)) (decide_eq_false n_add_rem)) fun H2 e2 => ?_
      refine q_skip (et_is (et_test (ev_eqS (ev_ixT (i := 0) (ev_var rfl) (e2 _ _ (e1 _ _ ha0)) ev_c rfl) ev_c)) (decide_eq_false n_add_rep)) fun H3 e3 => ?_
      refine q_yes (et_is (et_test (ev_eqS (ev_ixT (i := 0) (ev_var rfl) (e3 _ _ (e2 _ _ (e1 _ _ ha0))) ev_c rfl) ev_c)) (decide_eq_true rfl)) fun H4 e4 => ?_
      have e14 := ((e1.trans e2).trans e3).trans e4
      have ha4 := e14 _ _ ha0
      have e04 := e0.trans e14
      obtain ⟨d, xs, rfl, hd, hk, hE⟩ := wl_inv hx
      have hl : xs.length = ws.length := by rw [← hk, List.length_map]
      have hcut : cutV (cmdV (.add u c)) (some ((1 : Nat) : Int)) none = [vS u, .int c] := by rw [cutV_from]; rfl
      refine s_retP (evp_stL (ws := sortW (ws ++ [(u, c)])) ((evp_tupLP (P := KeysIs (sortW (ws ++ [(u, c)]))) (fun ys H H' e h => h.ext e) (evp_sorted (ws := ws ++ [(u, c)]) ((evp_catP (P := fun y H1 => ∃ r, y = .ref r ∧ H1 r = some (.tup [vS u, .int c])) (fun v H H' e ⟨r, h1, h2⟩ => ⟨r, h1, e _ _ h2⟩) (evl_p (el_listT (ev_var rfl) (e04 _ _ hd)))
        ((evp_lst1 (fun v H H' e ⟨r, h1, h2⟩ => ⟨r, h1, e _ _ h2⟩) ((evp_slT (lo := some ((1 : Nat) : Int)) (hi := none) (ev_var rfl) ha4 (eo_some ev_c) eo_none).imp fun v H2 _ ⟨p, h1, h2⟩ => ⟨p, h1, by rw [hcut] at h2; exact h2⟩)).imp fun v H1 _ ⟨p, y, h1, _, h3, h4⟩ => ⟨p, y, h1, h3, h4⟩) (by omega)).imp fun v H5 e5 ⟨p, y, h1, h3, r, h4, h5⟩ => ⟨p, _, h1, .inl h3, ?_⟩))).imp fun v H2 _ ⟨p, ys, ev, hp, hky⟩ => ?_) (ev_var rfl)) fun v H5 e5 q => k v H5 (e04.trans e5) (back e14 q)
      · have e12 : ExT H H5 := (ext_of e04).trans (ext_of e5)
        have k0 : KeysIs ws xs H5 := KeysIs.ext e12 ⟨hE, hk⟩
        have kr : keyE H5 (.ref r) = (u, c) := keyE_at h5
        subst h4
        refine ⟨fun y hy => ?_, ?_⟩
        · rcases List.mem_append.mp hy with h | h
          · exact k0.1 y h
          · rw [List.mem_singleton.mp h]
            exact ⟨r, rfl, by rw [kr]; exact h5⟩
        · rw [List.map_append, k0.2, List.map_cons, kr]
          rfl
      · subst ev
        have := wl_mk hp hky.1
        rw [hky.2] at this
        exact this
    | drop u =>
      refine q_skip (et_is (et_test (ev_eqS (ev_ixT (i := 0) (ev_var rfl) ha0 ev_c rfl) ev_c)) (decide_eq_false n_drop_ins)) fun H1 e1 => ?_
      refine q_skip (et_is (et_test (ev_eqS (ev_ixT (i := 0) (ev_var rfl) (e1 _ _ ha0) ev_c rfl) ev_c)) (decide_eq_false n_drop_rem)) fun H2 e2 => ?_
      refine q_skip (et_is (et_test (ev_eqS (ev_ixT (i := 0) (ev_var rfl) (e2 _ _ (e1 _ _ ha0)) ev_c rfl) ev_c)) (decide_eq_false n_drop_rep)) fun H3 e3 => ?_
      refine q_skip (et_is (et_test (ev_eqS (ev_ixT (i := 0) (ev_var rfl) (e3 _ _ (e2 _ _ (e1 _ _ ha0))) ev_c rfl) ev_c)) (decide_eq_false n_add_drop)) fun H4 e4 => ?_
      have e14 := ((e1.trans e2).trans e3).trans e4
      have ha4 := e14 _ _ ha0
      have e04 := e0.trans e14
      obtain ⟨d, xs, rfl, hd, hk, hE⟩ := wl_inv hx
      have hl : xs.length = ws.length := by rw [← hk, List.length_map]
      refine s_retP (evp_stL (ws := ws.filter fun e => !decide (e.1 = u)) ((evp_tupL (el_lc (l := xs) (fv := id) (fun x => !decide ((keyE H x).1 = u)) id (ei_id (ei_tup (ev_var rfl) fun _ e => SqT.of (e _ _ (e04 _ _ hd)))) (by omega) fun y hy => ?_)).imp fun v H2 e2 ⟨p, ev, hp⟩ => ?_) (ev_var rfl)) fun v H5 e5 q => k v H5 (e04.trans e5) (back e14 q)
      · obtain ⟨t', rfl, ht'⟩ := hE y hy
        exact ⟨_, bnd_name, rfl, et_is (et_test (ev_neS (ev_ixT (i := 0) (ev_var rfl) (e04 _ _ ht') ev_c rfl) (ev_ixT (i := 1) (ev_var rfl) ha4 ev_c rfl))) (by rw [dec_S]), fun _ => ev_var rfl⟩
      · subst ev
        rw [List.map_id] at hp
        have e02 : ExT H H2 := (ext_of e04).trans (ext_of e2)
        have k0 : KeysIs (ws.filter fun e => !decide (e.1 = u)) (xs.filter fun x => !decide ((keyE H x).1 = u)) H := by
          refine ⟨fun y hy => hE y (List.mem_filter.mp hy).1, ?_⟩
          rw [← hk, List.filter_map]
          rfl
        have k2 := k0.ext e02
        have := wl_mk hp k2.1
        rw [k2.2] at this
        exact this
end
end G
/-! the law: why -/
namespace G
open PySem PySem.Spec PyProof.Rows L2 Evl

theorem empty_iff (z : Str) : True := trivial
/-- why a command can be done, as the law says it -/
def Why (b : Bool) : V → Hp → Prop := fun v _ => ∃ z : Str, v = .str z ∧ decide (z = "") = b
theorem why_no {z : Str} (h : ¬ z = "") (H : Hp) : Why false (.str z) H := ⟨z, rfl, decide_eq_false h⟩
theorem why_yes (H : Hp) : Why true (.str "") H := ⟨"", rfl, decide_eq_true rfl⟩
theorem one_name {l : List Wd} {u : Wd} (hn : l.Nodup) (hu : u ∈ l) : (l.filter fun x => !decide (x = u)).isEmpty = decide (l.length = 1) := by
  by_cases h : l.length = 1
  · rw [decide_eq_true h]
    match l, h, hu with
    | [x], _, hu =>
      rw [List.mem_singleton.mp hu]
      simp
  · rw [decide_eq_false h]
    rw [Bool.eq_false_iff]
    intro he
    rw [List.isEmpty_iff, List.filter_eq_nil_iff] at he
    match l, hn, hu, h, he with
    | [x], _, _, h, _ => exact h rfl
    | x :: y :: r, hn, hu, h, he =>
      have h1 := he x (by simp)
      have h2 := he y (by simp)
      simp at h1 h2
      rw [List.nodup_cons] at hn
      exact hn.1 (by rw [h1, h2]; simp)
theorem any_same {l : List Wd} {t u : Wd} (p : Wd → Bool) : ((l.filter fun x => !decide (x = u)) ++ [t]).any p = ((t :: l).filter fun o => (!decide (o = u) || decide (o = t))).any p := by
  rw [Bool.eq_iff_iff, List.any_eq_true, List.any_eq_true]
  constructor
  · rintro ⟨x, hx, hp⟩
    refine ⟨x, ?_, hp⟩
    rw [List.mem_filter]
    rcases List.mem_append.mp hx with h | h
    · obtain ⟨h1, h2⟩ := List.mem_filter.mp h
      exact ⟨List.mem_cons_of_mem _ h1, by rw [h2]; rfl⟩
    · rw [List.mem_singleton.mp h]
      exact ⟨List.mem_cons_self .., by simp⟩
  · rintro ⟨x, hx, hp⟩
    refine ⟨x, ?_, hp⟩
    obtain ⟨h1, h2⟩ := List.mem_filter.mp hx
    rw [List.mem_append]
    rcases List.mem_cons.mp h1 with h | h
    · exact .inr (by rw [h]; simp)
    · by_cases ht : x = t
      · exact .inr (by rw [ht]; simp)
      · rw [Bool.or_eq_true, decide_eq_true_eq] at h2
        exact .inl (List.mem_filter.mpr ⟨h, h2.resolve_right ht⟩)
theorem ev_ixLP {K : PySem.W.Frag} {σ : L2.St} {H : Hp} {te : TE} {i : Nat} {y : V} (h : EvP te σ H (fun v H1 => ∃ b xs, v = .ref b ∧ H1 b = some (.lst xs) ∧ xs[i]? = some y)) : Ev (tOp (rIxL K) te (tC (.int (i : Int)))) σ H y := fun H1 e Q q =>
  h H1 e _ fun v H2 e2 ⟨b, xs, ev, hb, hy⟩ => by
    subst ev
    exact ⟨b, xs, (i : Int), y, rfl, rfl, SqL.of hb, atI_n hy, q H2 e2⟩
section
variable {P : Program} {w : World} {K : PySem.W.Frag} {mg : Str → Option Value} {base : Heap}
def sp_lwhy : Sp := fun vs H Q _ => ∃ (b : Addr) (x v : V) (ws : WL) (t : Wd) (c : Cmd), vs = [.ref b, v] ∧ H b = some (.lst [x, vS t]) ∧ RD H (wlD ws) x ∧ Valid ws ∧ RD H (cmdD c) v ∧ CmdSm c ∧ t.length ≤ 100 ∧ RetP (Why (possB ws t c)) H Q
theorem sc_law_why : FnScope ["_law_state", "_law_command_here", "_law_names", "_law_others", "_law_word", "_law_cost_here", "_law_letter", "_law_one"] ["_law_state", "_law_command_here"] (defScope s_law_why) := ⟨rfl, rfl, rfl, by decide +kernel, rfl, by decide +kernel, by decide +kernel⟩
theorem ok_law_why (T : Txt K mg w) : Ok P w K mg base 2 "_law_why" ["_law_state", "_law_command_here"] sp_lwhy := by
  have nd := sc_law_why.nd
  refine Ok.mk T.d_law_why sc_law_why (fun _ _ _ _ _ _ us hl => match us, hl with | [_, _], _ => rfl) (fun vs H Q E h => ?_) fun f cdv A outer s H vs Q E hr h => ?_
  · obtain ⟨_, _, _, _, _, _, rfl, _⟩ := h
    rfl
  · obtain ⟨b, x, v, ws, t, c, rfl, hb, hx, hV, hc, hs, ht, k⟩ := h
    obtain ⟨a, rfl, ha⟩ := cmd_at hc
    have h8 := hV.le
    refine ⟨_, (pss_cons (ps_set (i := 2) nd rfl (Or.inr rfl) (pe_lc (own := [("_law_word", 4), ("_law_cost_here", 5)]) (by rfl) nd (pi_tupK K rfl (pe_ix (ix_listK K rfl) (pv 0) pe_int (fun _ _ => rfl))) (blkOk_by (N := ["_law_state", "_law_command_here", "_law_names", "_law_others", "_law_word", "_law_cost_here", "_law_letter", "_law_one"]) (sc := defScope s_law_why) (by decide +kernel)) (fun _ _ _ _ _ => (pg_tupK K rfl (n := 2) rfl (pgs_cons (pg_name (i := 4) nd rfl (Or.inl rfl)) (pgs_cons (pg_name (i := 5) nd rfl (Or.inl rfl)) pgs_nil)))) (fun _ _ _ _ _ => pts_nil) (fun _ _ _ _ _ => (pv 4))))
      (pss_cons (ps_if (pt_cmpR op_eq (pe_ix (ix_tupK K rfl) (pv 1) pe_int (fun _ _ => rfl)) pe_str (nomark _)) (pss_cons (ps_if (pt_cmpR (op_inK K rfl) (pe_ix (ix_tupK K rfl) (pv 1) pe_int (fun _ _ => rfl)) (pv 2) (by rfl)) (pss_one (ps_ret pe_str)) pss_nil)
      (pss_cons (ps_if (PW.pt (pw_and (pt_cmpR op_gt (pe_callB call_len_str (by rfl) T.b_len PySem.boot_len (pa_cons (pe_ix (ix_tupK K rfl) (pv 1) pe_int (fun _ _ => rfl)) pa_nil)) pe_int (nomark _)) (pw_and1 (pt_not (pt_val (pe_callB (cr_allK K rfl rfl) (by rfl) T.b_all (by decide +kernel) (pa_cons (pe_lc (own := [("_law_letter", 6)]) (by rfl) nd (pi_str (pe_ix (ix_tupK K rfl) (pv 1) pe_int (fun _ _ => rfl))) (blkOk_by (N := ["_law_state", "_law_command_here", "_law_names", "_law_others", "_law_word", "_law_cost_here", "_law_letter", "_law_one"]) (sc := defScope s_law_why) (by decide +kernel)) (fun _ _ _ _ _ => (pg_name (i := 6) nd rfl (Or.inl rfl))) (fun _ _ _ _ _ => pts_nil) (fun _ _ _ _ _ => (pe_cmpR (op_inK K rfl) (pv 6) (pv 2) (by rfl)))) pa_nil))))))) (pss_one (ps_ret pe_str)) pss_nil)
      (pss_one (ps_ret (pe_ifExp (pt_cmpR op_eq (pe_callB (call_lenK K rfl) (by rfl) T.b_len PySem.boot_len (pa_cons (pv 2) pa_nil)) pe_int (nomark _)) pe_str pe_str))))) pss_nil)
      (pss_cons (ps_if (pt_cmpR op_eq (pe_ix (ix_tupK K rfl) (pv 1) pe_int (fun _ _ => rfl)) pe_str (nomark _)) (pss_cons (ps_if (pt_cmpR (op_notInK K rfl) (pe_ix (ix_tupK K rfl) (pv 1) pe_int (fun _ _ => rfl)) (pv 2) (by rfl)) (pss_one (ps_ret pe_str)) pss_nil)
      (pss_cons (ps_setLc (i := 3) (own := [("_law_word", 4)]) (by rfl) nd rfl rfl (sw_true rfl rfl rfl (by decide +kernel)) (pi_listK K rfl (pv 2)) (blkOk_by (N := ["_law_state", "_law_command_here", "_law_names", "_law_others", "_law_word", "_law_cost_here", "_law_letter", "_law_one"]) (sc := defScope s_law_why) (by decide +kernel)) (fun _ _ _ _ _ => (pg_name (i := 4) nd rfl (Or.inl rfl))) (fun _ _ _ _ _ => (pts_one (pt_cmpR op_ne (pv 4) (pe_ix (ix_tupK K rfl) (pv 1) pe_int (fun _ _ => rfl)) (nomark _)))) (fun _ _ _ _ _ => (pv 4)))
      (pss_cons (ps_if (PW.pt (pw_and (pt_truth (pv 3) (by intro _; rfl)) (pw_and1 (PW.pt (pw_or (pt_cmpR op_gt (pe_callB call_len_str (by rfl) T.b_len PySem.boot_len (pa_cons (pe_ix (ix_tupK K rfl) (pv 1) pe_int (fun _ _ => rfl)) pa_nil)) pe_int (nomark _)) (pw_or1 (pt_not (pt_val (pe_callB (cr_anyK K rfl rfl) (by rfl) T.b_any (by decide +kernel) (pa_cons (pe_lc (own := [("_law_one", 7)]) (by rfl) nd (pi_listK K rfl (pe_op op_cat (pv 3) (pe_lst (pa_cons (pe_ix (ix_listK K rfl) (pv 0) pe_int (fun _ _ => rfl)) pa_nil)))) (blkOk_by (N := ["_law_state", "_law_command_here", "_law_names", "_law_others", "_law_word", "_law_cost_here", "_law_letter", "_law_one"]) (sc := defScope s_law_why) (by decide +kernel)) (fun _ _ _ _ _ => (pg_name (i := 7) nd rfl (Or.inl rfl))) (fun _ _ _ _ _ => pts_nil) (fun _ _ _ _ _ => (pe_cmpR op_in_sign (pe_ix (ix_tupK K rfl) (pv 1) pe_int (fun _ _ => rfl)) (pv 7) (by rfl)))) pa_nil)))))))))) (pss_one (ps_ret pe_str)) pss_nil)
      (pss_one (ps_ret pe_str))))) pss_nil)
      (pss_one (ps_ret (pe_ifExp (pt_cmpR op_gt (pe_callB call_len_str (by rfl) T.b_len PySem.boot_len (pa_cons (pe_ix (ix_listK K rfl) (pe_fn (ok_law_behind T) hr (pa_cons (pv 0) (pa_cons (pv 1) pa_nil))) pe_int (fun _ _ => rfl)) pa_nil)) pe_int (nomark _)) pe_str pe_str)))))), ?_⟩
    refine q_asgP (evp_ents hx (by omega) (ev_ixL (i := 0) (ev_var rfl) hb ev_c rfl) (fun _ => true) vS fun e he => ⟨rfl, et_yes, fun _ => ev_var rfl⟩) fun v H1 e1 ⟨p, ev, hp⟩ => ?_
    rw [List.filter_eq_self.mpr (fun _ _ => rfl)] at hp
    subst ev
    have ha1 := e1 _ _ ha
    rcases cmd_kind c with ⟨z, zs, hv, na, nd', hi⟩ | ⟨u, c, rfl⟩ | ⟨u, rfl⟩
    · rw [hv] at ha1
      refine q_skip (et_is (et_test (ev_eqS (ev_ixT (i := 0) (ev_var rfl) ha1 ev_c rfl) ev_c)) (decide_eq_false na)) fun H2 e2 => ?_
      refine q_skip (et_is (et_test (ev_eqS (ev_ixT (i := 0) (ev_var rfl) (e2 _ _ ha1) ev_c rfl) ev_c)) (decide_eq_false nd')) fun H3 e3 => ?_
      have e13 := (e1.trans e2).trans e3
      have hbe : behindS ws t c = (ws, editW t c) := by cases c <;> first | rfl | exact hi.elim
      have hpo : possB ws t c = !decide (30 < (editW t c).length) := by cases c <;> first | rfl | exact hi.elim
      have hel := editW_len ht hs
      refine s_retP (evp_if (P := Why (possB ws t c)) (b := decide (30 < (editW t c).length)) (et_is (et_test (ev_op (ev_lenW (l := editW t c) (ev_ixLP (i := 1) ((evp_call (P := StN H3 (behindS ws t c)) (ea_cons (ev_var rfl) (ea_cons (ev_var rfl) ea_nil)) fun H5 e5 Q q E => ⟨b, x, .ref a, ws, t, c, rfl, e5 _ _ (e13 _ _ hb), hx.ex (e13.trans e5), hV.ge, h8, hc.ex (e13.trans e5), hs, ht, fun v H6 e6 ⟨b1, w1, g1, g2, g3, g4⟩ => q v H6 e6 ⟨b1, w1, g1, fresh_back e5 g2, g3, g4⟩⟩).imp fun v H5 _ ⟨bb, ww, ev, _, hbb, _⟩ => ⟨bb, _, ev, hbb, by rw [hbe]; rfl⟩)) (by omega)) ev_c rv_I0)) (dec_lt 30 _)) (fun h => (ev_p ev_c).imp fun v H5 e5 hv => ?_) fun h => (ev_p ev_c).imp fun v H5 e5 hv => ?_) fun v H4 e4 hv => k v H4 (e13.trans e4) hv
      · subst hv
        rw [hpo, h]
        exact why_no (by decide +kernel) _
      · subst hv
        rw [hpo, h]
        exact why_yes _
    · have hs' : u.length ≤ 100 := hs
      refine q_yes (et_is (et_test (ev_eqS (ev_ixT (i := 0) (ev_var rfl) ha1 ev_c rfl) ev_c)) (decide_eq_true rfl)) fun H2 e2 => ?_
      have ha2 := e2 _ _ ha1
      have hp2 := e2 _ _ hp
      have hpo : possB ws t (.add u c) = ((!decide (u ∈ names ws) && !(decide (1 < u.length) && !(u.all fun c => decide ([c] ∈ names ws)))) && !decide (ws.length = 8)) := rfl
      refine q_when (et_is (et_test (ev_op (ev_ixT (i := 1) (ev_var rfl) ha2 ev_c rfl) (ev_var rfl) (rv_isL (SqL.of hp2) rfl (flat_S _)))) (inV_S u (names ws))) (fun hb2 H3 e3 => ?_) fun hb2 H3 e3 => ?_
      · refine s_ret ev_c fun H4 e4 => k _ H4 (((e1.trans e2).trans e3).trans e4) ?_
        rw [hpo, hb2]
        exact why_no (by decide +kernel) _
      · have ha3 := e3 _ _ ha2
        have hp3 := e3 _ _ hp2
        refine q_when (et_and (a := decide (1 < u.length)) (b := !(u.all fun c => decide ([c] ∈ names ws))) (et_is (et_test (ev_op (ev_lenW (ev_ixT (i := 1) (ev_var rfl) ha3 ev_c rfl) (by omega)) ev_c rv_I0)) (dec_1lt _)) fun _ => et_not (et_B (ev_allC (fv := fun c => V.str ⟨#[c]⟩) (l := u) (fun c => decide ([c] ∈ names ws)) (ei_strL (ev_ixT (i := 1) (ev_var rfl) ha3 ev_c rfl)) (by omega) fun c hc => ⟨_, bnd_name, rfl,
          ev_is (ev_op (ev_var rfl) (ev_var rfl) (rv_isL (SqL.of hp3) rfl (flat_S _))) (congrArg V.bl (inV_S [c] (names ws)))⟩))) (fun hb3 H4 e4 => ?_) fun hb3 H4 e4 => ?_
        · refine s_ret ev_c fun H5 e5 => k _ H5 ((((e1.trans e2).trans e3).trans e4).trans e5) ?_
          rw [hpo, hb2, hb3]
          exact why_no (by decide +kernel) _
        · refine s_retP (evp_if (P := Why (possB ws t (.add u c))) (b := decide (ws.length = 8)) (et_is (et_test (ev_op (ev_lenL (ev_var rfl) (e4 _ _ hp3)) ev_c (rv_eq rfl))) ?_) (fun h => (ev_p ev_c).imp fun v H5 e5 hv => ?_) fun h => (ev_p ev_c).imp fun v H5 e5 hv => ?_) fun v H5 e5 hv => k v H5 ((((e1.trans e2).trans e3).trans e4).trans e5) hv
          · rw [List.length_map, show (names ws).length = ws.length from List.length_map ..]
            by_cases h : ws.length = 8
            · rw [h]; rfl
            · rw [decide_eq_false h, decide_eq_false fun q => h (by have := V.int.inj q; omega)]
          · subst hv
            rw [hpo, hb2, hb3, h]
            exact why_no (by decide +kernel) _
          · subst hv
            rw [hpo, hb2, hb3, h]
            exact why_yes _
    · have hs' : u.length ≤ 100 := hs
      have hnm : (names ws).length = ws.length := List.length_map ..
      refine q_skip (et_is (et_test (ev_eqS (ev_ixT (i := 0) (ev_var rfl) ha1 ev_c rfl) ev_c)) (decide_eq_false n_add_drop)) fun H0 e0 => ?_
      refine q_yes (et_is (et_test (ev_eqS (ev_ixT (i := 0) (ev_var rfl) (e0 _ _ ha1) ev_c rfl) ev_c)) (decide_eq_true rfl)) fun H2 e2 => ?_
      have e02 := (e1.trans e0).trans e2
      have ha2 := e02 _ _ ha
      have hb2 := e02 _ _ hb
      have hp2 := e2 _ _ (e0 _ _ hp)
      have hpo : possB ws t (.drop u) = ((decide (u ∈ names ws) && !decide ((names ws).length = 1)) && !(decide (u.length = 1) && ((t :: names ws).filter fun o => (!decide (o = u) || decide (o = t))).any fun o => decide (u.headD 0 ∈ o))) := rfl
      refine q_when (b := !decide (u ∈ names ws)) (et_is (et_test (ev_op (ev_ixT (i := 1) (ev_var rfl) ha2 ev_c rfl) (ev_var rfl) (rv_niL (SqL.of hp2) rfl (flat_S _)))) (by rw [inV_S])) (fun hu H3 e3 => ?_) fun hu H3 e3 => ?_
      · refine s_ret ev_c fun H4 e4 => k _ H4 ((e02.trans e3).trans e4) ?_
        rw [Bool.not_eq_true'] at hu
        rw [hpo, hu]
        exact why_no (by decide +kernel) _
      · rw [Bool.not_eq_false', decide_eq_true_eq] at hu
        obtain ⟨hu1, hu4⟩ := mem_names_len hV hu
        have hlu : decide (1 < u.length) = !decide (u.length = 1) := by
          by_cases h : u.length = 1
          · rw [decide_eq_true h, decide_eq_false (by omega)]; rfl
          · rw [decide_eq_false h, decide_eq_true (by omega)]; rfl
        have ha3 := e3 _ _ ha2
        refine q_asgP (el_lc (l := names ws) (fv := vS) (fun y => !decide (y = u)) vS (ei_list (ev_var rfl) fun H4 e4 => SqL.of (e4 _ _ (e3 _ _ hp2))) (by omega) fun y _ => ⟨_, bnd_name, rfl, et_is (et_test (ev_neS (ev_var rfl) (ev_ixT (i := 1) (ev_var rfl) ha3 ev_c rfl))) (by rw [dec_S]), fun _ => ev_var rfl⟩) fun v H4 e4 ⟨q, ev, hq⟩ => ?_
        subst ev
        have ha4 := e4 _ _ ha3
        have e04 := (e02.trans e3).trans e4
        have hb4 := e04 _ _ hb
        refine q_when (et_and (a := !decide ((names ws).length = 1)) (b := decide (1 < u.length) || !(((names ws).filter fun x => !decide (x = u)) ++ [t]).any fun o => decide (u.headD 0 ∈ o)) (et_is (et_tru (ev_var rfl) (tru_L hq)) ?_) fun h1 => et_or (et_is (et_test (ev_op (ev_lenW (ev_ixT (i := 1) (ev_var rfl) ha4 ev_c rfl) (by omega)) ev_c rv_I0)) (dec_1lt _)) fun h2 => ?_) (fun hc H5 e5 => ?_) fun hc H5 e5 => ?_
        · rw [List.isEmpty_map, one_name (names_nd hV) hu]
        · have hu1' : u.length = 1 := by
            have := of_decide_eq_false h2
            omega
          obtain ⟨d, rfl⟩ : ∃ d, u = [d] := by
            match u, hu1' with
            | [d], _ => exact ⟨d, rfl⟩
          refine et_not (et_B (ev_anyC (fv := vS) (l := ((names ws).filter fun x => !decide (x = [d])) ++ [t]) (fun o => decide (d ∈ o)) (ei_listP ((evp_cat (ys := [vS t]) (evl_of (ev_var rfl) hq) (evl_p (el_lst (ea_cons (ev_ixL (i := 1) (ev_var rfl) hb4 ev_c rfl) ea_nil) (by simp))) (by
            rw [List.length_map]
            exact Nat.le_trans (Nat.add_le_add_right (List.length_filter_le _ _) _) (by simp; omega))).imp fun v H1 _ ⟨p, ev, hp⟩ => ⟨p, ev, by rw [List.map_append]; exact hp⟩)) ?_ fun o ho => ⟨_, bnd_name, rfl, ev_op (ev_ixT (i := 1) (ev_var rfl) ha4 ev_c rfl) (ev_var rfl) rv_in⟩))
          rw [List.length_append]
          exact Nat.le_trans (Nat.add_le_add_right (List.length_filter_le _ _) _) (by simp; omega)
        · refine s_ret ev_c fun H6 e6 => k _ H6 ((e04.trans e5).trans e6) ?_
          rw [any_same, hlu] at hc
          rw [hpo, decide_eq_true hu, Bool.true_and, Bool.not_and, hc]
          exact why_yes _
        · refine s_ret ev_c fun H6 e6 => k _ H6 ((e04.trans e5).trans e6) ?_
          rw [any_same, hlu] at hc
          rw [hpo, decide_eq_true hu, Bool.true_and, Bool.not_and, hc]
          exact why_no (by decide +kernel) _
end
end G
/-! the law: has_form, takes -/
namespace G
open PySem PySem.Spec PyProof.Rows L2 Evl

/-! ### what the law judges -/
def Low (u : Wd) : Prop := u.length ≤ 100 ∧ ∀ c ∈ u, c < 1000
/-- what a command of the law is by itself -/
def Strc : Cmd → Prop
  | .ins _ p => p.length ≤ 30
  | .rem i j => i ≤ j
  | .rep i j p => i ≤ j ∧ p.length ≤ 30
  | .add u c => okL u = true ∧ 1 ≤ c ∧ c ≤ 9
  | .drop u => u.length ≤ 100
theorem strc_sm {c : Cmd} (h : Strc c) : CmdSm c := by
  cases c with
  | ins i p => exact Nat.le_trans h (by decide)
  | rem i j => trivial
  | rep i j p => exact Nat.le_trans h.2 (by decide)
  | add u c => exact Nat.le_trans (okL_len h.1).2 (by decide)
  | drop u => exact h
def CmdX (d : PyData) : Prop := (∃ c, d = cmdD c ∧ Strc c) ∨ d = .none ∨ d = .tuple []
def txts (us : List Wd) : List PyData := us.map fun u => .str (S u)
def RowX (d : PyData) : Prop := d = .none ∨ ∃ us : List Wd, (d = rowD us ∨ d = .list (txts us)) ∧ us.length ≤ 100 ∧ ∀ u ∈ us, Low u
def RecX (d : PyData) : Prop := d = .none ∨ (∃ c, d = .tuple [c]) ∨ (∃ c r, d = .tuple [c, r] ∧ CmdX c ∧ RowX r) ∨ d = .dict []
theorem cmdx_dom {d : PyData} (h : CmdX d) : Dom d := by
  rcases h with ⟨c, rfl, hc⟩ | rfl | rfl
  · exact dom_cmd (strc_sm hc)
  · trivial
  · trivial
theorem rowx_k {d : PyData} (h : RowX d) : RowK d := by
  rcases h with rfl | ⟨us, rfl | rfl, h1, h2⟩
  · trivial
  · exact ⟨us, rfl, h1, fun u hu => (h2 u hu).1⟩
  · trivial
theorem recx_k {d : PyData} (h : RecX d) : RecK d := by
  rcases h with rfl | ⟨c, rfl⟩ | ⟨c, r, rfl, h1, h2⟩ | rfl
  · trivial
  · trivial
  · exact ⟨cmdx_dom h1, rowx_k h2⟩
  · trivial
theorem eqv_txts : ∀ (us vs : List Wd), PyData.eqvAll (txts us) (txts vs) = decide (us = vs)
  | [], [] => rfl
  | [], v :: vs => by rw [decide_eq_false (by simp)] <;> rfl
  | u :: us, [] => by rw [decide_eq_false (by simp)] <;> rfl
  | u :: us, v :: vs => by
    show (PyData.eqv (.str (S u)) (.str (S v)) && PyData.eqvAll (txts us) (txts vs)) = _
    rw [eqv_txts us vs]
    have : PyData.eqv (.str (S u)) (.str (S v)) = decide (u = v) := by
      rw [PyData.eqv]
      by_cases h : u = v
      · rw [h, decide_eq_true rfl]; simp
      · rw [decide_eq_false h, beq_eq_false_iff_ne]
        intro e
        exact h (by have := congrArg (fun z : Str => z.cps.toList) e; rwa [S_list, S_list] at this)
    rw [this]
    by_cases h : u = v
    · subst h
      simp
    · rw [decide_eq_false h, decide_eq_false (fun e => h (List.cons.inj e).1)] <;> rfl
theorem eqv_row {d : PyData} (h : RowX d) (l : List Wd) : PyData.eqv d (rowD l) = (match rowOf d with | some us => decide (us = l) | none => false) := by
  rcases h with rfl | ⟨us, rfl | rfl, h1, h2⟩
  · rfl
  · rw [rowOf_row]
    show PyData.eqvAll (txts us) (txts l) = _
    exact eqv_txts us l
  · rfl
theorem lay_txts : ∀ {us : List Wd}, (∀ u ∈ us, Low u) → PyData.canLayAll0 (txts us) = true ∧ PyData.depthAll (txts us) = 0
  | [], _ => ⟨rfl, rfl⟩
  | u :: us, h => by
    obtain ⟨h1, h2⟩ := lay_txts fun v hv => h v (List.mem_cons_of_mem _ hv)
    have hs : PyData.strOk (S u) = true := by
      unfold PyData.strOk
      rw [Array.all_eq_true']
      intro c hc
      have := (h u (List.mem_cons_self ..)).2 c (by rw [← S_list u]; exact Array.mem_toList_iff.mpr hc)
      rw [decide_eq_true_eq]
      omega
    refine ⟨?_, ?_⟩
    · show (PyData.strOk (S u) && PyData.canLayAll0 (txts us)) = true
      rw [hs, h1]; rfl
    · show max 0 (PyData.depthAll (txts us)) = 0
      rw [h2]; rfl
theorem shaped_rowx {d : PyData} (h : RowX d) : SeqAt.shaped d = true := by
  rcases h with rfl | ⟨us, h | h, h1, h2⟩
  · rfl
  · subst h
    obtain ⟨g1, g2⟩ := lay_txts h2
    show (PyData.canLayAll0 (txts us) && decide (PyData.depthAll (txts us) + 1 ≤ 64)) = true
    rw [g1, g2]; rfl
  · subst h
    obtain ⟨g1, g2⟩ := lay_txts h2
    show (PyData.canLayAll0 (txts us) && decide (PyData.depthAll (txts us) + 1 ≤ 64)) = true
    rw [g1, g2]; rfl
theorem dp_txts {K : PySem.W.Frag} {H : Hp} : ∀ {us : List Wd}, DpAll K H (us.map vS) (txts us)
  | [] => .nil
  | _ :: _ => .cons (.str _) dp_txts
theorem row_dp {K : PySem.W.Frag} {H : Hp} {d : PyData} {v : V} (hx : RowX d) (h : RL H d v) : Dp K H v d := by
  rcases hx with rfl | ⟨us, rfl | rfl, h1, h2⟩
  · cases h; exact .non
  · obtain ⟨a, xs, rfl, ha, hs⟩ := h.tup_inv
    rw [rls_texts hs] at ha
    exact .tup (SqT.of ha) dp_txts
  · generalize hd : PyData.list (txts us) = d at h
    cases h with
    | lst ha =>
      rename_i a l
      have : l = us := by
        have h1 := PyData.list.inj hd
        have h2 := congrArg strsOf h1
        rw [show strsOf (txts us) = some us from strsOf_map us, strsOf_map] at h2
        exact (Option.some.inj h2).symm
      subst this
      exact .lst (SqL.of ha) dp_txts
    | _ => cases hd
section
variable {P : Program} {w : World} {K : PySem.W.Frag} {mg : Str → Option Value} {base : Heap}
def sp_isint : Sp := fun vs H Q _ => ∃ (x : V) (d : PyData), vs = [x] ∧ RL H d x ∧ RetV (.bl (dInt d && !dBool d)) H Q
theorem sc_law_is_integer : FnScope ["_law_actual"] ["_law_actual"] (defScope s_law_is_integer) := ⟨rfl, rfl, rfl, by decide +kernel, rfl, by decide +kernel, by decide +kernel⟩
theorem ok_law_is_integer (T : Txt K mg w) : Ok P w K mg base 1 "_law_is_integer" ["_law_actual"] sp_isint := by
  have nd := sc_law_is_integer.nd
  refine Ok.mk T.d_law_is_integer sc_law_is_integer (fun _ _ _ _ _ _ us hl => match us, hl with | [_], _ => rfl) (fun vs H Q E h => ?_) fun f cdv A outer s H vs Q E hr h => ?_
  · obtain ⟨_, _, rfl, _⟩ := h
    rfl
  · obtain ⟨x, d, rfl, hd, k⟩ := h
    refine ⟨_, (pss_one (ps_ret (pe_and (pe_callB (call_isK K rfl) (by rfl) T.b_isinstance (by decide +kernel) (pa_cons (pv 0) (pa_cons (pe_tyb "int" T.b_int) pa_nil))) (pe_one (pe_not (pe_callB (call_isK K rfl) (by rfl) T.b_isinstance (by decide +kernel) (pa_cons (pv 0) (pa_cons (pe_tyb "bool" T.b_bool) pa_nil)))))))), ?_⟩
    exact s_ret (ev_andV (isi_int (ev_var rfl) hd) fun _ => ev_notV (isi_bool (ev_var rfl) hd)) k

/-! has_form -/
def vInt : V → Bool | .int _ => true | _ => false
def leV (n : Nat) : V → Bool | .int i => decide (i ≤ (n : Int)) | _ => false
def vTxt : V → Bool | .str _ => true | _ => false
def inLV (ws : WL) : V → Bool | .str z => z.cps.toList.all fun c => decide ([c] ∈ names ws) | _ => false
def five : List V := [.str "insert", .str "remove", .str "replace", .str "add", .str "drop"]
def two : List V := [.str "add", .str "drop"]
def isAD : Cmd → Bool | .add _ _ => true | .drop _ => true | _ => false
theorem S_iff {a b : Wd} : S a = S b ↔ a = b := ⟨fun h => by have := congrArg (fun z : Str => z.cps.toList) h; rwa [S_list, S_list] at this, fun h => by rw [h]⟩
theorem cmdD_inj {c k : Cmd} (h : cmdD c = cmdD k) : c = k := by
  cases c <;> cases k <;> simp [cmdD, S_iff, n_rem_ins, n_rep_ins, n_rep_rem, n_add_ins, n_add_rem, n_add_rep, n_drop_ins, n_drop_rem, n_drop_rep, n_ins_add, n_rem_add, n_rep_add, n_ins_drop, n_rem_drop, n_rep_drop, n_add_drop, fun q => n_rem_ins (Eq.symm q), fun q => n_rep_ins (Eq.symm q), fun q => n_rep_rem (Eq.symm q)] at h
  all_goals first
    | exact congrArg _ h
    | (obtain ⟨h1, h2⟩ := h; simp [h2]; omega)
    | (obtain ⟨h1, h2, h3⟩ := h; simp [h3]; omega)
    | simp_all
theorem two_ins : inV (.str "insert") two = false := by decide +kernel
theorem two_rem : inV (.str "remove") two = false := by decide +kernel
theorem two_rep : inV (.str "replace") two = false := by decide +kernel
theorem two_add : inV (.str "add") two = true := by decide +kernel
theorem two_drop : inV (.str "drop") two = true := by decide +kernel
theorem cmd_head (c : Cmd) : ∃ z xs, cmdV c = .str z :: xs ∧ inV (.str z) five = true ∧ inV (.str z) two = isAD c ∧ (∀ x ∈ xs, (∃ i : Int, x = .int i) ∨ ∃ u, x = vS u ∧ (∀ (h : CmdSm c), u.length ≤ 100)) := by
  cases c with
  | ins i p => exact ⟨_, _, rfl, by decide +kernel, two_ins, fun x hx => by
      simp only [List.mem_cons, List.not_mem_nil, or_false] at hx
      rcases hx with rfl | rfl
      · exact .inl ⟨_, rfl⟩
      · exact .inr ⟨_, rfl, fun h => h⟩⟩
  | rem i j => exact ⟨_, _, rfl, by decide +kernel, two_rem, fun x hx => by
      simp only [List.mem_cons, List.not_mem_nil, or_false] at hx
      rcases hx with rfl | rfl <;> exact .inl ⟨_, rfl⟩⟩
  | rep i j p => exact ⟨_, _, rfl, by decide +kernel, two_rep, fun x hx => by
      simp only [List.mem_cons, List.not_mem_nil, or_false] at hx
      rcases hx with rfl | rfl | rfl
      · exact .inl ⟨_, rfl⟩
      · exact .inl ⟨_, rfl⟩
      · exact .inr ⟨_, rfl, fun h => h⟩⟩
  | add u c => exact ⟨_, _, rfl, by decide +kernel, two_add, fun x hx => by
      simp only [List.mem_cons, List.not_mem_nil, or_false] at hx
      rcases hx with rfl | rfl
      · exact .inr ⟨_, rfl, fun h => h⟩
      · exact .inl ⟨_, rfl⟩⟩
  | drop u => exact ⟨_, _, rfl, by decide +kernel, two_drop, fun x hx => by
      simp only [List.mem_cons, List.not_mem_nil, or_false] at hx
      rcases hx with rfl
      exact .inr ⟨_, rfl, fun h => h⟩⟩
theorem dec_iff {ws : WL} {t : Wd} {c : Cmd} : (dec ws t (cmdD c)).isSome = true ↔ FormOk ws t c := by
  constructor
  · intro h
    rw [Option.isSome_iff_exists] at h
    obtain ⟨k, hk⟩ := h
    obtain ⟨h1, h2⟩ := dec_form hk
    have := form_dec (c := c) (ws := ws) (t := t)
    have hc : c = k := cmdD_inj h1
    rw [hc]; exact h2
  · intro h
    rw [form_dec h]; rfl
theorem form_AD {ws : WL} {t : Wd} {c : Cmd} (h : Strc c) (ha : isAD c = true) : (dec ws t (cmdD c)).isSome = true := by
  rw [dec_iff]
  cases c with
  | add u c => exact h
  | drop u => trivial
  | _ => cases ha
theorem form_ED {ws : WL} {t : Wd} {c : Cmd} (h : Strc c) (ha : isAD c = false) :
    (dec ws t (cmdD c)).isSome = ((((cmdV c).drop 1).filter vInt).all (leV t.length) && (((cmdV c).drop 1).filter vTxt).all (inLV ws)) := by
  rw [Bool.eq_iff_iff, dec_iff]
  have hlt : ∀ p : Wd, inLV ws (vS p) = true ↔ Letters ws p := fun p => by
    show ((S p).cps.toList.all fun c => decide ([c] ∈ names ws)) = true ↔ _
    rw [S_list, List.all_eq_true]
    exact ⟨fun h c hc => of_decide_eq_true (h c hc), fun h c hc => decide_eq_true (h c hc)⟩
  have hle : ∀ i : Nat, leV t.length (.int (i : Int)) = true ↔ i ≤ t.length := fun i => by
    show decide ((i : Int) ≤ (t.length : Int)) = true ↔ _
    rw [decide_eq_true_eq]
    omega
  cases c with
  | ins i p =>
    have e1 : ((cmdV (.ins i p)).drop 1).filter vInt = [.int (i : Int)] := rfl
    have e2 : ((cmdV (.ins i p)).drop 1).filter vTxt = [vS p] := rfl
    rw [e1, e2, Bool.and_eq_true, List.all_cons, List.all_cons, List.all_nil, List.all_nil, Bool.and_true, Bool.and_true, hle, hlt]
    exact ⟨fun ⟨h1, _, h3⟩ => ⟨h1, h3⟩, fun ⟨h1, h3⟩ => ⟨h1, h, h3⟩⟩
  | rem i j =>
    have e1 : ((cmdV (.rem i j)).drop 1).filter vInt = [.int (i : Int), .int (j : Int)] := rfl
    have e2 : ((cmdV (.rem i j)).drop 1).filter vTxt = [] := rfl
    have h' : i ≤ j := h
    rw [e1, e2, Bool.and_eq_true, List.all_cons, List.all_cons, List.all_nil, List.all_nil, Bool.and_true, Bool.and_eq_true, hle, hle]
    exact ⟨fun ⟨h1, h2⟩ => ⟨⟨by omega, h2⟩, rfl⟩, fun ⟨⟨h1, h2⟩, _⟩ => ⟨h', h2⟩⟩
  | rep i j p =>
    have e1 : ((cmdV (.rep i j p)).drop 1).filter vInt = [.int (i : Int), .int (j : Int)] := rfl
    have e2 : ((cmdV (.rep i j p)).drop 1).filter vTxt = [vS p] := rfl
    obtain ⟨h1, h2⟩ := h
    rw [e1, e2, Bool.and_eq_true, List.all_cons, List.all_cons, List.all_nil, List.all_cons, List.all_nil, Bool.and_true, Bool.and_true, Bool.and_eq_true, hle, hle, hlt]
    exact ⟨fun ⟨g1, g2, g3, g4⟩ => ⟨⟨by omega, g2⟩, g4⟩, fun ⟨⟨g1, g2⟩, g4⟩ => ⟨h1, g2, h2, g4⟩⟩
  | add u c => cases ha
  | drop u => cases ha
theorem tru_T {H : Hp} {b : Addr} {xs : List V} (h : H b = some (.tup xs)) : ∀ H1, Ex H H1 → TruV K (.ref b) H1 (!xs.isEmpty) := fun H1 e => .inr (.inl ⟨xs, SqT.of (e _ _ h), rfl⟩)
def sp_form : Sp := fun vs H Q _ => ∃ (b : Addr) (x v : V) (ws : WL) (t : Wd) (d : PyData), vs = [.ref b, v] ∧ H b = some (.lst [x, vS t]) ∧ RD H (wlD ws) x ∧ Valid ws ∧ t.length ≤ 100 ∧ RL H d v ∧ CmdX d ∧ RetV (.bl (dec ws t d).isSome) H Q
theorem sc_law_has_form : FnScope ["_law_state", "_law_command_here", "_law_letters", "_law_at", "_law_word", "_law_cost_here", "_law_part", "_law_letter"] ["_law_state", "_law_command_here"] (defScope s_law_has_form) := ⟨rfl, rfl, rfl, by decide +kernel, rfl, by decide +kernel, by decide +kernel⟩
theorem ok_law_has_form (T : Txt K mg w) : Ok P w K mg base 2 "_law_has_form" ["_law_state", "_law_command_here"] sp_form := by
  have nd := sc_law_has_form.nd
  refine Ok.mk T.d_law_has_form sc_law_has_form (fun _ _ _ _ _ _ us hl => match us, hl with | [_, _], _ => rfl) (fun vs H Q E h => ?_) fun f cdv A outer s H vs Q E hr h => ?_
  · obtain ⟨_, _, _, _, _, _, rfl, _⟩ := h
    rfl
  · obtain ⟨b, x, v, ws, t, d, rfl, hb, hx, hV, ht, hd, hdx, k⟩ := h
    have h8 := hV.le
    refine ⟨_, (pss_cons (ps_if (PW.pt (pw_or (pt_not (pt_val (pe_callB (call_isK K rfl) (by rfl) T.b_isinstance (by decide +kernel) (pa_cons (pv 1) (pa_cons (pe_tyb "tuple" T.b_tuple) pa_nil))))) (pw_or (pt_not (pt_truth (pv 1) (by intro _; rfl))) (pw_or1 (pt_cmpR (op_notInK K rfl) (pe_ix (ix_tupK K rfl) (pv 1) pe_int (fun _ _ => rfl)) (pe_lst (pa_cons pe_str (pa_cons pe_str (pa_cons pe_str (pa_cons pe_str (pa_cons pe_str pa_nil)))))) (by rfl)))))) (pss_one (ps_ret pe_bl)) pss_nil)
      (pss_cons (ps_if (pt_cmpR (op_inK K rfl) (pe_ix (ix_tupK K rfl) (pv 1) pe_int (fun _ _ => rfl)) (pe_lst (pa_cons pe_str (pa_cons pe_str pa_nil))) (by rfl)) (pss_one (ps_ret pe_bl)) pss_nil)
      (pss_cons (ps_if (pt_not (pt_val (pe_callB (cr_allK K rfl rfl) (by rfl) T.b_all (by decide +kernel) (pa_cons (pe_lc (own := [("_law_at", 3)]) (by rfl) nd (pi_tupK K rfl (pe_slice (sl_tupK K rfl) (pv 1) (po_some pe_int) po_none)) (blkOk_by (N := ["_law_state", "_law_command_here", "_law_letters", "_law_at", "_law_word", "_law_cost_here", "_law_part", "_law_letter"]) (sc := defScope s_law_has_form) (by decide +kernel)) (fun _ _ _ _ _ => (pg_name (i := 3) nd rfl (Or.inl rfl))) (fun _ _ _ _ _ => (pts_one (pt_val (pe_fn (ok_law_is_integer T) hr (pa_cons (pv 3) pa_nil))))) (fun _ _ _ _ _ => (pe_cmpR op_le (pv 3) (pe_callB call_len_str (by rfl) T.b_len PySem.boot_len (pa_cons (pe_ix (ix_listK K rfl) (pv 0) pe_int (fun _ _ => rfl)) pa_nil)) (nomark _)))) pa_nil)))) (pss_one (ps_ret pe_bl)) pss_nil)
      (pss_cons (ps_set (i := 2) nd rfl (Or.inr rfl) (pe_lc (own := [("_law_word", 4), ("_law_cost_here", 5)]) (by rfl) nd (pi_tupK K rfl (pe_ix (ix_listK K rfl) (pv 0) pe_int (fun _ _ => rfl))) (blkOk_by (N := ["_law_state", "_law_command_here", "_law_letters", "_law_at", "_law_word", "_law_cost_here", "_law_part", "_law_letter"]) (sc := defScope s_law_has_form) (by decide +kernel)) (fun _ _ _ _ _ => (pg_tupK K rfl (n := 2) rfl (pgs_cons (pg_name (i := 4) nd rfl (Or.inl rfl)) (pgs_cons (pg_name (i := 5) nd rfl (Or.inl rfl)) pgs_nil)))) (fun _ _ _ _ _ => (pts_one (pt_cmpR op_eq (pe_callB call_len_str (by rfl) T.b_len PySem.boot_len (pa_cons (pv 4) pa_nil)) pe_int (nomark _)))) (fun _ _ _ _ _ => (pv 4))))
      (pss_one (ps_ret (pe_callB (cr_allK K rfl rfl) (by rfl) T.b_all (by decide +kernel) (pa_cons (pe_lc (own := [("_law_part", 6)]) (by rfl) nd (pi_tupK K rfl (pe_slice (sl_tupK K rfl) (pv 1) (po_some pe_int) po_none)) (blkOk_by (N := ["_law_state", "_law_command_here", "_law_letters", "_law_at", "_law_word", "_law_cost_here", "_law_part", "_law_letter"]) (sc := defScope s_law_has_form) (by decide +kernel)) (fun _ _ _ _ _ => (pg_name (i := 6) nd rfl (Or.inl rfl))) (fun _ _ _ _ _ => (pts_one (pt_val (pe_callB (call_isK K rfl) (by rfl) T.b_isinstance (by decide +kernel) (pa_cons (pv 6) (pa_cons (pe_tyb "str" T.b_str) pa_nil)))))) (fun _ _ _ _ _ => (pe_callB (cr_allK K rfl rfl) (by rfl) T.b_all (by decide +kernel) (pa_cons (pe_lc (own := [("_law_letter", 7)]) (by rfl) nd (pi_str (pv 6)) (blkOk_by (by rfl)) (fun _ _ _ _ _ => (pg_name (i := 7) nd rfl (Or.inl rfl))) (fun _ _ _ _ _ => pts_nil) (fun _ _ _ _ _ => (pe_cmpR (op_inK K rfl) (pv 7) (pv 2) (by rfl)))) pa_nil)))) pa_nil)))))))), ?_⟩
    rcases hdx with ⟨c, rfl, hc⟩ | rfl | rfl
    · have hsm := strc_sm hc
      obtain ⟨a, rfl, ha⟩ := cmd_at (rl_cmd hd)
      obtain ⟨z, xs, hv, h5, h2, hxs⟩ := cmd_head c
      have ha' := ha
      rw [hv] at ha
      have hdt : dTup (cmdD c) = true := by cases c <;> rfl
      refine q_skip (et_is (et_or (b := false) (et_not (et_B (isi_tup (ev_var rfl) hd))) fun _ => et_is (et_or (b := false) (et_not (et_tru (ev_var rfl) (tru_T ha))) fun _ => et_is (et_test (ev_opL (ev_ixT (i := 0) (ev_var rfl) ha ev_c rfl) (el_lst (vs := five) (ea_cons ev_c (ea_cons ev_c (ea_cons ev_c (ea_cons ev_c (ea_cons ev_c ea_nil))))) (by decide)) fun p H1 hp _ => rv_niL (SqL.of hp) rfl rfl)) (by rw [h5]; rfl)) rfl) (by rw [hdt]; rfl)) fun H1 e1 => ?_
      refine q_when (et_is (et_test (ev_opL (ev_ixT (i := 0) (ev_var rfl) (e1 _ _ ha) ev_c rfl) (el_lst (vs := two) (ea_cons ev_c (ea_cons ev_c ea_nil)) (by decide)) fun p H1 hp _ => rv_isL (SqL.of hp) rfl rfl)) h2) (fun hc2 H2 e2 => ?_) fun hc2 H2 e2 => ?_
      · refine s_ret ev_c fun H3 e3 => ?_
        have q := k H3 ((e1.trans e2).trans e3)
        rw [form_AD hc hc2] at q
        exact q
      · have e02 := e1.trans e2
        have ha2 := e02 _ _ ha
        have hcut : cutV (.str z :: xs) (some ((1 : Nat) : Int)) none = xs := by rw [cutV_from]; rfl
        have hlen : xs.length ≤ 100 := by
          have := congrArg List.length hv
          have h4 : (cmdV c).length ≤ 4 := by cases c <;> simp [cmdV]
          rw [List.length_cons] at this
          omega
        have hfin := form_ED (ws := ws) (t := t) hc hc2
        rw [hv, show (V.str z :: xs).drop 1 = xs from rfl] at hfin
        refine q_when (b := !((xs.filter vInt).all (leV t.length))) (et_not (et_B (ev_allCF (l := xs) (fv := id) vInt (leV t.length) (ei_id (ei_tupP ((evp_slT (lo := some ((1 : Nat) : Int)) (hi := none) (ev_var rfl) ha2 (eo_some ev_c) eo_none).imp fun v H3 _ ⟨p, h1, h2⟩ => ⟨p, h1, by rw [hcut] at h2; exact h2⟩))) (by omega) fun y hy => ⟨_, bnd_name, rfl, ?_, fun hf => ?_⟩))) (fun hb1 H3 e3 => ?_) fun hb1 H3 e3 => ?_
        · rcases hxs y hy with ⟨i, rfl⟩ | ⟨u, rfl, hu⟩
          · exact et_is (et_B (ev_call (ea_cons (ev_var rfl) ea_nil) fun H4 e4 Q q E => ⟨_, .int i, rfl, .int i, q⟩)) rfl
          · exact et_is (et_B (ev_call (ea_cons (ev_var rfl) ea_nil) fun H4 e4 Q q E => ⟨_, .str (S u), rfl, .str _, q⟩)) rfl
        · rcases hxs y hy with ⟨i, rfl⟩ | ⟨u, rfl, hu⟩
          · exact ev_op (ev_var rfl) (ev_lenW (ev_ixL (i := 1) (ev_var rfl) (e02 _ _ hb) ev_c rfl) (by omega)) rv_I0
          · cases hf
        · refine s_ret ev_c fun H4 e4 => ?_
          have q := k H4 ((e02.trans e3).trans e4)
          rw [Bool.not_eq_true'] at hb1
          rw [hfin, hb1] at q
          exact q
        · rw [Bool.not_eq_false'] at hb1
          rw [hb1, Bool.true_and] at hfin
          refine q_asgP (evp_ents ((hx.ex e02).ex e3) (by omega) (ev_ixL (i := 0) (ev_var rfl) ((e02.trans e3) _ _ hb) ev_c rfl) (fun u => decide (u.length = 1)) vS fun e he => ⟨rfl, ?_, fun _ => ev_var rfl⟩) fun v H4 e4 ⟨p, ev, hp⟩ => ?_
          · have := (mem_names_len hV (List.mem_map.mpr ⟨e, he, rfl⟩)).2
            refine et_is (et_test (ev_op (ev_lenW (ev_var rfl) (by omega)) ev_c (rv_eq rfl))) ?_
            by_cases h1 : e.1.length = 1
            · rw [h1]; rfl
            · rw [decide_eq_false h1, decide_eq_false fun q => h1 (by have := V.int.inj q; omega)]
          · subst ev
            have ha4 := e4 _ _ (e3 _ _ ha2)
            refine s_ret (v := .bl ((xs.filter vTxt).all (inLV ws))) (ev_allCF (l := xs) (fv := id) vTxt (inLV ws) (ei_id (ei_tupP ((evp_slT (lo := some ((1 : Nat) : Int)) (hi := none) (ev_var rfl) ha4 (eo_some ev_c) eo_none).imp fun v H3 _ ⟨p, h1, h2⟩ => ⟨p, h1, by rw [hcut] at h2; exact h2⟩))) (by omega) fun y hy => ⟨_, bnd_name, rfl, ?_, fun hf => ?_⟩) fun H5 e5 => ?_
            · rcases hxs y hy with ⟨i, rfl⟩ | ⟨u, rfl, hu⟩
              · exact et_B (isi_str (ev_var rfl) (.int i))
              · exact et_B (isi_str (ev_var rfl) (.str (S u)))
            · rcases hxs y hy with ⟨i, rfl⟩ | ⟨u, rfl, hu⟩
              · cases hf
              · have hu' := hu hsm
                refine ev_is (ev_allC (fv := fun c => V.str ⟨#[c]⟩) (l := u) (fun c => decide ([c] ∈ names ws)) (ei_strL (ev_var rfl)) (by omega) fun c hc => ⟨_, bnd_name, rfl,
                  ev_is (ev_op (ev_var rfl) (ev_var rfl) (rv_isL (SqL.of hp) rfl (flat_S _))) ?_⟩) ?_
                · rw [show V.str ⟨#[c]⟩ = vS [c] from rfl, inV_S]
                  congr 1
                  rw [decide_eq_decide, List.mem_filter]
                  exact ⟨fun h => h.1, fun h => ⟨h, rfl⟩⟩
                · show _ = V.bl ((S u).cps.toList.all fun c => decide ([c] ∈ names ws))
                  rw [S_list]
            · have q := k H5 (((e02.trans e3).trans e4).trans e5)
              rw [hfin] at q
              exact q
    · cases hd
      refine q_yes (et_is (et_or (b := true) (et_not (et_B (isi_tup (ev_var rfl) .non))) fun h => by cases h) rfl) fun H1 e1 => ?_
      exact s_ret ev_c fun H2 e2 => k H2 (e1.trans e2)
    · obtain ⟨a, xs, rfl, ha, hs⟩ := hd.tup_inv
      cases hs.nil_inv
      refine q_yes (et_is (et_or (b := true) (et_not (et_B (isi_tup (ev_var rfl) hd))) fun _ => et_is (et_or (b := true) (et_not (et_tru (ev_var rfl) (tru_T ha))) fun h => by cases h) rfl) rfl) fun H1 e1 => ?_
      exact s_ret ev_c fun H2 e2 => k H2 (e1.trans e2)

/-! takes -/
theorem okL_low {u : Wd} (h : okL u = true) : Low u := by
  refine ⟨Nat.le_trans (okL_len h).2 (by decide), fun c hc => ?_⟩
  unfold okL at h
  rw [Bool.and_eq_true, List.all_eq_true] at h
  have := of_decide_eq_true (h.2 c hc)
  unfold alphaL at this
  obtain ⟨k, hk, rfl⟩ := List.mem_map.mp this
  rw [List.mem_range] at hk
  omega
theorem names_low {ws : WL} (hV : Valid ws) {u : Wd} (h : u ∈ names ws) : Low u := by
  obtain ⟨e, he, rfl⟩ := List.mem_map.mp h
  exact okL_low (hV.ent e he).1
theorem low_longest {st : WL × Wd} (hg : Good st) : (longest st.1 st.2).length ≤ 30 ∧ ∀ u ∈ longest st.1 st.2, Low u :=
  ⟨Nat.le_trans (longest_len hg.val _ _ (Nat.le_refl _) hg.let_) hg.len, fun u hu => names_low hg.val (longest_mem hg.val _ _ (Nat.le_refl _) hg.let_ u hu)⟩
theorem rowx_longest {st : WL × Wd} (hg : Good st) : RowX (rowD (longest st.1 st.2)) := .inr ⟨_, .inl rfl, Nat.le_trans (low_longest hg).1 (by decide), (low_longest hg).2⟩
theorem et_eqD {σ : L2.St} {H : Hp} {ta tb : TE} {x : V} {d : PyData} {l : List Wd} (ha : Ev ta σ H x) (hx : RL H d x) (hr : RowX d) (hb : EvP tb σ H (RowV l)) (hl : RowX (rowD l)) : EvT (tTest (tOp (rEqD K) ta tb)) σ H (PyData.eqv d (rowD l)) := fun H1 e Q q =>
  ha H1 e _ fun H2 e2 => hb H2 (e.trans e2) _ fun v H3 e3 ⟨p, ev, hp⟩ => by
    subst ev
    exact ⟨d, rowD l, row_dp hr (hx.ex ((e.trans e2).trans e3)), (row_rd hp).dp, shaped_rowx hr, shaped_rowx hl, _, rfl, q H3 (e2.trans e3)⟩
theorem et_neW {σ : L2.St} {H : Hp} {te : TE} {b : Bool} (h : EvP te σ H (Why b)) : EvT (tTest (tOp rNe te (tC (.str "")))) σ H (!b) := fun H1 e Q q =>
  h H1 e _ fun v H2 e2 ⟨z, ev, hz⟩ => by
    subst ev
    refine ⟨rfl, _, rfl, ?_⟩
    rw [dec_vstr, hz]
    exact q H2 e2
theorem et_eqW {σ : L2.St} {H : Hp} {te : TE} {b : Bool} (h : EvP te σ H (Why b)) : EvT (tTest (tOp rEq te (tC (.str "")))) σ H b := fun H1 e Q q =>
  h H1 e _ fun v H2 e2 ⟨z, ev, hz⟩ => by
    subst ev
    refine ⟨rfl, _, rfl, ?_⟩
    rw [dec_vstr, hz]
    exact q H2 e2
def TakeP (H0 : Hp) : Option (WL × Wd) → V → Hp → Prop
  | some st => StN H0 st
  | none => fun v _ => v = .non
def sp_takes : Sp := fun vs H Q _ => ∃ (b : Addr) (x v : V) (ws : WL) (t : Wd) (d : PyData), vs = [.ref b, v] ∧ H b = some (.lst [x, vS t]) ∧ RD H (wlD ws) x ∧ Good (ws, t) ∧ RL H d v ∧ RecX d ∧ RetP (TakeP H (step (ws, t) d)) H Q
theorem sc_law_takes : FnScope ["_law_state", "_law_record", "_law_after"] ["_law_state", "_law_record"] (defScope s_law_takes) := ⟨rfl, rfl, rfl, by decide +kernel, rfl, by decide +kernel, by decide +kernel⟩
theorem ok_law_takes (T : Txt K mg w) : Ok P w K mg base 3 "_law_takes" ["_law_state", "_law_record"] sp_takes := by
  have nd := sc_law_takes.nd
  refine Ok.mk T.d_law_takes sc_law_takes (fun _ _ _ _ _ _ us hl => match us, hl with | [_, _], _ => rfl) (fun vs H Q E h => ?_) fun f cdv A outer s H vs Q E hr h => ?_
  · obtain ⟨_, _, _, _, _, _, rfl, _⟩ := h
    rfl
  · obtain ⟨b, x, v, ws, t, d, rfl, hb, hx, hg, hd, hdx, k⟩ := h
    have ht : t.length ≤ 30 := hg.len
    refine ⟨_, (pss_cons (ps_if (PW.pt (pw_or (pt_not (pt_val (pe_callB (call_isK K rfl) (by rfl) T.b_isinstance (by decide +kernel) (pa_cons (pv 1) (pa_cons (pe_tyb "tuple" T.b_tuple) pa_nil))))) (pw_or (pt_cmpR op_ne (pe_callB (call_lenK K rfl) (by rfl) T.b_len PySem.boot_len (pa_cons (pv 1) pa_nil)) pe_int (nomark _)) (pw_or1 (pt_not (pt_val (pe_fn (ok_law_has_form T) hr (pa_cons (pv 0) (pa_cons (pe_ix (ix_tupK K rfl) (pv 1) pe_int (fun _ _ => rfl)) pa_nil))))))))) (pss_one (ps_ret pe_non)) pss_nil)
      (pss_cons (ps_if (pt_cmpR op_ne (pe_fn (ok_law_why T) hr (pa_cons (pv 0) (pa_cons (pe_ix (ix_tupK K rfl) (pv 1) pe_int (fun _ _ => rfl)) pa_nil))) pe_str (nomark _)) (pss_one (ps_ret pe_non)) pss_nil)
      (pss_cons (ps_set (i := 2) nd rfl (Or.inl rfl) (pe_fn (ok_law_behind T) hr (pa_cons (pv 0) (pa_cons (pe_ix (ix_tupK K rfl) (pv 1) pe_int (fun _ _ => rfl)) pa_nil))))
      (pss_one (ps_ret (pe_ifExp (pt_cmpR (op_eqDK K rfl hr.units) (pe_ix (ix_tupK K rfl) (pv 1) pe_int (fun _ _ => rfl)) (pe_fn (ok_law_longest T) hr (pa_cons (pe_ix (ix_listK K rfl) (pv 2) pe_int (fun _ _ => rfl)) (pa_cons (pe_ix (ix_listK K rfl) (pv 2) pe_int (fun _ _ => rfl)) pa_nil))) (nomark _)) (pv 2) pe_non)))))), ?_⟩
    have no : step (ws, t) d = none → ∀ H1, Ex H H1 → Q .non H1 := fun h H1 e => k _ H1 e (by rw [h]; rfl)
    rcases hdx with rfl | ⟨c, rfl⟩ | ⟨c, r, rfl, hc, hr⟩ | rfl
    · refine q_yes (et_is (et_or (b := true) (et_not (et_B (isi_tup (ev_var rfl) hd))) fun h => by cases h) rfl) fun H1 e1 => ?_
      exact s_ret ev_c fun H2 e2 => no rfl H2 (e1.trans e2)
    · obtain ⟨a, xs, rfl, ha, hs⟩ := hd.tup_inv
      have hl := hs.length
      refine q_yes (et_is (et_or (b := true) (et_not (et_B (isi_tup (ev_var rfl) hd))) fun _ => et_is (et_or (b := true) (et_is (et_test (ev_op (ev_lenT (ev_var rfl) ha) ev_c (rv_ne rfl))) (by rw [hl] <;> rfl)) fun h => by cases h) rfl) rfl) fun H1 e1 => ?_
      exact s_ret ev_c fun H2 e2 => no rfl H2 (e1.trans e2)
    · obtain ⟨a, xs, rfl, ha, hs⟩ := hd.tup_inv
      obtain ⟨v1, r1, rfl, hv1, hs⟩ := hs.cons_inv
      obtain ⟨v2, r2, rfl, hv2, hs⟩ := hs.cons_inv
      cases hs.nil_inv
      refine q_when (b := !(dec ws t c).isSome) (et_is (et_or (b := !(dec ws t c).isSome) (et_not (et_B (isi_tup (ev_var rfl) hd))) fun _ => et_is (et_or (b := !(dec ws t c).isSome) (et_is (et_test (ev_op (ev_lenT (ev_var rfl) ha) ev_c (rv_ne rfl))) (b := false) rfl) fun _ => et_not (et_B (ev_call (ea_cons (ev_var rfl) (ea_cons (ev_ixT (i := 0) (ev_var rfl) ha ev_c rfl) ea_nil)) fun H4 e4 Q q E => ⟨b, x, v1, ws, t, c, rfl, e4 _ _ hb, hx.ex e4, hg.val, by omega, hv1.ex e4, hc, q⟩))) (Bool.false_or _)) (Bool.false_or _)) (fun hb1 H1 e1 => ?_) fun hb1 H1 e1 => ?_
      · refine s_ret ev_c fun H2 e2 => no ?_ H2 (e1.trans e2)
        rw [Bool.not_eq_true'] at hb1
        show (match dec ws t c with | some k => _ | none => none) = none
        cases hde : dec ws t c with
        | none => rfl
        | some k => rw [hde] at hb1; cases hb1
      · rw [Bool.not_eq_false', Option.isSome_iff_exists] at hb1
        obtain ⟨cmd, hcmd⟩ := hb1
        have hsm := cmd_small hcmd (cmdx_dom hc)
        obtain ⟨hceq, hform⟩ := dec_form hcmd
        have hstep : step (ws, t) (.tuple [c, r]) = if (possB ws t cmd && isM (behindS ws t cmd).1 (behindS ws t cmd).2 r) = true then some (behindS ws t cmd) else none := by
          show (match dec ws t c with | some k => _ | none => none) = _
          rw [hcmd]
        subst hceq
        have hv1' := rl_cmd hv1
        have ha1 := e1 _ _ ha
        refine q_when (b := !possB ws t cmd) (et_neW (evp_call (ea_cons (ev_var rfl) (ea_cons (ev_ixT (i := 0) (ev_var rfl) ha1 ev_c rfl) ea_nil)) fun H4 e4 Q q E => ⟨b, x, v1, ws, t, cmd, rfl, (e1.trans e4) _ _ hb, hx.ex (e1.trans e4), hg.val, hv1'.ex (e1.trans e4), hsm, by omega, q⟩)) (fun hb2 H2 e2 => ?_) fun hb2 H2 e2 => ?_
        · rw [Bool.not_eq_true'] at hb2
          exact s_ret ev_c fun H3 e3 => no (by rw [hstep, hb2]; rfl) H3 ((e1.trans e2).trans e3)
        · rw [Bool.not_eq_false'] at hb2
          have e02 := e1.trans e2
          have hgb : Good (behindS ws t cmd) := good_behind hg hform hb2
          have ha2 := e02 _ _ ha
          refine q_asgP (evp_call (P := StN H2 (behindS ws t cmd)) (ea_cons (ev_var rfl) (ea_cons (ev_ixT (i := 0) (ev_var rfl) ha2 ev_c rfl) ea_nil)) fun H4 e4 Q q E => ⟨b, x, v1, ws, t, cmd, rfl, (e02.trans e4) _ _ hb, hx.ex (e02.trans e4), hg.val.ge, hg.val.le, hv1'.ex (e02.trans e4), hsm, by omega, fun v H5 e5 ⟨b1, w1, g1, g2, g3, g4⟩ => q v H5 e5 ⟨b1, w1, g1, fresh_back e4 g2, g3, g4⟩⟩) fun v H3 e3 ⟨b1, w1, ev, hbn, hb1, hw1⟩ => ?_
          subst ev
          have e03 := e02.trans e3
          have hlb : (behindS ws t cmd).2.length ≤ 30 := hgb.len
          refine s_retP (evp_if (P := TakeP H (step (ws, t) (.tuple [cmdD cmd, r]))) (b := PyData.eqv r (rowD (longest (behindS ws t cmd).1 (behindS ws t cmd).2))) (et_eqD (ev_ixT (i := 1) (ev_var rfl) (e03 _ _ ha) ev_c rfl) (hv2.ex e03) hr (evp_call (ea_cons (ev_ixL (i := 0) (ev_var rfl) hb1 ev_c rfl) (ea_cons (ev_ixL (i := 1) (ev_var rfl) hb1 ev_c rfl) ea_nil)) fun H4 e4 Q q E => ⟨w1, _, _, rfl, hw1.ex e4, hgb.val, by omega, hgb.let_, q⟩) (rowx_longest hgb)) (fun h => (ev_p (ev_var rfl)).imp fun v H4 e4 ev => ?_) fun h => (ev_p ev_c).imp fun v H4 e4 ev => ?_) fun v H4 e4 hv => k v H4 (e03.trans e4) hv
          · subst ev
            rw [eqv_row hr] at h
            have : isM (behindS ws t cmd).1 (behindS ws t cmd).2 r = true := h
            rw [hstep, hb2, this]
            exact ⟨b1, w1, rfl, fresh_back e02 hbn, e4 _ _ hb1, hw1.ex e4⟩
          · subst ev
            rw [eqv_row hr] at h
            have : isM (behindS ws t cmd).1 (behindS ws t cmd).2 r = false := h
            rw [hstep, hb2, this]
            rfl
    · refine q_yes (et_is (et_or (b := true) (et_not (et_B (isi_tup (ev_var rfl) hd))) fun h => by cases h) rfl) fun H1 e1 => ?_
      exact s_ret ev_c fun H2 e2 => no rfl H2 (e1.trans e2)
end
end G
/-! the law: command -/
namespace G
open PySem PySem.Spec PyProof.Rows L2 Evl

theorem abcd_eq : ("abcd" : Str) = S [97, 98, 99, 100] := by decide +kernel
theorem a_eq : ("a" : Str) = S [97] := by decide +kernel
theorem abcde_eq : ("abcde" : Str) = S [97, 98, 99, 100, 101] := by decide +kernel
theorem zz_eq : ("zz" : Str) = S [122, 122] := by decide +kernel
def AbC : Cmd → Prop | .add u _ => ∀ c ∈ u, 97 ≤ c ∧ c ≤ 100 | _ => True
theorem mulok1 {c : Nat} {n : Nat} (hn : n ≤ 100) : MulOk (S [c]) (n : Int) := by
  refine ⟨?_, fun h1 _ h2 => ?_, fun h1 _ => ?_⟩
  · rw [Bool.or_eq_false_iff]
    exact ⟨decide_eq_false (by omega), decide_eq_false (by omega)⟩
  · rw [S_len] at h2
    have h3 : (1 : Int) ≤ (2 ^ 63 - 1) / (n : Int) := (Int.le_ediv_iff_mul_le (by omega)).mpr (by omega)
    simp only [List.length_cons, List.length_nil] at h2
    omega
  · rw [S_len]
    show decide (_ > sizeLine) = false
    refine decide_eq_false (Nat.not_lt.mpr (sz_of ?_))
    rw [Int.toNat_natCast]
    simp
    omega
theorem mul_S {c n : Nat} : Txt.mul (S [c]) (n : Int) = S (List.replicate n c) := by
  have h := mul_one_list c (n : Int)
  rw [Int.toNat_natCast] at h
  have e : ∀ z : Str, z = S z.cps.toList := fun z => by simp [S]
  rw [e (Txt.mul (S [c]) (n : Int))]
  exact congrArg S h
theorem ev_mulS {σ : L2.St} {H : Hp} {ta tb : TE} {c n : Nat} (ha : Ev ta σ H (vS [c])) (hb : Ev tb σ H (.int (n : Int))) (hn : n ≤ 100) : Ev (tOp (fun x y H Q => ∃ i n, x = .str i ∧ y = .int n ∧ MulOk i n ∧ Q (.str (Txt.mul i n)) H) ta tb) σ H (vS (List.replicate n c)) :=
  ev_op ha hb fun H1 _ Q q => ⟨S [c], (n : Int), rfl, rfl, mulok1 hn, by rw [mul_S]; exact q H1 (Ex.refl _)⟩
section
variable {P : Program} {w : World} {K : PySem.W.Frag} {mg : Str → Option Value} {base : Heap}
theorem em_ixT {σ : L2.St} {H : Hp} {ta te : TE} {a : Strm} {b : Addr} {xs : List V} (ha : ∀ H1, SI a H H1 → Ev ta σ H1 (.ref b)) (hb : ∀ H1, SI a H H1 → H1 b = some (.tup xs)) (h : EvM a te σ H (fun v _ => ∃ d : Nat, v = .int (d : Int) ∧ d < xs.length)) : EvM a (tOp (rIxT K) ta te) σ H (fun v _ => v ∈ xs) :=
  em_op (em_ev ha) h fun x y H1 i ex ⟨d, ey, hd⟩ => by
    subst ex ey
    exact ⟨_, rv_ixT (SqT.of (hb H1 i)) (atI_n (List.getElem?_eq_getElem hd)), fun _ => List.getElem_mem hd⟩
def sp_command : Sp := fun vs H Q _ => ∃ (a : Strm) (b : Addr) (x : V) (ws : WL) (t : Wd), vs = [.ref a.1, .ref b] ∧ StrOk a H ∧ b ≠ a.1 ∧ H b = some (.lst [x, vS t]) ∧ RD H (wlD ws) x ∧ Good (ws, t) ∧
  ∀ v c H', SI a H H' → RD H' (cmdD c) v → Strc c → FormOk ws t c → AbC c → Q v H'
theorem sc_law_command : FnScope ["_law_stream_here", "_law_state", "_law_words_here", "_law_text_here", "_law_letters", "_law_pick", "_law_start_here", "_law_end", "_law_piece", "_law_word", "_law_cost_here", "_law_k"] ["_law_stream_here", "_law_state"] (defScope s_law_command) := ⟨rfl, rfl, rfl, by decide +kernel, rfl, by decide +kernel, by decide +kernel⟩
theorem ok_law_command (T : Txt K mg w) : Ok P w K mg base 2 "_law_command" ["_law_stream_here", "_law_state"] sp_command := by
  have nd := sc_law_command.nd
  refine Ok.mk T.d_law_command sc_law_command (fun _ _ _ _ _ _ us hl => match us, hl with | [_, _], _ => rfl) (fun vs H Q E h => ?_) fun f cdv A outer s H vs Q E hr h => ?_
  · obtain ⟨_, _, _, _, _, rfl, _⟩ := h
    rfl
  · obtain ⟨a, b, x, ws, t, rfl, hs, hba, hb, hx, hg, k⟩ := h
    have hV := hg.val
    have ht : t.length ≤ 30 := hg.len
    have h8 : ws.length ≤ 8 := hV.le
    refine ⟨_, (pss_cons (ps_asg (pv 1) (pg_unlK K rfl (n := 2) rfl (pgs_cons (pg_name (i := 2) nd rfl (Or.inl rfl)) (pgs_cons (pg_name (i := 3) nd rfl (Or.inl rfl)) pgs_nil))))
      (pss_cons (ps_set (i := 4) nd rfl (Or.inr rfl) (pe_lc (own := [("_law_word", 9), ("_law_cost_here", 10)]) (by rfl) nd (pi_tupK K rfl (pv 2)) (blkOk_by (N := ["_law_stream_here", "_law_state", "_law_words_here", "_law_text_here", "_law_letters", "_law_pick", "_law_start_here", "_law_end", "_law_piece", "_law_word", "_law_cost_here", "_law_k"]) (sc := defScope s_law_command) (by decide +kernel)) (fun _ _ _ _ _ => (pg_tupK K rfl (n := 2) rfl (pgs_cons (pg_name (i := 9) nd rfl (Or.inl rfl)) (pgs_cons (pg_name (i := 10) nd rfl (Or.inl rfl)) pgs_nil)))) (fun _ _ _ _ _ => (pts_one (pt_cmpR op_eq (pe_callB call_len_str (by rfl) T.b_len PySem.boot_len (pa_cons (pv 9) pa_nil)) pe_int (nomark _)))) (fun _ _ _ _ _ => (pv 9))))
      (pss_cons (ps_set (i := 5) nd rfl (Or.inl rfl) (pe_fn (ok_law_next T) hr (pa_cons (pv 0) (pa_cons pe_int pa_nil))))
      (pss_cons (ps_set (i := 6) nd rfl (Or.inl rfl) (pe_fn (ok_law_next T) hr (pa_cons (pv 0) (pa_cons (pe_op op_add (pe_callB call_len_str (by rfl) T.b_len PySem.boot_len (pa_cons (pv 3) pa_nil)) pe_int) pa_nil))))
      (pss_cons (ps_set (i := 7) nd rfl (Or.inl rfl) (pe_op op_add (pv 6) (pe_fn (ok_law_next T) hr (pa_cons (pv 0) (pa_cons (pe_op op_add (pe_op op_sub (pe_callB call_len_str (by rfl) T.b_len PySem.boot_len (pa_cons (pv 3) pa_nil)) (pv 6)) pe_int) pa_nil)))))
      (pss_cons (ps_set (i := 8) nd rfl (Or.inl rfl) (pe_join pe_str (pe_lc (own := [("_law_k", 11)]) (by rfl) nd (pi_range1 (by rfl) T.b_range (pa_cons (pe_fn (ok_law_next T) hr (pa_cons (pv 0) (pa_cons pe_int pa_nil))) pa_nil)) (blkOk_by (N := ["_law_stream_here", "_law_state", "_law_words_here", "_law_text_here", "_law_letters", "_law_pick", "_law_start_here", "_law_end", "_law_piece", "_law_word", "_law_cost_here", "_law_k"]) (sc := defScope s_law_command) (by decide +kernel)) (fun _ _ _ _ _ => (pg_name (i := 11) nd rfl (Or.inl rfl))) (fun _ _ _ _ _ => pts_nil) (fun _ _ _ _ _ => (pe_ix (ix_listK K rfl) (pv 4) (pe_fn (ok_law_next T) hr (pa_cons (pv 0) (pa_cons (pe_callB (call_lenK K rfl) (by rfl) T.b_len PySem.boot_len (pa_cons (pv 4) pa_nil)) pa_nil))) (fun _ _ => rfl))))))
      (pss_cons (ps_if (pt_cmpR op_eq (pe_fn (ok_law_next T) hr (pa_cons (pv 0) (pa_cons pe_int pa_nil))) pe_int (nomark _)) (pss_one (ps_set (i := 8) nd rfl (Or.inl rfl) (pe_op op_add_str (pv 8) (pe_op op_mulS (pe_ix (ix_listK K rfl) (pv 4) pe_int (fun _ _ => rfl)) (pe_op op_sub pe_int (pe_callB call_len_str (by rfl) T.b_len PySem.boot_len (pa_cons (pv 8) pa_nil))))))) pss_nil)
      (pss_cons (ps_if (pt_cmpR op_lt (pv 5) pe_int (nomark _)) (pss_one (ps_ret (pe_tup (pa_cons pe_str (pa_cons (pv 6) (pa_cons (pv 8) pa_nil)))))) pss_nil)
      (pss_cons (ps_if (pt_cmpR op_eq (pv 5) pe_int (nomark _)) (pss_one (ps_ret (pe_tup (pa_cons pe_str (pa_cons (pv 6) (pa_cons (pv 7) pa_nil)))))) pss_nil)
      (pss_cons (ps_if (pt_cmpR op_eq (pv 5) pe_int (nomark _)) (pss_one (ps_ret (pe_tup (pa_cons pe_str (pa_cons (pv 6) (pa_cons (pv 7) (pa_cons (pv 8) pa_nil))))))) pss_nil)
      (pss_cons (ps_if (pt_cmpR op_lt (pv 5) pe_int (nomark _)) (pss_cons (ps_set (i := 9) nd rfl (Or.inl rfl) (pe_join pe_str (pe_lc (own := [("_law_k", 11)]) (by rfl) nd (pi_range1 (by rfl) T.b_range (pa_cons (pe_op op_add pe_int (pe_fn (ok_law_next T) hr (pa_cons (pv 0) (pa_cons pe_int pa_nil)))) pa_nil)) (blkOk_by (N := ["_law_stream_here", "_law_state", "_law_words_here", "_law_text_here", "_law_letters", "_law_pick", "_law_start_here", "_law_end", "_law_piece", "_law_word", "_law_cost_here", "_law_k"]) (sc := defScope s_law_command) (by decide +kernel)) (fun _ _ _ _ _ => (pg_name (i := 11) nd rfl (Or.inl rfl))) (fun _ _ _ _ _ => pts_nil) (fun _ _ _ _ _ => (pe_ix ix_str pe_str (pe_fn (ok_law_next T) hr (pa_cons (pv 0) (pa_cons pe_int pa_nil))) (fun _ _ => rfl))))))
      (pss_one (ps_ret (pe_tup (pa_cons pe_str (pa_cons (pv 9) (pa_cons (pe_op op_add pe_int (pe_fn (ok_law_next T) hr (pa_cons (pv 0) (pa_cons pe_int pa_nil)))) pa_nil))))))) pss_nil)
      (pss_cons (ps_if (pt_cmpR op_eq (pv 5) pe_int (nomark _)) (pss_one (ps_ret (pe_tup (pa_cons pe_str (pa_cons (pe_ix (ix_tupK K rfl) (pe_ix (ix_tupK K rfl) (pv 2) (pe_fn (ok_law_next T) hr (pa_cons (pv 0) (pa_cons (pe_callB (call_lenK K rfl) (by rfl) T.b_len PySem.boot_len (pa_cons (pv 2) pa_nil)) pa_nil))) (fun _ _ => rfl)) pe_int (fun _ _ => rfl)) pa_nil))))) pss_nil)
      (pss_one (ps_ret (pe_tup (pa_cons pe_str (pa_cons (pe_ix (ix_listK K rfl) (pe_lst (pa_cons pe_str (pa_cons pe_str (pa_cons pe_str (pa_cons pe_str pa_nil))))) (pe_fn (ok_law_next T) hr (pa_cons (pv 0) (pa_cons pe_int pa_nil))) (fun _ _ => rfl)) pa_nil))))))))))))))))), ?_⟩
    refine q_unpL (ev_var rfl) hb fun H1 e1 => ?_
    refine q_asgP (evp_ents (hx.ex e1) (by omega) (ev_var rfl) (fun u => decide (u.length = 1)) vS fun e he => ⟨rfl, ?_, fun _ => ev_var rfl⟩) fun v H2 e2 ⟨p, ev, hp⟩ => ?_
    · have := (mem_names_len hV (List.mem_map.mpr ⟨e, he, rfl⟩)).2
      refine et_is (et_test (ev_op (ev_lenW (ev_var rfl) (by omega)) ev_c (rv_eq rfl))) ?_
      by_cases h1 : e.1.length = 1
      · rw [h1]; rfl
      · rw [decide_eq_false h1, decide_eq_false fun q => h1 (by have := V.int.inj q; omega)]
    subst ev
    have e02 := e1.trans e2
    have hs2 := hs.ex e02
    have hpa : p ≠ a.1 := fun e => by
      obtain ⟨c, kk, is, g1, _⟩ := hs2
      rw [← e, hp] at g1
      have h1 := HO.lst.inj (Option.some.inj g1)
      have h2 : V.ref a.2 ∈ (((names ws).filter fun u => decide (u.length = 1)).map vS) := by rw [h1]; simp
      obtain ⟨_, _, h3⟩ := List.mem_map.mp h2
      cases h3
    have hone : ∀ y ∈ ((names ws).filter fun u => decide (u.length = 1)).map vS, ∃ c ∈ letters ws, y = vS [c] := fun y hy => by
      obtain ⟨u, hu, rfl⟩ := List.mem_map.mp hy
      obtain ⟨h1, h2⟩ := List.mem_filter.mp hu
      match u, of_decide_eq_true h2 with
      | [c], _ => exact ⟨c, mem_letters.mpr h1, rfl⟩
    obtain ⟨c0, r0, hc0⟩ : ∃ c r, ((names ws).filter fun u => decide (u.length = 1)) = [c] :: r := by
      have hlen : 0 < ws.length := hV.ge
      match ws, hlen with
      | e :: ws', _ =>
        obtain ⟨u1, u2⟩ := mem_names_len hV (show e.1 ∈ names (e :: ws') from List.mem_cons_self ..)
        have : e.1 ≠ [] := fun q => by rw [q] at u1; simp at u1
        obtain ⟨c, r, hcr⟩ := List.exists_cons_of_ne_nil this
        have hm := hV.lets e.1 (List.mem_cons_self ..) c (by rw [hcr]; simp)
        have hm2 : [c] ∈ (names (e :: ws')).filter fun u => decide (u.length = 1) := List.mem_filter.mpr ⟨hm, rfl⟩
        cases hf : (names (e :: ws')).filter fun u => decide (u.length = 1) with
        | nil => rw [hf] at hm2; simp at hm2
        | cons y ys =>
          have hy : y ∈ (names (e :: ws')).filter fun u => decide (u.length = 1) := by rw [hf]; simp
          have := of_decide_eq_true (List.mem_filter.mp hy).2
          match y, this with
          | [d], _ => exact ⟨d, ys, rfl⟩
    have hfl : ((names ws).filter fun u => decide (u.length = 1)).length ≤ 8 := Nat.le_trans (List.length_filter_le _ _) (by rw [show (names ws).length = ws.length from List.length_map ..]; exact h8)
    have hfl0 : 0 < ((names ws).filter fun u => decide (u.length = 1)).length := by rw [hc0]; simp
    have s02 := SI.of e02 hs
    refine q_asgM (em_draw (n := 8) rfl (fun _ _ => ev_c) (by omega) (by omega)) hs2 fun v H3 s3 ⟨pick, ev, _⟩ => ?_
    subst ev
    refine q_asgM (em_draw (n := t.length + 1) rfl (fun _ _ => ev_op (ev_lenW (ev_var rfl) (by omega)) ev_c rv_I0) (by omega) (by omega)) s3.2 fun v H4 s4 ⟨st, ev, hst⟩ => ?_
    subst ev
    refine q_asgM (P := fun v _ => ∃ en : Nat, v = .int (en : Int) ∧ st ≤ en ∧ en ≤ t.length) (em_op (P2 := fun v => ∃ d : Nat, v = .int (d : Int) ∧ d < t.length - st + 1) (em_ev fun _ _ => ev_var rfl) (em_draw (n := t.length - st + 1) rfl (fun _ _ => ev_is (ev_op (ev_op (ev_lenW (ev_var rfl) (by omega)) (ev_var rfl) rv_I0) ev_c rv_I0) (by
      show V.int _ = V.int _
      congr 1
      omega)) (by omega) (by omega)) fun x y H1 _ ex ⟨d, ey, hd⟩ => by
        subst ex ey
        exact ⟨_, rv_I0, fun _ => ⟨st + d, by rw [Int.natCast_add], by omega, by omega⟩⟩) s4.2 fun v H5 s5 ⟨en, ev, hen1, hen2⟩ => ?_
    subst ev
    have s25 := (s3.trans s4).trans s5
    have hp5 := s25.1 _ _ hpa hp
    refine q_asgM (em_join (l := letters ws) (B := fun xs => ∃ n, n < 5 ∧ xs = upto n) (em_lc (EvIR.im (eir_r1 (em_draw (n := 5) rfl (fun _ _ => ev_c) (by omega) (by omega)) fun n hn => by omega)) (fun xs ⟨n, hn, e⟩ => by rw [e, upto_len]; omega) fun xs _ y _ => ⟨_, fun H1 => bnd_name, rfl, (em_ixL (fun _ _ => ev_var rfl) (fun H1 i => i.1 _ _ hpa hp5) (em_draw (n := (((names ws).filter fun u => decide (u.length = 1)).map vS).length) rfl (fun H1 i => ev_lenL (ev_var rfl) (i.1 _ _ hpa hp5)) (by rw [List.length_map]; omega) (by rw [List.length_map]; omega))).imp fun v H1 _ hv => hone v hv⟩) fun xs ⟨n, hn, e⟩ => by rw [e, upto_len]; omega) s5.2 fun v H6 s6 ⟨u, xs, ev, ⟨n, hn, exs⟩, hul, huc⟩ => ?_
    subst ev
    rw [exs, upto_len] at hul
    have hp6 := s6.1 _ _ hpa hp5
    refine seq_gen (fun σ' H7 => ∃ pc : Wd, σ' = [some (.ref a.1), some (.ref b), some x, some (vS t), some (.ref p), some (.int (pick : Int)), some (.int (st : Int)), some (.int (en : Int)), some (vS pc), none, none, none] ∧ pc.length ≤ 30 ∧ (∀ c ∈ pc, c ∈ letters ws) ∧ SI a H H7) ?_ fun G hG => ?_
    · rintro σ' H7 ⟨pc, rfl, hpl, hpc, s7⟩
      have hlt : Letters ws pc := fun c hc => mem_letters.mp (hpc c hc)
      refine q_when (et_test (ev_op (ev_var rfl) ev_c rv_I0)) (fun _ H8 e8 => ?_) fun _ H8 e8 => ?_
      · exact s_retU (eu_tup (ea_cons ev_c (ea_cons (ev_var rfl) (ea_cons (ev_var rfl) ea_nil))) (by simp)) fun p H9 _ e9 hp9 => k _ (.ins st pc) H9 (s7.trans (SI.of (e8.trans e9) s7.2)) (cmd_mk hp9) hpl ⟨by omega, hpl, hlt⟩ trivial
      have s8 := s7.trans (SI.of e8 s7.2)
      refine q_when (et_test (ev_op (ev_var rfl) ev_c (rv_eq rfl))) (fun _ H9 e9 => ?_) fun _ H9 e9 => ?_
      · exact s_retU (eu_tup (ea_cons ev_c (ea_cons (ev_var rfl) (ea_cons (ev_var rfl) ea_nil))) (by simp)) fun p H10 _ e10 hp10 => k _ (.rem st en) H10 (s8.trans (SI.of (e9.trans e10) s8.2)) (cmd_mk hp10) hen1 ⟨hen1, hen2⟩ trivial
      have s9 := s8.trans (SI.of e9 s8.2)
      refine q_when (et_test (ev_op (ev_var rfl) ev_c (rv_eq rfl))) (fun _ H10 e10 => ?_) fun _ H10 e10 => ?_
      · exact s_retU (eu_tup (ea_cons ev_c (ea_cons (ev_var rfl) (ea_cons (ev_var rfl) (ea_cons (ev_var rfl) ea_nil)))) (by simp)) fun p H11 _ e11 hp11 => k _ (.rep st en pc) H11 (s9.trans (SI.of (e10.trans e11) s9.2)) (cmd_mk hp11) ⟨hen1, hpl⟩ ⟨hen1, hen2, hpl, hlt⟩ trivial
      have s10 := s9.trans (SI.of e10 s9.2)
      refine q_when (et_test (ev_op (ev_var rfl) ev_c rv_I0)) (fun _ H11 e11 => ?_) fun _ H11 e11 => ?_
      · have s11 := s10.trans (SI.of e11 s10.2)
        refine q_asgM (em_join (l := [97, 98, 99, 100]) (B := fun xs => ∃ n, (∃ e, e < 4 ∧ n = 1 + e) ∧ xs = upto n) (em_lc (EvIR.im (eir_r1 (em_addI (i := 1) (em_draw (n := 4) rfl (fun _ _ => ev_c) (by omega) (by omega))) fun n ⟨e, h1, h2⟩ => by omega)) (fun xs ⟨n, ⟨e, h1, h2⟩, ex⟩ => by rw [ex, upto_len]; omega) fun xs _ y _ => ⟨_, fun H1 => bnd_name, rfl, em_ixS (by simp) (fun _ _ => by rw [abcd_eq]; exact ev_c) (em_draw (n := 4) rfl (fun _ _ => ev_c) (by omega) (by omega))⟩) fun xs ⟨n, ⟨e, h1, h2⟩, ex⟩ => by rw [ex, upto_len]; omega) s11.2 fun v H12 s12 ⟨wd, xs, ev, ⟨n, ⟨e, h1, h2⟩, ex⟩, hwl, hwc⟩ => ?_
        subst ev
        rw [ex, upto_len] at hwl
        refine s_retM (em_tup (n := 3) (R := fun vs _ => ∃ d : Nat, vs = [.str "add", vS wd, .int (d : Int)] ∧ 1 ≤ d ∧ d ≤ 9) (fun _ _ _ _ _ h => h) (fun H13 s13 Q q => ?_) (fun vs _ ⟨d, h, _⟩ => by rw [h] <;> rfl) (by omega)) s12.2 fun v H13 s13 ⟨q, vs, ev, hq, d, evs, hd1, hd2⟩ => ?_
        · exact (eam_cons (P := fun x _ => x = .str "add") (fun _ _ _ _ _ h => h) (em_ev fun _ _ => ev_c) (eam_cons (P := fun x _ => x = vS wd) (fun _ _ _ _ _ h => h) (em_ev fun _ _ => ev_var rfl) (eam_cons (fun _ _ _ _ _ h => h) (em_addI (i := 1) (em_draw (n := 9) rfl (fun H1 _ => ev_c) (by omega) (by omega))) eam_nil))) H13 s13 Q fun vs H14 s14 ⟨v1, u1, g1, p1, v2, u2, g2, p2, v3, u3, g3, ⟨d, p3, e', g4, g5⟩, g6⟩ => q vs H14 s14 ⟨d, by rw [g1, p1, g2, p2, g3, p3, g6], by omega, by omega⟩
        · subst ev evs
          have hz : ∀ c ∈ wd, 97 ≤ c ∧ c ≤ 100 := fun c hc => by
            have := hwc c hc
            simp only [List.mem_cons, List.not_mem_nil, or_false] at this
            omega
          have hok : okL wd = true := by
            unfold okL
            simp only [Bool.and_eq_true, decide_eq_true_eq, List.all_eq_true]
            refine ⟨⟨by omega, by omega⟩, fun c hc => ?_⟩
            have := hz c hc
            unfold alphaL
            exact List.mem_map.mpr ⟨c - 97, List.mem_range.mpr (by omega), by omega⟩
          have hco : okL wd = true ∧ 1 ≤ (d : Int) ∧ (d : Int) ≤ 9 := ⟨hok, by omega, by omega⟩
          exact k _ (.add wd d) H13 ((s11.trans s12).trans s13) (cmd_mk hq) hco hco hz
      have s11 := s10.trans (SI.of e11 s10.2)
      refine q_when (et_test (ev_op (ev_var rfl) ev_c (rv_eq rfl))) (fun _ H12 e12 => ?_) fun _ H12 e12 => ?_
      · obtain ⟨wa, xs, rfl, hwa, hk, hE⟩ := wl_inv hx
        have s12 := s11.trans (SI.of e12 s11.2)
        have hxl : xs.length = ws.length := by rw [← hk, List.length_map]
        have hge : 1 ≤ ws.length := hV.ge
        have hw12 := s12.ext hs _ _ hwa
        refine s_retM (em_tup (n := 2) (R := fun vs _ => ∃ u ∈ names ws, vs = [.str "drop", vS u]) (fun _ _ _ _ _ h => h) (fun H13 s13 Q q => ?_) (fun vs _ ⟨d, _, h⟩ => by rw [h] <;> rfl) (by omega)) s12.2 fun v H13 s13 ⟨q, vs, ev, hq, u, hu, evs⟩ => ?_
        · refine (eam_cons (P := fun x _ => x = .str "drop") (fun _ _ _ _ _ h => h) (em_ev fun _ _ => ev_c) (eam_cons (P := fun v _ => ∃ u ∈ names ws, v = vS u) (fun _ _ _ _ _ h => h) (em_op (P1 := fun v => v ∈ xs) (P2 := fun v => v = .int ((0 : Nat) : Int)) (em_ixT (fun _ _ => ev_var rfl) (fun H14 s14 => s14.ext s12.2 _ _ hw12) (em_draw (n := xs.length) rfl (fun H14 s14 => ev_lenT (ev_var rfl) (s14.ext s12.2 _ _ hw12)) (by omega) (by omega))) (em_ev fun _ _ => ev_c) fun y z H14 s14 hy ez => ?_) eam_nil)) H13 s13 Q fun vs H14 s14 ⟨v1, u1, g1, p1, v2, u2, g2, ⟨u, hu, p2⟩, g6⟩ => q vs H14 s14 ⟨u, hu, by rw [g1, p1, g2, p2, g6]⟩
          subst ez
          obtain ⟨t', ey, ht'⟩ := hE y hy
          subst ey
          exact ⟨_, rv_ixT (SqT.of ((s12.trans s14).ext hs _ _ ht')) (atI_n rfl), fun _ => ⟨(keyE H (.ref t')).1, by rw [← hk]; exact List.mem_map.mpr ⟨_, List.mem_map.mpr ⟨_, hy, rfl⟩, rfl⟩, rfl⟩⟩
        · subst ev evs
          have := (mem_names_len hV hu).2
          exact k _ (.drop u) H13 (s12.trans s13) (cmd_mk hq) (show u.length ≤ 100 by omega) trivial trivial
      · have s12 := s11.trans (SI.of e12 s11.2)
        refine s_retM (em_tup (n := 2) (R := fun vs _ => ∃ u : Wd, u.length ≤ 100 ∧ vs = [.str "drop", vS u]) (fun _ _ _ _ _ h => h) (fun H13 s13 Q q => ?_) (fun vs _ ⟨d, _, h⟩ => by rw [h] <;> rfl) (by omega)) s12.2 fun v H13 s13 ⟨q, vs, ev, hq, u, hu, evs⟩ => ?_
        · refine (eam_cons (P := fun x _ => x = .str "drop") (fun _ _ _ _ _ h => h) (em_ev fun _ _ => ev_c) (eam_cons (P := fun v _ => ∃ u : Wd, u.length ≤ 100 ∧ v = vS u) (fun _ _ _ _ _ h => h) ((em_pick (n := 4) (fun _ _ _ _ _ h => h) ((?_ : EvAM a _ _ _ (fun vs _ => vs = [.str "", .str "a", .str "abcde", .str "zz"]))) (fun vs _ h => by rw [h] <;> rfl) (by omega) (em_draw (n := 4) rfl (fun _ _ => ev_c) (by omega) (by omega))).imp fun v H14 _ ⟨vs, h, hv⟩ => ?_) eam_nil)) H13 s13 Q fun vs H14 s14 ⟨v1, u1, g1, p1, v2, u2, g2, ⟨u, hu, p2⟩, g6⟩ => q vs H14 s14 ⟨u, hu, by rw [g1, p1, g2, p2, g6]⟩
          · exact fun H14 s14 Q q => (ea_cons ev_c (ea_cons ev_c (ea_cons ev_c (ea_cons ev_c ea_nil))) : EvA _ _ H14 _) H14 (Ex.refl _) Q fun H15 e15 => q _ H15 (SI.of e15 s14.2) rfl
          · rw [h] at hv
            simp only [List.mem_cons, List.not_mem_nil, or_false] at hv
            rcases hv with r | r | r | r
            · exact ⟨[], by simp, by rw [r, empty_S]⟩
            · exact ⟨[97], by simp, by rw [r, a_eq]⟩
            · exact ⟨[97, 98, 99, 100, 101], by simp, by rw [r, abcde_eq]⟩
            · exact ⟨[122, 122], by simp, by rw [r, zz_eq]⟩
        · subst ev evs
          exact k _ (.drop u) H13 (s12.trans s13) (cmd_mk hq) hu trivial trivial
    · have s06 := (s02.trans s25).trans s6
      refine s_whenM (em_eqI (em_draw (n := 10) rfl (fun H1 _ => ev_c) (by omega) (by omega))) s6.2 (fun H7 s7 => ?_) fun H7 s7 => hG _ _ ⟨u, rfl, by omega, huc, s06.trans s7⟩
      have hp7 := s7.1 _ _ hpa hp6
      have hul30 : u.length ≤ 30 := by omega
      refine s_asg (v := vS (u ++ List.replicate (30 - u.length) c0)) (ev_addS (ev_var rfl) (ev_mulS (c := c0) (n := 30 - u.length) (ev_ixL (i := 0) (ev_var rfl) hp7 ev_c (by rw [hc0] <;> rfl)) (ev_is (ev_op ev_c (ev_lenW (ev_var rfl) (by omega)) rv_I0) (by
        show V.int _ = V.int _
        congr 1
        omega)) (by omega)) (by rw [List.length_replicate]; omega)) fun H8 e8 => hG _ _ ⟨_, rfl, by rw [List.length_append, List.length_replicate]; omega, fun c hc => ?_, (s06.trans s7).trans (SI.of e8 s7.2)⟩
      rcases List.mem_append.mp hc with h | h
      · exact huc c h
      · rw [(List.mem_replicate.mp h).2]
        have : [c0] ∈ (names ws).filter fun u => decide (u.length = 1) := by rw [hc0]; simp
        exact mem_letters.mpr (List.mem_filter.mp this).1
end
end G
/-! the law: bad_command, turned -/
namespace G
open PySem PySem.Spec PyProof.Rows L2 Evl

mutual
theorem RL.si {a : Strm} {H H' : Hp} (i : SI a H H') (hs : StrOk a H) : ∀ {d : PyData} {v : V}, RL H d v → RL H' d v
  | _, _, .non => .non
  | _, _, .bl b => .bl b
  | _, _, .int i => .int i
  | _, _, .str z => .str z
  | _, _, .tup h r => .tup (i.ext hs _ _ h) (RLs.si i hs r)
  | _, _, .lst (a := p) (l := l) h => .lst (i.1 _ _ (fun e => by
      obtain ⟨c, k, is, g1, _⟩ := hs
      rw [e, g1] at h
      have h1 := HO.lst.inj (Option.some.inj h)
      have h2 : V.ref a.2 ∈ l.map vS := by rw [← h1]; simp
      obtain ⟨_, _, h3⟩ := List.mem_map.mp h2
      cases h3) h)
  | _, _, .obj (a := p) (xs := xs) h => by
      by_cases e : p = a.1
      · obtain ⟨c, k, is, g1, _⟩ := i.2
        rw [e]
        exact .obj g1
      · exact .obj (i.1 _ _ e h)
theorem RLs.si {a : Strm} {H H' : Hp} (i : SI a H H') (hs : StrOk a H) : ∀ {ds : List PyData} {vs : List V}, RLs H ds vs → RLs H' ds vs
  | _, _, .nil => .nil
  | _, _, .cons h r => .cons (RL.si i hs h) (RLs.si i hs r)
end
def BadX (t : Wd) (d : PyData) : Prop := Dom d ∧ ∀ ws, Ab ws → dec ws t d = none
def Sm (as : List PyData) : Prop := ∀ a ∈ as, small a
theorem sm_nil : Sm [] := fun _ h => by simp at h
theorem sm_cons {d : PyData} {ds : List PyData} (h : small d) (hs : Sm ds) : Sm (d :: ds) := fun x hx => by
  rcases List.mem_cons.mp hx with e | e
  · rw [e]; exact h
  · exact hs x e
theorem bad_of {t : Wd} {z : Str} {as : List PyData} (hz : z ∈ Heads) (hs : Sm as) (h : ∀ ws, Ab ws → (decA ws t z as).isSome = false) : BadX t (.tuple (.str z :: as)) :=
  ⟨⟨hz, hs⟩, fun ws hA => by
    have := h ws hA
    show decA ws t z as = none
    cases hd : decA ws t z as with
    | none => rfl
    | some k => rw [hd] at this; cases this⟩
theorem bad_len {t : Wd} {z : Str} {as : List PyData} (hz : z ∈ Heads) (hs : Sm as) (h : ¬ lenOf z = ((as.length + 1 : Nat) : Int)) : BadX t (.tuple (.str z :: as)) := bad_of hz hs fun ws _ => by rw [dec_len ws t hz as h]; rfl
theorem h_ins : ("insert" : Str) ∈ Heads := by decide +kernel
theorem h_rem : ("remove" : Str) ∈ Heads := by decide +kernel
theorem h_rep : ("replace" : Str) ∈ Heads := by decide +kernel
theorem h_add : ("add" : Str) ∈ Heads := by decide +kernel
theorem h_drop : ("drop" : Str) ∈ Heads := by decide +kernel
theorem h_move : ("move" : Str) ∈ Heads := by decide +kernel
theorem sm_S {u : Wd} (h : u.length ≤ 100) : small (.str (S u)) := by
  show (S u).length ≤ 100
  rw [S_len]; exact h
theorem sm_a : small (.str "a") := by rw [a_eq]; exact sm_S (by simp)
theorem sm_k {z : Str} (h : decide (z.length ≤ 100) = true) : small (.str z) := (of_decide_eq_true h : z.length ≤ 100)
theorem z_eq : ("z" : Str) = S [122] := by decide +kernel
theorem bad3 (t : Wd) : BadX t (.tuple [.str "insert", .int ((t.length : Int) + 1), .str "a"]) := bad_of h_ins (sm_cons trivial (sm_cons sm_a sm_nil)) fun ws _ => by
  rw [dec_ins, show btw (.int ((t.length : Int) + 1)) 0 t.length = (decide (0 ≤ (t.length : Int) + 1) && decide ((t.length : Int) + 1 ≤ t.length)) from rfl, decide_eq_false (p := (t.length : Int) + 1 ≤ t.length) (by omega), Bool.and_false, Bool.false_and]
theorem bad4 (t : Wd) : BadX t (.tuple [.str "insert", .int (-1), .str "a"]) := bad_of h_ins (sm_cons trivial (sm_cons sm_a sm_nil)) fun ws _ => by
  rw [dec_ins, show btw (.int (-1)) 0 t.length = (decide (0 ≤ (-1 : Int)) && decide ((-1 : Int) ≤ t.length)) from rfl, decide_eq_false (p := 0 ≤ (-1 : Int)) (by omega), Bool.false_and, Bool.false_and]
theorem bad5 (t : Wd) : BadX t (.tuple [.str "insert", .bool true, .str "a"]) := bad_of h_ins (sm_cons trivial (sm_cons sm_a sm_nil)) fun ws _ => by
  rw [dec_ins] <;> rfl
theorem bad6 (t : Wd) : BadX t (.tuple [.str "insert", .int 0, .str "z"]) := bad_of h_ins (sm_cons trivial (sm_cons (by rw [z_eq]; exact sm_S (by simp)) sm_nil)) fun ws hA => by
  rw [dec_ins, Bool.and_eq_false_iff]
  refine .inr ?_
  rw [Bool.eq_false_iff]
  intro h
  rw [z_eq, textB_iff, S_list] at h
  have := hA _ (h.2 122 (by simp)) 122 (by simp)
  omega
theorem bad7 (t : Wd) : BadX t (.tuple [.str "insert", .int 0, .str (S (List.replicate 31 97))]) := bad_of h_ins (sm_cons trivial (sm_cons (sm_S (by simp)) sm_nil)) fun ws hA => by
  rw [dec_ins, Bool.and_eq_false_iff]
  refine .inr ?_
  rw [Bool.eq_false_iff]
  intro h
  rw [textB_iff, S_list] at h
  have := h.1
  simp at this
theorem bad8 (t : Wd) : BadX t (.tuple [.str "insert", .int 0, .none]) := bad_of h_ins (sm_cons trivial (sm_cons trivial sm_nil)) fun ws _ => by
  rw [dec_ins, show textB ws .none = false from rfl, Bool.and_false]
theorem bad9 (t : Wd) : BadX t (.tuple [.str "remove", .int 1, .int 0]) := bad_of h_rem (sm_cons trivial (sm_cons trivial sm_nil)) fun ws _ => by
  rw [dec_rem, show btwD (.int 1) (.int 0) t.length = (decide ((1 : Int) ≤ 0) && decide ((0 : Int) ≤ t.length)) from rfl, decide_eq_false (p := (1 : Int) ≤ 0) (by omega), Bool.false_and, Bool.and_false]
theorem bad10 (t : Wd) : BadX t (.tuple [.str "remove", .int 0, .int ((t.length : Int) + 1)]) := bad_of h_rem (sm_cons trivial (sm_cons trivial sm_nil)) fun ws _ => by
  rw [dec_rem, show btwD (.int 0) (.int ((t.length : Int) + 1)) t.length = (decide ((0 : Int) ≤ (t.length : Int) + 1) && decide ((t.length : Int) + 1 ≤ t.length)) from rfl, decide_eq_false (p := (t.length : Int) + 1 ≤ t.length) (by omega), Bool.and_false, Bool.and_false]
theorem bad12 (t : Wd) : BadX t (.tuple [.str "replace", .int 0, .int 0, .list [.str "a"]]) := bad_of h_rep (sm_cons trivial (sm_cons trivial (sm_cons trivial sm_nil))) fun ws _ => by
  rw [dec_rep, show textB ws (.list [.str "a"]) = false from rfl, Bool.and_false]
theorem bad_add {t : Wd} {z : Str} {c : Int} (hz : decide (z.length ≤ 100) = true) (h : (wordB (.str z) && btw (.int c) 1 9) = false) : BadX t (.tuple [.str "add", .str z, .int c]) := bad_of h_add (sm_cons (sm_k hz) (sm_cons trivial sm_nil)) fun ws _ => by
  rw [dec_add, h]
theorem bad20 (t : Wd) : BadX t (.tuple [.str "drop", .int 1]) := bad_of h_drop (sm_cons trivial sm_nil) fun ws _ => by rw [dec_drop] <;> rfl
theorem bad1 (t : Wd) : BadX t (.tuple [.str "move", .int 0, .int 1]) := bad_of h_move (sm_cons trivial (sm_cons trivial sm_nil)) fun ws _ => by rw [dec_move]; rfl
theorem bad22 (t : Wd) : BadX t (.list [.str "drop", .str "a"]) := ⟨trivial, fun _ _ => rfl⟩
theorem bad23 (t : Wd) : BadX t (.tuple [.none, .int 0]) := ⟨trivial, fun _ _ => rfl⟩
theorem bad24 (t : Wd) : BadX t (.tuple []) := ⟨trivial, fun _ _ => rfl⟩
theorem bad25 (t : Wd) : BadX t .none := ⟨trivial, fun _ _ => rfl⟩
/-- a value that is no command of any state with that text -/
def BadV (t : Wd) : V → Hp → Prop := fun v H => ∃ d, RL H d v ∧ BadX t d
theorem mon_bad (t : Wd) : Mon (BadV t) := fun v H H' e ⟨d, h1, h2⟩ => ⟨d, h1.ex e, h2⟩
section
variable {K : PySem.W.Frag} {σ : L2.St} {H : Hp} {te : TE} {ta : TA} {P : V → Hp → Prop} {t : Wd}
theorem eaa_nil : EvAP tNil σ H (fun vs H1 => vs.length = 0 ∧ ∀ v ∈ vs, P v H1) := fun H1 e Q q => q [] H1 (Ex.refl _) ⟨rfl, fun _ h => by simp at h⟩
theorem eaa_cons {n : Nat} (hm : Mon P) (h : EvP te σ H P) (hr : EvAP ta σ H (fun vs H1 => vs.length = n ∧ ∀ v ∈ vs, P v H1)) : EvAP (tCons te ta) σ H (fun vs H1 => vs.length = n + 1 ∧ ∀ v ∈ vs, P v H1) := fun H1 e Q q =>
  eap_cons hm h hr H1 e Q fun vs H2 e2 ⟨v, us, g1, g2, g3, g4⟩ => q vs H2 e2 ⟨by rw [g1, List.length_cons, g3], fun x hx => by
    rw [g1] at hx
    rcases List.mem_cons.mp hx with r | r
    · rw [r]; exact g2
    · exact g4 x r⟩
theorem dra_eq : ("drop" : Str) = S [100, 114, 111, 112] := by decide +kernel
theorem lst_a {p : Addr} (h : H p = some (.lst [.str "a"])) : RL H (.list [.str "a"]) (.ref p) := by
  rw [a_eq] at h ⊢
  exact .lst (l := [[97]]) h
theorem lst_da {p : Addr} (h : H p = some (.lst [.str "drop", .str "a"])) : RL H (.list [.str "drop", .str "a"]) (.ref p) := by
  rw [a_eq, dra_eq] at h ⊢
  exact .lst (l := [[100, 114, 111, 112], [97]]) h
/-- a tuple of scalars -/
theorem evp_sc {vs : List V} {ds : List PyData} (h : EvA ta σ H vs) (hl : vs.length ≤ 1000) (hd : ∀ H1, RLs H1 ds vs) (hb : BadX t (.tuple ds)) : EvP (tTup ta) σ H (BadV t) :=
  (evu_p (eu_tup h (by omega))).imp fun v H1 _ ⟨p, ev, hp⟩ => ⟨_, ev ▸ .tup hp (hd H1), hb⟩
end
section
variable {P : Program} {w : World} {K : PySem.W.Frag} {mg : Str → Option Value} {base : Heap}
def sp_bad : Sp := fun vs H Q _ => ∃ (a : Strm) (t : Wd), vs = [.ref a.1, vS t] ∧ StrOk a H ∧ t.length ≤ 100 ∧ ∀ v d H', SI a H H' → RL H' d v → BadX t d → Q v H'
theorem sc_law_bad_command : FnScope ["_law_stream_here", "_law_text_here", "_law_many", "_law_rows"] ["_law_stream_here", "_law_text_here"] (defScope s_law_bad_command) := ⟨rfl, rfl, rfl, by decide +kernel, rfl, by decide +kernel, by decide +kernel⟩
theorem ok_law_bad_command (T : Txt K mg w) : Ok P w K mg base 2 "_law_bad_command" ["_law_stream_here", "_law_text_here"] sp_bad := by
  have nd := sc_law_bad_command.nd
  refine Ok.mk T.d_law_bad_command sc_law_bad_command (fun _ _ _ _ _ _ us hl => match us, hl with | [_, _], _ => rfl) (fun vs H Q E h => ?_) fun f cdv A outer s H vs Q E hr h => ?_
  · obtain ⟨_, _, rfl, _⟩ := h
    rfl
  · obtain ⟨a, t, rfl, hs, ht, k⟩ := h
    refine ⟨_, (pss_cons (ps_set (i := 2) nd rfl (Or.inl rfl) (pe_callB call_len_str (by rfl) T.b_len PySem.boot_len (pa_cons (pv 1) pa_nil)))
      (pss_cons (ps_set (i := 3) nd rfl (Or.inl rfl) (pe_lst (pa_cons (pe_tup (pa_cons pe_str (pa_cons pe_int (pa_cons pe_int pa_nil)))) (pa_cons (pe_tup (pa_cons pe_str (pa_cons pe_int pa_nil))) (pa_cons (pe_tup (pa_cons pe_str (pa_cons (pe_op op_add (pv 2) pe_int) (pa_cons pe_str pa_nil)))) (pa_cons (pe_tup (pa_cons pe_str (pa_cons (pe_un un_neg pe_int) (pa_cons pe_str pa_nil)))) (pa_cons (pe_tup (pa_cons pe_str (pa_cons pe_bl (pa_cons pe_str pa_nil)))) (pa_cons (pe_tup (pa_cons pe_str (pa_cons pe_int (pa_cons pe_str pa_nil)))) (pa_cons (pe_tup (pa_cons pe_str (pa_cons pe_int (pa_cons (pe_op op_mulS pe_str pe_int) pa_nil)))) (pa_cons (pe_tup (pa_cons pe_str (pa_cons pe_int (pa_cons pe_non pa_nil)))) (pa_cons (pe_tup (pa_cons pe_str (pa_cons pe_int (pa_cons pe_int pa_nil)))) (pa_cons (pe_tup (pa_cons pe_str (pa_cons pe_int (pa_cons (pe_op op_add (pv 2) pe_int) pa_nil)))) (pa_cons (pe_tup (pa_cons pe_str (pa_cons pe_int (pa_cons pe_int (pa_cons pe_str pa_nil))))) (pa_cons (pe_tup (pa_cons pe_str (pa_cons pe_int (pa_cons pe_int (pa_cons (pe_lst (pa_cons pe_str pa_nil)) pa_nil))))) (pa_cons (pe_tup (pa_cons pe_str (pa_cons pe_int (pa_cons pe_str pa_nil)))) (pa_cons (pe_tup (pa_cons pe_str (pa_cons pe_str (pa_cons pe_int pa_nil)))) (pa_cons (pe_tup (pa_cons pe_str (pa_cons pe_str (pa_cons pe_int pa_nil)))) (pa_cons (pe_tup (pa_cons pe_str (pa_cons pe_str (pa_cons pe_int pa_nil)))) (pa_cons (pe_tup (pa_cons pe_str (pa_cons pe_str (pa_cons pe_int pa_nil)))) (pa_cons (pe_tup (pa_cons pe_str (pa_cons pe_str (pa_cons pe_int pa_nil)))) (pa_cons (pe_tup (pa_cons pe_str (pa_cons pe_str pa_nil))) (pa_cons (pe_tup (pa_cons pe_str (pa_cons pe_int pa_nil))) (pa_cons (pe_tup (pa_cons pe_str (pa_cons pe_str (pa_cons pe_int pa_nil)))) (pa_cons (pe_lst (pa_cons pe_str (pa_cons pe_str pa_nil))) (pa_cons (pe_tup (pa_cons pe_non (pa_cons pe_int pa_nil))) (pa_cons (pe_tup pa_nil) (pa_cons pe_non pa_nil)))))))))))))))))))))))))))
      (pss_one (ps_ret (pe_ix (ix_listK K rfl) (pv 3) (pe_fn (ok_law_next T) hr (pa_cons (pv 0) (pa_cons (pe_callB (call_lenK K rfl) (by rfl) T.b_len PySem.boot_len (pa_cons (pv 3) pa_nil)) pa_nil))) (fun _ _ => rfl)))))), ?_⟩
    refine q_asg (ev_lenW (ev_var rfl) (by omega)) fun H1 e1 => ?_
    have l1 : ∀ {e : Expr} {i : Int}, True := trivial
    refine q_asgP (evp_lst (PA := fun vs H1 => vs.length = 25 ∧ ∀ v ∈ vs, BadV t v H1) (fun vs H H' e ⟨h1, h2⟩ => ⟨h1, fun v hv => mon_bad t v H H' e (h2 v hv)⟩) (eaa_cons (mon_bad t) (evp_sc (ea_cons ev_c (ea_cons ev_c (ea_cons ev_c ea_nil))) (by simp) (fun _ => .cons (.str _) (.cons (.int _) (.cons (.int _) .nil))) (bad1 t))
      (eaa_cons (mon_bad t) (evp_sc (ea_cons ev_c (ea_cons ev_c ea_nil)) (by simp) (fun _ => .cons (.str _) (.cons (.int _) .nil)) (bad_len h_ins (sm_cons trivial sm_nil) (by rw [len_ins]; decide)))
      (eaa_cons (mon_bad t) (evp_sc (ea_cons ev_c (ea_cons (ev_op (ev_var rfl) ev_c rv_I0) (ea_cons ev_c ea_nil))) (by simp) (fun _ => .cons (.str _) (.cons (.int _) (.cons (.str _) .nil))) (bad3 t))
      (eaa_cons (mon_bad t) (evp_sc (ea_cons ev_c (ea_cons (ev_un ev_c ru_neg) (ea_cons ev_c ea_nil))) (by simp) (fun _ => .cons (.str _) (.cons (.int _) (.cons (.str _) .nil))) (bad4 t))
      (eaa_cons (mon_bad t) (evp_sc (ea_cons ev_c (ea_cons ev_c (ea_cons ev_c ea_nil))) (by simp) (fun _ => .cons (.str _) (.cons (.bl _) (.cons (.str _) .nil))) (bad5 t))
      (eaa_cons (mon_bad t) (evp_sc (ea_cons ev_c (ea_cons ev_c (ea_cons ev_c ea_nil))) (by simp) (fun _ => .cons (.str _) (.cons (.int _) (.cons (.str _) .nil))) (bad6 t))
      (eaa_cons (mon_bad t) (evp_sc (ea_cons ev_c (ea_cons ev_c (ea_cons (ev_mulS (c := 97) (n := 31) (ev_is ev_c (by rw [a_eq])) ev_c (by omega)) ea_nil))) (by simp) (fun _ => .cons (.str _) (.cons (.int _) (.cons (.str _) .nil))) (bad7 t))
      (eaa_cons (mon_bad t) (evp_sc (ea_cons ev_c (ea_cons ev_c (ea_cons ev_c ea_nil))) (by simp) (fun _ => .cons (.str _) (.cons (.int _) (.cons .non .nil))) (bad8 t))
      (eaa_cons (mon_bad t) (evp_sc (ea_cons ev_c (ea_cons ev_c (ea_cons ev_c ea_nil))) (by simp) (fun _ => .cons (.str _) (.cons (.int _) (.cons (.int _) .nil))) (bad9 t))
      (eaa_cons (mon_bad t) (evp_sc (ea_cons ev_c (ea_cons ev_c (ea_cons (ev_op (ev_var rfl) ev_c rv_I0) ea_nil))) (by simp) (fun _ => .cons (.str _) (.cons (.int _) (.cons (.int _) .nil))) (bad10 t))
      (eaa_cons (mon_bad t) (evp_sc (ea_cons ev_c (ea_cons ev_c (ea_cons ev_c (ea_cons ev_c ea_nil)))) (by simp) (fun _ => .cons (.str _) (.cons (.int _) (.cons (.int _) (.cons (.str _) .nil)))) (bad_len h_rem (sm_cons trivial (sm_cons trivial (sm_cons (sm_k (by decide +kernel)) sm_nil))) (by rw [len_rem]; decide)))
      (eaa_cons (mon_bad t) ((evp_tup (PA := fun vs H1 => ∃ p, vs = [.str "replace", .int 0, .int 0, .ref p] ∧ H1 p = some (.lst [.str "a"])) (fun vs H H' e ⟨p, h1, h2⟩ => ⟨p, h1, e _ _ h2⟩) (fun H3 e3 Q q => ?_) (fun vs _ ⟨p, h, _⟩ => by rw [h]; simp)).imp fun v H1 _ ⟨p, vs, ev, hp, q, evs, hq⟩ => ⟨_, ev ▸ .tup hp (evs ▸ .cons (.str _) (.cons (.int _) (.cons (.int _) (.cons (lst_a hq) .nil)))), bad12 t⟩)
      (eaa_cons (mon_bad t) (evp_sc (ea_cons ev_c (ea_cons ev_c (ea_cons ev_c ea_nil))) (by simp) (fun _ => .cons (.str _) (.cons (.int _) (.cons (.str _) .nil))) (bad_len h_rep (sm_cons trivial (sm_cons sm_a sm_nil)) (by rw [len_rep]; decide)))
      (eaa_cons (mon_bad t) (evp_sc (ea_cons ev_c (ea_cons ev_c (ea_cons ev_c ea_nil))) (by simp) (fun _ => .cons (.str _) (.cons (.str _) (.cons (.int _) .nil))) (bad_add (by decide +kernel) (by decide +kernel)))
      (eaa_cons (mon_bad t) (evp_sc (ea_cons ev_c (ea_cons ev_c (ea_cons ev_c ea_nil))) (by simp) (fun _ => .cons (.str _) (.cons (.str _) (.cons (.int _) .nil))) (bad_add (by decide +kernel) (by decide +kernel)))
      (eaa_cons (mon_bad t) (evp_sc (ea_cons ev_c (ea_cons ev_c (ea_cons ev_c ea_nil))) (by simp) (fun _ => .cons (.str _) (.cons (.str _) (.cons (.int _) .nil))) (bad_add (by decide +kernel) (by decide +kernel)))
      (eaa_cons (mon_bad t) (evp_sc (ea_cons ev_c (ea_cons ev_c (ea_cons ev_c ea_nil))) (by simp) (fun _ => .cons (.str _) (.cons (.str _) (.cons (.int _) .nil))) (bad_add (by decide +kernel) (by decide +kernel)))
      (eaa_cons (mon_bad t) (evp_sc (ea_cons ev_c (ea_cons ev_c (ea_cons ev_c ea_nil))) (by simp) (fun _ => .cons (.str _) (.cons (.str _) (.cons (.int _) .nil))) (bad_add (by decide +kernel) (by decide +kernel)))
      (eaa_cons (mon_bad t) (evp_sc (ea_cons ev_c (ea_cons ev_c ea_nil)) (by simp) (fun _ => .cons (.str _) (.cons (.str _) .nil)) (bad_len h_add (sm_cons (sm_k (by decide +kernel)) sm_nil) (by rw [len_add]; decide)))
      (eaa_cons (mon_bad t) (evp_sc (ea_cons ev_c (ea_cons ev_c ea_nil)) (by simp) (fun _ => .cons (.str _) (.cons (.int _) .nil)) (bad20 t))
      (eaa_cons (mon_bad t) (evp_sc (ea_cons ev_c (ea_cons ev_c (ea_cons ev_c ea_nil))) (by simp) (fun _ => .cons (.str _) (.cons (.str _) (.cons (.int _) .nil))) (bad_len h_drop (sm_cons sm_a (sm_cons trivial sm_nil)) (by rw [len_drop]; decide)))
      (eaa_cons (mon_bad t) ((evl_p (el_lst (vs := [.str "drop", .str "a"]) (ea_cons ev_c (ea_cons ev_c ea_nil)) (by simp))).imp fun v H1 _ ⟨p, ev, hp⟩ => ⟨_, ev ▸ lst_da hp, bad22 t⟩)
      (eaa_cons (mon_bad t) (evp_sc (ea_cons ev_c (ea_cons ev_c ea_nil)) (by simp) (fun _ => .cons .non (.cons (.int _) .nil)) (bad23 t))
      (eaa_cons (mon_bad t) (evp_sc ea_nil (by simp) (fun _ => .nil) (bad24 t))
      (eaa_cons (mon_bad t) ((ev_p ev_c).imp fun v H1 _ ev => ⟨.none, ev ▸ .non, bad25 t⟩) eaa_nil))))))))))))))))))))))))) (fun vs _ ⟨h, _⟩ => by omega)) fun v H2 e2 ⟨p, vs, ev, hp, hl, hv⟩ => ?_
    · exact ev_at ev_c e3 fun H4 e4 => ev_at ev_c (e3.trans e4) fun H5 e5 => ev_at ev_c ((e3.trans e4).trans e5) fun H6 e6 => (el_lst (vs := [.str "a"]) (ea_cons ev_c ea_nil) (by simp)) H6 (((e3.trans e4).trans e5).trans e6) _ fun p H7 _ e7 hp => q _ H7 (((e4.trans e5).trans e6).trans e7) ⟨p, rfl, hp⟩
    · subst ev
      have e02 := e1.trans e2
      have hs2 := hs.ex e02
      have hpa : p ≠ a.1 := fun e => by
        obtain ⟨c, kk, is, g1, _⟩ := hs2
        rw [← e, hp] at g1
        have := congrArg List.length (HO.lst.inj (Option.some.inj g1))
        rw [hl] at this
        simp at this
      refine s_retM (em_ixL (fun _ _ => ev_var rfl) (fun H3 i => i.1 _ _ hpa hp) (em_draw (n := vs.length) rfl (fun H3 i => ev_lenL (ev_var rfl) (i.1 _ _ hpa hp)) (by omega) (by omega))) hs2 fun v H3 s3 hvm => ?_
      obtain ⟨d, h1, h2⟩ := hv v hvm
      exact k v d H3 ((SI.of e02 hs).trans s3) (h1.si s3 hs2) h2
end
end G
/-! the law: turned -/
namespace G
open PySem PySem.Spec PyProof.Rows L2 Evl

def CmdW : V → Hp → Prop := fun v H => ∃ d, RL H d v ∧ CmdX d
def RowW : V → Hp → Prop := fun v H => ∃ d, RL H d v ∧ RowX d
def RecW : V → Hp → Prop := fun v H => ∃ d, RL H d v ∧ RecX d
theorem mon_cmdW : Mon CmdW := fun v H H' e ⟨d, h1, h2⟩ => ⟨d, h1.ex e, h2⟩
theorem mon_rowW : Mon RowW := fun v H H' e ⟨d, h1, h2⟩ => ⟨d, h1.ex e, h2⟩
theorem mon_recW : Mon RecW := fun v H H' e ⟨d, h1, h2⟩ => ⟨d, h1.ex e, h2⟩
theorem si_cmdW {a : Strm} : ∀ v H H', SI a H H' → StrOk a H → CmdW v H → CmdW v H' := fun v H H' i hs ⟨d, h1, h2⟩ => ⟨d, h1.si i hs, h2⟩
theorem si_rowW {a : Strm} : ∀ v H H', SI a H H' → StrOk a H → RowW v H → RowW v H' := fun v H H' i hs ⟨d, h1, h2⟩ => ⟨d, h1.si i hs, h2⟩
theorem si_recW {a : Strm} : ∀ v H H', SI a H H' → StrOk a H → RecW v H → RecW v H' := fun v H H' i hs ⟨d, h1, h2⟩ => ⟨d, h1.si i hs, h2⟩
theorem rec_of {H : Hp} {p : Addr} {x y : V} (hp : H p = some (.tup [x, y])) (hx : CmdW x H) (hy : RowW y H) : RecW (.ref p) H := by
  obtain ⟨d, h1, h2⟩ := hx
  obtain ⟨e, g1, g2⟩ := hy
  exact ⟨.tuple [d, e], .tup hp (.cons h1 (.cons g1 .nil)), .inr (.inr (.inl ⟨d, e, rfl, h2, g2⟩))⟩
theorem rowW_of {H : Hp} {p : Addr} {l : List Wd} (hp : H p = some (.tup (l.map vS))) (hl : l.length ≤ 100) (hw : ∀ u ∈ l, Low u) : RowW (.ref p) H := ⟨rowD l, (row_rd hp).rl, .inr ⟨l, .inl rfl, hl, hw⟩⟩
section
variable {K : PySem.W.Frag} {σ : L2.St} {H : Hp} {ta tb te : TE} {tA : TA} {P P' : V → Hp → Prop} {a : Strm} {R : List V → Hp → Prop}
theorem evp_rec (ha : EvP ta σ H CmdW) (hb : EvP tb σ H RowW) : EvP (tTup (tCons ta (tCons tb tNil))) σ H RecW :=
  (evp_tup (PA := fun vs H1 => ∃ x y, vs = [x, y] ∧ CmdW x H1 ∧ RowW y H1) (fun vs H H' e ⟨x, y, h1, h2, h3⟩ => ⟨x, y, h1, mon_cmdW _ _ _ e h2, mon_rowW _ _ _ e h3⟩)
    (fun H1 e Q q => eap_cons mon_cmdW ha (eap_one hb) H1 e Q fun vs H2 e2 ⟨x, us, h1, h2, y, h3, h4⟩ => q vs H2 e2 ⟨x, y, by rw [h1, h3], h2, h4⟩) (fun vs _ ⟨x, y, h, _⟩ => by rw [h]; simp)).imp fun v H1 _ ⟨p, vs, ev, hp, x, y, e1, h2, h3⟩ => ev ▸ rec_of (by rw [hp, e1]) h2 h3
theorem eam_of (h : ∀ H1, SI a H H1 → EvAP tA σ H1 R) : EvAM a tA σ H R := fun H1 i Q q => h H1 i H1 (Ex.refl _) Q fun vs H2 e r => q vs H2 (SI.of e i.2) r
theorem em_rec (ha : EvM a ta σ H CmdW) (hb : EvM a tb σ H RowW) : EvM a (tTup (tCons ta (tCons tb tNil))) σ H RecW :=
  (em_tup (n := 2) (R := fun vs H1 => ∃ x y, vs = [x, y] ∧ CmdW x H1 ∧ RowW y H1) (fun vs H H' i hs ⟨x, y, h1, h2, h3⟩ => ⟨x, y, h1, si_cmdW _ _ _ i hs h2, si_rowW _ _ _ i hs h3⟩)
    (fun H1 i Q q => eam_cons si_cmdW ha (eam_cons si_rowW hb eam_nil) H1 i Q fun vs H2 s ⟨x, us, h1, h2, y, us2, h3, h4, h5⟩ => q vs H2 s ⟨x, y, by rw [h1, h3, h5], h2, h4⟩) (fun vs _ ⟨x, y, h, _⟩ => by rw [h] <;> rfl) (by omega)).imp fun v H1 _ ⟨p, vs, ev, hp, x, y, e1, h2, h3⟩ => ev ▸ rec_of (by rw [hp, e1]) h2 h3
theorem evp_catT {xs ys : List V} (ha : EvP ta σ H (fun v H1 => ∃ p, v = .ref p ∧ H1 p = some (.tup xs))) (hb : EvP tb σ H (fun v H1 => ∃ p, v = .ref p ∧ H1 p = some (.tup ys))) (hz : xs.length + ys.length ≤ 1000) : EvP (tOp (rCatA K) ta tb) σ H (fun v H1 => ∃ p, v = .ref p ∧ H1 p = some (.tup (xs ++ ys))) :=
  evp_op (fun v H H' e ⟨p, h1, h2⟩ => ⟨p, h1, e _ _ h2⟩) ha hb fun x y H1 e ⟨p, ex, hp⟩ ⟨q, ey, hq⟩ Q k => by
    subst ex ey
    refine ⟨p, q, xs, ys, rfl, rfl, SqT.of hp, SqT.of hq, sz_of (by omega), fun h0 => ?_, fun h0 h1 => ?_, fun _ _ l hl' => ?_⟩
    · exact k _ _ (Ex.refl _) ⟨q, rfl, by rw [h0]; exact hq⟩
    · exact k _ _ (Ex.refl _) ⟨p, rfl, by rw [h1, List.append_nil]; exact hp⟩
    · exact k _ _ (Ex.new hl') ⟨l, rfl, upd_same⟩
end
section
variable {K : PySem.W.Frag} {σ : L2.St} {H : Hp} {ta tb te : TE} {tA : TA} {P : V → Hp → Prop} {a : Strm}
theorem evp_cmd {c : Cmd} (h : EvA tA σ H (cmdV c)) (hc : Strc c) : EvP (tTup tA) σ H CmdW :=
  (evu_p (eu_tup h (by cases c <;> simp [cmdV]))).imp fun v H1 _ ⟨p, ev, hp⟩ => ⟨cmdD c, ev ▸ (cmd_mk hp).rl, .inl ⟨c, rfl, hc⟩⟩
theorem em_opH {r : R2} {P1 P2 : V → Prop} (ha : EvM a ta σ H (fun v _ => P1 v)) (hb : EvM a tb σ H (fun v _ => P2 v)) (hr : ∀ x y H1, SI a H H1 → P1 x → P2 y → ∃ z, RV r x y H1 z ∧ ∀ H2, SI a H H2 → P z H2) : EvM a (tOp r ta tb) σ H P := fun H1 i Q q =>
  ha H1 i _ fun x H2 j px => hb H2 (i.trans j) _ fun y H3 k py => by
    obtain ⟨z, hz, pz⟩ := hr x y H3 ((i.trans j).trans k) px py
    exact hz H3 (Ex.refl _) Q fun H4 e4 => q z H4 ((j.trans k).trans (SI.of e4 k.2)) (pz H4 (((i.trans j).trans k).trans (SI.of e4 k.2)))
end
/-- a record that was drawn or laid down -/
def RecG (e : Cmd × List Wd) : Prop := Strc e.1 ∧ e.2.length ≤ 30 ∧ ∀ u ∈ e.2, u.length ≤ 4 ∧ ∀ c ∈ u, c < 1000
theorem RDs.gv {H : Hp} : ∀ {ds : List PyData} {vs : List V} {i : Nat} {v : V}, RDs H ds vs → vs[i]? = some v → ∃ d, ds[i]? = some d ∧ RD H d v
  | [], _, i, v, .nil, h => by simp at h
  | _ :: _, _, 0, v, .cons x r, h => ⟨_, rfl, by simp at h; subst h; exact x⟩
  | _ :: _, _, i + 1, v, .cons x r, h => by
    obtain ⟨d, h1, h2⟩ := RDs.gv r (i := i) (by simpa using h)
    exact ⟨d, by simpa using h1, h2⟩
theorem rds_texts {H : Hp} : ∀ {us : List Wd} {xs : List V}, RDs H (us.map fun u => .str (S u)) xs → xs = us.map vS
  | [], _, h => h.nil_inv
  | u :: us, _, h => by
    obtain ⟨x, xs, rfl, h1, h2⟩ := RDs.cons_inv h
    rw [h1.str_inv, rds_texts h2]
    rfl
theorem rec_at {H : Hp} {c : Cmd} {l : List Wd} {v : V} (h : RD H (recD c l) v) : ∃ p x r, v = .ref p ∧ H p = some (.tup [x, .ref r]) ∧ RD H (cmdD c) x ∧ H r = some (.tup (l.map vS)) := by
  obtain ⟨p, xs, rfl, hp, hs⟩ := h.tup_inv
  obtain ⟨x1, r1, rfl, h1, hs⟩ := hs.cons_inv
  obtain ⟨x2, r2, rfl, h2, hs⟩ := hs.cons_inv
  cases hs.nil_inv
  obtain ⟨r, ys, rfl, hr, hy⟩ := h2.tup_inv
  rw [rds_texts hy] at hr
  exact ⟨p, x1, r, rfl, hp, h1, hr⟩
section
variable {P : Program} {w : World} {K : PySem.W.Frag} {mg : Str → Option Value} {base : Heap}
def sp_turned : Sp := fun vs H Q _ => ∃ (a : Strm) (r b : Addr) (at_ : Nat) (es : List (Cmd × List Wd)) (rvs : List V) (x : V) (ws : WL) (t : Wd), vs = [.ref a.1, .ref r, .int (at_ : Int), .ref b] ∧ StrOk a H ∧ H r = some (.tup rvs) ∧ RDs H (es.map fun e => recD e.1 e.2) rvs ∧ at_ < es.length ∧ es.length ≤ 100 ∧ (∀ e ∈ es, RecG e) ∧
  b ≠ a.1 ∧ H b = some (.lst [x, vS t]) ∧ RD H (wlD ws) x ∧ Good (ws, t) ∧ ∀ v d H', SI a H H' → RL H' d v → RecX d → Q v H'
theorem sc_law_turned : FnScope ["_law_stream_here", "_law_records", "_law_at", "_law_state", "_law_command_here", "_law_row", "_law_pick", "_law_k"] ["_law_stream_here", "_law_records", "_law_at", "_law_state"] (defScope s_law_turned) := ⟨rfl, rfl, rfl, by decide +kernel, rfl, by decide +kernel, by decide +kernel⟩
theorem ok_law_turned (T : Txt K mg w) : Ok P w K mg base 3 "_law_turned" ["_law_stream_here", "_law_records", "_law_at", "_law_state"] sp_turned := by
  have nd := sc_law_turned.nd
  refine Ok.mk T.d_law_turned sc_law_turned (fun _ _ _ _ _ _ us hl => match us, hl with | [_, _, _, _], _ => rfl) (fun vs H Q E h => ?_) fun f cdv A outer s H vs Q E hr h => ?_
  · obtain ⟨_, _, _, _, _, _, _, _, _, rfl, _⟩ := h
    rfl
  · obtain ⟨a, r, b, at_, es, rvs, x, ws, t, rfl, hs, hrv, hrd, hat, hel, heg, hba, hb, hx, hg, k⟩ := h
    refine ⟨_, (pss_cons (ps_asg (pe_ix (ix_tupK K rfl) (pv 1) (pv 2) (fun _ _ => rfl)) (pg_tupK K rfl (n := 2) rfl (pgs_cons (pg_name (i := 4) nd rfl (Or.inl rfl)) (pgs_cons (pg_name (i := 5) nd rfl (Or.inl rfl)) pgs_nil))))
      (pss_cons (ps_set (i := 6) nd rfl (Or.inl rfl) (pe_fn (ok_law_next T) hr (pa_cons (pv 0) (pa_cons pe_int pa_nil))))
      (pss_cons (ps_if (PW.pt (pw_and (pt_cmpR op_eq (pv 6) pe_int (nomark _)) (pw_and1 (pt_truth (pv 5) (by intro _; rfl))))) (pss_cons (ps_set (i := 7) nd rfl (Or.inl rfl) (pe_fn (ok_law_next T) hr (pa_cons (pv 0) (pa_cons (pe_callB (call_lenK K rfl) (by rfl) T.b_len PySem.boot_len (pa_cons (pv 5) pa_nil)) pa_nil))))
      (pss_one (ps_ret (pe_tup (pa_cons (pv 4) (pa_cons (pe_op (op_catK K rfl) (pe_op (op_catK K rfl) (pe_slice (sl_tupK K rfl) (pv 5) po_none (po_some (pv 7))) (pe_tup (pa_cons (pe_slice sl_str (pe_ix (ix_tupK K rfl) (pv 5) (pv 7) (fun _ _ => rfl)) po_none (po_some pe_int)) (pa_cons (pe_slice sl_str (pe_ix (ix_tupK K rfl) (pv 5) (pv 7) (fun _ _ => rfl)) (po_some pe_int) po_none) pa_nil)))) (pe_slice (sl_tupK K rfl) (pv 5) (po_some (pe_op op_add (pv 7) pe_int)) po_none)) pa_nil)))))) pss_nil)
      (pss_cons (ps_if (PW.pt (pw_and (pt_cmpR op_eq (pv 6) pe_int (nomark _)) (pw_and1 (pt_cmpR op_gt (pe_callB (call_lenK K rfl) (by rfl) T.b_len PySem.boot_len (pa_cons (pv 5) pa_nil)) pe_int (nomark _))))) (pss_cons (ps_set (i := 7) nd rfl (Or.inl rfl) (pe_fn (ok_law_next T) hr (pa_cons (pv 0) (pa_cons (pe_op op_sub (pe_callB (call_lenK K rfl) (by rfl) T.b_len PySem.boot_len (pa_cons (pv 5) pa_nil)) pe_int) pa_nil))))
      (pss_one (ps_ret (pe_tup (pa_cons (pv 4) (pa_cons (pe_op (op_catK K rfl) (pe_op (op_catK K rfl) (pe_slice (sl_tupK K rfl) (pv 5) po_none (po_some (pv 7))) (pe_tup (pa_cons (pe_op op_add_str (pe_ix (ix_tupK K rfl) (pv 5) (pv 7) (fun _ _ => rfl)) (pe_ix (ix_tupK K rfl) (pv 5) (pe_op op_add (pv 7) pe_int) (fun _ _ => rfl))) pa_nil))) (pe_slice (sl_tupK K rfl) (pv 5) (po_some (pe_op op_add (pv 7) pe_int)) po_none)) pa_nil)))))) pss_nil)
      (pss_cons (ps_if (pt_cmpR op_eq (pv 6) pe_int (nomark _)) (pss_one (ps_ret (pe_tup (pa_cons (pv 4) (pa_cons (pe_ix (ix_tupK K rfl) (pe_ix (ix_tupK K rfl) (pv 1) (pe_fn (ok_law_next T) hr (pa_cons (pv 0) (pa_cons (pe_callB (call_lenK K rfl) (by rfl) T.b_len PySem.boot_len (pa_cons (pv 1) pa_nil)) pa_nil))) (fun _ _ => rfl)) pe_int (fun _ _ => rfl)) pa_nil))))) pss_nil)
      (pss_cons (ps_if (pt_cmpR op_eq (pv 6) pe_int (nomark _)) (pss_one (ps_ret (pe_tup (pa_cons (pe_ix (ix_listK K rfl) (pe_lst (pa_cons (pe_tup (pa_cons pe_str (pa_cons pe_str pa_nil))) (pa_cons (pe_tup (pa_cons pe_str (pa_cons pe_str (pa_cons pe_int pa_nil)))) (pa_cons (pe_tup (pa_cons pe_str (pa_cons pe_int (pa_cons pe_str pa_nil)))) (pa_cons (pe_tup (pa_cons pe_str (pa_cons pe_int (pa_cons pe_int pa_nil)))) (pa_cons pe_non (pa_cons (pe_tup pa_nil) pa_nil))))))) (pe_fn (ok_law_next T) hr (pa_cons (pv 0) (pa_cons pe_int pa_nil))) (fun _ _ => rfl)) (pa_cons (pv 5) pa_nil))))) pss_nil)
      (pss_cons (ps_if (pt_cmpR op_eq (pv 6) pe_int (nomark _)) (pss_one (ps_ret (pe_ix (ix_listK K rfl) (pe_lst (pa_cons pe_non (pa_cons (pe_tup (pa_cons (pv 4) pa_nil)) (pa_cons (pe_tup (pa_cons (pv 4) (pa_cons (pe_callTy call_list_of (by rfl) T.b_list (by decide +kernel) (pa_cons (pv 5) pa_nil)) pa_nil))) (pa_cons (pe_lst (pa_cons (pv 4) (pa_cons (pv 5) pa_nil))) (pa_cons (pe_tup (pa_cons (pv 4) (pa_cons pe_non pa_nil))) (pa_cons (pe_tup (pa_cons (pv 4) (pa_cons (pe_op (op_catK K rfl) (pv 5) (pe_tup (pa_cons pe_str pa_nil))) pa_nil))) pa_nil))))))) (pe_fn (ok_law_next T) hr (pa_cons (pv 0) (pa_cons pe_int pa_nil))) (fun _ _ => rfl)))) pss_nil)
      (pss_cons (ps_if (pt_cmpR op_eq (pv 6) pe_int (nomark _)) (pss_one (ps_ret (pe_tup (pa_cons (pe_fn (ok_law_command T) hr (pa_cons (pv 0) (pa_cons (pv 3) pa_nil))) (pa_cons (pv 5) pa_nil))))) pss_nil)
      (pss_one (ps_ret (pe_tup (pa_cons (pv 4) (pa_cons (pv 5) pa_nil))))))))))))), ?_⟩
    have hrl := hrd.length
    rw [List.length_map] at hrl
    have hv0 : rvs[at_]? = some rvs[at_] := List.getElem?_eq_getElem (by omega)
    obtain ⟨d0, hd0, hrd0⟩ := hrd.gv hv0
    have hes : es[at_]? = some es[at_] := List.getElem?_eq_getElem hat
    rw [List.getElem?_map, hes] at hd0
    obtain rfl := Option.some.inj hd0
    obtain ⟨c, l, hcl⟩ : ∃ c l, es[at_] = (c, l) := ⟨_, _, rfl⟩
    have hrd1 : RD H (recD c l) rvs[at_] := by
      have h : RD H (recD es[at_].1 es[at_].2) rvs[at_] := hrd0
      rw [hcl] at h
      exact h
    obtain ⟨hc0, hl30, hlw⟩ : RecG (c, l) := hcl ▸ heg _ (List.getElem_mem hat)
    have hl30 : l.length ≤ 30 := hl30
    have hc0 : Strc c := hc0
    have hlw : ∀ u ∈ l, u.length ≤ 4 ∧ ∀ c ∈ u, c < 1000 := hlw
    obtain ⟨p, cv, rr, hvp, hp, hcv, hrr⟩ := rec_at hrd1
    have hlow : ∀ u ∈ l, Low u := fun u hu => ⟨Nat.le_trans (hlw u hu).1 (by decide), (hlw u hu).2⟩
    refine q_unp2 (P := fun y z _ => y = cv ∧ z = .ref rr) ((ev_p (ev_ixT (i := at_) (ev_var rfl) hrv (ev_var rfl) hv0)).imp fun v H1 e1 ev => ⟨p, cv, .ref rr, by rw [ev, hvp], e1 _ _ hp, rfl, rfl⟩) fun y z H1 e1 ⟨ey, ez⟩ => ?_
    subst ey ez
    have hs1 := hs.ex e1
    refine q_asgM (em_draw (n := 8) rfl (fun _ _ => ev_c) (by omega) (by omega)) hs1 fun v H2 s2 ⟨pick, ev, _⟩ => ?_
    subst ev
    have s02 := (SI.of e1 hs).trans s2
    have t02 := s02.ext hs
    have fin : ∀ {H3 H4 : Hp} {v : V}, SI a H H3 → Ex H3 H4 → RecW v H4 → Q v H4 := fun i e ⟨d, h1, h2⟩ => k _ d _ (i.trans (SI.of e i.2)) h1 h2
    have finM : ∀ {H3 : Hp} {v : V}, SI a H H3 → RecW v H3 → Q v H3 := fun i ⟨d, h1, h2⟩ => k _ d _ i h1 h2
    have cw : ∀ {H3 : Hp}, SI a H H3 → CmdW y H3 := fun i => ⟨cmdD c, (hcv.mono (i.ext hs)).rl, .inl ⟨c, rfl, hc0⟩⟩
    have rw_ : ∀ {H3 : Hp}, SI a H H3 → RowW (.ref rr) H3 := fun i => rowW_of (i.ext hs _ _ hrr) (by omega) hlow
    have hw3 : ∀ {i : Nat} (hi : i < l.length), ∀ {n m : Nat}, Low ((l[i]'hi).take n) ∧ Low ((l[i]'hi).drop m) := fun {i} hi {n m} => by
      obtain ⟨g1, g2⟩ := hlow _ (List.getElem_mem hi)
      exact ⟨⟨Nat.le_trans (by rw [List.length_take]; omega) g1, fun c hc => g2 c (List.mem_of_mem_take hc)⟩, ⟨Nat.le_trans (by rw [List.length_drop]; omega) g1, fun c hc => g2 c (List.mem_of_mem_drop hc)⟩⟩
    have hrow2 : H2 rr = some (.tup (l.map vS)) := t02 _ _ hrr
    refine q_when (b := decide (V.int (pick : Int) = .int 0) && !((l.map vS).isEmpty)) (et_and (et_test (ev_op (ev_var rfl) ev_c (rv_eq rfl))) fun _ => et_tru (ev_var rfl) (tru_T hrow2)) (fun hb0 H3 e3 => ?_) fun _ H3 e3 => ?_
    · rw [Bool.and_eq_true, List.isEmpty_map, Bool.not_eq_true', List.isEmpty_eq_false_iff] at hb0
      have hl0 : 0 < l.length := List.length_pos_iff.mpr hb0.2
      have s03 := s02.trans (SI.of e3 s02.2)
      refine q_asgM (em_draw (n := (l.map vS).length) rfl (fun H4 i => ev_lenT (ev_var rfl) ((s03.trans i).ext hs _ _ hrr)) (by rw [List.length_map]; omega) (by rw [List.length_map]; omega)) s03.2 fun v H4 s4 ⟨kk, ev, hk⟩ => ?_
      subst ev
      rw [List.length_map] at hk
      have s04 := s03.trans s4
      have hr4 := s04.ext hs _ _ hrr
      have hkv : (l.map vS)[kk]? = some (vS l[kk]) := by rw [List.getElem?_map, List.getElem?_eq_getElem hk] <;> rfl
      refine s_retP (evp_rec ((ev_p (ev_var rfl)).imp fun v H5 e5 ev => by rw [ev]; exact mon_cmdW _ _ _ e5 (cw s04)) ((evp_catT (xs := (l.take kk).map vS ++ [vS (l[kk].take 1), vS (l[kk].drop 1)]) (ys := (l.drop (kk + 1)).map vS) (evp_catT ((evp_slT (ev_var rfl) hr4 eo_none (eo_some (ev_var rfl))).imp fun v H5 _ ⟨p, h1, h2⟩ => ⟨p, h1, by rw [h2, cutV_to, List.map_take]⟩) (evu_p (eu_tup (ea_cons (ev_is (ev_slS (ev_ixT (i := kk) (ev_var rfl) hr4 (ev_var rfl) hkv) eo_none (eo_some (i := ((1 : Nat) : Int)) ev_c) (Nat.le_trans (hlow _ (List.getElem_mem hk)).1 (by decide))) (by rw [cut_to])) (ea_cons (ev_is (ev_slS (ev_ixT (i := kk) (ev_var rfl) hr4 (ev_var rfl) hkv) (eo_some (i := ((1 : Nat) : Int)) ev_c) eo_none (Nat.le_trans (hlow _ (List.getElem_mem hk)).1 (by decide))) (by rw [cut_from])) ea_nil)) (by simp))) (by simp; omega))
        ((evp_slT (lo := some ((kk + 1 : Nat) : Int)) (ev_var rfl) hr4 (eo_some (ev_is (ev_op (ev_var rfl) ev_c rv_I0) rfl)) eo_none).imp fun v H5 _ ⟨p, h1, h2⟩ => ⟨p, h1, by rw [h2, cutV_from, List.map_drop]⟩) (by simp; omega)).imp fun v H5 _ ⟨p, ev, hp⟩ => ?_)) fun v H5 e5 hv => fin s04 e5 hv
      subst ev
      refine rowW_of (l := l.take kk ++ [l[kk].take 1, l[kk].drop 1] ++ l.drop (kk + 1)) (by rw [hp]; simp) (by simp; omega) fun u hu => ?_
      rcases List.mem_append.mp hu with h | h
      · rcases List.mem_append.mp h with h | h
        · exact hlow u (List.mem_of_mem_take h)
        · simp only [List.mem_cons, List.not_mem_nil, or_false] at h
          rcases h with h | h
          · rw [h]; exact (hw3 hk (m := 0)).1
          · rw [h]; exact (hw3 hk (n := 0)).2
      · exact hlow u (List.mem_of_mem_drop h)
    have s03 := s02.trans (SI.of e3 s02.2)
    have hr3 := s03.ext hs _ _ hrr
    refine q_when (et_and (b := decide (1 < l.length)) (et_test (ev_op (ev_var rfl) ev_c (rv_eq rfl))) fun _ => et_is (et_test (ev_op (ev_lenT (ev_var rfl) hr3) ev_c rv_I0)) (by rw [List.length_map]; exact dec_1lt _)) (fun hb0 H4 e4 => ?_) fun _ H4 e4 => ?_
    · rw [Bool.and_eq_true] at hb0
      have hl1 := of_decide_eq_true hb0.2
      have s04' := s03.trans (SI.of e4 s03.2)
      refine q_asgM (em_draw (n := l.length - 1) rfl (fun H5 i => ev_is (ev_op (ev_lenT (ev_var rfl) ((s04'.trans i).ext hs _ _ hrr)) ev_c rv_I0) (by
        show V.int _ = V.int _
        congr 1
        rw [List.length_map]
        omega)) (by omega) (by omega)) s04'.2 fun v H5 s5 ⟨kk, ev, hk⟩ => ?_
      subst ev
      have s04 := s04'.trans s5
      have hr4 := s04.ext hs _ _ hrr
      have hk0 : kk < l.length := by omega
      have hk1 : kk + 1 < l.length := by omega
      have hkv : (l.map vS)[kk]? = some (vS l[kk]) := by rw [List.getElem?_map, List.getElem?_eq_getElem hk0] <;> rfl
      have hkv1 : (l.map vS)[kk + 1]? = some (vS l[kk + 1]) := by rw [List.getElem?_map, List.getElem?_eq_getElem hk1] <;> rfl
      obtain ⟨a1, a2⟩ := hlw _ (List.getElem_mem hk0)
      obtain ⟨b1, b2⟩ := hlw _ (List.getElem_mem hk1)
      refine s_retP (evp_rec ((ev_p (ev_var rfl)).imp fun v H5 e5 ev => by rw [ev]; exact mon_cmdW _ _ _ e5 (cw s04)) ((evp_catT (xs := (l.take kk).map vS ++ [vS (l[kk] ++ l[kk + 1])]) (ys := (l.drop (kk + 2)).map vS) (evp_catT ((evp_slT (ev_var rfl) hr4 eo_none (eo_some (ev_var rfl))).imp fun v H5 _ ⟨p, h1, h2⟩ => ⟨p, h1, by rw [h2, cutV_to, List.map_take]⟩) (evu_p (eu_tup (ea_cons (ev_addS (ev_ixT (i := kk) (ev_var rfl) hr4 (ev_var rfl) hkv) (ev_ixT (i := kk + 1) (ev_var rfl) hr4 (ev_is (ev_op (ev_var rfl) ev_c rv_I0) rfl) hkv1) (by omega)) ea_nil) (by simp))) (by simp; omega))
        ((evp_slT (lo := some ((kk + 2 : Nat) : Int)) (ev_var rfl) hr4 (eo_some (ev_is (ev_op (ev_var rfl) ev_c rv_I0) rfl)) eo_none).imp fun v H5 _ ⟨p, h1, h2⟩ => ⟨p, h1, by rw [h2, cutV_from, List.map_drop]⟩) (by simp; omega)).imp fun v H5 _ ⟨p, ev, hp⟩ => ?_)) fun v H5 e5 hv => fin s04 e5 hv
      subst ev
      refine rowW_of (l := l.take kk ++ [l[kk] ++ l[kk + 1]] ++ l.drop (kk + 2)) (by rw [hp]; simp) (by simp; omega) fun u hu => ?_
      rcases List.mem_append.mp hu with h | h
      · rcases List.mem_append.mp h with h | h
        · exact hlow u (List.mem_of_mem_take h)
        · rw [List.mem_singleton.mp h]
          refine ⟨by rw [List.length_append]; omega, fun c hc => ?_⟩
          rcases List.mem_append.mp hc with q | q
          · exact a2 c q
          · exact b2 c q
      · exact hlow u (List.mem_of_mem_drop h)
    have s04 := s03.trans (SI.of e4 s03.2)
    refine q_when (et_test (ev_op (ev_var rfl) ev_c (rv_eq rfl))) (fun _ H5 e5 => ?_) fun _ H5 e5 => ?_
    · refine s_retM (em_rec (em_of fun H6 s6 => (ev_p (ev_var rfl)).imp fun v H7 e7 ev => by rw [ev]; exact mon_cmdW _ _ _ e7 (cw ((s04.trans (SI.of e5 s04.2)).trans s6))) (em_opH (P1 := fun v => v ∈ rvs) (P2 := fun v => v = .int ((1 : Nat) : Int)) (em_ixT (fun _ _ => ev_var rfl) (fun H6 s6 => ((s04.trans (SI.of e5 s04.2)).trans s6).ext hs _ _ hrv) (em_draw (n := rvs.length) rfl (fun H6 s6 => ev_lenT (ev_var rfl) (((s04.trans (SI.of e5 s04.2)).trans s6).ext hs _ _ hrv)) (by omega) (by omega))) (em_ev fun _ _ => ev_c) fun y z H6 s6 hy ez => ?_)) (s04.2.ex e5) fun v H6 s6 hv => finM ((s04.trans (SI.of e5 s04.2)).trans s6) hv
      subst ez
      have s06 := (s04.trans (SI.of e5 s04.2)).trans s6
      obtain ⟨j, hj⟩ := List.getElem?_of_mem hy
      obtain ⟨d, hd, hdr⟩ := hrd.gv hj
      rw [List.getElem?_map] at hd
      cases he : es[j]? with
      | none => rw [he] at hd; cases hd
      | some e =>
        rw [he] at hd
        obtain ⟨c2, l2⟩ := e
        obtain rfl := Option.some.inj hd
        obtain ⟨g1, g2, g3⟩ := heg _ (List.mem_of_getElem? he)
        have g2 : l2.length ≤ 30 := g2
        obtain ⟨p2, cv2, rr2, e2, hp2, _, hrr2⟩ := rec_at hdr
        subst e2
        exact ⟨_, rv_ixT (SqT.of (s06.ext hs _ _ hp2)) (atI_n rfl), fun H7 s7 => rowW_of (((s04.trans (SI.of e5 s04.2)).trans s7).ext hs _ _ hrr2) (by omega) fun u hu => ⟨Nat.le_trans (g3 u hu).1 (by decide), (g3 u hu).2⟩⟩
    have s05 := s04.trans (SI.of e5 s04.2)
    refine q_when (et_test (ev_op (ev_var rfl) ev_c (rv_eq rfl))) (fun _ H6 e6 => ?_) fun _ H6 e6 => ?_
    · have s06 := s05.trans (SI.of e6 s05.2)
      refine s_retM (em_rec ((em_pick (n := 6) (R := fun vs H1 => vs.length = 6 ∧ ∀ v ∈ vs, CmdW v H1) (fun vs H H' i hs ⟨h1, h2⟩ => ⟨h1, fun v hv => si_cmdW _ _ _ i hs (h2 v hv)⟩) (eam_of fun H7 s7 => eaa_cons mon_cmdW (evp_cmd (c := .drop [122, 122]) (ea_cons ev_c (ea_cons (ev_is ev_c (by rw [zz_eq])) ea_nil)) (show [122, 122].length ≤ 100 by decide)) (eaa_cons mon_cmdW (evp_cmd (c := .add [97] 1) (ea_cons ev_c (ea_cons (ev_is ev_c (by rw [a_eq])) (ea_cons ev_c ea_nil))) ⟨by decide +kernel, by omega, by omega⟩) (eaa_cons mon_cmdW (evp_cmd (c := .ins 0 [122]) (ea_cons ev_c (ea_cons ev_c (ea_cons (ev_is ev_c (by rw [z_eq])) ea_nil))) (show [122].length ≤ 30 by decide)) (eaa_cons mon_cmdW (evp_cmd (c := .rem 0 31) (ea_cons ev_c (ea_cons ev_c (ea_cons ev_c ea_nil))) (show 0 ≤ 31 by decide)) (eaa_cons mon_cmdW ((ev_p ev_c).imp fun v _ _ ev => ⟨.none, ev ▸ .non, .inr (.inl rfl)⟩) (eaa_cons mon_cmdW ((evu_p (eu_tup ea_nil (by simp))).imp fun v _ _ ⟨p, ev, hp⟩ => ⟨.tuple [], ev ▸ .tup hp .nil, .inr (.inr rfl)⟩) eaa_nil)))))) (fun vs _ h => h.1) (by omega) (em_draw (n := 6) rfl (fun _ _ => ev_c) (by omega) (by omega))).imp fun v H7 _ ⟨vs, h, hv⟩ => h.2 v hv) (em_of fun H7 s7 => (ev_p (ev_var rfl)).imp fun v H8 e8 ev => by rw [ev]; exact mon_rowW _ _ _ e8 (rw_ (s06.trans s7)))) s06.2 fun v H7 s7 hv => finM (s06.trans s7) hv
    have s06 := s05.trans (SI.of e6 s05.2)
    refine q_when (et_test (ev_op (ev_var rfl) ev_c (rv_eq rfl))) (fun _ H7 e7 => ?_) fun _ H7 e7 => ?_
    · have s07 := s06.trans (SI.of e7 s06.2)
      have cv7 : ∀ {H8 : Hp}, SI a H7 H8 → ∀ {σ : L2.St}, σ[4]? = some (some y) → EvP (tVar 4) σ H8 CmdW := fun s8 σ hσ => (ev_p (ev_var hσ)).imp fun v H9 e9 ev => by rw [ev]; exact mon_cmdW _ _ _ e9 (cw (s07.trans s8))
      refine s_retM ((em_pick (n := 6) (R := fun vs H1 => vs.length = 6 ∧ ∀ v ∈ vs, RecW v H1) (fun vs H H' i hs ⟨h1, h2⟩ => ⟨h1, fun v hv => si_recW _ _ _ i hs (h2 v hv)⟩) (eam_of fun H8 s8 => eaa_cons mon_recW ((ev_p ev_c).imp fun v _ _ ev => ⟨.none, ev ▸ .non, .inl rfl⟩)
        (eaa_cons mon_recW ((evu_p (eu_tup (vs := [y]) (ea_cons (ev_var rfl) ea_nil) (by simp))).imp fun v H9 e9 ⟨p, ev, hp⟩ => ⟨.tuple [cmdD c], ev ▸ .tup hp (.cons (((hcv.mono ((s07.trans s8).ext hs)).ex e9).rl) .nil), .inr (.inl ⟨_, rfl⟩)⟩)
        (eaa_cons mon_recW (evp_rec (cv7 s8 rfl) ((evl_p (el_listT (ev_var rfl) ((s07.trans s8).ext hs _ _ hrr))).imp fun v H9 _ ⟨p, ev, hp⟩ => ⟨.list (txts l), ev ▸ .lst hp, .inr ⟨l, .inr rfl, by omega, hlow⟩⟩))
        (eaa_cons mon_recW ((evl_p (el_lst (vs := [y, .ref rr]) (ea_cons (ev_var rfl) (ea_cons (ev_var rfl) ea_nil)) (by simp))).imp fun v H9 e9 ⟨p, ev, hp⟩ => ⟨.dict [], ev ▸ .obj hp, .inr (.inr (.inr rfl))⟩)
        (eaa_cons mon_recW (evp_rec (cv7 s8 rfl) ((ev_p ev_c).imp fun v _ _ ev => ⟨.none, ev ▸ .non, .inl rfl⟩))
        (eaa_cons mon_recW (evp_rec (cv7 s8 rfl) ((evp_catT (xs := l.map vS) (ys := [vS []]) (evt_of (ev_var rfl) ((s07.trans s8).ext hs _ _ hrr)) (evu_p (eu_tup (ea_cons (ev_is ev_c (by rw [empty_S])) ea_nil) (by simp))) (by simp; omega)).imp fun v H9 _ ⟨p, ev, hp⟩ => ev ▸ rowW_of (l := l ++ [[]]) (by rw [hp]; simp) (by simp; omega) fun u hu => by
          rcases List.mem_append.mp hu with h | h
          · exact hlow u h
          · rw [List.mem_singleton.mp h]; exact ⟨by simp, fun c hc => by simp at hc⟩)) eaa_nil)))))) (fun vs _ h => h.1) (by omega) (em_draw (n := 6) rfl (fun _ _ => ev_c) (by omega) (by omega))).imp fun v H8 _ ⟨vs, h, hv⟩ => h.2 v hv) s07.2 fun v H8 s8 hv => finM (s07.trans s8) hv
    have s07 := s06.trans (SI.of e7 s06.2)
    refine q_when (et_test (ev_op (ev_var rfl) ev_c (rv_eq rfl))) (fun _ H8 e8 => ?_) fun _ H8 e8 => ?_
    · have s08 := s07.trans (SI.of e8 s07.2)
      exact s_retM (em_rec (em_call (fun _ _ => ea_cons (ev_var rfl) (ea_cons (ev_var rfl) ea_nil)) fun H9 s9 Q q E => ⟨a, b, x, ws, t, rfl, s9.2, hba, (s08.trans s9).1 _ _ hba hb, hx.mono ((s08.trans s9).ext hs), hg, fun v c H10 s10 h1 h2 _ _ => q v H10 s10 ⟨cmdD c, h1.rl, .inl ⟨c, rfl, h2⟩⟩⟩) (em_of fun H9 s9 => (ev_p (ev_var rfl)).imp fun v H10 e10 ev => by rw [ev]; exact mon_rowW _ _ _ e10 (rw_ (s08.trans s9)))) s08.2 fun v H9 s9 hv => finM (s08.trans s9) hv
    have s08 := s07.trans (SI.of e8 s07.2)
    exact s_retP (evp_rec ((ev_p (ev_var rfl)).imp fun v H5 e5 ev => by rw [ev]; exact mon_cmdW _ _ _ e5 (cw s08)) ((ev_p (ev_var rfl)).imp fun v H5 e5 ev => by rw [ev]; exact mon_rowW _ _ _ e5 (rw_ s08))) fun v H9 e9 hv => fin s08 e9 hv
end
end G
/-! the law: what the walk keeps -/
namespace G
open PySem PySem.Spec PyProof.Rows L2 Evl

def LowC : Cmd → Prop
  | .ins _ p => Low p
  | .rem _ _ => True
  | .rep _ _ p => Low p
  | .add u _ => Low u
  | .drop u => Low u
theorem low_letters {ws : WL} (hV : Valid ws) {p : Wd} (hl : p.length ≤ 30) (h : Letters ws p) : Low p := ⟨by omega, fun c hc => (names_low hV (h c hc)).2 c (by simp)⟩
theorem lowC_of {st : WL × Wd} {c : Cmd} (hg : Good st) (hf : FormOk st.1 st.2 c) (hp : possB st.1 st.2 c = true) : LowC c := by
  cases c with
  | ins i p => exact low_letters hg.val hf.2.1 hf.2.2
  | rem i j => trivial
  | rep i j p => exact low_letters hg.val hf.2.2.1 hf.2.2.2
  | add u c => exact okL_low hf.1
  | drop u =>
    have hp' : ((decide (u ∈ names st.1) && !decide ((names st.1).length = 1)) && !(decide (u.length = 1) && ((st.2 :: names st.1).filter fun o => (!decide (o = u) || decide (o = st.2))).any fun o => decide (u.headD 0 ∈ o))) = true := hp
    rw [Bool.and_eq_true, Bool.and_eq_true] at hp'
    exact names_low hg.val (of_decide_eq_true hp'.1.1)
theorem strOk_S {u : Wd} (h : Low u) : PyData.strOk (S u) = true := by
  unfold PyData.strOk
  rw [Array.all_eq_true']
  intro c hc
  have := h.2 c (by rw [← S_list u]; exact Array.mem_toList_iff.mpr hc)
  rw [decide_eq_true_eq]
  omega
theorem so_ins : PyData.strOk "insert" = true := by decide +kernel
theorem so_rem : PyData.strOk "remove" = true := by decide +kernel
theorem so_rep : PyData.strOk "replace" = true := by decide +kernel
theorem so_add : PyData.strOk "add" = true := by decide +kernel
theorem so_drop : PyData.strOk "drop" = true := by decide +kernel
theorem lay_cmd {c : Cmd} (h : LowC c) : (cmdD c).canLay0 = true ∧ (cmdD c).depth = 1 := by
  cases c with
  | ins i p => exact ⟨by simp [cmdD, PyData.canLay0, PyData.canLayAll0, so_ins, strOk_S h], rfl⟩
  | rem i j => exact ⟨by simp [cmdD, PyData.canLay0, PyData.canLayAll0, so_rem], rfl⟩
  | rep i j p => exact ⟨by simp [cmdD, PyData.canLay0, PyData.canLayAll0, so_rep, strOk_S h], rfl⟩
  | add u c => exact ⟨by simp [cmdD, PyData.canLay0, PyData.canLayAll0, so_add, strOk_S h], rfl⟩
  | drop u => exact ⟨by simp [cmdD, PyData.canLay0, PyData.canLayAll0, so_drop, strOk_S h], rfl⟩
def HistOk (h : Hist) : Prop := ∀ e ∈ h, Strc e.1 ∧ LowC e.1 ∧ Good e.2
theorem lay_hist : ∀ {h : Hist}, HistOk h → PyData.canLayAll0 (h.map histD) = true ∧ PyData.depthAll (h.map histD) ≤ 2
  | [], _ => ⟨rfl, by decide⟩
  | e :: h, hh => by
    obtain ⟨g1, g2⟩ := lay_hist (h := h) fun x hx => hh x (List.mem_cons_of_mem _ hx)
    obtain ⟨_, hl, hg⟩ := hh e (List.mem_cons_self ..)
    obtain ⟨c1, c2⟩ := lay_cmd hl
    obtain ⟨r1, r2⟩ := lay_txts (low_longest hg).2
    refine ⟨?_, ?_⟩
    · show ((cmdD e.1).canLay0 && (PyData.canLayAll0 (txts (longest e.2.1 e.2.2)) && true) && PyData.canLayAll0 (h.map histD)) = true
      rw [c1, r1, g1]; rfl
    · show max (max (cmdD e.1).depth (max (PyData.depthAll (txts (longest e.2.1 e.2.2)) + 1) 0) + 1) (PyData.depthAll (h.map histD)) ≤ 2
      rw [c2, r2]
      omega
theorem shaped_hist {h : Hist} (hh : HistOk h) : SeqAt.shaped (.tuple (h.map histD)) = true := by
  obtain ⟨g1, g2⟩ := lay_hist hh
  show (PyData.canLayAll0 (h.map histD) && decide (PyData.depthAll (h.map histD) + 1 ≤ 64)) = true
  rw [g1, decide_eq_true (by omega)]; rfl
theorem eqv_hist {h : Hist} (hh : HistOk h) : PyData.eqv (.tuple (h.map histD)) (.tuple (h.map histD)) = true := SeqAt.eqv_refl _ (lay_hist hh).1
theorem recx_hist {e : Cmd × (WL × Wd)} (h1 : Strc e.1) (h2 : Good e.2) : RecX (histD e) := .inr (.inr (.inl ⟨_, _, rfl, .inl ⟨_, rfl, h1⟩, rowx_longest h2⟩))
theorem recg_hist {e : Cmd × (WL × Wd)} (h1 : Strc e.1) (h2 : Good e.2) : RecG (e.1, longest e.2.1 e.2.2) := ⟨h1, (low_longest h2).1, fun u hu => ⟨(mem_names_len h2.val (longest_mem h2.val _ _ (Nat.le_refl _) h2.let_ u hu)).2, ((low_longest h2).2 u hu).2⟩⟩
theorem ab_behind {st : WL × Wd} {c : Cmd} (ha : Ab st.1) (hc : AbC c) : Ab (behindS st.1 st.2 c).1 := by
  cases c with
  | ins i p => exact ha
  | rem i j => exact ha
  | rep i j p => exact ha
  | add u c =>
    intro v hv
    rcases mem_sort_names.mp hv with h | h
    · exact ha v h
    · rw [h]; exact hc
  | drop u => exact fun v hv => ha v (mem_drop_names.mp hv).1
theorem step_hist {st : WL × Wd} {c : Cmd} (hf : FormOk st.1 st.2 c) (hp : possB st.1 st.2 c = true) : step st (histD (c, behindS st.1 st.2 c)) = some (behindS st.1 st.2 c) := by
  show (match dec st.1 st.2 (cmdD c) with | some k => _ | none => none) = _
  rw [form_dec hf]
  have : isM (behindS st.1 st.2 c).1 (behindS st.1 st.2 c).2 (rowD (longest (behindS st.1 st.2 c).1 (behindS st.1 st.2 c).2)) = true := by
    unfold isM
    rw [rowOf_row]
    exact decide_eq_true rfl
  show (if (possB st.1 st.2 c && isM (behindS st.1 st.2 c).1 (behindS st.1 st.2 c).2 (rowD (longest (behindS st.1 st.2 c).1 (behindS st.1 st.2 c).2))) = true then some (behindS st.1 st.2 c) else none) = _
  rw [hp, this]; rfl
/-- the plain side of the law's loop -/
structure LP (st0 : WL × Wd) (hist : Hist) (pre : List (WL × Wd)) (cur : WL × Wd) : Prop where
  run : run st0 (hist.map histD) = some cur
  good : Good cur
  ab : Ab cur.1
  plen : pre.length = hist.length
  pst : ∀ (i : Nat) st, pre[i]? = some st → G.run st0 ((hist.map histD).take i) = some st ∧ Good st ∧ Ab st.1
  hok : HistOk hist
theorem LP.zero {st0 : WL × Wd} (hg : Good st0) (ha : Ab st0.1) : LP st0 [] [] st0 := ⟨rfl, hg, ha, rfl, fun i st h => by simp at h, fun e h => by simp at h⟩
theorem LP.next {st0 cur : WL × Wd} {hist : Hist} {pre : List (WL × Wd)} {c : Cmd} (h : LP st0 hist pre cur) (hc : Strc c) (hf : FormOk cur.1 cur.2 c) (hp : possB cur.1 cur.2 c = true) (hab : AbC c) :
    LP st0 (hist ++ [(c, behindS cur.1 cur.2 c)]) (pre ++ [cur]) (behindS cur.1 cur.2 c) := by
  have hgb : Good (behindS cur.1 cur.2 c) := good_behind h.good hf hp
  refine ⟨?_, hgb, ab_behind h.ab hab, by simp [h.plen], fun i st hi => ?_, fun e he => ?_⟩
  · rw [List.map_append, run_app, h.run]
    show (step cur (histD (c, behindS cur.1 cur.2 c))).bind _ = _
    rw [step_hist hf hp]; rfl
  · have hl : ((hist ++ [(c, behindS cur.1 cur.2 c)]).map histD).take i = (hist.map histD).take i := by
      have : i < (pre ++ [cur]).length := (List.getElem?_eq_some_iff.mp hi).1
      rw [List.map_append, List.take_append_of_le_length]
      rw [List.length_map, ← h.plen]
      simp at this
      omega
    rw [hl]
    by_cases hlt : i < pre.length
    · rw [List.getElem?_append_left hlt] at hi
      exact h.pst i st hi
    · have : i = pre.length := by
        have : i < (pre ++ [cur]).length := (List.getElem?_eq_some_iff.mp hi).1
        simp at this
        omega
      subst this
      rw [List.getElem?_append_right (Nat.le_refl _), Nat.sub_self] at hi
      simp at hi
      subst hi
      refine ⟨?_, h.good, h.ab⟩
      rw [List.take_of_length_le (by rw [List.length_map, h.plen]; exact Nat.le_refl _)]
      exact h.run
  · rcases List.mem_append.mp he with q | q
    · exact h.hok e q
    · rw [List.mem_singleton.mp q]
      exact ⟨hc, lowC_of h.good hf hp, hgb⟩
/-- a record with a command that is none is refused -/
theorem LP.bad {st0 cur : WL × Wd} {hist : Hist} {pre : List (WL × Wd)} (h : LP st0 hist pre cur) {i : Nat} {st : WL × Wd} (hi : pre[i]? = some st) {d r : PyData} (hd : dec st.1 st.2 d = none) (tl : List PyData) :
    G.run st0 ((hist.map histD).take i ++ [.tuple [d, r]] ++ tl) = none := by
  rw [List.append_assoc, run_app, (h.pst i st hi).1]
  show ((step st (.tuple [d, r])).bind _) = none
  have : step st (.tuple [d, r]) = none := by
    show (match dec st.1 st.2 d with | some k => _ | none => none) = none
    rw [hd]
  rw [this]; rfl
end G
/-! the law -/
namespace G
open PySem PySem.Spec PyProof.Rows L2 Evl

def Mu (a : Strm) (ls lc ld lt b : Addr) : Prop := b = a.1 ∨ b = ls ∨ b = lc ∨ b = ld ∨ b = lt
/-- the addresses that turn are unlike -/
structure Ds (a : Strm) (x ls lc ld lt : Addr) : Prop where
  xa : x ≠ a.1
  sa : ls ≠ a.1
  ca : lc ≠ a.1
  da : ld ≠ a.1
  ta : lt ≠ a.1
  sb : ls ≠ a.2
  cb : lc ≠ a.2
  db : ld ≠ a.2
  tb : lt ≠ a.2
  xs : x ≠ ls
  xc : x ≠ lc
  xd : x ≠ ld
  xt : x ≠ lt
  sc : ls ≠ lc
  sd : ls ≠ ld
  st : ls ≠ lt
  cd : lc ≠ ld
  ct : lc ≠ lt
  dt : ld ≠ lt
def StA (M : Addr → Prop) (H : Hp) (st : WL × Wd) (v : V) : Prop := ∃ b w, v = .ref b ∧ ¬ M b ∧ H b = some (.lst [w, vS st.2]) ∧ RD H (wlD st.1) w
def KeepM (M : Addr → Prop) (H H' : Hp) : Prop := ∀ b o, ¬ M b → H b = some o → H' b = some o
structure Hv (K : PySem.W.Frag) (a : Strm) (x dx ls lc ld lt : Addr) (H : Hp) (hist due : Hist) (pre : List (WL × Wd)) (dst cur : WL × Wd) (b : Addr) : Prop where
  str : StrOk a H
  obj : H x = some (.ins (dC K) dx (df ls lc))
  lss : ∃ s0 ss sa s, H ls = some (.lst (sa ++ [s])) ∧ sa ++ [s] = s0 :: ss ∧ Paired (fun e v => SV H e.2 v) hist ss ∧ SV H dst s
  lcs : ∃ cv, H lc = some (.lst cv) ∧ Paired (fun e v => RD H (cmdD e.1) v) hist cv
  lds : ∃ dv, H ld = some (.lst dv) ∧ RDs H (due.map histD) dv
  lts : ∃ tv, H lt = some (.lst tv) ∧ Paired (fun st v => StA (Mu a ls lc ld lt) H st v) pre tv
  cst : StA (Mu a ls lc ld lt) H cur (.ref b)
section
variable {K : PySem.W.Frag} {a : Strm} {x dx ls lc ld lt : Addr} {H H' : Hp} {hist due : Hist} {pre : List (WL × Wd)} {dst cur : WL × Wd} {b : Addr}
theorem StA.keep {M : Addr → Prop} {st : WL × Wd} {v : V} (k : KeepM M H H') (e : ExT H H') (h : StA M H st v) : StA M H' st v := by
  obtain ⟨b, w, h1, h2, h3, h4⟩ := h
  exact ⟨b, w, h1, h2, k _ _ h2 h3, h4.mono e⟩
theorem Hv.ext (h : Hv K a x dx ls lc ld lt H hist due pre dst cur b) (k : KeepM (Mu a ls lc ld lt) H H') : ExT H H' := fun b xs hb => by
  refine k b _ (fun hm => ?_) hb
  obtain ⟨c, kk, is, g1, _⟩ := h.str
  obtain ⟨_, _, _, _, g2, _⟩ := h.lss
  obtain ⟨_, g3, _⟩ := h.lcs
  obtain ⟨_, g4, _⟩ := h.lds
  obtain ⟨_, g5, _⟩ := h.lts
  rcases hm with r | r | r | r | r
  · rw [r, g1] at hb; cases hb
  · rw [r, g2] at hb; cases hb
  · rw [r, g3] at hb; cases hb
  · rw [r, g4] at hb; cases hb
  · rw [r, g5] at hb; cases hb
theorem Ds.nx (D : Ds a x ls lc ld lt) : ¬ Mu a ls lc ld lt x := fun h => by
  rcases h with r | r | r | r | r
  · exact D.xa r
  · exact D.xs r
  · exact D.xc r
  · exact D.xd r
  · exact D.xt r
theorem Hv.move (h : Hv K a x dx ls lc ld lt H hist due pre dst cur b) (D : Ds a x ls lc ld lt) (k : KeepM (Mu a ls lc ld lt) H H') (hs : StrOk a H') (e1 : H' ls = H ls) (e2 : H' lc = H lc) (e3 : H' ld = H ld) (e4 : H' lt = H lt) :
    Hv K a x dx ls lc ld lt H' hist due pre dst cur b := by
  have e := h.ext k
  obtain ⟨s0, ss, sa, s, g1, g2, g3, g4⟩ := h.lss
  obtain ⟨cv, c1, c2⟩ := h.lcs
  obtain ⟨dv, d1, d2⟩ := h.lds
  obtain ⟨tv, t1, t2⟩ := h.lts
  exact ⟨hs, k _ _ D.nx h.obj, ⟨s0, ss, sa, s, e1.trans g1, g2, Paired.mapP g3 fun _ _ r => r.ext e, g4.ext e⟩, ⟨cv, e2.trans c1, Paired.mapP c2 fun _ _ r => r.mono e⟩, ⟨dv, e3.trans d1, d2.mono e⟩, ⟨tv, e4.trans t1, Paired.mapP t2 fun _ _ r => r.keep k e⟩, h.cst.keep k e⟩
theorem Hv.si (h : Hv K a x dx ls lc ld lt H hist due pre dst cur b) (D : Ds a x ls lc ld lt) (i : SI a H H') : Hv K a x dx ls lc ld lt H' hist due pre dst cur b := by
  obtain ⟨s0, ss, sa, s, g1, _⟩ := h.lss
  obtain ⟨cv, c1, _⟩ := h.lcs
  obtain ⟨dv, d1, _⟩ := h.lds
  obtain ⟨tv, t1, _⟩ := h.lts
  exact h.move D (fun b o hb ho => i.1 b o (fun e => hb (.inl e)) ho) i.2 ((i.1 _ _ D.sa g1).trans g1.symm) ((i.1 _ _ D.ca c1).trans c1.symm) ((i.1 _ _ D.da d1).trans d1.symm) ((i.1 _ _ D.ta t1).trans t1.symm)
theorem Hv.ex (h : Hv K a x dx ls lc ld lt H hist due pre dst cur b) (D : Ds a x ls lc ld lt) (e : Ex H H') : Hv K a x dx ls lc ld lt H' hist due pre dst cur b := h.si D (SI.of e h.str)
theorem Hv.addT (h : Hv K a x dx ls lc ld lt H hist due pre dst cur b) (D : Ds a x ls lc ld lt) {tv : List V} (ht : H lt = some (.lst tv)) : Hv K a x dx ls lc ld lt (upd H lt (.lst (tv ++ [.ref b]))) hist due (pre ++ [cur]) dst cur b := by
  have k : KeepM (Mu a ls lc ld lt) H (upd H lt (.lst (tv ++ [.ref b]))) := fun c o hc ho => by rw [upd_ne (fun e => hc (.inr (.inr (.inr (.inr e)))))]; exact ho
  have e := h.ext k
  obtain ⟨s0, ss, sa, s, g1, g2, g3, g4⟩ := h.lss
  obtain ⟨cv, c1, c2⟩ := h.lcs
  obtain ⟨dv, d1, d2⟩ := h.lds
  obtain ⟨tv', t1, t2⟩ := h.lts
  obtain rfl : tv' = tv := HO.lst.inj (Option.some.inj (t1.symm.trans ht))
  exact ⟨h.str.upd D.ta D.tb, k _ _ D.nx h.obj, ⟨s0, ss, sa, s, by rw [upd_ne D.st]; exact g1, g2, Paired.mapP g3 fun _ _ r => r.ext e, g4.ext e⟩, ⟨cv, by rw [upd_ne D.ct]; exact c1, Paired.mapP c2 fun _ _ r => r.mono e⟩, ⟨dv, by rw [upd_ne D.dt]; exact d1, d2.mono e⟩,
    ⟨_, upd_same, paired_app (Paired.mapP t2 fun _ _ r => r.keep k e) (.cons (h.cst.keep k e) .nil)⟩, h.cst.keep k e⟩
theorem Hv.addD (h : Hv K a x dx ls lc ld lt H hist due pre dst cur b) (D : Ds a x ls lc ld lt) {dv : List V} {v : V} {e : Cmd × (WL × Wd)} (hd : H ld = some (.lst dv)) (hv : RD H (histD e) v) : Hv K a x dx ls lc ld lt (upd H ld (.lst (dv ++ [v]))) hist (due ++ [e]) pre dst cur b := by
  have k : KeepM (Mu a ls lc ld lt) H (upd H ld (.lst (dv ++ [v]))) := fun c o hc ho => by rw [upd_ne (fun e => hc (.inr (.inr (.inr (.inl e)))))]; exact ho
  have et := h.ext k
  obtain ⟨s0, ss, sa, s, g1, g2, g3, g4⟩ := h.lss
  obtain ⟨cv, c1, c2⟩ := h.lcs
  obtain ⟨dv', d1, d2⟩ := h.lds
  obtain ⟨tv, t1, t2⟩ := h.lts
  obtain rfl : dv' = dv := HO.lst.inj (Option.some.inj (d1.symm.trans hd))
  exact ⟨h.str.upd D.da D.db, k _ _ D.nx h.obj, ⟨s0, ss, sa, s, by rw [upd_ne D.sd]; exact g1, g2, Paired.mapP g3 fun _ _ r => r.ext et, g4.ext et⟩, ⟨cv, by rw [upd_ne D.cd]; exact c1, Paired.mapP c2 fun _ _ r => r.mono et⟩, ⟨_, upd_same, by rw [List.map_append]; exact RDs.app (d2.mono et) (.cons (hv.mono et) .nil)⟩,
    ⟨tv, by rw [upd_ne (Ne.symm D.dt)]; exact t1, Paired.mapP t2 fun _ _ r => r.keep k et⟩, h.cst.keep k et⟩
theorem Hv.setC (h : Hv K a x dx ls lc ld lt H hist due pre dst cur b) {cur' : WL × Wd} {b' : Addr} (hc : StA (Mu a ls lc ld lt) H cur' (.ref b')) : Hv K a x dx ls lc ld lt H hist due pre dst cur' b' := ⟨h.str, h.obj, h.lss, h.lcs, h.lds, h.lts, hc⟩
/-- an address that was free is none of those that turn -/
theorem Hv.free (h : Hv K a x dx ls lc ld lt H hist due pre dst cur b) {c : Addr} (hc : H c = none) : ¬ Mu a ls lc ld lt c := fun hm => by
  obtain ⟨_, kk, is, g1, _⟩ := h.str
  obtain ⟨_, _, _, _, g2, _⟩ := h.lss
  obtain ⟨_, g3, _⟩ := h.lcs
  obtain ⟨_, g4, _⟩ := h.lds
  obtain ⟨_, g5, _⟩ := h.lts
  rcases hm with r | r | r | r | r
  · rw [r, g1] at hc; cases hc
  · rw [r, g2] at hc; cases hc
  · rw [r, g3] at hc; cases hc
  · rw [r, g4] at hc; cases hc
  · rw [r, g5] at hc; cases hc
theorem Hv.done (h : Hv K a x dx ls lc ld lt H hist due pre dst cur b) (D : Ds a x ls lc ld lt) {sa cv : List V} {s s' v : V} {st' : WL × Wd} {c : Cmd} (h1 : H ls = some (.lst (sa ++ [s]))) (h2 : H lc = some (.lst cv)) (hv : RD H (cmdD c) v)
    (k0 : ∀ b o, b ≠ ls → b ≠ lc → H b = some o → H' b = some o) (h3 : H' ls = some (.lst (sa ++ [s] ++ [s']))) (h4 : SV H' st' s') (h5 : H' lc = some (.lst (cv ++ [v]))) : Hv K a x dx ls lc ld lt H' (hist ++ [(c, st')]) due pre st' cur b := by
  have k : KeepM (Mu a ls lc ld lt) H H' := fun c o hc ho => k0 c o (fun e => hc (.inr (.inl e))) (fun e => hc (.inr (.inr (.inl e)))) ho
  have e := h.ext k
  obtain ⟨s0, ss, sa', s2, g1, g2, g3, g4⟩ := h.lss
  obtain ⟨cv', c1, c2⟩ := h.lcs
  obtain ⟨dv, d1, d2⟩ := h.lds
  obtain ⟨tv, t1, t2⟩ := h.lts
  have hq : sa' ++ [s2] = sa ++ [s] := HO.lst.inj (Option.some.inj (g1.symm.trans h1))
  obtain rfl : cv' = cv := HO.lst.inj (Option.some.inj (c1.symm.trans h2))
  obtain ⟨cc, kk, is, r1, r2, r3⟩ := h.str
  exact ⟨⟨cc, kk, is, k0 _ _ (Ne.symm D.sa) (Ne.symm D.ca) r1, k0 _ _ (Ne.symm D.sb) (Ne.symm D.cb) r2, r3⟩, k _ _ D.nx h.obj, ⟨s0, ss ++ [s'], sa ++ [s], s', h3, by rw [← hq, g2]; rfl, paired_app (Paired.mapP g3 fun _ _ r => r.ext e) (.cons h4 .nil), h4⟩, ⟨_, h5, paired_app (Paired.mapP c2 fun _ _ r => r.mono e) (.cons (hv.mono e) .nil)⟩, ⟨dv, k0 _ _ (Ne.symm D.sd) (Ne.symm D.cd) d1, d2.mono e⟩,
    ⟨tv, k0 _ _ (Ne.symm D.st) (Ne.symm D.ct) t1, Paired.mapP t2 fun _ _ r => r.keep k e⟩, h.cst.keep k e⟩
end
end G
/-! the law: the rules of its body -/
namespace G
open PySem PySem.Spec PyProof.Rows L2 Evl

section
variable {K : PySem.W.Frag} {σ : L2.St} {H : Hp} {ta tb tc te : TE} {tA : TA} {P P1 P2 : V → Hp → Prop} {a : Strm}
theorem evp_desk {ws : WL} {t : Wd} {y : V} (h : EvA tA σ H [y, vS t]) (hy : RD H (wlD ws) y) (hg : Good (ws, t)) : EvP (tMake (dC K) (sp_init K) [] E0 tA) σ H (fun v H1 => ∃ x dx ls lc s, v = .ref x ∧ H x = none ∧ H ls = none ∧ H lc = none ∧ ls ≠ lc ∧ H1 x = some (.ins (dC K) dx (df ls lc)) ∧ H1 ls = some (.lst [s]) ∧ H1 lc = some (.lst []) ∧ SV H1 (ws, t) s) := fun H1 e Q q =>
  h H1 e _ fun H2 e2 => fun x dx hx hdx hne => by
    have e02 := e.trans e2
    have e3 : Ex H2 (upd (upd H2 dx (.own x)) x (.ins (dC K) dx [])) := fun b o hb => by
      rw [upd_ne (fun r => by rw [r, hx] at hb; cases hb), upd_ne (fun r => by rw [r, hdx] at hb; cases hb)]
      exact hb
    have back : ∀ l, upd (upd H2 dx (.own x)) x (.ins (dC K) dx []) l = none → H2 l = none := fun l hl => by
      cases hq : H2 l with
      | none => rfl
      | some o => rw [e3 l o hq] at hl; cases hl
    refine ⟨x, dx, y, ws, t, rfl, upd_same, (hy.ex e02).ex e3, hg, fun H' ls lc s k0 h1 h2 h3 h4 h5 h6 h7 => ⟨rfl, q _ H' (fun b o hb => k0 b o ?_ (e3 _ _ (e2 _ _ hb))) ⟨x, dx, ls, lc, s, rfl, fresh_back e02 hx, fresh_back e02 (back _ h1), fresh_back e02 (back _ h2), h3, h4, h5, h6, h7⟩⟩⟩
    intro r
    have := e2 _ _ hb
    rw [r, hx] at this
    cases this
theorem et_neDD {d : PyData} {x : V} (ha : Ev ta σ H x) (hx : RD H d x) (hb : EvP tb σ H (fun v H1 => RD H1 d v)) (hd : SeqAt.shaped d = true) : EvT (tTest (tOp (rNeD K) ta tb)) σ H (!PyData.eqv d d) := fun H1 e Q q =>
  ha H1 e _ fun H2 e2 => hb H2 (e.trans e2) _ fun v H3 e3 hv => ⟨d, d, (hx.ex ((e.trans e2).trans e3)).dp, hv.dp, hd, hd, _, rfl, q H3 (e2.trans e3)⟩
theorem ev_notB {r s : Bool} (h : Ev te σ H (.bl r)) : Ev (tOp rNotB te (tC (.bl s))) σ H (.bl (!decide (r = s))) := ev_op h ev_c fun H1 _ Q q => ⟨r, s, rfl, rfl, q H1 (Ex.refl _)⟩
theorem ev_isB {r s : Bool} (h : Ev te σ H (.bl r)) : Ev (tOp rIsB te (tC (.bl s))) σ H (.bl (decide (r = s))) := ev_op h ev_c fun H1 _ Q q => ⟨r, s, rfl, rfl, q H1 (Ex.refl _)⟩
/-- are_right on what a term gives -/
theorem ev_right {ws : WL} {t : Wd} {w : V} {d : PyData} {E : XK} (h1 : Ev ta σ H w) (h2 : Ev tb σ H (vS t)) (h3 : EvP tc σ H (fun v H1 => RL H1 d v)) (hw : RD H (wlD ws) w) (hg : Good (ws, t)) (hk : RecsK d) : Ev (tCall sp_are_right [] E (tCons ta (tCons tb (tCons tc tNil)))) σ H (.bl (rightB (ws, t) d)) :=
  (evp_callP (P := fun x _ => x = .bl (rightB (ws, t) d)) (eap_cons (P := fun x _ => x = w) (fun _ _ _ _ h => h) (ev_p h1) (eap_cons (P := fun x _ => x = vS t) (fun _ _ _ _ h => h) (ev_p h2) (eap_one h3))) fun vs H1 e1 ⟨x1, u1, g1, p1, x2, u2, g2, p2, x3, g3, p3⟩ => by
    subst p1 p2 g3 g2 g1
    exact fun H2 e2 Q q E => ⟨x1, x3, ws, t, d, rfl, hw.ex (e1.trans e2), hg, p3.ex e2, hk, fun H3 e3 => q _ H3 e3 rfl⟩).toEv
theorem RLs.take {H : Hp} : ∀ {ds : List PyData} {vs : List V} (n : Nat), RLs H ds vs → RLs H (ds.take n) (vs.take n)
  | _, _, 0, _ => by simp; exact .nil
  | _, _, _ + 1, .nil => .nil
  | _, _, n + 1, .cons x r => .cons x (RLs.take n r)
theorem RLs.drop {H : Hp} : ∀ {ds : List PyData} {vs : List V} (n : Nat), RLs H ds vs → RLs H (ds.drop n) (vs.drop n)
  | _, _, 0, h => h
  | _, _, _ + 1, .nil => .nil
  | _, _, n + 1, .cons _ r => RLs.drop n r
theorem RLs.app {H : Hp} : ∀ {ds es : List PyData} {vs us : List V}, RLs H ds vs → RLs H es us → RLs H (ds ++ es) (vs ++ us)
  | _, _, _, _, .nil, h => h
  | _, _, _, _, .cons x r, h => .cons x (RLs.app r h)
theorem evp_catTP {xs : List V} {R : List V → Hp → Prop} (hR : ∀ zs H H', Ex H H' → R zs H → R zs H') (ha : EvP ta σ H (fun v H1 => ∃ p, v = .ref p ∧ H1 p = some (.tup xs))) (hb : EvP tb σ H (fun v H1 => ∃ p ys, v = .ref p ∧ H1 p = some (.tup ys) ∧ ys.length = 1 ∧ R ys H1)) (hz : xs.length ≤ 1000) : EvP (tOp (rCatA K) ta tb) σ H (fun v H1 => ∃ p ys, v = .ref p ∧ H1 p = some (.tup (xs ++ ys)) ∧ ys.length = 1 ∧ R ys H1) :=
  evp_op (fun v H H' e ⟨p, h1, h2⟩ => ⟨p, h1, e _ _ h2⟩) ha hb fun x y H1 e ⟨p, ex, hp⟩ ⟨q, ys, ey, hq, hl, hr⟩ Q k => by
    subst ex ey
    refine ⟨p, q, xs, ys, rfl, rfl, SqT.of hp, SqT.of hq, sz_of (by omega), fun h0 => ?_, fun h0 h1 => ?_, fun _ _ l hl' => ?_⟩
    · exact k _ _ (Ex.refl _) ⟨q, ys, rfl, by rw [h0]; exact hq, hl, hr⟩
    · rw [h1] at hl; simp at hl
    · exact k _ _ (Ex.new hl') ⟨l, ys, rfl, upd_same, hl, hR _ _ _ (Ex.new hl') hr⟩
/-- a tuple with one item put in the place of another -/
theorem evp_repl {r : Addr} {rvs : List V} {ds : List PyData} {m : PyData} {i : Nat} {tj tk : TE} (h1 : Ev ta σ H (.ref r)) (hr : H r = some (.tup rvs)) (hd : RLs H ds rvs) (hl : rvs.length ≤ 100) (hj : Ev tj σ H (.int (i : Int))) (hk : Ev tk σ H (.int ((i + 1 : Nat) : Int))) (hm : EvP te σ H (fun v H1 => RL H1 m v)) :
    EvP (tOp (rCatA K) (tOp (rCatA K) (tSl (rSlA K) ta tNoPart (tPart tj)) (tTup (tCons te tNil))) (tSl (rSlA K) ta (tPart tk) tNoPart)) σ H (fun v H1 => RL H1 (.tuple (ds.take i ++ [m] ++ ds.drop (i + 1))) v) := by
  have hcat := evp_catTP (K := K) (xs := rvs.take i) (R := fun zs H1 => RLs H1 [m] zs) (fun zs H H' e h => h.ex e) ((evp_slT (K := K) h1 hr eo_none (eo_some hj)).imp fun v H1 _ ⟨p, g1, g2⟩ => ⟨p, g1, by rw [g2, cutV_to]⟩)
    ((evp_tup (PA := fun vs H1 => ∃ v, vs = [v] ∧ RL H1 m v) (fun vs H H' e ⟨v, g1, g2⟩ => ⟨v, g1, g2.ex e⟩) (eap_one hm) (fun vs _ ⟨v, g, _⟩ => by rw [g]; simp)).imp fun v H1 _ ⟨p, vs, g1, g2, u, g3, g4⟩ => ⟨p, vs, g1, g2, by rw [g3]; rfl, by rw [g3]; exact .cons g4 .nil⟩) (by rw [List.length_take]; omega)
  refine evp_op (P := fun v H1 => ∃ p ys, v = .ref p ∧ H1 p = some (.tup (rvs.take i ++ ys)) ∧ ys.length = 1 ∧ RLs H1 [m] ys) (fun v H H' e ⟨p, ys, g1, g2, g3, g4⟩ => ⟨p, ys, g1, e _ _ g2, g3, g4.ex e⟩) hcat (evp_slT h1 hr (eo_some hk) eo_none) fun x y H1 e ⟨p, ys, ex, hp, hl1, hy⟩ ⟨q, ey, hq⟩ Q k => ?_
  subst ex ey
  rw [cutV_from] at hq
  have hall : RLs H1 (ds.take i ++ [m] ++ ds.drop (i + 1)) (rvs.take i ++ ys ++ rvs.drop (i + 1)) := RLs.app (RLs.app ((hd.take i).ex e) hy) ((hd.drop (i + 1)).ex e)
  refine ⟨p, q, _, _, rfl, rfl, SqT.of hp, SqT.of hq, sz_of (by rw [List.length_append, List.length_take, List.length_drop]; omega), fun h0 => ?_, fun h0 h1 => ?_, fun _ _ l hl' => ?_⟩
  · have := congrArg List.length h0
    rw [List.length_append, hl1] at this
    simp at this
  · refine k _ _ (Ex.refl _) (.tup hp ?_)
    rw [h1, List.append_nil] at hall
    exact hall
  · exact k _ _ (Ex.new hl') (.tup upd_same (hall.ex (Ex.new hl')))
/-- .. the item drawn -/
theorem em_repl {r : Addr} {rvs : List V} {ds : List PyData} {i : Nat} {tj tk : TE} (hs : StrOk a H) (h1 : ∀ H1, SI a H H1 → Ev ta σ H1 (.ref r)) (hr : H r = some (.tup rvs)) (hd : RLs H ds rvs) (hl : rvs.length ≤ 100) (hj : ∀ H1, SI a H H1 → Ev tj σ H1 (.int (i : Int))) (hk : ∀ H1, SI a H H1 → Ev tk σ H1 (.int ((i + 1 : Nat) : Int))) (hm : EvM a te σ H RecW) :
    EvM a (tOp (rCatA K) (tOp (rCatA K) (tSl (rSlA K) ta tNoPart (tPart tj)) (tTup (tCons te tNil))) (tSl (rSlA K) ta (tPart tk) tNoPart)) σ H (fun v H1 => ∃ m, RecX m ∧ RL H1 (.tuple (ds.take i ++ [m] ++ ds.drop (i + 1))) v) := fun H1 i1 Q q => by
  have hr1 := i1.ext hs _ _ hr
  refine (evp_slT (K := K) (h1 H1 i1) hr1 eo_none (eo_some (hj H1 i1))) H1 (Ex.refl _) _ fun x H2 e2 ⟨p, ex, hp⟩ => ?_
  subst ex
  have s2 := i1.trans (SI.of e2 i1.2)
  refine hm H2 s2 _ fun y H3 i3 ⟨m, hy, hx⟩ => ?_
  refine ⟨sz_of (by simp), fun qq hq => ?_⟩
  have n3 := i3.2.ne hq
  have e4 : Ex H3 (upd H3 qq (.tup [y])) := Ex.new hq
  have s4 := (s2.trans i3).trans (SI.of e4 i3.2)
  have hp3 := e4 _ _ (i3.ext s2.2 _ _ hp)
  rw [cutV_to] at hp3
  have hall : ∀ {H5 : Hp}, SI a (upd H3 qq (.tup [y])) H5 → RLs H5 (ds.take i ++ [m] ++ ds.drop (i + 1)) (rvs.take i ++ [y] ++ rvs.drop (i + 1)) := fun s5 => RLs.app (RLs.app ((hd.take i).si (s4.trans s5) hs) (.cons ((hy.ex e4).si s5 (i3.2.ex e4)) .nil)) ((hd.drop (i + 1)).si (s4.trans s5) hs)
  have last : ∀ (z : Addr) (zs : List V) (H5 : Hp), zs = rvs.take i ++ [y] → H5 z = some (.tup zs) → Ex (upd H3 qq (.tup [y])) H5 → tSl (rSlA K) ta (tPart tk) tNoPart σ H5 fun w H6 => rCatA K (.ref z) w H6 Q := fun z zs H5 hzs hz e5 => by
    subst hzs
    have s5 := SI.of e5 s4.2
    refine (evp_slT (K := K) (h1 H5 (s4.trans s5)) ((s4.trans s5).ext hs _ _ hr) (eo_some (hk H5 (s4.trans s5))) eo_none) H5 (Ex.refl _) _ fun w H6 e6 ⟨p6, ew, hp6⟩ => ?_
    subst ew
    rw [cutV_from] at hp6
    have s6 := s5.trans (SI.of e6 s5.2)
    have fin : ∀ {H7 : Hp} {v : V}, Ex H6 H7 → RL H7 (.tuple (ds.take i ++ [m] ++ ds.drop (i + 1))) v → Q v H7 := fun e7 hv => q _ _ ((((SI.of e2 i1.2).trans i3).trans (SI.of e4 i3.2)).trans (s6.trans (SI.of e7 s6.2))) ⟨m, hx, hv⟩
    refine ⟨z, p6, _, _, rfl, rfl, SqT.of (e6 _ _ hz), SqT.of hp6, sz_of (by rw [List.length_append, List.length_take, List.length_drop, List.length_singleton]; omega), fun h0 => ?_, fun h0 h1 => ?_, fun _ _ l hl' => ?_⟩
    · exact absurd h0 (by simp)
    · have h2 := hall s6
      rw [h1, List.append_nil] at h2
      exact fin (Ex.refl _) (.tup (e6 _ _ hz) h2)
    · exact fin (Ex.new hl') (.tup upd_same (hall (s6.trans (SI.of (Ex.new hl') s6.2))))
  refine ⟨p, qq, _, _, rfl, rfl, SqT.of hp3, SqT.of upd_same, sz_of (by rw [List.length_take, List.length_singleton]; omega), fun h0 => ?_, fun h0 h1 => ?_, fun _ _ l hl' => ?_⟩
  · exact last qq _ _ (by rw [h0]; rfl) upd_same (Ex.refl _)
  · cases h1
  · exact last l _ _ rfl upd_same (Ex.new hl')
end
end G
/-! the law -/
namespace G
open PySem PySem.Spec PyProof.Rows L2 Evl

section
variable {P : Program} {w : World} {K : PySem.W.Frag} {mg : Str → Option Value} {base : Heap}
theorem KeepM.trans {M : Addr → Prop} {H H1 H2 : Hp} (h : KeepM M H H1) (g : KeepM M H1 H2) : KeepM M H H2 := fun b o n e => g b o n (h b o n e)
theorem KeepM.si {a : Strm} {ls lc ld lt : Addr} {H H' : Hp} (i : SI a H H') : KeepM (Mu a ls lc ld lt) H H' := fun b o hb ho => i.1 b o (fun e => hb (.inl e)) ho
theorem KeepM.ex {M : Addr → Prop} {H H' : Hp} (e : Ex H H') : KeepM M H H' := fun b o _ ho => e b o ho
theorem KeepM.up {M : Addr → Prop} {H : Hp} {p : Addr} {o : HO} (h : M p) : KeepM M H (upd H p o) := fun b u hb ho => by
  rw [upd_ne (fun e => hb (by rw [e]; exact h))]
  exact ho
def sp_law (K : PySem.W.Frag) : Sp := fun vs H Q _ => ∃ (sb : Addr) (is : List Int), vs = [.ref sb] ∧ SqL K H sb (is.map V.int) ∧ ∀ H', Q (.bl true) H'
theorem sc_law : FnScope ["_law_script", "_law_stream_here", "_law_begin", "_law_state", "_law_desk", "_law_due", "_law_states", "_law_turn", "_law_command_here", "_law_records", "_law_at", "_law_bad", "_law_good", "_law_record", "_law_actual"] ["_law_script"] (defScope s_law) := ⟨rfl, rfl, rfl, by decide +kernel, rfl, by decide +kernel, by decide +kernel⟩
theorem body_law (T : Txt K mg w) (f : Addr) (cdv : Value) (A : Around) (outer : List Env) (s : Shared) (H : Hp) (vs : List V) (Q : VK) (E : XK) (hr : Room 8 (A.deeper (envOfC "law" (defScope s_law) s.heap.objs.size f cdv))) (h : sp_law K vs H Q E) :
    ∃ t, PSs (cxOf CX0 P w K mg base ["_law_script", "_law_stream_here", "_law_begin", "_law_state", "_law_desk", "_law_due", "_law_states", "_law_turn", "_law_command_here", "_law_records", "_law_at", "_law_bad", "_law_good", "_law_record", "_law_actual"] "law" (defScope s_law) f cdv A outer s H E).nox (defBody s_law) t ∧ t { nx := fun _ H' => Q .non H', rt := Q } (L2.start ["_law_script", "_law_stream_here", "_law_begin", "_law_state", "_law_desk", "_law_due", "_law_states", "_law_turn", "_law_command_here", "_law_records", "_law_at", "_law_bad", "_law_good", "_law_record", "_law_actual"] vs) H := by
  have nd := sc_law.nd
  · obtain ⟨sb, is, rfl, hsb, k⟩ := h
    refine ⟨_, (pss_cons (ps_set (i := 1) nd rfl (Or.inl rfl) (pe_fn (ok_law_stream T) hr (pa_cons (pv 0) pa_nil)))
      (pss_cons (ps_set (i := 2) nd rfl (Or.inl rfl) (pe_fn (ok_law_start T) hr (pa_cons (pv 1) pa_nil)))
      (pss_cons (ps_set (i := 3) nd rfl (Or.inl rfl) (pv 2))
      (pss_cons (ps_set (i := 4) nd rfl (Or.inl rfl) (pe_mkD T (ok_Desk_init T) hr (pa_cons (pe_ix (ix_listK K rfl) (pv 2) pe_int (fun _ _ => rfl)) (pa_cons (pe_ix (ix_listK K rfl) (pv 2) pe_int (fun _ _ => rfl)) pa_nil))))
      (pss_cons (ps_set (i := 5) nd rfl (Or.inl rfl) (pe_lst pa_nil))
      (pss_cons (ps_set (i := 6) nd rfl (Or.inl rfl) (pe_lst pa_nil))
      (pss_cons (ps_for PassesOwn.never rfl (pi_range1 (by rfl) T.b_range (pa_cons (pe_op op_add pe_int (pe_fn (ok_law_next T) hr (pa_cons (pv 1) (pa_cons pe_int pa_nil)))) pa_nil)) (pg_name (i := 7) nd rfl (Or.inl rfl)) (pss_cons (ps_set (i := 8) nd rfl (Or.inl rfl) (pe_fn (ok_law_command T) hr (pa_cons (pv 1) (pa_cons (pv 3) pa_nil))))
      (pss_one (ps_if (pt_cmpR op_eq (pe_fn (ok_law_why T) hr (pa_cons (pv 3) (pa_cons (pv 8) pa_nil))) pe_str (nomark _)) (pss_cons (ps_expr (pe_bmK K rfl PySem.F.plainAttrs_list PySem.F.slot_list_append PySem.F.type_list_append mt_append (pv 6) (pa_cons (pv 3) pa_nil)))
      (pss_cons (ps_set (i := 3) nd rfl (Or.inl rfl) (pe_fn (ok_law_behind T) hr (pa_cons (pv 3) (pa_cons (pv 8) pa_nil))))
      (pss_cons (ps_expr (pe_bmK K rfl PySem.F.plainAttrs_list PySem.F.slot_list_append PySem.F.type_list_append mt_append (pv 5) (pa_cons (pe_tup (pa_cons (pv 8) (pa_cons (pe_fn (ok_law_longest T) hr (pa_cons (pe_ix (ix_listK K rfl) (pv 3) pe_int (fun _ _ => rfl)) (pa_cons (pe_ix (ix_listK K rfl) (pv 3) pe_int (fun _ _ => rfl)) pa_nil))) pa_nil))) pa_nil)))
      (pss_one (ps_expr (pe_mt (pv 4) T.cl T.m_do (ok_Desk_do T) hr (pa_cons (pv 8) pa_nil))))))) pss_nil))))
      (pss_cons (ps_set (i := 9) nd rfl (Or.inl rfl) (pe_mt0 (pv 4) T.cl T.m_records (ok_Desk_records T) hr))
      (pss_cons (ps_if (PW.pt (pw_or (pt_cmpR (op_neDK K rfl hr.units) (pv 9) (pe_callTy call_tuple_of (by rfl) T.b_tuple (by decide +kernel) (pa_cons (pv 5) pa_nil)) (nomark _)) (pw_or1 (pt_cmpR op_notBl (pe_fn (ok_are_right T) hr (pa_cons (pe_ix (ix_listK K rfl) (pv 2) pe_int (fun _ _ => rfl)) (pa_cons (pe_ix (ix_listK K rfl) (pv 2) pe_int (fun _ _ => rfl)) (pa_cons (pv 9) pa_nil)))) pe_bl (nomark _))))) (pss_one (ps_ret pe_bl)) pss_nil)
      (pss_cons (ps_if (pt_not (pt_truth (pv 9) (by intro _; rfl))) (pss_one (ps_ret (pe_cmpR op_isBl (pe_fn (ok_are_right T) hr (pa_cons (pe_ix (ix_listK K rfl) (pv 2) pe_int (fun _ _ => rfl)) (pa_cons (pe_ix (ix_listK K rfl) (pv 2) pe_int (fun _ _ => rfl)) (pa_cons pe_non pa_nil)))) pe_bl (nomark _)))) pss_nil)
      (pss_cons (ps_set (i := 10) nd rfl (Or.inl rfl) (pe_fn (ok_law_next T) hr (pa_cons (pv 1) (pa_cons (pe_callB (call_lenK K rfl) (by rfl) T.b_len PySem.boot_len (pa_cons (pv 9) pa_nil)) pa_nil))))
      (pss_cons (ps_for PassesOwn.never rfl (pi_range1 (by rfl) T.b_range (pa_cons pe_int pa_nil)) (pg_name (i := 7) nd rfl (Or.inl rfl)) (pss_cons (ps_set (i := 11) nd rfl (Or.inl rfl) (pe_fn (ok_law_bad_command T) hr (pa_cons (pv 1) (pa_cons (pe_ix (ix_listK K rfl) (pe_ix (ix_listK K rfl) (pv 6) (pv 10) (fun _ _ => rfl)) pe_int (fun _ _ => rfl)) pa_nil))))
      (pss_one (ps_if (pt_cmpR op_notBl (pe_fn (ok_are_right T) hr (pa_cons (pe_ix (ix_listK K rfl) (pv 2) pe_int (fun _ _ => rfl)) (pa_cons (pe_ix (ix_listK K rfl) (pv 2) pe_int (fun _ _ => rfl)) (pa_cons (pe_op (op_catK K rfl) (pe_op (op_catK K rfl) (pe_slice (sl_tupK K rfl) (pv 9) po_none (po_some (pv 10))) (pe_tup (pa_cons (pe_tup (pa_cons (pv 11) (pa_cons (pe_ix (ix_tupK K rfl) (pe_ix (ix_tupK K rfl) (pv 9) (pv 10) (fun _ _ => rfl)) pe_int (fun _ _ => rfl)) pa_nil))) pa_nil))) (pe_slice (sl_tupK K rfl) (pv 9) (po_some (pe_op op_add (pv 10) pe_int)) po_none)) pa_nil)))) pe_bl (nomark _)) (pss_one (ps_ret pe_bl)) pss_nil))))
      (pss_cons (ps_set (i := 9) nd rfl (Or.inl rfl) (pe_op (op_catK K rfl) (pe_op (op_catK K rfl) (pe_slice (sl_tupK K rfl) (pv 9) po_none (po_some (pv 10))) (pe_tup (pa_cons (pe_fn (ok_law_turned T) hr (pa_cons (pv 1) (pa_cons (pv 9) (pa_cons (pv 10) (pa_cons (pe_ix (ix_listK K rfl) (pv 6) (pv 10) (fun _ _ => rfl)) pa_nil))))) pa_nil))) (pe_slice (sl_tupK K rfl) (pv 9) (po_some (pe_op op_add (pv 10) pe_int)) po_none)))
      (pss_cons (ps_set (i := 3) nd rfl (Or.inl rfl) (pv 2))
      (pss_cons (ps_set (i := 12) nd rfl (Or.inl rfl) pe_bl)
      (pss_cons (ps_for PassesOwn.never rfl (pi_tupK K rfl (pv 9)) (pg_name (i := 13) nd rfl (Or.inl rfl)) (pss_one (ps_if (pt_val (pv 12)) (pss_cons (ps_set (i := 3) nd rfl (Or.inl rfl) (pe_fn (ok_law_takes T) hr (pa_cons (pv 3) (pa_cons (pv 13) pa_nil))))
      (pss_one (ps_set (i := 12) nd rfl (Or.inl rfl) (pe_cmpR op_notN (pv 3) pe_non (nomark _))))) pss_nil)))
      (pss_cons (ps_set (i := 14) nd rfl (Or.inl rfl) (pe_fn (ok_are_right T) hr (pa_cons (pe_ix (ix_listK K rfl) (pv 2) pe_int (fun _ _ => rfl)) (pa_cons (pe_ix (ix_listK K rfl) (pv 2) pe_int (fun _ _ => rfl)) (pa_cons (pv 9) pa_nil)))))
      (pss_one (ps_ret (pe_and (pe_callB (call_isK K rfl) (by rfl) T.b_isinstance (by decide +kernel) (pa_cons (pv 14) (pa_cons (pe_tyb "bool" T.b_bool) pa_nil))) (pe_one (pe_cmpR op_eq (pv 14) (pv 12) (nomark _))))))))))))))))))))))), ?_⟩
    refine q_asgP (P := fun v H1 => ∃ a : Strm, v = .ref a.1 ∧ StrOk a H1) (evp_call (ea_cons (ev_var rfl) ea_nil) fun H1 e1 Q q E => ⟨sb, is, rfl, ex_l e1 hsb, fun a H' e hs _ => q _ H' e ⟨a, rfl, hs⟩⟩) fun v H1 e1 ⟨a, ev, hs1⟩ => ?_
    subst ev
    refine q_asgM (P := fun v H2 => ∃ b w ws t, v = .ref b ∧ b ≠ a.1 ∧ H2 b = some (.lst [w, vS t]) ∧ RD H2 (wlD ws) w ∧ Good (ws, t) ∧ Ab ws) (em_call (fun _ _ => ea_cons (ev_var rfl) ea_nil) fun H2 s2 Q q E => ⟨a, rfl, s2.2, fun b w ws t H' i h1 h2 _ h3 h4 h5 => q _ H' i ⟨b, w, ws, t, rfl, h2, h1, h3, h4, h5⟩⟩) hs1 fun v H2 s2 ⟨b0, w0, ws, t, ev, hb0a, hb0, hw0, hg0, hab0⟩ => ?_
    subst ev
    refine q_asg (ev_var rfl) fun H3 e3 => ?_
    have hb03 := e3 _ _ hb0
    have hw03 := hw0.ex e3
    have hs3 := s2.2.ex e3
    refine q_asgP (evp_desk (ea_cons (ev_ixL (i := 0) (ev_var rfl) hb03 ev_c rfl) (ea_cons (ev_ixL (i := 1) (ev_var rfl) hb03 ev_c rfl) ea_nil)) hw03 hg0) fun v H4 e4 ⟨x, dx, ls, lc, s0, ev, fx, fls, flc, hsc, hx, hls, hlc, hsv⟩ => ?_
    subst ev
    have hb04 := e4 _ _ hb03
    have hs4 := hs3.ex e4
    refine q_asgL (el_lst ea_nil (Nat.zero_le _)) fun ld H5 fld e5 hld => ?_
    refine q_asgL (el_lst ea_nil (Nat.zero_le _)) fun lt H6 flt e6 hlt => ?_
    have hs5 := hs4.ex e5
    have hs6 := hs5.ex e6
    obtain ⟨sA, sB⟩ := hs3.ne fls
    obtain ⟨cA, cB⟩ := hs3.ne flc
    obtain ⟨xA, _⟩ := hs3.ne fx
    obtain ⟨dA, dB⟩ := hs4.ne fld
    obtain ⟨tA, tB⟩ := hs5.ne flt
    have un : ∀ {H : Hp} {p q : Addr} {o : HO}, H p = some o → H q = none → p ≠ q := fun h1 h2 e => by rw [e, h2] at h1; cases h1
    have D : Ds a x ls lc ld lt := ⟨xA, sA, cA, dA, tA, sB, cB, dB, tB, (fun e => by rw [e, hls] at hx; cases hx), (fun e => by rw [e, hlc] at hx; cases hx), un hx fld, un (e5 _ _ hx) flt, hsc, un hls fld, un (e5 _ _ hls) flt, un hlc fld, un (e5 _ _ hlc) flt, un hld flt⟩
    have hb0M : ¬ Mu a ls lc ld lt b0 := fun hm => by
      rcases hm with r | r | r | r | r
      · exact hb0a r
      · exact un hb03 fls r
      · exact un hb03 flc r
      · exact un hb04 fld r
      · exact un (e5 _ _ hb04) flt r
    have e46 := e5.trans e6
    have hV0 : Hv K a x dx ls lc ld lt H6 [] [] [] (ws, t) (ws, t) b0 := ⟨hs6, e46 _ _ hx, ⟨s0, [], [], s0, e46 _ _ hls, rfl, .nil, hsv.ext (ext_of e46)⟩, ⟨[], e46 _ _ hlc, .nil⟩, ⟨[], e6 _ _ hld, .nil⟩, ⟨[], hlt, .nil⟩, ⟨b0, w0, rfl, hb0M, e46 _ _ hb04, (hw03.ex e4).ex e46⟩⟩
    have hP0 : LP (ws, t) [] [] (ws, t) := LP.zero hg0 hab0
    refine q_forR (B := fun n => n ≤ 6) (eir_r1 ((em_addI (i := 1) (em_draw (n := 6) rfl (fun _ _ => ev_c) (by omega) (by omega))).imp fun v H _ ⟨d, ev, e, he, hd⟩ => ⟨d, ev, by omega⟩) fun n hn => by omega) hs6
      (fun n i σ' H' => ∃ (hist : Hist) (pre : List (WL × Wd)) (cur : WL × Wd) (b : Addr) (v7 v8 : Option V), σ' = [some (.ref sb), some (.ref a.1), some (.ref b0), some (.ref b), some (.ref x), some (.ref ld), some (.ref lt), v7, v8, none, none, none, none, none, none] ∧ hist.length ≤ i ∧ LP (ws, t) hist pre cur ∧ Hv K a x dx ls lc ld lt H' hist hist pre cur cur b ∧ KeepM (Mu a ls lc ld lt) H6 H')
      (fun n H7 s7 _ => ⟨[], [], (ws, t), b0, none, none, rfl, Nat.le_refl _, hP0, hV0.si D s7, KeepM.si s7⟩) ?_ ?_
    · rintro n i σ' H' hn hi ⟨hist, pre, cur, b, v7, v8, rfl, hlen, hP, hV, hK⟩
      obtain ⟨b', wc, eb, hbM, hb, hw⟩ := hV.cst
      obtain rfl := V.ref.inj eb
      have hba : b ≠ a.1 := fun e => hbM (.inl e)
      have hl30 : cur.2.length ≤ 30 := hP.good.len
      have hplen := hP.plen
      refine q_asgM (P := fun v H2 => ∃ c, RD H2 (cmdD c) v ∧ Strc c ∧ FormOk cur.1 cur.2 c ∧ AbC c) (em_call (fun _ _ => ea_cons (ev_var rfl) (ea_cons (ev_var rfl) ea_nil)) fun H2 s2 Q q E => ⟨a, b, wc, cur.1, cur.2, rfl, s2.2, hba, s2.1 _ _ hba hb, hw.mono (s2.ext hV.str), hP.good, fun v c H3 s3 h1 h2 h3 h4 => q v H3 s3 ⟨c, h1, h2, h3, h4⟩⟩) hV.str fun v H2 s2 ⟨c, hc, hst, hf, hab⟩ => ?_
      have hV2 := hV.si D s2
      have hsm := strc_sm hst
      have hb2 := s2.1 _ _ hba hb
      have hw2 := hw.mono (s2.ext hV.str)
      refine s_when (et_eqW (evp_call (ea_cons (ev_var rfl) (ea_cons (ev_var rfl) ea_nil)) fun H3 e3 Q q E => ⟨b, wc, v, cur.1, cur.2, c, rfl, e3 _ _ hb2, hw2.ex e3, hP.good.val, hc.ex e3, hsm, by omega, q⟩)) (fun hp H3 e3 => ?_) fun hp H3 e3 => ⟨hist, pre, cur, b, _, _, rfl, by omega, hP, hV2.ex D e3, (hK.trans (KeepM.si s2)).trans (KeepM.ex e3)⟩
      have hV3 := hV2.ex D e3
      obtain ⟨tv, ht, htp⟩ := hV3.lts
      have htl := paired_len htp
      refine q_app ht (ev_var rfl) (ev_var rfl) (by omega) fun H4 e4 => ?_
      have hV5 := (hV3.ex D e4).addT D (e4 _ _ ht)
      obtain ⟨b2, wc2, eb2, _, hb5, hw5⟩ := hV5.cst
      obtain rfl := V.ref.inj eb2
      have k5 : KeepM (Mu a ls lc ld lt) H2 (upd H4 lt (.lst (tv ++ [.ref b]))) := ((KeepM.ex e3).trans (KeepM.ex e4)).trans (KeepM.up (.inr (.inr (.inr (.inr rfl)))))
      have hc5 : RD (upd H4 lt (.lst (tv ++ [.ref b]))) (cmdD c) v := hc.mono (hV2.ext k5)
      have hgb : Good (behindS cur.1 cur.2 c) := good_behind hP.good hf hp
      refine q_asgP (P := StN (upd H4 lt (.lst (tv ++ [.ref b]))) (behindS cur.1 cur.2 c)) (evp_call (ea_cons (ev_var rfl) (ea_cons (ev_var rfl) ea_nil)) fun H6 e6 Q q E => ⟨b, wc2, v, cur.1, cur.2, c, rfl, e6 _ _ hb5, hw5.ex e6, hP.good.val.ge, hP.good.val.le, hc5.ex e6, hsm, by omega, fun v' H7 e7 ⟨b1, w1, g1, g2, g3, g4⟩ => q v' H7 e7 ⟨b1, w1, g1, fresh_back e6 g2, g3, g4⟩⟩) fun v' H7 e7 ⟨b3, w3, ev, hbn, hb3, hw3⟩ => ?_
      subst ev
      have hV7 := (hV5.ex D e7).setC ⟨b3, w3, rfl, hV5.free hbn, hb3, hw3⟩
      have hc7 := hc5.ex e7
      obtain ⟨dv, hd, hdp⟩ := hV7.lds
      have hdl := hdp.length
      rw [List.length_map] at hdl
      have hlb : (behindS cur.1 cur.2 c).2.length ≤ 30 := hgb.len
      refine q_appP (P := fun v2 H1 => RD H1 (histD (c, behindS cur.1 cur.2 c)) v2) hd (ev_var rfl) ((evp_tup (PA := fun vs H1 => ∃ r, vs = [v, .ref r] ∧ RD H1 (cmdD c) v ∧ H1 r = some (.tup ((longest (behindS cur.1 cur.2 c).1 (behindS cur.1 cur.2 c).2).map vS))) (fun vs H H' e ⟨r, h1, h2, h3⟩ => ⟨r, h1, h2.ex e, e _ _ h3⟩) (fun H8 e8 Q q => ?_) (fun vs _ ⟨r, h, _⟩ => by rw [h]; simp)).imp fun v2 H8 e8 ⟨p, vs, ev, hp, r, evs, h2, h3⟩ => ?_) (by omega) fun v2 H8 e8 hv2 => ?_
      · exact eap_cons (P := fun y _ => y = v) (fun _ _ _ _ h => h) (ev_p (ev_var rfl)) (eap_one (evp_call (P := RowV (longest (behindS cur.1 cur.2 c).1 (behindS cur.1 cur.2 c).2)) (ea_cons (ev_ixL (i := 0) (ev_var rfl) hb3 ev_c rfl) (ea_cons (ev_ixL (i := 1) (ev_var rfl) hb3 ev_c rfl) ea_nil)) fun H9 e9 Q q E => ⟨w3, _, _, rfl, hw3.ex e9, hgb.val, by omega, hgb.let_, q⟩)) H8 e8 Q fun vs H9 e9 ⟨y, us, g1, g2, z, g3, r, g4, g5⟩ => q vs H9 e9 ⟨r, by rw [g1, g2, g3, g4], (hc7.ex e8).ex e9, g5⟩
      · subst ev evs
        exact .tup hp (.cons h2 (.cons (row_rd h3) .nil))
      have hV9 := (hV7.ex D e8).addD D (e8 _ _ hd) hv2
      have k9 : KeepM (Mu a ls lc ld lt) H2 (upd H8 ld (.lst (dv ++ [v2]))) := ((k5.trans (KeepM.ex e7)).trans (KeepM.ex e8)).trans (KeepM.up (.inr (.inr (.inr (.inl rfl)))))
      have hc9 : RD (upd H8 ld (.lst (dv ++ [v2]))) (cmdD c) v := hc.mono (hV2.ext k9)
      obtain ⟨ss0, ss, sa, s, gl, gq, gp, gs⟩ := hV9.lss
      obtain ⟨cv, cl, cp⟩ := hV9.lcs
      have hcl := paired_len cp
      have hsl := congrArg List.length gq
      have hpl := paired_len gp
      simp only [List.length_append, List.length_cons, List.length_nil] at hsl
      exact ⟨_, rfl, x, dx, df ls lc, rfl, hV9.obj, df_no ls lc (by decide +kernel) (by decide +kernel), _, rfl, x, dx, ls, lc, v, sa, s, cv, cur, c, rfl, hV9.obj, gl, by omega, gs, cl, by omega, D.sc, hP.good, hc9, hsm, hf, hp, fun v' H10 s' k0 k1 k2 k3 =>
        ⟨hist ++ [(c, behindS cur.1 cur.2 c)], pre ++ [cur], behindS cur.1 cur.2 c, b3, _, _, rfl, by simp; omega, hP.next hst hf hp hab, hV9.done D gl cl hc9 k0 k1 k2 k3, ((hK.trans (KeepM.si s2)).trans k9).trans fun b o hb ho => k0 b o (fun e => hb (.inr (.inl e))) (fun e => hb (.inr (.inr (.inl e)))) ho⟩⟩
    · rintro n σ' H' hn ⟨hist, pre, cur, b, v7, v8, rfl, hlen, hP, hV, hK⟩
      have hbeg : H' b0 = some (.lst [w0, vS t]) := hK _ _ hb0M (e46 _ _ hb04)
      have hwg : RD H' (wlD ws) w0 := ((hw03.ex e4).ex e46).mono (hV0.ext hK)
      have ok0 := hP.hok
      obtain ⟨ss0, ss, sa, s, gl, gq, gp, gs⟩ := hV.lss
      obtain ⟨cv, cl, cp⟩ := hV.lcs
      obtain ⟨dv, dl, ddp⟩ := hV.lds
      obtain ⟨tv, tl, ttp⟩ := hV.lts
      have htl := paired_len ttp
      have hplen := hP.plen
      have hlen100 : hist.length ≤ 100 := by omega
      refine q_asgP (P := fun v H1 => RD H1 (.tuple (hist.map histD)) v) (evp_mt0 (ev_var rfl) hV.obj (df_no ls lc (by decide +kernel) (by decide +kernel)) fun H1 e1 Q q E => ⟨x, dx, ls, lc, ss0, ss, cv, hist, rfl, e1 _ _ hV.obj, e1 _ _ (by rw [← gq]; exact gl), e1 _ _ cl, hlen100, Paired.mapP gp fun _ _ r => r.ext (ext_of e1), Paired.mapP cp fun _ _ r => r.mono (ext_of e1), q⟩) fun v H1 e1 hrec => ?_
      obtain ⟨r9, rvs, ev, hr9, hrds⟩ := hrec.tup_inv
      subst ev
      have hrl := hrds.length
      rw [List.length_map] at hrl
      have hV1 := hV.ex D e1
      have hRK : RecsK (.tuple (hist.map histD)) := ⟨by rw [List.length_map]; exact hlen100, fun d hd => by
        obtain ⟨e, he, rfl⟩ := List.mem_map.mp hd
        obtain ⟨g1, _, g3⟩ := ok0 e he
        exact recx_k (recx_hist g1 g3)⟩
      have hright : rightB (ws, t) (.tuple (hist.map histD)) = true := by
        show (G.run (ws, t) (hist.map histD)).isSome = true
        rw [hP.run]; rfl
      refine q_skip (et_is (et_or (b := false) (et_neDD (ev_var rfl) hrec ((evp_tupL (evl_of (ev_var rfl) (e1 _ _ dl))).imp fun v H2 e2 ⟨p, ev, hp⟩ => ev ▸ .tup hp ((ddp.mono (ext_of e1)).mono (ext_of e2))) (shaped_hist ok0)) fun _ => et_is (et_test (ev_notB (ev_right (ev_ixL (i := 0) (ev_var rfl) (e1 _ _ hbeg) ev_c rfl) (ev_ixL (i := 1) (ev_var rfl) (e1 _ _ hbeg) ev_c rfl) ((ev_p (ev_var rfl)).imp fun v H2 e2 ev => by rw [ev]; exact (hrec.ex e2).rl) (hwg.ex e1) hg0 hRK))) (by rw [hright]; rfl)) (by rw [eqv_hist ok0]; rfl)) fun H2 e2 => ?_
      have e02 := e1.trans e2
      refine q_when (et_not (et_tru (ev_var rfl) (tru_T (e2 _ _ hr9)))) (fun hb H3 e3 => ?_) fun hb H3 e3 => ?_
      · refine s_ret (v := .bl true) (ev_is (ev_isB (ev_right (d := .none) (ev_ixL (i := 0) (ev_var rfl) ((e02.trans e3) _ _ hbeg) ev_c rfl) (ev_ixL (i := 1) (ev_var rfl) ((e02.trans e3) _ _ hbeg) ev_c rfl) ((ev_p ev_c).imp fun v H4 _ ev => ev ▸ .non) (hwg.ex (e02.trans e3)) hg0 trivial)) rfl) fun H4 _ => k H4
      have hne : 0 < hist.length := by
        rw [Bool.not_eq_false', Bool.not_eq_true', List.isEmpty_eq_false_iff] at hb
        have := List.length_pos_iff.mpr hb
        omega
      have e03 := e02.trans e3
      have hs3' := hV.str.ex e03
      have hr3 := e3 _ _ (e2 _ _ hr9)
      refine q_asgM (em_draw (n := hist.length) rfl (fun H4 i => ev_is (ev_lenT (ev_var rfl) (i.ext hs3' _ _ hr3)) (by rw [hrl])) hne (by omega)) hs3' fun v H4 s4 ⟨at_, ev, hat⟩ => ?_
      subst ev
      have s04 := (SI.of e03 hV.str).trans s4
      have t04 := s04.ext hV.str
      have hV4 := hV.si D s04
      have hatp : at_ < pre.length := by omega
      have hpre : pre[at_]? = some pre[at_] := List.getElem?_eq_getElem hatp
      obtain ⟨hrun_at, hgat, habat⟩ := hP.pst at_ _ hpre
      have htv : tv[at_]? = some tv[at_] := List.getElem?_eq_getElem (by omega)
      have hba0 : b0 ≠ a.1 := hb0a
      have hr4 := s4.ext hs3' _ _ hr3
      have hrds4 : RDs H4 (hist.map histD) rvs := hrds.mono ((ext_of (e2.trans e3)).trans (s4.ext hs3'))
      obtain ⟨bA, wA, etA, hAM, hbA, hwA⟩ := paired_get ttp hpre htv
      rw [etA] at htv
      have hAa : bA ≠ a.1 := fun e => hAM (.inl e)
      have htA : pre[at_].2.length ≤ 30 := hgat.len
      have hhat : hist[at_]? = some hist[at_] := List.getElem?_eq_getElem hat
      obtain ⟨g1, _, g3⟩ := ok0 _ (List.getElem_mem hat)
      have hvat : rvs[at_]? = some rvs[at_] := List.getElem?_eq_getElem (by omega)
      obtain ⟨dat, hdat, hrdat⟩ := hrds4.gv hvat
      rw [List.getElem?_map, hhat] at hdat
      obtain rfl := Option.some.inj hdat
      obtain ⟨pR, cR, rR, hvR, hpR, hcR, hrR⟩ := rec_at hrdat
      rw [hvR] at hvat
      have hmid : ∀ (m : PyData), RecK m → RecsK (.tuple ((hist.map histD).take at_ ++ [m] ++ (hist.map histD).drop (at_ + 1))) := fun m hm => ⟨by simp; omega, fun d hd => by
        have hall : ∀ d ∈ hist.map histD, RecK d := fun d hd => hRK.2 d hd
        rcases List.mem_append.mp hd with h | h
        · rcases List.mem_append.mp h with h | h
          · exact hall d (List.mem_of_mem_take h)
          · rw [List.mem_singleton.mp h]; exact hm
        · exact hall d (List.mem_of_mem_drop h)⟩
      refine q_forR (B := fun n => n = 3) (eir_r1 ((em_ev fun _ _ => ev_c).imp fun v H _ ev => ⟨3, ev, rfl⟩) fun n hn => by omega) s4.2
        (fun n i σ' H5 => ∃ (v7 v11 : Option V), σ' = [some (.ref sb), some (.ref a.1), some (.ref b0), some (.ref b), some (.ref x), some (.ref ld), some (.ref lt), v7, v8, some (.ref r9), some (.int (at_ : Int)), v11, none, none, none] ∧ SI a H4 H5)
        (fun n H5 s5 _ => ⟨v7, none, rfl, s5⟩) ?_ ?_
      · rintro n i σ' H5 hn3 hi3 ⟨u7, u11, rfl, s5⟩
        have s05 := s04.trans s5
        refine q_asgM (P := BadV pre[at_].2) (em_call (fun H6 s6 => ea_cons (ev_var rfl) (ea_cons (ev_ixL (i := 1) (ev_ixL (i := at_) (ev_var rfl) ((s05.trans s6).1 _ _ D.ta tl) (ev_var rfl) htv) ((s05.trans s6).1 _ _ hAa hbA) ev_c rfl) ea_nil)) fun H6 s6 Q q E => ⟨a, pre[at_].2, rfl, s6.2, by omega, fun v d H7 s7 h1 h2 => q v H7 s7 ⟨d, h1, h2⟩⟩) s5.2 fun v H6 s6 ⟨d, hd, hbd⟩ => ?_
        have s46 := s5.trans s6
        have s06 := s04.trans s46
        have hfalse : rightB (ws, t) (.tuple ((hist.map histD).take at_ ++ [.tuple [d, rowD (longest hist[at_].2.1 hist[at_].2.2)]] ++ (hist.map histD).drop (at_ + 1))) = false := by
          show (G.run (ws, t) _).isSome = false
          rw [hP.bad hpre (hbd.2 _ habat)]; rfl
        refine s_when (b := false) (et_is (et_test (ev_notB (ev_right (ev_ixL (i := 0) (ev_var rfl) (s06.1 _ _ hba0 hbeg) ev_c rfl) (ev_ixL (i := 1) (ev_var rfl) (s06.1 _ _ hba0 hbeg) ev_c rfl) (evp_repl (m := .tuple [d, rowD (longest hist[at_].2.1 hist[at_].2.2)]) (i := at_) (ev_var rfl) (s46.ext s4.2 _ _ hr4) ((hrds4.mono (s46.ext s4.2)).rl) (by omega) (ev_var rfl) (ev_is (ev_op (ev_var rfl) ev_c rv_I0) rfl)
          ((evp_tup (PA := fun vs H1 => vs = [v, .ref rR]) (fun _ _ _ _ h => h) (eva_p (ea_cons (ev_var rfl) (ea_cons (ev_ixT (i := 1) (ev_ixT (i := at_) (ev_var rfl) (s46.ext s4.2 _ _ hr4) (ev_var rfl) hvat) (s46.ext s4.2 _ _ hpR) ev_c rfl) ea_nil))) (fun vs _ h => by rw [h]; simp)).imp fun v2 H7 e7 ⟨p, vs, ev, hp, evs⟩ => by
            subst ev evs
            exact .tup hp (.cons (hd.ex e7) (.cons (row_rd (e7 _ _ (s46.ext s4.2 _ _ hrR))).rl .nil)))) (hwg.mono (s06.ext hV.str)) hg0 (hmid _ ⟨hbd.1, rowx_k (rowx_longest g3)⟩)))) (by rw [hfalse]; rfl)) (fun h => by cases h) fun _ H7 e7 => ⟨_, _, rfl, s46.trans (SI.of e7 s6.2)⟩
      · rintro n σ' H5 hn3 ⟨u7, u11, rfl, s5⟩
        have s05 := s04.trans s5
        have hr5 := s5.ext s4.2 _ _ hr4
        have hrds5 := hrds4.mono (s5.ext s4.2)
        have hes : (hist.map fun e => (e.1, longest e.2.1 e.2.2)).map (fun e => recD e.1 e.2) = hist.map histD := by rw [List.map_map] <;> rfl
        refine q_asgM (em_repl (i := at_) s5.2 (fun _ _ => ev_var rfl) hr5 hrds5.rl (by omega) (fun _ _ => ev_var rfl) (fun _ _ => ev_is (ev_op (ev_var rfl) ev_c rv_I0) rfl) (em_call (fun H6 s6 => ea_cons (ev_var rfl) (ea_cons (ev_var rfl) (ea_cons (ev_var rfl) (ea_cons (ev_ixL (i := at_) (ev_var rfl) ((s05.trans s6).1 _ _ D.ta tl) (ev_var rfl) htv) ea_nil)))) fun H6 s6 Q q E => ⟨a, r9, bA, at_, hist.map fun e => (e.1, longest e.2.1 e.2.2), rvs, wA, pre[at_].1, pre[at_].2, rfl, s6.2, s6.ext s5.2 _ _ hr5, by rw [hes]; exact hrds5.mono (s6.ext s5.2), by rw [List.length_map]; exact hat, by rw [List.length_map]; exact hlen100, fun e he => by
          obtain ⟨e', he', rfl⟩ := List.mem_map.mp he
          obtain ⟨q1, _, q3⟩ := ok0 e' he'
          exact recg_hist q1 q3, hAa, (s05.trans s6).1 _ _ hAa hbA, hwA.mono ((s05.trans s6).ext hV.str), hgat, fun v d H7 s7 h1 h2 => q v H7 s7 ⟨d, h1, h2⟩⟩)) s5.2 fun v H6 s6 ⟨m, hm, hv⟩ => ?_
        have s06 := s05.trans s6
        have hbeg6 := s06.1 _ _ hba0 hbeg
        have hwg6 : RD H6 (wlD ws) w0 := hwg.mono (s06.ext hV.str)
        have hdx : ∀ d ∈ (hist.map histD).take at_ ++ [m] ++ (hist.map histD).drop (at_ + 1), RecX d := fun d hd => by
          have hall : ∀ d ∈ hist.map histD, RecX d := fun d hd => by
            obtain ⟨e, he, rfl⟩ := List.mem_map.mp hd
            obtain ⟨q1, _, q3⟩ := ok0 e he
            exact recx_hist q1 q3
          rcases List.mem_append.mp hd with h | h
          · rcases List.mem_append.mp h with h | h
            · exact hall d (List.mem_of_mem_take h)
            · rw [List.mem_singleton.mp h]; exact hm
          · exact hall d (List.mem_of_mem_drop h)
        have hRK2 := hmid m (recx_k hm)
        generalize (hist.map histD).take at_ ++ [m] ++ (hist.map histD).drop (at_ + 1) = ds at hv hdx hRK2
        obtain ⟨r2, ys, ev, hr2, hys⟩ := hv.tup_inv
        subst ev
        refine q_asg (ev_var rfl) fun H7 e7 => ?_
        refine q_asg ev_c fun H8 e8 => ?_
        have e68 := e7.trans e8
        refine q_forT (xs := ys) (ev_var rfl) (SqT.of (e68 _ _ hr2)) (fun i σ' H9 => ∃ (o : Option (WL × Wd)) (v3 v13 : Option V), σ' = [some (.ref sb), some (.ref a.1), some (.ref b0), v3, some (.ref x), some (.ref ld), some (.ref lt), u7, v8, some (.ref r2), some (.int (at_ : Int)), u11, some (.bl o.isSome), v13, none] ∧ Ex H6 H9 ∧ G.run (ws, t) ds = (o.bind fun st => G.run st (ds.drop i)) ∧ ∀ st, o = some st → Good st ∧ ∃ b w, v3 = some (.ref b) ∧ H9 b = some (.lst [w, vS st.2]) ∧ RD H9 (wlD st.1) w)
          (fun H9 e9 => ⟨some (ws, t), some (.ref b0), none, rfl, e68.trans e9, rfl, fun st hst => by
            obtain rfl := Option.some.inj hst
            exact ⟨hg0, b0, w0, rfl, (e68.trans e9) _ _ hbeg6, hwg6.ex (e68.trans e9)⟩⟩) (fun i σ' H9 _ ⟨_, _, _, _, e, _⟩ => SqT.of (e _ _ hr2)) ?_ ?_
        · rintro i y σ' H9 hy ⟨o, v3, v13, rfl, e9, hrun, hst⟩
          obtain ⟨d, hd, hdy⟩ := (hys.ex e9).get hy
          have hid := (List.getElem?_eq_some_iff.mp hd).1
          have hdd : ds.drop i = d :: ds.drop (i + 1) := by
            rw [List.drop_eq_getElem_cons hid]
            rw [List.getElem?_eq_getElem hid] at hd
            rw [Option.some.inj hd]
          have hxd := hdx d (List.mem_of_getElem? hd)
          rw [hdd] at hrun
          refine s_when (et_B (ev_var (i := 12) rfl)) (fun ho H10 e10 => ?_) fun ho H10 e10 => ?_
          · rw [Option.isSome_iff_exists] at ho
            obtain ⟨st, rfl⟩ := ho
            obtain ⟨hgs, bS, wS, ev3, hbS, hwS⟩ := hst st rfl
            subst ev3
            have hrun' : G.run (ws, t) ds = (step st d).bind fun st' => G.run st' (ds.drop (i + 1)) := hrun
            refine q_asgP (P := TakeP H10 (step st d)) (evp_call (ea_cons (ev_var rfl) (ea_cons (ev_var rfl) ea_nil)) fun H11 e11 Q q E => ⟨bS, wS, y, st.1, st.2, d, rfl, (e10.trans e11) _ _ hbS, hwS.ex (e10.trans e11), hgs, hdy.ex (e10.trans e11), hxd, fun v' H12 e12 hv' => q v' H12 e12 (by
              have hv2 : TakeP H11 (step st d) v' H12 := hv'
              cases hq : step st d with
              | none => rw [hq] at hv2; exact hv2
              | some st' =>
                rw [hq] at hv2
                obtain ⟨b1, w1, q1, q2, q3, q4⟩ := hv2
                exact ⟨b1, w1, q1, fresh_back e11 q2, q3, q4⟩)⟩) fun v' H11 e11 hv' => ?_
            cases hq : step st d with
            | none =>
              rw [hq] at hv' hrun'
              have hv2 : v' = .non := hv'
              subst hv2
              exact s_asg (v := .bl false) (fun H12 e12 Q q => ⟨_, rfl, rfl, q H12 (Ex.refl _)⟩) fun H12 e12 => ⟨none, _, _, rfl, ((e9.trans e10).trans e11).trans e12, hrun', fun st' h' => by cases h'⟩
            | some st' =>
              rw [hq] at hv' hrun'
              obtain ⟨b1, w1, q1, q2, q3, q4⟩ := hv'
              subst q1
              exact s_asg (v := .bl true) (fun H12 e12 Q q => ⟨_, rfl, rfl, q H12 (Ex.refl _)⟩) fun H12 e12 => ⟨some st', _, _, rfl, ((e9.trans e10).trans e11).trans e12, hrun', fun st2 h2 => by
                obtain rfl := Option.some.inj h2
                exact ⟨step_good hgs hq, b1, w1, rfl, e12 _ _ q3, q4.ex e12⟩⟩
          · rw [Option.isSome_eq_false_iff, Option.isNone_iff_eq_none] at ho
            subst ho
            exact ⟨none, v3, _, rfl, e9.trans e10, hrun, fun st' h' => by cases h'⟩
        · rintro σ' H9 ⟨o, v3, v13, rfl, e9, hrun, hst⟩
          have hlen2 := hys.length
          have hfin : (G.run (ws, t) ds).isSome = o.isSome := by
            rw [hrun, hlen2, List.drop_length]
            cases o <;> rfl
          refine q_asg (v := .bl (rightB (ws, t) (.tuple ds))) (ev_right (ev_ixL (i := 0) (ev_var rfl) (e9 _ _ hbeg6) ev_c rfl) (ev_ixL (i := 1) (ev_var rfl) (e9 _ _ hbeg6) ev_c rfl) ((ev_p (ev_var rfl)).imp fun v H10 e10 ev => by rw [ev]; exact .tup ((e9.trans e10) _ _ hr2) (hys.ex (e9.trans e10))) (hwg6.ex e9) hg0 hRK2) fun H10 e10 => ?_
          refine s_ret (v := .bl true) (ev_is (ev_andV (isi_bool (ev_var rfl) (.bl (rightB (ws, t) (.tuple ds)))) fun _ => ev_op (ev_var rfl) (ev_var rfl) (rv_eq rfl)) ?_) fun H11 _ => k H11
          rw [show rightB (ws, t) (.tuple ds) = (G.run (ws, t) ds).isSome from rfl, hfin, decide_eq_true rfl]
          rfl
theorem fn_law (T : Txt K mg w) {f0 : Addr} {fd0 : FuncData} (F : FnP K "law" s_law f0 fd0) : FnOk P w K mg base CX0 9 f0 fd0 ["_law_script"] (sp_law K) := by
  refine F.ok sc_law (fun vs H Q E h => ?_) (fun cdv A outer s H vs Q E hr h => ?_)
  · obtain ⟨_, _, rfl, _⟩ := h
    rfl
  · obtain ⟨t, h1, h2⟩ := body_law T f0 cdv A outer s H vs Q E hr h
    exact ⟨t, h1.nox, h2⟩
end
end G
namespace G
open PySem PySem.Spec PyProof.Rows L2
theorem law_facts {P : Program} {w : World} {K : PySem.W.Frag} {h : Heap} {mg : Str → Option Value} {f : Addr} (X : K.In h) (G : h.Ns mainGlobals mg) (hfa : mg ("law" : Str) = some (.ref f)) (c : He.SaysX fas fns tabs [] exB w h K) :
    ∃ fd : FuncData, (∀ (s : Shared) (v : Value), BindsTo s fd ⟨[v], []⟩ [("_law_script", v)]) ∧ ∀ base : Heap, K.In base → base.Ns mainGlobals mg → FnOk P w K mg base CX0 9 f fd ["_law_script"] (sp_law K) := by
  have T := txt_of X G c
  obtain ⟨f0, fd, F, g⟩ := T.d_law.ex
  have e := hfa.symm.trans g
  cases e
  have b := FunD.bindsA (ps := ["_law_script"]) F fun _ _ _ _ _ _ us hl => match us, hl with | [_], _ => rfl
  exact ⟨fd, fun s v => b s [v] rfl, fun base _ _ => fn_law T F⟩
end G
open PySem PySem.W PySem.Calls PyProof.Rows
theorem PySem.Challenge.cw_greedycuts_k82_whole_records_by_whomever_holds : PySem.Challenge.rw_greedycuts_k82_whole_records_by_whomever.Holds := by
  w_on; o_law
  refine HandSHeadRun.head_any (r := OpenLaw.row PySem.Challenge.rw_greedycuts_k82_whole_records_by_whomever) (q := view (OpenLaw.row PySem.Challenge.rw_greedycuts_k82_whole_records_by_whomever).prog [G.lawAt]) (H := G.hk) (ob := G.ob) (M := 4000) (loose := G.loose) (d := HandSHeadRun.topDef (OpenLaw.row PySem.Challenge.rw_greedycuts_k82_whole_records_by_whomever).prog 74) (kwd := []) G.ob_eq
    (by kernel_rfl) (fun s => by kernel_rfl) G.top_run (by kernel_rfl) (by kernel_rfl) (by kernel_rfl) (by rfl) (by first | assumption | decide +kernel) (by decide +kernel) ⟨rfl, rfl, rfl, rfl, rfl, by decide +kernel⟩ ?hw ?hc
  case hw => w_witness2
  case hc =>
    refine L2.walk_ofE (l := PySem.Challenge.rw_greedycuts_k82_whole_records_by_whomever) (n := 63) (k := 9) (x := "_law_script") (CX := L2.CX0) rfl (by decide) (by kernel_rfl) ⟨rfl, by decide, by decide⟩ ?F (fun _ _ _ _ z => z)
    intro w mg fa h Y G0 hmg0
    obtain ⟨K, KX, c⟩ := Y
    have hmg : mg ("law" : PySem.Str) = some (.ref fa) := by
      have e : (HandSHeadRun.topDef (OpenLaw.row PySem.Challenge.rw_greedycuts_k82_whole_records_by_whomever).prog 74).name = ("law" : PySem.Str) := by kernel_rfl
      rw [← e]
      exact hmg0
    obtain ⟨fd, hb, hF⟩ := G.law_facts (P := (PySem.Challenge.rw_greedycuts_k82_whole_records_by_whomever).prog) (w := w) KX G0 hmg c
    exact ⟨K, fd, G.sp_law K, KX, hb, fun H a ns hl _ hS => ⟨a, ns, rfl, hS, fun _ => rfl⟩, hF⟩
