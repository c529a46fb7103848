import PyProof.Rows.All
import Wide.All
import OpenK.AllK
import Wide.FinOn
import KE.SortData
import KE.KDictPairs
import PyProof.ReprRoads
import PyProof.CollectIter
import PyProof.WalksMore
import HandS.ForMost
import HandS.Evl
import HandS.Defaults
import HandS.CallLocal
import HandS.DictComp
import HandS.TupAny
import HandS.Zip
import HandS.IsInst
import HandS.Flow
import HandS.Style
import HandS.Small
import HandS.StrMore
import HandS.More
import KE.GoesEnum
import KE.GoesMore
import KE.GoesZip
import PyProof.EnumFor
import KE.KItemsList
import HandS.Keys
import KE.DataEq
import HandS.SetKeys
import PySem.Challenge.RW_drawerways_k13_whole_renamed
import HandS.Conv
import HandS.Text
import HandS.TryOnly
import PyProof.TupleOfSeq
import HandS.HeadHook1
import HandS.HeadHook2
import HandS.HeadHook3
import HandS.Ends
set_option Elab.async false
set_option linter.all false
set_option maxRecDepth 100000
set_option maxHeartbeats 1000000
/-! Rules that the layer lacks. -/
namespace Dw
open PySem PySem.Spec PyProof.Rows L2

/-! ### w, *r = a tuple -/
theorem walks_shift {prog : Program} {w : World} {A : Around} {I : Addr} {fp wr : List Addr} {n : Nat} {P : Nat → Value → Prop} {St : Nat → Heap → Prop} (W : Walks prog w A I fp wr (n + 1) P St) :
    Walks prog w A I fp wr n (fun i => P (i + 1)) (fun i => St (i + 1)) where
  sub := W.sub
  frame := fun i h h' st k => W.frame (i + 1) h h' st k
  item := fun i s Q E hi st hQ => W.item (i + 1) s Q E (by omega) st hQ
  done := fun s Q E st hQ => W.done s Q E st hQ
  self := fun i s Q E st hQ => W.self (i + 1) s Q E st hQ
theorem itemsOf_tail {v : Value} {vs : List Value} {acc : Array Value} (h : ItemsOf (fun i u => (v :: vs)[i + 1]? = some u) acc vs.length) : acc.toList = vs := by
  obtain ⟨h1, h2⟩ := h
  apply List.ext_getElem?
  intro i
  by_cases hi : i < vs.length
  · have hi' : i < acc.size := by omega
    have q : vs[i]? = some acc[i] := h2 i (acc[i]) (by simp [hi'])
    rw [q]
    simp [hi']
  · rw [List.getElem?_eq_none (by simpa using by omega), List.getElem?_eq_none (by omega)]
section
variable {prog : Program} {w : World} {A : Around} {E : Value → Shared → Prop} {s : Shared}
theorem unpack_star {t : Addr} {v : Value} {vs : List Value} {Q : List Value → Shared → Prop} (hh : A.handled = none) (ht : IsTup s.heap t (v :: vs).toArray) (hz : vs.length ≤ sizeLine)
    (hQ : ∀ (h' : Heap) (tk : Nat), (∀ b o, s.heap.get? b = some o → h'.get? b = some o) → Q [v, .ref h'.objs.size] { s with heap := h'.push { cls := .type "list", data := .seq vs.toArray }, toks := tk }) :
    wpAny (model prog w) A (unpackItems (.ref t) 2 (some 1)) Q E s := by
  have hlt : t ≠ s.heap.objs.size := by obtain ⟨o, ho, _⟩ := ht; exact Nat.ne_of_lt (Heap.lt_size ho)
  unfold unpackItems
  refine wpAny_bind ?_
  unfold notIterableAtAll
  refine wpAny_bind (wpAny_specialOf ht.typeIs slot_tuple_iter.lookup (wpAny_pure ?_))
  simp only [Bool.false_eq_true, if_false]
  refine wpAny_bind (wpAny_holding (iter_tuple ht ?_))
  have k0 : ∀ b o, s.heap.get? b = some o → (s.heap.push { cls := .type "tuple_iterator", data := .fields #[.ref t, .int 0 0] }).get? b = some o := fun b o e => Heap.get?_push_of_some _ e
  refine wpAny_bind (wpAny_holding (draw_tuple hlt 1 0 _ _ ⟨_, Heap.get?_push_size _ rfl, rfl, rfl⟩ (ht.keeps k0) (by simp) fun h1 hit1 hs1 => ?_))
  have kt : IsTup h1 t (v :: vs).toArray := (ht.keeps k0).extBut hs1.extBut hlt
  have k1 : ∀ b o, s.heap.get? b = some o → h1.get? b = some o := fun b o e => (hs1.2 b (Nat.ne_of_lt (Heap.lt_size e))).trans (k0 b o e)
  have he : List.take 1 (List.drop 0 (v :: vs).toArray.toList) = [v] := by simp
  rw [he]
  simp only [List.length_cons, List.length_nil, Nat.zero_add, Nat.lt_irrefl, if_false]
  have hI : s.heap.objs.size < h1.objs.size := by obtain ⟨o, ho, _⟩ := hit1; exact Heap.lt_size ho
  have W := walks_shift (n := vs.length) (by simpa using Walks.tuple (prog := prog) (w := w) (A := A.in1) hh s.heap.objs.size t hlt (v :: vs).toArray)
  refine wpAny_bind (wpAny_holding (wpAny_collect_iter (.inr (.inr (.inr rfl))) W.toS (fun i s' st => ?_) (show _ from ⟨hit1, kt⟩) (fun b hb => ?_) (by simp) (fun s' acc hm ha => ?_) hz))
  · obtain ⟨⟨o, ho, hc, _⟩, _⟩ := st
    exact ⟨o, ho, hc⟩
  · simp only [List.mem_cons, List.not_mem_nil, or_false] at hb
    rcases hb with rfl | rfl
    · exact hI
    · obtain ⟨o, ho, _⟩ := kt; exact Heap.lt_size ho
  · have ea : acc.toList = vs := itemsOf_tail (v := v) (by simpa using ha)
    have e1 : (if acc.toList.length < 2 - 1 - 1 then 0 else 1) = 1 := by simp
    have n0 : ¬ (acc.toList.length < 2 - 1 - 1) := by simp
    rw [if_neg n0]
    show wpAny _ _ (newList (acc.toList.take (acc.toList.length - (2 - 1 - 1))) >>= _) _ _ _
    rw [show acc.toList.length - (2 - 1 - 1) = acc.toList.length from rfl, List.take_length, ea]
    refine wpAny_bind (wpAny_newObj_type ?_ )
    refine wpAny_pure ?_
    have hg := hm.gens
    have hd := hm.drawn
    have ho := hm.os
    have hq := hQ s'.heap s'.toks (fun b o e => hm.heap b o (fun z => by simp at z; exact absurd (Heap.lt_size e) (by rw [z]; exact Nat.lt_irrefl _)) (k1 b o e))
    obtain ⟨h', g', d', tk', os'⟩ := s'
    simp only at hg hd ho
    subst hd ho
    rw [show g' = s.gens from hg]
    simpa [List.drop_eq_nil_of_le] using hq
end

section
variable {X : Cx}
def gStar (K : PySem.W.Frag) (g1 g2 : TG) : TG := fun v σ H Q => ∃ a y ys, v = .ref a ∧ SqT K H a (y :: ys) ∧ ∀ p, H p = none → g1 y σ (upd H p (.lst ys)) fun σ1 H1 => g2 (.ref p) σ1 H1 Q
theorem pg_star {t1 t2 : Expr} {p pos : Pos} {k : Nat} {g1 g2 : TG} (hc : X.calm = true) (h1 : PG X t1 g1) (h2 : PG X t2 g2)
    (hs : assignEach [t1, .Starred t2 p] X.env = [(false, assign t1 X.env), (true, assign t2 X.env)] := by rfl) : PG X (.Tuple [t1, .Starred t2 p] k pos) (gStar X.K g1 g2) := by
  refine ⟨fun pins s σ H v u Q I r hw => ?_⟩
  obtain ⟨a, y, ys, rfl, hq, hw⟩ := hw
  cases r
  obtain ⟨its, rv, ht, hz⟩ := I.tuple hq
  cases rv with
  | cons r1 r2 =>
    rw [List.length_cons] at hz
    rw [assign_Tuple, hs]
    refine wpAny_bind (wpAny_standAt ?_)
    unfold unpack
    refine wpAny_bind (wpAny_holding (unpack_star (I.ok.hd hc) ht (by rw [← r2.length]; omega) fun h' tk hk => ?_))
    have I1 : Inv X pins σ H { s with heap := h', toks := tk } := I.kept hk
    have I2 : Inv X pins σ (upd H h'.objs.size (.lst ys)) { s with heap := h'.push { cls := .type "list", data := .seq _ }, toks := tk } :=
      I1.laid (t' := tk) (fun b o e => Heap.get?_push_of_some _ e) (Nat.le_refl _) (show ObjOk X.prog X.w _ _ _ (.lst ys) from ⟨by omega, _, 0, r2, Heap.get?_push_size _ rfl⟩)
    refine assignInOrder_cons (thn (h1.run pins _ σ _ _ _ _ I2 r1 (hw _ (I1.hok.fresh (Nat.le_refl _)))) fun _ s1 ⟨σ1, H1, I3, q1⟩ => ?_)
    refine assignInOrder_cons (thn (h2.run pins s1 σ1 H1 (.ref h'.objs.size) (.ref h'.objs.size) _ I3 rfl q1) fun _ s2 ⟨σ2, H2, I4, q2⟩ => ?_)
    exact assignInOrder_nil ⟨σ2, H2, I4, q2⟩

/-! ### tuples: the object itself is known (no dict of its own) -/
def PT (K : PySem.W.Frag) (H : Hp) (a : Addr) (xs : List V) : Prop :=
  (∃ o, H a = some (.frz o (.tup xs)) ∧ o.dict = none) ∨
    ∃ (o : Obj) (its : Array Value) (n : Nat), K.lookup a = some o ∧ o.cls = .type "tuple" ∧ o.dict = none ∧ o.data = .seq its n ∧ its.size ≤ sizeLine ∧ Vals xs its.toList
theorem PT.sq {K : PySem.W.Frag} {H : Hp} {a : Addr} {xs : List V} (h : PT K H a xs) : SqT K H a xs := by
  rcases h with ⟨o, h, _⟩ | ⟨o, its, n, h1, h2, _, h3, h4, h5⟩
  · exact .inl (.inr ⟨o, h⟩)
  · exact .inr ⟨o, its, n, h1, h2, h3, h4, h5⟩
/-- a new tuple at p -/
def NewT (H : Hp) (xs : List V) (Q : V → Hp → Prop) : Prop := ∀ p o, H p = none → o.dict = none → Q (.ref p) (upd H p (.frz o (.tup xs)))
theorem new_tup {pins : List (Addr × Obj)} {σ : L2.St} {H : Hp} {s : Shared} {xs : List V} {its : List Value} {h' : Heap} {tk : Nat} {Q : VK} (I : Inv X pins σ H s) (kp : ∀ b o, s.heap.get? b = some o → h'.get? b = some o) (r : Vals xs its) (hz : xs.length ≤ sizeLine)
    (q : NewT H xs Q) : EP X pins σ Q (.ref h'.objs.size) { s with heap := h'.push { cls := .type "tuple", data := .seq its.toArray }, toks := tk } := by
  have I1 : Inv X pins σ H { s with heap := h', toks := tk } := I.kept kp
  have I2 : Inv X pins σ (upd H h'.objs.size (.frz { cls := .type "tuple", data := .seq its.toArray } (.tup xs))) { s with heap := h'.push { cls := .type "tuple", data := .seq its.toArray }, toks := tk } :=
    I1.laid (t' := tk) (fun b o e => Heap.get?_push_of_some _ e) (Nat.le_refl _) ⟨Heap.get?_push_size _ rfl, show ObjOk X.prog X.w _ _ _ (.tup xs) from ⟨hz, its, r, IsTup.new _ _⟩⟩
  exact ⟨.ref h'.objs.size, _, I2, rfl, q _ _ (I1.hok.fresh (Nat.le_refl _)) rfl⟩
def tTupF (t : TA) : TE := fun σ H Q => t σ H fun xs H1 => xs.length ≤ sizeLine ∧ NewT H1 xs Q
theorem pe_tupF {es : List Expr} {t : TA} {x1 : Nat} {pos : Pos} (h : PA X es t) : PE X (.Tuple es x1 pos) (tTupF t) := by
  refine ⟨fun pins s σ H Q I hq => ?_⟩
  refine wpAny_Tuple_spliced (thn (h.run pos pins s σ H _ I hq) fun us s1 ⟨xs, H1, I1, r, z, q⟩ => ⟨by rw [← r.length]; exact z, ?_⟩)
  exact new_tup (tk := s1.toks) I1 (fun _ _ e => e) r z q
/-- tuple(a list) | tuple(a tuple) -/
def rTupF (K : PySem.W.Frag) : List V → Hp → VK → Prop := fun xs H Q => ∃ p ys, xs = [.ref p] ∧ ((SqL K H p ys ∧ NewT H ys Q) ∨ (SqT K H p ys ∧ Q (.ref p) H))
theorem call_tupF : CallR X (.type "tuple") (rTupF X.K) := by
  intro pins s σ H xs us Q I r h
  obtain ⟨p, ys, rfl, h⟩ := h
  obtain ⟨u, rfl, rx⟩ := vals1 r
  cases rx
  rcases h with ⟨hq, q⟩ | ⟨hq, q⟩
  · obtain ⟨its, r', pl, hz⟩ := I.list hq
    have hlen := r'.length
    exact call_tuple_list pl.isList (fun h' kp => new_tup (tk := s.toks) I kp r' hz q) (by simp only [List.size_toArray] <;> omega)
  · obtain ⟨its, r', pl, hz⟩ := I.tuple hq
    exact call_tuple_same pl ⟨.ref p, H, I, rfl, q⟩
/-- t + u -/
def rCatF (K : PySem.W.Frag) : R2 := fun x y H Q => ∃ a b xs ys, x = .ref a ∧ y = .ref b ∧ SqT K H a xs ∧ SqT K H b ys ∧ xs.length + ys.length ≤ sizeLine ∧
  (xs = [] → Q (.ref b) H) ∧ (xs ≠ [] → ys = [] → Q (.ref a) H) ∧ (xs ≠ [] → ys ≠ [] → NewT H (xs ++ ys) Q)
theorem op_catF : OpR X (binaryOp .Add) (rCatF X.K) := by
  intro pins s σ H x y v u Q I rx ry h
  obtain ⟨a, b, xs, ys, rfl, rfl, ha, hb, hz, q0, q1, q2⟩ := h
  cases rx
  cases ry
  obtain ⟨its, r1, p1, _⟩ := I.tuple ha
  obtain ⟨its2, r2, p2, _⟩ := I.tuple hb
  by_cases hx : xs = []
  · subst hx
    cases r1
    exact cat_tup0 p1 p2 ⟨.ref b, H, I, rfl, q0 rfl⟩
  · refine HT.cat_tup p1 p2 (fun z => hx (r1.nil_iff.mp z)) (fun z => ⟨.ref a, H, I, rfl, q1 hx (r2.nil_iff.mp z)⟩) (fun z => ?_) (by rw [← r1.length, ← r2.length]; exact hz)
    exact new_tup (tk := s.toks) I (fun _ _ e => e) (r1.append r2) (by rw [List.length_append]; exact hz) (q2 hx fun w => z (r2.nil_iff.mpr w))
/-- t[lo:hi] -/
def rSlF (K : PySem.W.Frag) : V → Option Int → Option Int → Hp → VK → Prop := fun x lo hi H Q => ∃ a xs, x = .ref a ∧ SqT K H a xs ∧
  (HT.sIx xs.length 0 lo = 0 ∧ HT.sIx xs.length xs.length hi = xs.length → Q (.ref a) H) ∧ (¬ (HT.sIx xs.length 0 lo = 0 ∧ HT.sIx xs.length xs.length hi = xs.length) → NewT H (cutV xs lo hi) Q)
theorem sl_tupF : SlR X (rSlF X.K) := by
  intro pins s σ H x v vl vu lo hi sl Q I rx hs pl pu h
  obtain ⟨a, xs, rfl, hx, q1, q2⟩ := h
  cases rx
  obtain ⟨its, r, ht, hz⟩ := I.tuple hx
  have hlen : its.toArray.size = xs.length := by rw [List.size_toArray]; exact r.length.symm
  refine ⟨"tuple", _, PyProof.Rows.slot_tuple_getitem.lookup, ht.typeIs, ?_⟩
  by_cases hw : HT.sIx xs.length 0 lo = 0 ∧ HT.sIx xs.length xs.length hi = xs.length
  · exact getItem_tuple_whole ht hs pl pu (by rw [hlen]; exact hw) ⟨.ref a, H, I, rfl, q1 hw⟩
  · refine HT.getItem_tuple_cut ht hs pl pu (by rw [hlen]; exact hw) ?_ (by rw [hlen]; exact hz)
    rw [hlen]
    exact new_tup (tk := s.toks) I (fun _ _ e => e) ((r.drop (HT.sIx xs.length 0 lo)).take (HT.sIx xs.length xs.length hi - HT.sIx xs.length 0 lo)) (Nat.le_trans (cutV_length xs lo hi) hz) (q2 hw)
end
end Dw
set_option Elab.async false
set_option linter.all false
set_option maxRecDepth 100000
set_option maxHeartbeats 1000000
namespace Dw
open PySem PySem.Spec PyProof.Rows L2
section
variable {X : Cx}
/-! ### repr of data -/
def rRepr (K : PySem.W.Frag) : List V → Hp → VK → Prop := fun xs H Q => ∃ a d, xs = [.ref a] ∧ Dp K H (.ref a) d ∧ d.showable = true ∧ d.hasDict = false ∧ d.shown.length ≤ sizeLine ∧ d.depth ≤ 70 ∧ Q (.str d.shown) H
theorem call_reprD (hgd : X.A.guards = some []) (hu : X.A.units + 80 < cLine) : CallR X (.builtin "repr") (rRepr X.K) := by
  intro pins s σ H xs us Q I r h
  obtain ⟨a, d, rfl, hd, hs, hn, hz, hdp, q⟩ := h
  obtain ⟨u, rfl, rx⟩ := vals1 r
  cases rx
  obtain ⟨as, hr⟩ := Dp.reads I d _ _ hd rfl
  refine repr_of_reads' hr hs (fun z => by rw [hn] at z; cases z) hgd (by omega) (fun _ _ e => e) (fun h' u tk hk => ?_) hz
  exact ⟨.str d.shown, H, I.kept hk, ⟨u, rfl⟩, q⟩

/-! ### dict(tuple of pairs) -/
def rDictF (K : PySem.W.Frag) : List V → Hp → VK → Prop := fun xs H Q => ∃ (a : Addr) (ps : List Addr) (kvs : List (Key × V)), xs = [.ref a] ∧ (PT K H a (ps.map V.ref) ∨ SqL K H a (ps.map V.ref)) ∧ Paired (fun p kv => SqT K H p [kV kv.1, kv.2]) ps kvs ∧
    ∀ p, H p = none → Q (.ref p) (upd H p (.dK (mergeK [] kvs)))
theorem call_dictF (hcalm : X.calm = true) : CallR X (.type "dict") (rDictF X.K) := by
  intro pins s σ H xs us Q I r q
  obtain ⟨a, ps, kvs, ex, hq, hp, q⟩ := q
  rcases hq with hq | hq
  · subst ex
    obtain ⟨u, eu, rx⟩ := vals1 r
    subst eu
    cases rx
    obtain ⟨its, rv, pl, hz⟩ := I.tuple hq.sq
    have ei := refs_at rv
    subst ei
    rw [List.length_map] at hz
    obtain ⟨prs, rel, hl, hpr⟩ := pairs_of I hp
    have plain : PySem.PlainSeq "tuple" s.heap a (ps.map Value.ref).toArray := by
      obtain ⟨o0, ho0, hc0, n0, hd0⟩ := pl
      refine ⟨o0, n0, ho0, hc0, ?_, hd0⟩
      rcases hq with ⟨o, h1, h2⟩ | ⟨o, its, n, h1, h2, h3, h4, h5⟩
      · have h3 := (I.hok a _ h1).1
        rw [ho0] at h3
        rw [Option.some.inj h3]; exact h2
      · have h6 := I.kIn a o h1
        rw [ho0] at h6
        rw [Option.some.inj h6]; exact h3
    have hlp : prs.length = ps.length := hl
    have hex : ∀ j : Nat, ∃ u : Value, ∀ q, prs[j]? = some q → ∃ b, ps[j]? = some b ∧ IsTup s.heap b #[u, q.2] ∧ keyIs q.1 u = true := fun j => by
      cases e : prs[j]? with
      | none => exact ⟨.none, fun q z => by cases z⟩
      | some q =>
        obtain ⟨b, u, e1, e2, e3⟩ := hpr j q e
        exact ⟨u, fun q' z => by cases z; exact ⟨b, e1, e2, e3⟩⟩
    obtain ⟨f, hf⟩ := Classical.axiomOfChoice hex
    have look : ∀ (j : Nat) (k v : Value), ((List.range prs.length).map fun j => (f j, ((prs[j]?).map (·.2)).getD .none))[j]? = some (k, v) → ∃ q, prs[j]? = some q ∧ k = f j ∧ v = q.2 := fun j k v e => by
      rw [List.getElem?_map] at e
      cases e1 : (List.range prs.length)[j]? with
      | none => rw [e1] at e; cases e
      | some i =>
        obtain ⟨h1, h2⟩ := List.getElem?_eq_some_iff.mp e1
        rw [List.getElem_range] at h2
        subst h2
        rw [e1] at e
        have hj : j < prs.length := by simpa using h1
        refine ⟨prs[j], List.getElem?_eq_getElem hj, ?_⟩
        have e2 : (f j, ((prs[j]?).map (·.2)).getD .none) = (k, v) := Option.some.inj e
        rw [List.getElem?_eq_getElem hj] at e2
        exact ⟨(congrArg Prod.fst e2).symm, (congrArg Prod.snd e2).symm⟩
    refine PySem.call_dict_pairs (knd := mixKind X.prog X.w) (kvs := prs)
      (PairArg.tuple (prog := X.prog) (w := X.w) a (ps.map Value.ref).toArray (fun j => ps.getD j 0) ((List.range prs.length).map fun j => (f j, ((prs[j]?).map (·.2)).getD .none)))
      (I.ok.hd hcalm) ⟨plain, by simp [hl], fun j k v e => ?_⟩ ⟨by simp, fun i key v e => ?_⟩ (by simp [hl]; exact hz) fun h' tk hd' k => ?_
    · obtain ⟨q, e1, rfl, rfl⟩ := look j k v e
      obtain ⟨b, e2, e3, _⟩ := hf j q e1
      refine ⟨by simp [e2], .inl ?_⟩
      have e4 : ps.getD j 0 = b := by simp [e2]
      show s.heap.IsTuple (ps.getD j 0) _
      rw [e4]
      exact e3
    · obtain ⟨q, e1, rfl, rfl⟩ := look i key v e
      obtain ⟨b, e2, _, e3⟩ := hf i q e1
      exact ⟨q.1, e1, e3⟩
    · have hm : (s.heap.objs.size == sysModules) = false := beq_eq_false_iff_ne.mpr (Nat.ne_of_gt I.big)
      have hlen : (mergeK [] kvs).length ≤ sizeLine := by
        refine Nat.le_trans (length_mergeK kvs []) ?_
        rw [List.length_nil, Nat.zero_add, rel.length, hl]
        exact hz
      exact ⟨.ref s.heap.objs.size, upd H s.heap.objs.size (.dK (mergeK [] kvs)), I.laid (t' := tk) (fun b o e => k b o (by simp) e) (Nat.le_refl _) (show ObjOk X.prog X.w _ _ _ (.dK (mergeK [] kvs)) from ⟨hlen, hm, merged [] prs, KV.merge rel .nil, hd'⟩), rfl, q _ (I.hok.fresh (Nat.le_refl _))⟩
  · exact call_dictP hcalm pins s σ H xs us Q I r ⟨a, ps, kvs, ex, hq, hp, q⟩
end
end Dw
set_option Elab.async false
set_option linter.all false
set_option maxRecDepth 100000
set_option maxHeartbeats 1000000
namespace PySem
open Sem (wp)
theorem dw_meets_enum {v : Value} {o : Obj} {H1 : Heap → Prop} (B : Begins v o H1) :
    Meets (Builtin.«enumerate.__new__» ⟨[.type "enumerate", v], []⟩) (fun _ R s => H1 s.heap ∧ R (.ok (.ret (.ref (s.heap.push o).objs.size)))
        { s with heap := (s.heap.push o).push { cls := .type "enumerate", data := .fields #[.none, .bool false, .ref s.heap.objs.size, rawInt 0, .none, .none] } }) :=
  .of_wp fun prog w A R s h => by
    obtain ⟨hp, g, d, tk, os⟩ := s; obtain ⟨h1, h⟩ := h
    have hsub := sub_enumerate
    have q1 : ∀ {A' : Around} {E : Value → Shared → Prop} {Q : Value → Shared → Prop}, Q (.ref hp.objs.size) ⟨(hp.push o), g, d, tk, os⟩ → wpAny (model prog w) A' (pyIter v) Q E ⟨hp, g, d, tk, os⟩ :=
      fun q => B.iter prog w _ _ ⟨hp, g, d, tk, os⟩ _ (B.keeps _ _ h1 fun b o' e => e) q
    wp_walk
    refine wpAny_stack_any fun st => wpAny_pure ?_
    split
    · rename_i c _ _ _ _ _
      cases (c == Value.type "enumerate")
      · wp_walk using q1
        exact ⟨_, rfl, h⟩
      · wp_walk using q1
        exact ⟨_, rfl, h⟩
    · wp_walk using q1
      exact ⟨_, rfl, h⟩
theorem dw_call_enum {prog : Program} {w : World} {A : Around} {E : Value → Shared → Prop} {s : Shared} {v : Value} {o : Obj} {H1 : Heap → Prop} {Q : Value → Shared → Prop} (B : Begins v o H1) (h1 : H1 s.heap)
    (h : ∀ h', IsEnum h' (s.heap.objs.size + 1) s.heap.objs.size 0 .none → h'.get? s.heap.objs.size = some o → h'.objs.size = s.heap.objs.size + 2 →
      (∀ b o, s.heap.get? b = some o → h'.get? b = some o) → Q (.ref (s.heap.objs.size + 1)) { s with heap := h' }) :
    wpAny (model prog w) A (call (.type "enumerate") [v]) Q E s := by
  refine callType_new F.called_enumerate (by decide) (F.typeCall_enumerate_1 _) (F.newCall_enumerate_1 _) (fun obj => F.args_object_init_2 obj _) F.entry_enumerate_new
    (dw_meets_enum B) ⟨h1, ?_⟩
  have hz : (s.heap.push o).objs.size = s.heap.objs.size + 1 := Heap.size_push ..
  show _ ∧ _
  rw [hz]
  have he : IsEnum ((s.heap.push o).push { cls := .type "enumerate", data := .fields #[.none, .bool false, .ref s.heap.objs.size, rawInt 0, .none, .none] }) (s.heap.objs.size + 1) s.heap.objs.size 0 .none := by
    have := Heap.get?_push_size (s.heap.push o) (o := { cls := .type "enumerate", data := .fields #[.none, .bool false, .ref s.heap.objs.size, rawInt 0, .none, .none] }) rfl
    rw [hz] at this; exact this
  exact ⟨⟨_, he, rfl⟩, h _ he (Heap.get?_push_of_some _ (Heap.get?_push_size _ B.free)) (by rw [Heap.size_push, hz]) fun b o x => Heap.get?_push_of_some _ (Heap.get?_push_of_some _ x)⟩
end PySem
namespace Dw
open PySem PySem.Spec PyProof.Rows L2
/-! ### enumerate(tuple) -/
def IteT (K : PySem.W.Frag) (a : Addr) : It :=
  ⟨fun i H => ∃ (xs : List V) (x : V), SqT K H a xs ∧ xs[i]? = some x, fun i H v H' => ∃ T x, v = .ref T ∧ H T = none ∧ H' = upd H T (.tup [.int (i : Nat), x]) ∧ ∀ xs, SqT K H a xs → xs[i]? = some x, fun i H => ∃ xs : List V, SqT K H a xs ∧ xs.length = i⟩
theorem turn_enumT {P : Program} {w : World} {K : PySem.W.Frag} {elts : List Expr} {kk : Nat} {tpos : Pos} (a e it : Addr) :
    Turn P w K (.Tuple elts kk tpos) (IteT K a) [e, it] e (fun i h => (∃ old, IsEnum h e it ((i : Nat) : Int) old) ∧ h.IsTupleIter it a i ∧ e ≠ it ∧ a ≠ it ∧ a ≠ e) where
  mem := by simp
  obj := fun i h st b hb => by
    obtain ⟨⟨old, he⟩, ⟨o, ho, hc, hd⟩, _⟩ := st
    have e' : b = e ∨ b = it := by simpa using hb
    rcases e' with z | z
    · rw [z]; exact ⟨_, he, fun v q => nomatch q⟩
    · rw [z]; exact ⟨o, ho, fun v q => by rw [hd] at q; cases q⟩
  keep := fun i h h' st k => let ⟨⟨old, he⟩, hi, hne⟩ := st; ⟨⟨old, k e (by simp) _ he⟩, hi.at fun o q => k it (by simp) o q, hne⟩
  item := by
    intro X hP hw hK hc i pins s σ H E I hf st hg
    subst hP hw hK
    obtain ⟨⟨old, he⟩, hit, hne, hai, hae⟩ := st
    obtain ⟨xs, x, hq, hx⟩ := hg
    obtain ⟨its, rv, p, hz⟩ := I.tuple hq
    obtain ⟨u, hu, ru⟩ := rv.get hx
    have hel : e < s.heap.objs.size := Heap.lt_size he
    have hil : it < s.heap.objs.size := by obtain ⟨_, q, _⟩ := hit; exact Heap.lt_size q
    have hlt : i < its.toArray.size := by
      have h1 := (List.getElem?_eq_some_iff.mp hu).1
      simpa using h1
    refine wpAny_pyNext_enum_itemD (Draws.tuple (A := X.A.in1) (I.ok.hd hc) it a hai its.toArray) he ⟨hit, p⟩ hlt hne (by simp [hne, Ne.symm hae]) fun y h' tk hy ho st' hT hsz hk => ?_
    have ey : y = u := by
      have h1 : its.toArray[i]? = some y := hy
      have h2 : its.toArray[i]? = some u := by simpa using hu
      rw [h2] at h1
      exact (Option.some.inj h1).symm
    subst ey
    refine ⟨_, rfl, wpAny_letOwnedTupleGo_enum (s := { s with heap := h', toks := tk + 1 }) ho fun h'' he' sb => ?_⟩
    have hT2 : h''.get? s.heap.objs.size = some { cls := .type "tuple", data := .seq #[.int i tk, y] } := (sb.2 _ (Nat.ne_of_gt hel)).trans hT
    have new : ObjOk X.prog X.w (upd H s.heap.objs.size (.tup [.int (i : Nat), x])) h'' s.heap.objs.size (.tup [.int (i : Nat), x]) :=
      ⟨by show 2 ≤ sizeLine; decide, [.int i tk, y], .cons ⟨_, rfl⟩ (.cons ru .nil), ⟨_, hT2, rfl, _, rfl⟩⟩
    have I1 : Inv X pins σ (upd H s.heap.objs.size (.tup [.int (i : Nat), x])) { s with heap := h'', toks := tk + 1 } :=
      I.turnedNew (ch := [e, it]) (fun b ob hb q => (sb.2 b (fun z => hb (by simp [z]))).trans (hk b ob (fun z => hb (by simp [z])) (fun z => hb (by simp [z])) q)) hf (Nat.le_refl _) new
    refine ⟨.ref s.heap.objs.size, _, I1, rfl, ⟨_, x, rfl, I.hok.fresh (Nat.le_refl _), rfl, fun ys hy' => by rw [I.tuple_inj hy' hq]; exact hx⟩, ⟨⟨y, ?_⟩, st'.1.at fun o q => (sb.2 it (Ne.symm hne)).trans q, hne, hai, hae⟩, fun b hb => ?_⟩
    · have e1 : ((i + 1 : Nat) : Int) = (i : Int) + 1 := by omega
      rw [e1]; exact he'
    · have hb' : b < s.heap.objs.size := by
        have e' : b = e ∨ b = it := by simpa using hb
        rcases e' with z | z
        · rw [z]; exact hel
        · rw [z]; exact hil
      rw [upd_ne (Nat.ne_of_lt hb')]
      exact (hf b hb).1
  done := by
    intro X hP hw hK hc i pins s σ H E I hf st hg
    subst hP hw hK
    obtain ⟨⟨old, he⟩, hit, hne, hai, hae⟩ := st
    obtain ⟨xs, hq, hx⟩ := hg
    obtain ⟨its, rv, p, hz⟩ := I.tuple hq
    obtain ⟨f0, f1, f2, f3, f4, f5⟩ := hf it (by simp)
    have hl : its.toArray.size = i := by rw [List.size_toArray, ← rv.length]; exact hx
    exact wpAny_pyNext_enum_endD (Draws.tuple (A := X.A.in1) (I.ok.hd hc) it a hai its.toArray) he (by rw [hl]; exact ⟨hit, p⟩) fun h' eb => ⟨rfl, I.turned (t' := s.toks) (fun b o hb q => eb b o hb q) f0 f1 f3 f4 f5⟩
  self := fun A i s Q E st h => let ⟨⟨_, he⟩, _⟩ := st; wpAny_pyIter_enum he h
def iEnumT (K : PySem.W.Frag) (ta : TA) : TI := fun σ H R => ta σ H fun vs H1 => ∃ a xs, vs = [.ref a] ∧ SqT K H1 a xs ∧ R (IteT K a) H1
theorem pi_enumT {X : Cx} {e : Expr} {ta : TA} {p pos tpos : Pos} {elts : List Expr} {kk : Nat} (hg : Gl X "enumerate") (hm : X.mg "enumerate" = none) (ha : PA X [e] ta) (hs : starEach [e] X.env = [(false, eval e X.env)] := by rfl) :
    PI X (.Tuple elts kk tpos) (.Call (.Name "enumerate" p) [e] [] pos) (iEnumT X.K ta) := by
  refine ⟨fun pins s σ H R I h => ?_⟩
  refine Call_ (ld_blt I hg hm boot_enumerate (PyProof.Rows.callWith_type1 (thn (ha.run pos pins s σ H _ I h) fun us s1 ⟨vs, H1, I1, r1, q1⟩ => ?_) hs rfl))
  obtain ⟨a, xs, ex, hq, q⟩ := q1
  subst ex
  cases r1 with
  | cons r rr =>
    cases rr
    cases r
    obtain ⟨its, rv, p', hz⟩ := I1.tuple hq
    have hal : a < s1.heap.objs.size := p'.lt
    refine dw_call_enum (begins_tuple a its.toArray) p' fun h' he hit hsz hk => wpAny_pyIter_enum he ?_
    have I2 : Inv X pins σ H1 { s1 with heap := h' } := I1.kept (t' := s1.toks) hk
    refine ⟨s1.heap.objs.size + 1, [s1.heap.objs.size + 1, s1.heap.objs.size], _, _, H1, rfl, I2, turn_enumT a (s1.heap.objs.size + 1) s1.heap.objs.size, ⟨⟨.none, he⟩, ⟨_, hit, rfl, rfl⟩, Nat.succ_ne_self _, Nat.ne_of_lt hal, Nat.ne_of_lt (Nat.lt_succ_of_lt hal)⟩, fun b hb => ?_, q⟩
    have e' : b = s1.heap.objs.size + 1 ∨ b = s1.heap.objs.size := by simpa using hb
    have hle : s1.heap.objs.size ≤ b := by
      rcases e' with z | z
      · rw [z]; exact Nat.le_add_right _ _
      · rw [z]; exact Nat.le_refl _
    exact I1.fpOk hle (I1.hok.fresh hle)
/-! ### zip(list, tuple) -/
def ItzM (K : PySem.W.Frag) (a b : Addr) : It :=
  ⟨fun i H => ∃ (xs ys : List V) (x y : V), SqL K H a xs ∧ SqT K H b ys ∧ xs[i]? = some x ∧ ys[i]? = some y,
    fun i H v H' => ∃ T x y, v = .ref T ∧ H T = none ∧ H' = upd H T (.tup [x, y]) ∧ (∀ xs, SqL K H a xs → xs[i]? = some x) ∧ ∀ ys, SqT K H b ys → ys[i]? = some y,
    fun i H => ∃ xs ys : List V, SqL K H a xs ∧ SqT K H b ys ∧ xs.length = i ∧ ys.length = i⟩
theorem turn_zipM {P : Program} {w : World} {K : PySem.W.Frag} {elts : List Expr} {kk : Nat} {tpos : Pos} {a b z TI TO i1 i2 : Addr} (S : ZipSep2 z TI TO i1 i2 [i1, a] [i2, b]) (hai : a ≠ i1) (hbi : b ≠ i2) :
    Turn P w K (.Tuple elts kk tpos) (ItzM K a b) [z, TI, TO, i1, i2] z (fun i h => IsZip h z TI TO .none ∧ IsPair h TI (.ref i1) (.ref i2) ∧ (∃ x y, IsPair h TO x y) ∧ h.IsListIter i1 a i ∧ h.IsTupleIter i2 b i) where
  mem := by simp
  obj := fun i h st c hc => by
    obtain ⟨hz, hTI, ⟨x, y, hTO⟩, ⟨o1, e1, _, d1⟩, ⟨o2, e2, _, d2⟩⟩ := st
    have e' : c = z ∨ c = TI ∨ c = TO ∨ c = i1 ∨ c = i2 := by simpa using hc
    rcases e' with q | q | q | q | q
    · rw [q]; exact ⟨_, hz, fun v q => nomatch q⟩
    · rw [q]; exact ⟨_, hTI, fun v q => nomatch q⟩
    · rw [q]; exact ⟨_, hTO, fun v q => nomatch q⟩
    · rw [q]; exact ⟨o1, e1, fun v q => by rw [d1] at q; cases q⟩
    · rw [q]; exact ⟨o2, e2, fun v q => by rw [d2] at q; cases q⟩
  keep := fun i h h' st k => by
    obtain ⟨hz, hTI, ⟨x, y, hTO⟩, h1, h2⟩ := st
    exact ⟨k z (by simp) _ hz, k TI (by simp) _ hTI, ⟨x, y, k TO (by simp) _ hTO⟩, h1.at fun o q => k i1 (by simp) o q, h2.at fun o q => k i2 (by simp) o q⟩
  item := by
    intro X hP hw hK hc i pins s σ H E I hf st hg
    subst hP hw hK
    obtain ⟨hz, hTI, ⟨x0, y0, hTO⟩, h1, h2⟩ := st
    obtain ⟨xs, ys, x, y, hqx, hqy, hx, hy⟩ := hg
    obtain ⟨its, rv, p, _⟩ := I.list hqx
    obtain ⟨its2, rv2, p2, _⟩ := I.tuple hqy
    obtain ⟨u, hu, ru⟩ := rv.get hx
    obtain ⟨u2, hu2, ru2⟩ := rv2.get hy
    have hzl : z < s.heap.objs.size := Heap.lt_size hz
    have l1 : i < its.toArray.size := by
      have h1 := (List.getElem?_eq_some_iff.mp hu).1
      simpa using h1
    have l2 : i < its2.toArray.size := by
      have h1 := (List.getElem?_eq_some_iff.mp hu2).1
      simpa using h1
    refine wpAny_pyNext_zipD2_item S (Draws.list (A := X.A.in1) (I.ok.hd hc) i1 a hai its.toArray) (Draws.tuple (A := X.A.in1) (I.ok.hd hc) i2 b hbi its2.toArray) hz hTI hTO ⟨h1, p.isList⟩ ⟨h2, p2⟩ l1 l2 fun x1 x2 h' tk y1 y2 z' TO' h1' h2' hT hsz hk => ?_
    have e1 : x1 = u := by
      have q1 : its.toArray[i]? = some x1 := y1
      have q2 : its.toArray[i]? = some u := by simpa using hu
      rw [q2] at q1
      exact (Option.some.inj q1).symm
    have e2 : x2 = u2 := by
      have q1 : its2.toArray[i]? = some x2 := y2
      have q2 : its2.toArray[i]? = some u2 := by simpa using hu2
      rw [q2] at q1
      exact (Option.some.inj q1).symm
    subst e1 e2
    refine ⟨_, rfl, wpAny_letOwnedTupleGo_zip (s := { s with heap := h', toks := tk }) z' fun h'' z'' sb => ?_⟩
    have hT2 : h''.get? s.heap.objs.size = some { cls := .type "tuple", data := .seq #[x1, x2] } := (sb.2 _ (Nat.ne_of_gt hzl)).trans hT
    have new : ObjOk X.prog X.w (upd H s.heap.objs.size (.tup [x, y])) h'' s.heap.objs.size (.tup [x, y]) :=
      ⟨by show 2 ≤ sizeLine; decide, [x1, x2], .cons ru (.cons ru2 .nil), ⟨_, hT2, rfl, _, rfl⟩⟩
    have I1 : Inv X pins σ (upd H s.heap.objs.size (.tup [x, y])) { s with heap := h'', toks := tk } :=
      I.turnedNew (t' := tk) (ch := [z, TI, TO, i1, i2]) (fun c o hb q => (sb.2 c (fun q' => hb (by simp [q']))).trans (hk c o (fun q' => hb (by simp [q'])) (fun q' => hb (by simp [q'])) (fun q' => hb (by simp [q'])) (fun q' => hb (by simp [q'])) q)) hf (Nat.le_refl _) new
    have i1z : i1 ≠ z := fun q => S.zf1 (by simp [q])
    have i2z : i2 ≠ z := fun q => S.zf2 (by simp [q])
    refine ⟨.ref s.heap.objs.size, _, I1, rfl, ⟨_, x, y, rfl, I.hok.fresh (Nat.le_refl _), rfl, fun l hl => by rw [I.list_inj hl hqx]; exact hx, fun l hl => by rw [I.tuple_inj hl hqy]; exact hy⟩, ⟨z'', ?_, ⟨x1, x2, ?_⟩, ?_, ?_⟩, fun c hcm => ?_⟩
    · exact (sb.2 _ S.TIz).trans (hk _ _ S.TIz S.TITO S.TIi1 S.TIi2 hTI)
    · exact (sb.2 _ S.TOz).trans TO'
    · exact h1'.1.at fun o q => (sb.2 _ i1z).trans q
    · exact h2'.1.at fun o q => (sb.2 _ i2z).trans q
    · have hlt : c < s.heap.objs.size := by
        have e' : c = z ∨ c = TI ∨ c = TO ∨ c = i1 ∨ c = i2 := by simpa using hcm
        rcases e' with q | q | q | q | q
        · rw [q]; exact hzl
        · rw [q]; exact Heap.lt_size hTI
        · rw [q]; exact Heap.lt_size hTO
        · rw [q]; obtain ⟨_, e1, _⟩ := h1; exact Heap.lt_size e1
        · rw [q]; obtain ⟨_, e2, _⟩ := h2; exact Heap.lt_size e2
      rw [upd_ne (Nat.ne_of_lt hlt)]
      exact (hf c hcm).1
  done := by
    intro X hP hw hK hc i pins s σ H E I hf st hg
    subst hP hw hK
    obtain ⟨hz, hTI, ⟨x0, y0, hTO⟩, h1, h2⟩ := st
    obtain ⟨xs, ys, hqx, hqy, hend, hend2⟩ := hg
    obtain ⟨its, rv, p, _⟩ := I.list hqx
    obtain ⟨its2, rv2, p2, _⟩ := I.tuple hqy
    have l1 : its.toArray.size = i := by rw [List.size_toArray, ← rv.length]; exact hend
    have l2 : its2.toArray.size = i := by rw [List.size_toArray, ← rv2.length]; exact hend2
    exact wpAny_pyNext_zipD2_end S (Draws.list (A := X.A.in1) (I.ok.hd hc) i1 a hai its.toArray) (Draws.tuple (A := X.A.in1) (I.ok.hd hc) i2 b hbi its2.toArray) hz hTI hTO ⟨h1, p.isList⟩ ⟨h2, p2⟩ (Nat.le_of_eq l1.symm) (Nat.le_of_eq l2.symm) (.inl l1.symm)
      fun h' tk hk => ⟨rfl, I.turnedL (t' := tk) (ch := [z, TI, TO, i1, i2]) (fun c o hb q =>
      hk c o (fun q' => hb (by simp [q'])) (fun q' => hb (by simp [q'])) (fun q' => hb (by simp [q'])) (fun q' => hb (by simp [q'])) q) hf⟩
  self := fun A i s Q E st h => wpAny_pyIter_zip st.1 h
def iZipM (K : PySem.W.Frag) (ta : TA) : TI := fun σ H R => ta σ H fun vs H1 => ∃ a b xs ys, vs = [.ref a, .ref b] ∧ SqL K H1 a xs ∧ SqT K H1 b ys ∧ R (ItzM K a b) H1
theorem apart5 (n a b : Nat) (ha : a < n) (hb : b < n) : ZipSep2 (n + 4) (n + 2) (n + 3) n (n + 1) [n, a] [n + 1, b] := by
  constructor <;> first | (simp; done) | (rw [List.mem_cons, List.mem_singleton]; rintro (h | h) <;> (have h2 : @Eq Nat _ _ := h; omega)) | (intro h; have h2 : @Eq Nat _ _ := h; omega)
theorem pi_zipM {X : Cx} {e e2 : Expr} {ta : TA} {p pos tpos : Pos} {elts : List Expr} {kk : Nat} (hg : Gl X "zip") (hm : X.mg "zip" = none) (ha : PA X [e, e2] ta)
    (hs : starEach [e, e2] X.env = (false, eval e X.env) :: starEach [e2] X.env := by rfl) (hpl : (backTo pos (starEach [e2] X.env)).any (·.1) = false := by rfl) :
    PI X (.Tuple elts kk tpos) (.Call (.Name "zip" p) [e, e2] [] pos) (iZipM X.K ta) := by
  refine ⟨fun pins s σ H R I h => ?_⟩
  refine Call_ (ld_blt I hg hm PyProof.Rows.boot_zip (PyProof.Rows.callWith_type1 (thn (ha.run pos pins s σ H _ I h) fun us s1 ⟨vs, H1, I1, r1, q1⟩ => ?_) hs hpl))
  obtain ⟨a, b, xs, ys, ex, hqx, hqy, q⟩ := q1
  subst ex
  cases r1 with
  | cons r rr =>
    cases rr with
    | cons r' rr =>
      cases rr
      cases r
      cases r'
      obtain ⟨its, rv, p1, _⟩ := I1.list hqx
      obtain ⟨its2, rv2, p2, _⟩ := I1.tuple hqy
      have la : a < s1.heap.objs.size := p1.lt
      have lb : b < s1.heap.objs.size := p2.lt
      refine zip_begins2 (begins_list a its.toArray) (begins_tuple b its2.toArray) p1.isList p2 fun h' hz hTI hTO h1 h2 hsz hk => wpAny_pyIter_zip hz ?_
      have I2 : Inv X pins σ H1 { s1 with heap := h' } := I1.kept (t' := s1.toks) hk
      refine ⟨s1.heap.objs.size + 4, [s1.heap.objs.size + 4, s1.heap.objs.size + 2, s1.heap.objs.size + 3, s1.heap.objs.size, s1.heap.objs.size + 1], _, _, H1, rfl, I2, turn_zipM (apart5 s1.heap.objs.size a b la lb) (Nat.ne_of_lt la) (Nat.ne_of_lt (Nat.lt_succ_of_lt lb)), ⟨hz, hTI, ⟨_, _, hTO⟩, ⟨_, h1, rfl, rfl⟩, ⟨_, h2, rfl, rfl⟩⟩, fun c hcm => ?_, q⟩
      have e' : c = s1.heap.objs.size + 4 ∨ c = s1.heap.objs.size + 2 ∨ c = s1.heap.objs.size + 3 ∨ c = s1.heap.objs.size ∨ c = s1.heap.objs.size + 1 := by simpa using hcm
      have hle : s1.heap.objs.size ≤ c := by
        rcases e' with z | z | z | z | z
        · rw [z]; exact Nat.le_add_right _ _
        · rw [z]; exact Nat.le_add_right _ _
        · rw [z]; exact Nat.le_add_right _ _
        · rw [z]; exact Nat.le_refl _
        · rw [z]; exact Nat.le_add_right _ _
      exact I1.fpOk hle (I1.hok.fresh hle)
end Dw
set_option Elab.async false
set_option linter.all false
set_option maxRecDepth 100000
/-! Trees, ways, deeds and what they tell, in plain Lean. -/
namespace Dw
open PySem PySem.W
abbrev Ent := List (Str × Int)
abbrev Row := Int × Str × Ent
abbrev Tree := List Row × Int
def sD : Str := "drawer"
def sS : Str := "sheet"
def encE (p : Str × Int) : PyData := .tuple [.str p.1, .int p.2]
def eEnt (e : Ent) : PyData := .tuple (e.map encE)
def eRow (r : Row) : PyData := .tuple [.int r.1, .str r.2.1, eEnt r.2.2]
def eRows (rows : List Row) : PyData := .tuple (rows.map eRow)
def eTree (t : Tree) : PyData := .tuple [eRows t.1, .int t.2]
def eWay (w : List Str) : PyData := .tuple (w.map .str)
def rowOf (t : Tree) (n : Int) : Option Row := t.1.find? fun r => decide (r.1 = n)
def kindOf (t : Tree) (n : Int) : Str := ((rowOf t n).map (·.2.1)).getD sD
def entOf (t : Tree) (n : Int) : Ent := ((rowOf t n).map (·.2.2)).getD []
def lk (e : Ent) (x : Str) : Option Int := (e.find? fun p => decide (p.1 = x)).map (·.2)
/-- how a way misses: a sheet or nothing, at that place; with the way's number behind -/
abbrev Miss := Bool × Nat
def eMiss (m : Miss) : PyData := .tuple [.str (if m.1 then "sheet" else "none"), .int m.2]
def eMissO : Option Miss → PyData
  | none => .none
  | some m => eMiss m
def thr (t : Tree) : Nat → Int → List Str → List Int × Option Miss
  | _, n, [] => ([n], none)
  | i, n, x :: xs => if kindOf t n = sS then ([n], some (true, i)) else match lk (entOf t n) x with
    | none => ([n], some (false, i))
    | some m => let r := thr t (i + 1) m xs; (n :: r.1, r.2)
/-- the drawers in whose entries a node stands, once for each name -/
def hold (rows : List Row) (n : Int) : List Int := rows.flatMap fun r => (r.2.2.filter fun p => decide (p.2 = n)).map fun _ => r.1
/-- up to the top -/
def up (t : Tree) : Nat → Int → List Int
  | 0, _ => []
  | k + 1, n => if n = 0 then [] else match hold t.1 n with
    | [] => []
    | p :: _ => p :: up t k p
def fuel : Nat := 60
/-- a tree -/
structure WF (t : Tree) : Prop where
  inc : t.1.Pairwise fun a b => a.1 < b.1
  pos : ∀ r ∈ t.1, 0 ≤ r.1
  kinds : ∀ r ∈ t.1, r.2.1 = sD ∨ (r.2.1 = sS ∧ r.2.2 = [])
  rise : ∀ r ∈ t.1, r.2.2.Pairwise fun a b => a.1.cps.toList < b.1.cps.toList
  to : ∀ r ∈ t.1, ∀ p ∈ r.2.2, p.2 ≠ 0 ∧ ∃ q ∈ t.1, q.1 = p.2
  top : ∃ e rest, t.1 = (0, sD, e) :: rest
  made : ∀ r ∈ t.1, r.1 < t.2
  named : ∀ r ∈ t.1, ∀ p ∈ r.2.2, 1 ≤ p.1.length ∧ p.1.length ≤ 8 ∧ ∀ c ∈ p.1.cps.toList, 97 ≤ c ∧ c ≤ 122
  rank : ∃ rk : Int → Nat, (∀ n, rk n ≤ 50) ∧ ∀ r ∈ t.1, ∀ p ∈ r.2.2, rk r.1 < rk p.2
  held : ∀ r ∈ t.1, r.1 ≠ 0 → hold t.1 r.1 ≠ []
  one : ∀ r ∈ t.1, r.2.1 = sD → (hold t.1 r.1).length ≤ 1
  few : t.1.length ≤ 50
  fewE : ∀ r ∈ t.1, r.2.2.length ≤ 50
end Dw
set_option Elab.async false
set_option linter.all false
set_option maxRecDepth 100000
/-! Deeds and what they tell, in plain Lean. -/
namespace Dw
open PySem PySem.W
def sortE (e : Ent) : Ent := e.mergeSort (dataLe false encE)
def sortR (l : List Row) : List Row := l.mergeSort (dataLe false eRow)
abbrev Chg := Int × Str × Option Int
def eIntO : Option Int → PyData
  | none => .none
  | some n => .int n
def eChg (c : Chg) : PyData := .tuple [.int c.1, .str c.2.1, eIntO c.2.2]
/-- in its place, or at the end -/
def putE (e : List (Str × Option Int)) (x : Str) (v : Option Int) : List (Str × Option Int) :=
  if (e.any fun p => decide (p.1 = x)) = true then e.map (fun p => if p.1 = x then (p.1, v) else p) else e ++ [(x, v)]
def chgs (cs : List Chg) (n : Int) (e : List (Str × Option Int)) : List (Str × Option Int) := cs.foldl (fun e c => if c.1 = n then putE e c.2.1 c.2.2 else e) e
def keptE (cs : List Chg) (r : Row) : Ent := (chgs cs r.1 (r.2.2.map fun p => (p.1, some p.2))).filterMap fun p => p.2.map fun n => (p.1, n)
def named (cs : List Chg) (rows : List Row) : List Int := rows.flatMap fun r => (keptE cs r).map (·.2)
def laidP (rows : List Row) (cs : List Chg) (made : Int) : Tree :=
  ((rows.filter fun r => decide (r.1 = 0) || decide (r.1 ∈ named cs rows)).map fun r => (r.1, r.2.1, sortE (keptE cs r)), made)
inductive Told
  | miss (m : Miss)
  | miss2 (m : Miss) (i : Nat)
  | found (k : Str) (n : Int)
  | names (xs : List Str)
  | wd (x : Str)
  | made (n : Int)
  | one (x : Str) (n : Int)
  | two (n m : Int)
def eTold : Told → PyData
  | .miss m => eMiss m
  | .miss2 m i => .tuple [.str (if m.1 then "sheet" else "none"), .int m.2, .int i]
  | .found k n => .tuple [.str "found", .str k, .int n]
  | .names xs => .tuple [.str "names", eWay xs]
  | .wd x => .tuple [.str x]
  | .made n => .tuple [.str "made", .int n]
  | .one x n => .tuple [.str x, .int n]
  | .two n m => .tuple [.str "swapped", .int n, .int m]
inductive Deed
  | look (w : List Str)
  | list (w : List Str)
  | make (w : List Str) (k : Str)
  | drop (w : List Str)
  | link (a b : List Str)
  | move (a b : List Str)
  | swap (a b : List Str)
def eDeed : Deed → PyData
  | .look w => .tuple [.str "look", eWay w]
  | .list w => .tuple [.str "list", eWay w]
  | .make w k => .tuple [.str "make", eWay w, .str k]
  | .drop w => .tuple [.str "drop", eWay w]
  | .link a b => .tuple [.str "link", eWay a, eWay b]
  | .move a b => .tuple [.str "move", eWay a, eWay b]
  | .swap a b => .tuple [.str "swap", eWay a, eWay b]
/-- the last node of a way -/
def lastN (ns : List Int) : Int := ns.getLast?.getD 0
def lastW (w : List Str) : Str := w.getLast?.getD ""
def drawerOf (t : Tree) (w : List Str) : Int × Option Miss :=
  let r := thr t 0 0 w.dropLast
  (lastN r.1, match r.2 with
    | some m => some m
    | none => if kindOf t (lastN r.1) = sS then some (true, w.length - 1) else none)
def entryOf (t : Tree) (d : Int) (w : List Str) : Option Int := lk (entOf t d) (lastW w)
def isFull (t : Tree) (n : Int) : Bool := decide (kindOf t n = sD) && !(entOf t n).isEmpty
def isInside (t : Tree) (n d : Int) : Bool := decide (n = d) || decide (n ∈ up t fuel d)
abbrev Done := Tree × Told
def doLook (t : Tree) (w : List Str) : Done :=
  let r := thr t 0 0 w
  match r.2 with
  | some m => (t, .miss m)
  | none => (t, .found (kindOf t (lastN r.1)) (lastN r.1))
def doList (t : Tree) (w : List Str) : Done :=
  let r := thr t 0 0 w
  match r.2 with
  | some m => (t, .miss m)
  | none => if kindOf t (lastN r.1) = sS then (t, .miss (true, w.length)) else (t, .names ((entOf t (lastN r.1)).map (·.1)))
def doMake (t : Tree) (w : List Str) (k : Str) : Done :=
  let d := drawerOf t w
  match d.2 with
  | some m => (t, .miss m)
  | none => match entryOf t d.1 w with
    | some _ => (t, .wd "there")
    | none => (laidP (t.1 ++ [(t.2, k, [])]) [(d.1, lastW w, some t.2)] (t.2 + 1), .made t.2)
def doDrop (t : Tree) (w : List Str) : Done :=
  let d := drawerOf t w
  match d.2 with
  | some m => (t, .miss m)
  | none => match entryOf t d.1 w with
    | none => (t, .miss (false, w.length - 1))
    | some n => if isFull t n = true then (t, .wd "full") else (laidP t.1 [(d.1, lastW w, none)] t.2, .one "dropped" n)
inductive Both
  | no (m : Miss) (i : Nat)
  | noEnt (d1 d2 : Int) (o : Option Int)
  | ok (d1 d2 n : Int) (o : Option Int)
def bothOf (t : Tree) (a b : List Str) : Both :=
  match (drawerOf t a).2 with
  | some m => .no m 0
  | none => match (drawerOf t b).2 with
    | some m => .no m 1
    | none => match entryOf t (drawerOf t a).1 a with
      | none => .noEnt (drawerOf t a).1 (drawerOf t b).1 (entryOf t (drawerOf t b).1 b)
      | some n => .ok (drawerOf t a).1 (drawerOf t b).1 n (entryOf t (drawerOf t b).1 b)
def eBoth (a : List Str) : Both → PyData
  | .no m i => .tuple [.list [], .list [], eTold (.miss2 m i)]
  | .noEnt d1 d2 o => .tuple [.list [.int d1, .int d2], .list [.none, eIntO o], eTold (.miss2 (false, a.length - 1) 0)]
  | .ok d1 d2 n o => .tuple [.list [.int d1, .int d2], .list [.int n, eIntO o], .none]
def doLink (t : Tree) (a b : List Str) : Done :=
  match bothOf t a b with
  | .no m i => (t, .miss2 m i)
  | .noEnt _ _ _ => (t, .miss2 (false, a.length - 1) 0)
  | .ok _ d2 n o => if kindOf t n = sD then (t, .wd "kind") else match o with
    | some _ => (t, .wd "there")
    | none => (laidP t.1 [(d2, lastW b, some n)] t.2, .one "linked" n)
def barredW (t : Tree) (goal n : Int) (o : Option Int) : Option Str :=
  if o = some n then some "same"
  else if (decide (kindOf t n = sD) && isInside t n goal) = true then some "inside"
  else match o with
    | none => none
    | some m => if kindOf t m ≠ kindOf t n then some "kind" else if isFull t m = true then some "full" else none
def doMove (t : Tree) (a b : List Str) : Done :=
  match bothOf t a b with
  | .no m i => (t, .miss2 m i)
  | .noEnt _ _ _ => (t, .miss2 (false, a.length - 1) 0)
  | .ok d1 d2 n o => match barredW t d2 n o with
    | some x => (t, .wd x)
    | none => (laidP t.1 [(d1, lastW a, none), (d2, lastW b, some n)] t.2, .one "moved" n)
def doSwap (t : Tree) (a b : List Str) : Done :=
  match bothOf t a b with
  | .no m i => (t, .miss2 m i)
  | .noEnt _ _ _ => (t, .miss2 (false, a.length - 1) 0)
  | .ok d1 d2 n o => match o with
    | none => (t, .miss2 (false, b.length - 1) 1)
    | some m => if n = m then (t, .wd "same")
      else if (isInside t n d2 || isInside t m d1) = true then (t, .wd "inside")
      else (laidP t.1 [(d1, lastW a, some m), (d2, lastW b, some n)] t.2, .two n m)
def doneP (t : Tree) : Deed → Done
  | .look w => doLook t w
  | .list w => doList t w
  | .make w k => doMake t w k
  | .drop w => doDrop t w
  | .link a b => doLink t a b
  | .move a b => doMove t a b
  | .swap a b => doSwap t a b
def eDone (r : Done) : PyData := .tuple [eTree r.1, eTold r.2]
/-! ### by other names and nodes -/
def renE (f : Str → Str) (g : Int → Int) (e : Ent) : Ent := sortE (e.map fun p => (f p.1, g p.2))
def renR (f : Str → Str) (g : Int → Int) (r : Row) : Row := (g r.1, r.2.1, renE f g r.2.2)
def ren (f : Str → Str) (g : Int → Int) (t : Tree) : Tree := (sortR (t.1.map (renR f g)), t.2)
def renDeed (f : Str → Str) : Deed → Deed
  | .look w => .look (w.map f)
  | .list w => .list (w.map f)
  | .make w k => .make (w.map f) k
  | .drop w => .drop (w.map f)
  | .link a b => .link (a.map f) (b.map f)
  | .move a b => .move (a.map f) (b.map f)
  | .swap a b => .swap (a.map f) (b.map f)
def sortW (xs : List Str) : List Str := xs.mergeSort (dataLe false PyData.str)
def renTold (f : Str → Str) (g : Int → Int) : Told → Told
  | .found k n => .found k (g n)
  | .names xs => .names (sortW (xs.map f))
  | .one x n => .one x (g n)
  | .two n m => .two (g n) (g m)
  | t => t
end Dw
set_option Elab.async false
set_option linter.all false
set_option maxRecDepth 100000
set_option maxHeartbeats 1000000
/-! Sorting entries and rows, in plain Lean. -/
namespace Dw
open PySem PySem.W PyProof.Rows
def Rise (e : Ent) : Prop := e.Pairwise fun a b => a.1.cps.toList < b.1.cps.toList
theorem lt_irr (x : List Nat) : ¬ x < x := by
  induction x with
  | nil => intro h; cases h
  | cons a x ih =>
    intro h
    rcases List.cons_lt_cons_iff.mp h with h | h
    · exact absurd h (Nat.lt_irrefl _)
    · exact ih h.2
theorem Rise.nodup {e : Ent} (h : Rise e) : (e.map (·.1)).Nodup := by
  refine List.pairwise_map.mpr (h.imp ?_)
  intro a b hab he
  rw [he] at hab
  exact lt_irr _ hab
theorem dataLt_encE {a b : Str × Int} (h : a.1 ≠ b.1) : dataLt (encE a) (encE b) = decide (a.1.cps.toList < b.1.cps.toList) := by
  unfold encE
  rw [dataLt_pair (by simp [alike]) (by simp [alike]), dataLt_str]
  rw [if_neg (by simp [PyData.eqv, h])]
theorem le_encE {a b : Str × Int} (h : a.1 ≠ b.1) : dataLe false encE a b = true ↔ a.1.cps.toList < b.1.cps.toList := by
  rw [dataLe_eq]
  show (!dataLt (encE b) (encE a)) = true ↔ _
  rw [dataLt_encE fun z => h z.symm]
  simp only [Bool.not_eq_true', decide_eq_false_iff_not]
  constructor
  · intro q
    rcases List.le_iff_lt_or_eq.mp (List.not_lt.mp q) with r | r
    · exact r
    · exact absurd (str_of_cps r) h
  · intro q r
    exact lt_irr _ (List.lt_trans q r)
theorem sortE_perm (e : Ent) : (sortE e).Perm e := List.mergeSort_perm _ _
theorem sortE_rise {e : Ent} (h : (e.map (·.1)).Nodup) : Rise (sortE e) := by
  have tot := sortLe_total (listOrd itemOrd) false fun b : Str × Int => keyToks (encE b)
  have hp := List.pairwise_mergeSort (le := dataLe false encE) tot.trans (fun a b => Bool.or_eq_true_iff.mpr (tot.total a b)) e
  have hn : ((sortE e).map (·.1)).Nodup := ((sortE_perm e).map _).nodup_iff.mpr h
  refine (hp.and (List.pairwise_map.mp hn)).imp ?_
  intro a b ⟨h1, h2⟩
  exact (le_encE h2).mp h1
theorem Rise.uniq {a b : Ent} (ha : Rise a) (hb : Rise b) (p : a.Perm b) : a = b :=
  List.Perm.eq_of_pairwise (le := fun a b : Str × Int => a.1.cps.toList < b.1.cps.toList) (fun x y _ _ h1 h2 => absurd (List.lt_trans h1 h2) (lt_irr _)) ha hb p
theorem sortE_self {e : Ent} (h : Rise e) : sortE e = e := (sortE_rise h.nodup).uniq h (sortE_perm e)
theorem alike_ents : ∀ e e' : Ent, alikeAll (e.map encE) (e'.map encE) = true
  | [], e' => by simp [alikeAll]
  | p :: e, [] => by simp [alikeAll]
  | p :: e, q :: e' => by
    rw [List.map_cons, List.map_cons, alikeAll, alike_ents e e', Bool.and_true]
    simp [encE, alike, alikeAll]
theorem alike_eRow (r s : Row) : alike (eRow r) (eRow s) = true := by
  unfold eRow eEnt
  simp [alike, alikeAll, alike_ents]
theorem dataLt_eRow {a b : Row} (h : a.1 ≠ b.1) : dataLt (eRow a) (eRow b) = decide (a.1 < b.1) := by
  unfold eRow
  rw [dataLt_tuple, dataLt_cons (by simp [alike]), if_neg (by simp [PyData.eqv, h]), dataLt_int]
theorem le_eRow {a b : Row} (h : a.1 ≠ b.1) : dataLe false eRow a b = true ↔ a.1 < b.1 := by
  rw [dataLe_eq]
  show (!dataLt (eRow b) (eRow a)) = true ↔ _
  rw [dataLt_eRow fun z => h z.symm]
  simp only [Bool.not_eq_true', decide_eq_false_iff_not]
  omega
def IncR (l : List Row) : Prop := l.Pairwise fun a b => a.1 < b.1
theorem sortR_perm (l : List Row) : (sortR l).Perm l := List.mergeSort_perm _ _
theorem sortR_inc {l : List Row} (h : (l.map (·.1)).Nodup) : IncR (sortR l) := by
  have tot := sortLe_total (listOrd itemOrd) false fun b : Row => keyToks (eRow b)
  have hp := List.pairwise_mergeSort (le := dataLe false eRow) tot.trans (fun a b => Bool.or_eq_true_iff.mpr (tot.total a b)) l
  have hn : ((sortR l).map (·.1)).Nodup := ((sortR_perm l).map _).nodup_iff.mpr h
  refine (hp.and (List.pairwise_map.mp hn)).imp ?_
  intro a b ⟨h1, h2⟩
  exact (le_eRow h2).mp h1
theorem IncR.uniq {a b : List Row} (ha : IncR a) (hb : IncR b) (p : a.Perm b) : a = b :=
  List.Perm.eq_of_pairwise (le := fun a b : Row => a.1 < b.1) (fun x y _ _ h1 h2 => by omega) ha hb p
theorem IncR.nodup {l : List Row} (h : IncR l) : (l.map (·.1)).Nodup := List.pairwise_map.mpr (h.imp fun h e => by omega)
theorem sortR_self {l : List Row} (h : IncR l) : sortR l = l := (sortR_inc h.nodup).uniq h (sortR_perm l)
/-! changes -/
theorem putE_names {e : List (Str × Option Int)} {x : Str} {v : Option Int} (h : (e.map (·.1)).Nodup) : ((putE e x v).map (·.1)).Nodup := by
  unfold putE
  split
  · rw [List.map_map]
    have : ((fun p : Str × Option Int => p.1) ∘ fun p => if p.1 = x then (p.1, v) else p) = fun p => p.1 := by funext p; simp only [Function.comp]; split <;> rfl
    rw [this]; exact h
  · next q =>
    rw [List.map_append]
    refine List.nodup_append.mpr ⟨h, by simp, fun a ha b hb e => ?_⟩
    simp at hb
    obtain ⟨p, hp, rfl⟩ := List.mem_map.mp ha
    exact q (List.any_eq_true.mpr ⟨p, hp, by simp [e, hb]⟩)
theorem putE_len (e : List (Str × Option Int)) (x : Str) (v : Option Int) : (putE e x v).length ≤ e.length + 1 := by
  unfold putE
  split
  · rw [List.length_map]; omega
  · rw [List.length_append]; simp
theorem chgs_names {cs : List Chg} {n : Int} : ∀ {e : List (Str × Option Int)}, (e.map (·.1)).Nodup → ((chgs cs n e).map (·.1)).Nodup := by
  unfold chgs
  induction cs with
  | nil => exact fun h => h
  | cons c cs ih =>
    intro e h
    rw [List.foldl_cons]
    split
    · exact ih (putE_names h)
    · exact ih h
theorem chgs_len {cs : List Chg} {n : Int} : ∀ (e : List (Str × Option Int)), (chgs cs n e).length ≤ e.length + cs.length := by
  unfold chgs
  induction cs with
  | nil => exact fun e => Nat.le_refl _
  | cons c cs ih =>
    intro e
    rw [List.foldl_cons, List.length_cons]
    split
    · have := ih (putE e c.2.1 c.2.2)
      have := putE_len e c.2.1 c.2.2
      omega
    · have := ih e
      omega
theorem chgs_snoc (cs : List Chg) (c : Chg) (n : Int) (e : List (Str × Option Int)) : chgs (cs ++ [c]) n e = if c.1 = n then putE (chgs cs n e) c.2.1 c.2.2 else chgs cs n e := by
  unfold chgs
  rw [List.foldl_append]
  rfl
theorem kept_names {e : List (Str × Option Int)} (h : (e.map (·.1)).Nodup) : (((e.filterMap fun p => p.2.map fun n => (p.1, n)) : Ent).map (·.1)).Nodup := by
  refine List.Pairwise.sublist ?_ h
  induction e with
  | nil => exact List.Sublist.refl _
  | cons p e ih =>
    obtain ⟨x, o⟩ := p
    have ih' := ih (List.Pairwise.sublist (List.sublist_cons_self _ _) h)
    cases o with
    | none => exact List.Sublist.cons _ (by simpa using ih')
    | some n => exact List.Sublist.cons₂ _ (by simpa using ih')
theorem keptE_names {cs : List Chg} {r : Row} (h : Rise r.2.2) : ((keptE cs r).map (·.1)).Nodup := by
  unfold keptE
  refine kept_names (chgs_names ?_)
  rw [List.map_map]
  exact h.nodup
end Dw
set_option Elab.async false
set_option linter.all false
set_option maxRecDepth 100000
set_option maxHeartbeats 1000000
namespace Dw
open PySem PySem.Spec PyProof.Rows L2 PySem.W
/-! ### sorted(a list of alike data) -/
def rSortD (K : PySem.W.Frag) : List V → Hp → VK → Prop := fun xs H Q => ∃ (a : Addr) (ps : List (V × PyData)), xs = [.ref a] ∧ SqL K H a (ps.map (·.1)) ∧ (∀ p ∈ ps, Dp K H p.1 p.2) ∧ AllAlike (ps.map (·.2)) ∧ Sortable (ps.map (·.2)) ∧ (∀ p ∈ ps, p.2.depth ≤ 20) ∧
  ∀ l, H l = none → Q (.ref l) (upd H l (.lst ((ps.mergeSort (dataLe false (·.2))).map (·.1))))
theorem vals_refs : ∀ as : List Addr, Vals (as.map V.ref) (as.map Value.ref)
  | [] => .nil
  | _ :: as => .cons rfl (vals_refs as)
theorem each_of_vals {H : Hp} : ∀ {ps : List (V × PyData)} {us : List Value}, Vals (ps.map (·.1)) us → EachIs (fun u (p : V × PyData) => RelV p.1 u) us ps
  | [], us, r => by cases r; exact .nil
  | p :: ps, us, r => by
    rw [List.map_cons] at r
    cases r with
    | cons h t => exact .cons h (each_of_vals (H := H) t)
theorem vals_of_each : ∀ {ps : List (V × PyData)} {us : List Value}, EachIs (fun u (p : V × PyData) => RelV p.1 u) us ps → Vals (ps.map (·.1)) us
  | [], us, r => by cases r; exact .nil
  | p :: ps, us, r => by
    cases r with
    | cons h t => exact .cons h (vals_of_each t)
theorem each_and {α β : Type} {R : α → β → Prop} {P : β → Prop} : ∀ {as : List α} {bs : List β}, EachIs R as bs → (∀ b ∈ bs, P b) → EachIs (fun a b => R a b ∧ P b) as bs
  | _, _, .nil, _ => .nil
  | _, _, .cons h t, hp => .cons ⟨h, hp _ List.mem_cons_self⟩ (each_and t fun b hb => hp b (List.mem_cons_of_mem _ hb))
section
variable {X : Cx}
theorem call_sortD (hu : X.A.units + 64 < cLine) : CallR X (.builtin "sorted") (rSortD X.K) := by
  intro pins s σ H xs us Q I r h
  obtain ⟨a, ps, rfl, hq, hd, hal, hk, hdp, q⟩ := h
  obtain ⟨u, rfl, rx⟩ := vals1 r
  cases rx
  obtain ⟨its, rv, pl, hz⟩ := I.list hq
  have e1 := each_of_vals (H := H) rv
  have hz' : ps.length ≤ sizeLine := by simpa using hz
  refine sorted_data (bs := ps) (enc := (·.2)) (R := fun u p => RelV p.1 u) pl.isList e1 ((each_and (P := fun p => Dp X.K H p.1 p.2) e1 hd).mono fun u p hp => Dp.reads I p.2 p.1 u hp.2 hp.1) hal hk hz' (fun p hp => by have := hdp p hp; omega) fun out ho eo => ?_
  obtain ⟨c, hc⟩ := sortedAll_at s.heap its (List.toArray out)
  have rl := vals_of_each eo
  refine ⟨.ref (s.heap.objs.size + 1), upd H (s.heap.objs.size + 1) (.lst ((ps.mergeSort (dataLe false (·.2))).map (·.1))), I.laid (t' := s.toks) (fun b o e => sortedAll_old e) (Nat.le_succ _) ⟨?_, out, c, rl, hc⟩, rfl, q _ (I.hok.fresh (Nat.le_succ _))⟩
  rw [List.length_map, List.length_mergeSort]
  exact hz'
/-! ### sorted(d.items()), names to numbers -/
def kvI (p : Str × Int) : Key × V := (.inr p.1, .int p.2)
def NewP (H H' : Hp) (t : Addr) (p : Str × Int) : Prop := H t = none ∧ ∃ o, H' t = some (.frz o (.tup [.str p.1, .int p.2])) ∧ o.dict = none
def rSortIt : V → Hp → VK → Prop := fun x H Q => ∃ (d : Addr) (es : List (Str × Int)), x = .ref d ∧ H d = some (.dK (es.map kvI)) ∧
  ∀ H' l ts, (∀ b o, H b = some o → H' b = some o) → H l = none → H' l = some (.lst (ts.map V.ref)) → Paired (NewP H H') ts (es.mergeSort (dataLe false encE)) → Q (.ref l) H'
theorem dw_sorted_view {prog : Program} {w : World} {A : Around} {E : Value → Shared → Prop} {s : Shared} {knd : PySem.KeyKind prog w Key} {kvs : List (Key × Value)} {ep r d : Nat} {Q : Value → Shared → Prop} (hh : A.handled = none) (hv : s.heap.IsItemsView r d) (hm : s.heap.DictAt knd d kvs ep) (hn : kvs.length ≤ sizeLine)
    (h : ∀ (h' : Heap) (tk : Nat) (as : List Addr), (∀ b o, s.heap.get? b = some o → h'.get? b = some o) → as.length = kvs.length → KdxG knd kvs s.heap.objs.size h' as →
      wpAny (model prog w) A.in1 (call (.builtin "list.sort") [.ref h'.objs.size]) (fun _ s' => Q (.ref h'.objs.size) s') E { s with heap := h'.push { cls := .type "list", data := .seq (as.map Value.ref).toArray }, toks := tk }) :
    wpAny (model prog w) A (call (.builtin "sorted") [.ref r]) Q E s := by
  refine PySem.Calls.call_function_entry kind_sorted plain_sorted entry_sorted (args_sorted1 _) ?_
  unfold Builtin.«sorted»
  refine wpAny_bind (m := checkCount "sorted" 1 1 _) (wpAny_pure ?_)
  refine wpAny_bind (kdx_collect (A := A.in1) hh hv hm hn fun h' tk as hk hl hG => ?_)
  refine wpAny_bind (wpAny_newList ?_ (by rw [List.length_map, hl]; exact hn))
  refine wpAny_bind (wpAny_holding (wpAny_mono (h h' tk as hk hl hG) (fun _ s' x => ?_) fun _ _ e => e))
  exact wpAny_pure ⟨_, rfl, x⟩
theorem each_tups {prog : Program} {w : World} {lo : Addr} {h' : Heap} : ∀ {es : List (Str × Int)} {vs : List (Key × Value)} {as : List Addr}, KV (es.map kvI) vs → as.length = vs.length →
    (∀ (j : Nat) (a : Addr), as[j]? = some a → lo ≤ a ∧ ∃ key k x, vs[j]? = some (k, x) ∧ (mixKind prog w).is k key = true ∧ h'.get? a = some { cls := .type "tuple", data := .seq #[key, x] }) →
    EachIs (fun (u : Value) (p : Str × Int) => ∃ a t1 t2, u = .ref a ∧ lo ≤ a ∧ h'.get? a = some { cls := .type "tuple", data := .seq #[.str p.1 t1, .int p.2 t2] }) (as.map Value.ref) es
  | [], vs, as, r, hl, hp => by
    have r' : KV [] vs := r
    cases r'
    cases as with
    | nil => exact .nil
    | cons a as => cases hl
  | p :: es, vs, as, r, hl, hp => by
    have r' : KV (kvI p :: es.map kvI) vs := r
    cases r' with
    | cons hr ht =>
      cases as with
      | nil => cases hl
      | cons a as =>
        refine .cons ?_ (each_tups ht (Nat.succ.inj hl) fun j b hb => hp (j + 1) b hb)
        obtain ⟨h0, key, k, x, e1, e2, e3⟩ := hp 0 a rfl
        cases Option.some.inj e1
        obtain ⟨e4, e5⟩ := hr
        have e4' : Sum.inr p.1 = k := e4
        subst e4'
        obtain ⟨t1, rfl⟩ := Value.isStrOf_shape (show Value.isStrOf p.1 key = true from e2)
        obtain ⟨t2, rfl⟩ := (show ∃ t, x = Value.int p.2 t from e5)
        exact ⟨a, t1, t2, rfl, h0, e3⟩
/-- one by one the tuples are tracked -/
theorem track_tups {pins : List (Addr × Obj)} {σ : L2.St} {s : Shared} {lo : Addr} : ∀ {out : List Value} {es : List (Str × Int)} {H : Hp}, Inv X pins σ H s → (∀ a, lo ≤ a → ∀ o, H a = some o → ∃ ob xs, o = .frz ob (.tup xs)) → (∀ a H1, lo ≤ a → H1 a = none → FpOk X pins H1 a) →
    EachIs (fun (u : Value) (p : Str × Int) => ∃ a t1 t2, u = .ref a ∧ lo ≤ a ∧ s.heap.get? a = some { cls := .type "tuple", data := .seq #[.str p.1 t1, .int p.2 t2] }) out es →
    ∃ (H' : Hp) (ts : List Addr), Inv X pins σ H' s ∧ out = ts.map Value.ref ∧ (∀ b o, H b = some o → H' b = some o) ∧ (∀ a, H' a ≠ H a → lo ≤ a ∧ ∃ ob xs, H' a = some (.frz ob (.tup xs))) ∧ Paired (fun t p => lo ≤ t ∧ ∃ o, H' t = some (.frz o (.tup [.str p.1, .int p.2])) ∧ o.dict = none) ts es
  | _, _, H, I, hx, hf, .nil => ⟨H, [], I, rfl, fun _ _ e => e, fun a h => (h rfl).elim, .nil⟩
  | _, p :: _, H, I, hx, hf, .cons h t => by
    obtain ⟨a, t1, t2, rfl, ha, hg⟩ := h
    cases e : H a with
    | none =>
      have I1 := I.take (h' := s.heap) (t' := s.toks) (o := .frz { cls := .type "tuple", data := .seq #[.str p.1 t1, .int p.2 t2] } (.tup [.str p.1, .int p.2])) (fun b ob _ q => q) (hf a H ha e)
        ⟨hg, by show 2 ≤ sizeLine; decide, [.str p.1 t1, .int p.2 t2], .cons ⟨_, rfl⟩ (.cons ⟨_, rfl⟩ .nil), _, hg, rfl, _, rfl⟩
      obtain ⟨H', ts, J, e1, k1, k2, k3⟩ := track_tups I1 (fun b hb o q => by
        by_cases hba : b = a
        · rw [hba, upd_same] at q
          exact ⟨_, _, (Option.some.inj q).symm⟩
        · rw [upd_ne hba] at q
          exact hx b hb o q) hf t
      refine ⟨H', a :: ts, J, by rw [e1]; rfl, fun b o q => k1 b o (by rw [upd_ne (fun z => by rw [z, e] at q; cases q)]; exact q), fun b hb => ?_, .cons ⟨ha, _, k1 a _ upd_same, rfl⟩ k3⟩
      by_cases hba : b = a
      · rw [hba]
        exact ⟨ha, _, _, k1 a _ upd_same⟩
      · exact k2 b (by rw [upd_ne hba]; exact hb)
    | some o =>
      obtain ⟨ob, xs, rfl⟩ := hx a ha o e
      obtain ⟨H', ts, J, e1, k1, k2, k3⟩ := track_tups I hx hf t
      have hok := I.hok a _ e
      obtain ⟨hg2, hz, its, rv, o3, ho3, hc3, n3, hd3⟩ := (show s.heap.get? a = some ob ∧ xs.length ≤ sizeLine ∧ ∃ its : List Value, Vals xs its ∧ IsTup s.heap a its.toArray from hok)
      rw [hg] at hg2 ho3
      cases Option.some.inj hg2
      cases Option.some.inj ho3
      have hd4 : (#[Value.str p.1 t1, Value.int p.2 t2] : Array Value) = its.toArray := by
        have := hd3
        injection this
      have hits : its = [Value.str p.1 t1, Value.int p.2 t2] := by
        have := congrArg Array.toList hd4
        simpa using this.symm
      subst hits
      have hxs : xs = [.str p.1, .int p.2] := rv.inj (.cons ⟨_, rfl⟩ (.cons ⟨_, rfl⟩ .nil))
      subst hxs
      exact ⟨H', a :: ts, J, by rw [e1]; rfl, k1, k2, .cons ⟨ha, _, k1 a _ e, rfl⟩ k3⟩
variable {e : Expr} {te : TE} {p apos cpos pos : Pos}
def tSortIt (te : TE) : TE := fun σ H Q => te σ H fun x H1 => rSortIt x H1 Q
theorem alike_encE (bs : List (Str × Int)) : AllAlike (bs.map encE) := AllAlike.of fun _ _ => by simp [encE, alike, alikeAll]
theorem sortable_encE (bs : List (Str × Int)) : Sortable (bs.map encE) := Sortable.tuples fun _ => ⟨_, _, rfl⟩
/-- sorted(e.items()) -/
theorem pe_sortItems (hu : X.A.units + 64 < cLine) (hc : X.calm = true) (he : PE X e te) (hg : Gl X "sorted") (hm : X.mg "sorted" = none) (hv : bootBuiltins "sorted" = some (.builtin "sorted") := by decide +kernel) (hbase : attributeBase e "items" X.env (eval e X.env) = eval e X.env := by rfl) (hline : (apos.endLine == cpos.line) = true := by rfl)
    (hs : starEach [.Call (.Attribute e "items" apos) [] [] cpos] X.env = (false, eval (.Call (.Attribute e "items" apos) [] [] cpos) X.env) :: starEach [] X.env := by rfl) :
    PE X (.Call (.Name "sorted" p) [.Call (.Attribute e "items" apos) [] [] cpos] [] pos) (tSortIt te) := by
  refine ⟨fun pins s σ H Q I hq => ?_⟩
  refine wpAny_Call_Name_kw (ld_blt I hg hm hv ?_)
  refine Calls.callWith_builtin (by rw [hs]; rfl) (Calls.evalArgs_plain ?_)
  show wpAny _ _ (spliced ((false, eval (.Call (.Attribute e "items" apos) [] [] cpos) X.env) :: backTo pos (starEach [] X.env))) _ _ s
  refine Calls.spliced_cons ?_
  refine wpAny_Call_method (T := "dict") (id := "dict.items") hbase rfl hline F.plainAttrs_dict F.slot_dict_items F.type_dict_items (thn (he.run pins s σ H _ I hq) fun u s1 ⟨x, H1, I1, rx, d, es, ex, hd, q⟩ => ?_)
  subst ex
  obtain rfl : u = Value.ref d := rx
  obtain ⟨hz, hs0, vs, kv, hdo⟩ := I1.hok d _ hd
  obtain ⟨ep, hat⟩ := hdo.dictAt
  have lk : (es.map kvI).length = vs.length := Paired.length kv
  have I2 : Inv X pins σ H1 { s1 with heap := s1.heap.push { cls := .type "dict_items", data := .fields #[.ref d] } } := I1.kept (t' := s1.toks) fun b ob q => Heap.get?_push_of_some _ q
  refine ⟨hdo.typeIs, hdo.mapOf.noDict, ?_⟩
  show wpAny _ _ (callWith cpos (.builtin "dict.items") [.ref d] [] []) _ X.xe s1
  refine method_meetsIn F.slot_dict_items F.entry_dict_items rfl (PySem.evalArgs_none ⟨rfl, hdo.typeIs, F.args_dict_items_1 _, _, meets_dict_items (mixKind X.prog X.w) d hs0, ⟨vs, hdo⟩, ?_⟩)
  refine Calls.spliced_nil ?_
  refine dw_sorted_view (knd := mixKind X.prog X.w) (kvs := vs) (ep := ep) (I1.ok.hd hc) ⟨_, Heap.get?_push_size _ rfl, rfl, rfl⟩ (hat.push _) (by omega) fun h' tk as hk hl hG => ?_
  have et := each_tups (lo := s1.heap.objs.size + 1) (h' := h') (prog := X.prog) (w := X.w) kv hl fun j a ha => by
    refine ⟨?_, hG.pairs j a ha⟩
    have h1 := hG.above a (List.mem_of_getElem? ha)
    rw [Heap.size_push] at h1
    exact Nat.le_of_lt h1
  have hsz1 : s1.heap.objs.size + 1 ≤ h'.objs.size := by
    have h1 := Heap.lt_size (hk s1.heap.objs.size _ (Heap.get?_push_size _ rfl))
    exact h1
  have ho : (h'.push { cls := .type "list", data := .seq (as.map Value.ref).toArray }).get? h'.objs.size = some (seqObj "list" (as.map Value.ref).toArray 0) := Heap.get?_push_size _ rfl
  refine list_sort_data (bs := es) (enc := encE) (R := fun (u : Value) (p : Str × Int) => ∃ a t1 t2, u = .ref a ∧ s1.heap.objs.size + 1 ≤ a ∧ h'.get? a = some { cls := .type "tuple", data := .seq #[.str p.1 t1, .int p.2 t2] }) ho et
    (et.mono fun u p hp => ?_) (alike_encE es) (sortable_encE es) (by rw [List.length_map] at hz; exact hz) (fun b _ => ?_) fun out hlen eo => ?_
  · obtain ⟨a, t1, t2, rfl, ha, hg⟩ := hp
    exact ⟨[], .tuple (Heap.get?_push_of_some _ hg) rfl rfl (.cons (.str _ _) (.cons (.int _ _) .nil)), by simp⟩
  · have : (encE b).depth ≤ 2 := by simp [encE, PyData.depth, PyData.depthAll]
    show X.A.units + 1 + 1 + _ < _
    omega
  · obtain ⟨c, hc2⟩ := sortedHeap_at (vs := as.map Value.ref) (out := out.toArray) ho
    have kF : ∀ b o, s1.heap.get? b = some o → (sortedHeap (h'.push { cls := .type "list", data := .seq (as.map Value.ref).toArray }) h'.objs.size (as.map Value.ref) out.toArray).get? b = some o := fun b o e => by
      have e1 : h'.get? b = some o := hk b o (Heap.get?_push_of_some _ e)
      refine (sortedHeap_old (Nat.ne_of_lt (Heap.lt_size e1)) ?_).trans (Heap.get?_push_of_some _ e1)
      exact Heap.lt_size (Heap.get?_push_of_some _ e1)
    have kT : ∀ b o, h'.get? b = some o → (sortedHeap (h'.push { cls := .type "list", data := .seq (as.map Value.ref).toArray }) h'.objs.size (as.map Value.ref) out.toArray).get? b = some o := fun b o e1 => by
      refine (sortedHeap_old (Nat.ne_of_lt (Heap.lt_size e1)) ?_).trans (Heap.get?_push_of_some _ e1)
      exact Heap.lt_size (Heap.get?_push_of_some _ e1)
    generalize hhF : sortedHeap (h'.push { cls := .type "list", data := .seq (as.map Value.ref).toArray }) h'.objs.size (as.map Value.ref) out.toArray = hF at hc2 kF kT ⊢
    have I3 : Inv X pins σ H1 { s1 with heap := hF, toks := tk } := I1.kept (t' := tk) kF
    obtain ⟨H', ts, J, e1, k1, k2, k3⟩ := track_tups (lo := s1.heap.objs.size + 1) I3 (fun a ha o e => by
      have := I1.hok.fresh (h := s1.heap) (a := a) (Nat.le_trans (Nat.le_succ _) ha)
      rw [this] at e; cases e) (fun a H2 ha hn => I1.fpOk (Nat.le_trans (Nat.le_succ _) ha) hn) (eo.mono fun u p hp => by
      obtain ⟨a, t1, t2, h1, h2, h3⟩ := hp
      exact ⟨a, t1, t2, h1, h2, kT a _ h3⟩)
    subst e1
    have hl1 : H1 h'.objs.size = none := I1.hok.fresh (Nat.le_trans (Nat.le_succ _) hsz1)
    have hl' : H' h'.objs.size = none := by
      cases e : H' h'.objs.size with
      | none => rfl
      | some o =>
        obtain ⟨_, ob, xs, h3⟩ := k2 h'.objs.size (by rw [e, hl1]; exact fun z => nomatch z)
        have hok := J.hok _ _ h3
        obtain ⟨hg2, hz, its, rv, o3, ho3, hc3, n3, hd3⟩ := (show hF.get? h'.objs.size = some ob ∧ xs.length ≤ sizeLine ∧ ∃ its : List Value, Vals xs its ∧ IsTup hF h'.objs.size its.toArray from hok)
        rw [hc2] at ho3
        cases Option.some.inj ho3
        exact absurd hc3 (by intro z; injection z with z1; exact absurd z1 (by decide))
    have J2 : Inv X pins σ (upd H' h'.objs.size (.lst (ts.map V.ref))) { s1 with heap := hF, toks := tk } :=
      J.take (h' := hF) (t' := tk) (fun b ob _ e => e) (I1.fpOk (Nat.le_trans (Nat.le_succ _) hsz1) hl') ⟨?_, _, c, vals_refs ts, hc2⟩
    · refine ⟨.ref h'.objs.size, _, J2, rfl, q _ _ ts (fun b o e => ?_) hl1 upd_same ?_⟩
      · rw [upd_ne (fun z => by rw [z, hl1] at e; cases e)]
        exact k1 b o e
      · refine Paired.mapP k3 fun t p ⟨ht, o, h1, h2⟩ => ⟨I1.hok.fresh (Nat.le_trans (Nat.le_succ _) ht), o, ?_, h2⟩
        rw [upd_ne (fun z => by rw [z, hl'] at h1; cases h1)]
        exact h1
    · have h1 := Paired.length k3
      rw [List.length_map, h1, List.length_mergeSort]
      rw [List.length_map] at hz
      exact hz
end
end Dw
set_option Elab.async false
set_option linter.all false
set_option maxRecDepth 100000
set_option maxHeartbeats 1000000
namespace Dw
open PySem PySem.Spec PyProof.Rows L2
/-! ### calls by keywords, no positional default -/
section
variable {K : PySem.W.Frag} {x qual : Str} {params : Arguments} {body : List Stmt} {scope : Scope} {kws : List (Str × V)} {f : Addr} {fd : FuncData} {ps : List Str}
/-- n positional values, keywords ks, the keyword-only parameters ms lack -/
theorem kb_of (F : FunD K x qual params body scope [] kws f fd) (n : Nat) (ks : List Str) (ms : List (Str × V)) (g : {α : Type} → List α → List α → List α → List α) (hk : kws ≠ []) (hms : ∀ q ∈ ms, q ∈ kws)
    (hrel : ∀ {vs mz zs : List V} {us mv ws : List Value}, Vals vs us → Vals mz mv → Vals zs ws → Vals (g vs mz zs) (g us mv ws))
    (h : ∀ (D : Addr) (doc pm : Value) (an : Option Addr) (cdv ct : Value) (us mv ws : List Value), us.length = n → mv.length = ms.length → ws.length = ks.length →
      KwChain D ((ms.map (·.1)).zip mv) (bindArgs (PySem.W.fnOf x qual params body scope .none (.ref D) doc pm an cdv ct) ⟨us, ks.zip ws⟩) (ps.zip (g us mv ws))) :
    ∃ mv : List Value, KBn K fd ps n ks (fun us ws => g us mv ws) (fun vs zs => g vs (ms.map (·.2)) zs) := by
  obtain ⟨oc, od, dV, kV, doc, pm, an, cdv, ct, osl, rfl, lk, hcd, hD, hK⟩ := F.ex
  rcases hD with ⟨_, rfl⟩ | ⟨e, _⟩
  · rcases hK with e | ⟨D, rfl, hq⟩
    · exact absurd e hk
    · obtain ⟨mv, hl, rk, hks⟩ := kwd_vals (ms := ms) fun q hm => hq q (hms q hm)
      exact ⟨mv, ⟨fun s us ws X l1 l2 => BindsTo.of_looks fun M => KwChain.looks X hks (h D doc pm an cdv ct us mv ws l1 hl l2), fun r1 r2 => hrel r1 rk r2⟩⟩
  · exact absurd rfl e
/-- a def without keyword-only parameters, called by keywords alone or not -/
theorem kb_plain (F : FunD K x qual params body scope [] kws f fd) (n : Nat) (ks : List Str) (g : {α : Type} → List α → List α → List α)
    (hrel : ∀ {vs zs : List V} {us ws : List Value}, Vals vs us → Vals zs ws → Vals (g vs zs) (g us ws))
    (h : ∀ (kV doc pm : Value) (an : Option Addr) (cdv ct : Value) (us ws : List Value), us.length = n → ws.length = ks.length →
      bindArgs (PySem.W.fnOf x qual params body scope .none kV doc pm an cdv ct) ⟨us, ks.zip ws⟩ = pure (ps.zip (g us ws))) :
    KBn K fd ps n ks (fun us ws => g us ws) (fun vs zs => g vs zs) := by
  obtain ⟨oc, od, dV, kV, doc, pm, an, cdv, ct, osl, rfl, lk, hcd, hD, hK⟩ := F.ex
  rcases hD with ⟨_, rfl⟩ | ⟨e, _⟩
  · exact ⟨fun s us ws X l1 l2 => .of_eq (h kV doc pm an cdv ct us ws l1 l2), fun r1 r2 => hrel r1 r2⟩
  · exact absurd rfl e
end
/-- f(k = v, ..) -/
def tCallN0 (m : Nat) (sp : Sp) (gV : List V → List V → List V) (E : XK) (tk : TA) : TE := fun σ H Q => tk σ H fun zs H2 => zs.length = m ∧ sp (gV [] zs) H2 Q E
section
variable {X : Cx} {CX : CXT} {k : Nat} {f : Addr} {fd : FuncData} {ps ks : List Str} {sp : Sp} {E : XK} {x : Str} {p pos : Pos} {e : Expr} {es : List Expr} {kws : List Keyword} {t tk : TA} {g : List Value → List Value → List Value} {gV : List V → List V → List V}
theorem pe_callN0 (F : FnOk X.prog X.w X.K X.mg X.base CX k f fd ps sp) (hr : Room k X.A) (hg : Gl X x) (hm : X.mg x = some (.ref f)) (hk : PySem.W.keepIn X.K (.ref f) = true) (hb : KBn X.K fd ps 0 ks g gV) (hx : Passes CX X E)
    (hkw : PK X kws tk) (hall : (backToKw pos (keywordEach kws X.env)).all (·.1.isSome) = true := by rfl) (hks : (backToKw pos (keywordEach kws X.env)).filterMap (·.1) = ks := by rfl)
    (hdb : (x == ("__debug__" : Str)) = false := by decide) (hpl : ((backTo pos (starEach [] X.env)).any (·.1) || (backToKw pos (keywordEach kws X.env)).any (·.1.isNone)) = false := by rfl) :
    PE X (.Call (.Name x p) [] kws pos) (tCallN0 ks.length sp gV E tk) := by
  refine ⟨fun pins s σ H Q I h => ?_⟩
  refine wpAny_Call_Name_kw (ld_glob I hg hm ?_ hdb)
  refine PySem.W.callWith_KW0 (h₀ := X.base) I.ok.mod.kin hk hall (thn (hkw.run pos pins s σ H _ I h) fun ws s2 ⟨zs, H2, I2, rz, l2, q2⟩ => ⟨I2.kIn, ?_⟩) hpl
  rw [hks]
  exact run_fnN F hr hb hx I2 (.nil : Vals [] []) rz rfl l2 q2
end
/-! ### defs that ask that nothing is being shown (repr's guards) -/
structure FnG (P : Program) (w : World) (K : PySem.W.Frag) (mg : Str → Option Value) (base : Heap) (k : Nat) (f : Addr) (fd : FuncData) (ps : List Str) (sp : Sp) : Prop where
  len : ∀ vs H Q E, sp vs H Q E → vs.length = ps.length
  run : ∀ (A : Around) (outer : List Env) (s : Shared) (H : Hp) (args : Args) (us : List Value) (vs : List V) (Q : VK) (E : XK), Room k A → A.guards = some [] → Env0 P w K mg base A outer s H → BindsTo s fd args (ps.zip us) → Vals vs us → sp vs H Q E →
    codeAny (model P w) A (.call (.ref f) args) (CR CX0 outer P w H s Q E) s
section
variable {P : Program} {w : World} {K : PySem.W.Frag} {mg : Str → Option Value} {base : Heap} {k : Nat} {x qual : Str} {params : Arguments} {body : List Stmt} {scope : Scope} {dvs : List V} {kws : List (Str × V)} {f : Addr} {fd : FuncData} {N ps : List Str} {sp : Sp}
theorem FnG.of (F : FunD K x qual params body scope dvs kws f fd) (S : FnScope N ps scope) (len : ∀ vs H Q E, sp vs H Q E → vs.length = ps.length)
    (hbody : ∀ (cdv : Value) (A : Around) (outer : List Env) (s : Shared) (H : Hp) (vs : List V) (Q : VK) (E : XK), Room k (A.deeper (envOfC qual scope s.heap.objs.size f cdv)) → (A.deeper (envOfC qual scope s.heap.objs.size f cdv)).guards = some [] → sp vs H Q E →
      ∃ t, PSs (cxOf CX0 P w K mg base N qual scope f cdv A outer s H E).nox body t ∧ t { nx := fun _ H' => Q .non H', rt := Q } (start N vs) H) : FnG P w K mg base (k + 1) f fd ps sp := by
  obtain ⟨oc, od, dV, kV, doc, pm, an, cdv, ct, osl, rfl, lk, hcd, _, _⟩ := F.ex
  refine ⟨len, fun A outer s H args us vs Q E hr hgd e0 hb r hsp => ?_⟩
  have hl := len _ _ _ _ hsp
  have KX : K.In s.heap := e0.mod.kin.keeps fun b o e => (e0.bs b o e).1
  have lim : s.heap.NoLimit := e0.mod.nolimit.keeps fun b o e => (e0.bs b o e).1
  have hkind : ∀ y ∈ ps.zip us, scope.names.lookup y.1 = some .local ∨ (scope.names.lookup y.1 = some .cell ∧ ((cellsFrom (s.heap.objs.size + 1) scope.names []).lookup y.1).isSome = true) := fun ⟨n, v⟩ hy => by
    rcases S.par n (List.of_mem_zip hy).1 with q | q
    · exact .inl q
    · exact .inr ⟨q, PySem.W.cellsFrom_some _ _ _ (.inl q)⟩
  refine codeAny_call_function hr.depth (KX _ _ lk) rfl S.co S.gen rfl (PySem.W.codeRec_of KX hcd) (hb _ _ _ _ ?_)
  refine wpAny_newFunctionEnv_cells S.kind hkind fun env he s1 x => ?_
  subst he
  refine ⟨lim.keeps x.toInCall.keep, codeAny_func ?_⟩
  obtain ⟨t, ht, hq⟩ := hbody cdv A outer s H vs Q E (hr.deeper _) hgd hsp
  have I : Inv (cxOf CX0 P w K mg base N qual scope f cdv A outer s H E) [] (start N vs) H s1 := inv_start S hr.hd e0 hl r x
  refine wpAny_mono (ht.nox.run [] s1 (start N vs) H _ I hq) (fun fl s' hs => ?_) fun e s' hs => hs
  cases fl with
  | ret u =>
    obtain ⟨v, σ', H', J, rv, q⟩ := hs
    exact ⟨v, H', J.os, J.bare, J.base, J.hok, rv, q⟩
  | next =>
    obtain ⟨σ', H', J, q⟩ := hs
    exact ⟨.non, H', J.os, J.bare, J.base, J.hok, rfl, q⟩
  | brk =>
    obtain ⟨_, _, _, q⟩ := hs
    exact False.elim q
  | cont =>
    obtain ⟨_, _, _, q⟩ := hs
    exact False.elim q
end
section
variable {X : Cx} {k : Nat} {f : Addr} {fd : FuncData} {ps : List Str} {sp : Sp} {ds : List Value} {x : Str} {p pos : Pos} {e : Expr} {es : List Expr} {t : TA}
theorem pe_callG (F : FnG X.prog X.w X.K X.mg X.base k f fd ps sp) (hr : Room k X.A) (hgd : X.A.guards = some []) (hg : Gl X x) (hm : X.mg x = some (.ref f)) (hk : PySem.W.keepIn X.K (.ref f) = true) (hb : Binds X.K fd ps [])
    (ha : PA X (e :: es) t) (hdb : (x == ("__debug__" : Str)) = false := by decide) (he : starEach (e :: es) X.env = (false, eval e X.env) :: starEach es X.env := by rfl) (hpl : (backTo pos (starEach es X.env)).any (·.1) = false := by rfl) :
    PE X (.Call (.Name x p) (e :: es) [] pos) (tCall sp [] E0 t) := by
  refine ⟨fun pins s σ H Q I h => ?_⟩
  refine wpAny_Call_Name_kw (ld_glob I hg hm ?_ hdb)
  refine PySem.W.callWith_K (h₀ := X.base) I.ok.mod.kin hk (thn (ha.run pos pins s σ H _ I h) fun us s2 ⟨vs, H2, I2, r, q⟩ => ⟨I2.kIn, ?_⟩) he hpl
  have q' : sp (vs ++ []) H2 Q E0 := q
  rw [List.append_nil] at q'
  have hl : (us ++ []).length = ps.length := by rw [List.append_nil, ← r.length]; exact F.len _ _ _ _ q'
  have hbt := hb s2 us I2.kIn hl
  rw [List.append_nil] at hbt
  refine wpAny_call (codeAny_mono (F.run X.A X.stack s2 H2 ⟨us, []⟩ us vs Q E0 hr hgd I2.env0 hbt r q') fun r s' hq => ?_)
  cases r with
  | error e => exact False.elim hq
  | ok fl =>
    cases fl with
    | ret u => exact I2.after hq
    | next => exact False.elim hq
    | brk => exact False.elim hq
    | cont => exact False.elim hq
end
mutual
theorem plain_of : ∀ d : PyData, d.hasDict = false → d.plain = true
  | .none, _ => rfl
  | .bool _, _ => rfl
  | .int _, _ => rfl
  | .str _, _ => rfl
  | .list xs, h => by
    simp only [PyData.plain]
    exact plainAll_of xs (by simpa [PyData.hasDict] using h)
  | .tuple xs, h => by
    simp only [PyData.plain]
    exact plainAll_of xs (by simpa [PyData.hasDict] using h)
  | .dict _, h => nomatch h
theorem plainAll_of : ∀ xs : List PyData, PyData.hasDictAll xs = false → PyData.plainAll xs = true
  | [], _ => rfl
  | x :: xs, h => by
    simp only [PyData.hasDictAll, Bool.or_eq_false_iff] at h
    simp only [PyData.plainAll, plain_of x h.1, plainAll_of xs h.2, Bool.and_self]
end
section
variable {X : Cx}
def rEqP (K : PySem.W.Frag) : R2 := fun x y H Q => ∃ d e, Dp K H x d ∧ Dp K H y e ∧ d.hasDict = false ∧ e.hasDict = false ∧ min d.depth e.depth ≤ 64 ∧ Q (.bl (PyData.eqv d e)) H
def rNeP (K : PySem.W.Frag) : R2 := fun x y H Q => ∃ d e, Dp K H x d ∧ Dp K H y e ∧ d.hasDict = false ∧ e.hasDict = false ∧ min d.depth e.depth ≤ 64 ∧ Q (.bl (!PyData.eqv d e)) H
theorem op_eqP (hu : X.A.units + 64 < cLine) : OpR X (compareOp .Eq) (rEqP X.K) := by
  intro pins s σ H x y v u Q I rx ry h
  obtain ⟨d, e, hd, he, sd, se, hm, q⟩ := h
  obtain ⟨as, r1⟩ := Dp.reads I d x v hd rx
  obtain ⟨bs, r2⟩ := Dp.reads I e y u he ry
  exact SeqAt.eq_plain r1 r2 (plain_of d sd) (plain_of e se) (by omega) ⟨.bl _, H, I, rfl, q⟩
theorem op_neP (hu : X.A.units + 64 < cLine) : OpR X (compareOp .NotEq) (rNeP X.K) := by
  intro pins s σ H x y v u Q I rx ry h
  obtain ⟨d, e, hd, he, sd, se, hm, q⟩ := h
  obtain ⟨as, r1⟩ := Dp.reads I d x v hd rx
  obtain ⟨bs, r2⟩ := Dp.reads I e y u he ry
  exact SeqAt.ne_plain r1 r2 (plain_of d sd) (plain_of e se) (by omega) ⟨.bl _, H, I, rfl, q⟩
end
end Dw
set_option Elab.async false
set_option linter.all false
set_option maxRecDepth 100000
set_option maxHeartbeats 1000000
/-! Data: what a value stands for, away from the objects that are being changed (hs). -/
namespace Dw
open PySem PySem.Spec PyProof.Rows L2
abbrev Ex := Evl.Ex
abbrev St := L2.St
/-! ### the heap without the objects that are being changed -/
def cut (hs : List Addr) (H : Hp) : Hp := fun a => if a ∈ hs then none else H a
def Hid (hs : List Addr) (H : Hp) : Prop := ∀ a ∈ hs, H a ≠ none
section
variable {hs ks : List Addr} {H H' H2 : Hp} {a p : Addr} {o u : HO}
theorem cut_some (h : cut hs H a = some o) : a ∉ hs ∧ H a = some o := by
  unfold cut at h
  by_cases m : a ∈ hs
  · rw [if_pos m] at h; cases h
  · rw [if_neg m] at h; exact ⟨m, h⟩
theorem cut_of (m : a ∉ hs) (h : H a = some o) : cut hs H a = some o := by
  unfold cut; rw [if_neg m]; exact h
theorem cut_nil : cut [] H = H := by funext a; unfold cut; rw [if_neg (by simp)]
theorem _root_.Evl.Ex.cut (e : Ex H H') : Ex (Dw.cut hs H) (Dw.cut hs H') := fun a o h => by
  obtain ⟨m, h⟩ := cut_some h
  exact cut_of m (e a o h)
theorem cut_sub (h : ∀ a ∈ ks, a ∈ hs) : Ex (cut hs H) (cut ks H) := fun a o q => by
  obtain ⟨m, q⟩ := cut_some q
  exact cut_of (fun z => m (h a z)) q
/-- an object that is hidden may change -/
theorem cut_upd (m : p ∈ hs) : cut hs (upd H p o) = cut hs H := by
  funext a
  unfold cut
  by_cases h : a ∈ hs
  · rw [if_pos h, if_pos h]
  · rw [if_neg h, if_neg h, upd_ne (fun z => h (by rw [z]; exact m))]
/-- an address that is free may be hidden -/
theorem cut_cons (h : H p = none) : cut (p :: hs) H = cut hs H := by
  funext a
  unfold cut
  by_cases e : a = p
  · rw [if_pos (by simp [e]), e, h]
    split <;> rfl
  · by_cases m : a ∈ hs
    · rw [if_pos (by simp [m]), if_pos m]
    · rw [if_neg (by simp [m, e]), if_neg m]
theorem Hid.mono (h : Hid hs H) (e : Ex H H') : Hid hs H' := fun a m => by
  cases q : H a with
  | none => exact absurd q (h a m)
  | some o => rw [e a o q]; exact fun z => nomatch z
theorem Hid.nil : Hid [] H := fun a m => by cases m
theorem Hid.notin (h : Hid hs H) (q : H p = none) : p ∉ hs := fun m => h p m q
theorem Hid.upd (h : Hid hs H) : Hid hs (upd H p o) := fun a m => by
  unfold L2.upd
  split
  · exact fun z => nomatch z
  · exact h a m
theorem Hid.cons (h : Hid hs H) (q : H p ≠ none) : Hid (p :: hs) H := fun a m => by
  rcases List.mem_cons.mp m with e | m
  · rw [e]; exact q
  · exact h a m
theorem Hid.new (h : Hid hs H) : Hid (p :: hs) (L2.upd H p o) := h.upd.cons (by rw [upd_same]; exact fun z => nomatch z)
end
/-! ### what a value stands for -/
def kD : Key → PyData
  | .inl i => .int i
  | .inr x => .str x
mutual
inductive R (K : PySem.W.Frag) (H : Hp) : V → PyData → Prop
  | non : R K H .non .none
  | bl (b : Bool) : R K H (.bl b) (.bool b)
  | int (i : Int) : R K H (.int i) (.int i)
  | str (x : Str) : R K H (.str x) (.str x)
  | tup {a : Addr} {xs : List V} {ds : List PyData} : PT K H a xs → RA K H xs ds → R K H (.ref a) (.tuple ds)
  | lst {a : Addr} {xs : List V} {ds : List PyData} : H a = some (.lst xs) → RA K H xs ds → R K H (.ref a) (.list ds)
  | dic {a : Addr} {kvs : List (Key × V)} {ps : List (PyData × PyData)} : H a = some (.dK kvs) → RK K H kvs ps → R K H (.ref a) (.dict ps)
inductive RA (K : PySem.W.Frag) (H : Hp) : List V → List PyData → Prop
  | nil : RA K H [] []
  | cons {v : V} {vs : List V} {d : PyData} {ds : List PyData} : R K H v d → RA K H vs ds → RA K H (v :: vs) (d :: ds)
inductive RK (K : PySem.W.Frag) (H : Hp) : List (Key × V) → List (PyData × PyData) → Prop
  | nil : RK K H [] []
  | cons {k : Key} {v : V} {kvs : List (Key × V)} {d : PyData} {ps : List (PyData × PyData)} : R K H v d → RK K H kvs ps → RK K H ((k, v) :: kvs) ((kD k, d) :: ps)
end
section
variable {K : PySem.W.Frag} {H H' H2 : Hp}
theorem PT.mono {a : Addr} {xs : List V} (e : Ex H H') (h : PT K H a xs) : PT K H' a xs := by
  rcases h with ⟨o, h, q⟩ | h
  · exact .inl ⟨o, e a _ h, q⟩
  · exact .inr h
mutual
theorem R.mono (e : Ex H H') : ∀ {v : V} {d : PyData}, R K H v d → R K H' v d
  | _, _, .non => .non
  | _, _, .bl b => .bl b
  | _, _, .int i => .int i
  | _, _, .str x => .str x
  | _, _, .tup h ha => .tup (h.mono e) (RA.mono e ha)
  | _, _, .lst h ha => .lst (e _ _ h) (RA.mono e ha)
  | _, _, .dic h ha => .dic (e _ _ h) (RK.mono e ha)
theorem RA.mono (e : Ex H H') : ∀ {vs : List V} {ds : List PyData}, RA K H vs ds → RA K H' vs ds
  | _, _, .nil => .nil
  | _, _, .cons h t => .cons (R.mono e h) (RA.mono e t)
theorem RK.mono (e : Ex H H') : ∀ {vs : List (Key × V)} {ds : List (PyData × PyData)}, RK K H vs ds → RK K H' vs ds
  | _, _, .nil => .nil
  | _, _, .cons h t => .cons (R.mono e h) (RK.mono e t)
end
theorem RA.length : ∀ {vs : List V} {ds : List PyData}, RA K H vs ds → vs.length = ds.length
  | _, _, .nil => rfl
  | _, _, .cons _ t => congrArg Nat.succ (RA.length t)
theorem RA.get : ∀ {vs : List V} {ds : List PyData} {i : Nat} {d : PyData}, RA K H vs ds → ds[i]? = some d → ∃ v, vs[i]? = some v ∧ R K H v d
  | _, _, _, _, .nil, e => by simp at e
  | _, _, 0, _, .cons h _, e => by simp at e; subst e; exact ⟨_, rfl, h⟩
  | _, _, i + 1, d, .cons _ t, e => by
    obtain ⟨v, h1, h2⟩ := RA.get (i := i) (d := d) t (by simpa using e)
    exact ⟨v, by simpa using h1, h2⟩
theorem RA.get' : ∀ {vs : List V} {ds : List PyData} {i : Nat} {v : V}, RA K H vs ds → vs[i]? = some v → ∃ d, ds[i]? = some d ∧ R K H v d
  | _, _, _, _, .nil, e => by simp at e
  | _, _, 0, _, .cons h _, e => by simp at e; subst e; exact ⟨_, rfl, h⟩
  | _, _, i + 1, d, .cons _ t, e => by
    obtain ⟨v, h1, h2⟩ := RA.get' (i := i) (v := d) t (by simpa using e)
    exact ⟨v, by simpa using h1, h2⟩
theorem RA.append : ∀ {vs ws : List V} {ds es : List PyData}, RA K H vs ds → RA K H ws es → RA K H (vs ++ ws) (ds ++ es)
  | _, _, _, _, .nil, h => h
  | _, _, _, _, .cons h t, h2 => .cons h (RA.append t h2)
theorem RA.snoc {vs : List V} {ds : List PyData} {v : V} {d : PyData} (h : RA K H vs ds) (h2 : R K H v d) : RA K H (vs ++ [v]) (ds ++ [d]) := h.append (.cons h2 .nil)
theorem RA.take : ∀ {vs : List V} {ds : List PyData} (n : Nat), RA K H vs ds → RA K H (vs.take n) (ds.take n)
  | _, _, 0, _ => .nil
  | _, _, _ + 1, .nil => .nil
  | _, _, n + 1, .cons h t => .cons h (RA.take n t)
theorem RA.drop : ∀ {vs : List V} {ds : List PyData} (n : Nat), RA K H vs ds → RA K H (vs.drop n) (ds.drop n)
  | _, _, 0, h => h
  | _, _, _ + 1, .nil => .nil
  | _, _, n + 1, .cons _ t => RA.drop n t
theorem RA.zip_mem : ∀ {vs : List V} {ds : List PyData}, RA K H vs ds → ∀ p ∈ vs.zip ds, R K H p.1 p.2
  | _, _, .nil, p, hp => by cases hp
  | _, _, .cons h t, p, hp => by
    rcases List.mem_cons.mp hp with e | hp
    · rw [e]; exact h
    · exact RA.zip_mem t p hp
theorem RA.of_pairs : ∀ {ps : List (V × PyData)}, (∀ p ∈ ps, R K H p.1 p.2) → RA K H (ps.map (·.1)) (ps.map (·.2))
  | [], _ => .nil
  | p :: ps, h => .cons (h p List.mem_cons_self) (RA.of_pairs fun q hq => h q (List.mem_cons_of_mem _ hq))
theorem RA.ints : ∀ {vs : List V} {is : List Int}, RA K H vs (is.map .int) → vs = is.map V.int
  | _, [], h => by cases h; rfl
  | _, i :: is, h => by
    have h' : RA K H _ (.int i :: is.map .int) := h
    cases h' with
    | cons h1 h2 =>
      cases h1
      rw [RA.ints h2]; rfl
theorem RA.strs : ∀ {vs : List V} {xs : List Str}, RA K H vs (xs.map .str) → vs = xs.map V.str
  | _, [], h => by cases h; rfl
  | _, i :: is, h => by
    have h' : RA K H _ (.str i :: is.map .str) := h
    cases h' with
    | cons h1 h2 =>
      cases h1
      rw [RA.strs h2]; rfl
theorem RA.bools : ∀ {vs : List V} {xs : List Bool}, RA K H vs (xs.map .bool) → vs = xs.map V.bl
  | _, [], h => by cases h; rfl
  | _, i :: is, h => by
    have h' : RA K H _ (.bool i :: is.map .bool) := h
    cases h' with
    | cons h1 h2 =>
      cases h1
      rw [RA.bools h2]; rfl
theorem RA.of_ints : ∀ (is : List Int), RA K H (is.map V.int) (is.map .int)
  | [] => .nil
  | i :: is => .cons (.int i) (RA.of_ints is)
theorem RA.of_strs : ∀ (is : List Str), RA K H (is.map V.str) (is.map .str)
  | [] => .nil
  | i :: is => .cons (.str i) (RA.of_strs is)
/-! no dict within -/
mutual
theorem R.dp : ∀ {v : V} {d : PyData}, d.hasDict = false → R K H v d → Dp K H v d
  | _, _, _, .non => .non
  | _, _, _, .bl b => .bl b
  | _, _, _, .int i => .int i
  | _, _, _, .str x => .str x
  | _, _, z, .tup h ha => .tup h.sq (RA.dp (by simpa [PyData.hasDict] using z) ha)
  | _, _, z, .lst h ha => .lst (.inl (.inl h)) (RA.dp (by simpa [PyData.hasDict] using z) ha)
  | _, _, z, .dic h ha => by simp [PyData.hasDict] at z
theorem RA.dp : ∀ {vs : List V} {ds : List PyData}, PyData.hasDictAll ds = false → RA K H vs ds → DpAll K H vs ds
  | _, _, _, .nil => .nil
  | _, _, z, .cons h t => by
    simp only [PyData.hasDictAll, Bool.or_eq_false_iff] at z
    exact .cons (R.dp z.1 h) (RA.dp z.2 t)
end
end
/-! ### slots -/
/-- a slot: a datum, or the very value -/
inductive SD where
  | d (x : PyData)
  | v (x : V)
abbrev Dl := List (Option SD)
def SlOk (K : PySem.W.Frag) (H : Hp) : SD → V → Prop
  | .d x, v => R K H v x
  | .v x, v => v = x
structure Sl (K : PySem.W.Frag) (H : Hp) (σ : St) (δ : Dl) : Prop where
  len : σ.length = δ.length
  at_ : ∀ (i : Nat) (d : SD), δ[i]? = some (some d) → ∃ v, σ[i]? = some (some v) ∧ SlOk K H d v
section
variable {K : PySem.W.Frag} {H H' : Hp} {σ : St} {δ δ' : Dl}
theorem SlOk.mono (e : Ex H H') {d : SD} {v : V} (h : SlOk K H d v) : SlOk K H' d v := by
  cases d with
  | d x => exact R.mono e h
  | v x => exact h
theorem Sl.mono (e : Ex H H') (h : Sl K H σ δ) : Sl K H' σ δ := ⟨h.len, fun i d q => let ⟨v, h1, h2⟩ := h.at_ i d q; ⟨v, h1, h2.mono e⟩⟩
theorem Sl.set (h : Sl K H σ δ) (i : Nat) {d : SD} {v : V} (r : SlOk K H d v) : Sl K H (σ.set i (some v)) (δ.set i (some d)) := by
  refine ⟨by rw [List.length_set, List.length_set, h.len], fun j e q => ?_⟩
  by_cases hj : j = i
  · subst hj
    have hl : j < δ.length := by
      have := (List.getElem?_eq_some_iff.mp q).1
      simpa using this
    rw [List.getElem?_set_self hl] at q
    cases q
    exact ⟨v, List.getElem?_set_self (by rw [h.len]; exact hl), r⟩
  · rw [List.getElem?_set_ne (Ne.symm hj)] at q ⊢
    exact h.at_ j e q
theorem Sl.weak (h : Sl K H σ δ) (hl : δ'.length = δ.length) (w : ∀ (i : Nat) (d : SD), δ'[i]? = some (some d) → δ[i]? = some (some d)) : Sl K H σ δ' := ⟨h.len.trans hl.symm, fun i d q => h.at_ i d (w i d q)⟩
def wipeD (δ : Dl) : List Nat → Dl
  | [] => δ
  | v :: vs => (wipeD δ vs).set v none
theorem Sl.unset (h : Sl K H σ δ) (i : Nat) (x : Option V) : Sl K H (σ.set i x) (δ.set i none) := by
  refine ⟨by rw [List.length_set, List.length_set, h.len], fun j e q => ?_⟩
  by_cases hj : j = i
  · subst hj
    by_cases hl : j < δ.length
    · rw [List.getElem?_set_self hl] at q; cases q
    · rw [List.getElem?_eq_none (by simpa using hl)] at q; cases q
  · rw [List.getElem?_set_ne (Ne.symm hj)] at q ⊢
    exact h.at_ j e q
theorem Sl.wipe (h : Sl K H σ δ) : ∀ vs : List Nat, Sl K H (L2.wipe σ vs) (wipeD δ vs)
  | [] => h
  | v :: vs => (Sl.wipe h vs).unset v none
theorem Sl.start {vs : List V} {ds : List PyData} (N : List Str) (h : RA K H vs ds) : Sl K H (start N vs) (ds.map (fun d => some (.d d)) ++ List.replicate (N.length - ds.length) none) := by
  have hl := h.length
  refine ⟨by simp [L2.start, hl], fun i d q => ?_⟩
  by_cases hi : i < ds.length
  · rw [List.getElem?_append_left (by simpa using hi), List.getElem?_map] at q
    cases e : ds[i]? with
    | none => rw [e] at q; cases q
    | some d0 =>
      rw [e] at q
      cases q
      obtain ⟨v, h1, h2⟩ := h.get e
      refine ⟨v, ?_, h2⟩
      unfold L2.start
      rw [List.getElem?_append_left (by simpa [hl] using hi), List.getElem?_map, h1]
      rfl
  · rw [List.getElem?_append_right (by simpa using hi), List.getElem?_replicate] at q
    split at q <;> cases q
end
end Dw
set_option Elab.async false
set_option linter.all false
set_option maxRecDepth 100000
set_option maxHeartbeats 1000000
/-! What readings come to, on data. -/
namespace Dw
open PySem PySem.Spec PyProof.Rows L2
def EvD (K : PySem.W.Frag) (te : TE) (δ : Dl) (d : PyData) : Prop := ∀ hs σ H, Hid hs H → Sl K (cut hs H) σ δ → ∀ Q : VK, (∀ v H2, Ex H H2 → R K (cut hs H2) v d → Q v H2) → te σ H Q
def EvB (K : PySem.W.Frag) (tt : TT) (δ : Dl) (b : Bool) : Prop := ∀ hs σ H, Hid hs H → Sl K (cut hs H) σ δ → ∀ Q : Bool → Hp → Prop, (∀ H2, Ex H H2 → Q b H2) → tt σ H Q
def EvA (K : PySem.W.Frag) (ta : TA) (δ : Dl) (ds : List PyData) : Prop := ∀ hs σ H, Hid hs H → Sl K (cut hs H) σ δ → ∀ Q : List V → Hp → Prop, (∀ vs H2, Ex H H2 → RA K (cut hs H2) vs ds → Q vs H2) → ta σ H Q
def EvO (K : PySem.W.Frag) (to : TO) (δ : Dl) (o : Option Int) : Prop := ∀ hs σ H, Hid hs H → Sl K (cut hs H) σ δ → ∀ Q : Option Int → Hp → Prop, (∀ H2, Ex H H2 → Q o H2) → to σ H Q
/-- a two-place operation on data; a call on data -/
def RV (K : PySem.W.Frag) (r : R2) (x y z : PyData) : Prop := ∀ hs H v u, Hid hs H → R K (cut hs H) v x → R K (cut hs H) u y → ∀ Q : VK, (∀ v' H2, Ex H H2 → R K (cut hs H2) v' z → Q v' H2) → r v u H Q
def RC (K : PySem.W.Frag) (r : List V → Hp → VK → Prop) (xs : List PyData) (z : PyData) : Prop := ∀ hs H vs, Hid hs H → RA K (cut hs H) vs xs → ∀ Q : VK, (∀ v' H2, Ex H H2 → R K (cut hs H2) v' z → Q v' H2) → r vs H Q
section
variable {K : PySem.W.Frag} {δ : Dl} {ta tb te tx : TE} {t u : TT} {d e x y z : PyData} {r : R2}
theorem Ex.rfl {H : Hp} : Ex H H := Evl.Ex.refl H
theorem R.full {hs : List Addr} {H : Hp} {v : V} {d : PyData} (h : R K (cut hs H) v d) : R K H v d := h.mono fun a o q => (cut_some q).2
theorem RA.full {hs : List Addr} {H : Hp} {v : List V} {d : List PyData} (h : RA K (cut hs H) v d) : RA K H v d := h.mono fun a o q => (cut_some q).2
theorem PT.full {hs : List Addr} {H : Hp} {a : Addr} {xs : List V} (h : PT K (cut hs H) a xs) : PT K H a xs := h.mono fun a o q => (cut_some q).2
theorem SqL.full {hs : List Addr} {H : Hp} {a : Addr} {xs : List V} (h : cut hs H a = some (.lst xs)) : SqL K H a xs := .inl (.inl (cut_some h).2)
/-! ### names, constants -/
theorem ev_var {i : Nat} (h : δ[i]? = some (some (.d d))) : EvD K (tVar i) δ d := fun hs σ H _ S Q q => by
  obtain ⟨v, h1, h2⟩ := S.at_ i _ h
  exact ⟨v, h1, q v H Ex.rfl h2⟩
theorem ev_int {i : Int} : EvD K (tC (.int i)) δ (.int i) := fun hs σ H _ S Q q => q _ H Ex.rfl (.int i)
theorem ev_str {x : Str} : EvD K (tC (.str x)) δ (.str x) := fun hs σ H _ S Q q => q _ H Ex.rfl (.str x)
theorem ev_non : EvD K (tC .non) δ .none := fun hs σ H _ S Q q => q _ H Ex.rfl .non
theorem ev_bl {b : Bool} : EvD K (tC (.bl b)) δ (.bool b) := fun hs σ H _ S Q q => q _ H Ex.rfl (.bl b)
theorem EvD.to (h : EvD K te δ d) (q : d = e) : EvD K te δ e := q ▸ h
theorem EvB.to {b c : Bool} (h : EvB K t δ b) (q : b = c) : EvB K t δ c := q ▸ h
/-! ### operators -/
theorem ev_op (ha : EvD K ta δ x) (hb : EvD K tb δ y) (hr : RV K r x y z) : EvD K (tOp r ta tb) δ z := fun hs σ H hh S Q q =>
  ha hs σ H hh S _ fun v H2 e2 r2 => hb hs σ H2 (hh.mono e2) (S.mono e2.cut) _ fun u H3 e3 r3 => hr hs H3 v u (hh.mono (e2.trans e3)) (r2.mono e3.cut) r3 Q fun v' H4 e4 r4 => q v' H4 ((e2.trans e3).trans e4) r4
theorem rv_I0 {g : Int → Int → V} {i j : Int} (hg : ∀ H, R K H (g i j) z) : RV K (rI0 g) (.int i) (.int j) z := fun hs H v u _ r1 r2 Q q => by
  cases r1; cases r2
  exact ⟨i, j, rfl, rfl, q _ H Ex.rfl (hg _)⟩
theorem rv_I {C : Int → Int → Prop} {g : Int → Int → V} {i j : Int} (hc : C i j) (hg : ∀ H, R K H (g i j) z) : RV K (rI C g) (.int i) (.int j) z := fun hs H v u _ r1 r2 Q q => by
  cases r1; cases r2
  exact ⟨i, j, rfl, rfl, hc, q _ H Ex.rfl (hg _)⟩
theorem ev_add {i j : Int} (ha : EvD K ta δ (.int i)) (hb : EvD K tb δ (.int j)) : EvD K (tOp (rI0 fun i j => .int (i + j)) ta tb) δ (.int (i + j)) := ev_op ha hb (rv_I0 fun _ => .int _)
theorem ev_sub {i j : Int} (ha : EvD K ta δ (.int i)) (hb : EvD K tb δ (.int j)) : EvD K (tOp (rI0 fun i j => .int (i - j)) ta tb) δ (.int (i - j)) := ev_op ha hb (rv_I0 fun _ => .int _)
theorem ev_lt {i j : Int} (ha : EvD K ta δ (.int i)) (hb : EvD K tb δ (.int j)) : EvD K (tOp (rI0 fun i j => .bl (decide (i < j))) ta tb) δ (.bool (decide (i < j))) := ev_op ha hb (rv_I0 fun _ => .bl _)
theorem ev_le {i j : Int} (ha : EvD K ta δ (.int i)) (hb : EvD K tb δ (.int j)) : EvD K (tOp (rI0 fun i j => .bl (decide (i ≤ j))) ta tb) δ (.bool (decide (i ≤ j))) := ev_op ha hb (rv_I0 fun _ => .bl _)
theorem ev_gt {i j : Int} (ha : EvD K ta δ (.int i)) (hb : EvD K tb δ (.int j)) : EvD K (tOp (rI0 fun i j => .bl (decide (j < i))) ta tb) δ (.bool (decide (j < i))) := ev_op ha hb (rv_I0 fun _ => .bl _)
theorem ev_ge {i j : Int} (ha : EvD K ta δ (.int i)) (hb : EvD K tb δ (.int j)) : EvD K (tOp (rI0 fun i j => .bl (decide (j ≤ i))) ta tb) δ (.bool (decide (j ≤ i))) := ev_op ha hb (rv_I0 fun _ => .bl _)
theorem ev_eq (ha : EvD K ta δ x) (hb : EvD K tb δ y) (n1 : x.hasDict = false) (n2 : y.hasDict = false) (hm : min x.depth y.depth ≤ 64) : EvD K (tOp (rEqP K) ta tb) δ (.bool (PyData.eqv x y)) := ev_op ha hb fun hs H v u _ r1 r2 Q q =>
  ⟨x, y, r1.full.dp n1, r2.full.dp n2, n1, n2, hm, q _ H Ex.rfl (.bl _)⟩
theorem ev_ne (ha : EvD K ta δ x) (hb : EvD K tb δ y) (n1 : x.hasDict = false) (n2 : y.hasDict = false) (hm : min x.depth y.depth ≤ 64) : EvD K (tOp (rNeP K) ta tb) δ (.bool (!PyData.eqv x y)) := ev_op ha hb fun hs H v u _ r1 r2 Q q =>
  ⟨x, y, r1.full.dp n1, r2.full.dp n2, n1, n2, hm, q _ H Ex.rfl (.bl _)⟩
theorem ev_eqI {i j : Int} (ha : EvD K ta δ (.int i)) (hb : EvD K tb δ (.int j)) : EvD K (tOp (rEqP K) ta tb) δ (.bool (decide (i = j))) := ev_eq ha hb rfl rfl (by simp [PyData.depth])
theorem ev_neI {i j : Int} (ha : EvD K ta δ (.int i)) (hb : EvD K tb δ (.int j)) : EvD K (tOp (rNeP K) ta tb) δ (.bool (!decide (i = j))) := ev_ne ha hb rfl rfl (by simp [PyData.depth])
theorem beqStr (i j : Str) : (i == j) = decide (i = j) := by by_cases h : i = j <;> simp [h]
theorem ev_eqS {i j : Str} (ha : EvD K ta δ (.str i)) (hb : EvD K tb δ (.str j)) : EvD K (tOp (rEqP K) ta tb) δ (.bool (decide (i = j))) := by
  have := ev_eq ha hb rfl rfl (by simp [PyData.depth])
  rwa [show PyData.eqv (.str i) (.str j) = (i == j) from rfl, beqStr] at this
theorem ev_neS {i j : Str} (ha : EvD K ta δ (.str i)) (hb : EvD K tb δ (.str j)) : EvD K (tOp (rNeP K) ta tb) δ (.bool (!decide (i = j))) := by
  have := ev_ne ha hb rfl rfl (by simp [PyData.depth])
  rwa [show PyData.eqv (.str i) (.str j) = (i == j) from rfl, beqStr] at this
theorem ev_eqT0 {ds : List PyData} (ha : EvD K ta δ (.tuple ds)) (hb : EvD K tb δ (.tuple [])) (n1 : (PyData.tuple ds).hasDict = false) : EvD K (tOp (rEqP K) ta tb) δ (.bool ds.isEmpty) := by
  have := ev_eq ha hb n1 rfl (by simp [PyData.depth, PyData.depthAll])
  rwa [show PyData.eqv (.tuple ds) (.tuple []) = ds.isEmpty from by cases ds <;> rfl] at this
theorem ev_neT0 {ds : List PyData} (ha : EvD K ta δ (.tuple ds)) (hb : EvD K tb δ (.tuple [])) (n1 : (PyData.tuple ds).hasDict = false) : EvD K (tOp (rNeP K) ta tb) δ (.bool (!ds.isEmpty)) := by
  have := ev_ne ha hb n1 rfl (by simp [PyData.depth, PyData.depthAll])
  rwa [show PyData.eqv (.tuple ds) (.tuple []) = ds.isEmpty from by cases ds <;> rfl] at this
theorem ev_eqL0 {ds : List PyData} (ha : EvD K ta δ (.list ds)) (hb : EvD K tb δ (.list [])) (n1 : (PyData.list ds).hasDict = false) : EvD K (tOp (rEqP K) ta tb) δ (.bool ds.isEmpty) := by
  have := ev_eq ha hb n1 rfl (by simp [PyData.depth, PyData.depthAll])
  rwa [show PyData.eqv (.list ds) (.list []) = ds.isEmpty from by cases ds <;> rfl] at this
theorem ev_neL0 {ds : List PyData} (ha : EvD K ta δ (.list ds)) (hb : EvD K tb δ (.list [])) (n1 : (PyData.list ds).hasDict = false) : EvD K (tOp (rNeP K) ta tb) δ (.bool (!ds.isEmpty)) := by
  have := ev_ne ha hb n1 rfl (by simp [PyData.depth, PyData.depthAll])
  rwa [show PyData.eqv (.list ds) (.list []) = ds.isEmpty from by cases ds <;> rfl] at this
def isNon : PyData → Bool
  | .none => true
  | _ => false
theorem R.non_iff {H : Hp} {v : V} (h : R K H v d) : decide (v = .non) = isNon d := by cases h <;> simp [isNon]
theorem ev_isN (ha : EvD K ta δ x) : EvD K (tIsN ta) δ (.bool (isNon x)) := fun hs σ H hh S Q q =>
  ha hs σ H hh S _ fun v H2 e2 r2 => by
    show Q (.bl (decide (v = .non))) H2
    rw [r2.non_iff]
    exact q _ H2 e2 (.bl _)
theorem ev_notN (ha : EvD K ta δ x) : EvD K (tNotN ta) δ (.bool (!isNon x)) := fun hs σ H hh S Q q =>
  ha hs σ H hh S _ fun v H2 e2 r2 => by
    show Q (.bl (!decide (v = .non))) H2
    rw [r2.non_iff]
    exact q _ H2 e2 (.bl _)
/-! ### and, or, not, if -/
theorem eb_test {b : Bool} (h : EvD K te δ (.bool b)) : EvB K (tTest te) δ b := fun hs σ H hh S Q q => h hs σ H hh S _ fun v H2 e2 r2 => by
  cases r2
  exact ⟨b, rfl, q H2 e2⟩
theorem eb_B {b : Bool} (h : EvD K te δ (.bool b)) : EvB K (tB te) δ b := fun hs σ H hh S Q q => h hs σ H hh S _ fun v H2 e2 r2 => by
  cases r2
  exact ⟨b, rfl, q H2 e2⟩
theorem eb_and {a b : Bool} (h1 : EvB K t δ a) (h2 : a = true → EvB K u δ b) : EvB K (tAnd t u) δ (a && b) := fun hs σ H hh S Q q => h1 hs σ H hh S _ fun H2 e2 => by
  cases a with
  | true => exact h2 rfl hs σ H2 (hh.mono e2) (S.mono e2.cut) Q fun H3 e3 => q H3 (e2.trans e3)
  | false => exact q H2 e2
theorem eb_or {a b : Bool} (h1 : EvB K t δ a) (h2 : a = false → EvB K u δ b) : EvB K (tOr t u) δ (a || b) := fun hs σ H hh S Q q => h1 hs σ H hh S _ fun H2 e2 => by
  cases a with
  | false => exact h2 rfl hs σ H2 (hh.mono e2) (S.mono e2.cut) Q fun H3 e3 => q H3 (e2.trans e3)
  | true => exact q H2 e2
theorem eb_not {a : Bool} (h1 : EvB K t δ a) : EvB K (tNot t) δ (!a) := fun hs σ H hh S Q q => h1 hs σ H hh S _ fun H2 e2 => q H2 e2
theorem ev_andV {a b : Bool} (h1 : EvD K ta δ (.bool a)) (h2 : a = true → EvD K tb δ (.bool b)) : EvD K (tAndV ta tb) δ (.bool (a && b)) := fun hs σ H hh S Q q => h1 hs σ H hh S _ fun v H2 e2 r2 => by
  cases r2
  refine ⟨a, rfl, ?_⟩
  cases a with
  | true => exact h2 rfl hs σ H2 (hh.mono e2) (S.mono e2.cut) Q fun v H3 e3 r3 => q v H3 (e2.trans e3) r3
  | false => exact q _ H2 e2 (.bl _)
theorem ev_orV {a b : Bool} (h1 : EvD K ta δ (.bool a)) (h2 : a = false → EvD K tb δ (.bool b)) : EvD K (tOrV ta tb) δ (.bool (a || b)) := fun hs σ H hh S Q q => h1 hs σ H hh S _ fun v H2 e2 r2 => by
  cases r2
  refine ⟨a, rfl, ?_⟩
  cases a with
  | false => exact h2 rfl hs σ H2 (hh.mono e2) (S.mono e2.cut) Q fun v H3 e3 r3 => q v H3 (e2.trans e3) r3
  | true => exact q _ H2 e2 (.bl _)
theorem ev_notV {a : Bool} (h1 : EvD K ta δ (.bool a)) : EvD K (tNotV ta) δ (.bool (!a)) := fun hs σ H hh S Q q => h1 hs σ H hh S _ fun v H2 e2 r2 => by
  cases r2
  exact ⟨a, rfl, q _ H2 e2 (.bl _)⟩
theorem ev_if {b : Bool} (h : EvB K t δ b) (h1 : b = true → EvD K ta δ d) (h2 : b = false → EvD K tb δ d) : EvD K (tIf t ta tb) δ d := fun hs σ H hh S Q q => h hs σ H hh S _ fun H2 e2 => by
  cases b with
  | true => exact h1 rfl hs σ H2 (hh.mono e2) (S.mono e2.cut) Q fun v H3 e3 r3 => q v H3 (e2.trans e3) r3
  | false => exact h2 rfl hs σ H2 (hh.mono e2) (S.mono e2.cut) Q fun v H3 e3 r3 => q v H3 (e2.trans e3) r3
/-! ### tuples, lists -/
theorem ea_nil : EvA K tNil δ [] := fun hs σ H _ _ Q q => q [] H Ex.rfl .nil
theorem ea_cons {tr : TA} {ds : List PyData} (h : EvD K ta δ x) (hr : EvA K tr δ ds) : EvA K (tCons ta tr) δ (x :: ds) := fun hs σ H hh S Q q =>
  h hs σ H hh S _ fun v H2 e2 r2 => hr hs σ H2 (hh.mono e2) (S.mono e2.cut) _ fun vs H3 e3 r3 => q (v :: vs) H3 (e2.trans e3) (.cons (r2.mono e3.cut) r3)
theorem new_R {hs : List Addr} {H : Hp} {xs : List V} {ds : List PyData} (hh : Hid hs H) (ra : RA K (cut hs H) xs ds) {Q : VK} (q : ∀ v H2, Ex H H2 → R K (cut hs H2) v (.tuple ds) → Q v H2) : NewT H xs Q := fun p o hp ho =>
  q _ _ (Evl.Ex.new hp) (.tup (.inl ⟨o, cut_of (hh.notin hp) upd_same, ho⟩) (ra.mono (Evl.Ex.new hp).cut))
theorem new_L {hs : List Addr} {H : Hp} {xs : List V} {ds : List PyData} (hh : Hid hs H) (ra : RA K (cut hs H) xs ds) {Q : VK} (q : ∀ v H2, Ex H H2 → R K (cut hs H2) v (.list ds) → Q v H2) : ∀ p, H p = none → Q (.ref p) (upd H p (.lst xs)) := fun p hp =>
  q _ _ (Evl.Ex.new hp) (.lst (cut_of (hh.notin hp) upd_same) (ra.mono (Evl.Ex.new hp).cut))
theorem ev_tup {tl : TA} {ds : List PyData} (h : EvA K tl δ ds) (hl : ds.length ≤ 10000) : EvD K (tTupF tl) δ (.tuple ds) := fun hs σ H hh S Q q =>
  h hs σ H hh S _ fun vs H2 e2 r2 => ⟨by rw [r2.length]; exact Nat.le_trans hl (by decide), new_R (hh.mono e2) r2 fun v H3 e3 r3 => q v H3 (e2.trans e3) r3⟩
theorem ev_lst {tl : TA} {ds : List PyData} (h : EvA K tl δ ds) (hl : ds.length ≤ 10000) : EvD K (tLst tl) δ (.list ds) := fun hs σ H hh S Q q =>
  h hs σ H hh S _ fun vs H2 e2 r2 => ⟨by rw [r2.length]; exact Nat.le_trans hl (by decide), new_L (hh.mono e2) r2 fun v H3 e3 r3 => q v H3 (e2.trans e3) r3⟩
theorem atI_RA {H : Hp} {vs : List V} {ds : List PyData} {i : Int} (ra : RA K H vs ds) (h : atI ds i = some d) : ∃ v, atI vs i = some v ∧ R K H v d := by
  unfold atI at h ⊢
  rw [ra.length]
  cases e : ixN ds.length i with
  | none => rw [e] at h; cases h
  | some j =>
    rw [e] at h
    exact ra.get h
theorem ev_ixT {ds : List PyData} {i : Int} (ha : EvD K ta δ (.tuple ds)) (hb : EvD K tb δ (.int i)) (h : atI ds i = some d) : EvD K (tOp (rIxT K) ta tb) δ d := ev_op ha hb fun hs H v u _ r1 r2 Q q => by
  cases r2
  cases r1 with
  | tup hp ra =>
    obtain ⟨w, h1, h2⟩ := atI_RA ra h
    exact ⟨_, _, i, w, rfl, rfl, hp.full.sq, h1, q w H Ex.rfl h2⟩
theorem ev_ixL {ds : List PyData} {i : Int} (ha : EvD K ta δ (.list ds)) (hb : EvD K tb δ (.int i)) (h : atI ds i = some d) : EvD K (tOp (rIxL K) ta tb) δ d := ev_op ha hb fun hs H v u _ r1 r2 Q q => by
  cases r2
  cases r1 with
  | lst hp ra =>
    obtain ⟨w, h1, h2⟩ := atI_RA ra h
    exact ⟨_, _, i, w, rfl, rfl, SqL.full hp, h1, q w H Ex.rfl h2⟩
theorem ev_ixS {x : Str} {i : Int} {c : Nat} (ha : EvD K ta δ (.str x)) (hb : EvD K tb δ (.int i)) (hl : x.length ≤ 10000) (h : atI x.cps.toList i = some c) : EvD K (tOp rIxS ta tb) δ (.str ⟨#[c]⟩) := ev_op ha hb fun hs H v u _ r1 r2 Q q => by
  cases r1; cases r2
  exact ⟨x, i, c, rfl, rfl, Nat.le_trans hl (by decide), h, q _ H Ex.rfl (.str _)⟩
theorem eo_none : EvO K tNoPart δ none := fun hs σ H _ _ Q q => q H Ex.rfl
theorem eo_some {i : Int} (h : EvD K te δ (.int i)) : EvO K (tPart te) δ (some i) := fun hs σ H hh S Q q => h hs σ H hh S _ fun v H2 e2 r2 => by
  cases r2
  exact ⟨i, rfl, q H2 e2⟩
def cutD {α : Type} (xs : List α) (lo hi : Option Int) : List α := (xs.drop (HT.sIx xs.length 0 lo)).take (HT.sIx xs.length xs.length hi - HT.sIx xs.length 0 lo)
theorem RA.cutV {H : Hp} {vs : List V} {ds : List PyData} (ra : RA K H vs ds) (lo hi : Option Int) : RA K H (L2.cutV vs lo hi) (cutD ds lo hi) := by
  unfold L2.cutV cutD
  rw [ra.length]
  exact (ra.drop _).take _
theorem sIx_le (n d : Nat) (o : Option Int) (hd : d ≤ n) : HT.sIx n d o ≤ n := by
  unfold HT.sIx
  split
  · exact hd
  · split <;> omega
theorem cutD_whole {α : Type} {xs : List α} {lo hi : Option Int} (h : HT.sIx xs.length 0 lo = 0 ∧ HT.sIx xs.length xs.length hi = xs.length) : cutD xs lo hi = xs := by
  unfold cutD
  rw [h.1, h.2, List.drop_zero, Nat.sub_zero, List.take_length]
theorem ev_slT {tl th : TO} {ds : List PyData} {lo hi : Option Int} (he : EvD K te δ (.tuple ds)) (hl : EvO K tl δ lo) (hh' : EvO K th δ hi) : EvD K (tSl (rSlF K) te tl th) δ (.tuple (cutD ds lo hi)) := fun hs σ H hh S Q q =>
  he hs σ H hh S _ fun v H2 e2 r2 => hl hs σ H2 (hh.mono e2) (S.mono e2.cut) _ fun H3 e3 => hh' hs σ H3 (hh.mono (e2.trans e3)) (S.mono (e2.trans e3).cut) _ fun H4 e4 => by
    have r4 := r2.mono (e3.trans e4).cut
    cases r4 with
    | @tup a xs _ hp ra =>
      have hH := hh.mono ((e2.trans e3).trans e4)
      refine ⟨_, xs, rfl, hp.full.sq, fun hw => ?_, fun _ => new_R hH (RA.cutV ra lo hi) fun v H5 e5 r5 => q v H5 (((e2.trans e3).trans e4).trans e5) r5⟩
      rw [ra.length] at hw
      refine q _ H4 ((e2.trans e3).trans e4) ?_
      rw [cutD_whole hw]
      exact .tup hp ra
theorem ev_catT {ds es : List PyData} (ha : EvD K ta δ (.tuple ds)) (hb : EvD K tb δ (.tuple es)) (hz : ds.length + es.length ≤ 10000) : EvD K (tOp (rCatF K) ta tb) δ (.tuple (ds ++ es)) := ev_op ha hb fun hs H v u hh r1 r2 Q q => by
  cases r1 with
  | @tup a xs _ hp ra =>
    cases r2 with
    | @tup b ys _ hp2 ra2 =>
      refine ⟨a, b, xs, ys, rfl, rfl, hp.full.sq, hp2.full.sq, ?_, fun e => ?_, fun _ e => ?_, fun _ _ => new_R hh (ra.append ra2) q⟩
      · rw [ra.length, ra2.length]; exact Nat.le_trans hz (by decide)
      · subst e
        cases ra
        exact q _ H Ex.rfl (.tup hp2 ra2)
      · subst e
        cases ra2
        rw [List.append_nil] at q
        exact q _ H Ex.rfl (.tup hp ra)
/-! ### calls of built-ins -/
theorem ev_cb {rr : List V → Hp → VK → Prop} {tl : TA} {ds : List PyData} (h : EvA K tl δ ds) (hr : RC K rr ds z) : EvD K (tCB rr tl) δ z := fun hs σ H hh S Q q =>
  h hs σ H hh S _ fun vs H2 e2 r2 => hr hs H2 vs (hh.mono e2) r2 Q fun v H3 e3 r3 => q v H3 (e2.trans e3) r3
theorem RA.one {H : Hp} {vs : List V} (h : RA K H vs [x]) : ∃ v, vs = [v] ∧ R K H v x := by
  cases h with
  | cons h t => cases t; exact ⟨_, rfl, h⟩
theorem RA.two {H : Hp} {vs : List V} (h : RA K H vs [x, y]) : ∃ v u, vs = [v, u] ∧ R K H v x ∧ R K H u y := by
  cases h with
  | cons h t =>
    obtain ⟨u, rfl, h2⟩ := t.one
    exact ⟨_, u, rfl, h, h2⟩
abbrev rLenAny (K : PySem.W.Frag) : List V → Hp → VK → Prop := fun xs H Q => ∃ x n, xs = [x] ∧ LenV K x H n ∧ Q (.int n) H
theorem ev_lenT {ds : List PyData} (ha : EvD K ta δ (.tuple ds)) : EvD K (tCB (rLenAny K) (tCons ta tNil)) δ (.int ds.length) := ev_cb (ea_cons ha ea_nil) fun hs H vs hh ra Q q => by
  obtain ⟨v, rfl, r⟩ := ra.one
  cases r with
  | @tup a xs _ hp ra => exact ⟨_, ds.length, rfl, .inr ⟨xs, hp.full.sq, ra.length.symm⟩, q _ H Ex.rfl (.int _)⟩
theorem ev_lenL {ds : List PyData} (ha : EvD K ta δ (.list ds)) : EvD K (tCB (rLenAny K) (tCons ta tNil)) δ (.int ds.length) := ev_cb (ea_cons ha ea_nil) fun hs H vs hh ra Q q => by
  obtain ⟨v, rfl, r⟩ := ra.one
  cases r with
  | @lst a xs _ hp ra => exact ⟨_, ds.length, rfl, .inl ⟨xs, SqL.full hp, ra.length.symm⟩, q _ H Ex.rfl (.int _)⟩
theorem ev_lenS {x : Str} (ha : EvD K ta δ (.str x)) (hl : x.length ≤ 10000) : EvD K (tCB (rLenAny K) (tCons ta tNil)) δ (.int x.length) := ev_cb (ea_cons ha ea_nil) fun hs H vs hh ra Q q => by
  obtain ⟨v, rfl, r⟩ := ra.one
  cases r
  exact ⟨_, x.length, rfl, ⟨Nat.le_trans hl (by decide), rfl⟩, q _ H Ex.rfl (.int _)⟩
theorem ev_tuple {ds : List PyData} (ha : EvD K ta δ (.list ds)) : EvD K (tCB (rTupF K) (tCons ta tNil)) δ (.tuple ds) := ev_cb (ea_cons ha ea_nil) fun hs H vs hh ra Q q => by
  obtain ⟨v, rfl, r⟩ := ra.one
  cases r with
  | @lst a xs _ hp ra => exact ⟨_, xs, rfl, .inl ⟨SqL.full hp, new_R hh ra q⟩⟩
/-- sorted(a list) -/
theorem ev_sorted {β : Type} (enc : β → PyData) {bs : List β} (ha : EvD K ta δ (.list (bs.map enc))) (hal : PySem.W.AllAlike (bs.map enc)) (hs : PySem.W.Sortable (bs.map enc)) (hn : ∀ b ∈ bs, (enc b).hasDict = false) (hd : ∀ b ∈ bs, (enc b).depth ≤ 20) :
    EvD K (tCB (rSortD K) (tCons ta tNil)) δ (.list ((bs.mergeSort (PySem.W.dataLe false enc)).map enc)) := ev_cb (ea_cons ha ea_nil) fun hs H vs hh ra Q q => by
  obtain ⟨v, rfl, r⟩ := ra.one
  cases r with
  | @lst a xs _ hp ra =>
    have hl := ra.length
    rw [List.length_map] at hl
    have hz : (xs.zip bs).length = bs.length := by rw [List.length_zip, hl, Nat.min_self]
    have e1 : ((xs.zip bs).map fun p => (p.1, enc p.2)).map (·.1) = xs := by
      rw [List.map_map]
      show (xs.zip bs).map Prod.fst = xs
      exact List.map_fst_zip (by omega)
    have e2 : ((xs.zip bs).map fun p => (p.1, enc p.2)).map (·.2) = bs.map enc := by
      rw [List.map_map]
      show (xs.zip bs).map (enc ∘ Prod.snd) = _
      rw [← List.map_map, List.map_snd_zip (by omega)]
    have hR : ∀ p ∈ (xs.zip bs).map (fun p => (p.1, enc p.2)), R K (cut hs H) p.1 p.2 := fun p hp => by
      refine RA.zip_mem ra p ?_
      obtain ⟨⟨v, b⟩, h1, rfl⟩ := List.mem_map.mp hp
      rw [List.zip_map_right]
      exact List.mem_map.mpr ⟨(v, b), h1, rfl⟩
    have hB : ∀ p ∈ (xs.zip bs).map (fun p => (p.1, enc p.2)), ∃ b ∈ bs, p.2 = enc b := fun p hp => by
      obtain ⟨⟨v, b⟩, h1, rfl⟩ := List.mem_map.mp hp
      exact ⟨b, (List.of_mem_zip h1).2, rfl⟩
    refine ⟨_, (xs.zip bs).map fun p => (p.1, enc p.2), rfl, by rw [e1]; exact SqL.full hp, fun p hp => ?_, by rw [e2]; exact hal, by rw [e2]; assumption, fun p hp => ?_, fun l hl' => ?_⟩
    · obtain ⟨b, hb, e⟩ := hB p hp
      exact (hR p hp).full.dp (by rw [e]; exact hn b hb)
    · obtain ⟨b, hb, e⟩ := hB p hp
      rw [e]; exact hd b hb
    · have key : ∀ (l : List (V × β)), ((l.map fun p => (p.1, enc p.2)).mergeSort (PySem.W.dataLe false (·.2))).map (·.2) = ((l.map (·.2)).mergeSort (PySem.W.dataLe false enc)).map enc := fun l => by
        have m1 := List.map_mergeSort (r := PySem.W.dataLe false fun p : V × β => enc p.2) (s := PySem.W.dataLe false fun p : V × PyData => p.2) (f := fun p : V × β => (p.1, enc p.2)) (l := l) (by intro a _ b _; rfl)
        have m2 := List.map_mergeSort (r := PySem.W.dataLe false fun p : V × β => enc p.2) (s := PySem.W.dataLe false enc) (f := fun p : V × β => p.2) (l := l) (by intro a _ b _; rfl)
        rw [← m1, ← m2, List.map_map, List.map_map]
        rfl
      have k2 := key (xs.zip bs)
      rw [List.map_snd_zip (by omega)] at k2
      refine q _ _ (Evl.Ex.new hl') (.lst (cut_of (hh.notin hl') upd_same) ?_)
      have ra2 := RA.of_pairs (K := K) (H := cut hs H) (ps := ((xs.zip bs).map fun p => (p.1, enc p.2)).mergeSort (PySem.W.dataLe false (·.2))) fun p hp => hR p (List.mem_mergeSort.mp hp)
      rw [k2] at ra2
      exact ra2.mono (Evl.Ex.new hl').cut
end
end Dw
set_option Elab.async false
set_option linter.all false
set_option maxRecDepth 100000
set_option maxHeartbeats 1000000
namespace Dw
open PySem PySem.Spec PyProof.Rows L2
/-! ### dicts as data -/
abbrev KDs := List (Key × PyData)
def eKD (kds : KDs) : PyData := .dict (kds.map fun p => (kD p.1, p.2))
def lkK (kds : KDs) (k : Key) : Option PyData := (kds.find? fun p => decide (p.1 = k)).map (·.2)
theorem kD_inj {k l : Key} (h : kD k = kD l) : k = l := by
  cases k <;> cases l <;> simp [kD] at h <;> simp [h]
section
variable {K : PySem.W.Frag} {H : Hp}
theorem RK.keys : ∀ {kvs : List (Key × V)} {kds : KDs}, RK K H kvs (kds.map fun p => (kD p.1, p.2)) → kvs.map (·.1) = kds.map (·.1)
  | kvs, [], h => by cases h; rfl
  | kvs, p :: kds, h => by
    rw [List.map_cons] at h
    generalize hk : kD p.1 = q at h
    cases h with
    | @cons k v kvs d ps h1 h2 =>
      rw [List.map_cons, List.map_cons, RK.keys h2, kD_inj hk]
theorem RK.val {k : Key} : ∀ {kvs : List (Key × V)} {kds : KDs}, RK K H kvs (kds.map fun p => (kD p.1, p.2)) → (∃ v d, valV kvs k = some v ∧ lkK kds k = some d ∧ R K H v d) ∨ (valV kvs k = none ∧ lkK kds k = none)
  | kvs, [], h => by cases h; exact .inr ⟨rfl, rfl⟩
  | kvs, p :: kds, h => by
    rw [List.map_cons] at h
    generalize hk : kD p.1 = q at h
    cases h with
    | @cons k2 v kvs d ps h1 h2 =>
      have e2 : k2 = p.1 := (kD_inj hk).symm
      subst e2
      by_cases e : p.1 = k
      · refine .inl ⟨v, p.2, valV_pos e, ?_, h1⟩
        unfold lkK
        rw [List.find?_cons, decide_eq_true e] <;> rfl
      · rcases RK.val (k := k) h2 with ⟨v', d', h3, h4, h5⟩ | ⟨h3, h4⟩
        · refine .inl ⟨v', d', by rw [valV_neg e]; exact h3, ?_, h5⟩
          unfold lkK at h4 ⊢
          rw [List.find?_cons, decide_eq_false e]; exact h4
        · refine .inr ⟨by rw [valV_neg e]; exact h3, ?_⟩
          unfold lkK at h4 ⊢
          rw [List.find?_cons, decide_eq_false e]; exact h4
theorem R.key {v : V} {k : Key} (h : R K H v (kD k)) : v = kV k := by
  cases k with
  | inl i => cases h; rfl
  | inr x => cases h; rfl
theorem R.of_key (k : Key) : R K H (kV k) (kD k) := by
  cases k with
  | inl i => exact .int i
  | inr x => exact .str x
theorem mergeK_nodup : ∀ (kvs acc : List (Key × V)), ((acc ++ kvs).map (·.1)).Nodup → mergeK acc kvs = acc ++ kvs
  | [], acc, _ => by rw [List.append_nil]; rfl
  | p :: kvs, acc, h => by
    have hn : (acc.any fun kv => decide (kv.1 = p.1)) = false := by
      rw [Bool.eq_false_iff]
      intro z
      obtain ⟨q, hq, e⟩ := List.any_eq_true.mp z
      have e' := of_decide_eq_true e
      rw [List.map_append, List.nodup_append] at h
      exact h.2.2 q.1 (List.mem_map.mpr ⟨q, hq, rfl⟩) p.1 (List.mem_map.mpr ⟨p, List.mem_cons_self, rfl⟩) e'
    have hp : putK acc p.1 p.2 = acc ++ [p] := by
      unfold putK
      rw [hn, if_neg Bool.false_ne_true]
    show mergeK (putK acc p.1 p.2) kvs = _
    rw [hp, mergeK_nodup kvs (acc ++ [p]) (by rw [List.append_assoc]; exact h), List.append_assoc]
    rfl
/-- items that are pairs -/
theorem RA.pairs : ∀ {vs : List V} {kds : KDs}, RA K H vs (kds.map fun p => .tuple [kD p.1, p.2]) → ∃ (ps : List Addr) (kvs : List (Key × V)), vs = ps.map V.ref ∧ Paired (fun p kv => SqT K H p [kV kv.1, kv.2]) ps kvs ∧ RK K H kvs (kds.map fun p => (kD p.1, p.2))
  | vs, [], h => by cases h; exact ⟨[], [], rfl, .nil, .nil⟩
  | vs, p :: kds, h => by
    rw [List.map_cons] at h
    cases h with
    | cons h1 h2 =>
      cases h1 with
      | @tup a xs _ hp ra =>
        obtain ⟨v, u, rfl, r1, r2⟩ := ra.two
        obtain ⟨ps, kvs, rfl, h3, h4⟩ := RA.pairs h2
        rw [r1.key] at hp
        exact ⟨a :: ps, (p.1, u) :: kvs, rfl, .cons hp.sq h3, .cons r2 h4⟩
end
section
variable {K : PySem.W.Frag} {δ : Dl} {ta tb te tx : TE} {t u : TT} {d e x y z : PyData} {r : R2}
theorem new_D {hs : List Addr} {H : Hp} {kvs : List (Key × V)} {ps : List (PyData × PyData)} (hh : Hid hs H) (ra : RK K (cut hs H) kvs ps) {Q : VK} (q : ∀ v H2, Ex H H2 → R K (cut hs H2) v (.dict ps) → Q v H2) : ∀ p, H p = none → Q (.ref p) (upd H p (.dK kvs)) := fun p hp =>
  q _ _ (Evl.Ex.new hp) (.dic (cut_of (hh.notin hp) upd_same) (ra.mono (Evl.Ex.new hp).cut))
theorem Paired.full {hs : List Addr} {H : Hp} : ∀ {ps : List Addr} {kvs : List (Key × V)}, Paired (fun p kv => SqT K (cut hs H) p [kV kv.1, kv.2]) ps kvs → Paired (fun p kv => SqT K H p [kV kv.1, kv.2]) ps kvs
  | _, _, .nil => .nil
  | _, _, .cons h t => .cons (Evl.ex_t (fun a o q => (cut_some q).2) h) (Paired.full t)
theorem ev_dictT {kds : KDs} (ha : EvD K ta δ (.tuple (kds.map fun p => .tuple [kD p.1, p.2]))) (hn : (kds.map (·.1)).Nodup) : EvD K (tCB (rDictF K) (tCons ta tNil)) δ (eKD kds) := ev_cb (ea_cons ha ea_nil) fun hs H vs hh ra Q q => by
  obtain ⟨v, rfl, r⟩ := ra.one
  cases r with
  | @tup a xs _ hp ra =>
    obtain ⟨ps, kvs, rfl, h1, h2⟩ := ra.pairs
    refine ⟨a, ps, kvs, rfl, .inl hp.full, Paired.full h1, ?_⟩
    have e : mergeK [] kvs = kvs := mergeK_nodup kvs [] (by rw [List.nil_append, h2.keys]; exact hn)
    rw [e]
    exact new_D hh h2 q
theorem ev_dictL {kds : KDs} (ha : EvD K ta δ (.list (kds.map fun p => .tuple [kD p.1, p.2]))) (hn : (kds.map (·.1)).Nodup) : EvD K (tCB (rDictF K) (tCons ta tNil)) δ (eKD kds) := ev_cb (ea_cons ha ea_nil) fun hs H vs hh ra Q q => by
  obtain ⟨v, rfl, r⟩ := ra.one
  cases r with
  | @lst a xs _ hp ra =>
    obtain ⟨ps, kvs, rfl, h1, h2⟩ := ra.pairs
    refine ⟨a, ps, kvs, rfl, .inr (SqL.full hp), Paired.full h1, ?_⟩
    have e : mergeK [] kvs = kvs := mergeK_nodup kvs [] (by rw [List.nil_append, h2.keys]; exact hn)
    rw [e]
    exact new_D hh h2 q
theorem R.dget {hs : List Addr} {H : Hp} {v u : V} {kds : KDs} {k : Key} (r1 : R K (cut hs H) v (eKD kds)) (r2 : R K (cut hs H) u (kD k)) : ∃ a kvs, v = .ref a ∧ H a = some (.dK kvs) ∧ DGet H a u (valV kvs k) ∧ ((∃ w d, valV kvs k = some w ∧ lkK kds k = some d ∧ R K (cut hs H) w d) ∨ (valV kvs k = none ∧ lkK kds k = none)) := by
  cases r1 with
  | @dic a kvs _ h rk =>
    have h' := (cut_some h).2
    refine ⟨a, kvs, rfl, h', ?_, rk.val⟩
    rw [r2.key]
    exact DGet.k h'
theorem ev_get2 {kds : KDs} {k : Key} (ha : EvD K ta δ (eKD kds)) (hb : EvD K tb δ (kD k)) (hx : EvD K tx δ z) : EvD K (tDGet2 ta tb tx) δ ((lkK kds k).getD z) := fun hs σ H hh S Q q =>
  ha hs σ H hh S _ fun v H2 e2 r2 => by
    obtain ⟨a, kvs, rfl, h1, _, _⟩ := R.dget (u := kV k) r2 (R.of_key k)
    refine ⟨a, rfl, .inl ⟨kvs, .inl h1⟩, hb hs σ H2 (hh.mono e2) (S.mono e2.cut) _ fun u H3 e3 r3 => hx hs σ H3 (hh.mono (e2.trans e3)) (S.mono (e2.trans e3).cut) _ fun w H4 e4 r4 => ?_⟩
    obtain ⟨a', kvs', ea, h1', dg, c⟩ := R.dget (r2.mono (e3.trans e4).cut) (r3.mono e4.cut)
    injection ea with ea; subst ea
    refine ⟨_, dg, ?_⟩
    rcases c with ⟨w', d', c1, c2, c3⟩ | ⟨c1, c2⟩
    · rw [c1]; rw [c2] at q; exact q _ H4 ((e2.trans e3).trans e4) c3
    · rw [c1]; rw [c2] at q; exact q _ H4 ((e2.trans e3).trans e4) r4
theorem ev_get1 {kds : KDs} {k : Key} (ha : EvD K ta δ (eKD kds)) (hb : EvD K tb δ (kD k)) : EvD K (tDGet1 ta tb) δ ((lkK kds k).getD .none) := fun hs σ H hh S Q q =>
  ha hs σ H hh S _ fun v H2 e2 r2 => by
    obtain ⟨a, kvs, rfl, h1, _, _⟩ := R.dget (u := kV k) r2 (R.of_key k)
    refine ⟨a, rfl, .inl ⟨kvs, .inl h1⟩, hb hs σ H2 (hh.mono e2) (S.mono e2.cut) _ fun u H3 e3 r3 => ?_⟩
    obtain ⟨a', kvs', ea, h1', dg, c⟩ := R.dget (r2.mono e3.cut) r3
    injection ea with ea; subst ea
    refine ⟨_, dg, ?_⟩
    rcases c with ⟨w', d', c1, c2, c3⟩ | ⟨c1, c2⟩
    · rw [c1]; rw [c2] at q; exact q _ H3 (e2.trans e3) c3
    · rw [c1]; rw [c2] at q; exact q _ H3 (e2.trans e3) .non
theorem ev_dget {kds : KDs} {k : Key} (ha : EvD K ta δ (eKD kds)) (hb : EvD K tb δ (kD k)) (h : lkK kds k = some d) : EvD K (tDGet ta tb) δ d := fun hs σ H hh S Q q =>
  ha hs σ H hh S _ fun v H2 e2 r2 => hb hs σ H2 (hh.mono e2) (S.mono e2.cut) _ fun u H3 e3 r3 => by
    obtain ⟨a, kvs, rfl, h1, dg, c⟩ := R.dget (r2.mono e3.cut) r3
    rcases c with ⟨w', d', c1, c2, c3⟩ | ⟨c1, c2⟩
    · rw [h] at c2
      cases c2
      rw [c1] at dg
      exact ⟨a, w', rfl, dg, q _ H3 (e2.trans e3) c3⟩
    · rw [h] at c2; cases c2
theorem ev_lenD {kds : KDs} (ha : EvD K ta δ (eKD kds)) : EvD K (tCB (fun xs H Q => ∃ (a : Addr) (kvs : List (Key × V)), xs = [V.ref a] ∧ H a = some (.dK kvs) ∧ Q (.int kvs.length) H) (tCons ta tNil)) δ (.int kds.length) := ev_cb (ea_cons ha ea_nil) fun hs H vs hh ra Q q => by
  obtain ⟨v, rfl, r⟩ := ra.one
  cases r with
  | @dic a kvs _ h rk =>
    refine ⟨a, kvs, rfl, (cut_some h).2, ?_⟩
    have e := congrArg List.length rk.keys
    rw [List.length_map, List.length_map] at e
    rw [e]
    exact q _ H Ex.rfl (.int _)
/-! ### targets -/
def EvG (K : PySem.W.Frag) (vs : List Nat) (g : TG) (δ : Dl) (d : PyData) (δ' : Dl) : Prop := ∀ hs σ H v, Sl K (cut hs H) σ δ → R K (cut hs H) v d → ∀ Q : St → Hp → Prop, (∀ σ2, Sl K (cut hs H) σ2 δ' → wipe σ2 vs = wipe σ vs → Q σ2 H) → g v σ H Q
def EvGs (K : PySem.W.Frag) (vs : List Nat) (g : TGs) (δ : Dl) (ds : List PyData) (δ' : Dl) : Prop := ∀ hs σ H us, Sl K (cut hs H) σ δ → RA K (cut hs H) us ds → ∀ Q : St → Hp → Prop, (∀ σ2, Sl K (cut hs H) σ2 δ' → wipe σ2 vs = wipe σ vs → Q σ2 H) → g us σ H Q
theorem wipe_set {i : Nat} {o : Option V} : ∀ (vs : List Nat) (σ : St), wipe (σ.set i o) vs = if i ∈ vs then wipe σ vs else (wipe σ vs).set i o
  | [], σ => by simp [wipe]
  | v :: vs, σ => by
    show (wipe (σ.set i o) vs).set v none = _
    rw [wipe_set vs σ]
    by_cases e : i = v
    · subst e
      by_cases m : i ∈ vs
      · rw [if_pos m, if_pos List.mem_cons_self]; rfl
      · rw [if_neg m, if_pos List.mem_cons_self, List.set_set]; rfl
    · by_cases m : i ∈ vs
      · rw [if_pos m, if_pos (by simp [m])]; rfl
      · rw [if_neg m, if_neg (by simp [m, e])]
        show ((wipe σ vs).set i o).set v none = ((wipe σ vs).set v none).set i o
        rw [List.set_comm _ _ e]
theorem wipe_sub {vs : List Nat} : ∀ (ws : List Nat) (σ : St), (∀ w ∈ ws, w ∈ vs) → wipe (wipe σ ws) vs = wipe σ vs
  | [], σ, _ => rfl
  | w :: ws, σ, h => by
    show wipe ((wipe σ ws).set w none) vs = _
    rw [wipe_set, if_pos (h w List.mem_cons_self), wipe_sub ws σ fun x hx => h x (List.mem_cons_of_mem _ hx)]
theorem wipe_wipe (vs : List Nat) (σ : St) : wipe (wipe σ vs) vs = wipe σ vs := wipe_sub vs σ fun _ h => h
theorem eg_name {vs : List Nat} {i : Nat} (m : i ∈ vs) : EvG K vs (gName i) δ d (δ.set i (some (.d d))) := fun hs σ H v S r Q q => q _ (S.set i (d := .d d) r) (by rw [wipe_set, if_pos m])
theorem egs_nil {vs : List Nat} : EvGs K vs gNil δ [] δ := fun hs σ H us S r Q q => by cases r; exact ⟨rfl, q σ S rfl⟩
theorem egs_cons {vs : List Nat} {g : TG} {gs : TGs} {ds : List PyData} {δ1 δ2 : Dl} (h : EvG K vs g δ d δ1) (h2 : EvGs K vs gs δ1 ds δ2) : EvGs K vs (gCons g gs) δ (d :: ds) δ2 := fun hs σ H us S r Q q => by
  cases r with
  | cons r1 r2 => exact ⟨_, _, rfl, h hs σ H _ S r1 _ fun σ1 S1 w1 => h2 hs σ1 H _ S1 r2 Q fun σ2 S2 w2 => q σ2 S2 (w2.trans w1)⟩
theorem eg_tup {vs : List Nat} {gs : TGs} {ds : List PyData} {δ1 : Dl} {n : Nat} (h : EvGs K vs gs δ ds δ1) (hn : ds.length = n) : EvG K vs (gTup K n gs) δ (.tuple ds) δ1 := fun hs σ H v S r Q q => by
  cases r with
  | @tup a xs _ hp ra => exact ⟨a, xs, rfl, hp.full.sq, by rw [ra.length, hn], h hs σ H xs S ra Q q⟩
/-- two names from a pair that was just laid -/
theorem eg_pair {vs : List Nat} {gs : TGs} {hs : List Addr} {σ : St} {H : Hp} {T : Addr} {v u : V} {δ1 : Dl} {Q : St → Hp → Prop} (h : EvGs K vs gs δ [x, y] δ1) (hh : Hid hs H) (hT : H T = none) (S : Sl K (cut hs H) σ δ) (r1 : R K (cut hs H) v x) (r2 : R K (cut hs H) u y)
    (q : ∀ σ2, Sl K (cut hs (upd H T (.tup [v, u]))) σ2 δ1 → wipe σ2 vs = wipe σ vs → Q σ2 (upd H T (.tup [v, u]))) : gTup K 2 gs (.ref T) σ (upd H T (.tup [v, u])) Q :=
  ⟨T, [v, u], rfl, .inl (.inl upd_same), rfl, h hs σ _ [v, u] (S.mono (Evl.Ex.new hT).cut) (.cons (r1.mono (Evl.Ex.new hT).cut) (.cons (r2.mono (Evl.Ex.new hT).cut) .nil)) Q q⟩
/-! ### list comprehensions -/
def LcI (K : PySem.W.Frag) (hs : List Addr) (H1 : Hp) (D : Addr) (out : Nat → List PyData) (i : Nat) (H : Hp) : Prop := Ex H1 H ∧ ∃ acc, H D = some (.lst acc) ∧ RA K (cut (D :: hs) H) acc (out i)
theorem LcI.hid {hs : List Addr} {H1 H : Hp} {D : Addr} {out : Nat → List PyData} {i : Nat} (hh : Hid hs H1) (p : LcI K hs H1 D out i H) : Hid (D :: hs) H := (hh.mono p.1).cons (by obtain ⟨_, acc, h, _⟩ := p; rw [h]; exact fun z => nomatch z)
theorem LcI.sl {hs : List Addr} {H1 H : Hp} {D : Addr} {out : Nat → List PyData} {i : Nat} {σ : St} (hD : H1 D = none) (p : LcI K hs H1 D out i H) (S : Sl K (cut hs H1) σ δ) : Sl K (cut (D :: hs) H) σ δ := by
  have e := p.1.cut (hs := D :: hs)
  rw [cut_cons hD] at e
  exact S.mono e
theorem LcI.start {hs : List Addr} {H1 : Hp} {D : Addr} {out : Nat → List PyData} (hD : H1 D = none) (h0 : out 0 = []) : LcI K hs H1 D out 0 (upd H1 D (.lst [])) := ⟨Evl.Ex.new hD, [], upd_same, by rw [h0]; exact .nil⟩
theorem LcI.done {hs : List Addr} {H1 H : Hp} {D : Addr} {out : Nat → List PyData} {i : Nat} (hh : Hid hs H1) (hD : H1 D = none) (p : LcI K hs H1 D out i H) : R K (cut hs H) (.ref D) (.list (out i)) := by
  obtain ⟨e, acc, h, ra⟩ := p
  exact .lst (cut_of (hh.notin hD) h) (ra.mono (cut_sub fun a m => List.mem_cons_of_mem _ m))
theorem lc_turn {hs : List Addr} {H1 H' : Hp} {D : Addr} {out : Nat → List PyData} {i : Nat} {σ2 : St} {δ' : Dl} {b : Bool} (hh : Hid hs H1) (hD : H1 D = none) (p : LcI K hs H1 D out i H') (S : Sl K (cut (D :: hs) H') σ2 δ')
    (ht : EvB K t δ' b) (he : b = true → EvD K te δ' y) (ho : out (i + 1) = if b = true then out i ++ [y] else out i) (hz : (out i).length ≤ 10000) :
    t σ2 H' fun b H3 => if b = true then te σ2 H3 fun y H4 => ∃ acc, H4 D = some (.lst acc) ∧ acc.length < sizeLine ∧ LcI K hs H1 D out (i + 1) (upd H4 D (.lst (acc ++ [y]))) else LcI K hs H1 D out (i + 1) H3 := by
  have hh' := p.hid hh
  obtain ⟨e, acc, h, ra⟩ := p
  refine ht (D :: hs) σ2 H' hh' S _ fun H3 e3 => ?_
  cases b with
  | false =>
    rw [if_neg Bool.false_ne_true] at ho
    exact ⟨e.trans e3, acc, e3 _ _ h, by rw [ho]; exact ra.mono e3.cut⟩
  | true =>
    rw [if_pos rfl] at ho
    refine he rfl (D :: hs) σ2 H3 (hh'.mono e3) (S.mono e3.cut) _ fun v H4 e4 r4 => ⟨acc, e4 _ _ (e3 _ _ h), ?_, ?_, acc ++ [v], upd_same, ?_⟩
    · rw [ra.length]; exact Nat.lt_of_le_of_lt hz (by decide)
    · exact Evl.Ex.mut ((e.trans e3).trans e4) hD
    · rw [ho, cut_upd (by simp)]
      exact (ra.mono (e3.trans e4).cut).snoc r4
def fm {β : Type} (p : β → Bool) (f : β → PyData) (bs : List β) (i : Nat) : List PyData := ((bs.take i).filter p).map f
theorem fm_succ {β : Type} {p : β → Bool} {f : β → PyData} {bs : List β} {i : Nat} {b : β} (h : bs[i]? = some b) : fm p f bs (i + 1) = if p b = true then fm p f bs i ++ [f b] else fm p f bs i := by
  unfold fm
  rw [List.take_succ, h]
  cases hp : p b <;> simp [hp]
theorem fm_len {β : Type} (p : β → Bool) (f : β → PyData) (bs : List β) (i : Nat) : (fm p f bs i).length ≤ bs.length := by
  unfold fm
  rw [List.length_map]
  exact Nat.le_trans (List.length_filter_le _ _) (by rw [List.length_take]; omega)
theorem fm_all {β : Type} {p : β → Bool} {f : β → PyData} {bs : List β} : fm p f bs bs.length = (bs.filter p).map f := by unfold fm; rw [List.take_length]
theorem eb_yes : EvB K tYes δ true := fun hs σ H _ _ Q q => q H Ex.rfl
theorem get_map {β : Type} {enc : β → PyData} {bs : List β} {i : Nat} {d : PyData} (h : (bs.map enc)[i]? = some d) : ∃ b, bs[i]? = some b ∧ d = enc b := by
  rw [List.getElem?_map] at h
  cases e : bs[i]? with
  | none => rw [e] at h; cases h
  | some b => rw [e] at h; exact ⟨b, rfl, (Option.some.inj h).symm⟩
theorem ev_lcT {β : Type} {vs : List Nat} {g : TG} (enc : β → PyData) (p : β → Bool) (f : β → PyData) {bs : List β} (h : EvD K ta δ (.tuple (bs.map enc))) (hz : bs.length ≤ 10000)
    (step : ∀ b ∈ bs, ∃ δ', EvG K vs g (wipeD δ vs) (enc b) δ' ∧ EvB K t δ' (p b) ∧ (p b = true → EvD K te δ' (f b))) : EvD K (tLc (iTup K ta) g t te vs) δ (.list ((bs.filter p).map f)) := fun hs σ H hh S Q q =>
  h hs σ H hh S _ fun v H1 e1 r1 => by
    cases r1 with
    | @tup a xs _ hp ra =>
      refine ⟨a, rfl, ⟨xs, hp.full.sq⟩, fun D hD => lc_tup (xs := xs) (LcI K hs H1 D (fm p f bs)) (LcI.start hD rfl) (fun i H' _ pp => (hp.full.mono pp.1).sq) (fun i x H' hx pp => ?_) (fun H' pp => ?_)⟩
      · obtain ⟨d0, hd0, rd0⟩ := ra.get' hx
        obtain ⟨b, hb, rfl⟩ := get_map hd0
        obtain ⟨δ', hg, ht, he⟩ := step b (List.mem_of_getElem? hb)
        have hh1 := hh.mono e1
        have S1 := LcI.sl hD pp (S.mono e1.cut)
        have rd1 : R K (cut (D :: hs) H') x (enc b) := rd0.mono (by have e := pp.1.cut (hs := D :: hs); rw [cut_cons hD] at e; exact e)
        exact hg (D :: hs) (wipe σ vs) H' x (S1.wipe vs) rd1 _ fun σ2 S2 hw => ⟨hw.trans (by rw [wipe_wipe]), lc_turn hh1 hD pp S2 ht he (fm_succ hb) (Nat.le_trans (fm_len _ _ _ _) hz)⟩
      · rw [ra.length, List.length_map] at pp
        have := LcI.done (hh.mono e1) hD pp
        rw [fm_all] at this
        exact q _ H' (e1.trans pp.1) this
end
end Dw
set_option Elab.async false
set_option linter.all false
set_option maxRecDepth 100000
set_option maxHeartbeats 1000000
namespace Dw
open PySem PySem.Spec PyProof.Rows L2
section
variable {K : PySem.W.Frag} {δ δ' δ1 δ2 : Dl} {ta tb tc te tx : TE} {t u : TT} {d e x y z : PyData} {r r' : R2}
/-! ### other comprehensions -/
theorem ev_lcL {β : Type} {vs : List Nat} {g : TG} (enc : β → PyData) (p : β → Bool) (f : β → PyData) {bs : List β} (h : EvD K ta δ (.list (bs.map enc))) (hz : bs.length ≤ 10000)
    (step : ∀ b ∈ bs, ∃ δ', EvG K vs g (wipeD δ vs) (enc b) δ' ∧ EvB K t δ' (p b) ∧ (p b = true → EvD K te δ' (f b))) : EvD K (tLc (iList K ta) g t te vs) δ (.list ((bs.filter p).map f)) := fun hs σ H hh S Q q =>
  h hs σ H hh S _ fun v H1 e1 r1 => by
    cases r1 with
    | @lst a xs _ hp ra =>
      refine ⟨a, rfl, ⟨xs, SqL.full hp⟩, fun D hD => lc_list (xs := xs) (LcI K hs H1 D (fm p f bs)) (LcI.start hD rfl) (fun i H' _ pp => Evl.ex_l pp.1 (SqL.full hp)) (fun i x H' hx pp => ?_) (fun H' pp => ?_)⟩
      · obtain ⟨d0, hd0, rd0⟩ := ra.get' hx
        obtain ⟨b, hb, rfl⟩ := get_map hd0
        obtain ⟨δ', hg, ht, he⟩ := step b (List.mem_of_getElem? hb)
        have S1 := LcI.sl hD pp (S.mono e1.cut)
        have rd1 : R K (cut (D :: hs) H') x (enc b) := rd0.mono (by have e := pp.1.cut (hs := D :: hs); rw [cut_cons hD] at e; exact e)
        exact hg (D :: hs) (wipe σ vs) H' x (S1.wipe vs) rd1 _ fun σ2 S2 hw => ⟨hw.trans (by rw [wipe_wipe]), lc_turn (hh.mono e1) hD pp S2 ht he (fm_succ hb) (Nat.le_trans (fm_len _ _ _ _) hz)⟩
      · rw [ra.length, List.length_map] at pp
        have := LcI.done (hh.mono e1) hD pp
        rw [fm_all] at this
        exact q _ H' (e1.trans pp.1) this
theorem ev_lcS {vs : List Nat} {g : TG} (p : Nat → Bool) (f : Nat → PyData) {w : Str} (h : EvD K ta δ (.str w)) (hz : w.length ≤ 10000)
    (step : ∀ c ∈ w.cps.toList, ∃ δ', EvG K vs g (wipeD δ vs) (.str ⟨#[c]⟩) δ' ∧ EvB K t δ' (p c) ∧ (p c = true → EvD K te δ' (f c))) : EvD K (tLc (iStr ta) g t te vs) δ (.list ((w.cps.toList.filter p).map f)) := fun hs σ H hh S Q q =>
  h hs σ H hh S _ fun v H1 e1 r1 => by
    cases r1
    refine ⟨w, rfl, fun D hD => ⟨fun i m H' => m = w.cps.size - i ∧ i ≤ w.cps.size ∧ LcI K hs H1 D (fm p f w.cps.toList) i H', ⟨w.cps.size, by simp, Nat.zero_le _, LcI.start hD rfl⟩, ?_⟩⟩
    rintro i m H' ⟨rfl, hi, pp⟩
    by_cases hlt : i < w.cps.size
    · refine .inr ⟨hlt, LcI K hs H1 D (fm p f w.cps.toList) (i + 1), fun H2 p2 => ⟨w.cps.size - (i + 1), by omega, rfl, hlt, p2⟩, fun x H2 y => ?_⟩
      obtain ⟨rfl, c, hc, rfl⟩ := y
      have hc' : w.cps.toList[i]? = some c := by simpa using hc
      obtain ⟨δ', hg, ht, he⟩ := step c (List.mem_of_getElem? hc')
      have S1 := LcI.sl hD pp (S.mono e1.cut)
      exact hg (D :: hs) (wipe σ vs) H2 _ (S1.wipe vs) (.str _) _ fun σ2 S2 hw => ⟨hw.trans (by rw [wipe_wipe]), lc_turn (hh.mono e1) hD pp S2 ht he (fm_succ hc') (Nat.le_trans (fm_len _ _ _ _) (by simpa [Str.length] using hz))⟩
    · have e : i = w.cps.toList.length := by simpa using Nat.le_antisymm hi (Nat.le_of_not_lt hlt)
      refine .inl ⟨Nat.le_of_not_lt hlt, ?_⟩
      rw [e] at pp
      have := LcI.done (hh.mono e1) hD pp
      rw [fm_all] at this
      exact q _ H' (e1.trans pp.1) this
/-- over range(n) -/
theorem ev_lcR {tl : TA} {j : Nat} {vs : List Nat} (p : Nat → Bool) (f : Nat → PyData) {n : Nat} (h : EvA K tl δ [.int n]) (hz : n ≤ 10000) (hj : j ∈ vs)
    (step : ∀ i < n, EvB K t ((wipeD δ vs).set j (some (.d (.int i)))) (p i) ∧ (p i = true → EvD K te ((wipeD δ vs).set j (some (.d (.int i)))) (f i))) : EvD K (tLc (iRng1 tl) (gName j) t te vs) δ (.list (((List.range n).filter p).map f)) := fun hs σ H hh S Q q =>
  h hs σ H hh S _ fun us H1 e1 r1 => by
    obtain ⟨v, rfl, r2⟩ := r1.one
    cases r2
    refine ⟨n, rfl, by omega, by omega, fun D hD => lc_range (lo := 0) (n := (n : Int).toNat) (LcI K hs H1 D (fm p f (List.range n))) (LcI.start hD rfl) (fun i H' hi pp => ?_) (fun H' pp => ?_)⟩
    · have hi' : i < n := by omega
      obtain ⟨ht, he⟩ := step i hi'
      have e0 : (0 : Int) + (i : Int) = (i : Int) := Int.zero_add _
      have S1 := ((LcI.sl hD pp (S.mono e1.cut)).wipe vs).set j (d := .d (.int i)) (R.int i)
      have hb : (List.range n)[i]? = some i := by simp [hi']
      show wipe ((wipe σ vs).set j (some (.int ((0 : Int) + (i : Int))))) vs = wipe σ vs ∧ _
      rw [e0]
      exact ⟨by rw [wipe_set, if_pos hj, wipe_wipe], lc_turn (hh.mono e1) hD pp S1 ht he (fm_succ hb) (Nat.le_trans (fm_len _ _ _ _) (by simpa using hz))⟩
    · have e : (n : Int).toNat = (List.range n).length := by simp
      rw [e] at pp
      have := LcI.done (hh.mono e1) hD pp
      rw [fm_all] at this
      exact q _ H' (e1.trans pp.1) this
/-- over zip of two tuples -/
theorem ev_lcZ {β γ : Type} {vs : List Nat} {gs : TGs} {tl : TA} (encb : β → PyData) (encc : γ → PyData) (p : β × γ → Bool) (f : β × γ → PyData) {bs : List β} {cs : List γ} (h : EvA K tl δ [.tuple (bs.map encb), .tuple (cs.map encc)]) (hz : bs.length ≤ 10000)
    (step : ∀ b ∈ bs.zip cs, ∃ δ', EvGs K vs gs (wipeD δ vs) [encb b.1, encc b.2] δ' ∧ EvB K t δ' (p b) ∧ (p b = true → EvD K te δ' (f b))) : EvD K (tLc (RZ.iZipA K tl) (gTup K 2 gs) t te vs) δ (.list (((bs.zip cs).filter p).map f)) := fun hs σ H hh S Q q =>
  h hs σ H hh S _ fun us H1 e1 r1 => by
    obtain ⟨v, u, rfl, r2, r3⟩ := r1.two
    cases r2 with
    | @tup a xs _ hp ra =>
      cases r3 with
      | @tup b ys _ hp2 ra2 =>
        have lx : xs.length = bs.length := by rw [ra.length, List.length_map]
        have ly : ys.length = cs.length := by rw [ra2.length, List.length_map]
        have hzl : (bs.zip cs).length ≤ 10000 := Nat.le_trans (by rw [List.length_zip]; omega) hz
        refine ⟨a, b, xs, ys, rfl, .inr ⟨hp.full.sq, hp2.full.sq, fun D hD => ⟨fun i m H' => m = (bs.zip cs).length - i ∧ i ≤ (bs.zip cs).length ∧ LcI K hs H1 D (fm p f (bs.zip cs)) i H', ⟨(bs.zip cs).length, by simp, Nat.zero_le _, LcI.start hD rfl⟩, ?_⟩⟩⟩
        rintro i m H' ⟨rfl, hi, pp⟩
        have sa := (hp.full.mono pp.1).sq
        have sb := (hp2.full.mono pp.1).sq
        by_cases hlt : i < (bs.zip cs).length
        · have hlb : i < bs.length := by rw [List.length_zip] at hlt; omega
          have hlc : i < cs.length := by rw [List.length_zip] at hlt; omega
          have hb : (bs.zip cs)[i]? = some (bs[i], cs[i]) := by rw [List.getElem?_eq_getElem hlt, List.getElem_zip]
          refine .inr ⟨⟨xs, ys, xs[i], ys[i], sa, sb, by simp [lx, hlb], by simp [ly, hlc]⟩, LcI K hs H1 D (fm p f (bs.zip cs)) (i + 1), fun H2 p2 => ⟨(bs.zip cs).length - (i + 1), by omega, rfl, hlt, p2⟩, fun x H2 yy => ?_⟩
          obtain ⟨T, vx, vy, rfl, hT, rfl, h1, h2⟩ := yy
          have g1 := h1 xs sa
          have g2 := h2 ys sb
          obtain ⟨dx, hdx, rdx⟩ := ra.get' g1
          obtain ⟨dy, hdy, rdy⟩ := ra2.get' g2
          obtain ⟨b0, hb0, rfl⟩ := get_map hdx
          obtain ⟨c0, hc0, rfl⟩ := get_map hdy
          rw [List.getElem?_eq_getElem hlb] at hb0
          rw [List.getElem?_eq_getElem hlc] at hc0
          cases hb0; cases hc0
          obtain ⟨δ', hg, ht, he⟩ := step _ (List.mem_of_getElem? hb)
          have S1 := LcI.sl hD pp (S.mono e1.cut)
          have ec : Ex (cut hs H1) (cut (D :: hs) H') := by have e := pp.1.cut (hs := D :: hs); rw [cut_cons hD] at e; exact e
          have hhD := pp.hid (hh.mono e1)
          have pp2 : LcI K hs H1 D (fm p f (bs.zip cs)) i (upd H' T (.tup [vx, vy])) := by
            obtain ⟨q1, acc, q2, q3⟩ := pp
            exact ⟨q1.trans (Evl.Ex.new hT), acc, (Evl.Ex.new hT) _ _ q2, q3.mono (Evl.Ex.new hT).cut⟩
          exact eg_pair hg hhD hT (S1.wipe vs) (rdx.mono ec) (rdy.mono ec) fun σ2 S2 hw => ⟨hw.trans (by rw [wipe_wipe]), lc_turn (hh.mono e1) hD pp2 S2 ht he (fm_succ hb) (Nat.le_trans (fm_len _ _ _ _) hzl)⟩
        · have e : i = (bs.zip cs).length := by omega
          refine .inl ⟨⟨xs, ys, sa, sb, ?_⟩, ?_⟩
          · rw [List.length_zip] at e
            rw [lx, ly]
            omega
          · rw [e] at pp
            have := LcI.done (hh.mono e1) hD pp
            rw [fm_all] at this
            exact q _ H' (e1.trans pp.1) this
/-- over zip of a list and a tuple of one length -/
theorem ev_lcM {β γ : Type} {vs : List Nat} {gs : TGs} {tl : TA} (encb : β → PyData) (encc : γ → PyData) (p : β × γ → Bool) (f : β × γ → PyData) {bs : List β} {cs : List γ} (h : EvA K tl δ [.list (bs.map encb), .tuple (cs.map encc)]) (hz : bs.length ≤ 10000) (hl : bs.length = cs.length)
    (step : ∀ b ∈ bs.zip cs, ∃ δ', EvGs K vs gs (wipeD δ vs) [encb b.1, encc b.2] δ' ∧ EvB K t δ' (p b) ∧ (p b = true → EvD K te δ' (f b))) : EvD K (tLc (iZipM K tl) (gTup K 2 gs) t te vs) δ (.list (((bs.zip cs).filter p).map f)) := fun hs σ H hh S Q q =>
  h hs σ H hh S _ fun us H1 e1 r1 => by
    obtain ⟨v, u, rfl, r2, r3⟩ := r1.two
    cases r2 with
    | @lst a xs _ hp ra =>
      cases r3 with
      | @tup b ys _ hp2 ra2 =>
        have lx : xs.length = bs.length := by rw [ra.length, List.length_map]
        have ly : ys.length = cs.length := by rw [ra2.length, List.length_map]
        have hzl : (bs.zip cs).length ≤ 10000 := Nat.le_trans (by rw [List.length_zip]; omega) hz
        refine ⟨a, b, xs, ys, rfl, SqL.full hp, hp2.full.sq, fun D hD => ⟨fun i m H' => m = (bs.zip cs).length - i ∧ i ≤ (bs.zip cs).length ∧ LcI K hs H1 D (fm p f (bs.zip cs)) i H', ⟨(bs.zip cs).length, by simp, Nat.zero_le _, LcI.start hD rfl⟩, ?_⟩⟩
        rintro i m H' ⟨rfl, hi, pp⟩
        have sa := Evl.ex_l (K := K) pp.1 (SqL.full hp)
        have sb := (hp2.full.mono pp.1).sq
        by_cases hlt : i < (bs.zip cs).length
        · have hlb : i < bs.length := by rw [List.length_zip] at hlt; omega
          have hlc : i < cs.length := by rw [List.length_zip] at hlt; omega
          have hb : (bs.zip cs)[i]? = some (bs[i], cs[i]) := by rw [List.getElem?_eq_getElem hlt, List.getElem_zip]
          refine .inr ⟨⟨xs, ys, xs[i], ys[i], sa, sb, by simp [lx, hlb], by simp [ly, hlc]⟩, LcI K hs H1 D (fm p f (bs.zip cs)) (i + 1), fun H2 p2 => ⟨(bs.zip cs).length - (i + 1), by omega, rfl, hlt, p2⟩, fun x H2 yy => ?_⟩
          obtain ⟨T, vx, vy, rfl, hT, rfl, h1, h2⟩ := yy
          have g1 := h1 xs sa
          have g2 := h2 ys sb
          obtain ⟨dx, hdx, rdx⟩ := ra.get' g1
          obtain ⟨dy, hdy, rdy⟩ := ra2.get' g2
          obtain ⟨b0, hb0, rfl⟩ := get_map hdx
          obtain ⟨c0, hc0, rfl⟩ := get_map hdy
          rw [List.getElem?_eq_getElem hlb] at hb0
          rw [List.getElem?_eq_getElem hlc] at hc0
          cases hb0; cases hc0
          obtain ⟨δ', hg, ht, he⟩ := step _ (List.mem_of_getElem? hb)
          have S1 := LcI.sl hD pp (S.mono e1.cut)
          have ec : Ex (cut hs H1) (cut (D :: hs) H') := by have e := pp.1.cut (hs := D :: hs); rw [cut_cons hD] at e; exact e
          have hhD := pp.hid (hh.mono e1)
          have pp2 : LcI K hs H1 D (fm p f (bs.zip cs)) i (upd H' T (.tup [vx, vy])) := by
            obtain ⟨q1, acc, q2, q3⟩ := pp
            exact ⟨q1.trans (Evl.Ex.new hT), acc, (Evl.Ex.new hT) _ _ q2, q3.mono (Evl.Ex.new hT).cut⟩
          exact eg_pair hg hhD hT (S1.wipe vs) (rdx.mono ec) (rdy.mono ec) fun σ2 S2 hw => ⟨hw.trans (by rw [wipe_wipe]), lc_turn (hh.mono e1) hD pp2 S2 ht he (fm_succ hb) (Nat.le_trans (fm_len _ _ _ _) hzl)⟩
        · have e : i = (bs.zip cs).length := by omega
          refine .inl ⟨⟨xs, ys, sa, sb, ?_, ?_⟩, ?_⟩
          · rw [List.length_zip] at e; omega
          · rw [List.length_zip] at e; omega
          · rw [e] at pp
            have := LcI.done (hh.mono e1) hD pp
            rw [fm_all] at this
            exact q _ H' (e1.trans pp.1) this
/-! ### all, in, isinstance, max, int, chains -/
theorem ev_all {bs : List Bool} (ha : EvD K ta δ (.list (bs.map .bool))) : EvD K (tCB (rAll K) (tCons ta tNil)) δ (.bool (bs.all id)) := ev_cb (ea_cons ha ea_nil) fun hs H vs hh ra Q q => by
  obtain ⟨v, rfl, r⟩ := ra.one
  cases r with
  | @lst a xs _ hp ra =>
    have e := ra.bools
    subst e
    exact ⟨a, bs, rfl, SqL.full hp, q _ H Ex.rfl (.bl _)⟩
theorem flat_ints (is : List Int) : (is.map V.int).all flatV = true := by induction is with
  | nil => rfl
  | cons i is ih => rw [List.map_cons, List.all_cons, ih]; rfl
theorem flat_strs (is : List Str) : (is.map V.str).all flatV = true := by induction is with
  | nil => rfl
  | cons i is ih => rw [List.map_cons, List.all_cons, ih]; rfl
theorem inV_ints (i : Int) (is : List Int) : inV (.int i) (is.map V.int) = decide (i ∈ is) := by
  induction is with
  | nil => rfl
  | cons j is ih =>
    show (eqV (.int j) (.int i) || inV (.int i) (is.map V.int)) = _
    rw [ih]
    show ((j == i) || _) = _
    by_cases e : j = i
    · subst e; simp
    · have e' : ¬ i = j := fun h => e h.symm
      simp [e, e']
theorem inV_strs (i : Str) (is : List Str) : inV (.str i) (is.map V.str) = decide (i ∈ is) := by
  induction is with
  | nil => rfl
  | cons j is ih =>
    show (eqV (.str j) (.str i) || inV (.str i) (is.map V.str)) = _
    rw [ih]
    show ((j == i) || _) = _
    by_cases e : j = i
    · subst e; simp
    · have e' : ¬ i = j := fun h => e h.symm
      simp [e, e']
theorem ev_inL {i : Int} {is : List Int} {neg : Bool} (ha : EvD K ta δ (.int i)) (hb : EvD K tb δ (.list (is.map .int))) : EvD K (tOp (rIn K neg) ta tb) δ (.bool (if neg = true then !decide (i ∈ is) else decide (i ∈ is))) := ev_op ha hb fun hs H v u _ r1 r2 Q q => by
  cases r1
  cases r2 with
  | @lst a xs _ hp ra =>
    have e := ra.ints
    subst e
    refine ⟨a, is.map V.int, rfl, .inl (SqL.full hp), rfl, flat_ints is, ?_⟩
    rw [inV_ints]
    exact q _ H Ex.rfl (.bl _)
theorem ev_inT {i : Int} {is : List Int} {neg : Bool} (ha : EvD K ta δ (.int i)) (hb : EvD K tb δ (.tuple (is.map .int))) : EvD K (tOp (rIn K neg) ta tb) δ (.bool (if neg = true then !decide (i ∈ is) else decide (i ∈ is))) := ev_op ha hb fun hs H v u _ r1 r2 Q q => by
  cases r1
  cases r2 with
  | @tup a xs _ hp ra =>
    have e := ra.ints
    subst e
    refine ⟨a, is.map V.int, rfl, .inr hp.full.sq, rfl, flat_ints is, ?_⟩
    rw [inV_ints]
    exact q _ H Ex.rfl (.bl _)
theorem ev_inTS {i : Str} {is : List Str} {neg : Bool} (ha : EvD K ta δ (.str i)) (hb : EvD K tb δ (.tuple (is.map .str))) : EvD K (tOp (rIn K neg) ta tb) δ (.bool (if neg = true then !decide (i ∈ is) else decide (i ∈ is))) := ev_op ha hb fun hs H v u _ r1 r2 Q q => by
  cases r1
  cases r2 with
  | @tup a xs _ hp ra =>
    have e := ra.strs
    subst e
    refine ⟨a, is.map V.str, rfl, .inr hp.full.sq, rfl, flat_strs is, ?_⟩
    rw [inV_strs]
    exact q _ H Ex.rfl (.bl _)
abbrev rInSign : R2 := fun x y H Q => ∃ (c : Nat) (z : Str), x = .str ⟨#[c]⟩ ∧ y = .str z ∧ Q (.bl (decide (c ∈ z.cps.toList))) H
theorem ev_inSign {c : Nat} {w : Str} (ha : EvD K ta δ (.str ⟨#[c]⟩)) (hb : EvD K tb δ (.str w)) : EvD K (tOp rInSign ta tb) δ (.bool (decide (c ∈ w.cps.toList))) := ev_op ha hb fun hs H v u _ r1 r2 Q q => by
  cases r1; cases r2
  exact ⟨c, w, rfl, rfl, q _ H Ex.rfl (.bl _)⟩
def tyN : PyData → String
  | .none => "NoneType"
  | .bool _ => "bool"
  | .int _ => "int"
  | .str _ => "str"
  | .list _ => "list"
  | .tuple _ => "tuple"
  | .dict _ => "dict"
theorem kTT : kitB "tuple" "tuple" = some true := by decide +kernel
theorem kII : kitB "int" "int" = some true := by decide +kernel
theorem kIB : kitB "int" "bool" = some false := by decide +kernel
theorem kSS : kitB "str" "str" = some true := by decide +kernel
theorem kST : kitB "str" "tuple" = some false := by decide +kernel
theorem ev_isi {T : String} {b : Bool} (ha : EvD K ta δ x) (hb : kitB (tyN x) T = some b) : EvD K (tCB (rIsi K) (tCons ta (tCons (tC (.ty T)) tNil))) δ (.bool b) := fun hs σ H hh S Q q =>
  ha hs σ H hh S _ fun v H2 e2 r2 => by
    refine ⟨v, .ty T, .type (tyN x), .type T, b, rfl, .ty T, ?_, kit_ty hb, q _ H2 e2 (.bl _)⟩
    cases r2 with
    | non => exact .base .non
    | bl => exact .base (.bl _)
    | int => exact .base (.int _)
    | str => exact .base (.str _)
    | lst hp _ =>
      exact .base (.lst (cut_some hp).2)
    | tup hp _ =>
      rcases hp.full with ⟨o, h, _⟩ | ⟨o, its, n, h1, h2, _⟩
      · exact .fTuple h
      · exact .kTuple h1 h2
    | dic h _ => exact .base (.dK (cut_some h).2)
theorem isi_tt {ds : List PyData} (ha : EvD K ta δ (.tuple ds)) : EvD K (tCB (rIsi K) (tCons ta (tCons (tC (.ty "tuple")) tNil))) δ (.bool true) := ev_isi ha kTT
theorem isi_ii {i : Int} (ha : EvD K ta δ (.int i)) : EvD K (tCB (rIsi K) (tCons ta (tCons (tC (.ty "int")) tNil))) δ (.bool true) := ev_isi ha kII
theorem isi_ib {i : Int} (ha : EvD K ta δ (.int i)) : EvD K (tCB (rIsi K) (tCons ta (tCons (tC (.ty "bool")) tNil))) δ (.bool false) := ev_isi ha kIB
theorem isi_ss {i : Str} (ha : EvD K ta δ (.str i)) : EvD K (tCB (rIsi K) (tCons ta (tCons (tC (.ty "str")) tNil))) δ (.bool true) := ev_isi ha kSS
theorem isi_st {i : Str} (ha : EvD K ta δ (.str i)) : EvD K (tCB (rIsi K) (tCons ta (tCons (tC (.ty "tuple")) tNil))) δ (.bool false) := ev_isi ha kST
abbrev rMax2 : List V → Hp → VK → Prop := fun xs H Q => ∃ i j, xs = [.int i, .int j] ∧ Q (.int (if j > i then j else i)) H
theorem ev_max {i j : Int} (ha : EvD K ta δ (.int i)) (hb : EvD K tb δ (.int j)) : EvD K (tCB rMax2 (tCons ta (tCons tb tNil))) δ (.int (if j > i then j else i)) := ev_cb (ea_cons ha (ea_cons hb ea_nil)) fun hs H vs hh ra Q q => by
  obtain ⟨v, u, rfl, r1, r2⟩ := ra.two
  cases r1; cases r2
  exact ⟨i, j, rfl, q _ H Ex.rfl (.int _)⟩
abbrev rInt1 : List V → Hp → VK → Prop := fun xs H Q => (∃ i, xs = [.int i] ∧ Q (.int i) H) ∨ ∃ k, xs = [.bl k] ∧ Q (.int (if k then 1 else 0)) H
theorem ev_intB {b : Bool} (ha : EvD K ta δ (.bool b)) : EvD K (tCB rInt1 (tCons ta tNil)) δ (.int (if b = true then 1 else 0)) := ev_cb (ea_cons ha ea_nil) fun hs H vs hh ra Q q => by
  obtain ⟨v, rfl, r1⟩ := ra.one
  cases r1
  exact .inr ⟨b, rfl, q _ H Ex.rfl (.int _)⟩
theorem ev_chain {b c : Bool} (ha : EvD K ta δ x) (hb : EvD K tb δ y) (hr : RV K r x y (.bool b)) (hc : b = true → ∃ z, EvD K tc δ z ∧ RV K r' y z (.bool c)) : EvD K (tChain r r' ta tb tc) δ (.bool (b && c)) := fun hs σ H hh S Q q =>
  ha hs σ H hh S _ fun v H2 e2 r2 => hb hs σ H2 (hh.mono e2) (S.mono e2.cut) _ fun w H3 e3 r3 => hr hs H3 v w (hh.mono (e2.trans e3)) (r2.mono e3.cut) r3 _ fun o H4 e4 r4 => by
    cases r4
    refine ⟨b, rfl, ?_⟩
    cases b with
    | false => exact q _ H4 ((e2.trans e3).trans e4) (.bl _)
    | true =>
      obtain ⟨z, h1, h2⟩ := hc rfl
      exact h1 hs σ H4 (hh.mono ((e2.trans e3).trans e4)) (S.mono ((e2.trans e3).trans e4).cut) _ fun o H5 e5 r5 => h2 hs H5 w o (hh.mono (((e2.trans e3).trans e4).trans e5)) (r3.mono (e4.trans e5).cut) r5 Q fun o2 H6 e6 r6 => q o2 H6 ((((e2.trans e3).trans e4).trans e5).trans e6) r6
/-! ### promises on data -/
def SpD (K : PySem.W.Frag) (P : List PyData → PyData → Prop) : Sp := fun vs H Q _ => ∃ hs ds d, Hid hs H ∧ RA K (cut hs H) vs ds ∧ P ds d ∧ ∀ v H', Ex H H' → R K (cut hs H') v d → Q v H'
theorem SpD.len {P : List PyData → PyData → Prop} {n : Nat} (hP : ∀ ds d, P ds d → ds.length = n) : ∀ vs H Q E, SpD K P vs H Q E → vs.length = n := fun vs H Q E ⟨hs, ds, d, _, ra, p, _⟩ => by rw [ra.length, hP ds d p]
theorem ev_call {P : List PyData → PyData → Prop} {tl : TA} {ds : List PyData} {E : XK} (h : EvA K tl δ ds) (hP : P ds d) : EvD K (tCall (SpD K P) [] E tl) δ d := fun hs σ H hh S Q q =>
  h hs σ H hh S _ fun vs H2 e2 r2 => ⟨hs, ds, d, hh.mono e2, by rw [List.append_nil]; exact r2, hP, fun v H3 e3 r3 => q v H3 (e2.trans e3) r3⟩
/-- a call whose defaults are data -/
theorem ev_callD {P : List PyData → PyData → Prop} {tl : TA} {ds es : List PyData} {dvs : List V} {E : XK} (h : EvA K tl δ ds) (hd : ∀ H, RA K H dvs es) (hP : P (ds ++ es) d) : EvD K (tCall (SpD K P) dvs E tl) δ d := fun hs σ H hh S Q q =>
  h hs σ H hh S _ fun vs H2 e2 r2 => ⟨hs, ds ++ es, d, hh.mono e2, r2.append (hd _), hP, fun v H3 e3 r3 => q v H3 (e2.trans e3) r3⟩
/-! ### statements -/
inductive Out where
  | nx (δ : Dl)
  | rt (d : PyData)
  | bk (δ : Dl)
  | ct (δ : Dl)
def Fin (K : PySem.W.Frag) (hs : List Addr) (D : Ends) (H : Hp) : Out → Prop
  | .nx δ => ∀ σ' H', Ex H H' → Sl K (cut hs H') σ' δ → D.nx σ' H'
  | .rt d => ∀ v H', Ex H H' → R K (cut hs H') v d → D.rt v H'
  | .bk δ => ∀ σ' H', Ex H H' → Sl K (cut hs H') σ' δ → D.bk σ' H'
  | .ct δ => ∀ σ' H', Ex H H' → Sl K (cut hs H') σ' δ → D.ct σ' H'
theorem Fin.mono {hs : List Addr} {D : Ends} {H H' : Hp} (e : Ex H H') : ∀ {o : Out}, Fin K hs D H o → Fin K hs D H' o
  | .nx _, h => fun σ' H2 e2 s => h σ' H2 (e.trans e2) s
  | .rt _, h => fun σ' H2 e2 s => h σ' H2 (e.trans e2) s
  | .bk _, h => fun σ' H2 e2 s => h σ' H2 (e.trans e2) s
  | .ct _, h => fun σ' H2 e2 s => h σ' H2 (e.trans e2) s
def RunD (K : PySem.W.Frag) (ts : TS) (δ : Dl) (o : Out) : Prop := ∀ hs D σ H, Hid hs H → Sl K (cut hs H) σ δ → Fin K hs D H o → ts D σ H
variable {ts us : TS} {o : Out}
theorem run_seq (h : RunD K ts δ (.nx δ1)) (h2 : RunD K us δ1 o) : RunD K (tSeq ts us) δ o := fun hs D σ H hh S f =>
  h hs { D with nx := us D } σ H hh S fun σ' H' e s => h2 hs D σ' H' (hh.mono e) s (f.mono e)
theorem run_seqR (h : RunD K ts δ (.rt d)) : RunD K (tSeq ts us) δ (.rt d) := fun hs D σ H hh S f => h hs { D with nx := us D } σ H hh S f
theorem run_next : RunD K tNext δ (.nx δ) := fun hs D σ H hh S f => f σ H Ex.rfl S
theorem run_ret (h : EvD K te δ d) : RunD K (tRet te) δ (.rt d) := fun hs D σ H hh S f => h hs σ H hh S _ f
theorem run_asg {i : Nat} (h : EvD K te δ d) : RunD K (tAsg te (gName i)) δ (.nx (δ.set i (some (.d d)))) := fun hs D σ H hh S f =>
  h hs σ H hh S _ fun v H2 e2 r2 => f _ H2 e2 ((S.mono e2.cut).set i (d := .d d) r2)
theorem run_asgG {g : TG} {vs : List Nat} (h : EvD K te δ d) (hg : EvG K vs g δ d δ1) : RunD K (tAsg te g) δ (.nx δ1) := fun hs D σ H hh S f =>
  h hs σ H hh S _ fun v H2 e2 r2 => hg hs σ H2 v (S.mono e2.cut) r2 _ fun σ2 S2 _ => f σ2 H2 e2 S2
theorem run_par {i j : Nat} {tl : TA} (h : EvA K tl δ [d, e]) : RunD K (tPar i j tl) δ (.nx ((δ.set i (some (.d d))).set j (some (.d e)))) := fun hs D σ H hh S f =>
  h hs σ H hh S _ fun us H2 e2 r2 => by
    obtain ⟨v, w, rfl, r3, r4⟩ := r2.two
    exact ⟨v, w, rfl, f _ H2 e2 (((S.mono e2.cut).set i (d := .d d) r3).set j (d := .d e) r4)⟩
theorem run_if {b : Bool} (h : EvB K t δ b) (h1 : b = true → RunD K ts δ o) (h2 : b = false → RunD K us δ o) : RunD K (tIfS t ts us) δ o := fun hs D σ H hh S f =>
  h hs σ H hh S _ fun H2 e2 => by
    cases b with
    | true => exact h1 rfl hs D σ H2 (hh.mono e2) (S.mono e2.cut) (f.mono e2)
    | false => exact h2 rfl hs D σ H2 (hh.mono e2) (S.mono e2.cut) (f.mono e2)
theorem run_ifT {b : Bool} (h : EvB K t δ b) (hb : b = true) (h1 : RunD K ts δ o) : RunD K (tIfS t ts us) δ o := run_if h (fun _ => h1) fun h2 => by rw [hb] at h2; cases h2
theorem run_ifF {b : Bool} (h : EvB K t δ b) (hb : b = false) (h1 : RunD K us δ o) : RunD K (tIfS t ts us) δ o := run_if h (fun h2 => by rw [hb] at h2; cases h2) fun _ => h1
theorem RunD.weak (h : RunD K ts δ' o) (hl : δ'.length = δ.length) (w : ∀ (i : Nat) (d : SD), δ'[i]? = some (some d) → δ[i]? = some (some d)) : RunD K ts δ o := fun hs D σ H hh S f => h hs D σ H hh (S.weak hl w) f
/-- a def's body, from its reading -/
theorem spd_run {P : List PyData → PyData → Prop} {N : List Str} (h : ∀ ds d, P ds d → RunD K ts (ds.map (fun d => some (.d d)) ++ List.replicate (N.length - ds.length) none) (.rt d)) {vs : List V} {H : Hp} {Q : VK} {E : XK} (q : SpD K P vs H Q E) :
    ts { nx := fun _ H' => Q .non H', rt := Q } (start N vs) H := by
  obtain ⟨hs, ds, d, hh, ra, p, k⟩ := q
  exact h ds d p hs _ (start N vs) H hh (Sl.start N ra) k
/-- for over a tuple, all turns go on -/
theorem run_forT {β : Type} {g : TG} {vs : List Nat} (enc : β → PyData) {bs : List β} (env : Nat → Dl) (h : EvD K te δ (.tuple (bs.map enc))) (h0 : env 0 = δ)
    (hl : ∀ i < bs.length, ∀ b, bs[i]? = some b → ∃ δ1, EvG K vs g (env i) (enc b) δ1 ∧ RunD K ts δ1 (.nx (env (i + 1)))) : RunD K (tFor (iTup K te) g ts) δ (.nx (env bs.length)) := fun hs D σ H hh S f =>
  h hs σ H hh S _ fun v H1 e1 r1 => by
    cases r1 with
    | @tup a xs _ hp ra =>
      have lx : xs.length = bs.length := by rw [ra.length, List.length_map]
      refine ⟨a, rfl, ⟨xs, hp.full.sq⟩, for_tup (xs := xs) (fun i σ' H' => Ex H1 H' ∧ Sl K (cut hs H') σ' (env i)) ⟨Ex.rfl, by rw [h0]; exact S.mono e1.cut⟩ (fun i σ' H' _ p => (hp.full.mono p.1).sq) (fun i x σ' H' hx p => ?_) (fun σ' H' p => ?_)⟩
      · obtain ⟨d0, hd0, rd0⟩ := ra.get' hx
        obtain ⟨b, hb, rfl⟩ := get_map hd0
        have hi : i < bs.length := (List.getElem?_eq_some_iff.mp hb).1
        obtain ⟨δ1, hg, hr⟩ := hl i hi b hb
        exact hg hs σ' H' x p.2 (rd0.mono p.1.cut) _ fun σ2 S2 _ => hr hs _ σ2 H' ((hh.mono e1).mono p.1) S2 fun σ3 H3 e3 S3 => ⟨p.1.trans e3, S3⟩
      · rw [lx] at p
        exact f σ' H' (e1.trans p.1) p.2
/-- for over a tuple, turn j returns -/
theorem run_forTR {β : Type} {g : TG} {vs : List Nat} (enc : β → PyData) {bs : List β} (env : Nat → Dl) (j : Nat) (h : EvD K te δ (.tuple (bs.map enc))) (h0 : env 0 = δ) (hj : j < bs.length)
    (hl : ∀ i < j, ∀ b, bs[i]? = some b → ∃ δ1, EvG K vs g (env i) (enc b) δ1 ∧ RunD K ts δ1 (.nx (env (i + 1))))
    (hr : ∀ b, bs[j]? = some b → ∃ δ1, EvG K vs g (env j) (enc b) δ1 ∧ RunD K ts δ1 (.rt d)) : RunD K (tFor (iTup K te) g ts) δ (.rt d) := fun hs D σ H hh S f =>
  h hs σ H hh S _ fun v H1 e1 r1 => by
    cases r1 with
    | @tup a xs _ hp ra =>
      have lx : xs.length = bs.length := by rw [ra.length, List.length_map]
      refine ⟨a, rfl, ⟨xs, hp.full.sq⟩, for_tup (xs := xs) (fun i σ' H' => i ≤ j ∧ Ex H1 H' ∧ Sl K (cut hs H') σ' (env i)) ⟨Nat.zero_le _, Ex.rfl, by rw [h0]; exact S.mono e1.cut⟩ (fun i σ' H' _ p => (hp.full.mono p.2.1).sq) (fun i x σ' H' hx p => ?_) (fun σ' H' p => ?_)⟩
      · obtain ⟨d0, hd0, rd0⟩ := ra.get' hx
        obtain ⟨b, hb, rfl⟩ := get_map hd0
        by_cases hi : i < j
        · obtain ⟨δ1, hg, hr⟩ := hl i hi b hb
          exact hg hs σ' H' x p.2.2 (rd0.mono p.2.1.cut) _ fun σ2 S2 _ => hr hs _ σ2 H' ((hh.mono e1).mono p.2.1) S2 fun σ3 H3 e3 S3 => ⟨hi, p.2.1.trans e3, S3⟩
        · have e : i = j := by omega
          subst e
          obtain ⟨δ1, hg, hr⟩ := hr b hb
          exact hg hs σ' H' x p.2.2 (rd0.mono p.2.1.cut) _ fun σ2 S2 _ => hr hs _ σ2 H' ((hh.mono e1).mono p.2.1) S2 fun v3 H3 e3 r3 => f v3 H3 ((e1.trans p.2.1).trans e3) r3
      · omega
end
end Dw
set_option Elab.async false
set_option linter.all false
set_option maxRecDepth 100000
set_option maxHeartbeats 1000000
namespace Dw
open PySem PySem.Spec PyProof.Rows L2
/-! ### the text -/
def top (i : Nat) : Stmt := PySem.Challenge.pw_drawerways_k13_whole_renamed.main.body.getD i (.Pass ⟨0, 0, 0, 0⟩)
abbrev s_renamed : Stmt := top 1
abbrev s_way_renamed : Stmt := top 2
abbrev s_renamed_deed : Stmt := top 3
abbrev s_renamed_told : Stmt := top 4
abbrev s_is_number : Stmt := top 8
abbrev s_is_name : Stmt := top 9
abbrev s_is_entry : Stmt := top 16
abbrev s_are_entries : Stmt := top 17
abbrev s_is_row : Stmt := top 18
abbrev s_holders : Stmt := top 19
abbrev s_comes_up : Stmt := top 20
abbrev s_is_held : Stmt := top 21
abbrev s_is_tree : Stmt := top 22
abbrev s_row_of : Stmt := top 23
abbrev s_kind_of : Stmt := top 24
abbrev s_entries_of : Stmt := top 25
abbrev s_way_through : Stmt := top 27
abbrev s_above : Stmt := top 28
abbrev s_laid : Stmt := top 30
abbrev s_drawer_of : Stmt := top 31
abbrev s_entry : Stmt := top 32
abbrev s_is_full : Stmt := top 33
abbrev s_is_inside : Stmt := top 34
abbrev s_do_look : Stmt := top 35
abbrev s_do_list : Stmt := top 36
abbrev s_do_make : Stmt := top 37
abbrev s_do_drop : Stmt := top 38
abbrev s_both_of : Stmt := top 39
abbrev s_do_link : Stmt := top 40
abbrev s_barred : Stmt := top 41
abbrev s_do_move : Stmt := top 42
abbrev s_do_swap : Stmt := top 43
abbrev s_done : Stmt := top 45
abbrev s__law_feed : Stmt := top 47
abbrev s__law_draw : Stmt := top 48
abbrev s__law_names : Stmt := top 49
abbrev s__law_tree : Stmt := top 50
abbrev s__law_way : Stmt := top 51
abbrev s__law_deed : Stmt := top 52
abbrev s__law_name_pairs : Stmt := top 53
abbrev s__law_node_pairs : Stmt := top 54
abbrev s__law_due : Stmt := top 55
abbrev s__law_back : Stmt := top 56
abbrev s__law_right : Stmt := top 57
abbrev s_law : Stmt := top 58
def letters : Str := "abcdefghijklmnopqrstuvwxyz"
structure Bs (mg : Str → Option Value) : Prop where
  dict_ : mg "dict" = none
  sorted_ : mg "sorted" = none
  tuple_ : mg "tuple" = none
  isinstance_ : mg "isinstance" = none
  int_ : mg "int" = none
  bool_ : mg "bool" = none
  str_ : mg "str" = none
  len_ : mg "len" = none
  all_ : mg "all" = none
  zip_ : mg "zip" = none
  enumerate_ : mg "enumerate" = none
  range_ : mg "range" = none
  list_ : mg "list" = none
  max_ : mg "max" = none
  repr_ : mg "repr" = none
  top : ∃ t, mg "TOP" = some (.int 0 t)
  most : ∃ t, mg "MOST_LETTERS" = some (.int 8 t)
  letters : ∃ t, mg "LETTERS" = some (.str Dw.letters t)
/-! ### calls of defs of the text -/
structure Cal (P : Program) (w : World) (K : PySem.W.Frag) (mg : Str → Option Value) (base : Heap) (k : Nat) (x : Str) (sp : Sp) : Prop where
  ex : ∃ (f : Addr) (fd : FuncData) (ps : List Str), FnOk P w K mg base CX0 k f fd ps sp ∧ mg x = some (.ref f) ∧ PySem.W.keepIn K (.ref f) = true ∧ Binds K fd ps []
structure CalD (P : Program) (w : World) (K : PySem.W.Frag) (mg : Str → Option Value) (base : Heap) (k : Nat) (x : Str) (sp : Sp) (dvs : List V) : Prop where
  ex : ∃ (f : Addr) (fd : FuncData) (ps : List Str) (ds : List Value), FnOk P w K mg base CX0 k f fd ps sp ∧ mg x = some (.ref f) ∧ PySem.W.keepIn K (.ref f) = true ∧ Binds K fd ps ds ∧ Vals dvs ds
structure CalK (P : Program) (w : World) (K : PySem.W.Frag) (mg : Str → Option Value) (base : Heap) (k : Nat) (x : Str) (n : Nat) (ks : List Str) (sp : Sp) (gV : List V → List V → List V) : Prop where
  ex : ∃ (f : Addr) (fd : FuncData) (ps : List Str) (g : List Value → List Value → List Value), FnOk P w K mg base CX0 k f fd ps sp ∧ mg x = some (.ref f) ∧ PySem.W.keepIn K (.ref f) = true ∧ KBn K fd ps n ks g gV
structure CalG (P : Program) (w : World) (K : PySem.W.Frag) (mg : Str → Option Value) (base : Heap) (k : Nat) (x : Str) (sp : Sp) : Prop where
  ex : ∃ (f : Addr) (fd : FuncData) (ps : List Str), FnG P w K mg base k f fd ps sp ∧ mg x = some (.ref f) ∧ PySem.W.keepIn K (.ref f) = true ∧ Binds K fd ps []
section
variable {X : Cx} {k j n i : Nat} {x : Str} {sp : Sp} {dvs : List V} {p pos : Pos} {e : Expr} {es : List Expr} {kws : List Keyword} {t tk : TA} {ks : List Str} {gV : List V → List V → List V}
theorem pe_gi {i : Int} (h : ∃ t, X.mg x = some (.int i t)) (hg : Gl X x := by rfl) (hd : (x == ("__debug__" : Str)) = false := by decide) : PE X (.Name x pos) (tC (.int i)) := let ⟨t, h⟩ := h; pe_glob hg h ⟨t, rfl⟩ hd
theorem pe_gs {z : Str} (h : ∃ t, X.mg x = some (.str z t)) (hg : Gl X x := by rfl) (hd : (x == ("__debug__" : Str)) = false := by decide) : PE X (.Name x pos) (tC (.str z)) := let ⟨t, h⟩ := h; pe_glob hg h ⟨t, rfl⟩ hd
theorem pe_cal (c : Cal X.prog X.w X.K X.mg X.base k x sp) (hr : Room j X.A) (hk : k ≤ j) (hg : Gl X x) (ha : PA X (e :: es) t)
    (hdb : (x == ("__debug__" : Str)) = false := by decide) (he : starEach (e :: es) X.env = (false, eval e X.env) :: starEach es X.env := by rfl) (hpl : (backTo pos (starEach es X.env)).any (·.1) = false := by rfl) :
    PE X (.Call (.Name x p) (e :: es) [] pos) (tCall sp [] E0 t) := by
  obtain ⟨f, fd, ps, F, hm, kp, b⟩ := c.ex
  exact pe_call F (hr.mono hk) hg hm kp b .nil pass0 ha hdb he hpl
theorem pe_cald (c : CalD X.prog X.w X.K X.mg X.base k x sp dvs) (hr : Room j X.A) (hk : k ≤ j) (hg : Gl X x) (ha : PA X (e :: es) t)
    (hdb : (x == ("__debug__" : Str)) = false := by decide) (he : starEach (e :: es) X.env = (false, eval e X.env) :: starEach es X.env := by rfl) (hpl : (backTo pos (starEach es X.env)).any (·.1) = false := by rfl) :
    PE X (.Call (.Name x p) (e :: es) [] pos) (tCall sp dvs E0 t) := by
  obtain ⟨f, fd, ps, ds, F, hm, kp, b, d⟩ := c.ex
  exact pe_call F (hr.mono hk) hg hm kp b d pass0 ha hdb he hpl
theorem pe_calg (c : CalG X.prog X.w X.K X.mg X.base k x sp) (hr : Room j X.A) (hk : k ≤ j) (hgd : X.A.guards = some []) (hg : Gl X x) (ha : PA X (e :: es) t)
    (hdb : (x == ("__debug__" : Str)) = false := by decide) (he : starEach (e :: es) X.env = (false, eval e X.env) :: starEach es X.env := by rfl) (hpl : (backTo pos (starEach es X.env)).any (·.1) = false := by rfl) :
    PE X (.Call (.Name x p) (e :: es) [] pos) (tCall sp [] E0 t) := by
  obtain ⟨f, fd, ps, F, hm, kp, b⟩ := c.ex
  exact pe_callG F (hr.mono hk) hgd hg hm kp b ha hdb he hpl
theorem pe_calk (c : CalK X.prog X.w X.K X.mg X.base k x n ks sp gV) (hr : Room j X.A) (hk : k ≤ j) (hg : Gl X x) (ha : PA X (e :: es) t) (hkw : PK X kws tk)
    (hall : (backToKw pos (keywordEach kws X.env)).all (·.1.isSome) = true := by rfl) (hks : (backToKw pos (keywordEach kws X.env)).filterMap (·.1) = ks := by rfl)
    (hdb : (x == ("__debug__" : Str)) = false := by decide) (he : starEach (e :: es) X.env = (false, eval e X.env) :: starEach es X.env := by rfl)
    (hpl : ((backTo pos (starEach (e :: es) X.env)).any (·.1) || (backToKw pos (keywordEach kws X.env)).any (·.1.isNone)) = false := by rfl) : PE X (.Call (.Name x p) (e :: es) kws pos) (tCallN n ks.length sp gV E0 t tk) := by
  obtain ⟨f, fd, ps, g, F, hm, kp, b⟩ := c.ex
  exact pe_callN F (hr.mono hk) hg hm kp b pass0 ha hkw hall hks hdb he hpl
theorem pe_calk0 (c : CalK X.prog X.w X.K X.mg X.base k x 0 ks sp gV) (hr : Room j X.A) (hk : k ≤ j) (hg : Gl X x) (hkw : PK X kws tk)
    (hall : (backToKw pos (keywordEach kws X.env)).all (·.1.isSome) = true := by rfl) (hks : (backToKw pos (keywordEach kws X.env)).filterMap (·.1) = ks := by rfl)
    (hdb : (x == ("__debug__" : Str)) = false := by decide) (hpl : ((backTo pos (starEach [] X.env)).any (·.1) || (backToKw pos (keywordEach kws X.env)).any (·.1.isNone)) = false := by rfl) : PE X (.Call (.Name x p) [] kws pos) (tCallN0 ks.length sp gV E0 tk) := by
  obtain ⟨f, fd, ps, g, F, hm, kp, b⟩ := c.ex
  exact pe_callN0 F (hr.mono hk) hg hm kp b pass0 hkw hall hks hdb hpl
end
/-- a def of the text as it stands behind the top -/
structure Has (K : PySem.W.Frag) (mg : Str → Option Value) (x : Str) (st : Stmt) (kws : List (Str × V)) (f : Addr) (fd : FuncData) : Prop where
  fn : FunD K x x (defArgs st) (defBody st) (defScope st) [] kws f fd
  mg : mg x = some (.ref f)
/-- a promise kept, from the walk and its reading -/
theorem cal_of {P : Program} {w : World} {K : PySem.W.Frag} {mg : Str → Option Value} {base : Heap} {k : Nat} {x : Str} {st : Stmt} {f : Addr} {fd : FuncData} {N ps : List Str} {n : Nat} {PP : List PyData → PyData → Prop} {t : TS} (F : Has K mg x st [] f fd) (S : FnScope N ps (defScope st))
    (hb : ∀ (kV doc pm : Value) (an : Option Addr) (cdv ct : Value) (us : List Value), us.length = ps.length → bindArgs (PySem.W.fnOf x x (defArgs st) (defBody st) (defScope st) .none kV doc pm an cdv ct) ⟨us, []⟩ = pure (ps.zip us))
    (wk : ∀ (cdv : Value) (A : Around) (outer : List Env) (s : Shared) (H : Hp) (E : XK), Room k (A.deeper (envOfC x (defScope st) s.heap.objs.size f cdv)) → PSs (cxOf CX0 P w K mg base N x (defScope st) f cdv A outer s H E).nox (defBody st) t)
    (hl : ∀ ds d, PP ds d → ds.length = ps.length)
    (run : ∀ ds d, PP ds d → RunD K t (ds.map (fun d => some (.d d)) ++ List.replicate (N.length - ds.length) none) (.rt d)) : Cal P w K mg base (k + 1) x (SpD K PP) :=
  ⟨f, fd, ps, F.fn.ok S (SpD.len hl) (fun cdv A outer s H vs Q E hr h => ⟨t, (wk cdv A outer s H E hr).nox, spd_run run h⟩), F.mg, F.fn.kp, F.fn.bindsN hb⟩
end Dw
set_option Elab.async false
set_option linter.all false
set_option maxRecDepth 100000
set_option maxHeartbeats 1000000
/-! More of the data layer; the promises. -/
namespace Dw
open PySem PySem.Spec PyProof.Rows L2
abbrev rLtStr : R2 := fun x y H Q => ∃ i j, x = .str i ∧ y = .str j ∧ Q (.bl (decide (i.cps.toList < j.cps.toList))) H
abbrev rAddStr : R2 := fun x y H Q => ∃ i j, x = .str i ∧ y = .str j ∧ i.length + j.length ≤ sizeLine ∧ Q (.str (i ++ j)) H
abbrev rLenD : List V → Hp → VK → Prop := fun xs H Q => ∃ (a : Addr) (kvs : List (Key × V)), xs = [V.ref a] ∧ H a = some (.dK kvs) ∧ Q (.int kvs.length) H
section
variable {K : PySem.W.Frag} {δ : Dl} {ta tb : TE} {x y : PyData}
theorem ev_neg {i : Int} (ha : EvD K ta δ (.int i)) : EvD K (tUn (rU fun i => .int (-i)) ta) δ (.int (-i)) := fun hs σ H hh S Q q => ha hs σ H hh S _ fun v H2 e2 r2 => by
  cases r2
  exact ⟨i, rfl, q _ H2 e2 (.int _)⟩
theorem ev_ltS {i j : Str} (ha : EvD K ta δ (.str i)) (hb : EvD K tb δ (.str j)) : EvD K (tOp rLtStr ta tb) δ (.bool (decide (i.cps.toList < j.cps.toList))) := ev_op ha hb fun hs H v u _ r1 r2 Q q => by
  cases r1; cases r2
  exact ⟨i, j, rfl, rfl, q _ H Ex.rfl (.bl _)⟩
theorem ev_notB {a b : Bool} (ha : EvD K ta δ (.bool a)) (hb : EvD K tb δ (.bool b)) : EvD K (tOp rNotB ta tb) δ (.bool (!decide (a = b))) := ev_op ha hb fun hs H v u _ r1 r2 Q q => by
  cases r1; cases r2
  exact ⟨a, b, rfl, rfl, q _ H Ex.rfl (.bl _)⟩
theorem ev_addS {i j : Str} (ha : EvD K ta δ (.str i)) (hb : EvD K tb δ (.str j)) (hz : i.length + j.length ≤ 10000) : EvD K (tOp rAddStr ta tb) δ (.str (i ++ j)) := ev_op ha hb fun hs H v u _ r1 r2 Q q => by
  cases r1; cases r2
  exact ⟨i, j, rfl, rfl, Nat.le_trans hz (by decide), q _ H Ex.rfl (.str _)⟩
end
/-! ### promises: trees, ways -/
def NameOk (x : Str) : Prop := 1 ≤ x.length ∧ x.length ≤ 8 ∧ ∀ c ∈ x.cps.toList, 97 ≤ c ∧ c ≤ 122
def yes : PyData := .bool true
def P_is_number (ds : List PyData) (d : PyData) : Prop := ∃ i : Int, ds = [.int i] ∧ d = .bool (decide (0 ≤ i))
def P_is_name (ds : List PyData) (d : PyData) : Prop := ∃ x, ds = [.str x] ∧ NameOk x ∧ d = yes
def P_is_entry (ds : List PyData) (d : PyData) : Prop := ∃ p, ds = [encE p] ∧ NameOk p.1 ∧ 0 ≤ p.2 ∧ d = yes
structure EntOk (e : Ent) : Prop where
  names : ∀ p ∈ e, NameOk p.1
  pos : ∀ p ∈ e, 0 ≤ p.2
  rise : Rise e
  few : e.length ≤ 100
def P_are_entries (ds : List PyData) (d : PyData) : Prop := ∃ e, ds = [eEnt e] ∧ EntOk e ∧ d = yes
def P_is_row (ds : List PyData) (d : PyData) : Prop := ∃ r, ds = [eRow r] ∧ 0 ≤ r.1 ∧ EntOk r.2.2 ∧ (r.2.1 = sD ∨ (r.2.1 = sS ∧ r.2.2 = [])) ∧ d = yes
def heldK (rows : List Row) : KDs := rows.map fun r => (.inl r.1, .list ((hold rows r.1).map .int))
def P_holders (ds : List PyData) (d : PyData) : Prop := ∃ rows, ds = [eRows rows] ∧ (rows.map (·.1)).Nodup ∧ (∀ r ∈ rows, ∀ p ∈ r.2.2, ∃ q ∈ rows, q.1 = p.2) ∧ rows.length ≤ 100 ∧ (∀ r ∈ rows, r.2.2.length ≤ 100) ∧ d = eKD (heldK rows)
def P_comes_up (ds : List PyData) (d : PyData) : Prop := ∃ t n, WF t ∧ ds = [.int n, eKD (heldK t.1)] ∧ (∃ r ∈ t.1, r.1 = n) ∧ d = yes
def P_is_held (ds : List PyData) (d : PyData) : Prop := ∃ t r, WF t ∧ ds = [eRow r, eKD (heldK t.1)] ∧ r ∈ t.1 ∧ d = yes
def P_is_tree (ds : List PyData) (d : PyData) : Prop := ∃ t, WF t ∧ ds = [eTree t] ∧ d = yes
def P_row_of (ds : List PyData) (d : PyData) : Prop := ∃ t n r, ds = [eTree t, .int n] ∧ rowOf t n = some r ∧ 0 ≤ n ∧ d = eRow r
def P_kind_of (ds : List PyData) (d : PyData) : Prop := ∃ t n r, ds = [eTree t, .int n] ∧ rowOf t n = some r ∧ 0 ≤ n ∧ d = .str r.2.1
def P_entries_of (ds : List PyData) (d : PyData) : Prop := ∃ t n r, ds = [eTree t, .int n] ∧ rowOf t n = some r ∧ 0 ≤ n ∧ r.2.1 ≠ sS ∧ d = eEnt r.2.2
def eInts (ns : List Int) : PyData := .tuple (ns.map .int)
def In (t : Tree) (n : Int) : Prop := ∃ r ∈ t.1, r.1 = n
def P_way_through (ds : List PyData) (d : PyData) : Prop := ∃ t w n, WF t ∧ ds = [eTree t, eWay w, .int n] ∧ In t n ∧ w.length ≤ 100 ∧ d = .tuple [eInts (thr t 0 n w).1, eMissO (thr t 0 n w).2]
def P_above (ds : List PyData) (d : PyData) : Prop := ∃ t n, WF t ∧ ds = [eTree t, .int n] ∧ In t n ∧ kindOf t n = sD ∧ d = eInts (up t fuel n)
end Dw
set_option Elab.async false
set_option linter.all false
set_option maxRecDepth 100000
set_option maxHeartbeats 1000000
namespace Dw
open PySem PySem.Spec PyProof.Rows L2
section
variable {X : Cx}
/-- name = {.. for ..} on one line, the name a local -/
theorem ps_setDc {i : Nat} {y : Str} {py : Pos} {kx vx tg iter : Expr} {ifs : List Expr} {scope : Scope} {own : List (Str × Nat)} {pos spos : Pos} {wi : TI} {g : TG} {tt : TT} {tk tv : TE} (hc : X.calm = true) (hN : X.N.Nodup) (hy : X.N[i]? = some y) (hyl : X.env.scope.names.lookup y = some .local)
    (hsw : swapsWith (.DictComp kx vx [⟨tg, iter, ifs, 0⟩] scope pos) (some (.Name y py)) spos.line X.env = pure true) (hi : PI X tg iter wi) (ok : BlkOk X.N X.env.scope scope own)
    (hg : ∀ (s : Shared) (H : Hp) (C : Addr) (cl : List (Str × Addr)) (fp : List Addr), PG (X.blk s H scope (compEnvC scope cl C X.env) fp) tg g) (ht : ∀ (s : Shared) (H : Hp) (C : Addr) (cl : List (Str × Addr)) (fp : List Addr), PTs (X.blk s H scope (compEnvC scope cl C X.env) fp) ifs tt)
    (hk : ∀ (s : Shared) (H : Hp) (C : Addr) (cl : List (Str × Addr)) (fp : List Addr), PE (X.blk s H scope (compEnvC scope cl C X.env) fp) kx tk)
    (he : ∀ (s : Shared) (H : Hp) (C : Addr) (cl : List (Str × Addr)) (fp : List Addr), PE (X.blk s H scope (compEnvC scope cl C X.env) fp) vx tv) (hs : ∀ x, foldedSetIterable iter X.env x = pure x := by intro _; rfl) :
    PS X (.Assign [.Name y py] (.DictComp kx vx [⟨tg, iter, ifs, 0⟩] scope pos) spos) (tAsg (tDc wi g tt tk tv (own.map (·.2))) (gName i)) := by
  refine ⟨fun pins s σ H D I h => ?_⟩
  rw [exec_Assign_Name_used _ _ _ _ hsw]
  refine wpAny_bind (wpAny_standAt (wpAny_bind ?_))
  show wpAny _ X.A (do let _ ← comprehension (.DictComp kx vx [⟨tg, iter, ifs, 0⟩] scope pos) scope X.env (firstIterPos [⟨tg, iter, ifs, 0⟩] pos) newDict false (eval iter X.env) (some (assign (.Name y py) X.env))) _ _ s
  have h : tDc wi g tt tk tv (own.map (·.2)) σ H (fun x H1 => gName i x σ H1 D.nx) := h
  refine wpAny_bind (thn (dc_core (Qf := fun _ s' => SP X pins D .next s') hc hN I hi ok hg ht hk he hs h fun L C s' m H' I' q hn f => ?_) fun _ s' hq => wpAny_pure (wpAny_pure hq))
  show wpAny _ _ (assign (.Name y py) X.env (.ref L)) _ _ _
  refine wpAny_assign_Name (store_ok2 (v := V.ref L) I' hN hy (.inl hyl) rfl (fun s2 I2 ⟨a, sb, ha⟩ => ?_) (.inr hyl))
  obtain ⟨f0, f1, f2, f3, f4, f5⟩ := f
  have haC : C ≠ a := by
    rcases ha with z | z
    · rw [z]; exact f1
    · exact fun e => f4 y a z e.symm
  exact ⟨m, hn.sameBut sb haC, fun h3 sb3 => ⟨_, H', I2.turned (t' := s2.toks) (fun b o hb e => (sb3.2 b hb).trans e) f0 f1 f3 f4 f5, q⟩⟩
theorem sw_trueD {kx vx : Expr} {gs : List Comprehension} {scope : Scope} {pos py : Pos} {y : Str} {l : Nat} {env : Env} (hk : env.scope.kind = .function) (hy : env.scope.names.lookup y = some .local) (hl : (py.line == pos.line) = true)
    (ha : (scope.names.any fun (n, k) => n == y && (k == .local || k == .cell)) = false) : swapsWith (.DictComp kx vx gs scope pos) (some (.Name y py)) l env = pure true := by
  have ky : env.kindOf y = some .local := hy
  have hb : env.blockKind = .function := by unfold Env.blockKind; rw [hk]; rfl
  unfold swapsWith
  simp only [hb, ky, ha, Expr.pos, hl]
  rfl
end
end Dw
set_option Elab.async false
set_option linter.all false
set_option maxRecDepth 100000
set_option maxHeartbeats 1000000
/-! A tactic for readings; trees. -/
namespace Dw
open PySem PySem.Spec PyProof.Rows L2
inductive LenD : PyData → Int → Prop
  | tup {ds : List PyData} : LenD (.tuple ds) ds.length
  | lst {ds : List PyData} : LenD (.list ds) ds.length
  | str {x : Str} : x.length ≤ 10000 → LenD (.str x) x.length
section
variable {K : PySem.W.Frag} {δ δ1 : Dl} {ta tb te tx : TE} {t u : TT} {d e x y z : PyData} {r : R2} {ts us us' : TS} {o : Out}
theorem ev_lenG {n : Int} (ha : EvD K ta δ x) (h : LenD x n) : EvD K (tCB (rLenAny K) (tCons ta tNil)) δ (.int n) := by
  cases h with
  | tup => exact ev_lenT ha
  | lst => exact ev_lenL ha
  | str h => exact ev_lenS ha h
theorem run_skip {b : Bool} (h : EvB K t δ b) (e : b = false) (r : RunD K us δ o) : RunD K (tSeq (tIfS t ts tNext) us) δ o := run_seq (run_ifF h e run_next) r
theorem run_take {b : Bool} (h : EvB K t δ b) (e : b = true) (r : RunD K ts δ (.rt d)) : RunD K (tSeq (tIfS t ts us') us) δ (.rt d) := run_seqR (run_ifT h e r)
theorem run_retT (h : EvD K te δ d) (e : d = x) : RunD K (tRet te) δ (.rt x) := e ▸ run_ret h
theorem run_let {i : Nat} (h : EvD K te δ d) (e : d = x) (r : RunD K us (δ.set i (some (.d x))) o) : RunD K (tSeq (tAsg te (gName i)) us) δ o := by
  subst e; exact run_seq (run_asg h) r
theorem run_letG {g : TG} (vs : List Nat) (h : EvD K te δ d) (e : d = x) (hg : EvG K vs g δ x δ1) (r : RunD K us δ1 o) : RunD K (tSeq (tAsg te g) us) δ o := by
  subst e; exact run_seq (run_asgG h hg) r
end
/-- fewer slots known -/
inductive Wk : Dl → Dl → Prop
  | nil : Wk [] []
  | keep {x : Option SD} {a b : Dl} : Wk a b → Wk (x :: a) (x :: b)
  | drop {x : Option SD} {a b : Dl} : Wk a b → Wk (x :: a) (none :: b)
theorem Wk.sl {K : PySem.W.Frag} {H : Hp} : ∀ {δ δ' : Dl} {σ : St}, Wk δ δ' → Sl K H σ δ → Sl K H σ δ' := fun {δ δ' σ} h S => S.weak (by
    clear S
    induction h with
    | nil => rfl
    | keep _ ih => simp [ih]
    | drop _ ih => simp [ih]) (by
    clear S
    induction h with
    | nil => exact fun i d q => q
    | keep _ ih =>
      intro i d q
      cases i with
      | zero => exact q
      | succ i => exact ih i d q
    | drop _ ih =>
      intro i d q
      cases i with
      | zero => cases q
      | succ i => exact ih i d q)
section
variable {K : PySem.W.Frag} {δ δ1 δ2 : Dl} {ts us : TS} {o : Out} {te : TE} {d : PyData}
theorem RunD.wk (h : RunD K ts δ (.nx δ1)) (w : Wk δ1 δ2) : RunD K ts δ (.nx δ2) := fun hs D σ H hh S f => h hs D σ H hh S fun σ' H' e s => f σ' H' e (w.sl s)
theorem RunD.to_eq (h : RunD K ts δ (.nx δ1)) (e : δ1 = δ2) : RunD K ts δ (.nx δ2) := e ▸ h
theorem RunD.wk0 (h : RunD K ts δ1 o) (w : Wk δ δ1) : RunD K ts δ o := fun hs D σ H hh S f => h hs D σ H hh (w.sl S) f
/-- for over a tuple; the slots of the target and of what is set within are not known behind a turn -/
theorem run_forW {β : Type} {g : TG} (vs : List Nat) (enc : β → PyData) {bs : List β} (δ0 : Dl) (h : EvD K te δ (.tuple (bs.map enc))) (h0 : Wk δ δ0)
    (hl : ∀ b ∈ bs, ∃ δ1 δ2, EvG K vs g δ0 (enc b) δ1 ∧ RunD K ts δ1 (.nx δ2) ∧ Wk δ2 δ0) : RunD K (tFor (iTup K te) g ts) δ (.nx δ0) := fun hs D σ H hh S f =>
  h hs σ H hh S _ fun v H1 e1 r1 => by
    cases r1 with
    | @tup a xs _ hp ra =>
      have lx : xs.length = bs.length := by rw [ra.length, List.length_map]
      refine ⟨a, rfl, ⟨xs, hp.full.sq⟩, for_tup (xs := xs) (fun i σ' H' => Ex H1 H' ∧ Sl K (cut hs H') σ' δ0) ⟨Ex.rfl, h0.sl (S.mono e1.cut)⟩ (fun i σ' H' _ p => (hp.full.mono p.1).sq) (fun i x σ' H' hx p => ?_) (fun σ' H' p => ?_)⟩
      · obtain ⟨d0, hd0, rd0⟩ := ra.get' hx
        obtain ⟨b, hb, rfl⟩ := get_map hd0
        obtain ⟨δ1, δ2, hg, hr, w⟩ := hl b (List.mem_of_getElem? hb)
        exact hg hs σ' H' x p.2 (rd0.mono p.1.cut) _ fun σ2 S2 _ => hr hs _ σ2 H' ((hh.mono e1).mono p.1) S2 fun σ3 H3 e3 S3 => ⟨p.1.trans e3, w.sl S3⟩
      · exact f σ' H' (e1.trans p.1) p.2
/-- for over a tuple, some turn returns -/
theorem run_forWR {β : Type} {g : TG} (vs : List Nat) (enc : β → PyData) {bs : List β} (δ0 : Dl) (j : Nat) (h : EvD K te δ (.tuple (bs.map enc))) (h0 : Wk δ δ0) (hj : j < bs.length)
    (hl : ∀ i < j, ∀ b, bs[i]? = some b → ∃ δ1 δ2, EvG K vs g δ0 (enc b) δ1 ∧ RunD K ts δ1 (.nx δ2) ∧ Wk δ2 δ0)
    (hr : ∀ b, bs[j]? = some b → ∃ δ1, EvG K vs g δ0 (enc b) δ1 ∧ RunD K ts δ1 (.rt d)) : RunD K (tFor (iTup K te) g ts) δ (.rt d) :=
  fun hs D σ H hh S f => h hs σ H hh S _ fun v H1 e1 r1 => by
    cases r1 with
    | @tup a xs _ hp ra =>
      have lx : xs.length = bs.length := by rw [ra.length, List.length_map]
      refine ⟨a, rfl, ⟨xs, hp.full.sq⟩, for_tup (xs := xs) (fun i σ' H' => i ≤ j ∧ Ex H1 H' ∧ Sl K (cut hs H') σ' δ0) ⟨Nat.zero_le _, Ex.rfl, h0.sl (S.mono e1.cut)⟩ (fun i σ' H' _ p => (hp.full.mono p.2.1).sq) (fun i x σ' H' hx p => ?_) (fun σ' H' p => ?_)⟩
      · obtain ⟨d0, hd0, rd0⟩ := ra.get' hx
        obtain ⟨b, hb, rfl⟩ := get_map hd0
        by_cases hi : i < j
        · obtain ⟨δ1, δ2, hg, hr, w⟩ := hl i hi b hb
          exact hg hs σ' H' x p.2.2 (rd0.mono p.2.1.cut) _ fun σ2 S2 _ => hr hs _ σ2 H' ((hh.mono e1).mono p.2.1) S2 fun σ3 H3 e3 S3 => ⟨hi, p.2.1.trans e3, w.sl S3⟩
        · have e : i = j := by omega
          subst e
          obtain ⟨δ1, hg, hr⟩ := hr b hb
          exact hg hs σ' H' x p.2.2 (rd0.mono p.2.1.cut) _ fun σ2 S2 _ => hr hs _ σ2 H' ((hh.mono e1).mono p.2.1) S2 fun v3 H3 e3 r3 => f v3 H3 ((e1.trans p.2.1).trans e3) r3
      · omega
end
/-! ### trees -/
section
variable {t : Tree} {n : Int} {r : Row}
theorem rowOf_some (h : In t n) : ∃ r, rowOf t n = some r ∧ r ∈ t.1 ∧ r.1 = n := by
  obtain ⟨r, hr, e⟩ := h
  cases q : rowOf t n with
  | none =>
    have := List.find?_eq_none.mp q r hr
    simp [e] at this
  | some r2 =>
    have h1 := List.find?_some q
    exact ⟨r2, rfl, List.mem_of_find?_eq_some q, by simpa using h1⟩
theorem kindOf_eq (h : rowOf t n = some r) : kindOf t n = r.2.1 := by unfold kindOf; rw [h]; rfl
theorem entOf_eq (h : rowOf t n = some r) : entOf t n = r.2.2 := by unfold entOf; rw [h]; rfl
theorem WF.inj (W : WF t) {r s : Row} (hr : r ∈ t.1) (hs : s ∈ t.1) (e : r.1 = s.1) : r = s := by
  have := W.inc
  by_cases h : r = s
  · exact h
  · exfalso
    have hp : t.1.Pairwise fun a b => a.1 ≠ b.1 := this.imp fun h => by omega
    have key : ∀ (l : List Row), l.Pairwise (fun a b => a.1 ≠ b.1) → r ∈ l → s ∈ l → r = s := by
      intro l
      induction l with
      | nil => intro _ h; cases h
      | cons a l ih =>
        intro hp h1 h2
        rcases List.mem_cons.mp h1 with e1 | h1
        · rcases List.mem_cons.mp h2 with e2 | h2
          · rw [e1, e2]
          · exact absurd (e1 ▸ e) ((List.pairwise_cons.mp hp).1 s h2)
        · rcases List.mem_cons.mp h2 with e2 | h2
          · exact absurd (e2 ▸ e.symm) ((List.pairwise_cons.mp hp).1 r h1)
          · exact ih (List.pairwise_cons.mp hp).2 h1 h2
    exact h (key t.1 hp hr hs)
theorem WF.rowOf (W : WF t) (hr : r ∈ t.1) : rowOf t r.1 = some r := by
  obtain ⟨s, h1, h2, h3⟩ := rowOf_some (t := t) (n := r.1) ⟨r, hr, rfl⟩
  rw [h1, W.inj h2 hr h3]
theorem WF.in0 (W : WF t) : In t 0 := by
  obtain ⟨e, rest, h⟩ := W.top
  exact ⟨(0, sD, e), by rw [h]; simp, rfl⟩
theorem WF.inPos (W : WF t) (h : In t n) : 0 ≤ n := by
  obtain ⟨r, hr, e⟩ := h
  exact e ▸ W.pos r hr
theorem WF.entOk (W : WF t) (hr : r ∈ t.1) : EntOk r.2.2 := ⟨fun p hp => W.named r hr p hp, fun p hp => by
  obtain ⟨_, q, hq, e⟩ := W.to r hr p hp
  exact e ▸ W.pos q hq, W.rise r hr, Nat.le_trans (W.fewE r hr) (by decide)⟩
theorem WF.kind2 (W : WF t) (h : In t n) : kindOf t n = sD ∨ kindOf t n = sS := by
  obtain ⟨r, h1, h2, h3⟩ := rowOf_some h
  rw [kindOf_eq h1]
  rcases W.kinds r h2 with h | h
  · exact .inl h
  · exact .inr h.1
theorem lk_mem {e : Ent} {x : Str} {m : Int} (h : lk e x = some m) : (x, m) ∈ e := by
  unfold lk at h
  cases q : e.find? fun p => decide (p.1 = x) with
  | none => rw [q] at h; cases h
  | some p =>
    rw [q] at h
    have h1 := List.find?_some q
    have h2 := List.mem_of_find?_eq_some q
    obtain ⟨p1, p2⟩ := p
    simp at h1 h
    subst h1; subst h
    exact h2
theorem WF.inTo (W : WF t) {x : Str} {m : Int} (h : lk (entOf t n) x = some m) : In t m := by
  unfold entOf at h
  cases q : Dw.rowOf t n with
  | none => rw [q] at h; cases h
  | some r =>
    rw [q] at h
    exact (W.to r (List.mem_of_find?_eq_some q) _ (lk_mem h)).2
end
/-! no dicts -/
theorem noD_ints (is : List Int) : PyData.hasDictAll (is.map .int) = false := by
  induction is with
  | nil => rfl
  | cons i is ih => simp [PyData.hasDictAll, PyData.hasDict, ih]
theorem noD_map {β : Type} {f : β → PyData} {l : List β} (h : ∀ b ∈ l, (f b).hasDict = false) : PyData.hasDictAll (l.map f) = false := by
  induction l with
  | nil => rfl
  | cons b l ih => simp only [List.map_cons, PyData.hasDictAll, h b List.mem_cons_self, Bool.false_or]; exact ih fun c hc => h c (List.mem_cons_of_mem _ hc)
theorem noD_encE (p : Str × Int) : (encE p).hasDict = false := rfl
theorem noD_eEnt (e : Ent) : (eEnt e).hasDict = false := by unfold eEnt; simp only [PyData.hasDict]; exact noD_map fun p _ => rfl
theorem noD_eRow (r : Row) : (eRow r).hasDict = false := by unfold eRow; simp only [PyData.hasDict, PyData.hasDictAll, noD_eEnt, Bool.or_false]
theorem noD_eRows (rows : List Row) : (eRows rows).hasDict = false := by unfold eRows; simp only [PyData.hasDict]; exact noD_map fun p _ => noD_eRow p
theorem noD_eTree (t : Tree) : (eTree t).hasDict = false := by unfold eTree; simp only [PyData.hasDict, PyData.hasDictAll, noD_eRows, Bool.or_false]
theorem noD_eWay (w : List Str) : (eWay w).hasDict = false := by unfold eWay; simp only [PyData.hasDict]; exact noD_map fun p _ => rfl
theorem noD_eInts (w : List Int) : (eInts w).hasDict = false := by unfold eInts; simp only [PyData.hasDict]; exact noD_map fun p _ => rfl
/-! ### calls -/
section
variable {K : PySem.W.Frag} {δ : Dl} {tl : TA} {E : XK} {t : Tree} {n : Int} {r : Row} {x : Str} {e : Ent}
theorem ev_is_number (a : EvA K tl δ [.int n]) : EvD K (tCall (SpD K P_is_number) [] E tl) δ (.bool (decide (0 ≤ n))) := ev_call a ⟨n, rfl, rfl⟩
theorem ev_is_name (a : EvA K tl δ [.str x]) (h : NameOk x) : EvD K (tCall (SpD K P_is_name) [] E tl) δ (.bool true) := ev_call a ⟨x, rfl, h, rfl⟩
theorem ev_is_entry {p : Str × Int} (a : EvA K tl δ [encE p]) (h : NameOk p.1) (h2 : 0 ≤ p.2) : EvD K (tCall (SpD K P_is_entry) [] E tl) δ (.bool true) := ev_call a ⟨p, rfl, h, h2, rfl⟩
theorem ev_are_entries (a : EvA K tl δ [eEnt e]) (h : EntOk e) : EvD K (tCall (SpD K P_are_entries) [] E tl) δ (.bool true) := ev_call a ⟨e, rfl, h, rfl⟩
theorem ev_is_row (a : EvA K tl δ [eRow r]) (W : WF t) (h : r ∈ t.1) : EvD K (tCall (SpD K P_is_row) [] E tl) δ (.bool true) := ev_call a ⟨r, rfl, W.pos r h, W.entOk h, W.kinds r h, rfl⟩
theorem ev_row_of (a : EvA K tl δ [eTree t, .int n]) (W : WF t) (h : rowOf t n = some r) : EvD K (tCall (SpD K P_row_of) [] E tl) δ (eRow r) := ev_call a ⟨t, n, r, rfl, h, W.inPos ⟨r, List.mem_of_find?_eq_some h, by simpa using List.find?_some h⟩, rfl⟩
theorem ev_kind_of (a : EvA K tl δ [eTree t, .int n]) (W : WF t) (h : In t n) : EvD K (tCall (SpD K P_kind_of) [] E tl) δ (.str (kindOf t n)) := by
  obtain ⟨r, h1, h2, h3⟩ := rowOf_some h
  exact ev_call a ⟨t, n, r, rfl, h1, W.inPos h, by rw [kindOf_eq h1]⟩
theorem ev_entries_of (a : EvA K tl δ [eTree t, .int n]) (W : WF t) (h : In t n) (hk : kindOf t n ≠ sS) : EvD K (tCall (SpD K P_entries_of) [] E tl) δ (eEnt (entOf t n)) := by
  obtain ⟨r, h1, h2, h3⟩ := rowOf_some h
  exact ev_call a ⟨t, n, r, rfl, h1, W.inPos h, by rwa [← kindOf_eq h1], by rw [entOf_eq h1]⟩
theorem ev_way (a : EvA K tl δ [eTree t, eWay w]) (W : WF t) (hl : w.length ≤ 100) : EvD K (tCall (SpD K P_way_through) [.int 0] E tl) δ (.tuple [eInts (thr t 0 0 w).1, eMissO (thr t 0 0 w).2]) :=
  ev_callD a (fun H => .cons (.int 0) .nil) ⟨t, w, 0, W, rfl, W.in0, hl, rfl⟩
theorem ev_above (a : EvA K tl δ [eTree t, .int n]) (W : WF t) (h : In t n) (hk : kindOf t n = sD) : EvD K (tCall (SpD K P_above) [] E tl) δ (eInts (up t fuel n)) := ev_call a ⟨t, n, W, rfl, h, hk, rfl⟩
end
end Dw
set_option Elab.async false
set_option linter.all false
set_option maxRecDepth 100000
set_option maxHeartbeats 1000000
/-! Loops, by what is walked. -/
namespace Dw
open PySem PySem.Spec PyProof.Rows L2
/-- what is walked gives n things, one by one; ok: what the target makes of the i-th -/
def Wlk (K : PySem.W.Frag) (vs : List Nat) (wi : TI) (g : TG) (δ : Dl) (n : Nat) (ok : Nat → Dl → Dl → Prop) : Prop :=
  ∀ hs σ H, Hid hs H → Sl K (cut hs H) σ δ → ∀ R : It → Hp → Prop,
    (∀ J H1, Ex H H1 → (∀ i hs2 H', Hid hs2 H' → Ex (cut hs H1) (cut hs2 H') → (i < n → J.go i H' ∧ ∀ x H'', J.yld i H' x H'' → Ex H' H'' ∧ ∀ δa δb, ok i δa δb → ∀ σ', Sl K (cut hs2 H') σ' δa → ∀ Q : St → Hp → Prop, (∀ σ2, Sl K (cut hs2 H'') σ2 δb → wipe σ2 vs = wipe σ' vs → Q σ2 H'') → g x σ' H'' Q) ∧ (i = n → J.stop i H')) → R J H1) → wi σ H R
section
variable {K : PySem.W.Frag} {δ δ1 δ2 : Dl} {ts us : TS} {o : Out} {te : TE} {ta : TA} {c : TT} {d : PyData} {g : TG} {gs : TGs} {wi : TI}
theorem wlk_tup {β : Type} (vs : List Nat) (enc : β → PyData) {bs : List β} (h : EvD K te δ (.tuple (bs.map enc))) : Wlk K vs (iTup K te) g δ bs.length (fun i δa δb => ∀ b, bs[i]? = some b → EvG K vs g δa (enc b) δb) := fun hs σ H hh S R q =>
  h hs σ H hh S _ fun v H1 e1 r1 => by
    cases r1 with
    | @tup a xs _ hp ra =>
      have lx : xs.length = bs.length := by rw [ra.length, List.length_map]
      refine ⟨a, rfl, ⟨xs, hp.full.sq⟩, q _ H1 e1 fun i hs2 H' _ e => ⟨fun hi => ⟨⟨xs, xs[i]'(by omega), (hp.mono e).full.sq, by simp [lx, hi]⟩, fun x H'' y => ?_⟩, fun hi => ⟨xs, (hp.mono e).full.sq, by omega⟩⟩⟩
      obtain ⟨e2, y⟩ := y
      subst e2
      refine ⟨Ex.rfl, fun δa δb ok σ' S' Q q' => ?_⟩
      obtain ⟨d0, hd0, rd0⟩ := ra.get' (y xs (hp.mono e).full.sq)
      obtain ⟨b, hb, rfl⟩ := get_map hd0
      exact ok b hb hs2 σ' _ x S' (rd0.mono e) Q fun σ2 S2 w2 => q' σ2 S2 w2
theorem wlk_lst {β : Type} (vs : List Nat) (enc : β → PyData) {bs : List β} (h : EvD K te δ (.list (bs.map enc))) : Wlk K vs (iList K te) g δ bs.length (fun i δa δb => ∀ b, bs[i]? = some b → EvG K vs g δa (enc b) δb) := fun hs σ H hh S R q =>
  h hs σ H hh S _ fun v H1 e1 r1 => by
    cases r1 with
    | @lst a xs _ hp ra =>
      have lx : xs.length = bs.length := by rw [ra.length, List.length_map]
      refine ⟨a, rfl, ⟨xs, SqL.full hp⟩, q _ H1 e1 fun i hs2 H' _ e => ⟨fun hi => ⟨⟨xs, xs[i]'(by omega), SqL.full (e _ _ hp), by simp [lx, hi]⟩, fun x H'' y => ?_⟩, fun hi => ⟨xs, SqL.full (e _ _ hp), by omega⟩⟩⟩
      obtain ⟨e2, y⟩ := y
      subst e2
      refine ⟨Ex.rfl, fun δa δb ok σ' S' Q q' => ?_⟩
      obtain ⟨d0, hd0, rd0⟩ := ra.get' (y xs (SqL.full (e _ _ hp)))
      obtain ⟨b, hb, rfl⟩ := get_map hd0
      exact ok b hb hs2 σ' _ x S' (rd0.mono e) Q fun σ2 S2 w2 => q' σ2 S2 w2
theorem wlk_enumT {β : Type} (vs : List Nat) (enc : β → PyData) {bs : List β} (h : EvA K ta δ [.tuple (bs.map enc)]) : Wlk K vs (iEnumT K ta) (gTup K 2 gs) δ bs.length (fun i δa δb => ∀ b, bs[i]? = some b → EvGs K vs gs δa [.int (i : Nat), enc b] δb) := fun hs σ H hh S R q =>
  h hs σ H hh S _ fun vs1 H1 e1 r1 => by
    obtain ⟨v, rfl, r2⟩ := r1.one
    clear r1
    cases r2 with
    | @tup a xs _ hp ra =>
      have lx : xs.length = bs.length := by rw [ra.length, List.length_map]
      refine ⟨a, xs, rfl, hp.full.sq, q _ H1 e1 fun i hs2 H' hh' e => ⟨fun hi => ⟨⟨xs, xs[i]'(by omega), (hp.mono e).full.sq, by simp [lx, hi]⟩, fun x H'' y => ?_⟩, fun hi => ⟨xs, (hp.mono e).full.sq, by omega⟩⟩⟩
      obtain ⟨T, x0, rfl, hT, rfl, y⟩ := y
      refine ⟨Evl.Ex.new hT, fun δa δb ok σ' S' Q q' => ?_⟩
      obtain ⟨d0, hd0, rd0⟩ := ra.get' (y xs (hp.mono e).full.sq)
      obtain ⟨b, hb, rfl⟩ := get_map hd0
      exact eg_pair (ok b hb) hh' hT S' (.int _) (rd0.mono e) fun σ2 S2 w2 => q' σ2 S2 w2
theorem wlk_rng {tl : TA} {n : Nat} (vs : List Nat) (h : EvA K tl δ [.int n]) (hn : n ≤ 10000) : Wlk K vs (iRng1 tl) g δ n (fun i δa δb => EvG K vs g δa (.int (i : Nat)) δb) := fun hs σ H hh S R q =>
  h hs σ H hh S _ fun vs1 H1 e1 r1 => by
    obtain ⟨v, rfl, r2⟩ := r1.one
    cases r2
    refine ⟨n, rfl, by omega, by omega, q _ H1 e1 fun i hs2 H' _ e => ⟨fun hi => ⟨hi, fun x H'' y => ?_⟩, fun hi => ?_⟩⟩
    · obtain ⟨rfl, rfl⟩ := y
      exact ⟨Ex.rfl, fun δa δb ok σ' S' Q q' => ok hs2 σ' _ _ S' (by rw [Int.zero_add]; exact .int _) Q fun σ2 S2 w2 => q' σ2 S2 w2⟩
    · rw [hi]; exact Nat.le_refl _
/-- for, by an invariant of the slots -/
theorem run_forI {n : Nat} {vs : List Nat} {ok : Nat → Dl → Dl → Prop} (w : Wlk K vs wi g δ n ok) (I : Nat → Dl → Prop) (h0 : ∃ δ0, Wk δ δ0 ∧ I 0 δ0)
    (turn : ∀ i < n, ∀ δa, I i δa → ∃ δ1, ok i δa δ1 ∧ ((∃ δ2 δ3, RunD K ts δ1 (.nx δ2) ∧ Wk δ2 δ3 ∧ I (i + 1) δ3) ∨ (∃ d, o = .rt d ∧ RunD K ts δ1 (.rt d)) ∨ ∃ δ2, RunD K ts δ1 (.bk δ2) ∧ RunD K us δ2 o))
    (fin : ∀ δa, I n δa → RunD K us δa o) : RunD K (tSeq (tFor wi g ts) us) δ o := fun hs D σ H hh S f =>
  w hs σ H hh S _ fun J H1 e1 st => by
    obtain ⟨δ0, w0, h0⟩ := h0
    refine ⟨fun i m σ' H' => m = n - i ∧ i ≤ n ∧ Ex H1 H' ∧ ∃ δa, I i δa ∧ Sl K (cut hs H') σ' δa, ⟨n, by simp, Nat.zero_le _, Ex.rfl, δ0, h0, w0.sl (S.mono e1.cut)⟩, ?_⟩
    rintro i m σ' H' ⟨rfl, hi, e2, δa, hI, S'⟩
    have hh' := (hh.mono e1).mono e2
    have s2 := st i hs H' hh' e2.cut
    by_cases hlt : i < n
    · obtain ⟨go, y⟩ := s2.1 hlt
      obtain ⟨δ1, hok, cases3⟩ := turn i hlt δa hI
      refine .inr ⟨go, fun σ3 H3 => i + 1 ≤ n ∧ Ex H1 H3 ∧ ∃ δb, I (i + 1) δb ∧ Sl K (cut hs H3) σ3 δb, fun σ3 H3 p => ⟨n - (i + 1), by omega, rfl, p⟩, fun x H'' yy => ?_⟩
      obtain ⟨e3, k⟩ := y x H'' yy
      refine k δa δ1 hok σ' S' _ fun σ2 S2 _ => ?_
      rcases cases3 with ⟨δ2, δ3, hr, w2, hI2⟩ | ⟨d, rfl, hr⟩ | ⟨δ2, hr, hu⟩
      · exact hr hs _ σ2 H'' (hh'.mono e3) S2 fun σ4 H4 e4 S4 => ⟨hlt, (e2.trans e3).trans e4, δ3, hI2, w2.sl S4⟩
      · exact hr hs _ σ2 H'' (hh'.mono e3) S2 fun v H4 e4 r4 => f v H4 ((e1.trans (e2.trans e3)).trans e4) r4
      · exact hr hs _ σ2 H'' (hh'.mono e3) S2 fun σ4 H4 e4 S4 => hu hs D σ4 H4 ((hh'.mono e3).mono e4) S4 (f.mono ((e1.trans (e2.trans e3)).trans e4))
    · have e : i = n := by omega
      subst e
      exact .inl ⟨s2.2 rfl, fin δa hI hs D σ' H' hh' S' (f.mono (e1.trans e2))⟩
/-- while, by an invariant of the slots -/
theorem run_whileI (I : Nat → Dl → Prop) (h0 : ∃ m δ0, Wk δ δ0 ∧ I m δ0)
    (turn : ∀ m δa, I m δa → ∃ b, EvB K c δa b ∧ (b = true → (∃ δ2 δ3 m', RunD K ts δa (.nx δ2) ∧ Wk δ2 δ3 ∧ m' < m ∧ I m' δ3) ∨ (∃ d, o = .rt d ∧ RunD K ts δa (.rt d))) ∧ (b = false → RunD K us δa o)) : RunD K (tSeq (tWhile c ts) us) δ o := fun hs D σ H hh S f => by
  obtain ⟨m0, δ0, w0, hI0⟩ := h0
  refine ⟨fun m σ' H' => Ex H H' ∧ ∃ δa, I m δa ∧ Sl K (cut hs H') σ' δa, ⟨m0, Ex.rfl, δ0, hI0, w0.sl S⟩, ?_⟩
  rintro m σ' H' ⟨e2, δa, hI, S'⟩
  have hh' := hh.mono e2
  obtain ⟨b, hb, ht, hf⟩ := turn m δa hI
  refine hb hs σ' H' hh' S' _ fun H2 e3 => ?_
  cases b with
  | false => exact hf rfl hs D σ' H2 (hh'.mono e3) (S'.mono e3.cut) (f.mono (e2.trans e3))
  | true =>
    rcases ht rfl with ⟨δ2, δ3, m', hr, w2, hm, hI2⟩ | ⟨d, rfl, hr⟩
    · exact ⟨fun σ3 H3 => Ex H H3 ∧ ∃ δb, I m' δb ∧ Sl K (cut hs H3) σ3 δb, fun σ3 H3 p => ⟨m', hm, p⟩, hr hs _ σ' H2 (hh'.mono e3) (S'.mono e3.cut) fun σ4 H4 e4 S4 => ⟨(e2.trans e3).trans e4, δ3, hI2, w2.sl S4⟩⟩
    · exact ⟨fun _ _ => False, fun _ _ p => p.elim, hr hs _ σ' H2 (hh'.mono e3) (S'.mono e3.cut) fun v H4 e4 r4 => f v H4 ((e2.trans e3).trans e4) r4⟩
end
end Dw
set_option Elab.async false
set_option linter.all false
set_option maxRecDepth 100000
set_option maxHeartbeats 1000000
/-! Entries as dicts; last things. -/
namespace Dw
open PySem PySem.Spec PyProof.Rows L2
def entK (e : Ent) : KDs := e.map fun p => (.inr p.1, .int p.2)
theorem lkK_entK (e : Ent) (x : Str) : lkK (entK e) (.inr x) = (lk e x).map .int := by
  unfold lkK lk entK
  induction e with
  | nil => rfl
  | cons p e ih =>
    rw [List.map_cons]
    by_cases h : p.1 = x
    · rw [List.find?_cons_of_pos (by simp [h]), List.find?_cons_of_pos (by simp [h])]; rfl
    · rw [List.find?_cons_of_neg (by simp [h]), List.find?_cons_of_neg (by simp [h])]; exact ih
theorem entK_nodup {e : Ent} (h : (e.map (·.1)).Nodup) : ((entK e).map (·.1)).Nodup := by
  unfold entK
  rw [List.map_map]
  have : (Prod.fst ∘ fun p : Str × Int => ((Sum.inr p.1 : Key), PyData.int p.2)) = (Sum.inr : Str → Key) ∘ fun p => p.1 := rfl
  rw [this, ← List.map_map]
  exact List.pairwise_map.mpr (h.imp fun hab he => hab (by cases he; rfl))
section
variable {K : PySem.W.Frag} {δ : Dl} {ta tb : TE} {e : Ent}
theorem ev_dictE (a : EvD K ta δ (eEnt e)) (h : (e.map (·.1)).Nodup) : EvD K (tCB (rDictF K) (tCons ta tNil)) δ (eKD (entK e)) := ev_dictT (kds := entK e) (a.to (by unfold eEnt entK; rw [List.map_map]; rfl)) (entK_nodup h)
theorem ev_getE {x : Str} (a : EvD K ta δ (eKD (entK e))) (b : EvD K tb δ (.str x)) : EvD K (tDGet1 ta tb) δ (((lk e x).map .int).getD .none) := (ev_get1 (k := .inr x) a b).to (by rw [lkK_entK])
end
theorem atI_last {α : Type} (l : List α) (x : α) : atI (l ++ [x]) (-1) = some x := by
  unfold atI
  have e : ixN (l ++ [x]).length (-1) = some l.length := by
    unfold ixN
    simp
    constructor <;> omega
  rw [e]
  simp
theorem cutD_dropLast {α : Type} (xs : List α) : cutD xs none (some (-1)) = xs.dropLast := by
  unfold cutD
  rw [HT.sIx_none]
  have e : HT.sIx xs.length xs.length (some (-1)) = xs.length - 1 := by
    unfold HT.sIx
    simp
    omega
  rw [e, List.drop_zero, List.dropLast_eq_take]
  rfl
theorem cutD_take {α : Type} (xs : List α) (k : Nat) : cutD xs none (some (k : Int)) = xs.take k := by
  unfold cutD
  rw [HT.sIx_none, HT.sIx_nat, List.drop_zero, Nat.sub_zero]
  by_cases h : k ≤ xs.length
  · rw [Nat.min_eq_left h]
  · rw [Nat.min_eq_right (by omega), List.take_length, List.take_of_length_le (by omega)]
theorem entOf_rise {t : Tree} (W : WF t) (n : Int) : Rise (entOf t n) := by
  unfold entOf
  cases q : rowOf t n with
  | none => exact List.Pairwise.nil
  | some r => exact W.rise r (List.mem_of_find?_eq_some q)
end Dw
set_option Elab.async false
set_option linter.all false
set_option maxRecDepth 100000
set_option maxHeartbeats 600000
namespace Dw
open PySem PySem.Spec PyProof.Rows L2
section
variable {P : Program} {w : World} {K : PySem.W.Frag} {mg : Str → Option Value} {base : Heap} {f : Addr} {cdv : Value} {A : Around} {outer : List Env} {s : Shared} {H : Hp} {E : XK}
abbrev N_is_number : List Str := ["thing"]
theorem sc_is_number : FnScope N_is_number ["thing"] (defScope s_is_number) := ⟨rfl, rfl, rfl, by decide +kernel, rfl, by decide +kernel, by decide +kernel⟩
def t_is_number (K : PySem.W.Frag) : TS :=
    tRet (tAndV (tCB (rIsi K) (tCons (tVar 0) (tCons (tC (.ty "int")) tNil))) (tAndV (tNotV (tCB (rIsi K) (tCons (tVar 0) (tCons (tC (.ty "bool")) tNil)))) (tOp (rI0 fun i j => .bl (decide (j ≤ i))) (tVar 0) (tC (.int 0)))))
theorem wk_is_number (B : Bs mg)   (hr : Room 0 (A.deeper (envOfC "is_number" (defScope s_is_number) s.heap.objs.size f cdv))) :
    PSs (cxOf CX0 P w K mg base N_is_number "is_number" (defScope s_is_number) f cdv A outer s H E).nox (defBody s_is_number) (t_is_number K) := by
  exact (pss_one (ps_ret (pe_and (pe_callB call_isi (by rfl) B.isinstance_ (by decide +kernel) (pa_cons (pv 0) (pa_cons (pe_bltn (v := .ty "int") (by rfl) B.int_ (by decide +kernel) rfl) pa_nil))) (pe_and (pe_not (pe_callB call_isi (by rfl) B.isinstance_ (by decide +kernel) (pa_cons (pv 0) (pa_cons (pe_bltn (v := .ty "bool") (by rfl) B.bool_ (by decide +kernel) rfl) pa_nil)))) (pe_one (pe_cmpR op_ge (pv 0) (pe_int) (nomark _)))))))
abbrev N_is_name : List Str := ["thing", "sign"]
theorem sc_is_name : FnScope N_is_name ["thing"] (defScope s_is_name) := ⟨rfl, rfl, rfl, by decide +kernel, rfl, by decide +kernel, by decide +kernel⟩
def t_is_name (K : PySem.W.Frag) : TS :=
    tSeq (tIfS (tOr (tNot (tB (tCB (rIsi K) (tCons (tVar 0) (tCons (tC (.ty "str")) tNil))))) (tNot (tTest (tChain (rI0 fun i j => .bl (decide (i ≤ j))) (rI0 fun i j => .bl (decide (i ≤ j))) (tC (.int 1)) (tCB (rLenAny K) (tCons (tVar 0) (tNil))) (tC (.int 8)))))) (tRet (tC (.bl false))) (tNext))
    (tRet (tCB (rAll K) (tCons (tLc (iStr (tVar 0)) (gName 1) (tYes) (tOp (rInSign) (tVar 1) (tC (.str letters))) [1]) (tNil))))
theorem wk_is_name (B : Bs mg)   (hr : Room 0 (A.deeper (envOfC "is_name" (defScope s_is_name) s.heap.objs.size f cdv))) :
    PSs (cxOf CX0 P w K mg base N_is_name "is_name" (defScope s_is_name) f cdv A outer s H E).nox (defBody s_is_name) (t_is_name K) := by
  exact (pss_cons (ps_if (PW.pt (pw_or (pt_not (pt_val (pe_callB call_isi (by rfl) B.isinstance_ (by decide +kernel) (pa_cons (pv 0) (pa_cons (pe_bltn (v := .ty "str") (by rfl) B.str_ (by decide +kernel) rfl) pa_nil))))) (pw_or1 (pt_not (pt_chain op_le op_le (pe_int) (pe_callB call_len (by rfl) B.len_ (by decide +kernel) (pa_cons (pv 0) (pa_nil))) (pe_gi B.most)))))) (pss_one (ps_ret (pe_bl))) (pss_nil))
      (pss_one (ps_ret (pe_callB (cr_all rfl) (by rfl) B.all_ (by decide +kernel) (pa_cons (pe_lc (own := [("sign", 1)]) (g := gName 1) (tt := tYes) (te := tOp (rInSign) (tVar 1) (tC (.str letters))) rfl sc_is_name.nd (pi_str (pv 0)) (blkOk_by (own := [("sign", 1)]) (N := N_is_name) (sc := defScope s_is_name) (by decide +kernel)) (fun _ _ _ _ _ => pg_name (i := 1) sc_is_name.nd rfl (by first | exact Or.inl rfl | exact Or.inr rfl)) (fun _ _ _ _ _ => pts_nil) (fun _ _ _ _ _ => pe_cmpR op_in_sign (pv 1) (pe_gs B.letters) (by rfl))) (pa_nil))))))
abbrev N_is_entry : List Str := ["thing"]
theorem sc_is_entry : FnScope N_is_entry ["thing"] (defScope s_is_entry) := ⟨rfl, rfl, rfl, by decide +kernel, rfl, by decide +kernel, by decide +kernel⟩
def t_is_entry (K : PySem.W.Frag) : TS :=
    tRet (tAndV (tCB (rIsi K) (tCons (tVar 0) (tCons (tC (.ty "tuple")) tNil))) (tAndV (tOp (rEqP K) (tCB (rLenAny K) (tCons (tVar 0) (tNil))) (tC (.int 2))) (tAndV (tCall (SpD K P_is_name) [] E0 (tCons (tOp (rIxT K) (tVar 0) (tC (.int 0))) (tNil))) (tCall (SpD K P_is_number) [] E0 (tCons (tOp (rIxT K) (tVar 0) (tC (.int 1))) (tNil))))))
theorem wk_is_entry (B : Bs mg)  (c_is_name : Cal P w K mg base 1 "is_name" (SpD K P_is_name)) (c_is_number : Cal P w K mg base 1 "is_number" (SpD K P_is_number)) (hr : Room 1 (A.deeper (envOfC "is_entry" (defScope s_is_entry) s.heap.objs.size f cdv))) :
    PSs (cxOf CX0 P w K mg base N_is_entry "is_entry" (defScope s_is_entry) f cdv A outer s H E).nox (defBody s_is_entry) (t_is_entry K) := by
  exact (pss_one (ps_ret (pe_and (pe_callB call_isi (by rfl) B.isinstance_ (by decide +kernel) (pa_cons (pv 0) (pa_cons (pe_bltn (v := .ty "tuple") (by rfl) B.tuple_ (by decide +kernel) rfl) pa_nil))) (pe_and (pe_cmpR (op_eqP hr.units) (pe_callB call_len (by rfl) B.len_ (by decide +kernel) (pa_cons (pv 0) (pa_nil))) (pe_int) (nomark _)) (pe_and (pe_cal c_is_name hr (by decide) rfl (pa_cons (pe_ix ix_tup (pv 0) (pe_int) (fun _ _ => rfl)) (pa_nil))) (pe_one (pe_cal c_is_number hr (by decide) rfl (pa_cons (pe_ix ix_tup (pv 0) (pe_int) (fun _ _ => rfl)) (pa_nil)))))))))
abbrev N_are_entries : List Str := ["thing", "entry", "one", "other"]
theorem sc_are_entries : FnScope N_are_entries ["thing"] (defScope s_are_entries) := ⟨rfl, rfl, rfl, by decide +kernel, rfl, by decide +kernel, by decide +kernel⟩
def t_are_entries (K : PySem.W.Frag) : TS :=
    tSeq (tIfS (tOr (tNot (tB (tCB (rIsi K) (tCons (tVar 0) (tCons (tC (.ty "tuple")) tNil))))) (tNot (tB (tCB (rAll K) (tCons (tLc (iTup K (tVar 0)) (gName 1) (tYes) (tCall (SpD K P_is_entry) [] E0 (tCons (tVar 1) (tNil))) [1]) (tNil)))))) (tRet (tC (.bl false))) (tNext))
    (tRet (tCB (rAll K) (tCons (tLc (RZ.iZipA K (tCons (tVar 0) (tCons (tSl (rSlF K) (tVar 0) (tPart (tC (.int 1))) (tNoPart)) (tNil)))) (gTup K 2 (gCons (gName 2) (gCons (gName 3) (gNil)))) (tYes) (tOp (rLtStr) (tOp (rIxT K) (tVar 2) (tC (.int 0))) (tOp (rIxT K) (tVar 3) (tC (.int 0)))) [2, 3]) (tNil))))
theorem wk_are_entries (B : Bs mg)  (c_is_entry : Cal P w K mg base 2 "is_entry" (SpD K P_is_entry)) (hr : Room 2 (A.deeper (envOfC "are_entries" (defScope s_are_entries) s.heap.objs.size f cdv))) :
    PSs (cxOf CX0 P w K mg base N_are_entries "are_entries" (defScope s_are_entries) f cdv A outer s H E).nox (defBody s_are_entries) (t_are_entries K) := by
  exact (pss_cons (ps_if (PW.pt (pw_or (pt_not (pt_val (pe_callB call_isi (by rfl) B.isinstance_ (by decide +kernel) (pa_cons (pv 0) (pa_cons (pe_bltn (v := .ty "tuple") (by rfl) B.tuple_ (by decide +kernel) rfl) pa_nil))))) (pw_or1 (pt_not (pt_val (pe_callB (cr_all rfl) (by rfl) B.all_ (by decide +kernel) (pa_cons (pe_lc (own := [("entry", 1)]) (g := gName 1) (tt := tYes) (te := tCall (SpD K P_is_entry) [] E0 (tCons (tVar 1) (tNil))) rfl sc_are_entries.nd (pi_tup (pv 0)) (blkOk_by (own := [("entry", 1)]) (N := N_are_entries) (sc := defScope s_are_entries) (by decide +kernel)) (fun _ _ _ _ _ => pg_name (i := 1) sc_are_entries.nd rfl (by first | exact Or.inl rfl | exact Or.inr rfl)) (fun _ _ _ _ _ => pts_nil) (fun _ _ _ _ _ => pe_cal c_is_entry hr (by decide) rfl (pa_cons (pv 1) (pa_nil)))) (pa_nil)))))))) (pss_one (ps_ret (pe_bl))) (pss_nil))
      (pss_one (ps_ret (pe_callB (cr_all rfl) (by rfl) B.all_ (by decide +kernel) (pa_cons (pe_lc (own := [("one", 2), ("other", 3)]) (g := gTup K 2 (gCons (gName 2) (gCons (gName 3) (gNil)))) (tt := tYes) (te := tOp (rLtStr) (tOp (rIxT K) (tVar 2) (tC (.int 0))) (tOp (rIxT K) (tVar 3) (tC (.int 0)))) rfl sc_are_entries.nd (RZ.pi_zipA (by rfl) B.zip_ (pa_cons (pv 0) (pa_cons (pe_slice sl_tupF (pv 0) (po_some (pe_int)) (po_none)) (pa_nil)))) (blkOk_by (own := [("one", 2), ("other", 3)]) (N := N_are_entries) (sc := defScope s_are_entries) (by decide +kernel)) (fun _ _ _ _ _ => pg_tup rfl (pgs_cons (pg_name (i := 2) sc_are_entries.nd rfl (by first | exact Or.inl rfl | exact Or.inr rfl)) (pgs_cons (pg_name (i := 3) sc_are_entries.nd rfl (by first | exact Or.inl rfl | exact Or.inr rfl)) (pgs_nil)))) (fun _ _ _ _ _ => pts_nil) (fun _ _ _ _ _ => pe_cmpR op_lt_str (pe_ix ix_tup (pv 2) (pe_int) (fun _ _ => rfl)) (pe_ix ix_tup (pv 3) (pe_int) (fun _ _ => rfl)) (nomark _))) (pa_nil))))))
abbrev N_is_row : List Str := ["thing"]
theorem sc_is_row : FnScope N_is_row ["thing"] (defScope s_is_row) := ⟨rfl, rfl, rfl, by decide +kernel, rfl, by decide +kernel, by decide +kernel⟩
def t_is_row (K : PySem.W.Frag) : TS :=
    tSeq (tIfS (tOr (tNot (tB (tCB (rIsi K) (tCons (tVar 0) (tCons (tC (.ty "tuple")) tNil))))) (tOr (tTest (tOp (rNeP K) (tCB (rLenAny K) (tCons (tVar 0) (tNil))) (tC (.int 3)))) (tOr (tNot (tB (tCall (SpD K P_is_number) [] E0 (tCons (tOp (rIxT K) (tVar 0) (tC (.int 0))) (tNil))))) (tNot (tB (tCB (rIsi K) (tCons (tOp (rIxT K) (tVar 0) (tC (.int 1))) (tCons (tC (.ty "str")) tNil)))))))) (tRet (tC (.bl false))) (tNext))
    (tSeq (tIfS (tTest (tOp (rEqP K) (tOp (rIxT K) (tVar 0) (tC (.int 1))) (tC (.str ("sheet" : Str))))) (tRet (tAndV (tOp (rEqP K) (tOp (rIxT K) (tVar 0) (tC (.int 2))) (tTupF (tNil))) (tCB (rIsi K) (tCons (tOp (rIxT K) (tVar 0) (tC (.int 2))) (tCons (tC (.ty "tuple")) tNil))))) (tNext))
    (tRet (tAndV (tOp (rEqP K) (tOp (rIxT K) (tVar 0) (tC (.int 1))) (tC (.str ("drawer" : Str)))) (tCall (SpD K P_are_entries) [] E0 (tCons (tOp (rIxT K) (tVar 0) (tC (.int 2))) (tNil))))))
theorem wk_is_row (B : Bs mg)  (c_are_entries : Cal P w K mg base 3 "are_entries" (SpD K P_are_entries)) (c_is_number : Cal P w K mg base 1 "is_number" (SpD K P_is_number)) (hr : Room 3 (A.deeper (envOfC "is_row" (defScope s_is_row) s.heap.objs.size f cdv))) :
    PSs (cxOf CX0 P w K mg base N_is_row "is_row" (defScope s_is_row) f cdv A outer s H E).nox (defBody s_is_row) (t_is_row K) := by
  exact (pss_cons (ps_if (PW.pt (pw_or (pt_not (pt_val (pe_callB call_isi (by rfl) B.isinstance_ (by decide +kernel) (pa_cons (pv 0) (pa_cons (pe_bltn (v := .ty "tuple") (by rfl) B.tuple_ (by decide +kernel) rfl) pa_nil))))) (pw_or (pt_cmpR (op_neP hr.units) (pe_callB call_len (by rfl) B.len_ (by decide +kernel) (pa_cons (pv 0) (pa_nil))) (pe_int) (nomark _)) (pw_or (pt_not (pt_val (pe_cal c_is_number hr (by decide) rfl (pa_cons (pe_ix ix_tup (pv 0) (pe_int) (fun _ _ => rfl)) (pa_nil))))) (pw_or1 (pt_not (pt_val (pe_callB call_isi (by rfl) B.isinstance_ (by decide +kernel) (pa_cons (pe_ix ix_tup (pv 0) (pe_int) (fun _ _ => rfl)) (pa_cons (pe_bltn (v := .ty "str") (by rfl) B.str_ (by decide +kernel) rfl) pa_nil)))))))))) (pss_one (ps_ret (pe_bl))) (pss_nil))
      (pss_cons (ps_if (pt_cmpR (op_eqP hr.units) (pe_ix ix_tup (pv 0) (pe_int) (fun _ _ => rfl)) (pe_str) (nomark _)) (pss_one (ps_ret (pe_and (pe_cmpR (op_eqP hr.units) (pe_ix ix_tup (pv 0) (pe_int) (fun _ _ => rfl)) (pe_tupF (pa_nil)) (nomark _)) (pe_one (pe_callB call_isi (by rfl) B.isinstance_ (by decide +kernel) (pa_cons (pe_ix ix_tup (pv 0) (pe_int) (fun _ _ => rfl)) (pa_cons (pe_bltn (v := .ty "tuple") (by rfl) B.tuple_ (by decide +kernel) rfl) pa_nil))))))) (pss_nil))
      (pss_one (ps_ret (pe_and (pe_cmpR (op_eqP hr.units) (pe_ix ix_tup (pv 0) (pe_int) (fun _ _ => rfl)) (pe_str) (nomark _)) (pe_one (pe_cal c_are_entries hr (by decide) rfl (pa_cons (pe_ix ix_tup (pv 0) (pe_int) (fun _ _ => rfl)) (pa_nil)))))))))
abbrev N_holders : List Str := ["rows", "found", "node", "kind", "entries", "drawer", "name"]
theorem sc_holders : FnScope N_holders ["rows"] (defScope s_holders) := ⟨rfl, rfl, rfl, by decide +kernel, rfl, by decide +kernel, by decide +kernel⟩
def t_holders (K : PySem.W.Frag) : TS :=
    tSeq (tAsg (tDc (iTup K (tVar 0)) (gTup K 3 (gCons (gName 2) (gCons (gName 3) (gCons (gName 4) (gNil))))) (tYes) (tVar 2) (tLst (tNil)) [2, 3, 4]) (gName 1))
    (tSeq (tFor (iTup K (tVar 0)) (gTup K 3 (gCons (gName 5) (gCons (gName 3) (gCons (gName 4) (gNil))))) (tFor (iTup K (tVar 4)) (gTup K 2 (gCons (gName 6) (gCons (gName 2) (gNil)))) (tDrop (tBM K "list" rAppend (tDSetd (tVar 1) (tVar 2) (tLst (tNil))) (tCons (tVar 5) (tNil))))))
    (tRet (tVar 1)))
theorem wk_holders (B : Bs mg)   (hr : Room 0 (A.deeper (envOfC "holders" (defScope s_holders) s.heap.objs.size f cdv))) :
    PSs (cxOf CX0 P w K mg base N_holders "holders" (defScope s_holders) f cdv A outer s H E).nox (defBody s_holders) (t_holders K) := by
  exact (pss_cons (ps_setDc (i := 1) (own := [("node", 2), ("kind", 3), ("entries", 4)]) (g := gTup K 3 (gCons (gName 2) (gCons (gName 3) (gCons (gName 4) (gNil))))) (tt := tYes) (tk := tVar 2) (tv := tLst (tNil)) rfl sc_holders.nd rfl rfl (sw_trueD rfl rfl rfl (by decide +kernel)) (pi_tup (pv 0)) (blkOk_by (own := [("node", 2), ("kind", 3), ("entries", 4)]) (N := N_holders) (sc := defScope s_holders) (by decide +kernel)) (fun _ _ _ _ _ => pg_tup rfl (pgs_cons (pg_name (i := 2) sc_holders.nd rfl (by first | exact Or.inl rfl | exact Or.inr rfl)) (pgs_cons (pg_name (i := 3) sc_holders.nd rfl (by first | exact Or.inl rfl | exact Or.inr rfl)) (pgs_cons (pg_name (i := 4) sc_holders.nd rfl (by first | exact Or.inl rfl | exact Or.inr rfl)) (pgs_nil))))) (fun _ _ _ _ _ => pts_nil) (fun _ _ _ _ _ => pv 2) (fun _ _ _ _ _ => pe_lst (pa_nil)))
      (pss_cons (ps_for PassesOwn.never rfl (pi_tup (pv 0)) (pg_tup rfl (pgs_cons (pg_name (i := 5) sc_holders.nd rfl (by first | exact Or.inl rfl | exact Or.inr rfl)) (pgs_cons (pg_name (i := 3) sc_holders.nd rfl (by first | exact Or.inl rfl | exact Or.inr rfl)) (pgs_cons (pg_name (i := 4) sc_holders.nd rfl (by first | exact Or.inl rfl | exact Or.inr rfl)) (pgs_nil))))) (pss_one (ps_for PassesOwn.never rfl (pi_tup (pv 4)) (pg_tup rfl (pgs_cons (pg_name (i := 6) sc_holders.nd rfl (by first | exact Or.inl rfl | exact Or.inr rfl)) (pgs_cons (pg_name (i := 2) sc_holders.nd rfl (by first | exact Or.inl rfl | exact Or.inr rfl)) (pgs_nil)))) (pss_one (ps_expr (pe_bm PySem.F.plainAttrs_list PySem.F.slot_list_append PySem.F.type_list_append mt_append (pe_dsetd (pv 1) (pv 2) (pe_lst (pa_nil)) ⟨rfl, rfl, rfl, rfl⟩) (pa_cons (pv 5) (pa_nil))))))))
      (pss_one (ps_ret (pv 1)))))
abbrev N_comes_up : List Str := ["node", "held", "seen", "rest", "here"]
theorem sc_comes_up : FnScope N_comes_up ["node", "held"] (defScope s_comes_up) := ⟨rfl, rfl, rfl, by decide +kernel, rfl, by decide +kernel, by decide +kernel⟩
def t_comes_up (K : PySem.W.Frag) : TS :=
    tSeq (tPar 2 3 (tCons (tLst (tNil)) (tCons (tLst (tCons (tVar 0) (tNil))) (tNil))))
    (tSeq (tWhile (tTest (tOp (rNeP K) (tVar 3) (tLst (tNil)))) (tSeq (tAsg (tBM0 K "list" rPop (tVar 3)) (gName 4))
    (tSeq (tIfS (tTest (tOp (rEqP K) (tVar 4) (tC (.int 0)))) (tRet (tC (.bl true))) (tNext))
    (tIfS (tTest (tOp (rIn K true) (tVar 4) (tVar 2))) (tSeq (tDrop (tBM K "list" rAppend (tVar 2) (tCons (tVar 4) (tNil))))
    (tDrop (tBM K "list" rExtend (tVar 3) (tCons (tDGet (tVar 1) (tVar 4)) (tNil))))) (tNext)))))
    (tRet (tC (.bl false))))
theorem wk_comes_up (B : Bs mg)   (hr : Room 0 (A.deeper (envOfC "comes_up" (defScope s_comes_up) s.heap.objs.size f cdv))) :
    PSs (cxOf CX0 P w K mg base N_comes_up "comes_up" (defScope s_comes_up) f cdv A outer s H E).nox (defBody s_comes_up) (t_comes_up K) := by
  exact (pss_cons (ps_par (by rfl) sc_comes_up.nd rfl rfl (by decide) rfl rfl (pa_cons (pe_lst (pa_nil)) (pa_cons (pe_lst (pa_cons (pv 0) (pa_nil))) (pa_nil))) (by rfl))
      (pss_cons (ps_while PassesOwn.never (pt_cmpR (op_neP hr.units) (pv 3) (pe_lst (pa_nil)) (nomark _)) (pss_cons (ps_set (i := 4) sc_comes_up.nd rfl (by first | exact Or.inl rfl | exact Or.inr rfl) (pe_bm0 PySem.F.plainAttrs_list PySem.F.slot_list_pop PySem.F.type_list_pop mt_pop (pv 3)))
      (pss_cons (ps_if (pt_cmpR (op_eqP hr.units) (pv 4) (pe_gi B.top) (nomark _)) (pss_one (ps_ret (pe_bl))) (pss_nil))
      (pss_one (ps_if (pt_cmpR op_notIn_seq (pv 4) (pv 2) (by rfl)) (pss_cons (ps_expr (pe_bm PySem.F.plainAttrs_list PySem.F.slot_list_append PySem.F.type_list_append mt_append (pv 2) (pa_cons (pv 4) (pa_nil))))
      (pss_one (ps_expr (pe_bm PySem.F.plainAttrs_list PySem.F.slot_list_extend PySem.F.type_list_extend mt_extend (pv 3) (pa_cons (pe_dget (hu_of hr) (pv 1) (pv 4) (fun _ _ => rfl)) (pa_nil)))))) (pss_nil))))))
      (pss_one (ps_ret (pe_bl)))))
abbrev N_is_held : List Str := ["row", "held", "node", "kind", "entries", "many"]
theorem sc_is_held : FnScope N_is_held ["row", "held"] (defScope s_is_held) := ⟨rfl, rfl, rfl, by decide +kernel, rfl, by decide +kernel, by decide +kernel⟩
def t_is_held (K : PySem.W.Frag) : TS :=
    tSeq (tAsg (tVar 0) (gTup K 3 (gCons (gName 2) (gCons (gName 3) (gCons (gName 4) (gNil))))))
    (tSeq (tIfS (tTest (tOp (rEqP K) (tVar 2) (tC (.int 0)))) (tRet (tAndV (tOp (rEqP K) (tVar 3) (tC (.str ("drawer" : Str)))) (tOp (rEqP K) (tDGet (tVar 1) (tVar 2)) (tLst (tNil))))) (tNext))
    (tSeq (tAsg (tCB (rLenAny K) (tCons (tDGet (tVar 1) (tVar 2)) (tNil))) (gName 5))
    (tRet (tAndV (tIf (tTest (tOp (rEqP K) (tVar 3) (tC (.str ("drawer" : Str))))) (tOp (rEqP K) (tVar 5) (tC (.int 1))) (tOp (rI0 fun i j => .bl (decide (j < i))) (tVar 5) (tC (.int 0)))) (tCall (SpD K P_comes_up) [] E0 (tCons (tVar 2) (tCons (tVar 1) (tNil))))))))
theorem wk_is_held (B : Bs mg)  (c_comes_up : Cal P w K mg base 1 "comes_up" (SpD K P_comes_up)) (hr : Room 1 (A.deeper (envOfC "is_held" (defScope s_is_held) s.heap.objs.size f cdv))) :
    PSs (cxOf CX0 P w K mg base N_is_held "is_held" (defScope s_is_held) f cdv A outer s H E).nox (defBody s_is_held) (t_is_held K) := by
  exact (pss_cons (ps_asg (pv 0) (pg_tup rfl (pgs_cons (pg_name (i := 2) sc_is_held.nd rfl (by first | exact Or.inl rfl | exact Or.inr rfl)) (pgs_cons (pg_name (i := 3) sc_is_held.nd rfl (by first | exact Or.inl rfl | exact Or.inr rfl)) (pgs_cons (pg_name (i := 4) sc_is_held.nd rfl (by first | exact Or.inl rfl | exact Or.inr rfl)) (pgs_nil))))))
      (pss_cons (ps_if (pt_cmpR (op_eqP hr.units) (pv 2) (pe_gi B.top) (nomark _)) (pss_one (ps_ret (pe_and (pe_cmpR (op_eqP hr.units) (pv 3) (pe_str) (nomark _)) (pe_one (pe_cmpR (op_eqP hr.units) (pe_dget (hu_of hr) (pv 1) (pv 2) (fun _ _ => rfl)) (pe_lst (pa_nil)) (nomark _)))))) (pss_nil))
      (pss_cons (ps_set (i := 5) sc_is_held.nd rfl (by first | exact Or.inl rfl | exact Or.inr rfl) (pe_callB call_len (by rfl) B.len_ (by decide +kernel) (pa_cons (pe_dget (hu_of hr) (pv 1) (pv 2) (fun _ _ => rfl)) (pa_nil))))
      (pss_one (ps_ret (pe_and (pe_ifExp (pt_cmpR (op_eqP hr.units) (pv 3) (pe_str) (nomark _)) (pe_cmpR (op_eqP hr.units) (pv 5) (pe_int) (nomark _)) (pe_cmpR op_gt (pv 5) (pe_int) (nomark _))) (pe_one (pe_cal c_comes_up hr (by decide) rfl (pa_cons (pv 2) (pa_cons (pv 1) (pa_nil)))))))))))
abbrev N_is_tree : List Str := ["thing", "rows", "made", "row", "one", "other", "held"]
theorem sc_is_tree : FnScope N_is_tree ["thing"] (defScope s_is_tree) := ⟨rfl, rfl, rfl, by decide +kernel, rfl, by decide +kernel, by decide +kernel⟩
def t_is_tree (K : PySem.W.Frag) : TS :=
    tSeq (tIfS (tOr (tNot (tB (tCB (rIsi K) (tCons (tVar 0) (tCons (tC (.ty "tuple")) tNil))))) (tOr (tTest (tOp (rNeP K) (tCB (rLenAny K) (tCons (tVar 0) (tNil))) (tC (.int 2)))) (tNot (tB (tCB (rIsi K) (tCons (tOp (rIxT K) (tVar 0) (tC (.int 0))) (tCons (tC (.ty "tuple")) tNil))))))) (tRet (tC (.bl false))) (tNext))
    (tSeq (tAsg (tVar 0) (gTup K 2 (gCons (gName 1) (gCons (gName 2) (gNil)))))
    (tSeq (tIfS (tOr (tNot (tB (tCall (SpD K P_is_number) [] E0 (tCons (tVar 2) (tNil))))) (tNot (tB (tCB (rAll K) (tCons (tLc (iTup K (tVar 1)) (gName 3) (tYes) (tCall (SpD K P_is_row) [] E0 (tCons (tVar 3) (tNil))) [3]) (tNil)))))) (tRet (tC (.bl false))) (tNext))
    (tSeq (tIfS (tOr (tNot (tB (tCB (rAll K) (tCons (tLc (RZ.iZipA K (tCons (tVar 1) (tCons (tSl (rSlF K) (tVar 1) (tPart (tC (.int 1))) (tNoPart)) (tNil)))) (gTup K 2 (gCons (gName 4) (gCons (gName 5) (gNil)))) (tYes) (tOp (rI0 fun i j => .bl (decide (i < j))) (tOp (rIxT K) (tVar 4) (tC (.int 0))) (tOp (rIxT K) (tVar 5) (tC (.int 0)))) [4, 5]) (tNil))))) (tOr (tTest (tOp (rEqP K) (tVar 1) (tTupF (tNil)))) (tTest (tOp (rNeP K) (tOp (rIxT K) (tOp (rIxT K) (tVar 1) (tC (.int 0))) (tC (.int 0))) (tC (.int 0)))))) (tRet (tC (.bl false))) (tNext))
    (tSeq (tAsg (tCall (SpD K P_holders) [] E0 (tCons (tVar 1) (tNil))) (gName 6))
    (tSeq (tIfS (tOr (tTest (tOp (rNeP K) (tCB (rLenD) (tCons (tVar 6) (tNil))) (tCB (rLenAny K) (tCons (tVar 1) (tNil))))) (tTest (tOp (rI0 fun i j => .bl (decide (j ≤ i))) (tOp (rIxT K) (tOp (rIxT K) (tVar 1) (tUn (rU fun i => .int (-i)) (tC (.int 1)))) (tC (.int 0))) (tVar 2)))) (tRet (tC (.bl false))) (tNext))
    (tRet (tCB (rAll K) (tCons (tLc (iTup K (tVar 1)) (gName 3) (tYes) (tCall (SpD K P_is_held) [] E0 (tCons (tVar 3) (tCons (tVar 6) (tNil)))) [3]) (tNil)))))))))
theorem wk_is_tree (B : Bs mg)  (c_holders : Cal P w K mg base 1 "holders" (SpD K P_holders)) (c_is_number : Cal P w K mg base 1 "is_number" (SpD K P_is_number)) (c_is_held : Cal P w K mg base 2 "is_held" (SpD K P_is_held)) (c_is_row : Cal P w K mg base 4 "is_row" (SpD K P_is_row)) (hr : Room 4 (A.deeper (envOfC "is_tree" (defScope s_is_tree) s.heap.objs.size f cdv))) :
    PSs (cxOf CX0 P w K mg base N_is_tree "is_tree" (defScope s_is_tree) f cdv A outer s H E).nox (defBody s_is_tree) (t_is_tree K) := by
  exact (pss_cons (ps_if (PW.pt (pw_or (pt_not (pt_val (pe_callB call_isi (by rfl) B.isinstance_ (by decide +kernel) (pa_cons (pv 0) (pa_cons (pe_bltn (v := .ty "tuple") (by rfl) B.tuple_ (by decide +kernel) rfl) pa_nil))))) (pw_or (pt_cmpR (op_neP hr.units) (pe_callB call_len (by rfl) B.len_ (by decide +kernel) (pa_cons (pv 0) (pa_nil))) (pe_int) (nomark _)) (pw_or1 (pt_not (pt_val (pe_callB call_isi (by rfl) B.isinstance_ (by decide +kernel) (pa_cons (pe_ix ix_tup (pv 0) (pe_int) (fun _ _ => rfl)) (pa_cons (pe_bltn (v := .ty "tuple") (by rfl) B.tuple_ (by decide +kernel) rfl) pa_nil))))))))) (pss_one (ps_ret (pe_bl))) (pss_nil))
      (pss_cons (ps_asg (pv 0) (pg_tup rfl (pgs_cons (pg_name (i := 1) sc_is_tree.nd rfl (by first | exact Or.inl rfl | exact Or.inr rfl)) (pgs_cons (pg_name (i := 2) sc_is_tree.nd rfl (by first | exact Or.inl rfl | exact Or.inr rfl)) (pgs_nil)))))
      (pss_cons (ps_if (PW.pt (pw_or (pt_not (pt_val (pe_cal c_is_number hr (by decide) rfl (pa_cons (pv 2) (pa_nil))))) (pw_or1 (pt_not (pt_val (pe_callB (cr_all rfl) (by rfl) B.all_ (by decide +kernel) (pa_cons (pe_lc (own := [("row", 3)]) (g := gName 3) (tt := tYes) (te := tCall (SpD K P_is_row) [] E0 (tCons (tVar 3) (tNil))) rfl sc_is_tree.nd (pi_tup (pv 1)) (blkOk_by (own := [("row", 3)]) (N := N_is_tree) (sc := defScope s_is_tree) (by decide +kernel)) (fun _ _ _ _ _ => pg_name (i := 3) sc_is_tree.nd rfl (by first | exact Or.inl rfl | exact Or.inr rfl)) (fun _ _ _ _ _ => pts_nil) (fun _ _ _ _ _ => pe_cal c_is_row hr (by decide) rfl (pa_cons (pv 3) (pa_nil)))) (pa_nil)))))))) (pss_one (ps_ret (pe_bl))) (pss_nil))
      (pss_cons (ps_if (PW.pt (pw_or (pt_not (pt_val (pe_callB (cr_all rfl) (by rfl) B.all_ (by decide +kernel) (pa_cons (pe_lc (own := [("one", 4), ("other", 5)]) (g := gTup K 2 (gCons (gName 4) (gCons (gName 5) (gNil)))) (tt := tYes) (te := tOp (rI0 fun i j => .bl (decide (i < j))) (tOp (rIxT K) (tVar 4) (tC (.int 0))) (tOp (rIxT K) (tVar 5) (tC (.int 0)))) rfl sc_is_tree.nd (RZ.pi_zipA (by rfl) B.zip_ (pa_cons (pv 1) (pa_cons (pe_slice sl_tupF (pv 1) (po_some (pe_int)) (po_none)) (pa_nil)))) (blkOk_by (own := [("one", 4), ("other", 5)]) (N := N_is_tree) (sc := defScope s_is_tree) (by decide +kernel)) (fun _ _ _ _ _ => pg_tup rfl (pgs_cons (pg_name (i := 4) sc_is_tree.nd rfl (by first | exact Or.inl rfl | exact Or.inr rfl)) (pgs_cons (pg_name (i := 5) sc_is_tree.nd rfl (by first | exact Or.inl rfl | exact Or.inr rfl)) (pgs_nil)))) (fun _ _ _ _ _ => pts_nil) (fun _ _ _ _ _ => pe_cmpR op_lt (pe_ix ix_tup (pv 4) (pe_int) (fun _ _ => rfl)) (pe_ix ix_tup (pv 5) (pe_int) (fun _ _ => rfl)) (nomark _))) (pa_nil))))) (pw_or (pt_cmpR (op_eqP hr.units) (pv 1) (pe_tupF (pa_nil)) (nomark _)) (pw_or1 (pt_cmpR (op_neP hr.units) (pe_ix ix_tup (pe_ix ix_tup (pv 1) (pe_int) (fun _ _ => rfl)) (pe_int) (fun _ _ => rfl)) (pe_gi B.top) (nomark _)))))) (pss_one (ps_ret (pe_bl))) (pss_nil))
      (pss_cons (ps_set (i := 6) sc_is_tree.nd rfl (by first | exact Or.inl rfl | exact Or.inr rfl) (pe_cal c_holders hr (by decide) rfl (pa_cons (pv 1) (pa_nil))))
      (pss_cons (ps_if (PW.pt (pw_or (pt_cmpR (op_neP hr.units) (pe_callB call_lenD (by rfl) B.len_ (by decide +kernel) (pa_cons (pv 6) (pa_nil))) (pe_callB call_len (by rfl) B.len_ (by decide +kernel) (pa_cons (pv 1) (pa_nil))) (nomark _)) (pw_or1 (pt_cmpR op_ge (pe_ix ix_tup (pe_ix ix_tup (pv 1) (pe_un un_neg (pe_int)) (fun _ _ => rfl)) (pe_int) (fun _ _ => rfl)) (pv 2) (nomark _))))) (pss_one (ps_ret (pe_bl))) (pss_nil))
      (pss_one (ps_ret (pe_callB (cr_all rfl) (by rfl) B.all_ (by decide +kernel) (pa_cons (pe_lc (own := [("row", 3)]) (g := gName 3) (tt := tYes) (te := tCall (SpD K P_is_held) [] E0 (tCons (tVar 3) (tCons (tVar 6) (tNil)))) rfl sc_is_tree.nd (pi_tup (pv 1)) (blkOk_by (own := [("row", 3)]) (N := N_is_tree) (sc := defScope s_is_tree) (by decide +kernel)) (fun _ _ _ _ _ => pg_name (i := 3) sc_is_tree.nd rfl (by first | exact Or.inl rfl | exact Or.inr rfl)) (fun _ _ _ _ _ => pts_nil) (fun _ _ _ _ _ => pe_cal c_is_held hr (by decide) rfl (pa_cons (pv 3) (pa_cons (pv 6) (pa_nil))))) (pa_nil)))))))))))
abbrev N_row_of : List Str := ["tree", "node", "row"]
theorem sc_row_of : FnScope N_row_of ["tree", "node"] (defScope s_row_of) := ⟨rfl, rfl, rfl, by decide +kernel, rfl, by decide +kernel, by decide +kernel⟩
def t_row_of (K : PySem.W.Frag) : TS :=
    tSeq (tFor (iTup K (tOp (rIxT K) (tVar 0) (tC (.int 0)))) (gName 2) (tIfS (tAnd (tTest (tOp (rEqP K) (tOp (rIxT K) (tVar 2) (tC (.int 0))) (tVar 1))) (tB (tCall (SpD K P_is_number) [] E0 (tCons (tVar 1) (tNil))))) (tRet (tVar 2)) (tNext)))
    (tNever)
theorem wk_row_of (B : Bs mg)  (c_is_number : Cal P w K mg base 1 "is_number" (SpD K P_is_number)) (hr : Room 1 (A.deeper (envOfC "row_of" (defScope s_row_of) s.heap.objs.size f cdv))) :
    PSs (cxOf CX0 P w K mg base N_row_of "row_of" (defScope s_row_of) f cdv A outer s H E).nox (defBody s_row_of) (t_row_of K) := by
  exact (pss_cons (ps_for PassesOwn.never rfl (pi_tup (pe_ix ix_tup (pv 0) (pe_int) (fun _ _ => rfl))) (pg_name (i := 2) sc_row_of.nd rfl (by first | exact Or.inl rfl | exact Or.inr rfl)) (pss_one (ps_if (PW.pt (pw_and (pt_cmpR (op_eqP hr.units) (pe_ix ix_tup (pv 2) (pe_int) (fun _ _ => rfl)) (pv 1) (nomark _)) (pw_and1 (pt_val (pe_cal c_is_number hr (by decide) rfl (pa_cons (pv 1) (pa_nil))))))) (pss_one (ps_ret (pv 2))) (pss_nil))))
      (pss_one (ps_never)))
abbrev N_kind_of : List Str := ["tree", "node"]
theorem sc_kind_of : FnScope N_kind_of ["tree", "node"] (defScope s_kind_of) := ⟨rfl, rfl, rfl, by decide +kernel, rfl, by decide +kernel, by decide +kernel⟩
def t_kind_of (K : PySem.W.Frag) : TS :=
    tRet (tOp (rIxT K) (tCall (SpD K P_row_of) [] E0 (tCons (tVar 0) (tCons (tVar 1) (tNil)))) (tC (.int 1)))
theorem wk_kind_of (B : Bs mg)  (c_row_of : Cal P w K mg base 2 "row_of" (SpD K P_row_of)) (hr : Room 2 (A.deeper (envOfC "kind_of" (defScope s_kind_of) s.heap.objs.size f cdv))) :
    PSs (cxOf CX0 P w K mg base N_kind_of "kind_of" (defScope s_kind_of) f cdv A outer s H E).nox (defBody s_kind_of) (t_kind_of K) := by
  exact (pss_one (ps_ret (pe_ix ix_tup (pe_cal c_row_of hr (by decide) rfl (pa_cons (pv 0) (pa_cons (pv 1) (pa_nil)))) (pe_int) (fun _ _ => rfl))))
abbrev N_entries_of : List Str := ["tree", "node", "row"]
theorem sc_entries_of : FnScope N_entries_of ["tree", "node"] (defScope s_entries_of) := ⟨rfl, rfl, rfl, by decide +kernel, rfl, by decide +kernel, by decide +kernel⟩
def t_entries_of (K : PySem.W.Frag) : TS :=
    tSeq (tAsg (tCall (SpD K P_row_of) [] E0 (tCons (tVar 0) (tCons (tVar 1) (tNil)))) (gName 2))
    (tSeq (tIfS (tTest (tOp (rEqP K) (tOp (rIxT K) (tVar 2) (tC (.int 1))) (tC (.str ("sheet" : Str))))) (tNever) (tNext))
    (tRet (tOp (rIxT K) (tVar 2) (tC (.int 2)))))
theorem wk_entries_of (B : Bs mg)  (c_row_of : Cal P w K mg base 2 "row_of" (SpD K P_row_of)) (hr : Room 2 (A.deeper (envOfC "entries_of" (defScope s_entries_of) s.heap.objs.size f cdv))) :
    PSs (cxOf CX0 P w K mg base N_entries_of "entries_of" (defScope s_entries_of) f cdv A outer s H E).nox (defBody s_entries_of) (t_entries_of K) := by
  exact (pss_cons (ps_set (i := 2) sc_entries_of.nd rfl (by first | exact Or.inl rfl | exact Or.inr rfl) (pe_cal c_row_of hr (by decide) rfl (pa_cons (pv 0) (pa_cons (pv 1) (pa_nil)))))
      (pss_cons (ps_if (pt_cmpR (op_eqP hr.units) (pe_ix ix_tup (pv 2) (pe_int) (fun _ _ => rfl)) (pe_str) (nomark _)) (pss_one (ps_never)) (pss_nil))
      (pss_one (ps_ret (pe_ix ix_tup (pv 2) (pe_int) (fun _ _ => rfl))))))
abbrev N_way_through : List Str := ["tree", "way", "top", "found", "place", "name", "node"]
theorem sc_way_through : FnScope N_way_through ["tree", "way", "top"] (defScope s_way_through) := ⟨rfl, rfl, rfl, by decide +kernel, rfl, by decide +kernel, by decide +kernel⟩
def t_way_through (K : PySem.W.Frag) : TS :=
    tSeq (tAsg (tTupF (tCons (tVar 2) (tNil))) (gName 3))
    (tSeq (tFor (iEnumT K (tCons (tVar 1) (tNil))) (gTup K 2 (gCons (gName 4) (gCons (gName 5) (gNil)))) (tSeq (tIfS (tTest (tOp (rEqP K) (tCall (SpD K P_kind_of) [] E0 (tCons (tVar 0) (tCons (tOp (rIxT K) (tVar 3) (tUn (rU fun i => .int (-i)) (tC (.int 1)))) (tNil)))) (tC (.str ("sheet" : Str))))) (tRet (tTupF (tCons (tVar 3) (tCons (tTupF (tCons (tC (.str ("sheet" : Str))) (tCons (tVar 4) (tNil)))) (tNil))))) (tNext))
    (tSeq (tAsg (tDGet1 (tCB (rDictF K) (tCons (tCall (SpD K P_entries_of) [] E0 (tCons (tVar 0) (tCons (tOp (rIxT K) (tVar 3) (tUn (rU fun i => .int (-i)) (tC (.int 1)))) (tNil)))) (tNil))) (tVar 5)) (gName 6))
    (tSeq (tIfS (tB (tIsN (tVar 6))) (tRet (tTupF (tCons (tVar 3) (tCons (tTupF (tCons (tC (.str ("none" : Str))) (tCons (tVar 4) (tNil)))) (tNil))))) (tNext))
    (tAsg (tOp (rCatF K) (tVar 3) (tTupF (tCons (tVar 6) (tNil)))) (gName 3))))))
    (tRet (tTupF (tCons (tVar 3) (tCons (tC .non) (tNil))))))
theorem wk_way_through (B : Bs mg)  (c_kind_of : Cal P w K mg base 3 "kind_of" (SpD K P_kind_of)) (c_entries_of : Cal P w K mg base 3 "entries_of" (SpD K P_entries_of)) (hr : Room 3 (A.deeper (envOfC "way_through" (defScope s_way_through) s.heap.objs.size f cdv))) :
    PSs (cxOf CX0 P w K mg base N_way_through "way_through" (defScope s_way_through) f cdv A outer s H E).nox (defBody s_way_through) (t_way_through K) := by
  exact (pss_cons (ps_set (i := 3) sc_way_through.nd rfl (by first | exact Or.inl rfl | exact Or.inr rfl) (pe_tupF (pa_cons (pv 2) (pa_nil))))
      (pss_cons (ps_for PassesOwn.never rfl (pi_enumT (by rfl) B.enumerate_ (pa_cons (pv 1) (pa_nil))) (pg_tup rfl (pgs_cons (pg_name (i := 4) sc_way_through.nd rfl (by first | exact Or.inl rfl | exact Or.inr rfl)) (pgs_cons (pg_name (i := 5) sc_way_through.nd rfl (by first | exact Or.inl rfl | exact Or.inr rfl)) (pgs_nil)))) (pss_cons (ps_if (pt_cmpR (op_eqP hr.units) (pe_cal c_kind_of hr (by decide) rfl (pa_cons (pv 0) (pa_cons (pe_ix ix_tup (pv 3) (pe_un un_neg (pe_int)) (fun _ _ => rfl)) (pa_nil)))) (pe_str) (nomark _)) (pss_one (ps_ret (pe_tupF (pa_cons (pv 3) (pa_cons (pe_tupF (pa_cons (pe_str) (pa_cons (pv 4) (pa_nil)))) (pa_nil)))))) (pss_nil))
      (pss_cons (ps_set (i := 6) sc_way_through.nd rfl (by first | exact Or.inl rfl | exact Or.inr rfl) (pe_dget1 (hu_of hr) (pe_callTy (call_dictF rfl) (by rfl) B.dict_ (by decide +kernel) (pa_cons (pe_cal c_entries_of hr (by decide) rfl (pa_cons (pv 0) (pa_cons (pe_ix ix_tup (pv 3) (pe_un un_neg (pe_int)) (fun _ _ => rfl)) (pa_nil)))) (pa_nil))) (pv 5) ⟨rfl, rfl, rfl, rfl⟩))
      (pss_cons (ps_if (pt_cmp (pc_isN (pv 6)) rfl) (pss_one (ps_ret (pe_tupF (pa_cons (pv 3) (pa_cons (pe_tupF (pa_cons (pe_str) (pa_cons (pv 4) (pa_nil)))) (pa_nil)))))) (pss_nil))
      (pss_one (ps_set (i := 3) sc_way_through.nd rfl (by first | exact Or.inl rfl | exact Or.inr rfl) (pe_op op_catF (pv 3) (pe_tupF (pa_cons (pv 6) (pa_nil))))))))))
      (pss_one (ps_ret (pe_tupF (pa_cons (pv 3) (pa_cons (pe_non) (pa_nil))))))))
abbrev N_above : List Str := ["tree", "node", "held", "found", "here"]
theorem sc_above : FnScope N_above ["tree", "node"] (defScope s_above) := ⟨rfl, rfl, rfl, by decide +kernel, rfl, by decide +kernel, by decide +kernel⟩
def t_above (K : PySem.W.Frag) : TS :=
    tSeq (tIfS (tTest (tOp (rEqP K) (tCall (SpD K P_kind_of) [] E0 (tCons (tVar 0) (tCons (tVar 1) (tNil)))) (tC (.str ("sheet" : Str))))) (tNever) (tNext))
    (tSeq (tPar 2 3 (tCons (tCall (SpD K P_holders) [] E0 (tCons (tOp (rIxT K) (tVar 0) (tC (.int 0))) (tNil))) (tCons (tTupF (tNil)) (tNil))))
    (tSeq (tAsg (tVar 1) (gName 4))
    (tSeq (tWhile (tTest (tOp (rNeP K) (tVar 4) (tC (.int 0)))) (tSeq (tAsg (tOp (rIxL K) (tDGet (tVar 2) (tVar 4)) (tC (.int 0))) (gName 4))
    (tAsg (tOp (rCatF K) (tVar 3) (tTupF (tCons (tVar 4) (tNil)))) (gName 3))))
    (tRet (tVar 3)))))
theorem wk_above (B : Bs mg)  (c_kind_of : Cal P w K mg base 3 "kind_of" (SpD K P_kind_of)) (c_holders : Cal P w K mg base 1 "holders" (SpD K P_holders)) (hr : Room 3 (A.deeper (envOfC "above" (defScope s_above) s.heap.objs.size f cdv))) :
    PSs (cxOf CX0 P w K mg base N_above "above" (defScope s_above) f cdv A outer s H E).nox (defBody s_above) (t_above K) := by
  exact (pss_cons (ps_if (pt_cmpR (op_eqP hr.units) (pe_cal c_kind_of hr (by decide) rfl (pa_cons (pv 0) (pa_cons (pv 1) (pa_nil)))) (pe_str) (nomark _)) (pss_one (ps_never)) (pss_nil))
      (pss_cons (ps_par (by rfl) sc_above.nd rfl rfl (by decide) rfl rfl (pa_cons (pe_cal c_holders hr (by decide) rfl (pa_cons (pe_ix ix_tup (pv 0) (pe_int) (fun _ _ => rfl)) (pa_nil))) (pa_cons (pe_tupF (pa_nil)) (pa_nil))) (by rfl))
      (pss_cons (ps_set (i := 4) sc_above.nd rfl (by first | exact Or.inl rfl | exact Or.inr rfl) (pv 1))
      (pss_cons (ps_while PassesOwn.never (pt_cmpR (op_neP hr.units) (pv 4) (pe_gi B.top) (nomark _)) (pss_cons (ps_set (i := 4) sc_above.nd rfl (by first | exact Or.inl rfl | exact Or.inr rfl) (pe_ix ix_list (pe_dget (hu_of hr) (pv 2) (pv 4) (fun _ _ => rfl)) (pe_int) (fun _ _ => rfl)))
      (pss_one (ps_set (i := 3) sc_above.nd rfl (by first | exact Or.inl rfl | exact Or.inr rfl) (pe_op op_catF (pv 3) (pe_tupF (pa_cons (pv 4) (pa_nil))))))))
      (pss_one (ps_ret (pv 3)))))))
end
end Dw
set_option Elab.async false
set_option linter.all false
set_option maxRecDepth 100000
set_option maxHeartbeats 1000000
/-! Readings of trees and ways. -/
namespace Dw
open PySem PySem.Spec PyProof.Rows L2
local macro_rules | `(tactic| trivial) => `(tactic| repeat' (first
  | exact ev_var rfl
  | exact ev_int
  | exact ev_str
  | exact ev_non
  | exact ev_bl
  | exact ea_nil
  | exact eo_none
  | exact eb_yes
  | apply ea_cons
  | apply eo_some
  | apply eb_B
  | apply eb_test
  | apply eb_not
  | apply eb_or
  | apply eb_and
  | apply ev_andV
  | apply ev_orV
  | apply ev_notV
  | apply ev_isN
  | apply ev_notN
  | apply isi_ii
  | apply isi_ib
  | apply isi_tt
  | apply isi_ss
  | apply ev_ixT
  | apply ev_slT
  | apply ev_add
  | apply ev_sub
  | apply ev_neg
  | apply ev_lt
  | apply ev_le
  | apply ev_gt
  | apply ev_ge
  | apply ev_ltS
  | apply ev_lenG
  | apply ev_lenD
  | apply ev_tuple
  | apply ev_tup
  | apply ev_lst
  | apply ev_all
  | apply ev_catT
  | apply ev_is_number
  | apply ev_is_name
  | apply ev_is_entry
  | apply ev_are_entries
  | apply ev_is_row
  | apply ev_row_of
  | apply ev_kind_of
  | apply ev_entries_of
  | apply ev_way
  | apply ev_above
  | exact LenD.tup
  | exact LenD.lst
  | rfl
  | assumption
  | exact Nat.le_of_ble_eq_true rfl
  | with_reducible intro _))
section
variable {K : PySem.W.Frag}
theorem letters_mem {c : Nat} (h : 97 ≤ c ∧ c ≤ 122) : c ∈ letters.cps.toList := by
  have e : letters.cps.toList = (List.range 26).map (· + 97) := by decide +kernel
  rw [e]
  exact List.mem_map.mpr ⟨c - 97, List.mem_range.mpr (by omega), by omega⟩
theorem run_is_number (ds : List PyData) (d : PyData) (h : P_is_number ds d) : RunD K (t_is_number K) (ds.map (fun d => some (.d d)) ++ List.replicate (N_is_number.length - ds.length) none) (.rt d) := by
  obtain ⟨i, rfl, rfl⟩ := h
  exact run_ret ((ev_andV (isi_ii (ev_var rfl)) fun _ => ev_andV (ev_notV (isi_ib (ev_var rfl))) fun _ => ev_ge (ev_var rfl) ev_int).to (by simp))
theorem run_is_name (ds : List PyData) (d : PyData) (h : P_is_name ds d) : RunD K (t_is_name K) (ds.map (fun d => some (.d d)) ++ List.replicate (N_is_name.length - ds.length) none) (.rt d) := by
  obtain ⟨x, rfl, ⟨h1, h2, h3⟩, rfl⟩ := h
  refine run_seq (run_ifF (b := false) ((eb_or (eb_not (eb_B (isi_ss (ev_var rfl)))) fun _ => eb_not (eb_test (ev_chain (b := decide (1 ≤ (x.length : Int))) (c := decide ((x.length : Int) ≤ 8)) ev_int (ev_lenS (ev_var rfl) (by omega)) (rv_I0 fun _ => .bl _) fun _ => ⟨_, ev_int, rv_I0 fun _ => .bl _⟩))).to ?_) rfl run_next) ?_
  · have e1 : (1 : Int) ≤ x.length := by omega
    have e2 : (x.length : Int) ≤ 8 := by omega
    simp [e1, e2]
  · refine run_ret ((ev_all (bs := (x.cps.toList.filter fun _ => true).map fun c => decide (c ∈ letters.cps.toList)) ?_).to ?_)
    · refine (ev_lcS (fun _ => true) (fun c => .bool (decide (c ∈ letters.cps.toList))) (ev_var rfl) (by omega) fun c hc => ⟨_, eg_name (by simp), eb_yes, fun _ => ev_inSign (ev_var rfl) (fun hs σ H _ S Q q => q _ H Ex.rfl (.str _))⟩).to ?_
      rw [List.map_map]; rfl
    · have : ((x.cps.toList.filter fun _ => true).map fun c => decide (c ∈ letters.cps.toList)).all id = true := by
        rw [List.all_map, List.all_eq_true]
        intro c hc
        exact decide_eq_true (letters_mem (h3 c (List.mem_filter.mp hc).1))
      rw [this]; rfl
theorem run_is_entry (ds : List PyData) (d : PyData) (h : P_is_entry ds d) : RunD K (t_is_entry K) (ds.map (fun d => some (.d d)) ++ List.replicate (N_is_entry.length - ds.length) none) (.rt d) := by
  obtain ⟨p, rfl, h1, h2, rfl⟩ := h
  refine run_ret ((ev_andV (isi_tt (ev_var rfl)) fun _ => ev_andV (ev_eqI (ev_lenT (ds := [.str p.1, .int p.2]) (ev_var rfl)) ev_int) fun _ => ev_andV (a := true) (ev_call (ea_cons (ev_ixT (ds := [.str p.1, .int p.2]) (ev_var rfl) ev_int rfl) ea_nil) ⟨_, rfl, h1, rfl⟩) fun _ =>
    ev_call (d := .bool true) (ea_cons (ev_ixT (ds := [.str p.1, .int p.2]) (ev_var rfl) ev_int rfl) ea_nil) ⟨_, rfl, by rw [decide_eq_true h2]⟩).to ?_)
  rfl
theorem all_true {β : Type} {l : List β} {f : β → Bool} (h : ∀ b ∈ l, f b = true) : (l.map f).all id = true := by
  rw [List.all_map, List.all_eq_true]
  intro b hb
  exact h b hb
theorem pairwise_zip {α : Type} {R : α → α → Prop} : ∀ {l : List α}, l.Pairwise R → ∀ p ∈ l.zip l.tail, R p.1 p.2
  | [], _, p, hp => by cases hp
  | [a], _, p, hp => by cases hp
  | a :: b :: l, h, p, hp => by
    have hp' : p ∈ (a, b) :: (b :: l).zip l := hp
    rcases List.mem_cons.mp hp' with e | hp'
    · rw [e]; exact (List.pairwise_cons.mp h).1 b List.mem_cons_self
    · exact pairwise_zip (List.pairwise_cons.mp h).2 p hp'
theorem cutD_tail {α : Type} (xs : List α) : cutD xs (some 1) none = xs.tail := by
  unfold cutD
  cases xs with
  | nil => rfl
  | cons a xs =>
    have e1 : HT.sIx (a :: xs).length 0 (some 1) = 1 := by unfold HT.sIx; simp
    have e2 : HT.sIx (a :: xs).length (a :: xs).length none = (a :: xs).length := by unfold HT.sIx; rfl
    rw [e1, e2]
    simp
theorem run_are_entries (ds : List PyData) (d : PyData) (h : P_are_entries ds d) : RunD K (t_are_entries K) (ds.map (fun d => some (.d d)) ++ List.replicate (N_are_entries.length - ds.length) none) (.rt d) := by
  obtain ⟨e, rfl, ho, rfl⟩ := h
  have hz : e.length ≤ 10000 := Nat.le_trans ho.few (by decide)
  refine run_seq (run_ifF (b := false) (eb_or (a := false) (b := false) (eb_not (a := true) (eb_B (isi_tt (ev_var rfl)))) fun _ => eb_not (a := true) (eb_B (ev_all (bs := (e.filter fun _ => true).map fun _ => true) ?_ |>.to ?_))) rfl run_next) (run_ret ((ev_all (bs := ((e.zip e.tail).filter fun _ => true).map fun _ => true) ?_).to ?_))
  · refine (ev_lcT encE (fun _ => true) (fun _ => yes) (ev_var rfl) hz fun p hp => ⟨_, eg_name (by simp), eb_yes, fun _ => ev_call (ea_cons (ev_var rfl) ea_nil) ⟨p, rfl, ho.names p hp, ho.pos p hp, rfl⟩⟩).to ?_
    rw [List.map_map]; rfl
  · rw [all_true fun _ _ => rfl]
  · refine (ev_lcZ encE encE (fun _ => true) (fun _ => yes) (cs := e.tail) (ea_cons (ev_var rfl) (ea_cons ((ev_slT (ds := e.map encE) (ev_var rfl) (eo_some ev_int) eo_none).to ?_) ea_nil)) hz fun p hp => ⟨_, egs_cons (eg_name (by simp)) (egs_cons (eg_name (by simp)) egs_nil), eb_yes, fun _ => (ev_ltS (ev_ixT (ds := [.str p.1.1, .int p.1.2]) (ev_var rfl) ev_int rfl) (ev_ixT (ds := [.str p.2.1, .int p.2.2]) (ev_var rfl) ev_int rfl)).to ?_⟩).to ?_
    · rw [cutD_tail, List.map_tail]
    · rw [decide_eq_true (pairwise_zip ho.rise p hp)]; rfl
    · rw [List.map_map]; rfl
  · rw [all_true fun _ _ => rfl]; rfl
theorem run_is_row (ds : List PyData) (d : PyData) (h : P_is_row ds d) : RunD K (t_is_row K) (ds.map (fun d => some (.d d)) ++ List.replicate (N_is_row.length - ds.length) none) (.rt d) := by
  obtain ⟨⟨n, k, e⟩, rfl, h1, h2, h3, rfl⟩ := h
  refine run_skip (b := false) (EvB.to (b := (!true || (!decide ((3 : Int) = 3) || (!decide (0 ≤ n) || !true)))) ?_ ?_) rfl ?_
  · refine eb_or (eb_not (eb_B (isi_tt (ev_var rfl)))) fun _ => eb_or (eb_test (ev_neI ?_ ev_int)) fun _ => eb_or ?_ fun _ => eb_not (eb_B (isi_ss (i := k) ?_))
    · exact ev_lenT (ds := [_, _, _]) (ev_var rfl)
    · trivial
    · trivial
  · simp [h1]
  by_cases hk : k = sS
  · subst hk
    have he : e = [] := by
      rcases h3 with h | h
      · exact absurd (show sS = sD from h) (by decide)
      · exact h.2
    subst he
    refine run_take (b := true) (eb_test (EvD.to (ev_eqS (i := sS) (j := "sheet") (by trivial) ev_str) ?_)) rfl (run_retT (ev_andV (ev_eqT0 (ds := []) (by trivial) (by trivial) rfl) fun _ => isi_tt (ds := []) (by trivial)) rfl)
    rfl
  · have hk2 : k = sD := by
      rcases h3 with h | h
      · exact h
      · exact absurd h.1 hk
    subst hk2
    refine run_skip (b := false) (eb_test (EvD.to (ev_eqS (i := sD) (j := "sheet") (by trivial) ev_str) ?_)) rfl ?_
    · rfl
    refine run_retT (ev_andV (ev_eqS (i := sD) (j := "drawer") (by trivial) ev_str) fun _ => ev_are_entries (e := e) (by trivial) h2) rfl
theorem find_at {β : Type} {p : β → Bool} {b : β} : ∀ {l : List β}, l.find? p = some b → ∃ j, j < l.length ∧ l[j]? = some b ∧ p b = true ∧ ∀ i < j, ∀ c, l[i]? = some c → p c = false
  | [], h => by cases h
  | a :: l, h => by
    by_cases q : p a = true
    · rw [List.find?_cons_of_pos q] at h
      cases h
      exact ⟨0, by simp, rfl, q, fun i hi => absurd hi (Nat.not_lt_zero _)⟩
    · rw [List.find?_cons_of_neg q] at h
      obtain ⟨j, h1, h2, h3, h4⟩ := find_at h
      refine ⟨j + 1, by simpa using h1, by simpa using h2, h3, fun i hi c hc => ?_⟩
      cases i with
      | zero => cases hc; simpa using q
      | succ i => exact h4 i (by omega) c (by simpa using hc)
theorem run_row_of (ds : List PyData) (d : PyData) (h : P_row_of ds d) : RunD K (t_row_of K) (ds.map (fun d => some (.d d)) ++ List.replicate (N_row_of.length - ds.length) none) (.rt d) := by
  obtain ⟨t, n, r, rfl, h1, h2, rfl⟩ := h
  obtain ⟨j, hj, e1, e2, e3⟩ := find_at h1
  refine run_seqR (run_forWR [2] eRow (bs := t.1) [some (.d (eTree t)), some (.d (.int n)), none] j (by trivial) (by repeat constructor) hj (fun i hi b hb => ⟨_, _, eg_name (by simp), run_ifF (b := false) (EvB.to (eb_and (eb_test (ev_eqI (i := b.1) (by trivial) (by trivial))) fun _ => eb_B (ev_is_number (by trivial))) ?_) rfl run_next, by repeat constructor⟩)
    (fun b hb => ⟨_, eg_name (by simp), run_ifT (b := true) (EvB.to (eb_and (eb_test (ev_eqI (i := b.1) (by trivial) (by trivial))) fun _ => eb_B (ev_is_number (by trivial))) ?_) rfl (run_retT (by trivial) ?_)⟩))
  · rw [e3 i hi b hb]; rfl
  · rw [e1] at hb; cases hb
    rw [e2, decide_eq_true h2]; rfl
  · rw [e1] at hb; cases hb; rfl
theorem run_kind_of (ds : List PyData) (d : PyData) (h : P_kind_of ds d) : RunD K (t_kind_of K) (ds.map (fun d => some (.d d)) ++ List.replicate (N_kind_of.length - ds.length) none) (.rt d) := by
  obtain ⟨t, n, r, rfl, h1, h2, rfl⟩ := h
  exact run_retT (ev_ixT (ds := [_, _, _]) (ev_call (P := P_row_of) (d := eRow r) (by trivial) ⟨t, n, r, rfl, h1, h2, rfl⟩) (by trivial) rfl) rfl
theorem run_entries_of (ds : List PyData) (d : PyData) (h : P_entries_of ds d) : RunD K (t_entries_of K) (ds.map (fun d => some (.d d)) ++ List.replicate (N_entries_of.length - ds.length) none) (.rt d) := by
  obtain ⟨t, n, r, rfl, h1, h2, h3, rfl⟩ := h
  refine run_let (ev_call (P := P_row_of) (d := eRow r) (by trivial) ⟨t, n, r, rfl, h1, h2, rfl⟩) rfl (run_skip (b := false) (eb_test (EvD.to (ev_eqS (i := r.2.1) (j := "sheet") (by trivial) ev_str) ?_)) rfl (run_retT (by trivial) rfl))
  rw [decide_eq_false (show ¬ r.2.1 = ("sheet" : Str) from h3)]
theorem In_last {pre : List Int} {m : Int} {δ : Dl} {i : Nat} (h : δ[i]? = some (some (.d (eInts (pre ++ [m]))))) : EvD K (tOp (rIxT K) (tVar i) (tUn (rU fun i => .int (-i)) (tC (.int 1)))) δ (.int m) :=
  ev_ixT (ds := (pre ++ [m]).map .int) (ev_var h) (ev_neg ev_int) (by rw [List.map_append]; exact atI_last _ _)
theorem thr_go {t : Tree} {i : Nat} {m : Int} {w : List Str} {x : Str} (hx : w[i]? = some x) (hk : kindOf t m ≠ sS) {m' : Int} (hl : lk (entOf t m) x = some m') : thr t i m (w.drop i) = (m :: (thr t (i + 1) m' (w.drop (i + 1))).1, (thr t (i + 1) m' (w.drop (i + 1))).2) := by
  have hi : i < w.length := (List.getElem?_eq_some_iff.mp hx).1
  have hd : w.drop i = x :: w.drop (i + 1) := by
    rw [List.drop_eq_getElem_cons hi]
    congr 1
    exact (List.getElem?_eq_some_iff.mp hx).2
  rw [hd]
  simp only [thr, if_neg hk, hl]
theorem thr_stop {t : Tree} {i : Nat} {m : Int} {w : List Str} {x : Str} (hx : w[i]? = some x) (hk : kindOf t m = sS) : thr t i m (w.drop i) = ([m], some (true, i)) := by
  have hi : i < w.length := (List.getElem?_eq_some_iff.mp hx).1
  rw [List.drop_eq_getElem_cons hi]
  simp only [thr, if_pos hk]
theorem thr_none {t : Tree} {i : Nat} {m : Int} {w : List Str} {x : Str} (hx : w[i]? = some x) (hk : kindOf t m ≠ sS) (hl : lk (entOf t m) x = none) : thr t i m (w.drop i) = ([m], some (false, i)) := by
  have hi : i < w.length := (List.getElem?_eq_some_iff.mp hx).1
  have hd : w.drop i = x :: w.drop (i + 1) := by
    rw [List.drop_eq_getElem_cons hi]
    congr 1
    exact (List.getElem?_eq_some_iff.mp hx).2
  rw [hd]
  simp only [thr, if_neg hk, hl]
theorem run_way_through (ds : List PyData) (d : PyData) (h : P_way_through ds d) : RunD K (t_way_through K) (ds.map (fun d => some (.d d)) ++ List.replicate (N_way_through.length - ds.length) none) (.rt d) := by
  obtain ⟨t, w, n, W, rfl, hn, hw, rfl⟩ := h
  refine run_let (x := eInts [n]) (by trivial) rfl ?_
  refine run_forI (wlk_enumT [4, 5] (PyData.str) (bs := w) (by trivial)) (fun i δa => ∃ pre m, In t m ∧ pre.length = i ∧ thr t 0 n w = (pre ++ (thr t i m (w.drop i)).1, (thr t i m (w.drop i)).2) ∧ δa = [some (.d (eTree t)), some (.d (eWay w)), some (.d (.int n)), some (.d (eInts (pre ++ [m]))), none, none, none]) ⟨_, by repeat constructor, [], n, hn, rfl, rfl, rfl⟩ ?_ ?_
  · rintro i hi δa ⟨pre, m, hm, hp, he, rfl⟩
    obtain ⟨x, hx⟩ : ∃ x, w[i]? = some x := ⟨w[i], by simp [hi]⟩
    refine ⟨_, fun b hb => by rw [hx] at hb; cases hb; exact egs_cons (eg_name (by simp)) (egs_cons (eg_name (by simp)) egs_nil), ?_⟩
    by_cases hk : kindOf t m = sS
    · refine .inr (.inl ⟨_, rfl, run_take (b := true) (eb_test (EvD.to (ev_eqS (i := kindOf t m) (j := "sheet") (ev_kind_of (ea_cons (by trivial) (ea_cons (In_last rfl) ea_nil)) W hm) ev_str) ?_)) rfl (run_retT (d := .tuple [eInts (pre ++ [m]), .tuple [.str "sheet", .int i]]) (by trivial) ?_)⟩)
      · rw [decide_eq_true (show kindOf t m = ("sheet" : Str) from hk)]
      · rw [thr_stop hx hk] at he; rw [he]; rfl
    · have s1 : ∀ {δ : Dl} {us : TS} {o : Out} {ts : TS}, δ[0]? = some (some (.d (eTree t))) → δ[3]? = some (some (.d (eInts (pre ++ [m])))) → RunD K us δ o → RunD K (tSeq (tIfS (tTest (tOp (rEqP K) (tCall (SpD K P_kind_of) [] E0 (tCons (tVar 0) (tCons (tOp (rIxT K) (tVar 3) (tUn (rU fun i => .int (-i)) (tC (.int 1)))) (tNil)))) (tC (.str ("sheet" : Str))))) ts (tNext)) us) δ o := fun h0 h3 r => by
        refine run_skip (b := false) (eb_test (EvD.to (ev_eqS (i := kindOf t m) (j := "sheet") (ev_kind_of (ea_cons (ev_var h0) (ea_cons (In_last h3) ea_nil)) W hm) ev_str) ?_)) rfl r
        rw [decide_eq_false (show ¬ kindOf t m = ("sheet" : Str) from hk)]
      have g1 : ∀ {δ : Dl}, δ[0]? = some (some (.d (eTree t))) → δ[3]? = some (some (.d (eInts (pre ++ [m])))) → δ[5]? = some (some (.d (.str x))) → EvD K (tDGet1 (tCB (rDictF K) (tCons (tCall (SpD K P_entries_of) [] E0 (tCons (tVar 0) (tCons (tOp (rIxT K) (tVar 3) (tUn (rU fun i => .int (-i)) (tC (.int 1)))) (tNil)))) (tNil))) (tVar 5)) δ (((lk (entOf t m) x).map .int).getD .none) := fun h0 h3 h5 =>
        ev_getE (ev_dictE (ev_entries_of (ea_cons (ev_var h0) (ea_cons (In_last h3) ea_nil)) W hm hk) (entOf_rise W m).nodup) (ev_var h5)
      cases hl : lk (entOf t m) x with
      | none =>
        refine .inr (.inl ⟨_, rfl, s1 rfl rfl (run_let (x := .none) (g1 rfl rfl rfl) (by rw [hl]; rfl) (run_take (b := true) (eb_B (EvD.to (ev_isN (x := .none) (by trivial)) rfl)) rfl (run_retT (d := .tuple [eInts (pre ++ [m]), .tuple [.str "none", .int i]]) (by trivial) ?_)))⟩)
        rw [thr_none hx hk hl] at he; rw [he]; rfl
      | some m' =>
        have hz : (pre ++ [m]).length ≤ 101 := by simp; omega
        refine .inl ⟨_, [some (.d (eTree t)), some (.d (eWay w)), some (.d (.int n)), some (.d (eInts ((pre ++ [m]) ++ [m']))), none, none, none], s1 rfl rfl (run_let (x := .int m') (g1 rfl rfl rfl) (by rw [hl]; rfl) (run_skip (b := false) (eb_B (EvD.to (ev_isN (x := .int m') (by trivial)) rfl)) rfl (run_asg (EvD.to (ev_catT (ds := (pre ++ [m]).map .int) (es := [.int m']) (by trivial) (by trivial) (by simp at hz ⊢; omega)) (e := eInts ((pre ++ [m]) ++ [m'])) (by unfold eInts; rw [List.map_append (l₁ := pre ++ [m])]; rfl))))), by repeat constructor, pre ++ [m], m', W.inTo hl, by simp [hp], ?_, rfl⟩
        rw [he, thr_go hx hk hl]
        simp
  · rintro δa ⟨pre, m, hm, hp, he, rfl⟩
    refine run_retT (d := .tuple [eInts (pre ++ [m]), .none]) (by trivial) ?_
    rw [List.drop_eq_nil_of_le (Nat.le_refl _)] at he
    rw [he]; rfl
end
end Dw
set_option Elab.async false
set_option linter.all false
set_option maxRecDepth 100000
set_option maxHeartbeats 1000000
/-! Objects of one's own, which change. -/
namespace Dw
open PySem PySem.Spec PyProof.Rows L2
/-- what an own object holds: things that are data, or very values (other own objects) -/
inductive OC
  | l (xs : List SD)
  | d (kvs : List (Key × SD))
  | fd (cells : List Int)
abbrev Own := List (Addr × OC)
def ads (own : Own) : List Addr := own.map (·.1)
def ExZ (Z : Addr → Prop) (H H' : Hp) : Prop := ∀ a o, ¬ Z a → H a = some o → H' a = some o
inductive SlA (K : PySem.W.Frag) (H : Hp) : List SD → List V → Prop
  | nil : SlA K H [] []
  | cons {d : SD} {v : V} {ds : List SD} {vs : List V} : SlOk K H d v → SlA K H ds vs → SlA K H (d :: ds) (v :: vs)
inductive SlK (K : PySem.W.Frag) (H : Hp) : List (Key × SD) → List (Key × V) → Prop
  | nil : SlK K H [] []
  | cons {k : Key} {d : SD} {v : V} {ds : List (Key × SD)} {vs : List (Key × V)} : SlOk K H d v → SlK K H ds vs → SlK K H ((k, d) :: ds) ((k, v) :: vs)
def keyC : Key := .inr "cells"
def keyA : Key := .inr "at"
def keyL : Key := .inr "left"
def keyN : Key := .inr "count"
def fdK (cells : List Int) (a l n : Int) : List (Key × SD) := [(keyC, .d (.list (cells.map .int))), (keyA, .d (.int a)), (keyL, .d (.int l)), (keyN, .d (.int n))]
def OkC (K : PySem.W.Frag) (G H : Hp) (a : Addr) : OC → Prop
  | .l xs => ∃ vs, H a = some (.lst vs) ∧ SlA K G xs vs
  | .d kvs => ∃ ws, H a = some (.dK ws) ∧ SlK K G kvs ws
  | .fd cells => ∃ (a' l n : Int) (ws : List (Key × V)), H a = some (.dK ws) ∧ SlK K G (fdK cells a' l n) ws
structure StO (K : PySem.W.Frag) (hs : List Addr) (σ : St) (H : Hp) (δ : Dl) (own : Own) : Prop where
  hid : Hid (ads own ++ hs) H
  nd : (ads own).Nodup
  dj : ∀ a ∈ ads own, a ∉ hs
  sl : Sl K (cut (ads own ++ hs) H) σ δ
  ok : ∀ p ∈ own, OkC K (cut (ads own ++ hs) H) H p.1 p.2
structure StF (K : PySem.W.Frag) (hs : List Addr) (H : Hp) (own : Own) : Prop where
  hid : Hid (ads own ++ hs) H
  ok : ∀ p ∈ own, OkC K (cut (ads own ++ hs) H) H p.1 p.2
def Base (Z : Addr → Prop) (H0 H : Hp) (own : Own) : Prop := ExZ Z H0 H ∧ ∀ a ∈ ads own, Z a ∨ H0 a = none
structure OutO where
  nx : Dl → Own → Prop
  bk : Dl → Own → Prop
  rt : Own → PyData → Prop
def FinO (K : PySem.W.Frag) (hs : List Addr) (Z : Addr → Prop) (H0 : Hp) (D : Ends) (O : OutO) : Prop :=
  (∀ δ own σ' H', O.nx δ own → Base Z H0 H' own → StO K hs σ' H' δ own → D.nx σ' H') ∧ (∀ δ own σ' H', O.bk δ own → Base Z H0 H' own → StO K hs σ' H' δ own → D.bk σ' H') ∧
    ∀ fs d v H', O.rt fs d → ExZ Z H0 H' → StF K hs H' fs → R K (cut (ads fs ++ hs) H') v d → D.rt v H'
def RunO (K : PySem.W.Frag) (ts : TS) (δ : Dl) (own : Own) (O : OutO) : Prop := ∀ hs Z H0 D σ H, Base Z H0 H own → StO K hs σ H δ own → FinO K hs Z H0 D O → ts D σ H
def EvN (K : PySem.W.Frag) (te : TE) (δ : Dl) (own : Own) (P : PyData → Prop) : Prop := ∀ hs σ H, StO K hs σ H δ own → ∀ Q : VK, (∀ v H2 d, P d → ExZ (· ∈ ads own) H H2 → StO K hs σ H2 δ own → R K (cut (ads own ++ hs) H2) v d → Q v H2) → te σ H Q
def EvNB (K : PySem.W.Frag) (tt : TT) (δ : Dl) (own : Own) (P : Bool → Prop) : Prop := ∀ hs σ H, StO K hs σ H δ own → ∀ Q : Bool → Hp → Prop, (∀ b H2, P b → ExZ (· ∈ ads own) H H2 → StO K hs σ H2 δ own → Q b H2) → tt σ H Q
section
variable {K : PySem.W.Frag} {δ δ1 δ2 : Dl} {own own1 : Own} {ts us : TS} {O : OutO} {te ta tb : TE} {tt : TT} {d x y z : PyData} {P : PyData → Prop} {hs : List Addr} {σ : St} {H H' H2 H0 : Hp} {Z : Addr → Prop}
theorem SlA.mono (e : Ex H H') : ∀ {ds : List SD} {vs : List V}, SlA K H ds vs → SlA K H' ds vs
  | _, _, .nil => .nil
  | _, _, .cons h t => .cons (h.mono e) (t.mono e)
theorem SlK.mono (e : Ex H H') : ∀ {ds : List (Key × SD)} {vs : List (Key × V)}, SlK K H ds vs → SlK K H' ds vs
  | _, _, .nil => .nil
  | _, _, .cons h t => .cons (h.mono e) (t.mono e)
theorem OkC.mono {G G' : Hp} {a : Addr} (e : Ex G G') (ha : H' a = H a) : ∀ {c : OC}, OkC K G H a c → OkC K G' H' a c
  | .l xs, ⟨vs, h1, h2⟩ => ⟨vs, ha.trans h1, h2.mono e⟩
  | .d kvs, ⟨ws, h1, h2⟩ => ⟨ws, ha.trans h1, h2.mono e⟩
  | .fd cells, ⟨a', l, n, ws, h1, h2⟩ => ⟨a', l, n, ws, ha.trans h1, h2.mono e⟩
theorem OkC.some {G : Hp} {a : Addr} : ∀ {c : OC}, OkC K G H a c → ∃ o, H a = some o
  | .l xs, ⟨vs, h1, h2⟩ => ⟨_, h1⟩
  | .d kvs, ⟨ws, h1, h2⟩ => ⟨_, h1⟩
  | .fd cells, ⟨a', l, n, ws, h1, h2⟩ => ⟨_, h1⟩
theorem okl {G : Hp} {a : Addr} {xs : List SD} {vs : List V} (h1 : H a = some (.lst vs)) (h2 : SlA K G xs vs) : OkC K G H a (.l xs) := ⟨vs, h1, h2⟩
theorem okd {G : Hp} {a : Addr} {xs : List (Key × SD)} {vs : List (Key × V)} (h1 : H a = some (.dK vs)) (h2 : SlK K G xs vs) : OkC K G H a (.d xs) := ⟨vs, h1, h2⟩
theorem Ex.toZ (e : Ex H H') : ExZ Z H H' := fun a o _ h => e a o h
theorem ExZ.trans {Z : Addr → Prop} (e : ExZ Z H H') (e2 : ExZ Z H' H2) : ExZ Z H H2 := fun a o z h => e2 a o z (e a o z h)
theorem ExZ.cut (e : ExZ (· ∈ ads own) H H') : Ex (cut (ads own ++ hs) H) (cut (ads own ++ hs) H') := fun a o h => by
  obtain ⟨m, h⟩ := cut_some h
  exact cut_of m (e a o (fun z => m (List.mem_append_left _ z)) h)
theorem StO.mono (S : StO K hs σ H δ own) (e : Ex H H') : StO K hs σ H' δ own where
  hid := S.hid.mono e
  nd := S.nd
  dj := S.dj
  sl := S.sl.mono e.cut
  ok := fun p hp => by
    have h := S.ok p hp
    obtain ⟨o, ho⟩ := h.some
    exact h.mono e.cut (by rw [ho, e _ _ ho])
theorem Base.mono (b : Base Z H0 H own) (e : ExZ (· ∈ ads own) H H') : Base Z H0 H' own := ⟨fun a o z h => e a o (fun m => by
  rcases b.2 a m with q | q
  · exact z q
  · rw [q] at h; cases h) (b.1 a o z h), b.2⟩
theorem Base.ex (b : Base Z H0 H own) (e : Ex H H') : Base Z H0 H' own := b.mono (Ex.toZ e)
theorem evn_of (h : EvD K te δ d) : EvN K te δ own (· = d) := fun hs σ H S Q q => h _ σ H S.hid S.sl Q fun v H2 e r => q v H2 d rfl (Ex.toZ e) (S.mono e) r
theorem evnb_of {b : Bool} (h : EvB K tt δ b) : EvNB K tt δ own (· = b) := fun hs σ H S Q q => h _ σ H S.hid S.sl Q fun H2 e => q b H2 rfl (Ex.toZ e) (S.mono e)
theorem runO_of (h : RunD K ts δ (.nx δ1)) (k : O.nx δ1 own) : RunO K ts δ own O := fun hs Z H0 D σ H b S f => h _ D σ H S.hid S.sl fun σ' H' e s => f.1 δ1 own σ' H' k (b.ex e) (let S' := S.mono e; ⟨S'.hid, S'.nd, S'.dj, s, S'.ok⟩)
theorem runO_seq (h : RunO K ts δ own { O with nx := fun δ' own' => RunO K us δ' own' O }) : RunO K (tSeq ts us) δ own O := fun hs Z H0 D σ H b S f =>
  h hs Z H0 { D with nx := us D } σ H b S ⟨fun δ' own' σ' H' hr b' S' => hr hs Z H0 D σ' H' b' S' f, f.2⟩
theorem runO_next (k : O.nx δ own) : RunO K tNext δ own O := fun hs Z H0 D σ H b S f => f.1 δ own σ H k b S
theorem runO_break (k : O.bk δ own) : RunO K tBreak δ own O := fun hs Z H0 D σ H b S f => f.2.1 δ own σ H k b S
theorem StO.set (S : StO K hs σ H δ own) (i : Nat) {sd : SD} {v : V} (r : SlOk K (cut (ads own ++ hs) H) sd v) : StO K hs (σ.set i (some v)) H (δ.set i (some sd)) own := ⟨S.hid, S.nd, S.dj, S.sl.set i r, S.ok⟩
theorem StO.wk (S : StO K hs σ H δ own) (w : Wk δ δ1) : StO K hs σ H δ1 own := ⟨S.hid, S.nd, S.dj, w.sl S.sl, S.ok⟩
theorem runO_asg {i : Nat} (h : EvN K te δ own P) (r : ∀ d, P d → O.nx (δ.set i (some (.d d))) own) : RunO K (tAsg te (gName i)) δ own O := fun hs Z H0 D σ H b S f =>
  h hs σ H S _ fun v H2 d hd e S2 r2 => f.1 _ own _ H2 (r d hd) (b.mono e) (S2.set i (sd := .d d) r2)
theorem runO_asgD {i : Nat} (h : EvD K te δ d) (e : d = x) (r : O.nx (δ.set i (some (.d x))) own) : RunO K (tAsg te (gName i)) δ own O := runO_asg (evn_of h) fun d' hd => by subst hd; subst e; exact r
theorem runO_if {PB : Bool → Prop} (h : EvNB K tt δ own PB) (h1 : PB true → RunO K ts δ own O) (h2 : PB false → RunO K us δ own O) : RunO K (tIfS tt ts us) δ own O := fun hs Z H0 D σ H b S f =>
  h hs σ H S _ fun c H2 hc e S2 => by
    cases c with
    | true => exact h1 hc hs Z H0 D σ H2 (b.mono e) S2 f
    | false => exact h2 hc hs Z H0 D σ H2 (b.mono e) S2 f
theorem RunO.wk0 (h : RunO K ts δ1 own O) (w : Wk δ δ1) : RunO K ts δ own O := fun hs Z H0 D σ H b S f => h hs Z H0 D σ H b (S.wk w) f
/-! ### new objects -/
theorem cut_new {p : Addr} {o' : HO} (hp : H p = none) : cut (p :: (ads own ++ hs)) (upd H p o') = cut (ads own ++ hs) H := by
  rw [cut_upd (by simp), cut_cons hp]
theorem StO.new (S : StO K hs σ H δ own) {p : Addr} {o' : HO} {c : OC} (hp : H p = none) (hc : OkC K (cut (ads own ++ hs) H) (upd H p o') p c) : StO K hs σ (upd H p o') δ ((p, c) :: own) where
  hid := S.hid.new
  nd := by
    show (p :: ads own).Nodup
    exact List.nodup_cons.mpr ⟨fun m => S.hid p (List.mem_append_left _ m) hp, S.nd⟩
  dj := fun a m => by
    rcases List.mem_cons.mp m with e | m
    · subst e; exact fun z => S.hid _ (List.mem_append_right _ z) hp
    · exact S.dj a m
  sl := by show Sl K (cut (p :: (ads own ++ hs)) _) σ δ; rw [cut_new hp]; exact S.sl
  ok := fun q m => by
    show OkC K (cut (p :: (ads own ++ hs)) _) _ _ _
    rw [cut_new hp]
    rcases List.mem_cons.mp m with e | m
    · subst e; exact hc
    · refine (S.ok q m).mono Ex.rfl (upd_ne fun z => ?_)
      obtain ⟨o2, h2⟩ := (S.ok q m).some
      rw [z, hp] at h2; cases h2
theorem Base.new (b : Base Z H0 H own) {p : Addr} {o' : HO} {c : OC} (hp : H p = none) : Base Z H0 (upd H p o') ((p, c) :: own) := ⟨fun a o z h => (Evl.Ex.new hp) a o (b.1 a o z h), fun a m => by
  rcases List.mem_cons.mp m with e | m
  · subst e
    by_cases z : Z a
    · exact .inl z
    · refine .inr ?_
      cases q : H0 a with
      | none => rfl
      | some o2 => rw [b.1 a o2 z q] at hp; cases hp
  · exact b.2 a m⟩
theorem runO_newL {i : Nat} (r : ∀ a, a ∉ ads own → O.nx (δ.set i (some (.v (.ref a)))) ((a, .l []) :: own)) : RunO K (tAsg (tLst tNil) (gName i)) δ own O := fun hs Z H0 D σ H b S f =>
  ⟨Nat.zero_le _, fun p hp => f.1 _ _ _ _ (r p fun z => S.hid p (List.mem_append_left _ z) hp) (b.new hp) ((S.new hp (okl upd_same .nil)).set i (sd := .v (.ref p)) rfl)⟩
theorem runO_newL1 {i : Nat} (h : EvD K te δ d) (r : ∀ a, a ∉ ads own → O.nx (δ.set i (some (.v (.ref a)))) ((a, .l [.d d]) :: own)) : RunO K (tAsg (tLst (tCons te tNil)) (gName i)) δ own O := fun hs Z H0 D σ H b S f =>
  h _ σ H S.hid S.sl _ fun v H1 e1 r1 => ⟨Nat.le_trans (show 1 ≤ 10000 by decide) (by decide), fun p hp => f.1 _ _ _ _ (r p fun z => (S.mono e1).hid p (List.mem_append_left _ z) hp) ((b.ex e1).new hp) (((S.mono e1).new hp (okl upd_same (.cons (d := .d d) r1 .nil))).set i (sd := .v (.ref p)) rfl)⟩
theorem runO_newD {i : Nat} (r : ∀ a, a ∉ ads own → O.nx (δ.set i (some (.v (.ref a)))) ((a, .d []) :: own)) : RunO K (tAsg tDNewK (gName i)) δ own O := fun hs Z H0 D σ H b S f =>
  fun p hp => f.1 _ _ _ _ (r p fun z => S.hid p (List.mem_append_left _ z) hp) (b.new hp) ((S.new hp (okd upd_same .nil)).set i (sd := .v (.ref p)) rfl)
theorem runO_parLL {i j : Nat} (h : EvD K te δ d) (r : ∀ a b, a ∉ ads own → b ∉ ads own → b ≠ a → O.nx ((δ.set i (some (.v (.ref a)))).set j (some (.v (.ref b)))) ((b, .l [.d d]) :: (a, .l []) :: own)) : RunO K (tPar i j (tCons (tLst tNil) (tCons (tLst (tCons te tNil)) tNil))) δ own O := fun hs Z H0 D σ H b S f =>
  ⟨Nat.zero_le _, fun p hp => by
    have S1 := S.new (o' := .lst []) (c := .l []) hp (okl upd_same .nil)
    refine h _ σ _ S1.hid S1.sl _ fun v H2 e2 r2 => ⟨Nat.le_trans (show 1 ≤ 10000 by decide) (by decide), fun q hq => ⟨_, _, rfl, ?_⟩⟩
    have n1 := fun z => (S1.mono e2).hid q (List.mem_append_left _ z) hq
    exact f.1 _ _ _ _ (r p q (fun z => S.hid p (List.mem_append_left _ z) hp) (fun z => n1 (List.mem_cons_of_mem _ z)) (fun z => n1 (by rw [z]; exact List.mem_cons_self))) (((b.new hp).ex e2).new hq) ((((S1.mono e2).new hq (okl upd_same (.cons (d := .d d) r2 .nil))).set i (sd := .v (.ref p)) rfl).set j (sd := .v (.ref q)) rfl)⟩
theorem runO_parL0 {i j : Nat} (r : ∀ a b, a ∉ ads own → b ∉ ads own → b ≠ a → O.nx ((δ.set i (some (.v (.ref a)))).set j (some (.v (.ref b)))) ((b, .l []) :: (a, .l []) :: own)) : RunO K (tPar i j (tCons (tLst tNil) (tCons (tLst tNil) tNil))) δ own O := fun hs Z H0 D σ H b S f =>
  ⟨Nat.zero_le _, fun p hp => ⟨Nat.zero_le _, fun q hq => ⟨_, _, rfl, by
    have S1 := S.new (o' := .lst []) (c := .l []) hp (okl upd_same .nil)
    have n1 := fun z => S1.hid q (List.mem_append_left _ z) hq
    exact f.1 _ _ _ _ (r p q (fun z => S.hid p (List.mem_append_left _ z) hp) (fun z => n1 (List.mem_cons_of_mem _ z)) (fun z => n1 (by rw [z]; exact List.mem_cons_self))) ((b.new hp).new hq) (((S1.new hq (okl upd_same .nil)).set i (sd := .v (.ref p)) rfl).set j (sd := .v (.ref q)) rfl)⟩⟩⟩
/-! ### an own object changes -/
def repl (own : Own) (a : Addr) (c : OC) : Own := own.map fun p => if p.1 = a then (a, c) else p
theorem ads_repl (own : Own) (a : Addr) (c : OC) : ads (repl own a c) = ads own := by
  unfold ads repl
  rw [List.map_map]
  refine List.map_congr_left fun p _ => ?_
  show (if p.1 = a then (a, c) else p).1 = p.1
  split
  · next h => exact h.symm
  · rfl
theorem mem_ads {a : Addr} {c : OC} (m : (a, c) ∈ own) : a ∈ ads own := List.mem_map_of_mem (f := (·.1)) m
theorem StO.upd (S : StO K hs σ H δ own) {a : Addr} {c c' : OC} {o' : HO} (m : (a, c) ∈ own) (hc : OkC K (cut (ads own ++ hs) H) (upd H a o') a c') : StO K hs σ (L2.upd H a o') δ (repl own a c') := by
  have ma : a ∈ ads own ++ hs := List.mem_append_left _ (mem_ads m)
  refine ⟨by rw [ads_repl]; exact S.hid.upd, by rw [ads_repl]; exact S.nd, by rw [ads_repl]; exact S.dj, by rw [ads_repl, cut_upd ma]; exact S.sl, fun p hp => ?_⟩
  rw [ads_repl, cut_upd ma]
  obtain ⟨q, hq, e⟩ := List.mem_map.mp hp
  by_cases h : q.1 = a
  · rw [if_pos h] at e; subst e; exact hc
  · rw [if_neg h] at e; subst e
    exact (S.ok q hq).mono Ex.rfl (upd_ne h)
theorem Base.upd (b : Base Z H0 H own) {a : Addr} {c c' : OC} {o' : HO} (m : (a, c) ∈ own) : Base Z H0 (L2.upd H a o') (repl own a c') := ⟨fun x o z h => by
  by_cases e : x = a
  · subst e
    rcases b.2 x (mem_ads m) with q | q
    · exact absurd q z
    · rw [q] at h; cases h
  · rw [upd_ne e]; exact b.1 x o z h, by rw [ads_repl]; exact b.2⟩
theorem SlA.snoc {G : Hp} {v : V} {sd : SD} : ∀ {ds : List SD} {vs : List V}, SlA K G ds vs → SlOk K G sd v → SlA K G (ds ++ [sd]) (vs ++ [v])
  | _, _, .nil, h => .cons h .nil
  | _, _, .cons h t, h2 => .cons h (t.snoc h2)
theorem SlA.length {G : Hp} : ∀ {ds : List SD} {vs : List V}, SlA K G ds vs → vs.length = ds.length
  | _, _, .nil => rfl
  | _, _, .cons _ t => congrArg Nat.succ t.length
theorem SlA.of_ra {G : Hp} : ∀ {ds : List PyData} {vs : List V}, RA K G vs ds → SlA K G (ds.map .d) vs
  | _, _, .nil => .nil
  | _, _, .cons h t => .cons (d := .d _) h (SlA.of_ra t)
theorem SlA.ra {G : Hp} : ∀ {ds : List PyData} {vs : List V}, SlA K G (ds.map .d) vs → RA K G vs ds
  | [], _, h => by cases h; exact .nil
  | d :: ds, _, h => by
    have h' : SlA K G (.d d :: ds.map .d) _ := h
    cases h' with
    | cons h1 h2 => exact .cons h1 (SlA.ra h2)
theorem SlA.get {G : Hp} : ∀ {ds : List SD} {vs : List V} {i : Nat} {d : SD}, SlA K G ds vs → ds[i]? = some d → ∃ v, vs[i]? = some v ∧ SlOk K G d v
  | _, _, _, _, .nil, e => by simp at e
  | _, _, 0, _, .cons h _, e => by simp at e; subst e; exact ⟨_, rfl, h⟩
  | _, _, i + 1, d, .cons _ t, e => by
    obtain ⟨v, h1, h2⟩ := SlA.get (i := i) (d := d) t (by simpa using e)
    exact ⟨v, by simpa using h1, h2⟩
theorem SlA.take {G : Hp} : ∀ {ds : List SD} {vs : List V} (n : Nat), SlA K G ds vs → SlA K G (ds.take n) (vs.take n)
  | _, _, 0, _ => .nil
  | _, _, _ + 1, .nil => .nil
  | _, _, n + 1, .cons h t => .cons h (t.take n)
theorem SlA.append {G : Hp} : ∀ {ds es : List SD} {vs ws : List V}, SlA K G ds vs → SlA K G es ws → SlA K G (ds ++ es) (vs ++ ws)
  | _, _, _, _, .nil, h => h
  | _, _, _, _, .cons h t, h2 => .cons h (t.append h2)
/-- what stands in a slot -/
theorem StO.var (S : StO K hs σ H δ own) {i : Nat} {v : V} (h : δ[i]? = some (some (.v v))) : σ[i]? = some (some v) := by
  obtain ⟨u, h1, h2⟩ := S.sl.at_ i _ h
  rw [h1]; congr 2
theorem tyV_lst {a : Addr} {vs : List V} (h : H a = some (.lst vs)) : tyV K "list" (.ref a) H := .inl ⟨rfl, vs, .inl (.inl h)⟩
theorem StO.atL (S : StO K hs σ H δ own) {a : Addr} {xs : List SD} (m : (a, .l xs) ∈ own) : ∃ vs, H a = some (.lst vs) ∧ SlA K (cut (ads own ++ hs) H) xs vs := S.ok _ m
theorem StO.atD (S : StO K hs σ H δ own) {a : Addr} {xs : List (Key × SD)} (m : (a, .d xs) ∈ own) : ∃ vs, H a = some (.dK vs) ∧ SlK K (cut (ads own ++ hs) H) xs vs := S.ok _ m
theorem runO_appendS {i : Nat} {a : Addr} {xs : List SD} (hv : δ[i]? = some (some (.v (.ref a)))) (m : (a, .l xs) ∈ own) (hx : xs.length < 10000) (h : EvD K te δ d)
    (k : O.nx δ (repl own a (.l (xs ++ [.d d])))) : RunO K (tDrop (tBM K "list" rAppend (tVar i) (tCons te tNil))) δ own O := fun hs Z H0 D σ H b S f => by
  obtain ⟨vs, h1, h2⟩ := S.atL m
  refine ⟨_, S.var hv, tyV_lst h1, h _ σ H S.hid S.sl _ fun v H1 e1 r1 => ?_⟩
  obtain ⟨vs', h3, h4⟩ := (S.mono e1).atL m
  exact ⟨a, vs', v, rfl, rfl, h3, by rw [h4.length]; exact Nat.lt_of_lt_of_le hx (by decide), f.1 _ _ σ _ k ((b.ex e1).upd m) ((S.mono e1).upd m (okl upd_same (h4.snoc r1)))⟩
/-- pop from the end -/
theorem runO_pop {i j : Nat} {a : Addr} {xs : List PyData} (hv : δ[i]? = some (some (.v (.ref a)))) (m : (a, .l ((xs ++ [d]).map .d)) ∈ own)
    (k : O.nx (δ.set j (some (.d d))) (repl own a (.l (xs.map .d)))) : RunO K (tAsg (tBM0 K "list" rPop (tVar i)) (gName j)) δ own O := fun hs Z H0 D σ H b S f => by
  obtain ⟨vs, h1, h2⟩ := S.atL m
  have ra := h2.ra
  have hl := ra.length
  rw [List.length_append] at hl
  obtain ⟨w, hw, rw'⟩ := ra.get (i := xs.length) (d := d) (by simp)
  refine ⟨_, S.var hv, tyV_lst h1, a, vs, w, rfl, rfl, h1, ?_, ?_⟩
  · rw [hl]; exact hw
  · have hr : RA K (cut (ads own ++ hs) H) vs.dropLast xs := by
      have := ra.take xs.length
      rw [List.take_append_of_le_length (Nat.le_refl _), List.take_length] at this
      rw [List.dropLast_eq_take, hl]
      exact this
    have S2 := S.upd (o' := .lst vs.dropLast) m (okl (vs := vs.dropLast) upd_same (SlA.of_ra hr))
    exact f.1 _ _ _ _ k (b.upd m) (S2.set j (sd := .d d) (by
      show R K _ w d
      rw [ads_repl, cut_upd (List.mem_append_left _ (mem_ads m))]
      exact rw'))
theorem runO_extend {i : Nat} {a : Addr} {xs : List SD} {ds : List PyData} (hv : δ[i]? = some (some (.v (.ref a)))) (m : (a, .l xs) ∈ own) (hx : xs.length + ds.length ≤ 10000) (h : EvD K te δ (.list ds))
    (k : O.nx δ (repl own a (.l (xs ++ ds.map .d)))) : RunO K (tDrop (tBM K "list" rExtend (tVar i) (tCons te tNil))) δ own O := fun hs Z H0 D σ H b S f => by
  obtain ⟨vs, h1, h2⟩ := S.atL m
  refine ⟨_, S.var hv, tyV_lst h1, h _ σ H S.hid S.sl _ fun v H1 e1 r1 => ?_⟩
  obtain ⟨vs', h3, h4⟩ := (S.mono e1).atL m
  cases r1 with
  | @lst c zs _ hc ra =>
    exact ⟨a, c, vs', zs, rfl, rfl, h3, (cut_some hc).2, by rw [h4.length, ra.length]; exact Nat.le_trans hx (by decide), f.1 _ _ σ _ k ((b.ex e1).upd m) ((S.mono e1).upd m (okl upd_same (h4.append (SlA.of_ra ra))))⟩
/-! ### reading own objects as data -/
mutual
/-- an own thing, told as data -/
inductive OD (own : Own) : SD → PyData → Prop
  | d (x : PyData) : OD own (.d x) x
  | l {a : Addr} {xs : List SD} {ds : List PyData} : (a, .l xs) ∈ own → ODs own xs ds → OD own (.v (.ref a)) (.list ds)
  | k {a : Addr} {kvs : List (Key × SD)} {kds : KDs} : (a, .d kvs) ∈ own → ODk own kvs kds → OD own (.v (.ref a)) (eKD kds)
inductive ODs (own : Own) : List SD → List PyData → Prop
  | nil : ODs own [] []
  | cons {s : SD} {xs : List SD} {d : PyData} {ds : List PyData} : OD own s d → ODs own xs ds → ODs own (s :: xs) (d :: ds)
inductive ODk (own : Own) : List (Key × SD) → KDs → Prop
  | nil : ODk own [] []
  | cons {k : Key} {s : SD} {xs : List (Key × SD)} {d : PyData} {ds : KDs} : OD own s d → ODk own xs ds → ODk own ((k, s) :: xs) ((k, d) :: ds)
end
theorem ODs.all (own : Own) : ∀ ds : List PyData, ODs own (ds.map .d) ds
  | [] => .nil
  | d :: ds => .cons (.d d) (ODs.all own ds)
theorem ODk.all (own : Own) : ∀ ds : KDs, ODk own (ds.map fun p => (p.1, .d p.2)) ds
  | [] => .nil
  | d :: ds => .cons (.d d.2) (ODk.all own ds)
inductive Th (own : Own) : Dl → Dl → Prop
  | nil : Th own [] []
  | keep {x : Option SD} {a b : Dl} : Th own a b → Th own (x :: a) (x :: b)
  | o {s : SD} {d : PyData} {a b : Dl} : OD own s d → Th own a b → Th own (some s :: a) (some (.d d) :: b)
theorem Th.l {own : Own} {x : Addr} {ds : List PyData} {a b : Dl} (m : (x, .l (ds.map .d)) ∈ own) (h : Th own a b) : Th own (some (.v (.ref x)) :: a) (some (.d (.list ds)) :: b) := .o (.l m (ODs.all own ds)) h
theorem Th.dk {own : Own} {x : Addr} {kds : KDs} {a b : Dl} (m : (x, .d (kds.map fun p => (p.1, .d p.2))) ∈ own) (h : Th own a b) : Th own (some (.v (.ref x)) :: a) (some (.d (eKD kds)) :: b) := .o (.k m (ODk.all own kds)) h
mutual
theorem OD.r {own fs : Own} {hs : List Addr} {σ : St} {δ : Dl} {H : Hp} (S : StO K hs σ H δ (own ++ fs)) (nin : ∀ {a : Addr} {c : OC}, (a, c) ∈ own → a ∉ ads fs ++ hs) (e : Ex (cut (ads (own ++ fs) ++ hs) H) (cut (ads fs ++ hs) H)) : ∀ {s : SD} {d : PyData} {v : V}, OD own s d → SlOk K (cut (ads (own ++ fs) ++ hs) H) s v → R K (cut (ads fs ++ hs) H) v d
  | _, _, _, .d x, h => R.mono e h
  | _, _, _, .l m t, h => by
    have h' : _ = V.ref _ := h
    subst h'
    obtain ⟨vs, h1, h2⟩ := S.atL (List.mem_append_left _ m)
    exact R.lst (cut_of (nin m) h1) (ODs.r S nin e t h2)
  | _, _, _, .k m t, h => by
    have h' : _ = V.ref _ := h
    subst h'
    obtain ⟨vs, h1, h2⟩ := S.atD (List.mem_append_left _ m)
    exact R.dic (cut_of (nin m) h1) (ODk.r S nin e t h2)
theorem ODs.r {own fs : Own} {hs : List Addr} {σ : St} {δ : Dl} {H : Hp} (S : StO K hs σ H δ (own ++ fs)) (nin : ∀ {a : Addr} {c : OC}, (a, c) ∈ own → a ∉ ads fs ++ hs) (e : Ex (cut (ads (own ++ fs) ++ hs) H) (cut (ads fs ++ hs) H)) : ∀ {xs : List SD} {ds : List PyData} {vs : List V}, ODs own xs ds → SlA K (cut (ads (own ++ fs) ++ hs) H) xs vs → RA K (cut (ads fs ++ hs) H) vs ds
  | _, _, _, .nil, h => by cases h; exact .nil
  | _, _, _, .cons o t, h => by
    cases h with
    | cons h1 h2 => exact .cons (OD.r S nin e o h1) (ODs.r S nin e t h2)
theorem ODk.r {own fs : Own} {hs : List Addr} {σ : St} {δ : Dl} {H : Hp} (S : StO K hs σ H δ (own ++ fs)) (nin : ∀ {a : Addr} {c : OC}, (a, c) ∈ own → a ∉ ads fs ++ hs) (e : Ex (cut (ads (own ++ fs) ++ hs) H) (cut (ads fs ++ hs) H)) : ∀ {xs : List (Key × SD)} {ds : KDs} {vs : List (Key × V)}, ODk own xs ds → SlK K (cut (ads (own ++ fs) ++ hs) H) xs vs → RK K (cut (ads fs ++ hs) H) vs (ds.map fun p => (kD p.1, p.2))
  | _, _, _, .nil, h => by cases h; exact .nil
  | _, _, _, .cons o t, h => by
    cases h with
    | cons h1 h2 => exact .cons (OD.r S nin e o h1) (ODk.r S nin e t h2)
end
theorem Th.sl' {own fs : Own} {hs : List Addr} {H : Hp} (tr : ∀ {s : SD} {d : PyData} {v : V}, OD own s d → SlOk K (cut (ads (own ++ fs) ++ hs) H) s v → R K (cut (ads fs ++ hs) H) v d) (e : Ex (cut (ads (own ++ fs) ++ hs) H) (cut (ads fs ++ hs) H)) : ∀ {δ δ' : Dl}, Th own δ δ' → δ'.length = δ.length ∧ ∀ (i : Nat) (s : SD), δ'[i]? = some (some s) → ∃ s0, δ[i]? = some (some s0) ∧ ∀ v, SlOk K (cut (ads (own ++ fs) ++ hs) H) s0 v → SlOk K (cut (ads fs ++ hs) H) s v
  | _, _, .nil => ⟨rfl, fun i s q => by cases q⟩
  | _, _, .keep h => ⟨by simp [(h.sl' tr e).1], fun i s q => by
    cases i with
    | zero => exact ⟨s, q, fun v hv => hv.mono e⟩
    | succ i => exact (h.sl' tr e).2 i s q⟩
  | _, _, .o m h => ⟨by simp [(h.sl' tr e).1], fun i s q => by
    cases i with
    | zero => cases q; exact ⟨_, rfl, fun v hv => tr m hv⟩
    | succ i => exact (h.sl' tr e).2 i s q⟩
theorem StO.thaw {own fs : Own} {δ' : Dl} (S : StO K hs σ H δ (own ++ fs)) (t : Th own δ δ') : Sl K (cut (ads fs ++ hs) H) σ δ' := by
  have e : Ex (cut (ads (own ++ fs) ++ hs) H) (cut (ads fs ++ hs) H) := cut_sub fun a m => by
    rcases List.mem_append.mp m with m | m
    · exact List.mem_append_left _ (by unfold ads at m ⊢; rw [List.map_append]; exact List.mem_append_right _ m)
    · exact List.mem_append_right _ m
  have nin : ∀ {a : Addr} {c : OC}, (a, c) ∈ own → a ∉ ads fs ++ hs := fun {a c} m z => by
    rcases List.mem_append.mp z with z | z
    · have nd := S.nd
      unfold ads at nd z
      rw [List.map_append] at nd
      exact (List.nodup_append.mp nd).2.2 a (List.mem_map_of_mem (f := (·.1)) m) a z rfl
    · exact S.dj a (mem_ads (List.mem_append_left _ m)) z
  obtain ⟨h1, h2⟩ := Th.sl' (OD.r S nin e) e t
  refine ⟨S.sl.len.trans h1.symm, fun i s q => ?_⟩
  obtain ⟨s0, q1, q2⟩ := h2 i s q
  obtain ⟨v, r1, r2⟩ := S.sl.at_ i s0 q1
  exact ⟨v, r1, q2 v r2⟩
/-- no address within -/
def flatD : PyData → Bool
  | .none | .bool _ | .int _ | .str _ => true
  | _ => false
theorem R.flat {G G' : Hp} {v : V} (h : R K G v d) (hf : flatD d = true) : R K G' v d := by
  cases h with
  | non => exact .non
  | bl b => exact .bl b
  | int i => exact .int i
  | str x => exact .str x
  | tup => cases hf
  | lst => cases hf
  | dic => cases hf
theorem evn_thaw {δ' : Dl} (t : Th own δ δ') (h : EvD K te δ' d) (hf : flatD d = true) : EvN K te δ own (· = d) := fun hs σ H S Q q => by
  have S1 : StO K hs σ H δ (own ++ []) := by rw [List.append_nil]; exact S
  exact h hs σ H (fun a m => S.hid a (List.mem_append_right _ m)) (S1.thaw t) Q fun v H2 e r => q v H2 d rfl (Ex.toZ e) (S.mono e) (r.flat hf)
theorem evnb_thaw {δ' : Dl} {b : Bool} (t : Th own δ δ') (h : EvB K tt δ' b) : EvNB K tt δ own (· = b) := fun hs σ H S Q q => by
  have S1 : StO K hs σ H δ (own ++ []) := by rw [List.append_nil]; exact S
  exact h hs σ H (fun a m => S.hid a (List.mem_append_right _ m)) (S1.thaw t) Q fun H2 e => q b H2 rfl (Ex.toZ e) (S.mono e)
/-- a return gives what is one's own away -/
theorem runO_ret {fs : Own} {δ' : Dl} (t : Th own δ δ') (h : EvD K te δ' d) (hd : O.rt fs d) : RunO K (tRet te) δ (own ++ fs) O := fun hs Z H0 D σ H b S f => by
  have hid : Hid (ads fs ++ hs) H := fun a m => S.hid a (by
    rcases List.mem_append.mp m with m | m
    · exact List.mem_append_left _ (by unfold ads at m ⊢; rw [List.map_append]; exact List.mem_append_right _ m)
    · exact List.mem_append_right _ m)
  refine h (ads fs ++ hs) σ H hid (S.thaw t) _ fun v H2 e r => f.2.2 fs d v H2 hd (b.ex e).1 ⟨hid.mono e, fun p hp => ?_⟩ r
  refine ((S.mono e).ok p (List.mem_append_right _ hp)).mono (cut_sub fun a m => ?_) rfl
  rcases List.mem_append.mp m with m | m
  · exact List.mem_append_left _ (by unfold ads at m ⊢; rw [List.map_append]; exact List.mem_append_right _ m)
  · exact List.mem_append_right _ m
theorem runO_ret0 {δ' : Dl} (t : Th own δ δ') (h : EvD K te δ' d) (hd : O.rt [] d) : RunO K (tRet te) δ own O := by
  have := runO_ret (K := K) (te := te) (own := own) (fs := []) (O := O) t h hd
  rwa [List.append_nil] at this
theorem repl_hd {a : Addr} {c c' : OC} : repl ((a, c) :: own) a c' = (a, c') :: repl own a c' := by unfold repl; rw [List.map_cons, if_pos rfl]
theorem repl_tl {a b : Addr} {c c' : OC} (h : b ≠ a) : repl ((b, c) :: own) a c' = (b, c) :: repl own a c' := by unfold repl; rw [List.map_cons, if_neg h]
theorem repl_nil {a : Addr} {c' : OC} : repl [] a c' = [] := rfl
theorem repl_not {a : Addr} {c' : OC} (h : a ∉ ads own) : repl own a c' = own := by
  unfold repl
  conv => rhs; rw [← List.map_id own]
  refine List.map_congr_left fun p hp => if_neg ?_
  intro e
  exact h (e ▸ List.mem_map_of_mem (f := (·.1)) hp)
/-- own objects of data become data -/
theorem runO_thaw {fs : Own} {δ' : Dl} (t : Th own δ δ') (r : RunO K us δ' fs O) : RunO K us δ (own ++ fs) O := fun hs Z H0 D σ H b S f => by
  have sub : ∀ a ∈ ads fs, a ∈ ads (own ++ fs) := fun a m => by unfold ads at m ⊢; rw [List.map_append]; exact List.mem_append_right _ m
  have e : Ex (cut (ads (own ++ fs) ++ hs) H) (cut (ads fs ++ hs) H) := cut_sub fun a m => by
    rcases List.mem_append.mp m with m | m
    · exact List.mem_append_left _ (sub a m)
    · exact List.mem_append_right _ m
  refine r hs Z H0 D σ H ⟨b.1, fun a m => b.2 a (sub a m)⟩ ⟨fun a m => S.hid a ?_, ?_, fun a m => S.dj a (sub a m), S.thaw t, fun p hp => ?_⟩ f
  · rcases List.mem_append.mp m with m | m
    · exact List.mem_append_left _ (sub a m)
    · exact List.mem_append_right _ m
  · have nd := S.nd
    unfold ads at nd ⊢
    rw [List.map_append] at nd
    exact (List.nodup_append.mp nd).2.1
  · exact (S.ok p (List.mem_append_right _ hp)).mono e rfl
def outR (P : PyData → Prop) : OutO := ⟨fun _ _ => False, fun _ _ => False, fun fs d => fs = [] ∧ P d⟩
/-- a def's body, from its reading -/
theorem spd_runO {PP : List PyData → PyData → Prop} {N : List Str} (h : ∀ ds d, PP ds d → RunO K ts (ds.map (fun d => some (.d d)) ++ List.replicate (N.length - ds.length) none) [] (outR (· = d))) (ds : List PyData) (d : PyData) (p : PP ds d) : RunD K ts (ds.map (fun d => some (.d d)) ++ List.replicate (N.length - ds.length) none) (.rt d) := fun hs D σ H hh S f =>
  h ds d p hs (fun _ => False) H D σ H ⟨fun a o _ h => h, fun a m => by cases m⟩ ⟨hh, List.nodup_nil, fun a m => (by cases m), S, fun p m => (by cases m)⟩ ⟨fun _ _ _ _ h => h.elim, fun _ _ _ _ h => h.elim, fun fs d' v H' hd e SF r => by
    obtain ⟨rfl, rfl⟩ := hd
    exact f v H' (fun a o h => e a o (fun z => z) h) r⟩
/-- the invariant's word behind a turn -/
def outI (O : OutO) (J : Dl → Own → Prop) : OutO := ⟨fun δ' own' => ∃ δ2, Wk δ' δ2 ∧ J δ2 own', O.nx, O.rt⟩
theorem base_in {Z : Addr → Prop} {H0 H1 H' : Hp} {own oa : Own} (b : Base Z H0 H1 own) (b2 : Base (· ∈ ads own) H1 H' oa) : Base Z H0 H' oa := ⟨(b.mono b2.1).1, fun a m => by
  rcases b2.2 a m with q | q
  · exact b.2 a q
  · by_cases z : Z a
    · exact .inl z
    · refine .inr ?_
      cases h : H0 a with
      | none => rfl
      | some o => rw [b.1 a o z h] at q; cases q⟩
theorem cut_in {H1 H' : Hp} {own oa : Own} (b2 : Base (· ∈ ads own) H1 H' oa) : Ex (cut (ads own ++ hs) H1) (cut (ads oa ++ hs) H') := fun a o h => by
  obtain ⟨m, h⟩ := cut_some h
  refine cut_of (fun z => ?_) (b2.1 a o (fun z => m (List.mem_append_left _ z)) h)
  rcases List.mem_append.mp z with z | z
  · rcases b2.2 a z with q | q
    · exact m (List.mem_append_left _ q)
    · rw [q] at h; cases h
  · exact m (List.mem_append_right _ z)
theorem base_self : Base (· ∈ ads own) H H own := ⟨fun _ _ _ h => h, fun a m => .inl m⟩
theorem runO_for {n : Nat} {vs : List Nat} {ok : Nat → Dl → Dl → Prop} {wi : TI} {g : TG} (w : Wlk K vs wi g δ n ok) (I : Nat → Dl → Own → Prop) (h0 : ∃ δ0, Wk δ δ0 ∧ I 0 δ0 own)
    (turn : ∀ i < n, ∀ δa oa, I i δa oa → ∃ δ1, ok i δa δ1 ∧ RunO K ts δ1 oa (outI O (I (i + 1)))) (fin : ∀ δa oa, I n δa oa → O.nx δa oa) : RunO K (tFor wi g ts) δ own O := fun hs Z H0 D σ H b S f =>
  w _ σ H S.hid S.sl _ fun J H1 e1 st => by
    obtain ⟨δ0, w0, h0⟩ := h0
    have b1 := b.ex e1
    have S1 := (S.mono e1).wk w0
    refine ⟨fun i m σ' H' => m = n - i ∧ i ≤ n ∧ ∃ δa oa, I i δa oa ∧ Base (· ∈ ads own) H1 H' oa ∧ StO K hs σ' H' δa oa, ⟨n, by simp, Nat.zero_le _, δ0, own, h0, base_self, S1⟩, ?_⟩
    rintro i m σ' H' ⟨rfl, hi, δa, oa, hI, b2, S2⟩
    have s2 := st i (ads oa ++ hs) H' S2.hid (cut_in b2)
    by_cases hlt : i < n
    · obtain ⟨go, y⟩ := s2.1 hlt
      obtain ⟨δ1, hok, hr⟩ := turn i hlt δa oa hI
      refine .inr ⟨go, fun σ3 H3 => i + 1 ≤ n ∧ ∃ δb ob, I (i + 1) δb ob ∧ Base (· ∈ ads own) H1 H3 ob ∧ StO K hs σ3 H3 δb ob, fun σ3 H3 p => ⟨n - (i + 1), by omega, rfl, p⟩, fun x H'' yy => ?_⟩
      obtain ⟨e3, k⟩ := y x H'' yy
      refine k δa δ1 hok σ' S2.sl _ fun σ2 Sl2 _ => ?_
      have S3 : StO K hs σ2 H'' δ1 oa := let S' := S2.mono e3; ⟨S'.hid, S'.nd, S'.dj, Sl2, S'.ok⟩
      refine hr hs (· ∈ ads own) H1 _ σ2 H'' (b2.ex e3) S3 ⟨fun δ4 o4 σ4 H4 hw b4 S4 => ?_, fun δ4 o4 σ4 H4 hk b4 S4 => f.1 _ _ _ _ hk (base_in b1 b4) S4, fun fs d v H4 hd e4 SF r => f.2.2 fs d v H4 hd (b1.mono e4).1 SF r⟩
      obtain ⟨δ5, w5, i5⟩ := hw
      exact ⟨hlt, δ5, o4, i5, b4, S4.wk w5⟩
    · have e : i = n := by omega
      subst e
      exact .inl ⟨s2.2 rfl, f.1 _ _ _ _ (fin δa oa hI) (base_in b1 b2) S2⟩
theorem runO_while {c : TT} (I : Nat → Dl → Own → Prop) (h0 : ∃ m δ0, Wk δ δ0 ∧ I m δ0 own)
    (turn : ∀ m δa oa, I m δa oa → ∃ PB, EvNB K c δa oa PB ∧ (PB true → RunO K ts δa oa (outI O fun δ' o' => ∃ m', m' < m ∧ I m' δ' o')) ∧ (PB false → O.nx δa oa)) : RunO K (tWhile c ts) δ own O := fun hs Z H0 D σ H b S f => by
  obtain ⟨m0, δ0, w0, h0⟩ := h0
  refine ⟨fun m σ' H' => ∃ δa oa, I m δa oa ∧ Base Z H0 H' oa ∧ StO K hs σ' H' δa oa, ⟨m0, δ0, own, h0, b, S.wk w0⟩, ?_⟩
  rintro m σ' H' ⟨δa, oa, hI, b2, S2⟩
  obtain ⟨PB, hc, ht, hf⟩ := turn m δa oa hI
  refine hc hs σ' H' S2 _ fun c H2 hp e S3 => ?_
  cases c with
  | false => exact f.1 _ _ _ _ (hf hp) (b2.mono e) S3
  | true =>
    refine ⟨fun σ3 H3 => ∃ m', m' < m ∧ ∃ δb ob, I m' δb ob ∧ Base Z H0 H3 ob ∧ StO K hs σ3 H3 δb ob, fun σ3 H3 ⟨m', hm, p⟩ => ⟨m', hm, p⟩, ?_⟩
    refine ht hp hs Z H0 _ σ' H2 (b2.mono e) S3 ⟨fun δ4 o4 σ4 H4 hw b4 S4 => ?_, fun δ4 o4 σ4 H4 hk b4 S4 => f.1 _ _ _ _ hk b4 S4, f.2.2⟩
    obtain ⟨δ5, w5, m', hm, i5⟩ := hw
    exact ⟨m', hm, δ5, o4, i5, b4, S4.wk w5⟩
theorem runO_take {tt : TT} {us us' : TS} (h : EvNB K tt δ own (· = true)) (r : RunO K ts δ own { O with nx := fun _ _ => False }) : RunO K (tSeq (tIfS tt ts us') us) δ own O :=
  runO_seq (runO_if h (fun _ => fun hs Z H0 D σ H b S f => r hs Z H0 D σ H b S ⟨fun _ _ _ _ h => h.elim, f.2⟩) fun z => by cases z)
theorem runO_skip {tt : TT} {us : TS} (h : EvNB K tt δ own (· = false)) (r : RunO K us δ own O) : RunO K (tSeq (tIfS tt ts tNext) us) δ own O :=
  runO_seq (runO_if h (fun z => by cases z) fun _ => runO_next r)
end
end Dw
set_option Elab.async false
set_option linter.all false
set_option maxRecDepth 100000
set_option maxHeartbeats 1000000
/-! Dicts made by comprehensions. -/
namespace Dw
open PySem PySem.Spec PyProof.Rows L2
theorem cut_same {xs ys : List Addr} {H : Hp} (h : ∀ a, a ∈ xs ↔ a ∈ ys) : cut xs H = cut ys H := by
  funext a
  unfold cut
  by_cases m : a ∈ xs
  · rw [if_pos m, if_pos ((h a).mp m)]
  · rw [if_neg m, if_neg fun z => m ((h a).mpr z)]
section
variable {K : PySem.W.Frag} {δ δ1 δ2 : Dl} {own own' : Own} {ts us : TS} {O : OutO} {te ta tb tk tv : TE} {tt : TT} {d x y z : PyData} {P : PyData → Prop} {hs : List Addr} {σ : St} {H H' H2 H0 : Hp} {Z : Addr → Prop} {vs : List Nat} {wi : TI} {g : TG}
theorem StO.perm (S : StO K hs σ H δ own) (p : own.Perm own') : StO K hs σ H δ own' := by
  have pa : (ads own).Perm (ads own') := p.map _
  have e : cut (ads own ++ hs) H = cut (ads own' ++ hs) H := cut_same fun a => by
    rw [List.mem_append, List.mem_append, pa.mem_iff]
  refine ⟨fun a m => S.hid a ?_, pa.nodup_iff.mp S.nd, fun a m => S.dj a (pa.mem_iff.mpr m), e ▸ S.sl, fun q m => e ▸ S.ok q (p.mem_iff.mpr m)⟩
  rcases List.mem_append.mp m with m | m
  · exact List.mem_append_left _ (pa.mem_iff.mpr m)
  · exact List.mem_append_right _ m
theorem Base.perm (b : Base Z H0 H own) (p : own.Perm own') : Base Z H0 H own' := ⟨b.1, fun a m => b.2 a ((p.map _).mem_iff.mpr m)⟩
/-- a hidden object becomes one's own -/
theorem StO.take {D : Addr} {c : OC} (S : StO K (D :: hs) σ H δ own) (hc : OkC K (cut (ads own ++ (D :: hs)) H) H D c) (hD : D ∉ hs) : StO K hs σ H δ ((D, c) :: own) := by
  have e : cut (ads own ++ (D :: hs)) H = cut (ads ((D, c) :: own) ++ hs) H := cut_same fun a => by
    show a ∈ ads own ++ D :: hs ↔ a ∈ D :: ads own ++ hs
    simp only [List.mem_append, List.mem_cons]
    constructor
    · rintro (h | h | h)
      · exact .inl (.inr h)
      · exact .inl (.inl h)
      · exact .inr h
    · rintro ((h | h) | h)
      · exact .inr (.inl h)
      · exact .inl h
      · exact .inr (.inr h)
  refine ⟨fun a m => S.hid a ?_, List.nodup_cons.mpr ⟨fun m => S.dj D m List.mem_cons_self, S.nd⟩, fun a m => ?_, e ▸ S.sl, fun q m => ?_⟩
  · have m' : a ∈ D :: ads own ++ hs := m
    simp only [List.mem_append, List.mem_cons] at m' ⊢
    rcases m' with (h | h) | h
    · exact .inr (.inl h)
    · exact .inl h
    · exact .inr (.inr h)
  · have m' : a ∈ D :: ads own := m
    rcases List.mem_cons.mp m' with h | h
    · rw [h]; exact hD
    · exact fun z => S.dj a h (List.mem_cons_of_mem _ z)
  · rcases List.mem_cons.mp m with h | h
    · rw [h, ← e]; exact hc
    · rw [← e]; exact S.ok q h
/-- one more address hidden -/
theorem StO.hide {D : Addr} {o' : HO} (S : StO K hs σ H δ own) (hD : H D = none) : StO K (D :: hs) σ (L2.upd H D o') δ own := by
  have nin : D ∉ ads own ++ hs := fun m => S.hid D m hD
  have e : cut (ads own ++ (D :: hs)) (L2.upd H D o') = cut (ads own ++ hs) H := by
    rw [← cut_new (own := own) (hs := hs) (o' := o') hD]
    refine cut_same fun a => ?_
    simp only [List.mem_append, List.mem_cons]
    constructor
    · rintro (h | h | h)
      · exact .inr (.inl h)
      · exact .inl h
      · exact .inr (.inr h)
    · rintro (h | h | h)
      · exact .inr (.inl h)
      · exact .inl h
      · exact .inr (.inr h)
  refine ⟨fun a m => ?_, S.nd, fun a m z => ?_, by rw [e]; exact S.sl, fun q m => ?_⟩
  · simp only [List.mem_append, List.mem_cons] at m
    rcases m with h | h | h
    · exact (S.hid.upd) a (List.mem_append_left _ h)
    · subst h; rw [upd_same]; exact fun z => nomatch z
    · exact (S.hid.upd) a (List.mem_append_right _ h)
  · rcases List.mem_cons.mp z with h | h
    · exact nin (List.mem_append_left _ (h ▸ m))
    · exact S.dj a m h
  · rw [e]
    refine (S.ok q m).mono Ex.rfl (upd_ne ?_)
    intro z
    exact nin (List.mem_append_left _ (z ▸ List.mem_map_of_mem (f := (·.1)) m))
/-- what is locked -/
abbrev Fz := List (Addr × HO)
def FzOk (fz : Fz) (hs : List Addr) (H : Hp) : Prop := ∀ p ∈ fz, p.1 ∈ hs ∧ H p.1 = some p.2
theorem FzOk.nil {hs : List Addr} {H : Hp} : FzOk [] hs H := fun p hp => by cases hp
theorem FzOk.ex {fz : Fz} (h : FzOk fz hs H) (e : Ex H H') : FzOk fz hs H' := fun p hp => ⟨(h p hp).1, e _ _ (h p hp).2⟩
theorem FzOk.sub {fz : Fz} {ks : List Addr} (h : FzOk fz hs H) (e : ∀ a ∈ hs, a ∈ ks) : FzOk fz ks H := fun p hp => ⟨e _ (h p hp).1, (h p hp).2⟩
def WlkF (K : PySem.W.Frag) (fz : Fz) (vs : List Nat) (wi : TI) (g : TG) (δ : Dl) (n : Nat) (ok : Nat → Dl → Dl → Prop) : Prop :=
  ∀ hs σ H, Hid hs H → FzOk fz hs H → Sl K (cut hs H) σ δ → ∀ R : It → Hp → Prop,
    (∀ J H1, Ex H H1 → (∀ i hs2 H', Hid hs2 H' → FzOk fz hs2 H' → Ex (cut hs H1) (cut hs2 H') → (i < n → J.go i H' ∧ ∀ x H'', J.yld i H' x H'' → Ex H' H'' ∧ ∀ δa δb, ok i δa δb → ∀ σ', Sl K (cut hs2 H') σ' δa → ∀ Q : St → Hp → Prop, (∀ σ2, Sl K (cut hs2 H'') σ2 δb → wipe σ2 vs = wipe σ' vs → Q σ2 H'') → g x σ' H'' Q) ∧ (i = n → J.stop i H')) → R J H1) → wi σ H R
theorem Wlk.f {n : Nat} {ok : Nat → Dl → Dl → Prop} (w : Wlk K vs wi g δ n ok) : WlkF K [] vs wi g δ n ok := fun hs σ H hh _ S R q => w hs σ H hh S R fun J H1 e1 st => q J H1 e1 fun i hs2 H' h2 _ e2 => st i hs2 H' h2 e2
def EvNewF (K : PySem.W.Frag) (fz : Fz) (tv : TE) (δ : Dl) (c : OC) : Prop := ∀ hs σ H, Hid hs H → FzOk fz hs H → Sl K (cut hs H) σ δ → ∀ Q : VK, (∀ p H1 o', Ex H H1 → H1 p = none → OkC K (cut hs H1) (upd H1 p o') p c → Q (.ref p) (upd H1 p o')) → tv σ H Q
def RunF (K : PySem.W.Frag) (fz : Fz) (ts : TS) (δ : Dl) (own : Own) (O : OutO) : Prop := ∀ hs Z H0 D σ H, FzOk fz hs H → Base Z H0 H own → StO K hs σ H δ own → FinO K hs Z H0 D O → ts D σ H
/-- a new object of one's own -/
def EvNew (K : PySem.W.Frag) (tv : TE) (δ : Dl) (c : OC) : Prop := ∀ hs σ H, Hid hs H → Sl K (cut hs H) σ δ → ∀ Q : VK, (∀ p H1 o', Ex H H1 → H1 p = none → OkC K (cut hs H1) (upd H1 p o') p c → Q (.ref p) (upd H1 p o')) → tv σ H Q
theorem slk_of_rk {G : Hp} : ∀ {kds : KDs} {ws : List (Key × V)}, RK K G ws (kds.map fun p => (kD p.1, p.2)) → SlK K G (kds.map fun p => (p.1, SD.d p.2)) ws
  | [], ws, h => by cases h; exact .nil
  | p :: kds, ws, h => by
    have h' : RK K G ws ((kD p.1, p.2) :: kds.map fun p => (kD p.1, p.2)) := h
    generalize hk : kD p.1 = kk at h'
    cases h' with
    | @cons k v kvs' d ps' h1 h2 =>
      have e := kD_inj hk
      subst e
      exact .cons (d := .d p.2) h1 (slk_of_rk h2)
theorem EvNew.f {c : OC} (h : EvNew K tv δ c) : EvNewF K [] tv δ c := fun hs σ H hh _ S Q q => h hs σ H hh S Q q
theorem en_dictT {kds : KDs} (ha : EvD K ta δ (.tuple (kds.map fun p => .tuple [kD p.1, p.2]))) (hn : (kds.map (·.1)).Nodup) : EvNew K (tCB (rDictF K) (tCons ta tNil)) δ (.d (kds.map fun p => (p.1, .d p.2))) := fun hs σ H hh S Q q =>
  ha hs σ H hh S _ fun v H1 e1 r => by
    cases r with
    | @tup a xs _ hp ra =>
      obtain ⟨ps, kvs, rfl, h1, h2⟩ := ra.pairs
      refine ⟨a, ps, kvs, rfl, .inl hp.full, Paired.full h1, fun p hp2 => ?_⟩
      have e : mergeK [] kvs = kvs := mergeK_nodup kvs [] (by rw [List.nil_append, h2.keys]; exact hn)
      rw [e]
      exact q p H1 _ e1 hp2 (okd upd_same (slk_of_rk h2))
theorem en_lst : EvNew K (tLst tNil) δ (.l []) := fun hs σ H hh S Q q => ⟨Nat.zero_le _, fun p hp => q p H _ Ex.rfl hp (okl upd_same .nil)⟩
theorem en_dnew : EvNew K tDNewK δ (.d []) := fun hs σ H hh S Q q => fun p hp => q p H _ Ex.rfl hp (okd upd_same .nil)
def pks (kf : Nat → Key) (ps : List Addr) : List (Key × SD) := ps.zipIdx.map fun p => (kf p.2, .v (.ref p.1))
def pkv (kf : Nat → Key) (ps : List Addr) : List (Key × V) := ps.zipIdx.map fun p => (kf p.2, .ref p.1)
def pcs (cf : Nat → OC) (ps : List Addr) : Own := ps.zipIdx.map fun p => (p.1, cf p.2)
theorem zipIdx_snoc {α : Type} (l : List α) (a : α) : (l ++ [a]).zipIdx = l.zipIdx ++ [(a, l.length)] := by
  rw [List.zipIdx_append]; simp
theorem slk_pk {G : Hp} {kf : Nat → Key} : ∀ (l : List (Addr × Nat)), SlK K G (l.map fun p => (kf p.2, SD.v (.ref p.1))) (l.map fun p => (kf p.2, V.ref p.1))
  | [] => .nil
  | p :: l => .cons (d := .v (.ref p.1)) rfl (slk_pk l)
theorem putK_new {kvs : List (Key × V)} {k : Key} {v : V} (h : k ∉ kvs.map (·.1)) : putK kvs k v = kvs ++ [(k, v)] := by
  unfold putK
  rw [if_neg]
  intro z
  obtain ⟨p, hp, e⟩ := List.any_eq_true.mp z
  exact h (List.mem_map.mpr ⟨p, hp, by simpa using e⟩)
theorem pkv_keys {kf : Nat → Key} {ps : List Addr} {i : Nat} (hk : ∀ j, j < i → kf j ≠ kf i) (hl : ps.length = i) : kf i ∉ (pkv kf ps).map (·.1) := by
  intro m
  obtain ⟨p, hp, e⟩ := List.mem_map.mp m
  obtain ⟨q, hq, rfl⟩ := List.mem_map.mp hp
  have := List.snd_lt_of_mem_zipIdx hq
  exact hk q.2 (by omega) e
theorem runF_dcN {fz : Fz} {n j : Nat} {ok : Nat → Dl → Dl → Prop} (w : WlkF K fz vs wi g δ n ok) (kf : Nat → Key) (cf : Nat → OC) (hn : n ≤ 10000) (hk : ∀ i j, j < i → i < n → kf j ≠ kf i)
    (step : ∀ i < n, ∃ δ1, ok i (wipeD δ vs) δ1 ∧ EvD K tk δ1 (kD (kf i)) ∧ EvNewF K fz tv δ1 (cf i))
    (k : ∀ D (ps : List Addr), ps.length = n → (D :: (ps ++ ads own)).Nodup → O.nx (δ.set j (some (.v (.ref D)))) ((D, .d (pks kf ps)) :: (pcs cf ps ++ own))) : RunF K fz (tAsg (tDc wi g tYes tk tv vs) (gName j)) δ own O := fun hs Z H0 D0 σ H hfz b S f =>
  w _ σ H S.hid (hfz.sub fun a m => List.mem_append_right _ m) S.sl _ fun J H1 e1 st => fun D hD => by
    have S1 := S.mono e1
    have b1 := b.ex e1
    refine ⟨fun i m H' => m = n - i ∧ i ≤ n ∧ ∃ ps : List Addr, ps.length = i ∧ StO K (D :: hs) σ H' δ (pcs cf ps ++ own) ∧ H' D = some (.dK (pkv kf ps)) ∧ Base Z H0 H' (pcs cf ps ++ own) ∧ Base (· ∈ ads own) H1 H' (pcs cf ps ++ own), ⟨n, by simp, Nat.zero_le _, [], rfl, S1.hide hD, upd_same, ?_, ?_⟩, ?_⟩
    · exact b1.ex (Evl.Ex.new hD)
    · exact base_self.ex (Evl.Ex.new hD)
    rintro i m H' ⟨rfl, hi, ps, hl, S2, h2, b2, b3⟩
    have ew : Ex (cut (ads own ++ hs) H1) (cut (ads (pcs cf ps ++ own) ++ (D :: hs)) H') := fun a o h => by
      obtain ⟨m, h⟩ := cut_some h
      refine cut_of (fun z => ?_) (b3.1 a o (fun z => m (List.mem_append_left _ z)) h)
      rcases List.mem_append.mp z with z | z
      · rcases b3.2 a z with q | q
        · exact m (List.mem_append_left _ q)
        · rw [q] at h; cases h
      · rcases List.mem_cons.mp z with z | z
        · rw [z, hD] at h; cases h
        · exact m (List.mem_append_right _ z)
    have fz2 : FzOk fz (ads (pcs cf ps ++ own) ++ (D :: hs)) H' := fun p hp => ⟨List.mem_append_right _ (List.mem_cons_of_mem _ (hfz p hp).1), b3.1 _ _ (fun z => S.dj _ z (hfz p hp).1) (e1 _ _ (hfz p hp).2)⟩
    have s2 := st i _ H' S2.hid fz2 ew
    by_cases hlt : i < n
    · obtain ⟨go, y⟩ := s2.1 hlt
      obtain ⟨δ1, hok, hkey, hval⟩ := step i hlt
      refine .inr ⟨go, fun H3 => i + 1 ≤ n ∧ ∃ ps : List Addr, ps.length = i + 1 ∧ StO K (D :: hs) σ H3 δ (pcs cf ps ++ own) ∧ H3 D = some (.dK (pkv kf ps)) ∧ Base Z H0 H3 (pcs cf ps ++ own) ∧ Base (· ∈ ads own) H1 H3 (pcs cf ps ++ own), fun H3 p => ⟨n - (i + 1), by omega, rfl, p⟩, fun x H'' yy => ?_⟩
      obtain ⟨e3, kk⟩ := y x H'' yy
      refine kk _ _ hok _ (S2.sl.wipe vs) _ fun σ2 Sl2 w2 => ⟨by rw [w2]; exact wipe_wipe vs σ, ?_⟩
      have S3 : StO K (D :: hs) σ H'' δ (pcs cf ps ++ own) := S2.mono e3
      refine ?_
      show tYes σ2 H'' _
      have hy := eb_yes (K := K) (δ := δ1) _ σ2 H'' S3.hid Sl2
      refine hy _ fun H3 e4 => ?_
      rw [if_pos rfl]
      have S4 := S3.mono e4
      refine hkey _ σ2 H3 S4.hid (Sl2.mono e4.cut) _ fun kv H4 e5 rk => ?_
      have S5 := S4.mono e5
      refine hval _ σ2 H4 S5.hid ((((fz2.ex e3).ex e4).ex e5)) ((Sl2.mono e4.cut).mono e5.cut) _ fun p H5 o' e6 hp hc => ?_
      have S6 := S5.mono e6
      have ek := R.key rk
      have hDp : D ≠ p := fun z => S6.hid D (List.mem_append_right _ List.mem_cons_self) (z ▸ hp)
      have hd5 : H5 D = some (.dK (pkv kf ps)) := e6 _ _ (e5 _ _ (e4 _ _ (e3 _ _ h2)))
      refine ⟨pkv kf ps, kf i, ek, by rw [upd_ne hDp]; exact hd5, ?_, hlt, ps ++ [p], by rw [List.length_append, hl]; rfl, ?_, ?_, ?_, ?_⟩
      · unfold pkv; rw [List.length_map, List.length_zipIdx, hl]; exact Nat.lt_of_lt_of_le hlt (Nat.le_trans hn (by decide))
      · have S7 := S6.new hp hc
        have hm : D ∈ ads ((p, cf i) :: (pcs cf ps ++ own)) ++ (D :: hs) := List.mem_append_right _ List.mem_cons_self
        have pm : ((p, cf i) :: (pcs cf ps ++ own)).Perm (pcs cf (ps ++ [p]) ++ own) := by
          unfold pcs
          rw [zipIdx_snoc, List.map_append, hl]
          simp only [List.map_cons, List.map_nil, List.append_assoc]
          exact (List.perm_middle).symm
        have S8 := S7.perm pm
        refine ⟨S8.hid.upd, S8.nd, S8.dj, by rw [cut_upd (List.mem_append_right _ List.mem_cons_self)]; exact S8.sl, fun q hq => ?_⟩
        rw [cut_upd (List.mem_append_right _ List.mem_cons_self)]
        refine (S8.ok q hq).mono Ex.rfl (upd_ne ?_)
        intro z
        exact S8.dj q.1 (List.mem_map_of_mem (f := (·.1)) hq) (by rw [z]; exact List.mem_cons_self)
      · rw [upd_same, putK_new (pkv_keys (fun j hj => hk i j hj hlt) hl)]
        unfold pkv
        rw [zipIdx_snoc, List.map_append, hl]; rfl
      all_goals
        have pm : ((p, cf i) :: (pcs cf ps ++ own)).Perm (pcs cf (ps ++ [p]) ++ own) := by
          unfold pcs
          rw [zipIdx_snoc, List.map_append, hl]
          simp only [List.map_cons, List.map_nil, List.append_assoc]
          exact (List.perm_middle).symm
      · have b9 := ((((b2.ex e3).ex e4).ex e5).ex e6).new (o' := o') (c := cf i) hp
        have b10 := b9.perm pm
        refine ⟨fun a o z h => ?_, b10.2⟩
        by_cases q : a = D
        · subst q
          have := b1.1 a o z h
          rw [hD] at this; cases this
        · rw [upd_ne q]; exact b10.1 a o z h
      · have b9 := ((((b3.ex e3).ex e4).ex e5).ex e6).new (o' := o') (c := cf i) hp
        have b10 := b9.perm pm
        refine ⟨fun a o z h => ?_, b10.2⟩
        by_cases q : a = D
        · subst q
          rw [hD] at h; cases h
        · rw [upd_ne q]; exact b10.1 a o z h
    · have e : i = n := by omega
      subst e
      have hDh : D ∉ hs := fun z => S1.hid D (List.mem_append_right _ z) hD
      have S3 := S2.take (c := .d (pks kf ps)) ⟨pkv kf ps, h2, slk_pk _⟩ hDh
      refine .inl ⟨s2.2 rfl, f.1 _ _ _ H' (k D ps hl ?_) ⟨b2.1, fun a m => ?_⟩ (S3.set j (sd := .v (.ref D)) rfl)⟩
      · have := S3.nd
        unfold ads at this
        rw [List.map_cons, List.map_append] at this
        have e2 : (pcs cf ps).map (·.1) = ps := by
          unfold pcs
          rw [List.map_map]
          show ps.zipIdx.map (fun p => p.1) = ps
          exact List.zipIdx_map_fst 0 ps
        rw [e2] at this
        exact this
      · rcases List.mem_cons.mp m with q | q
        · subst q
          by_cases z : Z a
          · exact .inl z
          · refine .inr ?_
            cases h : H0 a with
            | none => rfl
            | some o => have := b1.1 a o z h; rw [hD] at this; cases this
        · exact b2.2 a q
theorem runO_dcN {n j : Nat} {ok : Nat → Dl → Dl → Prop} (w : Wlk K vs wi g δ n ok) (kf : Nat → Key) (cf : Nat → OC) (hn : n ≤ 10000) (hk : ∀ i j, j < i → i < n → kf j ≠ kf i)
    (step : ∀ i < n, ∃ δ1, ok i (wipeD δ vs) δ1 ∧ EvD K tk δ1 (kD (kf i)) ∧ EvNew K tv δ1 (cf i))
    (k : ∀ D (ps : List Addr), ps.length = n → (D :: (ps ++ ads own)).Nodup → O.nx (δ.set j (some (.v (.ref D)))) ((D, .d (pks kf ps)) :: (pcs cf ps ++ own))) : RunO K (tAsg (tDc wi g tYes tk tv vs) (gName j)) δ own O := fun hs Z H0 D0 σ H b S f =>
  runF_dcN w.f kf cf hn hk (fun i hi => let ⟨δ1, h1, h2, h3⟩ := step i hi; ⟨δ1, h1, h2, h3.f⟩) k hs Z H0 D0 σ H FzOk.nil b S f
def lkS (kvs : List (Key × SD)) (k : Key) : Option SD := (kvs.find? fun p => decide (p.1 = k)).map (·.2)
theorem SlK.val {G : Hp} {k : Key} : ∀ {kvs : List (Key × SD)} {ws : List (Key × V)}, SlK K G kvs ws → (∃ s v, lkS kvs k = some s ∧ valV ws k = some v ∧ SlOk K G s v) ∨ (lkS kvs k = none ∧ valV ws k = none)
  | _, _, .nil => .inr ⟨rfl, rfl⟩
  | _, _, .cons (k := k') (d := sd) (v := v') h t => by
    by_cases e : k' = k
    · subst e
      exact .inl ⟨sd, v', by simp [lkS], by simp [valV], h⟩
    · rcases SlK.val (k := k) t with ⟨s, v, h1, h2, h3⟩ | ⟨h1, h2⟩
      · exact .inl ⟨s, v, by simpa [lkS, e] using h1, by simpa [valV, e] using h2, h3⟩
      · exact .inr ⟨by simpa [lkS, e] using h1, by simpa [valV, e] using h2⟩
theorem SlK.length {G : Hp} : ∀ {kvs : List (Key × SD)} {ws : List (Key × V)}, SlK K G kvs ws → ws.length = kvs.length
  | _, _, .nil => rfl
  | _, _, .cons _ t => congrArg Nat.succ t.length
theorem runO_setdApp {i : Nat} {D p : Addr} {kvs : List (Key × SD)} {k : Key} {xs : List SD} (hv : δ[i]? = some (some (.v (.ref D)))) (m : (D, .d kvs) ∈ own) (hl : kvs.length < 10000) (hk : EvD K tk δ (kD k)) (lk : lkS kvs k = some (.v (.ref p)))
    (mp : (p, .l xs) ∈ own) (hx : xs.length < 10000) (h : EvD K te δ d) (kk : O.nx δ (repl own p (.l (xs ++ [.d d])))) : RunO K (tDrop (tBM K "list" rAppend (tDSetd (tVar i) tk (tLst tNil)) (tCons te tNil))) δ own O := fun hs Z H0 D0 σ H b S f => by
  obtain ⟨ws0, h0, _⟩ := S.atD m
  refine ⟨_, S.var hv, D, rfl, .inl ⟨ws0, .inl h0⟩, hk _ σ H S.hid S.sl _ fun kv H1 e1 rk => ⟨Nat.zero_le _, fun q hq => ?_⟩⟩
  have S1 := S.mono e1
  have S2 := S1.mono (Evl.Ex.new (o := .lst []) hq)
  obtain ⟨ws, h1, h2⟩ := S2.atD m
  have hval : valV ws k = some (.ref p) := by
    rcases h2.val (k := k) with ⟨s, v, q1, q2, q3⟩ | ⟨q1, q2⟩
    · rw [lk] at q1
      cases q1
      have : v = .ref p := q3
      rw [q2, this]
    · rw [lk] at q1; cases q1
  refine ⟨ws, k, h1, R.key rk, by rw [h2.length]; exact Nat.lt_of_lt_of_le hl (by decide), fun v hv2 => ?_, fun z => by rw [hval] at z; cases z⟩
  rw [hval] at hv2
  cases hv2
  obtain ⟨vs, h3, h4⟩ := S2.atL mp
  refine ⟨tyV_lst h3, h _ σ _ S2.hid S2.sl _ fun v H3 e3 r3 => ?_⟩
  obtain ⟨vs', h5, h6⟩ := (S2.mono e3).atL mp
  exact ⟨p, vs', v, rfl, rfl, h5, by rw [h6.length]; exact Nat.lt_of_lt_of_le hx (by decide), f.1 _ _ σ _ kk ((((b.ex e1).ex (Evl.Ex.new hq)).ex e3).upd mp) ((S2.mono e3).upd mp (okl upd_same (h6.snoc r3)))⟩
theorem pcs_congr {cf cf' : Nat → OC} {ps : List Addr} (h : ∀ j < ps.length, cf j = cf' j) : pcs cf ps = pcs cf' ps := by
  unfold pcs
  refine List.map_congr_left fun p hp => ?_
  rw [h p.2 (by have := List.snd_lt_of_mem_zipIdx hp; omega)]
theorem ads_pcs {cf : Nat → OC} {ps : List Addr} : ads (pcs cf ps) = ps := by
  unfold ads pcs
  rw [List.map_map]
  exact List.zipIdx_map_fst 0 ps
theorem mem_pcs {cf : Nat → OC} {ps : List Addr} {i : Nat} {p : Addr} (h : ps[i]? = some p) : (p, cf i) ∈ pcs cf ps := by
  unfold pcs
  exact List.mem_map.mpr ⟨(p, i), List.mem_zipIdx_iff_getElem?.mpr h, rfl⟩
theorem repl_pcs {cf : Nat → OC} {ps : List Addr} {i : Nat} {p : Addr} {c : OC} (h : ps[i]? = some p) (nd : ps.Nodup) : repl (pcs cf ps) p c = pcs (fun j => if j = i then c else cf j) ps := by
  unfold repl pcs
  rw [List.map_map]
  refine List.map_congr_left fun q hq => ?_
  have hq' := List.mem_zipIdx_iff_getElem?.mp hq
  show (if q.1 = p then (p, c) else (q.1, cf q.2)) = (q.1, if q.2 = i then c else cf q.2)
  by_cases e : q.2 = i
  · rw [e, h] at hq'
    cases hq'
    rw [if_pos rfl, if_pos e]
  · have ne : q.1 ≠ p := by
      intro z
      obtain ⟨h1, h1'⟩ := List.getElem?_eq_some_iff.mp hq'
      obtain ⟨h2, h2'⟩ := List.getElem?_eq_some_iff.mp h
      exact e ((List.getElem_inj nd).mp (by rw [h1', h2', z]))
    rw [if_neg ne, if_neg e]
theorem repl_app {a : Addr} {c : OC} {o1 o2 : Own} : repl (o1 ++ o2) a c = repl o1 a c ++ repl o2 a c := by unfold repl; rw [List.map_append]
theorem lkS_pks {kf : Nat → Key} {ps : List Addr} {i : Nat} {p : Addr} (h : ps[i]? = some p) (hk : ∀ j, j < ps.length → kf j = kf i → j = i) : lkS (pks kf ps) (kf i) = some (.v (.ref p)) := by
  unfold lkS pks
  rw [List.find?_map]
  cases q : ps.zipIdx.find? ((fun p => decide (p.1 = kf i)) ∘ fun p => (kf p.2, SD.v (.ref p.1))) with
  | none =>
    have := List.find?_eq_none.mp q (p, i) (List.mem_zipIdx_iff_getElem?.mpr h)
    simp at this
  | some r =>
    have h1 := List.find?_some q
    have h2 := List.mem_of_find?_eq_some q
    have e : kf r.2 = kf i := by simpa using h1
    have := hk r.2 (by have := List.snd_lt_of_mem_zipIdx h2; omega) e
    have h3 := List.mem_zipIdx_iff_getElem?.mp h2
    rw [this, h] at h3
    cases h3
    rfl
theorem ODk.pk {own : Own} {kf : Nat → Key} {df : Nat → PyData} : ∀ (l : List (Addr × Nat)), (∀ p ∈ l, OD own (.v (.ref p.1)) (df p.2)) → ODk own (l.map fun p => (kf p.2, SD.v (.ref p.1))) (l.map fun p => (kf p.2, df p.2))
  | [], _ => .nil
  | p :: l, h => .cons (h p List.mem_cons_self) (ODk.pk l fun q hq => h q (List.mem_cons_of_mem _ hq))
end
end Dw
set_option Elab.async false
set_option linter.all false
set_option maxRecDepth 100000
set_option maxHeartbeats 1000000
/-! Readings of trees: what stands in what. -/
namespace Dw
open PySem PySem.Spec PyProof.Rows L2
local macro_rules | `(tactic| trivial) => `(tactic| repeat' (first
  | exact ev_var rfl
  | exact ev_int
  | exact ev_str
  | exact ev_non
  | exact ev_bl
  | exact ea_nil
  | exact eo_none
  | exact eb_yes
  | apply ea_cons
  | apply eo_some
  | apply eb_B
  | apply eb_test
  | apply eb_not
  | apply eb_or
  | apply eb_and
  | apply ev_andV
  | apply ev_orV
  | apply ev_notV
  | apply ev_isN
  | apply ev_notN
  | apply isi_ii
  | apply isi_ib
  | apply isi_tt
  | apply isi_ss
  | apply ev_ixT
  | apply ev_slT
  | apply ev_add
  | apply ev_sub
  | apply ev_neg
  | apply ev_lt
  | apply ev_le
  | apply ev_gt
  | apply ev_ge
  | apply ev_ltS
  | apply ev_lenG
  | apply ev_lenD
  | apply ev_tuple
  | apply ev_tup
  | apply ev_lst
  | apply ev_all
  | apply ev_catT
  | apply ev_is_number
  | apply ev_is_name
  | apply ev_is_entry
  | apply ev_are_entries
  | apply ev_is_row
  | apply ev_row_of
  | apply ev_kind_of
  | apply ev_entries_of
  | apply ev_way
  | apply ev_above
  | exact LenD.tup
  | exact LenD.lst
  | rfl
  | assumption
  | exact Nat.le_of_ble_eq_true rfl
  | with_reducible intro _))
theorem len_flat {α β : Type} {l : List α} {f : α → List β} {k : Nat} (h : ∀ a ∈ l, (f a).length ≤ k) : (l.flatMap f).length ≤ l.length * k := by
  induction l with
  | nil => simp
  | cons a l ih =>
    rw [List.flatMap_cons, List.length_append, List.length_cons, Nat.add_mul]
    have h1 := h a List.mem_cons_self
    have h2 := ih fun b hb => h b (List.mem_cons_of_mem _ hb)
    omega
theorem hold_len {rows : List Row} (h1 : rows.length ≤ 100) (h2 : ∀ r ∈ rows, r.2.2.length ≤ 100) (n : Int) : (hold rows n).length ≤ 10000 := by
  have : (hold rows n).length ≤ rows.length * 100 := len_flat fun r hr => by
    rw [List.length_map]
    exact Nat.le_trans (List.length_filter_le _ _) (h2 r hr)
  omega
theorem mem_hold {rows : List Row} {n p : Int} : p ∈ hold rows n ↔ ∃ r ∈ rows, r.1 = p ∧ ∃ e ∈ r.2.2, e.2 = n := by
  unfold hold
  constructor
  · intro h
    obtain ⟨r, hr, h⟩ := List.mem_flatMap.mp h
    obtain ⟨e, he, rfl⟩ := List.mem_map.mp h
    obtain ⟨h1, h2⟩ := List.mem_filter.mp he
    exact ⟨r, hr, rfl, e, h1, by simpa using h2⟩
  · rintro ⟨r, hr, rfl, e, he, q⟩
    exact List.mem_flatMap.mpr ⟨r, hr, List.mem_map.mpr ⟨e, List.mem_filter.mpr ⟨he, by simpa using q⟩, rfl⟩⟩
theorem heldK_get {rows : List Row} {n : Int} (h : ∃ r ∈ rows, r.1 = n) : lkK (heldK rows) (.inl n) = some (.list ((hold rows n).map .int)) := by
  have key : ∀ l : List Row, (∃ r ∈ l, r.1 = n) → ((l.map fun r => ((.inl r.1 : Key), PyData.list ((hold rows r.1).map .int))).find? fun p => decide (p.1 = .inl n)).map (·.2) = some (.list ((hold rows n).map .int)) := by
    intro l
    induction l with
    | nil => rintro ⟨r, hr, _⟩; cases hr
    | cons a l ih =>
      rintro ⟨r, hr, e⟩
      rw [List.map_cons]
      by_cases q : a.1 = n
      · rw [List.find?_cons_of_pos (by simp [q]), q]; rfl
      · rw [List.find?_cons_of_neg (by simp [q])]
        rcases List.mem_cons.mp hr with h | h
        · exact absurd (h ▸ e) q
        · exact ih ⟨r, h, e⟩
  exact key rows h
theorem WF.holdIn {t : Tree} {n p : Int} (h : p ∈ hold t.1 n) : In t p := by
  obtain ⟨r, hr, e, _⟩ := mem_hold.mp h
  exact ⟨r, hr, e⟩
theorem WF.holdD {t : Tree} (W : WF t) {n p : Int} (h : p ∈ hold t.1 n) : kindOf t p = sD := by
  obtain ⟨r, hr, rfl, e, he, _⟩ := mem_hold.mp h
  rw [kindOf_eq (W.rowOf hr)]
  rcases W.kinds r hr with k | k
  · exact k
  · rw [k.2] at he; cases he
theorem WF.hold0 {t : Tree} (W : WF t) : hold t.1 0 = [] := by
  cases h : hold t.1 0 with
  | nil => rfl
  | cons p ps =>
    obtain ⟨r, hr, _, e, he, q⟩ := mem_hold.mp (h ▸ List.mem_cons_self : p ∈ hold t.1 0)
    exact absurd q (W.to r hr e he).1
theorem WF.holdNe {t : Tree} (W : WF t) {n : Int} (h : In t n) (hn : n ≠ 0) : hold t.1 n ≠ [] := by
  obtain ⟨r, hr, rfl⟩ := h
  exact W.held r hr hn
theorem WF.holdOne {t : Tree} (W : WF t) {n : Int} (h : In t n) (hk : kindOf t n = sD) : (hold t.1 n).length ≤ 1 := by
  obtain ⟨r, hr, rfl⟩ := h
  rw [kindOf_eq (W.rowOf hr)] at hk
  exact W.one r hr hk
section
variable {K : PySem.W.Frag} {δ : Dl} {ta tb : TE} {t : Tree}
theorem ev_held {n : Int} (ha : EvD K ta δ (eKD (heldK t.1))) (hb : EvD K tb δ (.int n)) (h : In t n) : EvD K (tDGet ta tb) δ (.list ((hold t.1 n).map .int)) := ev_dget (k := .inl n) ha hb (heldK_get h)
theorem run_comes_up (ds : List PyData) (d : PyData) (h : P_comes_up ds d) : RunD K (t_comes_up K) (ds.map (fun d => some (.d d)) ++ List.replicate (N_comes_up.length - ds.length) none) (.rt d) := by
  refine spd_runO (PP := P_comes_up) (N := N_comes_up) (fun ds d h => ?_) ds d h
  obtain ⟨t, n, W, rfl, hn, rfl⟩ := h
  obtain ⟨rk, hrk, hup⟩ := W.rank
  have hu : ∀ {p m : Int}, p ∈ hold t.1 m → rk p < rk m := fun h => by
    obtain ⟨r, hr, rfl, e, he, rfl⟩ := mem_hold.mp h
    exact hup r hr e he
  refine runO_seq (runO_parLL (d := .int n) (by trivial) fun a b _ _ hab => ?_)
  refine runO_seq (runO_while (fun m δa oa => ∃ (pre seen : List Int) (h : Int), δa = [some (.d (.int n)), some (.d (eKD (heldK t.1))), some (.v (.ref a)), some (.v (.ref b)), none] ∧ oa = [(b, OC.l (((pre ++ [h]).map PyData.int).map SD.d)), (a, OC.l ((seen.map PyData.int).map SD.d))] ∧ In t h ∧ m = rk h ∧ (∀ s ∈ seen, rk h < rk s) ∧ (kindOf t h = sD ∨ pre = []) ∧ pre.length < 10000 ∧ seen.length + rk h ≤ 50) ⟨rk n, _, by repeat constructor, [], [], n, rfl, rfl, hn, rfl, (fun s hs => by cases hs), .inr rfl, by decide, by simpa using hrk n⟩ ?_)
  rintro m δa oa ⟨pre, seen, h, rfl, rfl, hh, rfl, hs, hk, hl, hsl⟩
  refine ⟨_, evnb_thaw (δ' := [some (.d (.int n)), some (.d (eKD (heldK t.1))), some (.v (.ref a)), some (.d (.list ((pre ++ [h]).map .int))), none]) ((.keep (.keep (.keep (.o (.l (List.mem_cons_self) (ODs.all _ _)) (.keep .nil)))))) (b := true) (eb_test (EvD.to (ev_neL0 (ds := (pre ++ [h]).map .int) (by trivial) (by trivial) (noD_ints _)) ?_)), fun _ => ?_, fun z => by cases z⟩
  · simp
  refine runO_seq (runO_pop (i := 3) (j := 4) (a := b) (xs := pre.map .int) (d := .int h) rfl (by simp) ?_)
  rw [repl_hd, repl_tl hab.symm, repl_nil]
  by_cases h0 : h = 0
  · refine runO_take (evnb_of (eb_test (EvD.to (ev_eqI (i := h) (j := 0) (by trivial) ev_int) (by rw [decide_eq_true h0])))) (runO_ret0 ((.keep (.keep (.keep (.keep (.keep .nil)))))) ev_bl ⟨rfl, rfl⟩)
  · refine runO_skip (evnb_of (eb_test (EvD.to (ev_eqI (i := h) (j := 0) (by trivial) ev_int) (by rw [decide_eq_false h0])))) ?_
    have hns : h ∉ seen := fun m => absurd (hs h m) (Nat.lt_irrefl _)
    refine runO_if (evnb_thaw (δ' := [some (.d (.int n)), some (.d (eKD (heldK t.1))), some (.d (.list (seen.map .int))), some (.v (.ref b)), some (.d (.int h))]) ((.keep (.keep (.o (.l (List.mem_cons_of_mem _ List.mem_cons_self) (ODs.all _ _)) (.keep (.keep .nil)))))) (b := true) (eb_test (EvD.to (ev_inL (i := h) (is := seen) (neg := true) (by trivial) (by trivial)) (by simp [hns])))) (fun _ => ?_) fun z => by cases z
    refine runO_seq (runO_appendS (i := 2) (a := a) (d := .int h) rfl (List.mem_cons_of_mem _ List.mem_cons_self) ?_ (by trivial) ?_)
    · rw [List.length_map, List.length_map]; omega
    rw [repl_tl hab, repl_hd, repl_nil]
    have hne := W.holdNe hh h0
    obtain ⟨rest, p, hp⟩ : ∃ rest p, hold t.1 h = rest ++ [p] := ⟨(hold t.1 h).dropLast, (hold t.1 h).getLast hne, (List.dropLast_concat_getLast hne).symm⟩
    have hlen := hold_len (Nat.le_trans W.few (by decide)) (fun r hr => Nat.le_trans (W.fewE r hr) (by decide)) h
    have hpm : p ∈ hold t.1 h := by rw [hp]; simp
    refine runO_extend (i := 3) (a := b) (ds := (hold t.1 h).map .int) rfl List.mem_cons_self ?_ (ev_held (n := h) (by trivial) (by trivial) hh) ?_
    · simp only [List.length_map]
      rcases hk with hk | hk
      · have := W.holdOne hh hk
        omega
      · rw [hk, List.length_nil]; omega
    rw [repl_hd, repl_tl hab.symm, repl_nil]
    refine ⟨_, by repeat constructor, rk p, hu hpm, pre ++ rest, seen ++ [h], p, rfl, ?_, WF.holdIn hpm, rfl, ?_, .inl (W.holdD hpm), ?_, ?_⟩
    · rw [hp]; simp
    · intro s m
      rcases List.mem_append.mp m with m | m
      · exact Nat.lt_trans (hu hpm) (hs s m)
      · rw [List.mem_singleton.mp m]; exact hu hpm
    · rw [List.length_append]
      rcases hk with hk | hk
      · have := W.holdOne hh hk
        rw [hp, List.length_append, List.length_singleton] at this
        omega
      · rw [hk]
        rw [hp, List.length_append, List.length_singleton] at hlen
        rw [List.length_nil]
        omega
    · have := hu hpm
      simp
      omega
theorem hold_app (r1 r2 : List Row) (n : Int) : hold (r1 ++ r2) n = hold r1 n ++ hold r2 n := by unfold hold; rw [List.flatMap_append]
theorem hold_one (r : Row) (n : Int) : hold [r] n = (r.2.2.filter fun p => decide (p.2 = n)).map fun _ => r.1 := by unfold hold; simp
theorem take_succ' {α : Type} {l : List α} {i : Nat} {a : α} (h : l[i]? = some a) : l.take (i + 1) = l.take i ++ [a] := by
  rw [List.take_succ, h]; rfl
theorem zip_map {β : Type} {ps : List Addr} {rows : List Row} {F : Nat → β} {G : Row → β} (hl : ps.length = rows.length) (h : ∀ i r, rows[i]? = some r → F i = G r) : rows.map G = ps.zipIdx.map fun p => F p.2 := by
  refine List.ext_getElem (by simp [hl]) fun i h1 h2 => ?_
  simp only [List.getElem_map, List.getElem_zipIdx, Nat.zero_add]
  exact (h i _ (List.getElem?_eq_getElem (by simpa using h1))).symm
theorem run_holders (ds : List PyData) (d : PyData) (h : P_holders ds d) : RunD K (t_holders K) (ds.map (fun d => some (.d d)) ++ List.replicate (N_holders.length - ds.length) none) (.rt d) := by
  refine spd_runO (PP := P_holders) (N := N_holders) (fun ds d h => ?_) ds d h
  obtain ⟨rows, rfl, nd, hto, hl, hle, rfl⟩ := h
  let nd' : Nat → Int := fun i => ((rows.map (·.1))[i]?).getD 0
  have hnd : ∀ {i : Nat} {r : Row}, rows[i]? = some r → nd' i = r.1 := fun {i r} h => by show ((rows.map (·.1))[i]?).getD 0 = _; rw [List.getElem?_map, h]; rfl
  have hinj : ∀ i j, i < rows.length → j < rows.length → nd' i = nd' j → i = j := fun i j hi hj e => by
    rw [hnd (List.getElem?_eq_getElem hi), hnd (List.getElem?_eq_getElem hj)] at e
    exact (List.getElem_inj nd (h₀ := by simpa using hi) (h₁ := by simpa using hj)).mp (by simpa using e)
  have hat : ∀ r ∈ rows, ∀ p ∈ r.2.2, ∃ i, i < rows.length ∧ nd' i = p.2 := fun r hr p hp => by
    obtain ⟨q, hq, e⟩ := hto r hr p hp
    obtain ⟨i, hi, e2⟩ := List.mem_iff_getElem.mp hq
    exact ⟨i, hi, by rw [hnd (List.getElem?_eq_getElem hi), e2, e]⟩
  refine runO_seq (runO_dcN (wlk_tup [2, 3, 4] eRow (bs := rows) (by trivial)) (fun i => .inl (nd' i)) (fun _ => .l []) (by omega) (fun i j hj hi e => ?_) (fun i hi => ?_) fun D ps hps hno => ?_)
  · have := hinj j i (by omega) hi (Sum.inl.inj e)
    omega
  · refine ⟨_, fun r hr => ?_, (ev_var (i := 2) ?_ : EvD K _ [some (.d (eRows rows)), none, some (.d (.int (nd' i))), some (.d (.str rows[i].2.1)), some (.d (eEnt rows[i].2.2)), none, none] _), en_lst⟩
    · rw [List.getElem?_eq_getElem hi] at hr
      cases hr
      rw [hnd (List.getElem?_eq_getElem hi)]
      exact eg_tup (ds := [_, _, _]) (egs_cons (eg_name (by simp)) (egs_cons (eg_name (by simp)) (egs_cons (eg_name (by simp)) egs_nil))) rfl
    · rfl
  have hps' : ps.Nodup := by
    have := (List.nodup_cons.mp hno).2
    exact (List.nodup_append.mp this).1
  have hDp : D ∉ ps := fun m => (List.nodup_cons.mp hno).1 (List.mem_append_left _ m)
  let cf : Nat → List (Str × Int) → Int → Nat → OC := fun r es dr i => .l (((hold (rows.take r) (nd' i) ++ (es.filter fun p => decide (p.2 = nd' i)).map fun _ => dr).map PyData.int).map SD.d)
  let D0 : Own := [(D, .d (pks (fun i => .inl (nd' i)) ps))]
  refine runO_seq (runO_for (wlk_tup [5, 3, 4] eRow (bs := rows) (by trivial)) (fun r δa oa => δa = [some (.d (eRows rows)), some (.v (.ref D)), none, none, none, none, none] ∧ oa = D0 ++ pcs (cf r [] 0) ps) ⟨_, by repeat constructor, rfl, ?_⟩ ?_ ?_)
  · rw [List.append_nil]
    show _ = _ :: _
    congr 1
  · rintro r hr δa oa ⟨rfl, rfl⟩
    refine ⟨[some (.d (eRows rows)), some (.v (.ref D)), none, some (.d (.str rows[r].2.1)), some (.d (eEnt rows[r].2.2)), some (.d (.int rows[r].1)), none], fun row hrow => ?_, ?_⟩
    rotate_left
    · refine runO_for (wlk_tup [6, 2] encE (bs := rows[r].2.2) (by trivial)) (fun e δa oa => δa = [some (.d (eRows rows)), some (.v (.ref D)), none, some (.d (.str rows[r].2.1)), some (.d (eEnt rows[r].2.2)), some (.d (.int rows[r].1)), none] ∧ oa = D0 ++ pcs (cf r (rows[r].2.2.take e) rows[r].1) ps) ⟨_, by repeat constructor, rfl, ?_⟩ ?_ ?_
      · rfl
      · rintro e he δa oa ⟨rfl, rfl⟩
        refine ⟨[some (.d (eRows rows)), some (.v (.ref D)), some (.d (.int rows[r].2.2[e].2)), some (.d (.str rows[r].2.1)), some (.d (eEnt rows[r].2.2)), some (.d (.int rows[r].1)), some (.d (.str rows[r].2.2[e].1))], fun p hp => ?_, ?_⟩
        · rw [List.getElem?_eq_getElem he] at hp
          cases hp
          exact eg_tup (ds := [_, _]) (egs_cons (eg_name (by simp)) (egs_cons (eg_name (by simp)) egs_nil)) rfl
        · obtain ⟨i, hi, hie⟩ := hat _ (List.getElem_mem hr) _ (List.getElem_mem he)
          obtain ⟨p, hp⟩ : ∃ p, ps[i]? = some p := ⟨ps[i]'(by omega), List.getElem?_eq_getElem _⟩
          have hlt : (pks (fun i => (Sum.inl (nd' i) : Key)) ps).length < 10000 := by unfold pks; rw [List.length_map, List.length_zipIdx]; omega
          refine runO_setdApp (i := 1) (D := D) (p := p) (k := .inl (nd' i)) (d := .int rows[r].1) rfl (List.mem_cons_self) hlt (ev_var (i := 2) (by rw [hie]; rfl)) (lkS_pks (i := i) hp fun j hj e => hinj j i (by omega) hi (Sum.inl.inj e)) (List.mem_cons_of_mem _ (mem_pcs hp)) ?_ (by trivial) ?_
          · rw [List.length_map, List.length_map, List.length_append, List.length_map]
            have b1 : (hold (rows.take r) (nd' i)).length ≤ (rows.take r).length * 100 := len_flat fun q hq => by
              rw [List.length_map]
              exact Nat.le_trans (List.length_filter_le _ _) (hle q (List.mem_of_mem_take hq))
            have b2 : ((rows[r].2.2.take e).filter fun p => decide (p.2 = nd' i)).length ≤ (rows[r].2.2.take e).length := List.length_filter_le _ _
            have b3 := hle _ (List.getElem_mem hr)
            rw [List.length_take] at b1 b2
            omega
          · refine ⟨_, by repeat constructor, rfl, ?_⟩
            have hpD : D ≠ p := fun z => hDp (z ▸ List.mem_of_getElem? hp)
            show repl (D0 ++ pcs _ ps) p _ = _
            rw [repl_app, repl_pcs hp hps']
            congr 1
            · show repl [_] p _ = _
              rw [repl_tl hpD, repl_nil]
            · refine pcs_congr fun j hj => ?_
              show (if j = i then _ else OC.l _) = OC.l _
              rw [take_succ' (List.getElem?_eq_getElem he), List.filter_append, List.map_append]
              by_cases q : j = i
              · subst q
                rw [if_pos rfl, List.filter_cons_of_pos (by simp [hie])]
                simp
              · rw [if_neg q, List.filter_cons_of_neg (by
                  simp only [decide_eq_true_eq]
                  intro z
                  exact q (hinj j i (by omega) hi (by rw [hie, z])))]
                simp
      · rintro δa oa ⟨rfl, rfl⟩
        refine ⟨_, by repeat constructor, rfl, ?_⟩
        congr 1
        refine pcs_congr fun j hj => ?_
        show OC.l _ = OC.l _
        rw [List.take_length, take_succ' (List.getElem?_eq_getElem hr), hold_app, hold_one]
        simp
    · rw [List.getElem?_eq_getElem hr] at hrow
      cases hrow
      exact eg_tup (ds := [_, _, _]) (egs_cons (eg_name (by simp)) (egs_cons (eg_name (by simp)) (egs_cons (eg_name (by simp)) egs_nil))) rfl
  · rintro δa oa ⟨rfl, rfl⟩
    refine runO_ret0 (δ' := [some (.d (eRows rows)), some (.d (eKD (heldK rows))), none, none, none, none, none]) (.keep (.o (.k List.mem_cons_self ?_) (.keep (.keep (.keep (.keep (.keep .nil))))))) (ev_var rfl) ⟨rfl, rfl⟩
    rw [show heldK rows = ps.zipIdx.map fun p => ((Sum.inl (nd' p.2) : Key), PyData.list ((hold rows (nd' p.2)).map .int)) from zip_map (rows := rows) (F := fun i => ((Sum.inl (nd' i) : Key), PyData.list ((hold rows (nd' i)).map .int))) (G := fun r => ((Sum.inl r.1 : Key), PyData.list ((hold rows r.1).map .int))) hps fun i r h => by rw [hnd h]]
    refine ODk.pk (own := D0 ++ pcs (cf rows.length [] 0) ps) (kf := fun i => (Sum.inl (nd' i) : Key)) (df := fun i => PyData.list ((hold rows (nd' i)).map .int)) ps.zipIdx fun p hp => .l (xs := ((hold rows (nd' p.2)).map .int).map .d) (List.mem_append_right _ ?_) (ODs.all _ _)
    have := mem_pcs (cf := cf rows.length [] 0) (List.mem_zipIdx_iff_getElem?.mp hp)
    have e2 : cf rows.length [] 0 p.2 = OC.l (((hold rows (nd' p.2)).map PyData.int).map SD.d) := by
      show OC.l _ = _
      rw [List.take_length]
      simp
    rwa [e2] at this
end
end Dw
set_option Elab.async false
set_option linter.all false
set_option maxRecDepth 100000
set_option maxHeartbeats 1000000
/-! Readings of trees: is_held, is_tree, above. -/
namespace Dw
open PySem PySem.Spec PyProof.Rows L2
local macro_rules | `(tactic| trivial) => `(tactic| repeat' (first
  | exact ev_var rfl
  | exact ev_int
  | exact ev_str
  | exact ev_non
  | exact ev_bl
  | exact ea_nil
  | exact eo_none
  | exact eb_yes
  | apply ea_cons
  | apply eo_some
  | apply eb_B
  | apply eb_test
  | apply eb_not
  | apply eb_or
  | apply eb_and
  | apply ev_andV
  | apply ev_orV
  | apply ev_notV
  | apply ev_isN
  | apply ev_notN
  | apply isi_ii
  | apply isi_ib
  | apply isi_tt
  | apply isi_ss
  | apply ev_ixT
  | apply ev_slT
  | apply ev_add
  | apply ev_sub
  | apply ev_neg
  | apply ev_lt
  | apply ev_le
  | apply ev_gt
  | apply ev_ge
  | apply ev_ltS
  | apply ev_lenG
  | apply ev_lenD
  | apply ev_tuple
  | apply ev_tup
  | apply ev_lst
  | apply ev_all
  | apply ev_catT
  | apply ev_is_number
  | apply ev_is_name
  | apply ev_is_entry
  | apply ev_are_entries
  | apply ev_is_row
  | apply ev_row_of
  | apply ev_kind_of
  | apply ev_entries_of
  | apply ev_way
  | apply ev_above
  | exact LenD.tup
  | exact LenD.lst
  | rfl
  | assumption
  | exact Nat.le_of_ble_eq_true rfl
  | with_reducible intro _))
section
variable {K : PySem.W.Frag} {δ : Dl} {tl : TA} {E : XK} {t : Tree}
theorem WF.nodup (W : WF t) : (t.1.map (·.1)).Nodup := List.pairwise_map.mpr (W.inc.imp fun h e => by omega)
theorem ev_holders (W : WF t) (a : EvA K tl δ [eRows t.1]) : EvD K (tCall (SpD K P_holders) [] E tl) δ (eKD (heldK t.1)) := ev_call a ⟨t.1, rfl, W.nodup, fun r hr p hp => (W.to r hr p hp).2, Nat.le_trans W.few (by decide), fun r hr => Nat.le_trans (W.fewE r hr) (by decide), rfl⟩
theorem run_is_held (ds : List PyData) (d : PyData) (h : P_is_held ds d) : RunD K (t_is_held K) (ds.map (fun d => some (.d d)) ++ List.replicate (N_is_held.length - ds.length) none) (.rt d) := by
  obtain ⟨t, ⟨n, k, e⟩, W, rfl, hr, rfl⟩ := h
  have hin : In t n := ⟨_, hr, rfl⟩
  have hk : kindOf t n = k := kindOf_eq (W.rowOf hr)
  refine run_letG [2, 3, 4] (x := eRow (n, k, e)) (by trivial) rfl (eg_tup (ds := [_, _, _]) (egs_cons (eg_name (by simp)) (egs_cons (eg_name (by simp)) (egs_cons (eg_name (by simp)) egs_nil))) rfl) ?_
  have h1 : ∀ {δ : Dl}, δ[1]? = some (some (.d (eKD (heldK t.1)))) → δ[2]? = some (some (.d (.int n))) → EvD K (tDGet (tVar 1) (tVar 2)) δ (.list ((hold t.1 n).map .int)) := fun h1 h2 => ev_held (ev_var h1) (ev_var h2) hin
  by_cases h0 : n = 0
  · subst h0
    have hkD : k = sD := by
      obtain ⟨e', rest, ht⟩ := W.top
      have : ((0 : Int), sD, e') ∈ t.1 := by rw [ht]; simp
      have := W.inj this hr rfl
      simpa using (congrArg (fun r : Row => r.2.1) this).symm
    subst hkD
    refine run_take (b := true) (eb_test (EvD.to (ev_eqI (i := 0) (j := 0) (by trivial) (by trivial)) rfl)) rfl (run_retT (ev_andV (ev_eqS (i := sD) (j := "drawer") (by trivial) (by trivial)) fun _ => ev_eqL0 (ds := (hold t.1 0).map .int) (h1 rfl rfl) (by trivial) (noD_ints _)) ?_)
    rw [W.hold0]; rfl
  · have hc : ∀ {δ : Dl}, δ[1]? = some (some (.d (eKD (heldK t.1)))) → δ[2]? = some (some (.d (.int n))) → EvD K (tCall (SpD K P_comes_up) [] E0 (tCons (tVar 2) (tCons (tVar 1) (tNil)))) δ yes := fun h1 h2 => ev_call (ea_cons (ev_var h2) (ea_cons (ev_var h1) ea_nil)) ⟨t, n, W, rfl, hin, rfl⟩
    refine run_skip (b := false) (eb_test (EvD.to (ev_eqI (i := n) (j := 0) (by trivial) (by trivial)) (by rw [decide_eq_false h0]))) rfl (run_let (x := .int (hold t.1 n).length) (ev_lenL (ds := (hold t.1 n).map .int) (h1 rfl rfl)) (by rw [List.length_map]) ?_)
    have hne := W.holdNe hin h0
    have hpos : 0 < (hold t.1 n).length := List.length_pos_iff.mpr hne
    refine run_retT (d := .bool (true && true)) (ev_andV (ev_if (d := .bool true) (b := decide (k = sD)) (eb_test (ev_eqS (i := k) (j := "drawer") (by trivial) (by trivial))) (fun q => ?_) (fun q => ?_)) fun _ => hc rfl rfl) rfl
    · have := W.holdOne hin (hk.trans (of_decide_eq_true q))
      exact (ev_eqI (i := (hold t.1 n).length) (j := 1) (by trivial) (by trivial)).to (by rw [decide_eq_true (by omega)])
    · exact (ev_gt (i := (hold t.1 n).length) (j := 0) (by trivial) (by trivial)).to (by rw [decide_eq_true (by omega)])
theorem ev_is_held {r : Row} (W : WF t) (hr : r ∈ t.1) (a : EvA K tl δ [eRow r, eKD (heldK t.1)]) : EvD K (tCall (SpD K P_is_held) [] E tl) δ (.bool true) := ev_call a ⟨t, r, W, rfl, hr, rfl⟩
theorem atI_zero {α : Type} (a : α) (l : List α) : atI (a :: l) 0 = some a := by
  unfold atI ixN
  rw [if_pos (Int.le_refl 0), if_pos (by simp)]
  rfl
theorem run_is_tree (ds : List PyData) (d : PyData) (h : P_is_tree ds d) : RunD K (t_is_tree K) (ds.map (fun d => some (.d d)) ++ List.replicate (N_is_tree.length - ds.length) none) (.rt d) := by
  obtain ⟨⟨rows, made⟩, W, rfl, rfl⟩ := h
  have hz : rows.length ≤ 10000 := Nat.le_trans W.few (by decide)
  obtain ⟨e0, rest, ht⟩ := W.top
  have hm : 0 ≤ made := by
    have h1 := W.made (0, sD, e0) (by rw [ht]; simp)
    simp at h1; omega
  refine run_skip (b := false) (EvB.to (b := (!true || (!decide ((2 : Int) = 2) || !true))) (eb_or (eb_not (eb_B (isi_tt (ev_var rfl)))) fun _ => eb_or (eb_test (ev_neI (ev_lenT (ds := [_, _]) (ev_var rfl)) ev_int)) fun _ => eb_not (eb_B (isi_tt (ds := rows.map eRow) (ev_ixT (ds := [_, _]) (ev_var rfl) ev_int rfl)))) rfl) rfl ?_
  refine run_letG [1, 2] (x := eTree (rows, made)) (by trivial) rfl (eg_tup (ds := [_, _]) (egs_cons (eg_name (by simp)) (egs_cons (eg_name (by simp)) egs_nil)) rfl) ?_
  refine run_skip (b := false) (EvB.to (b := (!true || !true)) (eb_or (eb_not (eb_B (EvD.to (ev_is_number (n := made) (by trivial)) (by rw [decide_eq_true hm])))) fun _ => eb_not (eb_B (EvD.to (ev_all (bs := (rows.filter fun _ => true).map fun _ => true) ?_) ?_))) rfl) rfl ?_
  · refine (ev_lcT eRow (fun _ => true) (fun _ => yes) (bs := rows) (by trivial) hz fun r hr => ⟨_, eg_name (by simp), eb_yes, fun _ => ev_is_row (r := r) (t := (rows, made)) (by trivial) W hr⟩).to ?_
    rw [List.map_map]; rfl
  · rw [all_true fun _ _ => rfl]
  refine run_skip (b := false) (EvB.to (b := (!true || (false || !true))) (eb_or (eb_not (eb_B (EvD.to (ev_all (bs := ((rows.zip rows.tail).filter fun _ => true).map fun _ => true) ?_) ?_))) fun _ => eb_or (eb_test (EvD.to (ev_eqT0 (ds := rows.map eRow) (by trivial) (by trivial) (noD_eRows rows)) ?_)) fun _ => eb_test (EvD.to (ev_neI (i := 0) (j := 0) (ev_ixT (ds := [.int 0, .str sD, eEnt e0]) (ev_ixT (ds := rows.map eRow) (by trivial) ev_int ?_) ev_int rfl) ev_int) rfl)) rfl) rfl ?_
  · refine (ev_lcZ eRow eRow (fun _ => true) (fun _ => yes) (bs := rows) (cs := rows.tail) (ea_cons (by trivial) (ea_cons ((ev_slT (ds := rows.map eRow) (by trivial) (eo_some ev_int) eo_none).to ?_) ea_nil)) hz fun p hp => ⟨_, egs_cons (eg_name (by simp)) (egs_cons (eg_name (by simp)) egs_nil), eb_yes, fun _ => (ev_lt (i := p.1.1) (j := p.2.1) (by trivial) (by trivial)).to ?_⟩).to ?_
    · rw [cutD_tail, List.map_tail]
    · rw [decide_eq_true (pairwise_zip W.inc p hp)]; rfl
    · rw [List.map_map]; rfl
  · rw [all_true fun _ _ => rfl]
  · show PyData.bool (rows.map eRow).isEmpty = _
    rw [show rows = (0, sD, e0) :: rest from ht]; rfl
  · rw [show rows = (0, sD, e0) :: rest from ht]; exact atI_zero _ _
  refine run_let (x := eKD (heldK rows)) (ev_holders W (by trivial)) rfl ?_
  obtain ⟨pre, last, hp⟩ : ∃ pre last, rows = pre ++ [last] := ⟨rows.dropLast, rows.getLast (by rw [show rows = _ from ht]; simp), (List.dropLast_concat_getLast _).symm⟩
  refine run_skip (b := false) (EvB.to (b := (!decide ((rows.length : Int) = rows.length) || decide (made ≤ last.1))) (eb_or (eb_test (ev_neI (i := rows.length) (j := rows.length) (EvD.to (ev_lenD (kds := heldK rows) (by trivial)) ?_) (EvD.to (ev_lenT (ds := rows.map eRow) (by trivial)) ?_))) fun _ => eb_test (ev_ge (i := last.1) (j := made) (ev_ixT (ds := [.int last.1, .str last.2.1, eEnt last.2.2]) (ev_ixT (ds := rows.map eRow) (by trivial) (ev_neg ev_int) ?_) ev_int rfl) (by trivial))) ?_) rfl ?_
  · unfold heldK; rw [List.length_map]
  · rw [List.length_map]
  · rw [hp, List.map_append]; exact atI_last _ _
  · have := W.made last (by rw [show rows = _ from hp]; simp)
    simp at this
    simp
    omega
  refine run_retT (ev_all (bs := (rows.filter fun _ => true).map fun _ => true) ?_) ?_
  · refine (ev_lcT eRow (fun _ => true) (fun _ => yes) (bs := rows) (by trivial) hz fun r hr => ⟨_, eg_name (by simp), eb_yes, fun _ => ev_is_held (r := r) (t := (rows, made)) W hr (by trivial)⟩).to ?_
    rw [List.map_map]; rfl
  · rw [all_true fun _ _ => rfl]; rfl
theorem up_zero (t : Tree) (k : Nat) : up t k 0 = [] := by cases k <;> simp [up]
theorem up_succ {k : Nat} {n p : Int} {ps : List Int} (h0 : n ≠ 0) (h : hold t.1 n = p :: ps) : up t (k + 1) n = p :: up t k p := by
  simp only [up, if_neg h0, h]
theorem run_above (ds : List PyData) (d : PyData) (h : P_above ds d) : RunD K (t_above K) (ds.map (fun d => some (.d d)) ++ List.replicate (N_above.length - ds.length) none) (.rt d) := by
  obtain ⟨t, n, W, rfl, hn, hk, rfl⟩ := h
  obtain ⟨rk, hrk, hup⟩ := W.rank
  have hu : ∀ {p m : Int}, p ∈ hold t.1 m → rk p < rk m := fun h => by
    obtain ⟨r, hr, rfl, e, he, rfl⟩ := mem_hold.mp h
    exact hup r hr e he
  refine run_skip (b := false) (eb_test (EvD.to (ev_eqS (i := kindOf t n) (j := "sheet") (ev_kind_of (by trivial) W hn) ev_str) ?_)) rfl ?_
  · rw [hk]; rfl
  refine run_seq (run_par (d := eKD (heldK t.1)) (e := eInts []) (ea_cons (ev_holders W (by trivial)) (by trivial))) ?_
  refine run_let (x := .int n) (by trivial) rfl ?_
  refine run_whileI (fun m δa => ∃ (found : List Int) (h : Int), δa = [some (.d (eTree t)), some (.d (.int n)), some (.d (eKD (heldK t.1))), some (.d (eInts found)), some (.d (.int h))] ∧ In t h ∧ m = rk h ∧ found.length + rk h ≤ 50 ∧ up t fuel n = found ++ up t (fuel - found.length) h) ⟨rk n, _, by repeat constructor, [], n, rfl, hn, rfl, by simpa using hrk n, rfl⟩ ?_
  rintro m δa ⟨found, h, rfl, hh, rfl, hl, he⟩
  refine ⟨_, eb_test (ev_neI (i := h) (j := 0) (by trivial) ev_int), fun q => ?_, fun q => ?_⟩
  · have h0 : h ≠ 0 := by simpa using q
    obtain ⟨p, ps, hp⟩ : ∃ p ps, hold t.1 h = p :: ps := List.exists_cons_of_ne_nil (W.holdNe hh h0)
    have hpm : p ∈ hold t.1 h := by rw [hp]; simp
    refine .inl ⟨_, [some (.d (eTree t)), some (.d (.int n)), some (.d (eKD (heldK t.1))), some (.d (eInts (found ++ [p]))), some (.d (.int p))], rk p, run_let (x := .int p) (ev_ixL (ds := (hold t.1 h).map .int) (ev_held (ev_var rfl) (ev_var rfl) hh) ev_int (by rw [hp]; exact atI_zero _ _)) rfl (run_asg (EvD.to (ev_catT (ds := found.map .int) (es := [.int p]) (by trivial) (by trivial) (by simp; omega)) (e := eInts (found ++ [p])) (by unfold eInts; rw [List.map_append]; rfl))), by repeat constructor, hu hpm, found ++ [p], p, rfl, WF.holdIn hpm, rfl, ?_, ?_⟩
    · have := hu hpm
      simp; omega
    · have hf : fuel - found.length = (fuel - (found ++ [p]).length) + 1 := by
        unfold fuel; simp; omega
      rw [he, hf, up_succ h0 hp]; simp
  · have h0 : h = 0 := by simpa using q
    subst h0
    refine run_retT (by trivial) ?_
    rw [he, up_zero, List.append_nil]
end
end Dw
set_option Elab.async false
set_option linter.all false
set_option maxRecDepth 100000
set_option maxHeartbeats 1000000
/-! Promises of deeds. -/
namespace Dw
open PySem PySem.Spec PyProof.Rows L2
structure NormR (rows : List Row) : Prop where
  inc : rows.Pairwise fun a b => a.1 < b.1
  rise : ∀ r ∈ rows, Rise r.2.2
  few : rows.length ≤ 60
  fewE : ∀ r ∈ rows, r.2.2.length ≤ 60
def P_laid (ds : List PyData) (d : PyData) : Prop := ∃ (t : Tree) (cs : List Chg) (rs : List Row) (mo : Option Int), NormR (t.1 ++ rs) ∧ ds = [eTree t, .list (cs.map eChg), eRows rs, eIntO mo] ∧ (∀ c ∈ cs, ∃ r ∈ t.1 ++ rs, r.1 = c.1) ∧ cs.length ≤ 10 ∧ d = eTree (laidP (t.1 ++ rs) cs (mo.getD t.2))
def WayOk (w : List Str) : Prop := w ≠ [] ∧ w.length ≤ 100
def P_drawer_of (ds : List PyData) (d : PyData) : Prop := ∃ t w, WF t ∧ ds = [eTree t, eWay w] ∧ WayOk w ∧ d = .tuple [.int (drawerOf t w).1, eMissO (drawerOf t w).2]
def P_entry (ds : List PyData) (d : PyData) : Prop := ∃ t n w, WF t ∧ ds = [eTree t, .int n, eWay w] ∧ In t n ∧ kindOf t n ≠ sS ∧ WayOk w ∧ d = eIntO (entryOf t n w)
def P_is_full (ds : List PyData) (d : PyData) : Prop := ∃ t n, WF t ∧ ds = [eTree t, .int n] ∧ In t n ∧ d = .bool (isFull t n)
def P_is_inside (ds : List PyData) (d : PyData) : Prop := ∃ t n m, WF t ∧ ds = [eTree t, .int n, .int m] ∧ In t m ∧ kindOf t m = sD ∧ d = .bool (isInside t n m)
def P_do_look (ds : List PyData) (d : PyData) : Prop := ∃ t w, WF t ∧ ds = [eTree t, eWay w] ∧ w.length ≤ 100 ∧ d = eDone (doLook t w)
def P_do_list (ds : List PyData) (d : PyData) : Prop := ∃ t w, WF t ∧ ds = [eTree t, eWay w] ∧ w.length ≤ 100 ∧ d = eDone (doList t w)
def P_do_make (ds : List PyData) (d : PyData) : Prop := ∃ t w k, WF t ∧ ds = [eTree t, eWay w, .str k] ∧ WayOk w ∧ d = eDone (doMake t w k)
def P_do_drop (ds : List PyData) (d : PyData) : Prop := ∃ t w, WF t ∧ ds = [eTree t, eWay w] ∧ WayOk w ∧ d = eDone (doDrop t w)
def P_both_of (ds : List PyData) (d : PyData) : Prop := ∃ t a b, WF t ∧ ds = [eTree t, eWay a, eWay b] ∧ WayOk a ∧ WayOk b ∧ d = eBoth a (bothOf t a b)
def P_do_link (ds : List PyData) (d : PyData) : Prop := ∃ t a b, WF t ∧ ds = [eTree t, eWay a, eWay b] ∧ WayOk a ∧ WayOk b ∧ d = eDone (doLink t a b)
def eBarred : Option Str → PyData
  | none => .none
  | some x => .tuple [.str x]
def P_barred (ds : List PyData) (d : PyData) : Prop := ∃ t goal n o, WF t ∧ ds = [eTree t, .int goal, .int n, eIntO o] ∧ In t goal ∧ kindOf t goal = sD ∧ In t n ∧ (∀ m, o = some m → In t m) ∧ d = eBarred (barredW t goal n o)
def P_do_move (ds : List PyData) (d : PyData) : Prop := ∃ t a b, WF t ∧ ds = [eTree t, eWay a, eWay b] ∧ WayOk a ∧ WayOk b ∧ d = eDone (doMove t a b)
def P_do_swap (ds : List PyData) (d : PyData) : Prop := ∃ t a b, WF t ∧ ds = [eTree t, eWay a, eWay b] ∧ WayOk a ∧ WayOk b ∧ d = eDone (doSwap t a b)
def DeedOk : Deed → Prop
  | .look w => w.length ≤ 100
  | .list w => w.length ≤ 100
  | .make w _ => WayOk w
  | .drop w => WayOk w
  | .link a b => WayOk a ∧ WayOk b
  | .move a b => WayOk a ∧ WayOk b
  | .swap a b => WayOk a ∧ WayOk b
def P_done (ds : List PyData) (d : PyData) : Prop := ∃ t dd, WF t ∧ ds = [eTree t, eDeed dd] ∧ DeedOk dd ∧ d = eDone (doneP t dd)
/-! locks, as many as are wanted -/
def lockN : Nat → TS → TS
  | 0, t => t
  | n + 1, t => tLock (lockN n t)
def tLocks (t : TS) : TS := fun D σ H => ∃ n, lockN n t D σ H
theorem ps_lockN {X : Cx} {st : Stmt} {t : TS} (h : PS X st t) : ∀ n, PS X st (lockN n t)
  | 0 => h
  | n + 1 => ps_lock (ps_lockN h n)
theorem ps_locks {X : Cx} {st : Stmt} {t : TS} (h : PS X st t) : PS X st (tLocks t) := ⟨fun pins s σ H D I ⟨n, q⟩ => (ps_lockN h n).run pins s σ H D I q⟩
end Dw
set_option Elab.async false
set_option linter.all false
set_option maxRecDepth 100000
set_option maxHeartbeats 1000000
/-! Dicts of one's own walked: locked meanwhile. -/
namespace Dw
open PySem PySem.Spec PyProof.Rows L2
def unl (L : List (Addr × HO)) (H : Hp) : Hp := fun a => match L.find? fun p => decide (p.1 = a) with
  | some p => some p.2
  | none => H a
def Frz (L : List (Addr × HO)) (H H' : Hp) : Prop := (∀ a, a ∉ L.map (·.1) → H' a = H a) ∧ ∀ p ∈ L, ∃ od, H' p.1 = some (.frz od p.2)
theorem unl_not {L : List (Addr × HO)} {H : Hp} {a : Addr} (h : a ∉ L.map (·.1)) : unl L H a = H a := by
  unfold unl
  have : (L.find? fun p => decide (p.1 = a)) = none := List.find?_eq_none.mpr fun p hp e => h (List.mem_map.mpr ⟨p, hp, by simpa using e⟩)
  rw [this]
theorem unl_mem {L : List (Addr × HO)} {H : Hp} {p : Addr × HO} (nd : (L.map (·.1)).Nodup) (h : p ∈ L) : unl L H p.1 = some p.2 := by
  unfold unl
  cases q : L.find? fun r => decide (r.1 = p.1) with
  | none =>
    have := List.find?_eq_none.mp q p h
    simp at this
  | some r =>
    have h1 := List.mem_of_find?_eq_some q
    have h2 : r.1 = p.1 := by simpa using List.find?_some q
    have : r = p := by
      obtain ⟨i, hi, e1⟩ := List.mem_iff_getElem.mp h1
      obtain ⟨j, hj, e2⟩ := List.mem_iff_getElem.mp h
      have : i = j := (List.getElem_inj nd (h₀ := by simpa using hi) (h₁ := by simpa using hj)).mp (by simp [e1, e2, h2])
      subst this
      rw [← e1, ← e2]
    rw [this]
theorem lockL {t : TS} {σ : St} : ∀ (L : List (Addr × HO)) (H : Hp) (D : Ends), (L.map (·.1)).Nodup → (∀ p ∈ L, H p.1 = some p.2 ∧ Mut (some p.2)) →
    (∀ H', Frz L H H' → ∀ D' : Ends, (∀ σ' H2, (∀ p ∈ L, H2 p.1 = H' p.1) → D.nx σ' (unl L H2) → D'.nx σ' H2) → t D' σ H') → lockN L.length t D σ H
  | [], H, D, _, _, h => by
    refine h H ⟨fun a _ => rfl, fun p hp => by cases hp⟩ D fun σ' H2 _ q => ?_
    have e : unl [] H2 = H2 := by funext a; exact unl_not (by simp)
    rwa [e] at q
  | (d, u) :: L, H, D, nd, hL, h => by
    have hd := hL (d, u) List.mem_cons_self
    have nd' := List.nodup_cons.mp nd
    refine ⟨d, u, hd.1, hd.2, fun od => ?_⟩
    refine lockL L _ _ nd'.2 (fun p hp => ⟨?_, (hL p (List.mem_cons_of_mem _ hp)).2⟩) fun H' fz D' hD' => ?_
    · rw [upd_ne (by intro z; exact nd'.1 (by show d ∈ _; rw [← z]; exact List.mem_map_of_mem (f := (·.1)) hp))]
      exact (hL p (List.mem_cons_of_mem _ hp)).1
    · have hdH : H' d = some (.frz od u) := by rw [fz.1 d nd'.1, upd_same]
      refine h H' ⟨fun a ha => ?_, fun p hp => ?_⟩ D' fun σ' H2 hz q => hD' σ' H2 (fun p hp => hz p (List.mem_cons_of_mem _ hp)) ⟨?_, ?_⟩
      · have ha' : a ∉ (d :: L.map (·.1)) := ha
        rw [fz.1 a fun z => ha' (List.mem_cons_of_mem _ z), upd_ne (by intro z; exact ha' (by rw [z]; exact List.mem_cons_self))]
      · rcases List.mem_cons.mp hp with e | hp
        · rw [e]; exact ⟨od, hdH⟩
        · exact fz.2 p hp
      · rw [unl_not nd'.1, hz (d, u) List.mem_cons_self]; exact hdH
      · have e : L2.upd (unl L H2) d u = unl ((d, u) :: L) H2 := by
          funext a
          by_cases z : a = d
          · subst z
            rw [upd_same]
            exact (unl_mem nd (p := (a, u)) List.mem_cons_self).symm
          · rw [upd_ne z]
            unfold unl
            rw [List.find?_cons_of_neg (by simpa using fun y => z y.symm)]
        rw [e]; exact q
section
variable {K : PySem.W.Frag} {δ δ1 δ2 : Dl} {own own' : Own} {ts us : TS} {O : OutO} {te ta tb tk tv : TE} {tt : TT} {d x y z : PyData} {P : PyData → Prop} {hs : List Addr} {σ : St} {H H' H2 H0 : Hp} {Z : Addr → Prop} {vs : List Nat} {wi : TI} {g : TG} {fz : Fz}
/-- the same over any heap -/
def Rig : SD → Prop
  | .d x => flatD x = true
  | .v _ => True
theorem SlOk.rig {G G' : Hp} {s : SD} {v : V} (h : SlOk K G s v) (r : Rig s) : SlOk K G' s v := by
  cases s with
  | d x => exact R.flat h r
  | v x => exact h
theorem SlK.rig {G G' : Hp} : ∀ {kvs : List (Key × SD)} {ws : List (Key × V)}, SlK K G kvs ws → (∀ p ∈ kvs, Rig p.2) → SlK K G' kvs ws
  | _, _, .nil, _ => .nil
  | _, _, .cons h t, r => .cons (h.rig (r _ List.mem_cons_self)) (t.rig fun p hp => r p (List.mem_cons_of_mem _ hp))
theorem SlK.at_ {G : Hp} : ∀ {kvs : List (Key × SD)} {ws : List (Key × V)} {i : Nat} {k : Key} {v : V}, SlK K G kvs ws → ws[i]? = some (k, v) → ∃ s, kvs[i]? = some (k, s) ∧ SlOk K G s v
  | _, _, _, _, _, .nil, e => by simp at e
  | _, _, 0, _, _, .cons h _, e => by simp at e; obtain ⟨rfl, rfl⟩ := e; exact ⟨_, rfl, h⟩
  | _, _, i + 1, k, v, .cons _ t, e => by
    obtain ⟨s, h1, h2⟩ := SlK.at_ (i := i) (k := k) (v := v) t (by simpa using e)
    exact ⟨s, by simpa using h1, h2⟩
/-- d.items() of a locked dict -/
theorem wlk_itemsF {i a b : Nat} {E : Addr} {od : Obj} {ws : List (Key × V)} {kvs : List (Key × SD)} (hi : δ[i]? = some (some (.v (.ref E)))) (hm : (E, .frz od (.dK ws)) ∈ fz) (hk : ∀ G, SlK K G kvs ws) :
    WlkF K fz [a, b] (iItems (tVar i)) (gTup K 2 (gCons (gName a) (gCons (gName b) gNil))) δ kvs.length (fun j δa δb => ∀ k s, kvs[j]? = some (k, s) → δb = (δa.set a (some (.d (kD k)))).set b (some s)) := fun hs σ H hh hz S RR q => by
  have hl := (hk H).length
  obtain ⟨u, hu, e⟩ := S.at_ i _ hi
  have e' : u = .ref E := e
  subst e'
  refine ⟨_, hu, E, od, ws, rfl, (hz _ hm).2, q _ H Ex.rfl fun j hs2 H' hh2 hz2 ec => ⟨fun hj => ⟨⟨(hz2 _ hm).2, by omega⟩, fun x H'' y => ?_⟩, fun hj => ⟨(hz2 _ hm).2, by omega⟩⟩⟩
  obtain ⟨T, k, v, h1, rfl, hT, rfl⟩ := y
  obtain ⟨s, h3, h4⟩ := (hk (cut hs2 H')).at_ h1
  refine ⟨Evl.Ex.new hT, fun δa δb ok σ' S' Q q' => ?_⟩
  have eb := ok k s h3
  subst eb
  have ex : Ex (cut hs2 H') (cut hs2 (upd H' T (.tup [kV k, v]))) := (Evl.Ex.new hT).cut
  refine ⟨T, [kV k, v], rfl, .inl (.inl upd_same), rfl, _, _, rfl, _, _, rfl, rfl, q' _ (((S'.mono ex).set a (d := .d (kD k)) (R.of_key k)).set b (h4.mono ex)) ?_⟩
  rw [wipe_set, if_pos (by simp), wipe_set, if_pos (by simp)]
/-- d.values() of a locked dict -/
theorem wlk_valsF {i b : Nat} (mb : b ∈ vs) {E : Addr} {od : Obj} {ws : List (Key × V)} {kvs : List (Key × SD)} (hi : δ[i]? = some (some (.v (.ref E)))) (hm : (E, .frz od (.dK ws)) ∈ fz) (hk : ∀ G, SlK K G kvs ws) :
    WlkF K fz vs (iVals (tVar i)) (gName b) δ kvs.length (fun j δa δb => ∀ k s, kvs[j]? = some (k, s) → δb = δa.set b (some s)) := fun hs σ H hh hz S RR q => by
  have hl := (hk H).length
  obtain ⟨u, hu, e⟩ := S.at_ i _ hi
  have e' : u = .ref E := e
  subst e'
  refine ⟨_, hu, E, od, ws, rfl, (hz _ hm).2, q _ H Ex.rfl fun j hs2 H' hh2 hz2 ec => ⟨fun hj => ⟨⟨(hz2 _ hm).2, by omega⟩, fun x H'' y => ?_⟩, fun hj => ⟨(hz2 _ hm).2, by omega⟩⟩⟩
  obtain ⟨rfl, k, h1⟩ := y
  obtain ⟨s, h3, h4⟩ := (hk (cut hs2 H'')).at_ h1
  refine ⟨Ex.rfl, fun δa δb ok σ' S' Q q' => ?_⟩
  have eb := ok k s h3
  subst eb
  exact q' _ (S'.set b h4) (by rw [wipe_set, if_pos mb])
def foldKD (kf : Nat → Key) (pf : Nat → Bool) (df : Nat → PyData) (i : Nat) : KDs := ((List.range i).filter pf).map fun j => (kf j, df j)
theorem foldKD_succ {kf : Nat → Key} {pf : Nat → Bool} {df : Nat → PyData} {i : Nat} : foldKD kf pf df (i + 1) = foldKD kf pf df i ++ if pf i = true then [(kf i, df i)] else [] := by
  unfold foldKD
  rw [List.range_succ, List.filter_append, List.map_append]
  congr 1
  by_cases h : pf i = true
  · rw [List.filter_cons_of_pos h, if_pos h]; rfl
  · rw [List.filter_cons_of_neg h, if_neg h]; rfl
theorem RK.snoc {G : Hp} : ∀ {kvs : List (Key × V)} {ps : List (PyData × PyData)} {k : Key} {v : V} {d : PyData}, RK K G kvs ps → R K G v d → RK K G (kvs ++ [(k, v)]) (ps ++ [(kD k, d)])
  | _, _, _, _, _, .nil, h => .cons h .nil
  | _, _, _, _, _, .cons h t, h2 => .cons h (t.snoc h2)
/-- a dict of data made by a comprehension -/
theorem en_dcF {n : Nat} {ok : Nat → Dl → Dl → Prop} (w : WlkF K fz vs wi g δ n ok) (kf : Nat → Key) (pf : Nat → Bool) (df : Nat → PyData) (hn : n ≤ 10000) (hk : ∀ i j, j < i → i < n → kf j ≠ kf i)
    (step : ∀ i < n, ∃ δ1, ok i (wipeD δ vs) δ1 ∧ EvB K tt δ1 (pf i) ∧ (pf i = true → EvD K tk δ1 (kD (kf i)) ∧ EvD K tv δ1 (df i))) :
    EvNewF K fz (tDc wi g tt tk tv vs) δ (.d ((foldKD kf pf df n).map fun p => (p.1, .d p.2))) := fun hs σ H hh hz S Q q =>
  w hs σ H hh hz S _ fun J H1 e1 st => fun D hD => by
    have S1 := S.mono e1.cut
    have hDh : D ∉ hs := fun m => (hh.mono e1) D m hD
    refine ⟨fun i m H' => m = n - i ∧ i ≤ n ∧ Ex H1 H' ∧ ∃ acc, H' D = some (.dK acc) ∧ RK K (cut (D :: hs) H') acc ((foldKD kf pf df i).map fun p => (kD p.1, p.2)), ⟨n, by simp, Nat.zero_le _, Evl.Ex.new hD, [], upd_same, .nil⟩, ?_⟩
    rintro i m H' ⟨rfl, hi, e2, acc, ha, hr⟩
    have hh2 : Hid (D :: hs) H' := ((hh.mono e1).mono e2).cons (by rw [ha]; exact fun z => nomatch z)
    have ew : Ex (cut hs H1) (cut (D :: hs) H') := fun a o h => by
      obtain ⟨m, h⟩ := cut_some h
      exact cut_of (fun z => by
        rcases List.mem_cons.mp z with z | z
        · rw [z, hD] at h; cases h
        · exact m z) (e2 a o h)
    have hz2 : FzOk fz (D :: hs) H' := fun p hp => ⟨List.mem_cons_of_mem _ (hz p hp).1, e2 _ _ (e1 _ _ (hz p hp).2)⟩
    have s2 := st i _ H' hh2 hz2 ew
    by_cases hlt : i < n
    · obtain ⟨go, y⟩ := s2.1 hlt
      obtain ⟨δ1, hok, hb, hv⟩ := step i hlt
      refine .inr ⟨go, fun H3 => i + 1 ≤ n ∧ Ex H1 H3 ∧ ∃ acc, H3 D = some (.dK acc) ∧ RK K (cut (D :: hs) H3) acc ((foldKD kf pf df (i + 1)).map fun p => (kD p.1, p.2)), fun H3 p => ⟨n - (i + 1), by omega, rfl, p⟩, fun x H'' yy => ?_⟩
      obtain ⟨e3, kk⟩ := y x H'' yy
      refine kk _ _ hok _ (((S1.mono ew)).wipe vs) _ fun σ2 Sl2 w2 => ⟨by rw [w2]; exact wipe_wipe vs σ, ?_⟩
      refine hb _ σ2 H'' (hh2.mono e3) Sl2 _ fun H3 e4 => ?_
      have ex3 := e3.trans e4
      cases hp : pf i with
      | false =>
        rw [if_neg (by decide)]
        refine ⟨hlt, e2.trans ex3, acc, ex3 _ _ ha, ?_⟩
        rw [foldKD_succ, hp]
        simpa using hr.mono ex3.cut
      | true =>
        rw [if_pos rfl]
        obtain ⟨hk1, hv1⟩ := hv hp
        refine hk1 _ σ2 H3 (hh2.mono ex3) (Sl2.mono e4.cut) _ fun kv H4 e5 rk => ?_
        refine hv1 _ σ2 H4 ((hh2.mono ex3).mono e5) ((Sl2.mono e4.cut).mono e5.cut) _ fun v H5 e6 rv => ?_
        have ex5 := (ex3.trans e5).trans e6
        have hl : acc.length ≤ n := by
          have h1 : acc.map (·.1) = (foldKD kf pf df i).map (·.1) := RK.keys hr
          have h2 := congrArg List.length h1
          rw [List.length_map, List.length_map] at h2
          rw [h2]
          unfold foldKD
          rw [List.length_map]
          exact Nat.le_trans (List.length_filter_le _ _) (by rw [List.length_range]; omega)
        have hnk : kf i ∉ acc.map (·.1) := by
          rw [RK.keys hr]
          intro mm
          obtain ⟨p, hp1, hp2⟩ := List.mem_map.mp mm
          obtain ⟨j, hj, rfl⟩ := List.mem_map.mp hp1
          have hj' := List.mem_range.mp (List.mem_filter.mp hj).1
          exact hk i j hj' hlt hp2
        refine ⟨acc, kf i, R.key rk, ex5 _ _ ha, Nat.lt_of_le_of_lt (Nat.le_trans hl hn) (by decide), hlt, ?_, acc ++ [(kf i, v)], by rw [upd_same, putK_new hnk], ?_⟩
        · intro a o h
          by_cases z : a = D
          · rw [z, hD] at h; cases h
          · rw [upd_ne z]; exact (e2.trans ex5) a o h
        · rw [foldKD_succ, hp, if_pos rfl, List.map_append, cut_upd List.mem_cons_self]
          exact (hr.mono ex5.cut).snoc rv
    · have e : i = n := by omega
      subst e
      refine .inl ⟨s2.2 rfl, ?_⟩
      have eq : H' = L2.upd (fun a => if a = D then none else H' a) D (.dK acc) := by
        funext a
        by_cases z : a = D
        · rw [z, upd_same]; exact ha
        · rw [upd_ne z, if_neg z]
      rw [eq]
      refine q D _ _ (fun a o h => ?_) (if_pos rfl) (okd upd_same (slk_of_rk (hr.mono fun a o h => ?_)))
      · have h1 := e1 a o h
        by_cases z : a = D
        · rw [z, hD] at h1; cases h1
        · rw [if_neg z]; exact e2 a o h1
      · obtain ⟨m, h⟩ := cut_some h
        refine cut_of (fun z => m (List.mem_cons_of_mem _ z)) ?_
        rw [if_neg (by intro z; exact m (by rw [z]; exact List.mem_cons_self))]
        exact h
/-! ### locking one's own -/
theorem unl_ne {L : List (Addr × HO)} {a : Addr} (h : H a ≠ none) : unl L H a ≠ none := by
  unfold unl
  split
  · exact fun z => nomatch z
  · exact h
theorem ads_app {o1 o2 : Own} : ads (o1 ++ o2) = ads o1 ++ ads o2 := by unfold ads; rw [List.map_append]
theorem runO_locks {dk : Own} (hd : ∀ p ∈ dk, ∃ kvs, p.2 = .d kvs ∧ ∀ q ∈ kvs, Rig q.2)
    (r : ∀ fz : Fz, (∀ p ∈ dk, ∀ kvs, p.2 = .d kvs → ∃ od ws, (p.1, HO.frz od (.dK ws)) ∈ fz ∧ ∀ G, SlK K G kvs ws) → RunF K fz ts δ own ⟨fun δ' own' => O.nx δ' (own' ++ dk), fun _ _ => False, fun _ _ => False⟩) : RunO K (tLocks ts) δ (own ++ dk) O := fun hs Z H0 D σ H b S f => by
  let L : List (Addr × HO) := dk.map fun p => (p.1, (H p.1).getD (.lst []))
  have eL : L.map (·.1) = ads dk := by show (dk.map _).map _ = dk.map _; rw [List.map_map]; rfl
  have nd2 := S.nd
  rw [ads_app] at nd2
  obtain ⟨ndo, ndd, ndx⟩ := List.nodup_append.mp nd2
  have atD : ∀ p ∈ dk, ∃ kvs ws, p.2 = .d kvs ∧ H p.1 = some (.dK ws) ∧ ∀ G, SlK K G kvs ws := fun p hp => by
    obtain ⟨kvs, e, hr⟩ := hd p hp
    obtain ⟨a, c⟩ := p
    have e' : c = .d kvs := e
    subst e'
    obtain ⟨ws, h1, h2⟩ := S.atD (List.mem_append_right own hp)
    exact ⟨kvs, ws, rfl, h1, fun G => h2.rig hr⟩
  refine ⟨L.length, lockL L H D (by rw [eL]; exact ndd) (fun p hp => ?_) fun H' fzr D' hD' => ?_⟩
  · obtain ⟨q, hq, rfl⟩ := List.mem_map.mp hp
    obtain ⟨kvs, ws, _, h1, _⟩ := atD q hq
    show H q.1 = some ((H q.1).getD (.lst [])) ∧ Mut (some ((H q.1).getD (.lst [])))
    rw [h1]
    exact ⟨rfl, trivial⟩
  have frz : ∀ p ∈ dk, ∃ kvs ws od, p.2 = .d kvs ∧ H' p.1 = some (.frz od (.dK ws)) ∧ H p.1 = some (.dK ws) ∧ ∀ G, SlK K G kvs ws := fun p hp => by
    obtain ⟨kvs, ws, e, h1, h2⟩ := atD p hp
    obtain ⟨od, h3⟩ := fzr.2 (p.1, (H p.1).getD (.lst [])) (List.mem_map.mpr ⟨p, hp, rfl⟩)
    refine ⟨kvs, ws, od, e, ?_, h1, h2⟩
    have h3' : H' p.1 = some (.frz od ((H p.1).getD (.lst []))) := h3
    rw [h1] at h3'
    exact h3'
  have out : ∀ a, a ∉ ads dk → H' a = H a := fun a ha => fzr.1 a (by rw [eL]; exact ha)
  let fz : Fz := dk.map fun p => (p.1, (H' p.1).getD (.lst []))
  have same : ∀ (o1 : Own) (a : Addr), a ∈ ads (o1 ++ dk) ++ hs ↔ a ∈ ads o1 ++ (ads dk ++ hs) := fun o1 a => by rw [ads_app, List.append_assoc]
  have cutE : ∀ (o1 : Own) (H1 H2 : Hp), (∀ a, a ∉ ads dk → H1 a = H2 a) → cut (ads (o1 ++ dk) ++ hs) H1 = cut (ads o1 ++ (ads dk ++ hs)) H2 := fun o1 H1 H2 h => by
    rw [cut_same (same o1)]
    funext a
    unfold cut
    split
    · rfl
    · next m => exact h a fun z => m (List.mem_append_right _ (List.mem_append_left _ z))
  refine r fz (fun p hp kvs e => ?_) (ads dk ++ hs) (· ∈ ads own) H' D' σ H' (fun p hp => ?_) base_self ⟨fun a m => ?_, ndo, fun a m z => ?_, ?_, fun p hp => ?_⟩ ⟨fun δ' own' σ' H2 hO b2 S2 => ?_, fun _ _ _ _ h => h.elim, fun _ _ _ _ h => h.elim⟩
  · obtain ⟨kvs', ws, od, e1, h1, _, h2⟩ := frz p hp
    rw [e1] at e
    cases e
    exact ⟨od, ws, List.mem_map.mpr ⟨p, hp, by rw [h1]; rfl⟩, h2⟩
  · obtain ⟨q, hq, rfl⟩ := List.mem_map.mp hp
    obtain ⟨kvs, ws, od, _, h1, _, _⟩ := frz q hq
    refine ⟨List.mem_append_left _ (List.mem_map_of_mem (f := (·.1)) hq), ?_⟩
    show H' q.1 = some ((H' q.1).getD (.lst []))
    rw [h1]; rfl
  · have hm := S.hid a ((same own a).mpr m)
    by_cases q : a ∈ ads dk
    · obtain ⟨p, hp, rfl⟩ := List.mem_map.mp q
      obtain ⟨kvs, ws, od, _, h1, _, _⟩ := frz p hp
      rw [h1]; exact fun z => nomatch z
    · rw [out a q]; exact hm
  · rcases List.mem_append.mp z with z | z
    · exact ndx a m a z rfl
    · exact S.dj a (by rw [ads_app]; exact List.mem_append_left _ m) z
  · rw [← cutE own H H' fun a ha => (out a ha).symm]; exact S.sl
  · rw [← cutE own H H' fun a ha => (out a ha).symm]
    refine (S.ok p (List.mem_append_left _ hp)).mono Ex.rfl (out p.1 fun z => ?_)
    exact ndx p.1 (List.mem_map_of_mem (f := (·.1)) hp) p.1 z rfl
  · have kept : ∀ p ∈ dk, H2 p.1 = H' p.1 := fun p hp => by
      obtain ⟨kvs, ws, od, _, h1, _, _⟩ := frz p hp
      rw [h1]
      exact b2.1 _ _ (fun z => ndx p.1 z p.1 (List.mem_map_of_mem (f := (·.1)) hp) rfl) h1
    refine hD' σ' H2 (fun p hp => ?_) (f.1 δ' (own' ++ dk) σ' (unl L H2) hO ⟨fun a o z h => ?_, fun a m => ?_⟩ ?_)
    · obtain ⟨q, hq, rfl⟩ := List.mem_map.mp hp
      exact kept q hq
    · have h1 := b.1 a o z h
      have na : a ∉ ads (own ++ dk) := fun m => by
        rcases b.2 a m with q | q
        · exact z q
        · rw [q] at h; cases h
      rw [ads_app] at na
      rw [unl_not (by rw [eL]; exact fun m => na (List.mem_append_right _ m))]
      refine b2.1 a o (fun m => na (List.mem_append_left _ m)) ?_
      rw [out a fun m => na (List.mem_append_right _ m)]; exact h1
    · rw [ads_app] at m
      rcases List.mem_append.mp m with m | m
      · rcases b2.2 a m with q | q
        · exact b.2 a (by rw [ads_app]; exact List.mem_append_left _ q)
        · by_cases z : Z a
          · exact .inl z
          · refine .inr ?_
            cases h : H0 a with
            | none => rfl
            | some o =>
              have h1 := b.1 a o z h
              by_cases w : a ∈ ads dk
              · rcases b.2 a (by rw [ads_app]; exact List.mem_append_right _ w) with y | y
                · exact absurd y z
                · rw [y] at h; cases h
              · rw [out a w, h1] at q; cases q
      · exact b.2 a (by rw [ads_app]; exact List.mem_append_right _ m)
    · have uo : ∀ a, a ∉ ads dk → unl L H2 a = H2 a := fun a ha => unl_not (by rw [eL]; exact ha)
      refine ⟨fun a m => ?_, ?_, fun a m => ?_, ?_, fun p hp => ?_⟩
      · exact unl_ne (S2.hid a ((same own' a).mp m))
      · rw [ads_app]
        refine List.nodup_append.mpr ⟨S2.nd, ndd, fun a ha c hc e => ?_⟩
        exact S2.dj a ha (List.mem_append_left _ (e ▸ hc))
      · rw [ads_app] at m
        rcases List.mem_append.mp m with m | m
        · exact fun z => S2.dj a m (List.mem_append_right _ z)
        · exact S.dj a (by rw [ads_app]; exact List.mem_append_right _ m)
      · rw [cutE own' (unl L H2) H2 uo]; exact S2.sl
      · rw [cutE own' (unl L H2) H2 uo]
        rcases List.mem_append.mp hp with hp | hp
        · refine (S2.ok p hp).mono Ex.rfl (uo p.1 fun z => ?_)
          exact S2.dj p.1 (List.mem_map_of_mem (f := (·.1)) hp) (List.mem_append_left _ z)
        · obtain ⟨kvs, ws, e, h1, h2⟩ := atD p hp
          rw [e]
          have h3 := unl_mem (H := H2) (by rw [eL]; exact ndd) (List.mem_map.mpr ⟨p, hp, rfl⟩ : (p.1, (H p.1).getD (.lst [])) ∈ L)
          have h3' : unl L H2 p.1 = some ((H p.1).getD (.lst [])) := h3
          rw [h1] at h3'
          exact okd h3' (h2 _)
/-! ### data over what is locked; two clauses -/
def EvDF (K : PySem.W.Frag) (fz : Fz) (te : TE) (δ : Dl) (d : PyData) : Prop := ∀ hs σ H, Hid hs H → FzOk fz hs H → Sl K (cut hs H) σ δ → ∀ Q : VK, (∀ v H2, Ex H H2 → R K (cut hs H2) v d → Q v H2) → te σ H Q
theorem runF_asg {i : Nat} (h : EvDF K fz te δ d) (k : O.nx (δ.set i (some (.d d))) own) : RunF K fz (tAsg te (gName i)) δ own O := fun hs Z H0 D σ H hz b S f =>
  h _ σ H S.hid (hz.sub fun a m => List.mem_append_right _ m) S.sl _ fun v H2 e r => f.1 _ own _ H2 k (b.ex e) ((S.mono e).set i (sd := .d d) r)
theorem ev_lc2F {n : Nat} {ok : Nat → Dl → Dl → Prop} {wi1 : TI} {g1 : TG} {vs1 : List Nat} (w : WlkF K fz vs wi g δ n ok) (n1 : Nat → Nat) (df : Nat → Nat → PyData) (hn : ∀ i ≤ n, ((List.range i).flatMap fun i => (List.range (n1 i)).map (df i)).length ≤ 10000)
    (step : ∀ i < n, ∃ δ1, ok i (wipeD δ vs) δ1 ∧ ∃ ok1, WlkF K fz vs1 wi1 g1 δ1 (n1 i) ok1 ∧ ∀ j < n1 i, ∃ δ2, ok1 j (wipeD δ1 vs1) δ2 ∧ EvD K te δ2 (df i j)) :
    EvDF K fz (tLc2 wi g tYes wi1 g1 tYes te vs vs1) δ (.list ((List.range n).flatMap fun i => (List.range (n1 i)).map (df i))) := fun hs σ H hh hz S Q q =>
  w hs σ H hh hz S _ fun J H1 e1 st => fun D hD => by
    let out : Nat → List PyData := fun i => (List.range i).flatMap fun i => (List.range (n1 i)).map (df i)
    have outS : ∀ i, out (i + 1) = out i ++ (List.range (n1 i)).map (df i) := fun i => by
      show (List.range (i + 1)).flatMap _ = _
      rw [List.range_succ, List.flatMap_append]
      simp [out]
    have S1 := S.mono e1.cut
    refine ⟨fun i m H' => m = n - i ∧ i ≤ n ∧ LcI K hs H1 D out i H', ⟨n, by simp, Nat.zero_le _, LcI.start hD rfl⟩, ?_⟩
    rintro i m H' ⟨rfl, hi, pp⟩
    have hhD := pp.hid (hh.mono e1)
    have ec : Ex (cut hs H1) (cut (D :: hs) H') := by have e := pp.1.cut (hs := D :: hs); rw [cut_cons hD] at e; exact e
    have hz2 : FzOk fz (D :: hs) H' := fun p hp => ⟨List.mem_cons_of_mem _ (hz p hp).1, pp.1 _ _ (e1 _ _ (hz p hp).2)⟩
    have s2 := st i _ H' hhD hz2 ec
    by_cases hlt : i < n
    · obtain ⟨go, y⟩ := s2.1 hlt
      obtain ⟨δ1, hok, ok1, w1, hst⟩ := step i hlt
      refine .inr ⟨go, fun H3 => i + 1 ≤ n ∧ LcI K hs H1 D out (i + 1) H3, fun H3 p => ⟨n - (i + 1), by omega, rfl, p⟩, fun x H'' yy => ?_⟩
      obtain ⟨e3, kk⟩ := y x H'' yy
      refine kk _ _ hok _ ((S1.mono ec).wipe vs) _ fun σ2 Sl2 w2 => ⟨by rw [w2]; exact wipe_wipe vs σ, ?_⟩
      refine eb_yes (K := K) (δ := δ1) _ σ2 H'' (hhD.mono e3) Sl2 _ fun H3 e4 => ?_
      rw [if_pos rfl]
      have ex3 := e3.trans e4
      have Sl3 := Sl2.mono e4.cut
      refine w1 _ σ2 H3 (hhD.mono ex3) (hz2.ex ex3) Sl3 _ fun J1 H4 e5 st1 => ?_
      have Sl4 := Sl3.mono e5.cut
      have ex4 := ex3.trans e5
      let out1 : Nat → List PyData := fun j => out i ++ (List.range j).map (df i)
      have pp4 : LcI K hs H1 D out1 0 H4 := by
        obtain ⟨q1, acc, q2, q3⟩ := pp
        exact ⟨q1.trans ex4, acc, ex4 _ _ q2, by show RA K _ acc (out i ++ _); simpa using q3.mono ex4.cut⟩
      refine ⟨fun j k H' => k = n1 i - j ∧ j ≤ n1 i ∧ LcI K hs H1 D out1 j H' ∧ Ex (cut (D :: hs) H4) (cut (D :: hs) H') ∧ FzOk fz (D :: hs) H', ⟨n1 i, by simp, Nat.zero_le _, pp4, Ex.rfl, (hz2.ex ex3).ex e5⟩, ?_⟩
      rintro j k H5 ⟨rfl, hj, pp5, e45, hz5⟩
      have hhD5 := pp5.hid (hh.mono e1)
      have s3 := st1 j _ H5 hhD5 hz5 e45
      by_cases hlt1 : j < n1 i
      · obtain ⟨go1, y1⟩ := s3.1 hlt1
        obtain ⟨δ2, hok2, hev⟩ := hst j hlt1
        refine .inr ⟨go1, fun H6 => j + 1 ≤ n1 i ∧ LcI K hs H1 D out1 (j + 1) H6 ∧ Ex (cut (D :: hs) H4) (cut (D :: hs) H6) ∧ FzOk fz (D :: hs) H6, fun H6 p => ⟨n1 i - (j + 1), by omega, rfl, p⟩, fun x H6 yy1 => ?_⟩
        obtain ⟨e6, kk1⟩ := y1 x H6 yy1
        refine kk1 _ _ hok2 _ ((Sl4.mono e45).wipe vs1) _ fun σ3 Sl5 w3 => ⟨by rw [w3]; exact wipe_wipe vs1 σ2, ?_⟩
        refine eb_yes (K := K) (δ := δ2) _ σ3 H6 (hhD5.mono e6) Sl5 _ fun H7 e7 => ?_
        rw [if_pos rfl]
        refine hev _ σ3 H7 ((hhD5.mono e6).mono e7) (Sl5.mono e7.cut) _ fun v H8 e8 r8 => ?_
        have ex8 := (e6.trans e7).trans e8
        obtain ⟨q1, acc, q2, q3⟩ := pp5
        have hDm : D ∈ D :: hs := List.mem_cons_self
        refine ⟨acc, ex8 _ _ q2, ?_, hlt1, ⟨?_, acc ++ [v], upd_same, ?_⟩, ?_, fun p hp => ?_⟩
        · have h1 := q3.length
          have h2 := hn (i + 1) hlt
          have h3 : (out (i + 1)).length ≤ 10000 := h2
          rw [outS, List.length_append, List.length_map, List.length_range] at h3
          have h4 : (out1 j).length = (out i).length + j := by show (out i ++ (List.range j).map (df i)).length = _; rw [List.length_append, List.length_map, List.length_range]
          have : acc.length < 10000 := by omega
          exact Nat.lt_of_lt_of_le this (by decide)
        · intro a o h
          by_cases z : a = D
          · rw [z, hD] at h; cases h
          · rw [upd_ne z]; exact (q1.trans ex8) a o h
        · have e9 : out1 (j + 1) = out1 j ++ [df i j] := by show out i ++ (List.range (j + 1)).map (df i) = (out i ++ (List.range j).map (df i)) ++ _; rw [List.range_succ, List.map_append, ← List.append_assoc]; rfl
          rw [e9, cut_upd hDm]
          exact (q3.mono ex8.cut).snoc r8
        · rw [cut_upd hDm]; exact e45.trans ex8.cut
        · have hpD : p.1 ≠ D := fun z => by
            have := (hz p hp).2
            rw [z] at this
            rw [e1 _ _ this] at hD; cases hD
          exact ⟨(hz5 p hp).1, by rw [upd_ne hpD]; exact ex8 _ _ (hz5 p hp).2⟩
      · have e : j = n1 i := by omega
        subst e
        refine .inl ⟨s3.2 rfl, hlt, pp5.1, ?_⟩
        obtain ⟨q1, acc, q2, q3⟩ := pp5
        exact ⟨acc, q2, by rw [outS]; exact q3⟩
    · have e : i = n := by omega
      subst e
      exact .inl ⟨s2.2 rfl, q _ H' (e1.trans pp.1) (LcI.done (hh.mono e1) hD pp)⟩
end
end Dw
set_option Elab.async false
set_option linter.all false
set_option maxRecDepth 100000
set_option maxHeartbeats 600000
namespace Dw
open PySem PySem.Spec PyProof.Rows L2
section
variable {P : Program} {w : World} {K : PySem.W.Frag} {mg : Str → Option Value} {base : Heap} {f : Addr} {cdv : Value} {A : Around} {outer : List Env} {s : Shared} {H : Hp} {E : XK}
abbrev N_laid : List Str := ["tree", "changes", "rows", "made", "entries", "node", "kind", "row", "drawer", "name", "kept", "to", "named", "some"]
theorem sc_laid : FnScope N_laid ["tree", "changes", "rows", "made"] (defScope s_laid) := ⟨rfl, rfl, rfl, by decide +kernel, rfl, by decide +kernel, by decide +kernel⟩
def t_laid (K : PySem.W.Frag) : TS :=
    tSeq (tAsg (tDc (iTup K (tOp (rCatF K) (tOp (rIxT K) (tVar 0) (tC (.int 0))) (tVar 2))) (gTup K 3 (gCons (gName 5) (gCons (gName 6) (gCons (gName 7) (gNil))))) (tYes) (tVar 5) (tCB (rDictF K) (tCons (tVar 7) (tNil))) [5, 6, 7]) (gName 4))
    (tSeq (tFor (iList K (tVar 1)) (gTup K 3 (gCons (gName 8) (gCons (gName 9) (gCons (gName 5) (gNil))))) (sDPut (tDGet (tVar 4) (tVar 8)) (tVar 9) (tVar 5)))
    (tSeq (tLocks (tAsg (tDc (iItems (tVar 4)) (gTup K 2 (gCons (gName 5) (gCons (gName 7) (gNil)))) (tYes) (tVar 5) (tDc (iItems (tVar 7)) (gTup K 2 (gCons (gName 9) (gCons (gName 11) (gNil)))) (tB (tNotN (tVar 11))) (tVar 9) (tVar 11) [9, 11]) [5, 7]) (gName 10)))
    (tSeq (tLocks (tAsg (tLc2 (iVals (tVar 10)) (gName 7) (tYes) (iVals (tVar 7)) (gName 11) tYes (tVar 11) [7, 11] [11]) (gName 12)))
    (tSeq (tAsg (tLc (iTup K (tOp (rCatF K) (tOp (rIxT K) (tVar 0) (tC (.int 0))) (tVar 2))) (gTup K 3 (gCons (gName 5) (gCons (gName 6) (gCons (gName 7) (gNil))))) (tYes) (tTupF (tCons (tVar 5) (tCons (tVar 6) (tCons (tCB (rTupF K) (tCons (tSortIt (tDGet (tVar 10) (tVar 5))) (tNil))) (tNil))))) [5, 6, 7]) (gName 13))
    (tSeq (tAsg (tLc (iList K (tVar 13)) (gName 7) (tOr (tTest (tOp (rEqP K) (tOp (rIxT K) (tVar 7) (tC (.int 0))) (tC (.int 0)))) (tTest (tOp (rIn K false) (tOp (rIxT K) (tVar 7) (tC (.int 0))) (tVar 12)))) (tVar 7) [7]) (gName 13))
    (tRet (tTupF (tCons (tCB (rTupF K) (tCons (tCB (rSortD K) (tCons (tVar 13) (tNil))) (tNil))) (tCons (tIf (tB (tIsN (tVar 3))) (tOp (rIxT K) (tVar 0) (tC (.int 1))) (tVar 3)) (tNil))))))))))
theorem wk_laid (B : Bs mg)   (hr : Room 0 (A.deeper (envOfC "laid" (defScope s_laid) s.heap.objs.size f cdv))) :
    PSs (cxOf CX0 P w K mg base N_laid "laid" (defScope s_laid) f cdv A outer s H E).nox (defBody s_laid) (t_laid K) := by
  exact (pss_cons (ps_setDc (i := 4) (own := [("node", 5), ("kind", 6), ("row", 7)]) (g := gTup K 3 (gCons (gName 5) (gCons (gName 6) (gCons (gName 7) (gNil))))) (tt := tYes) (tk := tVar 5) (tv := tCB (rDictF K) (tCons (tVar 7) (tNil))) rfl sc_laid.nd rfl rfl (sw_trueD rfl rfl rfl (by decide +kernel)) (pi_tup (pe_op op_catF (pe_ix ix_tup (pv 0) (pe_int) (fun _ _ => rfl)) (pv 2))) (blkOk_by (own := [("node", 5), ("kind", 6), ("row", 7)]) (N := N_laid) (sc := defScope s_laid) (by decide +kernel)) (fun _ _ _ _ _ => pg_tup rfl (pgs_cons (pg_name (i := 5) sc_laid.nd rfl (by first | exact Or.inl rfl | exact Or.inr rfl)) (pgs_cons (pg_name (i := 6) sc_laid.nd rfl (by first | exact Or.inl rfl | exact Or.inr rfl)) (pgs_cons (pg_name (i := 7) sc_laid.nd rfl (by first | exact Or.inl rfl | exact Or.inr rfl)) (pgs_nil))))) (fun _ _ _ _ _ => pts_nil) (fun _ _ _ _ _ => pv 5) (fun _ _ _ _ _ => pe_callTy (call_dictF rfl) (by rfl) B.dict_ (by decide +kernel) (pa_cons (pv 7) (pa_nil))))
      (pss_cons (ps_for PassesOwn.never rfl (pi_list (pv 1)) (pg_tup rfl (pgs_cons (pg_name (i := 8) sc_laid.nd rfl (by first | exact Or.inl rfl | exact Or.inr rfl)) (pgs_cons (pg_name (i := 9) sc_laid.nd rfl (by first | exact Or.inl rfl | exact Or.inr rfl)) (pgs_cons (pg_name (i := 5) sc_laid.nd rfl (by first | exact Or.inl rfl | exact Or.inr rfl)) (pgs_nil))))) (pss_one (ps_dput (hu_of hr) (pe_dget (hu_of hr) (pv 4) (pv 8) (fun _ _ => rfl)) (pv 9) (pv 5) rfl)))
      (pss_cons (ps_locks (ps_set (i := 10) sc_laid.nd rfl (by first | exact Or.inl rfl | exact Or.inr rfl) (pe_dc (own := [("node", 5), ("row", 7)]) (g := gTup K 2 (gCons (gName 5) (gCons (gName 7) (gNil)))) (tt := tYes) (tk := tVar 5) (tv := tDc (iItems (tVar 7)) (gTup K 2 (gCons (gName 9) (gCons (gName 11) (gNil)))) (tB (tNotN (tVar 11))) (tVar 9) (tVar 11) [9, 11]) rfl sc_laid.nd (pi_items (pv 4)) (blkOk_by (own := [("node", 5), ("row", 7)]) (N := N_laid) (sc := defScope s_laid) (by decide +kernel)) (fun _ _ _ _ _ => pg_tup rfl (pgs_cons (pg_name (i := 5) sc_laid.nd rfl (by first | exact Or.inl rfl | exact Or.inr rfl)) (pgs_cons (pg_name (i := 7) sc_laid.nd rfl (by first | exact Or.inl rfl | exact Or.inr rfl)) (pgs_nil)))) (fun _ _ _ _ _ => pts_nil) (fun _ _ _ _ _ => pv 5) (fun _ _ _ _ _ => pe_dc (own := [("name", 9), ("to", 11)]) (g := gTup K 2 (gCons (gName 9) (gCons (gName 11) (gNil)))) (tt := tB (tNotN (tVar 11))) (tk := tVar 9) (tv := tVar 11) rfl sc_laid.nd (pi_items (pv 7)) (blkOk_by (own := [("name", 9), ("to", 11)]) (N := N_laid) (sc := { kind := .function, names := [(".0", .local), ("node", .local), ("row", .local)], isGenerator := false, isCoroutine := false }) (by decide +kernel)) (fun _ _ _ _ _ => pg_tup rfl (pgs_cons (pg_name (i := 9) sc_laid.nd rfl (by first | exact Or.inl rfl | exact Or.inr rfl)) (pgs_cons (pg_name (i := 11) sc_laid.nd rfl (by first | exact Or.inl rfl | exact Or.inr rfl)) (pgs_nil)))) (fun _ _ _ _ _ => pts_one (pt_cmp (pc_notN (pv 11)) rfl)) (fun _ _ _ _ _ => pv 9) (fun _ _ _ _ _ => pv 11)))))
      (pss_cons (ps_locks (ps_set (i := 12) sc_laid.nd rfl (by first | exact Or.inl rfl | exact Or.inr rfl) (pe_lc2 (own := [("row", 7), ("to", 11)]) (vs1 := [11]) (g := gName 7) (tt := tYes) (wi1 := iVals (tVar 7)) (g1 := gName 11) (tt1 := tYes) (te := tVar 11) rfl sc_laid.nd (pi_values (pv 10)) (blkOk_by (own := [("row", 7), ("to", 11)]) (N := N_laid) (sc := defScope s_laid) (by decide +kernel)) (by decide) (fun _ _ _ _ _ => pg_name (i := 7) sc_laid.nd rfl (by first | exact Or.inl rfl | exact Or.inr rfl)) (fun _ _ _ _ _ => pts_nil) (fun _ _ _ _ _ => pi_values (pv 7)) (fun _ _ _ _ _ => pg_name (i := 11) sc_laid.nd rfl (by first | exact Or.inl rfl | exact Or.inr rfl)) (fun _ _ _ _ _ => pts_nil) (fun _ _ _ _ _ => pv 11))))
      (pss_cons (ps_setLc (i := 13) (own := [("node", 5), ("kind", 6), ("row", 7)]) (g := gTup K 3 (gCons (gName 5) (gCons (gName 6) (gCons (gName 7) (gNil))))) (tt := tYes) (te := tTupF (tCons (tVar 5) (tCons (tVar 6) (tCons (tCB (rTupF K) (tCons (tSortIt (tDGet (tVar 10) (tVar 5))) (tNil))) (tNil))))) rfl sc_laid.nd rfl rfl (sw_true rfl rfl rfl (by decide +kernel)) (pi_tup (pe_op op_catF (pe_ix ix_tup (pv 0) (pe_int) (fun _ _ => rfl)) (pv 2))) (blkOk_by (own := [("node", 5), ("kind", 6), ("row", 7)]) (N := N_laid) (sc := defScope s_laid) (by decide +kernel)) (fun _ _ _ _ _ => pg_tup rfl (pgs_cons (pg_name (i := 5) sc_laid.nd rfl (by first | exact Or.inl rfl | exact Or.inr rfl)) (pgs_cons (pg_name (i := 6) sc_laid.nd rfl (by first | exact Or.inl rfl | exact Or.inr rfl)) (pgs_cons (pg_name (i := 7) sc_laid.nd rfl (by first | exact Or.inl rfl | exact Or.inr rfl)) (pgs_nil))))) (fun _ _ _ _ _ => pts_nil) (fun _ _ _ _ _ => pe_tupF (pa_cons (pv 5) (pa_cons (pv 6) (pa_cons (pe_callTy call_tupF (by rfl) B.tuple_ (by decide +kernel) (pa_cons (pe_sortItems hr.units rfl (pe_dget (hu_of hr) (pv 10) (pv 5) (fun _ _ => rfl)) rfl B.sorted_) (pa_nil))) (pa_nil))))))
      (pss_cons (ps_setLc (i := 13) (own := [("row", 7)]) (g := gName 7) (tt := tOr (tTest (tOp (rEqP K) (tOp (rIxT K) (tVar 7) (tC (.int 0))) (tC (.int 0)))) (tTest (tOp (rIn K false) (tOp (rIxT K) (tVar 7) (tC (.int 0))) (tVar 12)))) (te := tVar 7) rfl sc_laid.nd rfl rfl (sw_true rfl rfl rfl (by decide +kernel)) (pi_list (pv 13)) (blkOk_by (own := [("row", 7)]) (N := N_laid) (sc := defScope s_laid) (by decide +kernel)) (fun _ _ _ _ _ => pg_name (i := 7) sc_laid.nd rfl (by first | exact Or.inl rfl | exact Or.inr rfl)) (fun _ _ _ _ _ => pts_one (PW.pt (pw_or (pt_cmpR (op_eqP hr.units) (pe_ix ix_tup (pv 7) (pe_int) (fun _ _ => rfl)) (pe_gi B.top) (nomark _)) (pw_or1 (pt_cmpR op_in_seq (pe_ix ix_tup (pv 7) (pe_int) (fun _ _ => rfl)) (pv 12) (by rfl)))))) (fun _ _ _ _ _ => pv 7))
      (pss_one (ps_ret (pe_tupF (pa_cons (pe_callTy call_tupF (by rfl) B.tuple_ (by decide +kernel) (pa_cons (pe_callB (call_sortD hr.units) (by rfl) B.sorted_ (by decide +kernel) (pa_cons (pv 13) (pa_nil))) (pa_nil))) (pa_cons (pe_ifExp (pt_cmp (pc_isN (pv 3)) rfl) (pe_ix ix_tup (pv 0) (pe_int) (fun _ _ => rfl)) (pv 3)) (pa_nil))))))))))))
abbrev N_drawer_of : List Str := ["tree", "way", "nodes", "miss"]
theorem sc_drawer_of : FnScope N_drawer_of ["tree", "way"] (defScope s_drawer_of) := ⟨rfl, rfl, rfl, by decide +kernel, rfl, by decide +kernel, by decide +kernel⟩
def t_drawer_of (K : PySem.W.Frag) : TS :=
    tSeq (tAsg (tCall (SpD K P_way_through) ([.int 0]) E0 (tCons (tVar 0) (tCons (tSl (rSlF K) (tVar 1) (tNoPart) (tPart (tUn (rU fun i => .int (-i)) (tC (.int 1))))) (tNil)))) (gTup K 2 (gCons (gName 2) (gCons (gName 3) (gNil)))))
    (tSeq (tIfS (tAnd (tB (tIsN (tVar 3))) (tTest (tOp (rEqP K) (tCall (SpD K P_kind_of) [] E0 (tCons (tVar 0) (tCons (tOp (rIxT K) (tVar 2) (tUn (rU fun i => .int (-i)) (tC (.int 1)))) (tNil)))) (tC (.str ("sheet" : Str)))))) (tAsg (tTupF (tCons (tC (.str ("sheet" : Str))) (tCons (tOp (rI0 fun i j => .int (i - j)) (tCB (rLenAny K) (tCons (tVar 1) (tNil))) (tC (.int 1))) (tNil)))) (gName 3)) (tNext))
    (tRet (tTupF (tCons (tOp (rIxT K) (tVar 2) (tUn (rU fun i => .int (-i)) (tC (.int 1)))) (tCons (tVar 3) (tNil))))))
theorem wk_drawer_of (B : Bs mg)  (c_way_through : CalD P w K mg base 4 "way_through" (SpD K P_way_through) ([.int 0])) (c_kind_of : Cal P w K mg base 3 "kind_of" (SpD K P_kind_of)) (hr : Room 4 (A.deeper (envOfC "drawer_of" (defScope s_drawer_of) s.heap.objs.size f cdv))) :
    PSs (cxOf CX0 P w K mg base N_drawer_of "drawer_of" (defScope s_drawer_of) f cdv A outer s H E).nox (defBody s_drawer_of) (t_drawer_of K) := by
  exact (pss_cons (ps_asg (pe_cald c_way_through hr (by decide) rfl (pa_cons (pv 0) (pa_cons (pe_slice sl_tupF (pv 1) (po_none) (po_some (pe_un un_neg (pe_int)))) (pa_nil)))) (pg_tup rfl (pgs_cons (pg_name (i := 2) sc_drawer_of.nd rfl (by first | exact Or.inl rfl | exact Or.inr rfl)) (pgs_cons (pg_name (i := 3) sc_drawer_of.nd rfl (by first | exact Or.inl rfl | exact Or.inr rfl)) (pgs_nil)))))
      (pss_cons (ps_if (PW.pt (pw_and (pt_cmp (pc_isN (pv 3)) rfl) (pw_and1 (pt_cmpR (op_eqP hr.units) (pe_cal c_kind_of hr (by decide) rfl (pa_cons (pv 0) (pa_cons (pe_ix ix_tup (pv 2) (pe_un un_neg (pe_int)) (fun _ _ => rfl)) (pa_nil)))) (pe_str) (nomark _))))) (pss_one (ps_set (i := 3) sc_drawer_of.nd rfl (by first | exact Or.inl rfl | exact Or.inr rfl) (pe_tupF (pa_cons (pe_str) (pa_cons (pe_op op_sub (pe_callB call_len (by rfl) B.len_ (by decide +kernel) (pa_cons (pv 1) (pa_nil))) (pe_int)) (pa_nil)))))) (pss_nil))
      (pss_one (ps_ret (pe_tupF (pa_cons (pe_ix ix_tup (pv 2) (pe_un un_neg (pe_int)) (fun _ _ => rfl)) (pa_cons (pv 3) (pa_nil))))))))
abbrev N_entry : List Str := ["tree", "drawer", "way"]
theorem sc_entry : FnScope N_entry ["tree", "drawer", "way"] (defScope s_entry) := ⟨rfl, rfl, rfl, by decide +kernel, rfl, by decide +kernel, by decide +kernel⟩
def t_entry (K : PySem.W.Frag) : TS :=
    tRet (tDGet1 (tCB (rDictF K) (tCons (tCall (SpD K P_entries_of) [] E0 (tCons (tVar 0) (tCons (tVar 1) (tNil)))) (tNil))) (tOp (rIxT K) (tVar 2) (tUn (rU fun i => .int (-i)) (tC (.int 1)))))
theorem wk_entry (B : Bs mg)  (c_entries_of : Cal P w K mg base 3 "entries_of" (SpD K P_entries_of)) (hr : Room 3 (A.deeper (envOfC "entry" (defScope s_entry) s.heap.objs.size f cdv))) :
    PSs (cxOf CX0 P w K mg base N_entry "entry" (defScope s_entry) f cdv A outer s H E).nox (defBody s_entry) (t_entry K) := by
  exact (pss_one (ps_ret (pe_dget1 (hu_of hr) (pe_callTy (call_dictF rfl) (by rfl) B.dict_ (by decide +kernel) (pa_cons (pe_cal c_entries_of hr (by decide) rfl (pa_cons (pv 0) (pa_cons (pv 1) (pa_nil)))) (pa_nil))) (pe_ix ix_tup (pv 2) (pe_un un_neg (pe_int)) (fun _ _ => rfl)) ⟨rfl, rfl, rfl, rfl⟩)))
abbrev N_is_full : List Str := ["tree", "node"]
theorem sc_is_full : FnScope N_is_full ["tree", "node"] (defScope s_is_full) := ⟨rfl, rfl, rfl, by decide +kernel, rfl, by decide +kernel, by decide +kernel⟩
def t_is_full (K : PySem.W.Frag) : TS :=
    tRet (tAndV (tOp (rEqP K) (tCall (SpD K P_kind_of) [] E0 (tCons (tVar 0) (tCons (tVar 1) (tNil)))) (tC (.str ("drawer" : Str)))) (tOp (rNeP K) (tCall (SpD K P_entries_of) [] E0 (tCons (tVar 0) (tCons (tVar 1) (tNil)))) (tTupF (tNil))))
theorem wk_is_full (B : Bs mg)  (c_kind_of : Cal P w K mg base 3 "kind_of" (SpD K P_kind_of)) (c_entries_of : Cal P w K mg base 3 "entries_of" (SpD K P_entries_of)) (hr : Room 3 (A.deeper (envOfC "is_full" (defScope s_is_full) s.heap.objs.size f cdv))) :
    PSs (cxOf CX0 P w K mg base N_is_full "is_full" (defScope s_is_full) f cdv A outer s H E).nox (defBody s_is_full) (t_is_full K) := by
  exact (pss_one (ps_ret (pe_and (pe_cmpR (op_eqP hr.units) (pe_cal c_kind_of hr (by decide) rfl (pa_cons (pv 0) (pa_cons (pv 1) (pa_nil)))) (pe_str) (nomark _)) (pe_one (pe_cmpR (op_neP hr.units) (pe_cal c_entries_of hr (by decide) rfl (pa_cons (pv 0) (pa_cons (pv 1) (pa_nil)))) (pe_tupF (pa_nil)) (nomark _))))))
abbrev N_is_inside : List Str := ["tree", "node", "drawer"]
theorem sc_is_inside : FnScope N_is_inside ["tree", "node", "drawer"] (defScope s_is_inside) := ⟨rfl, rfl, rfl, by decide +kernel, rfl, by decide +kernel, by decide +kernel⟩
def t_is_inside (K : PySem.W.Frag) : TS :=
    tRet (tOrV (tOp (rEqP K) (tVar 1) (tVar 2)) (tOp (rIn K false) (tVar 1) (tCall (SpD K P_above) [] E0 (tCons (tVar 0) (tCons (tVar 2) (tNil))))))
theorem wk_is_inside (B : Bs mg)  (c_above : Cal P w K mg base 4 "above" (SpD K P_above)) (hr : Room 4 (A.deeper (envOfC "is_inside" (defScope s_is_inside) s.heap.objs.size f cdv))) :
    PSs (cxOf CX0 P w K mg base N_is_inside "is_inside" (defScope s_is_inside) f cdv A outer s H E).nox (defBody s_is_inside) (t_is_inside K) := by
  exact (pss_one (ps_ret (pe_or (pe_cmpR (op_eqP hr.units) (pv 1) (pv 2) (nomark _)) (pe_one (pe_cmpR op_in_seq (pv 1) (pe_cal c_above hr (by decide) rfl (pa_cons (pv 0) (pa_cons (pv 2) (pa_nil)))) (by rfl))))))
abbrev N_do_look : List Str := ["tree", "way", "nodes", "miss"]
theorem sc_do_look : FnScope N_do_look ["tree", "way"] (defScope s_do_look) := ⟨rfl, rfl, rfl, by decide +kernel, rfl, by decide +kernel, by decide +kernel⟩
def t_do_look (K : PySem.W.Frag) : TS :=
    tSeq (tAsg (tCall (SpD K P_way_through) ([.int 0]) E0 (tCons (tVar 0) (tCons (tVar 1) (tNil)))) (gTup K 2 (gCons (gName 2) (gCons (gName 3) (gNil)))))
    (tRet (tTupF (tCons (tVar 0) (tCons (tIf (tB (tNotN (tVar 3))) (tVar 3) (tTupF (tCons (tC (.str ("found" : Str))) (tCons (tCall (SpD K P_kind_of) [] E0 (tCons (tVar 0) (tCons (tOp (rIxT K) (tVar 2) (tUn (rU fun i => .int (-i)) (tC (.int 1)))) (tNil)))) (tCons (tOp (rIxT K) (tVar 2) (tUn (rU fun i => .int (-i)) (tC (.int 1)))) (tNil)))))) (tNil)))))
theorem wk_do_look (B : Bs mg)  (c_way_through : CalD P w K mg base 4 "way_through" (SpD K P_way_through) ([.int 0])) (c_kind_of : Cal P w K mg base 3 "kind_of" (SpD K P_kind_of)) (hr : Room 4 (A.deeper (envOfC "do_look" (defScope s_do_look) s.heap.objs.size f cdv))) :
    PSs (cxOf CX0 P w K mg base N_do_look "do_look" (defScope s_do_look) f cdv A outer s H E).nox (defBody s_do_look) (t_do_look K) := by
  exact (pss_cons (ps_asg (pe_cald c_way_through hr (by decide) rfl (pa_cons (pv 0) (pa_cons (pv 1) (pa_nil)))) (pg_tup rfl (pgs_cons (pg_name (i := 2) sc_do_look.nd rfl (by first | exact Or.inl rfl | exact Or.inr rfl)) (pgs_cons (pg_name (i := 3) sc_do_look.nd rfl (by first | exact Or.inl rfl | exact Or.inr rfl)) (pgs_nil)))))
      (pss_one (ps_ret (pe_tupF (pa_cons (pv 0) (pa_cons (pe_ifExp (pt_cmp (pc_notN (pv 3)) rfl) (pv 3) (pe_tupF (pa_cons (pe_str) (pa_cons (pe_cal c_kind_of hr (by decide) rfl (pa_cons (pv 0) (pa_cons (pe_ix ix_tup (pv 2) (pe_un un_neg (pe_int)) (fun _ _ => rfl)) (pa_nil)))) (pa_cons (pe_ix ix_tup (pv 2) (pe_un un_neg (pe_int)) (fun _ _ => rfl)) (pa_nil)))))) (pa_nil)))))))
abbrev N_do_list : List Str := ["tree", "way", "nodes", "miss", "name", "node"]
theorem sc_do_list : FnScope N_do_list ["tree", "way"] (defScope s_do_list) := ⟨rfl, rfl, rfl, by decide +kernel, rfl, by decide +kernel, by decide +kernel⟩
def t_do_list (K : PySem.W.Frag) : TS :=
    tSeq (tAsg (tCall (SpD K P_way_through) ([.int 0]) E0 (tCons (tVar 0) (tCons (tVar 1) (tNil)))) (gTup K 2 (gCons (gName 2) (gCons (gName 3) (gNil)))))
    (tSeq (tIfS (tAnd (tB (tIsN (tVar 3))) (tTest (tOp (rEqP K) (tCall (SpD K P_kind_of) [] E0 (tCons (tVar 0) (tCons (tOp (rIxT K) (tVar 2) (tUn (rU fun i => .int (-i)) (tC (.int 1)))) (tNil)))) (tC (.str ("sheet" : Str)))))) (tAsg (tTupF (tCons (tC (.str ("sheet" : Str))) (tCons (tCB (rLenAny K) (tCons (tVar 1) (tNil))) (tNil)))) (gName 3)) (tNext))
    (tSeq (tIfS (tB (tNotN (tVar 3))) (tRet (tTupF (tCons (tVar 0) (tCons (tVar 3) (tNil))))) (tNext))
    (tRet (tTupF (tCons (tVar 0) (tCons (tTupF (tCons (tC (.str ("names" : Str))) (tCons (tCB (rTupF K) (tCons (tLc (iTup K (tCall (SpD K P_entries_of) [] E0 (tCons (tVar 0) (tCons (tOp (rIxT K) (tVar 2) (tUn (rU fun i => .int (-i)) (tC (.int 1)))) (tNil))))) (gTup K 2 (gCons (gName 4) (gCons (gName 5) (gNil)))) (tYes) (tVar 4) [4, 5]) (tNil))) (tNil)))) (tNil)))))))
theorem wk_do_list (B : Bs mg)  (c_way_through : CalD P w K mg base 4 "way_through" (SpD K P_way_through) ([.int 0])) (c_kind_of : Cal P w K mg base 3 "kind_of" (SpD K P_kind_of)) (c_entries_of : Cal P w K mg base 3 "entries_of" (SpD K P_entries_of)) (hr : Room 4 (A.deeper (envOfC "do_list" (defScope s_do_list) s.heap.objs.size f cdv))) :
    PSs (cxOf CX0 P w K mg base N_do_list "do_list" (defScope s_do_list) f cdv A outer s H E).nox (defBody s_do_list) (t_do_list K) := by
  exact (pss_cons (ps_asg (pe_cald c_way_through hr (by decide) rfl (pa_cons (pv 0) (pa_cons (pv 1) (pa_nil)))) (pg_tup rfl (pgs_cons (pg_name (i := 2) sc_do_list.nd rfl (by first | exact Or.inl rfl | exact Or.inr rfl)) (pgs_cons (pg_name (i := 3) sc_do_list.nd rfl (by first | exact Or.inl rfl | exact Or.inr rfl)) (pgs_nil)))))
      (pss_cons (ps_if (PW.pt (pw_and (pt_cmp (pc_isN (pv 3)) rfl) (pw_and1 (pt_cmpR (op_eqP hr.units) (pe_cal c_kind_of hr (by decide) rfl (pa_cons (pv 0) (pa_cons (pe_ix ix_tup (pv 2) (pe_un un_neg (pe_int)) (fun _ _ => rfl)) (pa_nil)))) (pe_str) (nomark _))))) (pss_one (ps_set (i := 3) sc_do_list.nd rfl (by first | exact Or.inl rfl | exact Or.inr rfl) (pe_tupF (pa_cons (pe_str) (pa_cons (pe_callB call_len (by rfl) B.len_ (by decide +kernel) (pa_cons (pv 1) (pa_nil))) (pa_nil)))))) (pss_nil))
      (pss_cons (ps_if (pt_cmp (pc_notN (pv 3)) rfl) (pss_one (ps_ret (pe_tupF (pa_cons (pv 0) (pa_cons (pv 3) (pa_nil)))))) (pss_nil))
      (pss_one (ps_ret (pe_tupF (pa_cons (pv 0) (pa_cons (pe_tupF (pa_cons (pe_str) (pa_cons (pe_callTy call_tupF (by rfl) B.tuple_ (by decide +kernel) (pa_cons (pe_lc (own := [("name", 4), ("node", 5)]) (g := gTup K 2 (gCons (gName 4) (gCons (gName 5) (gNil)))) (tt := tYes) (te := tVar 4) rfl sc_do_list.nd (pi_tup (pe_cal c_entries_of hr (by decide) rfl (pa_cons (pv 0) (pa_cons (pe_ix ix_tup (pv 2) (pe_un un_neg (pe_int)) (fun _ _ => rfl)) (pa_nil))))) (blkOk_by (own := [("name", 4), ("node", 5)]) (N := N_do_list) (sc := defScope s_do_list) (by decide +kernel)) (fun _ _ _ _ _ => pg_tup rfl (pgs_cons (pg_name (i := 4) sc_do_list.nd rfl (by first | exact Or.inl rfl | exact Or.inr rfl)) (pgs_cons (pg_name (i := 5) sc_do_list.nd rfl (by first | exact Or.inl rfl | exact Or.inr rfl)) (pgs_nil)))) (fun _ _ _ _ _ => pts_nil) (fun _ _ _ _ _ => pv 4)) (pa_nil))) (pa_nil)))) (pa_nil)))))))))
abbrev N_do_make : List Str := ["tree", "way", "kind", "drawer", "miss", "rows", "made"]
theorem sc_do_make : FnScope N_do_make ["tree", "way", "kind"] (defScope s_do_make) := ⟨rfl, rfl, rfl, by decide +kernel, rfl, by decide +kernel, by decide +kernel⟩
def t_do_make (K : PySem.W.Frag) (dlv : List V) : TS :=
    tSeq (tAsg (tCall (SpD K P_drawer_of) [] E0 (tCons (tVar 0) (tCons (tVar 1) (tNil)))) (gTup K 2 (gCons (gName 3) (gCons (gName 4) (gNil)))))
    (tSeq (tIfS (tB (tNotN (tVar 4))) (tRet (tTupF (tCons (tVar 0) (tCons (tVar 4) (tNil))))) (tNext))
    (tSeq (tIfS (tB (tNotN (tCall (SpD K P_entry) [] E0 (tCons (tVar 0) (tCons (tVar 3) (tCons (tVar 1) (tNil))))))) (tRet (tTupF (tCons (tVar 0) (tCons (tTupF (tCons (tC (.str ("there" : Str))) (tNil))) (tNil))))) (tNext))
    (tSeq (tAsg (tVar 0) (gTup K 2 (gCons (gName 5) (gCons (gName 6) (gNil)))))
    (tRet (tTupF (tCons (tCallN 2 (["rows", "made"] : List Str).length (SpD K P_laid) (fun xs zs => xs ++ zs) E0 (tCons (tVar 0) (tCons (tLst (tCons (tTupF (tCons (tVar 3) (tCons (tOp (rIxT K) (tVar 1) (tUn (rU fun i => .int (-i)) (tC (.int 1)))) (tCons (tVar 6) (tNil))))) (tNil))) (tNil))) (tCons (tTupF (tCons (tTupF (tCons (tVar 6) (tCons (tVar 2) (tCons (tTupF (tNil)) (tNil))))) (tNil))) (tCons (tOp (rI0 fun i j => .int (i + j)) (tVar 6) (tC (.int 1))) (tNil)))) (tCons (tTupF (tCons (tC (.str ("made" : Str))) (tCons (tVar 6) (tNil)))) (tNil))))))))
theorem wk_do_make (B : Bs mg) (dlv : List V) (c_drawer_of : Cal P w K mg base 5 "drawer_of" (SpD K P_drawer_of)) (c_entry : Cal P w K mg base 4 "entry" (SpD K P_entry)) (c_laid_rows_made : CalK P w K mg base 1 "laid" 2 ["rows", "made"] (SpD K P_laid) (fun xs zs => xs ++ zs)) (hr : Room 5 (A.deeper (envOfC "do_make" (defScope s_do_make) s.heap.objs.size f cdv))) :
    PSs (cxOf CX0 P w K mg base N_do_make "do_make" (defScope s_do_make) f cdv A outer s H E).nox (defBody s_do_make) (t_do_make K dlv) := by
  exact (pss_cons (ps_asg (pe_cal c_drawer_of hr (by decide) rfl (pa_cons (pv 0) (pa_cons (pv 1) (pa_nil)))) (pg_tup rfl (pgs_cons (pg_name (i := 3) sc_do_make.nd rfl (by first | exact Or.inl rfl | exact Or.inr rfl)) (pgs_cons (pg_name (i := 4) sc_do_make.nd rfl (by first | exact Or.inl rfl | exact Or.inr rfl)) (pgs_nil)))))
      (pss_cons (ps_if (pt_cmp (pc_notN (pv 4)) rfl) (pss_one (ps_ret (pe_tupF (pa_cons (pv 0) (pa_cons (pv 4) (pa_nil)))))) (pss_nil))
      (pss_cons (ps_if (pt_cmp (pc_notN (pe_cal c_entry hr (by decide) rfl (pa_cons (pv 0) (pa_cons (pv 3) (pa_cons (pv 1) (pa_nil)))))) rfl) (pss_one (ps_ret (pe_tupF (pa_cons (pv 0) (pa_cons (pe_tupF (pa_cons (pe_str) (pa_nil))) (pa_nil)))))) (pss_nil))
      (pss_cons (ps_asg (pv 0) (pg_tup rfl (pgs_cons (pg_name (i := 5) sc_do_make.nd rfl (by first | exact Or.inl rfl | exact Or.inr rfl)) (pgs_cons (pg_name (i := 6) sc_do_make.nd rfl (by first | exact Or.inl rfl | exact Or.inr rfl)) (pgs_nil)))))
      (pss_one (ps_ret (pe_tupF (pa_cons (pe_calk c_laid_rows_made hr (by decide) rfl (pa_cons (pv 0) (pa_cons (pe_lst (pa_cons (pe_tupF (pa_cons (pv 3) (pa_cons (pe_ix ix_tup (pv 1) (pe_un un_neg (pe_int)) (fun _ _ => rfl)) (pa_cons (pv 6) (pa_nil))))) (pa_nil))) (pa_nil))) (pk_cons (pe_tupF (pa_cons (pe_tupF (pa_cons (pv 6) (pa_cons (pv 2) (pa_cons (pe_tupF (pa_nil)) (pa_nil))))) (pa_nil))) (pk_cons (pe_op op_add (pv 6) (pe_int)) (pk_nil)))) (pa_cons (pe_tupF (pa_cons (pe_str) (pa_cons (pv 6) (pa_nil)))) (pa_nil))))))))))
abbrev N_do_drop : List Str := ["tree", "way", "drawer", "miss", "node"]
theorem sc_do_drop : FnScope N_do_drop ["tree", "way"] (defScope s_do_drop) := ⟨rfl, rfl, rfl, by decide +kernel, rfl, by decide +kernel, by decide +kernel⟩
def t_do_drop (K : PySem.W.Frag) (dlv : List V) : TS :=
    tSeq (tAsg (tCall (SpD K P_drawer_of) [] E0 (tCons (tVar 0) (tCons (tVar 1) (tNil)))) (gTup K 2 (gCons (gName 2) (gCons (gName 3) (gNil)))))
    (tSeq (tIfS (tB (tNotN (tVar 3))) (tRet (tTupF (tCons (tVar 0) (tCons (tVar 3) (tNil))))) (tNext))
    (tSeq (tAsg (tCall (SpD K P_entry) [] E0 (tCons (tVar 0) (tCons (tVar 2) (tCons (tVar 1) (tNil))))) (gName 4))
    (tSeq (tIfS (tB (tIsN (tVar 4))) (tRet (tTupF (tCons (tVar 0) (tCons (tTupF (tCons (tC (.str ("none" : Str))) (tCons (tOp (rI0 fun i j => .int (i - j)) (tCB (rLenAny K) (tCons (tVar 1) (tNil))) (tC (.int 1))) (tNil)))) (tNil))))) (tNext))
    (tSeq (tIfS (tB (tCall (SpD K P_is_full) [] E0 (tCons (tVar 0) (tCons (tVar 4) (tNil))))) (tRet (tTupF (tCons (tVar 0) (tCons (tTupF (tCons (tC (.str ("full" : Str))) (tNil))) (tNil))))) (tNext))
    (tRet (tTupF (tCons (tCall (SpD K P_laid) (dlv) E0 (tCons (tVar 0) (tCons (tLst (tCons (tTupF (tCons (tVar 2) (tCons (tOp (rIxT K) (tVar 1) (tUn (rU fun i => .int (-i)) (tC (.int 1)))) (tCons (tC .non) (tNil))))) (tNil))) (tNil)))) (tCons (tTupF (tCons (tC (.str ("dropped" : Str))) (tCons (tVar 4) (tNil)))) (tNil)))))))))
theorem wk_do_drop (B : Bs mg) (dlv : List V) (c_drawer_of : Cal P w K mg base 5 "drawer_of" (SpD K P_drawer_of)) (c_entry : Cal P w K mg base 4 "entry" (SpD K P_entry)) (c_is_full : Cal P w K mg base 4 "is_full" (SpD K P_is_full)) (c_laid : CalD P w K mg base 1 "laid" (SpD K P_laid) (dlv)) (hr : Room 5 (A.deeper (envOfC "do_drop" (defScope s_do_drop) s.heap.objs.size f cdv))) :
    PSs (cxOf CX0 P w K mg base N_do_drop "do_drop" (defScope s_do_drop) f cdv A outer s H E).nox (defBody s_do_drop) (t_do_drop K dlv) := by
  exact (pss_cons (ps_asg (pe_cal c_drawer_of hr (by decide) rfl (pa_cons (pv 0) (pa_cons (pv 1) (pa_nil)))) (pg_tup rfl (pgs_cons (pg_name (i := 2) sc_do_drop.nd rfl (by first | exact Or.inl rfl | exact Or.inr rfl)) (pgs_cons (pg_name (i := 3) sc_do_drop.nd rfl (by first | exact Or.inl rfl | exact Or.inr rfl)) (pgs_nil)))))
      (pss_cons (ps_if (pt_cmp (pc_notN (pv 3)) rfl) (pss_one (ps_ret (pe_tupF (pa_cons (pv 0) (pa_cons (pv 3) (pa_nil)))))) (pss_nil))
      (pss_cons (ps_set (i := 4) sc_do_drop.nd rfl (by first | exact Or.inl rfl | exact Or.inr rfl) (pe_cal c_entry hr (by decide) rfl (pa_cons (pv 0) (pa_cons (pv 2) (pa_cons (pv 1) (pa_nil))))))
      (pss_cons (ps_if (pt_cmp (pc_isN (pv 4)) rfl) (pss_one (ps_ret (pe_tupF (pa_cons (pv 0) (pa_cons (pe_tupF (pa_cons (pe_str) (pa_cons (pe_op op_sub (pe_callB call_len (by rfl) B.len_ (by decide +kernel) (pa_cons (pv 1) (pa_nil))) (pe_int)) (pa_nil)))) (pa_nil)))))) (pss_nil))
      (pss_cons (ps_if (pt_val (pe_cal c_is_full hr (by decide) rfl (pa_cons (pv 0) (pa_cons (pv 4) (pa_nil))))) (pss_one (ps_ret (pe_tupF (pa_cons (pv 0) (pa_cons (pe_tupF (pa_cons (pe_str) (pa_nil))) (pa_nil)))))) (pss_nil))
      (pss_one (ps_ret (pe_tupF (pa_cons (pe_cald c_laid hr (by decide) rfl (pa_cons (pv 0) (pa_cons (pe_lst (pa_cons (pe_tupF (pa_cons (pv 2) (pa_cons (pe_ix ix_tup (pv 1) (pe_un un_neg (pe_int)) (fun _ _ => rfl)) (pa_cons (pe_non) (pa_nil))))) (pa_nil))) (pa_nil)))) (pa_cons (pe_tupF (pa_cons (pe_str) (pa_cons (pv 4) (pa_nil)))) (pa_nil)))))))))))
abbrev N_both_of : List Str := ["tree", "first", "second", "drawers", "nodes", "which", "way", "drawer", "miss"]
theorem sc_both_of : FnScope N_both_of ["tree", "first", "second"] (defScope s_both_of) := ⟨rfl, rfl, rfl, by decide +kernel, rfl, by decide +kernel, by decide +kernel⟩
def t_both_of (K : PySem.W.Frag) : TS :=
    tSeq (tPar 3 4 (tCons (tLst (tNil)) (tCons (tLst (tNil)) (tNil))))
    (tSeq (tFor (iEnumT K (tCons (tTupF (tCons (tVar 1) (tCons (tVar 2) (tNil)))) (tNil))) (gTup K 2 (gCons (gName 5) (gCons (gName 6) (gNil)))) (tSeq (tAsg (tCall (SpD K P_drawer_of) [] E0 (tCons (tVar 0) (tCons (tVar 6) (tNil)))) (gTup K 2 (gCons (gName 7) (gCons (gName 8) (gNil)))))
    (tSeq (tIfS (tB (tNotN (tVar 8))) (tRet (tTupF (tCons (tLst (tNil)) (tCons (tLst (tNil)) (tCons (tOp (rCatF K) (tVar 8) (tTupF (tCons (tVar 5) (tNil)))) (tNil)))))) (tNext))
    (tDrop (tBM K "list" rAppend (tVar 3) (tCons (tVar 7) (tNil)))))))
    (tSeq (tAsg (tLc (iZipM K (tCons (tVar 3) (tCons (tTupF (tCons (tVar 1) (tCons (tVar 2) (tNil)))) (tNil)))) (gTup K 2 (gCons (gName 7) (gCons (gName 6) (gNil)))) (tYes) (tCall (SpD K P_entry) [] E0 (tCons (tVar 0) (tCons (tVar 7) (tCons (tVar 6) (tNil))))) [7, 6]) (gName 4))
    (tRet (tTupF (tCons (tVar 3) (tCons (tVar 4) (tCons (tIf (tB (tIsN (tOp (rIxL K) (tVar 4) (tC (.int 0))))) (tTupF (tCons (tC (.str ("none" : Str))) (tCons (tOp (rI0 fun i j => .int (i - j)) (tCB (rLenAny K) (tCons (tVar 1) (tNil))) (tC (.int 1))) (tCons (tC (.int 0)) (tNil))))) (tC .non)) (tNil))))))))
theorem wk_both_of (B : Bs mg)  (c_drawer_of : Cal P w K mg base 5 "drawer_of" (SpD K P_drawer_of)) (c_entry : Cal P w K mg base 4 "entry" (SpD K P_entry)) (hr : Room 5 (A.deeper (envOfC "both_of" (defScope s_both_of) s.heap.objs.size f cdv))) :
    PSs (cxOf CX0 P w K mg base N_both_of "both_of" (defScope s_both_of) f cdv A outer s H E).nox (defBody s_both_of) (t_both_of K) := by
  exact (pss_cons (ps_par (by rfl) sc_both_of.nd rfl rfl (by decide) rfl rfl (pa_cons (pe_lst (pa_nil)) (pa_cons (pe_lst (pa_nil)) (pa_nil))) (by rfl))
      (pss_cons (ps_for PassesOwn.never rfl (pi_enumT (by rfl) B.enumerate_ (pa_cons (pe_tupF (pa_cons (pv 1) (pa_cons (pv 2) (pa_nil)))) (pa_nil))) (pg_tup rfl (pgs_cons (pg_name (i := 5) sc_both_of.nd rfl (by first | exact Or.inl rfl | exact Or.inr rfl)) (pgs_cons (pg_name (i := 6) sc_both_of.nd rfl (by first | exact Or.inl rfl | exact Or.inr rfl)) (pgs_nil)))) (pss_cons (ps_asg (pe_cal c_drawer_of hr (by decide) rfl (pa_cons (pv 0) (pa_cons (pv 6) (pa_nil)))) (pg_tup rfl (pgs_cons (pg_name (i := 7) sc_both_of.nd rfl (by first | exact Or.inl rfl | exact Or.inr rfl)) (pgs_cons (pg_name (i := 8) sc_both_of.nd rfl (by first | exact Or.inl rfl | exact Or.inr rfl)) (pgs_nil)))))
      (pss_cons (ps_if (pt_cmp (pc_notN (pv 8)) rfl) (pss_one (ps_ret (pe_tupF (pa_cons (pe_lst (pa_nil)) (pa_cons (pe_lst (pa_nil)) (pa_cons (pe_op op_catF (pv 8) (pe_tupF (pa_cons (pv 5) (pa_nil)))) (pa_nil))))))) (pss_nil))
      (pss_one (ps_expr (pe_bm PySem.F.plainAttrs_list PySem.F.slot_list_append PySem.F.type_list_append mt_append (pv 3) (pa_cons (pv 7) (pa_nil))))))))
      (pss_cons (ps_setLc (i := 4) (own := [("drawer", 7), ("way", 6)]) (g := gTup K 2 (gCons (gName 7) (gCons (gName 6) (gNil)))) (tt := tYes) (te := tCall (SpD K P_entry) [] E0 (tCons (tVar 0) (tCons (tVar 7) (tCons (tVar 6) (tNil))))) rfl sc_both_of.nd rfl rfl (sw_true rfl rfl rfl (by decide +kernel)) (pi_zipM (by rfl) B.zip_ (pa_cons (pv 3) (pa_cons (pe_tupF (pa_cons (pv 1) (pa_cons (pv 2) (pa_nil)))) (pa_nil)))) (blkOk_by (own := [("drawer", 7), ("way", 6)]) (N := N_both_of) (sc := defScope s_both_of) (by decide +kernel)) (fun _ _ _ _ _ => pg_tup rfl (pgs_cons (pg_name (i := 7) sc_both_of.nd rfl (by first | exact Or.inl rfl | exact Or.inr rfl)) (pgs_cons (pg_name (i := 6) sc_both_of.nd rfl (by first | exact Or.inl rfl | exact Or.inr rfl)) (pgs_nil)))) (fun _ _ _ _ _ => pts_nil) (fun _ _ _ _ _ => pe_cal c_entry hr (by decide) rfl (pa_cons (pv 0) (pa_cons (pv 7) (pa_cons (pv 6) (pa_nil))))))
      (pss_one (ps_ret (pe_tupF (pa_cons (pv 3) (pa_cons (pv 4) (pa_cons (pe_ifExp (pt_cmp (pc_isN (pe_ix ix_list (pv 4) (pe_int) (fun _ _ => rfl))) rfl) (pe_tupF (pa_cons (pe_str) (pa_cons (pe_op op_sub (pe_callB call_len (by rfl) B.len_ (by decide +kernel) (pa_cons (pv 1) (pa_nil))) (pe_int)) (pa_cons (pe_int) (pa_nil))))) (pe_non)) (pa_nil))))))))))
abbrev N_do_link : List Str := ["tree", "first", "second", "drawers", "nodes", "miss"]
theorem sc_do_link : FnScope N_do_link ["tree", "first", "second"] (defScope s_do_link) := ⟨rfl, rfl, rfl, by decide +kernel, rfl, by decide +kernel, by decide +kernel⟩
def t_do_link (K : PySem.W.Frag) (dlv : List V) : TS :=
    tSeq (tAsg (tCall (SpD K P_both_of) [] E0 (tCons (tVar 0) (tCons (tVar 1) (tCons (tVar 2) (tNil))))) (gTup K 3 (gCons (gName 3) (gCons (gName 4) (gCons (gName 5) (gNil))))))
    (tSeq (tIfS (tB (tNotN (tVar 5))) (tRet (tTupF (tCons (tVar 0) (tCons (tVar 5) (tNil))))) (tNext))
    (tSeq (tIfS (tTest (tOp (rEqP K) (tCall (SpD K P_kind_of) [] E0 (tCons (tVar 0) (tCons (tOp (rIxL K) (tVar 4) (tC (.int 0))) (tNil)))) (tC (.str ("drawer" : Str))))) (tRet (tTupF (tCons (tVar 0) (tCons (tTupF (tCons (tC (.str ("kind" : Str))) (tNil))) (tNil))))) (tNext))
    (tSeq (tIfS (tB (tNotN (tOp (rIxL K) (tVar 4) (tC (.int 1))))) (tRet (tTupF (tCons (tVar 0) (tCons (tTupF (tCons (tC (.str ("there" : Str))) (tNil))) (tNil))))) (tNext))
    (tRet (tTupF (tCons (tCall (SpD K P_laid) (dlv) E0 (tCons (tVar 0) (tCons (tLst (tCons (tTupF (tCons (tOp (rIxL K) (tVar 3) (tC (.int 1))) (tCons (tOp (rIxT K) (tVar 2) (tUn (rU fun i => .int (-i)) (tC (.int 1)))) (tCons (tOp (rIxL K) (tVar 4) (tC (.int 0))) (tNil))))) (tNil))) (tNil)))) (tCons (tTupF (tCons (tC (.str ("linked" : Str))) (tCons (tOp (rIxL K) (tVar 4) (tC (.int 0))) (tNil)))) (tNil))))))))
theorem wk_do_link (B : Bs mg) (dlv : List V) (c_both_of : Cal P w K mg base 6 "both_of" (SpD K P_both_of)) (c_kind_of : Cal P w K mg base 3 "kind_of" (SpD K P_kind_of)) (c_laid : CalD P w K mg base 1 "laid" (SpD K P_laid) (dlv)) (hr : Room 6 (A.deeper (envOfC "do_link" (defScope s_do_link) s.heap.objs.size f cdv))) :
    PSs (cxOf CX0 P w K mg base N_do_link "do_link" (defScope s_do_link) f cdv A outer s H E).nox (defBody s_do_link) (t_do_link K dlv) := by
  exact (pss_cons (ps_asg (pe_cal c_both_of hr (by decide) rfl (pa_cons (pv 0) (pa_cons (pv 1) (pa_cons (pv 2) (pa_nil))))) (pg_tup rfl (pgs_cons (pg_name (i := 3) sc_do_link.nd rfl (by first | exact Or.inl rfl | exact Or.inr rfl)) (pgs_cons (pg_name (i := 4) sc_do_link.nd rfl (by first | exact Or.inl rfl | exact Or.inr rfl)) (pgs_cons (pg_name (i := 5) sc_do_link.nd rfl (by first | exact Or.inl rfl | exact Or.inr rfl)) (pgs_nil))))))
      (pss_cons (ps_if (pt_cmp (pc_notN (pv 5)) rfl) (pss_one (ps_ret (pe_tupF (pa_cons (pv 0) (pa_cons (pv 5) (pa_nil)))))) (pss_nil))
      (pss_cons (ps_if (pt_cmpR (op_eqP hr.units) (pe_cal c_kind_of hr (by decide) rfl (pa_cons (pv 0) (pa_cons (pe_ix ix_list (pv 4) (pe_int) (fun _ _ => rfl)) (pa_nil)))) (pe_str) (nomark _)) (pss_one (ps_ret (pe_tupF (pa_cons (pv 0) (pa_cons (pe_tupF (pa_cons (pe_str) (pa_nil))) (pa_nil)))))) (pss_nil))
      (pss_cons (ps_if (pt_cmp (pc_notN (pe_ix ix_list (pv 4) (pe_int) (fun _ _ => rfl))) rfl) (pss_one (ps_ret (pe_tupF (pa_cons (pv 0) (pa_cons (pe_tupF (pa_cons (pe_str) (pa_nil))) (pa_nil)))))) (pss_nil))
      (pss_one (ps_ret (pe_tupF (pa_cons (pe_cald c_laid hr (by decide) rfl (pa_cons (pv 0) (pa_cons (pe_lst (pa_cons (pe_tupF (pa_cons (pe_ix ix_list (pv 3) (pe_int) (fun _ _ => rfl)) (pa_cons (pe_ix ix_tup (pv 2) (pe_un un_neg (pe_int)) (fun _ _ => rfl)) (pa_cons (pe_ix ix_list (pv 4) (pe_int) (fun _ _ => rfl)) (pa_nil))))) (pa_nil))) (pa_nil)))) (pa_cons (pe_tupF (pa_cons (pe_str) (pa_cons (pe_ix ix_list (pv 4) (pe_int) (fun _ _ => rfl)) (pa_nil)))) (pa_nil))))))))))
abbrev N_barred : List Str := ["tree", "goal", "node", "old"]
theorem sc_barred : FnScope N_barred ["tree", "goal", "node", "old"] (defScope s_barred) := ⟨rfl, rfl, rfl, by decide +kernel, rfl, by decide +kernel, by decide +kernel⟩
def t_barred (K : PySem.W.Frag) : TS :=
    tSeq (tIfS (tTest (tOp (rEqP K) (tVar 2) (tVar 3))) (tRet (tTupF (tCons (tC (.str ("same" : Str))) (tNil)))) (tNext))
    (tSeq (tIfS (tAnd (tTest (tOp (rEqP K) (tCall (SpD K P_kind_of) [] E0 (tCons (tVar 0) (tCons (tVar 2) (tNil)))) (tC (.str ("drawer" : Str))))) (tB (tCall (SpD K P_is_inside) [] E0 (tCons (tVar 0) (tCons (tVar 2) (tCons (tVar 1) (tNil))))))) (tRet (tTupF (tCons (tC (.str ("inside" : Str))) (tNil)))) (tNext))
    (tSeq (tIfS (tB (tIsN (tVar 3))) (tRet (tC .non)) (tNext))
    (tSeq (tIfS (tTest (tOp (rNeP K) (tCall (SpD K P_kind_of) [] E0 (tCons (tVar 0) (tCons (tVar 3) (tNil)))) (tCall (SpD K P_kind_of) [] E0 (tCons (tVar 0) (tCons (tVar 2) (tNil)))))) (tRet (tTupF (tCons (tC (.str ("kind" : Str))) (tNil)))) (tNext))
    (tRet (tIf (tB (tCall (SpD K P_is_full) [] E0 (tCons (tVar 0) (tCons (tVar 3) (tNil))))) (tTupF (tCons (tC (.str ("full" : Str))) (tNil))) (tC .non))))))
theorem wk_barred (B : Bs mg)  (c_is_inside : Cal P w K mg base 5 "is_inside" (SpD K P_is_inside)) (c_kind_of : Cal P w K mg base 3 "kind_of" (SpD K P_kind_of)) (c_is_full : Cal P w K mg base 4 "is_full" (SpD K P_is_full)) (hr : Room 5 (A.deeper (envOfC "barred" (defScope s_barred) s.heap.objs.size f cdv))) :
    PSs (cxOf CX0 P w K mg base N_barred "barred" (defScope s_barred) f cdv A outer s H E).nox (defBody s_barred) (t_barred K) := by
  exact (pss_cons (ps_if (pt_cmpR (op_eqP hr.units) (pv 2) (pv 3) (nomark _)) (pss_one (ps_ret (pe_tupF (pa_cons (pe_str) (pa_nil))))) (pss_nil))
      (pss_cons (ps_if (PW.pt (pw_and (pt_cmpR (op_eqP hr.units) (pe_cal c_kind_of hr (by decide) rfl (pa_cons (pv 0) (pa_cons (pv 2) (pa_nil)))) (pe_str) (nomark _)) (pw_and1 (pt_val (pe_cal c_is_inside hr (by decide) rfl (pa_cons (pv 0) (pa_cons (pv 2) (pa_cons (pv 1) (pa_nil))))))))) (pss_one (ps_ret (pe_tupF (pa_cons (pe_str) (pa_nil))))) (pss_nil))
      (pss_cons (ps_if (pt_cmp (pc_isN (pv 3)) rfl) (pss_one (ps_ret (pe_non))) (pss_nil))
      (pss_cons (ps_if (pt_cmpR (op_neP hr.units) (pe_cal c_kind_of hr (by decide) rfl (pa_cons (pv 0) (pa_cons (pv 3) (pa_nil)))) (pe_cal c_kind_of hr (by decide) rfl (pa_cons (pv 0) (pa_cons (pv 2) (pa_nil)))) (nomark _)) (pss_one (ps_ret (pe_tupF (pa_cons (pe_str) (pa_nil))))) (pss_nil))
      (pss_one (ps_ret (pe_ifExp (pt_val (pe_cal c_is_full hr (by decide) rfl (pa_cons (pv 0) (pa_cons (pv 3) (pa_nil))))) (pe_tupF (pa_cons (pe_str) (pa_nil))) (pe_non))))))))
abbrev N_do_move : List Str := ["tree", "first", "second", "drawers", "nodes", "miss", "why", "changes"]
theorem sc_do_move : FnScope N_do_move ["tree", "first", "second"] (defScope s_do_move) := ⟨rfl, rfl, rfl, by decide +kernel, rfl, by decide +kernel, by decide +kernel⟩
def t_do_move (K : PySem.W.Frag) (dlv : List V) : TS :=
    tSeq (tAsg (tCall (SpD K P_both_of) [] E0 (tCons (tVar 0) (tCons (tVar 1) (tCons (tVar 2) (tNil))))) (gTup K 3 (gCons (gName 3) (gCons (gName 4) (gCons (gName 5) (gNil))))))
    (tSeq (tAsg (tIf (tB (tIsN (tVar 5))) (tCall (SpD K P_barred) [] E0 (tCons (tVar 0) (tCons (tOp (rIxL K) (tVar 3) (tC (.int 1))) (tCons (tOp (rIxL K) (tVar 4) (tC (.int 0))) (tCons (tOp (rIxL K) (tVar 4) (tC (.int 1))) (tNil)))))) (tVar 5)) (gName 6))
    (tSeq (tIfS (tB (tNotN (tVar 6))) (tRet (tTupF (tCons (tVar 0) (tCons (tVar 6) (tNil))))) (tNext))
    (tSeq (tAsg (tLst (tCons (tTupF (tCons (tOp (rIxL K) (tVar 3) (tC (.int 0))) (tCons (tOp (rIxT K) (tVar 1) (tUn (rU fun i => .int (-i)) (tC (.int 1)))) (tCons (tC .non) (tNil))))) (tCons (tTupF (tCons (tOp (rIxL K) (tVar 3) (tC (.int 1))) (tCons (tOp (rIxT K) (tVar 2) (tUn (rU fun i => .int (-i)) (tC (.int 1)))) (tCons (tOp (rIxL K) (tVar 4) (tC (.int 0))) (tNil))))) (tNil)))) (gName 7))
    (tRet (tTupF (tCons (tCall (SpD K P_laid) (dlv) E0 (tCons (tVar 0) (tCons (tVar 7) (tNil)))) (tCons (tTupF (tCons (tC (.str ("moved" : Str))) (tCons (tOp (rIxL K) (tVar 4) (tC (.int 0))) (tNil)))) (tNil))))))))
theorem wk_do_move (B : Bs mg) (dlv : List V) (c_both_of : Cal P w K mg base 6 "both_of" (SpD K P_both_of)) (c_barred : Cal P w K mg base 6 "barred" (SpD K P_barred)) (c_laid : CalD P w K mg base 1 "laid" (SpD K P_laid) (dlv)) (hr : Room 6 (A.deeper (envOfC "do_move" (defScope s_do_move) s.heap.objs.size f cdv))) :
    PSs (cxOf CX0 P w K mg base N_do_move "do_move" (defScope s_do_move) f cdv A outer s H E).nox (defBody s_do_move) (t_do_move K dlv) := by
  exact (pss_cons (ps_asg (pe_cal c_both_of hr (by decide) rfl (pa_cons (pv 0) (pa_cons (pv 1) (pa_cons (pv 2) (pa_nil))))) (pg_tup rfl (pgs_cons (pg_name (i := 3) sc_do_move.nd rfl (by first | exact Or.inl rfl | exact Or.inr rfl)) (pgs_cons (pg_name (i := 4) sc_do_move.nd rfl (by first | exact Or.inl rfl | exact Or.inr rfl)) (pgs_cons (pg_name (i := 5) sc_do_move.nd rfl (by first | exact Or.inl rfl | exact Or.inr rfl)) (pgs_nil))))))
      (pss_cons (ps_set (i := 6) sc_do_move.nd rfl (by first | exact Or.inl rfl | exact Or.inr rfl) (pe_ifExp (pt_cmp (pc_isN (pv 5)) rfl) (pe_cal c_barred hr (by decide) rfl (pa_cons (pv 0) (pa_cons (pe_ix ix_list (pv 3) (pe_int) (fun _ _ => rfl)) (pa_cons (pe_ix ix_list (pv 4) (pe_int) (fun _ _ => rfl)) (pa_cons (pe_ix ix_list (pv 4) (pe_int) (fun _ _ => rfl)) (pa_nil)))))) (pv 5)))
      (pss_cons (ps_if (pt_cmp (pc_notN (pv 6)) rfl) (pss_one (ps_ret (pe_tupF (pa_cons (pv 0) (pa_cons (pv 6) (pa_nil)))))) (pss_nil))
      (pss_cons (ps_set (i := 7) sc_do_move.nd rfl (by first | exact Or.inl rfl | exact Or.inr rfl) (pe_lst (pa_cons (pe_tupF (pa_cons (pe_ix ix_list (pv 3) (pe_int) (fun _ _ => rfl)) (pa_cons (pe_ix ix_tup (pv 1) (pe_un un_neg (pe_int)) (fun _ _ => rfl)) (pa_cons (pe_non) (pa_nil))))) (pa_cons (pe_tupF (pa_cons (pe_ix ix_list (pv 3) (pe_int) (fun _ _ => rfl)) (pa_cons (pe_ix ix_tup (pv 2) (pe_un un_neg (pe_int)) (fun _ _ => rfl)) (pa_cons (pe_ix ix_list (pv 4) (pe_int) (fun _ _ => rfl)) (pa_nil))))) (pa_nil)))))
      (pss_one (ps_ret (pe_tupF (pa_cons (pe_cald c_laid hr (by decide) rfl (pa_cons (pv 0) (pa_cons (pv 7) (pa_nil)))) (pa_cons (pe_tupF (pa_cons (pe_str) (pa_cons (pe_ix ix_list (pv 4) (pe_int) (fun _ _ => rfl)) (pa_nil)))) (pa_nil))))))))))
abbrev N_do_swap : List Str := ["tree", "first", "second", "drawers", "nodes", "miss", "one", "other", "changes"]
theorem sc_do_swap : FnScope N_do_swap ["tree", "first", "second"] (defScope s_do_swap) := ⟨rfl, rfl, rfl, by decide +kernel, rfl, by decide +kernel, by decide +kernel⟩
def t_do_swap (K : PySem.W.Frag) (dlv : List V) : TS :=
    tSeq (tAsg (tCall (SpD K P_both_of) [] E0 (tCons (tVar 0) (tCons (tVar 1) (tCons (tVar 2) (tNil))))) (gTup K 3 (gCons (gName 3) (gCons (gName 4) (gCons (gName 5) (gNil))))))
    (tSeq (tIfS (tAnd (tB (tIsN (tVar 5))) (tB (tIsN (tOp (rIxL K) (tVar 4) (tC (.int 1)))))) (tAsg (tTupF (tCons (tC (.str ("none" : Str))) (tCons (tOp (rI0 fun i j => .int (i - j)) (tCB (rLenAny K) (tCons (tVar 2) (tNil))) (tC (.int 1))) (tCons (tC (.int 1)) (tNil))))) (gName 5)) (tNext))
    (tSeq (tIfS (tB (tNotN (tVar 5))) (tRet (tTupF (tCons (tVar 0) (tCons (tVar 5) (tNil))))) (tNext))
    (tSeq (tAsg (tVar 4) (gLst K 2 (gCons (gName 6) (gCons (gName 7) (gNil)))))
    (tSeq (tIfS (tTest (tOp (rEqP K) (tVar 6) (tVar 7))) (tRet (tTupF (tCons (tVar 0) (tCons (tTupF (tCons (tC (.str ("same" : Str))) (tNil))) (tNil))))) (tNext))
    (tSeq (tIfS (tOr (tB (tCall (SpD K P_is_inside) [] E0 (tCons (tVar 0) (tCons (tVar 6) (tCons (tOp (rIxL K) (tVar 3) (tC (.int 1))) (tNil)))))) (tB (tCall (SpD K P_is_inside) [] E0 (tCons (tVar 0) (tCons (tVar 7) (tCons (tOp (rIxL K) (tVar 3) (tC (.int 0))) (tNil))))))) (tRet (tTupF (tCons (tVar 0) (tCons (tTupF (tCons (tC (.str ("inside" : Str))) (tNil))) (tNil))))) (tNext))
    (tSeq (tAsg (tLst (tCons (tTupF (tCons (tOp (rIxL K) (tVar 3) (tC (.int 0))) (tCons (tOp (rIxT K) (tVar 1) (tUn (rU fun i => .int (-i)) (tC (.int 1)))) (tCons (tVar 7) (tNil))))) (tCons (tTupF (tCons (tOp (rIxL K) (tVar 3) (tC (.int 1))) (tCons (tOp (rIxT K) (tVar 2) (tUn (rU fun i => .int (-i)) (tC (.int 1)))) (tCons (tVar 6) (tNil))))) (tNil)))) (gName 8))
    (tRet (tTupF (tCons (tCall (SpD K P_laid) (dlv) E0 (tCons (tVar 0) (tCons (tVar 8) (tNil)))) (tCons (tTupF (tCons (tC (.str ("swapped" : Str))) (tCons (tVar 6) (tCons (tVar 7) (tNil))))) (tNil)))))))))))
theorem wk_do_swap (B : Bs mg) (dlv : List V) (c_both_of : Cal P w K mg base 6 "both_of" (SpD K P_both_of)) (c_is_inside : Cal P w K mg base 5 "is_inside" (SpD K P_is_inside)) (c_laid : CalD P w K mg base 1 "laid" (SpD K P_laid) (dlv)) (hr : Room 6 (A.deeper (envOfC "do_swap" (defScope s_do_swap) s.heap.objs.size f cdv))) :
    PSs (cxOf CX0 P w K mg base N_do_swap "do_swap" (defScope s_do_swap) f cdv A outer s H E).nox (defBody s_do_swap) (t_do_swap K dlv) := by
  exact (pss_cons (ps_asg (pe_cal c_both_of hr (by decide) rfl (pa_cons (pv 0) (pa_cons (pv 1) (pa_cons (pv 2) (pa_nil))))) (pg_tup rfl (pgs_cons (pg_name (i := 3) sc_do_swap.nd rfl (by first | exact Or.inl rfl | exact Or.inr rfl)) (pgs_cons (pg_name (i := 4) sc_do_swap.nd rfl (by first | exact Or.inl rfl | exact Or.inr rfl)) (pgs_cons (pg_name (i := 5) sc_do_swap.nd rfl (by first | exact Or.inl rfl | exact Or.inr rfl)) (pgs_nil))))))
      (pss_cons (ps_if (PW.pt (pw_and (pt_cmp (pc_isN (pv 5)) rfl) (pw_and1 (pt_cmp (pc_isN (pe_ix ix_list (pv 4) (pe_int) (fun _ _ => rfl))) rfl)))) (pss_one (ps_set (i := 5) sc_do_swap.nd rfl (by first | exact Or.inl rfl | exact Or.inr rfl) (pe_tupF (pa_cons (pe_str) (pa_cons (pe_op op_sub (pe_callB call_len (by rfl) B.len_ (by decide +kernel) (pa_cons (pv 2) (pa_nil))) (pe_int)) (pa_cons (pe_int) (pa_nil))))))) (pss_nil))
      (pss_cons (ps_if (pt_cmp (pc_notN (pv 5)) rfl) (pss_one (ps_ret (pe_tupF (pa_cons (pv 0) (pa_cons (pv 5) (pa_nil)))))) (pss_nil))
      (pss_cons (ps_asg (pv 4) (pg_lst rfl (pgs_cons (pg_name (i := 6) sc_do_swap.nd rfl (by first | exact Or.inl rfl | exact Or.inr rfl)) (pgs_cons (pg_name (i := 7) sc_do_swap.nd rfl (by first | exact Or.inl rfl | exact Or.inr rfl)) (pgs_nil)))))
      (pss_cons (ps_if (pt_cmpR (op_eqP hr.units) (pv 6) (pv 7) (nomark _)) (pss_one (ps_ret (pe_tupF (pa_cons (pv 0) (pa_cons (pe_tupF (pa_cons (pe_str) (pa_nil))) (pa_nil)))))) (pss_nil))
      (pss_cons (ps_if (PW.pt (pw_or (pt_val (pe_cal c_is_inside hr (by decide) rfl (pa_cons (pv 0) (pa_cons (pv 6) (pa_cons (pe_ix ix_list (pv 3) (pe_int) (fun _ _ => rfl)) (pa_nil)))))) (pw_or1 (pt_val (pe_cal c_is_inside hr (by decide) rfl (pa_cons (pv 0) (pa_cons (pv 7) (pa_cons (pe_ix ix_list (pv 3) (pe_int) (fun _ _ => rfl)) (pa_nil))))))))) (pss_one (ps_ret (pe_tupF (pa_cons (pv 0) (pa_cons (pe_tupF (pa_cons (pe_str) (pa_nil))) (pa_nil)))))) (pss_nil))
      (pss_cons (ps_set (i := 8) sc_do_swap.nd rfl (by first | exact Or.inl rfl | exact Or.inr rfl) (pe_lst (pa_cons (pe_tupF (pa_cons (pe_ix ix_list (pv 3) (pe_int) (fun _ _ => rfl)) (pa_cons (pe_ix ix_tup (pv 1) (pe_un un_neg (pe_int)) (fun _ _ => rfl)) (pa_cons (pv 7) (pa_nil))))) (pa_cons (pe_tupF (pa_cons (pe_ix ix_list (pv 3) (pe_int) (fun _ _ => rfl)) (pa_cons (pe_ix ix_tup (pv 2) (pe_un un_neg (pe_int)) (fun _ _ => rfl)) (pa_cons (pv 6) (pa_nil))))) (pa_nil)))))
      (pss_one (ps_ret (pe_tupF (pa_cons (pe_cald c_laid hr (by decide) rfl (pa_cons (pv 0) (pa_cons (pv 8) (pa_nil)))) (pa_cons (pe_tupF (pa_cons (pe_str) (pa_cons (pv 6) (pa_cons (pv 7) (pa_nil))))) (pa_nil)))))))))))))
end
end Dw
set_option Elab.async false
set_option linter.all false
set_option maxRecDepth 100000
set_option maxHeartbeats 1000000
/-! Readings of deeds. -/
namespace Dw
open PySem PySem.Spec PyProof.Rows L2
local macro_rules | `(tactic| trivial) => `(tactic| repeat' (first
  | exact ev_var rfl
  | exact ev_int
  | exact ev_str
  | exact ev_non
  | exact ev_bl
  | exact ea_nil
  | exact eo_none
  | exact eb_yes
  | apply ea_cons
  | apply eo_some
  | apply eb_B
  | apply eb_test
  | apply eb_not
  | apply eb_or
  | apply eb_and
  | apply ev_andV
  | apply ev_orV
  | apply ev_notV
  | apply ev_isN
  | apply ev_notN
  | apply isi_ii
  | apply isi_ib
  | apply isi_tt
  | apply isi_ss
  | apply ev_ixT
  | apply ev_slT
  | apply ev_add
  | apply ev_sub
  | apply ev_neg
  | apply ev_lt
  | apply ev_le
  | apply ev_gt
  | apply ev_ge
  | apply ev_ltS
  | apply ev_lenG
  | apply ev_lenD
  | apply ev_tuple
  | apply ev_tup
  | apply ev_lst
  | apply ev_all
  | apply ev_catT
  | apply ev_is_number
  | apply ev_is_name
  | apply ev_is_entry
  | apply ev_are_entries
  | apply ev_is_row
  | apply ev_row_of
  | apply ev_kind_of
  | apply ev_entries_of
  | apply ev_way
  | apply ev_above
  | exact LenD.tup
  | exact LenD.lst
  | rfl
  | assumption
  | exact Nat.le_of_ble_eq_true rfl
  | with_reducible intro _))
theorem thr_in {t : Tree} (W : WF t) : ∀ (w : List Str) (i : Nat) (n : Int), In t n → ∀ m ∈ (thr t i n w).1, In t m
  | [], i, n, hn, m, hm => by
    simp [thr] at hm
    rw [hm]; exact hn
  | x :: w, i, n, hn, m, hm => by
    by_cases hk : kindOf t n = sS
    · simp only [thr, if_pos hk] at hm
      rw [List.mem_singleton.mp hm]; exact hn
    · cases hl : lk (entOf t n) x with
      | none =>
        simp only [thr, if_neg hk, hl] at hm
        rw [List.mem_singleton.mp hm]; exact hn
      | some n' =>
        simp only [thr, if_neg hk, hl] at hm
        rcases List.mem_cons.mp hm with e | hm
        · rw [e]; exact hn
        · exact thr_in W w (i + 1) n' (W.inTo hl) m hm
theorem thr_ne {t : Tree} : ∀ (w : List Str) (i : Nat) (n : Int), (thr t i n w).1 ≠ []
  | [], i, n => by simp [thr]
  | x :: w, i, n => by
    by_cases hk : kindOf t n = sS
    · simp [thr, if_pos hk]
    · cases hl : lk (entOf t n) x with
      | none => simp [thr, if_neg hk, hl]
      | some n' => simp [thr, if_neg hk, hl]
theorem thr_len {t : Tree} : ∀ (w : List Str) (i : Nat) (n : Int), (thr t i n w).1.length ≤ w.length + 1
  | [], i, n => by simp [thr]
  | x :: w, i, n => by
    by_cases hk : kindOf t n = sS
    · simp [thr, if_pos hk]
    · cases hl : lk (entOf t n) x with
      | none => simp [thr, if_neg hk, hl]
      | some n' =>
        have := thr_len (t := t) w (i + 1) n'
        simp [thr, if_neg hk, hl]
        omega
theorem lastN_mem {ns : List Int} (h : ns ≠ []) : lastN ns ∈ ns := by
  unfold lastN
  rw [List.getLast?_eq_some_getLast h]
  exact List.getLast_mem h
theorem lastN_in {t : Tree} (W : WF t) (w : List Str) : In t (lastN (thr t 0 0 w).1) := thr_in W w 0 0 W.in0 _ (lastN_mem (thr_ne w 0 0))
theorem atI_lastN {ns : List Int} (h : ns ≠ []) : atI (ns.map PyData.int) (-1) = some (.int (lastN ns)) := by
  obtain ⟨pre, x, e⟩ : ∃ pre x, ns = pre ++ [x] := ⟨ns.dropLast, ns.getLast h, (List.dropLast_concat_getLast h).symm⟩
  subst e
  rw [List.map_append, lastN, List.getLast?_append]
  exact atI_last _ _
theorem atI_lastW {ns : List Str} (h : ns ≠ []) : atI (ns.map PyData.str) (-1) = some (.str (lastW ns)) := by
  obtain ⟨pre, x, e⟩ : ∃ pre x, ns = pre ++ [x] := ⟨ns.dropLast, ns.getLast h, (List.dropLast_concat_getLast h).symm⟩
  subst e
  rw [List.map_append, lastW, List.getLast?_append]
  exact atI_last _ _
section
variable {K : PySem.W.Frag} {δ : Dl} {tl : TA} {E : XK} {t : Tree} {te ta tb : TE} {n m : Int} {ns : List Int} {w : List Str} {o : Option Int}
theorem entOf_len (W : WF t) (n : Int) : (entOf t n).length ≤ 10000 := by
  unfold entOf
  cases q : rowOf t n with
  | none => exact Nat.zero_le _
  | some r => exact Nat.le_trans (W.fewE r (List.mem_of_find?_eq_some q)) (by decide)
theorem RunD.to_rt {ts : TS} {d e : PyData} (h : RunD K ts δ (.rt d)) (q : d = e) : RunD K ts δ (.rt e) := q ▸ h
theorem ev_last (h : EvD K te δ (eInts ns)) (hn : ns ≠ []) : EvD K (tOp (rIxT K) te (tUn (rU fun i => .int (-i)) (tC (.int 1)))) δ (.int (lastN ns)) := ev_ixT (ds := ns.map .int) h (ev_neg ev_int) (atI_lastN hn)
theorem ev_lastW (h : EvD K te δ (eWay w)) (hn : w ≠ []) : EvD K (tOp (rIxT K) te (tUn (rU fun i => .int (-i)) (tC (.int 1)))) δ (.str (lastW w)) := ev_ixT (ds := w.map .str) h (ev_neg ev_int) (atI_lastW hn)
theorem ev_kindIs {x : Str} (a : EvA K tl δ [eTree t, .int n]) (W : WF t) (h : In t n) : EvD K (tOp (rEqP K) (tCall (SpD K P_kind_of) [] E tl) (tC (.str x))) δ (.bool (decide (kindOf t n = x))) := ev_eqS (ev_kind_of a W h) ev_str
theorem run_drawer_of (ds : List PyData) (d : PyData) (h : P_drawer_of ds d) : RunD K (t_drawer_of K) (ds.map (fun d => some (.d d)) ++ List.replicate (N_drawer_of.length - ds.length) none) (.rt d) := by
  obtain ⟨t, w, W, rfl, ⟨hw, hl⟩, rfl⟩ := h
  have hin := lastN_in W w.dropLast
  have hne := thr_ne (t := t) w.dropLast 0 0
  refine run_letG [2, 3] (x := .tuple [eInts (thr t 0 0 w.dropLast).1, eMissO (thr t 0 0 w.dropLast).2]) (ev_way (w := w.dropLast) (ea_cons (by trivial) (ea_cons ((ev_slT (ds := w.map .str) (by trivial) eo_none (eo_some (ev_neg ev_int))).to ?_) ea_nil)) W (by rw [List.length_dropLast]; omega)) rfl (eg_tup (ds := [_, _]) (egs_cons (eg_name (by simp)) (egs_cons (eg_name (by simp)) egs_nil)) rfl) ?_
  · rw [cutD_dropLast, ← List.map_dropLast]; rfl
  refine run_seq (δ1 := [some (.d (eTree t)), some (.d (eWay w)), some (.d (eInts (thr t 0 0 w.dropLast).1)), some (.d (eMissO (drawerOf t w).2))]) ?_ (run_retT (ev_tup (ea_cons (ev_last (ev_var rfl) hne) (ea_cons (ev_var rfl) ea_nil)) (by trivial)) rfl)
  have hk : ∀ {δ : Dl}, δ[0]? = some (some (.d (eTree t))) → δ[2]? = some (some (.d (eInts (thr t 0 0 w.dropLast).1))) → EvB K (tTest (tOp (rEqP K) (tCall (SpD K P_kind_of) [] E0 (tCons (tVar 0) (tCons (tOp (rIxT K) (tVar 2) (tUn (rU fun i => .int (-i)) (tC (.int 1)))) (tNil)))) (tC (.str ("sheet" : Str))))) δ (decide (kindOf t (lastN (thr t 0 0 w.dropLast).1) = "sheet")) := fun h0 h2 => eb_test (ev_kindIs (ea_cons (ev_var h0) (ea_cons (ev_last (ev_var h2) hne) ea_nil)) W hin)
  unfold drawerOf
  cases hm : (thr t 0 0 w.dropLast).2 with
  | some m =>
    refine run_ifF (eb_and (a := false) (b := false) (eb_B (EvD.to (ev_isN (x := eMiss m) (by trivial)) rfl)) fun z => by cases z) rfl ?_
    simp only [hm]
    exact run_next
  | none =>
    by_cases hs : kindOf t (lastN (thr t 0 0 w.dropLast).1) = sS
    · refine run_ifT (eb_and (a := true) (b := true) (eb_B (EvD.to (ev_isN (x := .none) (by trivial)) rfl)) fun _ => EvB.to (hk rfl rfl) (decide_eq_true hs)) rfl ?_
      refine (run_asg (d := .tuple [.str "sheet", .int ((w.length : Int) - 1)]) (ev_tup (ea_cons ev_str (ea_cons (ev_sub ((ev_lenT (ds := w.map .str) (by trivial)).to (by rw [List.length_map])) ev_int) ea_nil)) (by trivial))).to_eq ?_
      simp only [hm, if_pos hs]
      have : (w.length : Int) - 1 = ((w.length - 1 : Nat) : Int) := by
        have := List.length_pos_iff.mpr hw
        omega
      rw [this]; rfl
    · refine run_ifF (eb_and (a := true) (b := false) (eb_B (EvD.to (ev_isN (x := .none) (by trivial)) rfl)) fun _ => EvB.to (hk rfl rfl) (decide_eq_false hs)) rfl ?_
      simp only [hm, if_neg hs]
      exact run_next
theorem drawer_ok (W : WF t) (h : (drawerOf t w).2 = none) : In t (drawerOf t w).1 ∧ kindOf t (drawerOf t w).1 = sD := by
  have hin := lastN_in W w.dropLast
  have hi : In t (drawerOf t w).1 := hin
  refine ⟨hi, ?_⟩
  rcases W.kind2 hi with k | k
  · exact k
  · exfalso
    unfold drawerOf at h k
    simp only at h k
    cases hm : (thr t 0 0 w.dropLast).2 with
    | some m => rw [hm] at h; cases h
    | none => rw [hm] at h; simp only [if_pos k] at h; cases h
theorem drawer_in (W : WF t) : In t (drawerOf t w).1 := lastN_in W w.dropLast
theorem sD_ne : sD ≠ sS := by decide
theorem ev_drawer_of (a : EvA K tl δ [eTree t, eWay w]) (W : WF t) (h : WayOk w) : EvD K (tCall (SpD K P_drawer_of) [] E tl) δ (.tuple [.int (drawerOf t w).1, eMissO (drawerOf t w).2]) := ev_call a ⟨t, w, W, rfl, h, rfl⟩
theorem ev_entry (a : EvA K tl δ [eTree t, .int n, eWay w]) (W : WF t) (hn : In t n) (hk : kindOf t n = sD) (h : WayOk w) : EvD K (tCall (SpD K P_entry) [] E tl) δ (eIntO (entryOf t n w)) := ev_call a ⟨t, n, w, W, rfl, hn, by rw [hk]; exact sD_ne, h, rfl⟩
theorem ev_is_full (a : EvA K tl δ [eTree t, .int n]) (W : WF t) (hn : In t n) : EvD K (tCall (SpD K P_is_full) [] E tl) δ (.bool (isFull t n)) := ev_call a ⟨t, n, W, rfl, hn, rfl⟩
theorem ev_is_inside (a : EvA K tl δ [eTree t, .int n, .int m]) (W : WF t) (hn : In t m) (hk : kindOf t m = sD) : EvD K (tCall (SpD K P_is_inside) [] E tl) δ (.bool (isInside t n m)) := ev_call a ⟨t, n, m, W, rfl, hn, hk, rfl⟩
theorem eIntO_map : ∀ o : Option Int, (o.map PyData.int).getD .none = eIntO o
  | none => rfl
  | some _ => rfl
theorem run_entry (ds : List PyData) (d : PyData) (h : P_entry ds d) : RunD K (t_entry K) (ds.map (fun d => some (.d d)) ++ List.replicate (N_entry.length - ds.length) none) (.rt d) := by
  obtain ⟨t, n, w, W, rfl, hn, hk, ⟨hw, hl⟩, rfl⟩ := h
  exact run_retT (ev_getE (ev_dictE (ev_entries_of (by trivial) W hn hk) (entOf_rise W n).nodup) (ev_lastW (by trivial) hw)) (eIntO_map _)
theorem run_is_full (ds : List PyData) (d : PyData) (h : P_is_full ds d) : RunD K (t_is_full K) (ds.map (fun d => some (.d d)) ++ List.replicate (N_is_full.length - ds.length) none) (.rt d) := by
  obtain ⟨t, n, W, rfl, hn, rfl⟩ := h
  refine run_retT (ev_andV (b := !(entOf t n).isEmpty) (ev_kindIs (by trivial) W hn) fun q => (ev_neT0 (ds := (entOf t n).map encE) (ev_entries_of (by trivial) W hn ?_) (by trivial) (noD_eEnt _)).to ?_) rfl
  · rw [show kindOf t n = sD from of_decide_eq_true q]; exact sD_ne
  · rw [List.isEmpty_map]
theorem run_is_inside (ds : List PyData) (d : PyData) (h : P_is_inside ds d) : RunD K (t_is_inside K) (ds.map (fun d => some (.d d)) ++ List.replicate (N_is_inside.length - ds.length) none) (.rt d) := by
  obtain ⟨t, n, m, W, rfl, hm, hk, rfl⟩ := h
  exact run_retT (ev_orV (ev_eqI (i := n) (j := m) (by trivial) (by trivial)) fun _ => ev_inT (i := n) (is := up t fuel m) (neg := false) (by trivial) (ev_above (by trivial) W hm hk)) rfl
theorem run_do_look (ds : List PyData) (d : PyData) (h : P_do_look ds d) : RunD K (t_do_look K) (ds.map (fun d => some (.d d)) ++ List.replicate (N_do_look.length - ds.length) none) (.rt d) := by
  obtain ⟨t, w, W, rfl, hl, rfl⟩ := h
  have hin := lastN_in W w
  have hne := thr_ne (t := t) w 0 0
  refine run_letG [2, 3] (x := .tuple [eInts (thr t 0 0 w).1, eMissO (thr t 0 0 w).2]) (ev_way (by trivial) W hl) rfl (eg_tup (ds := [_, _]) (egs_cons (eg_name (by simp)) (egs_cons (eg_name (by simp)) egs_nil)) rfl) ?_
  refine run_ret (ev_tup (ds := [eTree t, eTold (doLook t w).2]) (ea_cons (EvD.to (by trivial) (show eTree t = _ from rfl)) (ea_cons ?_ ea_nil)) (by trivial)) |>.to_rt ?_
  · unfold doLook
    cases hm : (thr t 0 0 w).2 with
    | some m => exact ev_if (b := true) (eb_B (EvD.to (ev_notN (x := eMiss m) (by trivial)) rfl)) (fun _ => by simp only [hm]; exact ev_var rfl) fun z => by cases z
    | none =>
      refine ev_if (b := false) (eb_B (EvD.to (ev_notN (x := .none) (by trivial)) rfl)) (fun z => by cases z) fun _ => ?_
      simp only [hm]
      exact ev_tup (ea_cons ev_str (ea_cons (ev_kind_of (ea_cons (by trivial) (ea_cons (ev_last (ev_var rfl) hne) ea_nil)) W hin) (ea_cons (ev_last (ev_var rfl) hne) ea_nil))) (by trivial)
  · unfold eDone doLook
    cases hm : (thr t 0 0 w).2 <;> simp only [hm]
theorem run_do_list (ds : List PyData) (d : PyData) (h : P_do_list ds d) : RunD K (t_do_list K) (ds.map (fun d => some (.d d)) ++ List.replicate (N_do_list.length - ds.length) none) (.rt d) := by
  obtain ⟨t, w, W, rfl, hl, rfl⟩ := h
  have hin := lastN_in W w
  have hne := thr_ne (t := t) w 0 0
  refine run_letG [2, 3] (x := .tuple [eInts (thr t 0 0 w).1, eMissO (thr t 0 0 w).2]) (ev_way (by trivial) W hl) rfl (eg_tup (ds := [_, _]) (egs_cons (eg_name (by simp)) (egs_cons (eg_name (by simp)) egs_nil)) rfl) ?_
  have hk : ∀ {δ : Dl}, δ[0]? = some (some (.d (eTree t))) → δ[2]? = some (some (.d (eInts (thr t 0 0 w).1))) → EvB K (tTest (tOp (rEqP K) (tCall (SpD K P_kind_of) [] E0 (tCons (tVar 0) (tCons (tOp (rIxT K) (tVar 2) (tUn (rU fun i => .int (-i)) (tC (.int 1)))) (tNil)))) (tC (.str ("sheet" : Str))))) δ (decide (kindOf t (lastN (thr t 0 0 w).1) = "sheet")) := fun h0 h2 => eb_test (ev_kindIs (ea_cons (ev_var h0) (ea_cons (ev_last (ev_var h2) hne) ea_nil)) W hin)
  unfold doList eDone
  cases hm : (thr t 0 0 w).2 with
  | some m =>
    simp only [hm]
    refine run_skip (b := false) (eb_and (a := false) (b := false) (eb_B (EvD.to (ev_isN (x := eMiss m) (by trivial)) rfl)) fun z => by cases z) rfl ?_
    exact run_take (b := true) (eb_B (EvD.to (ev_notN (x := eMiss m) (by trivial)) rfl)) rfl (run_retT (ev_tup (ds := [eTree t, eMiss m]) (by trivial) (by trivial)) rfl)
  | none =>
    simp only [hm]
    by_cases hs : kindOf t (lastN (thr t 0 0 w).1) = sS
    · simp only [if_pos hs]
      refine run_seq (run_ifT (eb_and (a := true) (b := true) (eb_B (EvD.to (ev_isN (x := .none) (by trivial)) rfl)) fun _ => EvB.to (hk rfl rfl) (decide_eq_true hs)) rfl (run_asg (d := eMiss (true, w.length)) (ev_tup (ea_cons ev_str (ea_cons ((ev_lenT (ds := w.map .str) (by trivial)).to (by rw [List.length_map])) ea_nil)) (by trivial)))) ?_
      exact run_take (b := true) (eb_B (EvD.to (ev_notN (x := eMiss (true, w.length)) (by trivial)) rfl)) rfl (run_retT (ev_tup (ds := [eTree t, eMiss (true, w.length)]) (by trivial) (by trivial)) rfl)
    · simp only [if_neg hs]
      refine run_skip (b := false) (eb_and (a := true) (b := false) (eb_B (EvD.to (ev_isN (x := .none) (by trivial)) rfl)) fun _ => EvB.to (hk rfl rfl) (decide_eq_false hs)) rfl ?_
      refine run_skip (b := false) (eb_B (EvD.to (ev_notN (x := .none) (by trivial)) rfl)) rfl (run_retT (ev_tup (ds := [eTree t, .tuple [.str "names", eWay ((entOf t (lastN (thr t 0 0 w).1)).map (·.1))]]) (ea_cons (by trivial) (ea_cons (ev_tup (ea_cons ev_str (ea_cons ((ev_tuple (ds := (((entOf t (lastN (thr t 0 0 w).1)).filter fun _ => true).map fun p => .str p.1)) ?_).to ?_) ea_nil)) (by trivial)) ea_nil)) (by trivial)) rfl)
      · exact ev_lcT encE (fun _ => true) (fun p => .str p.1) (ev_entries_of (ea_cons (by trivial) (ea_cons (ev_last (ev_var rfl) hne) ea_nil)) W hin hs) (entOf_len W _) fun p hp => ⟨_, eg_tup (ds := [_, _]) (egs_cons (eg_name (by simp)) (egs_cons (eg_name (by simp)) egs_nil)) rfl, eb_yes, fun _ => ev_var rfl⟩
      · rw [List.filter_eq_self.mpr fun _ _ => rfl]; unfold eWay; rw [List.map_map]; rfl
end
end Dw
set_option Elab.async false
set_option linter.all false
set_option maxRecDepth 100000
set_option maxHeartbeats 1000000
/-! Readings of deeds that change trees. -/
namespace Dw
open PySem PySem.Spec PyProof.Rows L2
local macro_rules | `(tactic| trivial) => `(tactic| repeat' (first
  | exact ev_var rfl
  | exact ev_int
  | exact ev_str
  | exact ev_non
  | exact ev_bl
  | exact ea_nil
  | exact eo_none
  | exact eb_yes
  | apply ea_cons
  | apply eo_some
  | apply eb_B
  | apply eb_test
  | apply eb_not
  | apply eb_or
  | apply eb_and
  | apply ev_andV
  | apply ev_orV
  | apply ev_notV
  | apply ev_isN
  | apply ev_notN
  | apply isi_ii
  | apply isi_ib
  | apply isi_tt
  | apply isi_ss
  | apply ev_ixT
  | apply ev_slT
  | apply ev_add
  | apply ev_sub
  | apply ev_neg
  | apply ev_lt
  | apply ev_le
  | apply ev_gt
  | apply ev_ge
  | apply ev_ltS
  | apply ev_lenG
  | apply ev_lenD
  | apply ev_tuple
  | apply ev_tup
  | apply ev_lst
  | apply ev_all
  | apply ev_catT
  | apply ev_is_number
  | apply ev_is_name
  | apply ev_is_entry
  | apply ev_are_entries
  | apply ev_is_row
  | apply ev_row_of
  | apply ev_kind_of
  | apply ev_entries_of
  | apply ev_way
  | apply ev_above
  | exact LenD.tup
  | exact LenD.lst
  | rfl
  | assumption
  | exact Nat.le_of_ble_eq_true rfl
  | with_reducible intro _))
section
variable {K : PySem.W.Frag} {δ : Dl} {tl tk : TA} {E : XK} {t : Tree} {te ta tb : TE} {n m : Int} {ns : List Int} {w a b : List Str} {o : Option Int} {dlv : List V} {d : PyData}
theorem eg_lst {vs : List Nat} {gs : TGs} {ds : List PyData} {δ1 : Dl} {n : Nat} (h : EvGs K vs gs δ ds δ1) (hn : ds.length = n) : EvG K vs (gLst K n gs) δ (.list ds) δ1 := fun hs σ H v S r Q q => by
  cases r with
  | @lst a xs _ hp ra => exact ⟨a, xs, rfl, SqL.full hp, by rw [ra.length, hn], h hs σ H xs S ra Q q⟩
theorem ev_callN {P : List PyData → PyData → Prop} {ds es : List PyData} {n m : Nat} (h : EvA K tl δ ds) (h2 : EvA K tk δ es) (hn : ds.length = n) (hm : es.length = m) (hP : P (ds ++ es) d) : EvD K (tCallN n m (SpD K P) (fun xs zs => xs ++ zs) E tl tk) δ d := fun hs σ H hh S Q q =>
  h hs σ H hh S _ fun vs H2 e2 r2 => h2 hs σ H2 (hh.mono e2) (S.mono e2.cut) _ fun zs H3 e3 r3 => ⟨by rw [r2.length, hn], by rw [r3.length, hm], hs, ds ++ es, d, (hh.mono e2).mono e3, (RA.mono e3.cut r2).append r3, hP, fun v H4 e4 r4 => q v H4 ((e2.trans e3).trans e4) r4⟩
theorem ev_both (c : EvA K tl δ [eTree t, eWay a, eWay b]) (W : WF t) (h : WayOk a) (h2 : WayOk b) : EvD K (tCall (SpD K P_both_of) [] E tl) δ (eBoth a (bothOf t a b)) := ev_call c ⟨t, a, b, W, rfl, h, h2, rfl⟩
theorem ev_barred {goal : Int} (c : EvA K tl δ [eTree t, .int goal, .int n, eIntO o]) (W : WF t) (h : In t goal) (hk : kindOf t goal = sD) (hn : In t n) (ho : ∀ m, o = some m → In t m) : EvD K (tCall (SpD K P_barred) [] E tl) δ (eBarred (barredW t goal n o)) := ev_call c ⟨t, goal, n, o, W, rfl, h, hk, hn, ho, rfl⟩
theorem WF.norm (W : WF t) : NormR (t.1 ++ []) := by
  rw [List.append_nil]
  exact ⟨W.inc, W.rise, Nat.le_trans W.few (by decide), fun r hr => Nat.le_trans (W.fewE r hr) (by decide)⟩
theorem WF.norm1 (W : WF t) (k : Str) : NormR (t.1 ++ [(t.2, k, [])]) := by
  refine ⟨List.pairwise_append.mpr ⟨W.inc, List.pairwise_singleton _ _, fun a ha b hb => ?_⟩, fun r hr => ?_, ?_, fun r hr => ?_⟩
  · rw [List.mem_singleton.mp hb]; exact W.made a ha
  · rcases List.mem_append.mp hr with h | h
    · exact W.rise r h
    · rw [List.mem_singleton.mp h]; exact List.Pairwise.nil
  · have := W.few
    rw [List.length_append, List.length_singleton]; omega
  · rcases List.mem_append.mp hr with h | h
    · exact Nat.le_trans (W.fewE r h) (by decide)
    · rw [List.mem_singleton.mp h]; exact Nat.zero_le _
theorem ev_laid {cs : List Chg} (hd : ∀ H, RA K H dlv [.tuple [], .none]) (c : EvA K tl δ [eTree t, .list (cs.map eChg)]) (W : WF t) (hc : ∀ c ∈ cs, In t c.1) (hl : cs.length ≤ 10) : EvD K (tCall (SpD K P_laid) dlv E tl) δ (eTree (laidP t.1 cs t.2)) :=
  ev_callD c hd ⟨t, cs, [], none, W.norm, rfl, fun c h => (by rw [List.append_nil]; exact hc c h), hl, by rw [List.append_nil]; rfl⟩
theorem lenW (W : w ≠ []) : (w.length : Int) - 1 = ((w.length - 1 : Nat) : Int) := by
  have := List.length_pos_iff.mpr W
  omega
theorem entry_in {x : Int} (W : WF t) (h : entryOf t n w = some x) : In t x := W.inTo h
theorem run_do_make (ds : List PyData) (d : PyData) (h : P_do_make ds d) : RunD K (t_do_make K dlv) (ds.map (fun d => some (.d d)) ++ List.replicate (N_do_make.length - ds.length) none) (.rt d) := by
  obtain ⟨t, w, k, W, rfl, hw, rfl⟩ := h
  refine run_letG [3, 4] (ev_drawer_of (by trivial) W hw) rfl (eg_tup (ds := [_, _]) (egs_cons (eg_name (by simp)) (egs_cons (eg_name (by simp)) egs_nil)) rfl) ?_
  unfold doMake eDone
  cases hm : (drawerOf t w).2 with
  | some m => exact run_take (b := true) (eb_B (EvD.to (ev_notN (x := eMiss m) (by trivial)) rfl)) rfl (run_retT (ev_tup (ds := [eTree t, eMiss m]) (by trivial) (by trivial)) (by simp only [hm]; rfl))
  | none =>
    obtain ⟨hin, hk⟩ := drawer_ok W hm
    refine run_skip (b := false) (eb_B (EvD.to (ev_notN (x := .none) (by trivial)) rfl)) rfl ?_
    cases he : entryOf t (drawerOf t w).1 w with
    | some n => exact run_take (b := true) (eb_B (EvD.to (ev_notN (ev_entry (by trivial) W hin hk hw)) (by rw [he]; rfl))) rfl (run_retT (ev_tup (ds := [eTree t, .tuple [.str "there"]]) (by trivial) (by trivial)) (by simp only [hm, he]; rfl))
    | none =>
      refine run_skip (b := false) (eb_B (EvD.to (ev_notN (ev_entry (by trivial) W hin hk hw)) (by rw [he]; rfl))) rfl ?_
      refine run_letG [5, 6] (x := eTree t) (by trivial) rfl (eg_tup (ds := [_, _]) (egs_cons (eg_name (by simp)) (egs_cons (eg_name (by simp)) egs_nil)) rfl) ?_
      refine run_retT (ev_tup (ea_cons (ev_callN (P := P_laid) (ds := [eTree t, .list ([((drawerOf t w).1, lastW w, some t.2)].map eChg)]) (es := [eRows [(t.2, k, [])], eIntO (some (t.2 + 1))]) (ea_cons (by trivial) (ea_cons (ev_lst (ea_cons (ev_tup (ea_cons (by trivial) (ea_cons (ev_lastW (by trivial) hw.1) (ea_cons (by trivial) ea_nil))) (by trivial)) ea_nil) (by trivial)) ea_nil)) (ea_cons (ev_tup (ea_cons (ev_tup (ea_cons (by trivial) (ea_cons (by trivial) (ea_cons (ev_tup ea_nil (by trivial)) ea_nil))) (by trivial)) ea_nil) (by trivial)) (ea_cons (ev_add (by trivial) ev_int) ea_nil)) rfl rfl ⟨t, _, [(t.2, k, [])], some (t.2 + 1), W.norm1 k, rfl, ?_, by trivial, rfl⟩) (ea_cons (ev_tup (ds := [.str "made", .int t.2]) (by trivial) (by trivial)) ea_nil)) (by trivial)) (by simp only [hm, he]; rfl)
      intro c hc
      rw [List.mem_singleton.mp hc]
      obtain ⟨r, hr, e⟩ := hin
      exact ⟨r, List.mem_append_left _ hr, e⟩
theorem run_do_drop (hd : ∀ H, RA K H dlv [.tuple [], .none]) (ds : List PyData) (d : PyData) (h : P_do_drop ds d) : RunD K (t_do_drop K dlv) (ds.map (fun d => some (.d d)) ++ List.replicate (N_do_drop.length - ds.length) none) (.rt d) := by
  obtain ⟨t, w, W, rfl, hw, rfl⟩ := h
  refine run_letG [2, 3] (ev_drawer_of (by trivial) W hw) rfl (eg_tup (ds := [_, _]) (egs_cons (eg_name (by simp)) (egs_cons (eg_name (by simp)) egs_nil)) rfl) ?_
  unfold doDrop eDone
  cases hm : (drawerOf t w).2 with
  | some m => exact run_take (b := true) (eb_B (EvD.to (ev_notN (x := eMiss m) (by trivial)) rfl)) rfl (run_retT (ev_tup (ds := [eTree t, eMiss m]) (by trivial) (by trivial)) (by simp only [hm]; rfl))
  | none =>
    obtain ⟨hin, hk⟩ := drawer_ok W hm
    refine run_skip (b := false) (eb_B (EvD.to (ev_notN (x := .none) (by trivial)) rfl)) rfl ?_
    refine run_let (x := eIntO (entryOf t (drawerOf t w).1 w)) (ev_entry (by trivial) W hin hk hw) rfl ?_
    cases he : entryOf t (drawerOf t w).1 w with
    | none => exact run_take (b := true) (eb_B (EvD.to (ev_isN (x := .none) (by trivial)) rfl)) rfl (run_retT (ev_tup (ds := [eTree t, .tuple [.str "none", .int ((w.length : Int) - 1)]]) (ea_cons (by trivial) (ea_cons (ev_tup (ea_cons ev_str (ea_cons (ev_sub ((ev_lenT (ds := w.map .str) (by trivial)).to (by rw [List.length_map])) ev_int) ea_nil)) (by trivial)) ea_nil)) (by trivial)) (by simp only [hm, he]; rw [lenW hw.1]; rfl))
    | some n =>
      have hn := entry_in W he
      refine run_skip (b := false) (eb_B (EvD.to (ev_isN (x := .int n) (by trivial)) rfl)) rfl ?_
      by_cases hf : isFull t n = true
      · exact run_take (b := true) (eb_B (EvD.to (ev_is_full (n := n) (by trivial) W hn) (by rw [hf]))) rfl (run_retT (ev_tup (ds := [eTree t, .tuple [.str "full"]]) (by trivial) (by trivial)) (by simp only [hm, he, if_pos hf]; rfl))
      · refine run_skip (b := false) (eb_B (EvD.to (ev_is_full (n := n) (by trivial) W hn) (by rw [Bool.not_eq_true] at hf; rw [hf]))) rfl ?_
        refine run_retT (ev_tup (ea_cons (ev_laid (cs := [((drawerOf t w).1, lastW w, none)]) hd (ea_cons (by trivial) (ea_cons (ev_lst (ea_cons (ev_tup (ea_cons (by trivial) (ea_cons (ev_lastW (by trivial) hw.1) (ea_cons (by trivial) ea_nil))) (by trivial)) ea_nil) (by trivial)) ea_nil)) W (fun c hc => by rw [List.mem_singleton.mp hc]; exact hin) (by trivial)) (ea_cons (ev_tup (ds := [.str "dropped", .int n]) (by trivial) (by trivial)) ea_nil)) (by trivial)) (by simp only [hm, he, if_neg hf]; rfl)
theorem run_barred (ds : List PyData) (d : PyData) (h : P_barred ds d) : RunD K (t_barred K) (ds.map (fun d => some (.d d)) ++ List.replicate (N_barred.length - ds.length) none) (.rt d) := by
  obtain ⟨t, goal, n, o, W, rfl, hg, hk, hn, ho, rfl⟩ := h
  unfold barredW
  have e0 : EvB K (tTest (tOp (rEqP K) (tVar 2) (tVar 3))) [some (.d (eTree t)), some (.d (.int goal)), some (.d (.int n)), some (.d (eIntO o))] (decide (o = some n)) := by
    refine eb_test ((ev_eq (x := .int n) (y := eIntO o) (by trivial) (by trivial) rfl (by cases o <;> rfl) (by simp [PyData.depth])).to ?_)
    cases o with
    | none => rfl
    | some m =>
      show PyData.bool (n == m) = _
      congr 1
      by_cases e : n = m
      · subst e; simp
      · have e' : ¬ m = n := fun z => e z.symm
        simp [e, e']
  by_cases h0 : o = some n
  · simp only [if_pos h0]
    exact run_take e0 (decide_eq_true h0) (run_retT (ev_tup (ds := [.str "same"]) (by trivial) (by trivial)) rfl)
  simp only [if_neg h0]
  refine run_skip e0 (decide_eq_false h0) ?_
  have e1 : EvB K (tAnd (tTest (tOp (rEqP K) (tCall (SpD K P_kind_of) [] E0 (tCons (tVar 0) (tCons (tVar 2) (tNil)))) (tC (.str ("drawer" : Str))))) (tB (tCall (SpD K P_is_inside) [] E0 (tCons (tVar 0) (tCons (tVar 2) (tCons (tVar 1) (tNil))))))) [some (.d (eTree t)), some (.d (.int goal)), some (.d (.int n)), some (.d (eIntO o))] (decide (kindOf t n = sD) && isInside t n goal) := eb_and (eb_test (ev_kindIs (by trivial) W hn)) fun _ => eb_B (ev_is_inside (n := n) (m := goal) (by trivial) W hg hk)
  by_cases h1 : (decide (kindOf t n = sD) && isInside t n goal) = true
  · simp only [if_pos h1]
    exact run_take e1 h1 (run_retT (ev_tup (ds := [.str "inside"]) (by trivial) (by trivial)) rfl)
  simp only [if_neg h1]
  refine run_skip e1 (by rwa [Bool.not_eq_true] at h1) ?_
  cases o with
  | none => exact run_take (b := true) (eb_B (EvD.to (ev_isN (x := .none) (by trivial)) rfl)) rfl (run_retT ev_non rfl)
  | some m =>
    have hm := ho m rfl
    refine run_skip (b := false) (eb_B (EvD.to (ev_isN (x := .int m) (by trivial)) rfl)) rfl ?_
    have e2 := ev_neS (K := K) (δ := [some (.d (eTree t)), some (.d (.int goal)), some (.d (.int n)), some (.d (.int m))]) (ev_kind_of (E := E0) (t := t) (n := m) (tl := tCons (tVar 0) (tCons (tVar 3) tNil)) (by trivial) W hm) (ev_kind_of (E := E0) (t := t) (n := n) (tl := tCons (tVar 0) (tCons (tVar 2) tNil)) (by trivial) W hn)
    by_cases h2 : kindOf t m = kindOf t n
    · refine run_skip (b := false) (eb_test (e2.to (by rw [decide_eq_true h2]; rfl))) rfl ?_
      simp only [ne_eq, h2, not_true, if_false]
      refine run_retT (ev_if (b := isFull t m) (d := if isFull t m = true then .tuple [.str "full"] else .none) (eb_B (ev_is_full (n := m) (by trivial) W hm)) (fun q => ?_) fun q => ?_) ?_
      · rw [if_pos q]; exact ev_tup (by trivial) (by trivial)
      · rw [if_neg (by rw [q]; decide)]; exact ev_non
      · split <;> rfl
    · refine run_take (b := true) (eb_test (e2.to (by rw [decide_eq_false h2]; rfl))) rfl ?_
      simp only [ne_eq, h2, not_false_eq_true, if_true]
      exact run_retT (ev_tup (ds := [.str "kind"]) (by trivial) (by trivial)) rfl
/-- what both_of found -/
theorem both_ok {d1 d2 : Int} (W : WF t) (h : bothOf t a b = .ok d1 d2 n o) : d1 = (drawerOf t a).1 ∧ d2 = (drawerOf t b).1 ∧ In t d1 ∧ kindOf t d1 = sD ∧ In t d2 ∧ kindOf t d2 = sD ∧ In t n ∧ ∀ m, o = some m → In t m := by
  unfold bothOf at h
  cases h1 : (drawerOf t a).2 with
  | some m => simp only [h1] at h; cases h
  | none =>
    cases h2 : (drawerOf t b).2 with
    | some m => simp only [h1, h2] at h; cases h
    | none =>
      cases h3 : entryOf t (drawerOf t a).1 a with
      | none => simp only [h1, h2, h3] at h; cases h
      | some x =>
        simp only [h1, h2, h3] at h
        cases h
        obtain ⟨q1, q2⟩ := drawer_ok W h1
        obtain ⟨q3, q4⟩ := drawer_ok W h2
        exact ⟨rfl, rfl, q1, q2, q3, q4, entry_in W h3, fun m hm => entry_in W hm⟩
theorem run_do_link (hd : ∀ H, RA K H dlv [.tuple [], .none]) (ds : List PyData) (d : PyData) (h : P_do_link ds d) : RunD K (t_do_link K dlv) (ds.map (fun d => some (.d d)) ++ List.replicate (N_do_link.length - ds.length) none) (.rt d) := by
  obtain ⟨t, a, b, W, rfl, ha, hb, rfl⟩ := h
  unfold doLink eDone
  cases hB : bothOf t a b with
  | no m i =>
    refine run_letG [3, 4, 5] (ev_both (by trivial) W ha hb) (by rw [hB]; rfl) (eg_tup (ds := [.list [], .list [], eTold (.miss2 m i)]) (egs_cons (eg_name (by simp)) (egs_cons (eg_name (by simp)) (egs_cons (eg_name (by simp)) egs_nil))) rfl) ?_
    exact run_take (b := true) (eb_B (EvD.to (ev_notN (x := eTold (.miss2 m i)) (by trivial)) rfl)) rfl (run_retT (ev_tup (ds := [eTree t, eTold (.miss2 m i)]) (by trivial) (by trivial)) rfl)
  | noEnt d1 d2 o =>
    refine run_letG [3, 4, 5] (ev_both (by trivial) W ha hb) (by rw [hB]; rfl) (eg_tup (ds := [_, _, eTold (.miss2 (false, a.length - 1) 0)]) (egs_cons (eg_name (by simp)) (egs_cons (eg_name (by simp)) (egs_cons (eg_name (by simp)) egs_nil))) rfl) ?_
    exact run_take (b := true) (eb_B (EvD.to (ev_notN (x := eTold (.miss2 (false, a.length - 1) 0)) (by trivial)) rfl)) rfl (run_retT (ev_tup (ds := [eTree t, eTold (.miss2 (false, a.length - 1) 0)]) (by trivial) (by trivial)) rfl)
  | ok d1 d2 n o =>
    obtain ⟨_, _, i1, k1, i2, k2, hn, ho⟩ := both_ok W hB
    refine run_letG [3, 4, 5] (ev_both (by trivial) W ha hb) (by rw [hB]; rfl) (eg_tup (ds := [.list [.int d1, .int d2], .list [.int n, eIntO o], .none]) (egs_cons (eg_name (by simp)) (egs_cons (eg_name (by simp)) (egs_cons (eg_name (by simp)) egs_nil))) rfl) ?_
    refine run_skip (b := false) (eb_B (EvD.to (ev_notN (x := .none) (by trivial)) rfl)) rfl ?_
    have ix : ∀ {δ : Dl} {ds : List PyData} {i : Nat} {j : Int} {x : PyData}, δ[i]? = some (some (.d (.list ds))) → atI ds j = some x → EvD K (tOp (rIxL K) (tVar i) (tC (.int j))) δ x := fun h1 h2 => ev_ixL (ev_var h1) ev_int h2
    have ek := ev_kindIs (K := K) (E := E0) (x := "drawer") (δ := [some (.d (eTree t)), some (.d (eWay a)), some (.d (eWay b)), some (.d (.list [.int d1, .int d2])), some (.d (.list [.int n, eIntO o])), some (.d .none)]) (tl := tCons (tVar 0) (tCons (tOp (rIxL K) (tVar 4) (tC (.int 0))) tNil)) (t := t) (n := n) (ea_cons (ev_var rfl) (ea_cons (ix rfl rfl) ea_nil)) W hn
    by_cases h1 : kindOf t n = sD
    · refine run_take (b := true) (eb_test (ek.to (by rw [show (decide (kindOf t n = "drawer")) = true from decide_eq_true h1]))) rfl (run_retT (ev_tup (ds := [eTree t, .tuple [.str "kind"]]) (by trivial) (by trivial)) (by simp only [if_pos h1]; rfl))
    refine run_skip (b := false) (eb_test (ek.to (by rw [show (decide (kindOf t n = "drawer")) = false from decide_eq_false h1]))) rfl ?_
    simp only [if_neg h1]
    cases o with
    | some m => exact run_take (b := true) (eb_B (EvD.to (ev_notN (x := .int m) (ix rfl rfl)) rfl)) rfl (run_retT (ev_tup (ds := [eTree t, .tuple [.str "there"]]) (by trivial) (by trivial)) rfl)
    | none =>
      refine run_skip (b := false) (eb_B (EvD.to (ev_notN (x := .none) (ix rfl rfl)) rfl)) rfl ?_
      refine run_retT (ev_tup (ea_cons (ev_laid (cs := [(d2, lastW b, some n)]) hd (ea_cons (by trivial) (ea_cons (ev_lst (ea_cons (ev_tup (ea_cons (ix rfl rfl) (ea_cons (ev_lastW (by trivial) hb.1) (ea_cons (ix rfl rfl) ea_nil))) (by trivial)) ea_nil) (by trivial)) ea_nil)) W (fun c hc => by rw [List.mem_singleton.mp hc]; exact i2) (by trivial)) (ea_cons (ev_tup (ds := [.str "linked", .int n]) (ea_cons ev_str (ea_cons (ix rfl rfl) ea_nil)) (by trivial)) ea_nil)) (by trivial)) rfl
theorem run_do_move (hd : ∀ H, RA K H dlv [.tuple [], .none]) (ds : List PyData) (d : PyData) (h : P_do_move ds d) : RunD K (t_do_move K dlv) (ds.map (fun d => some (.d d)) ++ List.replicate (N_do_move.length - ds.length) none) (.rt d) := by
  obtain ⟨t, a, b, W, rfl, ha, hb, rfl⟩ := h
  unfold doMove eDone
  have miss : ∀ {δ : Dl} {x : PyData} {ts us : TS}, δ[0]? = some (some (.d (eTree t))) → δ[6]? = some (some (.d x)) → isNon x = false → RunD K (tSeq (tIfS (tB (tNotN (tVar 6))) (tRet (tTupF (tCons (tVar 0) (tCons (tVar 6) (tNil))))) ts) us) δ (.rt (.tuple [eTree t, x])) := fun {δ x ts us} h0 h6 hx => run_take (b := true) (eb_B (EvD.to (ev_notN (x := x) (ev_var h6)) (by rw [hx]; rfl))) rfl (run_ret (ev_tup (ds := [eTree t, x]) (ea_cons (ev_var h0) (ea_cons (ev_var h6) ea_nil)) (by trivial)))
  cases hB : bothOf t a b with
  | no m i =>
    refine run_letG [3, 4, 5] (ev_both (by trivial) W ha hb) (by rw [hB]; rfl) (eg_tup (ds := [.list [], .list [], eTold (.miss2 m i)]) (egs_cons (eg_name (by simp)) (egs_cons (eg_name (by simp)) (egs_cons (eg_name (by simp)) egs_nil))) rfl) ?_
    exact run_let (x := eTold (.miss2 m i)) (ev_if (b := false) (eb_B (EvD.to (ev_isN (x := eTold (.miss2 m i)) (by trivial)) rfl)) (fun z => by cases z) fun _ => ev_var rfl) rfl (miss rfl rfl rfl)
  | noEnt d1 d2 o =>
    refine run_letG [3, 4, 5] (ev_both (by trivial) W ha hb) (by rw [hB]; rfl) (eg_tup (ds := [_, _, eTold (.miss2 (false, a.length - 1) 0)]) (egs_cons (eg_name (by simp)) (egs_cons (eg_name (by simp)) (egs_cons (eg_name (by simp)) egs_nil))) rfl) ?_
    exact run_let (x := eTold (.miss2 (false, a.length - 1) 0)) (ev_if (b := false) (eb_B (EvD.to (ev_isN (x := eTold (.miss2 (false, a.length - 1) 0)) (by trivial)) rfl)) (fun z => by cases z) fun _ => ev_var rfl) rfl (miss rfl rfl rfl)
  | ok d1 d2 n o =>
    obtain ⟨_, _, i1, k1, i2, k2, hn, ho⟩ := both_ok W hB
    refine run_letG [3, 4, 5] (ev_both (by trivial) W ha hb) (by rw [hB]; rfl) (eg_tup (ds := [.list [.int d1, .int d2], .list [.int n, eIntO o], .none]) (egs_cons (eg_name (by simp)) (egs_cons (eg_name (by simp)) (egs_cons (eg_name (by simp)) egs_nil))) rfl) ?_
    have ix : ∀ {δ : Dl} {ds : List PyData} {i : Nat} {j : Int} {x : PyData}, δ[i]? = some (some (.d (.list ds))) → atI ds j = some x → EvD K (tOp (rIxL K) (tVar i) (tC (.int j))) δ x := fun h1 h2 => ev_ixL (ev_var h1) ev_int h2
    refine run_let (x := eBarred (barredW t d2 n o)) (ev_if (b := true) (eb_B (EvD.to (ev_isN (x := .none) (by trivial)) rfl)) (fun _ => ev_barred (ea_cons (ev_var rfl) (ea_cons (ix rfl rfl) (ea_cons (ix rfl rfl) (ea_cons (ix rfl rfl) ea_nil)))) W i2 k2 hn ho) fun z => by cases z) rfl ?_
    cases hw : barredW t d2 n o with
    | some x =>
      simp only [hw]
      exact miss (x := .tuple [.str x]) rfl rfl rfl
    | none =>
      simp only [hw]
      refine run_skip (b := false) (eb_B (EvD.to (ev_notN (x := .none) (by trivial)) rfl)) rfl ?_
      refine run_let (x := .list (([(d1, lastW a, none), (d2, lastW b, some n)] : List Chg).map eChg)) (ev_lst (ea_cons (ev_tup (ea_cons (ix rfl rfl) (ea_cons (ev_lastW (by trivial) ha.1) (ea_cons (by trivial) ea_nil))) (by trivial)) (ea_cons (ev_tup (ea_cons (ix rfl rfl) (ea_cons (ev_lastW (by trivial) hb.1) (ea_cons (ix rfl rfl) ea_nil))) (by trivial)) ea_nil)) (by trivial)) rfl ?_
      refine run_retT (ev_tup (ea_cons (ev_laid (cs := [(d1, lastW a, none), (d2, lastW b, some n)]) hd (by trivial) W (fun c hc => ?_) (by trivial)) (ea_cons (ev_tup (ds := [.str "moved", .int n]) (ea_cons ev_str (ea_cons (ix rfl rfl) ea_nil)) (by trivial)) ea_nil)) (by trivial)) rfl
      rcases List.mem_cons.mp hc with e | hc
      · rw [e]; exact i1
      · rw [List.mem_singleton.mp hc]; exact i2
theorem run_do_swap (hd : ∀ H, RA K H dlv [.tuple [], .none]) (ds : List PyData) (d : PyData) (h : P_do_swap ds d) : RunD K (t_do_swap K dlv) (ds.map (fun d => some (.d d)) ++ List.replicate (N_do_swap.length - ds.length) none) (.rt d) := by
  obtain ⟨t, a, b, W, rfl, ha, hb, rfl⟩ := h
  unfold doSwap eDone
  have miss : ∀ {δ : Dl} {x : PyData} {ts us : TS}, δ[0]? = some (some (.d (eTree t))) → δ[5]? = some (some (.d x)) → isNon x = false → RunD K (tSeq (tIfS (tB (tNotN (tVar 5))) (tRet (tTupF (tCons (tVar 0) (tCons (tVar 5) (tNil))))) ts) us) δ (.rt (.tuple [eTree t, x])) := fun {δ x ts us} h0 h6 hx => run_take (b := true) (eb_B (EvD.to (ev_notN (x := x) (ev_var h6)) (by rw [hx]; rfl))) rfl (run_ret (ev_tup (ds := [eTree t, x]) (ea_cons (ev_var h0) (ea_cons (ev_var h6) ea_nil)) (by trivial)))
  cases hB : bothOf t a b with
  | no m i =>
    refine run_letG [3, 4, 5] (ev_both (by trivial) W ha hb) (by rw [hB]; rfl) (eg_tup (ds := [.list [], .list [], eTold (.miss2 m i)]) (egs_cons (eg_name (by simp)) (egs_cons (eg_name (by simp)) (egs_cons (eg_name (by simp)) egs_nil))) rfl) ?_
    exact run_skip (b := false) (eb_and (a := false) (b := false) (eb_B (EvD.to (ev_isN (x := eTold (.miss2 m i)) (by trivial)) rfl)) fun z => by cases z) rfl (miss rfl rfl rfl)
  | noEnt d1 d2 o =>
    refine run_letG [3, 4, 5] (ev_both (by trivial) W ha hb) (by rw [hB]; rfl) (eg_tup (ds := [_, _, eTold (.miss2 (false, a.length - 1) 0)]) (egs_cons (eg_name (by simp)) (egs_cons (eg_name (by simp)) (egs_cons (eg_name (by simp)) egs_nil))) rfl) ?_
    exact run_skip (b := false) (eb_and (a := false) (b := false) (eb_B (EvD.to (ev_isN (x := eTold (.miss2 (false, a.length - 1) 0)) (by trivial)) rfl)) fun z => by cases z) rfl (miss rfl rfl rfl)
  | ok d1 d2 n o =>
    obtain ⟨_, _, i1, k1, i2, k2, hn, ho⟩ := both_ok W hB
    refine run_letG [3, 4, 5] (ev_both (by trivial) W ha hb) (by rw [hB]; rfl) (eg_tup (ds := [.list [.int d1, .int d2], .list [.int n, eIntO o], .none]) (egs_cons (eg_name (by simp)) (egs_cons (eg_name (by simp)) (egs_cons (eg_name (by simp)) egs_nil))) rfl) ?_
    have ix : ∀ {δ : Dl} {ds : List PyData} {i : Nat} {j : Int} {x : PyData}, δ[i]? = some (some (.d (.list ds))) → atI ds j = some x → EvD K (tOp (rIxL K) (tVar i) (tC (.int j))) δ x := fun h1 h2 => ev_ixL (ev_var h1) ev_int h2
    cases o with
    | none =>
      refine run_seq (run_ifT (eb_and (a := true) (b := true) (eb_B (EvD.to (ev_isN (x := .none) (by trivial)) rfl)) fun _ => eb_B (EvD.to (ev_isN (x := .none) (ix rfl rfl)) rfl)) rfl (run_asg (d := eTold (.miss2 (false, b.length - 1) 1)) (EvD.to (ev_tup (ea_cons ev_str (ea_cons (ev_sub ((ev_lenT (ds := b.map .str) (by trivial)).to (by rw [List.length_map])) ev_int) (ea_cons ev_int ea_nil))) (by trivial)) (by rw [lenW hb.1]; rfl)))) ?_
      exact miss rfl rfl rfl
    | some m =>
      have hm := ho m rfl
      refine run_skip (b := false) (eb_and (a := true) (b := false) (eb_B (EvD.to (ev_isN (x := .none) (by trivial)) rfl)) fun _ => eb_B (EvD.to (ev_isN (x := .int m) (ix rfl rfl)) rfl)) rfl ?_
      refine run_skip (b := false) (eb_B (EvD.to (ev_notN (x := .none) (by trivial)) rfl)) rfl ?_
      refine run_letG [6, 7] (x := .list [.int n, .int m]) (by trivial) rfl (eg_lst (ds := [_, _]) (egs_cons (eg_name (by simp)) (egs_cons (eg_name (by simp)) egs_nil)) rfl) ?_
      by_cases h1 : n = m
      · simp only [if_pos h1]
        exact run_take (b := true) (eb_test (EvD.to (ev_eqI (i := n) (j := m) (by trivial) (by trivial)) (by rw [decide_eq_true h1]))) rfl (run_retT (ev_tup (ds := [eTree t, .tuple [.str "same"]]) (by trivial) (by trivial)) rfl)
      simp only [if_neg h1]
      refine run_skip (b := false) (eb_test (EvD.to (ev_eqI (i := n) (j := m) (by trivial) (by trivial)) (by rw [decide_eq_false h1]))) rfl ?_
      have e1 : ∀ {δ : Dl}, δ[0]? = some (some (.d (eTree t))) → δ[3]? = some (some (.d (.list [.int d1, .int d2]))) → δ[6]? = some (some (.d (.int n))) → δ[7]? = some (some (.d (.int m))) → EvB K (tOr (tB (tCall (SpD K P_is_inside) [] E0 (tCons (tVar 0) (tCons (tVar 6) (tCons (tOp (rIxL K) (tVar 3) (tC (.int 1))) (tNil)))))) (tB (tCall (SpD K P_is_inside) [] E0 (tCons (tVar 0) (tCons (tVar 7) (tCons (tOp (rIxL K) (tVar 3) (tC (.int 0))) (tNil))))))) δ (isInside t n d2 || isInside t m d1) := fun h0 h3 h6 h7 => eb_or (eb_B (ev_is_inside (ea_cons (ev_var h0) (ea_cons (ev_var h6) (ea_cons (ix h3 rfl) ea_nil))) W i2 k2)) fun _ => eb_B (ev_is_inside (ea_cons (ev_var h0) (ea_cons (ev_var h7) (ea_cons (ix h3 rfl) ea_nil))) W i1 k1)
      by_cases h2 : (isInside t n d2 || isInside t m d1) = true
      · simp only [if_pos h2]
        exact run_take (e1 rfl rfl rfl rfl) h2 (run_retT (ev_tup (ds := [eTree t, .tuple [.str "inside"]]) (by trivial) (by trivial)) rfl)
      simp only [if_neg h2]
      refine run_skip (e1 rfl rfl rfl rfl) (by rwa [Bool.not_eq_true] at h2) ?_
      refine run_let (x := .list (([(d1, lastW a, some m), (d2, lastW b, some n)] : List Chg).map eChg)) (ev_lst (ea_cons (ev_tup (ea_cons (ix rfl rfl) (ea_cons (ev_lastW (by trivial) ha.1) (ea_cons (by trivial) ea_nil))) (by trivial)) (ea_cons (ev_tup (ea_cons (ix rfl rfl) (ea_cons (ev_lastW (by trivial) hb.1) (ea_cons (by trivial) ea_nil))) (by trivial)) ea_nil)) (by trivial)) rfl ?_
      refine run_retT (ev_tup (ea_cons (ev_laid (cs := [(d1, lastW a, some m), (d2, lastW b, some n)]) hd (by trivial) W (fun c hc => ?_) (by trivial)) (ea_cons (ev_tup (ds := [.str "swapped", .int n, .int m]) (by trivial) (by trivial)) ea_nil)) (by trivial)) rfl
      rcases List.mem_cons.mp hc with e | hc
      · rw [e]; exact i1
      · rw [List.mem_singleton.mp hc]; exact i2
end
end Dw
set_option Elab.async false
set_option linter.all false
set_option maxRecDepth 100000
set_option maxHeartbeats 1000000
/-! Readings of deeds: both drawers. -/
namespace Dw
open PySem PySem.Spec PyProof.Rows L2
local macro_rules | `(tactic| trivial) => `(tactic| repeat' (first
  | exact ev_var rfl
  | exact ev_int
  | exact ev_str
  | exact ev_non
  | exact ev_bl
  | exact ea_nil
  | exact eo_none
  | exact eb_yes
  | apply ea_cons
  | apply eo_some
  | apply eb_B
  | apply eb_test
  | apply eb_not
  | apply eb_or
  | apply eb_and
  | apply ev_andV
  | apply ev_orV
  | apply ev_notV
  | apply ev_isN
  | apply ev_notN
  | apply isi_ii
  | apply isi_ib
  | apply isi_tt
  | apply isi_ss
  | apply ev_ixT
  | apply ev_slT
  | apply ev_add
  | apply ev_sub
  | apply ev_neg
  | apply ev_lt
  | apply ev_le
  | apply ev_gt
  | apply ev_ge
  | apply ev_ltS
  | apply ev_lenG
  | apply ev_lenD
  | apply ev_tuple
  | apply ev_tup
  | apply ev_lst
  | apply ev_all
  | apply ev_catT
  | apply ev_is_number
  | apply ev_is_name
  | apply ev_is_entry
  | apply ev_are_entries
  | apply ev_is_row
  | apply ev_row_of
  | apply ev_kind_of
  | apply ev_entries_of
  | apply ev_way
  | apply ev_above
  | exact LenD.tup
  | exact LenD.lst
  | rfl
  | assumption
  | exact Nat.le_of_ble_eq_true rfl
  | with_reducible intro _))
section
variable {K : PySem.W.Frag} {δ δ1 : Dl} {own : Own} {O : OutO} {ts us : TS} {tl tk : TA} {E : XK} {t : Tree} {te ta tb : TE} {n m : Int} {ns : List Int} {w a b : List Str} {o : Option Int} {dlv : List V} {d x : PyData}
theorem runO_ofR (h : RunD K ts δ (.rt d)) (k : O.rt [] d) : RunO K ts δ [] O := fun hs Z H0 D σ H b S f => h hs D σ H S.hid S.sl fun v H' e r => f.2.2 [] d v H' k (b.ex e).1 ⟨S.hid.mono e, fun p hp => by cases hp⟩ r
theorem runO_letG {g : TG} (vs : List Nat) (h : EvD K te δ d) (e : d = x) (hg : EvG K vs g δ x δ1) (r : RunO K us δ1 own O) : RunO K (tSeq (tAsg te g) us) δ own O := by
  subst e; exact runO_seq (runO_of (run_asgG h hg) r)
theorem runO_letD {i : Nat} (h : EvD K te δ d) (e : d = x) (r : RunO K us (δ.set i (some (.d x))) own O) : RunO K (tSeq (tAsg te (gName i)) us) δ own O := by
  subst e; exact runO_seq (runO_of (run_asg h) r)
theorem runO_thaw0 {δ' : Dl} (t : Th own δ δ') (r : RunO K us δ' [] O) : RunO K us δ own O := by
  have := runO_thaw (K := K) (us := us) (own := own) (fs := []) (O := O) t r
  rwa [List.append_nil] at this
theorem run_both_of (ds : List PyData) (d : PyData) (h : P_both_of ds d) : RunD K (t_both_of K) (ds.map (fun d => some (.d d)) ++ List.replicate (N_both_of.length - ds.length) none) (.rt d) := by
  refine spd_runO (PP := P_both_of) (N := N_both_of) (fun ds d h => ?_) ds d h
  obtain ⟨t, a, b, W, rfl, ha, hb, rfl⟩ := h
  refine runO_seq (runO_parL0 fun A B _ _ hBA => ?_)
  let pre : Dl := [some (.d (eTree t)), some (.d (eWay a)), some (.d (eWay b)), some (.v (.ref A)), some (.v (.ref B)), none, none, none, none]
  have step : ∀ {us : TS} (i : Nat) (w : List Str) (c : List PyData) (O : OutO), WayOk w → c.length ≤ 5 → (∀ m, (drawerOf t w).2 = some m → O.rt [] (.tuple [.list [], .list [], eTold (.miss2 m i)])) →
      ((drawerOf t w).2 = none → ∀ δ', Wk δ' pre → O.nx δ' [(B, .l []), (A, .l ((c ++ [PyData.int (drawerOf t w).1]).map .d))]) →
      RunO K (tSeq (tAsg (tCall (SpD K P_drawer_of) [] E0 (tCons (tVar 0) (tCons (tVar 6) (tNil)))) (gTup K 2 (gCons (gName 7) (gCons (gName 8) (gNil)))))
        (tSeq (tIfS (tB (tNotN (tVar 8))) (tRet (tTupF (tCons (tLst (tNil)) (tCons (tLst (tNil)) (tCons (tOp (rCatF K) (tVar 8) (tTupF (tCons (tVar 5) (tNil)))) (tNil)))))) (tNext))
        (tDrop (tBM K "list" rAppend (tVar 3) (tCons (tVar 7) (tNil)))))) [some (.d (eTree t)), some (.d (eWay a)), some (.d (eWay b)), some (.v (.ref A)), some (.v (.ref B)), some (.d (.int i)), some (.d (eWay w)), none, none] [(B, .l []), (A, .l (c.map .d))] O := fun {us} i w c O hw hc hr hn => by
    refine runO_letG [7, 8] (ev_drawer_of (w := w) (by trivial) W hw) rfl (eg_tup (ds := [_, _]) (egs_cons (eg_name (by simp)) (egs_cons (eg_name (by simp)) egs_nil)) rfl) ?_
    cases hm : (drawerOf t w).2 with
    | some m =>
      refine runO_take (evnb_of (eb_B (EvD.to (ev_notN (x := eMiss m) (by trivial)) rfl))) (runO_ret0 (δ' := [some (.d (eTree t)), some (.d (eWay a)), some (.d (eWay b)), some (.v (.ref A)), some (.v (.ref B)), some (.d (.int i)), some (.d (eWay w)), some (.d (.int (drawerOf t w).1)), some (.d (eMiss m))]) (by repeat constructor) (ev_tup (ds := [.list [], .list [], eTold (.miss2 m i)]) (ea_cons (ev_lst ea_nil (by trivial)) (ea_cons (ev_lst ea_nil (by trivial)) (ea_cons ((ev_catT (ds := [.str (if m.1 then "sheet" else "none"), .int m.2]) (es := [.int i]) (by trivial) (by trivial) (by trivial)).to rfl) ea_nil))) (by trivial)) (hr m hm))
    | none =>
      refine runO_skip (evnb_of (eb_B (EvD.to (ev_notN (x := .none) (by trivial)) rfl))) ?_
      refine runO_appendS (i := 3) (a := A) (d := .int (drawerOf t w).1) rfl (List.mem_cons_of_mem _ List.mem_cons_self) (by rw [List.length_map]; omega) (by trivial) ?_
      rw [repl_tl hBA, repl_hd, repl_nil]
      have := hn hm _ (by repeat constructor : Wk (((([some (SD.d (eTree t)), some (.d (eWay a)), some (.d (eWay b)), some (.v (.ref A)), some (.v (.ref B)), some (.d (.int i)), some (.d (eWay w)), none, none] : Dl).set 7 (some (.d (.int (drawerOf t w).1)))).set 8 (some (.d (eMissO none))))) pre)
      rwa [List.map_append] at this
  refine runO_seq (runO_for (wlk_enumT [5, 6] eWay (bs := [a, b]) (ea_cons (ev_tup (ea_cons (by trivial) (ea_cons (by trivial) ea_nil)) (by trivial)) ea_nil)) (fun i δa oa => δa = pre ∧ oa = [(B, .l []), (A, .l ((([a, b].take i).map fun w => PyData.int (drawerOf t w).1).map .d))] ∧ ∀ w ∈ [a, b].take i, (drawerOf t w).2 = none) ⟨_, by repeat constructor, rfl, rfl, fun w hw => by cases hw⟩ ?_ ?_)
  · rintro i hi δa oa ⟨rfl, rfl, hn⟩
    have hi2 : i = 0 ∨ i = 1 := by simp at hi; omega
    rcases hi2 with rfl | rfl
    · refine ⟨_, fun c hc => by cases hc; exact egs_cons (eg_name (by simp)) (egs_cons (eg_name (by simp)) egs_nil), step (us := tNext) 0 a [] _ ha (by decide) (fun m hm => ⟨rfl, ?_⟩) fun hm δ' wk => ⟨pre, wk, rfl, rfl, ?_⟩⟩
      · unfold bothOf; simp only [hm]; rfl
      · intro w hw
        rw [List.mem_singleton.mp hw]; exact hm
    · have ha0 := hn a List.mem_cons_self
      refine ⟨_, fun c hc => by cases hc; exact egs_cons (eg_name (by simp)) (egs_cons (eg_name (by simp)) egs_nil), step (us := tNext) 1 b [.int (drawerOf t a).1] _ hb (by trivial) (fun m hm => ⟨rfl, ?_⟩) fun hm δ' wk => ⟨pre, wk, rfl, rfl, ?_⟩⟩
      · unfold bothOf; simp only [hm, ha0]; rfl
      · intro w hw
        rcases List.mem_cons.mp hw with e | hw
        · rw [e]; exact ha0
        · rw [List.mem_singleton.mp hw]; exact hm
  · rintro δa oa ⟨rfl, rfl, hn⟩
    have ha0 := hn a (by simp)
    have hb0 := hn b (by simp)
    obtain ⟨i1, k1⟩ := drawer_ok W ha0
    obtain ⟨i2, k2⟩ := drawer_ok W hb0
    refine runO_thaw0 (δ' := [some (.d (eTree t)), some (.d (eWay a)), some (.d (eWay b)), some (.d (.list [.int (drawerOf t a).1, .int (drawerOf t b).1])), some (.v (.ref B)), none, none, none, none]) (.keep (.keep (.keep (.o (.l (List.mem_cons_of_mem _ List.mem_cons_self) (ODs.all _ _)) (by repeat constructor))))) ?_
    refine runO_ofR (d := eBoth a (bothOf t a b)) ?_ ⟨rfl, rfl⟩
    refine run_let (x := .list [eIntO (entryOf t (drawerOf t a).1 a), eIntO (entryOf t (drawerOf t b).1 b)]) (ev_lcM (bs := [(drawerOf t a).1, (drawerOf t b).1]) (cs := [a, b]) PyData.int eWay (fun _ => true) (fun p => eIntO (entryOf t p.1 p.2)) (ea_cons (by trivial) (ea_cons (ev_tup (ea_cons (by trivial) (ea_cons (by trivial) ea_nil)) (by trivial)) ea_nil)) (by trivial) rfl fun p hp => ⟨_, egs_cons (eg_name (by simp)) (egs_cons (eg_name (by simp)) egs_nil), eb_yes, fun _ => ?_⟩) rfl ?_
    · have hp' : p = ((drawerOf t a).1, a) ∨ p = ((drawerOf t b).1, b) := by simpa using hp
      rcases hp' with rfl | rfl
      · exact ev_entry (by trivial) W i1 k1 ha
      · exact ev_entry (by trivial) W i2 k2 hb
    · unfold bothOf
      simp only [ha0, hb0]
      cases he : entryOf t (drawerOf t a).1 a with
      | none => exact run_retT (ev_tup (ea_cons (by trivial) (ea_cons (by trivial) (ea_cons (ev_if (b := true) (eb_B (EvD.to (ev_isN (x := .none) (ev_ixL (by trivial) ev_int rfl)) rfl)) (fun _ => ev_tup (ds := [.str "none", .int ((a.length : Int) - 1), .int 0]) (ea_cons ev_str (ea_cons (ev_sub ((ev_lenT (ds := a.map .str) (by trivial)).to (by rw [List.length_map])) ev_int) (ea_cons ev_int ea_nil))) (by trivial)) fun z => by cases z) ea_nil))) (by trivial)) (by rw [lenW ha.1]; rfl)
      | some n => exact run_retT (ev_tup (ea_cons (by trivial) (ea_cons (by trivial) (ea_cons (ev_if (b := false) (eb_B (EvD.to (ev_isN (x := .int n) (ev_ixL (by trivial) ev_int rfl)) rfl)) (fun z => by cases z) fun _ => ev_non) ea_nil))) (by trivial)) rfl
end
end Dw
set_option Elab.async false
set_option linter.all false
set_option maxRecDepth 100000
set_option maxHeartbeats 1000000
/-! The reading of laid. -/
namespace Dw
open PySem PySem.Spec PyProof.Rows L2
local macro_rules | `(tactic| trivial) => `(tactic| repeat' (first
  | exact ev_var rfl
  | exact ev_int
  | exact ev_str
  | exact ev_non
  | exact ev_bl
  | exact ea_nil
  | exact eo_none
  | exact eb_yes
  | apply ea_cons
  | apply eo_some
  | apply eb_B
  | apply eb_test
  | apply eb_not
  | apply eb_or
  | apply eb_and
  | apply ev_andV
  | apply ev_orV
  | apply ev_notV
  | apply ev_isN
  | apply ev_notN
  | apply isi_ii
  | apply isi_ib
  | apply isi_tt
  | apply isi_ss
  | apply ev_ixT
  | apply ev_slT
  | apply ev_add
  | apply ev_sub
  | apply ev_neg
  | apply ev_lt
  | apply ev_le
  | apply ev_gt
  | apply ev_ge
  | apply ev_ltS
  | apply ev_lenG
  | apply ev_lenD
  | apply ev_tuple
  | apply ev_tup
  | apply ev_lst
  | apply ev_all
  | apply ev_catT
  | apply ev_is_number
  | apply ev_is_name
  | apply ev_is_entry
  | apply ev_are_entries
  | apply ev_is_row
  | apply ev_row_of
  | apply ev_kind_of
  | apply ev_entries_of
  | apply ev_way
  | apply ev_above
  | exact LenD.tup
  | exact LenD.lst
  | rfl
  | assumption
  | exact Nat.le_of_ble_eq_true rfl
  | with_reducible intro _))
section
variable {K : PySem.W.Frag} {δ δ1 : Dl} {own : Own} {O : OutO} {ts us : TS} {tl tk ty tv td : TE} {E : XK} {t : Tree} {te ta tb : TE} {n m : Int} {d x : PyData} {hs : List Addr} {σ : St} {H : Hp}
/-- put into an own dict -/
def putS (kvs : List (Key × SD)) (k : Key) (s : SD) : List (Key × SD) := if (kvs.any fun p => decide (p.1 = k)) = true then kvs.map (fun p => if p.1 = k then (p.1, s) else p) else kvs ++ [(k, s)]
theorem SlK.any {G : Hp} {k : Key} : ∀ {kvs : List (Key × SD)} {ws : List (Key × V)}, SlK K G kvs ws → (ws.any fun p => decide (p.1 = k)) = kvs.any fun p => decide (p.1 = k)
  | _, _, .nil => rfl
  | _, _, .cons h t => by simp only [List.any_cons, SlK.any t]
theorem SlK.putMap {G : Hp} {k : Key} {s : SD} {v : V} (hv : SlOk K G s v) : ∀ {kvs : List (Key × SD)} {ws : List (Key × V)}, SlK K G kvs ws → SlK K G (kvs.map (fun p => if p.1 = k then (p.1, s) else p)) (ws.map (fun p => if p.1 = k then (p.1, v) else p))
  | _, _, .nil => .nil
  | _, _, .cons (k := k') h1 t => by
    rw [List.map_cons, List.map_cons]
    by_cases e : k' = k
    · rw [if_pos e, if_pos e]; exact .cons hv (t.putMap hv)
    · rw [if_neg e, if_neg e]; exact .cons h1 (t.putMap hv)
theorem SlK.snoc {G : Hp} {k : Key} {s : SD} {v : V} (hv : SlOk K G s v) : ∀ {kvs : List (Key × SD)} {ws : List (Key × V)}, SlK K G kvs ws → SlK K G (kvs ++ [(k, s)]) (ws ++ [(k, v)])
  | _, _, .nil => .cons hv .nil
  | _, _, .cons h1 t => .cons h1 (t.snoc hv)
theorem SlK.put {G : Hp} {k : Key} {s : SD} {v : V} {kvs : List (Key × SD)} {ws : List (Key × V)} (h : SlK K G kvs ws) (hv : SlOk K G s v) : SlK K G (putS kvs k s) (putK ws k v) := by
  unfold putS putK
  rw [h.any]
  split
  · exact h.putMap hv
  · exact h.snoc hv
theorem runO_dput2 {i : Nat} {E p : Addr} {pk kvs : List (Key × SD)} {k k2 : Key} (hv : δ[i]? = some (some (.v (.ref E)))) (m : (E, .d pk) ∈ own) (hk : EvD K tk δ (kD k)) (lk : lkS pk k = some (.v (.ref p))) (mp : (p, .d kvs) ∈ own) (hl : kvs.length < 10000)
    (h2 : EvD K ty δ (kD k2)) (h : EvD K tv δ d) (kk : O.nx δ (repl own p (.d (putS kvs k2 (.d d))))) : RunO K (sDPut (tDGet (tVar i) tk) ty tv) δ own O := fun hs Z H0 D0 σ H b S f => by
  refine h _ σ H S.hid S.sl _ fun v H1 e1 r1 => ⟨_, S.var hv, hk _ σ H1 (S.mono e1).hid (S.mono e1).sl _ fun kv H2 e2 rk => ?_⟩
  have S2 := (S.mono e1).mono e2
  obtain ⟨ws, w1, w2⟩ := S2.atD m
  have hval : valV ws k = some (.ref p) := by
    rcases w2.val (k := k) with ⟨s, v, q1, q2, q3⟩ | ⟨q1, q2⟩
    · rw [lk] at q1
      cases q1
      have : v = .ref p := q3
      rw [q2, this]
    · rw [lk] at q1; cases q1
  refine ⟨E, .ref p, rfl, ?_, h2 _ σ H2 S2.hid S2.sl _ fun k2v H3 e3 r3 => ?_⟩
  · rw [R.key rk, ← hval]; exact DGet.k w1
  have S3 := S2.mono e3
  obtain ⟨us, u1, u2⟩ := S3.atD mp
  refine ⟨p, _, rfl, .inl ⟨us, k2, u1, R.key r3, by rw [u2.length]; exact Nat.lt_of_lt_of_le hl (by decide), rfl⟩, f.1 _ _ σ _ kk ((((b.ex e1).ex e2).ex e3).upd mp) (S3.upd mp (okd upd_same (u2.put (s := .d d) (R.mono e3.cut (R.mono e2.cut r1)))))⟩
def mapE (e : List (Str × Option Int)) : List (Key × SD) := e.map fun p => (.inr p.1, .d (eIntO p.2))
theorem putS_mapE (e : List (Str × Option Int)) (x : Str) (v : Option Int) : putS (mapE e) (.inr x) (.d (eIntO v)) = mapE (putE e x v) := by
  unfold putS putE mapE
  have : ((e.map fun p => ((.inr p.1 : Key), SD.d (eIntO p.2))).any fun p => decide (p.1 = .inr x)) = e.any fun p => decide (p.1 = x) := by
    rw [List.any_map]
    congr 1
    funext p
    simp
  rw [this]
  split
  · rw [List.map_map, List.map_map]
    refine List.map_congr_left fun p _ => ?_
    show (if (Sum.inr p.1 : Key) = .inr x then _ else _) = _
    by_cases e : p.1 = x
    · subst e; simp
    · rw [if_neg (by simpa using e)]; simp [e]
  · rw [List.map_append]; rfl
theorem mapE_rig {e : List (Str × Option Int)} : ∀ q ∈ mapE e, Rig q.2 := fun q hq => by
  obtain ⟨p, _, rfl⟩ := List.mem_map.mp hq
  show flatD (eIntO p.2) = true
  cases p.2 <;> rfl
theorem pks_rig {kf : Nat → Key} {ps : List Addr} : ∀ q ∈ pks kf ps, Rig q.2 := fun q hq => by
  obtain ⟨p, _, rfl⟩ := List.mem_map.mp hq
  exact trivial
theorem rk_entK {G : Hp} : ∀ {e : Ent} {kvs : List (Key × V)}, RK K G kvs ((entK e).map fun p => (kD p.1, p.2)) → kvs = e.map kvI
  | [], kvs, h => by cases h; rfl
  | p :: e, kvs, h => by
    have r' : RK K G kvs ((kD (.inr p.1), .int p.2) :: (entK e).map fun p => (kD p.1, p.2)) := h
    generalize hk : kD (.inr p.1) = kk at r'
    cases r' with
    | @cons k v kvs' d ps' h1 h2 =>
      have ek := kD_inj hk
      subst ek
      cases h1
      rw [rk_entK h2]; rfl
theorem ev_sortIt {e : Ent} (h : EvD K td δ (eKD (entK e))) : EvD K (tSortIt td) δ (.list ((sortE e).map encE)) := fun hs σ H hh S Q q =>
  h hs σ H hh S _ fun v H1 e1 r1 => by
    cases r1 with
    | @dic a kvs _ hd rk =>
      have e2 : kvs = e.map kvI := rk_entK rk
      refine ⟨a, e, rfl, by rw [← e2]; exact (cut_some hd).2, fun H' l ts hex hl hl' hp => q _ H' (e1.trans hex) ?_⟩
      have hlh : l ∉ hs := (hh.mono e1).notin hl
      refine R.lst (cut_of hlh hl') ?_
      have key : ∀ {ts : List Addr} {es : Ent}, Paired (NewP H1 H') ts es → RA K (cut hs H') (ts.map V.ref) (es.map encE) := by
        intro ts es hp
        induction hp with
        | nil => exact .nil
        | @cons a b as bs h1 h2 ih =>
          obtain ⟨n1, o, n2, n3⟩ := h1
          exact .cons (.tup (.inl ⟨o, cut_of ((hh.mono e1).notin n1) n2, n3⟩) (.cons (.str _) (.cons (.int _) .nil))) ih
      exact key hp
theorem depth_map {β : Type} {f : β → PyData} {k : Nat} : ∀ {l : List β}, (∀ b ∈ l, (f b).depth ≤ k) → PyData.depthAll (l.map f) ≤ k
  | [], _ => by simp [PyData.depthAll]
  | b :: l, h => by
    have h1 := h b List.mem_cons_self
    have h2 := depth_map (l := l) (f := f) fun c hc => h c (List.mem_cons_of_mem _ hc)
    simp only [List.map_cons, PyData.depthAll]
    omega
theorem depth_eEnt (e : Ent) : (eEnt e).depth ≤ 2 := by
  unfold eEnt
  have : PyData.depthAll (e.map encE) ≤ 1 := depth_map fun p _ => by simp [encE, PyData.depth, PyData.depthAll]
  simp only [PyData.depth]
  omega
theorem depth_eRow (r : Row) : (eRow r).depth ≤ 3 := by
  have := depth_eEnt r.2.2
  unfold eRow
  simp only [PyData.depth, PyData.depthAll]
  omega
theorem ev_sortR {rows : List Row} (h : EvD K ta δ (.list (rows.map eRow))) : EvD K (tCB (rSortD K) (tCons ta tNil)) δ (.list ((sortR rows).map eRow)) :=
  ev_sorted eRow h (PySem.W.AllAlike.of fun a b => alike_eRow a b) (PySem.W.Sortable.tuples fun r => ⟨_, _, rfl⟩) (fun r _ => noD_eRow r) fun r _ => Nat.le_trans (depth_eRow r) (by decide)
end
end Dw
set_option Elab.async false
set_option linter.all false
set_option maxRecDepth 100000
set_option maxHeartbeats 1000000
/-! The reading of laid. -/
namespace Dw
open PySem PySem.Spec PyProof.Rows L2
local macro_rules | `(tactic| trivial) => `(tactic| repeat' (first
  | exact ev_var rfl
  | exact ev_int
  | exact ev_str
  | exact ev_non
  | exact ev_bl
  | exact ea_nil
  | exact eo_none
  | exact eb_yes
  | apply ea_cons
  | apply eo_some
  | apply eb_B
  | apply eb_test
  | apply eb_not
  | apply eb_or
  | apply eb_and
  | apply ev_andV
  | apply ev_orV
  | apply ev_notV
  | apply ev_isN
  | apply ev_notN
  | apply isi_ii
  | apply isi_ib
  | apply isi_tt
  | apply isi_ss
  | apply ev_ixT
  | apply ev_slT
  | apply ev_add
  | apply ev_sub
  | apply ev_neg
  | apply ev_lt
  | apply ev_le
  | apply ev_gt
  | apply ev_ge
  | apply ev_ltS
  | apply ev_lenG
  | apply ev_lenD
  | apply ev_tuple
  | apply ev_tup
  | apply ev_lst
  | apply ev_all
  | apply ev_catT
  | apply ev_is_number
  | apply ev_is_name
  | apply ev_is_entry
  | apply ev_are_entries
  | apply ev_is_row
  | apply ev_row_of
  | apply ev_kind_of
  | apply ev_entries_of
  | apply ev_way
  | apply ev_above
  | exact LenD.tup
  | exact LenD.lst
  | rfl
  | assumption
  | exact Nat.le_of_ble_eq_true rfl
  | with_reducible intro _))
section
variable {K : PySem.W.Frag} {δ δ1 : Dl} {own : Own} {O : OutO} {ts us : TS}
def mapN (e : Ent) : List (Key × SD) := (entK e).map fun p => (p.1, .d p.2)
theorem mapN_rig {e : Ent} : ∀ q ∈ mapN e, Rig q.2 := fun q hq => by
  obtain ⟨p, hp, rfl⟩ := List.mem_map.mp hq
  obtain ⟨r, _, rfl⟩ := List.mem_map.mp hp
  rfl
theorem lkK_map {rows : List Row} {F : Row → PyData} {r : Row} (nd : (rows.map (·.1)).Nodup) (h : r ∈ rows) : lkK (rows.map fun r => ((.inl r.1 : Key), F r)) (.inl r.1) = some (F r) := by
  unfold lkK
  induction rows with
  | nil => cases h
  | cons a l ih =>
    rw [List.map_cons]
    have nd' := List.nodup_cons.mp nd
    rcases List.mem_cons.mp h with e | h
    · subst e
      rw [List.find?_cons_of_pos (by simp)]; rfl
    · rw [List.find?_cons_of_neg]
      · exact ih nd'.2 h
      · simp only [decide_eq_true_eq]
        intro z
        have z' : a.1 = r.1 := Sum.inl.inj z
        exact nd'.1 (by show a.1 ∈ _; rw [z']; exact List.mem_map_of_mem (f := (·.1)) h)
theorem fold_kept (l : List (Str × Option Int)) : ∀ i ≤ l.length, foldKD (fun j => .inr ((l[j]?.map (·.1)).getD "")) (fun j => ((l[j]?.map (·.2)).getD none).isSome) (fun j => eIntO ((l[j]?.map (·.2)).getD none)) i = entK ((l.take i).filterMap fun p => p.2.map fun n => (p.1, n)) := by
  intro i
  induction i with
  | zero => intro _; rfl
  | succ i ih =>
    intro hi
    have hlt : i < l.length := hi
    rw [foldKD_succ, ih (by omega), take_succ' (List.getElem?_eq_getElem hlt), List.filterMap_append]
    unfold entK
    rw [List.map_append]
    congr 1
    rw [List.getElem?_eq_getElem hlt]
    generalize l[i] = p
    obtain ⟨x, o⟩ := p
    cases o <;> rfl
theorem pks_at {kf : Nat → Key} {ps : List Addr} {i : Nat} {p : Addr} (h : ps[i]? = some p) : (pks kf ps)[i]? = some (kf i, .v (.ref p)) := by
  unfold pks
  rw [List.getElem?_map, List.getElem?_zipIdx, h]
  simp
theorem pks_len {kf : Nat → Key} {ps : List Addr} : (pks kf ps).length = ps.length := by unfold pks; rw [List.length_map, List.length_zipIdx]
theorem run_laid (ds : List PyData) (d : PyData) (h : P_laid ds d) : RunD K (t_laid K) (ds.map (fun d => some (.d d)) ++ List.replicate (N_laid.length - ds.length) none) (.rt d) := by
  refine spd_runO (PP := P_laid) (N := N_laid) (fun ds d h => ?_) ds d h
  obtain ⟨t, cs, rs, mo, hN, rfl, hc, hcl, rfl⟩ := h
  generalize hR : t.1 ++ rs = R at hN hc
  have nd : (R.map (·.1)).Nodup := IncR.nodup hN.inc
  have hRl := hN.few
  let nd' : Nat → Int := fun i => ((R.map (·.1))[i]?).getD 0
  have hnd : ∀ {i : Nat} {r : Row}, R[i]? = some r → nd' i = r.1 := fun {i r} h => by show ((R.map (·.1))[i]?).getD 0 = _; rw [List.getElem?_map, h]; rfl
  have hinj : ∀ i j, i < R.length → j < R.length → nd' i = nd' j → i = j := fun i j hi hj e => by
    rw [hnd (List.getElem?_eq_getElem hi), hnd (List.getElem?_eq_getElem hj)] at e
    exact (List.getElem_inj nd (h₀ := by simpa using hi) (h₁ := by simpa using hj)).mp (by simpa using e)
  let E0 : Nat → List (Str × Option Int) := fun i => ((R[i]?).map fun r => r.2.2.map fun p => (p.1, some p.2)).getD []
  have hE0 : ∀ {i : Nat} {r : Row}, R[i]? = some r → E0 i = r.2.2.map fun p => (p.1, some p.2) := fun {i r} h => by show ((R[i]?).map _).getD [] = _; rw [h]; rfl
  have hcat : ∀ {δ : Dl}, δ[0]? = some (some (.d (eTree t))) → δ[2]? = some (some (.d (eRows rs))) → EvD K (tOp (rCatF K) (tOp (rIxT K) (tVar 0) (tC (.int 0))) (tVar 2)) δ (.tuple (R.map eRow)) := fun h0 h2 =>
    (ev_catT (ds := t.1.map eRow) (es := rs.map eRow) (ev_ixT (ds := [_, _]) (ev_var h0) ev_int rfl) (ev_var h2) (by
      have : t.1.length + rs.length ≤ 60 := by rw [← List.length_append, hR]; exact hRl
      rw [List.length_map, List.length_map]; omega)).to (by rw [← List.map_append, hR])
  have kfi : ∀ i j, j < i → i < R.length → (Sum.inl (nd' j) : Key) ≠ .inl (nd' i) := fun i j hj hi e => by
    have := hinj j i (by omega) hi (Sum.inl.inj e)
    omega
  let kf : Nat → Key := fun i => .inl (nd' i)
  refine runO_seq (runO_dcN (wlk_tup [5, 6, 7] eRow (bs := R) (hcat rfl rfl)) kf (fun i => .d (mapE (E0 i))) (by omega) kfi (fun i hi => ?_) fun D ps hps hno => ?_)
  · refine ⟨[some (.d (eTree t)), some (.d (.list (cs.map eChg))), some (.d (eRows rs)), some (.d (eIntO mo)), none, some (.d (.int (nd' i))), some (.d (.str R[i].2.1)), some (.d (eEnt R[i].2.2)), none, none, none, none, none, none], fun r hr => ?_, ev_var (i := 5) rfl, ?_⟩
    · rw [List.getElem?_eq_getElem hi] at hr
      cases hr
      rw [hnd (List.getElem?_eq_getElem hi)]
      exact eg_tup (ds := [_, _, _]) (egs_cons (eg_name (by simp)) (egs_cons (eg_name (by simp)) (egs_cons (eg_name (by simp)) egs_nil))) rfl
    · have e : (OC.d (mapE (E0 i))) = .d ((entK R[i].2.2).map fun p => (p.1, .d p.2)) := by
        rw [hE0 (List.getElem?_eq_getElem hi)]
        unfold mapE entK
        rw [List.map_map, List.map_map]; rfl
      rw [e]
      exact en_dictT (kds := entK R[i].2.2) (EvD.to (d := eEnt R[i].2.2) (ev_var rfl) (by unfold eEnt entK; rw [List.map_map]; rfl)) (entK_nodup (Rise.nodup (hN.rise _ (List.getElem_mem hi))))
  have hps' : ps.Nodup := by
    have := (List.nodup_cons.mp hno).2
    exact (List.nodup_append.mp this).1
  have hDp : D ∉ ps := fun m => (List.nodup_cons.mp hno).1 (List.mem_append_left _ m)
  let D0 : Own := [(D, .d (pks kf ps))]
  let ec : Nat → Nat → List (Str × Option Int) := fun j i => chgs (cs.take j) (nd' i) (E0 i)
  let cfj : Nat → Nat → OC := fun j i => .d (mapE (ec j i))
  let δ0 : Dl := [some (.d (eTree t)), some (.d (.list (cs.map eChg))), some (.d (eRows rs)), some (.d (eIntO mo)), some (.v (.ref D)), none, none, none, none, none, none, none, none, none]
  have ecl : ∀ j i, i < R.length → (ec j i).length ≤ 70 := fun j i hi => by
    have h1 := chgs_len (cs := cs.take j) (n := nd' i) (E0 i)
    have h2 := hN.fewE _ (List.getElem_mem hi)
    have h3 : (E0 i).length = R[i].2.2.length := by rw [hE0 (List.getElem?_eq_getElem hi), List.length_map]
    have h4 : (cs.take j).length ≤ cs.length := by rw [List.length_take]; omega
    show (chgs _ _ _).length ≤ 70
    omega
  have ecn : ∀ j i, i < R.length → ((ec j i).map (·.1)).Nodup := fun j i hi => chgs_names (by
    rw [hE0 (List.getElem?_eq_getElem hi), List.map_map]
    exact Rise.nodup (hN.rise _ (List.getElem_mem hi)))
  refine runO_seq (runO_for (wlk_lst [8, 9, 5] eChg (bs := cs) (by trivial)) (fun j δa oa => δa = δ0 ∧ oa = D0 ++ pcs (cfj j) ps) ⟨δ0, by repeat constructor, rfl, ?_⟩ ?_ ?_)
  · rw [List.append_nil]; rfl
  · rintro j hj δa oa ⟨rfl, rfl⟩
    have hce := List.getElem?_eq_getElem hj
    obtain ⟨r, hr, hr1⟩ := hc cs[j] (List.getElem_mem hj)
    obtain ⟨i, hi, hri⟩ := List.mem_iff_getElem.mp hr
    have hni : nd' i = cs[j].1 := by rw [hnd (List.getElem?_eq_getElem hi), hri, hr1]
    obtain ⟨p, hp⟩ : ∃ p, ps[i]? = some p := ⟨ps[i]'(by omega), List.getElem?_eq_getElem _⟩
    have hpD : D ≠ p := fun z => hDp (z ▸ List.mem_of_getElem? hp)
    refine ⟨[some (.d (eTree t)), some (.d (.list (cs.map eChg))), some (.d (eRows rs)), some (.d (eIntO mo)), some (.v (.ref D)), some (.d (eIntO cs[j].2.2)), none, none, some (.d (.int cs[j].1)), some (.d (.str cs[j].2.1)), none, none, none, none], fun c hc => ?_, ?_⟩
    · rw [hce] at hc
      cases hc
      exact eg_tup (ds := [_, _, _]) (egs_cons (eg_name (by simp)) (egs_cons (eg_name (by simp)) (egs_cons (eg_name (by simp)) egs_nil))) rfl
    · refine runO_dput2 (i := 4) (E := D) (p := p) (k := kf i) (k2 := .inr cs[j].2.1) (d := eIntO cs[j].2.2) rfl List.mem_cons_self (ev_var (i := 8) (by show _ = some (some (SD.d (PyData.int (nd' i)))); rw [hni]; rfl)) (lkS_pks (i := i) hp fun q hq e => hinj q i (by omega) hi (Sum.inl.inj e)) (List.mem_append_right _ (mem_pcs hp)) ?_ (ev_var (i := 9) rfl) (ev_var (i := 5) rfl) ⟨δ0, by repeat constructor, rfl, ?_⟩
      · show (mapE _).length < 10000
        unfold mapE
        rw [List.length_map]
        have := ecl j i hi
        omega
      · rw [putS_mapE, repl_app, repl_pcs hp hps']
        congr 1
        · show repl [_] p _ = _
          rw [repl_tl hpD, repl_nil]
        · refine pcs_congr fun q hq => ?_
          show (if q = i then _ else OC.d (mapE (chgs (cs.take j) (nd' q) (E0 q)))) = OC.d (mapE (chgs (cs.take (j + 1)) (nd' q) (E0 q)))
          rw [take_succ' hce, chgs_snoc]
          by_cases z : q = i
          · subst z
            rw [if_pos rfl, if_pos hni.symm]
          · rw [if_neg z, if_neg fun y => z (hinj q i (by omega) hi (by rw [hni, y]))]
  rintro δa oa ⟨rfl, rfl⟩
  have hkept : ∀ {i : Nat}, (hi : i < R.length) → ((ec cs.length i).filterMap fun p => p.2.map fun n => (p.1, n)) = keptE cs R[i] := fun {i} hi => by
    show (chgs (cs.take cs.length) (nd' i) (E0 i)).filterMap _ = _
    rw [List.take_length, hnd (List.getElem?_eq_getElem hi), hE0 (List.getElem?_eq_getElem hi)]; rfl
  let kp : Nat → Ent := fun i => (ec cs.length i).filterMap fun p => p.2.map fun n => (p.1, n)
  have kpl : ∀ i, i < R.length → (kp i).length ≤ 70 := fun i hi => Nat.le_trans (List.length_filterMap_le _ _) (ecl cs.length i hi)
  let dk : Own := D0 ++ pcs (cfj cs.length) ps
  have dkd : ∀ p ∈ dk, ∃ kvs, p.2 = .d kvs ∧ ∀ q ∈ kvs, Rig q.2 := fun p hp => by
    rcases List.mem_append.mp hp with h | h
    · rw [List.mem_singleton.mp h]; exact ⟨_, rfl, pks_rig⟩
    · obtain ⟨q, _, rfl⟩ := List.mem_map.mp h
      exact ⟨_, rfl, mapE_rig⟩
  refine runO_seq (runO_locks (own := []) (dk := dk) dkd fun fz hfz => ?_)
  obtain ⟨od, ws, hm, hk⟩ := hfz (D, .d (pks kf ps)) List.mem_cons_self _ rfl
  refine runF_dcN (wlk_itemsF (i := 4) (a := 5) (b := 7) (E := D) rfl hm hk) kf (fun i => .d (mapN (kp i))) (by rw [pks_len]; omega) (fun i j hj hi => kfi i j hj (by rw [pks_len] at hi; omega)) (fun i hi => ?_) fun K1 qs hqs hnq => ?_
  · rw [pks_len, hps] at hi
    obtain ⟨p, hp⟩ : ∃ p, ps[i]? = some p := ⟨ps[i]'(by omega), List.getElem?_eq_getElem _⟩
    obtain ⟨od2, ws2, hm2, hk2⟩ := hfz (p, cfj cs.length i) (List.mem_append_right _ (mem_pcs hp)) _ rfl
    let l := ec cs.length i
    have hll := ecl cs.length i hi
    have hln := ecn cs.length i hi
    refine ⟨[some (.d (eTree t)), some (.d (.list (cs.map eChg))), some (.d (eRows rs)), some (.d (eIntO mo)), some (.v (.ref D)), some (.d (.int (nd' i))), none, some (.v (.ref p)), none, none, none, none, none, none], fun k s hks => ?_, ev_var (i := 5) rfl, ?_⟩
    · rw [pks_at hp] at hks
      cases hks; rfl
    · have e : (OC.d (mapN (kp i))) = .d ((foldKD (fun j => .inr ((l[j]?.map (·.1)).getD "")) (fun j => ((l[j]?.map (·.2)).getD none).isSome) (fun j => eIntO ((l[j]?.map (·.2)).getD none)) (mapE l).length).map fun p => (p.1, .d p.2)) := by
        have hml : (mapE l).length = l.length := by unfold mapE; rw [List.length_map]
        rw [hml, fold_kept l l.length (Nat.le_refl _), List.take_length]; rfl
      show EvNewF K fz _ _ (OC.d (mapN (kp i)))
      rw [e]
      have hml : (mapE l).length = l.length := by unfold mapE; rw [List.length_map]
      refine en_dcF (wlk_itemsF (i := 7) (a := 9) (b := 11) (E := p) rfl hm2 hk2) _ _ _ (by show (mapE l).length ≤ 10000; rw [hml]; exact Nat.le_trans hll (by decide)) (fun a b hb ha e => ?_) fun j hj => ?_
      · have ha' : a < l.length := by rw [← hml]; exact ha
        have e2 := Sum.inr.inj e
        rw [List.getElem?_eq_getElem (show b < l.length by omega), List.getElem?_eq_getElem ha'] at e2
        have := (List.getElem_inj hln (h₀ := by simpa using (show b < l.length by omega)) (h₁ := by simpa using ha')).mp (by simpa using e2)
        omega
      · have hj' : j < l.length := by rw [← hml]; exact hj
        have hlj := List.getElem?_eq_getElem hj'
        refine ⟨[some (.d (eTree t)), some (.d (.list (cs.map eChg))), some (.d (eRows rs)), some (.d (eIntO mo)), some (.v (.ref D)), some (.d (.int (nd' i))), none, some (.v (.ref p)), none, some (.d (.str l[j].1)), none, some (.d (eIntO l[j].2)), none, none], fun k s hks => ?_, ?_, fun hs => ⟨?_, ?_⟩⟩
        · have hks' : (mapE l)[j]? = some (k, s) := hks
          unfold mapE at hks'
          rw [List.getElem?_map, hlj] at hks'
          cases hks'; rfl
        · refine eb_B ((ev_notN (x := eIntO l[j].2) (by trivial)).to ?_)
          rw [hlj]
          show _ = PyData.bool (l[j].2).isSome
          cases l[j].2 <;> rfl
        · rw [hlj]; exact ev_var rfl
        · rw [hlj]; exact ev_var rfl
  let ck : Nat → OC := fun i => .d (mapN (kp i))
  let dk2 : Own := (K1, .d (pks kf qs)) :: (pcs ck qs ++ []) ++ dk
  have dkd2 : ∀ p ∈ dk2, ∃ kvs, p.2 = .d kvs ∧ ∀ q ∈ kvs, Rig q.2 := fun p hp => by
    rcases List.mem_append.mp hp with h | h
    · rcases List.mem_cons.mp h with h | h
      · rw [h]; exact ⟨_, rfl, pks_rig⟩
      · rw [List.append_nil] at h
        obtain ⟨q, _, rfl⟩ := List.mem_map.mp h
        exact ⟨_, rfl, mapN_rig⟩
    · exact dkd p h
  rw [pks_len, hps] at hqs
  have inq : ∀ {i : Nat} {q : Addr}, qs[i]? = some q → (q, ck i) ∈ dk2 := fun {i q} h => List.mem_append_left _ (List.mem_cons_of_mem _ (List.mem_append_left _ (mem_pcs h)))
  let δ3 : Dl := [some (.d (eTree t)), some (.d (.list (cs.map eChg))), some (.d (eRows rs)), some (.d (eIntO mo)), some (.v (.ref D)), none, none, none, none, none, some (.v (.ref K1)), none, none, none]
  show RunO K _ δ3 dk2 _
  refine runO_seq (runO_locks (own := []) (dk := dk2) dkd2 fun fz2 hfz2 => ?_)
  obtain ⟨od3, ws3, hm3, hk3⟩ := hfz2 (K1, .d (pks kf qs)) (List.mem_append_left _ List.mem_cons_self) _ rfl
  have hnamed : ∀ i, i ≤ R.length → ((List.range i).flatMap fun i => (List.range (mapN (kp i)).length).map fun j => PyData.int (((kp i)[j]?.map (·.2)).getD 0)) = (named cs (R.take i)).map .int := by
    intro i
    induction i with
    | zero => intro _; rfl
    | succ i ih =>
      intro hi
      have hlt : i < R.length := hi
      rw [List.range_succ, List.flatMap_append, ih (by omega), take_succ' (List.getElem?_eq_getElem hlt)]
      unfold named
      rw [List.flatMap_append, List.map_append]
      congr 1
      simp only [List.flatMap_cons, List.flatMap_nil, List.append_nil]
      rw [← hkept hlt]
      show (List.range (mapN (kp i)).length).map (fun j => PyData.int (((kp i)[j]?.map (·.2)).getD 0)) = ((kp i).map (·.2)).map .int
      refine List.ext_getElem (by simp [mapN, entK]) fun j h1 h2 => ?_
      have hj : j < (kp i).length := by simpa [mapN, entK] using h2
      simp [List.getElem?_eq_getElem hj]
  have hnl : ∀ i ≤ R.length, (named cs (R.take i)).length ≤ 10000 := fun i hi => by
    have : (named cs (R.take i)).length ≤ (R.take i).length * 70 := len_flat fun r hr => by
      rw [List.length_map]
      obtain ⟨j, hj, e⟩ := List.mem_iff_getElem.mp (List.mem_of_mem_take hr)
      rw [← e, ← hkept hj]
      exact kpl j hj
    rw [List.length_take] at this
    omega
  refine runF_asg (d := .list ((named cs R).map .int)) ?_ ?_
  · have e : (PyData.list ((named cs R).map .int)) = .list ((List.range (pks kf qs).length).flatMap fun i => (List.range (mapN (kp i)).length).map fun j => PyData.int (((kp i)[j]?.map (·.2)).getD 0)) := by
      rw [pks_len, hqs, hnamed R.length (Nat.le_refl _), List.take_length]
    rw [e]
    refine ev_lc2F (δ := δ3) (wlk_valsF (δ := δ3) (vs := [7, 11]) (i := 10) (b := 7) (E := K1) (by simp) rfl hm3 hk3) (fun i => (mapN (kp i)).length) (fun i j => PyData.int (((kp i)[j]?.map (·.2)).getD 0)) (fun i hi => ?_) fun i hi => ?_
    · rw [pks_len, hqs] at hi
      rw [hnamed i hi, List.length_map]; exact hnl i hi
    · rw [pks_len, hqs] at hi
      obtain ⟨q, hq⟩ : ∃ q, qs[i]? = some q := ⟨qs[i]'(by omega), List.getElem?_eq_getElem _⟩
      obtain ⟨od4, ws4, hm4, hk4⟩ := hfz2 (q, ck i) (inq hq) _ rfl
      refine ⟨[some (.d (eTree t)), some (.d (.list (cs.map eChg))), some (.d (eRows rs)), some (.d (eIntO mo)), some (.v (.ref D)), none, none, some (.v (.ref q)), none, none, some (.v (.ref K1)), none, none, none], fun k s hks => ?_, _, wlk_valsF (vs := [11]) (i := 7) (b := 11) (E := q) (by simp) rfl hm4 hk4, fun j hj => ⟨[some (.d (eTree t)), some (.d (.list (cs.map eChg))), some (.d (eRows rs)), some (.d (eIntO mo)), some (.v (.ref D)), none, none, some (.v (.ref q)), none, none, some (.v (.ref K1)), some (.d (.int (((kp i)[j]?.map (·.2)).getD 0))), none, none], fun k s hks => ?_, ev_var rfl⟩⟩
      · rw [pks_at hq] at hks
        cases hks; rfl
      · unfold mapN entK at hks
        rw [List.getElem?_map, List.getElem?_map] at hks
        cases hkj : (kp i)[j]? with
        | none => rw [hkj] at hks; cases hks
        | some p => rw [hkj] at hks; cases hks; rfl
  let kds : KDs := R.map fun r => ((.inl r.1 : Key), eKD (entK (keptE cs r)))
  show RunO K _ (δ3.set 12 (some (.d (.list ((named cs R).map .int))))) ([] ++ dk2) _
  refine runO_thaw0 (own := dk2) (δ' := [some (.d (eTree t)), some (.d (.list (cs.map eChg))), some (.d (eRows rs)), some (.d (eIntO mo)), some (.v (.ref D)), none, none, none, none, none, some (.d (eKD kds)), none, some (.d (.list ((named cs R).map .int))), none]) (.keep (.keep (.keep (.keep (.keep (.keep (.keep (.keep (.keep (.keep (.o (.k (List.mem_append_left _ List.mem_cons_self) ?_) (by repeat constructor)))))))))))) ?_
  · rw [show kds = qs.zipIdx.map fun p => (kf p.2, eKD (entK (kp p.2))) from zip_map (rows := R) (F := fun i => (kf i, eKD (entK (kp i)))) (G := fun r => ((.inl r.1 : Key), eKD (entK (keptE cs r)))) hqs fun i r h => by
      have hi : i < R.length := (List.getElem?_eq_some_iff.mp h).1
      have e := hkept hi
      rw [(List.getElem?_eq_some_iff.mp h).2] at e
      show ((Sum.inl (nd' i) : Key), eKD (entK (kp i))) = _
      rw [hnd h]
      show (_, eKD (entK ((ec cs.length i).filterMap _))) = _
      rw [e]]
    exact ODk.pk (own := dk2) (kf := kf) (df := fun i => eKD (entK (kp i))) qs.zipIdx fun p hp => .k (inq (List.mem_zipIdx_iff_getElem?.mp hp)) (ODk.all _ _)
  let f : Row → Row := fun r => (r.1, r.2.1, sortE (keptE cs r))
  refine runO_ofR ?_ ⟨rfl, rfl⟩
  refine run_let (x := .list ((R.map f).map eRow)) (ev_lcT eRow (fun _ => true) (fun r => eRow (f r)) (bs := R) (hcat rfl rfl) (by omega) fun r hr => ⟨_, eg_tup (ds := [_, _, _]) (egs_cons (eg_name (by simp)) (egs_cons (eg_name (by simp)) (egs_cons (eg_name (by simp)) egs_nil))) rfl, eb_yes, fun _ => ev_tup (ds := [.int r.1, .str r.2.1, eEnt (sortE (keptE cs r))]) (ea_cons (by trivial) (ea_cons (by trivial) (ea_cons (ev_tuple (ds := (sortE (keptE cs r)).map encE) (ev_sortIt (ev_dget (k := .inl r.1) (kds := kds) (by trivial) (by trivial) (lkK_map nd hr)))) ea_nil))) (by trivial)⟩) (by rw [List.filter_eq_self.mpr fun _ _ => rfl, List.map_map]; rfl) ?_
  let pf : Row → Bool := fun r => decide (r.1 = 0) || decide (r.1 ∈ named cs R)
  refine run_let (x := .list (((R.map f).filter pf).map eRow)) (ev_lcL eRow pf eRow (bs := R.map f) (by trivial) (by rw [List.length_map]; omega) fun r hr => ⟨_, eg_name (by simp), eb_or (eb_test (ev_eqI (i := r.1) (j := 0) (ev_ixT (ds := [_, _, _]) (ev_var rfl) ev_int rfl) ev_int)) fun _ => eb_test ((ev_inL (i := r.1) (is := named cs R) (neg := false) (ev_ixT (ds := [_, _, _]) (ev_var rfl) ev_int rfl) (ev_var rfl))), fun _ => ev_var rfl⟩) rfl ?_
  refine run_retT (ev_tup (ea_cons (ev_tuple (ds := (sortR ((R.map f).filter pf)).map eRow) (ev_sortR (ev_var rfl))) (ea_cons (ev_if (b := !mo.isSome) (d := .int (mo.getD t.2)) (eb_B ((ev_isN (x := eIntO mo) (ev_var rfl)).to (by cases mo <;> rfl))) (fun q => ?_) fun q => ?_) ea_nil)) (by trivial)) ?_
  · cases mo with
    | none => exact ev_ixT (ds := [_, _]) (ev_var rfl) ev_int rfl
    | some m => cases q
  · cases mo with
    | none => cases q
    | some m => exact ev_var rfl
  · have hinc : IncR ((R.map f).filter pf) := List.Pairwise.filter _ (List.pairwise_map.mpr hN.inc)
    rw [sortR_self hinc, List.filter_map]
    rfl
end
end Dw
set_option Elab.async false
set_option linter.all false
set_option maxRecDepth 100000
set_option maxHeartbeats 1000000
/-! sorted(tuple of texts). -/
namespace Dw
open PySem PySem.Spec PyProof.Rows L2 PySem.W
def rSortTS (K : PySem.W.Frag) : List V → Hp → VK → Prop := fun xs H Q => ∃ (a : Addr) (ws : List Str), xs = [.ref a] ∧ SqT K H a (ws.map V.str) ∧ ∀ p, H p = none → Q (.ref p) (upd H p (.lst ((ws.mergeSort (dataLe false PyData.str)).map V.str)))
theorem each_strs : ∀ {ws : List Str} {us : List Value}, Vals (ws.map V.str) us → EachIs (fun u (x : Str) => ∃ t, u = .str x t) us ws
  | [], _, h => by cases h; exact .nil
  | x :: ws, _, h => by
    have h' : Vals (V.str x :: ws.map V.str) _ := h
    cases h' with
    | cons r t => exact .cons r (each_strs t)
theorem vals_of_strs : ∀ {ws : List Str} {us : List Value}, EachIs (fun u (x : Str) => ∃ t, u = .str x t) us ws → Vals (ws.map V.str) us
  | _, _, .nil => .nil
  | _, _, .cons h t => .cons h (vals_of_strs t)
section
variable {X : Cx}
theorem call_sortTS (hu : X.A.units + 64 < cLine) : CallR X (.builtin "sorted") (rSortTS X.K) := by
  intro pins s σ H xs us Q I r h
  obtain ⟨a, ws, rfl, hq, q⟩ := h
  obtain ⟨u, rfl, rx⟩ := vals1 r
  cases rx
  obtain ⟨its, rv, ⟨o, ho, hc, n, hd⟩, hz⟩ := I.tuple hq
  have e1 := each_strs rv
  have hl : its.length = ws.length := e1.length
  rw [List.length_map] at hz
  refine PySem.Calls.call_function_entry kind_sorted plain_sorted entry_sorted (args_sorted1 _) ?_
  unfold Builtin.«sorted»
  refine wpAny_bind (m := checkCount "sorted" 1 1 _) (wpAny_pure ?_)
  refine wpAny_bind (wpAny_collect_seq a (.inr rfl) ho hc hd (fun h' hk => ?_) (by rw [List.size_toArray, hl]; exact hz))
  refine wpAny_bind (wpAny_newList ?_ (by simpa [hl] using hz))
  have ho2 : (h'.push { cls := .type "list", data := .seq its.toArray.toList.toArray }).get? h'.objs.size = some (seqObj "list" its.toArray 0) := Heap.get?_push_size _ rfl
  have I2 : Inv X pins σ H { s with heap := h' } := I.kept (t' := s.toks) hk
  have hHn : H h'.objs.size = none := I2.hok.fresh (Nat.le_refl _)
  have hu2 : ∀ b ∈ ws, X.A.in1.units + 1 + (PyData.str b).depth < cLine := fun b _ => by
    have : (PyData.str b).depth = 0 := by simp [PyData.depth]
    show X.A.units + 1 + 1 + _ < _
    omega
  refine wpAny_bind (wpAny_holding (wpAny_mono (list_sort_data (bs := ws) (enc := PyData.str) (R := fun u (x : Str) => ∃ t, u = .str x t) (vs := its) (Q := fun _ s' => EP X pins σ Q (Value.ref h'.objs.size) s') ho2 e1 (e1.mono fun u x hx => ?_) (AllAlike.of fun _ _ => by simp [alike]) (Sortable.others fun b => ⟨(fun z => nomatch z), fun xs z => nomatch z⟩) (Nat.le_trans hz (by decide)) hu2 fun out hlen eo => ?_) (fun _ s' x => ?_) fun _ _ e => e))
  · obtain ⟨t, rfl⟩ := hx
    exact ⟨[], .str _ _, by simp⟩
  · obtain ⟨c, hc2⟩ := sortedHeap_at (vs := its) (out := out.toArray) ho2
    have kF : ∀ b o, s.heap.get? b = some o → (sortedHeap (h'.push { cls := .type "list", data := .seq its.toArray.toList.toArray }) h'.objs.size its out.toArray).get? b = some o := fun b o e => by
      have e1 : h'.get? b = some o := hk b o e
      refine (sortedHeap_old (Nat.ne_of_lt (Heap.lt_size e1)) ?_).trans (Heap.get?_push_of_some _ e1)
      exact Heap.lt_size (Heap.get?_push_of_some _ e1)
    generalize hhF : sortedHeap (h'.push { cls := .type "list", data := .seq its.toArray.toList.toArray }) h'.objs.size its out.toArray = hF at hc2 kF
    have I3 : Inv X pins σ H { s with heap := hF } := I.kept (t' := s.toks) kF
    have J2 : Inv X pins σ (upd H h'.objs.size (.lst ((ws.mergeSort (dataLe false PyData.str)).map V.str))) { s with heap := hF } :=
      I3.take (h' := hF) (t' := s.toks) (fun b ob _ e => e) (I2.fpOk (Nat.le_refl _) hHn) ⟨(by rw [List.length_map, List.length_mergeSort]; exact hz), _, c, vals_of_strs eo, hc2⟩
    show EP X pins σ Q (Value.ref h'.objs.size) { s with heap := _ }
    have e9 : sortedHeap (h'.push { cls := .type "list", data := .seq its.toArray.toList.toArray }) h'.objs.size its out.toArray = hF := hhF
    exact ⟨.ref h'.objs.size, _, J2, rfl, q _ hHn⟩
  · exact wpAny_pure ⟨_, rfl, x⟩
end
end Dw
set_option Elab.async false
set_option linter.all false
set_option maxRecDepth 100000
set_option maxHeartbeats 1000000
/-! Promises of renaming. -/
namespace Dw
open PySem PySem.Spec PyProof.Rows L2
abbrev NP := List (Str × Str)
abbrev IP := List (Int × Int)
def npD (np : NP) : PyData := .tuple (np.map fun p => .tuple [.str p.1, .str p.2])
def ipD (ip : IP) : PyData := .tuple (ip.map fun p => .tuple [.int p.1, .int p.2])
def npK (np : NP) : KDs := np.map fun p => (.inr p.1, .str p.2)
def ipK (ip : IP) : KDs := ip.map fun p => (.inl p.1, .int p.2)
def fOf (np : NP) (x : Str) : Str := ((np.find? fun p => decide (p.1 = x)).map (·.2)).getD x
def gOf (ip : IP) (n : Int) : Int := ((ip.find? fun p => decide (p.1 = n)).map (·.2)).getD n
structure NpOk (np : NP) : Prop where
  nd : (np.map (·.1)).Nodup
  few : np.length ≤ 60
structure IpOk (ip : IP) : Prop where
  nd : (ip.map (·.1)).Nodup
  few : ip.length ≤ 60
structure RenOk (f : Str → Str) (g : Int → Int) (t : Tree) : Prop where
  rows : (t.1.map fun r => g r.1).Nodup
  ents : ∀ r ∈ t.1, (r.2.2.map fun p => f p.1).Nodup
  few : t.1.length ≤ 60
  fewE : ∀ r ∈ t.1, r.2.2.length ≤ 70
def P_renamed (ds : List PyData) (d : PyData) : Prop := ∃ t np ip, NpOk np ∧ IpOk ip ∧ RenOk (fOf np) (gOf ip) t ∧ ds = [eTree t, npD np, ipD ip] ∧ d = eTree (ren (fOf np) (gOf ip) t)
def P_way_renamed (ds : List PyData) (d : PyData) : Prop := ∃ w np, ds = [eWay w, eKD (npK np)] ∧ w.length ≤ 100 ∧ d = eWay (w.map (fOf np))
def P_renamed_deed (ds : List PyData) (d : PyData) : Prop := ∃ dd np, NpOk np ∧ DeedOk dd ∧ ds = [eDeed dd, npD np] ∧ d = eDeed (renDeed (fOf np) dd)
def wordT (x : Str) : Prop := x = "dropped" ∨ x = "linked" ∨ x = "moved"
def wordW (x : Str) : Prop := x = "there" ∨ x = "full" ∨ x = "kind" ∨ x = "same" ∨ x = "inside"
def ToldOk : Told → Prop
  | .names xs => xs.length ≤ 100
  | .wd x => wordW x
  | .one x _ => wordT x
  | _ => True
def P_renamed_told (ds : List PyData) (d : PyData) : Prop := ∃ td np ip, NpOk np ∧ IpOk ip ∧ ToldOk td ∧ ds = [eTold td, npD np, ipD ip] ∧ d = eTold (renTold (fOf np) (gOf ip) td)
def P__law_due (ds : List PyData) (d : PyData) : Prop := ∃ t np ip, RenOk (fOf np) (gOf ip) t ∧ (∀ r ∈ t.1, r.2.2.length ≤ 60) ∧ ds = [eTree t, eKD (npK np), eKD (ipK ip)] ∧ d = eTree (ren (fOf np) (gOf ip) t)
def sortNp (l : NP) : NP := l.mergeSort (PySem.W.dataLe false fun p => .tuple [.str p.1, .str p.2])
def sortIp (l : IP) : IP := l.mergeSort (PySem.W.dataLe false fun p => .tuple [.int p.1, .int p.2])
def backN (np : NP) : NP := sortNp (np.map fun p => (p.2, p.1))
def backI (ip : IP) : IP := sortIp (ip.map fun p => (p.2, p.1))
def P__law_back (ds : List PyData) (d : PyData) : Prop := (∃ np : NP, np.length ≤ 60 ∧ ds = [npD np] ∧ d = npD (backN np)) ∨ ∃ ip : IP, ip.length ≤ 60 ∧ ds = [ipD ip] ∧ d = ipD (backI ip)
abbrev rSortDS : List V → Hp → VK → Prop := fun xs H Q => ∃ (a : Addr) (kvs : List (Key × V)) (ks : List Str), xs = [.ref a] ∧ Rd H a (.dK kvs) ∧ kvs.map (·.1) = ks.map Sum.inr ∧ ks.length < 64 ∧
    ∀ ys p, ys.Perm ks → sortedS ys = true → H p = none → Q (.ref p) (upd H p (.lst (ys.map V.str)))
abbrev rSortDI : List V → Hp → VK → Prop := fun xs H Q => ∃ (a : Addr) (kvs : List (Key × V)) (ks : List Int), xs = [.ref a] ∧ Rd H a (.dK kvs) ∧ kvs.map (·.1) = ks.map Sum.inl ∧ ks.length < 64 ∧
    ∀ (ys : List Int) (p : Addr), ys.Perm ks → ys.Pairwise (· ≤ ·) → H p = none → Q (.ref p) (upd H p (.lst (ys.map V.int)))
end Dw
set_option Elab.async false
set_option linter.all false
set_option maxRecDepth 100000
set_option maxHeartbeats 600000
namespace Dw
open PySem PySem.Spec PyProof.Rows L2
section
variable {P : Program} {w : World} {K : PySem.W.Frag} {mg : Str → Option Value} {base : Heap} {f : Addr} {cdv : Value} {A : Around} {outer : List Env} {s : Shared} {H : Hp} {E : XK}
abbrev N_renamed : List Str := ["tree", "names", "nodes", "rows", "made", "called", "numbers", "found", "node", "kind", "entries", "some", "name", "to"]
theorem sc_renamed : FnScope N_renamed ["tree", "names", "nodes"] (defScope s_renamed) := ⟨rfl, rfl, rfl, by decide +kernel, rfl, by decide +kernel, by decide +kernel⟩
def t_renamed (K : PySem.W.Frag) : TS :=
    tSeq (tAsg (tVar 0) (gTup K 2 (gCons (gName 3) (gCons (gName 4) (gNil)))))
    (tSeq (tAsg (tTupF (tCons (tCB (rDictF K) (tCons (tVar 1) (tNil))) (tCons (tCB (rDictF K) (tCons (tVar 2) (tNil))) (tNil)))) (gTup K 2 (gCons (gName 5) (gCons (gName 6) (gNil)))))
    (tSeq (tAsg (tLst (tNil)) (gName 7))
    (tSeq (tFor (iTup K (tVar 3)) (gTup K 3 (gCons (gName 8) (gCons (gName 9) (gCons (gName 10) (gNil))))) (tSeq (tAsg (tLc (iTup K (tVar 10)) (gTup K 2 (gCons (gName 12) (gCons (gName 13) (gNil)))) (tYes) (tTupF (tCons (tDGet2 (tVar 5) (tVar 12) (tVar 12)) (tCons (tDGet2 (tVar 6) (tVar 13) (tVar 13)) (tNil)))) [12, 13]) (gName 11))
    (tDrop (tBM K "list" rAppend (tVar 7) (tCons (tTupF (tCons (tDGet2 (tVar 6) (tVar 8) (tVar 8)) (tCons (tVar 9) (tCons (tCB (rTupF K) (tCons (tCB (rSortD K) (tCons (tVar 11) (tNil))) (tNil))) (tNil))))) (tNil))))))
    (tRet (tTupF (tCons (tCB (rTupF K) (tCons (tCB (rSortD K) (tCons (tVar 7) (tNil))) (tNil))) (tCons (tVar 4) (tNil))))))))
theorem wk_renamed (B : Bs mg)   (hr : Room 0 (A.deeper (envOfC "renamed" (defScope s_renamed) s.heap.objs.size f cdv))) :
    PSs (cxOf CX0 P w K mg base N_renamed "renamed" (defScope s_renamed) f cdv A outer s H E).nox (defBody s_renamed) (t_renamed K) := by
  exact (pss_cons (ps_asg (pv 0) (pg_tup rfl (pgs_cons (pg_name (i := 3) sc_renamed.nd rfl (by first | exact Or.inl rfl | exact Or.inr rfl)) (pgs_cons (pg_name (i := 4) sc_renamed.nd rfl (by first | exact Or.inl rfl | exact Or.inr rfl)) (pgs_nil)))))
      (pss_cons (ps_asg (pe_tupF (pa_cons (pe_callTy (call_dictF rfl) (by rfl) B.dict_ (by decide +kernel) (pa_cons (pv 1) (pa_nil))) (pa_cons (pe_callTy (call_dictF rfl) (by rfl) B.dict_ (by decide +kernel) (pa_cons (pv 2) (pa_nil))) (pa_nil)))) (pg_tup rfl (pgs_cons (pg_name (i := 5) sc_renamed.nd rfl (by first | exact Or.inl rfl | exact Or.inr rfl)) (pgs_cons (pg_name (i := 6) sc_renamed.nd rfl (by first | exact Or.inl rfl | exact Or.inr rfl)) (pgs_nil)))))
      (pss_cons (ps_set (i := 7) sc_renamed.nd rfl (by first | exact Or.inl rfl | exact Or.inr rfl) (pe_lst (pa_nil)))
      (pss_cons (ps_for PassesOwn.never rfl (pi_tup (pv 3)) (pg_tup rfl (pgs_cons (pg_name (i := 8) sc_renamed.nd rfl (by first | exact Or.inl rfl | exact Or.inr rfl)) (pgs_cons (pg_name (i := 9) sc_renamed.nd rfl (by first | exact Or.inl rfl | exact Or.inr rfl)) (pgs_cons (pg_name (i := 10) sc_renamed.nd rfl (by first | exact Or.inl rfl | exact Or.inr rfl)) (pgs_nil))))) (pss_cons (ps_setLc (i := 11) (own := [("name", 12), ("to", 13)]) (g := gTup K 2 (gCons (gName 12) (gCons (gName 13) (gNil)))) (tt := tYes) (te := tTupF (tCons (tDGet2 (tVar 5) (tVar 12) (tVar 12)) (tCons (tDGet2 (tVar 6) (tVar 13) (tVar 13)) (tNil)))) rfl sc_renamed.nd rfl rfl (sw_true rfl rfl rfl (by decide +kernel)) (pi_tup (pv 10)) (blkOk_by (own := [("name", 12), ("to", 13)]) (N := N_renamed) (sc := defScope s_renamed) (by decide +kernel)) (fun _ _ _ _ _ => pg_tup rfl (pgs_cons (pg_name (i := 12) sc_renamed.nd rfl (by first | exact Or.inl rfl | exact Or.inr rfl)) (pgs_cons (pg_name (i := 13) sc_renamed.nd rfl (by first | exact Or.inl rfl | exact Or.inr rfl)) (pgs_nil)))) (fun _ _ _ _ _ => pts_nil) (fun _ _ _ _ _ => pe_tupF (pa_cons (pe_dget2 (hu_of hr) (pv 5) (pv 12) (pv 12) ⟨rfl, rfl, rfl, rfl⟩) (pa_cons (pe_dget2 (hu_of hr) (pv 6) (pv 13) (pv 13) ⟨rfl, rfl, rfl, rfl⟩) (pa_nil)))))
      (pss_one (ps_expr (pe_bm PySem.F.plainAttrs_list PySem.F.slot_list_append PySem.F.type_list_append mt_append (pv 7) (pa_cons (pe_tupF (pa_cons (pe_dget2 (hu_of hr) (pv 6) (pv 8) (pv 8) ⟨rfl, rfl, rfl, rfl⟩) (pa_cons (pv 9) (pa_cons (pe_callTy call_tupF (by rfl) B.tuple_ (by decide +kernel) (pa_cons (pe_callB (call_sortD hr.units) (by rfl) B.sorted_ (by decide +kernel) (pa_cons (pv 11) (pa_nil))) (pa_nil))) (pa_nil))))) (pa_nil)))))))
      (pss_one (ps_ret (pe_tupF (pa_cons (pe_callTy call_tupF (by rfl) B.tuple_ (by decide +kernel) (pa_cons (pe_callB (call_sortD hr.units) (by rfl) B.sorted_ (by decide +kernel) (pa_cons (pv 7) (pa_nil))) (pa_nil))) (pa_cons (pv 4) (pa_nil))))))))))
abbrev N_way_renamed : List Str := ["way", "called", "name"]
theorem sc_way_renamed : FnScope N_way_renamed ["way", "called"] (defScope s_way_renamed) := ⟨rfl, rfl, rfl, by decide +kernel, rfl, by decide +kernel, by decide +kernel⟩
def t_way_renamed (K : PySem.W.Frag) : TS :=
    tRet (tCB (rTupF K) (tCons (tLc (iTup K (tVar 0)) (gName 2) (tYes) (tDGet2 (tVar 1) (tVar 2) (tVar 2)) [2]) (tNil)))
theorem wk_way_renamed (B : Bs mg)   (hr : Room 0 (A.deeper (envOfC "way_renamed" (defScope s_way_renamed) s.heap.objs.size f cdv))) :
    PSs (cxOf CX0 P w K mg base N_way_renamed "way_renamed" (defScope s_way_renamed) f cdv A outer s H E).nox (defBody s_way_renamed) (t_way_renamed K) := by
  exact (pss_one (ps_ret (pe_callTy call_tupF (by rfl) B.tuple_ (by decide +kernel) (pa_cons (pe_lc (own := [("name", 2)]) (g := gName 2) (tt := tYes) (te := tDGet2 (tVar 1) (tVar 2) (tVar 2)) rfl sc_way_renamed.nd (pi_tup (pv 0)) (blkOk_by (own := [("name", 2)]) (N := N_way_renamed) (sc := defScope s_way_renamed) (by decide +kernel)) (fun _ _ _ _ _ => pg_name (i := 2) sc_way_renamed.nd rfl (by first | exact Or.inl rfl | exact Or.inr rfl)) (fun _ _ _ _ _ => pts_nil) (fun _ _ _ _ _ => pe_dget2 (hu_of hr) (pv 1) (pv 2) (pv 2) ⟨rfl, rfl, rfl, rfl⟩)) (pa_nil)))))
abbrev N_renamed_deed : List Str := ["deed", "names", "word", "rest", "called", "one"]
theorem sc_renamed_deed : FnScope N_renamed_deed ["deed", "names"] (defScope s_renamed_deed) := ⟨rfl, rfl, rfl, by decide +kernel, rfl, by decide +kernel, by decide +kernel⟩
def t_renamed_deed (K : PySem.W.Frag) : TS :=
    tSeq (tAsg (tVar 0) (gStar K (gName 2) (gName 3)))
    (tSeq (tAsg (tCB (rDictF K) (tCons (tVar 1) (tNil))) (gName 4))
    (tRet (tOp (rCatF K) (tTupF (tCons (tVar 2) (tNil))) (tCB (rTupF K) (tCons (tLc (iList K (tVar 3)) (gName 5) (tYes) (tIf (tB (tCB (rIsi K) (tCons (tVar 5) (tCons (tC (.ty "tuple")) tNil)))) (tCall (SpD K P_way_renamed) [] E0 (tCons (tVar 5) (tCons (tVar 4) (tNil)))) (tVar 5)) [5]) (tNil))))))
theorem wk_renamed_deed (B : Bs mg)  (c_way_renamed : Cal P w K mg base 1 "way_renamed" (SpD K P_way_renamed)) (hr : Room 1 (A.deeper (envOfC "renamed_deed" (defScope s_renamed_deed) s.heap.objs.size f cdv))) :
    PSs (cxOf CX0 P w K mg base N_renamed_deed "renamed_deed" (defScope s_renamed_deed) f cdv A outer s H E).nox (defBody s_renamed_deed) (t_renamed_deed K) := by
  exact (pss_cons (ps_asg (pv 0) (pg_star rfl (pg_name (i := 2) sc_renamed_deed.nd rfl (by first | exact Or.inl rfl | exact Or.inr rfl)) (pg_name (i := 3) sc_renamed_deed.nd rfl (by first | exact Or.inl rfl | exact Or.inr rfl))))
      (pss_cons (ps_set (i := 4) sc_renamed_deed.nd rfl (by first | exact Or.inl rfl | exact Or.inr rfl) (pe_callTy (call_dictF rfl) (by rfl) B.dict_ (by decide +kernel) (pa_cons (pv 1) (pa_nil))))
      (pss_one (ps_ret (pe_op op_catF (pe_tupF (pa_cons (pv 2) (pa_nil))) (pe_callTy call_tupF (by rfl) B.tuple_ (by decide +kernel) (pa_cons (pe_lc (own := [("one", 5)]) (g := gName 5) (tt := tYes) (te := tIf (tB (tCB (rIsi K) (tCons (tVar 5) (tCons (tC (.ty "tuple")) tNil)))) (tCall (SpD K P_way_renamed) [] E0 (tCons (tVar 5) (tCons (tVar 4) (tNil)))) (tVar 5)) rfl sc_renamed_deed.nd (pi_list (pv 3)) (blkOk_by (own := [("one", 5)]) (N := N_renamed_deed) (sc := defScope s_renamed_deed) (by decide +kernel)) (fun _ _ _ _ _ => pg_name (i := 5) sc_renamed_deed.nd rfl (by first | exact Or.inl rfl | exact Or.inr rfl)) (fun _ _ _ _ _ => pts_nil) (fun _ _ _ _ _ => pe_ifExp (pt_val (pe_callB call_isi (by rfl) B.isinstance_ (by decide +kernel) (pa_cons (pv 5) (pa_cons (pe_bltn (v := .ty "tuple") (by rfl) B.tuple_ (by decide +kernel) rfl) pa_nil)))) (pe_cal c_way_renamed hr (by decide) rfl (pa_cons (pv 5) (pa_cons (pv 4) (pa_nil)))) (pv 5))) (pa_nil))))))))
abbrev N_renamed_told : List Str := ["told", "names", "nodes", "word", "rest", "called", "numbers", "node"]
theorem sc_renamed_told : FnScope N_renamed_told ["told", "names", "nodes"] (defScope s_renamed_told) := ⟨rfl, rfl, rfl, by decide +kernel, rfl, by decide +kernel, by decide +kernel⟩
def t_renamed_told (K : PySem.W.Frag) : TS :=
    tSeq (tAsg (tVar 0) (gStar K (gName 3) (gName 4)))
    (tSeq (tAsg (tTupF (tCons (tCB (rDictF K) (tCons (tVar 1) (tNil))) (tCons (tCB (rDictF K) (tCons (tVar 2) (tNil))) (tNil)))) (gTup K 2 (gCons (gName 5) (gCons (gName 6) (gNil)))))
    (tSeq (tIfS (tTest (tOp (rEqP K) (tVar 3) (tC (.str ("names" : Str))))) (tRet (tTupF (tCons (tVar 3) (tCons (tCB (rTupF K) (tCons (tCB (rSortTS K) (tCons (tCall (SpD K P_way_renamed) [] E0 (tCons (tOp (rIxL K) (tVar 4) (tC (.int 0))) (tCons (tVar 5) (tNil)))) (tNil))) (tNil))) (tNil))))) (tNext))
    (tSeq (tIfS (tTest (tOp (rEqP K) (tVar 3) (tC (.str ("found" : Str))))) (tRet (tTupF (tCons (tVar 3) (tCons (tOp (rIxL K) (tVar 4) (tC (.int 0))) (tCons (tDGet2 (tVar 6) (tOp (rIxL K) (tVar 4) (tC (.int 1))) (tOp (rIxL K) (tVar 4) (tC (.int 1)))) (tNil)))))) (tNext))
    (tSeq (tIfS (tTest (tOp (rIn K false) (tVar 3) (tTupF (tCons (tC (.str ("dropped" : Str))) (tCons (tC (.str ("linked" : Str))) (tCons (tC (.str ("moved" : Str))) (tCons (tC (.str ("swapped" : Str))) (tNil)))))))) (tRet (tOp (rCatF K) (tTupF (tCons (tVar 3) (tNil))) (tCB (rTupF K) (tCons (tLc (iList K (tVar 4)) (gName 7) (tYes) (tDGet2 (tVar 6) (tVar 7) (tVar 7)) [7]) (tNil))))) (tNext))
    (tRet (tVar 0))))))
theorem wk_renamed_told (B : Bs mg)  (c_way_renamed : Cal P w K mg base 1 "way_renamed" (SpD K P_way_renamed)) (hr : Room 1 (A.deeper (envOfC "renamed_told" (defScope s_renamed_told) s.heap.objs.size f cdv))) :
    PSs (cxOf CX0 P w K mg base N_renamed_told "renamed_told" (defScope s_renamed_told) f cdv A outer s H E).nox (defBody s_renamed_told) (t_renamed_told K) := by
  exact (pss_cons (ps_asg (pv 0) (pg_star rfl (pg_name (i := 3) sc_renamed_told.nd rfl (by first | exact Or.inl rfl | exact Or.inr rfl)) (pg_name (i := 4) sc_renamed_told.nd rfl (by first | exact Or.inl rfl | exact Or.inr rfl))))
      (pss_cons (ps_asg (pe_tupF (pa_cons (pe_callTy (call_dictF rfl) (by rfl) B.dict_ (by decide +kernel) (pa_cons (pv 1) (pa_nil))) (pa_cons (pe_callTy (call_dictF rfl) (by rfl) B.dict_ (by decide +kernel) (pa_cons (pv 2) (pa_nil))) (pa_nil)))) (pg_tup rfl (pgs_cons (pg_name (i := 5) sc_renamed_told.nd rfl (by first | exact Or.inl rfl | exact Or.inr rfl)) (pgs_cons (pg_name (i := 6) sc_renamed_told.nd rfl (by first | exact Or.inl rfl | exact Or.inr rfl)) (pgs_nil)))))
      (pss_cons (ps_if (pt_cmpR (op_eqP hr.units) (pv 3) (pe_str) (nomark _)) (pss_one (ps_ret (pe_tupF (pa_cons (pv 3) (pa_cons (pe_callTy call_tupF (by rfl) B.tuple_ (by decide +kernel) (pa_cons (pe_callB (call_sortTS hr.units) (by rfl) B.sorted_ (by decide +kernel) (pa_cons (pe_cal c_way_renamed hr (by decide) rfl (pa_cons (pe_ix ix_list (pv 4) (pe_int) (fun _ _ => rfl)) (pa_cons (pv 5) (pa_nil)))) (pa_nil))) (pa_nil))) (pa_nil)))))) (pss_nil))
      (pss_cons (ps_if (pt_cmpR (op_eqP hr.units) (pv 3) (pe_str) (nomark _)) (pss_one (ps_ret (pe_tupF (pa_cons (pv 3) (pa_cons (pe_ix ix_list (pv 4) (pe_int) (fun _ _ => rfl)) (pa_cons (pe_dget2 (hu_of hr) (pv 6) (pe_ix ix_list (pv 4) (pe_int) (fun _ _ => rfl)) (pe_ix ix_list (pv 4) (pe_int) (fun _ _ => rfl)) ⟨rfl, rfl, rfl, rfl⟩) (pa_nil))))))) (pss_nil))
      (pss_cons (ps_if (pt_cmpR op_in_seq (pv 3) (pe_tupF (pa_cons (pe_str) (pa_cons (pe_str) (pa_cons (pe_str) (pa_cons (pe_str) (pa_nil)))))) (by rfl)) (pss_one (ps_ret (pe_op op_catF (pe_tupF (pa_cons (pv 3) (pa_nil))) (pe_callTy call_tupF (by rfl) B.tuple_ (by decide +kernel) (pa_cons (pe_lc (own := [("node", 7)]) (g := gName 7) (tt := tYes) (te := tDGet2 (tVar 6) (tVar 7) (tVar 7)) rfl sc_renamed_told.nd (pi_list (pv 4)) (blkOk_by (own := [("node", 7)]) (N := N_renamed_told) (sc := defScope s_renamed_told) (by decide +kernel)) (fun _ _ _ _ _ => pg_name (i := 7) sc_renamed_told.nd rfl (by first | exact Or.inl rfl | exact Or.inr rfl)) (fun _ _ _ _ _ => pts_nil) (fun _ _ _ _ _ => pe_dget2 (hu_of hr) (pv 6) (pv 7) (pv 7) ⟨rfl, rfl, rfl, rfl⟩)) (pa_nil)))))) (pss_nil))
      (pss_one (ps_ret (pv 0))))))))
abbrev N__law_due : List Str := ["_law_grove", "_law_called", "_law_numbers", "_law_found", "_law_node", "_law_kind", "_law_row", "_law_some", "_law_name", "_law_to"]
theorem sc__law_due : FnScope N__law_due ["_law_grove", "_law_called", "_law_numbers"] (defScope s__law_due) := ⟨rfl, rfl, rfl, by decide +kernel, rfl, by decide +kernel, by decide +kernel⟩
def t__law_due (K : PySem.W.Frag) : TS :=
    tSeq (tAsg (tLst (tNil)) (gName 3))
    (tSeq (tFor (iTup K (tOp (rIxT K) (tVar 0) (tC (.int 0)))) (gTup K 3 (gCons (gName 4) (gCons (gName 5) (gCons (gName 6) (gNil))))) (tSeq (tAsg (tCB (rDictF K) (tCons (tLc (iTup K (tVar 6)) (gTup K 2 (gCons (gName 8) (gCons (gName 9) (gNil)))) (tYes) (tTupF (tCons (tDGet2 (tVar 1) (tVar 8) (tVar 8)) (tCons (tDGet2 (tVar 2) (tVar 9) (tVar 9)) (tNil)))) [8, 9]) (tNil))) (gName 7))
    (tDrop (tBM K "list" rAppend (tVar 3) (tCons (tTupF (tCons (tDGet2 (tVar 2) (tVar 4) (tVar 4)) (tCons (tVar 5) (tCons (tCB (rTupF K) (tCons (tLc (iList K (tCB (rSortDS) (tCons (tVar 7) (tNil)))) (gName 8) (tYes) (tTupF (tCons (tVar 8) (tCons (tDGet (tVar 7) (tVar 8)) (tNil)))) [8]) (tNil))) (tNil))))) (tNil))))))
    (tRet (tTupF (tCons (tCB (rTupF K) (tCons (tCB (rSortD K) (tCons (tVar 3) (tNil))) (tNil))) (tCons (tOp (rIxT K) (tVar 0) (tC (.int 1))) (tNil))))))
theorem wk__law_due (B : Bs mg)   (hr : Room 0 (A.deeper (envOfC "_law_due" (defScope s__law_due) s.heap.objs.size f cdv))) :
    PSs (cxOf CX0 P w K mg base N__law_due "_law_due" (defScope s__law_due) f cdv A outer s H E).nox (defBody s__law_due) (t__law_due K) := by
  exact (pss_cons (ps_set (i := 3) sc__law_due.nd rfl (by first | exact Or.inl rfl | exact Or.inr rfl) (pe_lst (pa_nil)))
      (pss_cons (ps_for PassesOwn.never rfl (pi_tup (pe_ix ix_tup (pv 0) (pe_int) (fun _ _ => rfl))) (pg_tup rfl (pgs_cons (pg_name (i := 4) sc__law_due.nd rfl (by first | exact Or.inl rfl | exact Or.inr rfl)) (pgs_cons (pg_name (i := 5) sc__law_due.nd rfl (by first | exact Or.inl rfl | exact Or.inr rfl)) (pgs_cons (pg_name (i := 6) sc__law_due.nd rfl (by first | exact Or.inl rfl | exact Or.inr rfl)) (pgs_nil))))) (pss_cons (ps_set (i := 7) sc__law_due.nd rfl (by first | exact Or.inl rfl | exact Or.inr rfl) (pe_callTy (call_dictF rfl) (by rfl) B.dict_ (by decide +kernel) (pa_cons (pe_lc (own := [("_law_name", 8), ("_law_to", 9)]) (g := gTup K 2 (gCons (gName 8) (gCons (gName 9) (gNil)))) (tt := tYes) (te := tTupF (tCons (tDGet2 (tVar 1) (tVar 8) (tVar 8)) (tCons (tDGet2 (tVar 2) (tVar 9) (tVar 9)) (tNil)))) rfl sc__law_due.nd (pi_tup (pv 6)) (blkOk_by (own := [("_law_name", 8), ("_law_to", 9)]) (N := N__law_due) (sc := defScope s__law_due) (by decide +kernel)) (fun _ _ _ _ _ => pg_tup rfl (pgs_cons (pg_name (i := 8) sc__law_due.nd rfl (by first | exact Or.inl rfl | exact Or.inr rfl)) (pgs_cons (pg_name (i := 9) sc__law_due.nd rfl (by first | exact Or.inl rfl | exact Or.inr rfl)) (pgs_nil)))) (fun _ _ _ _ _ => pts_nil) (fun _ _ _ _ _ => pe_tupF (pa_cons (pe_dget2 (hu_of hr) (pv 1) (pv 8) (pv 8) ⟨rfl, rfl, rfl, rfl⟩) (pa_cons (pe_dget2 (hu_of hr) (pv 2) (pv 9) (pv 9) ⟨rfl, rfl, rfl, rfl⟩) (pa_nil))))) (pa_nil))))
      (pss_one (ps_expr (pe_bm PySem.F.plainAttrs_list PySem.F.slot_list_append PySem.F.type_list_append mt_append (pv 3) (pa_cons (pe_tupF (pa_cons (pe_dget2 (hu_of hr) (pv 2) (pv 4) (pv 4) ⟨rfl, rfl, rfl, rfl⟩) (pa_cons (pv 5) (pa_cons (pe_callTy call_tupF (by rfl) B.tuple_ (by decide +kernel) (pa_cons (pe_lc (own := [("_law_name", 8)]) (g := gName 8) (tt := tYes) (te := tTupF (tCons (tVar 8) (tCons (tDGet (tVar 7) (tVar 8)) (tNil)))) rfl sc__law_due.nd (pi_list (pe_callB (call_sortedD rfl) (by rfl) B.sorted_ (by decide +kernel) (pa_cons (pv 7) (pa_nil)))) (blkOk_by (own := [("_law_name", 8)]) (N := N__law_due) (sc := defScope s__law_due) (by decide +kernel)) (fun _ _ _ _ _ => pg_name (i := 8) sc__law_due.nd rfl (by first | exact Or.inl rfl | exact Or.inr rfl)) (fun _ _ _ _ _ => pts_nil) (fun _ _ _ _ _ => pe_tupF (pa_cons (pv 8) (pa_cons (pe_dget (hu_of hr) (pv 7) (pv 8) (fun _ _ => rfl)) (pa_nil))))) (pa_nil))) (pa_nil))))) (pa_nil)))))))
      (pss_one (ps_ret (pe_tupF (pa_cons (pe_callTy call_tupF (by rfl) B.tuple_ (by decide +kernel) (pa_cons (pe_callB (call_sortD hr.units) (by rfl) B.sorted_ (by decide +kernel) (pa_cons (pv 3) (pa_nil))) (pa_nil))) (pa_cons (pe_ix ix_tup (pv 0) (pe_int) (fun _ _ => rfl)) (pa_nil))))))))
abbrev N__law_back : List Str := ["_law_pairs", "_law_elder", "_law_newer"]
theorem sc__law_back : FnScope N__law_back ["_law_pairs"] (defScope s__law_back) := ⟨rfl, rfl, rfl, by decide +kernel, rfl, by decide +kernel, by decide +kernel⟩
def t__law_back (K : PySem.W.Frag) : TS :=
    tRet (tCB (rTupF K) (tCons (tCB (rSortD K) (tCons (tLc (iTup K (tVar 0)) (gTup K 2 (gCons (gName 1) (gCons (gName 2) (gNil)))) (tYes) (tTupF (tCons (tVar 2) (tCons (tVar 1) (tNil)))) [1, 2]) (tNil))) (tNil)))
theorem wk__law_back (B : Bs mg)   (hr : Room 0 (A.deeper (envOfC "_law_back" (defScope s__law_back) s.heap.objs.size f cdv))) :
    PSs (cxOf CX0 P w K mg base N__law_back "_law_back" (defScope s__law_back) f cdv A outer s H E).nox (defBody s__law_back) (t__law_back K) := by
  exact (pss_one (ps_ret (pe_callTy call_tupF (by rfl) B.tuple_ (by decide +kernel) (pa_cons (pe_callB (call_sortD hr.units) (by rfl) B.sorted_ (by decide +kernel) (pa_cons (pe_lc (own := [("_law_elder", 1), ("_law_newer", 2)]) (g := gTup K 2 (gCons (gName 1) (gCons (gName 2) (gNil)))) (tt := tYes) (te := tTupF (tCons (tVar 2) (tCons (tVar 1) (tNil)))) rfl sc__law_back.nd (pi_tup (pv 0)) (blkOk_by (own := [("_law_elder", 1), ("_law_newer", 2)]) (N := N__law_back) (sc := defScope s__law_back) (by decide +kernel)) (fun _ _ _ _ _ => pg_tup rfl (pgs_cons (pg_name (i := 1) sc__law_back.nd rfl (by first | exact Or.inl rfl | exact Or.inr rfl)) (pgs_cons (pg_name (i := 2) sc__law_back.nd rfl (by first | exact Or.inl rfl | exact Or.inr rfl)) (pgs_nil)))) (fun _ _ _ _ _ => pts_nil) (fun _ _ _ _ _ => pe_tupF (pa_cons (pv 2) (pa_cons (pv 1) (pa_nil))))) (pa_nil))) (pa_nil)))))
end
end Dw
set_option Elab.async false
set_option linter.all false
set_option maxRecDepth 100000
set_option maxHeartbeats 1000000
/-! Readings of renaming. -/
namespace Dw
open PySem PySem.Spec PyProof.Rows L2
local macro_rules | `(tactic| trivial) => `(tactic| repeat' (first
  | exact ev_var rfl
  | exact ev_int
  | exact ev_str
  | exact ev_non
  | exact ev_bl
  | exact ea_nil
  | exact eo_none
  | exact eb_yes
  | apply ea_cons
  | apply eo_some
  | apply eb_B
  | apply eb_test
  | apply eb_not
  | apply eb_or
  | apply eb_and
  | apply ev_andV
  | apply ev_orV
  | apply ev_notV
  | apply ev_isN
  | apply ev_notN
  | apply isi_ii
  | apply isi_ib
  | apply isi_tt
  | apply isi_ss
  | apply ev_ixT
  | apply ev_slT
  | apply ev_add
  | apply ev_sub
  | apply ev_neg
  | apply ev_lt
  | apply ev_le
  | apply ev_gt
  | apply ev_ge
  | apply ev_ltS
  | apply ev_lenG
  | apply ev_lenD
  | apply ev_tuple
  | apply ev_tup
  | apply ev_lst
  | apply ev_all
  | apply ev_catT
  | apply ev_is_number
  | apply ev_is_name
  | apply ev_is_entry
  | apply ev_are_entries
  | apply ev_is_row
  | apply ev_row_of
  | apply ev_kind_of
  | apply ev_entries_of
  | apply ev_way
  | apply ev_above
  | exact LenD.tup
  | exact LenD.lst
  | rfl
  | assumption
  | exact Nat.le_of_ble_eq_true rfl
  | with_reducible intro _))
section
variable {K : PySem.W.Frag} {δ δ1 : Dl} {own : Own} {O : OutO} {ts us : TS} {tl tk ty tv td : TE} {tA : TA} {E : XK} {t : Tree} {te ta tb : TE} {n m : Int} {d x : PyData} {np : NP} {ip : IP} {w : List Str}
theorem ev_dictN (h : EvD K te δ (npD np)) (ok : NpOk np) : EvD K (tCB (rDictF K) (tCons te tNil)) δ (eKD (npK np)) := ev_dictT (kds := npK np) (h.to (by unfold npD npK; rw [List.map_map]; rfl)) (by
  unfold npK
  rw [List.map_map]
  have : (Prod.fst ∘ fun p : Str × Str => ((Sum.inr p.1 : Key), PyData.str p.2)) = (Sum.inr : Str → Key) ∘ fun p => p.1 := rfl
  rw [this, ← List.map_map]
  exact List.pairwise_map.mpr (ok.nd.imp fun hab he => hab (by cases he; rfl)))
theorem ev_dictI (h : EvD K te δ (ipD ip)) (ok : IpOk ip) : EvD K (tCB (rDictF K) (tCons te tNil)) δ (eKD (ipK ip)) := ev_dictT (kds := ipK ip) (h.to (by unfold ipD ipK; rw [List.map_map]; rfl)) (by
  unfold ipK
  rw [List.map_map]
  have : (Prod.fst ∘ fun p : Int × Int => ((Sum.inl p.1 : Key), PyData.int p.2)) = (Sum.inl : Int → Key) ∘ fun p => p.1 := rfl
  rw [this, ← List.map_map]
  exact List.pairwise_map.mpr (ok.nd.imp fun hab he => hab (by cases he; rfl)))
theorem lkK_npK (np : NP) (x : Str) : lkK (npK np) (.inr x) = ((np.find? fun p => decide (p.1 = x)).map (·.2)).map .str := by
  unfold lkK npK
  induction np with
  | nil => rfl
  | cons p e ih =>
    rw [List.map_cons]
    by_cases h : p.1 = x
    · rw [List.find?_cons_of_pos (by simp [h]), List.find?_cons_of_pos (by simp [h])]; rfl
    · rw [List.find?_cons_of_neg (by simp [h]), List.find?_cons_of_neg (by simp [h])]; exact ih
theorem lkK_ipK (np : IP) (x : Int) : lkK (ipK np) (.inl x) = ((np.find? fun p => decide (p.1 = x)).map (·.2)).map .int := by
  unfold lkK ipK
  induction np with
  | nil => rfl
  | cons p e ih =>
    rw [List.map_cons]
    by_cases h : p.1 = x
    · rw [List.find?_cons_of_pos (by simp [h]), List.find?_cons_of_pos (by simp [h])]; rfl
    · rw [List.find?_cons_of_neg (by simp [h]), List.find?_cons_of_neg (by simp [h])]; exact ih
theorem ev_f {z : Str} (h : EvD K td δ (eKD (npK np))) (h2 : EvD K ty δ (.str z)) : EvD K (tDGet2 td ty ty) δ (.str (fOf np z)) := (ev_get2 (k := .inr z) h h2 h2).to (by
  rw [lkK_npK]
  unfold fOf
  cases np.find? fun p => decide (p.1 = z) <;> rfl)
theorem ev_g {z : Int} (h : EvD K td δ (eKD (ipK ip))) (h2 : EvD K ty δ (.int z)) : EvD K (tDGet2 td ty ty) δ (.int (gOf ip z)) := (ev_get2 (k := .inl z) h h2 h2).to (by
  rw [lkK_ipK]
  unfold gOf
  cases ip.find? fun p => decide (p.1 = z) <;> rfl)
theorem run_star {i j : Nat} {ds : List PyData} (h : EvD K te δ (.tuple (d :: ds))) (r : RunD K us ((δ.set i (some (.d d))).set j (some (.d (.list ds)))) o) : RunD K (tSeq (tAsg te (gStar K (gName i) (gName j))) us) δ o := run_seq (δ1 := (δ.set i (some (.d d))).set j (some (.d (.list ds)))) (fun hs D σ H hh S f =>
  h hs σ H hh S _ fun v H1 e1 r1 => by
    cases r1 with
    | @tup a xs _ hp ra =>
      cases ra with
      | @cons y ys _ _ r1 r2 =>
        refine ⟨a, y, ys, rfl, hp.full.sq, fun p hp2 => ?_⟩
        have ex := Evl.Ex.new (o := .lst ys) hp2
        have S2 := (S.mono e1.cut).mono (ex.cut (hs := hs))
        exact f _ _ (e1.trans ex) ((S2.set i (d := .d d) (R.mono ex.cut r1)).set j (d := .d (.list ds)) (R.lst (cut_of ((hh.mono e1).notin hp2) upd_same) (RA.mono ex.cut r2)))) r
theorem ev_sortE {e : Ent} (h : EvD K ta δ (.list (e.map encE))) : EvD K (tCB (rSortD K) (tCons ta tNil)) δ (.list ((sortE e).map encE)) :=
  ev_sorted encE h (alike_encE e) (sortable_encE e) (fun r _ => rfl) fun r _ => by simp [encE, PyData.depth, PyData.depthAll]
theorem run_renamed (ds : List PyData) (d : PyData) (h : P_renamed ds d) : RunD K (t_renamed K) (ds.map (fun d => some (.d d)) ++ List.replicate (N_renamed.length - ds.length) none) (.rt d) := by
  refine spd_runO (PP := P_renamed) (N := N_renamed) (fun ds d h => ?_) ds d h
  obtain ⟨⟨rows, made⟩, np, ip, hN, hI, hR, rfl, rfl⟩ := h
  have hfew : rows.length ≤ 60 := hR.few
  refine runO_letG [3, 4] (x := eTree (rows, made)) (by trivial) rfl (eg_tup (ds := [_, _]) (egs_cons (eg_name (by simp)) (egs_cons (eg_name (by simp)) egs_nil)) rfl) ?_
  refine runO_letG [5, 6] (x := .tuple [eKD (npK np), eKD (ipK ip)]) (ev_tup (ea_cons (ev_dictN (by trivial) hN) (ea_cons (ev_dictI (by trivial) hI) ea_nil)) (by trivial)) rfl (eg_tup (ds := [_, _]) (egs_cons (eg_name (by simp)) (egs_cons (eg_name (by simp)) egs_nil)) rfl) ?_
  refine runO_seq (runO_newL fun A _ => ?_)
  let g := renR (fOf np) (gOf ip)
  let pre : Dl := [some (.d (eTree (rows, made))), some (.d (npD np)), some (.d (ipD ip)), some (.d (eRows rows)), some (.d (.int made)), some (.d (eKD (npK np))), some (.d (eKD (ipK ip))), some (.v (.ref A)), none, none, none, none, none, none]
  refine runO_seq (runO_for (wlk_tup [8, 9, 10] eRow (bs := rows) (by trivial)) (fun i δa oa => δa = pre ∧ oa = [(A, OC.l ((((rows.take i).map g).map eRow).map .d))]) ⟨_, by repeat constructor, rfl, rfl⟩ ?_ ?_)
  · rintro i hi δa oa ⟨rfl, rfl⟩
    refine ⟨_, fun r hr => by
      rw [List.getElem?_eq_getElem hi] at hr
      cases hr
      exact eg_tup (ds := [.int rows[i].1, .str rows[i].2.1, eEnt rows[i].2.2]) (egs_cons (eg_name (by simp)) (egs_cons (eg_name (by simp)) (egs_cons (eg_name (by simp)) egs_nil))) rfl, ?_⟩
    generalize hr : rows[i] = r
    have hel := hR.fewE r (hr ▸ List.getElem_mem hi)
    refine runO_letD (x := .list ((r.2.2.map fun p => (fOf np p.1, gOf ip p.2)).map encE)) (ev_lcT encE (fun _ => true) (fun p => encE (fOf np p.1, gOf ip p.2)) (bs := r.2.2) (by trivial) (Nat.le_trans hel (by decide)) fun p hp => ⟨_, eg_tup (ds := [_, _]) (egs_cons (eg_name (by simp)) (egs_cons (eg_name (by simp)) egs_nil)) rfl, eb_yes, fun _ => ev_tup (ds := [.str (fOf np p.1), .int (gOf ip p.2)]) (ea_cons (ev_f (by trivial) (by trivial)) (ea_cons (ev_g (by trivial) (by trivial)) ea_nil)) (by trivial)⟩) (by rw [List.filter_eq_self.mpr fun _ _ => rfl, List.map_map]; rfl) ?_
    refine runO_appendS (i := 7) (a := A) (d := eRow (g r)) rfl List.mem_cons_self (by rw [List.length_map, List.length_map, List.length_map, List.length_take]; omega) (ev_tup (ds := [.int (gOf ip r.1), .str r.2.1, eEnt (renE (fOf np) (gOf ip) r.2.2)]) (ea_cons (ev_g (by trivial) (by trivial)) (ea_cons (by trivial) (ea_cons (ev_tuple (ds := (renE (fOf np) (gOf ip) r.2.2).map encE) (ev_sortE (by trivial))) ea_nil))) (by trivial)) ?_
    rw [repl_hd, repl_nil]
    refine ⟨_, by repeat constructor, rfl, ?_⟩
    rw [take_succ' (List.getElem?_eq_getElem hi), hr]
    simp
  · rintro δa oa ⟨rfl, rfl⟩
    rw [List.take_length]
    refine runO_ret0 (δ' := [some (.d (eTree (rows, made))), some (.d (npD np)), some (.d (ipD ip)), some (.d (eRows rows)), some (.d (.int made)), some (.d (eKD (npK np))), some (.d (eKD (ipK ip))), some (.d (.list ((rows.map g).map eRow))), none, none, none, none, none, none]) (.keep (.keep (.keep (.keep (.keep (.keep (.keep (.o (.l List.mem_cons_self (ODs.all _ _)) (by repeat constructor))))))))) (ev_tup (ds := [eRows (sortR (rows.map g)), .int made]) (ea_cons (ev_tuple (ds := (sortR (rows.map g)).map eRow) (ev_sortR (by trivial))) (ea_cons (by trivial) ea_nil)) (by trivial)) ⟨rfl, rfl⟩
theorem run_way_renamed (ds : List PyData) (d : PyData) (h : P_way_renamed ds d) : RunD K (t_way_renamed K) (ds.map (fun d => some (.d d)) ++ List.replicate (N_way_renamed.length - ds.length) none) (.rt d) := by
  obtain ⟨w, np, rfl, hw, rfl⟩ := h
  refine run_retT (ev_tuple (ds := (w.map (fOf np)).map .str) ((ev_lcT PyData.str (fun _ => true) (fun z => .str (fOf np z)) (bs := w) (by trivial) (by omega) fun z _ => ⟨_, eg_name (by simp), eb_yes, fun _ => ev_f (by trivial) (by trivial)⟩).to ?_)) rfl
  rw [List.filter_eq_self.mpr fun _ _ => rfl, List.map_map]; rfl
theorem ev_way_renamed (a : EvA K tA δ [eWay w, eKD (npK np)]) (h : w.length ≤ 100) : EvD K (tCall (SpD K P_way_renamed) [] E tA) δ (eWay (w.map (fOf np))) := ev_call a ⟨w, np, rfl, h, rfl⟩
/-- a deed's things: ways, and a kind -/
def eTh : List Str ⊕ Str → PyData
  | .inl w => eWay w
  | .inr k => .str k
def rnTh (f : Str → Str) : List Str ⊕ Str → List Str ⊕ Str
  | .inl w => .inl (w.map f)
  | .inr k => .inr k
def word : Deed → Str
  | .look _ => "look"
  | .list _ => "list"
  | .make _ _ => "make"
  | .drop _ => "drop"
  | .link _ _ => "link"
  | .move _ _ => "move"
  | .swap _ _ => "swap"
def things : Deed → List (List Str ⊕ Str)
  | .look w => [.inl w]
  | .list w => [.inl w]
  | .make w k => [.inl w, .inr k]
  | .drop w => [.inl w]
  | .link a b => [.inl a, .inl b]
  | .move a b => [.inl a, .inl b]
  | .swap a b => [.inl a, .inl b]
theorem eDeed_eq (dd : Deed) : eDeed dd = .tuple (.str (word dd) :: (things dd).map eTh) := by cases dd <;> rfl
theorem things_ren (f : Str → Str) (dd : Deed) : things (renDeed f dd) = (things dd).map (rnTh f) ∧ word (renDeed f dd) = word dd := by cases dd <;> exact ⟨rfl, rfl⟩
theorem things_ok {dd : Deed} (h : DeedOk dd) : (things dd).length ≤ 2 ∧ ∀ w, .inl w ∈ things dd → w.length ≤ 100 := by
  cases dd <;> refine ⟨by simp [things], fun w hw => ?_⟩ <;> simp [things] at hw <;> simp only [DeedOk, WayOk] at h
  · exact hw ▸ h
  · exact hw ▸ h
  · exact hw ▸ h.2
  · exact hw ▸ h.2
  all_goals
    rcases hw with rfl | rfl
    · exact h.1.2
    · exact h.2.2
theorem run_renamed_deed (ds : List PyData) (d : PyData) (h : P_renamed_deed ds d) : RunD K (t_renamed_deed K) (ds.map (fun d => some (.d d)) ++ List.replicate (N_renamed_deed.length - ds.length) none) (.rt d) := by
  obtain ⟨dd, np, hN, hD, rfl, rfl⟩ := h
  obtain ⟨hl, hw⟩ := things_ok hD
  refine run_star (d := .str (word dd)) (ds := (things dd).map eTh) (EvD.to (ev_var rfl) (eDeed_eq dd)) ?_
  refine run_let (x := eKD (npK np)) (ev_dictN (by trivial) hN) rfl ?_
  refine run_retT (ev_catT (ds := [.str (word dd)]) (es := ((things dd).map (rnTh (fOf np))).map eTh) (ev_tup (by trivial) (by trivial)) (ev_tuple ((ev_lcL eTh (fun _ => true) (fun z => eTh (rnTh (fOf np) z)) (bs := things dd) (by trivial) (by omega) fun z hz => ⟨_, eg_name (by simp), eb_yes, fun _ => ?_⟩).to ?_)) ?_) ?_
  · cases z with
    | inl w => exact ev_if (b := true) (eb_B (isi_tt (ds := w.map .str) (by trivial))) (fun _ => ev_way_renamed (w := w) (by trivial) (hw w hz)) fun q => by cases q
    | inr k => exact ev_if (b := false) (eb_B (isi_st (i := k) (by trivial))) (fun q => by cases q) fun _ => ev_var rfl
  · rw [List.filter_eq_self.mpr fun _ _ => rfl, List.map_map]; rfl
  · simp only [List.length_map, List.length_cons, List.length_nil]; omega
  · rw [eDeed_eq, (things_ren _ _).1, (things_ren _ _).2]; rfl
end
end Dw
set_option Elab.async false
set_option linter.all false
set_option maxRecDepth 100000
set_option maxHeartbeats 1000000
/-! Readings of renaming: what deeds tell; the law's own look. -/
namespace Dw
open PySem PySem.Spec PyProof.Rows L2
local macro_rules | `(tactic| trivial) => `(tactic| repeat' (first
  | exact ev_var rfl
  | exact ev_int
  | exact ev_str
  | exact ev_non
  | exact ev_bl
  | exact ea_nil
  | exact eo_none
  | exact eb_yes
  | apply ea_cons
  | apply eo_some
  | apply eb_B
  | apply eb_test
  | apply eb_not
  | apply eb_or
  | apply eb_and
  | apply ev_andV
  | apply ev_orV
  | apply ev_notV
  | apply ev_isN
  | apply ev_notN
  | apply isi_ii
  | apply isi_ib
  | apply isi_tt
  | apply isi_ss
  | apply ev_ixT
  | apply ev_slT
  | apply ev_add
  | apply ev_sub
  | apply ev_neg
  | apply ev_lt
  | apply ev_le
  | apply ev_gt
  | apply ev_ge
  | apply ev_ltS
  | apply ev_lenG
  | apply ev_lenD
  | apply ev_tuple
  | apply ev_tup
  | apply ev_lst
  | apply ev_all
  | apply ev_catT
  | apply ev_is_number
  | apply ev_is_name
  | apply ev_is_entry
  | apply ev_are_entries
  | apply ev_is_row
  | apply ev_row_of
  | apply ev_kind_of
  | apply ev_entries_of
  | apply ev_way
  | apply ev_above
  | exact LenD.tup
  | exact LenD.lst
  | rfl
  | assumption
  | exact Nat.le_of_ble_eq_true rfl
  | with_reducible intro _))
section
variable {K : PySem.W.Frag} {δ δ1 : Dl} {own : Own} {O : OutO} {ts us : TS} {tl tk ty tv td : TE} {tA : TA} {E : XK} {t : Tree} {te ta tb : TE} {n m : Int} {d x : PyData} {np : NP} {ip : IP} {w : List Str}
theorem ev_sortTS (h : EvD K ta δ (eWay w)) : EvD K (tCB (rSortTS K) (tCons ta tNil)) δ (.list ((sortW w).map .str)) := ev_cb (ea_cons h ea_nil) fun hs H vs hh ra Q q => by
  obtain ⟨v, rfl, r⟩ := ra.one
  cases r with
  | @tup a xs _ hp ra =>
    have e := ra.strs
    subst e
    exact ⟨a, w, rfl, hp.full.sq, fun p hp2 => q _ _ (Evl.Ex.new hp2) (R.lst (cut_of (hh.notin hp2) upd_same) (RA.of_strs _))⟩
theorem run_renamed_told (ds : List PyData) (d : PyData) (h : P_renamed_told ds d) : RunD K (t_renamed_told K) (ds.map (fun d => some (.d d)) ++ List.replicate (N_renamed_told.length - ds.length) none) (.rt d) := by
  obtain ⟨td, np, ip, hN, hI, hT, rfl, rfl⟩ := h
  have main : ∀ (x : Str) (rest : List PyData) (T d : PyData), T = .tuple (.str x :: rest) →
      (x = "names" → ∃ w, rest = [eWay w] ∧ w.length ≤ 100 ∧ d = .tuple [.str x, eWay (sortW (w.map (fOf np)))]) →
      (x ≠ "names" → x = "found" → ∃ k n, rest = [k, .int n] ∧ d = .tuple [.str x, k, .int (gOf ip n)]) →
      (x ≠ "names" → x ≠ "found" → (x ∈ [("dropped" : Str), "linked", "moved", "swapped"]) → ∃ ns : List Int, rest = ns.map .int ∧ ns.length ≤ 10 ∧ d = .tuple (.str x :: (ns.map (gOf ip)).map .int)) →
      (x ≠ "names" → x ≠ "found" → (x ∉ [("dropped" : Str), "linked", "moved", "swapped"]) → d = T) →
      RunD K (t_renamed_told K) [some (.d T), some (.d (npD np)), some (.d (ipD ip)), none, none, none, none, none] (.rt d) := fun x rest T d eT h1 h2 h3 h4 => by
    refine run_star (d := .str x) (ds := rest) (EvD.to (ev_var rfl) eT) ?_
    refine run_letG [5, 6] (x := .tuple [eKD (npK np), eKD (ipK ip)]) (ev_tup (ea_cons (ev_dictN (by trivial) hN) (ea_cons (ev_dictI (by trivial) hI) ea_nil)) (by trivial)) rfl (eg_tup (ds := [_, _]) (egs_cons (eg_name (by simp)) (egs_cons (eg_name (by simp)) egs_nil)) rfl) ?_
    by_cases q1 : x = "names"
    · obtain ⟨w, rfl, hw, rfl⟩ := h1 q1
      exact run_take (eb_test (ev_eqS (i := x) (j := "names") (by trivial) ev_str)) (decide_eq_true q1) (run_retT (ev_tup (ds := [.str x, eWay (sortW (w.map (fOf np)))]) (ea_cons (by trivial) (ea_cons (ev_tuple (ds := (sortW (w.map (fOf np))).map .str) (ev_sortTS (ev_way_renamed (w := w) (ea_cons (ev_ixL (ds := [_]) (by trivial) ev_int rfl) (by trivial)) hw))) ea_nil)) (by trivial)) rfl)
    refine run_skip (eb_test (ev_eqS (i := x) (j := "names") (by trivial) ev_str)) (decide_eq_false q1) ?_
    by_cases q2 : x = "found"
    · obtain ⟨k, n, rfl, rfl⟩ := h2 q1 q2
      exact run_take (eb_test (ev_eqS (i := x) (j := "found") (by trivial) ev_str)) (decide_eq_true q2) (run_retT (ev_tup (ds := [.str x, k, .int (gOf ip n)]) (ea_cons (by trivial) (ea_cons (ev_ixL (ds := [_, _]) (by trivial) ev_int rfl) (ea_cons (ev_g (by trivial) (ev_ixL (ds := [_, _]) (by trivial) ev_int rfl)) ea_nil))) (by trivial)) rfl)
    refine run_skip (eb_test (ev_eqS (i := x) (j := "found") (by trivial) ev_str)) (decide_eq_false q2) ?_
    have e3 : ∀ {δ : Dl}, δ[3]? = some (some (.d (.str x))) → EvB K (tTest (tOp (rIn K false) (tVar 3) (tTupF (tCons (tC (.str ("dropped" : Str))) (tCons (tC (.str ("linked" : Str))) (tCons (tC (.str ("moved" : Str))) (tCons (tC (.str ("swapped" : Str))) (tNil)))))))) δ (decide (x ∈ [("dropped" : Str), "linked", "moved", "swapped"])) := fun h3 => eb_test (ev_inTS (i := x) (is := ["dropped", "linked", "moved", "swapped"]) (neg := false) (ev_var h3) (ev_tup (by trivial) (by trivial)))
    by_cases q3 : x ∈ [("dropped" : Str), "linked", "moved", "swapped"]
    · obtain ⟨ns, rfl, hn, rfl⟩ := h3 q1 q2 q3
      refine run_take (e3 rfl) (decide_eq_true q3) (run_retT (ev_catT (ds := [.str x]) (es := (ns.map (gOf ip)).map .int) (ev_tup (by trivial) (by trivial)) (ev_tuple ((ev_lcL PyData.int (fun _ => true) (fun z => .int (gOf ip z)) (bs := ns) (by trivial) (by omega) fun z hz => ⟨_, eg_name (by simp), eb_yes, fun _ => ev_g (by trivial) (by trivial)⟩).to ?_)) ?_) rfl)
      · rw [List.filter_eq_self.mpr fun _ _ => rfl, List.map_map]; rfl
      · simp only [List.length_map, List.length_cons, List.length_nil]; omega
    · rw [h4 q1 q2 q3]
      exact run_skip (e3 rfl) (decide_eq_false q3) (run_ret (ev_var rfl))
  cases td with
  | miss m =>
    refine main (if m.1 then "sheet" else "none") [.int m.2] _ _ rfl (fun q => ?_) (fun _ q => ?_) (fun _ _ q => ?_) fun _ _ _ => rfl
    all_goals (exfalso; revert q; cases m.1 <;> decide)
  | miss2 m i =>
    refine main (if m.1 then "sheet" else "none") [.int m.2, .int i] _ _ rfl (fun q => ?_) (fun _ q => ?_) (fun _ _ q => ?_) fun _ _ _ => rfl
    all_goals (exfalso; revert q; cases m.1 <;> decide)
  | found k n => exact main "found" [.str k, .int n] _ _ rfl (fun q => absurd q (by decide)) (fun _ _ => ⟨_, n, rfl, rfl⟩) (fun _ q => absurd rfl q) fun _ q => absurd rfl q
  | names xs => exact main "names" [eWay xs] _ _ rfl (fun _ => ⟨xs, rfl, hT, rfl⟩) (fun q => absurd rfl q) (fun q => absurd rfl q) fun q => absurd rfl q
  | wd x =>
    refine main x [] _ _ rfl (fun q => ?_) (fun _ q => ?_) (fun _ _ q => ?_) fun _ _ _ => rfl
    all_goals (exfalso; rcases hT with rfl | rfl | rfl | rfl | rfl <;> revert q <;> decide)
  | made n => exact main "made" [.int n] _ _ rfl (fun q => absurd q (by decide)) (fun _ q => absurd q (by decide)) (fun _ _ q => absurd q (by decide)) fun _ _ _ => rfl
  | one x n =>
    refine main x [.int n] _ _ rfl (fun q => ?_) (fun _ q => ?_) (fun _ _ _ => ⟨[n], rfl, by trivial, rfl⟩) fun _ _ q => ?_
    all_goals (exfalso; rcases hT with rfl | rfl | rfl <;> revert q <;> decide)
  | two n m => exact main "swapped" [.int n, .int m] _ _ rfl (fun q => absurd q (by decide)) (fun _ q => absurd q (by decide)) (fun _ _ _ => ⟨[n, m], rfl, by trivial, rfl⟩) fun _ _ q => absurd (by decide) q
theorem run__law_back (ds : List PyData) (d : PyData) (h : P__law_back ds d) : RunD K (t__law_back K) (ds.map (fun d => some (.d d)) ++ List.replicate (N__law_back.length - ds.length) none) (.rt d) := by
  rcases h with ⟨np, hl, rfl, rfl⟩ | ⟨ip, hl, rfl, rfl⟩
  · let en : Str × Str → PyData := fun p => .tuple [.str p.1, .str p.2]
    refine run_retT (ev_tuple (ds := (backN np).map en) (ev_sorted en (bs := np.map fun p => (p.2, p.1)) ((ev_lcT en (fun _ => true) (fun p => en (p.2, p.1)) (bs := np) (by trivial) (by omega) fun p _ => ⟨_, eg_tup (ds := [_, _]) (egs_cons (eg_name (by simp)) (egs_cons (eg_name (by simp)) egs_nil)) rfl, eb_yes, fun _ => ev_tup (by trivial) (by trivial)⟩).to ?_) (PySem.W.AllAlike.of fun _ _ => by simp [en, PySem.W.alike, PySem.W.alikeAll]) (PySem.W.Sortable.tuples fun r => ⟨_, _, rfl⟩) (fun _ _ => rfl) fun _ _ => by simp [en, PyData.depth, PyData.depthAll])) rfl
    rw [List.filter_eq_self.mpr fun _ _ => rfl, List.map_map]; rfl
  · let en : Int × Int → PyData := fun p => .tuple [.int p.1, .int p.2]
    refine run_retT (ev_tuple (ds := (backI ip).map en) (ev_sorted en (bs := ip.map fun p => (p.2, p.1)) ((ev_lcT en (fun _ => true) (fun p => en (p.2, p.1)) (bs := ip) (by trivial) (by omega) fun p _ => ⟨_, eg_tup (ds := [_, _]) (egs_cons (eg_name (by simp)) (egs_cons (eg_name (by simp)) egs_nil)) rfl, eb_yes, fun _ => ev_tup (by trivial) (by trivial)⟩).to ?_) (PySem.W.AllAlike.of fun _ _ => by simp [en, PySem.W.alike, PySem.W.alikeAll]) (PySem.W.Sortable.tuples fun r => ⟨_, _, rfl⟩) (fun _ _ => rfl) fun _ _ => by simp [en, PyData.depth, PyData.depthAll])) rfl
    rw [List.filter_eq_self.mpr fun _ _ => rfl, List.map_map]; rfl
theorem rising_pair : ∀ (x : Str) (r : List Str), risingS x r = true → (x :: r).Pairwise fun a b => ¬ b.cps.toList < a.cps.toList := by
  intro x r
  induction r generalizing x with
  | nil => intro _; exact List.pairwise_singleton _ _
  | cons y r ih =>
    intro h
    have h' : (!ltCps y.cps.toList x.cps.toList && risingS y r) = true := h
    rw [Bool.and_eq_true] at h'
    have h1 : ¬ y.cps.toList < x.cps.toList := by
      have := h'.1
      rw [ltCps_eq] at this
      simpa using this
    have ih' := ih y h'.2
    refine List.pairwise_cons.mpr ⟨fun z hz => ?_, ih'⟩
    rcases List.mem_cons.mp hz with e | hz
    · rw [e]; exact h1
    · have h2 := (List.pairwise_cons.mp ih').1 z hz
      exact List.not_lt.mpr (List.le_trans (List.not_lt.mp h1) (List.not_lt.mp h2))
theorem sortDS_eq {e : Ent} {ys : List Str} (nd : (e.map (·.1)).Nodup) (hp : ys.Perm (e.map (·.1))) (hs : sortedS ys = true) : ys = (sortE e).map (·.1) := by
  have p1 : ys.Pairwise fun a b => ¬ b.cps.toList < a.cps.toList := by
    cases ys with
    | nil => exact List.Pairwise.nil
    | cons y ys => exact rising_pair y ys hs
  have p2 : ((sortE e).map (·.1)).Pairwise fun a b => ¬ b.cps.toList < a.cps.toList := List.pairwise_map.mpr ((sortE_rise nd).imp fun h h2 => lt_irr _ (List.lt_trans h h2))
  refine List.Perm.eq_of_pairwise (le := fun a b : Str => ¬ b.cps.toList < a.cps.toList) (fun a b _ _ h1 h2 => PySem.W.str_of_cps (List.le_antisymm (List.not_lt.mp h1) (List.not_lt.mp h2))) p1 p2 (hp.trans ((sortE_perm e).map _).symm)
theorem entK_keys (e : Ent) : (entK e).map (·.1) = (e.map (·.1)).map Sum.inr := by
  unfold entK
  rw [List.map_map, List.map_map]; rfl
theorem ev_sortDS {e : Ent} (h : EvD K ta δ (eKD (entK e))) (nd : (e.map (·.1)).Nodup) (hl : e.length < 64) : EvD K (tCB rSortDS (tCons ta tNil)) δ (.list (((sortE e).map (·.1)).map .str)) := ev_cb (ea_cons h ea_nil) fun hs H vs hh ra Q q => by
  obtain ⟨v, rfl, r⟩ := ra.one
  cases r with
  | @dic a kvs _ hd rk =>
    refine ⟨a, kvs, e.map (·.1), rfl, .inl (cut_some hd).2, ?_, by rw [List.length_map]; exact hl, fun ys p hp hs hp2 => ?_⟩
    · rw [RK.keys rk, entK_keys]
    · have := sortDS_eq nd hp hs
      subst this
      exact q _ _ (Evl.Ex.new hp2) (R.lst (cut_of (hh.notin hp2) upd_same) (RA.of_strs _))
theorem lk_of_mem {e : Ent} (nd : (e.map (·.1)).Nodup) {p : Str × Int} (h : p ∈ e) : lk e p.1 = some p.2 := by
  unfold lk
  induction e with
  | nil => cases h
  | cons a l ih =>
    have nd' := List.nodup_cons.mp nd
    rcases List.mem_cons.mp h with z | h
    · subst z
      rw [List.find?_cons_of_pos (by simp)]; rfl
    · rw [List.find?_cons_of_neg]
      · exact ih nd'.2 h
      · simp only [decide_eq_true_eq]
        intro z
        exact nd'.1 (by show a.1 ∈ _; rw [z]; exact List.mem_map_of_mem (f := (·.1)) h)
theorem run__law_due (ds : List PyData) (d : PyData) (h : P__law_due ds d) : RunD K (t__law_due K) (ds.map (fun d => some (.d d)) ++ List.replicate (N__law_due.length - ds.length) none) (.rt d) := by
  refine spd_runO (PP := P__law_due) (N := N__law_due) (fun ds d h => ?_) ds d h
  obtain ⟨⟨rows, made⟩, np, ip, hR, h60, rfl, rfl⟩ := h
  have hfew : rows.length ≤ 60 := hR.few
  refine runO_seq (runO_newL fun A _ => ?_)
  let g := renR (fOf np) (gOf ip)
  let pre : Dl := [some (.d (eTree (rows, made))), some (.d (eKD (npK np))), some (.d (eKD (ipK ip))), some (.v (.ref A)), none, none, none, none, none, none]
  refine runO_seq (runO_for (wlk_tup [4, 5, 6] eRow (bs := rows) (by trivial)) (fun i δa oa => δa = pre ∧ oa = [(A, OC.l ((((rows.take i).map g).map eRow).map .d))]) ⟨_, by repeat constructor, rfl, rfl⟩ ?_ ?_)
  · rintro i hi δa oa ⟨rfl, rfl⟩
    refine ⟨_, fun r hr => by
      rw [List.getElem?_eq_getElem hi] at hr
      cases hr
      exact eg_tup (ds := [.int rows[i].1, .str rows[i].2.1, eEnt rows[i].2.2]) (egs_cons (eg_name (by simp)) (egs_cons (eg_name (by simp)) (egs_cons (eg_name (by simp)) egs_nil))) rfl, ?_⟩
    have hrm : rows[i] ∈ rows := List.getElem_mem hi
    generalize hr : rows[i] = r at hrm
    have hel : r.2.2.length ≤ 60 := h60 r hrm
    let e := r.2.2.map fun p => (fOf np p.1, gOf ip p.2)
    have hnd : (e.map (·.1)).Nodup := by rw [List.map_map]; exact hR.ents r hrm
    refine runO_letD (x := eKD (entK e)) (ev_dictL (kds := entK e) ((ev_lcT encE (fun _ => true) (fun p => encE (fOf np p.1, gOf ip p.2)) (bs := r.2.2) (by trivial) (by omega) fun p hp => ⟨_, eg_tup (ds := [_, _]) (egs_cons (eg_name (by simp)) (egs_cons (eg_name (by simp)) egs_nil)) rfl, eb_yes, fun _ => ev_tup (ds := [.str (fOf np p.1), .int (gOf ip p.2)]) (ea_cons (ev_f (by trivial) (by trivial)) (ea_cons (ev_g (by trivial) (by trivial)) ea_nil)) (by trivial)⟩).to ?_) (entK_nodup hnd)) rfl ?_
    · rw [List.filter_eq_self.mpr fun _ _ => rfl]
      unfold entK
      rw [List.map_map, List.map_map]; rfl
    refine runO_appendS (i := 3) (a := A) (d := eRow (g r)) rfl List.mem_cons_self (by rw [List.length_map, List.length_map, List.length_map, List.length_take]; omega) (ev_tup (ds := [.int (gOf ip r.1), .str r.2.1, eEnt (sortE e)]) (ea_cons (ev_g (by trivial) (by trivial)) (ea_cons (by trivial) (ea_cons (ev_tuple (ds := (sortE e).map encE) ((ev_lcL (fun p : Str × Int => PyData.str p.1) (fun _ => true) encE (bs := sortE e) (EvD.to (ev_sortDS (e := e) (by trivial) hnd (by show (List.map _ _).length < 64; rw [List.length_map]; omega)) (by rw [List.map_map]; rfl)) (by unfold sortE; rw [List.length_mergeSort]; show (List.map _ _).length ≤ 10000; rw [List.length_map]; omega) fun p hp => ⟨_, eg_name (by simp), eb_yes, fun _ => ev_tup (ds := [.str p.1, .int p.2]) (ea_cons (by trivial) (ea_cons (ev_dget (k := .inr p.1) (kds := entK e) (by trivial) (by trivial) (by rw [lkK_entK, lk_of_mem hnd ((sortE_perm e).mem_iff.mp hp)]; rfl)) ea_nil)) (by trivial)⟩).to ?_)) ea_nil))) (by trivial)) ?_
    · rw [List.filter_eq_self.mpr fun _ _ => rfl]
    rw [repl_hd, repl_nil]
    refine ⟨_, by repeat constructor, rfl, ?_⟩
    rw [take_succ' (List.getElem?_eq_getElem hi), hr]
    simp
  · rintro δa oa ⟨rfl, rfl⟩
    rw [List.take_length]
    refine runO_ret0 (δ' := [some (.d (eTree (rows, made))), some (.d (eKD (npK np))), some (.d (eKD (ipK ip))), some (.d (.list ((rows.map g).map eRow))), none, none, none, none, none, none]) (.keep (.keep (.keep (.o (.l List.mem_cons_self (ODs.all _ _)) (by repeat constructor))))) (ev_tup (ds := [eRows (sortR (rows.map g)), .int made]) (ea_cons (ev_tuple (ds := (sortR (rows.map g)).map eRow) (ev_sortR (by trivial))) (ea_cons (by trivial) ea_nil)) (by trivial)) ⟨rfl, rfl⟩
end
end Dw
set_option Elab.async false
set_option linter.all false
set_option maxRecDepth 100000
set_option maxHeartbeats 1000000
/-! Expressions that change one's own objects, and come to one of many. -/
namespace Dw
open PySem PySem.Spec PyProof.Rows L2
def EvNA (K : PySem.W.Frag) (ta : TA) (δ : Dl) (own : Own) (P : List PyData → Prop) : Prop := ∀ hs σ H, StO K hs σ H δ own → ∀ Q : List V → Hp → Prop, (∀ vs H2 ds, P ds → ExZ (· ∈ ads own) H H2 → StO K hs σ H2 δ own → RA K (cut (ads own ++ hs) H2) vs ds → Q vs H2) → ta σ H Q
section
variable {K : PySem.W.Frag} {δ δ1 δ2 : Dl} {own own' : Own} {ts us : TS} {O : OutO} {te ta tb tx tk tv : TE} {tl tr : TA} {tt tu : TT} {d x y z : PyData} {P P1 P2 : PyData → Prop} {PA : List PyData → Prop} {PB PB2 : Bool → Prop} {hs : List Addr} {σ : St} {H H' H2 H0 : Hp} {Z : Addr → Prop} {r : R2}
theorem EvN.imp (h : EvN K te δ own P) (i : ∀ d, P d → P1 d) : EvN K te δ own P1 := fun hs σ H S Q q => h hs σ H S Q fun v H2 d hd => q v H2 d (i d hd)
theorem EvNB.imp (h : EvNB K tt δ own PB) (i : ∀ d, PB d → PB2 d) : EvNB K tt δ own PB2 := fun hs σ H S Q q => h hs σ H S Q fun v H2 hd => q v H2 (i v hd)
theorem evn_op (ha : EvN K ta δ own P1) (hb : EvN K tb δ own P2) (hr : ∀ x y, P1 x → P2 y → ∃ z, RV K r x y z ∧ P z) : EvN K (tOp r ta tb) δ own P := fun hs σ H S Q q =>
  ha hs σ H S _ fun v H2 x hx e2 S2 r2 => hb hs σ H2 S2 _ fun u H3 y hy e3 S3 r3 => by
    obtain ⟨z, h1, hz⟩ := hr x y hx hy
    exact h1 _ H3 v u S3.hid (R.mono e3.cut r2) r3 Q fun v' H4 e4 r4 => q v' H4 z hz ((e2.trans e3).trans (Ex.toZ e4)) (S3.mono e4) r4
theorem evna_nil : EvNA K tNil δ own (· = []) := fun hs σ H S Q q => q [] H [] rfl (fun _ _ _ h => h) S .nil
theorem evna_cons {PA2 : List PyData → Prop} (ha : EvN K ta δ own P) (hr : EvNA K tl δ own PA) (hi : ∀ d ds, P d → PA ds → PA2 (d :: ds)) : EvNA K (tCons ta tl) δ own PA2 := fun hs σ H S Q q =>
  ha hs σ H S _ fun v H2 x hx e2 S2 r2 => hr hs σ H2 S2 _ fun vs H3 ds hd e3 S3 r3 => q _ H3 _ (hi x ds hx hd) (e2.trans e3) S3 (.cons (R.mono e3.cut r2) r3)
theorem evna_of {ds : List PyData} (h : EvA K tl δ ds) : EvNA K tl δ own (· = ds) := fun hs σ H S Q q => h _ σ H S.hid S.sl Q fun v H2 e r => q v H2 ds rfl (Ex.toZ e) (S.mono e) r
theorem evna_one (ha : EvN K ta δ own P) : EvNA K (tCons ta tNil) δ own fun ds => ∃ d, ds = [d] ∧ P d := evna_cons ha evna_nil fun d ds hd hs => ⟨d, by rw [hs], hd⟩
theorem evn_cb {rr : List V → Hp → VK → Prop} (h : EvNA K tl δ own PA) (hr : ∀ ds, PA ds → ∃ z, RC K rr ds z ∧ P z) : EvN K (tCB rr tl) δ own P := fun hs σ H S Q q =>
  h hs σ H S _ fun vs H2 ds hd e2 S2 r2 => by
    obtain ⟨z, h1, hz⟩ := hr ds hd
    exact h1 _ H2 vs S2.hid r2 Q fun v H3 e3 r3 => q v H3 z hz (e2.trans (Ex.toZ e3)) (S2.mono e3) r3
theorem evn_tup (h : EvNA K tl δ own PA) (hl : ∀ ds, PA ds → ds.length ≤ 10000 ∧ P (.tuple ds)) : EvN K (tTupF tl) δ own P := fun hs σ H S Q q =>
  h hs σ H S _ fun vs H2 ds hd e2 S2 r2 => by
    obtain ⟨h1, h2⟩ := hl ds hd
    have key : EvD K (tTupF fun _ H Q => Q vs H) [] (.tuple ds) → True := fun _ => trivial
    refine ⟨by rw [r2.length]; exact Nat.le_trans h1 (by decide), new_R S2.hid r2 fun v H3 e3 r3 => q v H3 _ h2 (e2.trans (Ex.toZ e3)) (S2.mono e3) r3⟩
theorem evn_if (h : EvNB K tt δ own PB) (h1 : PB true → EvN K ta δ own P) (h2 : PB false → EvN K tb δ own P) : EvN K (tIf tt ta tb) δ own P := fun hs σ H S Q q => h hs σ H S _ fun b H2 hb e2 S2 => by
  cases b with
  | true => exact h1 hb hs σ H2 S2 Q fun v H3 d hd e3 S3 r3 => q v H3 d hd (e2.trans e3) S3 r3
  | false => exact h2 hb hs σ H2 S2 Q fun v H3 d hd e3 S3 r3 => q v H3 d hd (e2.trans e3) S3 r3
theorem evnb_test {PB : Bool → Prop} (h : EvN K te δ own fun d => ∃ b, d = .bool b ∧ PB b) : EvNB K (tTest te) δ own PB := fun hs σ H S Q q => h hs σ H S _ fun v H2 d ⟨b, hd, hb⟩ e2 S2 r2 => by
  subst hd
  cases r2
  exact ⟨b, rfl, q b H2 hb e2 S2⟩
theorem evnb_B {PB : Bool → Prop} (h : EvN K te δ own fun d => ∃ b, d = .bool b ∧ PB b) : EvNB K (tB te) δ own PB := fun hs σ H S Q q => h hs σ H S _ fun v H2 d ⟨b, hd, hb⟩ e2 S2 r2 => by
  subst hd
  cases r2
  exact ⟨b, rfl, q b H2 hb e2 S2⟩
theorem evnb_and (h1 : EvNB K tt δ own PB) (h2 : PB true → EvNB K tu δ own PB2) (h3 : PB false → PB2 false) : EvNB K (tAnd tt tu) δ own PB2 := fun hs σ H S Q q => h1 hs σ H S _ fun b H2 hb e2 S2 => by
  cases b with
  | true => exact h2 hb hs σ H2 S2 Q fun b H3 hb e3 S3 => q b H3 hb (e2.trans e3) S3
  | false => exact q _ H2 (h3 hb) e2 S2
theorem evnb_or (h1 : EvNB K tt δ own PB) (h2 : PB false → EvNB K tu δ own PB2) (h3 : PB true → PB2 true) : EvNB K (tOr tt tu) δ own PB2 := fun hs σ H S Q q => h1 hs σ H S _ fun b H2 hb e2 S2 => by
  cases b with
  | false => exact h2 hb hs σ H2 S2 Q fun b H3 hb e3 S3 => q b H3 hb (e2.trans e3) S3
  | true => exact q _ H2 (h3 hb) e2 S2
theorem runO_retN (h : EvN K te δ own P) (hd : ∀ d, P d → O.rt own d) : RunO K (tRet te) δ own O := fun hs Z H0 D σ H b S f =>
  h hs σ H S _ fun v H2 d hp e2 S2 r2 => f.2.2 own d v H2 (hd d hp) (b.mono e2).1 ⟨S2.hid, S2.ok⟩ r2
theorem runO_asgG {g : TG} (vs : List Nat) (h : EvN K te δ own P) (hg : ∀ d, P d → ∃ δ1, EvG K vs g δ d δ1 ∧ O.nx δ1 own) : RunO K (tAsg te g) δ own O := fun hs Z H0 D σ H b S f =>
  h hs σ H S _ fun v H2 d hp e2 S2 r2 => by
    obtain ⟨δ1, h1, h2⟩ := hg d hp
    exact h1 _ σ H2 v S2.sl r2 _ fun σ2 Sl2 _ => f.1 δ1 own σ2 H2 h2 (b.mono e2) ⟨S2.hid, S2.nd, S2.dj, Sl2, S2.ok⟩
/-! ### promises with the feed -/
def SpF (K : PySem.W.Frag) (Pre : List PyData → Prop) (Post : List PyData → PyData → Prop) : Sp := fun vs H Q _ => ∃ (hs : List Addr) (f : Addr) (cells : List Int) (us : List V) (ds : List PyData), vs = .ref f :: us ∧ StF K hs H [(f, .fd cells)] ∧ f ∉ hs ∧ RA K (cut (f :: hs) H) us ds ∧ Pre ds ∧
  ∀ v H' d, Post ds d → ExZ (· = f) H H' → StF K hs H' [(f, .fd cells)] → R K (cut (f :: hs) H') v d → Q v H'
theorem SpF.len {Pre : List PyData → Prop} {Post : List PyData → PyData → Prop} {n : Nat} (hP : ∀ ds, Pre ds → ds.length = n) : ∀ vs H Q E, SpF K Pre Post vs H Q E → vs.length = n + 1 := fun vs H Q E ⟨hs, f, cells, us, ds, e, _, _, ra, p, _⟩ => by rw [e, List.length_cons, ra.length, hP ds p]
theorem evn_callF {Pre : List PyData → Prop} {Post : List PyData → PyData → Prop} {i : Nat} {f : Addr} {cells : List Int} {E : XK} (hv : δ[i]? = some (some (.v (.ref f)))) (m : (f, .fd cells) ∈ own) (h : EvNA K tl δ own PA) (hp : ∀ ds, PA ds → Pre ds) (hq : ∀ ds d, PA ds → Post ds d → P d) : EvN K (tCall (SpF K Pre Post) [] E (tCons (tVar i) tl)) δ own P := fun hs σ H S Q q =>
  ⟨_, S.var hv, h hs σ H S _ fun vs H2 ds hd e2 S2 r2 => by
    have mf := mem_ads m
    let hs' := (ads own).filter (fun a => decide (a ≠ f)) ++ hs
    have same : ∀ a, a ∈ ads own ++ hs ↔ a ∈ f :: hs' := fun a => by
      show _ ↔ a ∈ f :: ((ads own).filter (fun a => decide (a ≠ f)) ++ hs)
      simp only [List.mem_append, List.mem_cons, List.mem_filter, decide_eq_true_eq]
      constructor
      · rintro (h | h)
        · by_cases z : a = f
          · exact .inl z
          · exact .inr (.inl ⟨h, z⟩)
        · exact .inr (.inr h)
      · rintro (h | h | h)
        · rw [h]; exact .inl mf
        · exact .inl h.1
        · exact .inr h
    have ec : ∀ H, cut (ads own ++ hs) H = cut (f :: hs') H := fun H => cut_same same
    refine ⟨hs', f, cells, vs, ds, by simp, ⟨fun a ha => S2.hid a ((same a).mpr ha), fun p hp => ?_⟩, ?_, by rw [← ec]; exact r2, hp ds hd, fun v H3 d hd3 e3 SF r3 => ?_⟩
    · rw [List.mem_singleton.mp hp]
      show OkC K (cut (f :: hs') H2) H2 f _
      rw [← ec]
      exact S2.ok _ m
    · intro z
      rcases List.mem_append.mp z with z | z
      · simpa using (List.mem_filter.mp z).2
      · exact S2.dj f mf z
    · have e3' : ExZ (· ∈ ads own) H2 H3 := fun a o hz ha => e3 a o (fun z => hz (z ▸ mf)) ha
      refine q v H3 d (hq ds d hd hd3) (e2.trans e3') ?_ (by rw [ec]; exact r3)
      refine ⟨fun a ha => SF.hid a ((same a).mp ha), S2.nd, S2.dj, S2.sl.mono e3'.cut, fun p hp => ?_⟩
      by_cases z : p.1 = f
      · have hpe : p = (f, .fd cells) := by
          obtain ⟨i, hi, e1⟩ := List.mem_iff_getElem.mp hp
          obtain ⟨j, hj, e4⟩ := List.mem_iff_getElem.mp m
          have nd := S2.nd
          unfold ads at nd
          have : i = j := (List.getElem_inj nd (h₀ := by simpa using hi) (h₁ := by simpa using hj)).mp (by simp [e1, e4, z])
          subst this
          rw [← e1, ← e4]
        rw [hpe, ec]
        exact SF.ok _ List.mem_cons_self
      · obtain ⟨o, ho⟩ := (S2.ok p hp).some
        exact (S2.ok p hp).mono e3'.cut (by rw [ho]; exact e3 _ _ z ho)⟩
/-- the feed, opened -/
theorem runO_open {f : Addr} {cells : List Int} (h : ∀ a l n, RunO K ts δ ((f, .d (fdK cells a l n)) :: own) O) : RunO K ts δ ((f, .fd cells) :: own) O := fun hs Z H0 D σ H b S fo => by
  obtain ⟨a, l, n, ws, h1, h2⟩ := S.ok (f, .fd cells) List.mem_cons_self
  refine h a l n hs Z H0 D σ H b ⟨S.hid, S.nd, S.dj, S.sl, fun p hp => ?_⟩ fo
  rcases List.mem_cons.mp hp with e | hp
  · rw [e]; exact ⟨ws, h1, h2⟩
  · exact S.ok p (List.mem_cons_of_mem _ hp)
theorem StF.close {f : Addr} {cells : List Int} {a l n : Int} (h : StF K hs H [(f, .d (fdK cells a l n))]) : StF K hs H [(f, .fd cells)] := ⟨h.hid, fun p hp => by
  rw [List.mem_singleton.mp hp]
  obtain ⟨ws, h1, h2⟩ := h.ok _ List.mem_cons_self
  exact ⟨a, l, n, ws, h1, h2⟩⟩
def outF (f : Addr) (cells : List Int) (P : PyData → Prop) : OutO := ⟨fun _ _ => False, fun _ _ => False, fun fs d => (fs = [(f, .fd cells)] ∨ ∃ a l n, fs = [(f, .d (fdK cells a l n))]) ∧ P d⟩
theorem Sl.startS {H : Hp} {vs : List V} {ds : List SD} (N : List Str) (h : SlA K H ds vs) : Sl K H (L2.start N vs) (ds.map some ++ List.replicate (N.length - ds.length) none) := by
  have hl := h.length
  refine ⟨by simp [L2.start, hl], fun i d q => ?_⟩
  by_cases hi : i < ds.length
  · rw [List.getElem?_append_left (by simpa using hi), List.getElem?_map] at q
    cases e : ds[i]? with
    | none => rw [e] at q; cases q
    | some d0 =>
      rw [e] at q
      cases q
      obtain ⟨v, h1, h2⟩ := h.get e
      refine ⟨v, ?_, h2⟩
      unfold L2.start
      rw [List.getElem?_append_left (by simpa [hl] using hi), List.getElem?_map, h1]
      rfl
  · rw [List.getElem?_append_right (by simpa using hi), List.getElem?_replicate] at q
    split at q <;> cases q
/-- a def's body that has the feed, from its reading -/
theorem spf_run {Pre : List PyData → Prop} {Post : List PyData → PyData → Prop} {N : List Str} (h : ∀ f cells ds, Pre ds → RunO K ts (some (.v (.ref f)) :: ds.map (fun d => some (.d d)) ++ List.replicate (N.length - (ds.length + 1)) none) [(f, .fd cells)] (outF f cells (Post ds))) {vs : List V} {H : Hp} {Q : VK} {E : XK} (q : SpF K Pre Post vs H Q E) :
    ts { nx := fun _ H' => Q .non H', rt := Q } (start N vs) H := by
  obtain ⟨hs, f, cells, us, ds, rfl, SF, hf, ra, hp, k⟩ := q
  have hl := ra.length
  have Ssl : Sl K (cut ([f] ++ hs) H) (start N (.ref f :: us)) (some (.v (.ref f)) :: ds.map (fun d => some (.d d)) ++ List.replicate (N.length - (ds.length + 1)) none) := by
    have S0 := Sl.startS N (SlA.cons (d := .v (.ref f)) (K := K) (H := cut ([f] ++ hs) H) rfl (SlA.of_ra ra))
    simp only [List.map_cons, List.map_map, List.length_cons, List.length_map] at S0
    exact S0
  exact h f cells ds hp hs (· = f) H _ (start N (.ref f :: us)) H ⟨fun _ _ _ h => h, fun a m => .inl (by simpa [ads] using m)⟩ ⟨SF.hid, by simp [ads], fun a m => by simp [ads] at m; rw [m]; exact hf, Ssl, SF.ok⟩
    ⟨fun _ _ _ _ h => h.elim, fun _ _ _ _ h => h.elim, fun fs d v H' hd e SF' r => by
      obtain ⟨hfs, hd⟩ := hd
      rcases hfs with rfl | ⟨a, l, n, rfl⟩
      · exact k v H' d hd e SF' r
      · exact k v H' d hd e SF'.close r⟩
end
end Dw
set_option Elab.async false
set_option linter.all false
set_option maxRecDepth 100000
set_option maxHeartbeats 1000000
/-! Promises of the law's builders. -/
namespace Dw
open PySem PySem.Spec PyProof.Rows L2
structure WordsOk (ws : List Str) : Prop where
  nd : ws.Nodup
  names : ∀ w ∈ ws, NameOk w
  six : ∀ w ∈ ws, w.length ≠ 6
  two : 2 ≤ ws.length
  eight : ws.length ≤ 8
def TreeOk (ws : List Str) (t : Tree) : Prop := WF t ∧ (∀ r ∈ t.1, ∀ p ∈ r.2.2, p.1 ∈ ws) ∧ t.1.length ≤ 11 ∧ (∀ r ∈ t.1, r.2.2.length ≤ 8) ∧ t.2 ≤ 40
def WayIn (ws : List Str) (w : List Str) : Prop := (∀ x ∈ w, x ∈ ws) ∧ w.length ≤ 6
def DeedIn (ws : List Str) : Deed → Prop
  | .look w => WayIn ws w
  | .list w => WayIn ws w
  | .make w k => WayIn ws w ∧ w ≠ [] ∧ (k = sD ∨ k = sS)
  | .drop w => WayIn ws w ∧ w ≠ []
  | .link a b => (WayIn ws a ∧ a ≠ []) ∧ WayIn ws b ∧ b ≠ []
  | .move a b => (WayIn ws a ∧ a ≠ []) ∧ WayIn ws b ∧ b ≠ []
  | .swap a b => (WayIn ws a ∧ a ≠ []) ∧ WayIn ws b ∧ b ≠ []
/-- pairs of names: newer names, and the way back -/
structure NpIn (ws : List Str) (np : NP) : Prop where
  nd : (np.map (·.1)).Nodup
  nd2 : (np.map (·.2)).Nodup
  few : np.length ≤ 8
  keys : ∀ p ∈ np, p.1 ∈ ws
  ok : ∀ p ∈ np, NameOk p.2
  back : ∀ x ∈ ws, (∃ p ∈ np, p.1 = x) ∨ ∀ p ∈ np, p.2 ≠ x
structure IpIn (t : Tree) (ip : IP) : Prop where
  nd : (ip.map (·.1)).Nodup
  few : ip.length ≤ 11
  perm : (ip.map (·.1)).Perm (ip.map (·.2))
  keys : ∀ p ∈ ip, p.1 ≠ 0 ∧ In t p.1
def Pre_draw (ds : List PyData) : Prop := ∃ m : Int, ds = [.int m] ∧ 0 < m ∧ m < 1073741824
def Post_draw (ds : List PyData) (d : PyData) : Prop := ∃ m r : Int, ds = [.int m] ∧ d = .int r ∧ 0 ≤ r ∧ r < m
def Pre_names (ds : List PyData) : Prop := ds = []
def Post_names (ds : List PyData) (d : PyData) : Prop := ∃ ws : List Str, WordsOk ws ∧ d = .list (ws.map .str)
def Pre_tree (ds : List PyData) : Prop := ∃ ws : List Str, ∃ m : Nat, WordsOk ws ∧ m ≤ 10 ∧ ds = [.list (ws.map .str), .int m]
def Post_tree (ds : List PyData) (d : PyData) : Prop := ∃ ws : List Str, ∃ (m : PyData) (t : Tree), ds = [.list (ws.map .str), m] ∧ TreeOk ws t ∧ d = eTree t
def Pre_way (ds : List PyData) : Prop := ∃ (ws : List Str) (t : Tree), ∃ m : Nat, WordsOk ws ∧ TreeOk ws t ∧ m ≤ 1 ∧ ds = [eTree t, .list (ws.map .str), .int m]
def Post_way (ds : List PyData) (d : PyData) : Prop := ∃ (ws w : List Str), ∃ (t : PyData) (m : Nat), ds = [t, .list (ws.map .str), .int m] ∧ (∀ x ∈ w, x ∈ ws) ∧ w.length ≤ 4 ∧ m ≤ w.length ∧ d = eWay w
def Pre_deed (ds : List PyData) : Prop := ∃ (ws : List Str) (t : Tree), WordsOk ws ∧ TreeOk ws t ∧ ds = [eTree t, .list (ws.map .str)]
def Post_deed (ds : List PyData) (d : PyData) : Prop := ∃ ws : List Str, ∃ (t : PyData) (dd : Deed), ds = [t, .list (ws.map .str)] ∧ DeedIn ws dd ∧ d = eDeed dd
def Pre_name_pairs (ds : List PyData) : Prop := ∃ ws : List Str, WordsOk ws ∧ ds = [.list (ws.map .str)]
def Post_name_pairs (ds : List PyData) (d : PyData) : Prop := ∃ (ws : List Str) (np : NP), ds = [.list (ws.map .str)] ∧ NpIn ws np ∧ d = npD np
def Pre_node_pairs (ds : List PyData) : Prop := ∃ (ws : List Str) (t : Tree), TreeOk ws t ∧ ds = [eTree t]
def Post_node_pairs (ds : List PyData) (d : PyData) : Prop := ∃ (t : Tree) (ip : IP), ds = [eTree t] ∧ IpIn t ip ∧ d = ipD ip
abbrev rJoin (K : PySem.W.Frag) : V → List V → Hp → VK → Prop := fun x xs H Q => ∃ a p, ∃ ys : List Str, x = .str a ∧ xs = [.ref p] ∧ (SqL K H p (ys.map V.str) ∨ SqT K H p (ys.map V.str)) ∧
    (ys.map (·.length)).sum + ys.length * a.length ≤ 16777216 ∧ Q (.str (Txt.join a ys)) H
abbrev rFind : V → List V → Hp → VK → Prop := fun x xs H Q => ∃ a b, x = .str a ∧ xs = [.str b] ∧ Q (.int (Txt.find a b)) H
end Dw
set_option Elab.async false
set_option linter.all false
set_option maxRecDepth 100000
set_option maxHeartbeats 600000
namespace Dw
open PySem PySem.Spec PyProof.Rows L2
section
variable {P : Program} {w : World} {K : PySem.W.Frag} {mg : Str → Option Value} {base : Heap} {f : Addr} {cdv : Value} {A : Around} {outer : List Env} {s : Shared} {H : Hp} {E : XK}
abbrev N__law_draw : List Str := ["_law_feed_here", "_law_many", "_law_figure", "_law_at", "_law_cell", "_law_mixed"]
theorem sc__law_draw : FnScope N__law_draw ["_law_feed_here", "_law_many"] (defScope s__law_draw) := ⟨rfl, rfl, rfl, by decide +kernel, rfl, by decide +kernel, by decide +kernel⟩
def t__law_draw (K : PySem.W.Frag) : TS :=
    tSeq (sDPut (tVar 0) (tC (.str ("count" : Str))) (tOp (rI0 fun i j => .int (i + j)) (tDGet (tVar 0) (tC (.str ("count" : Str)))) (tC (.int 1))))
    (tSeq (tIfS (tTest (tOp (rI0 fun i j => .bl (decide (j < i))) (tDGet (tVar 0) (tC (.str ("left" : Str)))) (tC (.int 0)))) (tSeq (tAsg (tOp (rI (fun _ j => 0 < j) fun i j => .int (i % j)) (tDGet (tVar 0) (tC (.str ("left" : Str)))) (tVar 1)) (gName 2))
    (tSeq (sDPut (tVar 0) (tC (.str ("left" : Str))) (tOp (rI CDiv fun i j => .int (i / j)) (tDGet (tVar 0) (tC (.str ("left" : Str)))) (tVar 1)))
    (tRet (tVar 2)))) (tNext))
    (tSeq (tAsg (tDGet (tVar 0) (tC (.str ("at" : Str)))) (gName 3))
    (tSeq (sDPut (tVar 0) (tC (.str ("at" : Str))) (tOp (rI0 fun i j => .int (i + j)) (tVar 3) (tC (.int 1))))
    (tSeq (tAsg (tIf (tTest (tOp (rNeP K) (tDGet (tVar 0) (tC (.str ("cells" : Str)))) (tLst (tNil)))) (tOp (rIxL K) (tDGet (tVar 0) (tC (.str ("cells" : Str)))) (tOp (rI (fun _ j => 0 < j) fun i j => .int (i % j)) (tVar 3) (tCB (rLenAny K) (tCons (tDGet (tVar 0) (tC (.str ("cells" : Str)))) (tNil))))) (tC (.int 13))) (gName 4))
    (tSeq (tIfS (tAnd (tTest (tOp (rI0 fun i j => .bl (decide (j ≤ i))) (tVar 4) (tOp (rI CPow fun i j => .int (i ^ j.toNat)) (tC (.int 10)) (tC (.int 18))))) (tTest (tOp (rI0 fun i j => .bl (decide (i < j))) (tVar 3) (tCB (rLenAny K) (tCons (tDGet (tVar 0) (tC (.str ("cells" : Str)))) (tNil)))))) (tSeq (sDPut (tVar 0) (tC (.str ("left" : Str))) (tOp (rI CDiv fun i j => .int (i / j)) (tVar 4) (tVar 1)))
    (tRet (tOp (rI (fun _ j => 0 < j) fun i j => .int (i % j)) (tVar 4) (tVar 1)))) (tNext))
    (tSeq (tAsg (tOp (rI (fun _ j => 0 < j) fun i j => .int (i % j)) (tOp (rI0 fun i j => .int (i + j)) (tOp (rI0 fun i j => .int (i + j)) (tOp (rI (fun _ j => 0 < j) fun i j => .int (i % j)) (tVar 4) (tC (.int 1000000097))) (tOp (rI CMul fun i j => .int (i * j)) (tC (.int 60013)) (tDGet (tVar 0) (tC (.str ("count" : Str)))))) (tC (.int 47))) (tC (.int 2147483579))) (gName 5))
    (tSeq (tAsg (tOp (rI (fun _ j => 0 < j) fun i j => .int (i % j)) (tOp (rI0 fun i j => .int (i + j)) (tOp (rI0 fun i j => .int (i + j)) (tOp (rI CMul fun i j => .int (i * j)) (tVar 5) (tVar 5)) (tOp (rI CMul fun i j => .int (i * j)) (tC (.int 7368787)) (tDGet (tVar 0) (tC (.str ("count" : Str)))))) (tC (.int 17))) (tC (.int 2147483549))) (gName 5))
    (tRet (tOp (rI (fun _ j => 0 < j) fun i j => .int (i % j)) (tOp (rI CDiv fun i j => .int (i / j)) (tOp (rI (fun _ j => 0 < j) fun i j => .int (i % j)) (tOp (rI0 fun i j => .int (i + j)) (tOp (rI CMul fun i j => .int (i * j)) (tVar 5) (tVar 5)) (tOp (rI CMul fun i j => .int (i * j)) (tC (.int 29)) (tVar 5))) (tC (.int 2147483543))) (tC (.int 16))) (tVar 1))))))))))
theorem wk__law_draw (B : Bs mg)   (hr : Room 0 (A.deeper (envOfC "_law_draw" (defScope s__law_draw) s.heap.objs.size f cdv))) :
    PSs (cxOf CX0 P w K mg base N__law_draw "_law_draw" (defScope s__law_draw) f cdv A outer s H E).nox (defBody s__law_draw) (t__law_draw K) := by
  exact (pss_cons (ps_dput (hu_of hr) (pv 0) (pe_str) (pe_op op_add (pe_dget (hu_of hr) (pv 0) (pe_str) (fun _ _ => rfl)) (pe_int)) rfl)
      (pss_cons (ps_if (pt_cmpR op_gt (pe_dget (hu_of hr) (pv 0) (pe_str) (fun _ _ => rfl)) (pe_int) (nomark _)) (pss_cons (ps_set (i := 2) sc__law_draw.nd rfl (by first | exact Or.inl rfl | exact Or.inr rfl) (pe_op op_mod (pe_dget (hu_of hr) (pv 0) (pe_str) (fun _ _ => rfl)) (pv 1)))
      (pss_cons (ps_dput (hu_of hr) (pv 0) (pe_str) (pe_op op_fdiv (pe_dget (hu_of hr) (pv 0) (pe_str) (fun _ _ => rfl)) (pv 1)) rfl)
      (pss_one (ps_ret (pv 2))))) (pss_nil))
      (pss_cons (ps_set (i := 3) sc__law_draw.nd rfl (by first | exact Or.inl rfl | exact Or.inr rfl) (pe_dget (hu_of hr) (pv 0) (pe_str) (fun _ _ => rfl)))
      (pss_cons (ps_dput (hu_of hr) (pv 0) (pe_str) (pe_op op_add (pv 3) (pe_int)) rfl)
      (pss_cons (ps_set (i := 4) sc__law_draw.nd rfl (by first | exact Or.inl rfl | exact Or.inr rfl) (pe_ifExp (pt_cmpR (op_neP hr.units) (pe_dget (hu_of hr) (pv 0) (pe_str) (fun _ _ => rfl)) (pe_lst (pa_nil)) (nomark _)) (pe_ix ix_list (pe_dget (hu_of hr) (pv 0) (pe_str) (fun _ _ => rfl)) (pe_op op_mod (pv 3) (pe_callB call_len (by rfl) B.len_ (by decide +kernel) (pa_cons (pe_dget (hu_of hr) (pv 0) (pe_str) (fun _ _ => rfl)) (pa_nil)))) (fun _ _ => rfl)) (pe_int)))
      (pss_cons (ps_if (PW.pt (pw_and (pt_cmpR op_ge (pv 4) (pe_op op_pow (pe_int) (pe_int)) (nomark _)) (pw_and1 (pt_cmpR op_lt (pv 3) (pe_callB call_len (by rfl) B.len_ (by decide +kernel) (pa_cons (pe_dget (hu_of hr) (pv 0) (pe_str) (fun _ _ => rfl)) (pa_nil))) (nomark _))))) (pss_cons (ps_dput (hu_of hr) (pv 0) (pe_str) (pe_op op_fdiv (pv 4) (pv 1)) rfl)
      (pss_one (ps_ret (pe_op op_mod (pv 4) (pv 1))))) (pss_nil))
      (pss_cons (ps_set (i := 5) sc__law_draw.nd rfl (by first | exact Or.inl rfl | exact Or.inr rfl) (pe_op op_mod (pe_op op_add (pe_op op_add (pe_op op_mod (pv 4) (pe_int)) (pe_op op_mul (pe_int) (pe_dget (hu_of hr) (pv 0) (pe_str) (fun _ _ => rfl)))) (pe_int)) (pe_int)))
      (pss_cons (ps_set (i := 5) sc__law_draw.nd rfl (by first | exact Or.inl rfl | exact Or.inr rfl) (pe_op op_mod (pe_op op_add (pe_op op_add (pe_op op_mul (pv 5) (pv 5)) (pe_op op_mul (pe_int) (pe_dget (hu_of hr) (pv 0) (pe_str) (fun _ _ => rfl)))) (pe_int)) (pe_int)))
      (pss_one (ps_ret (pe_op op_mod (pe_op op_fdiv (pe_op op_mod (pe_op op_add (pe_op op_mul (pv 5) (pv 5)) (pe_op op_mul (pe_int) (pv 5))) (pe_int)) (pe_int)) (pv 1))))))))))))
abbrev N__law_names : List Str := ["_law_feed_here", "_law_letters", "_law_step_now", "_law_found", "_law_rest", "_law_k", "_law_word", "_law_sign"]
theorem sc__law_names : FnScope N__law_names ["_law_feed_here"] (defScope s__law_names) := ⟨rfl, rfl, rfl, by decide +kernel, rfl, by decide +kernel, by decide +kernel⟩
def t__law_names (K : PySem.W.Frag) : TS :=
    tSeq (tAsg (tTupF (tCons (tC (.str ("abcdefghijklmnopqrstuvwxyz" : Str))) (tCons (tCall (SpF K Pre_draw Post_draw) [] E0 (tCons (tVar 0) (tCons (tC (.int 26)) (tNil)))) (tCons (tLst (tNil)) (tNil))))) (gTup K 3 (gCons (gName 1) (gCons (gName 2) (gCons (gName 3) (gNil))))))
    (tSeq (tAsg (tLst (tCons (tC (.str ("a" : Str))) (tCons (tC (.str ("b" : Str))) (tCons (tC (.str ("ab" : Str))) (tCons (tC (.str ("abc" : Str))) (tCons (tC (.str ("z" : Str))) (tCons (tC (.str ("abcdefgh" : Str))) (tCons (tC (.str ("ba" : Str))) (tCons (tC (.str ("bb" : Str))) (tNil)))))))))) (gName 4))
    (tSeq (tFor (iRng1 (tCons (tOp (rI0 fun i j => .int (i + j)) (tC (.int 2)) (tCall (SpF K Pre_draw Post_draw) [] E0 (tCons (tVar 0) (tCons (tC (.int 7)) (tNil))))) (tNil))) (gName 5) (tSeq (tAsg (tBM K "list" rPopAt (tVar 4) (tCons (tCall (SpF K Pre_draw Post_draw) [] E0 (tCons (tVar 0) (tCons (tCB (rLenAny K) (tCons (tVar 4) (tNil))) (tNil)))) (tNil))) (gName 6))
    (tDrop (tBM K "list" rAppend (tVar 3) (tCons (tM1 (rJoin K) (tC (.str ("" : Str))) (tLc (iStr (tVar 6)) (gName 7) (tYes) (tOp (rIxS) (tVar 1) (tOp (rI (fun _ j => 0 < j) fun i j => .int (i % j)) (tOp (rI0 fun i j => .int (i + j)) (tM1 rFind (tVar 1) (tVar 7)) (tVar 2)) (tC (.int 26)))) [7])) (tNil))))))
    (tRet (tVar 3))))
theorem wk__law_names (B : Bs mg)  (c__law_draw : Cal P w K mg base 1 "_law_draw" (SpF K Pre_draw Post_draw)) (hr : Room 1 (A.deeper (envOfC "_law_names" (defScope s__law_names) s.heap.objs.size f cdv))) :
    PSs (cxOf CX0 P w K mg base N__law_names "_law_names" (defScope s__law_names) f cdv A outer s H E).nox (defBody s__law_names) (t__law_names K) := by
  exact (pss_cons (ps_asg (pe_tupF (pa_cons (pe_str) (pa_cons (pe_cal c__law_draw hr (by decide) rfl (pa_cons (pv 0) (pa_cons (pe_int) (pa_nil)))) (pa_cons (pe_lst (pa_nil)) (pa_nil))))) (pg_tup rfl (pgs_cons (pg_name (i := 1) sc__law_names.nd rfl (by first | exact Or.inl rfl | exact Or.inr rfl)) (pgs_cons (pg_name (i := 2) sc__law_names.nd rfl (by first | exact Or.inl rfl | exact Or.inr rfl)) (pgs_cons (pg_name (i := 3) sc__law_names.nd rfl (by first | exact Or.inl rfl | exact Or.inr rfl)) (pgs_nil))))))
      (pss_cons (ps_set (i := 4) sc__law_names.nd rfl (by first | exact Or.inl rfl | exact Or.inr rfl) (pe_lst (pa_cons (pe_str) (pa_cons (pe_str) (pa_cons (pe_str) (pa_cons (pe_str) (pa_cons (pe_str) (pa_cons (pe_str) (pa_cons (pe_str) (pa_cons (pe_str) (pa_nil)))))))))))
      (pss_cons (ps_for PassesOwn.never rfl (pi_range1 (by rfl) B.range_ (pa_cons (pe_op op_add (pe_int) (pe_cal c__law_draw hr (by decide) rfl (pa_cons (pv 0) (pa_cons (pe_int) (pa_nil))))) (pa_nil))) (pg_name (i := 5) sc__law_names.nd rfl (by first | exact Or.inl rfl | exact Or.inr rfl)) (pss_cons (ps_set (i := 6) sc__law_names.nd rfl (by first | exact Or.inl rfl | exact Or.inr rfl) (pe_bm PySem.F.plainAttrs_list PySem.F.slot_list_pop PySem.F.type_list_pop mt_popAt (pv 4) (pa_cons (pe_cal c__law_draw hr (by decide) rfl (pa_cons (pv 0) (pa_cons (pe_callB call_len (by rfl) B.len_ (by decide +kernel) (pa_cons (pv 4) (pa_nil))) (pa_nil)))) (pa_nil))))
      (pss_one (ps_expr (pe_bm PySem.F.plainAttrs_list PySem.F.slot_list_append PySem.F.type_list_append mt_append (pv 3) (pa_cons (pe_join (pe_str) (pe_lc (own := [("_law_sign", 7)]) (g := gName 7) (tt := tYes) (te := tOp (rIxS) (tVar 1) (tOp (rI (fun _ j => 0 < j) fun i j => .int (i % j)) (tOp (rI0 fun i j => .int (i + j)) (tM1 rFind (tVar 1) (tVar 7)) (tVar 2)) (tC (.int 26)))) rfl sc__law_names.nd (pi_str (pv 6)) (blkOk_by (own := [("_law_sign", 7)]) (N := N__law_names) (sc := defScope s__law_names) (by decide +kernel)) (fun _ _ _ _ _ => pg_name (i := 7) sc__law_names.nd rfl (by first | exact Or.inl rfl | exact Or.inr rfl)) (fun _ _ _ _ _ => pts_nil) (fun _ _ _ _ _ => pe_ix ix_str (pv 1) (pe_op op_mod (pe_op op_add (pe_m1 PySem.F.slot_str_find PySem.F.type_str_find mt_find (pv 1) (pv 7)) (pv 2)) (pe_int)) (fun _ _ => rfl)))) (pa_nil)))))))
      (pss_one (ps_ret (pv 3))))))
abbrev N__law_tree : List Str := ["_law_feed_here", "_law_words_here", "_law_many", "_law_entries", "_law_kinds", "_law_pool", "_law_deep", "_law_k", "_law_drawers", "_law_node", "_law_drawer", "_law_name", "_law_rows"]
theorem sc__law_tree : FnScope N__law_tree ["_law_feed_here", "_law_words_here", "_law_many"] (defScope s__law_tree) := ⟨rfl, rfl, rfl, by decide +kernel, rfl, by decide +kernel, by decide +kernel⟩
def t__law_tree (K : PySem.W.Frag) : TS :=
    tSeq (tAsg (tTupF (tCons (tDisp [(tC (.int 0), tDNewK)]) (tCons (tDisp [(tC (.int 0), tC (.str ("drawer" : Str)))]) (tNil)))) (gTup K 2 (gCons (gName 3) (gCons (gName 4) (gNil)))))
    (tSeq (tAsg (tLstRg (tRg2 (tC (.int 1)) (tOp (rI0 fun i j => .int (i + j)) (tOp (rI0 fun i j => .int (i + j)) (tVar 2) (tC (.int 2))) (tCall (SpF K Pre_draw Post_draw) [] E0 (tCons (tVar 0) (tCons (tC (.int 3)) (tNil))))))) (gName 5))
    (tSeq (tAsg (tCall (SpF K Pre_draw Post_draw) [] E0 (tCons (tVar 0) (tCons (tC (.int 2)) (tNil)))) (gName 6))
    (tSeq (tFor (iRng1 (tCons (tVar 2) (tNil))) (gName 7) (tSeq (tLocks (tAsg (tLc (iKeys (tVar 4)) (gName 9) (tTest (tOp (rEqP K) (tDGet (tVar 4) (tVar 9)) (tC (.str ("drawer" : Str))))) (tVar 9) [9]) (gName 8)))
    (tSeq (tAsg (tOp (rIxL K) (tVar 8) (tUn (rU fun i => .int (-i)) (tC (.int 1)))) (gName 10))
    (tSeq (tIfS (tOr (tTest (tOp (rEqP K) (tVar 6) (tC (.int 0)))) (tTest (tOp (rEqP K) (tCall (SpF K Pre_draw Post_draw) [] E0 (tCons (tVar 0) (tCons (tC (.int 2)) (tNil)))) (tC (.int 1))))) (tAsg (tOp (rIxL K) (tVar 8) (tCall (SpF K Pre_draw Post_draw) [] E0 (tCons (tVar 0) (tCons (tCB (rLenAny K) (tCons (tVar 8) (tNil))) (tNil))))) (gName 10)) (tNext))
    (tSeq (tAsg (tOp (rIxL K) (tVar 1) (tCall (SpF K Pre_draw Post_draw) [] E0 (tCons (tVar 0) (tCons (tCB (rLenAny K) (tCons (tVar 1) (tNil))) (tNil))))) (gName 11))
    (tSeq (tAsg (tOp (rIxL K) (tVar 5) (tCall (SpF K Pre_draw Post_draw) [] E0 (tCons (tVar 0) (tCons (tCB (rLenAny K) (tCons (tVar 5) (tNil))) (tNil))))) (gName 9))
    (tIfS (tAnd (tB (tDNotIn (tVar 11) (tDGet (tVar 3) (tVar 10)))) (tB (tDNotIn (tVar 9) (tVar 4)))) (tSeq (sDPut (tVar 4) (tVar 9) (tOp (rIxL K) (tLst (tCons (tC (.str ("drawer" : Str))) (tCons (tC (.str ("drawer" : Str))) (tCons (tC (.str ("sheet" : Str))) (tNil))))) (tCall (SpF K Pre_draw Post_draw) [] E0 (tCons (tVar 0) (tCons (tC (.int 3)) (tNil))))))
    (tAsg (tTupF (tCons (tDNewK) (tCons (tVar 9) (tNil)))) (gTup K 2 (gCons (gSub (tVar 3) (tVar 9) rSetD) (gCons (gSub (tDGet (tVar 3) (tVar 10)) (tVar 11) rSetD) (gNil)))))) (tNext))))))))
    (tSeq (tFor (iList K (tLockE (tLc (iKeys (tVar 4)) (gName 9) (tTest (tOp (rEqP K) (tDGet (tVar 4) (tVar 9)) (tC (.str ("sheet" : Str))))) (tVar 9) [9]))) (gName 9) (tSeq (tLocks (tAsg (tLc (iKeys (tVar 4)) (gName 9) (tTest (tOp (rEqP K) (tDGet (tVar 4) (tVar 9)) (tC (.str ("drawer" : Str))))) (tVar 9) [9]) (gName 8)))
    (tSeq (tAsg (tOp (rIxL K) (tVar 8) (tCall (SpF K Pre_draw Post_draw) [] E0 (tCons (tVar 0) (tCons (tCB (rLenAny K) (tCons (tVar 8) (tNil))) (tNil))))) (gName 10))
    (tSeq (tAsg (tOp (rIxL K) (tVar 1) (tCall (SpF K Pre_draw Post_draw) [] E0 (tCons (tVar 0) (tCons (tCB (rLenAny K) (tCons (tVar 1) (tNil))) (tNil))))) (gName 11))
    (tIfS (tAnd (tB (tDNotIn (tVar 11) (tDGet (tVar 3) (tVar 10)))) (tTest (tOp (rEqP K) (tCall (SpF K Pre_draw Post_draw) [] E0 (tCons (tVar 0) (tCons (tC (.int 2)) (tNil)))) (tC (.int 0))))) (sDPut (tDGet (tVar 3) (tVar 10)) (tVar 11) (tVar 9)) (tNext))))))
    (tSeq (tAsg (tLst (tNil)) (gName 12))
    (tSeq (tFor (iList K (tCB (rSortDI) (tCons (tVar 4) (tNil)))) (gName 9) (tDrop (tBM K "list" rAppend (tVar 12) (tCons (tTupF (tCons (tVar 9) (tCons (tDGet (tVar 4) (tVar 9)) (tCons (tCB (rTupF K) (tCons (tSortIt (tDGet (tVar 3) (tVar 9))) (tNil))) (tNil))))) (tNil)))))
    (tRet (tTupF (tCons (tCB (rTupF K) (tCons (tVar 12) (tNil))) (tCons (tOp (rI0 fun i j => .int (i + j)) (tOp (rI0 fun i j => .int (i + j)) (tOp (rIxT K) (tOp (rIxL K) (tVar 12) (tUn (rU fun i => .int (-i)) (tC (.int 1)))) (tC (.int 0))) (tC (.int 1))) (tCall (SpF K Pre_draw Post_draw) [] E0 (tCons (tVar 0) (tCons (tC (.int 3)) (tNil))))) (tNil)))))))))))
theorem wk__law_tree (B : Bs mg)  (c__law_draw : Cal P w K mg base 1 "_law_draw" (SpF K Pre_draw Post_draw)) (hr : Room 1 (A.deeper (envOfC "_law_tree" (defScope s__law_tree) s.heap.objs.size f cdv))) :
    PSs (cxOf CX0 P w K mg base N__law_tree "_law_tree" (defScope s__law_tree) f cdv A outer s H E).nox (defBody s__law_tree) (t__law_tree K) := by
  exact (pss_cons (ps_asg (pe_tupF (pa_cons (pe_disp (pps_cons (pe_int) (pe_dnewK) (pps_nil)) (by rfl) (by rfl) (fun z => by cases z) (by decide)) (pa_cons (pe_disp (pps_cons (pe_int) (pe_str) (pps_nil)) (by rfl) (by rfl) (fun z => by cases z) (by decide)) (pa_nil)))) (pg_tup rfl (pgs_cons (pg_name (i := 3) sc__law_tree.nd rfl (by first | exact Or.inl rfl | exact Or.inr rfl)) (pgs_cons (pg_name (i := 4) sc__law_tree.nd rfl (by first | exact Or.inl rfl | exact Or.inr rfl)) (pgs_nil)))))
      (pss_cons (ps_set (i := 5) sc__law_tree.nd rfl (by first | exact Or.inl rfl | exact Or.inr rfl) (pe_listRg rfl (by rfl) B.list_ (prg_2 (by rfl) B.range_ (pe_int) (pe_op op_add (pe_op op_add (pv 2) (pe_int)) (pe_cal c__law_draw hr (by decide) rfl (pa_cons (pv 0) (pa_cons (pe_int) (pa_nil))))))))
      (pss_cons (ps_set (i := 6) sc__law_tree.nd rfl (by first | exact Or.inl rfl | exact Or.inr rfl) (pe_cal c__law_draw hr (by decide) rfl (pa_cons (pv 0) (pa_cons (pe_int) (pa_nil)))))
      (pss_cons (ps_for PassesOwn.never rfl (pi_range1 (by rfl) B.range_ (pa_cons (pv 2) (pa_nil))) (pg_name (i := 7) sc__law_tree.nd rfl (by first | exact Or.inl rfl | exact Or.inr rfl)) (pss_cons (ps_locks (ps_setLc (i := 8) (own := [("_law_node", 9)]) (g := gName 9) (tt := tTest (tOp (rEqP K) (tDGet (tVar 4) (tVar 9)) (tC (.str ("drawer" : Str))))) (te := tVar 9) rfl sc__law_tree.nd rfl rfl (sw_true rfl rfl rfl (by decide +kernel)) (pi_keys (pv 4)) (blkOk_by (own := [("_law_node", 9)]) (N := N__law_tree) (sc := defScope s__law_tree) (by decide +kernel)) (fun _ _ _ _ _ => pg_name (i := 9) sc__law_tree.nd rfl (by first | exact Or.inl rfl | exact Or.inr rfl)) (fun _ _ _ _ _ => pts_one (pt_cmpR (op_eqP hr.units) (pe_dget (hu_of hr) (pv 4) (pv 9) (fun _ _ => rfl)) (pe_str) (nomark _))) (fun _ _ _ _ _ => pv 9)))
      (pss_cons (ps_set (i := 10) sc__law_tree.nd rfl (by first | exact Or.inl rfl | exact Or.inr rfl) (pe_ix ix_list (pv 8) (pe_un un_neg (pe_int)) (fun _ _ => rfl)))
      (pss_cons (ps_if (PW.pt (pw_or (pt_cmpR (op_eqP hr.units) (pv 6) (pe_int) (nomark _)) (pw_or1 (pt_cmpR (op_eqP hr.units) (pe_cal c__law_draw hr (by decide) rfl (pa_cons (pv 0) (pa_cons (pe_int) (pa_nil)))) (pe_int) (nomark _))))) (pss_one (ps_set (i := 10) sc__law_tree.nd rfl (by first | exact Or.inl rfl | exact Or.inr rfl) (pe_ix ix_list (pv 8) (pe_cal c__law_draw hr (by decide) rfl (pa_cons (pv 0) (pa_cons (pe_callB call_len (by rfl) B.len_ (by decide +kernel) (pa_cons (pv 8) (pa_nil))) (pa_nil)))) (fun _ _ => rfl)))) (pss_nil))
      (pss_cons (ps_set (i := 11) sc__law_tree.nd rfl (by first | exact Or.inl rfl | exact Or.inr rfl) (pe_ix ix_list (pv 1) (pe_cal c__law_draw hr (by decide) rfl (pa_cons (pv 0) (pa_cons (pe_callB call_len (by rfl) B.len_ (by decide +kernel) (pa_cons (pv 1) (pa_nil))) (pa_nil)))) (fun _ _ => rfl)))
      (pss_cons (ps_set (i := 9) sc__law_tree.nd rfl (by first | exact Or.inl rfl | exact Or.inr rfl) (pe_ix ix_list (pv 5) (pe_cal c__law_draw hr (by decide) rfl (pa_cons (pv 0) (pa_cons (pe_callB call_len (by rfl) B.len_ (by decide +kernel) (pa_cons (pv 5) (pa_nil))) (pa_nil)))) (fun _ _ => rfl)))
      (pss_one (ps_if (PW.pt (pw_and (pt_cmp (pc_dnotin (hu_of hr) (pv 11) (pe_dget (hu_of hr) (pv 3) (pv 10) (fun _ _ => rfl))) rfl) (pw_and1 (pt_cmp (pc_dnotin (hu_of hr) (pv 9) (pv 4)) rfl)))) (pss_cons (ps_dput (hu_of hr) (pv 4) (pv 9) (pe_ix ix_list (pe_lst (pa_cons (pe_str) (pa_cons (pe_str) (pa_cons (pe_str) (pa_nil))))) (pe_cal c__law_draw hr (by decide) rfl (pa_cons (pv 0) (pa_cons (pe_int) (pa_nil)))) (fun _ _ => rfl)) rfl)
      (pss_one (ps_asg (pe_tupF (pa_cons (pe_dnewK) (pa_cons (pv 9) (pa_nil)))) (pg_tup rfl (pgs_cons (pg_sub (pv 3) (pv 9) (set_dict (hu_of hr))) (pgs_cons (pg_sub (pe_dget (hu_of hr) (pv 3) (pv 10) (fun _ _ => rfl)) (pv 11) (set_dict (hu_of hr))) (pgs_nil))))))) (pss_nil)))))))))
      (pss_cons (ps_for PassesOwn.never rfl (pi_list (pe_lock (pe_lc (own := [("_law_node", 9)]) (g := gName 9) (tt := tTest (tOp (rEqP K) (tDGet (tVar 4) (tVar 9)) (tC (.str ("sheet" : Str))))) (te := tVar 9) rfl sc__law_tree.nd (pi_keys (pv 4)) (blkOk_by (own := [("_law_node", 9)]) (N := N__law_tree) (sc := defScope s__law_tree) (by decide +kernel)) (fun _ _ _ _ _ => pg_name (i := 9) sc__law_tree.nd rfl (by first | exact Or.inl rfl | exact Or.inr rfl)) (fun _ _ _ _ _ => pts_one (pt_cmpR (op_eqP hr.units) (pe_dget (hu_of hr) (pv 4) (pv 9) (fun _ _ => rfl)) (pe_str) (nomark _))) (fun _ _ _ _ _ => pv 9)))) (pg_name (i := 9) sc__law_tree.nd rfl (by first | exact Or.inl rfl | exact Or.inr rfl)) (pss_cons (ps_locks (ps_setLc (i := 8) (own := [("_law_node", 9)]) (g := gName 9) (tt := tTest (tOp (rEqP K) (tDGet (tVar 4) (tVar 9)) (tC (.str ("drawer" : Str))))) (te := tVar 9) rfl sc__law_tree.nd rfl rfl (sw_true rfl rfl rfl (by decide +kernel)) (pi_keys (pv 4)) (blkOk_by (own := [("_law_node", 9)]) (N := N__law_tree) (sc := defScope s__law_tree) (by decide +kernel)) (fun _ _ _ _ _ => pg_name (i := 9) sc__law_tree.nd rfl (by first | exact Or.inl rfl | exact Or.inr rfl)) (fun _ _ _ _ _ => pts_one (pt_cmpR (op_eqP hr.units) (pe_dget (hu_of hr) (pv 4) (pv 9) (fun _ _ => rfl)) (pe_str) (nomark _))) (fun _ _ _ _ _ => pv 9)))
      (pss_cons (ps_set (i := 10) sc__law_tree.nd rfl (by first | exact Or.inl rfl | exact Or.inr rfl) (pe_ix ix_list (pv 8) (pe_cal c__law_draw hr (by decide) rfl (pa_cons (pv 0) (pa_cons (pe_callB call_len (by rfl) B.len_ (by decide +kernel) (pa_cons (pv 8) (pa_nil))) (pa_nil)))) (fun _ _ => rfl)))
      (pss_cons (ps_set (i := 11) sc__law_tree.nd rfl (by first | exact Or.inl rfl | exact Or.inr rfl) (pe_ix ix_list (pv 1) (pe_cal c__law_draw hr (by decide) rfl (pa_cons (pv 0) (pa_cons (pe_callB call_len (by rfl) B.len_ (by decide +kernel) (pa_cons (pv 1) (pa_nil))) (pa_nil)))) (fun _ _ => rfl)))
      (pss_one (ps_if (PW.pt (pw_and (pt_cmp (pc_dnotin (hu_of hr) (pv 11) (pe_dget (hu_of hr) (pv 3) (pv 10) (fun _ _ => rfl))) rfl) (pw_and1 (pt_cmpR (op_eqP hr.units) (pe_cal c__law_draw hr (by decide) rfl (pa_cons (pv 0) (pa_cons (pe_int) (pa_nil)))) (pe_int) (nomark _))))) (pss_one (ps_dput (hu_of hr) (pe_dget (hu_of hr) (pv 3) (pv 10) (fun _ _ => rfl)) (pv 11) (pv 9) rfl)) (pss_nil)))))))
      (pss_cons (ps_set (i := 12) sc__law_tree.nd rfl (by first | exact Or.inl rfl | exact Or.inr rfl) (pe_lst (pa_nil)))
      (pss_cons (ps_for PassesOwn.never rfl (pi_list (pe_callB (call_sortedDI rfl) (by rfl) B.sorted_ (by decide +kernel) (pa_cons (pv 4) (pa_nil)))) (pg_name (i := 9) sc__law_tree.nd rfl (by first | exact Or.inl rfl | exact Or.inr rfl)) (pss_one (ps_expr (pe_bm PySem.F.plainAttrs_list PySem.F.slot_list_append PySem.F.type_list_append mt_append (pv 12) (pa_cons (pe_tupF (pa_cons (pv 9) (pa_cons (pe_dget (hu_of hr) (pv 4) (pv 9) (fun _ _ => rfl)) (pa_cons (pe_callTy call_tupF (by rfl) B.tuple_ (by decide +kernel) (pa_cons (pe_sortItems hr.units rfl (pe_dget (hu_of hr) (pv 3) (pv 9) (fun _ _ => rfl)) rfl B.sorted_) (pa_nil))) (pa_nil))))) (pa_nil))))))
      (pss_one (ps_ret (pe_tupF (pa_cons (pe_callTy call_tupF (by rfl) B.tuple_ (by decide +kernel) (pa_cons (pv 12) (pa_nil))) (pa_cons (pe_op op_add (pe_op op_add (pe_ix ix_tup (pe_ix ix_list (pv 12) (pe_un un_neg (pe_int)) (fun _ _ => rfl)) (pe_int) (fun _ _ => rfl)) (pe_int)) (pe_cal c__law_draw hr (by decide) rfl (pa_cons (pv 0) (pa_cons (pe_int) (pa_nil))))) (pa_nil)))))))))))))
abbrev N__law_way : List Str := ["_law_feed_here", "_law_grove", "_law_words_here", "_law_least", "_law_rows", "_law_here", "_law_found", "_law_row", "_law_k", "_law_some", "_law_name"]
theorem sc__law_way : FnScope N__law_way ["_law_feed_here", "_law_grove", "_law_words_here", "_law_least"] (defScope s__law_way) := ⟨rfl, rfl, rfl, by decide +kernel, rfl, by decide +kernel, by decide +kernel⟩
def t__law_way (K : PySem.W.Frag) : TS :=
    tSeq (tPar3 4 5 6 (tCons (tCB (rDictF K) (tCons (tLc (iTup K (tOp (rIxT K) (tVar 1) (tC (.int 0)))) (gName 7) (tYes) (tTupF (tCons (tOp (rIxT K) (tVar 7) (tC (.int 0))) (tCons (tOp (rIxT K) (tVar 7) (tC (.int 2))) (tNil)))) [7]) (tNil))) (tCons (tC (.int 0)) (tCons (tLst (tNil)) (tNil)))))
    (tSeq (tFor (iRng1 (tCons (tCB (rMax2) (tCons (tVar 3) (tCons (tCall (SpF K Pre_draw Post_draw) [] E0 (tCons (tVar 0) (tCons (tC (.int 5)) (tNil)))) (tNil)))) (tNil))) (gName 8) (tSeq (tAsg (tDGet2 (tVar 4) (tVar 5) (tTupF (tNil))) (gName 9))
    (tSeq (tIfS (tAnd (tTest (tOp (rEqP K) (tVar 9) (tTupF (tNil)))) (tAnd (tTest (tOp (rI0 fun i j => .bl (decide (j ≤ i))) (tVar 8) (tVar 3))) (tTest (tOp (rI0 fun i j => .bl (decide (j < i))) (tCall (SpF K Pre_draw Post_draw) [] E0 (tCons (tVar 0) (tCons (tC (.int 4)) (tNil)))) (tC (.int 0)))))) (tBreak) (tNext))
    (tSeq (tIfS (tAnd (tTest (tOp (rNeP K) (tVar 9) (tTupF (tNil)))) (tTest (tOp (rI0 fun i j => .bl (decide (j < i))) (tCall (SpF K Pre_draw Post_draw) [] E0 (tCons (tVar 0) (tCons (tC (.int 5)) (tNil)))) (tC (.int 0))))) (tAsg (tOp (rIxT K) (tVar 9) (tCall (SpF K Pre_draw Post_draw) [] E0 (tCons (tVar 0) (tCons (tCB (rLenAny K) (tCons (tVar 9) (tNil))) (tNil))))) (gTup K 2 (gCons (gName 10) (gCons (gName 5) (gNil))))) (tPar 10 5 (tCons (tOp (rIxL K) (tVar 2) (tCall (SpF K Pre_draw Post_draw) [] E0 (tCons (tVar 0) (tCons (tCB (rLenAny K) (tCons (tVar 2) (tNil))) (tNil))))) (tCons (tUn (rU fun i => .int (-i)) (tC (.int 1))) (tNil)))))
    (tDrop (tBM K "list" rAppend (tVar 6) (tCons (tVar 10) (tNil))))))))
    (tRet (tCB (rTupF K) (tCons (tVar 6) (tNil)))))
theorem wk__law_way (B : Bs mg)  (c__law_draw : Cal P w K mg base 1 "_law_draw" (SpF K Pre_draw Post_draw)) (hr : Room 1 (A.deeper (envOfC "_law_way" (defScope s__law_way) s.heap.objs.size f cdv))) :
    PSs (cxOf CX0 P w K mg base N__law_way "_law_way" (defScope s__law_way) f cdv A outer s H E).nox (defBody s__law_way) (t__law_way K) := by
  exact (pss_cons (ps_par3 rfl sc__law_way.nd rfl rfl rfl (by decide) (by decide) (by decide) rfl rfl rfl (pa_cons (pe_callTy (call_dictF rfl) (by rfl) B.dict_ (by decide +kernel) (pa_cons (pe_lc (own := [("_law_row", 7)]) (g := gName 7) (tt := tYes) (te := tTupF (tCons (tOp (rIxT K) (tVar 7) (tC (.int 0))) (tCons (tOp (rIxT K) (tVar 7) (tC (.int 2))) (tNil)))) rfl sc__law_way.nd (pi_tup (pe_ix ix_tup (pv 1) (pe_int) (fun _ _ => rfl))) (blkOk_by (own := [("_law_row", 7)]) (N := N__law_way) (sc := defScope s__law_way) (by decide +kernel)) (fun _ _ _ _ _ => pg_name (i := 7) sc__law_way.nd rfl (by first | exact Or.inl rfl | exact Or.inr rfl)) (fun _ _ _ _ _ => pts_nil) (fun _ _ _ _ _ => pe_tupF (pa_cons (pe_ix ix_tup (pv 7) (pe_int) (fun _ _ => rfl)) (pa_cons (pe_ix ix_tup (pv 7) (pe_int) (fun _ _ => rfl)) (pa_nil))))) (pa_nil))) (pa_cons (pe_int) (pa_cons (pe_lst (pa_nil)) (pa_nil)))) (by rfl))
      (pss_cons (ps_for PassesOwn.never rfl (pi_range1 (by rfl) B.range_ (pa_cons (pe_callB (call_max2 rfl) (by rfl) B.max_ (by decide +kernel) (pa_cons (pv 3) (pa_cons (pe_cal c__law_draw hr (by decide) rfl (pa_cons (pv 0) (pa_cons (pe_int) (pa_nil)))) (pa_nil)))) (pa_nil))) (pg_name (i := 8) sc__law_way.nd rfl (by first | exact Or.inl rfl | exact Or.inr rfl)) (pss_cons (ps_set (i := 9) sc__law_way.nd rfl (by first | exact Or.inl rfl | exact Or.inr rfl) (pe_dget2 (hu_of hr) (pv 4) (pv 5) (pe_tupF (pa_nil)) ⟨rfl, rfl, rfl, rfl⟩))
      (pss_cons (ps_if (PW.pt (pw_and (pt_cmpR (op_eqP hr.units) (pv 9) (pe_tupF (pa_nil)) (nomark _)) (pw_and (pt_cmpR op_ge (pv 8) (pv 3) (nomark _)) (pw_and1 (pt_cmpR op_gt (pe_cal c__law_draw hr (by decide) rfl (pa_cons (pv 0) (pa_cons (pe_int) (pa_nil)))) (pe_int) (nomark _)))))) (pss_one (ps_break)) (pss_nil))
      (pss_cons (ps_if (PW.pt (pw_and (pt_cmpR (op_neP hr.units) (pv 9) (pe_tupF (pa_nil)) (nomark _)) (pw_and1 (pt_cmpR op_gt (pe_cal c__law_draw hr (by decide) rfl (pa_cons (pv 0) (pa_cons (pe_int) (pa_nil)))) (pe_int) (nomark _))))) (pss_one (ps_asg (pe_ix ix_tup (pv 9) (pe_cal c__law_draw hr (by decide) rfl (pa_cons (pv 0) (pa_cons (pe_callB call_len (by rfl) B.len_ (by decide +kernel) (pa_cons (pv 9) (pa_nil))) (pa_nil)))) (fun _ _ => rfl)) (pg_tup rfl (pgs_cons (pg_name (i := 10) sc__law_way.nd rfl (by first | exact Or.inl rfl | exact Or.inr rfl)) (pgs_cons (pg_name (i := 5) sc__law_way.nd rfl (by first | exact Or.inl rfl | exact Or.inr rfl)) (pgs_nil)))))) (pss_one (ps_par (by rfl) sc__law_way.nd rfl rfl (by decide) rfl rfl (pa_cons (pe_ix ix_list (pv 2) (pe_cal c__law_draw hr (by decide) rfl (pa_cons (pv 0) (pa_cons (pe_callB call_len (by rfl) B.len_ (by decide +kernel) (pa_cons (pv 2) (pa_nil))) (pa_nil)))) (fun _ _ => rfl)) (pa_cons (pe_un un_neg (pe_int)) (pa_nil))) (by rfl))))
      (pss_one (ps_expr (pe_bm PySem.F.plainAttrs_list PySem.F.slot_list_append PySem.F.type_list_append mt_append (pv 6) (pa_cons (pv 10) (pa_nil)))))))))
      (pss_one (ps_ret (pe_callTy call_tupF (by rfl) B.tuple_ (by decide +kernel) (pa_cons (pv 6) (pa_nil)))))))
abbrev N__law_deed : List Str := ["_law_feed_here", "_law_grove", "_law_words_here", "_law_word", "_law_first", "_law_way_here", "_law_name", "_law_second"]
theorem sc__law_deed : FnScope N__law_deed ["_law_feed_here", "_law_grove", "_law_words_here"] (defScope s__law_deed) := ⟨rfl, rfl, rfl, by decide +kernel, rfl, by decide +kernel, by decide +kernel⟩
def t__law_deed (K : PySem.W.Frag) : TS :=
    tSeq (tAsg (tOp (rIxL K) (tLst (tCons (tC (.str ("look" : Str))) (tCons (tC (.str ("list" : Str))) (tCons (tC (.str ("make" : Str))) (tCons (tC (.str ("drop" : Str))) (tCons (tC (.str ("link" : Str))) (tCons (tC (.str ("move" : Str))) (tCons (tC (.str ("swap" : Str))) (tCons (tC (.str ("move" : Str))) (tCons (tC (.str ("make" : Str))) (tNil))))))))))) (tCall (SpF K Pre_draw Post_draw) [] E0 (tCons (tVar 0) (tCons (tC (.int 9)) (tNil))))) (gName 3))
    (tSeq (tAsg (tCall (SpF K Pre_way Post_way) [] E0 (tCons (tVar 0) (tCons (tVar 1) (tCons (tVar 2) (tCons (tCB (rInt1) (tCons (tOp (rIn K true) (tVar 3) (tTupF (tCons (tC (.str ("look" : Str))) (tCons (tC (.str ("list" : Str))) (tNil))))) (tNil))) (tNil)))))) (gName 4))
    (tSeq (tIfS (tTest (tOp (rIn K false) (tVar 3) (tTupF (tCons (tC (.str ("look" : Str))) (tCons (tC (.str ("list" : Str))) (tCons (tC (.str ("drop" : Str))) (tNil))))))) (tRet (tTupF (tCons (tVar 3) (tCons (tVar 4) (tNil))))) (tNext))
    (tSeq (tIfS (tTest (tOp (rEqP K) (tVar 3) (tC (.str ("make" : Str))))) (tSeq (tAsg (tIf (tTest (tOp (rEqP K) (tCall (SpF K Pre_draw Post_draw) [] E0 (tCons (tVar 0) (tCons (tC (.int 3)) (tNil)))) (tC (.int 0)))) (tVar 4) (tOp (rCatF K) (tSl (rSlF K) (tVar 4) (tNoPart) (tPart (tC (.int 3)))) (tTupF (tCons (tOp (rIxL K) (tVar 2) (tCall (SpF K Pre_draw Post_draw) [] E0 (tCons (tVar 0) (tCons (tCB (rLenAny K) (tCons (tVar 2) (tNil))) (tNil))))) (tNil))))) (gName 5))
    (tRet (tTupF (tCons (tVar 3) (tCons (tVar 5) (tCons (tOp (rIxL K) (tLst (tCons (tC (.str ("drawer" : Str))) (tCons (tC (.str ("sheet" : Str))) (tNil)))) (tCall (SpF K Pre_draw Post_draw) [] E0 (tCons (tVar 0) (tCons (tC (.int 2)) (tNil))))) (tNil))))))) (tNext))
    (tSeq (tPar 5 6 (tCons (tCall (SpF K Pre_draw Post_draw) [] E0 (tCons (tVar 0) (tCons (tC (.int 6)) (tNil)))) (tCons (tOp (rIxL K) (tVar 2) (tCall (SpF K Pre_draw Post_draw) [] E0 (tCons (tVar 0) (tCons (tCB (rLenAny K) (tCons (tVar 2) (tNil))) (tNil))))) (tNil))))
    (tSeq (tAsg (tCall (SpF K Pre_way Post_way) [] E0 (tCons (tVar 0) (tCons (tVar 1) (tCons (tVar 2) (tCons (tC (.int 1)) (tNil)))))) (gName 7))
    (tSeq (tIfS (tTest (tOp (rEqP K) (tVar 5) (tC (.int 0)))) (tAsg (tSl (rSlF K) (tOp (rCatF K) (tVar 4) (tTupF (tCons (tVar 6) (tNil)))) (tNoPart) (tPart (tC (.int 4)))) (gName 7)) (tNext))
    (tSeq (tIfS (tTest (tOp (rEqP K) (tVar 5) (tC (.int 1)))) (tAsg (tOp (rCatF K) (tSl (rSlF K) (tVar 4) (tNoPart) (tPart (tUn (rU fun i => .int (-i)) (tC (.int 1))))) (tTupF (tCons (tVar 6) (tNil)))) (gName 7)) (tNext))
    (tSeq (tIfS (tTest (tOp (rEqP K) (tVar 5) (tC (.int 2)))) (tAsg (tVar 4) (gName 7)) (tNext))
    (tSeq (tIfS (tTest (tOp (rI0 fun i j => .bl (decide (j < i))) (tVar 5) (tC (.int 3)))) (tAsg (tOp (rCatF K) (tSl (rSlF K) (tVar 7) (tNoPart) (tPart (tC (.int 3)))) (tTupF (tCons (tVar 6) (tNil)))) (gName 7)) (tNext))
    (tRet (tTupF (tCons (tVar 3) (tCons (tVar 4) (tCons (tVar 7) (tNil)))))))))))))))
theorem wk__law_deed (B : Bs mg)  (c__law_way : Cal P w K mg base 2 "_law_way" (SpF K Pre_way Post_way)) (c__law_draw : Cal P w K mg base 1 "_law_draw" (SpF K Pre_draw Post_draw)) (hr : Room 2 (A.deeper (envOfC "_law_deed" (defScope s__law_deed) s.heap.objs.size f cdv))) :
    PSs (cxOf CX0 P w K mg base N__law_deed "_law_deed" (defScope s__law_deed) f cdv A outer s H E).nox (defBody s__law_deed) (t__law_deed K) := by
  exact (pss_cons (ps_set (i := 3) sc__law_deed.nd rfl (by first | exact Or.inl rfl | exact Or.inr rfl) (pe_ix ix_list (pe_lst (pa_cons (pe_str) (pa_cons (pe_str) (pa_cons (pe_str) (pa_cons (pe_str) (pa_cons (pe_str) (pa_cons (pe_str) (pa_cons (pe_str) (pa_cons (pe_str) (pa_cons (pe_str) (pa_nil))))))))))) (pe_cal c__law_draw hr (by decide) rfl (pa_cons (pv 0) (pa_cons (pe_int) (pa_nil)))) (fun _ _ => rfl)))
      (pss_cons (ps_set (i := 4) sc__law_deed.nd rfl (by first | exact Or.inl rfl | exact Or.inr rfl) (pe_cal c__law_way hr (by decide) rfl (pa_cons (pv 0) (pa_cons (pv 1) (pa_cons (pv 2) (pa_cons (pe_callTy call_int1 (by rfl) B.int_ (by decide +kernel) (pa_cons (pe_cmpR op_notIn_seq (pv 3) (pe_tupF (pa_cons (pe_str) (pa_cons (pe_str) (pa_nil)))) (by rfl)) (pa_nil))) (pa_nil)))))))
      (pss_cons (ps_if (pt_cmpR op_in_seq (pv 3) (pe_tupF (pa_cons (pe_str) (pa_cons (pe_str) (pa_cons (pe_str) (pa_nil))))) (by rfl)) (pss_one (ps_ret (pe_tupF (pa_cons (pv 3) (pa_cons (pv 4) (pa_nil)))))) (pss_nil))
      (pss_cons (ps_if (pt_cmpR (op_eqP hr.units) (pv 3) (pe_str) (nomark _)) (pss_cons (ps_set (i := 5) sc__law_deed.nd rfl (by first | exact Or.inl rfl | exact Or.inr rfl) (pe_ifExp (pt_cmpR (op_eqP hr.units) (pe_cal c__law_draw hr (by decide) rfl (pa_cons (pv 0) (pa_cons (pe_int) (pa_nil)))) (pe_int) (nomark _)) (pv 4) (pe_op op_catF (pe_slice sl_tupF (pv 4) (po_none) (po_some (pe_int))) (pe_tupF (pa_cons (pe_ix ix_list (pv 2) (pe_cal c__law_draw hr (by decide) rfl (pa_cons (pv 0) (pa_cons (pe_callB call_len (by rfl) B.len_ (by decide +kernel) (pa_cons (pv 2) (pa_nil))) (pa_nil)))) (fun _ _ => rfl)) (pa_nil))))))
      (pss_one (ps_ret (pe_tupF (pa_cons (pv 3) (pa_cons (pv 5) (pa_cons (pe_ix ix_list (pe_lst (pa_cons (pe_str) (pa_cons (pe_str) (pa_nil)))) (pe_cal c__law_draw hr (by decide) rfl (pa_cons (pv 0) (pa_cons (pe_int) (pa_nil)))) (fun _ _ => rfl)) (pa_nil)))))))) (pss_nil))
      (pss_cons (ps_par (by rfl) sc__law_deed.nd rfl rfl (by decide) rfl rfl (pa_cons (pe_cal c__law_draw hr (by decide) rfl (pa_cons (pv 0) (pa_cons (pe_int) (pa_nil)))) (pa_cons (pe_ix ix_list (pv 2) (pe_cal c__law_draw hr (by decide) rfl (pa_cons (pv 0) (pa_cons (pe_callB call_len (by rfl) B.len_ (by decide +kernel) (pa_cons (pv 2) (pa_nil))) (pa_nil)))) (fun _ _ => rfl)) (pa_nil))) (by rfl))
      (pss_cons (ps_set (i := 7) sc__law_deed.nd rfl (by first | exact Or.inl rfl | exact Or.inr rfl) (pe_cal c__law_way hr (by decide) rfl (pa_cons (pv 0) (pa_cons (pv 1) (pa_cons (pv 2) (pa_cons (pe_int) (pa_nil)))))))
      (pss_cons (ps_if (pt_cmpR (op_eqP hr.units) (pv 5) (pe_int) (nomark _)) (pss_one (ps_set (i := 7) sc__law_deed.nd rfl (by first | exact Or.inl rfl | exact Or.inr rfl) (pe_slice sl_tupF (pe_op op_catF (pv 4) (pe_tupF (pa_cons (pv 6) (pa_nil)))) (po_none) (po_some (pe_int))))) (pss_nil))
      (pss_cons (ps_if (pt_cmpR (op_eqP hr.units) (pv 5) (pe_int) (nomark _)) (pss_one (ps_set (i := 7) sc__law_deed.nd rfl (by first | exact Or.inl rfl | exact Or.inr rfl) (pe_op op_catF (pe_slice sl_tupF (pv 4) (po_none) (po_some (pe_un un_neg (pe_int)))) (pe_tupF (pa_cons (pv 6) (pa_nil)))))) (pss_nil))
      (pss_cons (ps_if (pt_cmpR (op_eqP hr.units) (pv 5) (pe_int) (nomark _)) (pss_one (ps_set (i := 7) sc__law_deed.nd rfl (by first | exact Or.inl rfl | exact Or.inr rfl) (pv 4))) (pss_nil))
      (pss_cons (ps_if (pt_cmpR op_gt (pv 5) (pe_int) (nomark _)) (pss_one (ps_set (i := 7) sc__law_deed.nd rfl (by first | exact Or.inl rfl | exact Or.inr rfl) (pe_op op_catF (pe_slice sl_tupF (pv 7) (po_none) (po_some (pe_int))) (pe_tupF (pa_cons (pv 6) (pa_nil)))))) (pss_nil))
      (pss_one (ps_ret (pe_tupF (pa_cons (pv 3) (pa_cons (pv 4) (pa_cons (pv 7) (pa_nil)))))))))))))))))
abbrev N__law_name_pairs : List Str := ["_law_feed_here", "_law_words_here", "_law_mode", "_law_some", "_law_k", "_law_name"]
theorem sc__law_name_pairs : FnScope N__law_name_pairs ["_law_feed_here", "_law_words_here"] (defScope s__law_name_pairs) := ⟨rfl, rfl, rfl, by decide +kernel, rfl, by decide +kernel, by decide +kernel⟩
def t__law_name_pairs (K : PySem.W.Frag) : TS :=
    tSeq (tAsg (tTupF (tCons (tCall (SpF K Pre_draw Post_draw) [] E0 (tCons (tVar 0) (tCons (tC (.int 4)) (tNil)))) (tCons (tCB (rSortD K) (tCons (tVar 1) (tNil))) (tNil)))) (gTup K 2 (gCons (gName 2) (gCons (gName 3) (gNil)))))
    (tSeq (tIfS (tTest (tOp (rEqP K) (tVar 2) (tC (.int 0)))) (tRet (tCB (rTupF K) (tCons (tLc (iRng1 (tCons (tCB (rLenAny K) (tCons (tVar 3) (tNil))) (tNil))) (gName 4) (tYes) (tTupF (tCons (tOp (rIxL K) (tVar 3) (tVar 4)) (tCons (tOp (rIxL K) (tVar 3) (tOp (rI (fun _ j => 0 < j) fun i j => .int (i % j)) (tOp (rI0 fun i j => .int (i + j)) (tVar 4) (tC (.int 1))) (tCB (rLenAny K) (tCons (tVar 3) (tNil))))) (tNil)))) [4]) (tNil)))) (tNext))
    (tSeq (tIfS (tTest (tOp (rEqP K) (tVar 2) (tC (.int 1)))) (tRet (tTupF (tCons (tTupF (tCons (tOp (rIxL K) (tVar 3) (tC (.int 0))) (tCons (tOp (rIxL K) (tVar 3) (tUn (rU fun i => .int (-i)) (tC (.int 1)))) (tNil)))) (tCons (tTupF (tCons (tOp (rIxL K) (tVar 3) (tUn (rU fun i => .int (-i)) (tC (.int 1)))) (tCons (tOp (rIxL K) (tVar 3) (tC (.int 0))) (tNil)))) (tNil))))) (tNext))
    (tSeq (tIfS (tTest (tOp (rEqP K) (tVar 2) (tC (.int 2)))) (tRet (tCB (rTupF K) (tCons (tLc (iEnum K (tCons (tVar 3) (tNil))) (gTup K 2 (gCons (gName 4) (gCons (gName 5) (gNil)))) (tTest (tOp (rEqP K) (tCall (SpF K Pre_draw Post_draw) [] E0 (tCons (tVar 0) (tCons (tC (.int 2)) (tNil)))) (tC (.int 0)))) (tTupF (tCons (tVar 5) (tCons (tOp (rAddStr) (tC (.str ("fresh" : Str))) (tOp (rIxS) (tC (.str ("abcdefgh" : Str))) (tVar 4))) (tNil)))) [4, 5]) (tNil)))) (tNext))
    (tRet (tTupF (tNil))))))
theorem wk__law_name_pairs (B : Bs mg)  (c__law_draw : Cal P w K mg base 1 "_law_draw" (SpF K Pre_draw Post_draw)) (hr : Room 1 (A.deeper (envOfC "_law_name_pairs" (defScope s__law_name_pairs) s.heap.objs.size f cdv))) :
    PSs (cxOf CX0 P w K mg base N__law_name_pairs "_law_name_pairs" (defScope s__law_name_pairs) f cdv A outer s H E).nox (defBody s__law_name_pairs) (t__law_name_pairs K) := by
  exact (pss_cons (ps_asg (pe_tupF (pa_cons (pe_cal c__law_draw hr (by decide) rfl (pa_cons (pv 0) (pa_cons (pe_int) (pa_nil)))) (pa_cons (pe_callB (call_sortD hr.units) (by rfl) B.sorted_ (by decide +kernel) (pa_cons (pv 1) (pa_nil))) (pa_nil)))) (pg_tup rfl (pgs_cons (pg_name (i := 2) sc__law_name_pairs.nd rfl (by first | exact Or.inl rfl | exact Or.inr rfl)) (pgs_cons (pg_name (i := 3) sc__law_name_pairs.nd rfl (by first | exact Or.inl rfl | exact Or.inr rfl)) (pgs_nil)))))
      (pss_cons (ps_if (pt_cmpR (op_eqP hr.units) (pv 2) (pe_int) (nomark _)) (pss_one (ps_ret (pe_callTy call_tupF (by rfl) B.tuple_ (by decide +kernel) (pa_cons (pe_lc (own := [("_law_k", 4)]) (g := gName 4) (tt := tYes) (te := tTupF (tCons (tOp (rIxL K) (tVar 3) (tVar 4)) (tCons (tOp (rIxL K) (tVar 3) (tOp (rI (fun _ j => 0 < j) fun i j => .int (i % j)) (tOp (rI0 fun i j => .int (i + j)) (tVar 4) (tC (.int 1))) (tCB (rLenAny K) (tCons (tVar 3) (tNil))))) (tNil)))) rfl sc__law_name_pairs.nd (pi_range1 (by rfl) B.range_ (pa_cons (pe_callB call_len (by rfl) B.len_ (by decide +kernel) (pa_cons (pv 3) (pa_nil))) (pa_nil))) (blkOk_by (own := [("_law_k", 4)]) (N := N__law_name_pairs) (sc := defScope s__law_name_pairs) (by decide +kernel)) (fun _ _ _ _ _ => pg_name (i := 4) sc__law_name_pairs.nd rfl (by first | exact Or.inl rfl | exact Or.inr rfl)) (fun _ _ _ _ _ => pts_nil) (fun _ _ _ _ _ => pe_tupF (pa_cons (pe_ix ix_list (pv 3) (pv 4) (fun _ _ => rfl)) (pa_cons (pe_ix ix_list (pv 3) (pe_op op_mod (pe_op op_add (pv 4) (pe_int)) (pe_callB call_len (by rfl) B.len_ (by decide +kernel) (pa_cons (pv 3) (pa_nil)))) (fun _ _ => rfl)) (pa_nil))))) (pa_nil))))) (pss_nil))
      (pss_cons (ps_if (pt_cmpR (op_eqP hr.units) (pv 2) (pe_int) (nomark _)) (pss_one (ps_ret (pe_tupF (pa_cons (pe_tupF (pa_cons (pe_ix ix_list (pv 3) (pe_int) (fun _ _ => rfl)) (pa_cons (pe_ix ix_list (pv 3) (pe_un un_neg (pe_int)) (fun _ _ => rfl)) (pa_nil)))) (pa_cons (pe_tupF (pa_cons (pe_ix ix_list (pv 3) (pe_un un_neg (pe_int)) (fun _ _ => rfl)) (pa_cons (pe_ix ix_list (pv 3) (pe_int) (fun _ _ => rfl)) (pa_nil)))) (pa_nil)))))) (pss_nil))
      (pss_cons (ps_if (pt_cmpR (op_eqP hr.units) (pv 2) (pe_int) (nomark _)) (pss_one (ps_ret (pe_callTy call_tupF (by rfl) B.tuple_ (by decide +kernel) (pa_cons (pe_lc (own := [("_law_k", 4), ("_law_name", 5)]) (g := gTup K 2 (gCons (gName 4) (gCons (gName 5) (gNil)))) (tt := tTest (tOp (rEqP K) (tCall (SpF K Pre_draw Post_draw) [] E0 (tCons (tVar 0) (tCons (tC (.int 2)) (tNil)))) (tC (.int 0)))) (te := tTupF (tCons (tVar 5) (tCons (tOp (rAddStr) (tC (.str ("fresh" : Str))) (tOp (rIxS) (tC (.str ("abcdefgh" : Str))) (tVar 4))) (tNil)))) rfl sc__law_name_pairs.nd (pi_enum (by rfl) B.enumerate_ (pa_cons (pv 3) (pa_nil))) (blkOk_by (own := [("_law_k", 4), ("_law_name", 5)]) (N := N__law_name_pairs) (sc := defScope s__law_name_pairs) (by decide +kernel)) (fun _ _ _ _ _ => pg_tup rfl (pgs_cons (pg_name (i := 4) sc__law_name_pairs.nd rfl (by first | exact Or.inl rfl | exact Or.inr rfl)) (pgs_cons (pg_name (i := 5) sc__law_name_pairs.nd rfl (by first | exact Or.inl rfl | exact Or.inr rfl)) (pgs_nil)))) (fun _ _ _ _ _ => pts_one (pt_cmpR (op_eqP hr.units) (pe_cal c__law_draw hr (by decide) rfl (pa_cons (pv 0) (pa_cons (pe_int) (pa_nil)))) (pe_int) (nomark _))) (fun _ _ _ _ _ => pe_tupF (pa_cons (pv 5) (pa_cons (pe_op op_add_str (pe_str) (pe_ix ix_str (pe_str) (pv 4) (fun _ _ => rfl))) (pa_nil))))) (pa_nil))))) (pss_nil))
      (pss_one (ps_ret (pe_tupF (pa_nil))))))))
abbrev N__law_node_pairs : List Str := ["_law_feed_here", "_law_grove", "_law_some", "_law_row", "_law_step_now", "_law_k"]
theorem sc__law_node_pairs : FnScope N__law_node_pairs ["_law_feed_here", "_law_grove"] (defScope s__law_node_pairs) := ⟨rfl, rfl, rfl, by decide +kernel, rfl, by decide +kernel, by decide +kernel⟩
def t__law_node_pairs (K : PySem.W.Frag) : TS :=
    tSeq (tAsg (tLc (iTup K (tSl (rSlF K) (tOp (rIxT K) (tVar 1) (tC (.int 0))) (tPart (tC (.int 1))) (tNoPart))) (gName 3) (tTest (tOp (rI0 fun i j => .bl (decide (j < i))) (tCall (SpF K Pre_draw Post_draw) [] E0 (tCons (tVar 0) (tCons (tC (.int 4)) (tNil)))) (tC (.int 0)))) (tOp (rIxT K) (tVar 3) (tC (.int 0))) [3]) (gName 2))
    (tSeq (tAsg (tCall (SpF K Pre_draw Post_draw) [] E0 (tCons (tVar 0) (tCons (tCB (rMax2) (tCons (tC (.int 1)) (tCons (tCB (rLenAny K) (tCons (tVar 2) (tNil))) (tNil)))) (tNil)))) (gName 4))
    (tRet (tCB (rTupF K) (tCons (tLc (iRng1 (tCons (tCB (rLenAny K) (tCons (tVar 2) (tNil))) (tNil))) (gName 5) (tYes) (tTupF (tCons (tOp (rIxL K) (tVar 2) (tVar 5)) (tCons (tOp (rIxL K) (tVar 2) (tOp (rI (fun _ j => 0 < j) fun i j => .int (i % j)) (tOp (rI0 fun i j => .int (i + j)) (tVar 5) (tVar 4)) (tCB (rLenAny K) (tCons (tVar 2) (tNil))))) (tNil)))) [5]) (tNil)))))
theorem wk__law_node_pairs (B : Bs mg)  (c__law_draw : Cal P w K mg base 1 "_law_draw" (SpF K Pre_draw Post_draw)) (hr : Room 1 (A.deeper (envOfC "_law_node_pairs" (defScope s__law_node_pairs) s.heap.objs.size f cdv))) :
    PSs (cxOf CX0 P w K mg base N__law_node_pairs "_law_node_pairs" (defScope s__law_node_pairs) f cdv A outer s H E).nox (defBody s__law_node_pairs) (t__law_node_pairs K) := by
  exact (pss_cons (ps_set (i := 2) sc__law_node_pairs.nd rfl (by first | exact Or.inl rfl | exact Or.inr rfl) (pe_lc (own := [("_law_row", 3)]) (g := gName 3) (tt := tTest (tOp (rI0 fun i j => .bl (decide (j < i))) (tCall (SpF K Pre_draw Post_draw) [] E0 (tCons (tVar 0) (tCons (tC (.int 4)) (tNil)))) (tC (.int 0)))) (te := tOp (rIxT K) (tVar 3) (tC (.int 0))) rfl sc__law_node_pairs.nd (pi_tup (pe_slice sl_tupF (pe_ix ix_tup (pv 1) (pe_int) (fun _ _ => rfl)) (po_some (pe_int)) (po_none))) (blkOk_by (own := [("_law_row", 3)]) (N := N__law_node_pairs) (sc := defScope s__law_node_pairs) (by decide +kernel)) (fun _ _ _ _ _ => pg_name (i := 3) sc__law_node_pairs.nd rfl (by first | exact Or.inl rfl | exact Or.inr rfl)) (fun _ _ _ _ _ => pts_one (pt_cmpR op_gt (pe_cal c__law_draw hr (by decide) rfl (pa_cons (pv 0) (pa_cons (pe_int) (pa_nil)))) (pe_int) (nomark _))) (fun _ _ _ _ _ => pe_ix ix_tup (pv 3) (pe_int) (fun _ _ => rfl))))
      (pss_cons (ps_set (i := 4) sc__law_node_pairs.nd rfl (by first | exact Or.inl rfl | exact Or.inr rfl) (pe_cal c__law_draw hr (by decide) rfl (pa_cons (pv 0) (pa_cons (pe_callB (call_max2 rfl) (by rfl) B.max_ (by decide +kernel) (pa_cons (pe_int) (pa_cons (pe_callB call_len (by rfl) B.len_ (by decide +kernel) (pa_cons (pv 2) (pa_nil))) (pa_nil)))) (pa_nil)))))
      (pss_one (ps_ret (pe_callTy call_tupF (by rfl) B.tuple_ (by decide +kernel) (pa_cons (pe_lc (own := [("_law_k", 5)]) (g := gName 5) (tt := tYes) (te := tTupF (tCons (tOp (rIxL K) (tVar 2) (tVar 5)) (tCons (tOp (rIxL K) (tVar 2) (tOp (rI (fun _ j => 0 < j) fun i j => .int (i % j)) (tOp (rI0 fun i j => .int (i + j)) (tVar 5) (tVar 4)) (tCB (rLenAny K) (tCons (tVar 2) (tNil))))) (tNil)))) rfl sc__law_node_pairs.nd (pi_range1 (by rfl) B.range_ (pa_cons (pe_callB call_len (by rfl) B.len_ (by decide +kernel) (pa_cons (pv 2) (pa_nil))) (pa_nil))) (blkOk_by (own := [("_law_k", 5)]) (N := N__law_node_pairs) (sc := defScope s__law_node_pairs) (by decide +kernel)) (fun _ _ _ _ _ => pg_name (i := 5) sc__law_node_pairs.nd rfl (by first | exact Or.inl rfl | exact Or.inr rfl)) (fun _ _ _ _ _ => pts_nil) (fun _ _ _ _ _ => pe_tupF (pa_cons (pe_ix ix_list (pv 2) (pv 5) (fun _ _ => rfl)) (pa_cons (pe_ix ix_list (pv 2) (pe_op op_mod (pe_op op_add (pv 5) (pv 4)) (pe_callB call_len (by rfl) B.len_ (by decide +kernel) (pa_cons (pv 2) (pa_nil)))) (fun _ _ => rfl)) (pa_nil))))) (pa_nil)))))))
end
end Dw
set_option Elab.async false
set_option linter.all false
set_option maxRecDepth 100000
set_option maxHeartbeats 1000000
/-! Readings of the builders: draws. -/
namespace Dw
open PySem PySem.Spec PyProof.Rows L2
local macro_rules | `(tactic| trivial) => `(tactic| repeat' (first
  | exact ev_var rfl
  | exact ev_int
  | exact ev_str
  | exact ev_non
  | exact ev_bl
  | exact ea_nil
  | exact eo_none
  | exact eb_yes
  | apply ea_cons
  | apply eo_some
  | apply eb_B
  | apply eb_test
  | apply eb_not
  | apply eb_or
  | apply eb_and
  | apply ev_andV
  | apply ev_orV
  | apply ev_notV
  | apply ev_isN
  | apply ev_notN
  | apply isi_ii
  | apply isi_ib
  | apply isi_tt
  | apply isi_ss
  | apply ev_ixT
  | apply ev_slT
  | apply ev_add
  | apply ev_sub
  | apply ev_neg
  | apply ev_lt
  | apply ev_le
  | apply ev_gt
  | apply ev_ge
  | apply ev_ltS
  | apply ev_lenG
  | apply ev_lenD
  | apply ev_tuple
  | apply ev_tup
  | apply ev_lst
  | apply ev_all
  | apply ev_catT
  | apply ev_is_number
  | apply ev_is_name
  | apply ev_is_entry
  | apply ev_are_entries
  | apply ev_is_row
  | apply ev_row_of
  | apply ev_kind_of
  | apply ev_entries_of
  | apply ev_way
  | apply ev_above
  | exact LenD.tup
  | exact LenD.lst
  | rfl
  | assumption
  | exact Nat.le_of_ble_eq_true rfl
  | with_reducible intro _))
section
variable {K : PySem.W.Frag} {δ δ1 : Dl} {own : Own} {O : OutO} {ts us : TS} {tl tk ty tv td : TE} {tA : TA} {E : XK} {t : Tree} {te ta tb : TE} {n m : Int} {d x : PyData} {P : PyData → Prop}
theorem ev_mod {i j : Int} (ha : EvD K ta δ (.int i)) (hb : EvD K tb δ (.int j)) (h : 0 < j) : EvD K (tOp (rI (fun _ j => 0 < j) fun i j => .int (i % j)) ta tb) δ (.int (i % j)) := ev_op ha hb (rv_I h fun _ => .int _)
theorem ev_fdiv {i j : Int} (ha : EvD K ta δ (.int i)) (hb : EvD K tb δ (.int j)) (h : CDiv i j) : EvD K (tOp (rI CDiv fun i j => .int (i / j)) ta tb) δ (.int (i / j)) := ev_op ha hb (rv_I h fun _ => .int _)
theorem ev_mul {i j : Int} (ha : EvD K ta δ (.int i)) (hb : EvD K tb δ (.int j)) (h : CMul i j) : EvD K (tOp (rI CMul fun i j => .int (i * j)) ta tb) δ (.int (i * j)) := ev_op ha hb (rv_I h fun _ => .int _)
theorem ev_pow {i j : Int} (ha : EvD K ta δ (.int i)) (hb : EvD K tb δ (.int j)) (h : CPow i j) : EvD K (tOp (rI CPow fun i j => .int (i ^ j.toNat)) ta tb) δ (.int (i ^ j.toNat)) := ev_op ha hb (rv_I h fun _ => .int _)
theorem runO_dput {i : Nat} {a : Addr} {kvs : List (Key × SD)} {k : Key} (hv : δ[i]? = some (some (.v (.ref a)))) (m : (a, .d kvs) ∈ own) (hl : kvs.length < 10000) (h2 : EvD K ty δ (kD k)) (h : EvN K tv δ own P) (kk : ∀ d, P d → O.nx δ (repl own a (.d (putS kvs k (.d d))))) : RunO K (sDPut (tVar i) ty tv) δ own O := fun hs Z H0 D0 σ H b S f => by
  refine h hs σ H S _ fun v H1 d hd e1 S1 r1 => ⟨_, S1.var hv, h2 _ σ H1 S1.hid S1.sl _ fun kv H2 e2 rk => ?_⟩
  have S2 := S1.mono e2
  obtain ⟨ws, w1, w2⟩ := S2.atD m
  exact ⟨a, _, rfl, .inl ⟨ws, k, w1, R.key rk, by rw [w2.length]; exact Nat.lt_of_lt_of_le hl (by decide), rfl⟩, f.1 _ _ σ _ (kk d hd) (((b.mono e1).ex e2).upd m) (S2.upd m (okd upd_same (w2.put (s := .d d) (R.mono e2.cut r1))))⟩
def fdD (cells : List Int) (a l n : Int) : KDs := [(keyC, .list (cells.map .int)), (keyA, .int a), (keyL, .int l), (keyN, .int n)]
theorem th_fd {f : Addr} {cells : List Int} {a l n : Int} {own : Own} {r r' : Dl} (h : Th ((f, .d (fdK cells a l n)) :: own) r r') : Th ((f, .d (fdK cells a l n)) :: own) (some (.v (.ref f)) :: r) (some (.d (eKD (fdD cells a l n))) :: r') := .o (.k List.mem_cons_self (ODk.all _ (fdD cells a l n))) h
theorem put_n (cells : List Int) (a l n v : Int) : putS (fdK cells a l n) keyN (.d (.int v)) = fdK cells a l v := by
  simp [putS, fdK, keyC, keyA, keyL, keyN]
  exact ⟨by decide, fun h => absurd h (by decide), fun h => absurd h (by decide)⟩
theorem put_a (cells : List Int) (a l n v : Int) : putS (fdK cells a l n) keyA (.d (.int v)) = fdK cells v l n := by
  simp [putS, fdK, keyC, keyA, keyL, keyN]
  exact ⟨by decide, fun h => absurd h (by decide), fun h => absurd h (by decide)⟩
theorem put_l (cells : List Int) (a l n v : Int) : putS (fdK cells a l n) keyL (.d (.int v)) = fdK cells a v n := by
  simp [putS, fdK, keyC, keyA, keyL, keyN]
  exact ⟨by decide, fun h => absurd h (by decide), fun h => absurd h (by decide)⟩
theorem ev_fn {cells : List Int} {a l n : Int} (h : EvD K td δ (eKD (fdD cells a l n))) : EvD K (tDGet td (tC (.str ("count" : Str)))) δ (.int n) := ev_dget (k := keyN) (kds := fdD cells a l n) h ev_str rfl
theorem ev_fl {cells : List Int} {a l n : Int} (h : EvD K td δ (eKD (fdD cells a l n))) : EvD K (tDGet td (tC (.str ("left" : Str)))) δ (.int l) := ev_dget (k := keyL) (kds := fdD cells a l n) h ev_str rfl
theorem ev_fa {cells : List Int} {a l n : Int} (h : EvD K td δ (eKD (fdD cells a l n))) : EvD K (tDGet td (tC (.str ("at" : Str)))) δ (.int a) := ev_dget (k := keyA) (kds := fdD cells a l n) h ev_str rfl
theorem ev_fc {cells : List Int} {a l n : Int} (h : EvD K td δ (eKD (fdD cells a l n))) : EvD K (tDGet td (tC (.str ("cells" : Str)))) δ (.list (cells.map .int)) := ev_dget (k := keyC) (kds := fdD cells a l n) h ev_str rfl
theorem run__law_draw (f : Addr) (cells : List Int) (ds : List PyData) (h : Pre_draw ds) : RunO K (t__law_draw K) (some (.v (.ref f)) :: ds.map (fun d => some (.d d)) ++ List.replicate (N__law_draw.length - (ds.length + 1)) none) [(f, .fd cells)] (outF f cells (Post_draw ds)) := by
  obtain ⟨m, rfl, hm, hm2⟩ := h
  refine runO_open fun a l n => ?_
  have fin : ∀ (a l n r : Int), 0 ≤ r → r < m → (outF f cells (Post_draw [.int m])).rt [(f, .d (fdK cells a l n))] (.int r) := fun a l n r h1 h2 => ⟨.inr ⟨a, l, n, rfl⟩, m, r, rfl, rfl, h1, h2⟩
  refine runO_seq (runO_dput (i := 0) (a := f) (k := keyN) rfl List.mem_cons_self (by trivial) ev_str (evn_thaw (δ' := [some (.d (eKD (fdD cells a l n))), some (.d (.int m)), none, none, none, none]) (th_fd (by repeat constructor)) (ev_add (ev_fn (ev_var rfl)) ev_int) rfl) fun d hd => ?_)
  subst hd
  rw [put_n, repl_hd, repl_nil]
  generalize n + 1 = n
  have lt : ∀ r : Int, r % m < m := fun r => Int.emod_lt_of_pos _ hm
  have ge : ∀ r : Int, 0 ≤ r % m := fun r => Int.emod_nonneg _ (by omega)
  by_cases hl : 0 < l
  · refine runO_take (evnb_thaw (δ' := [some (.d (eKD (fdD cells a l n))), some (.d (.int m)), none, none, none, none]) (th_fd (by repeat constructor)) (EvB.to (eb_test (ev_gt (ev_fl (ev_var rfl)) ev_int)) (decide_eq_true hl))) ?_
    refine runO_seq (runO_asg (evn_thaw (δ' := [some (.d (eKD (fdD cells a l n))), some (.d (.int m)), none, none, none, none]) (th_fd (by repeat constructor)) (ev_mod (ev_fl (ev_var rfl)) (by trivial) hm) rfl) fun d hd => ?_)
    subst hd
    refine runO_seq (runO_dput (i := 0) (a := f) (k := keyL) rfl List.mem_cons_self (by trivial) ev_str (evn_thaw (δ' := [some (.d (eKD (fdD cells a l n))), some (.d (.int m)), some (.d (.int (l % m))), none, none, none]) (th_fd (by repeat constructor)) (ev_fdiv (ev_fl (ev_var rfl)) (by trivial) ⟨hm, hm2⟩) rfl) fun d hd => ?_)
    subst hd
    rw [put_l, repl_hd, repl_nil]
    exact runO_retN (evn_of (d := .int (l % m)) (ev_var rfl)) fun d hd => hd ▸ fin _ _ _ _ (ge _) (lt _)
  · refine runO_skip (evnb_thaw (δ' := [some (.d (eKD (fdD cells a l n))), some (.d (.int m)), none, none, none, none]) (th_fd (by repeat constructor)) (EvB.to (eb_test (ev_gt (ev_fl (ev_var rfl)) ev_int)) (decide_eq_false hl))) ?_
    refine runO_seq (runO_asg (evn_thaw (δ' := [some (.d (eKD (fdD cells a l n))), some (.d (.int m)), none, none, none, none]) (th_fd (by repeat constructor)) (ev_fa (ev_var rfl)) rfl) fun d hd => ?_)
    subst hd
    refine runO_seq (runO_dput (i := 0) (a := f) (k := keyA) rfl List.mem_cons_self (by trivial) ev_str (evn_of (d := .int (a + 1)) (ev_add (by trivial) ev_int)) fun d hd => ?_)
    subst hd
    rw [put_a, repl_hd, repl_nil]
    obtain ⟨c, hc⟩ : ∃ c : Int, EvD K (tIf (tTest (tOp (rNeP K) (tDGet (tVar 0) (tC (.str ("cells" : Str)))) (tLst (tNil)))) (tOp (rIxL K) (tDGet (tVar 0) (tC (.str ("cells" : Str)))) (tOp (rI (fun _ j => 0 < j) fun i j => .int (i % j)) (tVar 3) (tCB (rLenAny K) (tCons (tDGet (tVar 0) (tC (.str ("cells" : Str)))) (tNil))))) (tC (.int 13))) [some (.d (eKD (fdD cells (a + 1) l n))), some (.d (.int m)), none, some (.d (.int a)), none, none] (.int c) := by
      by_cases hc : cells = []
      · exact ⟨13, ev_if (b := false) (eb_test (EvD.to (ev_neL0 (ds := cells.map .int) (ev_fc (ev_var rfl)) (by trivial) (noD_ints _)) (by rw [hc]; rfl))) (fun z => by cases z) fun _ => ev_int⟩
      · have hp : 0 < cells.length := List.length_pos_iff.mpr hc
        have h1 : 0 ≤ a % (cells.length : Int) := Int.emod_nonneg _ (by omega)
        have h2 : a % (cells.length : Int) < cells.length := Int.emod_lt_of_pos _ (by omega)
        have hj : (a % (cells.length : Int)).toNat < cells.length := by omega
        refine ⟨cells[(a % (cells.length : Int)).toNat], ev_if (b := true) (eb_test (EvD.to (ev_neL0 (ds := cells.map .int) (ev_fc (ev_var rfl)) (by trivial) (noD_ints _)) ?_)) (fun _ => ev_ixL (ds := cells.map .int) (i := a % (cells.length : Int)) (ev_fc (ev_var rfl)) (ev_mod (by trivial) ((ev_lenL (ds := cells.map .int) (ev_fc (ev_var rfl))).to (by rw [List.length_map])) (by omega)) ?_) fun z => by cases z⟩
        · cases cells with
          | nil => exact absurd rfl hc
          | cons c cs => rfl
        · unfold atI ixN
          rw [List.length_map, if_pos h1, if_pos h2]
          show (cells.map PyData.int)[(a % (cells.length : Int)).toNat]? = _
          rw [List.getElem?_map, List.getElem?_eq_getElem hj]; rfl
    refine runO_seq (runO_asg (evn_thaw (th_fd (by repeat constructor)) hc rfl) fun d hd => ?_)
    subst hd
    have T : Th [(f, .d (fdK cells (a + 1) l n))] [some (.v (.ref f)), some (.d (.int m)), none, some (.d (.int a)), some (.d (.int c)), none] [some (.d (eKD (fdD cells (a + 1) l n))), some (.d (.int m)), none, some (.d (.int a)), some (.d (.int c)), none] := th_fd (by repeat constructor)
    have test := eb_and (K := K) (a := decide ((10 : Int) ^ (18 : Int).toNat ≤ c)) (b := decide (a < (cells.length : Int))) (eb_test (ev_ge (ev_var (i := 4) (δ := [some (.d (eKD (fdD cells (a + 1) l n))), some (.d (.int m)), none, some (.d (.int a)), some (.d (.int c)), none]) rfl) (ev_pow ev_int ev_int ⟨by decide, by decide, by decide⟩))) fun _ => eb_test (ev_lt (ev_var (i := 3) rfl) ((ev_lenL (ds := cells.map .int) (ev_fc (ev_var (i := 0) rfl))).to (by rw [List.length_map])))
    refine runO_seq (runO_if (evnb_thaw T test) (fun _ => ?_) fun _ => runO_next ?_)
    · refine runO_seq (runO_dput (i := 0) (a := f) (k := keyL) rfl List.mem_cons_self (by trivial) ev_str (evn_of (d := .int (c / m)) (ev_fdiv (by trivial) (by trivial) ⟨hm, hm2⟩)) fun d hd => ?_)
      subst hd
      rw [put_l, repl_hd, repl_nil]
      exact runO_retN (evn_of (d := .int (c % m)) (ev_mod (by trivial) (by trivial) hm)) fun d hd => hd ▸ fin _ _ _ _ (ge _) (lt _)
    · have b1 : ∀ (x y : Int), 0 < y → y < 2 ^ 62 → -(2 ^ 64) < x % y ∧ x % y < 2 ^ 64 := fun x y h1 h2 => by
        have := Int.emod_nonneg x (show y ≠ 0 by omega)
        have := Int.emod_lt_of_pos x h1
        omega
      refine runO_seq (runO_asg (evn_thaw T (ev_mod (ev_add (ev_add (ev_mod (by trivial) ev_int (by decide)) (ev_mul ev_int (ev_fn (ev_var rfl)) (.inl (by decide)))) ev_int) ev_int (by decide)) rfl) fun d hd => ?_)
      subst hd
      refine runO_seq (runO_asg (evn_thaw (th_fd (by repeat constructor)) (ev_mod (ev_add (ev_add (ev_mul (by trivial) (by trivial) (.inl (b1 _ _ (by decide) (by decide)))) (ev_mul ev_int (ev_fn (ev_var rfl)) (.inl (by decide)))) ev_int) ev_int (by decide)) rfl) fun d hd => ?_)
      subst hd
      exact runO_retN (evn_of (ev_mod (ev_fdiv (ev_mod (ev_add (ev_mul (by trivial) (by trivial) (.inl (b1 _ _ (by decide) (by decide)))) (ev_mul ev_int (by trivial) (.inl (by decide)))) ev_int (by decide)) ev_int ⟨by decide, by decide⟩) (by trivial) hm)) fun d hd => hd ▸ fin _ _ _ _ (ge _) (lt _)
end
end Dw
set_option Elab.async false
set_option linter.all false
set_option maxRecDepth 100000
set_option maxHeartbeats 1000000
/-! Readings of the builders: names. -/
namespace Dw
open PySem PySem.Spec PyProof.Rows L2
local macro_rules | `(tactic| trivial) => `(tactic| repeat' (first
  | exact ev_var rfl
  | exact ev_int
  | exact ev_str
  | exact ev_non
  | exact ev_bl
  | exact ea_nil
  | exact eo_none
  | exact eb_yes
  | apply ea_cons
  | apply eo_some
  | apply eb_B
  | apply eb_test
  | apply eb_not
  | apply eb_or
  | apply eb_and
  | apply ev_andV
  | apply ev_orV
  | apply ev_notV
  | apply ev_isN
  | apply ev_notN
  | apply isi_ii
  | apply isi_ib
  | apply isi_tt
  | apply isi_ss
  | apply ev_ixT
  | apply ev_slT
  | apply ev_add
  | apply ev_sub
  | apply ev_neg
  | apply ev_lt
  | apply ev_le
  | apply ev_gt
  | apply ev_ge
  | apply ev_ltS
  | apply ev_lenG
  | apply ev_lenD
  | apply ev_tuple
  | apply ev_tup
  | apply ev_lst
  | apply ev_all
  | apply ev_catT
  | apply ev_is_number
  | apply ev_is_name
  | apply ev_is_entry
  | apply ev_are_entries
  | apply ev_is_row
  | apply ev_row_of
  | apply ev_kind_of
  | apply ev_entries_of
  | apply ev_way
  | apply ev_above
  | exact LenD.tup
  | exact LenD.lst
  | rfl
  | assumption
  | exact Nat.le_of_ble_eq_true rfl
  | with_reducible intro _))
def baseW : List Str := ["a", "b", "ab", "abc", "z", "abcdefgh", "ba", "bb"]
def shC (s : Int) (c : Nat) : Nat := (letters.cps.toList[((Txt.find letters ⟨#[c]⟩ + s) % 26).toNat]?).getD 0
def shW (s : Int) (w : Str) : Str := Txt.join "" (w.cps.toList.map fun c => ⟨#[shC s c]⟩)
instance (x : Str) : Decidable (NameOk x) := by unfold NameOk; exact inferInstance
theorem sh_all : ∀ s ∈ List.range 26, (baseW.map (shW (s : Nat))).Nodup ∧ ∀ w ∈ baseW.map (shW (s : Nat)), NameOk w ∧ w.length ≠ 6 := by decide +kernel
section
variable {K : PySem.W.Frag} {δ δ1 : Dl} {own : Own} {O : OutO} {ts us : TS} {tl tk ty tv td : TE} {tA : TA} {E : XK} {t : Tree} {te ta tb : TE} {n m : Int} {d x : PyData} {P : PyData → Prop}
theorem EvNA.imp2 {tl : TA} {PA PB : List PyData → Prop} (h : EvNA K tl δ own PA) (i : ∀ ds, PA ds → PB ds) : EvNA K tl δ own PB := fun hs σ H S Q q => h hs σ H S Q fun vs H2 ds hd => q vs H2 ds (i ds hd)
theorem evn_draw {i : Nat} {f : Addr} {cells : List Int} {m : Int} (hv : δ[i]? = some (some (.v (.ref f)))) (hm : (f, .fd cells) ∈ own) (h : EvN K te δ own (· = .int m)) (h1 : 0 < m) (h2 : m < 1073741824) : EvN K (tCall (SpF K Pre_draw Post_draw) [] E (tCons (tVar i) (tCons te tNil))) δ own fun d => ∃ r : Int, d = .int r ∧ 0 ≤ r ∧ r < m :=
  evn_callF hv hm (evna_one h) (fun ds ⟨d, e, hd⟩ => ⟨m, by rw [e, hd], h1, h2⟩) fun ds d ⟨d', e, hd⟩ ⟨m', r, e2, h3, h4, h5⟩ => by
    rw [hd] at e
    rw [e] at e2
    cases e2
    exact ⟨r, h3, h4, h5⟩
theorem runO_tupL {i j l : Nat} {P : PyData → Prop} (ha : EvD K ta δ x) (hb : EvN K tb δ own P) (k : ∀ y, P y → ∀ a, a ∉ ads own → O.nx (((δ.set i (some (.d x))).set j (some (.d y))).set l (some (.v (.ref a)))) ((a, .l []) :: own)) :
    RunO K (tAsg (tTupF (tCons ta (tCons tb (tCons (tLst tNil) tNil)))) (gTup K 3 (gCons (gName i) (gCons (gName j) (gCons (gName l) gNil))))) δ own O := fun hs Z H0 D σ H b S f =>
  ha _ σ H S.hid S.sl _ fun v H1 e1 r1 => hb hs σ H1 (S.mono e1) _ fun u H2 y hy e2 S2 r2 => ⟨Nat.zero_le _, fun p hp => ⟨Nat.le_trans (show 3 ≤ 10000 by decide) (by decide), fun q o hq ho => by
    have S3 := S2.new (o' := .lst []) (c := .l []) hp (okl upd_same .nil)
    have S4 := S3.mono (Evl.Ex.new (o := .frz o (.tup [v, u, .ref p])) hq)
    refine ⟨q, [v, u, .ref p], rfl, (PT.sq (.inl ⟨o, upd_same, ho⟩)), rfl, _, _, rfl, _, _, rfl, _, _, rfl, rfl, ?_⟩
    have b4 := ((((b.ex e1).mono e2).new (o' := .lst []) (c := .l []) hp).ex (Evl.Ex.new (o := .frz o (.tup [v, u, .ref p])) hq))
    have eN : Ex (cut (ads own ++ hs) H2) (cut (ads ((p, OC.l []) :: own) ++ hs) (L2.upd (L2.upd H2 p (.lst [])) q (.frz o (.tup [v, u, .ref p])))) := fun a o2 h => by
      have h5 : cut (p :: (ads own ++ hs)) (L2.upd H2 p (.lst [])) a = some o2 := by rw [cut_new hp]; exact h
      exact (Evl.Ex.new hq).cut (hs := p :: (ads own ++ hs)) a o2 h5
    exact f.1 _ _ _ _ (k y hy p fun z => S2.hid p (List.mem_append_left _ z) hp) b4 (((S4.set i (sd := .d x) (R.mono eN (R.mono e2.cut r1))).set j (sd := .d y) (R.mono eN r2)).set l (sd := .v (.ref p)) rfl)⟩⟩
theorem runO_newLs {i : Nat} {tl : TA} {ds : List PyData} (h : EvA K tl δ ds) (hl : ds.length ≤ 10000) (r : ∀ a, a ∉ ads own → O.nx (δ.set i (some (.v (.ref a)))) ((a, .l (ds.map .d)) :: own)) : RunO K (tAsg (tLst tl) (gName i)) δ own O := fun hs Z H0 D σ H b S f =>
  h _ σ H S.hid S.sl _ fun vs H1 e1 r1 => ⟨by rw [r1.length]; exact Nat.le_trans hl (by decide), fun p hp => f.1 _ _ _ _ (r p fun z => (S.mono e1).hid p (List.mem_append_left _ z) hp) ((b.ex e1).new hp) (((S.mono e1).new hp (okl upd_same (SlA.of_ra r1))).set i (sd := .v (.ref p)) rfl)⟩
theorem runO_forRng {tl : TA} {g : TG} {PN : Nat → Prop} (h : EvNA K tl δ own fun ds => ∃ n : Nat, ds = [.int n] ∧ PN n) (hn : ∀ n, PN n → n ≤ 10000) (loop : ∀ n, PN n → RunO K (tFor (iRng1 (tCons (tC (.int n)) tNil)) g ts) δ own O) : RunO K (tFor (iRng1 tl) g ts) δ own O := fun hs Z H0 D σ H b S f =>
  h hs σ H S _ fun vs H2 ds ⟨n, hds, hp⟩ e2 S2 r2 => by
    subst hds
    obtain ⟨v, rfl, rv⟩ := r2.one
    cases rv
    obtain ⟨j, hj, h1, h2, q⟩ := loop n hp hs Z H0 D σ H2 (b.mono e2) S2 f
    cases hj
    exact ⟨n, rfl, h1, h2, q⟩
theorem runO_popAt {i j : Nat} {a : Addr} {xs : List PyData} (hv : δ[i]? = some (some (.v (.ref a)))) (m : (a, .l (xs.map .d)) ∈ own) (hx : xs.length ≤ 10000) (h : EvN K te δ own fun d => ∃ r : Nat, d = .int r ∧ r < xs.length)
    (k : ∀ (r : Nat) (hr : r < xs.length), O.nx (δ.set j (some (.d xs[r]))) (repl own a (.l ((xs.eraseIdx r).map .d)))) : RunO K (tAsg (tBM K "list" rPopAt (tVar i) (tCons te tNil)) (gName j)) δ own O := fun hs Z H0 D σ H b S f => by
  obtain ⟨vs, h1, _⟩ := S.atL m
  refine ⟨_, S.var hv, tyV_lst h1, h hs σ H S _ fun v H1 d ⟨r, hd, hr⟩ e1 S1 r1 => ?_⟩
  subst hd
  cases r1
  obtain ⟨vs', h3, h4⟩ := S1.atL m
  have ra := h4.ra
  have hl := ra.length
  obtain ⟨w, hw, rw'⟩ := ra.get (i := r) (d := xs[r]) (List.getElem?_eq_getElem hr)
  have hsq : seqIndex? (r : Int) vs'.length = some r := (ixN_seq (n := vs'.length) (i := (r : Int)) (j := r) (by unfold ixN; rw [if_pos (by omega), if_pos (by omega)]; simp)).1
  refine ⟨a, vs', r, r, w, rfl, rfl, h3, by omega, by omega, hsq, hw, ?_⟩
  have hr2 : RA K (cut (ads own ++ hs) H1) (vs'.eraseIdx r) (xs.eraseIdx r) := by
    rw [List.eraseIdx_eq_take_drop_succ, List.eraseIdx_eq_take_drop_succ]
    exact (ra.take r).append (ra.drop (r + 1))
  have S2 := S1.upd (o' := .lst (vs'.eraseIdx r)) m (okl (vs := vs'.eraseIdx r) upd_same (SlA.of_ra hr2))
  exact f.1 _ _ _ _ (k r hr) ((b.mono e1).upd m) (S2.set j (sd := .d xs[r]) (by
    show R K _ w xs[r]
    rw [ads_repl, cut_upd (List.mem_append_left _ (mem_ads m))]
    exact rw'))
theorem ev_join {ys : List Str} {a : Str} (ha : EvD K ta δ (.str a)) (h : EvD K te δ (.list (ys.map .str))) (hz : (ys.map (·.length)).sum + ys.length * a.length ≤ 16777216) : EvD K (tM1 (rJoin K) ta te) δ (.str (Txt.join a ys)) := fun hs σ H hh S Q q =>
  ha hs σ H hh S _ fun v H2 e2 r2 => by
    cases r2
    refine ⟨⟨_, rfl⟩, h hs σ H2 (hh.mono e2) (S.mono e2.cut) _ fun u H3 e3 r3 => ?_⟩
    cases r3 with
    | @lst p xs _ hp ra =>
      have e := ra.strs
      subst e
      exact ⟨a, p, ys, rfl, rfl, .inl (SqL.full hp), hz, q _ H3 (e2.trans e3) (.str _)⟩
theorem ev_find {a c : Str} (ha : EvD K ta δ (.str a)) (hb : EvD K tb δ (.str c)) : EvD K (tM1 rFind ta tb) δ (.int (Txt.find a c)) := fun hs σ H hh S Q q =>
  ha hs σ H hh S _ fun v H2 e2 r2 => by
    cases r2
    refine ⟨⟨_, rfl⟩, hb hs σ H2 (hh.mono e2) (S.mono e2.cut) _ fun u H3 e3 r3 => ?_⟩
    cases r3
    exact ⟨a, c, rfl, rfl, q _ H3 (e2.trans e3) (.int _)⟩
theorem map_eraseIdx' {α β : Type} {g : α → β} : ∀ (l : List α) (r : Nat), (l.map g).eraseIdx r = (l.eraseIdx r).map g
  | [], r => by simp
  | a :: l, 0 => by simp
  | a :: l, r + 1 => by simp only [List.map_cons, List.eraseIdx_cons_succ, map_eraseIdx' l r]
theorem erase_perm {α : Type} : ∀ {l : List α} {r : Nat} (h : r < l.length), (l[r] :: l.eraseIdx r).Perm l
  | a :: l, 0, h => by simp
  | a :: l, r + 1, h => by
    simp only [List.getElem_cons_succ, List.eraseIdx_cons_succ]
    exact (List.Perm.swap _ _ _).trans ((erase_perm (l := l) (r := r) (by simpa using h)).cons a)
theorem run__law_names (f : Addr) (cells : List Int) (ds : List PyData) (h : Pre_names ds) : RunO K (t__law_names K) (some (.v (.ref f)) :: ds.map (fun d => some (.d d)) ++ List.replicate (N__law_names.length - (ds.length + 1)) none) [(f, .fd cells)] (outF f cells (Post_names ds)) := by
  have h' : ds = [] := h
  subst h'
  refine runO_seq (runO_tupL (x := .str letters) (P := fun d => ∃ r : Int, d = .int r ∧ 0 ≤ r ∧ r < 26) ev_str (evn_draw (cells := cells) rfl List.mem_cons_self (evn_of ev_int) (by decide) (by decide)) fun y ⟨s, hy, h1, h2⟩ A hA => ?_)
  subst hy
  have hAf : A ≠ f := fun z => hA (by rw [z]; exact List.mem_cons_self)
  refine runO_seq (runO_newLs (ds := baseW.map .str) (by trivial) (by trivial) fun B hB => ?_)
  have hBA : B ≠ A := fun z => hB (by rw [z]; exact List.mem_cons_self)
  have hBf : B ≠ f := fun z => hB (by rw [z]; exact List.mem_cons_of_mem _ List.mem_cons_self)
  let pre : Dl := [some (.v (.ref f)), some (.d (.str letters)), some (.d (.int s)), some (.v (.ref A)), some (.v (.ref B)), none, none, none]
  let ow : List Str → List Str → Own := fun rest picks => [(B, .l ((rest.map PyData.str).map .d)), (A, .l (((picks.map (shW s)).map PyData.str).map .d)), (f, .fd cells)]
  obtain ⟨sn, hsn⟩ : ∃ sn : Nat, s = sn := ⟨s.toNat, by omega⟩
  have sh := sh_all sn (List.mem_range.mpr (by omega))
  rw [← hsn] at sh
  show RunO K _ pre (ow baseW []) _
  have rng : EvN K (tOp (rI0 fun i j => .int (i + j)) (tC (.int 2)) (tCall (SpF K Pre_draw Post_draw) [] E0 (tCons (tVar 0) (tCons (tC (.int 7)) (tNil))))) pre (ow baseW []) fun d => ∃ r : Int, d = .int r ∧ 2 ≤ r ∧ r ≤ 8 :=
    evn_op (P1 := (· = .int 2)) (evn_of ev_int) (evn_draw (m := 7) (cells := cells) rfl (List.mem_cons_of_mem _ (List.mem_cons_of_mem _ List.mem_cons_self)) (evn_of ev_int) (by decide) (by decide)) fun x y hx ⟨r, hy, h3, h4⟩ => ⟨.int (2 + r), by rw [hx, hy]; exact rv_I0 fun _ => .int _, 2 + r, rfl, by omega, by omega⟩
  refine runO_seq (runO_forRng (PN := fun n => 2 ≤ n ∧ n ≤ 8) ((evna_one rng).imp2 fun ds h => ?_) (fun n hn => by omega) fun n hn => ?_)
  · obtain ⟨d, hd, r, hr, h3, h4⟩ := h
    exact ⟨r.toNat, by rw [hd, hr, show ((r.toNat : Nat) : Int) = r by omega], by omega, by omega⟩
  refine runO_for (wlk_rng [5] (n := n) (by trivial) (by omega)) (fun i δa oa => ∃ rest picks, δa = pre ∧ oa = ow rest picks ∧ (rest ++ picks).Perm baseW ∧ picks.length = i) ⟨pre, by repeat constructor, baseW, [], rfl, rfl, by simp, rfl⟩ ?_ ?_
  · rintro i hi δa oa ⟨rest, picks, rfl, rfl, hp, hl⟩
    have hlen : rest.length + picks.length = 8 := by have := hp.length_eq; rw [List.length_append] at this; exact this
    refine ⟨_, eg_name (by simp), ?_⟩
    refine runO_seq (runO_popAt (i := 4) (j := 6) (a := B) (xs := rest.map .str) rfl List.mem_cons_self (by rw [List.length_map]; omega) ((evn_draw (m := rest.length) (cells := cells) rfl (List.mem_cons_of_mem _ (List.mem_cons_of_mem _ List.mem_cons_self)) (evn_thaw (δ' := [some (.v (.ref f)), some (.d (.str letters)), some (.d (.int s)), some (.v (.ref A)), some (.d (.list (rest.map .str))), some (.d (.int i)), none, none]) (.keep (.keep (.keep (.keep (.o (.l List.mem_cons_self (ODs.all _ _)) (by repeat constructor)))))) ((ev_lenL (ds := rest.map .str) (ev_var rfl)).to (by rw [List.length_map])) rfl) (by omega) (by omega)).imp fun d ⟨r, hd, h3, h4⟩ => ⟨r.toNat, by rw [hd]; congr 1; omega, by rw [List.length_map]; omega⟩) fun r hr => ?_)
    rw [List.length_map] at hr
    have e1 : (rest.map PyData.str)[r]'(by rw [List.length_map]; exact hr) = .str rest[r] := by simp
    have e2 : ((rest.map PyData.str).eraseIdx r).map SD.d = ((rest.eraseIdx r).map PyData.str).map SD.d := by rw [map_eraseIdx']
    rw [e1, e2]
    show RunO K _ _ (repl (ow rest picks) B _) _
    show RunO K _ _ (repl ((B, _) :: (A, _) :: (f, _) :: []) B _) _
    rw [repl_hd, repl_tl hBA.symm, repl_tl hBf.symm, repl_nil]
    generalize hw : rest[r] = w
    have hwm : w ∈ baseW := hp.mem_iff.mp (List.mem_append_left _ (hw ▸ List.getElem_mem hr))
    have hw8 : w.length ≤ 8 := by
      have : ∀ w ∈ baseW, w.length ≤ 8 := by decide +kernel
      exact this w hwm
    refine runO_appendS (i := 3) (a := A) (d := .str (shW s w)) rfl (List.mem_cons_of_mem _ List.mem_cons_self) (by simp only [List.length_map]; omega) (ev_join (a := "") (ys := w.cps.toList.map fun c => ⟨#[shC s c]⟩) ev_str ((ev_lcS (fun _ => true) (fun c => .str ⟨#[shC s c]⟩) (w := w) (by trivial) (by omega) fun c hc => ⟨_, eg_name (by simp), eb_yes, fun _ => ev_ixS (x := letters) (i := (Txt.find letters ⟨#[c]⟩ + s) % 26) (by trivial) (ev_mod (ev_add (ev_find (by trivial) (EvD.to (ev_var rfl) rfl)) (by trivial)) ev_int (by decide)) (by decide +kernel) ?_⟩).to ?_) ?_) ?_
    · have g1 : 0 ≤ (Txt.find letters ⟨#[c]⟩ + s) % 26 := Int.emod_nonneg _ (by decide)
      have g2 : (Txt.find letters ⟨#[c]⟩ + s) % 26 < 26 := Int.emod_lt_of_pos _ (by decide)
      unfold atI ixN shC
      have e26 : letters.cps.toList.length = 26 := by decide +kernel
      rw [e26, if_pos g1, if_pos (show (Txt.find letters ⟨#[c]⟩ + s) % 26 < ((26 : Nat) : Int) from g2)]
      have hlt : ((Txt.find letters ⟨#[c]⟩ + s) % 26).toNat < letters.cps.toList.length := by rw [e26]; omega
      show letters.cps.toList[_]? = _
      rw [List.getElem?_eq_getElem hlt]; rfl
    · rw [List.filter_eq_self.mpr fun _ _ => rfl, List.map_map]; rfl
    · have q1 : ∀ (l : List Nat), ((l.map fun c => (⟨#[shC s c]⟩ : Str)).map (·.length)).sum = l.length := fun l => by
        induction l with
        | nil => rfl
        | cons c l ih => rw [List.map_cons, List.map_cons, List.sum_cons, ih, List.length_cons]; show 1 + _ = _; omega
      rw [q1, List.length_map]
      have q2 : w.cps.toList.length = w.length := by simp [Str.length]
      have q3 : ("" : Str).length = 0 := rfl
      rw [q2, q3]
      omega
    · rw [repl_tl hBA, repl_hd, repl_tl hAf.symm, repl_nil]
      refine ⟨pre, by repeat constructor, rest.eraseIdx r, picks ++ [w], rfl, by simp [ow], ?_, by simp [hl]⟩
      refine List.Perm.trans ?_ hp
      have q : (w :: rest.eraseIdx r).Perm rest := by rw [← hw]; exact erase_perm hr
      refine List.Perm.trans ?_ (q.append_right picks)
      rw [← List.append_assoc]
      exact List.perm_append_singleton w _ |>.trans (List.Perm.refl _)
  · rintro δa oa ⟨rest, picks, rfl, rfl, hp, hl⟩
    refine runO_ret (own := [(B, .l ((rest.map PyData.str).map .d)), (A, .l (((picks.map (shW s)).map PyData.str).map .d))]) (fs := [(f, .fd cells)]) (δ' := [some (.v (.ref f)), some (.d (.str letters)), some (.d (.int s)), some (.d (.list ((picks.map (shW s)).map .str))), some (.v (.ref B)), none, none, none]) (.keep (.keep (.keep (.o (.l (List.mem_cons_of_mem _ List.mem_cons_self) (ODs.all _ _)) (by repeat constructor))))) (ev_var rfl) ⟨.inl rfl, picks.map (shW s), ⟨?_, ?_, ?_, ?_, ?_⟩, rfl⟩
    · have q : ((rest ++ picks).map (shW s)).Nodup := (hp.map (shW s)).nodup_iff.mpr sh.1
      rw [List.map_append] at q
      exact (List.nodup_append.mp q).2.1
    · intro w hw
      obtain ⟨x, hx, rfl⟩ := List.mem_map.mp hw
      exact (sh.2 _ (List.mem_map_of_mem (hp.mem_iff.mp (List.mem_append_right _ hx)))).1
    · intro w hw
      obtain ⟨x, hx, rfl⟩ := List.mem_map.mp hw
      exact (sh.2 _ (List.mem_map_of_mem (hp.mem_iff.mp (List.mem_append_right _ hx)))).2
    · rw [List.length_map]; omega
    · rw [List.length_map]; omega
end
end Dw
set_option Elab.async false
set_option linter.all false
set_option maxRecDepth 100000
set_option maxHeartbeats 1000000
/-! Comprehensions with draws in their tests. -/
namespace Dw
open PySem PySem.Spec PyProof.Rows L2
section
variable {K : PySem.W.Frag} {δ δ1 δ2 : Dl} {own own' : Own} {ts us : TS} {O : OutO} {te ta tb tk tv : TE} {tl tA : TA} {tt : TT} {d x y z : PyData} {P : PyData → Prop} {hs : List Addr} {σ : St} {H H' H2 H0 : Hp} {Z : Addr → Prop} {vs : List Nat} {wi : TI} {g : TG} {gs : TGs}
theorem wlk_enumL {β : Type} (vs : List Nat) (enc : β → PyData) {bs : List β} (h : EvA K tA δ [.list (bs.map enc)]) : Wlk K vs (iEnum K tA) (gTup K 2 gs) δ bs.length (fun i δa δb => ∀ b, bs[i]? = some b → EvGs K vs gs δa [.int (i : Nat), enc b] δb) := fun hs σ H hh S RR q =>
  h hs σ H hh S _ fun vs1 H1 e1 r1 => by
    obtain ⟨v, rfl, r2⟩ := r1.one
    clear r1
    cases r2 with
    | @lst a xs _ hp ra =>
      have lx : xs.length = bs.length := by rw [ra.length, List.length_map]
      refine ⟨a, xs, rfl, SqL.full hp, q _ H1 e1 fun i hs2 H' hh' e => ⟨fun hi => ⟨⟨xs, xs[i]'(by omega), SqL.full (e _ _ hp), by simp [lx, hi]⟩, fun x H'' y => ?_⟩, fun hi => ⟨xs, SqL.full (e _ _ hp), by omega⟩⟩⟩
      obtain ⟨T, x0, rfl, hT, rfl, y⟩ := y
      refine ⟨Evl.Ex.new hT, fun δa δb ok σ' S' Q q' => ?_⟩
      obtain ⟨d0, hd0, rd0⟩ := ra.get' (y xs (SqL.full (e _ _ hp)))
      obtain ⟨b, hb, rfl⟩ := get_map hd0
      exact eg_pair (ok b hb) hh' hT S' (.int _) (R.mono e rd0) fun σ2 S2 w2 => q' σ2 S2 w2
def selD (sel : Nat → Bool) (f : Nat → PyData) (i : Nat) : List PyData := ((List.range i).filter sel).map f
theorem selD_succ {sel : Nat → Bool} {f : Nat → PyData} {i : Nat} : selD sel f (i + 1) = selD sel f i ++ if sel i = true then [f i] else [] := by
  unfold selD
  rw [List.range_succ, List.filter_append, List.map_append]
  congr 1
  by_cases h : sel i = true
  · rw [List.filter_cons_of_pos h, if_pos h]; rfl
  · rw [List.filter_cons_of_neg h, if_neg h]; rfl
theorem selD_congr {sel sel' : Nat → Bool} {f : Nat → PyData} {i : Nat} (h : ∀ j < i, sel j = sel' j) : selD sel f i = selD sel' f i := by
  unfold selD
  congr 1
  refine List.filter_congr fun j hj => h j (List.mem_range.mp hj)
theorem evn_lc {n : Nat} {ok : Nat → Dl → Dl → Prop} (w : Wlk K vs wi g δ n ok) (f : Nat → PyData) (hn : n ≤ 10000)
    (step : ∀ i < n, ∃ δ1, ok i (wipeD δ vs) δ1 ∧ EvNB K tt δ1 own (fun _ => True) ∧ EvD K te δ1 (f i)) : EvN K (tLc wi g tt te vs) δ own fun d => ∃ sel : Nat → Bool, d = .list (selD sel f n) := fun hs σ H S Q q =>
  w _ σ H S.hid S.sl _ fun J H1 e1 st => fun D hD => by
    have S1 := S.mono e1
    refine ⟨fun i m H' => m = n - i ∧ i ≤ n ∧ ∃ sel : Nat → Bool, StO K (D :: hs) σ H' δ own ∧ ExZ (· ∈ ads own) H1 H' ∧ ∃ acc, H' D = some (.lst acc) ∧ RA K (cut (ads own ++ (D :: hs)) H') acc (selD sel f i), ⟨n, by simp, Nat.zero_le _, fun _ => false, S1.hide hD, Ex.toZ (Evl.Ex.new hD), [], upd_same, .nil⟩, ?_⟩
    rintro i m H' ⟨rfl, hi, sel, S2, ex, acc, ha, hr⟩
    have ew : Ex (cut (ads own ++ hs) H1) (cut (ads own ++ (D :: hs)) H') := fun a o h => by
      obtain ⟨m, h⟩ := cut_some h
      refine cut_of (fun z => ?_) (ex a o (fun z => m (List.mem_append_left _ z)) h)
      rcases List.mem_append.mp z with z | z
      · exact m (List.mem_append_left _ z)
      · rcases List.mem_cons.mp z with z | z
        · rw [z, hD] at h; cases h
        · exact m (List.mem_append_right _ z)
    have hDn : D ∉ ads own := fun m => S2.dj D m List.mem_cons_self
    have s2 := st i _ H' S2.hid ew
    by_cases hlt : i < n
    · obtain ⟨go, y⟩ := s2.1 hlt
      obtain ⟨δ1, hok, hb, hv⟩ := step i hlt
      refine .inr ⟨go, fun H3 => i + 1 ≤ n ∧ ∃ sel : Nat → Bool, StO K (D :: hs) σ H3 δ own ∧ ExZ (· ∈ ads own) H1 H3 ∧ ∃ acc, H3 D = some (.lst acc) ∧ RA K (cut (ads own ++ (D :: hs)) H3) acc (selD sel f (i + 1)), fun H3 p => ⟨n - (i + 1), by omega, rfl, p⟩, fun x H'' yy => ?_⟩
      obtain ⟨e3, kk⟩ := y x H'' yy
      refine kk _ _ hok _ (S2.sl.wipe vs) _ fun σ2 Sl2 w2 => ⟨by rw [w2]; exact wipe_wipe vs σ, ?_⟩
      have S3 := S2.mono e3
      have S3' : StO K (D :: hs) σ2 H'' δ1 own := ⟨S3.hid, S3.nd, S3.dj, Sl2, S3.ok⟩
      refine hb _ σ2 H'' S3' _ fun c H3 _ e4 S4' => ?_
      have S4 : StO K (D :: hs) σ H3 δ own := ⟨S4'.hid, S4'.nd, S4'.dj, S3.sl.mono e4.cut, S4'.ok⟩
      have ha3 : H3 D = some (.lst acc) := e4 _ _ hDn (e3 _ _ ha)
      have hr3 : RA K (cut (ads own ++ (D :: hs)) H3) acc (selD sel f i) := (hr.mono e3.cut).mono e4.cut
      have ex3 : ExZ (· ∈ ads own) H1 H3 := (ex.trans (Ex.toZ e3)).trans e4
      let sel' : Nat → Bool := fun j => if j = i then c else sel j
      have es : selD sel f i = selD sel' f i := selD_congr fun j hj => by show sel j = if j = i then c else sel j; rw [if_neg (by omega)]
      have si : sel' i = c := if_pos rfl
      cases c with
      | false =>
        rw [if_neg (by decide)]
        refine ⟨hlt, sel', S4, ex3, acc, ha3, ?_⟩
        rw [selD_succ, si, ← es]
        simpa using hr3
      | true =>
        rw [if_pos rfl]
        refine hv _ σ2 H3 S4'.hid S4'.sl _ fun v H4 e5 rv => ?_
        have S5 := S4.mono e5
        have ha4 := e5 _ _ ha3
        have hm : D ∈ ads own ++ (D :: hs) := List.mem_append_right _ List.mem_cons_self
        have hl : acc.length < 10000 := by
          rw [hr3.length]
          unfold selD
          rw [List.length_map]
          have := List.length_filter_le sel (List.range i)
          rw [List.length_range] at this
          omega
        refine ⟨acc, ha4, Nat.lt_of_lt_of_le hl (by decide), hlt, sel', ⟨S5.hid.upd, S5.nd, S5.dj, by rw [cut_upd hm]; exact S5.sl, fun p hp => ?_⟩, fun a o z h => ?_, acc ++ [v], upd_same, ?_⟩
        · rw [cut_upd hm]
          refine (S5.ok p hp).mono Ex.rfl (upd_ne ?_)
          intro z
          exact hDn (z ▸ List.mem_map_of_mem (f := (·.1)) hp)
        · by_cases y : a = D
          · rw [y, hD] at h; cases h
          · rw [upd_ne y]; exact e5 _ _ (ex3 a o z h)
        · rw [selD_succ, si, if_pos rfl, ← es, cut_upd hm]
          exact (hr3.mono e5.cut).snoc rv
    · have e : i = n := by omega
      subst e
      have hDh : D ∉ hs := fun z => S1.hid D (List.mem_append_right _ z) hD
      have sub : Ex (cut (ads own ++ (D :: hs)) H') (cut (ads own ++ hs) H') := cut_sub fun a m => by
        rcases List.mem_append.mp m with m | m
        · exact List.mem_append_left _ m
        · exact List.mem_append_right _ (List.mem_cons_of_mem _ m)
      refine .inl ⟨s2.2 rfl, q _ H' _ ⟨sel, rfl⟩ ((Ex.toZ e1).trans ex) ⟨fun a m => S2.hid a ?_, S2.nd, fun a m z => S2.dj a m (List.mem_cons_of_mem _ z), S2.sl.mono sub, fun p hp => (S2.ok p hp).mono sub rfl⟩ (R.lst (cut_of (fun z => ?_) ha) (hr.mono sub))⟩
      · rcases List.mem_append.mp m with m | m
        · exact List.mem_append_left _ m
        · exact List.mem_append_right _ (List.mem_cons_of_mem _ m)
      · rcases List.mem_append.mp z with z | z
        · exact hDn z
        · exact hDh z
end
end Dw
set_option Elab.async false
set_option linter.all false
set_option maxRecDepth 100000
set_option maxHeartbeats 1000000
/-! Readings of the builders: pairs. -/
namespace Dw
open PySem PySem.Spec PyProof.Rows L2
local macro_rules | `(tactic| trivial) => `(tactic| repeat' (first
  | exact ev_var rfl
  | exact ev_int
  | exact ev_str
  | exact ev_non
  | exact ev_bl
  | exact ea_nil
  | exact eo_none
  | exact eb_yes
  | apply ea_cons
  | apply eo_some
  | apply eb_B
  | apply eb_test
  | apply eb_not
  | apply eb_or
  | apply eb_and
  | apply ev_andV
  | apply ev_orV
  | apply ev_notV
  | apply ev_isN
  | apply ev_notN
  | apply isi_ii
  | apply isi_ib
  | apply isi_tt
  | apply isi_ss
  | apply ev_ixT
  | apply ev_slT
  | apply ev_add
  | apply ev_sub
  | apply ev_neg
  | apply ev_lt
  | apply ev_le
  | apply ev_gt
  | apply ev_ge
  | apply ev_ltS
  | apply ev_lenG
  | apply ev_lenD
  | apply ev_tuple
  | apply ev_tup
  | apply ev_lst
  | apply ev_all
  | apply ev_catT
  | apply ev_is_number
  | apply ev_is_name
  | apply ev_is_entry
  | apply ev_are_entries
  | apply ev_is_row
  | apply ev_row_of
  | apply ev_kind_of
  | apply ev_entries_of
  | apply ev_way
  | apply ev_above
  | exact LenD.tup
  | exact LenD.lst
  | rfl
  | assumption
  | exact Nat.le_of_ble_eq_true rfl
  | with_reducible intro _))
section
variable {K : PySem.W.Frag} {δ δ1 : Dl} {own : Own} {O : OutO} {ts us : TS} {tl tk ty tv td : TE} {tA : TA} {E : XK} {t : Tree} {te ta tb : TE} {n m : Int} {d x : PyData} {P : PyData → Prop}
theorem sortW_perm (w : List Str) : (sortW w).Perm w := List.mergeSort_perm _ _
theorem ev_sortWL {w : List Str} (h : EvD K ta δ (.list (w.map .str))) : EvD K (tCB (rSortD K) (tCons ta tNil)) δ (.list ((sortW w).map .str)) :=
  ev_sorted PyData.str h (PySem.W.AllAlike.of fun _ _ => by simp [PySem.W.alike]) (PySem.W.Sortable.others fun b => ⟨(fun z => nomatch z), fun xs z => nomatch z⟩) (fun r _ => rfl) fun r _ => by simp [PyData.depth]
theorem atI_nat {α : Type} {l : List α} {i : Nat} {a : α} (h : l[i]? = some a) : atI l (i : Int) = some a := by
  have hi := (List.getElem?_eq_some_iff.mp h).1
  unfold atI ixN
  rw [if_pos (by omega), if_pos (by omega)]
  simpa using h
/-- a turned list's pairs -/
def turn {α : Type} [Inhabited α] (l : List α) (s : Nat) : List (α × α) := (List.range l.length).map fun k => ((l[k]?).getD default, (l[(k + s) % l.length]?).getD default)
theorem turn_fst {α : Type} [Inhabited α] (l : List α) (s : Nat) : (turn l s).map (·.1) = l := by
  unfold turn
  rw [List.map_map]
  refine List.ext_getElem (by simp) fun i h1 h2 => ?_
  have hi : i < l.length := by simpa using h1
  simp [List.getElem?_eq_getElem hi]
theorem turn_snd {α : Type} [Inhabited α] (l : List α) (s : Nat) : (turn l s).map (·.2) = l.drop (s % l.length) ++ l.take (s % l.length) := by
  unfold turn
  rw [List.map_map]
  by_cases h0 : l.length = 0
  · have : l = [] := List.length_eq_zero_iff.mp h0
    subst this; simp
  have hp : 0 < l.length := by omega
  have hs : s % l.length < l.length := Nat.mod_lt _ hp
  refine List.ext_getElem (by simp; omega) fun i h1 h2 => ?_
  have hi : i < l.length := by simpa using h1
  have hm : (i + s) % l.length < l.length := Nat.mod_lt _ hp
  simp only [List.getElem_map, List.getElem_range, Function.comp, List.getElem?_eq_getElem hm, Option.getD_some]
  by_cases q : i < (l.drop (s % l.length)).length
  · rw [List.getElem_append_left q, List.getElem_drop]
    rw [List.length_drop] at q
    congr 1
    rw [Nat.add_mod, Nat.mod_eq_of_lt hi, Nat.mod_eq_of_lt (by omega)]
    omega
  · rw [List.getElem_append_right (by omega), List.getElem_take]
    rw [List.length_drop] at q
    congr 1
    simp only [List.length_drop]
    rw [Nat.add_mod, Nat.mod_eq_of_lt hi, Nat.mod_eq_sub_mod (by omega), Nat.mod_eq_of_lt (by omega)]
    omega
theorem turn_perm {α : Type} [Inhabited α] (l : List α) (s : Nat) : ((turn l s).map (·.1)).Perm ((turn l s).map (·.2)) := by
  rw [turn_fst, turn_snd]
  have := (List.perm_append_comm (l₁ := l.drop (s % l.length)) (l₂ := l.take (s % l.length)))
  rw [List.take_append_drop] at this
  exact this.symm
theorem run__law_node_pairs (f : Addr) (cells : List Int) (ds : List PyData) (h : Pre_node_pairs ds) : RunO K (t__law_node_pairs K) (some (.v (.ref f)) :: ds.map (fun d => some (.d d)) ++ List.replicate (N__law_node_pairs.length - (ds.length + 1)) none) [(f, .fd cells)] (outF f cells (Post_node_pairs ds)) := by
  obtain ⟨ws, t, ⟨W, hws, ht1, ht2, ht3⟩, rfl⟩ := h
  have hrl : t.1.tail.length ≤ 10 := by rw [List.length_tail]; omega
  refine runO_seq (runO_asg (evn_lc (wlk_tup [3] eRow (bs := t.1.tail) ((ev_slT (ds := t.1.map eRow) (ev_ixT (ds := [_, _]) (by trivial) ev_int rfl) (eo_some ev_int) eo_none).to (by rw [cutD_tail, List.map_tail]))) (fun i => .int ((t.1.tail[i]?.map (·.1)).getD 0)) (by omega) fun i hi => ⟨[some (.v (.ref f)), some (.d (eTree t)), none, some (.d (eRow t.1.tail[i])), none, none], fun r hr => ?_, ?_, ?_⟩) fun d hd => ?_)
  · rw [List.getElem?_eq_getElem hi] at hr
    cases hr
    exact eg_name (by simp)
  · exact evnb_test ((evn_op (P1 := fun d => ∃ r : Int, d = .int r ∧ 0 ≤ r ∧ r < 4) (P2 := (· = .int 0)) (P := fun d => ∃ b, d = .bool b ∧ True) (evn_draw (m := 4) (cells := cells) rfl List.mem_cons_self (evn_of ev_int) (by decide) (by decide)) (evn_of ev_int) fun x y ⟨r, hx, _, _⟩ hy => ⟨.bool (decide (0 < r)), by rw [hx, hy]; exact rv_I0 fun _ => .bl _, _, rfl, trivial⟩))
  · rw [List.getElem?_eq_getElem hi]
    exact ev_ixT (ds := [_, _, _]) (ev_var rfl) ev_int rfl
  obtain ⟨sel, rfl⟩ := hd
  let l : List Int := ((List.range t.1.tail.length).filter sel).map fun i => (t.1.tail[i]?.map (·.1)).getD 0
  have el : selD sel (fun i => PyData.int ((t.1.tail[i]?.map (·.1)).getD 0)) t.1.tail.length = l.map .int := by
    show _ = (((List.range t.1.tail.length).filter sel).map _).map _
    rw [List.map_map]; rfl
  rw [el]
  have hsub : l.Sublist (t.1.tail.map (·.1)) := by
    have e1 : t.1.tail.map (·.1) = (List.range t.1.tail.length).map fun i => (t.1.tail[i]?.map (·.1)).getD 0 := by
      refine List.ext_getElem (by simp) fun i h1 h2 => ?_
      have hi : i < t.1.tail.length := by rw [List.length_map] at h1; exact h1
      rw [List.getElem_map, List.getElem_map, List.getElem_range, List.getElem?_eq_getElem hi]; rfl
    rw [e1]
    exact List.Sublist.map _ List.filter_sublist
  have hll : l.length ≤ 10 := Nat.le_trans hsub.length_le (by rw [List.length_map]; exact hrl)
  let δ2 : Dl := [some (.v (.ref f)), some (.d (eTree t)), some (.d (.list (l.map .int))), none, none, none]
  show RunO K _ δ2 _ _
  have hlen : ∀ {δ : Dl}, δ[2]? = some (some (.d (.list (l.map PyData.int)))) → EvD K (tCB (rLenAny K) (tCons (tVar 2) tNil)) δ (.int l.length) := fun h => (ev_lenL (ds := l.map .int) (ev_var h)).to (by rw [List.length_map])
  refine runO_seq (runO_asg (evn_draw (m := if (l.length : Int) > 1 then (l.length : Int) else 1) (cells := cells) rfl List.mem_cons_self (evn_of (ev_max (i := 1) (j := l.length) ev_int (hlen rfl))) (by split <;> omega) (by split <;> omega)) fun d ⟨s, hd, h1, h2⟩ => ?_)
  subst hd
  obtain ⟨sn, hsn⟩ : ∃ sn : Nat, s = sn := ⟨s.toNat, by omega⟩
  subst hsn
  have e3 : (PyData.tuple ((turn l sn).map fun p => .tuple [.int p.1, .int p.2])) = ipD (turn l sn) := rfl
  refine runO_retN (evn_of (d := ipD (turn l sn)) (ev_tuple (ds := (turn l sn).map fun p => .tuple [.int p.1, .int p.2]) ((ev_lcR (fun _ => true) (fun k => .tuple [.int ((l[k]?).getD default), .int ((l[(k + sn) % l.length]?).getD default)]) (n := l.length) (j := 5) (ea_cons (hlen rfl) ea_nil) (by omega) (by simp) ?_).to ?_))) fun d hd => ⟨.inl rfl, t, turn l sn, rfl, ⟨?_, ?_, turn_perm l sn, ?_⟩, hd⟩
  · intro k hk
    have hk2 : (k + sn) % l.length < l.length := Nat.mod_lt _ (by omega)
    refine ⟨eb_yes, fun _ => ev_tup (ea_cons (ev_ixL (ds := l.map .int) (i := k) (by trivial) (by trivial) (atI_nat (by rw [List.getElem?_map, List.getElem?_eq_getElem hk]; rfl))) (ea_cons (ev_ixL (ds := l.map .int) (i := ((k + sn) % l.length : Nat)) (by trivial) ((ev_mod (ev_add (by trivial) (by trivial)) (hlen rfl) (by omega)).to (by rw [← Int.natCast_add, ← Int.natCast_emod])) (atI_nat (by rw [List.getElem?_map, List.getElem?_eq_getElem hk2]; rfl))) ea_nil)) (by trivial)⟩
  · rw [List.filter_eq_self.mpr fun _ _ => rfl]
    unfold turn
    rw [List.map_map]; rfl
  · rw [turn_fst]
    exact List.Pairwise.sublist hsub (List.Pairwise.sublist (List.Sublist.map _ (List.tail_sublist _)) W.nodup)
  · unfold turn
    rw [List.length_map, List.length_range]; omega
  · intro p hp
    have hm : p.1 ∈ l := by rw [← turn_fst l sn]; exact List.mem_map_of_mem (f := (·.1)) hp
    obtain ⟨r, hr, e⟩ := List.mem_map.mp (hsub.subset hm)
    obtain ⟨e0, rest, htop⟩ := W.top
    rw [htop] at hr
    have hi := W.inc
    rw [htop] at hi
    have := (List.pairwise_cons.mp hi).1 r hr
    refine ⟨by rw [← e]; simp at this; omega, r, by rw [htop]; exact List.mem_cons_of_mem _ hr, e⟩
def fresh (k : Nat) : Str := "fresh" ++ (⟨#[(("abcdefgh" : Str).cps.toList[k]?).getD 0]⟩ : Str)
theorem fresh_all : ((List.range 8).map fresh).Nodup ∧ ∀ w ∈ (List.range 8).map fresh, NameOk w ∧ w.length = 6 := by decide +kernel
theorem run__law_name_pairs (f : Addr) (cells : List Int) (ds : List PyData) (h : Pre_name_pairs ds) : RunO K (t__law_name_pairs K) (some (.v (.ref f)) :: ds.map (fun d => some (.d d)) ++ List.replicate (N__law_name_pairs.length - (ds.length + 1)) none) [(f, .fd cells)] (outF f cells (Post_name_pairs ds)) := by
  obtain ⟨ws, W, rfl⟩ := h
  have h8 := W.eight
  have h2 := W.two
  let l : List Str := sortW ws
  have lp : l.Perm ws := sortW_perm ws
  have ll : l.length = ws.length := lp.length_eq
  have lnd : l.Nodup := lp.nodup_iff.mpr W.nd
  have lok : ∀ x ∈ l, NameOk x := fun x hx => W.names x (lp.mem_iff.mp hx)
  have draw4 : ∀ {δ : Dl} {m : Int}, δ[0]? = some (some (.v (.ref f))) → 0 < m → m < 100 → EvN K (tCall (SpF K Pre_draw Post_draw) [] E0 (tCons (tVar 0) (tCons (tC (.int m)) (tNil)))) δ [(f, .fd cells)] fun d => ∃ r : Int, d = .int r ∧ 0 ≤ r ∧ r < m := fun h0 h1 h2 => evn_draw (cells := cells) h0 List.mem_cons_self (evn_of ev_int) h1 (by omega)
  refine runO_seq (runO_asgG [2, 3] (P := fun d => ∃ r : Int, d = .tuple [.int r, .list (l.map .str)]) (evn_tup (PA := fun ds => ∃ r : Int, ds = [.int r, .list (l.map .str)]) (evna_cons (draw4 (m := 4) rfl (by decide) (by decide)) (evna_cons (PA2 := (· = [PyData.list (l.map .str)])) (evn_of (ev_sortWL (w := ws) (by trivial))) evna_nil fun d ds hd hs => by rw [hd, hs]) fun d ds ⟨r, hd, _, _⟩ hs => ⟨r, by rw [hd, hs]⟩) fun ds ⟨r, hd⟩ => ⟨by rw [hd]; exact Nat.le_of_ble_eq_true rfl, r, by rw [hd]⟩) fun d ⟨r, hd⟩ => ⟨_, hd ▸ eg_tup (ds := [_, _]) (egs_cons (eg_name (by simp)) (egs_cons (eg_name (by simp)) egs_nil)) rfl, ?_⟩)
  let δ2 : Dl := [some (.v (.ref f)), some (.d (.list (ws.map .str))), some (.d (.int r)), some (.d (.list (l.map .str))), none, none]
  show RunO K _ δ2 _ _
  have hlen : ∀ {δ : Dl}, δ[3]? = some (some (.d (.list (l.map PyData.str)))) → EvD K (tCB (rLenAny K) (tCons (tVar 3) tNil)) δ (.int l.length) := fun h => (ev_lenL (ds := l.map .str) (ev_var h)).to (by rw [List.length_map])
  have ix : ∀ {δ : Dl} {te : TE} {k : Nat} {x : Str}, δ[3]? = some (some (.d (.list (l.map PyData.str)))) → EvD K te δ (.int k) → l[k]? = some x → EvD K (tOp (rIxL K) (tVar 3) te) δ (.str x) := fun h h2 h3 => ev_ixL (ds := l.map .str) (ev_var h) h2 (atI_nat (by rw [List.getElem?_map, h3]; rfl))
  have fin : ∀ np : NP, NpIn ws np → (outF f cells (Post_name_pairs [.list (ws.map .str)])).rt [(f, .fd cells)] (npD np) := fun np h => ⟨.inl rfl, ws, np, rfl, h, rfl⟩
  by_cases c0 : r = 0
  · refine runO_take (evnb_of (EvB.to (eb_test (ev_eqI (i := r) (j := 0) (by trivial) ev_int)) (decide_eq_true c0))) (runO_retN (evn_of (d := npD (turn l 1)) (ev_tuple (ds := (turn l 1).map fun p => .tuple [.str p.1, .str p.2]) ((ev_lcR (fun _ => true) (fun k => .tuple [.str ((l[k]?).getD default), .str ((l[(k + 1) % l.length]?).getD default)]) (n := l.length) (j := 4) (ea_cons (hlen rfl) ea_nil) (by omega) (by simp) ?_).to ?_))) fun d hd => hd ▸ fin _ ⟨?_, ?_, ?_, ?_, ?_, ?_⟩)
    · intro k hk
      have hk2 : (k + 1) % l.length < l.length := Nat.mod_lt _ (by omega)
      refine ⟨eb_yes, fun _ => ev_tup (ea_cons (ix rfl (by trivial) (by rw [List.getElem?_eq_getElem hk]; rfl)) (ea_cons (ix (k := (k + 1) % l.length) rfl ((ev_mod (ev_add (by trivial) ev_int) (hlen rfl) (by omega)).to (by congr 1)) (by rw [List.getElem?_eq_getElem hk2]; rfl)) ea_nil)) (by trivial)⟩
    · rw [List.filter_eq_self.mpr fun _ _ => rfl]
      unfold turn
      rw [List.map_map]; rfl
    · rw [turn_fst]; exact lnd
    · exact (turn_perm l 1).nodup_iff.mp (by rw [turn_fst]; exact lnd)
    · unfold turn; rw [List.length_map, List.length_range]; omega
    · intro p hp
      have hm : p.1 ∈ l := by rw [← turn_fst l 1]; exact List.mem_map_of_mem (f := (·.1)) hp
      exact lp.mem_iff.mp hm
    · intro p hp
      have hm : p.2 ∈ l := by
        have := (turn_perm l 1).mem_iff.mpr (List.mem_map_of_mem (f := (·.2)) hp)
        rwa [turn_fst] at this
      exact lok _ hm
    · intro x hx
      have hm : x ∈ (turn l 1).map (·.1) := by rw [turn_fst]; exact lp.mem_iff.mpr hx
      obtain ⟨p, hp, e⟩ := List.mem_map.mp hm
      exact .inl ⟨p, hp, e⟩
  refine runO_skip (evnb_of (EvB.to (eb_test (ev_eqI (i := r) (j := 0) (by trivial) ev_int)) (decide_eq_false c0))) ?_
  by_cases c1 : r = 1
  · obtain ⟨a, ha⟩ : ∃ a, l[0]? = some a := ⟨l[0]'(by omega), List.getElem?_eq_getElem _⟩
    obtain ⟨z, hz⟩ : ∃ z, l[l.length - 1]? = some z := ⟨l[l.length - 1]'(by omega), List.getElem?_eq_getElem _⟩
    have hza : a ≠ z := fun e => by
      obtain ⟨q1, q2⟩ := List.getElem?_eq_some_iff.mp ha
      obtain ⟨q3, q4⟩ := List.getElem?_eq_some_iff.mp hz
      have := (List.getElem_inj lnd).mp (q2.trans (e.trans q4.symm))
      omega
    have hla : ∀ {δ : Dl}, δ[3]? = some (some (.d (.list (l.map PyData.str)))) → EvD K (tOp (rIxL K) (tVar 3) (tUn (rU fun i => .int (-i)) (tC (.int 1)))) δ (.str z) := fun h => ev_ixL (ds := l.map .str) (ev_var h) (ev_neg ev_int) (by
      unfold atI ixN
      rw [List.length_map, if_neg (by omega), if_pos (by omega)]
      show (l.map PyData.str)[(-1 + (l.length : Int)).toNat]? = _
      rw [show (-1 + (l.length : Int)).toNat = l.length - 1 by omega, List.getElem?_map, hz]; rfl)
    have haM := lp.mem_iff.mp (List.mem_of_getElem? ha)
    have hzM := lp.mem_iff.mp (List.mem_of_getElem? hz)
    refine runO_take (evnb_of (EvB.to (eb_test (ev_eqI (i := r) (j := 1) (by trivial) ev_int)) (decide_eq_true c1))) (runO_retN (evn_of (d := npD [(a, z), (z, a)]) (ev_tup (ea_cons (ev_tup (ea_cons (ix (k := 0) rfl ev_int ha) (ea_cons (hla rfl) ea_nil)) (by trivial)) (ea_cons (ev_tup (ea_cons (hla rfl) (ea_cons (ix (k := 0) rfl ev_int ha) ea_nil)) (by trivial)) ea_nil)) (by trivial))) fun d hd => hd ▸ fin _ ⟨by simp [hza], by simp [hza.symm], by simp, ?_, ?_, ?_⟩)
    · intro p hp
      rcases List.mem_cons.mp hp with e | hp
      · rw [e]; exact haM
      · rw [List.mem_singleton.mp hp]; exact hzM
    · intro p hp
      rcases List.mem_cons.mp hp with e | hp
      · rw [e]; exact W.names _ hzM
      · rw [List.mem_singleton.mp hp]; exact W.names _ haM
    · intro x hx
      by_cases q1 : x = a
      · exact .inl ⟨(a, z), by simp, q1.symm⟩
      · by_cases q2 : x = z
        · exact .inl ⟨(z, a), by simp, q2.symm⟩
        · refine .inr fun p hp => ?_
          rcases List.mem_cons.mp hp with e | hp
          · rw [e]; exact fun w => q2 w.symm
          · rw [List.mem_singleton.mp hp]; exact fun w => q1 w.symm
  refine runO_skip (evnb_of (EvB.to (eb_test (ev_eqI (i := r) (j := 1) (by trivial) ev_int)) (decide_eq_false c1))) ?_
  by_cases c2 : r = 2
  · refine runO_take (evnb_of (EvB.to (eb_test (ev_eqI (i := r) (j := 2) (by trivial) ev_int)) (decide_eq_true c2))) ?_
    let fk : Nat → PyData := fun k => .tuple [.str ((l[k]?).getD default), .str (fresh k)]
    have lc := evn_lc (K := K) (own := [(f, .fd cells)]) (δ := δ2) (tt := tTest (tOp (rEqP K) (tCall (SpF K Pre_draw Post_draw) [] E0 (tCons (tVar 0) (tCons (tC (.int 2)) (tNil)))) (tC (.int 0)))) (te := tTupF (tCons (tVar 5) (tCons (tOp (rAddStr) (tC (.str ("fresh" : Str))) (tOp (rIxS) (tC (.str ("abcdefgh" : Str))) (tVar 4))) (tNil)))) (wlk_enumL (gs := gCons (gName 4) (gCons (gName 5) (gNil))) [4, 5] PyData.str (bs := l) (tA := tCons (tVar 3) tNil) (by trivial)) fk (by omega) fun k hk => ⟨[some (.v (.ref f)), some (.d (.list (ws.map .str))), some (.d (.int r)), some (.d (.list (l.map .str))), some (.d (.int k)), some (.d (.str l[k]))], fun b hb => by
        rw [List.getElem?_eq_getElem hk] at hb
        cases hb
        exact egs_cons (eg_name (by simp)) (egs_cons (eg_name (by simp)) egs_nil), evnb_test (evn_op (P1 := fun d => ∃ r : Int, d = .int r ∧ 0 ≤ r ∧ r < 2) (P2 := (· = .int 0)) (P := fun d => ∃ b, d = .bool b ∧ True) (draw4 (m := 2) rfl (by decide) (by decide)) (evn_of ev_int) fun x y ⟨r, hx, _, _⟩ hy => ⟨.bool (decide (r = 0)), ?_, _, rfl, trivial⟩), ?_⟩
    · refine runO_retN (P := fun d => ∃ sel : Nat → Bool, d = .tuple (selD sel fk l.length)) (evn_cb (evna_one lc) fun ds ⟨d, hds, sel, hd⟩ => ⟨.tuple (selD sel fk l.length), ?_, sel, rfl⟩) fun d ⟨sel, hd⟩ => ?_
      · subst hds; subst hd
        exact fun hs H vs hh ra Q q => by
          obtain ⟨v, rfl, r⟩ := ra.one
          cases r with
          | @lst a xs _ hp ra => exact ⟨_, xs, rfl, .inl ⟨SqL.full hp, new_R hh ra q⟩⟩
      · have e : d = npD (((List.range l.length).filter sel).map fun k => ((l[k]?).getD default, fresh k)) := by
          rw [hd]
          unfold npD selD
          rw [List.map_map]; rfl
        rw [e]
        have hk8 : ∀ k ∈ (List.range l.length).filter sel, k < 8 ∧ k < l.length := fun k hk => by
          have := List.mem_range.mp (List.mem_filter.mp hk).1
          omega
        have hf : ∀ k < 8, NameOk (fresh k) ∧ (fresh k).length = 6 := fun k hk => fresh_all.2 _ (List.mem_map_of_mem (List.mem_range.mpr hk))
        refine fin _ ⟨?_, ?_, ?_, ?_, ?_, ?_⟩
        · rw [List.map_map]
          have e1 : l = (List.range l.length).map fun k => (l[k]?).getD default := by
            refine List.ext_getElem (by simp) fun i h1 h2 => ?_
            rw [List.getElem_map, List.getElem_range, List.getElem?_eq_getElem h1]; rfl
          refine List.Pairwise.sublist (List.Sublist.map _ List.filter_sublist) ?_
          show ((List.range l.length).map fun k => (l[k]?).getD default).Nodup
          rw [← e1]; exact lnd
        · rw [List.map_map]
          refine List.Pairwise.sublist (List.Sublist.map _ (List.filter_sublist.trans (List.range_sublist.mpr (show l.length ≤ 8 by omega)))) ?_
          exact fresh_all.1
        · rw [List.length_map]
          have := List.length_filter_le sel (List.range l.length)
          rw [List.length_range] at this
          omega
        · intro p hp
          obtain ⟨k, hk, rfl⟩ := List.mem_map.mp hp
          have := (hk8 k hk).2
          show (l[k]?).getD default ∈ ws
          rw [List.getElem?_eq_getElem this]
          exact lp.mem_iff.mp (List.getElem_mem this)
        · intro p hp
          obtain ⟨k, hk, rfl⟩ := List.mem_map.mp hp
          exact (hf k (hk8 k hk).1).1
        · intro x hx
          refine .inr fun p hp e => ?_
          obtain ⟨k, hk, rfl⟩ := List.mem_map.mp hp
          have q : fresh k = x := e
          exact W.six x hx (q ▸ (hf k (hk8 k hk).1).2)
    · rw [hx, hy]
      exact fun hs H v u hh r1 r2 Q q => ⟨.int r, .int 0, r1.full.dp rfl, r2.full.dp rfl, rfl, rfl, by simp [PyData.depth], by
        have e : PyData.eqv (.int r) (.int 0) = decide (r = 0) := by show (r == 0) = _; rfl
        rw [e]; exact q _ H Ex.rfl (.bl _)⟩
    · have hk8 : k < 8 := by omega
      have e8 : ("abcdefgh" : Str).cps.toList.length = 8 := by decide +kernel
      refine (ev_tup (ds := [.str l[k], .str (fresh k)]) (ea_cons (by trivial) (ea_cons (ev_addS (i := "fresh") (j := ⟨#[(("abcdefgh" : Str).cps.toList[k]?).getD 0]⟩) ev_str (ev_ixS (x := "abcdefgh") (i := k) ev_str (by trivial) (by decide +kernel) (atI_nat (by rw [List.getElem?_eq_getElem (by omega)]; rfl))) (by show 5 + 1 ≤ 10000; decide)) ea_nil)) (by trivial)).to ?_
      show _ = PyData.tuple [.str ((l[k]?).getD default), .str (fresh k)]
      rw [List.getElem?_eq_getElem hk]; rfl
  refine runO_skip (evnb_of (EvB.to (eb_test (ev_eqI (i := r) (j := 2) (by trivial) ev_int)) (decide_eq_false c2))) ?_
  exact runO_retN (evn_of (d := npD []) (ev_tup ea_nil (by trivial))) fun d hd => hd ▸ fin [] ⟨by simp, by simp, by simp, fun p hp => (by cases hp), fun p hp => (by cases hp), fun x _ => .inr fun p hp => by cases hp⟩
end
end Dw
set_option Elab.async false
set_option linter.all false
set_option maxRecDepth 100000
set_option maxHeartbeats 1000000
/-! Readings of the builders: ways. -/
namespace Dw
open PySem PySem.Spec PyProof.Rows L2
local macro_rules | `(tactic| trivial) => `(tactic| repeat' (first
  | exact ev_var rfl
  | exact ev_int
  | exact ev_str
  | exact ev_non
  | exact ev_bl
  | exact ea_nil
  | exact eo_none
  | exact eb_yes
  | apply ea_cons
  | apply eo_some
  | apply eb_B
  | apply eb_test
  | apply eb_not
  | apply eb_or
  | apply eb_and
  | apply ev_andV
  | apply ev_orV
  | apply ev_notV
  | apply ev_isN
  | apply ev_notN
  | apply isi_ii
  | apply isi_ib
  | apply isi_tt
  | apply isi_ss
  | apply ev_ixT
  | apply ev_slT
  | apply ev_add
  | apply ev_sub
  | apply ev_neg
  | apply ev_lt
  | apply ev_le
  | apply ev_gt
  | apply ev_ge
  | apply ev_ltS
  | apply ev_lenG
  | apply ev_lenD
  | apply ev_tuple
  | apply ev_tup
  | apply ev_lst
  | apply ev_all
  | apply ev_catT
  | apply ev_is_number
  | apply ev_is_name
  | apply ev_is_entry
  | apply ev_are_entries
  | apply ev_is_row
  | apply ev_row_of
  | apply ev_kind_of
  | apply ev_entries_of
  | apply ev_way
  | apply ev_above
  | exact LenD.tup
  | exact LenD.lst
  | rfl
  | assumption
  | exact Nat.le_of_ble_eq_true rfl
  | with_reducible intro _))
section
variable {K : PySem.W.Frag} {δ δ1 : Dl} {own : Own} {O : OutO} {ts us : TS} {tl tk ty tv td : TE} {tA : TA} {E : XK} {t : Tree} {te ta tb : TE} {n m : Int} {d x y : PyData} {P P2 : PyData → Prop}
theorem rv_ixT {ds : List PyData} {i : Int} (h : atI ds i = some d) : RV K (rIxT K) (.tuple ds) (.int i) d := fun hs H v u _ r1 r2 Q q => by
  cases r2
  cases r1 with
  | tup hp ra =>
    obtain ⟨w, h1, h2⟩ := atI_RA ra h
    exact ⟨_, _, i, w, rfl, rfl, hp.full.sq, h1, q w H Ex.rfl h2⟩
theorem rv_ixL {ds : List PyData} {i : Int} (h : atI ds i = some d) : RV K (rIxL K) (.list ds) (.int i) d := fun hs H v u _ r1 r2 Q q => by
  cases r2
  cases r1 with
  | lst hp ra =>
    obtain ⟨w, h1, h2⟩ := atI_RA ra h
    exact ⟨_, _, i, w, rfl, rfl, SqL.full hp, h1, q w H Ex.rfl h2⟩
/-- one of a list, drawn -/
theorem evn_pickL {β : Type} {i : Nat} {f : Addr} {cells : List Int} {j : Nat} (enc : β → PyData) {l : List β} (hv : δ[i]? = some (some (.v (.ref f)))) (hm : (f, .fd cells) ∈ own) (h : EvD K ta δ (.list (l.map enc))) (hlen : EvD K tb δ (.int l.length)) (h0 : 0 < l.length) (h1 : l.length ≤ 10000) :
    EvN K (tOp (rIxL K) ta (tCall (SpF K Pre_draw Post_draw) [] E (tCons (tVar i) (tCons tb tNil)))) δ own fun d => ∃ x ∈ l, d = enc x :=
  evn_op (evn_of h) (evn_draw (m := l.length) hv hm (evn_of hlen) (by omega) (by omega)) fun x y hx ⟨r, hy, h3, h4⟩ => by
    obtain ⟨k, hk⟩ : ∃ k : Nat, r = k := ⟨r.toNat, by omega⟩
    subst hk
    have hk : k < l.length := by omega
    subst hx; subst hy
    exact ⟨enc l[k], rv_ixL (atI_nat (by rw [List.getElem?_map, List.getElem?_eq_getElem hk]; rfl)), l[k], List.getElem_mem hk, rfl⟩
theorem evn_pickT {β : Type} {i : Nat} {f : Addr} {cells : List Int} {j : Nat} (enc : β → PyData) {l : List β} (hv : δ[i]? = some (some (.v (.ref f)))) (hm : (f, .fd cells) ∈ own) (h : EvD K ta δ (.tuple (l.map enc))) (hlen : EvD K tb δ (.int l.length)) (h0 : 0 < l.length) (h1 : l.length ≤ 10000) :
    EvN K (tOp (rIxT K) ta (tCall (SpF K Pre_draw Post_draw) [] E (tCons (tVar i) (tCons tb tNil)))) δ own fun d => ∃ x ∈ l, d = enc x :=
  evn_op (evn_of h) (evn_draw (m := l.length) hv hm (evn_of hlen) (by omega) (by omega)) fun x y hx ⟨r, hy, h3, h4⟩ => by
    obtain ⟨k, hk⟩ : ∃ k : Nat, r = k := ⟨r.toNat, by omega⟩
    subst hk
    have hk : k < l.length := by omega
    subst hx; subst hy
    exact ⟨enc l[k], rv_ixT (atI_nat (by rw [List.getElem?_map, List.getElem?_eq_getElem hk]; rfl)), l[k], List.getElem_mem hk, rfl⟩
/-- a draw, asked whether it is more than nought, or nought -/
theorem evnb_drawGt {i : Nat} {f : Addr} {cells : List Int} {m : Int} (hv : δ[i]? = some (some (.v (.ref f)))) (hm : (f, .fd cells) ∈ own) (h1 : 0 < m) (h2 : m < 1073741824) : EvNB K (tTest (tOp (rI0 fun i j => .bl (decide (j < i))) (tCall (SpF K Pre_draw Post_draw) [] E (tCons (tVar i) (tCons (tC (.int m)) tNil))) (tC (.int 0)))) δ own fun _ => True :=
  evnb_test ((evn_op (P1 := fun d => ∃ r : Int, d = .int r ∧ 0 ≤ r ∧ r < m) (P2 := (· = .int 0)) (P := fun d => ∃ b, d = .bool b ∧ True) (evn_draw (cells := cells) hv hm (evn_of ev_int) h1 h2) (evn_of ev_int) fun x y ⟨r, hx, _, _⟩ hy => ⟨.bool (decide (0 < r)), by rw [hx, hy]; exact rv_I0 fun _ => .bl _, _, rfl, trivial⟩))
theorem evnb_drawEq {i : Nat} {f : Addr} {cells : List Int} {m c : Int} (hv : δ[i]? = some (some (.v (.ref f)))) (hm : (f, .fd cells) ∈ own) (h1 : 0 < m) (h2 : m < 1073741824) : EvNB K (tTest (tOp (rEqP K) (tCall (SpF K Pre_draw Post_draw) [] E (tCons (tVar i) (tCons (tC (.int m)) tNil))) (tC (.int c)))) δ own fun _ => True :=
  evnb_test (evn_op (P1 := fun d => ∃ r : Int, d = .int r ∧ 0 ≤ r ∧ r < m) (P2 := (· = .int c)) (P := fun d => ∃ b, d = .bool b ∧ True) (evn_draw (cells := cells) hv hm (evn_of ev_int) h1 h2) (evn_of ev_int) fun x y ⟨r, hx, _, _⟩ hy => ⟨.bool (decide (r = c)), by
    rw [hx, hy]
    exact fun hs H v u hh r1 r2 Q q => ⟨.int r, .int c, r1.full.dp rfl, r2.full.dp rfl, rfl, rfl, by simp [PyData.depth], by
      have e : PyData.eqv (.int r) (.int c) = decide (r = c) := by show (r == c) = _; by_cases z : r = c <;> simp [z]
      rw [e]; exact q _ H Ex.rfl (.bl _)⟩, _, rfl, trivial⟩)
theorem runO_par3L {i j l : Nat} (ha : EvD K ta δ x) (hb : EvD K tb δ y) (k : ∀ a, a ∉ ads own → O.nx (((δ.set i (some (.d x))).set j (some (.d y))).set l (some (.v (.ref a)))) ((a, .l []) :: own)) :
    RunO K (tPar3 i j l (tCons ta (tCons tb (tCons (tLst tNil) tNil)))) δ own O := fun hs Z H0 D σ H b S f =>
  ha _ σ H S.hid S.sl _ fun v H1 e1 r1 => hb _ σ H1 (S.mono e1).hid (S.mono e1).sl _ fun u H2 e2 r2 => ⟨Nat.zero_le _, fun p hp => by
    have S2 := (S.mono e1).mono e2
    have S3 := S2.new (o' := .lst []) (c := .l []) hp (okl upd_same .nil)
    have eN : Ex (cut (ads own ++ hs) H2) (cut (ads ((p, OC.l []) :: own) ++ hs) (L2.upd H2 p (.lst []))) := fun a o2 h => by
      show cut (p :: (ads own ++ hs)) (L2.upd H2 p (.lst [])) a = some o2
      rw [cut_new hp]; exact h
    exact ⟨v, u, .ref p, rfl, f.1 _ _ _ _ (k p fun z => S2.hid p (List.mem_append_left _ z) hp) (((b.ex e1).ex e2).new hp) (((S3.set i (sd := .d x) (R.mono eN (R.mono e2.cut r1))).set j (sd := .d y) (R.mono eN r2)).set l (sd := .v (.ref p)) rfl)⟩⟩
theorem runO_parN {i j : Nat} (ha : EvN K ta δ own P) (hb : EvD K tb δ y) (k : ∀ x, P x → O.nx ((δ.set i (some (.d x))).set j (some (.d y))) own) : RunO K (tPar i j (tCons ta (tCons tb tNil))) δ own O := fun hs Z H0 D σ H b S f =>
  ha hs σ H S _ fun v H1 x hx e1 S1 r1 => hb _ σ H1 S1.hid S1.sl _ fun u H2 e2 r2 => ⟨v, u, rfl, f.1 _ _ _ _ (k x hx) ((b.mono e1).ex e2) (((S1.mono e2).set i (sd := .d x) (R.mono e2.cut r1)).set j (sd := .d y) r2)⟩
theorem run__law_way (f : Addr) (cells : List Int) (ds : List PyData) (h : Pre_way ds) : RunO K (t__law_way K) (some (.v (.ref f)) :: ds.map (fun d => some (.d d)) ++ List.replicate (N__law_way.length - (ds.length + 1)) none) [(f, .fd cells)] (outF f cells (Post_way ds)) := by
  obtain ⟨ws, t, m, hW, ⟨W, hws, ht1, ht2, ht3⟩, hm, rfl⟩ := h
  let kds : KDs := t.1.map fun r => ((.inl r.1 : Key), eEnt r.2.2)
  have hkn : (kds.map (·.1)).Nodup := by
    show ((t.1.map fun r => ((.inl r.1 : Key), eEnt r.2.2)).map (·.1)).Nodup
    rw [List.map_map]
    have : ((fun x => x.1) ∘ fun r : Row => ((Sum.inl r.1 : Key), eEnt r.2.2)) = (Sum.inl : Int → Key) ∘ fun r => r.1 := rfl
    rw [this, ← List.map_map]
    exact List.pairwise_map.mpr (W.nodup.imp fun hab he => hab (Sum.inl.inj he))
  have hlk : ∀ n : Int, ∃ e : Ent, (lkK kds (.inl n)).getD (.tuple []) = eEnt e ∧ (∀ p ∈ e, p.1 ∈ ws) ∧ e.length ≤ 8 := fun n => by
    cases q : lkK kds (.inl n) with
    | none => exact ⟨[], rfl, fun p hp => (by cases hp), Nat.zero_le _⟩
    | some d =>
      unfold lkK at q
      cases q2 : kds.find? fun p => decide (p.1 = .inl n) with
      | none => rw [q2] at q; cases q
      | some p =>
        rw [q2] at q
        cases q
        obtain ⟨r, hr, e⟩ := List.mem_map.mp (List.mem_of_find?_eq_some q2)
        exact ⟨r.2.2, by rw [← e]; rfl, hws r hr, ht2 r hr⟩
  refine runO_seq (runO_par3L (x := eKD kds) (y := .int 0) (ev_dictL (kds := kds) ((ev_lcT eRow (fun _ => true) (fun r => .tuple [.int r.1, eEnt r.2.2]) (bs := t.1) (by trivial) (by omega) fun r hr => ⟨_, eg_name (by simp), eb_yes, fun _ => ev_tup (ea_cons (ev_ixT (ds := [_, _, _]) (ev_var rfl) ev_int rfl) (ea_cons (ev_ixT (ds := [_, _, _]) (ev_var rfl) ev_int rfl) ea_nil)) (by trivial)⟩).to ?_) hkn) ev_int fun A hA => ?_)
  · rw [List.filter_eq_self.mpr fun _ _ => rfl]
    show _ = PyData.list ((t.1.map fun r => ((.inl r.1 : Key), eEnt r.2.2)).map _)
    rw [List.map_map]; rfl
  have hAf : A ≠ f := fun z => hA (by rw [z]; exact List.mem_cons_self)
  let ow : List Str → Own := fun w => [(A, .l ((w.map PyData.str).map .d)), (f, .fd cells)]
  let pre : Int → Dl := fun here => [some (.v (.ref f)), some (.d (eTree t)), some (.d (.list (ws.map .str))), some (.d (.int m)), some (.d (eKD kds)), some (.d (.int here)), some (.v (.ref A)), none, none, none, none]
  have ret : ∀ (x0 x1 x2 x3 x4 x5 x7 x8 x9 xa : Option SD) (w : List Str), (∀ x ∈ w, x ∈ ws) → w.length ≤ 4 → m ≤ w.length → RunO K (tRet (tCB (rTupF K) (tCons (tVar 6) (tNil)))) [x0, x1, x2, x3, x4, x5, some (.v (.ref A)), x7, x8, x9, xa] (ow w) (outF f cells (Post_way [eTree t, .list (ws.map .str), .int m])) := fun x0 x1 x2 x3 x4 x5 x7 x8 x9 xa w h1 h2 h3 =>
    runO_ret (own := [(A, .l ((w.map PyData.str).map .d))]) (fs := [(f, .fd cells)]) (δ' := [x0, x1, x2, x3, x4, x5, some (.d (.list (w.map .str))), x7, x8, x9, xa]) (.keep (.keep (.keep (.keep (.keep (.keep (.o (.l List.mem_cons_self (ODs.all _ _)) (.keep (.keep (.keep (.keep .nil))))))))))) (ev_tuple (ds := w.map .str) (ev_var rfl)) ⟨.inl rfl, ws, w, eTree t, m, rfl, h1, h2, h3, rfl⟩
  have rng : EvN K (tCB rMax2 (tCons (tVar 3) (tCons (tCall (SpF K Pre_draw Post_draw) [] E0 (tCons (tVar 0) (tCons (tC (.int 5)) (tNil)))) (tNil)))) (pre 0) (ow []) fun d => ∃ r : Int, d = .int r ∧ (m : Int) ≤ r ∧ r ≤ 4 :=
    evn_cb (PA := fun ds => ∃ r : Int, ds = [.int m, .int r] ∧ 0 ≤ r ∧ r < 5) (evna_cons (evn_of (d := .int m) (ev_var rfl)) (evna_one (evn_draw (m := 5) (cells := cells) rfl (List.mem_cons_of_mem _ List.mem_cons_self) (evn_of ev_int) (by decide) (by decide))) fun d ds hd ⟨d2, hds, r, hr, h3, h4⟩ => ⟨r, by rw [hd, hds, hr], h3, h4⟩) fun ds ⟨r, hds, h3, h4⟩ => ⟨.int (if r > m then r else m), by
      subst hds
      exact fun hs H vs hh ra Q q => by
        obtain ⟨v, u, rfl, r1, r2⟩ := ra.two
        cases r1; cases r2
        exact ⟨m, r, rfl, q _ H Ex.rfl (.int _)⟩, _, rfl, by split <;> omega, by split <;> omega⟩
  show RunO K _ (pre 0) (ow []) _
  refine runO_seq (runO_forRng (PN := fun n => m ≤ n ∧ n ≤ 4) ((evna_one rng).imp2 fun ds h => ?_) (fun n hn => by omega) fun n hn => ?_)
  · obtain ⟨d, hd, r, hr, h3, h4⟩ := h
    exact ⟨r.toNat, by rw [hd, hr, show ((r.toNat : Nat) : Int) = r by omega], by omega, by omega⟩
  refine runO_for (wlk_rng [8] (n := n) (by trivial) (by omega)) (fun i δa oa => ∃ w here, δa = pre here ∧ oa = ow w ∧ w.length = i ∧ ∀ x ∈ w, x ∈ ws) ⟨pre 0, by repeat constructor, [], 0, rfl, rfl, rfl, fun x hx => by cases hx⟩ ?_ ?_
  · rintro i hi δa oa ⟨w, here, rfl, rfl, hl, hw⟩
    obtain ⟨e, he, hews, hel⟩ := hlk here
    refine ⟨_, eg_name (by simp), ?_⟩
    refine runO_letD (x := eEnt e) (ev_get2 (k := .inl here) (kds := kds) (by trivial) (by trivial) (ev_tup ea_nil (by trivial))) he ?_
    let δ2 : Dl := [some (.v (.ref f)), some (.d (eTree t)), some (.d (.list (ws.map .str))), some (.d (.int m)), some (.d (eKD kds)), some (.d (.int here)), some (.v (.ref A)), none, some (.d (.int i)), some (.d (eEnt e)), none]
    have hmf : ((f, OC.fd cells) : Addr × OC) ∈ ow w := List.mem_cons_of_mem _ List.mem_cons_self
    show RunO K _ δ2 (ow w) _
    refine runO_seq (runO_if (evnb_and (PB := fun b => b = e.isEmpty) (PB2 := fun b => b = true → (m : Int) ≤ i) (evnb_of (EvB.to (eb_test (ev_eqT0 (ds := e.map encE) (by trivial) (by trivial) (noD_eEnt e))) (by rw [List.isEmpty_map]))) (fun _ => evnb_and (PB := fun b => b = decide ((m : Int) ≤ i)) (evnb_of (eb_test (ev_ge (i := i) (j := m) (by trivial) (by trivial)))) (fun q => (evnb_drawGt (cells := cells) (m := 4) rfl hmf (by decide) (by decide)).imp fun _ _ _ => of_decide_eq_true q.symm) fun _ z => by cases z) fun _ z => by cases z) (fun q => runO_break ?_) fun _ => runO_next ?_)
    · have := q rfl
      exact ret _ _ _ _ _ _ _ _ _ _ w hw (by omega) (by omega)
    · have app : ∀ (x : Str) (h' : Int) (x8 x9 : Option SD), x ∈ ws → RunO K (tDrop (tBM K "list" rAppend (tVar 6) (tCons (tVar 10) (tNil)))) [some (.v (.ref f)), some (.d (eTree t)), some (.d (.list (ws.map .str))), some (.d (.int m)), some (.d (eKD kds)), some (.d (.int h')), some (.v (.ref A)), none, x8, x9, some (.d (.str x))] (ow w) (outI { nx := fun δ' own' => RunO K (tRet (tCB (rTupF K) (tCons (tVar 6) (tNil)))) δ' own' (outF f cells (Post_way [eTree t, .list (ws.map .str), .int m])), bk := (outF f cells (Post_way [eTree t, .list (ws.map .str), .int m])).bk, rt := (outF f cells (Post_way [eTree t, .list (ws.map .str), .int m])).rt } fun δa oa => ∃ w here, δa = pre here ∧ oa = ow w ∧ w.length = i + 1 ∧ ∀ x ∈ w, x ∈ ws) := fun x h' x8 x9 hx => by
        refine runO_appendS (i := 6) (a := A) (d := .str x) rfl List.mem_cons_self (by rw [List.length_map, List.length_map]; omega) (by trivial) ?_
        show ∃ δ2, Wk _ δ2 ∧ _
        refine ⟨pre h', by repeat constructor, w ++ [x], h', rfl, ?_, by simp [hl], fun y hy => ?_⟩
        · show repl ((A, _) :: (f, _) :: []) A _ = _
          rw [repl_hd, repl_tl hAf.symm, repl_nil]
          simp [ow]
        · rcases List.mem_append.mp hy with h | h
          · exact hw y h
          · rw [List.mem_singleton.mp h]; exact hx
      refine runO_seq (runO_if (evnb_and (PB := fun b => b = !e.isEmpty) (PB2 := fun b => b = true → e ≠ []) (evnb_of (EvB.to (eb_test (ev_neT0 (ds := e.map encE) (by trivial) (by trivial) (noD_eEnt e))) (by rw [List.isEmpty_map]))) (fun q => (evnb_drawGt (cells := cells) (m := 5) rfl hmf (by decide) (by decide)).imp fun _ _ _ z => by subst z; cases q) fun _ z => by cases z) (fun q => ?_) fun _ => ?_)
      · have hne := q rfl
        have hpos : 0 < e.length := List.length_pos_iff.mpr hne
        refine runO_asgG [10, 5] (evn_pickT (j := 0) (cells := cells) encE (l := e) rfl hmf (by trivial) ((ev_lenT (ds := e.map encE) (by trivial)).to (by rw [List.length_map])) hpos (by omega)) fun d hd => ?_
        obtain ⟨p, hp, rfl⟩ := hd
        exact ⟨_, eg_tup (ds := [.str p.1, .int p.2]) (egs_cons (eg_name (by simp)) (egs_cons (eg_name (by simp)) egs_nil)) rfl, app p.1 p.2 _ _ (hews p hp)⟩
      · have h2 := hW.two
        have h8 := hW.eight
        refine runO_parN (y := .int (-1)) (evn_pickL (j := 0) (cells := cells) PyData.str (l := ws) rfl hmf (by trivial) ((ev_lenL (ds := ws.map .str) (by trivial)).to (by rw [List.length_map])) (by omega) (by omega)) (ev_neg ev_int) fun x ⟨z, hz, hx⟩ => ?_
        subst hx
        exact app z (-1) _ _ hz
  · rintro δa oa ⟨w, here, rfl, rfl, hl, hw⟩
    exact ret _ _ _ _ _ _ _ _ _ _ w hw (by omega) (by omega)
end
end Dw
set_option Elab.async false
set_option linter.all false
set_option maxRecDepth 100000
set_option maxHeartbeats 1000000
/-! Readings of the builders: deeds. -/
namespace Dw
open PySem PySem.Spec PyProof.Rows L2
local macro_rules | `(tactic| trivial) => `(tactic| repeat' (first
  | exact ev_var rfl
  | exact ev_int
  | exact ev_str
  | exact ev_non
  | exact ev_bl
  | exact ea_nil
  | exact eo_none
  | exact eb_yes
  | apply ea_cons
  | apply eo_some
  | apply eb_B
  | apply eb_test
  | apply eb_not
  | apply eb_or
  | apply eb_and
  | apply ev_andV
  | apply ev_orV
  | apply ev_notV
  | apply ev_isN
  | apply ev_notN
  | apply isi_ii
  | apply isi_ib
  | apply isi_tt
  | apply isi_ss
  | apply ev_ixT
  | apply ev_slT
  | apply ev_add
  | apply ev_sub
  | apply ev_neg
  | apply ev_lt
  | apply ev_le
  | apply ev_gt
  | apply ev_ge
  | apply ev_ltS
  | apply ev_lenG
  | apply ev_lenD
  | apply ev_tuple
  | apply ev_tup
  | apply ev_lst
  | apply ev_all
  | apply ev_catT
  | apply ev_is_number
  | apply ev_is_name
  | apply ev_is_entry
  | apply ev_are_entries
  | apply ev_is_row
  | apply ev_row_of
  | apply ev_kind_of
  | apply ev_entries_of
  | apply ev_way
  | apply ev_above
  | exact LenD.tup
  | exact LenD.lst
  | rfl
  | assumption
  | exact Nat.le_of_ble_eq_true rfl
  | with_reducible intro _))
section
variable {K : PySem.W.Frag} {δ δ1 : Dl} {own : Own} {O : OutO} {ts us : TS} {tl tk ty tv td : TE} {tA : TA} {E : XK} {t : Tree} {te ta tb : TE} {n m : Int} {d x y : PyData} {P P2 : PyData → Prop}
theorem rv_catT {ds es : List PyData} (hz : ds.length + es.length ≤ 10000) : RV K (rCatF K) (.tuple ds) (.tuple es) (.tuple (ds ++ es)) := fun hs H v u hh r1 r2 Q q => by
  cases r1 with
  | @tup a xs _ hp ra =>
    cases r2 with
    | @tup b ys _ hp2 ra2 =>
      refine ⟨a, b, xs, ys, rfl, rfl, hp.full.sq, hp2.full.sq, ?_, fun e => ?_, fun _ e => ?_, fun _ _ => new_R hh (ra.append ra2) q⟩
      · rw [ra.length, ra2.length]; exact Nat.le_trans hz (by decide)
      · subst e
        cases ra
        exact q _ H Ex.rfl (.tup hp2 ra2)
      · subst e
        cases ra2
        rw [List.append_nil] at q
        exact q _ H Ex.rfl (.tup hp ra)
theorem runO_parNN {i j : Nat} (ha : EvN K ta δ own P) (hb : EvN K tb δ own P2) (k : ∀ x y, P x → P2 y → O.nx ((δ.set i (some (.d x))).set j (some (.d y))) own) : RunO K (tPar i j (tCons ta (tCons tb tNil))) δ own O := fun hs Z H0 D σ H b S f =>
  ha hs σ H S _ fun v H1 x hx e1 S1 r1 => hb hs σ H1 S1 _ fun u H2 y hy e2 S2 r2 => ⟨v, u, rfl, f.1 _ _ _ _ (k x y hx hy) ((b.mono e1).mono e2) ((S2.set i (sd := .d x) (R.mono e2.cut r1)).set j (sd := .d y) r2)⟩
theorem evn_way {i : Nat} {f : Addr} {cells : List Int} {ws : List Str} {t : Tree} {m : Nat} (hv : δ[i]? = some (some (.v (.ref f)))) (hm : (f, .fd cells) ∈ own) (h : EvA K tA δ [eTree t, .list (ws.map .str), .int m]) (hW : WordsOk ws) (hT : TreeOk ws t) (h1 : m ≤ 1) :
    EvN K (tCall (SpF K Pre_way Post_way) [] E (tCons (tVar i) tA)) δ own fun d => ∃ w : List Str, d = eWay w ∧ (∀ x ∈ w, x ∈ ws) ∧ w.length ≤ 4 ∧ m ≤ w.length :=
  evn_callF hv hm (evna_of h) (fun ds hd => ⟨ws, t, m, hW, hT, h1, hd⟩) fun ds d hd ⟨ws', w, t', m', e, q1, q2, q3, q4⟩ => by
    rw [hd] at e
    injection e with e1 e2
    injection e2 with e3 e4
    have e5 : ws = ws' := by
      have := PyData.list.inj e3
      exact (List.map_inj_right (fun a b h => PyData.str.inj h)).mp this
    have e6 : (m : Int) = m' := by
      injection e4 with e7 _
      exact PyData.int.inj e7
    subst e5
    exact ⟨w, q4, q1, q2, by omega⟩
theorem run__law_deed (f : Addr) (cells : List Int) (ds : List PyData) (h : Pre_deed ds) : RunO K (t__law_deed K) (some (.v (.ref f)) :: ds.map (fun d => some (.d d)) ++ List.replicate (N__law_deed.length - (ds.length + 1)) none) [(f, .fd cells)] (outF f cells (Post_deed ds)) := by
  obtain ⟨ws, t, hW, hT, rfl⟩ := h
  have h2 := hW.two
  have h8 := hW.eight
  have fin : ∀ (dd : Deed), DeedIn ws dd → (outF f cells (Post_deed [eTree t, .list (ws.map .str)])).rt [(f, .fd cells)] (eDeed dd) := fun dd h => ⟨.inl rfl, ws, eTree t, dd, rfl, h, rfl⟩
  have wlen : ∀ {δ : Dl}, δ[2]? = some (some (.d (.list (ws.map PyData.str)))) → EvD K (tCB (rLenAny K) (tCons (tVar 2) tNil)) δ (.int ws.length) := fun h => (ev_lenL (ds := ws.map .str) (ev_var h)).to (by rw [List.length_map])
  have pick : ∀ {δ : Dl}, δ[0]? = some (some (.v (.ref f))) → δ[2]? = some (some (.d (.list (ws.map PyData.str)))) → EvN K (tOp (rIxL K) (tVar 2) (tCall (SpF K Pre_draw Post_draw) [] E0 (tCons (tVar 0) (tCons (tCB (rLenAny K) (tCons (tVar 2) (tNil))) (tNil))))) δ [(f, .fd cells)] fun d => ∃ x ∈ ws, d = .str x := fun h0 h1 => evn_pickL (j := 0) (cells := cells) PyData.str (l := ws) h0 List.mem_cons_self (ev_var h1) (wlen h1) (by omega) (by omega)
  refine runO_seq (runO_asg (evn_pickL (j := 0) (cells := cells) PyData.str (l := ["look", "list", "make", "drop", "link", "move", "swap", "move", "make"]) rfl List.mem_cons_self (ev_lst (by trivial) (by trivial)) ev_int (by decide) (by decide)) fun d hd => ?_)
  obtain ⟨x, hx, rfl⟩ := hd
  have hm : ∃ m : Nat, m ≤ 1 ∧ (m = 0 → x = "look" ∨ x = "list") ∧ EvD K (tCB (rInt1) (tCons (tOp (rIn K true) (tVar 3) (tTupF (tCons (tC (.str ("look" : Str))) (tCons (tC (.str ("list" : Str))) (tNil))))) (tNil))) [some (.v (.ref f)), some (.d (eTree t)), some (.d (.list (ws.map .str))), some (.d (.str x)), none, none, none, none] (.int m) := by
    have e1 := ev_intB (K := K) (δ := [some (.v (.ref f)), some (.d (eTree t)), some (.d (.list (ws.map .str))), some (.d (.str x)), none, none, none, none]) (ev_inTS (i := x) (is := ["look", "list"]) (neg := true) (ta := tVar 3) (tb := tTupF (tCons (tC (.str ("look" : Str))) (tCons (tC (.str ("list" : Str))) (tNil)))) (by trivial) (ev_tup (by trivial) (by trivial)))
    by_cases q : x ∈ [("look" : Str), "list"]
    · exact ⟨0, by decide, fun _ => by simpa using q, e1.to (by rw [decide_eq_true q]; rfl)⟩
    · exact ⟨1, by decide, fun z => (by cases z), e1.to (by rw [decide_eq_false q]; rfl)⟩
  obtain ⟨m, hm1, hm0, hme⟩ := hm
  refine runO_seq (runO_asg (evn_way (cells := cells) (m := m) rfl List.mem_cons_self (ea_cons (by trivial) (ea_cons (by trivial) (ea_cons hme ea_nil))) hW hT hm1) fun d hd => ?_)
  obtain ⟨a, rfl, ha, ha4, ham⟩ := hd
  let st0 : Dl := [some (.v (.ref f)), some (.d (eTree t)), some (.d (.list (ws.map .str))), some (.d (.str x)), some (.d (eWay a)), none, none, none]
  show RunO K _ st0 _ _
  have wIn : WayIn ws a := ⟨ha, by omega⟩
  have e3 : EvB K (tTest (tOp (rIn K false) (tVar 3) (tTupF (tCons (tC (.str ("look" : Str))) (tCons (tC (.str ("list" : Str))) (tCons (tC (.str ("drop" : Str))) (tNil))))))) st0 (decide (x ∈ [("look" : Str), "list", "drop"])) := eb_test (ev_inTS (i := x) (is := ["look", "list", "drop"]) (neg := false) (by trivial) (ev_tup (by trivial) (by trivial)))
  by_cases c1 : x ∈ [("look" : Str), "list", "drop"]
  · refine runO_take (evnb_of (e3.to (decide_eq_true c1))) (runO_retN (evn_of (d := .tuple [.str x, eWay a]) (ev_tup (by trivial) (by trivial))) fun d hd => ?_)
    subst hd
    have c1' : x = "look" ∨ x = "list" ∨ x = "drop" := by simpa using c1
    rcases c1' with rfl | rfl | rfl
    · exact fin (.look a) wIn
    · exact fin (.list a) wIn
    · refine fin (.drop a) ⟨wIn, fun z => ?_⟩
      have : m ≠ 0 := fun z => by rcases hm0 z with q | q <;> exact absurd q (by decide)
      rw [z] at ham
      simp at ham; omega
  refine runO_skip (evnb_of (e3.to (decide_eq_false c1))) ?_
  have hane : a ≠ [] := fun z => by
    have : m ≠ 0 := fun z => c1 (by rcases hm0 z with q | q <;> simp [q])
    rw [z] at ham
    simp at ham; omega
  have apos := List.length_pos_iff.mpr hane
  by_cases c2 : x = "make"
  · subst c2
    refine runO_take (evnb_of (EvB.to (eb_test (ev_eqS (i := "make") (j := "make") (by trivial) ev_str)) rfl)) ?_
    have e4 : EvN K (tIf (tTest (tOp (rEqP K) (tCall (SpF K Pre_draw Post_draw) [] E0 (tCons (tVar 0) (tCons (tC (.int 3)) (tNil)))) (tC (.int 0)))) (tVar 4) (tOp (rCatF K) (tSl (rSlF K) (tVar 4) (tNoPart) (tPart (tC (.int 3)))) (tTupF (tCons (tOp (rIxL K) (tVar 2) (tCall (SpF K Pre_draw Post_draw) [] E0 (tCons (tVar 0) (tCons (tCB (rLenAny K) (tCons (tVar 2) (tNil))) (tNil))))) (tNil))))) [some (.v (.ref f)), some (.d (eTree t)), some (.d (.list (ws.map .str))), some (.d (.str "make")), some (.d (eWay a)), none, none, none] [(f, .fd cells)] fun d => ∃ w, d = eWay w ∧ WayIn ws w ∧ w ≠ [] :=
      evn_if (evnb_drawEq (cells := cells) (m := 3) rfl List.mem_cons_self (by decide) (by decide)) (fun _ => (evn_of (ev_var rfl)).imp fun d hd => ⟨a, hd, wIn, hane⟩) fun _ =>
        evn_op (P1 := (· = eWay (a.take 3))) (P2 := fun d => ∃ z ∈ ws, d = .tuple [.str z]) (evn_of ((ev_slT (ds := a.map .str) (by trivial) eo_none (eo_some (i := (3 : Nat)) ev_int)).to (by rw [cutD_take, ← List.map_take]; rfl))) (evn_tup (evna_one (pick rfl rfl)) fun ds ⟨d, hds, z, hz, hd⟩ => ⟨by rw [hds]; exact Nat.le_of_ble_eq_true rfl, z, hz, by rw [hds, hd]⟩) fun x y hx ⟨z, hz, hy⟩ => ⟨eWay (a.take 3 ++ [z]), by
          subst hx; subst hy
          exact by
            have := rv_catT (K := K) (ds := (a.take 3).map .str) (es := [.str z]) (by simp; omega)
            unfold eWay
            rw [List.map_append]
            exact this, a.take 3 ++ [z], rfl, ⟨fun y hy => by
          rcases List.mem_append.mp hy with h | h
          · exact ha y (List.mem_of_mem_take h)
          · rw [List.mem_singleton.mp h]; exact hz, by simp; omega⟩, by simp⟩
    refine runO_seq (runO_asg e4 fun d hd => ?_)
    obtain ⟨w, rfl, hw1, hw2⟩ := hd
    refine runO_retN (P := fun d => ∃ k : Str, (k = sD ∨ k = sS) ∧ d = eDeed (.make w k)) (evn_tup (PA := fun ds => ∃ k : Str, (k = sD ∨ k = sS) ∧ ds = [.str "make", eWay w, .str k]) (evna_cons (evn_of (d := .str "make") (ev_var rfl)) (evna_cons (PA2 := fun ds => ∃ k : Str, (k = sD ∨ k = sS) ∧ ds = [eWay w, .str k]) (evn_of (d := eWay w) (ev_var rfl)) (evna_one (evn_pickL (j := 0) (cells := cells) PyData.str (l := ["drawer", "sheet"]) rfl List.mem_cons_self (ev_lst (by trivial) (by trivial)) ev_int (by decide) (by decide))) fun d ds hd ⟨d2, hds, z, hz, hd2⟩ => ⟨z, by simpa [sD, sS] using hz, by rw [hd, hds, hd2]⟩) fun d ds hd ⟨k, hk, hds⟩ => ⟨k, hk, by rw [hd, hds]⟩) fun ds ⟨k, hk, hds⟩ => ⟨by rw [hds]; exact Nat.le_of_ble_eq_true rfl, k, hk, by rw [hds]; rfl⟩) fun d hd => ?_
    obtain ⟨k, hk, rfl⟩ := hd
    exact fin (.make w k) ⟨hw1, hw2, hk⟩
  refine runO_skip (evnb_of (EvB.to (eb_test (ev_eqS (i := x) (j := "make") (by trivial) ev_str)) (decide_eq_false c2))) ?_
  refine runO_seq (runO_parNN (P := fun d => ∃ r : Int, d = .int r ∧ 0 ≤ r ∧ r < 6) (evn_draw (m := 6) (cells := cells) rfl List.mem_cons_self (evn_of ev_int) (by decide) (by decide)) (pick rfl rfl) fun d1 d2 h1 h2 => ?_)
  obtain ⟨v, rfl, _, _⟩ := h1
  obtain ⟨z, hz, rfl⟩ := h2
  refine runO_seq (runO_asg (evn_way (cells := cells) (m := 1) rfl List.mem_cons_self (ea_cons (by trivial) (ea_cons (by trivial) (ea_cons ev_int ea_nil))) hW hT (by decide)) fun d hd => ?_)
  obtain ⟨b0, rfl, hb, hb4, hb1⟩ := hd
  let st : List Str → Dl := fun w => [some (.v (.ref f)), some (.d (eTree t)), some (.d (.list (ws.map .str))), some (.d (.str x)), some (.d (eWay a)), some (.d (.int v)), some (.d (.str z)), some (.d (eWay w))]
  have good0 : WayIn ws b0 ∧ b0 ≠ [] := ⟨⟨hb, by omega⟩, fun q => by rw [q] at hb1; simp at hb1⟩
  have step : ∀ {tt : TT} {te : TE} {us : TS} {O : OutO} {c : Bool} (w w' : List Str), WayIn ws w ∧ w ≠ [] → WayIn ws w' ∧ w' ≠ [] → EvB K tt (st w) c → EvD K te (st w) (eWay w') → (∀ w, WayIn ws w ∧ w ≠ [] → RunO K us (st w) [(f, .fd cells)] O) → RunO K (tSeq (tIfS tt (tAsg te (gName 7)) tNext) us) (st w) [(f, .fd cells)] O := fun {tt te us O c} w w' hw hw' ht he k =>
    runO_seq (runO_if (evnb_of ht) (fun _ => runO_asgD he rfl (k w' hw')) fun _ => runO_next (k w hw))
  have cat : ∀ (u : List Str), (∀ y ∈ u, y ∈ ws) → u.length ≤ 5 → WayIn ws (u ++ [z]) ∧ u ++ [z] ≠ [] := fun u hu hl => ⟨⟨fun y hy => by
    rcases List.mem_append.mp hy with h | h
    · exact hu y h
    · rw [List.mem_singleton.mp h]; exact hz, by simp; omega⟩, by simp⟩
  have evcat : ∀ {δ : Dl} {te : TE} (u : List Str), u.length ≤ 100 → EvD K te δ (eWay u) → δ[6]? = some (some (.d (.str z))) → EvD K (tOp (rCatF K) te (tTupF (tCons (tVar 6) (tNil)))) δ (eWay (u ++ [z])) := fun u hl h h6 => (ev_catT (ds := u.map .str) (es := [.str z]) h (ev_tup (ea_cons (ev_var h6) ea_nil) (by trivial)) (by simp; omega)).to (by unfold eWay; rw [List.map_append]; rfl)
  have take : ∀ {δ : Dl} {te : TE} (u : List Str) (k : Nat), EvD K te δ (eWay u) → EvD K (tSl (rSlF K) te tNoPart (tPart (tC (.int (k : Int))))) δ (eWay (u.take k)) := fun u k h => (ev_slT (ds := u.map .str) h eo_none (eo_some ev_int)).to (by rw [cutD_take, ← List.map_take]; rfl)
  show RunO K _ (st b0) _ _
  have ne4 : (a ++ [z]).take 4 ≠ [] := by cases a with
    | nil => exact absurd rfl hane
    | cons q qs => simp
  refine step b0 ((a ++ [z]).take 4) good0 ⟨⟨fun y hy => (cat a ha (by omega)).1.1 y (List.mem_of_mem_take hy), by rw [List.length_take]; omega⟩, ne4⟩ (eb_test (ev_eqI (i := v) (j := 0) (by trivial) ev_int)) (take (a ++ [z]) 4 (evcat a (by omega) (by trivial) rfl)) fun w hw => ?_
  refine step w (a.dropLast ++ [z]) hw (cat a.dropLast (fun y hy => ha y (List.dropLast_subset a hy)) (by rw [List.length_dropLast]; omega)) (eb_test (ev_eqI (i := v) (j := 1) (by trivial) ev_int)) (evcat a.dropLast (by rw [List.length_dropLast]; omega) ((ev_slT (ds := a.map .str) (by trivial) eo_none (eo_some (ev_neg ev_int))).to (by rw [cutD_dropLast, ← List.map_dropLast]; rfl)) rfl) fun w hw => ?_
  refine step w a hw ⟨wIn, hane⟩ (eb_test (ev_eqI (i := v) (j := 2) (by trivial) ev_int)) (ev_var rfl) fun w hw => ?_
  refine step w (w.take 3 ++ [z]) hw (cat (w.take 3) (fun y hy => hw.1.1 y (List.mem_of_mem_take hy)) (by rw [List.length_take]; omega)) (eb_test (ev_gt (i := v) (j := 3) (by trivial) ev_int)) (evcat (w.take 3) (by rw [List.length_take]; omega) (take w 3 (by trivial)) rfl) fun w hw => ?_
  refine runO_retN (evn_of (d := .tuple [.str x, eWay a, eWay w]) (ev_tup (by trivial) (by trivial))) fun d hd => ?_
  subst hd
  have c3 : x = "link" ∨ x = "move" ∨ x = "swap" := by
    simp only [List.mem_cons, List.not_mem_nil, or_false, not_or] at hx c1
    rcases hx with h | h | h | h | h | h | h | h | h
    · exact absurd h c1.1
    · exact absurd h c1.2.1
    · exact absurd h c2
    · exact absurd h c1.2.2
    · exact .inl h
    · exact .inr (.inl h)
    · exact .inr (.inr h)
    · exact .inr (.inl h)
    · exact absurd h c2
  rcases c3 with rfl | rfl | rfl
  · exact fin (.link a w) ⟨⟨wIn, hane⟩, hw⟩
  · exact fin (.move a w) ⟨⟨wIn, hane⟩, hw⟩
  · exact fin (.swap a w) ⟨⟨wIn, hane⟩, hw⟩
end
end Dw
set_option Elab.async false
set_option maxRecDepth 100000
namespace Dw
open PySem PySem.Spec PyProof.Rows L2
/-- a thing of the top, by name -/
theorem pe_gr {X : Cx} {x : Str} {pos : Pos} {v : V} (hg : Gl X x) (h : ∃ u, X.mg x = some u ∧ RelV v u) (hd : (x == ("__debug__" : Str)) = false := by decide) : PE X (.Name x pos) (tC v) := let ⟨_, h1, h2⟩ := h; pe_glob hg h1 h2 hd
end Dw
set_option Elab.async false
set_option linter.all false
set_option maxRecDepth 100000
set_option maxHeartbeats 600000
namespace Dw
open PySem PySem.Spec PyProof.Rows L2
section
variable {P : Program} {w : World} {K : PySem.W.Frag} {mg : Str → Option Value} {base : Heap} {f : Addr} {cdv : Value} {A : Around} {outer : List Env} {s : Shared} {H : Hp} {E : XK}
abbrev N_done : List Str := ["tree", "deed", "word", "rest", "does"]
theorem sc_done : FnScope N_done ["tree", "deed"] (defScope s_done) := ⟨rfl, rfl, rfl, by decide +kernel, rfl, by decide +kernel, by decide +kernel⟩
def t_done (K : PySem.W.Frag) (w : World) (wa : Addr) (S : Addr → Option Sp) : TS :=
    tSeq (tAsg (tVar 1) (gStar K (gName 2) (gName 3)))
    (tSeq (tAsg (tOp (rIxD K w) (tC (.ref wa)) (tVar 2)) (gName 4))
    (tRet (tIf (tTest (tOp (rEqP K) (tCB (rLenAny K) (tCons (tVar 3) (tNil))) (tC (.int 1)))) (tCallA 4 S (tCons (tVar 0) (tCons (tOp (rIxL K) (tVar 3) (tC (.int 0))) (tNil)))) (tCallA 4 S (tCons (tVar 0) (tCons (tOp (rIxL K) (tVar 3) (tC (.int 0))) (tCons (tOp (rIxL K) (tVar 3) (tC (.int 1))) (tNil))))))))
theorem wk_done (B : Bs mg) (wa : Addr) (hW : ∃ u, mg "WORDS" = some u ∧ RelV (.ref wa) u) (S : Addr → Option Sp) (hA : ∀ f sp, S f = some sp → Held P w K mg base 7 f sp)  (hr : Room 7 (A.deeper (envOfC "done" (defScope s_done) s.heap.objs.size f cdv))) :
    PSs (cxOf CX0 P w K mg base N_done "done" (defScope s_done) f cdv A outer s H E).nox (defBody s_done) (t_done K w wa S) := by
  exact (pss_cons (ps_asg (pv 1) (pg_star rfl (pg_name (i := 2) sc_done.nd rfl (by first | exact Or.inl rfl | exact Or.inr rfl)) (pg_name (i := 3) sc_done.nd rfl (by first | exact Or.inl rfl | exact Or.inr rfl))))
      (pss_cons (ps_set (i := 4) sc_done.nd rfl (by first | exact Or.inl rfl | exact Or.inr rfl) (pe_ix ix_kdict (pe_gr (v := .ref wa) (by rfl) hW) (pv 2) (fun _ _ => rfl)))
      (pss_one (ps_ret (pe_ifExp (pt_cmpR (op_eqP hr.units) (pe_callB call_len (by rfl) B.len_ (by decide +kernel) (pa_cons (pv 3) (pa_nil))) (pe_int) (nomark _)) (pe_callA (i := 4) hA (hr.mono (by decide)) rfl (Or.inl rfl) (pa_cons (pv 0) (pa_cons (pe_ix ix_list (pv 3) (pe_int) (fun _ _ => rfl)) (pa_nil)))) (pe_callA (i := 4) hA (hr.mono (by decide)) rfl (Or.inl rfl) (pa_cons (pv 0) (pa_cons (pe_ix ix_list (pv 3) (pe_int) (fun _ _ => rfl)) (pa_cons (pe_ix ix_list (pv 3) (pe_int) (fun _ _ => rfl)) (pa_nil))))))))))
end
end Dw
set_option Elab.async false
set_option linter.all false
set_option maxRecDepth 100000
set_option maxHeartbeats 1000000
/-! The reading of done. -/
namespace Dw
open PySem PySem.Spec PyProof.Rows L2
local macro_rules | `(tactic| trivial) => `(tactic| repeat' (first
  | exact ev_var rfl
  | exact ev_int
  | exact ev_str
  | exact ev_non
  | exact ev_bl
  | exact ea_nil
  | exact eo_none
  | exact eb_yes
  | apply ea_cons
  | apply eo_some
  | apply eb_B
  | apply eb_test
  | apply eb_not
  | apply eb_or
  | apply eb_and
  | apply ev_andV
  | apply ev_orV
  | apply ev_notV
  | apply ev_isN
  | apply ev_notN
  | apply isi_ii
  | apply isi_ib
  | apply isi_tt
  | apply isi_ss
  | apply ev_ixT
  | apply ev_slT
  | apply ev_add
  | apply ev_sub
  | apply ev_neg
  | apply ev_lt
  | apply ev_le
  | apply ev_gt
  | apply ev_ge
  | apply ev_ltS
  | apply ev_lenG
  | apply ev_lenD
  | apply ev_tuple
  | apply ev_tup
  | apply ev_lst
  | apply ev_all
  | apply ev_catT
  | apply ev_is_number
  | apply ev_is_name
  | apply ev_is_entry
  | apply ev_are_entries
  | apply ev_is_row
  | apply ev_row_of
  | apply ev_kind_of
  | apply ev_entries_of
  | apply ev_way
  | apply ev_above
  | exact LenD.tup
  | exact LenD.lst
  | rfl
  | assumption
  | exact Nat.le_of_ble_eq_true rfl
  | with_reducible intro _))
section
variable {K : PySem.W.Frag} {w : World} {wa : Addr} {S : Addr → Option Sp} {δ δ1 : Dl} {ts us : TS} {tA : TA} {te : TE} {d : PyData} {o : Out}
theorem ev_callA {P : List PyData → PyData → Prop} {i : Nat} {f : Addr} {ds : List PyData} (hv : δ[i]? = some (some (.v (.ref f)))) (hS : S f = some (SpD K P)) (h : EvA K tA δ ds) (hP : P ds d) : EvD K (tCallA i S tA) δ d := fun hs σ H hh Sl Q q => by
  obtain ⟨v, h1, h2⟩ := Sl.at_ i _ hv
  have e : v = .ref f := h2
  subst e
  exact ⟨f, _, h1, hS, h hs σ H hh Sl _ fun vs H2 e2 r2 => ⟨hs, ds, d, hh.mono e2, r2, hP, fun v H3 e3 r3 => q v H3 (e2.trans e3) r3⟩⟩
theorem run_word {i j : Nat} {x : Str} {v : V} (h : δ[i]? = some (some (.d (.str x)))) (hk : KDct K w wa x v) (r : RunD K us (δ.set j (some (.v v))) o) : RunD K (tSeq (tAsg (tOp (rIxD K w) (tC (.ref wa)) (tVar i)) (gName j)) us) δ o := run_seq (δ1 := δ.set j (some (.v v))) (fun hs D σ H hh S f => by
  obtain ⟨u, h1, h2⟩ := S.at_ i _ h
  have h2' : R K (cut hs H) u (.str x) := h2
  cases h2'
  exact ⟨_, h1, wa, x, v, rfl, rfl, hk, f _ H Ex.rfl (S.set j (d := .v v) rfl)⟩) r
/-- the words' defs -/
structure Words (K : PySem.W.Frag) (w : World) (wa : Addr) (S : Addr → Option Sp) : Prop where
  look : ∃ f, KDct K w wa "look" (.ref f) ∧ S f = some (SpD K P_do_look)
  list : ∃ f, KDct K w wa "list" (.ref f) ∧ S f = some (SpD K P_do_list)
  make : ∃ f, KDct K w wa "make" (.ref f) ∧ S f = some (SpD K P_do_make)
  drop : ∃ f, KDct K w wa "drop" (.ref f) ∧ S f = some (SpD K P_do_drop)
  link : ∃ f, KDct K w wa "link" (.ref f) ∧ S f = some (SpD K P_do_link)
  move : ∃ f, KDct K w wa "move" (.ref f) ∧ S f = some (SpD K P_do_move)
  swap : ∃ f, KDct K w wa "swap" (.ref f) ∧ S f = some (SpD K P_do_swap)
theorem run_done (hw : Words K w wa S) (ds : List PyData) (d : PyData) (h : P_done ds d) : RunD K (t_done K w wa S) (ds.map (fun d => some (.d d)) ++ List.replicate (N_done.length - ds.length) none) (.rt d) := by
  obtain ⟨t, dd, W, rfl, hD, rfl⟩ := h
  have one : ∀ (x : Str) (P : List PyData → PyData → Prop) (a : PyData) (r : PyData), (∃ f, KDct K w wa x (.ref f) ∧ S f = some (SpD K P)) → P [eTree t, a] r → RunD K (t_done K w wa S) [some (.d (eTree t)), some (.d (.tuple [.str x, a])), none, none, none] (.rt r) := fun x P a r ⟨f, h1, h2⟩ hP => by
    refine run_star (d := .str x) (ds := [a]) (by trivial) ?_
    refine run_word (x := x) rfl h1 ?_
    exact run_ret (ev_if (b := true) (eb_test ((ev_eqI (i := 1) (j := 1) (ev_lenL (ds := [a]) (by trivial)) ev_int))) (fun _ => ev_callA rfl h2 (ea_cons (by trivial) (ea_cons (ev_ixL (ds := [a]) (by trivial) ev_int rfl) ea_nil)) hP) fun z => by cases z)
  have two : ∀ (x : Str) (P : List PyData → PyData → Prop) (a b : PyData) (r : PyData), (∃ f, KDct K w wa x (.ref f) ∧ S f = some (SpD K P)) → P [eTree t, a, b] r → RunD K (t_done K w wa S) [some (.d (eTree t)), some (.d (.tuple [.str x, a, b])), none, none, none] (.rt r) := fun x P a b r ⟨f, h1, h2⟩ hP => by
    refine run_star (d := .str x) (ds := [a, b]) (by trivial) ?_
    refine run_word (x := x) rfl h1 ?_
    exact run_ret (ev_if (b := false) (eb_test ((ev_eqI (i := 2) (j := 1) (ev_lenL (ds := [a, b]) (by trivial)) ev_int))) (fun z => by cases z) fun _ => ev_callA rfl h2 (ea_cons (by trivial) (ea_cons (ev_ixL (ds := [a, b]) (by trivial) ev_int rfl) (ea_cons (ev_ixL (ds := [a, b]) (by trivial) ev_int rfl) ea_nil))) hP)
  cases dd with
  | look a => exact one _ _ _ _ hw.look ⟨t, a, W, rfl, hD, rfl⟩
  | list a => exact one _ _ _ _ hw.list ⟨t, a, W, rfl, hD, rfl⟩
  | make a k => exact two _ _ _ _ _ hw.make ⟨t, a, k, W, rfl, hD, rfl⟩
  | drop a => exact one _ _ _ _ hw.drop ⟨t, a, W, rfl, hD, rfl⟩
  | link a b => exact two _ _ _ _ _ hw.link ⟨t, a, b, W, rfl, hD.1, hD.2, rfl⟩
  | move a b => exact two _ _ _ _ _ hw.move ⟨t, a, b, W, rfl, hD.1, hD.2, rfl⟩
  | swap a b => exact two _ _ _ _ _ hw.swap ⟨t, a, b, W, rfl, hD.1, hD.2, rfl⟩
end
end Dw
set_option Elab.async false
set_option linter.all false
set_option maxRecDepth 100000
set_option maxHeartbeats 1000000
/-! The plain law: trees by other names and nodes. -/
namespace Dw
open PySem PySem.W
/-- what a renaming must be on a tree with names of ws -/
structure RenH (ws : List Str) (f : Str → Str) (g : Int → Int) (rows : List Row) : Prop where
  fi : ∀ x ∈ ws, ∀ y ∈ ws, f x = f y → x = y
  gi : ∀ a b, g a = g b → a = b
  g0 : g 0 = 0
  inc : IncR rows
  rise : ∀ r ∈ rows, Rise r.2.2
  names : ∀ r ∈ rows, ∀ p ∈ r.2.2, p.1 ∈ ws
section
variable {ws : List Str} {f : Str → Str} {g : Int → Int} {rows : List Row} {made : Int}
theorem nodup_map {α β : Type} {l : List α} {h : α → β} (nd : l.Nodup) (inj : ∀ a ∈ l, ∀ b ∈ l, h a = h b → a = b) : (l.map h).Nodup := by
  induction l with
  | nil => exact List.nodup_nil
  | cons a l ih =>
    have nd' := List.nodup_cons.mp nd
    rw [List.map_cons]
    refine List.nodup_cons.mpr ⟨fun m => ?_, ih nd'.2 fun x hx y hy => inj x (List.mem_cons_of_mem _ hx) y (List.mem_cons_of_mem _ hy)⟩
    obtain ⟨b, hb, e⟩ := List.mem_map.mp m
    exact nd'.1 (inj a List.mem_cons_self b (List.mem_cons_of_mem _ hb) e.symm ▸ hb)
theorem RenH.ids (h : RenH ws f g rows) : ((rows.map (renR f g)).map (·.1)).Nodup := by
  rw [List.map_map]
  have : ((fun x => x.1) ∘ renR f g) = g ∘ fun r : Row => r.1 := rfl
  rw [this, ← List.map_map]
  exact nodup_map h.inc.nodup fun a _ b _ e => h.gi a b e
theorem RenH.ename (h : RenH ws f g rows) {r : Row} (hr : r ∈ rows) : ((r.2.2.map fun p => (f p.1, g p.2)).map (·.1)).Nodup := by
  rw [List.map_map]
  have : ((fun x => x.1) ∘ fun p : Str × Int => (f p.1, g p.2)) = f ∘ fun p => p.1 := rfl
  rw [this, ← List.map_map]
  refine nodup_map (h.rise r hr).nodup fun a ha b hb e => ?_
  obtain ⟨p, hp, rfl⟩ := List.mem_map.mp ha
  obtain ⟨q, hq, rfl⟩ := List.mem_map.mp hb
  exact h.fi _ (h.names r hr p hp) _ (h.names r hr q hq) e
theorem find_perm {α : Type} {l l' : List α} {p : α → Bool} (hp : l.Perm l') (u : ∀ a ∈ l, ∀ b ∈ l, p a = true → p b = true → a = b) : l.find? p = l'.find? p := by
  cases h : l.find? p with
  | none =>
    have := List.find?_eq_none.mp h
    exact (List.find?_eq_none.mpr fun a ha => this a (hp.mem_iff.mpr ha)).symm
  | some a =>
    have h1 := List.find?_some h
    have h2 := List.mem_of_find?_eq_some h
    cases h' : l'.find? p with
    | none => exact absurd h1 (by simpa using List.find?_eq_none.mp h' a (hp.mem_iff.mp h2))
    | some b =>
      have h3 := List.find?_some h'
      have h4 := hp.mem_iff.mpr (List.mem_of_find?_eq_some h')
      rw [u a h2 b h4 h1 h3]
theorem uniq_id {l : List Row} (nd : (l.map (·.1)).Nodup) {n : Int} : ∀ a ∈ l, ∀ b ∈ l, decide (a.1 = n) = true → decide (b.1 = n) = true → a = b := fun a ha b hb h1 h2 => by
  obtain ⟨i, hi, e1⟩ := List.mem_iff_getElem.mp ha
  obtain ⟨j, hj, e2⟩ := List.mem_iff_getElem.mp hb
  have : i = j := (List.getElem_inj nd (h₀ := by simpa using hi) (h₁ := by simpa using hj)).mp (by
    simp only [List.getElem_map, e1, e2]
    rw [of_decide_eq_true h1, of_decide_eq_true h2])
  subst this
  rw [← e1, ← e2]
theorem rowOf_ren (h : RenH ws f g rows) (n : Int) : rowOf (ren f g (rows, made)) (g n) = (rowOf (rows, made) n).map (renR f g) := by
  unfold rowOf ren
  rw [← find_perm (sortR_perm (rows.map (renR f g))).symm (uniq_id h.ids)]
  rw [List.find?_map]
  have : ((fun r : Row => decide (r.1 = g n)) ∘ renR f g) = fun r : Row => decide (r.1 = n) := by
    funext r
    show decide (g r.1 = g n) = decide (r.1 = n)
    by_cases e : r.1 = n
    · simp [e]
    · have : ¬ g r.1 = g n := fun z => e (h.gi _ _ z)
      simp [e, this]
  rw [this]
theorem kindOf_ren (h : RenH ws f g rows) (n : Int) : kindOf (ren f g (rows, made)) (g n) = kindOf (rows, made) n := by
  unfold kindOf
  rw [rowOf_ren h]
  cases rowOf (rows, made) n <;> rfl
theorem renE_nil : renE f g [] = [] := List.Perm.eq_nil (sortE_perm [])
theorem entOf_ren (h : RenH ws f g rows) (n : Int) : entOf (ren f g (rows, made)) (g n) = renE f g (entOf (rows, made) n) := by
  unfold entOf
  rw [rowOf_ren h]
  cases rowOf (rows, made) n with
  | none => exact renE_nil.symm
  | some r => rfl
theorem uniq_nm {l : Ent} (nd : (l.map (·.1)).Nodup) {x : Str} : ∀ a ∈ l, ∀ b ∈ l, decide (a.1 = x) = true → decide (b.1 = x) = true → a = b := fun a ha b hb h1 h2 => by
  obtain ⟨i, hi, e1⟩ := List.mem_iff_getElem.mp ha
  obtain ⟨j, hj, e2⟩ := List.mem_iff_getElem.mp hb
  have : i = j := (List.getElem_inj nd (h₀ := by simpa using hi) (h₁ := by simpa using hj)).mp (by
    simp only [List.getElem_map, e1, e2]
    rw [of_decide_eq_true h1, of_decide_eq_true h2])
  subst this
  rw [← e1, ← e2]
theorem lk_perm {e e' : Ent} (p : e.Perm e') (nd : (e.map (·.1)).Nodup) (x : Str) : lk e x = lk e' x := by
  unfold lk
  rw [find_perm p (uniq_nm nd)]
theorem lk_map {e : Ent} (hf : ∀ x ∈ ws, ∀ y ∈ ws, f x = f y → x = y) (hn : ∀ p ∈ e, p.1 ∈ ws) {x : Str} (hx : x ∈ ws) : lk (e.map fun p => (f p.1, g p.2)) (f x) = (lk e x).map g := by
  unfold lk
  induction e with
  | nil => rfl
  | cons p e ih =>
    rw [List.map_cons]
    have ih' := ih fun q hq => hn q (List.mem_cons_of_mem _ hq)
    by_cases q : p.1 = x
    · rw [List.find?_cons_of_pos (by simp [q]), List.find?_cons_of_pos (by simp [q])]; rfl
    · have q' : ¬ f p.1 = f x := fun z => q (hf _ (hn p List.mem_cons_self) _ hx z)
      rw [List.find?_cons_of_neg (by simpa using q'), List.find?_cons_of_neg (by simpa using q)]
      exact ih'
theorem lk_renE (h : RenH ws f g rows) {r : Row} (hr : r ∈ rows) {x : Str} (hx : x ∈ ws) : lk (renE f g r.2.2) (f x) = (lk r.2.2 x).map g := by
  unfold renE
  rw [← lk_perm (sortE_perm _).symm (h.ename hr)]
  exact lk_map h.fi (h.names r hr) hx
theorem lk_ren (h : RenH ws f g rows) (n : Int) {x : Str} (hx : x ∈ ws) : lk (entOf (ren f g (rows, made)) (g n)) (f x) = (lk (entOf (rows, made) n) x).map g := by
  rw [entOf_ren h]
  unfold entOf
  cases q : rowOf (rows, made) n with
  | none =>
    show lk (renE f g []) (f x) = _
    rw [renE_nil]; rfl
  | some r => exact lk_renE h (List.mem_of_find?_eq_some q) hx
theorem thr_ren (h : RenH ws f g rows) : ∀ (w : List Str) (i : Nat) (n : Int), (∀ x ∈ w, x ∈ ws) → thr (ren f g (rows, made)) i (g n) (w.map f) = ((thr (rows, made) i n w).1.map g, (thr (rows, made) i n w).2)
  | [], i, n, _ => rfl
  | x :: w, i, n, hw => by
    rw [List.map_cons]
    by_cases hk : kindOf (rows, made) n = sS
    · simp only [thr, kindOf_ren h, if_pos hk]; rfl
    · have hl := lk_ren h (made := made) n (hw x List.mem_cons_self)
      cases hl2 : lk (entOf (rows, made) n) x with
      | none =>
        rw [hl2] at hl
        simp only [thr, kindOf_ren h, if_neg hk, hl, hl2, Option.map_none]; rfl
      | some m =>
        rw [hl2] at hl
        have ih := thr_ren h w (i + 1) m fun y hy => hw y (List.mem_cons_of_mem _ hy)
        simp only [thr, kindOf_ren h, if_neg hk, hl, hl2, Option.map_some, ih, List.map_cons]
theorem filter_len_perm {α β : Type} {l l' : List α} (p : l.Perm l') : l.length = l'.length := p.length_eq
theorem hold_perm {rows rows' : List Row} (p : rows.Perm rows') (n : Int) : (hold rows n).Perm (hold rows' n) := by
  unfold hold
  exact p.flatMap_right _
theorem hold_map (rows : List Row) (h1 : ∀ a b, g a = g b → a = b) (n : Int) : (hold (rows.map (renR f g)) (g n)).Perm ((hold rows n).map g) := by
  unfold hold
  rw [List.flatMap_map, List.map_flatMap]
  induction rows with
  | nil => exact List.Perm.refl _
  | cons r rows ih =>
    rw [List.flatMap_cons, List.flatMap_cons]
    refine List.Perm.append ?_ ih
    have e1 : ((renE f g r.2.2).filter fun p => decide (p.2 = g n)).Perm ((r.2.2.map fun p => (f p.1, g p.2)).filter fun p => decide (p.2 = g n)) := (sortE_perm _).filter _
    have e2 : (r.2.2.map fun p => (f p.1, g p.2)).filter (fun p => decide (p.2 = g n)) = (r.2.2.filter fun p => decide (p.2 = n)).map fun p => (f p.1, g p.2) := by
      rw [List.filter_map]
      congr 1
      refine List.filter_congr fun p _ => ?_
      show decide (g p.2 = g n) = decide (p.2 = n)
      by_cases e : p.2 = n
      · simp [e]
      · have : ¬ g p.2 = g n := fun z => e (h1 _ _ z)
        simp [e, this]
    show ((List.filter _ (renE f g r.2.2)).map fun _ => g r.1).Perm _
    refine (e1.map _).trans ?_
    rw [e2, List.map_map, List.map_map]
    exact List.Perm.refl _
theorem hold_ren (h : RenH ws f g rows) (n : Int) : (hold (ren f g (rows, made)).1 (g n)).Perm ((hold rows n).map g) := (hold_perm (sortR_perm _) (g n)).trans (hold_map rows h.gi n)
/-- up from a drawer, where each drawer stands in one -/
theorem up_ren (h : RenH ws f g rows) (one : ∀ n, (∃ r ∈ rows, r.1 = n) → kindOf (rows, made) n = sD → (hold rows n).length ≤ 1) (hd : ∀ n p, p ∈ hold rows n → (∃ r ∈ rows, r.1 = p) ∧ kindOf (rows, made) p = sD) : ∀ (k : Nat) (n : Int), (∃ r ∈ rows, r.1 = n) → kindOf (rows, made) n = sD → up (ren f g (rows, made)) k (g n) = (up (rows, made) k n).map g
  | 0, n, _, _ => rfl
  | k + 1, n, hn, hk => by
    by_cases h0 : n = 0
    · subst h0
      rw [h.g0]; simp [up]
    · have hg0 : g n ≠ 0 := fun z => h0 (h.gi _ _ (by rw [z, h.g0]))
      have hp := hold_ren h (made := made) n
      have h1 := one n hn hk
      cases hh : hold rows n with
      | nil =>
        rw [hh] at hp
        have e : hold (ren f g (rows, made)).1 (g n) = [] := List.Perm.eq_nil hp
        simp only [up, if_neg h0, if_neg hg0, e, hh, List.map_nil]
      | cons p ps =>
        rw [hh] at hp h1
        have hps : ps = [] := List.length_eq_zero_iff.mp (by simpa using h1)
        subst hps
        have e : hold (ren f g (rows, made)).1 (g n) = [g p] := List.perm_singleton.mp hp
        obtain ⟨q1, q2⟩ := hd n p (by rw [hh]; simp)
        simp only [up, if_neg h0, if_neg hg0, e, hh, List.map_cons, up_ren h one hd k p q1 q2]
theorem lastN_map {ns : List Int} (hn : ns ≠ []) : lastN (ns.map g) = g (lastN ns) := by
  unfold lastN
  rw [List.getLast?_map]
  cases h : ns.getLast? with
  | none => exact absurd (List.getLast?_eq_none_iff.mp h) hn
  | some x => rfl
theorem lastW_map {w : List Str} (hn : w ≠ []) : lastW (w.map f) = f (lastW w) := by
  unfold lastW
  rw [List.getLast?_map]
  cases h : w.getLast? with
  | none => exact absurd (List.getLast?_eq_none_iff.mp h) hn
  | some x => rfl
theorem lastW_mem {w : List Str} (hn : w ≠ []) : lastW w ∈ w := by
  unfold lastW
  rw [List.getLast?_eq_some_getLast hn]
  exact List.getLast_mem hn
end
end Dw
set_option Elab.async false
set_option linter.all false
set_option maxRecDepth 100000
set_option maxHeartbeats 1000000
/-! The plain law: deeds by other names and nodes. -/
namespace Dw
open PySem PySem.W
section
variable {ws : List Str} {f : Str → Str} {g : Int → Int} {t : Tree}
/-- a renaming of a whole tree -/
structure RenT (ws : List Str) (f : Str → Str) (g : Int → Int) (t : Tree) : Prop where
  h : RenH ws f g t.1
  W : WF t
  made : g t.2 = t.2
  lt : ∀ r ∈ t.1, g r.1 < t.2
theorem RenT.thr (R : RenT ws f g t) (w : List Str) (hw : ∀ x ∈ w, x ∈ ws) : Dw.thr (ren f g t) 0 0 (w.map f) = ((Dw.thr t 0 0 w).1.map g, (Dw.thr t 0 0 w).2) := by
  have := thr_ren R.h (made := t.2) w 0 0 hw
  rwa [R.h.g0] at this
theorem RenT.kind (R : RenT ws f g t) (n : Int) : kindOf (ren f g t) (g n) = kindOf t n := kindOf_ren R.h (made := t.2) n
theorem RenT.ent (R : RenT ws f g t) (n : Int) : entOf (ren f g t) (g n) = renE f g (entOf t n) := entOf_ren R.h (made := t.2) n
theorem RenT.lk (R : RenT ws f g t) (n : Int) {x : Str} (hx : x ∈ ws) : Dw.lk (entOf (ren f g t) (g n)) (f x) = (Dw.lk (entOf t n) x).map g := lk_ren R.h (made := t.2) n hx
theorem RenT.drawer (R : RenT ws f g t) (w : List Str) (hw : ∀ x ∈ w, x ∈ ws) : drawerOf (ren f g t) (w.map f) = (g (drawerOf t w).1, (drawerOf t w).2) := by
  have e := R.thr w.dropLast fun x hx => hw x (List.dropLast_subset w hx)
  have hl : lastN ((Dw.thr t 0 0 w.dropLast).1.map g) = g (lastN (Dw.thr t 0 0 w.dropLast).1) := lastN_map (thr_ne _ 0 0)
  unfold drawerOf
  simp only [← List.map_dropLast, e, hl, R.kind, List.length_map]
theorem RenT.entry (R : RenT ws f g t) (d : Int) (w : List Str) (hw : ∀ x ∈ w, x ∈ ws) (hn : w ≠ []) : entryOf (ren f g t) (g d) (w.map f) = (entryOf t d w).map g := by
  unfold entryOf
  rw [lastW_map hn]
  exact R.lk d (hw _ (lastW_mem hn))
theorem renE_empty (e : Ent) : (renE f g e).isEmpty = e.isEmpty := by
  have h := (sortE_perm (e.map fun p => (f p.1, g p.2))).length_eq
  rw [List.length_map] at h
  unfold renE
  have q : ∀ l l' : Ent, l.length = l'.length → l.isEmpty = l'.isEmpty := fun l l' h => by cases l <;> cases l' <;> simp at h ⊢
  exact q _ _ h
theorem RenT.up (R : RenT ws f g t) (n : Int) (hn : In t n) (hk : kindOf t n = sD) : Dw.up (ren f g t) fuel (g n) = (Dw.up t fuel n).map g :=
  up_ren R.h (made := t.2) (fun n hn hk => R.W.holdOne hn hk) (fun n p hp => ⟨WF.holdIn hp, R.W.holdD hp⟩) fuel n hn hk
theorem RenT.inside (R : RenT ws f g t) (n m : Int) (hm : In t m) (hk : kindOf t m = sD) : isInside (ren f g t) (g n) (g m) = isInside t n m := by
  unfold isInside
  rw [R.up m hm hk]
  have e1 : decide (g n = g m) = decide (n = m) := by
    by_cases e : n = m
    · simp [e]
    · have : ¬ g n = g m := fun z => e (R.h.gi _ _ z)
      simp [e, this]
  have e2 : decide (g n ∈ (Dw.up t fuel m).map g) = decide (n ∈ Dw.up t fuel m) := by
    by_cases e : n ∈ Dw.up t fuel m
    · rw [decide_eq_true e, decide_eq_true (List.mem_map_of_mem e)]
    · rw [decide_eq_false e, decide_eq_false fun z => by
        obtain ⟨k, hk, q⟩ := List.mem_map.mp z
        exact e (R.h.gi _ _ q ▸ hk)]
  rw [e1, e2]
theorem RenT.full (R : RenT ws f g t) (n : Int) : isFull (ren f g t) (g n) = isFull t n := by
  unfold isFull
  rw [R.kind, R.ent, renE_empty]
def renBoth (g : Int → Int) : Both → Both
  | .no m i => .no m i
  | .noEnt d1 d2 o => .noEnt (g d1) (g d2) (o.map g)
  | .ok d1 d2 n o => .ok (g d1) (g d2) (g n) (o.map g)
theorem RenT.both (R : RenT ws f g t) (a b : List Str) (ha : ∀ x ∈ a, x ∈ ws) (hb : ∀ x ∈ b, x ∈ ws) (na : a ≠ []) (nb : b ≠ []) : bothOf (ren f g t) (a.map f) (b.map f) = renBoth g (bothOf t a b) := by
  unfold bothOf
  rw [R.drawer a ha, R.drawer b hb]
  cases h1 : (drawerOf t a).2 with
  | some m => rfl
  | none =>
    cases h2 : (drawerOf t b).2 with
    | some m => rfl
    | none =>
      simp only [R.entry _ a ha na, R.entry _ b hb nb]
      cases h3 : entryOf t (drawerOf t a).1 a <;> rfl
theorem RenT.barred (R : RenT ws f g t) (goal n : Int) (o : Option Int) (hg : In t goal) (hk : kindOf t goal = sD) : barredW (ren f g t) (g goal) (g n) (o.map g) = barredW t goal n o := by
  unfold barredW
  rw [R.kind, R.inside n goal hg hk]
  cases o with
  | none => rfl
  | some m =>
    simp only [Option.map_some, R.kind, R.full]
    by_cases e : m = n
    · subst e; simp
    · have : ¬ g m = g n := fun z => e (R.h.gi _ _ z)
      simp [e, this]
end
end Dw
set_option Elab.async false
set_option linter.all false
set_option maxRecDepth 100000
set_option maxHeartbeats 1000000
/-! The plain law: trees laid by other names and nodes. -/
namespace Dw
open PySem PySem.W
section
variable {ws : List Str} {f : Str → Str} {g : Int → Int} {rows : List Row} {cs : List Chg}
abbrev EntO := List (Str × Option Int)
def fgO (f : Str → Str) (g : Int → Int) (p : Str × Option Int) : Str × Option Int := (f p.1, p.2.map g)
def renC (f : Str → Str) (g : Int → Int) (c : Chg) : Chg := (g c.1, f c.2.1, c.2.2.map g)
theorem putE_map (hf : ∀ x ∈ ws, ∀ y ∈ ws, f x = f y → x = y) {e : EntO} (hn : ∀ p ∈ e, p.1 ∈ ws) {x : Str} (hx : x ∈ ws) (v : Option Int) : putE (e.map (fgO f g)) (f x) (v.map g) = (putE e x v).map (fgO f g) := by
  have key : ∀ p ∈ e, decide (f p.1 = f x) = decide (p.1 = x) := fun p hp => by
    by_cases q : p.1 = x
    · simp [q]
    · have : ¬ f p.1 = f x := fun z => q (hf _ (hn p hp) _ hx z)
      simp [q, this]
  have ha : ((e.map (fgO f g)).any fun p => decide (p.1 = f x)) = e.any fun p => decide (p.1 = x) := by
    rw [List.any_map]
    clear hn
    induction e with
    | nil => rfl
    | cons p e ih =>
      rw [List.any_cons, List.any_cons, ih fun q hq => key q (List.mem_cons_of_mem _ hq)]
      congr 1
      exact key p List.mem_cons_self
  unfold putE
  rw [ha]
  split
  · rw [List.map_map, List.map_map]
    refine List.map_congr_left fun p hp => ?_
    have k := key p hp
    show (if f p.1 = f x then (f p.1, v.map g) else fgO f g p) = fgO f g (if p.1 = x then (p.1, v) else p)
    by_cases q : p.1 = x
    · rw [if_pos (by rw [q]), if_pos q]; rfl
    · rw [if_neg (by simpa [q] using k), if_neg q]
  · rw [List.map_append]; rfl
theorem putE_names_in {e : EntO} (hn : ∀ p ∈ e, p.1 ∈ ws) {x : Str} (hx : x ∈ ws) (v : Option Int) : ∀ p ∈ putE e x v, p.1 ∈ ws := fun p hp => by
  unfold putE at hp
  split at hp
  · obtain ⟨q, hq, rfl⟩ := List.mem_map.mp hp
    split
    · exact hn q hq
    · exact hn q hq
  · rcases List.mem_append.mp hp with h | h
    · exact hn p h
    · rw [List.mem_singleton.mp h]; exact hx
theorem putE_perm {e e' : EntO} (p : e.Perm e') (x : Str) (v : Option Int) : (putE e x v).Perm (putE e' x v) := by
  have ha : (e.any fun p => decide (p.1 = x)) = e'.any fun p => decide (p.1 = x) := by
    rw [Bool.eq_iff_iff, List.any_eq_true, List.any_eq_true]
    exact ⟨fun ⟨q, h1, h2⟩ => ⟨q, p.mem_iff.mp h1, h2⟩, fun ⟨q, h1, h2⟩ => ⟨q, p.mem_iff.mpr h1, h2⟩⟩
  unfold putE
  rw [ha]
  split
  · exact p.map _
  · exact p.append_right _
theorem chgs_perm {n : Int} : ∀ {cs : List Chg} {e e' : EntO}, e.Perm e' → (chgs cs n e).Perm (chgs cs n e')
  | [], _, _, p => p
  | c :: cs, e, e', p => by
    unfold chgs
    rw [List.foldl_cons, List.foldl_cons]
    by_cases h : c.1 = n
    · rw [if_pos h, if_pos h]; exact chgs_perm (cs := cs) (putE_perm p _ _)
    · rw [if_neg h, if_neg h]; exact chgs_perm (cs := cs) p
theorem chgs_map (hf : ∀ x ∈ ws, ∀ y ∈ ws, f x = f y → x = y) (hg : ∀ a b, g a = g b → a = b) {n : Int} : ∀ {cs : List Chg} {e : EntO}, (∀ c ∈ cs, c.2.1 ∈ ws) → (∀ p ∈ e, p.1 ∈ ws) → chgs (cs.map (renC f g)) (g n) (e.map (fgO f g)) = (chgs cs n e).map (fgO f g)
  | [], _, _, _ => rfl
  | c :: cs, e, hc, hn => by
    unfold chgs
    rw [List.map_cons, List.foldl_cons, List.foldl_cons]
    have hx := hc c List.mem_cons_self
    by_cases h : c.1 = n
    · rw [if_pos (show (renC f g c).1 = g n by rw [← h]; rfl), if_pos h]
      show chgs _ _ (putE (e.map (fgO f g)) (f c.2.1) (c.2.2.map g)) = _
      rw [putE_map hf hn hx]
      exact chgs_map hf hg (cs := cs) (fun d hd => hc d (List.mem_cons_of_mem _ hd)) (putE_names_in hn hx _)
    · rw [if_neg (show ¬ (renC f g c).1 = g n from fun z => h (hg _ _ z)), if_neg h]
      exact chgs_map hf hg (cs := cs) (fun d hd => hc d (List.mem_cons_of_mem _ hd)) hn
def fg (f : Str → Str) (g : Int → Int) (p : Str × Int) : Str × Int := (f p.1, g p.2)
theorem kept_map (e : EntO) : ((e.map (fgO f g)).filterMap fun p => p.2.map fun n => (p.1, n)) = ((e.filterMap fun p => p.2.map fun n => (p.1, n)) : Ent).map (fg f g) := by
  induction e with
  | nil => rfl
  | cons p e ih =>
    obtain ⟨x, o⟩ := p
    cases o with
    | none => simpa [fgO] using ih
    | some n => simpa [fgO, fg] using ih
/-- what is kept in a row, by other names -/
theorem keptE_ren (h : RenH ws f g rows) (hc : ∀ c ∈ cs, c.2.1 ∈ ws) {r : Row} (hr : r ∈ rows) : (keptE (cs.map (renC f g)) (renR f g r)).Perm ((keptE cs r).map (fg f g)) := by
  unfold keptE
  have e1 : ((renE f g r.2.2).map fun p => (p.1, some p.2)).Perm ((r.2.2.map fun p => (p.1, some p.2)).map (fgO f g)) := by
    refine ((sortE_perm _).map _).trans ?_
    rw [List.map_map, List.map_map]
    exact List.Perm.refl _
  have e2 := (chgs_perm (cs := cs.map (renC f g)) (n := g r.1) e1).filterMap fun p => p.2.map fun n => (p.1, n)
  refine e2.trans ?_
  rw [chgs_map h.fi h.gi hc (fun p hp => by
    obtain ⟨q, hq, rfl⟩ := List.mem_map.mp hp
    exact h.names r hr q hq), kept_map]
theorem chgs_in {n : Int} : ∀ {cs : List Chg} {e : EntO}, (∀ c ∈ cs, c.2.1 ∈ ws) → (∀ p ∈ e, p.1 ∈ ws) → ∀ p ∈ chgs cs n e, p.1 ∈ ws
  | [], _, _, hn => hn
  | c :: cs, e, hc, hn => by
    unfold chgs
    rw [List.foldl_cons]
    split
    · exact chgs_in (cs := cs) (fun d hd => hc d (List.mem_cons_of_mem _ hd)) (putE_names_in hn (hc c List.mem_cons_self) _)
    · exact chgs_in (cs := cs) (fun d hd => hc d (List.mem_cons_of_mem _ hd)) hn
theorem keptE_in (h : RenH ws f g rows) (hc : ∀ c ∈ cs, c.2.1 ∈ ws) {r : Row} (hr : r ∈ rows) : ∀ p ∈ keptE cs r, p.1 ∈ ws := fun p hp => by
  unfold keptE at hp
  obtain ⟨q, hq, e⟩ := List.mem_filterMap.mp hp
  have hin := chgs_in (ws := ws) (n := r.1) hc (fun p hp => by
    obtain ⟨q, hq, rfl⟩ := List.mem_map.mp hp
    exact h.names r hr q hq) q hq
  cases o : q.2 with
  | none => rw [o] at e; cases e
  | some n => rw [o] at e; cases e; exact hin
theorem named_ren (h : RenH ws f g rows) (hc : ∀ c ∈ cs, c.2.1 ∈ ws) (n : Int) : g n ∈ named (cs.map (renC f g)) (rows.map (renR f g)) ↔ n ∈ named cs rows := by
  unfold named
  rw [List.mem_flatMap, List.mem_flatMap]
  constructor
  · rintro ⟨r', hr', hm⟩
    obtain ⟨r, hr, rfl⟩ := List.mem_map.mp hr'
    refine ⟨r, hr, ?_⟩
    have := ((keptE_ren h hc hr).map (·.2)).mem_iff.mp hm
    rw [List.map_map] at this
    obtain ⟨p, hp, e⟩ := List.mem_map.mp this
    exact List.mem_map.mpr ⟨p, hp, h.gi _ _ e⟩
  · rintro ⟨r, hr, hm⟩
    refine ⟨renR f g r, List.mem_map_of_mem hr, ?_⟩
    refine ((keptE_ren h hc hr).map (·.2)).mem_iff.mpr ?_
    rw [List.map_map]
    obtain ⟨p, hp, e⟩ := List.mem_map.mp hm
    exact List.mem_map.mpr ⟨p, hp, by show g p.2 = g n; rw [e]⟩
theorem laidP_ren (h : RenH ws f g rows) (hc : ∀ c ∈ cs, c.2.1 ∈ ws) (m0 made : Int) : laidP (ren f g (rows, m0)).1 (cs.map (renC f g)) made = ren f g (laidP rows cs made) := by
  let cs' := cs.map (renC f g)
  let X := rows.map (renR f g)
  let F : Row → Row := fun r => (r.1, r.2.1, sortE (keptE cs r))
  let F' : Row → Row := fun r => (r.1, r.2.1, sortE (keptE cs' r))
  let Pf : Row → Bool := fun r => decide (r.1 = 0) || decide (r.1 ∈ named cs rows)
  let P' : Row → Bool := fun r => decide (r.1 = 0) || decide (r.1 ∈ named cs' (sortR X))
  have nm : ∀ n, g n ∈ named cs' (sortR X) ↔ n ∈ named cs rows := fun n => by
    rw [← named_ren h hc n]
    unfold named
    exact ((sortR_perm X).flatMap_right _).mem_iff
  have e1 : ∀ r ∈ rows, P' (renR f g r) = Pf r := fun r _ => by
    show (decide (g r.1 = 0) || decide (g r.1 ∈ named cs' (sortR X))) = (decide (r.1 = 0) || decide (r.1 ∈ named cs rows))
    congr 1
    · by_cases z : r.1 = 0
      · simp [z, h.g0]
      · have : ¬ g r.1 = 0 := fun y => z (h.gi _ _ (by rw [y, h.g0]))
        simp [z, this]
    · exact decide_eq_decide.mpr (nm r.1)
  have e2 : ∀ r ∈ rows, F' (renR f g r) = renR f g (F r) := fun r hr => by
    have hn := h.rise r hr
    have k1 := keptE_ren h hc hr
    have nd1 : ((keptE cs r).map (·.1)).Nodup := keptE_names hn
    have nd2 : (((keptE cs r).map (fg f g)).map (·.1)).Nodup := by
      rw [List.map_map]
      have : ((fun x => x.1) ∘ fg f g) = f ∘ fun p : Str × Int => p.1 := rfl
      rw [this, ← List.map_map]
      refine nodup_map nd1 fun a ha b hb e => ?_
      obtain ⟨p, hp, rfl⟩ := List.mem_map.mp ha
      obtain ⟨q, hq, rfl⟩ := List.mem_map.mp hb
      exact h.fi _ (keptE_in h hc hr p hp) _ (keptE_in h hc hr q hq) e
    have p2 : ((sortE (keptE cs r)).map (fg f g)).Perm ((keptE cs r).map (fg f g)) := (sortE_perm _).map _
    have e : sortE (keptE cs' (renR f g r)) = sortE ((sortE (keptE cs r)).map (fg f g)) := by
      refine Rise.uniq (sortE_rise ((k1.map _).nodup_iff.mpr nd2)) (sortE_rise ((p2.map _).nodup_iff.mpr nd2)) ?_
      exact (sortE_perm _).trans (k1.trans (p2.symm.trans (sortE_perm _).symm))
    show (g r.1, r.2.1, sortE (keptE cs' (renR f g r))) = (g r.1, r.2.1, renE f g (sortE (keptE cs r)))
    rw [e]; rfl
  have main : ((sortR X).filter P').map F' = sortR (((rows.filter Pf).map F).map (renR f g)) := by
    refine IncR.uniq ?_ (sortR_inc ?_) ?_
    · exact List.pairwise_map.mpr (List.Pairwise.filter _ (sortR_inc h.ids))
    · rw [List.map_map, List.map_map]
      have : ((fun x => x.1) ∘ renR f g ∘ F) = g ∘ fun r : Row => r.1 := rfl
      have e3 : ((fun x : Row => x.1) ∘ renR f g) ∘ F = g ∘ fun r : Row => r.1 := rfl
      first | rw [e3] | rw [this]
      rw [← List.map_map]
      exact nodup_map (List.Pairwise.sublist (List.Sublist.map _ List.filter_sublist) h.inc.nodup) fun a _ b _ e => h.gi a b e
    · refine (((sortR_perm X).filter P').map F').trans ?_
      have e4 : (X.filter P').map F' = ((rows.filter Pf).map F).map (renR f g) := by
        show ((rows.map (renR f g)).filter P').map F' = _
        rw [List.filter_map, List.map_map, List.map_map, (List.filter_congr fun r hr => e1 r hr : rows.filter (P' ∘ renR f g) = rows.filter Pf)]
        exact List.map_congr_left fun r hr => e2 r (List.mem_filter.mp hr).1
      rw [e4]
      exact (sortR_perm _).symm
  show (((sortR X).filter P').map F', made) = (sortR (((rows.filter Pf).map F).map (renR f g)), made)
  rw [main]
end
end Dw
set_option Elab.async false
set_option linter.all false
set_option maxRecDepth 100000
set_option maxHeartbeats 1000000
/-! The plain law: deeds done by other names and nodes. -/
namespace Dw
open PySem PySem.W
section
variable {ws : List Str} {f : Str → Str} {g : Int → Int} {t : Tree}
def renDone (f : Str → Str) (g : Int → Int) (r : Done) : Done := (ren f g r.1, renTold f g r.2)
theorem RenT.look (R : RenT ws f g t) (w : List Str) (hw : ∀ x ∈ w, x ∈ ws) : doLook (ren f g t) (w.map f) = renDone f g (doLook t w) := by
  have hl : lastN ((Dw.thr t 0 0 w).1.map g) = g (lastN (Dw.thr t 0 0 w).1) := lastN_map (thr_ne _ 0 0)
  unfold doLook
  rw [R.thr w hw]
  cases h : (Dw.thr t 0 0 w).2 with
  | some m => simp only [h]; rfl
  | none => simp only [h, hl, R.kind]; rfl
theorem RenT.drop (R : RenT ws f g t) (w : List Str) (hw : ∀ x ∈ w, x ∈ ws) (nw : w ≠ []) : doDrop (ren f g t) (w.map f) = renDone f g (doDrop t w) := by
  unfold doDrop
  rw [R.drawer w hw]
  cases h1 : (drawerOf t w).2 with
  | some m => simp only [h1]; rfl
  | none =>
    simp only [h1, R.entry _ w hw nw, List.length_map]
    cases h2 : entryOf t (drawerOf t w).1 w with
    | none => simp only [Option.map_none]; rfl
    | some n =>
      simp only [Option.map_some, R.full]
      by_cases hf : isFull t n = true
      · simp only [if_pos hf]; rfl
      · simp only [if_neg hf]
        have e := laidP_ren R.h (cs := [((drawerOf t w).1, lastW w, none)]) (fun c hc => by rw [List.mem_singleton.mp hc]; exact hw _ (lastW_mem nw)) t.2 t.2
        show (laidP (ren f g t).1 [(g (drawerOf t w).1, lastW (w.map f), none)] t.2, _) = _
        rw [lastW_map nw]
        exact Prod.ext e rfl
theorem RenT.link (R : RenT ws f g t) (a b : List Str) (ha : ∀ x ∈ a, x ∈ ws) (hb : ∀ x ∈ b, x ∈ ws) (na : a ≠ []) (nb : b ≠ []) : doLink (ren f g t) (a.map f) (b.map f) = renDone f g (doLink t a b) := by
  unfold doLink
  rw [R.both a b ha hb na nb]
  cases hB : bothOf t a b with
  | no m i => rfl
  | noEnt d1 d2 o => simp only [renBoth, List.length_map]; rfl
  | ok d1 d2 n o =>
    simp only [renBoth, R.kind]
    by_cases h1 : kindOf t n = sD
    · simp only [if_pos h1]; rfl
    · simp only [if_neg h1]
      cases o with
      | some m => rfl
      | none =>
        have e := laidP_ren R.h (cs := [(d2, lastW b, some n)]) (fun c hc => by rw [List.mem_singleton.mp hc]; exact hb _ (lastW_mem nb)) t.2 t.2
        show (laidP (ren f g t).1 [(g d2, lastW (b.map f), some (g n))] t.2, _) = _
        rw [lastW_map nb]
        exact Prod.ext e rfl
theorem RenT.move (R : RenT ws f g t) (a b : List Str) (ha : ∀ x ∈ a, x ∈ ws) (hb : ∀ x ∈ b, x ∈ ws) (na : a ≠ []) (nb : b ≠ []) : doMove (ren f g t) (a.map f) (b.map f) = renDone f g (doMove t a b) := by
  unfold doMove
  rw [R.both a b ha hb na nb]
  cases hB : bothOf t a b with
  | no m i => rfl
  | noEnt d1 d2 o => simp only [renBoth, List.length_map]; rfl
  | ok d1 d2 n o =>
    obtain ⟨_, _, i1, k1, i2, k2, hn, ho⟩ := both_ok R.W hB
    simp only [renBoth, R.barred d2 n o i2 k2]
    cases barredW t d2 n o with
    | some x => rfl
    | none =>
      have e := laidP_ren R.h (cs := [(d1, lastW a, none), (d2, lastW b, some n)]) (fun c hc => by
        rcases List.mem_cons.mp hc with e | hc
        · rw [e]; exact ha _ (lastW_mem na)
        · rw [List.mem_singleton.mp hc]; exact hb _ (lastW_mem nb)) t.2 t.2
      show (laidP (ren f g t).1 [(g d1, lastW (a.map f), none), (g d2, lastW (b.map f), some (g n))] t.2, _) = _
      rw [lastW_map na, lastW_map nb]
      exact Prod.ext e rfl
theorem RenT.swap (R : RenT ws f g t) (a b : List Str) (ha : ∀ x ∈ a, x ∈ ws) (hb : ∀ x ∈ b, x ∈ ws) (na : a ≠ []) (nb : b ≠ []) : doSwap (ren f g t) (a.map f) (b.map f) = renDone f g (doSwap t a b) := by
  unfold doSwap
  rw [R.both a b ha hb na nb]
  cases hB : bothOf t a b with
  | no m i => rfl
  | noEnt d1 d2 o => simp only [renBoth, List.length_map]; rfl
  | ok d1 d2 n o =>
    obtain ⟨_, _, i1, k1, i2, k2, hn, ho⟩ := both_ok R.W hB
    cases o with
    | none => simp only [renBoth, Option.map_none, List.length_map]; rfl
    | some m =>
      simp only [renBoth, Option.map_some]
      by_cases h1 : n = m
      · simp only [if_pos h1, if_pos (show g n = g m by rw [h1])]; rfl
      · have h1' : ¬ g n = g m := fun z => h1 (R.h.gi _ _ z)
        simp only [if_neg h1, if_neg h1', R.inside n d2 i2 k2, R.inside m d1 i1 k1]
        by_cases h2 : (isInside t n d2 || isInside t m d1) = true
        · simp only [if_pos h2]; rfl
        · simp only [if_neg h2]
          have e := laidP_ren R.h (cs := [(d1, lastW a, some m), (d2, lastW b, some n)]) (fun c hc => by
            rcases List.mem_cons.mp hc with e | hc
            · rw [e]; exact ha _ (lastW_mem na)
            · rw [List.mem_singleton.mp hc]; exact hb _ (lastW_mem nb)) t.2 t.2
          show (laidP (ren f g t).1 [(g d1, lastW (a.map f), some (g m)), (g d2, lastW (b.map f), some (g n))] t.2, _) = _
          rw [lastW_map na, lastW_map nb]
          exact Prod.ext e rfl
theorem names_sort {e : Ent} (nd : (e.map (·.1)).Nodup) : (sortE e).map (·.1) = sortW (e.map (·.1)) := by
  have tot := sortLe_total (PyProof.Rows.listOrd PyProof.Rows.itemOrd) false fun b : Str => keyToks (PyData.str b)
  have p1 : (sortW (e.map (·.1))).Pairwise fun a b => dataLe false PyData.str a b = true := List.pairwise_mergeSort (le := dataLe false PyData.str) tot.trans (fun a b => Bool.or_eq_true_iff.mpr (tot.total a b)) _
  have q : ∀ a b : Str, dataLe false PyData.str a b = true ↔ ¬ b.cps.toList < a.cps.toList := fun a b => by
    rw [dataLe_eq]
    show (!dataLt (.str b) (.str a)) = true ↔ _
    rw [dataLt_str]
    simp
  have p2 : ((sortE e).map (·.1)).Pairwise fun a b => dataLe false PyData.str a b = true := List.pairwise_map.mpr ((sortE_rise nd).imp fun h => (q _ _).mpr fun h2 => lt_irr _ (List.lt_trans h h2))
  exact List.Perm.eq_of_pairwise (fun a b _ _ h1 h2 => str_of_cps (List.le_antisymm (List.not_lt.mp ((q _ _).mp h1)) (List.not_lt.mp ((q _ _).mp h2)))) p2 p1 (((sortE_perm e).map _).trans (List.mergeSort_perm _ _).symm)
theorem RenT.list (R : RenT ws f g t) (w : List Str) (hw : ∀ x ∈ w, x ∈ ws) : doList (ren f g t) (w.map f) = renDone f g (doList t w) := by
  have hl : lastN ((Dw.thr t 0 0 w).1.map g) = g (lastN (Dw.thr t 0 0 w).1) := lastN_map (thr_ne _ 0 0)
  unfold doList
  rw [R.thr w hw]
  cases h : (Dw.thr t 0 0 w).2 with
  | some m => simp only [h]; rfl
  | none =>
    simp only [h, hl, R.kind, List.length_map]
    by_cases hs : kindOf t (lastN (Dw.thr t 0 0 w).1) = sS
    · simp only [if_pos hs]; rfl
    · simp only [if_neg hs, R.ent]
      refine Prod.ext rfl ?_
      show Told.names _ = Told.names _
      congr 1
      obtain ⟨r, h1, h2, h3⟩ := rowOf_some (lastN_in R.W w)
      rw [entOf_eq h1]
      unfold renE
      rw [names_sort (R.h.ename h2), List.map_map, List.map_map]
      rfl
theorem RenT.make (R : RenT ws f g t) (w : List Str) (k : Str) (hw : ∀ x ∈ w, x ∈ ws) (nw : w ≠ []) : doMake (ren f g t) (w.map f) k = renDone f g (doMake t w k) := by
  unfold doMake
  rw [R.drawer w hw]
  cases h1 : (drawerOf t w).2 with
  | some m => simp only [h1]; rfl
  | none =>
    simp only [h1, R.entry _ w hw nw]
    cases h2 : entryOf t (drawerOf t w).1 w with
    | some n => rfl
    | none =>
      simp only [Option.map_none]
      let nr : Row := (t.2, k, [])
      have H1 : RenH ws f g (t.1 ++ [nr]) := ⟨R.h.fi, R.h.gi, R.h.g0, List.pairwise_append.mpr ⟨R.h.inc, List.pairwise_singleton _ _, fun a ha b hb => by rw [List.mem_singleton.mp hb]; exact R.W.made a ha⟩, fun r hr => by
        rcases List.mem_append.mp hr with h | h
        · exact R.h.rise r h
        · rw [List.mem_singleton.mp h]; exact List.Pairwise.nil, fun r hr p hp => by
        rcases List.mem_append.mp hr with h | h
        · exact R.h.names r h p hp
        · rw [List.mem_singleton.mp h] at hp; cases hp⟩
      have e0 : (ren f g (t.1 ++ [nr], t.2)).1 = (ren f g t).1 ++ [nr] := by
        show sortR ((t.1 ++ [nr]).map (renR f g)) = sortR (t.1.map (renR f g)) ++ [nr]
        have en : renR f g nr = nr := by
          show (g t.2, k, renE f g []) = (t.2, k, [])
          rw [R.made, renE_nil]
        refine IncR.uniq (sortR_inc H1.ids) ?_ ?_
        · refine List.pairwise_append.mpr ⟨sortR_inc R.h.ids, List.pairwise_singleton _ _, fun a ha b hb => ?_⟩
          rw [List.mem_singleton.mp hb]
          obtain ⟨r, hr, rfl⟩ := List.mem_map.mp ((sortR_perm _).mem_iff.mp ha)
          exact R.lt r hr
        · refine (sortR_perm _).trans ?_
          rw [List.map_append, List.map_cons, List.map_nil, en]
          exact (sortR_perm _).symm.append_right _
      have e := laidP_ren H1 (cs := [((drawerOf t w).1, lastW w, some t.2)]) (fun c hc => by rw [List.mem_singleton.mp hc]; exact hw _ (lastW_mem nw)) t.2 (t.2 + 1)
      rw [e0] at e
      show (laidP ((ren f g t).1 ++ [nr]) [(g (drawerOf t w).1, lastW (w.map f), some t.2)] (t.2 + 1), _) = _
      rw [lastW_map nw]
      have e' : ([((drawerOf t w).1, lastW w, some t.2)] : List Chg).map (renC f g) = [(g (drawerOf t w).1, f (lastW w), some t.2)] := by simp [renC, R.made]
      rw [e'] at e
      exact Prod.ext e rfl
/-- deeds renamed, done on the tree renamed, come to what they come to, renamed -/
theorem RenT.done (R : RenT ws f g t) (dd : Deed) (h : DeedIn ws dd) : doneP (ren f g t) (renDeed f dd) = renDone f g (doneP t dd) := by
  cases dd with
  | look w => exact R.look w h.1
  | list w => exact R.list w h.1
  | make w k => exact R.make w k h.1.1 h.2.1
  | drop w => exact R.drop w h.1.1 h.2
  | link a b => exact R.link a b h.1.1.1 h.2.1.1 h.1.2 h.2.2
  | move a b => exact R.move a b h.1.1.1 h.2.1.1 h.1.2 h.2.2
  | swap a b => exact R.swap a b h.1.1.1 h.2.1.1 h.1.2 h.2.2
end
end Dw
set_option Elab.async false
set_option linter.all false
set_option maxRecDepth 100000
set_option maxHeartbeats 1000000
/-! The plain law: pairs, there and back. -/
namespace Dw
open PySem PySem.W
theorem pick_key {α β : Type} [DecidableEq α] {l : List (α × β)} (nd : (l.map (·.1)).Nodup) {p : α × β} (h : p ∈ l) : (l.find? fun q => decide (q.1 = p.1)) = some p := by
  induction l with
  | nil => cases h
  | cons a l ih =>
    have nd' := List.nodup_cons.mp nd
    rcases List.mem_cons.mp h with z | h
    · subst z
      rw [List.find?_cons_of_pos (by simp)]
    · rw [List.find?_cons_of_neg]
      · exact ih nd'.2 h
      · simp only [decide_eq_true_eq]
        intro z
        exact nd'.1 (by show a.1 ∈ _; rw [z]; exact List.mem_map_of_mem (f := (·.1)) h)
theorem fOf_key {np : NP} (nd : (np.map (·.1)).Nodup) {p : Str × Str} (h : p ∈ np) : fOf np p.1 = p.2 := by
  unfold fOf; rw [pick_key nd h]; rfl
theorem fOf_not {np : NP} {x : Str} (h : ∀ p ∈ np, p.1 ≠ x) : fOf np x = x := by
  unfold fOf
  rw [List.find?_eq_none.mpr fun p hp => by simpa using h p hp]; rfl
theorem gOf_key {np : IP} (nd : (np.map (·.1)).Nodup) {p : Int × Int} (h : p ∈ np) : gOf np p.1 = p.2 := by
  unfold gOf; rw [pick_key nd h]; rfl
theorem gOf_not {np : IP} {x : Int} (h : ∀ p ∈ np, p.1 ≠ x) : gOf np x = x := by
  unfold gOf
  rw [List.find?_eq_none.mpr fun p hp => by simpa using h p hp]; rfl
theorem backN_perm (np : NP) : (backN np).Perm (np.map fun p => (p.2, p.1)) := List.mergeSort_perm _ _
theorem backI_perm (np : IP) : (backI np).Perm (np.map fun p => (p.2, p.1)) := List.mergeSort_perm _ _
theorem backN_nd {np : NP} (h : (np.map (·.2)).Nodup) : ((backN np).map (·.1)).Nodup := by
  refine ((backN_perm np).map _).nodup_iff.mpr ?_
  rw [List.map_map]; exact h
theorem backI_nd {np : IP} (h : (np.map (·.2)).Nodup) : ((backI np).map (·.1)).Nodup := by
  refine ((backI_perm np).map _).nodup_iff.mpr ?_
  rw [List.map_map]; exact h
theorem back_f {ws : List Str} {np : NP} (h : NpIn ws np) {x : Str} (hx : x ∈ ws) : fOf (backN np) (fOf np x) = x := by
  by_cases q : ∃ p ∈ np, p.1 = x
  · obtain ⟨p, hp, rfl⟩ := q
    rw [fOf_key h.nd hp]
    exact fOf_key (p := (p.2, p.1)) (backN_nd h.nd2) ((backN_perm np).mem_iff.mpr (List.mem_map.mpr ⟨p, hp, rfl⟩))
  · have q' : ∀ p ∈ np, p.1 ≠ x := fun p hp e => q ⟨p, hp, e⟩
    rw [fOf_not q']
    refine fOf_not fun r hr => ?_
    obtain ⟨p, hp, rfl⟩ := List.mem_map.mp ((backN_perm np).mem_iff.mp hr)
    rcases h.back x hx with z | z
    · exact absurd z q
    · exact z p hp
theorem back_g {np : IP} (nd : (np.map (·.1)).Nodup) (pm : (np.map (·.1)).Perm (np.map (·.2))) (x : Int) : gOf (backI np) (gOf np x) = x := by
  have nd2 := pm.nodup_iff.mp nd
  by_cases q : ∃ p ∈ np, p.1 = x
  · obtain ⟨p, hp, rfl⟩ := q
    rw [gOf_key nd hp]
    exact gOf_key (p := (p.2, p.1)) (backI_nd nd2) ((backI_perm np).mem_iff.mpr (List.mem_map.mpr ⟨p, hp, rfl⟩))
  · have q' : ∀ p ∈ np, p.1 ≠ x := fun p hp e => q ⟨p, hp, e⟩
    rw [gOf_not q']
    refine gOf_not fun r hr e => ?_
    obtain ⟨p, hp, rfl⟩ := List.mem_map.mp ((backI_perm np).mem_iff.mp hr)
    have : x ∈ np.map (·.1) := pm.mem_iff.mpr (by rw [← e]; exact List.mem_map_of_mem (f := (·.2)) hp)
    obtain ⟨r, hr, e2⟩ := List.mem_map.mp this
    exact q' r hr e2
theorem renT_of {ws : List Str} {t : Tree} {np : NP} {ip : IP} (hT : TreeOk ws t) (hN : NpIn ws np) (hI : IpIn t ip) : RenT ws (fOf np) (gOf ip) t := by
  have mem2 : ∀ p ∈ ip, p.2 ≠ 0 ∧ In t p.2 := fun p hp => by
    have : p.2 ∈ ip.map (·.1) := hI.perm.mem_iff.mpr (List.mem_map_of_mem (f := (·.2)) hp)
    obtain ⟨q, hq, e⟩ := List.mem_map.mp this
    have := hI.keys q hq
    rwa [e] at this
  have made : ∀ n, In t n → n < t.2 := fun n ⟨r, hr, e⟩ => e ▸ hT.1.made r hr
  refine ⟨⟨fun x hx y hy e => ?_, fun a b e => ?_, gOf_not fun p hp => (hI.keys p hp).1, hT.1.inc, hT.1.rise, hT.2.1⟩, hT.1, gOf_not fun p hp e => ?_, fun r hr => ?_⟩
  · have := congrArg (fOf (backN np)) e
    rwa [back_f hN hx, back_f hN hy] at this
  · have := congrArg (gOf (backI ip)) e
    rwa [back_g hI.nd hI.perm, back_g hI.nd hI.perm] at this
  · have := made _ (hI.keys p hp).2
    omega
  · by_cases q : ∃ p ∈ ip, p.1 = r.1
    · obtain ⟨p, hp, e⟩ := q
      rw [← e, gOf_key hI.nd hp]
      exact made _ (mem2 p hp).2
    · rw [gOf_not fun p hp e => q ⟨p, hp, e⟩]
      exact hT.1.made r hr
theorem renE_back {f f' : Str → Str} {g g' : Int → Int} {e : Ent} (hr : Rise e) (hf : ∀ p ∈ e, f' (f p.1) = p.1) (hg : ∀ n, g' (g n) = n) : renE f' g' (renE f g e) = e := by
  have p1 : ((renE f g e).map fun p => (f' p.1, g' p.2)).Perm e := by
    refine ((sortE_perm _).map _).trans ?_
    rw [List.map_map]
    have : e.map ((fun p : Str × Int => (f' p.1, g' p.2)) ∘ fun p => (f p.1, g p.2)) = e := by
      conv => rhs; rw [← List.map_id e]
      refine List.map_congr_left fun p hp => ?_
      show (f' (f p.1), g' (g p.2)) = p
      rw [hf p hp, hg]
    rw [this]
  exact Rise.uniq (sortE_rise ((p1.map _).nodup_iff.mpr hr.nodup)) hr ((sortE_perm _).trans p1)
theorem ren_back {f f' : Str → Str} {g g' : Int → Int} {t : Tree} (hi : IncR t.1) (hr : ∀ r ∈ t.1, Rise r.2.2) (hf : ∀ r ∈ t.1, ∀ p ∈ r.2.2, f' (f p.1) = p.1) (hg : ∀ n, g' (g n) = n) : ren f' g' (ren f g t) = t := by
  have p1 : ((ren f g t).1.map (renR f' g')).Perm t.1 := by
    refine ((sortR_perm _).map _).trans ?_
    rw [List.map_map]
    have : t.1.map (renR f' g' ∘ renR f g) = t.1 := by
      conv => rhs; rw [← List.map_id t.1]
      refine List.map_congr_left fun r hr2 => ?_
      show (g' (g r.1), r.2.1, renE f' g' (renE f g r.2.2)) = r
      rw [hg, renE_back (hr r hr2) (hf r hr2) hg]
    rw [this]
  exact Prod.ext (IncR.uniq (sortR_inc ((p1.map _).nodup_iff.mpr hi.nodup)) hi ((sortR_perm _).trans p1)) rfl
theorem ren_id {t : Tree} (hi : IncR t.1) (hr : ∀ r ∈ t.1, Rise r.2.2) : ren id id t = t := by
  have e : ∀ r ∈ t.1, renR id id r = r := fun r h => by
    show (r.1, r.2.1, sortE (r.2.2.map fun p => p)) = r
    rw [List.map_id', sortE_self (hr r h)]
  have : t.1.map (renR id id) = t.1 := by
    conv => rhs; rw [← List.map_id t.1]
    exact List.map_congr_left e
  exact Prod.ext (by show sortR (t.1.map (renR id id)) = t.1; rw [this, sortR_self hi]) rfl
theorem way_back {f f' : Str → Str} {w : List Str} (h : ∀ x ∈ w, f' (f x) = x) : (w.map f).map f' = w := by
  rw [List.map_map]
  conv => rhs; rw [← List.map_id w]
  exact List.map_congr_left h
theorem deed_back {ws : List Str} {f f' : Str → Str} (h : ∀ x ∈ ws, f' (f x) = x) (dd : Deed) (hd : DeedIn ws dd) : renDeed f' (renDeed f dd) = dd := by
  cases dd with
  | look w => exact congrArg Deed.look (way_back fun x hx => h x (hd.1 x hx))
  | list w => exact congrArg Deed.list (way_back fun x hx => h x (hd.1 x hx))
  | make w k => exact congrArg (Deed.make · k) (way_back fun x hx => h x (hd.1.1 x hx))
  | drop w => exact congrArg Deed.drop (way_back fun x hx => h x (hd.1.1 x hx))
  | link a b => exact congr (congrArg Deed.link (way_back fun x hx => h x (hd.1.1.1 x hx))) (way_back fun x hx => h x (hd.2.1.1 x hx))
  | move a b => exact congr (congrArg Deed.move (way_back fun x hx => h x (hd.1.1.1 x hx))) (way_back fun x hx => h x (hd.2.1.1 x hx))
  | swap a b => exact congr (congrArg Deed.swap (way_back fun x hx => h x (hd.1.1.1 x hx))) (way_back fun x hx => h x (hd.2.1.1 x hx))
theorem deed_ok {ws : List Str} {dd : Deed} (hd : DeedIn ws dd) : DeedOk dd := by
  cases dd with
  | look w => exact Nat.le_trans hd.2 (by decide)
  | list w => exact Nat.le_trans hd.2 (by decide)
  | make w k => exact ⟨hd.2.1, Nat.le_trans hd.1.2 (by decide)⟩
  | drop w => exact ⟨hd.2, Nat.le_trans hd.1.2 (by decide)⟩
  | link a b => exact ⟨⟨hd.1.2, Nat.le_trans hd.1.1.2 (by decide)⟩, hd.2.2, Nat.le_trans hd.2.1.2 (by decide)⟩
  | move a b => exact ⟨⟨hd.1.2, Nat.le_trans hd.1.1.2 (by decide)⟩, hd.2.2, Nat.le_trans hd.2.1.2 (by decide)⟩
  | swap a b => exact ⟨⟨hd.1.2, Nat.le_trans hd.1.1.2 (by decide)⟩, hd.2.2, Nat.le_trans hd.2.1.2 (by decide)⟩
end Dw
set_option Elab.async false
set_option linter.all false
set_option maxRecDepth 100000
set_option maxHeartbeats 1000000
/-! The plain law: what is told keeps its words (draft). -/
namespace Dw
open PySem PySem.W
theorem barred_word {t : Tree} {goal n : Int} {o : Option Int} {x : Str} (h : barredW t goal n o = some x) : wordW x := by
  unfold barredW at h
  split at h
  · cases h; exact Or.inr (Or.inr (Or.inr (Or.inl rfl)))
  · split at h
    · cases h; exact Or.inr (Or.inr (Or.inr (Or.inr rfl)))
    · cases o with
      | none => cases h
      | some m =>
        simp only at h
        split at h
        · cases h; exact Or.inr (Or.inr (Or.inl rfl))
        · split at h
          · cases h; exact Or.inr (Or.inl rfl)
          · cases h
theorem told_ok {t : Tree} (W : WF t) (dd : Deed) : ToldOk (doneP t dd).2 := by
  cases dd with
  | look w =>
    show ToldOk (doLook t w).2
    unfold doLook
    cases h : (thr t 0 0 w).2 <;> simp only [h] <;> exact trivial
  | list w =>
    show ToldOk (doList t w).2
    unfold doList
    cases h : (thr t 0 0 w).2 with
    | some m => simp only [h]; exact trivial
    | none =>
      simp only [h]
      split
      · exact trivial
      · show List.length _ ≤ 100
        rw [List.length_map]
        unfold entOf
        cases q : rowOf t (lastN (thr t 0 0 w).1) with
        | none => exact Nat.zero_le _
        | some r => exact Nat.le_trans (W.fewE r (List.mem_of_find?_eq_some q)) (by decide)
  | make w k =>
    show ToldOk (doMake t w k).2
    unfold doMake
    cases h : (drawerOf t w).2 with
    | some m => simp only [h]; exact trivial
    | none => cases h2 : entryOf t (drawerOf t w).1 w with
      | some n => simp only [h, h2]; exact Or.inl rfl
      | none => simp only [h, h2]; exact trivial
  | drop w =>
    show ToldOk (doDrop t w).2
    unfold doDrop
    cases h : (drawerOf t w).2 with
    | some m => simp only [h]; exact trivial
    | none => cases h2 : entryOf t (drawerOf t w).1 w with
      | none => simp only [h, h2]; exact trivial
      | some n =>
        simp only [h, h2]
        split
        · exact Or.inr (Or.inl rfl)
        · exact Or.inl rfl
  | link a b =>
    show ToldOk (doLink t a b).2
    unfold doLink
    cases bothOf t a b with
    | no m i => exact trivial
    | noEnt d1 d2 o => exact trivial
    | ok d1 d2 n o =>
      simp only
      split
      · exact Or.inr (Or.inr (Or.inl rfl))
      · cases o with
        | some m => exact Or.inl rfl
        | none => exact Or.inr (Or.inl rfl)
  | move a b =>
    show ToldOk (doMove t a b).2
    unfold doMove
    cases bothOf t a b with
    | no m i => exact trivial
    | noEnt d1 d2 o => exact trivial
    | ok d1 d2 n o =>
      cases q : barredW t d2 n o with
      | some x => simp only [q]; exact barred_word q
      | none => simp only [q]; exact Or.inr (Or.inr rfl)
  | swap a b =>
    show ToldOk (doSwap t a b).2
    unfold doSwap
    cases bothOf t a b with
    | no m i => exact trivial
    | noEnt d1 d2 o => exact trivial
    | ok d1 d2 n o =>
      cases o with
      | none => exact trivial
      | some m =>
        simp only
        split
        · exact Or.inr (Or.inr (Or.inr (Or.inl rfl)))
        · split
          · exact Or.inr (Or.inr (Or.inr (Or.inr rfl)))
          · exact trivial
end Dw
set_option Elab.async false
set_option linter.all false
set_option maxRecDepth 100000
set_option maxHeartbeats 1000000
/-! The drawn tree as it is built, in plain Lean: rows in the order in which they came, entries in the order in which they came. -/
namespace Dw
open PySem PySem.W
def putL (L : List Row) (d : Int) (x : Str) (n : Int) : List Row := L.map fun r => if r.1 = d then (r.1, r.2.1, r.2.2 ++ [(x, n)]) else r
structure Bld (ws : List Str) (L : List Row) : Prop where
  top : ∃ e rest, L = (0, sD, e) :: rest
  nd : (L.map (·.1)).Nodup
  rng : ∀ r ∈ L, 0 ≤ r.1 ∧ r.1 ≤ 13
  kinds : ∀ r ∈ L, r.2.1 = sD ∨ (r.2.1 = sS ∧ r.2.2 = [])
  ents : ∀ r ∈ L, (r.2.2.map (·.1)).Nodup
  names : ∀ r ∈ L, ∀ p ∈ r.2.2, p.1 ∈ ws
  to : ∀ (i : Nat) (r : Row), L[i]? = some r → ∀ p ∈ r.2.2, ∃ (j : Nat) (q : Row), L[j]? = some q ∧ q.1 = p.2 ∧ (i < j ∨ q.2.1 = sS)
  held : ∀ r ∈ L, r.1 ≠ 0 → hold L r.1 ≠ []
  one : ∀ r ∈ L, r.2.1 = sD → (hold L r.1).length ≤ 1
section
variable {ws : List Str} {L : List Row} {d n : Int} {x : Str}
theorem putL_ids : (putL L d x n).map (·.1) = L.map (·.1) := by
  unfold putL
  rw [List.map_map]
  refine List.map_congr_left fun r _ => ?_
  show (if r.1 = d then (r.1, r.2.1, r.2.2 ++ [(x, n)]) else r).1 = r.1
  split <;> rfl
theorem putL_len : (putL L d x n).length = L.length := List.length_map _
theorem putL_mem {r : Row} (h : r ∈ putL L d x n) : ∃ q ∈ L, (q.1 = d ∧ r = (q.1, q.2.1, q.2.2 ++ [(x, n)])) ∨ (q.1 ≠ d ∧ r = q) := by
  obtain ⟨q, hq, e⟩ := List.mem_map.mp h
  by_cases z : q.1 = d
  · rw [if_pos z] at e; exact ⟨q, hq, .inl ⟨z, e.symm⟩⟩
  · rw [if_neg z] at e; exact ⟨q, hq, .inr ⟨z, e.symm⟩⟩
theorem putL_get {i : Nat} {r : Row} (h : (putL L d x n)[i]? = some r) : ∃ q, L[i]? = some q ∧ ((q.1 = d ∧ r = (q.1, q.2.1, q.2.2 ++ [(x, n)])) ∨ (q.1 ≠ d ∧ r = q)) := by
  unfold putL at h
  rw [List.getElem?_map] at h
  cases e : L[i]? with
  | none => rw [e] at h; cases h
  | some q =>
    rw [e] at h
    by_cases z : q.1 = d
    · simp only [Option.map_some, if_pos z] at h; cases h; exact ⟨q, rfl, .inl ⟨z, rfl⟩⟩
    · simp only [Option.map_some, if_neg z] at h; cases h; exact ⟨_, rfl, .inr ⟨z, rfl⟩⟩
theorem putL_get' {i : Nat} {q : Row} (h : L[i]? = some q) : ∃ r, (putL L d x n)[i]? = some r ∧ r.1 = q.1 ∧ r.2.1 = q.2.1 := by
  unfold putL
  rw [List.getElem?_map, h]
  by_cases z : q.1 = d
  · exact ⟨_, rfl, by simp only [if_pos z], by simp only [if_pos z]⟩
  · exact ⟨_, rfl, by simp only [if_neg z], by simp only [if_neg z]⟩
theorem hold_mem {L : List Row} {n p : Int} : p ∈ hold L n ↔ ∃ r ∈ L, ∃ q ∈ r.2.2, q.2 = n ∧ r.1 = p := by
  unfold hold
  rw [List.mem_flatMap]
  constructor
  · rintro ⟨r, hr, h⟩
    obtain ⟨q, hq, e⟩ := List.mem_map.mp h
    obtain ⟨h1, h2⟩ := List.mem_filter.mp hq
    exact ⟨r, hr, q, h1, of_decide_eq_true h2, e⟩
  · rintro ⟨r, hr, q, hq, h1, h2⟩
    exact ⟨r, hr, List.mem_map.mpr ⟨q, List.mem_filter.mpr ⟨hq, decide_eq_true h1⟩, h2⟩⟩
theorem hold_put_ne {m : Int} (h : m ≠ n) : hold (putL L d x n) m = hold L m := by
  unfold hold putL
  rw [List.flatMap_map]
  congr 1
  funext r
  by_cases z : r.1 = d
  · simp only [if_pos z, List.filter_append]
    rw [List.filter_cons_of_neg (by simpa using fun e => h e.symm)]
    simp
  · simp only [if_neg z]
theorem hold_put_len : (hold (putL L d x n) n).length ≤ (hold L n).length + (L.map (·.1)).count d := by
  induction L with
  | nil => exact Nat.zero_le _
  | cons r L ih =>
    have e1 : hold (putL (r :: L) d x n) n = ((if r.1 = d then (r.1, r.2.1, r.2.2 ++ [(x, n)]) else r).2.2.filter fun p => decide (p.2 = n)).map (fun _ => (if r.1 = d then (r.1, r.2.1, r.2.2 ++ [(x, n)]) else r).1) ++ hold (putL L d x n) n := rfl
    have e2 : hold (r :: L) n = (r.2.2.filter fun p => decide (p.2 = n)).map (fun _ => r.1) ++ hold L n := rfl
    rw [e1, e2, List.length_append, List.length_append, List.map_cons, List.count_cons]
    by_cases z : r.1 = d
    · simp only [if_pos z, List.length_map, List.filter_append, List.length_append]
      have : (List.filter (fun p : Str × Int => decide (p.2 = n)) [(x, n)]).length = 1 := by simp
      rw [this]
      have : (r.1 == d) = true := by simpa using z
      rw [this]
      simp only [if_pos]
      omega
    · simp only [if_neg z, List.length_map]
      omega
theorem Bld.count (B : Bld ws L) : (L.map (·.1)).count d ≤ 1 := List.nodup_iff_count.mp B.nd d
theorem Bld.idx (B : Bld ws L) {i j : Nat} {r q : Row} (h1 : L[i]? = some r) (h2 : L[j]? = some q) (e : r.1 = q.1) : i = j := by
  obtain ⟨a1, a2⟩ := List.getElem?_eq_some_iff.mp h1
  obtain ⟨b1, b2⟩ := List.getElem?_eq_some_iff.mp h2
  exact (List.getElem_inj B.nd (h₀ := by simpa using a1) (h₁ := by simpa using b1)).mp (by simp [a2, b2, e])
theorem Bld.uniq (B : Bld ws L) {r q : Row} (h1 : r ∈ L) (h2 : q ∈ L) (e : r.1 = q.1) : r = q := by
  obtain ⟨i, hi⟩ := List.mem_iff_getElem?.mp h1
  obtain ⟨j, hj⟩ := List.mem_iff_getElem?.mp h2
  have := B.idx hi hj e
  subst this
  rw [hi] at hj; cases hj; rfl
theorem Bld.hold_new (B : Bld ws L) (h : ∀ r ∈ L, r.1 ≠ n) : hold L n = [] := by
  cases e : hold L n with
  | nil => rfl
  | cons p ps =>
    obtain ⟨r, hr, q, hq, h1, _⟩ := hold_mem.mp (e ▸ List.mem_cons_self : p ∈ hold L n)
    obtain ⟨i, hi⟩ := List.mem_iff_getElem?.mp hr
    obtain ⟨j, q2, h2, h3, _⟩ := B.to i r hi q hq
    exact absurd (h3.trans h1) (h q2 (List.mem_of_getElem? h2))
/-- a further name of a node that is there, or comes now -/
theorem Bld.put (B : Bld ws L) {r0 : Row} (h0 : r0 ∈ L) (hk : r0.2.1 = sD) (hx : x ∈ ws) (hn : ∀ p ∈ r0.2.2, p.1 ≠ x) {q0 : Row} {i0 j0 : Nat} (hi0 : L[i0]? = some r0) (hj0 : L[j0]? = some q0) (hq : q0.1 = n) (ho : i0 < j0 ∨ q0.2.1 = sS)
    (h1 : q0.2.1 = sD → hold L n = []) : Bld ws (putL L r0.1 x n) := by
  have n0 : n ≠ 0 := fun z => by
    obtain ⟨e, rest, ht⟩ := B.top
    have hz : L[0]? = some (0, sD, e) := by rw [ht]; rfl
    have := B.idx hj0 hz (hq.trans z)
    subst this
    rw [hz] at hj0
    cases hj0
    rcases ho with h | h
    · omega
    · exact absurd h (show ¬ sD = sS by decide)
  refine ⟨?_, (by rw [putL_ids]; exact B.nd), fun r hr => ?_, fun r hr => ?_, fun r hr => ?_, fun r hr p hp => ?_, fun i r hi p hp => ?_, fun r hr hz => ?_, fun r hr hz => ?_⟩
  · obtain ⟨e, rest, ht⟩ := B.top
    by_cases z : (0 : Int) = r0.1
    · exact ⟨e ++ [(x, n)], putL rest r0.1 x n, by rw [ht]; unfold putL; rw [List.map_cons, if_pos z]⟩
    · exact ⟨e, putL rest r0.1 x n, by rw [ht]; unfold putL; rw [List.map_cons, if_neg z]⟩
  · obtain ⟨q, hq, ⟨_, e⟩ | ⟨_, e⟩⟩ := putL_mem hr
    · rw [e]; exact B.rng q hq
    · rw [e]; exact B.rng q hq
  · obtain ⟨q, hq, ⟨z, e⟩ | ⟨_, e⟩⟩ := putL_mem hr
    · have := B.uniq hq h0 z
      subst this
      rw [e]; exact .inl hk
    · rw [e]; exact B.kinds q hq
  · obtain ⟨q, hq, ⟨z, e⟩ | ⟨_, e⟩⟩ := putL_mem hr
    · have := B.uniq hq h0 z
      subst this
      rw [e]
      show ((q.2.2 ++ [(x, n)]).map (·.1)).Nodup
      rw [List.map_append]
      refine List.nodup_append.mpr ⟨B.ents q hq, by simp, fun a ha b hb e => ?_⟩
      obtain ⟨p, hp, rfl⟩ := List.mem_map.mp ha
      simp at hb
      exact hn p hp (e.trans hb)
    · rw [e]; exact B.ents q hq
  · obtain ⟨q, hq, ⟨z, e⟩ | ⟨_, e⟩⟩ := putL_mem hr
    · rw [e] at hp
      rcases List.mem_append.mp hp with h | h
      · exact B.names q hq p h
      · rw [List.mem_singleton.mp h]; exact hx
    · rw [e] at hp; exact B.names q hq p hp
  · have key : ∀ (q : Row), L[i]? = some q → ∀ p ∈ q.2.2, ∃ (j : Nat) (q : Row), (putL L r0.1 x n)[j]? = some q ∧ q.1 = p.2 ∧ (i < j ∨ q.2.1 = sS) := fun q hq p hp => by
      obtain ⟨j, q2, a1, a2, a3⟩ := B.to i q hq p hp
      obtain ⟨r2, b1, b2, b3⟩ := putL_get' (d := r0.1) (x := x) (n := n) a1
      exact ⟨j, r2, b1, b2.trans a2, a3.imp id fun h => b3.trans h⟩
    obtain ⟨q, hq2, ⟨z, e⟩ | ⟨_, e⟩⟩ := putL_get hi
    · rw [e] at hp
      rcases List.mem_append.mp hp with h | h
      · exact key q hq2 p h
      · rw [List.mem_singleton.mp h]
        have := B.idx hq2 hi0 z
        subst this
        obtain ⟨r2, b1, b2, b3⟩ := putL_get' (d := r0.1) (x := x) (n := n) hj0
        exact ⟨j0, r2, b1, b2.trans hq, ho.imp id fun h => b3.trans h⟩
    · rw [e] at hp; exact key q hq2 p hp
  · obtain ⟨q, hq2, e1, e2⟩ : ∃ q ∈ L, r.1 = q.1 ∧ r.2.1 = q.2.1 := by
      obtain ⟨q, hq, ⟨_, e⟩ | ⟨_, e⟩⟩ := putL_mem hr
      · exact ⟨q, hq, by rw [e], by rw [e]⟩
      · exact ⟨q, hq, by rw [e], by rw [e]⟩
    by_cases z : r.1 = n
    · rw [z]
      intro h
      have : r0.1 ∈ hold (putL L r0.1 x n) n := hold_mem.mpr ⟨(r0.1, r0.2.1, r0.2.2 ++ [(x, n)]), List.mem_map.mpr ⟨r0, h0, if_pos rfl⟩, (x, n), by simp, rfl, rfl⟩
      rw [h] at this; cases this
    · rw [hold_put_ne z, e1]
      exact B.held q hq2 (e1 ▸ hz)
  · obtain ⟨q, hq2, e1, e2⟩ : ∃ q ∈ L, r.1 = q.1 ∧ r.2.1 = q.2.1 := by
      obtain ⟨q, hq, ⟨_, e⟩ | ⟨_, e⟩⟩ := putL_mem hr
      · exact ⟨q, hq, by rw [e], by rw [e]⟩
      · exact ⟨q, hq, by rw [e], by rw [e]⟩
    by_cases z : r.1 = n
    · have : q = q0 := B.uniq hq2 (List.mem_of_getElem? hj0) (by rw [← e1, z, hq])
      rw [z]
      have h2 := hold_put_len (L := L) (d := r0.1) (x := x) (n := n)
      rw [h1 (by rw [← this, ← e2]; exact hz)] at h2
      have := B.count (d := r0.1)
      simp at h2
      omega
    · rw [hold_put_ne z, e1]
      exact B.one q hq2 (e2 ▸ hz)
/-- as long as the rows behind the new one are those ahead -/
theorem hold_snoc {k : Str} {m : Int} : hold (L ++ [(n, k, [])]) m = hold L m := by
  unfold hold
  rw [List.flatMap_append]
  simp
/-- the build, with a node that comes -/
theorem Bld.add (B : Bld ws L) {r0 : Row} (h0 : r0 ∈ L) (hk : r0.2.1 = sD) (hx : x ∈ ws) (hn : ∀ p ∈ r0.2.2, p.1 ≠ x) {k : Str} (hkk : k = sD ∨ k = sS) (hnew : ∀ r ∈ L, r.1 ≠ n) (hr : 1 ≤ n ∧ n ≤ 13) : Bld ws (putL (L ++ [(n, k, [])]) r0.1 x n) := by
  have top0 : ∃ e rest, L ++ [(n, k, ([] : Ent))] = (0, sD, e) :: rest := by
    obtain ⟨e, rest, ht⟩ := B.top
    exact ⟨e, rest ++ [(n, k, [])], by rw [ht]; rfl⟩
  -- all but that it is held
  let M := L ++ [(n, k, ([] : Ent))]
  have nd : (M.map (·.1)).Nodup := by
    show ((L ++ [(n, k, ([] : Ent))]).map (·.1)).Nodup
    rw [List.map_append]
    refine List.nodup_append.mpr ⟨B.nd, by simp, fun a ha b hb e => ?_⟩
    obtain ⟨r, hr, rfl⟩ := List.mem_map.mp ha
    simp at hb
    exact hnew r hr (e.trans hb)
  have mem : ∀ r ∈ M, r ∈ L ∨ r = (n, k, []) := fun r hr => by
    rcases List.mem_append.mp hr with h | h
    · exact .inl h
    · exact .inr (List.mem_singleton.mp h)
  have getL : ∀ {i : Nat} {r : Row}, L[i]? = some r → M[i]? = some r := fun {i r} h => by
    have := (List.getElem?_eq_some_iff.mp h).1
    show (L ++ _)[i]? = some r
    rw [List.getElem?_append_left this]; exact h
  have getM : ∀ {i : Nat} {r : Row}, M[i]? = some r → L[i]? = some r ∨ (i = L.length ∧ r = (n, k, [])) := fun {i r} h => by
    have h' : (L ++ [(n, k, ([] : Ent))])[i]? = some r := h
    by_cases z : i < L.length
    · rw [List.getElem?_append_left z] at h'; exact .inl h'
    · rw [List.getElem?_append_right (by omega)] at h'
      by_cases z2 : i = L.length
      · subst z2
        simp at h'
        exact .inr ⟨rfl, h'.symm⟩
      · have : i - L.length ≠ 0 := by omega
        obtain ⟨m, hm⟩ := Nat.exists_eq_succ_of_ne_zero this
        rw [hm] at h'
        simp at h'
  have idx : ∀ {i j : Nat} {r q : Row}, M[i]? = some r → M[j]? = some q → r.1 = q.1 → i = j := fun {i j r q} h1 h2 e => by
    obtain ⟨a1, a2⟩ := List.getElem?_eq_some_iff.mp h1
    obtain ⟨b1, b2⟩ := List.getElem?_eq_some_iff.mp h2
    exact (List.getElem_inj nd (h₀ := by simpa using a1) (h₁ := by simpa using b1)).mp (by simp [a2, b2, e])
  have uniq : ∀ {r q : Row}, r ∈ M → q ∈ M → r.1 = q.1 → r = q := fun {r q} h1 h2 e => by
    obtain ⟨i, hi⟩ := List.mem_iff_getElem?.mp h1
    obtain ⟨j, hj⟩ := List.mem_iff_getElem?.mp h2
    have := idx hi hj e
    subst this
    rw [hi] at hj; cases hj; rfl
  have h0M : r0 ∈ M := List.mem_append_left _ h0
  have hNM : (n, k, ([] : Ent)) ∈ M := List.mem_append_right _ List.mem_cons_self
  have hd0 : r0.1 ≠ n := hnew r0 h0
  obtain ⟨i0, hi0⟩ := List.mem_iff_getElem?.mp h0
  have hi0l := (List.getElem?_eq_some_iff.mp hi0).1
  have sub : ∀ r ∈ putL M r0.1 x n, ∃ q ∈ M, r.1 = q.1 ∧ r.2.1 = q.2.1 ∧ (r = q ∨ (q = r0 ∧ r.2.2 = r0.2.2 ++ [(x, n)])) := fun r hr => by
    obtain ⟨q, hq, ⟨z, e⟩ | ⟨_, e⟩⟩ := putL_mem hr
    · have := uniq hq h0M z
      subst this
      exact ⟨q, hq, by rw [e], by rw [e], .inr ⟨rfl, by rw [e]⟩⟩
    · exact ⟨q, hq, by rw [e], by rw [e], .inl e⟩
  refine ⟨?_, (by rw [putL_ids]; exact nd), fun r hr2 => ?_, fun r hr2 => ?_, fun r hr2 => ?_, fun r hr2 p hp => ?_, fun i r hi p hp => ?_, fun r hr2 hz => ?_, fun r hr2 hz => ?_⟩
  · obtain ⟨e, rest, ht⟩ := top0
    by_cases z : (0 : Int) = r0.1
    · exact ⟨e ++ [(x, n)], putL rest r0.1 x n, by rw [ht]; unfold putL; rw [List.map_cons, if_pos z]⟩
    · exact ⟨e, putL rest r0.1 x n, by rw [ht]; unfold putL; rw [List.map_cons, if_neg z]⟩
  · obtain ⟨q, hq, e1, _, _⟩ := sub r hr2
    rw [e1]
    rcases mem q hq with h | h
    · exact B.rng q h
    · rw [h]; show 0 ≤ n ∧ n ≤ 13; omega
  · obtain ⟨q, hq, e1, e2, e3⟩ := sub r hr2
    rcases e3 with rfl | ⟨rfl, _⟩
    · rcases mem r hq with h | h
      · exact B.kinds r h
      · rw [h]; exact hkk.imp id fun h => ⟨h, rfl⟩
    · exact .inl (e2.trans hk)
  · obtain ⟨q, hq, e1, e2, e3⟩ := sub r hr2
    rcases e3 with rfl | ⟨rfl, e3⟩
    · rcases mem r hq with h | h
      · exact B.ents r h
      · rw [h]; simp
    · rw [e3, List.map_append]
      refine List.nodup_append.mpr ⟨B.ents q h0, by simp, fun a ha b hb e => ?_⟩
      obtain ⟨p, hp, rfl⟩ := List.mem_map.mp ha
      simp at hb
      exact hn p hp (e.trans hb)
  · obtain ⟨q, hq, e1, e2, e3⟩ := sub r hr2
    rcases e3 with rfl | ⟨rfl, e3⟩
    · rcases mem r hq with h | h
      · exact B.names r h p hp
      · rw [h] at hp; cases hp
    · rw [e3] at hp
      rcases List.mem_append.mp hp with h | h
      · exact B.names q h0 p h
      · rw [List.mem_singleton.mp h]; exact hx
  · have key : ∀ (q : Row), M[i]? = some q → ∀ p ∈ q.2.2, ∃ (j : Nat) (q : Row), (putL M r0.1 x n)[j]? = some q ∧ q.1 = p.2 ∧ (i < j ∨ q.2.1 = sS) := fun q hq p hp => by
      rcases getM hq with h | ⟨_, h⟩
      · obtain ⟨j, q2, a1, a2, a3⟩ := B.to i q h p hp
        obtain ⟨r2, b1, b2, b3⟩ := putL_get' (L := M) (d := r0.1) (x := x) (n := n) (getL a1)
        exact ⟨j, r2, b1, b2.trans a2, a3.imp id fun h => b3.trans h⟩
      · rw [h] at hp; cases hp
    obtain ⟨q, hq2, ⟨z, e⟩ | ⟨_, e⟩⟩ := putL_get hi
    · rw [e] at hp
      rcases List.mem_append.mp hp with h | h
      · exact key q hq2 p h
      · rw [List.mem_singleton.mp h]
        have := idx hq2 (getL hi0) z
        subst this
        obtain ⟨r2, b1, b2, b3⟩ := putL_get' (L := M) (i := L.length) (q := (n, k, [])) (d := r0.1) (x := x) (n := n) (by show (L ++ _)[L.length]? = _; simp)
        exact ⟨L.length, r2, b1, b2, .inl hi0l⟩
    · rw [e] at hp; exact key q hq2 p hp
  · obtain ⟨q, hq2, e1, e2, _⟩ := sub r hr2
    by_cases z : r.1 = n
    · rw [z]
      intro h
      have : r0.1 ∈ hold (putL M r0.1 x n) n := hold_mem.mpr ⟨(r0.1, r0.2.1, r0.2.2 ++ [(x, n)]), List.mem_map.mpr ⟨r0, h0M, if_pos rfl⟩, (x, n), by simp, rfl, rfl⟩
      rw [h] at this; cases this
    · rw [hold_put_ne z, e1, hold_snoc]
      rcases mem q hq2 with h | h
      · exact B.held q h (e1 ▸ hz)
      · exact absurd (by rw [e1, h]) z
  · obtain ⟨q, hq2, e1, e2, _⟩ := sub r hr2
    by_cases z : r.1 = n
    · rw [z]
      have h2 := hold_put_len (L := M) (d := r0.1) (x := x) (n := n)
      rw [hold_snoc, B.hold_new hnew] at h2
      have h3 : (M.map (·.1)).count r0.1 ≤ 1 := List.nodup_iff_count.mp nd r0.1
      rw [List.length_nil] at h2
      exact Nat.le_trans h2 (by omega)
    · rw [hold_put_ne z, e1, hold_snoc]
      rcases mem q hq2 with h | h
      · exact B.one q h (e2 ▸ hz)
      · exact absurd (by rw [e1, h]) z
theorem nodup_len {α : Type} [DecidableEq α] : ∀ {l ws : List α}, l.Nodup → (∀ x ∈ l, x ∈ ws) → l.length ≤ ws.length
  | [], _, _, _ => Nat.zero_le _
  | a :: l, ws, nd, h => by
    have nd' := List.nodup_cons.mp nd
    have ha := h a List.mem_cons_self
    have := nodup_len (l := l) (ws := ws.erase a) nd'.2 fun x hx => (List.mem_erase_of_ne (fun z => nd'.1 (by rw [← z]; exact hx))).mpr (h x (List.mem_cons_of_mem _ hx))
    rw [List.length_erase_of_mem ha] at this
    have := List.length_pos_of_mem ha
    rw [List.length_cons]
    omega
theorem Bld.entl (B : Bld ws L) {r : Row} (hr : r ∈ L) : r.2.2.length ≤ ws.length := by
  have := nodup_len (B.ents r hr) fun x hx => by
    obtain ⟨p, hp, rfl⟩ := List.mem_map.mp hx
    exact B.names r hr p hp
  rwa [List.length_map] at this
theorem bld0 : Bld ws [(0, sD, [])] := ⟨⟨[], [], rfl⟩, by simp, by simp, by simp, by simp, by simp, (fun i r h p hp => by
  have := List.mem_of_getElem? h
  rw [List.mem_singleton.mp this] at hp
  cases hp), by simp, by simp [hold]⟩
end
end Dw
set_option Elab.async false
set_option linter.all false
set_option maxRecDepth 100000
set_option maxHeartbeats 1000000
/-! The drawn tree is a tree. -/
namespace Dw
open PySem PySem.W
section
variable {ws : List Str} {L : List Row} {made : Int}
abbrev sortT (L : List Row) (made : Int) : Tree := ren id id (L, made)
theorem sortT_mem {r : Row} : r ∈ (sortT L made).1 ↔ ∃ q ∈ L, renR id id q = r := by
  show r ∈ sortR (L.map (renR id id)) ↔ _
  rw [(sortR_perm _).mem_iff, List.mem_map]
theorem renE_id {e : Ent} : renE id id e = sortE e := by
  unfold renE
  show sortE (e.map fun p => p) = _
  rw [List.map_id']
theorem renE_mem {e : Ent} {p : Str × Int} : p ∈ renE id id e ↔ p ∈ e := by rw [renE_id, (sortE_perm e).mem_iff]
theorem sortT_hold (n : Int) : (hold (sortT L made).1 n).Perm (hold L n) := by
  have h1 := (hold_perm (sortR_perm (L.map (renR id id))) n).trans (hold_map (f := id) (g := id) L (fun _ _ h => h) n)
  rwa [List.map_id] at h1
theorem tree_of_bld (B : Bld ws L) (W : WordsOk ws) (hl : L.length ≤ 11) (hm : ∀ r ∈ L, r.1 < made) (h40 : made ≤ 40) : TreeOk ws (sortT L made) := by
  have nd' : ((L.map (renR id id)).map (·.1)).Nodup := by rw [List.map_map]; exact B.nd
  have inc : IncR (sortT L made).1 := sortR_inc nd'
  have entl : ∀ q ∈ L, q.2.2.length ≤ 8 := fun q hq => by
    exact Nat.le_trans (B.entl hq) W.eight
  have entl' : ∀ r ∈ (sortT L made).1, r.2.2.length ≤ 8 := fun r hr => by
    obtain ⟨q, hq, rfl⟩ := sortT_mem.mp hr
    show (renE id id q.2.2).length ≤ 8
    rw [renE_id, (sortE_perm _).length_eq]
    exact entl q hq
  have len : (sortT L made).1.length = L.length := by
    show (sortR (L.map (renR id id))).length = _
    rw [(sortR_perm _).length_eq, List.length_map]
  obtain ⟨e0, rest0, ht⟩ := B.top
  have h0L : ((0, sD, e0) : Row) ∈ L := by rw [ht]; exact List.mem_cons_self
  have to' : ∀ q ∈ L, ∀ p ∈ q.2.2, p.2 ≠ 0 ∧ ∃ s ∈ L, s.1 = p.2 := fun q hq p hp => by
    obtain ⟨i, hi⟩ := List.mem_iff_getElem?.mp hq
    obtain ⟨j, s, a1, a2, a3⟩ := B.to i q hi p hp
    refine ⟨fun z => ?_, s, List.mem_of_getElem? a1, a2⟩
    have hz : L[0]? = some (0, sD, e0) := by rw [ht]; rfl
    have := B.idx a1 hz (a2.trans z)
    subst this
    rw [hz] at a1
    cases a1
    rcases a3 with h | h
    · omega
    · exact absurd h (show ¬ sD = sS by decide)
  refine ⟨⟨inc, fun r hr => ?_, fun r hr => ?_, fun r hr => ?_, fun r hr p hp => ?_, ?_, fun r hr => ?_, fun r hr p hp => ?_, ?_, fun r hr hz => ?_, fun r hr hz => ?_, by rw [len]; omega, fun r hr => Nat.le_trans (entl' r hr) (by decide)⟩, fun r hr p hp => ?_, by rw [len]; exact hl, entl', h40⟩
  · obtain ⟨q, hq, rfl⟩ := sortT_mem.mp hr
    exact (B.rng q hq).1
  · obtain ⟨q, hq, rfl⟩ := sortT_mem.mp hr
    rcases B.kinds q hq with h | ⟨h1, h2⟩
    · exact .inl h
    · refine .inr ⟨h1, ?_⟩
      show renE id id q.2.2 = []
      rw [h2]; exact renE_nil
  · obtain ⟨q, hq, rfl⟩ := sortT_mem.mp hr
    show (renE id id q.2.2).Pairwise _
    rw [renE_id]
    exact sortE_rise (B.ents q hq)
  · obtain ⟨q, hq, rfl⟩ := sortT_mem.mp hr
    obtain ⟨h1, s, hs, h2⟩ := to' q hq p (renE_mem.mp hp)
    exact ⟨h1, _, sortT_mem.mpr ⟨s, hs, rfl⟩, h2⟩
  · have hmem : ((0, sD, renE id id e0) : Row) ∈ (sortT L made).1 := sortT_mem.mpr ⟨_, h0L, rfl⟩
    cases hc : (sortT L made).1 with
    | nil => rw [hc] at hmem; cases hmem
    | cons a rest =>
      rw [hc] at hmem
      rcases List.mem_cons.mp hmem with e | hmem
      · exact ⟨renE id id e0, rest, by rw [← e]⟩
      · have hi := inc
        rw [hc] at hi
        have h1 := (List.pairwise_cons.mp hi).1 _ hmem
        have ha : a ∈ (sortT L made).1 := by rw [hc]; exact List.mem_cons_self
        obtain ⟨q, hq, rfl⟩ := sortT_mem.mp ha
        have h2 := (B.rng q hq).1
        have h3 : q.1 < 0 := h1
        omega
  · obtain ⟨q, hq, rfl⟩ := sortT_mem.mp hr
    exact hm q hq
  · obtain ⟨q, hq, rfl⟩ := sortT_mem.mp hr
    exact W.names _ (B.names q hq p (renE_mem.mp hp))
  · -- ranks
    let rk : Int → Nat := fun n => if kindOf (L, made) n = sS then 40 else (L.map (·.1)).idxOf n
    have hidx : ∀ n, (L.map (·.1)).idxOf n ≤ 11 := fun n => by
      have := List.idxOf_le_length (l := L.map (·.1)) (a := n)
      rw [List.length_map] at this
      omega
    have kind : ∀ {i : Nat} {q : Row}, L[i]? = some q → kindOf (L, made) q.1 = q.2.1 ∧ (L.map (·.1)).idxOf q.1 = i := fun {i q} h => by
      have hq := List.mem_of_getElem? h
      refine ⟨?_, ?_⟩
      · unfold kindOf rowOf
        have : (L.find? fun r => decide (r.1 = q.1)) = some q := by
          cases e : L.find? fun r => decide (r.1 = q.1) with
          | none => exact absurd (List.find?_eq_none.mp e q hq) (by simp)
          | some r =>
            have h1 := List.mem_of_find?_eq_some e
            have h2 : r.1 = q.1 := by simpa using List.find?_some e
            rw [B.uniq h1 hq h2]
        show ((List.find? _ L).map _).getD sD = _
        rw [this]; rfl
      · obtain ⟨a1, a2⟩ := List.getElem?_eq_some_iff.mp h
        have := List.Nodup.idxOf_getElem B.nd i (by simpa using a1)
        simpa [a2] using this
    refine ⟨rk, fun n => ?_, fun r hr p hp => ?_⟩
    · show (if _ then 40 else _) ≤ 50
      have := hidx n
      split <;> omega
    · obtain ⟨q, hq, rfl⟩ := sortT_mem.mp hr
      have hp' : p ∈ q.2.2 := renE_mem.mp hp
      obtain ⟨i, hi⟩ := List.mem_iff_getElem?.mp hq
      obtain ⟨j, s, a1, a2, a3⟩ := B.to i q hi p hp'
      obtain ⟨k1, x1⟩ := kind hi
      obtain ⟨k2, x2⟩ := kind a1
      have kd : q.2.1 = sD := by
        rcases B.kinds q hq with h | ⟨_, h⟩
        · exact h
        · rw [h] at hp'; cases hp'
      have il : i < 11 := Nat.lt_of_lt_of_le (List.getElem?_eq_some_iff.mp hi).1 hl
      have e1 : rk q.1 = i := by
        show (if kindOf (L, made) q.1 = sS then 40 else _) = i
        rw [if_neg (by rw [k1, kd]; decide), x1]
      show rk q.1 < rk p.2
      rw [e1, ← a2]
      show i < if kindOf (L, made) s.1 = sS then 40 else (L.map (·.1)).idxOf s.1
      rw [k2, x2]
      split
      · omega
      · next h => exact a3.resolve_right h
  · obtain ⟨q, hq, rfl⟩ := sortT_mem.mp hr
    intro h
    have := sortT_hold (L := L) (made := made) q.1
    rw [show hold (sortT L made).1 q.1 = [] from h] at this
    exact B.held q hq hz (List.Perm.eq_nil this.symm)
  · obtain ⟨q, hq, rfl⟩ := sortT_mem.mp hr
    have := (sortT_hold (L := L) (made := made) q.1).length_eq
    show (hold (sortT L made).1 q.1).length ≤ 1
    rw [this]
    exact B.one q hq hz
  · obtain ⟨q, hq, rfl⟩ := sortT_mem.mp hr
    exact B.names q hq p (renE_mem.mp hp)
end
end Dw
set_option Elab.async false
set_option linter.all false
set_option maxRecDepth 100000
set_option maxHeartbeats 1000000
/-! Rules for the drawn tree: own dicts walked under a lock, dicts of own dicts. -/
namespace Dw
open PySem PySem.Spec PyProof.Rows L2
section
variable {K : PySem.W.Frag} {δ δ1 : Dl} {own own' : Own} {O : OutO} {ts us : TS} {tl tk ty tv td : TE} {tA : TA} {tt : TT} {E : XK} {te ta tb : TE} {d x y : PyData} {P P2 : PyData → Prop} {hs : List Addr} {σ : St} {H : Hp} {vs : List Nat} {wi : TI} {g : TG} {fz : Fz}
theorem RunO.perm (p : own.Perm own') (h : RunO K ts δ own' O) : RunO K ts δ own O := fun hs Z H0 D σ H b S f => h hs Z H0 D σ H (b.perm p) (S.perm p) f
theorem runO_nd (h : (ads own).Nodup → RunO K ts δ own O) : RunO K ts δ own O := fun hs Z H0 D σ H b S f => h S.nd hs Z H0 D σ H b S f
theorem wlk_keysF {i b : Nat} (mb : b ∈ vs) {E : Addr} {od : Obj} {ws : List (Key × V)} {kvs : List (Key × SD)} (hi : δ[i]? = some (some (.v (.ref E)))) (hm : (E, .frz od (.dK ws)) ∈ fz) (hk : ∀ G, SlK K G kvs ws) :
    WlkF K fz vs (iKeys (tVar i)) (gName b) δ kvs.length (fun j δa δb => ∀ k s, kvs[j]? = some (k, s) → δb = δa.set b (some (.d (kD k)))) := fun hs σ H hh hz S RR q => by
  have hl := (hk H).length
  obtain ⟨u, hu, e⟩ := S.at_ i _ hi
  have e' : u = .ref E := e
  subst e'
  refine ⟨_, hu, E, od, rfl, .inl ⟨ws, (hz _ hm).2, q _ H Ex.rfl fun j hs2 H' hh2 hz2 ec => ⟨fun hj => ⟨⟨(hz2 _ hm).2, by omega⟩, fun x H'' y => ?_⟩, fun hj => ⟨(hz2 _ hm).2, by omega⟩⟩⟩⟩
  obtain ⟨rfl, k, v, h1, rfl⟩ := y
  obtain ⟨s, h3, h4⟩ := (hk (cut hs2 H'')).at_ h1
  refine ⟨Ex.rfl, fun δa δb ok σ' S' Q q' => ?_⟩
  have eb := ok k s h3
  subst eb
  exact q' _ (S'.set b (d := .d (kD k)) (R.of_key k)) (by rw [wipe_set, if_pos mb])
def EvBF (K : PySem.W.Frag) (fz : Fz) (tt : TT) (δ : Dl) (b : Bool) : Prop := ∀ hs σ H, Hid hs H → FzOk fz hs H → Sl K (cut hs H) σ δ → ∀ Q : Bool → Hp → Prop, (∀ H2, Ex H H2 → Q b H2) → tt σ H Q
theorem ev_lcF {n : Nat} {ok : Nat → Dl → Dl → Prop} (w : WlkF K fz vs wi g δ n ok) (pf : Nat → Bool) (df : Nat → PyData) (hn : n ≤ 10000)
    (step : ∀ i < n, ∃ δ1, ok i (wipeD δ vs) δ1 ∧ EvBF K fz tt δ1 (pf i) ∧ EvD K te δ1 (df i)) : EvDF K fz (tLc wi g tt te vs) δ (.list (selD pf df n)) := fun hs σ H hh hz S Q q =>
  w hs σ H hh hz S _ fun J H1 e1 st => fun D hD => by
    have S1 := S.mono e1.cut
    refine ⟨fun i m H' => m = n - i ∧ i ≤ n ∧ LcI K hs H1 D (selD pf df) i H', ⟨n, by simp, Nat.zero_le _, LcI.start hD rfl⟩, ?_⟩
    rintro i m H' ⟨rfl, hi, pp⟩
    have hhD := pp.hid (hh.mono e1)
    have ec : Ex (cut hs H1) (cut (D :: hs) H') := by have e := pp.1.cut (hs := D :: hs); rw [cut_cons hD] at e; exact e
    have hz2 : FzOk fz (D :: hs) H' := fun p hp => ⟨List.mem_cons_of_mem _ (hz p hp).1, pp.1 _ _ (e1 _ _ (hz p hp).2)⟩
    have s2 := st i _ H' hhD hz2 ec
    by_cases hlt : i < n
    · obtain ⟨go, y⟩ := s2.1 hlt
      obtain ⟨δ1, hok, hb, hv⟩ := step i hlt
      refine .inr ⟨go, fun H3 => i + 1 ≤ n ∧ LcI K hs H1 D (selD pf df) (i + 1) H3, fun H3 p => ⟨n - (i + 1), by omega, rfl, p⟩, fun x H'' yy => ?_⟩
      obtain ⟨e3, kk⟩ := y x H'' yy
      refine kk _ _ hok _ ((S1.mono ec).wipe vs) _ fun σ2 Sl2 w2 => ⟨by rw [w2]; exact wipe_wipe vs σ, ?_⟩
      refine hb _ σ2 H'' (hhD.mono e3) (hz2.ex e3) Sl2 _ fun H3 e4 => ?_
      have ex3 := e3.trans e4
      obtain ⟨q1, acc, q2, q3⟩ := pp
      cases hp : pf i with
      | false =>
        rw [if_neg (by decide)]
        exact ⟨hlt, q1.trans ex3, acc, ex3 _ _ q2, by rw [selD_succ, hp]; simpa using q3.mono ex3.cut⟩
      | true =>
        rw [if_pos rfl]
        refine hv _ σ2 H3 (hhD.mono ex3) (Sl2.mono e4.cut) _ fun v H4 e5 rv => ?_
        have ex4 := ex3.trans e5
        have hDm : D ∈ D :: hs := List.mem_cons_self
        have hl : acc.length < 10000 := by
          rw [q3.length]
          unfold selD
          rw [List.length_map]
          have := List.length_filter_le pf (List.range i)
          rw [List.length_range] at this
          omega
        refine ⟨acc, ex4 _ _ q2, Nat.lt_of_lt_of_le hl (by decide), hlt, fun a o h => ?_, acc ++ [v], upd_same, ?_⟩
        · by_cases z : a = D
          · rw [z, hD] at h; cases h
          · rw [upd_ne z]; exact (q1.trans ex4) a o h
        · rw [selD_succ, hp, if_pos rfl, cut_upd hDm]
          exact (q3.mono ex4.cut).snoc rv
    · have e : i = n := by omega
      subst e
      exact .inl ⟨s2.2 rfl, q _ H' (e1.trans pp.1) (LcI.done (hh.mono e1) hD pp)⟩
theorem selD_list {α : Type} (p : α → Bool) (f : α → PyData) {l : List α} {pf : Nat → Bool} {df : Nat → PyData} (h : ∀ i a, l[i]? = some a → pf i = p a ∧ df i = f a) : selD pf df l.length = (l.filter p).map f := by
  have key : ∀ n ≤ l.length, selD pf df n = ((l.take n).filter p).map f := fun n => by
    induction n with
    | zero => intro _; simp [selD]
    | succ n ih =>
      intro hn
      have ha : l[n]? = some l[n] := List.getElem?_eq_getElem (by omega)
      obtain ⟨h1, h2⟩ := h n _ ha
      rw [selD_succ, ih (by omega), take_succ' ha, List.filter_append, List.map_append, h1, h2]
      congr 1
      by_cases c : p l[n] = true
      · rw [if_pos c, List.filter_cons_of_pos c]; rfl
      · rw [if_neg c, List.filter_cons_of_neg c]; rfl
  have := key l.length (Nat.le_refl _)
  rwa [List.take_length] at this
theorem eb_kindF {i j : Nat} {E : Addr} {od : Obj} {ws : List (Key × V)} {kvs : List (Key × SD)} {k : Key} {x c : Str} (hi : δ[i]? = some (some (.v (.ref E)))) (hm : (E, .frz od (.dK ws)) ∈ fz) (hk : ∀ G, SlK K G kvs ws) (hj : δ[j]? = some (some (.d (kD k)))) (hl : lkS kvs k = some (.d (.str x))) :
    EvBF K fz (tTest (tOp (rEqP K) (tDGet (tVar i) (tVar j)) (tC (.str c)))) δ (decide (x = c)) := fun hs σ H hh hz S Q q => by
  obtain ⟨u, hu, e⟩ := S.at_ i _ hi
  have e' : u = .ref E := e
  subst e'
  obtain ⟨kv, hkv, rk⟩ := S.at_ j _ hj
  have rk' : kv = kV k := R.key rk
  subst rk'
  have hval : valV ws k = some (.str x) := by
    rcases (hk (cut hs H)).val (k := k) with ⟨s, v, q1, q2, q3⟩ | ⟨q1, q2⟩
    · rw [hl] at q1; cases q1
      have q3' : R K (cut hs H) v (.str x) := q3
      cases q3'
      exact q2
    · rw [hl] at q1; cases q1
  refine ⟨_, hu, _, hkv, E, .str x, rfl, .inl ⟨ws, k, .inr ⟨od, (hz _ hm).2⟩, rfl, hval.symm⟩, ?_⟩
  refine ⟨.str x, .str c, .str _, .str _, rfl, rfl, by simp [PyData.depth], ?_⟩
  have e : PyData.eqv (.str x) (.str c) = decide (x = c) := by show (x == c) = _; by_cases z : x = c <;> simp [z]
  rw [e]
  exact ⟨_, rfl, q H Ex.rfl⟩
theorem lock_core {E : Addr} {kvs : List (Key × SD)} (S : StO K hs σ H δ own) (m : (E, .d kvs) ∈ own) (rig : ∀ q ∈ kvs, Rig q.2) (h : ∀ od ws, (∀ G, SlK K G kvs ws) → EvDF K [(E, .frz od (.dK ws))] te δ d) (Q : VK)
    (q : ∀ v H2, Ex H H2 → R K (cut (ads own ++ hs) H2) v d → Q v H2) : tLockE te σ H Q := by
  obtain ⟨ws, h1, h2⟩ := S.atD m
  have mE : E ∈ ads own ++ hs := List.mem_append_left _ (mem_ads m)
  refine ⟨E, .dK ws, h1, trivial, fun od => ?_⟩
  refine h od ws (fun G => h2.rig rig) (ads own ++ hs) σ (upd H E (.frz od (.dK ws))) S.hid.upd (fun p hp => by rw [List.mem_singleton.mp hp]; exact ⟨mE, upd_same⟩) (by rw [cut_upd mE]; exact S.sl) _ fun v H2 e r => ⟨e _ _ upd_same, q v _ (fun a o ha => ?_) ?_⟩
  · by_cases z : a = E
    · subst z; rw [h1] at ha; cases ha; exact upd_same
    · rw [upd_ne z]; exact e _ _ (by rw [upd_ne z]; exact ha)
  · rw [cut_upd mE]; exact r
theorem evn_lockE {E : Addr} {kvs : List (Key × SD)} (m : (E, .d kvs) ∈ own) (rig : ∀ q ∈ kvs, Rig q.2) (h : ∀ od ws, (∀ G, SlK K G kvs ws) → EvDF K [(E, .frz od (.dK ws))] te δ d) : EvN K (tLockE te) δ own (· = d) := fun hs σ H S Q q =>
  lock_core S m rig h Q fun v H2 e r => q v H2 d rfl (Ex.toZ e) (S.mono e) r
theorem runO_lockAsg {i : Nat} {E : Addr} {kvs : List (Key × SD)} (m : (E, .d kvs) ∈ own) (rig : ∀ q ∈ kvs, Rig q.2) (h : ∀ od ws, (∀ G, SlK K G kvs ws) → EvDF K [(E, .frz od (.dK ws))] te δ d) (k : O.nx (δ.set i (some (.d d))) own) : RunO K (tLocks (tAsg te (gName i))) δ own O := fun hs Z H0 D σ H b S f =>
  ⟨1, lock_core S m rig h (fun v H' => D.nx (σ.set i (some v)) H') fun v H2 e r => f.1 _ _ _ _ k (b.ex e) ((S.mono e).set i (sd := .d d) r)⟩
/-! ### walks that change one's own ahead -/
def WlkO (K : PySem.W.Frag) (own : Own) (vs : List Nat) (wi : TI) (g : TG) (δ : Dl) (n : Nat) (ok : Nat → Dl → Dl → Prop) : Prop := ∀ hs σ H, StO K hs σ H δ own → ∀ R : It → Hp → Prop,
  (∀ J H1, ExZ (· ∈ ads own) H H1 → StO K hs σ H1 δ own → (∀ i hs2 H', Hid hs2 H' → Ex (cut (ads own ++ hs) H1) (cut hs2 H') → (i < n → J.go i H' ∧ ∀ x H'', J.yld i H' x H'' → Ex H' H'' ∧ ∀ δa δb, ok i δa δb → ∀ σ', Sl K (cut hs2 H') σ' δa → ∀ Q : St → Hp → Prop, (∀ σ2, Sl K (cut hs2 H'') σ2 δb → wipe σ2 vs = wipe σ' vs → Q σ2 H'') → g x σ' H'' Q) ∧ (i = n → J.stop i H')) → R J H1) → wi σ H R
theorem wlkO_lst {β : Type} (vs : List Nat) (enc : β → PyData) {bs : List β} (h : EvN K te δ own (· = .list (bs.map enc))) : WlkO K own vs (iList K te) g δ bs.length (fun i δa δb => ∀ b, bs[i]? = some b → EvG K vs g δa (enc b) δb) := fun hs σ H S RR q =>
  h hs σ H S _ fun v H1 d hd e1 S1 r1 => by
    subst hd
    cases r1 with
    | @lst a xs _ hp ra =>
      have lx : xs.length = bs.length := by rw [ra.length, List.length_map]
      refine ⟨a, rfl, ⟨xs, SqL.full hp⟩, q _ H1 e1 S1 fun i hs2 H' _ e => ⟨fun hi => ⟨⟨xs, xs[i]'(by omega), SqL.full (e _ _ hp), by simp [lx, hi]⟩, fun x H'' y => ?_⟩, fun hi => ⟨xs, SqL.full (e _ _ hp), by omega⟩⟩⟩
      obtain ⟨e2, y⟩ := y
      subst e2
      refine ⟨Ex.rfl, fun δa δb ok σ' S' Q q' => ?_⟩
      obtain ⟨d0, hd0, rd0⟩ := ra.get' (y xs (SqL.full (e _ _ hp)))
      obtain ⟨b, hb, rfl⟩ := get_map hd0
      exact ok b hb hs2 σ' _ x S' (rd0.mono e) Q fun σ2 S2 w2 => q' σ2 S2 w2
theorem runO_forO {n : Nat} {ok : Nat → Dl → Dl → Prop} (w : WlkO K own vs wi g δ n ok) (I : Nat → Dl → Own → Prop) (h0 : ∃ δ0, Wk δ δ0 ∧ I 0 δ0 own)
    (turn : ∀ i < n, ∀ δa oa, I i δa oa → ∃ δ1, ok i δa δ1 ∧ RunO K ts δ1 oa (outI O (I (i + 1)))) (fin : ∀ δa oa, I n δa oa → O.nx δa oa) : RunO K (tFor wi g ts) δ own O := fun hs Z H0 D σ H b S f =>
  w _ σ H S _ fun J H1 e1 S1' st => by
    obtain ⟨δ0, w0, h0⟩ := h0
    have b1 := b.mono e1
    have S1 := S1'.wk w0
    refine ⟨fun i m σ' H' => m = n - i ∧ i ≤ n ∧ ∃ δa oa, I i δa oa ∧ Base (· ∈ ads own) H1 H' oa ∧ StO K hs σ' H' δa oa, ⟨n, by simp, Nat.zero_le _, δ0, own, h0, base_self, S1⟩, ?_⟩
    rintro i m σ' H' ⟨rfl, hi, δa, oa, hI, b2, S2⟩
    have s2 := st i (ads oa ++ hs) H' S2.hid (cut_in b2)
    by_cases hlt : i < n
    · obtain ⟨go, y⟩ := s2.1 hlt
      obtain ⟨δ1, hok, hr⟩ := turn i hlt δa oa hI
      refine .inr ⟨go, fun σ3 H3 => i + 1 ≤ n ∧ ∃ δb ob, I (i + 1) δb ob ∧ Base (· ∈ ads own) H1 H3 ob ∧ StO K hs σ3 H3 δb ob, fun σ3 H3 p => ⟨n - (i + 1), by omega, rfl, p⟩, fun x H'' yy => ?_⟩
      obtain ⟨e3, k⟩ := y x H'' yy
      refine k δa δ1 hok σ' S2.sl _ fun σ2 Sl2 _ => ?_
      have S3 : StO K hs σ2 H'' δ1 oa := let S' := S2.mono e3; ⟨S'.hid, S'.nd, S'.dj, Sl2, S'.ok⟩
      refine hr hs (· ∈ ads own) H1 _ σ2 H'' (b2.ex e3) S3 ⟨fun δ4 o4 σ4 H4 hw b4 S4 => ?_, fun δ4 o4 σ4 H4 hk b4 S4 => f.1 _ _ _ _ hk (base_in b1 b4) S4, fun fs d v H4 hd e4 SF r => f.2.2 fs d v H4 hd (b1.mono e4).1 SF r⟩
      obtain ⟨δ5, w5, i5⟩ := hw
      exact ⟨hlt, δ5, o4, i5, b4, S4.wk w5⟩
    · have e : i = n := by omega
      subst e
      exact .inl ⟨s2.2 rfl, f.1 _ _ _ _ (fin δa oa hI) (base_in b1 b2) S2⟩
/-! ### tests, ranges -/
theorem ev_dnotin {kds : KDs} {k : Key} (hb : EvD K tb δ (kD k)) (ha : EvD K ta δ (eKD kds)) : EvD K (tDNotIn tb ta) δ (.bool (!(lkK kds k).isSome)) := fun hs σ H hh S Q q =>
  hb hs σ H hh S _ fun u H2 e2 r2 => ha hs σ H2 (hh.mono e2) (S.mono e2.cut) _ fun v H3 e3 r3 => by
    obtain ⟨a, kvs, rfl, h1, dg, c⟩ := R.dget r3 (r2.mono e3.cut)
    have e : (valV kvs k).isSome = (lkK kds k).isSome := by
      rcases c with ⟨w', d', c1, c2, c3⟩ | ⟨c1, c2⟩
      · rw [c1, c2]; rfl
      · rw [c1, c2]; rfl
    exact ⟨a, _, rfl, dg, by rw [e]; exact q _ H3 (e2.trans e3) (.bl _)⟩
def rng1 (j : Int) : List Int := (List.range (j - 1).toNat).map fun i => 1 + ((i : Nat) : Int)
theorem evn_lstRg {P : Int → Prop} (h : EvN K tb δ own fun d => ∃ j, d = .int j ∧ P j) (hb : ∀ j, P j → 0 ≤ j ∧ j ≤ 10000) : EvN K (tLstRg (tRg2 (tC (.int 1)) tb)) δ own fun d => ∃ j, P j ∧ d = .list ((rng1 j).map .int) := fun hs σ H S Q q =>
  h hs σ H S _ fun v H1 d ⟨j, hd, hj⟩ e1 S1 r1 => by
    subst hd
    cases r1
    obtain ⟨b1, b2⟩ := hb j hj
    refine ⟨1, j, rfl, rfl, RgOk.of_le (by omega) (by omega) (by omega) (by omega), fun p hp => ?_⟩
    have e : rgV 1 j = (rng1 j).map V.int := by unfold rgV rng1; rw [List.map_map]; rfl
    rw [e]
    exact q _ _ _ ⟨j, hj, rfl⟩ (e1.trans (Ex.toZ (Evl.Ex.new hp))) (S1.mono (Evl.Ex.new hp)) (R.lst (cut_of (S1.hid.notin hp) upd_same) (RA.of_ints _))
/-! ### dicts of own dicts -/
theorem StO.updHd {a : Addr} {c c' : OC} {o' : HO} (S : StO K hs σ H δ ((a, c) :: own)) (hc : OkC K (cut (ads ((a, c) :: own) ++ hs) H) (L2.upd H a o') a c') : StO K hs σ (L2.upd H a o') δ ((a, c') :: own) := by
  have := S.upd List.mem_cons_self hc
  rwa [repl_hd, repl_not (List.nodup_cons.mp S.nd).1] at this
theorem Base.updHd {Z : Addr → Prop} {H0 : Hp} {a : Addr} {c c' : OC} {o' : HO} (b : Base Z H0 H ((a, c) :: own)) (nd : a ∉ ads own) : Base Z H0 (L2.upd H a o') ((a, c') :: own) := by
  have := b.upd (o' := o') (c' := c') List.mem_cons_self
  rwa [repl_hd, repl_not nd] at this
theorem runO_init {i j : Nat} {x : Str} (k : ∀ E p Kd : Addr, O.nx ((δ.set i (some (.v (.ref E)))).set j (some (.v (.ref Kd)))) ((E, .d [(.inl 0, .v (.ref p))]) :: (Kd, .d [(.inl 0, .d (.str x))]) :: (p, .d []) :: own)) :
    RunO K (tAsg (tTupF (tCons (tDisp [(tC (.int 0), tDNewK)]) (tCons (tDisp [(tC (.int 0), tC (.str x))]) (tNil)))) (gTup K 2 (gCons (gName i) (gCons (gName j) (gNil))))) δ own O := fun hs Z H0 D σ H b S f => fun E hE => fun p hp => by
  have S1 := S.new (o' := .dK []) (c := .d []) hE (okd upd_same .nil)
  have b1 := b.new (o' := .dK []) (c := .d []) hE
  have S2 := S1.new (o' := .dK []) (c := .d []) hp (okd upd_same .nil)
  have b2 := b1.new (o' := .dK []) (c := .d []) hp
  have hEp : E ≠ p := fun z => by rw [← z, upd_same] at hp; cases hp
  have pm : ((p, OC.d []) :: (E, OC.d []) :: own).Perm ((E, .d []) :: (p, .d []) :: own) := List.Perm.swap _ _ _
  have S2' := S2.perm pm
  have b2' := b2.perm pm
  refine ⟨by rw [upd_ne hEp, upd_same], [(.inl 0, .ref p)], rfl, Nat.le_of_ble_eq_true rfl, fun q hq => ⟨upd_same, [(.inl 0, .str x)], rfl, Nat.le_of_ble_eq_true rfl, ?_⟩⟩
  have S3 := S2'.updHd (o' := .dK (mergeK [] [((.inl 0 : Key), V.ref p)])) (c' := .d [(.inl 0, .v (.ref p))]) (okd upd_same (.cons (d := .v (.ref p)) rfl .nil))
  have b3 := b2'.updHd (o' := .dK (mergeK [] [((.inl 0 : Key), V.ref p)])) (c' := .d [(.inl 0, .v (.ref p))]) (List.nodup_cons.mp S2'.nd).1
  have S4 := S3.new (o' := .dK []) (c := .d []) hq (okd upd_same .nil)
  have b4 := b3.new (o' := .dK []) (c := .d []) hq
  have S5 := S4.updHd (o' := .dK (mergeK [] [((.inl 0 : Key), V.str x)])) (c' := .d [(.inl 0, .d (.str x))]) (okd upd_same (.cons (d := .d (.str x)) (.str x) .nil))
  have b5 := b4.updHd (o' := .dK (mergeK [] [((.inl 0 : Key), V.str x)])) (c' := .d [(.inl 0, .d (.str x))]) (List.nodup_cons.mp S4.nd).1
  refine ⟨Nat.le_trans (show 2 ≤ 10000 by decide) (by decide), fun T o hT ho => ?_⟩
  have pm2 : ((q, OC.d [((.inl 0 : Key), SD.d (.str x))]) :: (E, OC.d [((.inl 0 : Key), SD.v (.ref p))]) :: (p, OC.d []) :: own).Perm ((E, .d [(.inl 0, .v (.ref p))]) :: (q, .d [(.inl 0, .d (.str x))]) :: (p, .d []) :: own) := List.Perm.swap _ _ _
  have S6 := (S5.mono (Evl.Ex.new (o := .frz o (.tup [.ref E, .ref q])) hT)).perm pm2
  have b6 := (b5.ex (Evl.Ex.new (o := .frz o (.tup [.ref E, .ref q])) hT)).perm pm2
  refine ⟨T, [.ref E, .ref q], rfl, PT.sq (.inl ⟨o, upd_same, ho⟩), rfl, _, _, rfl, _, _, rfl, rfl, ?_⟩
  exact f.1 _ _ _ _ (k E p q) b6 ((S6.set i (sd := .v (.ref E)) rfl).set j (sd := .v (.ref q)) rfl)
theorem Sl.int {i : Nat} {n : Int} {G : Hp} (S : Sl K G σ δ) (h : δ[i]? = some (some (.d (.int n)))) : σ[i]? = some (some (.int n)) := by
  obtain ⟨v, h1, h2⟩ := S.at_ i _ h
  have h2' : R K G v (.int n) := h2
  cases h2'
  exact h1
theorem Sl.str {i : Nat} {n : Str} {G : Hp} (S : Sl K G σ δ) (h : δ[i]? = some (some (.d (.str n)))) : σ[i]? = some (some (.str n)) := by
  obtain ⟨v, h1, h2⟩ := S.at_ i _ h
  have h2' : R K G v (.str n) := h2
  cases h2'
  exact h1
/-- a new node, and its name in its drawer -/
theorem runO_add {iE iN iD iX : Nat} {E p : Addr} {pk kvs : List (Key × SD)} {n d : Int} {x : Str} (hE : δ[iE]? = some (some (.v (.ref E)))) (hN : δ[iN]? = some (some (.d (.int n)))) (hD : δ[iD]? = some (some (.d (.int d)))) (hX : δ[iX]? = some (some (.d (.str x))))
    (m : (E, .d pk) ∈ own) (hl : pk.length < 10000) (lk : ∀ q, lkS (putS pk (.inl n) (.v (.ref q))) (.inl d) = some (.v (.ref p))) (mp : (p, .d kvs) ∈ own) (hpE : p ≠ E) (hl2 : kvs.length < 10000)
    (k : ∀ q, q ∉ ads own → O.nx δ (repl (repl ((q, .d []) :: own) E (.d (putS pk (.inl n) (.v (.ref q))))) p (.d (putS kvs (.inr x) (.d (.int n)))))) :
    RunO K (tAsg (tTupF (tCons (tDNewK) (tCons (tVar iN) (tNil)))) (gTup K 2 (gCons (gSub (tVar iE) (tVar iN) rSetD) (gCons (gSub (tDGet (tVar iE) (tVar iD)) (tVar iX) rSetD) (gNil))))) δ own O := fun hs Z H0 D σ H b S f => fun q hq => by
  have vE := S.var hE
  have vN := S.sl.int hN
  have vD := S.sl.int hD
  have vX := S.sl.str hX
  have nq : q ∉ ads own := fun z => S.hid q (List.mem_append_left _ z) hq
  have S1 := S.new (o' := .dK []) (c := .d []) hq (okd upd_same .nil)
  have b1 := b.new (o' := .dK []) (c := .d []) hq
  refine ⟨_, vN, Nat.le_trans (show 2 ≤ 10000 by decide) (by decide), fun T o hT ho => ?_⟩
  have S2 := S1.mono (Evl.Ex.new (o := .frz o (.tup [.ref q, .int n])) hT)
  have b2 := b1.ex (Evl.Ex.new (o := .frz o (.tup [.ref q, .int n])) hT)
  obtain ⟨ws, w1, w2⟩ := S2.atD (List.mem_cons_of_mem _ m)
  have S3 := S2.upd (o' := .dK (putK ws (.inl n) (.ref q))) (List.mem_cons_of_mem _ m) (okd upd_same (w2.put (k := .inl n) (s := .v (.ref q)) (v := .ref q) rfl))
  have b3 := b2.upd (o' := .dK (putK ws (.inl n) (.ref q))) (c' := .d (putS pk (.inl n) (.v (.ref q)))) (List.mem_cons_of_mem _ m)
  have mE3 : (E, OC.d (putS pk (.inl n) (.v (.ref q)))) ∈ repl ((q, .d []) :: own) E (.d (putS pk (.inl n) (.v (.ref q)))) := List.mem_map.mpr ⟨_, List.mem_cons_of_mem _ m, if_pos rfl⟩
  have mp3 : (p, OC.d kvs) ∈ repl ((q, .d []) :: own) E (.d (putS pk (.inl n) (.v (.ref q)))) := List.mem_map.mpr ⟨_, List.mem_cons_of_mem _ mp, if_neg hpE⟩
  obtain ⟨ws3, u1, u2⟩ := S3.atD mE3
  have hval : valV ws3 (.inl d) = some (.ref p) := by
    rcases u2.val (k := .inl d) with ⟨s, v, q1, q2, q3⟩ | ⟨q1, q2⟩
    · rw [lk] at q1; cases q1
      have : v = .ref p := q3
      rw [q2, this]
    · rw [lk] at q1; cases q1
  obtain ⟨wp, p1, p2⟩ := S3.atD mp3
  have S4 := S3.upd (o' := .dK (putK wp (.inr x) (.int n))) mp3 (okd upd_same (p2.put (k := .inr x) (s := .d (.int n)) (.int n)))
  have b4 := b3.upd (o' := .dK (putK wp (.inr x) (.int n))) (c' := .d (putS kvs (.inr x) (.d (.int n)))) mp3
  refine ⟨T, [.ref q, .int n], rfl, PT.sq (.inl ⟨o, upd_same, ho⟩), rfl, _, _, rfl, ?_⟩
  refine ⟨_, vE, _, vN, E, _, rfl, .inl ⟨ws, .inl n, w1, rfl, by rw [w2.length]; exact Nat.lt_of_lt_of_le hl (by decide), rfl⟩, _, _, rfl, ?_⟩
  refine ⟨_, vE, _, vD, E, .ref p, rfl, .inl ⟨ws3, .inl d, .inl u1, rfl, hval.symm⟩, _, vX, p, _, rfl, .inl ⟨wp, .inr x, p1, rfl, by rw [p2.length]; exact Nat.lt_of_lt_of_le hl2 (by decide), rfl⟩, rfl, ?_⟩
  exact f.1 _ _ _ _ (k q nq) b4 S4
end
end Dw
set_option Elab.async false
set_option linter.all false
set_option maxRecDepth 100000
set_option maxHeartbeats 1000000
/-! The reading of the drawn tree. -/
namespace Dw
open PySem PySem.Spec PyProof.Rows L2
local macro_rules | `(tactic| trivial) => `(tactic| repeat' (first
  | exact ev_var rfl
  | exact ev_int
  | exact ev_str
  | exact ev_non
  | exact ev_bl
  | exact ea_nil
  | exact eo_none
  | exact eb_yes
  | apply ea_cons
  | apply eo_some
  | apply eb_B
  | apply eb_test
  | apply eb_not
  | apply eb_or
  | apply eb_and
  | apply ev_andV
  | apply ev_orV
  | apply ev_notV
  | apply ev_isN
  | apply ev_notN
  | apply isi_ii
  | apply isi_ib
  | apply isi_tt
  | apply isi_ss
  | apply ev_ixT
  | apply ev_slT
  | apply ev_add
  | apply ev_sub
  | apply ev_neg
  | apply ev_lt
  | apply ev_le
  | apply ev_gt
  | apply ev_ge
  | apply ev_ltS
  | apply ev_lenG
  | apply ev_lenD
  | apply ev_tuple
  | apply ev_tup
  | apply ev_lst
  | apply ev_all
  | apply ev_catT
  | apply ev_is_number
  | apply ev_is_name
  | apply ev_is_entry
  | apply ev_are_entries
  | apply ev_is_row
  | apply ev_row_of
  | apply ev_kind_of
  | apply ev_entries_of
  | apply ev_way
  | apply ev_above
  | exact LenD.tup
  | exact LenD.lst
  | rfl
  | assumption
  | exact Nat.le_of_ble_eq_true rfl
  | with_reducible intro _))
abbrev XS := List (Row × Addr)
def rws (X : XS) : List Row := X.map (·.1)
def kinK (L : List Row) : KDs := L.map fun r => ((.inl r.1 : Key), .str r.2.1)
def entX (L : List Row) : KDs := L.map fun r => ((.inl r.1 : Key), eKD (entK r.2.2))
def dS (kds : KDs) : List (Key × SD) := kds.map fun p => (p.1, .d p.2)
def adrS (X : XS) : List (Key × SD) := X.map fun y => ((.inl y.1.1 : Key), .v (.ref y.2))
def inn (X : XS) : Own := X.map fun y => (y.2, .d (dS (entK y.1.2.2)))
def putX (X : XS) (d : Int) (x : Str) (n : Int) : XS := X.map fun y => if y.1.1 = d then ((y.1.1, y.1.2.1, y.1.2.2 ++ [(x, n)]), y.2) else y
def owT (E Ka f : Addr) (cells : List Int) (X : XS) : Own := (E, .d (adrS X)) :: (Ka, .d (dS (kinK (rws X)))) :: (inn X ++ [(f, .fd cells)])
section
variable {X : XS} {d n : Int} {x : Str} {L : List Row}
theorem putX_rws : rws (putX X d x n) = putL (rws X) d x n := by
  unfold rws putX putL
  rw [List.map_map, List.map_map]
  refine List.map_congr_left fun y _ => ?_
  show (if y.1.1 = d then _ else y).1 = if y.1.1 = d then _ else y.1
  split <;> rfl
theorem putX_adr : adrS (putX X d x n) = adrS X := by
  unfold adrS putX
  rw [List.map_map]
  refine List.map_congr_left fun y _ => ?_
  show ((Sum.inl (if y.1.1 = d then _ else y).1.1 : Key), SD.v (.ref (if y.1.1 = d then _ else y).2)) = _
  split <;> rfl
theorem kin_put : kinK (putL L d x n) = kinK L := by
  unfold kinK putL
  rw [List.map_map]
  refine List.map_congr_left fun y _ => ?_
  show ((Sum.inl (if y.1 = d then _ else y).1 : Key), PyData.str (if y.1 = d then _ else y).2.1) = _
  split <;> rfl
theorem dS_rig {kds : KDs} (h : ∀ p ∈ kds, flatD p.2 = true) : ∀ q ∈ dS kds, Rig q.2 := fun q hq => by
  obtain ⟨p, hp, rfl⟩ := List.mem_map.mp hq
  exact h p hp
theorem kin_flat : ∀ p ∈ kinK L, flatD p.2 = true := fun p hp => by
  obtain ⟨r, _, rfl⟩ := List.mem_map.mp hp
  rfl
theorem putS_new {kvs : List (Key × SD)} {k : Key} {s : SD} (h : ∀ p ∈ kvs, p.1 ≠ k) : putS kvs k s = kvs ++ [(k, s)] := by
  unfold putS
  rw [if_neg]
  intro z
  obtain ⟨p, hp, e⟩ := List.any_eq_true.mp z
  exact h p hp (by simpa using e)
theorem lkS_adr (nd : ((rws X).map (·.1)).Nodup) {y : Row × Addr} (h : y ∈ X) : lkS (adrS X) (.inl y.1.1) = some (.v (.ref y.2)) := by
  unfold lkS adrS
  unfold rws at nd
  rw [List.map_map] at nd
  induction X with
  | nil => cases h
  | cons a X ih =>
    rw [List.map_cons] at nd
    have nd' := List.nodup_cons.mp nd
    rw [List.map_cons]
    rcases List.mem_cons.mp h with e | h
    · subst e
      rw [List.find?_cons_of_pos (by simp)]; rfl
    · rw [List.find?_cons_of_neg]
      · exact ih nd'.2 h
      · simp only [decide_eq_true_eq]
        intro z
        refine nd'.1 (List.mem_map.mpr ⟨y, h, ?_⟩)
        show y.1.1 = a.1.1
        exact (Sum.inl.inj z).symm
theorem lkS_dS {kds : KDs} {k : Key} : lkS (dS kds) k = (lkK kds k).map .d := by
  unfold lkS lkK dS
  induction kds with
  | nil => rfl
  | cons p kds ih =>
    rw [List.map_cons]
    by_cases e : p.1 = k
    · rw [List.find?_cons_of_pos (by simp [e]), List.find?_cons_of_pos (by simp [e])]; rfl
    · rw [List.find?_cons_of_neg (by simp [e]), List.find?_cons_of_neg (by simp [e])]; exact ih
theorem repl_inn (nd : ((rws X).map (·.1)).Nodup) (na : (X.map (·.2)).Nodup) {y : Row × Addr} (h : y ∈ X) : repl (inn X) y.2 (.d (dS (entK (y.1.2.2 ++ [(x, n)])))) = inn (putX X y.1.1 x n) := by
  unfold repl inn putX
  rw [List.map_map, List.map_map]
  refine List.map_congr_left fun z hz => ?_
  have inj : ∀ {β : Type} [DecidableEq β] (g : Row × Addr → β), (X.map g).Nodup → g z = g y → z = y := fun g hg e => by
    obtain ⟨i, hi, e1⟩ := List.mem_iff_getElem.mp hz
    obtain ⟨j, hj, e2⟩ := List.mem_iff_getElem.mp h
    have : i = j := (List.getElem_inj hg (h₀ := by simpa using hi) (h₁ := by simpa using hj)).mp (by simp [e1, e2, e])
    subst this
    rw [← e1, ← e2]
  show (if z.2 = y.2 then (y.2, OC.d (dS (entK (y.1.2.2 ++ [(x, n)])))) else (z.2, OC.d (dS (entK z.1.2.2)))) = ((if z.1.1 = y.1.1 then ((z.1.1, z.1.2.1, z.1.2.2 ++ [(x, n)]), z.2) else z).2, OC.d (dS (entK (if z.1.1 = y.1.1 then ((z.1.1, z.1.2.1, z.1.2.2 ++ [(x, n)]), z.2) else z).1.2.2)))
  by_cases e : z.2 = y.2
  · have e' := inj (fun q => q.2) na e
    subst e'
    rw [if_pos rfl]
    simp only [if_pos]
  · have e2 : ¬ z.1.1 = y.1.1 := fun w => by
      have e' := inj (fun q => q.1.1) (by unfold rws at nd; rw [List.map_map] at nd; exact nd) w
      exact e (by rw [e'])
    rw [if_neg e]
    simp only [if_neg e2]
theorem od_adr {own : Own} (h : ∀ y ∈ X, (y.2, OC.d (dS (entK y.1.2.2))) ∈ own) : ODk own (adrS X) (entX (rws X)) := by
  unfold adrS entX rws
  rw [List.map_map]
  induction X with
  | nil => exact .nil
  | cons a X ih => exact .cons (.k (h a List.mem_cons_self) (ODk.all _ _)) (ih fun y hy => h y (List.mem_cons_of_mem _ hy))
theorem inn_mem {y : Row × Addr} (h : y ∈ X) : (y.2, OC.d (dS (entK y.1.2.2))) ∈ inn X := List.mem_map.mpr ⟨y, h, rfl⟩
theorem ads_inn : ads (inn X) = X.map (·.2) := by
  unfold ads inn
  rw [List.map_map]; rfl
theorem owT_inn {E Ka f : Addr} {cells : List Int} {y : Row × Addr} (h : y ∈ X) : (y.2, OC.d (dS (entK y.1.2.2))) ∈ owT E Ka f cells X := List.mem_cons_of_mem _ (List.mem_cons_of_mem _ (List.mem_append_left _ (inn_mem h)))
theorem owT_f {E Ka f : Addr} {cells : List Int} : (f, OC.fd cells) ∈ owT E Ka f cells X := List.mem_cons_of_mem _ (List.mem_cons_of_mem _ (List.mem_append_right _ List.mem_cons_self))
theorem owT_E {E Ka f : Addr} {cells : List Int} : (E, OC.d (adrS X)) ∈ owT E Ka f cells X := List.mem_cons_self
theorem owT_K {E Ka f : Addr} {cells : List Int} : (Ka, OC.d (dS (kinK (rws X)))) ∈ owT E Ka f cells X := List.mem_cons_of_mem _ List.mem_cons_self
/-- what the addresses of a state tell -/
theorem owT_nd {E Ka f : Addr} {cells : List Int} (h : (ads (owT E Ka f cells X)).Nodup) : E ≠ Ka ∧ (∀ y ∈ X, y.2 ≠ E ∧ y.2 ≠ Ka ∧ y.2 ≠ f) ∧ E ≠ f ∧ Ka ≠ f ∧ (X.map (·.2)).Nodup := by
  have e : ads (owT E Ka f cells X) = E :: Ka :: (X.map (·.2) ++ [f]) := by
    show E :: Ka :: ads (inn X ++ [(f, .fd cells)]) = _
    rw [ads_app, ads_inn]; rfl
  rw [e] at h
  have h1 := List.nodup_cons.mp h
  have h2 := List.nodup_cons.mp h1.2
  have h3 := List.nodup_append.mp h2.2
  have m1 : ∀ y ∈ X, y.2 ∈ X.map (·.2) := fun y hy => List.mem_map_of_mem hy
  refine ⟨fun z => h1.1 (by rw [z]; exact List.mem_cons_self), fun y hy => ⟨fun z => ?_, fun z => ?_, fun z => ?_⟩, fun z => ?_, fun z => ?_, h3.1⟩
  · exact h1.1 (List.mem_cons_of_mem _ (List.mem_append_left _ (z ▸ m1 y hy)))
  · exact h2.1 (List.mem_append_left _ (z ▸ m1 y hy))
  · exact h3.2.2 y.2 (m1 y hy) f List.mem_cons_self z
  · exact h1.1 (List.mem_cons_of_mem _ (List.mem_append_right _ (by rw [z]; exact List.mem_cons_self)))
  · exact h2.1 (List.mem_append_right _ (by rw [z]; exact List.mem_cons_self))
/-- an entry more -/
theorem owT_put {E Ka f : Addr} {cells : List Int} (h : (ads (owT E Ka f cells X)).Nodup) (nd : ((rws X).map (·.1)).Nodup) {y : Row × Addr} (hy : y ∈ X) (hx : ∀ p ∈ y.1.2.2, p.1 ≠ x) :
    repl (owT E Ka f cells X) y.2 (.d (putS (dS (entK y.1.2.2)) (.inr x) (.d (.int n)))) = owT E Ka f cells (putX X y.1.1 x n) := by
  obtain ⟨_, h2, _, _, na⟩ := owT_nd h
  obtain ⟨y1, y2, y3⟩ := h2 y hy
  have e : putS (dS (entK y.1.2.2)) (.inr x) (.d (.int n)) = dS (entK (y.1.2.2 ++ [(x, n)])) := by
    rw [putS_new fun p hp z => ?_]
    · unfold dS entK; rw [List.map_append, List.map_append]; rfl
    · obtain ⟨q, hq, rfl⟩ := List.mem_map.mp hp
      obtain ⟨r, hr, rfl⟩ := List.mem_map.mp hq
      exact hx r hr (Sum.inr.inj z)
  rw [e]
  unfold owT
  rw [repl_tl y1.symm, repl_tl y2.symm, repl_app, repl_inn nd na hy, repl_tl y3.symm, repl_nil, putX_adr, putX_rws, kin_put]
end
section
variable {K : PySem.W.Frag} {δ δ1 : Dl} {own : Own} {O : OutO} {ts us : TS} {tl tk ty tv td : TE} {tA : TA} {E : XK} {te ta tb : TE} {d x y : PyData} {P P2 : PyData → Prop}
/-- the nodes of a kind, in the order in which they came -/
def ofKind (L : List Row) (c : Str) : List Int := (L.filter fun r => decide (r.2.1 = c)).map (·.1)
theorem ofKind_mem {L : List Row} {c : Str} {n : Int} (h : n ∈ ofKind L c) : ∃ r ∈ L, r.1 = n ∧ r.2.1 = c := by
  obtain ⟨r, hr, e⟩ := List.mem_map.mp h
  obtain ⟨h1, h2⟩ := List.mem_filter.mp hr
  exact ⟨r, h1, e, of_decide_eq_true h2⟩
theorem ev_ofKindF {i j : Nat} {Ka : Addr} {od : Obj} {ws : List (Key × V)} {L : List Row} {c : Str} (nd : (L.map (·.1)).Nodup) (hl : L.length ≤ 100) (hi : ∀ (δ' : Dl) (s : Option SD), δ' = (δ.set j none).set j s → δ'[i]? = some (some (.v (.ref Ka)))) (hj : ∀ s, ((δ.set j none).set j s)[j]? = some s) (hk : ∀ G, SlK K G (dS (kinK L)) ws) :
    EvDF K [(Ka, .frz od (.dK ws))] (tLc (iKeys (tVar i)) (gName j) (tTest (tOp (rEqP K) (tDGet (tVar i) (tVar j)) (tC (.str c)))) (tVar j) [j]) δ (.list ((ofKind L c).map .int)) := by
  have hi0 : δ[i]? = some (some (.v (.ref Ka))) := by
    by_cases z : i = j
    · subst z
      have h1 := hi _ none rfl
      rw [hj none] at h1; cases h1
    · have := hi _ none rfl
      rwa [List.getElem?_set_ne (Ne.symm z), List.getElem?_set_ne (Ne.symm z)] at this
  have hlen : (dS (kinK L)).length = L.length := by unfold dS kinK; rw [List.length_map, List.length_map]
  have at_ : ∀ {a : Nat} {r : Row}, L[a]? = some r → (dS (kinK L))[a]? = some ((.inl r.1 : Key), SD.d (.str r.2.1)) := fun {a r} h => by
    unfold dS kinK
    rw [List.getElem?_map, List.getElem?_map, h]; rfl
  have key := ev_lcF (K := K) (δ := δ) (tt := tTest (tOp (rEqP K) (tDGet (tVar i) (tVar j)) (tC (.str c)))) (te := tVar j) (vs := [j]) (wlk_keysF (K := K) (δ := δ) (vs := [j]) (b := j) (fz := [(Ka, .frz od (.dK ws))]) (by simp) hi0 List.mem_cons_self hk)
    (fun a => (L[a]?.map fun r => decide (r.2.1 = c)).getD false) (fun a => .int ((L[a]?.map (·.1)).getD 0)) (by rw [hlen]; omega) (fun a ha => by
      rw [hlen] at ha
      have hr : L[a]? = some L[a] := List.getElem?_eq_getElem ha
      have hm : L[a] ∈ L := List.getElem_mem ha
      generalize L[a] = r at hr hm
      refine ⟨(δ.set j none).set j (some (.d (.int r.1))), fun k s hks => ?_, ?_, ?_⟩
      · rw [at_ hr] at hks
        cases hks; rfl
      · have := eb_kindF (K := K) (δ := (δ.set j none).set j (some (.d (.int r.1)))) (i := i) (j := j) (od := od) (fz := [(Ka, .frz od (.dK ws))]) (x := r.2.1) (c := c) (k := .inl r.1) (hi _ _ rfl) List.mem_cons_self hk (hj _) (by rw [lkS_dS]; unfold kinK; rw [lkK_map (F := fun r => .str r.2.1) nd hm]; rfl)
        rw [hr]; exact this
      · rw [hr]; exact ev_var (hj _))
  have e : selD (fun a => (L[a]?.map fun r => decide (r.2.1 = c)).getD false) (fun a => .int ((L[a]?.map (·.1)).getD 0)) (dS (kinK L)).length = (ofKind L c).map .int := by
    rw [hlen, selD_list (fun r : Row => decide (r.2.1 = c)) (fun r => PyData.int r.1) (l := L) fun a r h => by rw [h]; exact ⟨rfl, rfl⟩]
    unfold ofKind
    rw [List.map_map]; rfl
  rw [e] at key
  exact key
theorem ev_sortDI {L : List Row} (h : EvD K ta δ (eKD (kinK L))) (nd : (L.map (·.1)).Nodup) (hl : L.length < 64) : EvD K (tCB rSortDI (tCons ta tNil)) δ (.list ((sortR (L.map (renR id id))).map fun r => .int r.1)) := ev_cb (ea_cons h ea_nil) fun hs H vs hh ra Q q => by
  obtain ⟨v, rfl, r⟩ := ra.one
  cases r with
  | @dic a kvs _ hd rk =>
    refine ⟨a, kvs, L.map (·.1), rfl, .inl (cut_some hd).2, ?_, by rw [List.length_map]; exact hl, fun ys p hp hs hp2 => ?_⟩
    · rw [RK.keys rk]
      unfold kinK
      rw [List.map_map, List.map_map]; rfl
    · have e1 : (sortR (L.map (renR id id))).map (·.1) = ys := by
        have nd' : ((L.map (renR id id)).map (·.1)).Nodup := by rw [List.map_map]; exact nd
        refine List.Perm.eq_of_pairwise (le := fun a b : Int => a ≤ b) (fun a b _ _ h1 h2 => by omega) (List.pairwise_map.mpr ((sortR_inc nd').imp fun h => Int.le_of_lt h)) hs ?_
        refine ((sortR_perm _).map _).trans ?_
        rw [List.map_map]
        exact hp.symm
      have e2 : (sortR (L.map (renR id id))).map (fun r => PyData.int r.1) = ys.map .int := by rw [← e1, List.map_map]; rfl
      rw [e2] at q
      exact q _ _ (Evl.Ex.new hp2) (R.lst (cut_of (hh.notin hp2) upd_same) (RA.of_ints _))
theorem run__law_tree (f : Addr) (cells : List Int) (ds : List PyData) (h : Pre_tree ds) : RunO K (t__law_tree K) (some (.v (.ref f)) :: ds.map (fun d => some (.d d)) ++ List.replicate (N__law_tree.length - (ds.length + 1)) none) [(f, .fd cells)] (outF f cells (Post_tree ds)) := by
  obtain ⟨ws, m, W, hm, rfl⟩ := h
  have h2 := W.two
  have h8 := W.eight
  refine runO_seq (runO_init fun E p0 Ka => ?_)
  have hmf : ∀ {X : XS}, (f, OC.fd cells) ∈ owT E Ka f cells X := owT_f
  let X0 : XS := [((0, sD, []), p0)]
  let s0 : Dl := [some (.v (.ref f)), some (.d (.list (ws.map .str))), some (.d (.int m)), some (.v (.ref E)), some (.v (.ref Ka)), none, none, none, none, none, none, none, none]
  show RunO K _ s0 (owT E Ka f cells X0) _
  have rng : EvN K (tLstRg (tRg2 (tC (.int 1)) (tOp (rI0 fun i j => .int (i + j)) (tOp (rI0 fun i j => .int (i + j)) (tVar 2) (tC (.int 2))) (tCall (SpF K Pre_draw Post_draw) [] E0 (tCons (tVar 0) (tCons (tC (.int 3)) (tNil))))))) s0 (owT E Ka f cells X0) fun d => ∃ j : Int, (2 ≤ j ∧ j ≤ 14) ∧ d = .list ((rng1 j).map .int) :=
    evn_lstRg (P := fun j => 2 ≤ j ∧ j ≤ 14) (evn_op (P1 := (· = .int (m + 2))) (evn_of (ev_add (by trivial) ev_int)) (evn_draw (m := 3) (cells := cells) rfl hmf (evn_of ev_int) (by decide) (by decide)) fun x y hx ⟨r, hy, h3, h4⟩ => ⟨.int (m + 2 + r), by rw [hx, hy]; exact rv_I0 fun _ => .int _, _, rfl, by omega, by omega⟩) fun j hj => by omega
  refine runO_seq (runO_asg rng fun d ⟨j, hj, hd⟩ => ?_)
  subst hd
  have poolR : ∀ n ∈ rng1 j, 1 ≤ n ∧ n ≤ 13 := fun n hn => by
    obtain ⟨i, hi, rfl⟩ := List.mem_map.mp hn
    have := List.mem_range.mp hi
    omega
  have poolL : (rng1 j).length = (j - 1).toNat := by unfold rng1; rw [List.length_map, List.length_range]
  refine runO_seq (runO_asg (evn_draw (m := 2) (cells := cells) rfl hmf (evn_of ev_int) (by decide) (by decide)) fun d ⟨dp, hd, _, _⟩ => ?_)
  subst hd
  let st : Option SD → Option SD → Option SD → Option SD → Option SD → Dl := fun a7 a8 a9 a10 a11 => [some (.v (.ref f)), some (.d (.list (ws.map .str))), some (.d (.int m)), some (.v (.ref E)), some (.v (.ref Ka)), some (.d (.list ((rng1 j).map .int))), some (.d (.int dp)), a7, a8, a9, a10, a11, none]
  show RunO K _ (st none none none none none) (owT E Ka f cells X0) _
  -- the drawers, under a lock
  have drawers : ∀ {X : XS} {a7 a8 a9 a10 a11 : Option SD} {O : OutO} (c : Str), Bld ws (rws X) → X.length ≤ 11 → O.nx (st a7 (some (.d (.list ((ofKind (rws X) c).map .int)))) a9 a10 a11) (owT E Ka f cells X) → RunO K (tLocks (tAsg (tLc (iKeys (tVar 4)) (gName 9) (tTest (tOp (rEqP K) (tDGet (tVar 4) (tVar 9)) (tC (.str c)))) (tVar 9) [9]) (gName 8))) (st a7 a8 a9 a10 a11) (owT E Ka f cells X) O :=
    fun {X a7 a8 a9 a10 a11 O} c B hl k => runO_lockAsg (E := Ka) owT_K (dS_rig kin_flat) (fun od ws' hk => ev_ofKindF B.nd (by unfold rws; rw [List.length_map]; omega) (fun δ' s e => by rw [e]; rfl) (fun s => rfl) hk) k
  have top : ∀ {X : XS}, Bld ws (rws X) → ofKind (rws X) sD ≠ [] := fun {X} B z => by
    obtain ⟨e, rest, ht⟩ := B.top
    have : (0 : Int) ∈ ofKind (rws X) sD := by
      unfold ofKind
      rw [ht]
      exact List.mem_map.mpr ⟨(0, sD, e), List.mem_filter.mpr ⟨List.mem_cons_self, rfl⟩, rfl⟩
    rw [z] at this; cases this
  have okLen : ∀ {X : XS} (c : Str), X.length ≤ 11 → (ofKind (rws X) c).length ≤ 11 := fun {X} c hl => by
    unfold ofKind
    rw [List.length_map]
    exact Nat.le_trans (List.length_filter_le _ _) (by unfold rws; rw [List.length_map]; exact hl)
  have wlen : ∀ {δ : Dl}, δ[1]? = some (some (.d (.list (ws.map PyData.str)))) → EvD K (tCB (rLenAny K) (tCons (tVar 1) tNil)) δ (.int ws.length) := fun h => (ev_lenL (ds := ws.map .str) (ev_var h)).to (by rw [List.length_map])
  have lenI : ∀ {δ : Dl} {i : Nat} {l : List Int}, δ[i]? = some (some (.d (.list (l.map PyData.int)))) → EvD K (tCB (rLenAny K) (tCons (tVar i) tNil)) δ (.int l.length) := fun {δ i l} h => (ev_lenL (ds := l.map .int) (ev_var h)).to (by rw [List.length_map])
  have pickD : ∀ {X : XS} {a7 a9 a10 a11 : Option SD}, Bld ws (rws X) → X.length ≤ 11 → EvN K (tOp (rIxL K) (tVar 8) (tCall (SpF K Pre_draw Post_draw) [] E0 (tCons (tVar 0) (tCons (tCB (rLenAny K) (tCons (tVar 8) (tNil))) (tNil))))) (st a7 (some (.d (.list ((ofKind (rws X) sD).map .int)))) a9 a10 a11) (owT E Ka f cells X) fun d => ∃ n ∈ ofKind (rws X) sD, d = .int n :=
    fun {X a7 a9 a10 a11} B hl => evn_pickL (j := 0) (cells := cells) PyData.int (l := ofKind (rws X) sD) rfl hmf (ev_var rfl) (lenI rfl) (List.length_pos_iff.mpr (top B)) (Nat.le_trans (okLen sD hl) (by decide))
  have pickW : ∀ {X : XS} {a7 a8 a9 a10 a11 : Option SD}, EvN K (tOp (rIxL K) (tVar 1) (tCall (SpF K Pre_draw Post_draw) [] E0 (tCons (tVar 0) (tCons (tCB (rLenAny K) (tCons (tVar 1) (tNil))) (tNil))))) (st a7 a8 a9 a10 a11) (owT E Ka f cells X) fun d => ∃ x ∈ ws, d = .str x :=
    evn_pickL (j := 0) (cells := cells) PyData.str (l := ws) rfl hmf (ev_var rfl) (wlen rfl) (by omega) (by omega)
  -- what is looked at, as data
  have thE : ∀ {X : XS} {a7 a8 a9 a10 a11 : Option SD}, Th (owT E Ka f cells X) (st a7 a8 a9 a10 a11) [some (.v (.ref f)), some (.d (.list (ws.map .str))), some (.d (.int m)), some (.d (eKD (entX (rws X)))), some (.d (eKD (kinK (rws X)))), some (.d (.list ((rng1 j).map .int))), some (.d (.int dp)), a7, a8, a9, a10, a11, none] := fun {X a7 a8 a9 a10 a11} =>
    .keep (.keep (.keep (.o (.k owT_E (od_adr fun y hy => owT_inn hy)) (.o (.k owT_K (ODk.all _ (kinK (rws X)))) (by repeat constructor)))))
  have lkE : ∀ {X : XS} {y : Row × Addr}, Bld ws (rws X) → y ∈ X → lkK (entX (rws X)) (.inl y.1.1) = some (eKD (entK y.1.2.2)) := fun {X y} B hy => lkK_map (F := fun r => eKD (entK r.2.2)) B.nd (List.mem_map_of_mem (f := (·.1)) hy)
  have noName : ∀ {e : Ent} {x : Str}, (!(lkK (entK e) (.inr x)).isSome) = true → ∀ p ∈ e, p.1 ≠ x := fun {e x} h p hp z => by
    rw [lkK_entK] at h
    have : (lk e x).isSome = true := by
      unfold lk
      rw [Option.isSome_map, List.find?_isSome]
      exact ⟨p, hp, by simp [z]⟩
    cases q : lk e x with
    | none => rw [q] at this; cases this
    | some v => rw [q] at h; cases h
  have noNode : ∀ {X : XS} {n : Int}, (!(lkK (kinK (rws X)) (.inl n)).isSome) = true → ∀ r ∈ rws X, r.1 ≠ n := fun {X n} h r hr z => by
    have : (lkK (kinK (rws X)) (.inl n)).isSome = true := by
      unfold lkK
      rw [Option.isSome_map, List.find?_isSome]
      exact ⟨(.inl r.1, .str r.2.1), List.mem_map.mpr ⟨r, hr, rfl⟩, by simp [z]⟩
    rw [this] at h; cases h
  -- a drawer by its number
  have drw : ∀ {X : XS} {n : Int}, n ∈ ofKind (rws X) sD → ∃ y ∈ X, y.1.1 = n ∧ y.1.2.1 = sD := fun {X n} h => by
    obtain ⟨r, hr, e1, e2⟩ := ofKind_mem h
    obtain ⟨y, hy, rfl⟩ := List.mem_map.mp hr
    exact ⟨y, hy, e1, e2⟩
  refine runO_seq (runO_for (wlk_rng [7] (n := m) (by trivial) (by omega)) (fun i δa oa => δa = st none none none none none ∧ ∃ X, oa.Perm (owT E Ka f cells X) ∧ Bld ws (rws X) ∧ X.length ≤ i + 1) ⟨_, by repeat constructor, rfl, X0, List.Perm.refl _, bld0, by simp [X0]⟩ ?_ ?_)
  · rintro i hi δa oa ⟨rfl, X, hp, B, hl⟩
    have hl11 : X.length ≤ 11 := by omega
    refine ⟨st (some (.d (.int i))) none none none none, eg_name (by simp), RunO.perm hp (runO_nd fun nd => ?_)⟩
    obtain ⟨n1, n2, n3, n4, n5⟩ := owT_nd nd
    refine runO_seq (drawers sD B hl11 ?_)
    let l := ofKind (rws X) sD
    refine runO_seq (runO_asg (P := fun d => ∃ n ∈ l, d = .int n) ((evn_of (ev_ixL (ds := l.map .int) (i := -1) (d := .int (lastN l)) (ev_var rfl) (ev_neg ev_int) (atI_lastN (top B)))).imp fun d hd => ⟨lastN l, ?_, hd⟩) fun d hd => ?_)
    · unfold lastN
      rw [List.getLast?_eq_some_getLast (top B)]
      exact List.getLast_mem (top B)
    obtain ⟨d1, hd1, rfl⟩ := hd
    refine runO_seq (runO_if (PB := fun _ => True) (evnb_or (evnb_thaw thE (b := decide (dp = 0)) (eb_test (ev_eqI (i := dp) (j := 0) (ev_var rfl) ev_int)) |>.imp fun _ _ => trivial) (fun _ => evnb_drawEq (cells := cells) (m := 2) rfl hmf (by decide) (by decide)) fun _ => trivial) (fun _ => runO_asg (pickD B hl11) fun d hd => ?_) fun _ => runO_next ?_)
    all_goals
      show RunO K _ _ _ _
    case' _ => obtain ⟨d1, hd1, rfl⟩ := hd
    all_goals
      refine runO_seq (runO_asg (pickW (a10 := some (.d (.int d1)))) fun d hd => ?_)
      obtain ⟨x, hx, rfl⟩ := hd
      refine runO_seq (runO_asg (evn_pickL (j := 0) (cells := cells) PyData.int (l := rng1 j) rfl hmf (ev_var rfl) (lenI rfl) (by rw [poolL]; omega) (by rw [poolL]; omega)) fun d hd => ?_)
      obtain ⟨n, hn, rfl⟩ := hd
      obtain ⟨y, hy, hy1, hy2⟩ := drw hd1
      subst hy1
      let s1 : Dl := st (some (.d (.int i))) (some (.d (.list (l.map .int)))) (some (.d (.int n))) (some (.d (.int y.1.1))) (some (.d (.str x)))
      show RunO K _ s1 _ _
      refine runO_if (evnb_thaw thE (eb_and (eb_B (ev_dnotin (k := .inr x) (kds := entK y.1.2.2) (ev_var rfl) (ev_dget (k := .inl y.1.1) (kds := entX (rws X)) (ev_var rfl) (ev_var rfl) (lkE B hy)))) fun _ => eb_B (ev_dnotin (k := .inl n) (kds := kinK (rws X)) (ev_var rfl) (ev_var rfl)))) (fun q => ?_) (fun _ => runO_next ⟨_, by repeat constructor, rfl, X, List.Perm.refl _, B, by omega⟩)
      have q' := q.symm
      rw [Bool.and_eq_true] at q'
      have hxn := noName q'.1
      have hnn := noNode q'.2
      have hkey : ∀ p ∈ adrS X, p.1 ≠ .inl n := fun p hp z => by
        obtain ⟨w, hw, rfl⟩ := List.mem_map.mp hp
        exact hnn w.1 (List.mem_map_of_mem (f := (·.1)) hw) (Sum.inl.inj z)
      refine runO_seq (runO_dput (i := 4) (a := Ka) (k := .inl n) (P := fun d => ∃ k ∈ [sD, sD, sS], d = .str k) rfl owT_K (by unfold dS kinK rws; simp only [List.length_map]; omega) (ev_var rfl) (evn_pickL (j := 0) (cells := cells) PyData.str (l := [sD, sD, sS]) rfl hmf (ev_lst (ea_cons ev_str (ea_cons ev_str (ea_cons ev_str ea_nil))) (by trivial)) ev_int (by decide) (by decide)) fun d hd => ?_)
      obtain ⟨k, hk, rfl⟩ := hd
      have hk' : k = sD ∨ k = sS := by simpa using hk
      have eK : repl (owT E Ka f cells X) Ka (.d (putS (dS (kinK (rws X))) (.inl n) (.d (.str k)))) = (E, .d (adrS X)) :: (Ka, .d (dS (kinK (rws X ++ [(n, k, [])])))) :: (inn X ++ [(f, .fd cells)]) := by
        unfold owT
        rw [repl_tl n1, repl_hd, repl_not, putS_new]
        · congr 3
          unfold dS kinK
          rw [List.map_append, List.map_append]; rfl
        · intro p hp z
          obtain ⟨w, hw, rfl⟩ := List.mem_map.mp hp
          obtain ⟨r, hr, rfl⟩ := List.mem_map.mp hw
          exact hnn r hr (Sum.inl.inj z)
        · rw [ads_app, ads_inn]
          intro z
          rcases List.mem_append.mp z with z | z
          · obtain ⟨w, hw, e⟩ := List.mem_map.mp z
            exact (n2 w hw).2.1 e
          · exact n4 (by simpa [ads] using z)
      rw [eK]
      refine runO_add (iE := 3) (iN := 9) (iD := 10) (iX := 11) (E := E) (p := y.2) (pk := adrS X) (kvs := dS (entK y.1.2.2)) rfl rfl rfl rfl List.mem_cons_self (by unfold adrS; rw [List.length_map]; omega) (fun q => ?_) (List.mem_cons_of_mem _ (List.mem_cons_of_mem _ (List.mem_append_left _ (inn_mem hy)))) (n2 y hy).1 ?_ fun q hq => ?_
      · rw [putS_new hkey]
        have h1 := lkS_adr B.nd hy
        unfold lkS at h1 ⊢
        rw [List.find?_append]
        cases c : (adrS X).find? fun p => decide (p.1 = .inl y.1.1) with
        | none => rw [c] at h1; cases h1
        | some w => rw [c] at h1; exact h1
      · have := B.entl (List.mem_map_of_mem (f := (·.1)) hy : y.1 ∈ rws X)
        unfold dS entK
        simp only [List.length_map]
        omega
      · have hqE : q ≠ E := fun z => hq (by rw [z]; exact List.mem_cons_self)
        have hqy : q ≠ y.2 := fun z => hq (by
          rw [z]
          refine List.mem_cons_of_mem _ (List.mem_cons_of_mem _ ?_)
          show y.2 ∈ ads (inn X ++ [(f, .fd cells)])
          rw [ads_app, ads_inn]
          exact List.mem_append_left _ (List.mem_map_of_mem (f := (·.2)) hy))
        let X' : XS := X ++ [((n, k, []), q)]
        have hyn : ¬ (n = y.1.1) := fun z => hnn y.1 (List.mem_map_of_mem (f := (·.1)) hy) z.symm
        have eX : putX X' y.1.1 x n = putX X y.1.1 x n ++ [((n, k, []), q)] := by
          show putX (X ++ [((n, k, []), q)]) y.1.1 x n = _
          unfold putX
          rw [List.map_append, List.map_cons, List.map_nil, if_neg hyn]
        have eR : rws X' = rws X ++ [(n, k, [])] := by show List.map (fun y : Row × Addr => y.1) (X ++ [((n, k, []), q)]) = _; rw [List.map_append]; rfl
        refine ⟨st none none none none none, by repeat constructor, rfl, putX X' y.1.1 x n, ?_, ?_, ?_⟩
        · rw [putS_new hkey, repl_tl hqE, repl_hd]
          have hEn : E ∉ ads ((Ka, OC.d (dS (kinK (rws X ++ [(n, k, [])])))) :: (inn X ++ [(f, .fd cells)])) := fun z => by
            rcases List.mem_cons.mp z with z | z
            · exact n1 z
            · have z' : E ∈ ads (inn X ++ [(f, .fd cells)]) := z
              rw [ads_app, ads_inn] at z'
              rcases List.mem_append.mp z' with z | z
              · obtain ⟨w, hw, e⟩ := List.mem_map.mp z
                exact (n2 w hw).1 e
              · exact n3 (by simpa [ads] using z)
          rw [repl_not hEn, repl_tl hqy, repl_tl (n2 y hy).1.symm, repl_tl (n2 y hy).2.1.symm, repl_app]
          have e1 : putS (dS (entK y.1.2.2)) (.inr x) (.d (.int n)) = dS (entK (y.1.2.2 ++ [(x, n)])) := by
            rw [putS_new fun p hp z => ?_]
            · unfold dS entK; rw [List.map_append, List.map_append]; rfl
            · obtain ⟨w, hw, rfl⟩ := List.mem_map.mp hp
              obtain ⟨r, hr, rfl⟩ := List.mem_map.mp hw
              exact hxn r hr (Sum.inr.inj z)
          rw [e1, repl_inn B.nd n5 hy, repl_tl (n2 y hy).2.2.symm, repl_nil]
          unfold owT
          rw [putX_adr, putX_rws, kin_put, eX, eR]
          have eA : adrS X' = adrS X ++ [(.inl n, .v (.ref q))] := by show List.map (fun y : Row × Addr => ((Sum.inl y.1.1 : Key), SD.v (.ref y.2))) (X ++ [((n, k, []), q)]) = _; rw [List.map_append]; rfl
          rw [eA]
          have eI : inn (putX X y.1.1 x n ++ [((n, k, []), q)]) = inn (putX X y.1.1 x n) ++ [(q, .d [])] := by unfold inn; rw [List.map_append]; rfl
          rw [eI]
          refine (List.Perm.swap _ _ _).trans (List.Perm.cons _ ((List.Perm.swap _ _ _).trans (List.Perm.cons _ ?_)))
          rw [List.append_assoc]
          exact List.perm_middle.symm
        · rw [putX_rws, eR]
          exact B.add (List.mem_map_of_mem (f := (·.1)) hy) hy2 hx hxn hk' hnn (poolR n hn)
        · unfold putX
          rw [List.length_map]
          show (X ++ _).length ≤ _
          rw [List.length_append]; simp; omega
  rintro δa oa ⟨rfl, X1, hp1, B1, hl1⟩
  have hl1' : X1.length ≤ 11 := by omega
  refine RunO.perm hp1 ?_
  let shs := ofKind (rws X1) sS
  have shsL : ∀ n ∈ shs, ∃ r ∈ rws X1, r.1 = n ∧ r.2.1 = sS := fun n hn => ofKind_mem hn
  refine runO_seq (runO_forO (vs := [9]) (wlkO_lst [9] PyData.int (bs := shs) (evn_lockE (E := Ka) owT_K (dS_rig kin_flat) fun od ws' hk => ev_ofKindF B1.nd (by unfold rws; rw [List.length_map]; omega) (fun δ' s e => by rw [e]; rfl) (fun s => rfl) hk)) (fun i δa oa => δa = st none none none none none ∧ ∃ X, oa.Perm (owT E Ka f cells X) ∧ Bld ws (rws X) ∧ X.length ≤ 11 ∧ ∀ n ∈ shs, ∃ r ∈ rws X, r.1 = n ∧ r.2.1 = sS) ⟨_, by repeat constructor, rfl, X1, List.Perm.refl _, B1, hl1', shsL⟩ ?_ ?_)
  · rintro i hi δa oa ⟨rfl, X, hp, B, hl11, hsh⟩
    have hnm : shs[i] ∈ shs := List.getElem_mem hi
    refine ⟨st none none (some (.d (.int shs[i]))) none none, fun b hb => by
      rw [List.getElem?_eq_getElem hi] at hb
      cases hb
      exact eg_name (by simp), RunO.perm hp (runO_nd fun nd => ?_)⟩
    generalize shs[i] = n at hnm
    obtain ⟨rn, hrn, hrn1, hrn2⟩ := hsh n hnm
    refine runO_seq (drawers sD B hl11 ?_)
    refine runO_seq (runO_asg (pickD B hl11) fun d hd => ?_)
    obtain ⟨d1, hd1, rfl⟩ := hd
    refine runO_seq (runO_asg pickW fun d hd => ?_)
    obtain ⟨x, hx, rfl⟩ := hd
    obtain ⟨y, hy, hy1, hy2⟩ := drw hd1
    subst hy1
    let s1 : Dl := st none (some (.d (.list ((ofKind (rws X) sD).map .int)))) (some (.d (.int n))) (some (.d (.int y.1.1))) (some (.d (.str x)))
    show RunO K _ s1 _ _
    refine runO_if (evnb_and (PB := fun b => b = !(lkK (entK y.1.2.2) (.inr x)).isSome) (PB2 := fun b => b = true → (!(lkK (entK y.1.2.2) (.inr x)).isSome) = true) (evnb_thaw thE (eb_B (ev_dnotin (k := .inr x) (kds := entK y.1.2.2) (ev_var rfl) (ev_dget (k := .inl y.1.1) (kds := entX (rws X)) (ev_var rfl) (ev_var rfl) (lkE B hy))))) (fun q => (evnb_drawEq (cells := cells) (m := 2) rfl hmf (by decide) (by decide)).imp fun _ _ _ => q.symm) fun _ z => by cases z) (fun q => ?_) (fun _ => runO_next ⟨_, by repeat constructor, rfl, X, List.Perm.refl _, B, hl11, hsh⟩)
    have hxn := noName (q rfl)
    refine runO_dput2 (i := 3) (E := E) (p := y.2) (pk := adrS X) (kvs := dS (entK y.1.2.2)) (k := .inl y.1.1) (k2 := .inr x) (d := .int n) rfl owT_E (ev_var rfl) (lkS_adr B.nd hy) (owT_inn hy) ?_ (ev_var rfl) (ev_var rfl) ?_
    · have := B.entl (List.mem_map_of_mem (f := (·.1)) hy : y.1 ∈ rws X)
      unfold dS entK
      simp only [List.length_map]
      omega
    · rw [owT_put nd B.nd hy hxn]
      obtain ⟨i0, hi0⟩ := List.mem_iff_getElem?.mp (List.mem_map_of_mem (f := (·.1)) hy : y.1 ∈ rws X)
      obtain ⟨j0, hj0⟩ := List.mem_iff_getElem?.mp hrn
      refine ⟨st none none none none none, by repeat constructor, rfl, putX X y.1.1 x n, List.Perm.refl _, ?_, by unfold putX; rw [List.length_map]; exact hl11, fun n' hn' => ?_⟩
      · rw [putX_rws]
        exact B.put (List.mem_map_of_mem (f := (·.1)) hy) hy2 hx hxn hi0 hj0 hrn1 (.inr hrn2) fun z => by rw [hrn2] at z; exact absurd z (by decide)
      · obtain ⟨r, hr, e1, e2⟩ := hsh n' hn'
        rw [putX_rws]
        refine ⟨_, List.mem_map_of_mem hr, ?_, ?_⟩
        · show (if r.1 = y.1.1 then _ else r).1 = n'
          split <;> exact e1
        · show (if r.1 = y.1.1 then _ else r).2.1 = sS
          split <;> exact e2
  rintro δa oa ⟨rfl, X, hp, B, hl11, _⟩
  refine RunO.perm hp ?_
  let L := rws X
  have hlL : L.length ≤ 11 := by show (X.map (·.1)).length ≤ 11; rw [List.length_map]; exact hl11
  let T : List Row := sortR (L.map (renR id id))
  have hTl : T.length = L.length := by show (sortR _).length = _; rw [(sortR_perm _).length_eq, List.length_map]
  refine runO_seq (runO_newL fun A hA => ?_)
  have pm : ((A, OC.l []) :: owT E Ka f cells X).Perm (((E, .d (adrS X)) :: (Ka, .d (dS (kinK L))) :: inn X) ++ [(A, .l []), (f, .fd cells)]) := by
    show ((A, OC.l []) :: (E, OC.d (adrS X)) :: (Ka, OC.d (dS (kinK L))) :: (inn X ++ [(f, .fd cells)])).Perm _
    refine (List.Perm.swap _ _ _).trans (List.Perm.cons _ ((List.Perm.swap _ _ _).trans (List.Perm.cons _ ?_)))
    exact List.perm_middle.symm
  have hAf : A ≠ f := fun z => hA (by rw [z]; exact List.mem_map_of_mem (f := (·.1)) owT_f)
  let s2 : Option SD → Option SD → Dl := fun a9 a12 => [some (.v (.ref f)), some (.d (.list (ws.map .str))), some (.d (.int m)), some (.d (eKD (entX L))), some (.d (eKD (kinK L))), some (.d (.list ((rng1 j).map .int))), some (.d (.int dp)), none, none, a9, none, none, a12]
  refine RunO.perm pm (runO_thaw (δ' := s2 none (some (.v (.ref A)))) (.keep (.keep (.keep (.o (.k List.mem_cons_self (od_adr fun y hy => List.mem_cons_of_mem _ (List.mem_cons_of_mem _ (inn_mem hy)))) (.o (.k (List.mem_cons_of_mem _ List.mem_cons_self) (ODk.all _ (kinK L))) (by repeat constructor)))))) ?_)
  refine runO_seq (runO_for (wlk_lst [9] (fun r : Row => PyData.int r.1) (bs := T) (ev_sortDI (ev_var rfl) B.nd (by show L.length < 64; omega))) (fun i δa oa => δa = s2 none (some (.v (.ref A))) ∧ oa = [(A, .l (((T.take i).map eRow).map .d)), (f, .fd cells)]) ⟨_, by repeat constructor, rfl, rfl⟩ ?_ ?_)
  · rintro i hi δa oa ⟨rfl, rfl⟩
    refine ⟨s2 (some (.d (.int T[i].1))) (some (.v (.ref A))), fun b hb => by
      rw [List.getElem?_eq_getElem hi] at hb
      cases hb
      exact eg_name (by simp), ?_⟩
    have hrm : T[i] ∈ T := List.getElem_mem hi
    generalize hr : T[i] = r at hrm
    obtain ⟨q, hq, rfl⟩ := (sortT_mem (made := 0)).mp hrm
    have hql : q.2.2.length ≤ 8 := Nat.le_trans (B.entl hq) h8
    refine runO_appendS (i := 12) (a := A) (d := eRow (renR id id q)) rfl List.mem_cons_self (by rw [List.length_map, List.length_map, List.length_take]; omega) (ev_tup (ds := [.int q.1, .str q.2.1, eEnt (renE id id q.2.2)]) (ea_cons (ev_var rfl) (ea_cons (ev_dget (k := .inl q.1) (kds := kinK L) (ev_var rfl) (ev_var rfl) (lkK_map (F := fun r => .str r.2.1) B.nd hq)) (ea_cons (ev_tuple (ds := (renE id id q.2.2).map encE) ((ev_sortIt (e := q.2.2) (ev_dget (k := .inl q.1) (kds := entX L) (ev_var rfl) (ev_var rfl) (lkK_map (F := fun r => eKD (entK r.2.2)) B.nd hq))).to (by rw [renE_id]))) ea_nil))) (by trivial)) ?_
    rw [repl_hd, repl_tl hAf.symm, repl_nil]
    refine ⟨_, by repeat constructor, rfl, ?_⟩
    rw [take_succ' (List.getElem?_eq_getElem hi), hr]
    simp
  · rintro δa oa ⟨rfl, rfl⟩
    rw [List.take_length]
    refine runO_thaw (own := [(A, .l ((T.map eRow).map .d))]) (fs := [(f, .fd cells)]) (δ' := s2 none (some (.d (.list (T.map eRow))))) (.keep (.keep (.keep (.keep (.keep (.keep (.keep (.keep (.keep (.keep (.keep (.keep (.o (.l List.mem_cons_self (ODs.all _ _)) .nil))))))))))))) ?_
    have hT0 : T ≠ [] := fun z => by
      obtain ⟨e, rest, ht⟩ := B.top
      have h1 : L.length = rest.length + 1 := by show (rws X).length = _; rw [ht]; rfl
      rw [z] at hTl
      simp at hTl
      omega
    let lr := T.getLast hT0
    have last : atI (T.map eRow) (-1) = some (eRow lr) := by
      have e : T = T.dropLast ++ [lr] := (List.dropLast_concat_getLast hT0).symm
      rw [e, List.map_append]
      exact atI_last _ _
    refine runO_retN (P := fun d => ∃ r : Int, 0 ≤ r ∧ r < 3 ∧ d = .tuple [eRows T, .int (lr.1 + 1 + r)]) (evn_tup (PA := fun ds => ∃ r : Int, 0 ≤ r ∧ r < 3 ∧ ds = [eRows T, .int (lr.1 + 1 + r)]) (evna_cons (evn_of (d := eRows T) (ev_tuple (ds := T.map eRow) (ev_var rfl))) (evna_one (P := fun d => ∃ r : Int, 0 ≤ r ∧ r < 3 ∧ d = .int (lr.1 + 1 + r)) (evn_op (P1 := (· = .int (lr.1 + 1))) (evn_of (ev_add (ev_ixT (ds := [.int lr.1, .str lr.2.1, eEnt lr.2.2]) (ev_ixL (ds := T.map eRow) (ev_var rfl) (ev_neg ev_int) last) ev_int rfl) ev_int)) (evn_draw (m := 3) (cells := cells) rfl List.mem_cons_self (evn_of ev_int) (by decide) (by decide)) fun x y hx ⟨r, hy, h3, h4⟩ => ⟨.int (lr.1 + 1 + r), by rw [hx, hy]; exact rv_I0 fun _ => .int _, r, h3, h4, rfl⟩)) fun d ds hd ⟨d2, hds, r, h3, h4, hd2⟩ => ⟨r, h3, h4, by rw [hd, hds, hd2]⟩) fun ds ⟨r, h3, h4, hds⟩ => ⟨by rw [hds]; exact Nat.le_of_ble_eq_true rfl, r, h3, h4, by rw [hds]⟩) fun d ⟨r, h3, h4, hd⟩ => ⟨.inl rfl, ws, .int m, sortT L (lr.1 + 1 + r), rfl, ?_, hd⟩
    have hlm : lr ∈ T := List.getLast_mem hT0
    have inc : IncR T := sortR_inc (by rw [List.map_map]; exact B.nd)
    have hmax : ∀ a ∈ T, a.1 ≤ lr.1 := fun a ha => by
      have e : T = T.dropLast ++ [lr] := (List.dropLast_concat_getLast hT0).symm
      rw [e] at ha inc
      rcases List.mem_append.mp ha with h | h
      · exact Int.le_of_lt ((List.pairwise_append.mp inc).2.2 a h lr List.mem_cons_self)
      · rw [List.mem_singleton.mp h]; exact Int.le_refl _
    refine tree_of_bld B W hlL (fun r hr => ?_) ?_
    · have := hmax (renR id id r) ((sortT_mem (made := 0)).mpr ⟨r, hr, rfl⟩)
      have e : (renR id id r).1 = r.1 := rfl
      omega
    · obtain ⟨q, hq, e⟩ := (sortT_mem (L := L) (made := 0)).mp hlm
      have := (B.rng q hq).2
      have e2 : lr.1 = q.1 := by rw [← e]; rfl
      omega
end
end Dw
set_option Elab.async false
set_option linter.all false
set_option maxRecDepth 100000
set_option maxHeartbeats 1000000
/-! Promises of the law's own defs. -/
namespace Dw
open PySem PySem.Spec PyProof.Rows L2
def rot3 {α : Type} : List α → List α
  | [a, b, c] => [b, c, a]
  | l => l
theorem hr_80 {k : Nat} {A : Around} (h : Room k A) : A.units + 80 < cLine := by have := h.un; omega
def SpFeed (K : PySem.W.Frag) : Sp := fun vs H Q _ => ∃ (a : Addr) (ns : List Int), vs = [.ref a] ∧ SqL K H a (ns.map V.int) ∧ ns.length ≤ 63 ∧
  ∀ (p c : Addr) (H' : Hp), Ex H H' → H p = none → H' p = some (.dK [(keyC, .ref c), (keyA, .int 0), (keyL, .int 0), (keyN, .int 0)]) → c ≠ p → H' c = some (.lst (ns.map V.int)) → Q (.ref p) H'
abbrev rListOf (K : PySem.W.Frag) : List V → Hp → VK → Prop := fun xs H Q => ∃ p ys, xs = [V.ref p] ∧ (SqL K H p ys ∨ SqT K H p ys) ∧ ∀ l, H l = none → Q (.ref l) (upd H l (.lst ys))
def spLaw (K : PySem.W.Frag) : Sp := fun vs H Q _ => ∃ (a : Addr) (ns : List Int), vs = [.ref a] ∧ SqL K H a (ns.map V.int) ∧ ns.length ≤ 63 ∧ ∀ H', Q (.bl true) H'
def P__law_right (ds : List PyData) (d : PyData) : Prop := ∃ (ws : List Str) (t : Tree) (dds : List Deed) (np : NP) (ip : IP), WordsOk ws ∧ TreeOk ws t ∧ (∀ dd ∈ dds, DeedIn ws dd) ∧ dds.length ≤ 10 ∧ NpIn ws np ∧ IpIn t ip ∧
  ds = [eTree t, .list (dds.map eDeed), npD np, ipD ip] ∧ d = yes
end Dw
set_option Elab.async false
set_option linter.all false
set_option maxRecDepth 100000
set_option maxHeartbeats 600000
namespace Dw
open PySem PySem.Spec PyProof.Rows L2
section
variable {P : Program} {w : World} {K : PySem.W.Frag} {mg : Str → Option Value} {base : Heap} {f : Addr} {cdv : Value} {A : Around} {outer : List Env} {s : Shared} {H : Hp} {E : XK}
abbrev N__law_feed : List Str := ["_law_script"]
theorem sc__law_feed : FnScope N__law_feed ["_law_script"] (defScope s__law_feed) := ⟨rfl, rfl, rfl, by decide +kernel, rfl, by decide +kernel, by decide +kernel⟩
def t__law_feed (K : PySem.W.Frag) : TS :=
    tRet (tDisp [(tC (.str ("cells" : Str)), tCB (rListOf K) (tCons (tSl (rSlL K) (tVar 0) (tNoPart) (tPart (tC (.int 63)))) (tNil))), (tC (.str ("at" : Str)), tC (.int 0)), (tC (.str ("left" : Str)), tC (.int 0)), (tC (.str ("count" : Str)), tC (.int 0))])
theorem wk__law_feed (B : Bs mg)   (hr : Room 0 (A.deeper (envOfC "_law_feed" (defScope s__law_feed) s.heap.objs.size f cdv))) :
    PSs (cxOf CX0 P w K mg base N__law_feed "_law_feed" (defScope s__law_feed) f cdv A outer s H E).nox (defBody s__law_feed) (t__law_feed K) := by
  exact (pss_one (ps_ret (pe_disp (pps_cons (pe_str) (pe_callTy call_list_of (by rfl) B.list_ (by decide +kernel) (pa_cons (pe_slice sl_list (pv 0) (po_none) (po_some (pe_int))) (pa_nil))) (pps_cons (pe_str) (pe_int) (pps_cons (pe_str) (pe_int) (pps_cons (pe_str) (pe_int) (pps_nil))))) (by rfl) (by rfl) (fun z => by cases z) (by decide))))
abbrev N__law_right : List Str := ["_law_grove", "_law_deeds", "_law_words", "_law_numbers", "_law_other", "_law_act", "_law_turned", "_law_after", "_law_told", "_law_due_here"]
theorem sc__law_right : FnScope N__law_right ["_law_grove", "_law_deeds", "_law_words", "_law_numbers"] (defScope s__law_right) := ⟨rfl, rfl, rfl, by decide +kernel, rfl, by decide +kernel, by decide +kernel⟩
def t__law_right (K : PySem.W.Frag) (d1 d2 d3 d4 d5 : V) : TS :=
    tSeq (tAsg (tCallN 1 (["names", "nodes"] : List Str).length (SpD K P_renamed) (fun xs zs => xs ++ zs) E0 (tCons (tVar 0) (tNil)) (tCons (tVar 2) (tCons (tVar 3) (tNil)))) (gName 4))
    (tSeq (tIfS (tOr (tTest (tOp (rNeP K) (tCB (rRepr K) (tCons (tVar 4) (tNil))) (tCB (rRepr K) (tCons (tCall (SpD K P__law_due) [] E0 (tCons (tVar 0) (tCons (tCB (rDictF K) (tCons (tVar 2) (tNil))) (tCons (tCB (rDictF K) (tCons (tVar 3) (tNil))) (tNil))))) (tNil))))) (tTest (tOp (rNotB) (tCall (SpD K P_is_tree) [] E0 (tCons (tVar 4) (tNil))) (tC (.bl true))))) (tRet (tC (.bl false))) (tNext))
    (tSeq (tIfS (tTest (tOp (rNeP K) (tCB (rRepr K) (tCons (tCallN0 (["nodes", "tree", "names"] : List Str).length (SpD K P_renamed) (fun _ zs => rot3 zs) E0 (tCons (tCall (SpD K P__law_back) [] E0 (tCons (tVar 3) (tNil))) (tCons (tVar 4) (tCons (tCall (SpD K P__law_back) [] E0 (tCons (tVar 2) (tNil))) (tNil))))) (tNil))) (tCB (rRepr K) (tCons (tVar 0) (tNil))))) (tRet (tC (.bl false))) (tNext))
    (tSeq (tFor (iList K (tVar 1)) (gName 5) (tSeq (tAsg (tCallN 1 (["names"] : List Str).length (SpD K P_renamed_deed) (fun xs zs => xs ++ zs) E0 (tCons (tVar 5) (tNil)) (tCons (tVar 2) (tNil))) (gName 6))
    (tSeq (tIfS (tTest (tOp (rNeP K) (tCB (rRepr K) (tCons (tCallN0 (["names", "deed"] : List Str).length (SpD K P_renamed_deed) (fun _ zs => zs.reverse) E0 (tCons (tCall (SpD K P__law_back) [] E0 (tCons (tVar 2) (tNil))) (tCons (tVar 6) (tNil)))) (tNil))) (tCB (rRepr K) (tCons (tVar 5) (tNil))))) (tRet (tC (.bl false))) (tNext))
    (tSeq (tAsg (tCall (SpD K P_done) [] E0 (tCons (tVar 0) (tCons (tVar 5) (tNil)))) (gTup K 2 (gCons (gName 7) (gCons (gName 8) (gNil)))))
    (tSeq (tAsg (tTupF (tCons (tCallN 1 (["names", "nodes"] : List Str).length (SpD K P_renamed) (fun xs zs => xs ++ zs) E0 (tCons (tVar 7) (tNil)) (tCons (tVar 2) (tCons (tVar 3) (tNil)))) (tCons (tCallN 1 (["nodes", "names"] : List Str).length (SpD K P_renamed_told) (fun xs zs => xs ++ zs.reverse) E0 (tCons (tVar 8) (tNil)) (tCons (tVar 3) (tCons (tVar 2) (tNil)))) (tNil)))) (gName 9))
    (tSeq (tIfS (tTest (tOp (rNeP K) (tCB (rRepr K) (tCons (tCall (SpD K P_done) [] E0 (tCons (tVar 4) (tCons (tVar 6) (tNil)))) (tNil))) (tCB (rRepr K) (tCons (tVar 9) (tNil))))) (tRet (tC (.bl false))) (tNext))
    (tSeq (tIfS (tTest (tOp (rNeP K) (tCB (rRepr K) (tCons (tCallN 1 (["names", "nodes"] : List Str).length (SpD K P_renamed_told) (fun xs zs => xs ++ zs) E0 (tCons (tOp (rIxT K) (tVar 9) (tC (.int 1))) (tNil)) (tCons (tCall (SpD K P__law_back) [] E0 (tCons (tVar 2) (tNil))) (tCons (tCall (SpD K P__law_back) [] E0 (tCons (tVar 3) (tNil))) (tNil)))) (tNil))) (tCB (rRepr K) (tCons (tVar 8) (tNil))))) (tRet (tC (.bl false))) (tNext))
    (tIfS (tTest (tOp (rNeP K) (tCB (rRepr K) (tCons (tLst (tCons (tCall (SpD K P_renamed_told) ([d4, d5]) E0 (tCons (tVar 8) (tNil))) (tCons (tCallN 1 (["names", "nodes"] : List Str).length (SpD K P_renamed_told) (fun xs zs => xs ++ zs) E0 (tCons (tVar 8) (tNil)) (tCons (tTupF (tNil)) (tCons (tTupF (tNil)) (tNil)))) (tNil)))) (tNil))) (tCB (rRepr K) (tCons (tLst (tCons (tVar 8) (tCons (tVar 8) (tNil)))) (tNil))))) (tRet (tC (.bl false))) (tNext)))))))))
    (tRet (tC (.bl true))))))
theorem wk__law_right (B : Bs mg) (d1 d2 d3 d4 d5 : V) (hgd : (A.deeper (envOfC "_law_right" (defScope s__law_right) s.heap.objs.size f cdv)).guards = some []) (c_renamed_names_nodes : CalK P w K mg base 1 "renamed" 1 ["names", "nodes"] (SpD K P_renamed) (fun xs zs => xs ++ zs)) (c_renamed_deed_names : CalK P w K mg base 2 "renamed_deed" 1 ["names"] (SpD K P_renamed_deed) (fun xs zs => xs ++ zs)) (c_done : Cal P w K mg base 8 "done" (SpD K P_done)) (c_is_tree : Cal P w K mg base 5 "is_tree" (SpD K P_is_tree)) (c_renamed_nodes_tree_names : CalK P w K mg base 1 "renamed" 0 ["nodes", "tree", "names"] (SpD K P_renamed) (fun _ zs => rot3 zs)) (c_renamed_told_nodes_names : CalK P w K mg base 2 "renamed_told" 1 ["nodes", "names"] (SpD K P_renamed_told) (fun xs zs => xs ++ zs.reverse)) (c__law_due : Cal P w K mg base 1 "_law_due" (SpD K P__law_due)) (c_renamed_deed_names_deed : CalK P w K mg base 2 "renamed_deed" 0 ["names", "deed"] (SpD K P_renamed_deed) (fun _ zs => zs.reverse)) (c_renamed_told_names_nodes : CalK P w K mg base 2 "renamed_told" 1 ["names", "nodes"] (SpD K P_renamed_told) (fun xs zs => xs ++ zs)) (c__law_back : Cal P w K mg base 1 "_law_back" (SpD K P__law_back)) (c_renamed_told : CalD P w K mg base 2 "renamed_told" (SpD K P_renamed_told) ([d4, d5])) (hr : Room 8 (A.deeper (envOfC "_law_right" (defScope s__law_right) s.heap.objs.size f cdv))) :
    PSs (cxOf CX0 P w K mg base N__law_right "_law_right" (defScope s__law_right) f cdv A outer s H E).nox (defBody s__law_right) (t__law_right K d1 d2 d3 d4 d5) := by
  exact (pss_cons (ps_set (i := 4) sc__law_right.nd rfl (by first | exact Or.inl rfl | exact Or.inr rfl) (pe_calk c_renamed_names_nodes hr (by decide) rfl (pa_cons (pv 0) (pa_nil)) (pk_cons (pv 2) (pk_cons (pv 3) (pk_nil)))))
      (pss_cons (ps_if (PW.pt (pw_or (pt_cmpR (op_neP hr.units) (pe_callB (call_reprD hgd (hr_80 hr)) (by rfl) B.repr_ (by decide +kernel) (pa_cons (pv 4) (pa_nil))) (pe_callB (call_reprD hgd (hr_80 hr)) (by rfl) B.repr_ (by decide +kernel) (pa_cons (pe_cal c__law_due hr (by decide) rfl (pa_cons (pv 0) (pa_cons (pe_callTy (call_dictF rfl) (by rfl) B.dict_ (by decide +kernel) (pa_cons (pv 2) (pa_nil))) (pa_cons (pe_callTy (call_dictF rfl) (by rfl) B.dict_ (by decide +kernel) (pa_cons (pv 3) (pa_nil))) (pa_nil))))) (pa_nil))) (nomark _)) (pw_or1 (pt_cmpR op_notBl (pe_cal c_is_tree hr (by decide) rfl (pa_cons (pv 4) (pa_nil))) (pe_bl) (nomark _))))) (pss_one (ps_ret (pe_bl))) (pss_nil))
      (pss_cons (ps_if (pt_cmpR (op_neP hr.units) (pe_callB (call_reprD hgd (hr_80 hr)) (by rfl) B.repr_ (by decide +kernel) (pa_cons (pe_calk0 c_renamed_nodes_tree_names hr (by decide) rfl (pk_cons (pe_cal c__law_back hr (by decide) rfl (pa_cons (pv 3) (pa_nil))) (pk_cons (pv 4) (pk_cons (pe_cal c__law_back hr (by decide) rfl (pa_cons (pv 2) (pa_nil))) (pk_nil))))) (pa_nil))) (pe_callB (call_reprD hgd (hr_80 hr)) (by rfl) B.repr_ (by decide +kernel) (pa_cons (pv 0) (pa_nil))) (nomark _)) (pss_one (ps_ret (pe_bl))) (pss_nil))
      (pss_cons (ps_for PassesOwn.never rfl (pi_list (pv 1)) (pg_name (i := 5) sc__law_right.nd rfl (by first | exact Or.inl rfl | exact Or.inr rfl)) (pss_cons (ps_set (i := 6) sc__law_right.nd rfl (by first | exact Or.inl rfl | exact Or.inr rfl) (pe_calk c_renamed_deed_names hr (by decide) rfl (pa_cons (pv 5) (pa_nil)) (pk_cons (pv 2) (pk_nil))))
      (pss_cons (ps_if (pt_cmpR (op_neP hr.units) (pe_callB (call_reprD hgd (hr_80 hr)) (by rfl) B.repr_ (by decide +kernel) (pa_cons (pe_calk0 c_renamed_deed_names_deed hr (by decide) rfl (pk_cons (pe_cal c__law_back hr (by decide) rfl (pa_cons (pv 2) (pa_nil))) (pk_cons (pv 6) (pk_nil)))) (pa_nil))) (pe_callB (call_reprD hgd (hr_80 hr)) (by rfl) B.repr_ (by decide +kernel) (pa_cons (pv 5) (pa_nil))) (nomark _)) (pss_one (ps_ret (pe_bl))) (pss_nil))
      (pss_cons (ps_asg (pe_cal c_done hr (by decide) rfl (pa_cons (pv 0) (pa_cons (pv 5) (pa_nil)))) (pg_tup rfl (pgs_cons (pg_name (i := 7) sc__law_right.nd rfl (by first | exact Or.inl rfl | exact Or.inr rfl)) (pgs_cons (pg_name (i := 8) sc__law_right.nd rfl (by first | exact Or.inl rfl | exact Or.inr rfl)) (pgs_nil)))))
      (pss_cons (ps_set (i := 9) sc__law_right.nd rfl (by first | exact Or.inl rfl | exact Or.inr rfl) (pe_tupF (pa_cons (pe_calk c_renamed_names_nodes hr (by decide) rfl (pa_cons (pv 7) (pa_nil)) (pk_cons (pv 2) (pk_cons (pv 3) (pk_nil)))) (pa_cons (pe_calk c_renamed_told_nodes_names hr (by decide) rfl (pa_cons (pv 8) (pa_nil)) (pk_cons (pv 3) (pk_cons (pv 2) (pk_nil)))) (pa_nil)))))
      (pss_cons (ps_if (pt_cmpR (op_neP hr.units) (pe_callB (call_reprD hgd (hr_80 hr)) (by rfl) B.repr_ (by decide +kernel) (pa_cons (pe_cal c_done hr (by decide) rfl (pa_cons (pv 4) (pa_cons (pv 6) (pa_nil)))) (pa_nil))) (pe_callB (call_reprD hgd (hr_80 hr)) (by rfl) B.repr_ (by decide +kernel) (pa_cons (pv 9) (pa_nil))) (nomark _)) (pss_one (ps_ret (pe_bl))) (pss_nil))
      (pss_cons (ps_if (pt_cmpR (op_neP hr.units) (pe_callB (call_reprD hgd (hr_80 hr)) (by rfl) B.repr_ (by decide +kernel) (pa_cons (pe_calk c_renamed_told_names_nodes hr (by decide) rfl (pa_cons (pe_ix ix_tup (pv 9) (pe_int) (fun _ _ => rfl)) (pa_nil)) (pk_cons (pe_cal c__law_back hr (by decide) rfl (pa_cons (pv 2) (pa_nil))) (pk_cons (pe_cal c__law_back hr (by decide) rfl (pa_cons (pv 3) (pa_nil))) (pk_nil)))) (pa_nil))) (pe_callB (call_reprD hgd (hr_80 hr)) (by rfl) B.repr_ (by decide +kernel) (pa_cons (pv 8) (pa_nil))) (nomark _)) (pss_one (ps_ret (pe_bl))) (pss_nil))
      (pss_one (ps_if (pt_cmpR (op_neP hr.units) (pe_callB (call_reprD hgd (hr_80 hr)) (by rfl) B.repr_ (by decide +kernel) (pa_cons (pe_lst (pa_cons (pe_cald c_renamed_told hr (by decide) rfl (pa_cons (pv 8) (pa_nil))) (pa_cons (pe_calk c_renamed_told_names_nodes hr (by decide) rfl (pa_cons (pv 8) (pa_nil)) (pk_cons (pe_tupF (pa_nil)) (pk_cons (pe_tupF (pa_nil)) (pk_nil)))) (pa_nil)))) (pa_nil))) (pe_callB (call_reprD hgd (hr_80 hr)) (by rfl) B.repr_ (by decide +kernel) (pa_cons (pe_lst (pa_cons (pv 8) (pa_cons (pv 8) (pa_nil)))) (pa_nil))) (nomark _)) (pss_one (ps_ret (pe_bl))) (pss_nil))))))))))
      (pss_one (ps_ret (pe_bl)))))))
abbrev N_law : List Str := ["_law_script", "_law_feed_here", "_law_turn", "_law_words_here", "_law_grove", "_law_deeds", "_law_k", "_law_words", "_law_numbers", "_law_before", "_law_told"]
theorem sc_law : FnScope N_law ["_law_script"] (defScope s_law) := ⟨rfl, rfl, rfl, by decide +kernel, rfl, by decide +kernel, by decide +kernel⟩
def t_law (K : PySem.W.Frag) (d1 d2 d3 d4 d5 : V) : TS :=
    tSeq (tAsg (tCall (SpFeed K) [] E0 (tCons (tVar 0) (tNil))) (gName 1))
    (tSeq (tFor (iRng1 (tCons (tC (.int 2)) (tNil))) (gName 2) (tSeq (tAsg (tCall (SpF K Pre_names Post_names) [] E0 (tCons (tVar 1) (tNil))) (gName 3))
    (tSeq (tAsg (tCall (SpF K Pre_tree Post_tree) [] E0 (tCons (tVar 1) (tCons (tVar 3) (tCons (tCall (SpF K Pre_draw Post_draw) [] E0 (tCons (tVar 1) (tCons (tC (.int 11)) (tNil)))) (tNil))))) (gName 4))
    (tSeq (tAsg (tLc (iRng1 (tCons (tC (.int 4)) (tNil))) (gName 6) (tYes) (tCall (SpF K Pre_deed Post_deed) [] E0 (tCons (tVar 1) (tCons (tVar 4) (tCons (tVar 3) (tNil))))) [6]) (gName 5))
    (tSeq (tPar 7 8 (tCons (tCall (SpF K Pre_name_pairs Post_name_pairs) [] E0 (tCons (tVar 1) (tCons (tVar 3) (tNil)))) (tCons (tCall (SpF K Pre_node_pairs Post_node_pairs) [] E0 (tCons (tVar 1) (tCons (tVar 4) (tNil)))) (tNil))))
    (tSeq (tAsg (tCB (rRepr K) (tCons (tTupF (tCons (tVar 4) (tCons (tVar 5) (tCons (tVar 7) (tCons (tVar 8) (tNil)))))) (tNil))) (gName 9))
    (tSeq (tIfS (tOr (tNot (tB (tCall (SpD K P__law_right) [] E0 (tCons (tVar 4) (tCons (tVar 5) (tCons (tVar 7) (tCons (tVar 8) (tNil)))))))) (tNot (tB (tCall (SpD K P__law_right) [] E0 (tCons (tVar 4) (tCons (tVar 5) (tCons (tTupF (tNil)) (tCons (tVar 8) (tNil))))))))) (tRet (tC (.bl false))) (tNext))
    (tSeq (tAsg (tLst (tCons (tCall (SpD K P_renamed) ([d1, d2]) E0 (tCons (tVar 4) (tNil))) (tCons (tCallN 1 (["names"] : List Str).length (SpD K P_renamed) (fun xs zs => xs ++ (zs ++ [d2])) E0 (tCons (tVar 4) (tNil)) (tCons (tTupF (tNil)) (tNil))) (tCons (tCallN 1 (["nodes"] : List Str).length (SpD K P_renamed) (fun xs zs => xs ++ (d1 :: zs)) E0 (tCons (tVar 4) (tNil)) (tCons (tTupF (tNil)) (tNil))) (tCons (tCall (SpD K P_renamed_deed) ([d3]) E0 (tCons (tOp (rIxL K) (tVar 5) (tC (.int 0))) (tNil))) (tNil)))))) (gName 10))
    (tIfS (tOr (tTest (tOp (rNeP K) (tCB (rRepr K) (tCons (tVar 10) (tNil))) (tCB (rRepr K) (tCons (tLst (tCons (tVar 4) (tCons (tVar 4) (tCons (tVar 4) (tCons (tOp (rIxL K) (tVar 5) (tC (.int 0))) (tNil)))))) (tNil))))) (tTest (tOp (rNeP K) (tCB (rRepr K) (tCons (tTupF (tCons (tVar 4) (tCons (tVar 5) (tCons (tVar 7) (tCons (tVar 8) (tNil)))))) (tNil))) (tVar 9)))) (tRet (tC (.bl false))) (tNext))))))))))
    (tRet (tC (.bl true))))
theorem wk_law (B : Bs mg) (d1 d2 d3 d4 d5 : V) (hgd : (A.deeper (envOfC "law" (defScope s_law) s.heap.objs.size f cdv)).guards = some []) (c__law_feed : Cal P w K mg base 1 "_law_feed" (SpFeed K)) (c__law_names : Cal P w K mg base 2 "_law_names" (SpF K Pre_names Post_names)) (c__law_tree : Cal P w K mg base 2 "_law_tree" (SpF K Pre_tree Post_tree)) (c__law_draw : Cal P w K mg base 1 "_law_draw" (SpF K Pre_draw Post_draw)) (c__law_deed : Cal P w K mg base 3 "_law_deed" (SpF K Pre_deed Post_deed)) (c__law_name_pairs : Cal P w K mg base 2 "_law_name_pairs" (SpF K Pre_name_pairs Post_name_pairs)) (c__law_node_pairs : Cal P w K mg base 2 "_law_node_pairs" (SpF K Pre_node_pairs Post_node_pairs)) (c_renamed : CalD P w K mg base 1 "renamed" (SpD K P_renamed) ([d1, d2])) (c_renamed_names : CalK P w K mg base 1 "renamed" 1 ["names"] (SpD K P_renamed) (fun xs zs => xs ++ (zs ++ [d2]))) (c_renamed_nodes : CalK P w K mg base 1 "renamed" 1 ["nodes"] (SpD K P_renamed) (fun xs zs => xs ++ (d1 :: zs))) (c_renamed_deed : CalD P w K mg base 2 "renamed_deed" (SpD K P_renamed_deed) ([d3])) (c__law_right : CalG P w K mg base 9 "_law_right" (SpD K P__law_right)) (hr : Room 9 (A.deeper (envOfC "law" (defScope s_law) s.heap.objs.size f cdv))) :
    PSs (cxOf CX0 P w K mg base N_law "law" (defScope s_law) f cdv A outer s H E).nox (defBody s_law) (t_law K d1 d2 d3 d4 d5) := by
  exact (pss_cons (ps_set (i := 1) sc_law.nd rfl (by first | exact Or.inl rfl | exact Or.inr rfl) (pe_cal c__law_feed hr (by decide) rfl (pa_cons (pv 0) (pa_nil))))
      (pss_cons (ps_for PassesOwn.never rfl (pi_range1 (by rfl) B.range_ (pa_cons (pe_int) (pa_nil))) (pg_name (i := 2) sc_law.nd rfl (by first | exact Or.inl rfl | exact Or.inr rfl)) (pss_cons (ps_set (i := 3) sc_law.nd rfl (by first | exact Or.inl rfl | exact Or.inr rfl) (pe_cal c__law_names hr (by decide) rfl (pa_cons (pv 1) (pa_nil))))
      (pss_cons (ps_set (i := 4) sc_law.nd rfl (by first | exact Or.inl rfl | exact Or.inr rfl) (pe_cal c__law_tree hr (by decide) rfl (pa_cons (pv 1) (pa_cons (pv 3) (pa_cons (pe_cal c__law_draw hr (by decide) rfl (pa_cons (pv 1) (pa_cons (pe_int) (pa_nil)))) (pa_nil))))))
      (pss_cons (ps_setLc (i := 5) (own := [("_law_k", 6)]) (g := gName 6) (tt := tYes) (te := tCall (SpF K Pre_deed Post_deed) [] E0 (tCons (tVar 1) (tCons (tVar 4) (tCons (tVar 3) (tNil))))) rfl sc_law.nd rfl rfl (sw_true rfl rfl rfl (by decide +kernel)) (pi_range1 (by rfl) B.range_ (pa_cons (pe_int) (pa_nil))) (blkOk_by (own := [("_law_k", 6)]) (N := N_law) (sc := defScope s_law) (by decide +kernel)) (fun _ _ _ _ _ => pg_name (i := 6) sc_law.nd rfl (by first | exact Or.inl rfl | exact Or.inr rfl)) (fun _ _ _ _ _ => pts_nil) (fun _ _ _ _ _ => pe_cal c__law_deed hr (by decide) rfl (pa_cons (pv 1) (pa_cons (pv 4) (pa_cons (pv 3) (pa_nil))))))
      (pss_cons (ps_par (by rfl) sc_law.nd rfl rfl (by decide) rfl rfl (pa_cons (pe_cal c__law_name_pairs hr (by decide) rfl (pa_cons (pv 1) (pa_cons (pv 3) (pa_nil)))) (pa_cons (pe_cal c__law_node_pairs hr (by decide) rfl (pa_cons (pv 1) (pa_cons (pv 4) (pa_nil)))) (pa_nil))) (by rfl))
      (pss_cons (ps_set (i := 9) sc_law.nd rfl (by first | exact Or.inl rfl | exact Or.inr rfl) (pe_callB (call_reprD hgd (hr_80 hr)) (by rfl) B.repr_ (by decide +kernel) (pa_cons (pe_tupF (pa_cons (pv 4) (pa_cons (pv 5) (pa_cons (pv 7) (pa_cons (pv 8) (pa_nil)))))) (pa_nil))))
      (pss_cons (ps_if (PW.pt (pw_or (pt_not (pt_val (pe_calg c__law_right hr (by decide) hgd rfl (pa_cons (pv 4) (pa_cons (pv 5) (pa_cons (pv 7) (pa_cons (pv 8) (pa_nil)))))))) (pw_or1 (pt_not (pt_val (pe_calg c__law_right hr (by decide) hgd rfl (pa_cons (pv 4) (pa_cons (pv 5) (pa_cons (pe_tupF (pa_nil)) (pa_cons (pv 8) (pa_nil))))))))))) (pss_one (ps_ret (pe_bl))) (pss_nil))
      (pss_cons (ps_set (i := 10) sc_law.nd rfl (by first | exact Or.inl rfl | exact Or.inr rfl) (pe_lst (pa_cons (pe_cald c_renamed hr (by decide) rfl (pa_cons (pv 4) (pa_nil))) (pa_cons (pe_calk c_renamed_names hr (by decide) rfl (pa_cons (pv 4) (pa_nil)) (pk_cons (pe_tupF (pa_nil)) (pk_nil))) (pa_cons (pe_calk c_renamed_nodes hr (by decide) rfl (pa_cons (pv 4) (pa_nil)) (pk_cons (pe_tupF (pa_nil)) (pk_nil))) (pa_cons (pe_cald c_renamed_deed hr (by decide) rfl (pa_cons (pe_ix ix_list (pv 5) (pe_int) (fun _ _ => rfl)) (pa_nil))) (pa_nil)))))))
      (pss_one (ps_if (PW.pt (pw_or (pt_cmpR (op_neP hr.units) (pe_callB (call_reprD hgd (hr_80 hr)) (by rfl) B.repr_ (by decide +kernel) (pa_cons (pv 10) (pa_nil))) (pe_callB (call_reprD hgd (hr_80 hr)) (by rfl) B.repr_ (by decide +kernel) (pa_cons (pe_lst (pa_cons (pv 4) (pa_cons (pv 4) (pa_cons (pv 4) (pa_cons (pe_ix ix_list (pv 5) (pe_int) (fun _ _ => rfl)) (pa_nil)))))) (pa_nil))) (nomark _)) (pw_or1 (pt_cmpR (op_neP hr.units) (pe_callB (call_reprD hgd (hr_80 hr)) (by rfl) B.repr_ (by decide +kernel) (pa_cons (pe_tupF (pa_cons (pv 4) (pa_cons (pv 5) (pa_cons (pv 7) (pa_cons (pv 8) (pa_nil)))))) (pa_nil))) (pv 9) (nomark _))))) (pss_one (ps_ret (pe_bl))) (pss_nil)))))))))))
      (pss_one (ps_ret (pe_bl)))))
end
end Dw
set_option Elab.async false
set_option linter.all false
set_option maxRecDepth 100000
set_option maxHeartbeats 1000000
/-! The plain law: what trees and words behind deeds are like; the tree renamed is a tree. -/
namespace Dw
open PySem PySem.W
def Nm (n : Int) : Prop := 0 ≤ n ∧ n ≤ 50
def Kd (k : Str) : Prop := k = sD ∨ k = sS
/-- a tree with names of ws, perhaps none by every point -/
structure LooseT (ws : List Str) (t : Tree) : Prop where
  ids : (t.1.map (·.1)).Nodup
  ents : ∀ r ∈ t.1, (r.2.2.map (·.1)).Nodup
  names : ∀ r ∈ t.1, ∀ p ∈ r.2.2, p.1 ∈ ws
  few : t.1.length ≤ 12
  kinds : ∀ r ∈ t.1, Kd r.2.1
  rng : ∀ r ∈ t.1, Nm r.1
  to : ∀ r ∈ t.1, ∀ p ∈ r.2.2, Nm p.2
  made : Nm t.2
section
variable {ws : List Str} {f f' : Str → Str} {g g' : Int → Int} {t : Tree} {rows : List Row} {cs : List Chg}
theorem LooseT.entl (L : LooseT ws t) {r : Row} (hr : r ∈ t.1) : r.2.2.length ≤ ws.length := by
  have := nodup_len (L.ents r hr) fun x hx => by
    obtain ⟨p, hp, rfl⟩ := List.mem_map.mp hx
    exact L.names r hr p hp
  rwa [List.length_map] at this
theorem LooseT.renOk (L : LooseT ws t) (h8 : ws.length ≤ 8) (fi : ∀ x ∈ ws, ∀ y ∈ ws, f x = f y → x = y) (gi : ∀ a b, g a = g b → a = b) : RenOk f g t := by
  refine ⟨?_, fun r hr => ?_, by have := L.few; omega, fun r hr => by have := L.entl hr; omega⟩
  · have := nodup_map (h := g) L.ids fun a _ b _ e => gi a b e
    rwa [List.map_map] at this
  · have := nodup_map (h := f) (L.ents r hr) fun a ha b hb e => by
      obtain ⟨p, hp, rfl⟩ := List.mem_map.mp ha
      obtain ⟨q, hq, rfl⟩ := List.mem_map.mp hb
      exact fi _ (L.names r hr p hp) _ (L.names r hr q hq) e
    rwa [List.map_map] at this
theorem nm_in (hT : TreeOk ws t) {n : Int} (h : In t n) : Nm n := by
  obtain ⟨r, hr, e⟩ := h
  have h1 := hT.1.pos r hr
  have h2 := hT.1.made r hr
  have h3 := hT.2.2.2.2
  unfold Nm
  omega
theorem nm_made (hT : TreeOk ws t) : 0 ≤ t.2 ∧ t.2 ≤ 40 := by
  obtain ⟨r, hr, e⟩ := hT.1.in0
  have h2 := hT.1.made r hr
  have h3 := hT.2.2.2.2
  omega
theorem loose_of (hT : TreeOk ws t) : LooseT ws t := by
  have hm := nm_made hT
  exact ⟨hT.1.nodup, fun r hr => Rise.nodup (hT.1.rise r hr), hT.2.1, by have := hT.2.2.1; omega, fun r hr => (hT.1.kinds r hr).imp id (·.1), fun r hr => nm_in hT ⟨r, hr, rfl⟩, fun r hr p hp => nm_in hT (hT.1.to r hr p hp).2, ⟨hm.1, by omega⟩⟩
/-- what stands behind changes comes of what stood or of the changes -/
theorem chgs_val {n : Int} : ∀ {cs : List Chg} {e : EntO} {p : Str × Option Int}, p ∈ chgs cs n e → (∃ q ∈ e, q.2 = p.2) ∨ ∃ c ∈ cs, c.2.2 = p.2
  | [], e, p, h => .inl ⟨p, h, rfl⟩
  | c :: cs, e, p, h => by
    unfold chgs at h
    rw [List.foldl_cons] at h
    have step : ∀ e' : EntO, p ∈ chgs cs n e' → (∀ q ∈ e', (∃ q' ∈ e, q'.2 = q.2) ∨ c.2.2 = q.2) → (∃ q ∈ e, q.2 = p.2) ∨ ∃ d ∈ c :: cs, d.2.2 = p.2 := fun e' h1 h2 => by
      rcases chgs_val h1 with ⟨q, hq, e1⟩ | ⟨d, hd, e1⟩
      · rcases h2 q hq with ⟨q', hq', e2⟩ | e2
        · exact .inl ⟨q', hq', e2.trans e1⟩
        · exact .inr ⟨c, List.mem_cons_self, e2.trans e1⟩
      · exact .inr ⟨d, List.mem_cons_of_mem _ hd, e1⟩
    by_cases z : c.1 = n
    · rw [if_pos z] at h
      refine step _ h fun q hq => ?_
      unfold putE at hq
      split at hq
      · obtain ⟨q0, hq0, e0⟩ := List.mem_map.mp hq
        split at e0
        · exact .inr (by rw [← e0])
        · exact .inl ⟨q0, hq0, by rw [e0]⟩
      · rcases List.mem_append.mp hq with h1 | h1
        · exact .inl ⟨q, h1, rfl⟩
        · exact .inr (by rw [List.mem_singleton.mp h1])
    · rw [if_neg z] at h
      exact step _ h fun q hq => .inl ⟨q, hq, rfl⟩
theorem laid_loose (inc : IncR rows) (rise : ∀ r ∈ rows, Rise r.2.2) (names : ∀ r ∈ rows, ∀ p ∈ r.2.2, p.1 ∈ ws) (hc : ∀ c ∈ cs, c.2.1 ∈ ws) (hl : rows.length ≤ 12) (hk : ∀ r ∈ rows, Kd r.2.1) (hr : ∀ r ∈ rows, Nm r.1) (ht : ∀ r ∈ rows, ∀ p ∈ r.2.2, Nm p.2) (hv : ∀ c ∈ cs, ∀ n, c.2.2 = some n → Nm n) {made : Int} (hm : Nm made) : LooseT ws (laidP rows cs made) := by
  have H : RenH ws id id rows := ⟨fun _ _ _ _ h => h, fun _ _ h => h, rfl, inc, rise, names⟩
  have mem : ∀ r ∈ (laidP rows cs made).1, ∃ q ∈ rows, r = (q.1, q.2.1, sortE (keptE cs q)) := fun r h => by
    obtain ⟨q, hq, e⟩ := List.mem_map.mp h
    exact ⟨q, (List.mem_filter.mp hq).1, e.symm⟩
  refine ⟨?_, fun r h => ?_, fun r h p hp => ?_, ?_, fun r h => ?_, fun r h => ?_, fun r h p hp => ?_, hm⟩
  · show (((rows.filter _).map _).map _).Nodup
    rw [List.map_map]
    exact List.Pairwise.sublist (List.Sublist.map _ List.filter_sublist) inc.nodup
  · obtain ⟨q, hq, rfl⟩ := mem r h
    exact ((sortE_perm _).map _).nodup_iff.mpr (keptE_names (rise q hq))
  · obtain ⟨q, hq, rfl⟩ := mem r h
    exact keptE_in H hc hq p ((sortE_perm _).mem_iff.mp hp)
  · show ((rows.filter _).map _).length ≤ 12
    rw [List.length_map]
    exact Nat.le_trans (List.length_filter_le _ _) hl
  · obtain ⟨q, hq, rfl⟩ := mem r h
    exact hk q hq
  · obtain ⟨q, hq, rfl⟩ := mem r h
    exact hr q hq
  · obtain ⟨q, hq, rfl⟩ := mem r h
    have hp' : p ∈ keptE cs q := (sortE_perm _).mem_iff.mp hp
    unfold keptE at hp'
    obtain ⟨s, hs, e⟩ := List.mem_filterMap.mp hp'
    obtain ⟨x, o⟩ := s
    cases o with
    | none => cases e
    | some n =>
      cases e
      rcases chgs_val hs with ⟨q1, hq1, e1⟩ | ⟨c, hc1, e1⟩
      · obtain ⟨q2, hq2, rfl⟩ := List.mem_map.mp hq1
        have : q2.2 = n := Option.some.inj e1
        exact this ▸ ht q hq q2 hq2
      · exact hv c hc1 n e1
/-! ### words -/
def ToldR (ws : List Str) : Told → Prop
  | .miss m => m.2 ≤ 20
  | .miss2 m i => m.2 ≤ 20 ∧ i ≤ 1
  | .found k n => Kd k ∧ Nm n
  | .names xs => (xs.Pairwise fun a b => a.cps.toList < b.cps.toList) ∧ ∀ x ∈ xs, x ∈ ws
  | .wd x => wordW x
  | .made n => Nm n
  | .one x n => wordT x ∧ Nm n
  | .two n m => Nm n ∧ Nm m
theorem thr_miss {m : Miss} : ∀ (w : List Str) (i : Nat) (n : Int), (thr t i n w).2 = some m → m.2 ≤ i + w.length
  | [], i, n, h => by cases h
  | x :: w, i, n, h => by
    unfold thr at h
    split at h
    · cases h; simp
    · split at h
      · cases h; simp
      · have := thr_miss w (i + 1) _ h
        rw [List.length_cons]
        omega
theorem drawer_miss {w : List Str} {m : Miss} (h : (drawerOf t w).2 = some m) : m.2 ≤ w.length := by
  unfold drawerOf at h
  simp only at h
  split at h
  · next m' e =>
    cases h
    have := thr_miss _ _ _ e
    rw [List.length_dropLast] at this
    omega
  · split at h
    · cases h
      show w.length - 1 ≤ _
      omega
    · cases h
theorem WayIn.last {a : List Str} (h : WayIn ws a) (hn : a ≠ []) : lastW a ∈ ws := h.1 _ (lastW_mem hn)
theorem both_no {a b : List Str} {m : Miss} {i : Nat} (h : bothOf t a b = .no m i) : m.2 ≤ max a.length b.length ∧ i ≤ 1 := by
  unfold bothOf at h
  cases h1 : (drawerOf t a).2 with
  | some m' =>
    simp only [h1] at h
    cases h
    exact ⟨Nat.le_trans (drawer_miss h1) (Nat.le_max_left _ _), Nat.zero_le _⟩
  | none =>
    cases h2 : (drawerOf t b).2 with
    | some m' =>
      simp only [h1, h2] at h
      cases h
      exact ⟨Nat.le_trans (drawer_miss h2) (Nat.le_max_right _ _), Nat.le_refl _⟩
    | none =>
      simp only [h1, h2] at h
      cases h3 : entryOf t (drawerOf t a).1 a <;> simp only [h3] at h <;> cases h
/-- a deed's tree and words -/
theorem done_good (hT : TreeOk ws t) (dd : Deed) (hd : DeedIn ws dd) : LooseT ws (doneP t dd).1 ∧ ToldR ws (doneP t dd).2 := by
  have L0 := loose_of hT
  have hm := nm_made hT
  have W := hT.1
  have nmE : ∀ {d : Int} {w : List Str} {n : Int}, entryOf t d w = some n → Nm n := fun {d w n} h => nm_in hT (W.inTo h)
  have laid : ∀ {cs : List Chg}, (∀ c ∈ cs, c.2.1 ∈ ws) → (∀ c ∈ cs, ∀ n, c.2.2 = some n → Nm n) → LooseT ws (laidP t.1 cs t.2) := fun h1 h2 =>
    laid_loose W.inc W.rise hT.2.1 h1 L0.few L0.kinds L0.rng L0.to h2 L0.made
  cases dd with
  | look w =>
    show LooseT ws (doLook t w).1 ∧ ToldR ws (doLook t w).2
    unfold doLook
    cases h : (thr t 0 0 w).2 with
    | some m =>
      simp only [h]
      have := thr_miss _ _ _ h
      have h6 := hd.2
      exact ⟨L0, by show m.2 ≤ 20; omega⟩
    | none => simp only [h]; exact ⟨L0, W.kind2 (lastN_in W w), nm_in hT (lastN_in W w)⟩
  | list w =>
    show LooseT ws (doList t w).1 ∧ ToldR ws (doList t w).2
    unfold doList
    have h6 := hd.2
    cases h : (thr t 0 0 w).2 with
    | some m =>
      simp only [h]
      have := thr_miss _ _ _ h
      exact ⟨L0, by show m.2 ≤ 20; omega⟩
    | none =>
      simp only [h]
      split
      · exact ⟨L0, by show w.length ≤ 20; omega⟩
      · refine ⟨L0, ?_, fun x hx => ?_⟩
        · exact List.pairwise_map.mpr (entOf_rise W _)
        · obtain ⟨p, hp, rfl⟩ := List.mem_map.mp hx
          unfold entOf at hp
          cases q : rowOf t (lastN (thr t 0 0 w).1) with
          | none => rw [q] at hp; cases hp
          | some r => rw [q] at hp; exact hT.2.1 r (List.mem_of_find?_eq_some q) p hp
  | make w k =>
    show LooseT ws (doMake t w k).1 ∧ ToldR ws (doMake t w k).2
    unfold doMake
    have h6 := hd.1.2
    cases h : (drawerOf t w).2 with
    | some m =>
      simp only [h]
      have := drawer_miss h
      exact ⟨L0, by show m.2 ≤ 20; omega⟩
    | none => cases h2 : entryOf t (drawerOf t w).1 w with
      | some n => simp only [h, h2]; exact ⟨L0, Or.inl rfl⟩
      | none =>
        simp only [h, h2]
        have hm' : Nm t.2 := ⟨hm.1, by omega⟩
        have mem : ∀ r ∈ t.1 ++ [(t.2, k, ([] : Ent))], r ∈ t.1 ∨ r = (t.2, k, []) := fun r hr => by
          rcases List.mem_append.mp hr with h | h
          · exact .inl h
          · exact .inr (List.mem_singleton.mp h)
        refine ⟨laid_loose ?_ (fun r hr => ?_) (fun r hr p hp => ?_) (fun c hc => ?_) ?_ (fun r hr => ?_) (fun r hr => ?_) (fun r hr p hp => ?_) (fun c hc n hn => ?_) ⟨by omega, by omega⟩, hm'⟩
        · exact List.pairwise_append.mpr ⟨W.inc, List.pairwise_singleton _ _, fun a ha b hb => by rw [List.mem_singleton.mp hb]; exact W.made a ha⟩
        · rcases mem r hr with h | h
          · exact W.rise r h
          · rw [h]; exact List.Pairwise.nil
        · rcases mem r hr with h | h
          · exact hT.2.1 r h p hp
          · rw [h] at hp; cases hp
        · rw [List.mem_singleton.mp hc]; exact hd.1.last hd.2.1
        · rw [List.length_append]
          have := hT.2.2.1
          simp; omega
        · rcases mem r hr with h | h
          · exact L0.kinds r h
          · rw [h]; exact hd.2.2
        · rcases mem r hr with h | h
          · exact L0.rng r h
          · rw [h]; exact hm'
        · rcases mem r hr with h | h
          · exact L0.to r h p hp
          · rw [h] at hp; cases hp
        · rw [List.mem_singleton.mp hc] at hn
          cases hn; exact hm'
  | drop w =>
    show LooseT ws (doDrop t w).1 ∧ ToldR ws (doDrop t w).2
    unfold doDrop
    have h6 := hd.1.2
    cases h : (drawerOf t w).2 with
    | some m =>
      simp only [h]
      have := drawer_miss h
      exact ⟨L0, by show m.2 ≤ 20; omega⟩
    | none => cases h2 : entryOf t (drawerOf t w).1 w with
      | none => simp only [h, h2]; exact ⟨L0, by show w.length - 1 ≤ 20; omega⟩
      | some n =>
        simp only [h, h2]
        split
        · exact ⟨L0, Or.inr (Or.inl rfl)⟩
        · exact ⟨laid (fun c hc => by rw [List.mem_singleton.mp hc]; exact hd.1.last hd.2) (fun c hc n hn => by rw [List.mem_singleton.mp hc] at hn; cases hn), Or.inl rfl, nmE h2⟩
  | link a b =>
    show LooseT ws (doLink t a b).1 ∧ ToldR ws (doLink t a b).2
    unfold doLink
    have h6 := hd.1.1.2
    have h7 := hd.2.1.2
    cases hB : bothOf t a b with
    | no m i => simp only; have := both_no hB; exact ⟨L0, by show m.2 ≤ 20; omega, this.2⟩
    | noEnt d1 d2 o => simp only; exact ⟨L0, by show a.length - 1 ≤ 20; omega, Nat.zero_le _⟩
    | ok d1 d2 n o =>
      obtain ⟨_, _, _, _, _, _, hn, ho⟩ := both_ok W hB
      simp only
      split
      · exact ⟨L0, Or.inr (Or.inr (Or.inl rfl))⟩
      · cases o with
        | some m => exact ⟨L0, Or.inl rfl⟩
        | none => exact ⟨laid (fun c hc => by rw [List.mem_singleton.mp hc]; exact hd.2.1.last hd.2.2) (fun c hc n' hn' => by rw [List.mem_singleton.mp hc] at hn'; cases hn'; exact nm_in hT hn), Or.inr (Or.inl rfl), nm_in hT hn⟩
  | move a b =>
    show LooseT ws (doMove t a b).1 ∧ ToldR ws (doMove t a b).2
    unfold doMove
    have h6 := hd.1.1.2
    have h7 := hd.2.1.2
    cases hB : bothOf t a b with
    | no m i => simp only; have := both_no hB; exact ⟨L0, by show m.2 ≤ 20; omega, this.2⟩
    | noEnt d1 d2 o => simp only; exact ⟨L0, by show a.length - 1 ≤ 20; omega, Nat.zero_le _⟩
    | ok d1 d2 n o =>
      obtain ⟨_, _, _, _, _, _, hn, ho⟩ := both_ok W hB
      simp only
      cases q : barredW t d2 n o with
      | some x => simp only [q]; exact ⟨L0, barred_word q⟩
      | none =>
        simp only [q]
        refine ⟨laid (fun c hc => ?_) (fun c hc n' hn' => ?_), Or.inr (Or.inr rfl), nm_in hT hn⟩
        · rcases List.mem_cons.mp hc with e | hc
          · rw [e]; exact hd.1.1.last hd.1.2
          · rw [List.mem_singleton.mp hc]; exact hd.2.1.last hd.2.2
        · rcases List.mem_cons.mp hc with e | hc
          · rw [e] at hn'; cases hn'
          · rw [List.mem_singleton.mp hc] at hn'; cases hn'; exact nm_in hT hn
  | swap a b =>
    show LooseT ws (doSwap t a b).1 ∧ ToldR ws (doSwap t a b).2
    unfold doSwap
    have h6 := hd.1.1.2
    have h7 := hd.2.1.2
    cases hB : bothOf t a b with
    | no m i => simp only; have := both_no hB; exact ⟨L0, by show m.2 ≤ 20; omega, this.2⟩
    | noEnt d1 d2 o => simp only; exact ⟨L0, by show a.length - 1 ≤ 20; omega, Nat.zero_le _⟩
    | ok d1 d2 n o =>
      obtain ⟨_, _, _, _, _, _, hn, ho⟩ := both_ok W hB
      cases o with
      | none => simp only; exact ⟨L0, by show b.length - 1 ≤ 20; omega, Nat.le_refl _⟩
      | some m =>
        simp only
        split
        · exact ⟨L0, Or.inr (Or.inr (Or.inr (Or.inl rfl)))⟩
        · split
          · exact ⟨L0, Or.inr (Or.inr (Or.inr (Or.inr rfl)))⟩
          · refine ⟨laid (fun c hc => ?_) (fun c hc n' hn' => ?_), nm_in hT hn, nm_in hT (ho m rfl)⟩
            · rcases List.mem_cons.mp hc with e | hc
              · rw [e]; exact hd.1.1.last hd.1.2
              · rw [List.mem_singleton.mp hc]; exact hd.2.1.last hd.2.2
            · rcases List.mem_cons.mp hc with e | hc
              · rw [e] at hn'; cases hn'; exact nm_in hT (ho _ rfl)
              · rw [List.mem_singleton.mp hc] at hn'; cases hn'; exact nm_in hT hn
theorem ToldR.ok (h8 : ws.length ≤ 8) : ∀ {td : Told}, ToldR ws td → ToldOk td
  | .miss m, _ => trivial
  | .miss2 m i, _ => trivial
  | .found k n, _ => trivial
  | .names xs, h => by
    have nd : xs.Nodup := List.Pairwise.imp (fun {a b : Str} (hab : a.cps.toList < b.cps.toList) (e : a = b) => lt_irr _ (by rw [e] at hab; exact hab)) h.1
    have := nodup_len nd h.2
    show xs.length ≤ 100
    omega
  | .wd x, h => h
  | .made n, _ => trivial
  | .one x n, h => h.1
  | .two n m, _ => trivial
theorem sortW_pw (xs : List Str) : (sortW xs).Pairwise fun a b => ¬ b.cps.toList < a.cps.toList := by
  have tot := sortLe_total (PyProof.Rows.listOrd PyProof.Rows.itemOrd) false fun b : Str => keyToks (PyData.str b)
  refine (List.pairwise_mergeSort (le := dataLe false PyData.str) tot.trans (fun a b => Bool.or_eq_true_iff.mpr (tot.total a b)) xs).imp fun {a b} h => ?_
  rw [dataLe_eq] at h
  have h' : (!dataLt (.str b) (.str a)) = true := h
  rw [dataLt_str] at h'
  simpa using h'
theorem sortW_of {xs ys : List Str} (p : ys.Perm xs) (h : xs.Pairwise fun a b => a.cps.toList < b.cps.toList) : sortW ys = xs :=
  List.Perm.eq_of_pairwise (le := fun a b : Str => ¬ b.cps.toList < a.cps.toList) (fun a b _ _ h1 h2 => str_of_cps (List.le_antisymm (List.not_lt.mp h1) (List.not_lt.mp h2))) (sortW_pw ys) (h.imp fun h1 h2 => lt_irr _ (List.lt_trans h1 h2)) ((List.mergeSort_perm _ _).trans p)
theorem told_back (hf : ∀ x ∈ ws, f' (f x) = x) (hg : ∀ n, g' (g n) = n) : ∀ {td : Told}, ToldR ws td → renTold f' g' (renTold f g td) = td
  | .miss m, _ => rfl
  | .miss2 m i, _ => rfl
  | .found k n, _ => congrArg (Told.found k) (hg n)
  | .names xs, h => by
    show Told.names (sortW ((sortW (xs.map f)).map f')) = .names xs
    congr 1
    refine sortW_of ?_ h.1
    have p : ((sortW (xs.map f)).map f').Perm ((xs.map f).map f') := (List.mergeSort_perm _ _).map _
    rwa [way_back fun x hx => hf x (h.2 x hx)] at p
  | .wd x, _ => rfl
  | .made n, _ => rfl
  | .one x n, _ => congrArg (Told.one x) (hg n)
  | .two n m, _ => by show Told.two (g' (g n)) (g' (g m)) = _; rw [hg, hg]
theorem told_id : ∀ {td : Told}, ToldR ws td → renTold id id td = td
  | .miss m, _ => rfl
  | .miss2 m i, _ => rfl
  | .found k n, _ => rfl
  | .names xs, h => by
    show Told.names (sortW (xs.map id)) = .names xs
    rw [List.map_id]
    exact congrArg Told.names (sortW_of (List.Perm.refl _) h.1)
  | .wd x, _ => rfl
  | .made n, _ => rfl
  | .one x n, _ => rfl
  | .two n m, _ => rfl
theorem told_ren_ok {td : Told} (h : ToldOk td) : ToldOk (renTold f g td) := by
  cases td with
  | names xs =>
    show (sortW (xs.map f)).length ≤ 100
    have e : (sortW (xs.map f)).length = xs.length := by
      unfold sortW
      rw [List.length_mergeSort, List.length_map]
    rw [e]; exact h
  | _ => exact h
theorem deed_id (dd : Deed) : renDeed id dd = dd := by cases dd <;> simp [renDeed]
theorem deed_ren_ok {dd : Deed} (h : DeedOk dd) : DeedOk (renDeed f dd) := by
  have w1 : ∀ {w : List Str}, WayOk w → WayOk (w.map f) := fun {w} h => ⟨fun z => h.1 (List.map_eq_nil_iff.mp z), by rw [List.length_map]; exact h.2⟩
  cases dd with
  | look w => show (w.map f).length ≤ 100; rw [List.length_map]; exact h
  | list w => show (w.map f).length ≤ 100; rw [List.length_map]; exact h
  | make w k => exact w1 h
  | drop w => exact w1 h
  | link a b => exact ⟨w1 h.1, w1 h.2⟩
  | move a b => exact ⟨w1 h.1, w1 h.2⟩
  | swap a b => exact ⟨w1 h.1, w1 h.2⟩
/-! ### the tree renamed is a tree -/
theorem ren_mem {r : Row} : r ∈ (ren f g t).1 ↔ ∃ q ∈ t.1, renR f g q = r := by
  show r ∈ sortR (t.1.map (renR f g)) ↔ _
  rw [(sortR_perm _).mem_iff, List.mem_map]
theorem renE_memF {e : Ent} {p : Str × Int} : p ∈ renE f g e ↔ ∃ q ∈ e, (f q.1, g q.2) = p := by
  unfold renE
  rw [(sortE_perm _).mem_iff, List.mem_map]
theorem RenT.wf (R : RenT ws f g t) (hn : ∀ x ∈ ws, NameOk (f x)) (gp : ∀ n, In t n → In t (g n)) (gb : ∀ n, g' (g n) = n) : WF (ren f g t) := by
  have W := R.W
  have len : (ren f g t).1.length = t.1.length := by
    show (sortR _).length = _
    rw [(sortR_perm _).length_eq, List.length_map]
  have g0 := R.h.g0
  refine ⟨sortR_inc R.h.ids, fun r hr => ?_, fun r hr => ?_, fun r hr => ?_, fun r hr p hp => ?_, ?_, fun r hr => ?_, fun r hr p hp => ?_, ?_, fun r hr hz => ?_, fun r hr hz => ?_, by rw [len]; exact W.few, fun r hr => ?_⟩
  · obtain ⟨q, hq, rfl⟩ := ren_mem.mp hr
    exact W.inPos (gp q.1 ⟨q, hq, rfl⟩)
  · obtain ⟨q, hq, rfl⟩ := ren_mem.mp hr
    rcases W.kinds q hq with h | ⟨h1, h2⟩
    · exact .inl h
    · refine .inr ⟨h1, ?_⟩
      show renE f g q.2.2 = []
      rw [h2]; exact renE_nil
  · obtain ⟨q, hq, rfl⟩ := ren_mem.mp hr
    exact sortE_rise (R.h.ename hq)
  · obtain ⟨q, hq, rfl⟩ := ren_mem.mp hr
    obtain ⟨p0, hp0, rfl⟩ := renE_memF.mp hp
    obtain ⟨h1, s, hs, h2⟩ := W.to q hq p0 hp0
    refine ⟨fun z => h1 (R.h.gi _ _ (z.trans g0.symm)), _, ren_mem.mpr ⟨s, hs, rfl⟩, ?_⟩
    show g s.1 = g p0.2
    rw [h2]
  · obtain ⟨e, rest, htop⟩ := W.top
    have h0 : ((0, sD, e) : Row) ∈ t.1 := by rw [htop]; exact List.mem_cons_self
    have hmem : ((0, sD, renE f g e) : Row) ∈ (ren f g t).1 := ren_mem.mpr ⟨_, h0, by show (g 0, sD, renE f g e) = _; rw [g0]⟩
    have inc : IncR (ren f g t).1 := sortR_inc R.h.ids
    cases hc : (ren f g t).1 with
    | nil => rw [hc] at hmem; cases hmem
    | cons a rest =>
      rw [hc] at hmem
      rcases List.mem_cons.mp hmem with e1 | hmem
      · exact ⟨renE f g e, rest, by rw [← e1]⟩
      · rw [hc] at inc
        have h1 := (List.pairwise_cons.mp inc).1 _ hmem
        have ha : a ∈ (ren f g t).1 := by rw [hc]; exact List.mem_cons_self
        obtain ⟨q, hq, rfl⟩ := ren_mem.mp ha
        have h2 := W.inPos (gp q.1 ⟨q, hq, rfl⟩)
        have h3 : g q.1 < 0 := h1
        omega
  · obtain ⟨q, hq, rfl⟩ := ren_mem.mp hr
    exact R.lt q hq
  · obtain ⟨q, hq, rfl⟩ := ren_mem.mp hr
    obtain ⟨p0, hp0, rfl⟩ := renE_memF.mp hp
    exact hn _ (R.h.names q hq p0 hp0)
  · obtain ⟨rk, h1, h2⟩ := W.rank
    refine ⟨fun n => rk (g' n), fun n => h1 _, fun r hr p hp => ?_⟩
    obtain ⟨q, hq, rfl⟩ := ren_mem.mp hr
    obtain ⟨p0, hp0, rfl⟩ := renE_memF.mp hp
    show rk (g' (g q.1)) < rk (g' (g p0.2))
    rw [gb, gb]
    exact h2 q hq p0 hp0
  · obtain ⟨q, hq, rfl⟩ := ren_mem.mp hr
    have hz' : q.1 ≠ 0 := fun z => hz (by show g q.1 = 0; rw [z, g0])
    intro h
    have p := hold_ren R.h (made := t.2) q.1
    have h' : hold (ren f g (t.1, t.2)).1 (g q.1) = [] := h
    rw [h'] at p
    exact W.held q hq hz' (List.map_eq_nil_iff.mp (List.Perm.eq_nil p.symm))
  · obtain ⟨q, hq, rfl⟩ := ren_mem.mp hr
    have p := (hold_ren R.h (made := t.2) q.1).length_eq
    rw [List.length_map] at p
    have h' := W.one q hq hz
    show (hold (ren f g (t.1, t.2)).1 (g q.1)).length ≤ 1
    omega
  · obtain ⟨q, hq, rfl⟩ := ren_mem.mp hr
    show (renE f g q.2.2).length ≤ 50
    unfold renE
    rw [(sortE_perm _).length_eq, List.length_map]
    exact W.fewE q hq
/-- there and back: what a renaming back must be -/
theorem back_renOk (R : RenT ws f g t) (hf : ∀ x ∈ ws, f' (f x) = x) (hg : ∀ n, g' (g n) = n) : RenOk f' g' (ren f g t) := by
  have W := R.W
  refine ⟨?_, fun r hr => ?_, ?_, fun r hr => ?_⟩
  · have p : ((ren f g t).1.map fun r => g' r.1).Perm (t.1.map (·.1)) := by
      refine ((sortR_perm (t.1.map (renR f g))).map _).trans ?_
      rw [List.map_map]
      have : t.1.map ((fun r : Row => g' r.1) ∘ renR f g) = t.1.map (·.1) := List.map_congr_left fun q _ => hg q.1
      rw [this]
    exact p.nodup_iff.mpr W.nodup
  · obtain ⟨q, hq, rfl⟩ := ren_mem.mp hr
    have p : ((renE f g q.2.2).map fun p => f' p.1).Perm (q.2.2.map (·.1)) := by
      refine ((sortE_perm _).map _).trans ?_
      rw [List.map_map]
      have : q.2.2.map ((fun p : Str × Int => f' p.1) ∘ fun p => (f p.1, g p.2)) = q.2.2.map (·.1) := List.map_congr_left fun p hp => hf _ (R.h.names q hq p hp)
      rw [this]
    exact p.nodup_iff.mpr (Rise.nodup (W.rise q hq))
  · show (sortR _).length ≤ 60
    rw [(sortR_perm _).length_eq, List.length_map]
    have := W.few
    omega
  · obtain ⟨q, hq, rfl⟩ := ren_mem.mp hr
    show (renE f g q.2.2).length ≤ 70
    unfold renE
    rw [(sortE_perm _).length_eq, List.length_map]
    have := W.fewE q hq
    omega
end
section
variable {ws : List Str} {t : Tree} {np : NP} {ip : IP}
theorem NpIn.ok' (h : NpIn ws np) : NpOk np := ⟨h.nd, by have := h.few; omega⟩
theorem IpIn.ok' (h : IpIn t ip) : IpOk ip := ⟨h.nd, by have := h.few; omega⟩
theorem NpIn.bk (h : NpIn ws np) : NpOk (backN np) := ⟨backN_nd h.nd2, by rw [(backN_perm np).length_eq, List.length_map]; have := h.few; omega⟩
theorem IpIn.bk (h : IpIn t ip) : IpOk (backI ip) := ⟨backI_nd (h.perm.nodup_iff.mp h.nd), by rw [(backI_perm ip).length_eq, List.length_map]; have := h.few; omega⟩
theorem NpIn.name (h : NpIn ws np) (W : WordsOk ws) : ∀ x ∈ ws, NameOk (fOf np x) := fun x hx => by
  by_cases q : ∃ p ∈ np, p.1 = x
  · obtain ⟨p, hp, rfl⟩ := q
    rw [fOf_key h.nd hp]
    exact h.ok p hp
  · rw [fOf_not fun p hp e => q ⟨p, hp, e⟩]
    exact W.names x hx
theorem IpIn.into (h : IpIn t ip) : ∀ n, In t n → In t (gOf ip n) := fun n hn => by
  by_cases q : ∃ p ∈ ip, p.1 = n
  · obtain ⟨p, hp, rfl⟩ := q
    rw [gOf_key h.nd hp]
    have : p.2 ∈ ip.map (·.1) := h.perm.mem_iff.mpr (List.mem_map_of_mem (f := (·.2)) hp)
    obtain ⟨q, hq, e⟩ := List.mem_map.mp this
    exact e ▸ (h.keys q hq).2
  · rw [gOf_not fun p hp e => q ⟨p, hp, e⟩]
    exact hn
theorem IpIn.nm (h : IpIn t ip) (hT : TreeOk ws t) : ∀ n, Nm n → Nm (gOf ip n) := fun n hn => by
  by_cases q : ∃ p ∈ ip, p.1 = n
  · obtain ⟨p, hp, rfl⟩ := q
    exact nm_in hT (h.into _ (h.keys p hp).2)
  · rw [gOf_not fun p hp e => q ⟨p, hp, e⟩]
    exact hn
theorem npNil : NpIn ws [] := ⟨by simp, by simp, by simp, by simp, by simp, fun x hx => .inr (by simp)⟩
theorem fOf_nil : fOf [] = id := rfl
theorem gOf_nil : gOf [] = id := rfl
end
end Dw
set_option Elab.async false
set_option linter.all false
set_option maxRecDepth 100000
set_option maxHeartbeats 1000000
/-! What repr asks of the data: small things. -/
namespace Dw
open PySem PySem.Spec PyProof.Rows L2
structure Rp (b dp : Nat) (d : PyData) : Prop where
  sh : d.showable = true
  nd : d.hasDict = false
  lv : d.leavesShort 13 = true
  bk : d.bulk ≤ b
  de : d.depth ≤ dp
section
variable {b b' dp dp' n : Nat} {d : PyData} {ds : List PyData}
theorem Rp.mono (h : Rp b dp d) (hb : b ≤ b') (hd : dp ≤ dp') : Rp b' dp' d := ⟨h.sh, h.nd, h.lv, Nat.le_trans h.bk hb, Nat.le_trans h.de hd⟩
theorem rp_ints : ∀ n ∈ List.range 60, (PyData.int ((n : Nat) : Int)).showable = true ∧ (PyData.int ((n : Nat) : Int)).shown.length ≤ 13 := by decide +kernel
theorem Rp.int {i : Int} (h : Nm i) : Rp 0 0 (.int i) := by
  obtain ⟨n, rfl⟩ : ∃ n : Nat, i = n := ⟨i.toNat, by have := h.1; omega⟩
  have h2 := h.2
  obtain ⟨q1, q2⟩ := rp_ints n (List.mem_range.mpr (by omega))
  exact ⟨q1, rfl, by simp only [PyData.leavesShort, decide_eq_true_eq]; exact q2, Nat.le_refl _, Nat.le_refl _⟩
theorem Rp.nat {k : Nat} (h : k ≤ 20) : Rp 0 0 (.int (k : Nat)) := Rp.int ⟨by omega, by omega⟩
theorem Rp.str {x : Str} (h : ∀ c ∈ x.cps.toList, c < 16 ^ 8) (hl : x.length ≤ b) : Rp b 0 (.str x) := ⟨rfl, rfl, by simp only [PyData.leavesShort, List.all_eq_true, decide_eq_true_eq]; exact h, hl, Nat.le_refl _⟩
theorem Rp.name {x : Str} (h : NameOk x) : Rp 8 0 (.str x) := Rp.str (fun c hc => by have := (h.2.2 c hc).2; omega) h.2.1
def allWords : List Str := ["none", "sheet", "found", "names", "made", "dropped", "linked", "moved", "swapped", "there", "full", "kind", "same", "inside", "look", "list", "make", "drop", "link", "move", "swap", "drawer"]
theorem rp_words : ∀ x ∈ allWords, (∀ c ∈ x.cps.toList, c < 16 ^ 8) ∧ x.length ≤ 8 := by decide +kernel
theorem Rp.word {x : Str} (h : x ∈ allWords) : Rp 8 0 (.str x) := Rp.str (rp_words x h).1 (rp_words x h).2
theorem Rp.all : ∀ {ds : List PyData}, (∀ d ∈ ds, Rp b dp d) → PyData.showableAll ds = true ∧ PyData.hasDictAll ds = false ∧ PyData.leavesShortAll 13 ds = true ∧ PyData.bulkAll ds ≤ ds.length * (b + 1) ∧ PyData.depthAll ds ≤ dp
  | [], _ => ⟨rfl, rfl, rfl, Nat.zero_le _, Nat.zero_le _⟩
  | d :: ds, h => by
    have h1 := h d List.mem_cons_self
    obtain ⟨a1, a2, a3, a4, a5⟩ := Rp.all (ds := ds) fun e he => h e (List.mem_cons_of_mem _ he)
    refine ⟨?_, ?_, ?_, ?_, ?_⟩
    · simp only [PyData.showableAll, h1.sh, a1, Bool.and_self]
    · simp only [PyData.hasDictAll, h1.nd, a2, Bool.or_self]
    · simp only [PyData.leavesShortAll, h1.lv, a3, Bool.and_self]
    · have := h1.bk
      have e : (ds.length + 1) * (b + 1) = ds.length * (b + 1) + (b + 1) := by rw [Nat.add_mul, Nat.one_mul]
      simp only [PyData.bulkAll, List.length_cons]
      omega
    · have := h1.de
      simp only [PyData.depthAll]
      omega
theorem Rp.tuple (h : ∀ d ∈ ds, Rp b dp d) (hl : ds.length ≤ n) : Rp (n * (b + 1)) (dp + 1) (.tuple ds) := by
  obtain ⟨a1, a2, a3, a4, a5⟩ := Rp.all h
  exact ⟨a1, a2, a3, Nat.le_trans a4 (Nat.mul_le_mul_right _ hl), Nat.succ_le_succ a5⟩
theorem Rp.list (h : ∀ d ∈ ds, Rp b dp d) (hl : ds.length ≤ n) : Rp (n * (b + 1)) (dp + 1) (.list ds) := by
  obtain ⟨a1, a2, a3, a4, a5⟩ := Rp.all h
  exact ⟨a1, a2, a3, Nat.le_trans a4 (Nat.mul_le_mul_right _ hl), Nat.succ_le_succ a5⟩
theorem rp2 {x y : PyData} (hx : Rp b dp x) (hy : Rp b dp y) : ∀ d ∈ [x, y], Rp b dp d := fun d hd => by
  rcases List.mem_cons.mp hd with e | hd
  · rw [e]; exact hx
  · rw [List.mem_singleton.mp hd]; exact hy
theorem rp3 {x y z : PyData} (hx : Rp b dp x) (hy : Rp b dp y) (hz : Rp b dp z) : ∀ d ∈ [x, y, z], Rp b dp d := fun d hd => by
  rcases List.mem_cons.mp hd with e | hd
  · rw [e]; exact hx
  · exact rp2 hy hz d hd
theorem rp4 {x y z u : PyData} (hx : Rp b dp x) (hy : Rp b dp y) (hz : Rp b dp z) (hu : Rp b dp u) : ∀ d ∈ [x, y, z, u], Rp b dp d := fun d hd => by
  rcases List.mem_cons.mp hd with e | hd
  · rw [e]; exact hx
  · exact rp3 hy hz hu d hd
theorem rp1 {x : PyData} (hx : Rp b dp x) : ∀ d ∈ [x], Rp b dp d := fun d hd => by rw [List.mem_singleton.mp hd]; exact hx
theorem rpm {α : Type} {F : α → PyData} {l : List α} (h : ∀ a ∈ l, Rp b dp (F a)) : ∀ d ∈ l.map F, Rp b dp d := fun d hd => by
  obtain ⟨a, ha, rfl⟩ := List.mem_map.mp hd
  exact h a ha
end
section
variable {ws : List Str} {t : Tree} {f : Str → Str} {g : Int → Int} {np : NP} {ip : IP}
structure SmT (t : Tree) : Prop where
  rng : ∀ r ∈ t.1, Nm r.1
  kinds : ∀ r ∈ t.1, Kd r.2.1
  fewE : ∀ r ∈ t.1, r.2.2.length ≤ 8
  ents : ∀ r ∈ t.1, ∀ p ∈ r.2.2, NameOk p.1 ∧ Nm p.2
  few : t.1.length ≤ 12
  made : Nm t.2
theorem Kd.w {k : Str} (h : Kd k) : k ∈ allWords := by rcases h with rfl | rfl <;> decide
theorem rp_way {w : List Str} (h : ∀ x ∈ w, NameOk x) (hl : w.length ≤ 8) : Rp 72 1 (eWay w) := Rp.tuple (b := 8) (n := 8) (rpm fun x hx => Rp.name (h x hx)) (by rw [List.length_map]; exact hl)
theorem SmT.rp (h : SmT t) : Rp 11042 5 (eTree t) := by
  have e1 : ∀ r ∈ t.1, Rp 152 2 (eEnt r.2.2) := fun r hr => Rp.tuple (b := 18) (n := 8) (rpm fun p hp => Rp.tuple (b := 8) (n := 2) (rp2 (Rp.name (h.ents r hr p hp).1) ((Rp.int (h.ents r hr p hp).2).mono (by omega) (by omega))) (by simp)) (by rw [List.length_map]; exact h.fewE r hr)
  have e2 : ∀ r ∈ t.1, Rp 459 3 (eRow r) := fun r hr => Rp.tuple (b := 152) (n := 3) (rp3 ((Rp.int (h.rng r hr)).mono (by omega) (by omega)) ((Rp.word (h.kinds r hr).w).mono (by omega) (by omega)) (e1 r hr)) (by simp)
  have e3 : Rp 5520 4 (eRows t.1) := Rp.tuple (b := 459) (n := 12) (rpm e2) (by rw [List.length_map]; exact h.few)
  exact Rp.tuple (b := 5520) (n := 2) (rp2 e3 ((Rp.int h.made).mono (by omega) (by omega))) (by simp)
theorem LooseT.sm (L : LooseT ws t) (W : WordsOk ws) : SmT t := ⟨L.rng, L.kinds, fun r hr => Nat.le_trans (L.entl hr) W.eight, fun r hr p hp => ⟨W.names _ (L.names r hr p hp), L.to r hr p hp⟩, L.few, L.made⟩
theorem LooseT.smR (L : LooseT ws t) (W : WordsOk ws) (hn : ∀ x ∈ ws, NameOk (f x)) (hg : ∀ n, Nm n → Nm (g n)) : SmT (ren f g t) := by
  refine ⟨fun r hr => ?_, fun r hr => ?_, fun r hr => ?_, fun r hr p hp => ?_, ?_, L.made⟩
  · obtain ⟨q, hq, rfl⟩ := ren_mem.mp hr
    exact hg _ (L.rng q hq)
  · obtain ⟨q, hq, rfl⟩ := ren_mem.mp hr
    exact L.kinds q hq
  · obtain ⟨q, hq, rfl⟩ := ren_mem.mp hr
    show (renE f g q.2.2).length ≤ 8
    unfold renE
    rw [(sortE_perm _).length_eq, List.length_map]
    exact Nat.le_trans (L.entl hq) W.eight
  · obtain ⟨q, hq, rfl⟩ := ren_mem.mp hr
    obtain ⟨p0, hp0, rfl⟩ := renE_memF.mp hp
    exact ⟨hn _ (L.names q hq p0 hp0), hg _ (L.to q hq p0 hp0)⟩
  · show (sortR _).length ≤ 12
    rw [(sortR_perm _).length_eq, List.length_map]
    exact L.few
def SmTold : Told → Prop
  | .miss m => m.2 ≤ 20
  | .miss2 m i => m.2 ≤ 20 ∧ i ≤ 1
  | .found k n => Kd k ∧ Nm n
  | .names xs => xs.length ≤ 8 ∧ ∀ x ∈ xs, NameOk x
  | .wd x => wordW x
  | .made n => Nm n
  | .one x n => wordT x ∧ Nm n
  | .two n m => Nm n ∧ Nm m
theorem names_len (h8 : ws.length ≤ 8) {xs : List Str} (h : ToldR ws (.names xs)) : xs.length ≤ 8 := by
  have nd : xs.Nodup := List.Pairwise.imp (fun {a b : Str} (hab : a.cps.toList < b.cps.toList) (e : a = b) => lt_irr _ (by rw [e] at hab; exact hab)) h.1
  have := nodup_len nd h.2
  omega
theorem ToldR.sm (W : WordsOk ws) : ∀ {td : Told}, ToldR ws td → SmTold td
  | .miss m, h => h
  | .miss2 m i, h => h
  | .found k n, h => h
  | .names xs, h => ⟨names_len W.eight h, fun x hx => W.names x (h.2 x hx)⟩
  | .wd x, h => h
  | .made n, h => h
  | .one x n, h => h
  | .two n m, h => h
theorem ToldR.smR (W : WordsOk ws) (hn : ∀ x ∈ ws, NameOk (f x)) (hg : ∀ n, Nm n → Nm (g n)) : ∀ {td : Told}, ToldR ws td → SmTold (renTold f g td)
  | .miss m, h => h
  | .miss2 m i, h => h
  | .found k n, h => ⟨h.1, hg _ h.2⟩
  | .names xs, h => by
    have e : (sortW (xs.map f)).length = xs.length := by
      unfold sortW
      rw [List.length_mergeSort, List.length_map]
    refine ⟨by rw [e]; exact names_len W.eight h, fun x hx => ?_⟩
    have hx' : x ∈ xs.map f := (List.mergeSort_perm _ _).mem_iff.mp hx
    obtain ⟨y, hy, rfl⟩ := List.mem_map.mp hx'
    exact hn y (h.2 y hy)
  | .wd x, h => h
  | .made n, h => h
  | .one x n, h => ⟨h.1, hg _ h.2⟩
  | .two n m, h => ⟨hg _ h.1, hg _ h.2⟩
theorem wordW.w {x : Str} (h : wordW x) : x ∈ allWords := by rcases h with rfl | rfl | rfl | rfl | rfl <;> decide
theorem wordT.w {x : Str} (h : wordT x) : x ∈ allWords := by rcases h with rfl | rfl | rfl <;> decide
theorem missW (m : Miss) : (if m.1 then "sheet" else "none" : Str) ∈ allWords := by cases m.1 <;> decide
theorem SmTold.rp : ∀ {td : Told}, SmTold td → Rp 219 2 (eTold td)
  | .miss m, h => (Rp.tuple (b := 8) (n := 2) (rp2 (Rp.word (missW m)) ((Rp.nat h).mono (by omega) (by omega))) (by simp)).mono (by omega) (by omega)
  | .miss2 m i, h => (Rp.tuple (b := 8) (n := 3) (rp3 (Rp.word (missW m)) ((Rp.nat h.1).mono (by omega) (by omega)) ((Rp.nat (by have := h.2; omega)).mono (by omega) (by omega))) (by simp)).mono (by omega) (by omega)
  | .found k n, h => (Rp.tuple (b := 8) (n := 3) (rp3 (Rp.word (by decide)) (Rp.word h.1.w) ((Rp.int h.2).mono (by omega) (by omega))) (by simp)).mono (by omega) (by omega)
  | .names xs, h => (Rp.tuple (b := 72) (n := 2) (rp2 ((Rp.word (by decide)).mono (by omega) (by omega)) (rp_way h.2 h.1)) (by simp)).mono (by omega) (by omega)
  | .wd x, h => (Rp.tuple (b := 8) (n := 1) (rp1 (Rp.word (wordW.w h))) (by simp)).mono (by omega) (by omega)
  | .made n, h => (Rp.tuple (b := 8) (n := 2) (rp2 (Rp.word (by decide)) ((Rp.int h).mono (by omega) (by omega))) (by simp)).mono (by omega) (by omega)
  | .one x n, h => (Rp.tuple (b := 8) (n := 2) (rp2 (Rp.word (wordT.w h.1)) ((Rp.int h.2).mono (by omega) (by omega))) (by simp)).mono (by omega) (by omega)
  | .two n m, h => (Rp.tuple (b := 8) (n := 3) (rp3 (Rp.word (by decide)) ((Rp.int h.1).mono (by omega) (by omega)) ((Rp.int h.2).mono (by omega) (by omega))) (by simp)).mono (by omega) (by omega)
theorem rp_deed (W : WordsOk ws) (dd : Deed) (h : DeedIn ws dd) : Rp 219 2 (eDeed dd) := by
  have rw_ : ∀ {w : List Str}, WayIn ws w → Rp 72 1 (eWay w) := fun {w} h => rp_way (fun x hx => W.names x (h.1 x hx)) (by have := h.2; omega)
  have one : ∀ {x : Str} {w : List Str}, x ∈ allWords → WayIn ws w → Rp 219 2 (.tuple [.str x, eWay w]) := fun hx hw => (Rp.tuple (b := 72) (n := 2) (rp2 ((Rp.word hx).mono (by omega) (by omega)) (rw_ hw)) (by simp)).mono (by omega) (by omega)
  have two : ∀ {x : Str} {w u : List Str}, x ∈ allWords → WayIn ws w → WayIn ws u → Rp 219 2 (.tuple [.str x, eWay w, eWay u]) := fun hx hw hu => (Rp.tuple (b := 72) (n := 3) (rp3 ((Rp.word hx).mono (by omega) (by omega)) (rw_ hw) (rw_ hu)) (by simp)).mono (by omega) (by omega)
  cases dd with
  | look w => exact one (by decide) h
  | list w => exact one (by decide) h
  | make w k => exact (Rp.tuple (b := 72) (n := 3) (rp3 ((Rp.word (by decide)).mono (by omega) (by omega)) (rw_ h.1) ((Rp.word (Kd.w h.2.2)).mono (by omega) (by omega))) (by simp)).mono (by omega) (by omega)
  | drop w => exact one (by decide) h.1
  | link a b => exact two (by decide) h.1.1 h.2.1
  | move a b => exact two (by decide) h.1.1 h.2.1
  | swap a b => exact two (by decide) h.1.1 h.2.1
theorem rp_np (W : WordsOk ws) (h : NpIn ws np) : Rp 152 2 (npD np) := Rp.tuple (b := 18) (n := 8) (rpm fun p hp => Rp.tuple (b := 8) (n := 2) (rp2 (Rp.name (W.names _ (h.keys p hp))) (Rp.name (h.ok p hp))) (by simp)) (by rw [List.length_map]; exact h.few)
theorem rp_ip (hT : TreeOk ws t) (h : IpIn t ip) : Rp 33 2 (ipD ip) := Rp.tuple (b := 2) (n := 11) (rpm fun p hp => Rp.tuple (b := 0) (n := 2) (rp2 (Rp.int (nm_in hT (h.keys p hp).2)) (Rp.int (by
  have : p.2 ∈ ip.map (·.1) := h.perm.mem_iff.mpr (List.mem_map_of_mem (f := (·.2)) hp)
  obtain ⟨q, hq, e⟩ := List.mem_map.mp this
  exact e ▸ nm_in hT (h.keys q hq).2))) (by simp)) (by rw [List.length_map]; exact h.few)
theorem rp_done {t : Tree} {td : Told} (h1 : SmT t) (h2 : SmTold td) : Rp 22086 6 (eDone (t, td)) := Rp.tuple (b := 11042) (n := 2) (rp2 h1.rp (h2.rp.mono (by omega) (by omega))) (by simp)
end
section
variable {K : PySem.W.Frag} {δ : Dl} {ta tb : TE} {d x : PyData} {tl tk : TA} {E : XK}
theorem ev_repr {b dp : Nat} (h : EvD K ta δ d) (hr : Rp b dp d) (hb : b ≤ 1000000) (hd : dp ≤ 60) (ref : ∃ ds, d = .tuple ds ∨ d = .list ds) : EvD K (tCB (rRepr K) (tCons ta tNil)) δ (.str d.shown) := ev_cb (ea_cons h ea_nil) fun hs H vs hh ra Q q => by
  obtain ⟨v, rfl, r⟩ := ra.one
  have hdp := r.full.dp hr.nd
  have fits : d.shown.length ≤ sizeLine := PyData.shown_fits_bulk (B := 13) (by decide) (by decide) hr.lv (by have := hr.bk; omega)
  have hde : d.depth ≤ 70 := by have := hr.de; omega
  obtain ⟨ds, rfl | rfl⟩ := ref
  · cases r with
    | @tup a xs _ hp ra => exact ⟨a, _, rfl, hdp, hr.sh, hr.nd, fits, hde, q _ H Ex.rfl (.str _)⟩
  · cases r with
    | @lst a xs _ hp ra => exact ⟨a, _, rfl, hdp, hr.sh, hr.nd, fits, hde, q _ H Ex.rfl (.str _)⟩
/-- the same text: no difference -/
theorem eb_same {x : Str} (ha : EvD K ta δ (.str x)) (hb : EvD K tb δ (.str x)) : EvB K (tTest (tOp (rNeP K) ta tb)) δ false := by
  have h := ev_ne ha hb rfl rfl (by simp [PyData.depth])
  have e : PyData.eqv (.str x) (.str x) = true := by simp [PyData.eqv]
  rw [e] at h
  exact eb_test h
theorem ev_callNg {P : List PyData → PyData → Prop} {gV : List V → List V → List V} {ds es fs : List PyData} {n m : Nat} (h : EvA K tl δ ds) (h2 : EvA K tk δ es) (hn : ds.length = n) (hm : es.length = m) (hg : ∀ H vs zs, RA K H vs ds → RA K H zs es → RA K H (gV vs zs) fs) (hP : P fs d) : EvD K (tCallN n m (SpD K P) gV E tl tk) δ d := fun hs σ H hh S Q q =>
  h hs σ H hh S _ fun vs H2 e2 r2 => h2 hs σ H2 (hh.mono e2) (S.mono e2.cut) _ fun zs H3 e3 r3 => ⟨by rw [r2.length]; exact hn, by rw [r3.length]; exact hm, hs, fs, d, hh.mono (e2.trans e3), hg _ _ _ (r2.mono e3.cut) r3, hP, fun v H4 e4 r4 => q v H4 ((e2.trans e3).trans e4) r4⟩
theorem ev_callN0g {P : List PyData → PyData → Prop} {gV : List V → List V → List V} {es fs : List PyData} {m : Nat} (h2 : EvA K tk δ es) (hm : es.length = m) (hg : ∀ H zs, RA K H zs es → RA K H (gV [] zs) fs) (hP : P fs d) : EvD K (tCallN0 m (SpD K P) gV E tk) δ d := fun hs σ H hh S Q q =>
  h2 hs σ H hh S _ fun zs H3 e3 r3 => ⟨by rw [r3.length]; exact hm, hs, fs, d, hh.mono e3, hg _ _ r3, hP, fun v H4 e4 r4 => q v H4 (e3.trans e4) r4⟩
theorem RA.rev2 {H : Hp} {zs : List V} {x y : PyData} (h : RA K H zs [x, y]) : RA K H zs.reverse [y, x] := by
  obtain ⟨v, u, rfl, r1, r2⟩ := h.two
  exact .cons r2 (.cons r1 .nil)
theorem RA.rot3 {H : Hp} {zs : List V} {x y z : PyData} (h : RA K H zs [x, y, z]) : RA K H (Dw.rot3 zs) [y, z, x] := by
  cases h with
  | cons r1 t =>
    obtain ⟨v, u, rfl, r2, r3⟩ := t.two
    exact .cons r2 (.cons r3 (.cons r1 .nil))
end
end Dw
set_option Elab.async false
set_option linter.all false
set_option maxRecDepth 100000
set_option maxHeartbeats 1000000
/-! The reading of the law's look at one tree. -/
namespace Dw
open PySem PySem.Spec PyProof.Rows L2
local macro_rules | `(tactic| trivial) => `(tactic| repeat' (first
  | exact ev_var rfl
  | exact ev_int
  | exact ev_str
  | exact ev_non
  | exact ev_bl
  | exact ea_nil
  | exact eo_none
  | exact eb_yes
  | apply ea_cons
  | apply eo_some
  | apply eb_B
  | apply eb_test
  | apply eb_not
  | apply eb_or
  | apply eb_and
  | apply ev_andV
  | apply ev_orV
  | apply ev_notV
  | apply ev_isN
  | apply ev_notN
  | apply isi_ii
  | apply isi_ib
  | apply isi_tt
  | apply isi_ss
  | apply ev_ixT
  | apply ev_slT
  | apply ev_add
  | apply ev_sub
  | apply ev_neg
  | apply ev_lt
  | apply ev_le
  | apply ev_gt
  | apply ev_ge
  | apply ev_ltS
  | apply ev_lenG
  | apply ev_lenD
  | apply ev_tuple
  | apply ev_tup
  | apply ev_lst
  | apply ev_all
  | apply ev_catT
  | apply ev_is_number
  | apply ev_is_name
  | apply ev_is_entry
  | apply ev_are_entries
  | apply ev_is_row
  | apply ev_row_of
  | apply ev_kind_of
  | apply ev_entries_of
  | apply ev_way
  | apply ev_above
  | exact LenD.tup
  | exact LenD.lst
  | rfl
  | assumption
  | exact Nat.le_of_ble_eq_true rfl
  | with_reducible intro _))
section
variable {K : PySem.W.Frag} {δ δ1 : Dl} {ts us : TS} {tA : TA} {te : TE} {d : PyData} {o : Out}
theorem RA.cat2 {H : Hp} {vs zs : List V} {ds es : List PyData} (h : RA K H vs ds) (h2 : RA K H zs es) : RA K H (vs ++ zs) (ds ++ es) := h.append h2
theorem run__law_right (d1 d2 d3 d4 d5 : V) (h4 : ∀ H, R K H d4 (.tuple [])) (h5 : ∀ H, R K H d5 (.tuple [])) (ds : List PyData) (d : PyData) (h : P__law_right ds d) : RunD K (t__law_right K d1 d2 d3 d4 d5) (ds.map (fun d => some (.d d)) ++ List.replicate (N__law_right.length - ds.length) none) (.rt d) := by
  obtain ⟨ws, t, dds, np, ip, hW, hT, hD, hl, hN, hI, rfl, rfl⟩ := h
  have R := renT_of hT hN hI
  have h8 := hW.eight
  have hf := fun x hx => back_f (np := np) hN (x := x) hx
  have hg := back_g hI.nd hI.perm
  have L0 := loose_of hT
  have nmF := hN.name hW
  have nmG := hI.nm hT
  have W' : WF (ren (fOf np) (gOf ip) t) := R.wf nmF hI.into hg
  have rp0 := (L0.sm hW).rp
  have rp1' := (L0.smR hW nmF nmG).rp
  have ok0 := L0.renOk h8 R.h.fi R.h.gi
  have okB : RenOk (fOf (backN np)) (gOf (backI ip)) (ren (fOf np) (gOf ip) t) := back_renOk R hf hg
  have eB : ren (fOf (backN np)) (gOf (backI ip)) (ren (fOf np) (gOf ip) t) = t := ren_back hT.1.inc hT.1.rise (fun r hr p hp => hf _ (R.h.names r hr p hp)) hg
  have npl := hN.few
  have ipl := hI.few
  let t' := ren (fOf np) (gOf ip) t
  refine run_let (x := eTree t') (ev_callNg (P := P_renamed) (ds := [eTree t]) (es := [npD np, ipD ip]) (fs := [eTree t, npD np, ipD ip]) (by trivial) (by trivial) rfl rfl (fun _ _ _ a b => a.append b) ⟨t, np, ip, hN.ok', hI.ok', ok0, rfl, rfl⟩) rfl ?_
  let pre : Dl := [some (.d (eTree t)), some (.d (.list (dds.map eDeed))), some (.d (npD np)), some (.d (ipD ip)), some (.d (eTree t')), none, none, none, none, none]
  show RunD K _ pre _
  refine run_skip (b := false || !decide (true = true)) (eb_or (eb_same (x := (eTree t').shown) (ev_repr (ev_var rfl) rp1' (by omega) (by omega) ⟨_, .inl rfl⟩) (ev_repr (ev_call (P := P__law_due) (ds := [eTree t, eKD (npK np), eKD (ipK ip)]) (ea_cons (ev_var rfl) (ea_cons (ev_dictN (ev_var rfl) hN.ok') (ea_cons (ev_dictI (ev_var rfl) hI.ok') ea_nil))) ⟨t, np, ip, ok0, fun r hr => Nat.le_trans (hT.2.2.2.1 r hr) (by decide), rfl, rfl⟩) rp1' (by omega) (by omega) ⟨_, .inl rfl⟩)) fun _ => eb_test (ev_notB (ev_call (P := P_is_tree) (ds := [eTree t']) (by trivial) ⟨t', W', rfl, rfl⟩) ev_bl)) rfl ?_
  have evBN : ∀ {δ : Dl}, δ[2]? = some (some (.d (npD np))) → EvD K (tCall (SpD K P__law_back) [] E0 (tCons (tVar 2) (tNil))) δ (npD (backN np)) := fun h => ev_call (P := P__law_back) (ds := [npD np]) (ea_cons (ev_var h) ea_nil) (.inl ⟨np, by omega, rfl, rfl⟩)
  have evBI : ∀ {δ : Dl}, δ[3]? = some (some (.d (ipD ip))) → EvD K (tCall (SpD K P__law_back) [] E0 (tCons (tVar 3) (tNil))) δ (ipD (backI ip)) := fun h => ev_call (P := P__law_back) (ds := [ipD ip]) (ea_cons (ev_var h) ea_nil) (.inr ⟨ip, by omega, rfl, rfl⟩)
  refine run_skip (b := false) (eb_same (x := (eTree t).shown) (ev_repr (ev_callN0g (P := P_renamed) (es := [ipD (backI ip), eTree t', npD (backN np)]) (fs := [eTree t', npD (backN np), ipD (backI ip)]) (ea_cons (evBI rfl) (ea_cons (ev_var rfl) (ea_cons (evBN rfl) ea_nil))) rfl (fun _ _ a => a.rot3) ⟨t', backN np, backI ip, hN.bk, hI.bk, okB, rfl, by rw [eB]⟩) rp0 (by omega) (by omega) ⟨_, .inl rfl⟩) (ev_repr (ev_var rfl) rp0 (by omega) (by omega) ⟨_, .inl rfl⟩)) rfl ?_
  refine run_forI (wlk_lst [5] eDeed (bs := dds) (ev_var rfl)) (fun i δa => δa = pre) ⟨_, by repeat constructor, rfl⟩ ?_ ?_
  · rintro i hi δa rfl
    have hdm : dds[i] ∈ dds := List.getElem_mem hi
    refine ⟨[some (.d (eTree t)), some (.d (.list (dds.map eDeed))), some (.d (npD np)), some (.d (ipD ip)), some (.d (eTree t')), some (.d (eDeed dds[i])), none, none, none, none], fun b hb => by
      rw [List.getElem?_eq_getElem hi] at hb
      cases hb
      exact eg_name (by simp), .inl ?_⟩
    generalize dds[i] = dd at hdm
    have hdd := hD dd hdm
    obtain ⟨hA, hR⟩ := done_good hT dd hdd
    have hok := deed_ok hdd
    have hdone : doneP t' (renDeed (fOf np) dd) = (ren (fOf np) (gOf ip) (doneP t dd).1, renTold (fOf np) (gOf ip) (doneP t dd).2) := R.done dd hdd
    generalize hda : doneP t dd = da at hA hR hdone
    obtain ⟨af, td⟩ := da
    have rpT := (hR.sm hW).rp
    have rpTR := (hR.smR hW nmF nmG).rp
    have rpD := rp_deed hW dd hdd
    have rpA := rp_done (hA.smR hW nmF nmG) (hR.smR hW nmF nmG)
    have okA := hA.renOk h8 R.h.fi R.h.gi
    have tok : ToldOk td := hR.ok h8
    let td' := renTold (fOf np) (gOf ip) td
    let dd' := renDeed (fOf np) dd
    refine ⟨[some (.d (eTree t)), some (.d (.list (dds.map eDeed))), some (.d (npD np)), some (.d (ipD ip)), some (.d (eTree t')), some (.d (eDeed dd)), some (.d (eDeed dd')), some (.d (eTree af)), some (.d (eTold td)), some (.d (eDone (ren (fOf np) (gOf ip) af, td')))], pre, ?_, by repeat constructor, rfl⟩
    refine run_let (x := eDeed dd') (ev_callNg (P := P_renamed_deed) (ds := [eDeed dd]) (es := [npD np]) (fs := [eDeed dd, npD np]) (by trivial) (by trivial) rfl rfl (fun _ _ _ a b => a.append b) ⟨dd, np, hN.ok', hok, rfl, rfl⟩) rfl ?_
    refine run_skip (b := false) (eb_same (x := (eDeed dd).shown) (ev_repr (ev_callN0g (P := P_renamed_deed) (es := [npD (backN np), eDeed dd']) (fs := [eDeed dd', npD (backN np)]) (ea_cons (evBN rfl) (ea_cons (ev_var rfl) ea_nil)) rfl (fun _ _ a => a.rev2) ⟨dd', backN np, hN.bk, deed_ren_ok hok, rfl, by rw [deed_back hf dd hdd]⟩) rpD (by omega) (by omega) ⟨_, .inl (eDeed_eq dd)⟩) (ev_repr (ev_var rfl) rpD (by omega) (by omega) ⟨_, .inl (eDeed_eq dd)⟩)) rfl ?_
    refine run_letG [7, 8] (x := .tuple [eTree af, eTold td]) (ev_call (P := P_done) (ds := [eTree t, eDeed dd]) (by trivial) ⟨t, dd, hT.1, rfl, hok, rfl⟩) (by rw [hda]; rfl) (eg_tup (ds := [_, _]) (egs_cons (eg_name (by simp)) (egs_cons (eg_name (by simp)) egs_nil)) rfl) ?_
    refine run_let (x := eDone (ren (fOf np) (gOf ip) af, td')) (ev_tup (ea_cons (ev_callNg (P := P_renamed) (ds := [eTree af]) (es := [npD np, ipD ip]) (fs := [eTree af, npD np, ipD ip]) (ea_cons (ev_var rfl) ea_nil) (ea_cons (ev_var rfl) (ea_cons (ev_var rfl) ea_nil)) rfl rfl (fun _ _ _ a b => a.append b) ⟨af, np, ip, hN.ok', hI.ok', okA, rfl, rfl⟩) (ea_cons (ev_callNg (P := P_renamed_told) (ds := [eTold td]) (es := [ipD ip, npD np]) (fs := [eTold td, npD np, ipD ip]) (ea_cons (ev_var rfl) ea_nil) (ea_cons (ev_var rfl) (ea_cons (ev_var rfl) ea_nil)) rfl rfl (fun _ _ _ a b => a.append b.rev2) ⟨td, np, ip, hN.ok', hI.ok', tok, rfl, rfl⟩) ea_nil)) (by trivial)) rfl ?_
    refine run_skip (b := false) (eb_same (x := (eDone (ren (fOf np) (gOf ip) af, td')).shown) (ev_repr (ev_call (P := P_done) (ds := [eTree t', eDeed dd']) (ea_cons (ev_var rfl) (ea_cons (ev_var rfl) ea_nil)) ⟨t', dd', W', rfl, deed_ren_ok hok, by rw [hdone]⟩) rpA (by omega) (by omega) ⟨_, .inl rfl⟩) (ev_repr (ev_var rfl) rpA (by omega) (by omega) ⟨_, .inl rfl⟩)) rfl ?_
    have tref : ∀ u : Told, ∃ ds, eTold u = .tuple ds ∨ eTold u = .list ds := fun u => by cases u <;> exact ⟨_, .inl rfl⟩
    refine run_skip (b := false) (eb_same (x := (eTold td).shown) (ev_repr (ev_callNg (P := P_renamed_told) (ds := [eTold td']) (es := [npD (backN np), ipD (backI ip)]) (fs := [eTold td', npD (backN np), ipD (backI ip)]) (ea_cons (ev_ixT (ds := [eTree (ren (fOf np) (gOf ip) af), eTold td']) (ev_var rfl) ev_int rfl) ea_nil) (ea_cons (evBN rfl) (ea_cons (evBI rfl) ea_nil)) rfl rfl (fun _ _ _ a b => a.append b) ⟨td', backN np, backI ip, hN.bk, hI.bk, told_ren_ok tok, rfl, by rw [told_back hf hg hR]⟩) rpT (by omega) (by omega) (tref td)) (ev_repr (ev_var rfl) rpT (by omega) (by omega) (tref td))) rfl ?_
    have rpL : Rp 440 3 (.list [eTold td, eTold td]) := Rp.list (b := 219) (n := 2) (rp2 rpT rpT) (by simp)
    have npn := (npNil (ws := ws)).ok'
    have ipn : IpOk [] := ⟨by simp, by simp⟩
    have e0 : eTold (renTold (fOf []) (gOf []) td) = eTold td := by rw [fOf_nil, gOf_nil, told_id hR]
    refine run_ifF (b := false) (eb_same (x := (PyData.list [eTold td, eTold td]).shown) (ev_repr (ev_lst (ea_cons (ev_callD (P := P_renamed_told) (ds := [eTold td]) (es := [.tuple [], .tuple []]) (ea_cons (ev_var rfl) ea_nil) (fun H => .cons (h4 H) (.cons (h5 H) .nil)) ⟨td, [], [], npn, ipn, tok, rfl, e0.symm⟩) (ea_cons (ev_callNg (P := P_renamed_told) (ds := [eTold td]) (es := [.tuple [], .tuple []]) (fs := [eTold td, .tuple [], .tuple []]) (ea_cons (ev_var rfl) ea_nil) (ea_cons (ev_tup ea_nil (by trivial)) (ea_cons (ev_tup ea_nil (by trivial)) ea_nil)) rfl rfl (fun _ _ _ a b => a.append b) ⟨td, [], [], npn, ipn, tok, rfl, e0.symm⟩) ea_nil)) (by trivial)) rpL (by omega) (by omega) ⟨_, .inr rfl⟩) (ev_repr (ev_lst (ea_cons (ev_var rfl) (ea_cons (ev_var rfl) ea_nil)) (by trivial)) rpL (by omega) (by omega) ⟨_, .inr rfl⟩)) rfl run_next
  · rintro δa rfl
    exact run_retT ev_bl rfl
end
end Dw
set_option Elab.async false
set_option linter.all false
set_option maxRecDepth 100000
set_option maxHeartbeats 1000000
/-! The readings of the feed's start and of the law. -/
namespace Dw
open PySem PySem.Spec PyProof.Rows L2
local macro_rules | `(tactic| trivial) => `(tactic| repeat' (first
  | exact ev_var rfl
  | exact ev_int
  | exact ev_str
  | exact ev_non
  | exact ev_bl
  | exact ea_nil
  | exact eo_none
  | exact eb_yes
  | apply ea_cons
  | apply eo_some
  | apply eb_B
  | apply eb_test
  | apply eb_not
  | apply eb_or
  | apply eb_and
  | apply ev_andV
  | apply ev_orV
  | apply ev_notV
  | apply ev_isN
  | apply ev_notN
  | apply isi_ii
  | apply isi_ib
  | apply isi_tt
  | apply isi_ss
  | apply ev_ixT
  | apply ev_slT
  | apply ev_add
  | apply ev_sub
  | apply ev_neg
  | apply ev_lt
  | apply ev_le
  | apply ev_gt
  | apply ev_ge
  | apply ev_ltS
  | apply ev_lenG
  | apply ev_lenD
  | apply ev_tuple
  | apply ev_tup
  | apply ev_lst
  | apply ev_all
  | apply ev_catT
  | apply ev_is_number
  | apply ev_is_name
  | apply ev_is_entry
  | apply ev_are_entries
  | apply ev_is_row
  | apply ev_row_of
  | apply ev_kind_of
  | apply ev_entries_of
  | apply ev_way
  | apply ev_above
  | exact LenD.tup
  | exact LenD.lst
  | rfl
  | assumption
  | exact Nat.le_of_ble_eq_true rfl
  | with_reducible intro _))
section
variable {K : PySem.W.Frag} {δ δ1 : Dl} {own : Own} {O : OutO} {ts us : TS} {tl : TA} {te ta tb : TE} {d x y : PyData} {P P2 : PyData → Prop} {vs : List Nat} {wi : TI} {g : TG}
theorem sqL_ex {H H' : Hp} {a : Addr} {xs : List V} (h : SqL K H a xs) (e : Ex H H') : SqL K H' a xs := by
  rcases h with (h | ⟨o, h⟩) | h
  · exact .inl (.inl (e _ _ h))
  · exact .inl (.inr ⟨o, e _ _ h⟩)
  · exact .inr h
theorem feed_keys : ([keyC, keyA, keyL, keyN] : List Key).Nodup := by decide +kernel
theorem run__law_feed {vs : List V} {H : Hp} {Q : VK} {E : XK} (q : SpFeed K vs H Q E) : t__law_feed K { nx := fun _ H' => Q .non H', rt := Q } (start N__law_feed vs) H := by
  obtain ⟨a, ns, rfl, hq, hl, k⟩ := q
  intro p hp
  have x1 : Ex H (upd H p (.dK [])) := Evl.Ex.new hp
  refine ⟨.ref a, rfl, 63, rfl, a, ns.map V.int, rfl, sqL_ex hq x1, fun q hq1 => ?_⟩
  have x2 := x1.trans (Evl.Ex.new (o := .lst (cutV (ns.map V.int) none (some 63))) hq1)
  have ec : cutV (ns.map V.int) none (some 63) = ns.map V.int := by
    show cutD (ns.map V.int) none (some ((63 : Nat) : Int)) = _
    rw [cutD_take, List.take_of_length_le (by rw [List.length_map]; exact hl)]
  rw [ec] at x2 ⊢
  refine ⟨q, ns.map V.int, rfl, .inl (.inl (.inl upd_same)), fun l hl1 => ?_⟩
  have x3 := x2.trans (Evl.Ex.new (o := .lst (ns.map V.int)) hl1)
  have hpq : p ≠ q := fun z => by rw [← z, upd_same] at hq1; cases hq1
  have hpl : p ≠ l := fun z => by rw [← z, upd_ne hpq, upd_same] at hl1; cases hl1
  have hp3 : upd (upd (upd H p (.dK [])) q (.lst (ns.map V.int))) l (.lst (ns.map V.int)) p = some (.dK []) := by rw [upd_ne hpl, upd_ne hpq, upd_same]
  let kvs : List (Key × V) := [(keyC, .ref l), (keyA, .int 0), (keyL, .int 0), (keyN, .int 0)]
  have em : mergeK [] kvs = kvs := mergeK_nodup kvs [] feed_keys
  refine ⟨hp3, kvs, rfl, Nat.le_of_ble_eq_true rfl, ?_⟩
  rw [em]
  exact k p l _ (fun b o h => by
    rw [upd_ne fun z => by rw [z, hp] at h; cases h]
    exact x3 b o h) hp upd_same hpl.symm (by rw [upd_ne hpl.symm, upd_same])
/-- a list of things, each come to with changes of one's own -/
theorem evn_lcN {n : Nat} {ok : Nat → Dl → Dl → Prop} (w : Wlk K vs wi g δ n ok) (hn : n ≤ 10000)
    (step : ∀ i < n, ∃ δ1, ok i (wipeD δ vs) δ1 ∧ EvN K te δ1 own P) : EvN K (tLc wi g tYes te vs) δ own fun d => ∃ out : List PyData, d = .list out ∧ out.length = n ∧ ∀ y ∈ out, P y := fun hs σ H S Q q =>
  w _ σ H S.hid S.sl _ fun J H1 e1 st => fun D hD => by
    have S1 := S.mono e1
    refine ⟨fun i m H' => m = n - i ∧ i ≤ n ∧ ∃ out : List PyData, out.length = i ∧ (∀ y ∈ out, P y) ∧ StO K (D :: hs) σ H' δ own ∧ ExZ (· ∈ ads own) H1 H' ∧ ∃ acc, H' D = some (.lst acc) ∧ RA K (cut (ads own ++ (D :: hs)) H') acc out, ⟨n, by simp, Nat.zero_le _, [], rfl, (fun y hy => by cases hy), S1.hide hD, Ex.toZ (Evl.Ex.new hD), [], upd_same, .nil⟩, ?_⟩
    rintro i m H' ⟨rfl, hi, out, ho, hP, S2, ex, acc, ha, hr⟩
    have ew : Ex (cut (ads own ++ hs) H1) (cut (ads own ++ (D :: hs)) H') := fun a o h => by
      obtain ⟨m, h⟩ := cut_some h
      refine cut_of (fun z => ?_) (ex a o (fun z => m (List.mem_append_left _ z)) h)
      rcases List.mem_append.mp z with z | z
      · exact m (List.mem_append_left _ z)
      · rcases List.mem_cons.mp z with z | z
        · rw [z, hD] at h; cases h
        · exact m (List.mem_append_right _ z)
    have hDn : D ∉ ads own := fun m => S2.dj D m List.mem_cons_self
    have s2 := st i _ H' S2.hid ew
    by_cases hlt : i < n
    · obtain ⟨go, y⟩ := s2.1 hlt
      obtain ⟨δ1, hok, hv⟩ := step i hlt
      refine .inr ⟨go, fun H3 => i + 1 ≤ n ∧ ∃ out : List PyData, out.length = i + 1 ∧ (∀ y ∈ out, P y) ∧ StO K (D :: hs) σ H3 δ own ∧ ExZ (· ∈ ads own) H1 H3 ∧ ∃ acc, H3 D = some (.lst acc) ∧ RA K (cut (ads own ++ (D :: hs)) H3) acc out, fun H3 p => ⟨n - (i + 1), by omega, rfl, p⟩, fun x H'' yy => ?_⟩
      obtain ⟨e3, kk⟩ := y x H'' yy
      refine kk _ _ hok _ (S2.sl.wipe vs) _ fun σ2 Sl2 w2 => ⟨by rw [w2]; exact wipe_wipe vs σ, ?_⟩
      have S3 := S2.mono e3
      have S3' : StO K (D :: hs) σ2 H'' δ1 own := ⟨S3.hid, S3.nd, S3.dj, Sl2, S3.ok⟩
      refine eb_yes (K := K) (δ := δ1) _ σ2 H'' S3.hid Sl2 _ fun H3 e4 => ?_
      rw [if_pos rfl]
      have S4 := S3'.mono e4
      have S4' := S3.mono e4
      refine hv _ σ2 H3 S4 _ fun v H4 dd hdd e5 S5 rv => ?_
      have S5' : StO K (D :: hs) σ H4 δ own := ⟨S5.hid, S5.nd, S5.dj, S4'.sl.mono e5.cut, S5.ok⟩
      have ha4 : H4 D = some (.lst acc) := e5 _ _ hDn (e4 _ _ (e3 _ _ ha))
      have hr4 : RA K (cut (ads own ++ (D :: hs)) H4) acc out := ((hr.mono e3.cut).mono e4.cut).mono e5.cut
      have ex4 : ExZ (· ∈ ads own) H1 H4 := ((ex.trans (Ex.toZ e3)).trans (Ex.toZ e4)).trans e5
      have hm : D ∈ ads own ++ (D :: hs) := List.mem_append_right _ List.mem_cons_self
      refine ⟨acc, ha4, by rw [hr4.length, ho]; exact Nat.lt_of_lt_of_le hlt (Nat.le_trans hn (by decide)), hlt, out ++ [dd], by rw [List.length_append, ho]; rfl, fun y hy => ?_, ⟨S5'.hid.upd, S5'.nd, S5'.dj, by rw [cut_upd hm]; exact S5'.sl, fun p hp => ?_⟩, fun a o z h => ?_, acc ++ [v], upd_same, ?_⟩
      · rcases List.mem_append.mp hy with h | h
        · exact hP y h
        · rw [List.mem_singleton.mp h]; exact hdd
      · rw [cut_upd hm]
        refine (S5'.ok p hp).mono Ex.rfl (upd_ne ?_)
        intro z
        exact hDn (z ▸ List.mem_map_of_mem (f := (·.1)) hp)
      · by_cases y : a = D
        · rw [y, hD] at h; cases h
        · rw [upd_ne y]; exact ex4 a o z h
      · rw [cut_upd hm]
        exact hr4.snoc rv
    · have e : i = n := by omega
      subst e
      have hDh : D ∉ hs := fun z => S1.hid D (List.mem_append_right _ z) hD
      have sub : Ex (cut (ads own ++ (D :: hs)) H') (cut (ads own ++ hs) H') := cut_sub fun a m => by
        rcases List.mem_append.mp m with m | m
        · exact List.mem_append_left _ m
        · exact List.mem_append_right _ (List.mem_cons_of_mem _ m)
      refine .inl ⟨s2.2 rfl, q _ H' _ ⟨out, rfl, ho, hP⟩ ((Ex.toZ e1).trans ex) ⟨fun a m => S2.hid a ?_, S2.nd, fun a m z => S2.dj a m (List.mem_cons_of_mem _ z), S2.sl.mono sub, fun p hp => (S2.ok p hp).mono sub rfl⟩ (R.lst (cut_of (fun z => ?_) ha) (hr.mono sub))⟩
      · rcases List.mem_append.mp m with m | m
        · exact List.mem_append_left _ m
        · exact List.mem_append_right _ (List.mem_cons_of_mem _ m)
      · rcases List.mem_append.mp z with z | z
        · exact hDn z
        · exact hDh z
theorem list_enc {α : Type} {F : α → PyData} {P : α → Prop} : ∀ {ds : List PyData}, (∀ y ∈ ds, ∃ a, P a ∧ y = F a) → ∃ as : List α, ds = as.map F ∧ ∀ a ∈ as, P a
  | [], _ => ⟨[], rfl, fun a ha => by cases ha⟩
  | d :: ds, h => by
    obtain ⟨a, ha, rfl⟩ := h d List.mem_cons_self
    obtain ⟨as, rfl, h2⟩ := list_enc (ds := ds) fun y hy => h y (List.mem_cons_of_mem _ hy)
    exact ⟨a :: as, rfl, fun b hb => by
      rcases List.mem_cons.mp hb with e | hb
      · rw [e]; exact ha
      · exact h2 b hb⟩
theorem encE_inj {p q : Str × Int} (h : encE p = encE q) : p = q := by
  unfold encE at h
  injection h with h
  injection h with h1 h2
  injection h2 with h2 _
  injection h1 with h1
  injection h2 with h2
  exact Prod.ext h1 h2
theorem eEnt_inj {e e' : Ent} (h : eEnt e = eEnt e') : e = e' := by
  unfold eEnt at h
  injection h with h
  exact (List.map_inj_right fun a b h => encE_inj h).mp h
theorem eRow_inj {r r' : Row} (h : eRow r = eRow r') : r = r' := by
  unfold eRow at h
  injection h with h
  injection h with h1 h
  injection h with h2 h
  injection h with h3 _
  injection h1 with h1
  injection h2 with h2
  exact Prod.ext h1 (Prod.ext h2 (eEnt_inj h3))
theorem eTree_inj {t t' : Tree} (h : eTree t = eTree t') : t = t' := by
  unfold eTree at h
  injection h with h
  injection h with h1 h
  injection h with h2 _
  injection h2 with h2
  unfold eRows at h1
  injection h1 with h1
  exact Prod.ext ((List.map_inj_right fun a b h => eRow_inj h).mp h1) h2
theorem strs_inj {a b : List Str} (h : PyData.list (a.map .str) = .list (b.map .str)) : a = b := by
  injection h with h
  exact (List.map_inj_right fun a b h => PyData.str.inj h).mp h
def outT : OutO := ⟨fun _ _ => False, fun _ _ => False, fun _ d => d = .bool true⟩
theorem run_law (d1 d2 d3 d4 d5 : V) (h1 : ∀ H, R K H d1 (.tuple [])) (h2 : ∀ H, R K H d2 (.tuple [])) (h3 : ∀ H, R K H d3 (.tuple [])) {vs : List V} {H : Hp} {Q : VK} {E : XK} (q : spLaw K vs H Q E) : t_law K d1 d2 d3 d4 d5 { nx := fun _ H' => Q .non H', rt := Q } (start N_law vs) H := by
  obtain ⟨a, ns, rfl, hq, hl, k⟩ := q
  refine ⟨.ref a, rfl, a, ns, rfl, hq, hl, fun p c H' ex hp hpd hcp hcd => ?_⟩
  let pre : Dl := [some (.v (.ref a)), some (.v (.ref p)), none, none, none, none, none, none, none, none, none]
  have S0 : StO K [] ((start N_law [.ref a]).set 1 (some (.ref p))) H' pre [(p, .fd ns)] := by
    refine ⟨fun b m => ?_, by simp [ads], fun b m z => (by cases z), ?_, fun r hr => ?_⟩
    · have : b = p := by simpa [ads] using m
      rw [this, hpd]; exact fun z => nomatch z
    · exact (Sl.startS (K := K) (H := cut (ads [(p, OC.fd ns)] ++ []) H') N_law (SlA.cons (d := .v (.ref a)) rfl .nil)).set 1 (d := .v (.ref p)) rfl
    · rw [List.mem_singleton.mp hr]
      exact ⟨0, 0, 0, _, hpd, .cons (d := .d (.list (ns.map .int))) (R.lst (cut_of (by simpa [ads] using hcp) hcd) (RA.of_ints ns)) (.cons (d := .d (.int 0)) (.int 0) (.cons (d := .d (.int 0)) (.int 0) (.cons (d := .d (.int 0)) (.int 0) .nil)))⟩
  have hmf : ((p, OC.fd ns) : Addr × OC) ∈ [(p, OC.fd ns)] := List.mem_cons_self
  refine runO_seq (K := K) (δ := pre) (own := [(p, .fd ns)]) (O := outT) (runO_for (wlk_rng [2] (n := 2) (by trivial) (by omega)) (fun i δa oa => δa = pre ∧ oa = [(p, .fd ns)]) ⟨_, by repeat constructor, rfl, rfl⟩ ?_ ?_) [] (fun _ => False) H _ _ H' ⟨fun b o _ h => ex b o h, fun b m => .inr ?_⟩ S0 ⟨fun _ _ _ _ h => h.elim, fun _ _ _ _ h => h.elim, fun fs d v H2 hd _ _ r => ?_⟩
  · rintro i hi δa oa ⟨rfl, rfl⟩
    let st : Option SD → Option SD → Option SD → Option SD → Option SD → Option SD → Option SD → Dl := fun a3 a4 a5 a7 a8 a9 a10 => [some (.v (.ref a)), some (.v (.ref p)), some (.d (.int i)), a3, a4, a5, none, a7, a8, a9, a10]
    refine ⟨st none none none none none none none, eg_name (by simp), ?_⟩
    refine runO_seq (runO_asg (evn_callF (P := fun d => ∃ ws, WordsOk ws ∧ d = .list (ws.map .str)) (PA := (· = [])) rfl hmf evna_nil (fun ds hd => hd) fun ds d _ ⟨ws, hw, hd⟩ => ⟨ws, hw, hd⟩) fun d hd => ?_)
    obtain ⟨ws, hW, rfl⟩ := hd
    let W3 : Option SD := some (.d (.list (ws.map .str)))
    refine runO_seq (runO_asg (evn_callF (P := fun d => ∃ t, TreeOk ws t ∧ d = eTree t) (PA := fun ds => ∃ r : Int, 0 ≤ r ∧ r < 11 ∧ ds = [.list (ws.map .str), .int r]) rfl hmf (evna_cons (evn_of (d := .list (ws.map .str)) (ev_var rfl)) (evna_one (evn_draw (m := 11) (cells := ns) rfl hmf (evn_of ev_int) (by decide) (by decide))) fun d ds hd ⟨d2, hds, r, hr, q1, q2⟩ => ⟨r, q1, q2, by rw [hd, hds, hr]⟩) (fun ds ⟨r, q1, q2, hds⟩ => ⟨ws, r.toNat, hW, by omega, by rw [hds, show ((r.toNat : Nat) : Int) = r by omega]⟩) fun ds d ⟨r, _, _, hds⟩ ⟨ws', m, t, e, hT, hd⟩ => ⟨t, by
      rw [hds] at e
      injection e with e1 _
      rw [strs_inj e1]; exact hT, hd⟩) fun d hd => ?_)
    obtain ⟨t, hT, rfl⟩ := hd
    let T4 : Option SD := some (.d (eTree t))
    refine runO_seq (runO_asg (evn_lcN (P := fun d => ∃ dd, DeedIn ws dd ∧ d = eDeed dd) (wlk_rng [6] (n := 4) (by trivial) (by omega)) (by omega) fun j hj => ⟨[some (.v (.ref a)), some (.v (.ref p)), some (.d (.int i)), W3, T4, none, some (.d (.int j)), none, none, none, none], eg_name (by simp), evn_callF (PA := (· = [eTree t, .list (ws.map .str)])) rfl hmf (evna_of (ea_cons (ev_var rfl) (ea_cons (ev_var rfl) ea_nil))) (fun ds hd => ⟨ws, t, hW, hT, hd⟩) fun ds d hd ⟨ws', t', dd, e, h, hdd⟩ => ⟨dd, by
      rw [hd] at e
      injection e with _ e2
      injection e2 with e2 _
      rw [strs_inj e2]; exact h, hdd⟩⟩) fun d hd => ?_)
    obtain ⟨out, rfl, ho, hout⟩ := hd
    obtain ⟨dds, rfl, hD⟩ := list_enc hout
    rw [List.length_map] at ho
    let D5 : Option SD := some (.d (.list (dds.map eDeed)))
    refine runO_seq (runO_parNN (P := fun d => ∃ np, NpIn ws np ∧ d = npD np) (P2 := fun d => ∃ ip, IpIn t ip ∧ d = ipD ip) (evn_callF (PA := (· = [.list (ws.map .str)])) rfl hmf (evna_of (ea_cons (ev_var rfl) ea_nil)) (fun ds hd => ⟨ws, hW, hd⟩) fun ds d hd ⟨ws', np, e, h, hdd⟩ => ⟨np, by
      rw [hd] at e
      injection e with e1 _
      rw [strs_inj e1]; exact h, hdd⟩) (evn_callF (PA := (· = [eTree t])) rfl hmf (evna_of (ea_cons (ev_var rfl) ea_nil)) (fun ds hd => ⟨ws, t, hT, hd⟩) fun ds d hd ⟨t', ip, e, h, hdd⟩ => ⟨ip, by
      rw [hd] at e
      injection e with e1 _
      rw [eTree_inj e1]; exact h, hdd⟩) fun x y hx hy => ?_)
    obtain ⟨np, hN, rfl⟩ := hx
    obtain ⟨ip, hI, rfl⟩ := hy
    have L0 := loose_of hT
    have rp0 := (L0.sm hW).rp
    have rpD : Rp 880 3 (.list (dds.map eDeed)) := Rp.list (b := 219) (n := 4) (rpm fun dd hdd => rp_deed hW dd (hD dd hdd)) (by rw [List.length_map, ho]; omega)
    let all : PyData := .tuple [eTree t, .list (dds.map eDeed), npD np, ipD ip]
    have rpA : Rp 44172 6 all := Rp.tuple (b := 11042) (n := 4) (rp4 rp0 (rpD.mono (by omega) (by omega)) ((rp_np hW hN).mono (by omega) (by omega)) ((rp_ip hT hI).mono (by omega) (by omega))) (by simp)
    have evAll : ∀ {a9 a10 : Option SD}, EvD K (tCB (rRepr K) (tCons (tTupF (tCons (tVar 4) (tCons (tVar 5) (tCons (tVar 7) (tCons (tVar 8) (tNil)))))) (tNil))) (st W3 T4 D5 (some (.d (npD np))) (some (.d (ipD ip))) a9 a10) (.str all.shown) := fun {a9 a10} =>
      ev_repr (ev_tup (ds := [eTree t, .list (dds.map eDeed), npD np, ipD ip]) (ea_cons (ev_var rfl) (ea_cons (ev_var rfl) (ea_cons (ev_var rfl) (ea_cons (ev_var rfl) ea_nil)))) (by trivial)) rpA (by omega) (by omega) ⟨_, .inl rfl⟩
    refine runO_letD (x := .str all.shown) evAll rfl ?_
    let s9 : Option SD → Dl := fun a10 => st W3 T4 D5 (some (.d (npD np))) (some (.d (ipD ip))) (some (.d (.str all.shown))) a10
    show RunO K _ (s9 none) _ _
    refine runO_skip (evnb_of (EvB.to (eb_or (a := !true) (b := !true) (eb_not (eb_B (ev_call (P := P__law_right) (d := .bool true) (ds := [eTree t, .list (dds.map eDeed), npD np, ipD ip]) (ea_cons (ev_var rfl) (ea_cons (ev_var rfl) (ea_cons (ev_var rfl) (ea_cons (ev_var rfl) ea_nil)))) ⟨ws, t, dds, np, ip, hW, hT, hD, by omega, hN, hI, rfl, rfl⟩))) fun _ => eb_not (eb_B (ev_call (P := P__law_right) (d := .bool true) (ds := [eTree t, .list (dds.map eDeed), npD [], ipD ip]) (ea_cons (ev_var rfl) (ea_cons (ev_var rfl) (ea_cons (ev_tup ea_nil (by trivial)) (ea_cons (ev_var rfl) ea_nil)))) ⟨ws, t, dds, [], ip, hW, hT, hD, by omega, npNil, hI, rfl, rfl⟩))) rfl)) ?_
    obtain ⟨dd0, rest0, hdds⟩ : ∃ dd0 rest0, dds = dd0 :: rest0 := by
      cases dds with
      | nil => simp at ho
      | cons x xs => exact ⟨x, xs, rfl⟩
    have npn := (npNil (ws := ws)).ok'
    have ipn : IpOk [] := ⟨by simp, by simp⟩
    have okI : RenOk (fOf []) (gOf []) t := L0.renOk hW.eight (fun _ _ _ _ h => h) (fun _ _ h => h)
    have eT : eTree (ren (fOf []) (gOf []) t) = eTree t := by rw [fOf_nil, gOf_nil, ren_id hT.1.inc hT.1.rise]
    have eDd : eDeed (renDeed (fOf []) dd0) = eDeed dd0 := by rw [fOf_nil, deed_id]
    have ix0 : ∀ {δ : Dl}, δ[5]? = some (some (.d (.list (dds.map eDeed)))) → EvD K (tOp (rIxL K) (tVar 5) (tC (.int 0))) δ (eDeed dd0) := fun h => ev_ixL (ds := dds.map eDeed) (i := (0 : Nat)) (ev_var h) ev_int (atI_nat (by rw [hdds]; rfl))
    have hd0 := hD dd0 (by rw [hdds]; exact List.mem_cons_self)
    let four : PyData := .list [eTree t, eTree t, eTree t, eDeed dd0]
    have rpF : Rp 44172 6 four := Rp.list (b := 11042) (n := 4) (rp4 rp0 rp0 rp0 ((rp_deed hW dd0 hd0).mono (by omega) (by omega))) (by simp)
    refine runO_letD (x := four) (ev_lst (ds := [eTree t, eTree t, eTree t, eDeed dd0]) (ea_cons (ev_callD (P := P_renamed) (ds := [eTree t]) (es := [.tuple [], .tuple []]) (ea_cons (ev_var rfl) ea_nil) (fun H => .cons (h1 H) (.cons (h2 H) .nil)) ⟨t, [], [], npn, ipn, okI, rfl, eT.symm⟩)
      (ea_cons (ev_callNg (P := P_renamed) (ds := [eTree t]) (es := [.tuple []]) (fs := [eTree t, .tuple [], .tuple []]) (ea_cons (ev_var rfl) ea_nil) (ea_cons (ev_tup ea_nil (by trivial)) ea_nil) rfl rfl (fun H _ _ b c => b.append (c.append (.cons (h2 H) .nil))) ⟨t, [], [], npn, ipn, okI, rfl, eT.symm⟩)
      (ea_cons (ev_callNg (P := P_renamed) (ds := [eTree t]) (es := [.tuple []]) (fs := [eTree t, .tuple [], .tuple []]) (ea_cons (ev_var rfl) ea_nil) (ea_cons (ev_tup ea_nil (by trivial)) ea_nil) rfl rfl (fun H _ _ b c => b.append (.cons (h1 H) c)) ⟨t, [], [], npn, ipn, okI, rfl, eT.symm⟩)
      (ea_cons (ev_callD (P := P_renamed_deed) (ds := [eDeed dd0]) (es := [.tuple []]) (ea_cons (ix0 rfl) ea_nil) (fun H => .cons (h3 H) .nil) ⟨dd0, [], npn, deed_ok hd0, rfl, eDd.symm⟩) ea_nil)))) (by trivial)) rfl ?_
    show RunO K _ (s9 (some (.d four))) _ _
    refine runO_if (evnb_of (EvB.to (eb_or (a := false) (b := false) (eb_same (x := four.shown) (ev_repr (ev_var rfl) rpF (by omega) (by omega) ⟨_, .inr rfl⟩) (ev_repr (ev_lst (ds := [eTree t, eTree t, eTree t, eDeed dd0]) (ea_cons (ev_var rfl) (ea_cons (ev_var rfl) (ea_cons (ev_var rfl) (ea_cons (ix0 rfl) ea_nil)))) (by trivial)) rpF (by omega) (by omega) ⟨_, .inr rfl⟩)) fun _ => eb_same (x := all.shown) evAll (ev_var rfl)) rfl)) (fun z => by cases z) fun _ => runO_next ⟨_, by repeat constructor, rfl, rfl⟩
  · rintro δa oa ⟨rfl, rfl⟩
    exact runO_retN (evn_of (d := .bool true) ev_bl) fun d hd => hd
  · have : b = p := by simpa [ads] using m
    rw [this]; exact hp
  · have hd' : d = .bool true := hd
    subst hd'
    cases r
    exact k H2
end
end Dw
set_option Elab.async false
set_option linter.all false
set_option maxRecDepth 100000
set_option maxHeartbeats 1000000
/-! Defs as they stand behind the top: promises kept, bindings. -/
namespace Dw
open PySem PySem.Spec PyProof.Rows L2
section
variable {P : Program} {w : World} {K : PySem.W.Frag} {mg : Str → Option Value} {base : Heap} {k : Nat} {x : Str} {st : Stmt} {kws : List (Str × V)} {f : Addr} {fd : FuncData} {N ps : List Str} {sp : Sp} {dvs : List V}
abbrev KeepsD (P : Program) (w : World) (K : PySem.W.Frag) (mg : Str → Option Value) (base : Heap) (k : Nat) (x : Str) (st : Stmt) (f : Addr) (N : List Str) (t : TS) : Prop :=
  ∀ (cdv : Value) (A : Around) (outer : List Env) (s : Shared) (H : Hp) (E : XK), Room k (A.deeper (envOfC x (defScope st) s.heap.objs.size f cdv)) → PSs (cxOf CX0 P w K mg base N x (defScope st) f cdv A outer s H E).nox (defBody st) t
/-- a promise on data kept -/
theorem okD {PP : List PyData → PyData → Prop} {t : TS} (F : Has K mg x st kws f fd) (S : FnScope N ps (defScope st)) (wk : KeepsD P w K mg base k x st f N t)
    (hl : ∀ ds d, PP ds d → ds.length = ps.length) (run : ∀ ds d, PP ds d → RunD K t (ds.map (fun d => some (.d d)) ++ List.replicate (N.length - ds.length) none) (.rt d)) : FnOk P w K mg base CX0 (k + 1) f fd ps (SpD K PP) :=
  F.fn.ok S (SpD.len hl) fun cdv A outer s H vs Q E hr h => ⟨t, (wk cdv A outer s H E hr).nox, spd_run run h⟩
theorem calD_of {PP : List PyData → PyData → Prop} (F : Has K mg x st kws f fd) (ok : FnOk P w K mg base CX0 k f fd ps (SpD K PP)) (b : ∃ ds, Vals dvs ds ∧ Binds K fd ps ds) : CalD P w K mg base k x (SpD K PP) dvs := by
  obtain ⟨ds, h1, h2⟩ := b
  exact ⟨f, fd, ps, ds, ok, F.mg, F.fn.kp, h2, h1⟩
theorem calK_of {n : Nat} {ks : List Str} {gV : List V → List V → List V} (F : Has K mg x st kws f fd) (ok : FnOk P w K mg base CX0 k f fd ps sp) (b : ∃ g, KBn K fd ps n ks g gV) : CalK P w K mg base k x n ks sp gV := by
  obtain ⟨g, h⟩ := b
  exact ⟨f, fd, ps, g, ok, F.mg, F.fn.kp, h⟩
/-- a promise with the feed kept -/
theorem calF_of {Pre : List PyData → Prop} {Post : List PyData → PyData → Prop} {t : TS} (F : Has K mg x st [] f fd) (S : FnScope N ps (defScope st))
    (hb : ∀ (kV doc pm : Value) (an : Option Addr) (cdv ct : Value) (us : List Value), us.length = ps.length → bindArgs (PySem.W.fnOf x x (defArgs st) (defBody st) (defScope st) .none kV doc pm an cdv ct) ⟨us, []⟩ = pure (ps.zip us))
    (wk : KeepsD P w K mg base k x st f N t) (hl : ∀ ds, Pre ds → ds.length + 1 = ps.length)
    (run : ∀ (f : Addr) (cells : List Int) (ds : List PyData), Pre ds → RunO K t (some (.v (.ref f)) :: ds.map (fun d => some (.d d)) ++ List.replicate (N.length - (ds.length + 1)) none) [(f, .fd cells)] (outF f cells (Post ds))) : Cal P w K mg base (k + 1) x (SpF K Pre Post) :=
  ⟨f, fd, ps, F.fn.ok S (fun vs H Q E h => (SpF.len (n := ps.length - 1) (fun ds hd => by have := hl ds hd; omega) vs H Q E h).trans (by
      obtain ⟨_, _, _, _, ds, _, _, _, _, hp, _⟩ := h
      have := hl ds hp
      omega)) (fun cdv A outer s H vs Q E hr h => ⟨t, (wk cdv A outer s H E hr).nox, spf_run run h⟩), F.mg, F.fn.kp, F.fn.bindsN hb⟩
end
section
variable {K : PySem.W.Frag} {mg : Str → Option Value} {f : Addr} {fd : FuncData} {d1 d2 : V}
theorem b_way_through (F : Has K mg "way_through" s_way_through [("top", d1)] f fd) : ∃ ds, Vals [d1] ds ∧ Binds K fd ["tree", "way", "top"] ds :=
  F.fn.binds0 2 (by simp) rfl fun D doc pm an cdv ct us ks h1 h2 => match us, ks, h1, h2 with
    | [_, _], [_], _, _ => ⟨_, _, _, _, _, _, rfl, rfl, rfl⟩
theorem b_laid (F : Has K mg "laid" s_laid [("rows", d1), ("made", d2)] f fd) : ∃ ds, Vals [d1, d2] ds ∧ Binds K fd ["tree", "changes", "rows", "made"] ds :=
  F.fn.binds0 2 (by simp) rfl fun D doc pm an cdv ct us ks h1 h2 => match us, ks, h1, h2 with
    | [_, _], [_, _], _, _ => ⟨_, _, _, _, _, _, rfl, rfl, _, _, _, _, _, _, rfl, rfl, rfl⟩
theorem b_renamed (F : Has K mg "renamed" s_renamed [("names", d1), ("nodes", d2)] f fd) : ∃ ds, Vals [d1, d2] ds ∧ Binds K fd ["tree", "names", "nodes"] ds :=
  F.fn.binds0 1 (by simp) rfl fun D doc pm an cdv ct us ks h1 h2 => match us, ks, h1, h2 with
    | [_], [_, _], _, _ => ⟨_, _, _, _, _, _, rfl, rfl, _, _, _, _, _, _, rfl, rfl, rfl⟩
theorem b_renamed_deed (F : Has K mg "renamed_deed" s_renamed_deed [("names", d1)] f fd) : ∃ ds, Vals [d1] ds ∧ Binds K fd ["deed", "names"] ds :=
  F.fn.binds0 1 (by simp) rfl fun D doc pm an cdv ct us ks h1 h2 => match us, ks, h1, h2 with
    | [_], [_], _, _ => ⟨_, _, _, _, _, _, rfl, rfl, rfl⟩
theorem b_renamed_told (F : Has K mg "renamed_told" s_renamed_told [("names", d1), ("nodes", d2)] f fd) : ∃ ds, Vals [d1, d2] ds ∧ Binds K fd ["told", "names", "nodes"] ds :=
  F.fn.binds0 1 (by simp) rfl fun D doc pm an cdv ct us ks h1 h2 => match us, ks, h1, h2 with
    | [_], [_, _], _, _ => ⟨_, _, _, _, _, _, rfl, rfl, _, _, _, _, _, _, rfl, rfl, rfl⟩
theorem kb0 {x : Str} {st : Stmt} {kws : List (Str × V)} {ps ks : List Str} {n : Nat} (F : Has K mg x st kws f fd) (hk : kws ≠ []) (g : {α : Type} → List α → List α → List α) (hrel : ∀ {vs zs : List V} {us ws : List Value}, Vals vs us → Vals zs ws → Vals (g vs zs) (g us ws))
    (h : ∀ (D : Addr) (doc pm : Value) (an : Option Addr) (cdv ct : Value) (us ws : List Value), us.length = n → ws.length = ks.length → bindArgs (PySem.W.fnOf x x (defArgs st) (defBody st) (defScope st) .none (.ref D) doc pm an cdv ct) ⟨us, ks.zip ws⟩ = pure (ps.zip (g us ws))) :
    ∃ gg, KBn K fd ps n ks gg (fun vs zs => g vs zs) := by
  obtain ⟨mv, h⟩ := kb_of F.fn n ks [] (fun us _ ws => g us ws) hk (fun q hq => by cases hq) (fun a _ c => hrel a c) fun D doc pm an cdv ct us mv ws l1 _ l3 => h D doc pm an cdv ct us ws l1 l3
  exact ⟨_, h⟩
theorem vals_rot {vs : List V} {us : List Value} (h : Vals vs us) : Vals (rot3 vs) (rot3 us) := by
  cases h with
  | nil => exact .nil
  | cons a h => cases h with
    | nil => exact .cons a .nil
    | cons b h => cases h with
      | nil => exact .cons a (.cons b .nil)
      | cons c h => cases h with
        | nil => exact .cons b (.cons c (.cons a .nil))
        | cons d h => exact .cons a (.cons b (.cons c (.cons d h)))
theorem vals_rev : ∀ {vs : List V} {us : List Value}, Vals vs us → Vals vs.reverse us.reverse
  | _, _, .nil => .nil
  | _, _, .cons a h => by rw [List.reverse_cons, List.reverse_cons]; exact (vals_rev h).append (.cons a .nil)
theorem k_laid (F : Has K mg "laid" s_laid [("rows", d1), ("made", d2)] f fd) : ∃ g, KBn K fd ["tree", "changes", "rows", "made"] 2 ["rows", "made"] g (fun xs zs => xs ++ zs) :=
  kb0 F (by simp) (fun a b => a ++ b) (fun a b => a.append b) fun D doc pm an cdv ct us ws h1 h2 => match us, ws, h1, h2 with
    | [_, _], [_, _], _, _ => rfl
theorem k_renamed1 (F : Has K mg "renamed" s_renamed [("names", d1), ("nodes", d2)] f fd) : ∃ g, KBn K fd ["tree", "names", "nodes"] 1 ["names", "nodes"] g (fun xs zs => xs ++ zs) :=
  kb0 F (by simp) (fun a b => a ++ b) (fun a b => a.append b) fun D doc pm an cdv ct us ws h1 h2 => match us, ws, h1, h2 with
    | [_], [_, _], _, _ => rfl
theorem k_renamed0 (F : Has K mg "renamed" s_renamed [("names", d1), ("nodes", d2)] f fd) : ∃ g, KBn K fd ["tree", "names", "nodes"] 0 ["nodes", "tree", "names"] g (fun _ zs => rot3 zs) :=
  kb0 F (by simp) (fun _ b => rot3 b) (fun _ b => vals_rot b) fun D doc pm an cdv ct us ws h1 h2 => match us, ws, h1, h2 with
    | [], [_, _, _], _, _ => rfl
theorem k_deed1 (F : Has K mg "renamed_deed" s_renamed_deed [("names", d1)] f fd) : ∃ g, KBn K fd ["deed", "names"] 1 ["names"] g (fun xs zs => xs ++ zs) :=
  kb0 F (by simp) (fun a b => a ++ b) (fun a b => a.append b) fun D doc pm an cdv ct us ws h1 h2 => match us, ws, h1, h2 with
    | [_], [_], _, _ => rfl
theorem k_deed0 (F : Has K mg "renamed_deed" s_renamed_deed [("names", d1)] f fd) : ∃ g, KBn K fd ["deed", "names"] 0 ["names", "deed"] g (fun _ zs => zs.reverse) :=
  kb0 F (by simp) (fun _ b => b.reverse) (fun _ b => vals_rev b) fun D doc pm an cdv ct us ws h1 h2 => match us, ws, h1, h2 with
    | [], [_, _], _, _ => rfl
theorem k_told1 (F : Has K mg "renamed_told" s_renamed_told [("names", d1), ("nodes", d2)] f fd) : ∃ g, KBn K fd ["told", "names", "nodes"] 1 ["names", "nodes"] g (fun xs zs => xs ++ zs) :=
  kb0 F (by simp) (fun a b => a ++ b) (fun a b => a.append b) fun D doc pm an cdv ct us ws h1 h2 => match us, ws, h1, h2 with
    | [_], [_, _], _, _ => rfl
theorem k_told2 (F : Has K mg "renamed_told" s_renamed_told [("names", d1), ("nodes", d2)] f fd) : ∃ g, KBn K fd ["told", "names", "nodes"] 1 ["nodes", "names"] g (fun xs zs => xs ++ zs.reverse) :=
  kb0 F (by simp) (fun a b => a ++ b.reverse) (fun a b => a.append (vals_rev b)) fun D doc pm an cdv ct us ws h1 h2 => match us, ws, h1, h2 with
    | [_], [_, _], _, _ => rfl
theorem k_renamedN (F : Has K mg "renamed" s_renamed [("names", d1), ("nodes", d2)] f fd) : ∃ g, KBn K fd ["tree", "names", "nodes"] 1 ["names"] g (fun xs zs => xs ++ (zs ++ [d2])) := by
  obtain ⟨mv, h⟩ := kb_of F.fn (ps := ["tree", "names", "nodes"]) 1 ["names"] [("nodes", d2)] (fun us mv ws => us ++ (ws ++ mv)) (by simp) (fun q hq => List.mem_cons_of_mem _ hq) (fun a b c => a.append (c.append b)) fun D doc pm an cdv ct us mv ws l1 l2 l3 => match us, mv, ws, l1, l2, l3 with
    | [_], [_], [_], _, _, _ => ⟨_, _, _, _, _, _, rfl, rfl, rfl⟩
  exact ⟨_, h⟩
theorem k_renamedI (F : Has K mg "renamed" s_renamed [("names", d1), ("nodes", d2)] f fd) : ∃ g, KBn K fd ["tree", "names", "nodes"] 1 ["nodes"] g (fun xs zs => xs ++ (d1 :: zs)) := by
  obtain ⟨mv, h⟩ := kb_of F.fn (ps := ["tree", "names", "nodes"]) 1 ["nodes"] [("names", d1)] (fun us mv ws => us ++ (mv ++ ws)) (by simp) (fun q hq => by rw [List.mem_singleton.mp hq]; exact List.mem_cons_self) (fun a b c => a.append (b.append c)) fun D doc pm an cdv ct us mv ws l1 l2 l3 => match us, mv, ws, l1, l2, l3 with
    | [_], [_], [_], _, _, _ => ⟨_, _, _, _, _, _, rfl, rfl, rfl⟩
  exact ⟨_, h⟩
end
end Dw
set_option Elab.async false
set_option linter.all false
set_option maxRecDepth 100000
set_option maxHeartbeats 1000000
/-! The defs as they stand behind the top; each keeps its promise. -/
namespace Dw
open PySem PySem.Spec PyProof.Rows L2
/-- what the top has left -/
structure Tops (w : World) (K : PySem.W.Frag) (mg : Str → Option Value) (wa : Addr) (d1 d2 d3 d4 d5 l1 : V) : Prop where
  bs : Bs mg
  words : ∃ u, mg "WORDS" = some u ∧ RelV (.ref wa) u
  n_d1 : ∀ H, R K H d1 (.tuple [])
  n_d2 : ∀ H, R K H d2 (.tuple [])
  n_d3 : ∀ H, R K H d3 (.tuple [])
  n_d4 : ∀ H, R K H d4 (.tuple [])
  n_d5 : ∀ H, R K H d5 (.tuple [])
  n_l1 : ∀ H, R K H l1 (.tuple [])
  h_way_renamed : ∃ f fd, Has K mg "way_renamed" s_way_renamed [] f fd
  h_renamed : ∃ f fd, Has K mg "renamed" s_renamed [("names", d1), ("nodes", d2)] f fd
  h_renamed_deed : ∃ f fd, Has K mg "renamed_deed" s_renamed_deed [("names", d3)] f fd
  h_renamed_told : ∃ f fd, Has K mg "renamed_told" s_renamed_told [("names", d4), ("nodes", d5)] f fd
  h_is_number : ∃ f fd, Has K mg "is_number" s_is_number [] f fd
  h_is_name : ∃ f fd, Has K mg "is_name" s_is_name [] f fd
  h_is_entry : ∃ f fd, Has K mg "is_entry" s_is_entry [] f fd
  h_are_entries : ∃ f fd, Has K mg "are_entries" s_are_entries [] f fd
  h_is_row : ∃ f fd, Has K mg "is_row" s_is_row [] f fd
  h_holders : ∃ f fd, Has K mg "holders" s_holders [] f fd
  h_comes_up : ∃ f fd, Has K mg "comes_up" s_comes_up [] f fd
  h_is_held : ∃ f fd, Has K mg "is_held" s_is_held [] f fd
  h_is_tree : ∃ f fd, Has K mg "is_tree" s_is_tree [] f fd
  h_row_of : ∃ f fd, Has K mg "row_of" s_row_of [] f fd
  h_kind_of : ∃ f fd, Has K mg "kind_of" s_kind_of [] f fd
  h_entries_of : ∃ f fd, Has K mg "entries_of" s_entries_of [] f fd
  h_way_through : ∃ f fd, Has K mg "way_through" s_way_through [("top", .int 0)] f fd
  h_above : ∃ f fd, Has K mg "above" s_above [] f fd
  h_laid : ∃ f fd, Has K mg "laid" s_laid [("rows", l1), ("made", .non)] f fd
  h_drawer_of : ∃ f fd, Has K mg "drawer_of" s_drawer_of [] f fd
  h_entry : ∃ f fd, Has K mg "entry" s_entry [] f fd
  h_is_full : ∃ f fd, Has K mg "is_full" s_is_full [] f fd
  h_is_inside : ∃ f fd, Has K mg "is_inside" s_is_inside [] f fd
  h_do_look : ∃ f fd, Has K mg "do_look" s_do_look [] f fd ∧ KDct K w wa "look" (.ref f)
  h_do_list : ∃ f fd, Has K mg "do_list" s_do_list [] f fd ∧ KDct K w wa "list" (.ref f)
  h_do_make : ∃ f fd, Has K mg "do_make" s_do_make [] f fd ∧ KDct K w wa "make" (.ref f)
  h_do_drop : ∃ f fd, Has K mg "do_drop" s_do_drop [] f fd ∧ KDct K w wa "drop" (.ref f)
  h_both_of : ∃ f fd, Has K mg "both_of" s_both_of [] f fd
  h_do_link : ∃ f fd, Has K mg "do_link" s_do_link [] f fd ∧ KDct K w wa "link" (.ref f)
  h_barred : ∃ f fd, Has K mg "barred" s_barred [] f fd
  h_do_move : ∃ f fd, Has K mg "do_move" s_do_move [] f fd ∧ KDct K w wa "move" (.ref f)
  h_do_swap : ∃ f fd, Has K mg "do_swap" s_do_swap [] f fd ∧ KDct K w wa "swap" (.ref f)
  h_done : ∃ f fd, Has K mg "done" s_done [] f fd
  h__law_draw : ∃ f fd, Has K mg "_law_draw" s__law_draw [] f fd
  h__law_names : ∃ f fd, Has K mg "_law_names" s__law_names [] f fd
  h__law_tree : ∃ f fd, Has K mg "_law_tree" s__law_tree [] f fd
  h__law_way : ∃ f fd, Has K mg "_law_way" s__law_way [] f fd
  h__law_deed : ∃ f fd, Has K mg "_law_deed" s__law_deed [] f fd
  h__law_name_pairs : ∃ f fd, Has K mg "_law_name_pairs" s__law_name_pairs [] f fd
  h__law_node_pairs : ∃ f fd, Has K mg "_law_node_pairs" s__law_node_pairs [] f fd
  h__law_due : ∃ f fd, Has K mg "_law_due" s__law_due [] f fd
  h__law_back : ∃ f fd, Has K mg "_law_back" s__law_back [] f fd
  h__law_feed : ∃ f fd, Has K mg "_law_feed" s__law_feed [] f fd
  h__law_right : ∃ f fd, Has K mg "_law_right" s__law_right [] f fd
section
variable {P : Program} {w : World} {K : PySem.W.Frag} {mg : Str → Option Value} {base : Heap} {wa : Addr} {d1 d2 d3 d4 d5 l1 : V}
theorem Tops.dl (T : Tops w K mg wa d1 d2 d3 d4 d5 l1) : ∀ H, RA K H [l1, .non] [.tuple [], .none] := fun H => .cons (T.n_l1 H) (.cons .non .nil)
theorem c_way_renamed (T : Tops w K mg wa d1 d2 d3 d4 d5 l1) : Cal P w K mg base 1 "way_renamed" (SpD K P_way_renamed) := by
  obtain ⟨f, fd, F⟩ := T.h_way_renamed
  exact cal_of (n := 0) (ps := ["way", "called"]) F sc_way_renamed (fun kV doc pm an cdv ct us h => match us, h with | [_, _], _ => rfl) (fun cdv A outer s H E hr => wk_way_renamed T.bs  hr) (fun ds d h => by
    have h' := h
    revert h'
    intro h'
    repeat (obtain ⟨_, h'⟩ := h')
    subst_vars
    rfl) run_way_renamed
theorem ok_renamed (T : Tops w K mg wa d1 d2 d3 d4 d5 l1) : ∃ f fd, Has K mg "renamed" s_renamed [("names", d1), ("nodes", d2)] f fd ∧ FnOk P w K mg base CX0 1 f fd ["tree", "names", "nodes"] (SpD K P_renamed) := by
  obtain ⟨f, fd, F⟩ := T.h_renamed
  exact ⟨f, fd, F, okD F sc_renamed (fun cdv A outer s H E hr => wk_renamed T.bs  hr) (fun ds d h => by
    have h' := h
    revert h'
    intro h'
    repeat (obtain ⟨_, h'⟩ := h')
    subst_vars
    rfl) run_renamed⟩
theorem c_renamed (T : Tops w K mg wa d1 d2 d3 d4 d5 l1) : CalD P w K mg base 1 "renamed" (SpD K P_renamed) ([d1, d2]) := by
  obtain ⟨f, fd, F, ok⟩ := ok_renamed T
  exact calD_of F ok (b_renamed F)
theorem ck_renamed1 (T : Tops w K mg wa d1 d2 d3 d4 d5 l1) : CalK P w K mg base 1 "renamed" 1 ["names", "nodes"] (SpD K P_renamed) (fun xs zs => xs ++ zs) := by
  obtain ⟨f, fd, F, ok⟩ := ok_renamed T
  exact calK_of F ok (k_renamed1 F)
theorem ck_renamed0 (T : Tops w K mg wa d1 d2 d3 d4 d5 l1) : CalK P w K mg base 1 "renamed" 0 ["nodes", "tree", "names"] (SpD K P_renamed) (fun _ zs => rot3 zs) := by
  obtain ⟨f, fd, F, ok⟩ := ok_renamed T
  exact calK_of F ok (k_renamed0 F)
theorem ck_renamedN (T : Tops w K mg wa d1 d2 d3 d4 d5 l1) : CalK P w K mg base 1 "renamed" 1 ["names"] (SpD K P_renamed) (fun xs zs => xs ++ (zs ++ [d2])) := by
  obtain ⟨f, fd, F, ok⟩ := ok_renamed T
  exact calK_of F ok (k_renamedN F)
theorem ck_renamedI (T : Tops w K mg wa d1 d2 d3 d4 d5 l1) : CalK P w K mg base 1 "renamed" 1 ["nodes"] (SpD K P_renamed) (fun xs zs => xs ++ (d1 :: zs)) := by
  obtain ⟨f, fd, F, ok⟩ := ok_renamed T
  exact calK_of F ok (k_renamedI F)
theorem ok_renamed_deed (T : Tops w K mg wa d1 d2 d3 d4 d5 l1) : ∃ f fd, Has K mg "renamed_deed" s_renamed_deed [("names", d3)] f fd ∧ FnOk P w K mg base CX0 2 f fd ["deed", "names"] (SpD K P_renamed_deed) := by
  obtain ⟨f, fd, F⟩ := T.h_renamed_deed
  exact ⟨f, fd, F, okD F sc_renamed_deed (fun cdv A outer s H E hr => wk_renamed_deed T.bs (c_way_renamed T) hr) (fun ds d h => by
    have h' := h
    revert h'
    intro h'
    repeat (obtain ⟨_, h'⟩ := h')
    subst_vars
    rfl) run_renamed_deed⟩
theorem c_renamed_deed (T : Tops w K mg wa d1 d2 d3 d4 d5 l1) : CalD P w K mg base 2 "renamed_deed" (SpD K P_renamed_deed) ([d3]) := by
  obtain ⟨f, fd, F, ok⟩ := ok_renamed_deed T
  exact calD_of F ok (b_renamed_deed F)
theorem ck_deed1 (T : Tops w K mg wa d1 d2 d3 d4 d5 l1) : CalK P w K mg base 2 "renamed_deed" 1 ["names"] (SpD K P_renamed_deed) (fun xs zs => xs ++ zs) := by
  obtain ⟨f, fd, F, ok⟩ := ok_renamed_deed T
  exact calK_of F ok (k_deed1 F)
theorem ck_deed0 (T : Tops w K mg wa d1 d2 d3 d4 d5 l1) : CalK P w K mg base 2 "renamed_deed" 0 ["names", "deed"] (SpD K P_renamed_deed) (fun _ zs => zs.reverse) := by
  obtain ⟨f, fd, F, ok⟩ := ok_renamed_deed T
  exact calK_of F ok (k_deed0 F)
theorem ok_renamed_told (T : Tops w K mg wa d1 d2 d3 d4 d5 l1) : ∃ f fd, Has K mg "renamed_told" s_renamed_told [("names", d4), ("nodes", d5)] f fd ∧ FnOk P w K mg base CX0 2 f fd ["told", "names", "nodes"] (SpD K P_renamed_told) := by
  obtain ⟨f, fd, F⟩ := T.h_renamed_told
  exact ⟨f, fd, F, okD F sc_renamed_told (fun cdv A outer s H E hr => wk_renamed_told T.bs (c_way_renamed T) hr) (fun ds d h => by
    have h' := h
    revert h'
    intro h'
    repeat (obtain ⟨_, h'⟩ := h')
    subst_vars
    rfl) run_renamed_told⟩
theorem c_renamed_told (T : Tops w K mg wa d1 d2 d3 d4 d5 l1) : CalD P w K mg base 2 "renamed_told" (SpD K P_renamed_told) ([d4, d5]) := by
  obtain ⟨f, fd, F, ok⟩ := ok_renamed_told T
  exact calD_of F ok (b_renamed_told F)
theorem ck_told1 (T : Tops w K mg wa d1 d2 d3 d4 d5 l1) : CalK P w K mg base 2 "renamed_told" 1 ["names", "nodes"] (SpD K P_renamed_told) (fun xs zs => xs ++ zs) := by
  obtain ⟨f, fd, F, ok⟩ := ok_renamed_told T
  exact calK_of F ok (k_told1 F)
theorem ck_told2 (T : Tops w K mg wa d1 d2 d3 d4 d5 l1) : CalK P w K mg base 2 "renamed_told" 1 ["nodes", "names"] (SpD K P_renamed_told) (fun xs zs => xs ++ zs.reverse) := by
  obtain ⟨f, fd, F, ok⟩ := ok_renamed_told T
  exact calK_of F ok (k_told2 F)
theorem c_is_number (T : Tops w K mg wa d1 d2 d3 d4 d5 l1) : Cal P w K mg base 1 "is_number" (SpD K P_is_number) := by
  obtain ⟨f, fd, F⟩ := T.h_is_number
  exact cal_of (n := 0) (ps := ["thing"]) F sc_is_number (fun kV doc pm an cdv ct us h => match us, h with | [_], _ => rfl) (fun cdv A outer s H E hr => wk_is_number T.bs  hr) (fun ds d h => by
    have h' := h
    revert h'
    intro h'
    repeat (obtain ⟨_, h'⟩ := h')
    subst_vars
    rfl) run_is_number
theorem c_is_name (T : Tops w K mg wa d1 d2 d3 d4 d5 l1) : Cal P w K mg base 1 "is_name" (SpD K P_is_name) := by
  obtain ⟨f, fd, F⟩ := T.h_is_name
  exact cal_of (n := 0) (ps := ["thing"]) F sc_is_name (fun kV doc pm an cdv ct us h => match us, h with | [_], _ => rfl) (fun cdv A outer s H E hr => wk_is_name T.bs  hr) (fun ds d h => by
    have h' := h
    revert h'
    intro h'
    repeat (obtain ⟨_, h'⟩ := h')
    subst_vars
    rfl) run_is_name
theorem c_is_entry (T : Tops w K mg wa d1 d2 d3 d4 d5 l1) : Cal P w K mg base 2 "is_entry" (SpD K P_is_entry) := by
  obtain ⟨f, fd, F⟩ := T.h_is_entry
  exact cal_of (n := 0) (ps := ["thing"]) F sc_is_entry (fun kV doc pm an cdv ct us h => match us, h with | [_], _ => rfl) (fun cdv A outer s H E hr => wk_is_entry T.bs (c_is_name T) (c_is_number T) hr) (fun ds d h => by
    have h' := h
    revert h'
    intro h'
    repeat (obtain ⟨_, h'⟩ := h')
    subst_vars
    rfl) run_is_entry
theorem c_are_entries (T : Tops w K mg wa d1 d2 d3 d4 d5 l1) : Cal P w K mg base 3 "are_entries" (SpD K P_are_entries) := by
  obtain ⟨f, fd, F⟩ := T.h_are_entries
  exact cal_of (n := 0) (ps := ["thing"]) F sc_are_entries (fun kV doc pm an cdv ct us h => match us, h with | [_], _ => rfl) (fun cdv A outer s H E hr => wk_are_entries T.bs (c_is_entry T) hr) (fun ds d h => by
    have h' := h
    revert h'
    intro h'
    repeat (obtain ⟨_, h'⟩ := h')
    subst_vars
    rfl) run_are_entries
theorem c_is_row (T : Tops w K mg wa d1 d2 d3 d4 d5 l1) : Cal P w K mg base 4 "is_row" (SpD K P_is_row) := by
  obtain ⟨f, fd, F⟩ := T.h_is_row
  exact cal_of (n := 0) (ps := ["thing"]) F sc_is_row (fun kV doc pm an cdv ct us h => match us, h with | [_], _ => rfl) (fun cdv A outer s H E hr => wk_is_row T.bs (c_are_entries T) (c_is_number T) hr) (fun ds d h => by
    have h' := h
    revert h'
    intro h'
    repeat (obtain ⟨_, h'⟩ := h')
    subst_vars
    rfl) run_is_row
theorem c_holders (T : Tops w K mg wa d1 d2 d3 d4 d5 l1) : Cal P w K mg base 1 "holders" (SpD K P_holders) := by
  obtain ⟨f, fd, F⟩ := T.h_holders
  exact cal_of (n := 0) (ps := ["rows"]) F sc_holders (fun kV doc pm an cdv ct us h => match us, h with | [_], _ => rfl) (fun cdv A outer s H E hr => wk_holders T.bs  hr) (fun ds d h => by
    have h' := h
    revert h'
    intro h'
    repeat (obtain ⟨_, h'⟩ := h')
    subst_vars
    rfl) run_holders
theorem c_comes_up (T : Tops w K mg wa d1 d2 d3 d4 d5 l1) : Cal P w K mg base 1 "comes_up" (SpD K P_comes_up) := by
  obtain ⟨f, fd, F⟩ := T.h_comes_up
  exact cal_of (n := 0) (ps := ["node", "held"]) F sc_comes_up (fun kV doc pm an cdv ct us h => match us, h with | [_, _], _ => rfl) (fun cdv A outer s H E hr => wk_comes_up T.bs  hr) (fun ds d h => by
    have h' := h
    revert h'
    intro h'
    repeat (obtain ⟨_, h'⟩ := h')
    subst_vars
    rfl) run_comes_up
theorem c_is_held (T : Tops w K mg wa d1 d2 d3 d4 d5 l1) : Cal P w K mg base 2 "is_held" (SpD K P_is_held) := by
  obtain ⟨f, fd, F⟩ := T.h_is_held
  exact cal_of (n := 0) (ps := ["row", "held"]) F sc_is_held (fun kV doc pm an cdv ct us h => match us, h with | [_, _], _ => rfl) (fun cdv A outer s H E hr => wk_is_held T.bs (c_comes_up T) hr) (fun ds d h => by
    have h' := h
    revert h'
    intro h'
    repeat (obtain ⟨_, h'⟩ := h')
    subst_vars
    rfl) run_is_held
theorem c_is_tree (T : Tops w K mg wa d1 d2 d3 d4 d5 l1) : Cal P w K mg base 5 "is_tree" (SpD K P_is_tree) := by
  obtain ⟨f, fd, F⟩ := T.h_is_tree
  exact cal_of (n := 0) (ps := ["thing"]) F sc_is_tree (fun kV doc pm an cdv ct us h => match us, h with | [_], _ => rfl) (fun cdv A outer s H E hr => wk_is_tree T.bs (c_holders T) (c_is_number T) (c_is_held T) (c_is_row T) hr) (fun ds d h => by
    have h' := h
    revert h'
    intro h'
    repeat (obtain ⟨_, h'⟩ := h')
    subst_vars
    rfl) run_is_tree
theorem c_row_of (T : Tops w K mg wa d1 d2 d3 d4 d5 l1) : Cal P w K mg base 2 "row_of" (SpD K P_row_of) := by
  obtain ⟨f, fd, F⟩ := T.h_row_of
  exact cal_of (n := 0) (ps := ["tree", "node"]) F sc_row_of (fun kV doc pm an cdv ct us h => match us, h with | [_, _], _ => rfl) (fun cdv A outer s H E hr => wk_row_of T.bs (c_is_number T) hr) (fun ds d h => by
    have h' := h
    revert h'
    intro h'
    repeat (obtain ⟨_, h'⟩ := h')
    subst_vars
    rfl) run_row_of
theorem c_kind_of (T : Tops w K mg wa d1 d2 d3 d4 d5 l1) : Cal P w K mg base 3 "kind_of" (SpD K P_kind_of) := by
  obtain ⟨f, fd, F⟩ := T.h_kind_of
  exact cal_of (n := 0) (ps := ["tree", "node"]) F sc_kind_of (fun kV doc pm an cdv ct us h => match us, h with | [_, _], _ => rfl) (fun cdv A outer s H E hr => wk_kind_of T.bs (c_row_of T) hr) (fun ds d h => by
    have h' := h
    revert h'
    intro h'
    repeat (obtain ⟨_, h'⟩ := h')
    subst_vars
    rfl) run_kind_of
theorem c_entries_of (T : Tops w K mg wa d1 d2 d3 d4 d5 l1) : Cal P w K mg base 3 "entries_of" (SpD K P_entries_of) := by
  obtain ⟨f, fd, F⟩ := T.h_entries_of
  exact cal_of (n := 0) (ps := ["tree", "node"]) F sc_entries_of (fun kV doc pm an cdv ct us h => match us, h with | [_, _], _ => rfl) (fun cdv A outer s H E hr => wk_entries_of T.bs (c_row_of T) hr) (fun ds d h => by
    have h' := h
    revert h'
    intro h'
    repeat (obtain ⟨_, h'⟩ := h')
    subst_vars
    rfl) run_entries_of
theorem ok_way_through (T : Tops w K mg wa d1 d2 d3 d4 d5 l1) : ∃ f fd, Has K mg "way_through" s_way_through [("top", .int 0)] f fd ∧ FnOk P w K mg base CX0 4 f fd ["tree", "way", "top"] (SpD K P_way_through) := by
  obtain ⟨f, fd, F⟩ := T.h_way_through
  exact ⟨f, fd, F, okD F sc_way_through (fun cdv A outer s H E hr => wk_way_through T.bs (c_kind_of T) (c_entries_of T) hr) (fun ds d h => by
    have h' := h
    revert h'
    intro h'
    repeat (obtain ⟨_, h'⟩ := h')
    subst_vars
    rfl) run_way_through⟩
theorem c_way_through (T : Tops w K mg wa d1 d2 d3 d4 d5 l1) : CalD P w K mg base 4 "way_through" (SpD K P_way_through) ([.int 0]) := by
  obtain ⟨f, fd, F, ok⟩ := ok_way_through T
  exact calD_of F ok (b_way_through F)
theorem c_above (T : Tops w K mg wa d1 d2 d3 d4 d5 l1) : Cal P w K mg base 4 "above" (SpD K P_above) := by
  obtain ⟨f, fd, F⟩ := T.h_above
  exact cal_of (n := 0) (ps := ["tree", "node"]) F sc_above (fun kV doc pm an cdv ct us h => match us, h with | [_, _], _ => rfl) (fun cdv A outer s H E hr => wk_above T.bs (c_kind_of T) (c_holders T) hr) (fun ds d h => by
    have h' := h
    revert h'
    intro h'
    repeat (obtain ⟨_, h'⟩ := h')
    subst_vars
    rfl) run_above
theorem ok_laid (T : Tops w K mg wa d1 d2 d3 d4 d5 l1) : ∃ f fd, Has K mg "laid" s_laid [("rows", l1), ("made", .non)] f fd ∧ FnOk P w K mg base CX0 1 f fd ["tree", "changes", "rows", "made"] (SpD K P_laid) := by
  obtain ⟨f, fd, F⟩ := T.h_laid
  exact ⟨f, fd, F, okD F sc_laid (fun cdv A outer s H E hr => wk_laid T.bs  hr) (fun ds d h => by
    have h' := h
    revert h'
    intro h'
    repeat (obtain ⟨_, h'⟩ := h')
    subst_vars
    rfl) run_laid⟩
theorem c_laid (T : Tops w K mg wa d1 d2 d3 d4 d5 l1) : CalD P w K mg base 1 "laid" (SpD K P_laid) ([l1, .non]) := by
  obtain ⟨f, fd, F, ok⟩ := ok_laid T
  exact calD_of F ok (b_laid F)
theorem ck_laid (T : Tops w K mg wa d1 d2 d3 d4 d5 l1) : CalK P w K mg base 1 "laid" 2 ["rows", "made"] (SpD K P_laid) (fun xs zs => xs ++ zs) := by
  obtain ⟨f, fd, F, ok⟩ := ok_laid T
  exact calK_of F ok (k_laid F)
theorem c_drawer_of (T : Tops w K mg wa d1 d2 d3 d4 d5 l1) : Cal P w K mg base 5 "drawer_of" (SpD K P_drawer_of) := by
  obtain ⟨f, fd, F⟩ := T.h_drawer_of
  exact cal_of (n := 0) (ps := ["tree", "way"]) F sc_drawer_of (fun kV doc pm an cdv ct us h => match us, h with | [_, _], _ => rfl) (fun cdv A outer s H E hr => wk_drawer_of T.bs (c_way_through T) (c_kind_of T) hr) (fun ds d h => by
    have h' := h
    revert h'
    intro h'
    repeat (obtain ⟨_, h'⟩ := h')
    subst_vars
    rfl) run_drawer_of
theorem c_entry (T : Tops w K mg wa d1 d2 d3 d4 d5 l1) : Cal P w K mg base 4 "entry" (SpD K P_entry) := by
  obtain ⟨f, fd, F⟩ := T.h_entry
  exact cal_of (n := 0) (ps := ["tree", "drawer", "way"]) F sc_entry (fun kV doc pm an cdv ct us h => match us, h with | [_, _, _], _ => rfl) (fun cdv A outer s H E hr => wk_entry T.bs (c_entries_of T) hr) (fun ds d h => by
    have h' := h
    revert h'
    intro h'
    repeat (obtain ⟨_, h'⟩ := h')
    subst_vars
    rfl) run_entry
theorem c_is_full (T : Tops w K mg wa d1 d2 d3 d4 d5 l1) : Cal P w K mg base 4 "is_full" (SpD K P_is_full) := by
  obtain ⟨f, fd, F⟩ := T.h_is_full
  exact cal_of (n := 0) (ps := ["tree", "node"]) F sc_is_full (fun kV doc pm an cdv ct us h => match us, h with | [_, _], _ => rfl) (fun cdv A outer s H E hr => wk_is_full T.bs (c_kind_of T) (c_entries_of T) hr) (fun ds d h => by
    have h' := h
    revert h'
    intro h'
    repeat (obtain ⟨_, h'⟩ := h')
    subst_vars
    rfl) run_is_full
theorem c_is_inside (T : Tops w K mg wa d1 d2 d3 d4 d5 l1) : Cal P w K mg base 5 "is_inside" (SpD K P_is_inside) := by
  obtain ⟨f, fd, F⟩ := T.h_is_inside
  exact cal_of (n := 0) (ps := ["tree", "node", "drawer"]) F sc_is_inside (fun kV doc pm an cdv ct us h => match us, h with | [_, _, _], _ => rfl) (fun cdv A outer s H E hr => wk_is_inside T.bs (c_above T) hr) (fun ds d h => by
    have h' := h
    revert h'
    intro h'
    repeat (obtain ⟨_, h'⟩ := h')
    subst_vars
    rfl) run_is_inside
theorem hd_do_look (T : Tops w K mg wa d1 d2 d3 d4 d5 l1) : ∃ f fd, Has K mg "do_look" s_do_look [] f fd ∧ KDct K w wa "look" (.ref f) ∧ Held P w K mg base 7 f (SpD K P_do_look) := by
  obtain ⟨f, fd, F, kd⟩ := T.h_do_look
  exact ⟨f, fd, F, kd, ⟨fd, ["tree", "way"], (okD F sc_do_look (fun cdv A outer s H E hr => wk_do_look T.bs (c_way_through T) (c_kind_of T) hr) (fun ds d h => by
    have h' := h
    revert h'
    intro h'
    repeat (obtain ⟨_, h'⟩ := h')
    subst_vars
    rfl) run_do_look).mono (by decide), F.fn.kp, F.fn.bindsN (fun kV doc pm an cdv ct us h => match us, h with | [_, _], _ => rfl)⟩⟩
theorem hd_do_list (T : Tops w K mg wa d1 d2 d3 d4 d5 l1) : ∃ f fd, Has K mg "do_list" s_do_list [] f fd ∧ KDct K w wa "list" (.ref f) ∧ Held P w K mg base 7 f (SpD K P_do_list) := by
  obtain ⟨f, fd, F, kd⟩ := T.h_do_list
  exact ⟨f, fd, F, kd, ⟨fd, ["tree", "way"], (okD F sc_do_list (fun cdv A outer s H E hr => wk_do_list T.bs (c_way_through T) (c_kind_of T) (c_entries_of T) hr) (fun ds d h => by
    have h' := h
    revert h'
    intro h'
    repeat (obtain ⟨_, h'⟩ := h')
    subst_vars
    rfl) run_do_list).mono (by decide), F.fn.kp, F.fn.bindsN (fun kV doc pm an cdv ct us h => match us, h with | [_, _], _ => rfl)⟩⟩
theorem hd_do_make (T : Tops w K mg wa d1 d2 d3 d4 d5 l1) : ∃ f fd, Has K mg "do_make" s_do_make [] f fd ∧ KDct K w wa "make" (.ref f) ∧ Held P w K mg base 7 f (SpD K P_do_make) := by
  obtain ⟨f, fd, F, kd⟩ := T.h_do_make
  exact ⟨f, fd, F, kd, ⟨fd, ["tree", "way", "kind"], (okD F sc_do_make (fun cdv A outer s H E hr => wk_do_make T.bs [l1, .non] (c_drawer_of T) (c_entry T) (ck_laid T) hr) (fun ds d h => by
    have h' := h
    revert h'
    intro h'
    repeat (obtain ⟨_, h'⟩ := h')
    subst_vars
    rfl) run_do_make).mono (by decide), F.fn.kp, F.fn.bindsN (fun kV doc pm an cdv ct us h => match us, h with | [_, _, _], _ => rfl)⟩⟩
theorem hd_do_drop (T : Tops w K mg wa d1 d2 d3 d4 d5 l1) : ∃ f fd, Has K mg "do_drop" s_do_drop [] f fd ∧ KDct K w wa "drop" (.ref f) ∧ Held P w K mg base 7 f (SpD K P_do_drop) := by
  obtain ⟨f, fd, F, kd⟩ := T.h_do_drop
  exact ⟨f, fd, F, kd, ⟨fd, ["tree", "way"], (okD F sc_do_drop (fun cdv A outer s H E hr => wk_do_drop T.bs [l1, .non] (c_drawer_of T) (c_entry T) (c_is_full T) (c_laid T) hr) (fun ds d h => by
    have h' := h
    revert h'
    intro h'
    repeat (obtain ⟨_, h'⟩ := h')
    subst_vars
    rfl) (run_do_drop T.dl)).mono (by decide), F.fn.kp, F.fn.bindsN (fun kV doc pm an cdv ct us h => match us, h with | [_, _], _ => rfl)⟩⟩
theorem c_both_of (T : Tops w K mg wa d1 d2 d3 d4 d5 l1) : Cal P w K mg base 6 "both_of" (SpD K P_both_of) := by
  obtain ⟨f, fd, F⟩ := T.h_both_of
  exact cal_of (n := 0) (ps := ["tree", "first", "second"]) F sc_both_of (fun kV doc pm an cdv ct us h => match us, h with | [_, _, _], _ => rfl) (fun cdv A outer s H E hr => wk_both_of T.bs (c_drawer_of T) (c_entry T) hr) (fun ds d h => by
    have h' := h
    revert h'
    intro h'
    repeat (obtain ⟨_, h'⟩ := h')
    subst_vars
    rfl) run_both_of
theorem hd_do_link (T : Tops w K mg wa d1 d2 d3 d4 d5 l1) : ∃ f fd, Has K mg "do_link" s_do_link [] f fd ∧ KDct K w wa "link" (.ref f) ∧ Held P w K mg base 7 f (SpD K P_do_link) := by
  obtain ⟨f, fd, F, kd⟩ := T.h_do_link
  exact ⟨f, fd, F, kd, ⟨fd, ["tree", "first", "second"], (okD F sc_do_link (fun cdv A outer s H E hr => wk_do_link T.bs [l1, .non] (c_both_of T) (c_kind_of T) (c_laid T) hr) (fun ds d h => by
    have h' := h
    revert h'
    intro h'
    repeat (obtain ⟨_, h'⟩ := h')
    subst_vars
    rfl) (run_do_link T.dl)).mono (by decide), F.fn.kp, F.fn.bindsN (fun kV doc pm an cdv ct us h => match us, h with | [_, _, _], _ => rfl)⟩⟩
theorem c_barred (T : Tops w K mg wa d1 d2 d3 d4 d5 l1) : Cal P w K mg base 6 "barred" (SpD K P_barred) := by
  obtain ⟨f, fd, F⟩ := T.h_barred
  exact cal_of (n := 0) (ps := ["tree", "goal", "node", "old"]) F sc_barred (fun kV doc pm an cdv ct us h => match us, h with | [_, _, _, _], _ => rfl) (fun cdv A outer s H E hr => wk_barred T.bs (c_is_inside T) (c_kind_of T) (c_is_full T) hr) (fun ds d h => by
    have h' := h
    revert h'
    intro h'
    repeat (obtain ⟨_, h'⟩ := h')
    subst_vars
    rfl) run_barred
theorem hd_do_move (T : Tops w K mg wa d1 d2 d3 d4 d5 l1) : ∃ f fd, Has K mg "do_move" s_do_move [] f fd ∧ KDct K w wa "move" (.ref f) ∧ Held P w K mg base 7 f (SpD K P_do_move) := by
  obtain ⟨f, fd, F, kd⟩ := T.h_do_move
  exact ⟨f, fd, F, kd, ⟨fd, ["tree", "first", "second"], (okD F sc_do_move (fun cdv A outer s H E hr => wk_do_move T.bs [l1, .non] (c_both_of T) (c_barred T) (c_laid T) hr) (fun ds d h => by
    have h' := h
    revert h'
    intro h'
    repeat (obtain ⟨_, h'⟩ := h')
    subst_vars
    rfl) (run_do_move T.dl)).mono (by decide), F.fn.kp, F.fn.bindsN (fun kV doc pm an cdv ct us h => match us, h with | [_, _, _], _ => rfl)⟩⟩
theorem hd_do_swap (T : Tops w K mg wa d1 d2 d3 d4 d5 l1) : ∃ f fd, Has K mg "do_swap" s_do_swap [] f fd ∧ KDct K w wa "swap" (.ref f) ∧ Held P w K mg base 7 f (SpD K P_do_swap) := by
  obtain ⟨f, fd, F, kd⟩ := T.h_do_swap
  exact ⟨f, fd, F, kd, ⟨fd, ["tree", "first", "second"], (okD F sc_do_swap (fun cdv A outer s H E hr => wk_do_swap T.bs [l1, .non] (c_both_of T) (c_is_inside T) (c_laid T) hr) (fun ds d h => by
    have h' := h
    revert h'
    intro h'
    repeat (obtain ⟨_, h'⟩ := h')
    subst_vars
    rfl) (run_do_swap T.dl)).mono (by decide), F.fn.kp, F.fn.bindsN (fun kV doc pm an cdv ct us h => match us, h with | [_, _, _], _ => rfl)⟩⟩
theorem has_ne {x y : Str} {st st' : Stmt} {kws kws' : List (Str × V)} {f f' : Addr} {fd fd' : FuncData} (F : Has K mg x st kws f fd) (G : Has K mg y st' kws' f' fd') (h : x ≠ y) : f ≠ f' := fun e => by
  subst e
  obtain ⟨oc, od, dV, kV, doc, pm, an, cdv, ct, osl, rfl, lk, _, _, _⟩ := F.fn.ex
  obtain ⟨oc', od', dV', kV', doc', pm', an', cdv', ct', osl', rfl, lk', _, _, _⟩ := G.fn.ex
  rw [lk] at lk'
  have h1 := Option.some.inj lk'
  injection h1 with _ _ h2 _
  injection h2 with h3
  exact h (congrArg FuncData.name h3)
theorem c_done (T : Tops w K mg wa d1 d2 d3 d4 d5 l1) : Cal P w K mg base 8 "done" (SpD K P_done) := by
  obtain ⟨f1, g1, F1, k1, H1⟩ := hd_do_look (P := P) (base := base) T
  obtain ⟨f2, g2, F2, k2, H2⟩ := hd_do_list (P := P) (base := base) T
  obtain ⟨f3, g3, F3, k3, H3⟩ := hd_do_make (P := P) (base := base) T
  obtain ⟨f4, g4, F4, k4, H4⟩ := hd_do_drop (P := P) (base := base) T
  obtain ⟨f5, g5, F5, k5, H5⟩ := hd_do_link (P := P) (base := base) T
  obtain ⟨f6, g6, F6, k6, H6⟩ := hd_do_move (P := P) (base := base) T
  obtain ⟨f7, g7, F7, k7, H7⟩ := hd_do_swap (P := P) (base := base) T
  let S : Addr → Option Sp := fun a => if a = f1 then some (SpD K P_do_look) else if a = f2 then some (SpD K P_do_list) else if a = f3 then some (SpD K P_do_make) else if a = f4 then some (SpD K P_do_drop) else if a = f5 then some (SpD K P_do_link) else if a = f6 then some (SpD K P_do_move) else if a = f7 then some (SpD K P_do_swap) else none
  have hA : ∀ f sp, S f = some sp → Held P w K mg base 7 f sp := fun a sp h => by
    have h' : (if a = f1 then some (SpD K P_do_look) else if a = f2 then some (SpD K P_do_list) else if a = f3 then some (SpD K P_do_make) else if a = f4 then some (SpD K P_do_drop) else if a = f5 then some (SpD K P_do_link) else if a = f6 then some (SpD K P_do_move) else if a = f7 then some (SpD K P_do_swap) else none) = some sp := h
    by_cases z1 : a = f1
    · rw [if_pos z1] at h'
      cases h'
      rw [z1]; exact H1
    by_cases z2 : a = f2
    · rw [if_neg z1, if_pos z2] at h'
      cases h'
      rw [z2]; exact H2
    by_cases z3 : a = f3
    · rw [if_neg z1, if_neg z2, if_pos z3] at h'
      cases h'
      rw [z3]; exact H3
    by_cases z4 : a = f4
    · rw [if_neg z1, if_neg z2, if_neg z3, if_pos z4] at h'
      cases h'
      rw [z4]; exact H4
    by_cases z5 : a = f5
    · rw [if_neg z1, if_neg z2, if_neg z3, if_neg z4, if_pos z5] at h'
      cases h'
      rw [z5]; exact H5
    by_cases z6 : a = f6
    · rw [if_neg z1, if_neg z2, if_neg z3, if_neg z4, if_neg z5, if_pos z6] at h'
      cases h'
      rw [z6]; exact H6
    by_cases z7 : a = f7
    · rw [if_neg z1, if_neg z2, if_neg z3, if_neg z4, if_neg z5, if_neg z6, if_pos z7] at h'
      cases h'
      rw [z7]; exact H7
    rw [if_neg z1, if_neg z2, if_neg z3, if_neg z4, if_neg z5, if_neg z6, if_neg z7] at h'
    cases h'
  have hw : Words K w wa S := ⟨⟨f1, k1, by
    show (if f1 = f1 then some (SpD K P_do_look) else if f1 = f2 then some (SpD K P_do_list) else if f1 = f3 then some (SpD K P_do_make) else if f1 = f4 then some (SpD K P_do_drop) else if f1 = f5 then some (SpD K P_do_link) else if f1 = f6 then some (SpD K P_do_move) else if f1 = f7 then some (SpD K P_do_swap) else none) = _
    rw [if_pos rfl]⟩, ⟨f2, k2, by
    show (if f2 = f1 then some (SpD K P_do_look) else if f2 = f2 then some (SpD K P_do_list) else if f2 = f3 then some (SpD K P_do_make) else if f2 = f4 then some (SpD K P_do_drop) else if f2 = f5 then some (SpD K P_do_link) else if f2 = f6 then some (SpD K P_do_move) else if f2 = f7 then some (SpD K P_do_swap) else none) = _
    rw [if_neg (has_ne F2 F1 (by decide)), if_pos rfl]⟩, ⟨f3, k3, by
    show (if f3 = f1 then some (SpD K P_do_look) else if f3 = f2 then some (SpD K P_do_list) else if f3 = f3 then some (SpD K P_do_make) else if f3 = f4 then some (SpD K P_do_drop) else if f3 = f5 then some (SpD K P_do_link) else if f3 = f6 then some (SpD K P_do_move) else if f3 = f7 then some (SpD K P_do_swap) else none) = _
    rw [if_neg (has_ne F3 F1 (by decide)), if_neg (has_ne F3 F2 (by decide)), if_pos rfl]⟩, ⟨f4, k4, by
    show (if f4 = f1 then some (SpD K P_do_look) else if f4 = f2 then some (SpD K P_do_list) else if f4 = f3 then some (SpD K P_do_make) else if f4 = f4 then some (SpD K P_do_drop) else if f4 = f5 then some (SpD K P_do_link) else if f4 = f6 then some (SpD K P_do_move) else if f4 = f7 then some (SpD K P_do_swap) else none) = _
    rw [if_neg (has_ne F4 F1 (by decide)), if_neg (has_ne F4 F2 (by decide)), if_neg (has_ne F4 F3 (by decide)), if_pos rfl]⟩, ⟨f5, k5, by
    show (if f5 = f1 then some (SpD K P_do_look) else if f5 = f2 then some (SpD K P_do_list) else if f5 = f3 then some (SpD K P_do_make) else if f5 = f4 then some (SpD K P_do_drop) else if f5 = f5 then some (SpD K P_do_link) else if f5 = f6 then some (SpD K P_do_move) else if f5 = f7 then some (SpD K P_do_swap) else none) = _
    rw [if_neg (has_ne F5 F1 (by decide)), if_neg (has_ne F5 F2 (by decide)), if_neg (has_ne F5 F3 (by decide)), if_neg (has_ne F5 F4 (by decide)), if_pos rfl]⟩, ⟨f6, k6, by
    show (if f6 = f1 then some (SpD K P_do_look) else if f6 = f2 then some (SpD K P_do_list) else if f6 = f3 then some (SpD K P_do_make) else if f6 = f4 then some (SpD K P_do_drop) else if f6 = f5 then some (SpD K P_do_link) else if f6 = f6 then some (SpD K P_do_move) else if f6 = f7 then some (SpD K P_do_swap) else none) = _
    rw [if_neg (has_ne F6 F1 (by decide)), if_neg (has_ne F6 F2 (by decide)), if_neg (has_ne F6 F3 (by decide)), if_neg (has_ne F6 F4 (by decide)), if_neg (has_ne F6 F5 (by decide)), if_pos rfl]⟩, ⟨f7, k7, by
    show (if f7 = f1 then some (SpD K P_do_look) else if f7 = f2 then some (SpD K P_do_list) else if f7 = f3 then some (SpD K P_do_make) else if f7 = f4 then some (SpD K P_do_drop) else if f7 = f5 then some (SpD K P_do_link) else if f7 = f6 then some (SpD K P_do_move) else if f7 = f7 then some (SpD K P_do_swap) else none) = _
    rw [if_neg (has_ne F7 F1 (by decide)), if_neg (has_ne F7 F2 (by decide)), if_neg (has_ne F7 F3 (by decide)), if_neg (has_ne F7 F4 (by decide)), if_neg (has_ne F7 F5 (by decide)), if_neg (has_ne F7 F6 (by decide)), if_pos rfl]⟩⟩
  obtain ⟨f, fd, F⟩ := T.h_done
  exact cal_of (n := 0) (ps := ["tree", "deed"]) F sc_done (fun kV doc pm an cdv ct us h => match us, h with | [_, _], _ => rfl) (fun cdv A outer s H E hr => wk_done T.bs wa T.words S hA hr) (fun ds d h => by
    have h' := h
    revert h'
    intro h'
    repeat (obtain ⟨_, h'⟩ := h')
    subst_vars
    rfl) (run_done hw)
theorem c__law_draw (T : Tops w K mg wa d1 d2 d3 d4 d5 l1) : Cal P w K mg base 1 "_law_draw" (SpF K Pre_draw Post_draw) := by
  obtain ⟨f, fd, F⟩ := T.h__law_draw
  exact calF_of (ps := ["_law_feed_here", "_law_many"]) F sc__law_draw (fun kV doc pm an cdv ct us h => match us, h with | [_, _], _ => rfl) (fun cdv A outer s H E hr => wk__law_draw T.bs  hr) (fun ds h => by
    have h' := h
    unfold Pre_draw at h'
    repeat (obtain ⟨_, h'⟩ := h')
    subst_vars
    rfl) run__law_draw
theorem c__law_names (T : Tops w K mg wa d1 d2 d3 d4 d5 l1) : Cal P w K mg base 2 "_law_names" (SpF K Pre_names Post_names) := by
  obtain ⟨f, fd, F⟩ := T.h__law_names
  exact calF_of (ps := ["_law_feed_here"]) F sc__law_names (fun kV doc pm an cdv ct us h => match us, h with | [_], _ => rfl) (fun cdv A outer s H E hr => wk__law_names T.bs (c__law_draw T) hr) (fun ds h => by
    have h' := h
    unfold Pre_names at h'
    repeat (obtain ⟨_, h'⟩ := h')
    subst_vars
    rfl) run__law_names
theorem c__law_tree (T : Tops w K mg wa d1 d2 d3 d4 d5 l1) : Cal P w K mg base 2 "_law_tree" (SpF K Pre_tree Post_tree) := by
  obtain ⟨f, fd, F⟩ := T.h__law_tree
  exact calF_of (ps := ["_law_feed_here", "_law_words_here", "_law_many"]) F sc__law_tree (fun kV doc pm an cdv ct us h => match us, h with | [_, _, _], _ => rfl) (fun cdv A outer s H E hr => wk__law_tree T.bs (c__law_draw T) hr) (fun ds h => by
    have h' := h
    unfold Pre_tree at h'
    repeat (obtain ⟨_, h'⟩ := h')
    subst_vars
    rfl) run__law_tree
theorem c__law_way (T : Tops w K mg wa d1 d2 d3 d4 d5 l1) : Cal P w K mg base 2 "_law_way" (SpF K Pre_way Post_way) := by
  obtain ⟨f, fd, F⟩ := T.h__law_way
  exact calF_of (ps := ["_law_feed_here", "_law_grove", "_law_words_here", "_law_least"]) F sc__law_way (fun kV doc pm an cdv ct us h => match us, h with | [_, _, _, _], _ => rfl) (fun cdv A outer s H E hr => wk__law_way T.bs (c__law_draw T) hr) (fun ds h => by
    have h' := h
    unfold Pre_way at h'
    repeat (obtain ⟨_, h'⟩ := h')
    subst_vars
    rfl) run__law_way
theorem c__law_deed (T : Tops w K mg wa d1 d2 d3 d4 d5 l1) : Cal P w K mg base 3 "_law_deed" (SpF K Pre_deed Post_deed) := by
  obtain ⟨f, fd, F⟩ := T.h__law_deed
  exact calF_of (ps := ["_law_feed_here", "_law_grove", "_law_words_here"]) F sc__law_deed (fun kV doc pm an cdv ct us h => match us, h with | [_, _, _], _ => rfl) (fun cdv A outer s H E hr => wk__law_deed T.bs (c__law_way T) (c__law_draw T) hr) (fun ds h => by
    have h' := h
    unfold Pre_deed at h'
    repeat (obtain ⟨_, h'⟩ := h')
    subst_vars
    rfl) run__law_deed
theorem c__law_name_pairs (T : Tops w K mg wa d1 d2 d3 d4 d5 l1) : Cal P w K mg base 2 "_law_name_pairs" (SpF K Pre_name_pairs Post_name_pairs) := by
  obtain ⟨f, fd, F⟩ := T.h__law_name_pairs
  exact calF_of (ps := ["_law_feed_here", "_law_words_here"]) F sc__law_name_pairs (fun kV doc pm an cdv ct us h => match us, h with | [_, _], _ => rfl) (fun cdv A outer s H E hr => wk__law_name_pairs T.bs (c__law_draw T) hr) (fun ds h => by
    have h' := h
    unfold Pre_name_pairs at h'
    repeat (obtain ⟨_, h'⟩ := h')
    subst_vars
    rfl) run__law_name_pairs
theorem c__law_node_pairs (T : Tops w K mg wa d1 d2 d3 d4 d5 l1) : Cal P w K mg base 2 "_law_node_pairs" (SpF K Pre_node_pairs Post_node_pairs) := by
  obtain ⟨f, fd, F⟩ := T.h__law_node_pairs
  exact calF_of (ps := ["_law_feed_here", "_law_grove"]) F sc__law_node_pairs (fun kV doc pm an cdv ct us h => match us, h with | [_, _], _ => rfl) (fun cdv A outer s H E hr => wk__law_node_pairs T.bs (c__law_draw T) hr) (fun ds h => by
    have h' := h
    unfold Pre_node_pairs at h'
    repeat (obtain ⟨_, h'⟩ := h')
    subst_vars
    rfl) run__law_node_pairs
theorem c__law_due (T : Tops w K mg wa d1 d2 d3 d4 d5 l1) : Cal P w K mg base 1 "_law_due" (SpD K P__law_due) := by
  obtain ⟨f, fd, F⟩ := T.h__law_due
  exact cal_of (n := 0) (ps := ["_law_grove", "_law_called", "_law_numbers"]) F sc__law_due (fun kV doc pm an cdv ct us h => match us, h with | [_, _, _], _ => rfl) (fun cdv A outer s H E hr => wk__law_due T.bs  hr) (fun ds d h => by
    have h' := h
    revert h'
    intro h'
    repeat (obtain ⟨_, h'⟩ := h')
    subst_vars
    rfl) run__law_due
theorem c__law_back (T : Tops w K mg wa d1 d2 d3 d4 d5 l1) : Cal P w K mg base 1 "_law_back" (SpD K P__law_back) := by
  obtain ⟨f, fd, F⟩ := T.h__law_back
  exact cal_of (n := 0) (ps := ["_law_pairs"]) F sc__law_back (fun kV doc pm an cdv ct us h => match us, h with | [_], _ => rfl) (fun cdv A outer s H E hr => wk__law_back T.bs  hr) (fun ds d h => by rcases h with ⟨np, _, rfl, _⟩ | ⟨ip, _, rfl, _⟩ <;> rfl) run__law_back
theorem c__law_feed (T : Tops w K mg wa d1 d2 d3 d4 d5 l1) : Cal P w K mg base 1 "_law_feed" (SpFeed K) := by
  obtain ⟨f, fd, F⟩ := T.h__law_feed
  exact ⟨f, fd, ["_law_script"], F.fn.ok sc__law_feed (fun vs H Q E h => by
    obtain ⟨a, ns, rfl, _⟩ := h
    rfl) (fun cdv A outer s H vs Q E hr h => ⟨t__law_feed K, (wk__law_feed T.bs hr).nox, run__law_feed h⟩), F.mg, F.fn.kp, F.fn.bindsN (fun kV doc pm an cdv ct us h => match us, h with | [_], _ => rfl)⟩
theorem c__law_right (T : Tops w K mg wa d1 d2 d3 d4 d5 l1) : CalG P w K mg base 9 "_law_right" (SpD K P__law_right) := by
  obtain ⟨f, fd, F⟩ := T.h__law_right
  exact ⟨f, fd, ["_law_grove", "_law_deeds", "_law_words", "_law_numbers"], FnG.of F.fn sc__law_right (SpD.len (n := 4) fun ds d h => by
    obtain ⟨_, _, _, _, _, _, _, _, _, _, _, rfl, _⟩ := h
    rfl) (fun cdv A outer s H vs Q E hr hg h => ⟨t__law_right K d1 d2 d3 d4 d5, wk__law_right T.bs d1 d2 d3 d4 d5 hg (ck_renamed1 T) (ck_deed1 T) (c_done T) (c_is_tree T) (ck_renamed0 T) (ck_told2 T) (c__law_due T) (ck_deed0 T) (ck_told1 T) (c__law_back T) (c_renamed_told T) hr, spd_run (run__law_right d1 d2 d3 d4 d5 T.n_d4 T.n_d5) h⟩), F.mg, F.fn.kp, F.fn.bindsN (fun kV doc pm an cdv ct us h => match us, h with | [_, _, _, _], _ => rfl)⟩
end
end Dw
set_option Elab.async false
set_option linter.all false
set_option maxRecDepth 100000
set_option maxHeartbeats 1000000
/-! What the top has left, asked by name; the law's end. -/
namespace Dw
open PySem PySem.Spec PyProof.Rows L2
/-- a keyword default that is an object -/
def kwAt (f x : Str) (K : PySem.W.Frag) : Addr := match K.lookup (He.fAd K (f, none)) with
  | some ⟨_, _, .func fd, _⟩ => (match fd.kwdefaults with
    | .ref D => (match PySem.W.nsIn K D x with
      | some (some (.ref a)) => a
      | _ => 0)
    | _ => 0)
  | _ => 0
/-- an empty tuple of the written part -/
def nilT (K : PySem.W.Frag) (a : Addr) : Bool := match K.lookup a with
  | some ⟨.type c, none, .seq its _, _⟩ => decide (c = "tuple") && its.isEmpty
  | _ => false
theorem nilT_ok {K : PySem.W.Frag} {a : Addr} (h : nilT K a = true) (H : Hp) : R K H (.ref a) (.tuple []) := by
  unfold nilT at h
  split at h
  · next c its n sl q =>
    rw [Bool.and_eq_true] at h
    have hs : its = #[] := Array.isEmpty_iff.mp h.2
    subst hs
    exact .tup (.inr ⟨_, _, n, q, congrArg Value.type (of_decide_eq_true h.1), rfl, rfl, Nat.zero_le _, .nil⟩) .nil
  · cases h
def d_way_renamed : He.DefD := ⟨("way_renamed", none), "way_renamed", "way_renamed", defArgs s_way_renamed, defBody s_way_renamed, defScope s_way_renamed, [], []⟩
def d_renamed : He.DefD := ⟨("renamed", none), "renamed", "renamed", defArgs s_renamed, defBody s_renamed, defScope s_renamed, [], [("names", .adr (kwAt "renamed" "names")), ("nodes", .adr (kwAt "renamed" "nodes"))]⟩
def d_renamed_deed : He.DefD := ⟨("renamed_deed", none), "renamed_deed", "renamed_deed", defArgs s_renamed_deed, defBody s_renamed_deed, defScope s_renamed_deed, [], [("names", .adr (kwAt "renamed_deed" "names"))]⟩
def d_renamed_told : He.DefD := ⟨("renamed_told", none), "renamed_told", "renamed_told", defArgs s_renamed_told, defBody s_renamed_told, defScope s_renamed_told, [], [("names", .adr (kwAt "renamed_told" "names")), ("nodes", .adr (kwAt "renamed_told" "nodes"))]⟩
def d_is_number : He.DefD := ⟨("is_number", none), "is_number", "is_number", defArgs s_is_number, defBody s_is_number, defScope s_is_number, [], []⟩
def d_is_name : He.DefD := ⟨("is_name", none), "is_name", "is_name", defArgs s_is_name, defBody s_is_name, defScope s_is_name, [], []⟩
def d_is_entry : He.DefD := ⟨("is_entry", none), "is_entry", "is_entry", defArgs s_is_entry, defBody s_is_entry, defScope s_is_entry, [], []⟩
def d_are_entries : He.DefD := ⟨("are_entries", none), "are_entries", "are_entries", defArgs s_are_entries, defBody s_are_entries, defScope s_are_entries, [], []⟩
def d_is_row : He.DefD := ⟨("is_row", none), "is_row", "is_row", defArgs s_is_row, defBody s_is_row, defScope s_is_row, [], []⟩
def d_holders : He.DefD := ⟨("holders", none), "holders", "holders", defArgs s_holders, defBody s_holders, defScope s_holders, [], []⟩
def d_comes_up : He.DefD := ⟨("comes_up", none), "comes_up", "comes_up", defArgs s_comes_up, defBody s_comes_up, defScope s_comes_up, [], []⟩
def d_is_held : He.DefD := ⟨("is_held", none), "is_held", "is_held", defArgs s_is_held, defBody s_is_held, defScope s_is_held, [], []⟩
def d_is_tree : He.DefD := ⟨("is_tree", none), "is_tree", "is_tree", defArgs s_is_tree, defBody s_is_tree, defScope s_is_tree, [], []⟩
def d_row_of : He.DefD := ⟨("row_of", none), "row_of", "row_of", defArgs s_row_of, defBody s_row_of, defScope s_row_of, [], []⟩
def d_kind_of : He.DefD := ⟨("kind_of", none), "kind_of", "kind_of", defArgs s_kind_of, defBody s_kind_of, defScope s_kind_of, [], []⟩
def d_entries_of : He.DefD := ⟨("entries_of", none), "entries_of", "entries_of", defArgs s_entries_of, defBody s_entries_of, defScope s_entries_of, [], []⟩
def d_way_through : He.DefD := ⟨("way_through", none), "way_through", "way_through", defArgs s_way_through, defBody s_way_through, defScope s_way_through, [], [("top", .int 0)]⟩
def d_above : He.DefD := ⟨("above", none), "above", "above", defArgs s_above, defBody s_above, defScope s_above, [], []⟩
def d_laid : He.DefD := ⟨("laid", none), "laid", "laid", defArgs s_laid, defBody s_laid, defScope s_laid, [], [("rows", .adr (kwAt "laid" "rows")), ("made", .non)]⟩
def d_drawer_of : He.DefD := ⟨("drawer_of", none), "drawer_of", "drawer_of", defArgs s_drawer_of, defBody s_drawer_of, defScope s_drawer_of, [], []⟩
def d_entry : He.DefD := ⟨("entry", none), "entry", "entry", defArgs s_entry, defBody s_entry, defScope s_entry, [], []⟩
def d_is_full : He.DefD := ⟨("is_full", none), "is_full", "is_full", defArgs s_is_full, defBody s_is_full, defScope s_is_full, [], []⟩
def d_is_inside : He.DefD := ⟨("is_inside", none), "is_inside", "is_inside", defArgs s_is_inside, defBody s_is_inside, defScope s_is_inside, [], []⟩
def d_do_look : He.DefD := ⟨("do_look", none), "do_look", "do_look", defArgs s_do_look, defBody s_do_look, defScope s_do_look, [], []⟩
def d_do_list : He.DefD := ⟨("do_list", none), "do_list", "do_list", defArgs s_do_list, defBody s_do_list, defScope s_do_list, [], []⟩
def d_do_make : He.DefD := ⟨("do_make", none), "do_make", "do_make", defArgs s_do_make, defBody s_do_make, defScope s_do_make, [], []⟩
def d_do_drop : He.DefD := ⟨("do_drop", none), "do_drop", "do_drop", defArgs s_do_drop, defBody s_do_drop, defScope s_do_drop, [], []⟩
def d_both_of : He.DefD := ⟨("both_of", none), "both_of", "both_of", defArgs s_both_of, defBody s_both_of, defScope s_both_of, [], []⟩
def d_do_link : He.DefD := ⟨("do_link", none), "do_link", "do_link", defArgs s_do_link, defBody s_do_link, defScope s_do_link, [], []⟩
def d_barred : He.DefD := ⟨("barred", none), "barred", "barred", defArgs s_barred, defBody s_barred, defScope s_barred, [], []⟩
def d_do_move : He.DefD := ⟨("do_move", none), "do_move", "do_move", defArgs s_do_move, defBody s_do_move, defScope s_do_move, [], []⟩
def d_do_swap : He.DefD := ⟨("do_swap", none), "do_swap", "do_swap", defArgs s_do_swap, defBody s_do_swap, defScope s_do_swap, [], []⟩
def d_done : He.DefD := ⟨("done", none), "done", "done", defArgs s_done, defBody s_done, defScope s_done, [], []⟩
def d__law_draw : He.DefD := ⟨("_law_draw", none), "_law_draw", "_law_draw", defArgs s__law_draw, defBody s__law_draw, defScope s__law_draw, [], []⟩
def d__law_names : He.DefD := ⟨("_law_names", none), "_law_names", "_law_names", defArgs s__law_names, defBody s__law_names, defScope s__law_names, [], []⟩
def d__law_tree : He.DefD := ⟨("_law_tree", none), "_law_tree", "_law_tree", defArgs s__law_tree, defBody s__law_tree, defScope s__law_tree, [], []⟩
def d__law_way : He.DefD := ⟨("_law_way", none), "_law_way", "_law_way", defArgs s__law_way, defBody s__law_way, defScope s__law_way, [], []⟩
def d__law_deed : He.DefD := ⟨("_law_deed", none), "_law_deed", "_law_deed", defArgs s__law_deed, defBody s__law_deed, defScope s__law_deed, [], []⟩
def d__law_name_pairs : He.DefD := ⟨("_law_name_pairs", none), "_law_name_pairs", "_law_name_pairs", defArgs s__law_name_pairs, defBody s__law_name_pairs, defScope s__law_name_pairs, [], []⟩
def d__law_node_pairs : He.DefD := ⟨("_law_node_pairs", none), "_law_node_pairs", "_law_node_pairs", defArgs s__law_node_pairs, defBody s__law_node_pairs, defScope s__law_node_pairs, [], []⟩
def d__law_due : He.DefD := ⟨("_law_due", none), "_law_due", "_law_due", defArgs s__law_due, defBody s__law_due, defScope s__law_due, [], []⟩
def d__law_back : He.DefD := ⟨("_law_back", none), "_law_back", "_law_back", defArgs s__law_back, defBody s__law_back, defScope s__law_back, [], []⟩
def d__law_feed : He.DefD := ⟨("_law_feed", none), "_law_feed", "_law_feed", defArgs s__law_feed, defBody s__law_feed, defScope s__law_feed, [], []⟩
def d__law_right : He.DefD := ⟨("_law_right", none), "_law_right", "_law_right", defArgs s__law_right, defBody s__law_right, defScope s__law_right, [], []⟩
def d_law : He.DefD := ⟨("law", none), "law", "law", defArgs s_law, defBody s_law, defScope s_law, [], []⟩
def fn1 : List He.DefD := [d_way_renamed, d_renamed, d_renamed_deed, d_renamed_told, d_is_number, d_is_name, d_is_entry, d_are_entries, d_is_row, d_holders, d_comes_up, d_is_held, d_is_tree, d_row_of, d_kind_of, d_entries_of, d_way_through, d_above, d_laid, d_drawer_of, d_entry, d_is_full, d_is_inside]
def fn2 : List He.DefD := [d_do_look, d_do_list, d_do_make, d_do_drop, d_both_of, d_do_link, d_barred, d_do_move, d_do_swap, d_done, d__law_draw, d__law_names, d__law_tree, d__law_way, d__law_deed, d__law_name_pairs, d__law_node_pairs, d__law_due, d__law_back, d__law_feed, d__law_right, d_law]
def fn : List He.DefD := fn1 ++ fn2
def fa1 : List He.Fa := [.glo "way_renamed", .glo "renamed", .glo "renamed_deed", .glo "renamed_told", .glo "is_number", .glo "is_name", .glo "is_entry", .glo "are_entries", .glo "is_row", .glo "holders", .glo "comes_up", .glo "is_held", .glo "is_tree", .glo "row_of", .glo "kind_of", .glo "entries_of", .glo "way_through", .glo "above", .glo "laid", .glo "drawer_of", .glo "entry", .glo "is_full", .glo "is_inside"]
def fa2 : List He.Fa := [.glo "do_look", .glo "do_list", .glo "do_make", .glo "do_drop", .glo "both_of", .glo "do_link", .glo "barred", .glo "do_move", .glo "do_swap", .glo "done", .glo "_law_draw", .glo "_law_names", .glo "_law_tree", .glo "_law_way", .glo "_law_deed", .glo "_law_name_pairs", .glo "_law_node_pairs", .glo "_law_due", .glo "_law_back", .glo "_law_feed", .glo "_law_right", .glo "law"]
def fa3 : List He.Fa := [.glo "WORDS", .int "TOP" 0, .int "MOST_LETTERS" 8, .str "LETTERS" letters, .free "dict", .free "sorted", .free "tuple", .free "isinstance", .free "int", .free "bool", .free "str", .free "len", .free "all", .free "zip", .free "enumerate", .free "range", .free "list", .free "max", .free "repr"]
def fa : List He.Fa := fa1 ++ (fa2 ++ fa3)
def wordsV : List (Str × He.Dv) := [("look", .glo "do_look"), ("list", .glo "do_list"), ("make", .glo "do_make"), ("drop", .glo "do_drop"), ("link", .glo "do_link"), ("move", .glo "do_move"), ("swap", .glo "do_swap")]
def ex (K : PySem.W.Frag) : Bool := (nilT K (kwAt "renamed" "names" K) && (nilT K (kwAt "renamed" "nodes" K) && (nilT K (kwAt "renamed_deed" "names" K) && (nilT K (kwAt "renamed_told" "names" K) && (nilT K (kwAt "renamed_told" "nodes" K) && (nilT K (kwAt "laid" "rows" K) && He.valsB K (He.ga K "WORDS") wordsV))))))
def ts : List He.Tab := [(fun K => He.ga K "WORDS", ["look", "list", "make", "drop", "link", "move", "swap"])]
section
variable {w : World} {K : PySem.W.Frag} {h : Heap} {mg : Str → Option Value}
theorem has_of {d : He.DefD} {st : Stmt} {kws : List (Str × V)} (X : K.In h) (G : h.Ns mainGlobals mg) (c : He.SaysT fa fn ts w K) (i j : Nat) (hd : fn[i]? = some d) (hf : fa[j]? = some (.glo d.name)) (ha : d.at_ = (d.name, none)) (e : d.qual = d.name ∧ d.params = defArgs st ∧ d.body = defBody st ∧ d.scope = defScope st ∧ d.kws K = kws ∧ d.dvs K = []) : ∃ f fd, Has K mg d.name st kws f fd ∧ f = He.ga K d.name := by
  obtain ⟨fd, F⟩ := c.d.def_ i hd
  have g := He.glo_ok X G (c.d.fact j hf)
  obtain ⟨e1, e2, e3, e4, e5, e6⟩ := e
  rw [e1, e2, e3, e4, e5, e6, ha] at F
  exact ⟨_, fd, ⟨F, g⟩, rfl⟩
theorem tops_of (X : K.In h) (G : h.Ns mainGlobals mg) (c : He.SaysT fa fn ts w K) (e : ex K = true) : Tops w K mg (He.ga K "WORDS") (.ref (kwAt "renamed" "names" K)) (.ref (kwAt "renamed" "nodes" K)) (.ref (kwAt "renamed_deed" "names" K)) (.ref (kwAt "renamed_told" "names" K)) (.ref (kwAt "renamed_told" "nodes" K)) (.ref (kwAt "laid" "rows" K)) := by
  have ex' : ((nilT K (kwAt "renamed" "names" K) && (nilT K (kwAt "renamed" "nodes" K) && (nilT K (kwAt "renamed_deed" "names" K) && (nilT K (kwAt "renamed_told" "names" K) && (nilT K (kwAt "renamed_told" "nodes" K) && (nilT K (kwAt "laid" "rows" K) && He.valsB K (He.ga K "WORDS") wordsV))))))) = true := e
  simp only [Bool.and_eq_true] at ex'
  obtain ⟨e0, e1, e2, e3, e4, e5, ew⟩ := ex'
  obtain ⟨es, n, kd⟩ := c.tab 0 (t := (fun K => He.ga K "WORDS", ["look", "list", "make", "drop", "link", "move", "swap"])) rfl
  have B : Bs mg := ⟨He.free_ok X G (c.d.fact 49 (f := .free "dict") rfl), He.free_ok X G (c.d.fact 50 (f := .free "sorted") rfl), He.free_ok X G (c.d.fact 51 (f := .free "tuple") rfl), He.free_ok X G (c.d.fact 52 (f := .free "isinstance") rfl), He.free_ok X G (c.d.fact 53 (f := .free "int") rfl), He.free_ok X G (c.d.fact 54 (f := .free "bool") rfl), He.free_ok X G (c.d.fact 55 (f := .free "str") rfl), He.free_ok X G (c.d.fact 56 (f := .free "len") rfl), He.free_ok X G (c.d.fact 57 (f := .free "all") rfl), He.free_ok X G (c.d.fact 58 (f := .free "zip") rfl), He.free_ok X G (c.d.fact 59 (f := .free "enumerate") rfl), He.free_ok X G (c.d.fact 60 (f := .free "range") rfl), He.free_ok X G (c.d.fact 61 (f := .free "list") rfl), He.free_ok X G (c.d.fact 62 (f := .free "max") rfl), He.free_ok X G (c.d.fact 63 (f := .free "repr") rfl), He.int_ok X G (c.d.fact 46 (f := .int "TOP" 0) rfl), He.int_ok X G (c.d.fact 47 (f := .int "MOST_LETTERS" 8) rfl), He.str_ok X G (c.d.fact 48 (f := .str "LETTERS" letters) rfl)⟩
  have hw := He.glo_ok X G (c.d.fact 45 (f := .glo "WORDS") rfl)
  have kdct : ∀ (x : Str) (y : Str), (x, He.Dv.glo y) ∈ wordsV → KDct K w (He.ga K "WORDS") x (.ref (He.ga K y)) := fun x y hm => by
    obtain ⟨u, h1, h2⟩ := He.valsB_ok ew hm
    exact ⟨es, n, u, kd.at_, kd.lit, h1, h2⟩
  have has : ∀ (i : Nat) (d : He.DefD) (st : Stmt) (kws : List (Str × V)), fn[i]? = some d → fa[i]? = some (.glo d.name) → d.at_ = (d.name, none) → (d.qual = d.name ∧ d.params = defArgs st ∧ d.body = defBody st ∧ d.scope = defScope st ∧ d.kws K = kws ∧ d.dvs K = []) → ∃ f fd, Has K mg d.name st kws f fd ∧ f = He.ga K d.name := fun i d st kws a1 a2 a3 a4 => has_of X G c i i a1 a2 a3 a4
  refine ⟨B, ⟨_, hw, rfl⟩, nilT_ok e0, nilT_ok e1, nilT_ok e2, nilT_ok e3, nilT_ok e4, nilT_ok e5, ?_, ?_, ?_, ?_, ?_, ?_, ?_, ?_, ?_, ?_, ?_, ?_, ?_, ?_, ?_, ?_, ?_, ?_, ?_, ?_, ?_, ?_, ?_, ?_, ?_, ?_, ?_, ?_, ?_, ?_, ?_, ?_, ?_, ?_, ?_, ?_, ?_, ?_, ?_, ?_, ?_, ?_, ?_, ?_⟩
  · obtain ⟨f, fd, F, ef⟩ := has 0 d_way_renamed s_way_renamed [] rfl rfl rfl ⟨rfl, rfl, rfl, rfl, rfl, rfl⟩
    exact ⟨f, fd, F⟩
  · obtain ⟨f, fd, F, ef⟩ := has 1 d_renamed s_renamed [("names", .ref (kwAt "renamed" "names" K)), ("nodes", .ref (kwAt "renamed" "nodes" K))] rfl rfl rfl ⟨rfl, rfl, rfl, rfl, rfl, rfl⟩
    exact ⟨f, fd, F⟩
  · obtain ⟨f, fd, F, ef⟩ := has 2 d_renamed_deed s_renamed_deed [("names", .ref (kwAt "renamed_deed" "names" K))] rfl rfl rfl ⟨rfl, rfl, rfl, rfl, rfl, rfl⟩
    exact ⟨f, fd, F⟩
  · obtain ⟨f, fd, F, ef⟩ := has 3 d_renamed_told s_renamed_told [("names", .ref (kwAt "renamed_told" "names" K)), ("nodes", .ref (kwAt "renamed_told" "nodes" K))] rfl rfl rfl ⟨rfl, rfl, rfl, rfl, rfl, rfl⟩
    exact ⟨f, fd, F⟩
  · obtain ⟨f, fd, F, ef⟩ := has 4 d_is_number s_is_number [] rfl rfl rfl ⟨rfl, rfl, rfl, rfl, rfl, rfl⟩
    exact ⟨f, fd, F⟩
  · obtain ⟨f, fd, F, ef⟩ := has 5 d_is_name s_is_name [] rfl rfl rfl ⟨rfl, rfl, rfl, rfl, rfl, rfl⟩
    exact ⟨f, fd, F⟩
  · obtain ⟨f, fd, F, ef⟩ := has 6 d_is_entry s_is_entry [] rfl rfl rfl ⟨rfl, rfl, rfl, rfl, rfl, rfl⟩
    exact ⟨f, fd, F⟩
  · obtain ⟨f, fd, F, ef⟩ := has 7 d_are_entries s_are_entries [] rfl rfl rfl ⟨rfl, rfl, rfl, rfl, rfl, rfl⟩
    exact ⟨f, fd, F⟩
  · obtain ⟨f, fd, F, ef⟩ := has 8 d_is_row s_is_row [] rfl rfl rfl ⟨rfl, rfl, rfl, rfl, rfl, rfl⟩
    exact ⟨f, fd, F⟩
  · obtain ⟨f, fd, F, ef⟩ := has 9 d_holders s_holders [] rfl rfl rfl ⟨rfl, rfl, rfl, rfl, rfl, rfl⟩
    exact ⟨f, fd, F⟩
  · obtain ⟨f, fd, F, ef⟩ := has 10 d_comes_up s_comes_up [] rfl rfl rfl ⟨rfl, rfl, rfl, rfl, rfl, rfl⟩
    exact ⟨f, fd, F⟩
  · obtain ⟨f, fd, F, ef⟩ := has 11 d_is_held s_is_held [] rfl rfl rfl ⟨rfl, rfl, rfl, rfl, rfl, rfl⟩
    exact ⟨f, fd, F⟩
  · obtain ⟨f, fd, F, ef⟩ := has 12 d_is_tree s_is_tree [] rfl rfl rfl ⟨rfl, rfl, rfl, rfl, rfl, rfl⟩
    exact ⟨f, fd, F⟩
  · obtain ⟨f, fd, F, ef⟩ := has 13 d_row_of s_row_of [] rfl rfl rfl ⟨rfl, rfl, rfl, rfl, rfl, rfl⟩
    exact ⟨f, fd, F⟩
  · obtain ⟨f, fd, F, ef⟩ := has 14 d_kind_of s_kind_of [] rfl rfl rfl ⟨rfl, rfl, rfl, rfl, rfl, rfl⟩
    exact ⟨f, fd, F⟩
  · obtain ⟨f, fd, F, ef⟩ := has 15 d_entries_of s_entries_of [] rfl rfl rfl ⟨rfl, rfl, rfl, rfl, rfl, rfl⟩
    exact ⟨f, fd, F⟩
  · obtain ⟨f, fd, F, ef⟩ := has 16 d_way_through s_way_through [("top", .int 0)] rfl rfl rfl ⟨rfl, rfl, rfl, rfl, rfl, rfl⟩
    exact ⟨f, fd, F⟩
  · obtain ⟨f, fd, F, ef⟩ := has 17 d_above s_above [] rfl rfl rfl ⟨rfl, rfl, rfl, rfl, rfl, rfl⟩
    exact ⟨f, fd, F⟩
  · obtain ⟨f, fd, F, ef⟩ := has 18 d_laid s_laid [("rows", .ref (kwAt "laid" "rows" K)), ("made", .non)] rfl rfl rfl ⟨rfl, rfl, rfl, rfl, rfl, rfl⟩
    exact ⟨f, fd, F⟩
  · obtain ⟨f, fd, F, ef⟩ := has 19 d_drawer_of s_drawer_of [] rfl rfl rfl ⟨rfl, rfl, rfl, rfl, rfl, rfl⟩
    exact ⟨f, fd, F⟩
  · obtain ⟨f, fd, F, ef⟩ := has 20 d_entry s_entry [] rfl rfl rfl ⟨rfl, rfl, rfl, rfl, rfl, rfl⟩
    exact ⟨f, fd, F⟩
  · obtain ⟨f, fd, F, ef⟩ := has 21 d_is_full s_is_full [] rfl rfl rfl ⟨rfl, rfl, rfl, rfl, rfl, rfl⟩
    exact ⟨f, fd, F⟩
  · obtain ⟨f, fd, F, ef⟩ := has 22 d_is_inside s_is_inside [] rfl rfl rfl ⟨rfl, rfl, rfl, rfl, rfl, rfl⟩
    exact ⟨f, fd, F⟩
  · obtain ⟨f, fd, F, ef⟩ := has 23 d_do_look s_do_look [] rfl rfl rfl ⟨rfl, rfl, rfl, rfl, rfl, rfl⟩
    exact ⟨f, fd, F, by rw [ef]; exact kdct "look" "do_look" (by simp [wordsV])⟩
  · obtain ⟨f, fd, F, ef⟩ := has 24 d_do_list s_do_list [] rfl rfl rfl ⟨rfl, rfl, rfl, rfl, rfl, rfl⟩
    exact ⟨f, fd, F, by rw [ef]; exact kdct "list" "do_list" (by simp [wordsV])⟩
  · obtain ⟨f, fd, F, ef⟩ := has 25 d_do_make s_do_make [] rfl rfl rfl ⟨rfl, rfl, rfl, rfl, rfl, rfl⟩
    exact ⟨f, fd, F, by rw [ef]; exact kdct "make" "do_make" (by simp [wordsV])⟩
  · obtain ⟨f, fd, F, ef⟩ := has 26 d_do_drop s_do_drop [] rfl rfl rfl ⟨rfl, rfl, rfl, rfl, rfl, rfl⟩
    exact ⟨f, fd, F, by rw [ef]; exact kdct "drop" "do_drop" (by simp [wordsV])⟩
  · obtain ⟨f, fd, F, ef⟩ := has 27 d_both_of s_both_of [] rfl rfl rfl ⟨rfl, rfl, rfl, rfl, rfl, rfl⟩
    exact ⟨f, fd, F⟩
  · obtain ⟨f, fd, F, ef⟩ := has 28 d_do_link s_do_link [] rfl rfl rfl ⟨rfl, rfl, rfl, rfl, rfl, rfl⟩
    exact ⟨f, fd, F, by rw [ef]; exact kdct "link" "do_link" (by simp [wordsV])⟩
  · obtain ⟨f, fd, F, ef⟩ := has 29 d_barred s_barred [] rfl rfl rfl ⟨rfl, rfl, rfl, rfl, rfl, rfl⟩
    exact ⟨f, fd, F⟩
  · obtain ⟨f, fd, F, ef⟩ := has 30 d_do_move s_do_move [] rfl rfl rfl ⟨rfl, rfl, rfl, rfl, rfl, rfl⟩
    exact ⟨f, fd, F, by rw [ef]; exact kdct "move" "do_move" (by simp [wordsV])⟩
  · obtain ⟨f, fd, F, ef⟩ := has 31 d_do_swap s_do_swap [] rfl rfl rfl ⟨rfl, rfl, rfl, rfl, rfl, rfl⟩
    exact ⟨f, fd, F, by rw [ef]; exact kdct "swap" "do_swap" (by simp [wordsV])⟩
  · obtain ⟨f, fd, F, ef⟩ := has 32 d_done s_done [] rfl rfl rfl ⟨rfl, rfl, rfl, rfl, rfl, rfl⟩
    exact ⟨f, fd, F⟩
  · obtain ⟨f, fd, F, ef⟩ := has 33 d__law_draw s__law_draw [] rfl rfl rfl ⟨rfl, rfl, rfl, rfl, rfl, rfl⟩
    exact ⟨f, fd, F⟩
  · obtain ⟨f, fd, F, ef⟩ := has 34 d__law_names s__law_names [] rfl rfl rfl ⟨rfl, rfl, rfl, rfl, rfl, rfl⟩
    exact ⟨f, fd, F⟩
  · obtain ⟨f, fd, F, ef⟩ := has 35 d__law_tree s__law_tree [] rfl rfl rfl ⟨rfl, rfl, rfl, rfl, rfl, rfl⟩
    exact ⟨f, fd, F⟩
  · obtain ⟨f, fd, F, ef⟩ := has 36 d__law_way s__law_way [] rfl rfl rfl ⟨rfl, rfl, rfl, rfl, rfl, rfl⟩
    exact ⟨f, fd, F⟩
  · obtain ⟨f, fd, F, ef⟩ := has 37 d__law_deed s__law_deed [] rfl rfl rfl ⟨rfl, rfl, rfl, rfl, rfl, rfl⟩
    exact ⟨f, fd, F⟩
  · obtain ⟨f, fd, F, ef⟩ := has 38 d__law_name_pairs s__law_name_pairs [] rfl rfl rfl ⟨rfl, rfl, rfl, rfl, rfl, rfl⟩
    exact ⟨f, fd, F⟩
  · obtain ⟨f, fd, F, ef⟩ := has 39 d__law_node_pairs s__law_node_pairs [] rfl rfl rfl ⟨rfl, rfl, rfl, rfl, rfl, rfl⟩
    exact ⟨f, fd, F⟩
  · obtain ⟨f, fd, F, ef⟩ := has 40 d__law_due s__law_due [] rfl rfl rfl ⟨rfl, rfl, rfl, rfl, rfl, rfl⟩
    exact ⟨f, fd, F⟩
  · obtain ⟨f, fd, F, ef⟩ := has 41 d__law_back s__law_back [] rfl rfl rfl ⟨rfl, rfl, rfl, rfl, rfl, rfl⟩
    exact ⟨f, fd, F⟩
  · obtain ⟨f, fd, F, ef⟩ := has 42 d__law_feed s__law_feed [] rfl rfl rfl ⟨rfl, rfl, rfl, rfl, rfl, rfl⟩
    exact ⟨f, fd, F⟩
  · obtain ⟨f, fd, F, ef⟩ := has 43 d__law_right s__law_right [] rfl rfl rfl ⟨rfl, rfl, rfl, rfl, rfl, rfl⟩
    exact ⟨f, fd, F⟩
end
end Dw
set_option Elab.async false
set_option linter.all false
set_option maxRecDepth 100000
set_option maxHeartbeats 1000000
/-! The law keeps its promise; the end of a law whose def asks that nothing is being shown. -/
namespace Dw
open PySem PySem.Spec PyProof.Rows L2
section
variable {P : Program} {w : World} {K : PySem.W.Frag} {mg mb : Str → Option Value} {base : Heap} {wa : Addr} {d1 d2 d3 d4 d5 l1 : V} {f fa : Addr} {fd : FuncData}
theorem ok_law (T : Tops w K mg wa d1 d2 d3 d4 d5 l1) (F : Has K mg "law" s_law [] f fd) : FnG P w K mg base 10 f fd ["_law_script"] (spLaw K) :=
  FnG.of F.fn sc_law (fun vs H Q E h => by
    obtain ⟨a, ns, rfl, _⟩ := h
    rfl) fun cdv A outer s H vs Q E hr hg h => ⟨t_law K d1 d2 d3 d4 d5, wk_law T.bs d1 d2 d3 d4 d5 hg (c__law_feed T) (c__law_names T) (c__law_tree T) (c__law_draw T) (c__law_deed T) (c__law_name_pairs T) (c__law_node_pairs T) (c_renamed T) (ck_renamedN T) (ck_renamedI T) (c_renamed_deed T) (c__law_right T) hr, run_law d1 d2 d3 d4 d5 T.n_d1 T.n_d2 T.n_d3 h⟩
/-- from the facts to the law's promise -/
theorem law_of {h : Heap} (X : K.In h) (G : h.Ns mainGlobals mg) (hfa : mg "law" = some (.ref fa)) (c : He.obsT Dw.fa Dw.fn Dw.ts K = He.valT Dw.fn Dw.ts w) (e : ex K = true) :
    ∃ fd : FuncData, (∀ (s : Shared) (u : Value), BindsTo s fd ⟨[u], []⟩ [("_law_script", u)]) ∧ ∀ base : Heap, FnG P w K mg base 10 fa fd ["_law_script"] (spLaw K) := by
  have c : He.SaysT Dw.fa Dw.fn Dw.ts w K := c
  have T := tops_of X G c e
  obtain ⟨f, fd, F, _⟩ := has_of X G c 44 44 (d := d_law) (st := s_law) (kws := []) rfl (show Dw.fa[44]? = some (He.Fa.glo "law") from rfl) rfl ⟨rfl, rfl, rfl, rfl, rfl, rfl⟩
  have eq := hfa.symm.trans F.mg
  cases eq
  exact ⟨fd, fun s u => FunD.bindsA (ps := ["_law_script"]) F.fn (fun _ _ _ _ _ _ us hl => match us, hl with | [_], _ => rfl) s [u] rfl, fun base => ok_law T F⟩
/-- the call of the law's def over the heap behind the top -/
theorem law_callG {k : Nat} {a : Addr} {x : Str} {sp : Sp} {st : Shared} {vals : List Value} {ns : List Int} (inK : K.In st.heap) (glob : st.heap.Ns mainGlobals mg) (bns : st.heap.Ns builtinsNs mb) (boot : ∀ y : Str, y ≠ "__name__" → mb y = bootBuiltins y)
    (free : st.heap.NoLimit) (nogen : st.gens = #[]) (script : st.heap.get? a = some { cls := .type "list", data := .seq vals.toArray }) (whole : IntsAre vals ns) (short : ns.length ≤ sizeLine) (room : Room k callerA)
    (F : ∀ base : Heap, FnG P w K mg base k fa fd [x] sp) (bind : ∀ (s : Shared) (u : Value), BindsTo s fd ⟨[u], []⟩ [(x, u)]) (ask : ∀ G : Hp, SqL K G a (ns.map V.int) → sp [.ref a] G (fun v _ => v = .bl true) fun _ _ _ => False) :
    codeAny (model P w) callerA (.call (.ref fa) ⟨[.ref a], []⟩) (fun r s' => r = .ok (.ret (.bool true)) ∧ OldK st.heap s'.heap ∧ s'.os = st.os ∧ AllBare s'.gens) st := by
  have read := vals_ints whole
  have same := whole.length
  have main : ∀ G : Hp, Only G → SqL K G a (ns.map V.int) → HOk P w G st.heap → (∀ c, G c ≠ none → c = a) → (G a ≠ none → K.lookup a = none) → codeAny (model P w) callerA (.call (.ref fa) ⟨[.ref a], []⟩) (fun r s' => r = .ok (.ret (.bool true)) ∧ OldK st.heap s'.heap ∧ s'.os = st.os ∧ AllBare s'.gens) st := fun G only list ok just alone => by
    have onlyA : ∀ {c : Addr}, c ≠ a → G c = none := fun {c} n => by
      cases z : G c with
      | none => rfl
      | some u => exact absurd (just c (by rw [z]; exact fun y => nomatch y)) n
    have dictFree : ∀ {c : Addr} {u : Obj} {es : Array DictEntry} {m : Nat}, st.heap.get? c = some u → u.data = .dict es m → G c = none := fun {c u es m} e d => onlyA fun z => by
      rw [z, script] at e
      cases e
      exact nomatch (show Data.seq vals.toArray _ = Data.dict es m from d)
    have keepNs : ∀ {c : Addr} {m : Str → Option Value}, st.heap.Ns c m → (hidT st.heap G).Ns c m := fun {c m} ⟨u, es, n, e, d, q⟩ => ⟨u, es, n, hidT_get e (dictFree e d), d, q⟩
    have keepK : K.In (hidT st.heap G) := fun c u e => hidT_get (inK c u e) (by
      by_cases z : c = a
      · cases y : G c with
        | none => rfl
        | some v => rw [z] at y e; rw [alone (by rw [y]; exact fun n => nomatch n)] at e; cases e
      · exact onlyA z)
    obtain ⟨ml, f1, f2⟩ := free
    have modul : Mod K mg (hidT st.heap G) := ⟨keepK, keepNs glob, ⟨mb, keepNs bns, boot⟩, ml, keepNs f1, f2⟩
    have env : Env0 P w K mg (hidT st.heap G) callerA [] st G := ⟨rfl, modul, fun c u e => of_hidT e, Nat.le_of_eq (hidT_size _ _), trivial, fun c hc => (by cases hc), ok, .of_eq nogen⟩
    refine codeAny_mono ((F _).run callerA [] st G ⟨[.ref a], []⟩ [.ref a] [.ref a] _ _ room rfl env (bind st (.ref a)) (.cons rfl .nil) (ask G list)) fun r s' out => ?_
    cases r with
    | error e => exact False.elim out
    | ok fl =>
      cases fl with
      | ret u =>
        obtain ⟨v, G', os, bare, un, ok', rel, val⟩ := out
        have val' : v = .bl true := val
        rw [val'] at rel
        have rel' : u = Value.bool true := rel
        refine ⟨by rw [rel'], OldK.of_keep fun c o e => ?_, os, bare⟩
        cases z : G c with
        | none => exact un.keep c o e z (fun m => by cases m) (by simp)
        | some t =>
          rcases only c with y | ⟨ob, xs, y⟩
          · rw [z] at y; cases y
          · have one := (ok c _ y).1
            have two := (ok' c _ (un.frzs c ob _ y)).1
            rw [e] at one
            rw [Option.some.inj one]; exact two
      | next => exact False.elim out
      | brk => exact False.elim out
      | cont => exact False.elim out
  cases inn : K.lookup a with
  | some o =>
    have e := inK a o inn
    rw [script] at e
    have e' := Option.some.inj e
    subst e'
    exact main (fun _ => none) (fun _ => .inl rfl) (.inr ⟨_, vals.toArray, _, inn, rfl, rfl, rfl, by rw [List.size_toArray, same]; exact short, by simpa using read⟩) (fun c u z => nomatch (show (none : Option HO) = some u from z)) (fun c z => absurd rfl z) fun z => absurd rfl z
  | none =>
    let ob : Obj := { cls := .type "list", data := .seq vals.toArray }
    have at_ : ∀ {c : Addr} {u : HO}, (if c = a then some (HO.frz ob (.lst (ns.map V.int))) else none) = some u → c = a ∧ u = .frz ob (.lst (ns.map V.int)) := fun {c u} z => by
      by_cases y : c = a
      · rw [if_pos y] at z; exact ⟨y, (Option.some.inj z).symm⟩
      · rw [if_neg y] at z; cases z
    refine main (fun c => if c = a then some (.frz ob (.lst (ns.map V.int))) else none) (fun c => ?_) (.inl (.inr ⟨ob, if_pos rfl⟩)) (fun c u z => ?_) (fun c z => ?_) fun _ => inn
    · by_cases y : c = a
      · exact .inr ⟨_, _, if_pos y⟩
      · exact .inl (if_neg y)
    · obtain ⟨rfl, rfl⟩ := at_ z
      exact ⟨script, by rw [List.length_map]; exact short, vals, _, read, script⟩
    · by_cases y : c = a
      · exact y
      · exact absurd (if_neg y) z
end
/-- the goal that the head leaves, from the law's promise -/
theorem walk_ofG {l : PySem.W.OpenLaw} {n k : Nat} {q : Program} {loose : List Str} {XP : (Str → Option Value) → Heap → Prop} {YP : World → Heap → Prop} {d : DefRec} {Kf : PySem.Params → PySem.W.Frag} {x : Str} {sp : PySem.W.Frag → Sp} (hn : l.most = some n) (hz : n ≤ sizeLine) (hd : d.params.defaults = []) (room : Room k callerA)
    (inn : ∀ (w : World) (h : Heap), YP w h → (Kf w.params).In h)
    (F : ∀ (w : World) (mg : Str → Option Value) (fa : Addr) (h : Heap), (Kf w.params).In h → h.Ns mainGlobals mg → mg d.name = some (.ref fa) → ∃ fd : FuncData, (∀ (s : Shared) (u : Value), BindsTo s fd ⟨[u], []⟩ [(x, u)]) ∧ ∀ base : Heap, FnG l.prog w (Kf w.params) mg base k fa fd [x] (sp (Kf w.params)))
    (ask : ∀ (K : PySem.W.Frag) (G : Hp) (a : Addr) (ns : List Int), ns.length ≤ n → SqL K G a (ns.map V.int) → sp K [.ref a] G (fun v _ => v = .bl true) fun _ _ _ => False) : PySem.W.WalkO q loose XP YP l.row.toRowW d [] (fun f vs => PySem.call f vs) :=
  Att.attach_call hn hd fun w _ st mg mb fa _ _ _ _ a vals ns G Y _ _ _ hmg script whole few nogen => by
    obtain ⟨fd, bind, hF⟩ := F w mg fa st.heap (inn w _ Y) G.T.g hmg
    exact law_callG (inn w _ Y) G.T.g G.T.b G.T.builtins G.T.nolimit nogen script whole (Nat.le_trans few hz) room hF bind fun H hS => ask _ H a ns few hS
end Dw
set_option Elab.async false
set_option linter.all false
set_option maxRecDepth 100000
open PySem PySem.W PyProof.Rows
set_option maxHeartbeats 0 in
theorem PySem.Challenge.cw_drawerways_k13_whole_renamed_holds : PySem.Challenge.rw_drawerways_k13_whole_renamed.Holds := by
  w_on; o_law; k_head; (case hw => w_witness2)
  k_fill
  refine Dw.walk_ofG (l := PySem.Challenge.rw_drawerways_k13_whole_renamed) (n := 63) (k := 10) (x := "_law_script") (sp := Dw.spLaw) rfl (by decide) rfl ⟨rfl, by decide, by decide⟩ (fun w h Y => PySem.W.kIn_of Y) ?F (fun K G a ns hl hS => ⟨a, ns, rfl, hS, hl, fun _ => rfl⟩)
  case F =>
    intro w mg fa h KX G hmg
    exact Dw.law_of KX G hmg (by kernel_rfl) (by kernel_rfl)
