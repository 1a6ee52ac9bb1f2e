import PyProof.Rows.All
import Wide.All
import OpenK.AllK
import Wide.FinOn
import HandS.ForMost
import HandS.Exc
import HandS.CallSlots
import HandS.Conv
import HandS.TupAny
import HandS.TupMul
import HandS.Wide
import HandS.Dict
import KE.KDictPairs
import HandS.TryOnly
import HandS.Deep
import HandS.IsInst
import HandS.Style
import HandS.WordsExc
import HandS.ExcOwn
import KE.IntBitsLaws
import HandS.ExcInit
import HandS.Nested
import HandS.ExcField
import KE.KExcSuper
import HandS.TupSets
import HandS.SortInts
import HandS.Evl
import KE.RegKSuper
import PySem.Challenge.RW_cogwright_k34_whole_powers
set_option Elab.async false
set_option linter.all false
set_option maxRecDepth 100000
set_option maxHeartbeats 4000000
/-! DL0: tuples of which it is known that they have no __dict__ (a new tuple is held with its object); dict(tuple of pairs). -/
namespace DL
open PySem L2 PySem.Spec PyProof.Rows
/-- a tuple without __dict__ -/
def NdT (K : PySem.W.Frag) (H : Hp) (a : Addr) : Prop := (∃ (o : Obj) (xs : List V), H a = some (.frz o (.tup xs)) ∧ o.dict = none) ∨ ∃ o : Obj, K.lookup a = some o ∧ o.dict = none
/-- a new tuple -/
def NewT (H : Hp) (xs : List V) (Q : VK) : Prop := ∀ (p : Addr) (o : Obj), o.dict = none → H p = none → Q (.ref p) (upd H p (.frz o (.tup xs)))
section
variable {X : Cx} {pins : List (Addr × Obj)} {σ : L2.St} {H : Hp} {s : Shared} {h' : Heap}
theorem laid_tup {its : List Value} {xs : List V} {tk : Nat} (I : Inv X pins σ H s) (r : Vals xs its) (hz : xs.length ≤ sizeLine) :
    Inv X pins σ (upd H s.heap.objs.size (.frz { cls := .type "tuple", data := .seq its.toArray } (.tup xs))) { s with heap := s.heap.push { cls := .type "tuple", data := .seq its.toArray }, toks := tk } :=
  I.laid (t' := tk) (fun b ob q => Heap.get?_push_of_some _ q) (Nat.le_refl _) ⟨Heap.get?_push_size _ rfl, hz, its, r, IsTup.new _ _⟩
theorem NewT.at {xs : List V} {Q : VK} (q : NewT H xs Q) (I : Inv X pins σ H s) (its : List Value) : Q (.ref s.heap.objs.size) (upd H s.heap.objs.size (.frz { cls := .type "tuple", data := .seq its.toArray } (.tup xs))) :=
  q _ _ rfl (I.hok.fresh (Nat.le_refl _))
end
/-! a display -/
def tTupF (t : TA) : TE := fun σ H Q => t σ H fun xs H1 => xs.length ≤ sizeLine ∧ NewT H1 xs Q
theorem pe_tupF {X : Cx} {es : List Expr} {t : TA} {x1 : Nat} {pos : Pos} (h : PA X es t) : PE X (.Tuple es x1 pos) (tTupF t) := by
  refine ⟨fun pins s σ H Q I hq => ?_⟩
  refine wpAny_Tuple_spliced (thn (h.run pos pins s σ H _ I hq) fun us s1 ⟨xs, H1, I1, r, z, q⟩ => ⟨by rw [← r.length]; exact z, ?_⟩)
  exact ⟨.ref s1.heap.objs.size, _, laid_tup (tk := s1.toks) I1 r z, rfl, q.at I1 us⟩
/-! tuple(xs) -/
theorem call_tupF {X : Cx} : CallR X (.type "tuple") (fun xs H Q => ∃ p ys, xs = [.ref p] ∧ ((SqL X.K H p ys ∧ NewT H ys Q) ∨ (SqT X.K H p ys ∧ Q (.ref p) H))) := by
  intro pins s σ H xs us Q I r h
  obtain ⟨p, ys, rfl, h⟩ := h
  obtain ⟨u, rfl, rx⟩ := vals1 r
  cases rx
  rcases h with ⟨hq, q⟩ | ⟨hq, q⟩
  · obtain ⟨its, r', pl, hz⟩ := I.list hq
    have hlen := r'.length
    refine call_tuple_list pl.isList (fun h' kp => ?_) (by simp only [List.size_toArray] <;> omega)
    have I1 : Inv X pins σ H { s with heap := h' } := I.kept (t' := s.toks) kp
    exact ⟨.ref h'.objs.size, _, laid_tup (tk := s.toks) I1 r' hz, rfl, q.at I1 its⟩
  · obtain ⟨its, r', pl, hz⟩ := I.tuple hq
    exact call_tuple_same pl ⟨.ref p, H, I, rfl, q⟩
/-! t + u -/
def rCatF (K : PySem.W.Frag) : R2 := fun x y H Q => ∃ a b xs ys, x = .ref a ∧ y = .ref b ∧ SqT K H a xs ∧ SqT K H b ys ∧ xs.length + ys.length ≤ sizeLine ∧
  (xs = [] → Q (.ref b) H) ∧ (xs ≠ [] → ys = [] → Q (.ref a) H) ∧ (xs ≠ [] → ys ≠ [] → NewT H (xs ++ ys) Q)
theorem op_catF {X : Cx} : OpR X (binaryOp .Add) (rCatF X.K) := by
  intro pins s σ H x y v u Q I rx ry h
  obtain ⟨a, b, xs, ys, rfl, rfl, ha, hb, hz, q0, q1, q2⟩ := h
  cases rx
  cases ry
  obtain ⟨its, r1, p1, _⟩ := I.tuple ha
  obtain ⟨its2, r2, p2, _⟩ := I.tuple hb
  by_cases hx : xs = []
  · subst hx
    cases r1
    exact cat_tup0 p1 p2 ⟨.ref b, H, I, rfl, q0 rfl⟩
  · refine HT.cat_tup p1 p2 (fun z => hx (r1.nil_iff.mp z)) (fun z => ⟨.ref a, H, I, rfl, q1 hx (r2.nil_iff.mp z)⟩) (fun z => ?_) (by rw [← r1.length, ← r2.length]; exact hz)
    exact ⟨.ref s.heap.objs.size, _, laid_tup (tk := s.toks) I (r1.append r2) (by rw [List.length_append]; exact hz), rfl, (q2 hx fun w => z (r2.nil_iff.mpr w)).at I _⟩
/-! t[lo:hi] -/
def rSlF (K : PySem.W.Frag) : V → Option Int → Option Int → Hp → VK → Prop := fun x lo hi H Q => ∃ a xs, x = .ref a ∧ SqT K H a xs ∧
  (HT.sIx xs.length 0 lo = 0 ∧ HT.sIx xs.length xs.length hi = xs.length → Q (.ref a) H) ∧ (¬ (HT.sIx xs.length 0 lo = 0 ∧ HT.sIx xs.length xs.length hi = xs.length) → NewT H (cutV xs lo hi) Q)
theorem sl_tupF {X : Cx} : SlR X (rSlF X.K) := by
  intro pins s σ H x v vl vu lo hi sl Q I rx hs pl pu h
  obtain ⟨a, xs, rfl, hx, q1, q2⟩ := h
  cases rx
  obtain ⟨its, r, ht, hz⟩ := I.tuple hx
  have hlen : its.toArray.size = xs.length := by rw [List.size_toArray]; exact r.length.symm
  refine ⟨"tuple", _, PyProof.Rows.slot_tuple_getitem.lookup, ht.typeIs, ?_⟩
  by_cases hw : HT.sIx xs.length 0 lo = 0 ∧ HT.sIx xs.length xs.length hi = xs.length
  · exact getItem_tuple_whole ht hs pl pu (by rw [hlen]; exact hw) ⟨.ref a, H, I, rfl, q1 hw⟩
  · refine HT.getItem_tuple_cut ht hs pl pu (by rw [hlen]; exact hw) ?_ (by rw [hlen]; exact hz)
    rw [hlen]
    exact ⟨.ref s.heap.objs.size, _, laid_tup (tk := s.toks) I ((r.drop (HT.sIx xs.length 0 lo)).take (HT.sIx xs.length xs.length hi - HT.sIx xs.length 0 lo)) (Nat.le_trans (cutV_length xs lo hi) hz), rfl, (q2 hw).at I _⟩
/-! t * k -/
theorem tuple_mulW1 (l : Addr) (items : Array Value) (n : Nat) (dd : Option Addr) (sl : Array (Option Value)) (x : Int) (u : Tok) (c0 : (decide (x < -(2 ^ 63)) || decide (x ≥ 2 ^ 63)) = false) (c1 : (items.isEmpty || x == 1) = true) :
    Meets (Builtin.«tuple.__mul__» ⟨[.ref l, .int x u], []⟩) (fun _ R s => s.heap.get? l = some { cls := .type "tuple", dict := dd, data := .seq items n, slots := sl } ∧
      R (.ok (.ret (Value.ref l))) { s with heap := s.heap, toks := s.toks }) :=
  .of_wp fun prog w A R s h => by
    obtain ⟨hp, g, d, tk, os⟩ := s
    obtain ⟨hl, h⟩ := h
    have f1 := AutoSeq1.idx_int
    wp_walk using wpAny_loadPart' hl
    repeat (first
      | (refine wpAny_ite_false (decide_eq_false (by rw [c0]; exact Bool.false_ne_true)) ?_; wp_walk using wpAny_loadPart' hl)
      | (refine wpAny_ite_true (decide_eq_true (by rw [c1])) ?_; wp_walk using wpAny_loadPart' hl))
    exact ⟨_, rfl, h⟩
theorem tuple_mulW0 (l : Addr) (items : Array Value) (n : Nat) (dd : Option Addr) (sl : Array (Option Value)) (x : Int) (u : Tok) (c0 : (decide (x < -(2 ^ 63)) || decide (x ≥ 2 ^ 63)) = false) (c1 : (items.isEmpty || x == 1) = false) (c2 : (decide (x ≤ 0) || items.isEmpty) = true) :
    Meets (Builtin.«tuple.__mul__» ⟨[.ref l, .int x u], []⟩) (fun _ R s => s.heap.get? l = some { cls := .type "tuple", dict := dd, data := .seq items n, slots := sl } ∧
      R (.ok (.ret (Value.ref s.heap.objs.size))) { s with heap := s.heap.push { cls := Value.type "tuple", data := Data.seq #[] }, toks := s.toks }) :=
  .of_wp fun prog w A R s h => by
    obtain ⟨hp, g, d, tk, os⟩ := s
    obtain ⟨hl, h⟩ := h
    have f1 := AutoSeq1.idx_int
    wp_walk using wpAny_loadPart' hl
    repeat (first
      | (refine wpAny_ite_false (decide_eq_false (by rw [c0]; exact Bool.false_ne_true)) ?_; wp_walk using wpAny_loadPart' hl)
      | (refine wpAny_ite_false (decide_eq_false (by rw [c1]; exact Bool.false_ne_true)) ?_; wp_walk using wpAny_loadPart' hl)
      | (refine wpAny_ite_true (decide_eq_true (by rw [c2])) ?_; wp_walk using wpAny_loadPart' hl))
    exact ⟨_, rfl, h⟩
def rRepF (K : PySem.W.Frag) : R2 := fun x y H Q => ∃ l k xs, x = .ref l ∧ y = .int k ∧ SqT K H l xs ∧ -1000 ≤ k ∧ k ≤ 1000 ∧ xs.length ≤ 1000 ∧ (xs = [] ∨ k = 1 → Q (.ref l) H) ∧ (xs ≠ [] → k ≠ 1 → NewT H (List.replicate k.toNat xs).flatten Q)
theorem op_repF {X : Cx} : OpR X (binaryOp .Mult) (rRepF X.K) := by
  intro pins s σ H x y v u Q I rx ry h
  obtain ⟨l, k, xs, rfl, rfl, hT, h1, h2, hz, q1, q2⟩ := h
  cases rx
  obtain ⟨t, rfl⟩ := ry
  obtain ⟨its, r, ⟨⟨cls, dd, data, sl⟩, ho, hc, n, hd⟩, hs⟩ := I.tuple hT
  simp only at hc hd
  subst hc hd
  have hle : its.length = xs.length := r.length.symm
  have hs0 : its.toArray.size = xs.length := by rw [List.size_toArray, hle]
  have c0 : (decide (k < -(2 ^ 63)) || decide (k ≥ 2 ^ 63)) = false := by rw [decide_eq_false (by omega), decide_eq_false (by omega)] <;> rfl
  by_cases he : xs = [] ∨ k = 1
  · have c1 : (its.toArray.isEmpty || k == 1) = true := by
      rcases he with he | he
      · rw [r.nil_iff.mpr he]; rfl
      · rw [he]; simp
    refine wpAny_binaryOp_repeat_ref (T := "tuple") (U := "int") (by decide) ⟨_, ho, rfl⟩ (fun s' => typeIs_int s' k t) noFill_tuple_mul F.fills_int_mul F.slot_int_rmul repeat_tuple F.slot_int_index.lookup
      (call_meets F.slot_int_rmul (typeIs_int s k t) F.entry_int_rmul (F.args_int_rmul_2 _ _) (int_rmul_tuple k t l its.toArray n dd sl)
        ⟨ho, rfl, ⟨_, ho, rfl⟩, call_meets F.slot_tuple_mul ⟨_, ho, rfl⟩ F.entry_tuple_mul (F.args_tuple_mul_2 _ _)
          (tuple_mulW1 l its.toArray n dd sl k t c0 c1) ⟨ho, ?_⟩⟩)
    exact ⟨.ref l, H, I, rfl, q1 he⟩
  · have hne : xs ≠ [] := fun z => he (.inl z)
    have hk1 : k ≠ 1 := fun z => he (.inr z)
    have q := q2 hne hk1
    have hi : its.toArray.isEmpty = false := by
      cases its with
      | nil => exact absurd (List.eq_nil_of_length_eq_zero hle.symm) hne
      | cons a b => rfl
    have c1 : (its.toArray.isEmpty || k == 1) = false := by rw [hi, Bool.false_or]; exact beq_eq_false_iff_ne.mpr hk1
    by_cases hk : k ≤ 0
    · have c2 : (decide (k ≤ 0) || its.toArray.isEmpty) = true := by rw [decide_eq_true hk]; rfl
      refine wpAny_binaryOp_repeat_ref (T := "tuple") (U := "int") (by decide) ⟨_, ho, rfl⟩ (fun s' => typeIs_int s' k t) noFill_tuple_mul F.fills_int_mul F.slot_int_rmul repeat_tuple F.slot_int_index.lookup
        (call_meets F.slot_int_rmul (typeIs_int s k t) F.entry_int_rmul (F.args_int_rmul_2 _ _) (int_rmul_tuple k t l its.toArray n dd sl)
          ⟨ho, rfl, ⟨_, ho, rfl⟩, call_meets F.slot_tuple_mul ⟨_, ho, rfl⟩ F.entry_tuple_mul (F.args_tuple_mul_2 _ _)
            (tuple_mulW0 l its.toArray n dd sl k t c0 c1 c2) ⟨ho, ?_⟩⟩)
      have ek : k.toNat = 0 := by omega
      rw [ek] at q
      exact ⟨.ref s.heap.objs.size, _, laid_tup (its := []) (xs := []) (tk := s.toks) I .nil (by simp), rfl, NewT.at (xs := []) q I []⟩
    · have hm : ((its.toArray.size : Nat) : Int) * k ≤ 1000000 := by
        rw [hs0]
        have : ((xs.length : Nat) : Int) * k ≤ 1000 * k := Int.mul_le_mul_of_nonneg_right (by omega) (by omega)
        omega
      have a1 : k.toNat * xs.length ≤ 1000 * 1000 := Nat.mul_le_mul (by omega) hz
      have fl : (List.replicate k.toNat its).flatten.length ≤ sizeLine := by
        rw [PyProof.Rows.lm_len_rep_flat, hle, sizeLine_eq]
        omega
      have fx : (List.replicate k.toNat xs).flatten.length ≤ sizeLine := by
        rw [PyProof.Rows.lm_len_rep_flat, sizeLine_eq]
        omega
      refine wpAny_binaryOp_repeat_ref (T := "tuple") (U := "int") (by decide) ⟨_, ho, rfl⟩ (fun s' => typeIs_int s' k t) noFill_tuple_mul F.fills_int_mul F.slot_int_rmul repeat_tuple F.slot_int_index.lookup
        (call_meets F.slot_int_rmul (typeIs_int s k t) F.entry_int_rmul (F.args_int_rmul_2 _ _) (int_rmul_tuple k t l its.toArray n dd sl)
          ⟨ho, rfl, ⟨_, ho, rfl⟩, call_meets F.slot_tuple_mul ⟨_, ho, rfl⟩ F.entry_tuple_mul (F.args_tuple_mul_2 _ _)
            (tuple_mulW l its.toArray n dd sl k t c0 c1 (by rw [hi, Bool.or_false]; exact decide_eq_false hk) (by omega) (by unfold Builtin.Tuple.tupleTooMany; rw [sizeLine_eq]; exact decide_eq_false (by omega)) (by rw [size_rep, List.size_toArray]; exact fl)) ⟨ho, ?_⟩⟩)
      rw [size_rep]
      exact ⟨.ref s.heap.objs.size, _, laid_tup (tk := s.toks) I (r.rep k.toNat) fx, rfl, q.at I _⟩
/-! dict(tuple of pairs) -/
section
variable {X : Cx}
theorem pairs_ofT {pins : List (Addr × Obj)} {σ : L2.St} {H : Hp} {s : Shared} (I : Inv X pins σ H s) : ∀ {ps : List Addr} {kvs : List (Key × V)}, Paired (fun p kv => SqT X.K H p [kV kv.1, kv.2]) ps kvs →
    ∃ (prs : List (Key × Value)) (pvs : List (Value × Value)), KV kvs prs ∧ prs.length = ps.length ∧ pvs.length = ps.length ∧ ∀ (j : Nat) (k v : Value), pvs[j]? = some (k, v) → ∃ b q, ps[j]? = some b ∧ IsTup s.heap b #[k, v] ∧ prs[j]? = some (q, v) ∧ keyIs q k = true
  | _, _, .nil => ⟨[], [], .nil, rfl, rfl, fun j k v e => by simp at e⟩
  | _, _, .cons (a := p) (b := kv) h t => by
    obtain ⟨prs, pvs, r, hl, hl2, hp⟩ := pairs_ofT I t
    obtain ⟨its, rv, ht, _⟩ := I.tuple h
    obtain ⟨u, y, ei, ru, ry⟩ := vals2 rv
    subst ei
    refine ⟨(kv.1, y) :: prs, (u, y) :: pvs, .cons ⟨rfl, ry⟩ r, by rw [List.length_cons, List.length_cons, hl], by rw [List.length_cons, List.length_cons, hl2], fun j k v e => ?_⟩
    cases j with
    | zero =>
      have e' : (u, y) = (k, v) := Option.some.inj e
      injection e' with e1 e2
      subst e1 e2
      exact ⟨p, kv.1, rfl, ht, rfl, kV_is (P := X.prog) (w := X.w) ru⟩
    | succ j =>
      obtain ⟨b, q, e1, e2, e3, e4⟩ := hp j k v (by simpa using e)
      exact ⟨b, q, by simpa using e1, e2, by simpa using e3, e4⟩
theorem call_dictT (hcalm : X.calm = true) : CallR X (.type "dict") (fun xs H Q => ∃ (a : Addr) (ps : List Addr) (kvs : List (Key × V)), xs = [.ref a] ∧ SqT X.K H a (ps.map V.ref) ∧ NdT X.K H a ∧ Paired (fun p kv => SqT X.K H p [kV kv.1, kv.2]) ps kvs ∧
    ∀ p, H p = none → Q (.ref p) (upd H p (.dK (mergeK [] kvs)))) := by
  intro pins s σ H xs us Q I r q
  obtain ⟨a, ps, kvs, ex, hq, hnd, hp, q⟩ := q
  subst ex
  obtain ⟨u, eu, rx⟩ := vals1 r
  subst eu
  cases rx
  obtain ⟨its, rv, pl, hz⟩ := I.tuple hq
  have ei := refs_at rv
  subst ei
  rw [List.length_map] at hz
  obtain ⟨prs, pvs, rel, hl, hl2, hpr⟩ := pairs_ofT I hp
  obtain ⟨o, ho, hc, n, hdat⟩ := pl
  have hd : o.dict = none := by
    rcases hnd with ⟨o2, xs, e, hd⟩ | ⟨o2, e, hd⟩
    · have := (I.hok a _ e).1
      rw [ho] at this
      rw [Option.some.inj this]
      exact hd
    · have := I.kIn a o2 e
      rw [ho] at this
      rw [Option.some.inj this]
      exact hd
  have hlen : (mergeK [] kvs).length ≤ sizeLine := by
    refine Nat.le_trans (length_mergeK kvs []) ?_
    rw [List.length_nil, Nat.zero_add, rel.length, hl]
    exact hz
  have hm : (s.heap.objs.size == sysModules) = false := beq_eq_false_iff_ne.mpr (Nat.ne_of_gt I.big)
  refine PySem.call_dict_pairs (knd := mixKind X.prog X.w) (kvs := prs) (PySem.PairArg.tuple a (ps.map Value.ref).toArray (fun j => ps.getD j 0) pvs) (I.ok.hd hcalm) ⟨⟨o, n, ho, hc, hd, hdat⟩, by simp [hl2], fun j k v e => ?_⟩ ⟨by rw [hl, hl2], fun i key v e => ?_⟩ (by rw [hl2]; exact hz) fun h' tk hd' k => ?_
  · obtain ⟨b, q', e1, e2, e3, e4⟩ := hpr j k v e
    have eb : ps.getD j 0 = b := by rw [List.getD_eq_getElem?_getD, e1]; rfl
    show (ps.map Value.ref).toArray[j]? = some (.ref (ps.getD j 0)) ∧ PySem.PairAt s.heap (ps.getD j 0) k v
    rw [eb]
    exact ⟨by simp [e1], .inl e2⟩
  · obtain ⟨b, q', e1, e2, e3, e4⟩ := hpr i key v e
    exact ⟨q', e3, e4⟩
  · exact ⟨.ref s.heap.objs.size, upd H s.heap.objs.size (.dK (mergeK [] kvs)), I.laid (t' := tk) (fun b o e => k b o (by simp) e) (Nat.le_refl _) (show ObjOk X.prog X.w _ _ _ (.dK (mergeK [] kvs)) from ⟨hlen, hm, merged [] prs, KV.merge rel .nil, hd'⟩), rfl, q _ (I.hok.fresh (Nat.le_refl _))⟩
end
end DL

set_option maxRecDepth 100000
/-! DL1: plain data, how it lies in the abstract heap, environments of slots. -/
namespace DL
open PySem L2
theorem same_seqT {K : PySem.W.Frag} {H H' : Hp} {a : Addr} {xs : List V} (e : Same H H') (h : SqT K H a xs) : SqT K H' a xs := by
  rcases h with (h | ⟨o, h⟩) | h
  · exact .inl (.inl (e _ _ h))
  · exact .inl (.inr ⟨o, e _ _ h⟩)
  · exact .inr h

theorem same_ndT {K : PySem.W.Frag} {H H' : Hp} {a : Addr} (e : Same H H') (h : NdT K H a) : NdT K H' a := by
  rcases h with ⟨o, xs, h, d⟩ | h
  · exact .inl ⟨o, xs, e _ _ h, d⟩
  · exact .inr h

abbrev Fr := PySem.W.Frag

/-- plain data -/
inductive Dt where
  | non
  | bl (b : Bool)
  | int (i : Int)
  | str (x : Str)
  | lst (xs : List Dt)
  | tup (xs : List Dt)
  | dic (ks : List Key) (xs : List Dt)
  | dit (ks : List (List Key)) (xs : List Dt)
  | st

/-- the address of the one object that draws, and of its cells -/
abbrev Dr := Option (Addr × Addr)

mutual
inductive Rp (K : Fr) (dr : Dr) (H : Hp) : V → Dt → Prop
  | non : Rp K dr H .non .non
  | bl (b : Bool) : Rp K dr H (.bl b) (.bl b)
  | int (i : Int) : Rp K dr H (.int i) (.int i)
  | str (x : Str) : Rp K dr H (.str x) (.str x)
  | lst {a : Addr} {vs : List V} {ds : List Dt} : H a = some (.lst vs) → RpL K dr H vs ds → Rp K dr H (.ref a) (.lst ds)
  | tup {a : Addr} {vs : List V} {ds : List Dt} : SqT K H a vs → NdT K H a → RpL K dr H vs ds → Rp K dr H (.ref a) (.tup ds)
  | dic {a : Addr} {ks : List Key} {vs : List V} {ds : List Dt} : H a = some (.dK (ks.zip vs)) → ks.length = vs.length → RpL K dr H vs ds → Rp K dr H (.ref a) (.dic ks ds)
  | dit {a : Addr} {ks : List (List Key)} {vs : List V} {ds : List Dt} : H a = some (.dT (ks.zip vs)) → ks.length = vs.length → RpL K dr H vs ds → Rp K dr H (.ref a) (.dit ks ds)
  | st {q : Addr × Addr} : dr = some q → Rp K dr H (.ref q.1) .st
inductive RpL (K : Fr) (dr : Dr) (H : Hp) : List V → List Dt → Prop
  | nil : RpL K dr H [] []
  | cons {v : V} {vs : List V} {d : Dt} {ds : List Dt} : Rp K dr H v d → RpL K dr H vs ds → RpL K dr H (v :: vs) (d :: ds)
end

section
variable {K : Fr} {dr : Dr} {H H' H1 H2 I I' : Hp}
mutual
theorem Rp.mono (s : Same H H') : ∀ (d : Dt) (v : V), Rp K dr H v d → Rp K dr H' v d
  | .non, _, h => by cases h; exact .non
  | .bl b, _, h => by cases h; exact .bl b
  | .int i, _, h => by cases h; exact .int i
  | .str x, _, h => by cases h; exact .str x
  | .lst ds, _, h => by
    cases h with
    | lst hs ha => exact .lst (s _ _ hs) (RpL.mono s ds _ ha)
  | .tup ds, _, h => by
    cases h with
    | tup hs hn ha => exact .tup (same_seqT s hs) (same_ndT s hn) (RpL.mono s ds _ ha)
  | .dic ks ds, _, h => by
    cases h with
    | dic hs hl ha => exact .dic (s _ _ hs) hl (RpL.mono s ds _ ha)
  | .dit ks ds, _, h => by
    cases h with
    | dit hs hl ha => exact .dit (s _ _ hs) hl (RpL.mono s ds _ ha)
  | .st, _, h => by
    cases h with
    | st e => exact .st e
theorem RpL.mono (s : Same H H') : ∀ (ds : List Dt) (vs : List V), RpL K dr H vs ds → RpL K dr H' vs ds
  | [], _, h => by cases h; exact .nil
  | d :: ds, _, h => by
    cases h with
    | cons h1 h2 => exact .cons (Rp.mono s d _ h1) (RpL.mono s ds _ h2)
end
theorem RpL.len : ∀ {vs : List V} {ds : List Dt}, RpL K dr H vs ds → vs.length = ds.length
  | _, _, .nil => rfl
  | _, _, .cons _ t => congrArg (· + 1) (RpL.len t)
theorem RpL.get : ∀ {vs : List V} {ds : List Dt} {i : Nat} {d : Dt}, RpL K dr H vs ds → ds[i]? = some d → ∃ v, vs[i]? = some v ∧ Rp K dr H v d
  | _, _, _, _, .nil, e => by simp at e
  | _, _, 0, _, .cons r _, e => by simp at e; subst e; exact ⟨_, rfl, r⟩
  | _, _, i + 1, d, .cons _ t, e => by
    obtain ⟨v, h1, h2⟩ := RpL.get (i := i) (d := d) t (by simpa using e)
    exact ⟨v, by simpa using h1, h2⟩
theorem RpL.getV : ∀ {vs : List V} {ds : List Dt} {i : Nat} {v : V}, RpL K dr H vs ds → vs[i]? = some v → ∃ d, ds[i]? = some d ∧ Rp K dr H v d
  | _, _, _, _, .nil, e => by simp at e
  | _, _, 0, _, .cons r _, e => by simp at e; subst e; exact ⟨_, rfl, r⟩
  | _, _, i + 1, d, .cons _ t, e => by
    obtain ⟨v, h1, h2⟩ := RpL.getV (i := i) (v := d) t (by simpa using e)
    exact ⟨v, by simpa using h1, h2⟩
theorem RpL.append : ∀ {vs ws : List V} {ds es : List Dt}, RpL K dr H vs ds → RpL K dr H ws es → RpL K dr H (vs ++ ws) (ds ++ es)
  | _, _, _, _, .nil, s => s
  | _, _, _, _, .cons r t, s => .cons r (RpL.append t s)
theorem RpL.take : ∀ {vs : List V} {ds : List Dt} (n : Nat), RpL K dr H vs ds → RpL K dr H (vs.take n) (ds.take n)
  | _, _, 0, _ => .nil
  | _, _, _ + 1, .nil => .nil
  | _, _, n + 1, .cons r t => .cons r (RpL.take n t)
theorem RpL.drop : ∀ {vs : List V} {ds : List Dt} (n : Nat), RpL K dr H vs ds → RpL K dr H (vs.drop n) (ds.drop n)
  | _, _, 0, r => r
  | _, _, _ + 1, .nil => .nil
  | _, _, n + 1, .cons _ t => RpL.drop n t
theorem RpL.set {v : V} {d : Dt} (r : Rp K dr H v d) : ∀ {vs : List V} {ds : List Dt} (i : Nat), RpL K dr H vs ds → RpL K dr H (vs.set i v) (ds.set i d)
  | _, _, _, .nil => .nil
  | _, _, 0, .cons _ t => .cons r t
  | _, _, i + 1, .cons q t => .cons q (RpL.set r i t)
theorem RpL.eraseIdx : ∀ {vs : List V} {ds : List Dt} (i : Nat), RpL K dr H vs ds → RpL K dr H (vs.eraseIdx i) (ds.eraseIdx i)
  | _, _, _, .nil => .nil
  | _, _, 0, .cons _ t => t
  | _, _, i + 1, .cons r t => .cons r (RpL.eraseIdx i t)
theorem RpL.reverse {vs : List V} {ds : List Dt} (h : RpL K dr H vs ds) : RpL K dr H vs.reverse ds.reverse := by
  induction vs generalizing ds with
  | nil => cases h; exact .nil
  | cons v vs ih =>
    cases h with
    | cons r t => rw [List.reverse_cons, List.reverse_cons]; exact (ih t).append (.cons r .nil)
theorem RpL.rep {vs : List V} {ds : List Dt} (h : RpL K dr H vs ds) : ∀ k : Nat, RpL K dr H (List.replicate k vs).flatten (List.replicate k ds).flatten
  | 0 => .nil
  | k + 1 => by
    rw [List.replicate_succ, List.replicate_succ, List.flatten_cons, List.flatten_cons]
    exact h.append (RpL.rep h k)
theorem RpL.one {v : V} {d : Dt} (h : Rp K dr H v d) : RpL K dr H [v] [d] := .cons h .nil

/-! ### the object that draws -/
def IsDr (dr : Dr) (a : Addr) : Prop := ∃ q, dr = some q ∧ (a = q.1 ∨ a = q.2)
def DrOk (q : Addr × Addr) (H : Hp) : Prop := ∃ (i : Int) (cs : List Int), H q.1 = some (.lst [.int i, .ref q.2]) ∧ H q.2 = some (.lst (cs.map V.int)) ∧ cs ≠ [] ∧ cs.length ≤ 63 ∧ q.1 ≠ q.2
theorem DrOk.some_ (h : ∀ q, dr = some q → DrOk q H) {a : Addr} (i : IsDr dr a) : H a ≠ none := by
  obtain ⟨q, e, r⟩ := i
  obtain ⟨_, _, h1, h2, _⟩ := h q e
  rcases r with rfl | rfl
  · rw [h1]; simp
  · rw [h2]; simp
structure Kp (dr : Dr) (H H' : Hp) : Prop where
  keep : ∀ a o, H a = some o → ¬ IsDr dr a → H' a = some o
  dro : ∀ q, dr = some q → DrOk q H → DrOk q H'
theorem Kp.refl : Kp dr H H := ⟨fun _ _ e _ => e, fun _ _ h => h⟩
theorem Kp.trans (a : Kp dr H H1) (b : Kp dr H1 H2) : Kp dr H H2 := ⟨fun c o e n => b.keep c o (a.keep c o e n) n, fun q e h => b.dro q e (a.dro q e h)⟩
/-- the part that never changes -/
structure Pre (dr : Dr) (I H : Hp) : Prop where
  sub : Same I H
  dro : ∀ q, dr = some q → DrOk q H
  nI : ∀ a, IsDr dr a → I a = none
theorem Pre.notDr (p : Pre dr I H) {a : Addr} (h : H a = none) : ¬ IsDr dr a := fun i => DrOk.some_ p.dro i h
theorem Kp.new {a : Addr} {o : HO} (p : Pre dr I H) (h : H a = none) : Kp dr H (upd H a o) := by
  refine ⟨fun b u e _ => by rw [upd_ne (ne_of_none e h)]; exact e, fun q e ⟨i, cs, h1, h2, h3⟩ => ⟨i, cs, ?_, ?_, h3⟩⟩
  · rw [upd_ne (ne_of_none h1 h)]; exact h1
  · rw [upd_ne (ne_of_none h2 h)]; exact h2
theorem Kp.none_back (k : Kp dr H H') (p : Pre dr I H) {a : Addr} (h : H' a = none) : H a = none := by
  cases e : H a with
  | none => rfl
  | some o =>
    by_cases i : IsDr dr a
    · exact absurd h (DrOk.some_ (fun q e => k.dro q e (p.dro q e)) i)
    · rw [k.keep a o e i] at h; cases h
/-- what never changes, with what is new -/
def ext (I H H' : Hp) : Hp := fun a => match H a with
  | none => H' a
  | some _ => I a
theorem ext_none {a : Addr} (h : H a = none) : ext I H H' a = H' a := by unfold ext; rw [h]
theorem ext_some {a : Addr} (h : H a ≠ none) : ext I H H' a = I a := by
  unfold ext
  cases e : H a with
  | none => exact absurd e h
  | some o => rfl
theorem Pre.ext_sub (p : Pre dr I H) : Same I (ext I H H') := fun a o e => by
  rw [ext_some (by rw [p.sub a o e]; simp)]; exact e
theorem Pre.step (p : Pre dr I H) (k : Kp dr H H') : Pre dr (ext I H H') H' := by
  refine ⟨fun a o e => ?_, fun q e => k.dro q e (p.dro q e), fun a i => ?_⟩
  · by_cases h : H a = none
    · rw [ext_none h] at e; exact e
    · rw [ext_some h] at e
      refine k.keep a o (p.sub a o e) fun i => ?_
      rw [p.nI a i] at e; cases e
  · rw [ext_some (DrOk.some_ p.dro i)]; exact p.nI a i
theorem Pre.ext_ext (p : Pre dr I H) (k : Kp dr H H1) (k2 : Kp dr H1 H2) : ext (ext I H H1) H1 H2 = ext I H H2 := by
  funext a
  by_cases h : H a = none
  · rw [ext_none h]
    by_cases h1 : H1 a = none
    · rw [ext_none h1]
    · rw [ext_some h1, ext_none h]
      cases e : H1 a with
      | none => exact absurd e h1
      | some o => exact (k2.keep a o e (p.notDr h)).symm
  · have h1 : H1 a ≠ none := fun z => h (k.none_back p z)
    rw [ext_some h, ext_some h1, ext_some h]
theorem ext_refl (p : Pre dr I H) : Same (ext I H H) I → True := fun _ => trivial
theorem Pre.ext_same (p : Pre dr I H) : ext I H H = I := by
  funext a
  by_cases h : H a = none
  · rw [ext_none h, h]
    cases e : I a with
    | none => rfl
    | some o => rw [p.sub a o e] at h; cases h
  · rw [ext_some h]
theorem Pre.less (p : Pre dr I H) (s : Same I' I) : Pre dr I' H := ⟨fun a o e => p.sub a o (s a o e), p.dro, fun a i => by
  cases e : I' a with
  | none => rfl
  | some o => have := s a o e; rw [p.nI a i] at this; cases this⟩
theorem ext_mono (s : Same I I') (p : Pre dr I' H) : Same (ext I H H') (ext I' H H') := fun a o e => by
  by_cases h : H a = none
  · rw [ext_none h] at e ⊢; exact e
  · rw [ext_some h] at e ⊢; exact s a o e

/-! ### owned objects -/
def OwR (K : Fr) (dr : Dr) (I H : Hp) (p : Addr) : Dt → Prop
  | .lst ds => ∃ vs, H p = some (.lst vs) ∧ RpL K dr I vs ds
  | .dic ks ds => ∃ vs, H p = some (.dK (ks.zip vs)) ∧ ks.length = vs.length ∧ RpL K dr I vs ds
  | .dit ks ds => ∃ vs, H p = some (.dT (ks.zip vs)) ∧ ks.length = vs.length ∧ RpL K dr I vs ds
  | _ => False
theorem OwR.mono {p : Addr} {d : Dt} (s : Same I I') (e : H' p = H p) (h : OwR K dr I H p d) : OwR K dr I' H' p d := by
  cases d with
  | lst ds => obtain ⟨vs, h1, h2⟩ := h; exact ⟨vs, e.trans h1, RpL.mono s _ _ h2⟩
  | dic ks ds => obtain ⟨vs, h1, h3, h2⟩ := h; exact ⟨vs, e.trans h1, h3, RpL.mono s _ _ h2⟩
  | dit ks ds => obtain ⟨vs, h1, h3, h2⟩ := h; exact ⟨vs, e.trans h1, h3, RpL.mono s _ _ h2⟩
  | _ => exact h.elim
theorem OwR.some_ {p : Addr} {d : Dt} (h : OwR K dr I H p d) : ∃ o, H p = some o := by
  cases d with
  | lst ds => obtain ⟨vs, h1, h2⟩ := h; exact ⟨_, h1⟩
  | dic ks ds => obtain ⟨vs, h1, h3, h2⟩ := h; exact ⟨_, h1⟩
  | dit ks ds => obtain ⟨vs, h1, h3, h2⟩ := h; exact ⟨_, h1⟩
  | _ => exact h.elim
theorem OwR.notXd {p : Addr} {d : Dt} (h : OwR K dr I H p d) {fs : List (Str × V)} (e : H p = some (.xd fs)) : False := by
  cases d with
  | lst ds => obtain ⟨vs, h1, h2⟩ := h; rw [e] at h1; cases h1
  | dic ks ds => obtain ⟨vs, h1, h3, h2⟩ := h; rw [e] at h1; cases h1
  | dit ks ds => obtain ⟨vs, h1, h3, h2⟩ := h; rw [e] at h1; cases h1
  | _ => exact h.elim
/-- an owned object, taken into what never changes -/
theorem OwR.rp {p : Addr} {d : Dt} (s : Same I I') (e : I' p = H p) (h : OwR K dr I H p d) : Rp K dr I' (.ref p) d := by
  cases d with
  | lst ds => obtain ⟨vs, h1, h2⟩ := h; exact .lst (e.trans h1) (RpL.mono s _ _ h2)
  | dic ks ds => obtain ⟨vs, h1, h3, h2⟩ := h; exact .dic (e.trans h1) h3 (RpL.mono s _ _ h2)
  | dit ks ds => obtain ⟨vs, h1, h3, h2⟩ := h; exact .dit (e.trans h1) h3 (RpL.mono s _ _ h2)
  | _ => exact h.elim
/-- an operand: clean, or an owned object -/
def Sh (K : Fr) (dr : Dr) (I H : Hp) (v : V) (d : Dt) : Prop := Rp K dr I v d ∨ ∃ p, v = .ref p ∧ I p = none ∧ ¬ IsDr dr p ∧ OwR K dr I H p d
theorem Sh.lst {v : V} {ds : List Dt} (s : Same I H) (h : Sh K dr I H v (.lst ds)) : ∃ a vs, v = .ref a ∧ H a = some (.lst vs) ∧ RpL K dr I vs ds := by
  rcases h with h | ⟨p, rfl, _, _, vs, h1, h2⟩
  · cases h with
    | lst hs ha => exact ⟨_, _, rfl, s _ _ hs, ha⟩
  · exact ⟨p, vs, rfl, h1, h2⟩
theorem Sh.tup {v : V} {ds : List Dt} (s : Same I H) (h : Sh K dr I H v (.tup ds)) : ∃ a vs, v = .ref a ∧ SqT K H a vs ∧ RpL K dr I vs ds := by
  rcases h with h | ⟨p, rfl, _, _, h⟩
  · cases h with
    | tup hs _ ha => exact ⟨_, _, rfl, same_seqT s hs, ha⟩
  · exact h.elim
theorem Sh.tupN {v : V} {ds : List Dt} (s : Same I H) (h : Sh K dr I H v (.tup ds)) : ∃ a vs, v = .ref a ∧ SqT K H a vs ∧ NdT K H a ∧ RpL K dr I vs ds := by
  rcases h with h | ⟨p, rfl, _, _, h⟩
  · cases h with
    | tup hs hn ha => exact ⟨_, _, rfl, same_seqT s hs, same_ndT s hn, ha⟩
  · exact h.elim
theorem Rp.sh {v : V} {d : Dt} (h : Rp K dr I v d) : Sh K dr I H v d := .inl h
theorem Sh.mono {v : V} {d : Dt} (k : Kp dr H H') (p : Pre dr I H) (h : Sh K dr I H v d) : Sh K dr (ext I H H') H' v d := by
  rcases h with h | ⟨q, rfl, h1, h2, h3⟩
  · exact .inl (h.mono p.ext_sub)
  · obtain ⟨o, e⟩ := h3.some_
    refine .inr ⟨q, rfl, ?_, h2, h3.mono p.ext_sub ((k.keep q o e h2).trans e.symm)⟩
    rw [ext_some (by rw [e]; simp)]; exact h1
end

/-! ### environments -/
inductive Sl where
  | no
  | im (d : Dt)
  | ow (d : Dt)
  | ex (a dd : Addr) (wd : Str)
def sl : List Sl → Nat → Sl
  | [], _ => .no
  | s :: _, 0 => s
  | _ :: r, n + 1 => sl r n
def put : List Sl → Nat → Sl → List Sl
  | [], _, _ => []
  | _ :: r, 0, s => s :: r
  | t :: r, n + 1, s => t :: put r n s
theorem put_length : ∀ (e : List Sl) (i : Nat) (s : Sl), (put e i s).length = e.length
  | [], _, _ => rfl
  | _ :: _, 0, _ => rfl
  | _ :: r, n + 1, s => congrArg (· + 1) (put_length r n s)
theorem sl_put : ∀ (e : List Sl) (i j : Nat) (s : Sl), sl (put e i s) j = if i = j ∧ j < e.length then s else sl e j
  | [], _, _, _ => by simp [put, sl]
  | _ :: _, 0, 0, _ => by simp [put, sl]
  | _ :: _, 0, j + 1, _ => by simp [put, sl]
  | _ :: _, i + 1, 0, _ => by simp [put, sl]
  | _ :: r, i + 1, j + 1, s => by
    simp only [put, sl, sl_put r i j s, List.length_cons]
    by_cases h : i = j
    · subst h; simp
    · simp [h]
theorem sl_lt : ∀ {e : List Sl} {i : Nat}, sl e i ≠ .no → i < e.length
  | [], _, h => absurd rfl h
  | _ :: _, 0, _ => Nat.succ_pos _
  | _ :: r, n + 1, h => Nat.succ_lt_succ (sl_lt (e := r) h)
def SlR (K : Fr) (dr : Dr) (I H : Hp) (x : Option V) : Sl → Prop
  | .no => True
  | .im d => ∃ v, x = some v ∧ Rp K dr I v d
  | .ow d => ∃ p, x = some (.ref p) ∧ I p = none ∧ ¬ IsDr dr p ∧ OwR K dr I H p d
  | .ex a dd wd => x = some (.ref a) ∧ ¬ IsDr dr dd ∧ H dd = some (.xd [(("word" : Str), .str wd)])
structure EnvOk (K : Fr) (dr : Dr) (env : List Sl) (σ : L2.St) (I H : Hp) : Prop where
  len : σ.length = env.length
  at_ : ∀ i, i < env.length → SlR K dr I H (σ[i]?.join) (sl env i)
  sep : ∀ i j d e p, sl env i = .ow d → sl env j = .ow e → σ[i]? = some (some (.ref p)) → σ[j]? = some (some (.ref p)) → i = j
section
variable {K : Fr} {dr : Dr} {H H' H1 H2 I I' : Hp} {env : List Sl} {σ : L2.St}
theorem SlR.step {x : Option V} {s : Sl} (k : Kp dr H H') (p : Pre dr I H) (h : SlR K dr I H x s) : SlR K dr (ext I H H') H' x s := by
  cases s with
  | no => trivial
  | ex a dd wd => exact ⟨h.1, h.2.1, k.keep dd _ h.2.2 h.2.1⟩
  | im d => obtain ⟨v, e, r⟩ := h; exact ⟨v, e, r.mono p.ext_sub⟩
  | ow d =>
    obtain ⟨q, e, h1, h2, h3⟩ := h
    obtain ⟨o, e2⟩ := h3.some_
    refine ⟨q, e, ?_, h2, h3.mono p.ext_sub ((k.keep q o e2 h2).trans e2.symm)⟩
    rw [ext_some (by rw [e2]; simp)]; exact h1
theorem EnvOk.step (k : Kp dr H H') (p : Pre dr I H) (h : EnvOk K dr env σ I H) : EnvOk K dr env σ (ext I H H') H' :=
  ⟨h.len, fun i hi => (h.at_ i hi).step k p, h.sep⟩
theorem join_some {x : Option (Option V)} {v : V} (h : x.join = some v) : x = some (some v) := by
  cases x with
  | none => cases h
  | some y => exact congrArg some h
theorem EnvOk.im {i : Nat} {d : Dt} (h : EnvOk K dr env σ I H) (e : sl env i = .im d) : ∃ v, σ[i]? = some (some v) ∧ Rp K dr I v d := by
  have hi : i < env.length := sl_lt (by rw [e]; simp)
  have q := h.at_ i hi
  rw [e] at q
  obtain ⟨v, e1, r⟩ := q
  exact ⟨v, join_some e1, r⟩
theorem EnvOk.ow {i : Nat} {d : Dt} (h : EnvOk K dr env σ I H) (e : sl env i = .ow d) : ∃ p, σ[i]? = some (some (.ref p)) ∧ I p = none ∧ ¬ IsDr dr p ∧ OwR K dr I H p d := by
  have hi : i < env.length := sl_lt (by rw [e]; simp)
  have q := h.at_ i hi
  rw [e] at q
  obtain ⟨v, e1, r⟩ := q
  exact ⟨v, join_some e1, r⟩
end
end DL

set_option maxRecDepth 100000
/-! DL2: mirrors of expressions as predicate transformers over plain data, and what it is that a reading keeps to one. -/
namespace DL
open PySem L2

/-- an exception: its class's name, its fields -/
abbrev Xc := Str × List Dt
abbrev XR := Xc → Value → Option Addr → Hp → Prop
abbrev IE := List Sl → (Dt → Prop) → (Xc → Prop) → Prop
abbrev IT := List Sl → (Bool → Prop) → (Xc → Prop) → Prop
abbrev IA := List Sl → (List Dt → Prop) → (Xc → Prop) → Prop
abbrev IP := List Sl → (Option Int → Prop) → (Xc → Prop) → Prop

def OutE (xr : XR) (W : WX) (dr : Dr) (σ : L2.St) (H : Hp) (E : Xc → Prop) : Prop := ∀ x c a H', E x → Kp dr H H' → xr x c a H' → W c a σ H'
theorem OutE.step {xr : XR} {W : WX} {dr : Dr} {σ : L2.St} {H H' : Hp} {E : Xc → Prop} (o : OutE xr W dr σ H E) (k : Kp dr H H') : OutE xr W dr σ H' E := fun x c a H2 e k2 r => o x c a H2 e (k.trans k2) r

section
variable (K : Fr) (xr : XR) (W : WX)
def Snd (te : TE) (ie : IE) : Prop := ∀ dr env σ I H P E, Pre dr I H → EnvOk K dr env σ I H → ie env P E → OutE xr W dr σ H E → ∀ Q : VK, (∀ d v H', P d → Kp dr H H' → Rp K dr (ext I H H') v d → Q v H') → te σ H Q
def SndO (te : TE) (ie : IE) : Prop := ∀ dr env σ I H P E, Pre dr I H → EnvOk K dr env σ I H → ie env P E → OutE xr W dr σ H E → ∀ Q : VK, (∀ d v H', P d → Kp dr H H' → Sh K dr (ext I H H') H' v d → Q v H') → te σ H Q
/-- all but one -/
def hid (p : Addr) (J : Hp) : Hp := fun a => if a = p then none else J a
def New (dr : Dr) (I H H' : Hp) (v : V) (d : Dt) : Prop := ∃ p, v = .ref p ∧ H p = none ∧ OwR K dr (hid p (ext I H H')) H' p d
def SndN (te : TE) (ie : IE) : Prop := ∀ dr env σ I H P E, Pre dr I H → EnvOk K dr env σ I H → ie env P E → OutE xr W dr σ H E → ∀ Q : VK, (∀ d v H', P d → Kp dr H H' → New K dr I H H' v d → Q v H') → te σ H Q
def SndT (tt : TT) (it : IT) : Prop := ∀ dr env σ I H P E, Pre dr I H → EnvOk K dr env σ I H → it env P E → OutE xr W dr σ H E → ∀ Q : Bool → Hp → Prop, (∀ b H', P b → Kp dr H H' → Q b H') → tt σ H Q
def SndA (ta : TA) (ia : IA) : Prop := ∀ dr env σ I H P E, Pre dr I H → EnvOk K dr env σ I H → ia env P E → OutE xr W dr σ H E → ∀ Q : List V → Hp → Prop, (∀ ds vs H', P ds → Kp dr H H' → RpL K dr (ext I H H') vs ds → Q vs H') → ta σ H Q
def SndP (tp : TO) (ip : IP) : Prop := ∀ dr env σ I H P E, Pre dr I H → EnvOk K dr env σ I H → ip env P E → OutE xr W dr σ H E → ∀ Q : Option Int → Hp → Prop, (∀ o H', P o → Kp dr H H' → Q o H') → tp σ H Q
end

section
variable {K : Fr} {xr : XR} {W : WX} {te ta tb tc : TE} {ie ia ib ic : IE} {tt tu : TT} {it iu : IT} {tl : TA} {il : IA}
theorem hid_same {p : Addr} {J : Hp} : Same (hid p J) J := fun a o e => by
  unfold hid at e
  split at e
  · cases e
  · exact e
theorem Snd.o (h : Snd K xr W te ie) : SndO K xr W te ie := fun dr env σ I H P E p ev hi o Q q => h dr env σ I H P E p ev hi o Q fun d v H' hp k r => q d v H' hp k r.sh
theorem New.rp {dr : Dr} {I H H' : Hp} {v : V} {d : Dt} (h : New K dr I H H' v d) : Rp K dr (ext I H H') v d := by
  obtain ⟨p, rfl, hn, r⟩ := h
  exact r.rp hid_same (ext_none hn)
theorem SndN.e (h : SndN K xr W te ie) : Snd K xr W te ie := fun dr env σ I H P E p ev hi o Q q => h dr env σ I H P E p ev hi o Q fun d v H' hp k r => q d v H' hp k r.rp
/-- two operands -/
theorem two (ha : SndO K xr W ta ia) (hb : SndO K xr W tb ib) {dr : Dr} {env : List Sl} {σ : L2.St} {I H : Hp} {R : Dt → Dt → Prop} {E : Xc → Prop} (p : Pre dr I H) (ev : EnvOk K dr env σ I H)
    (hi : ia env (fun x => ib env (fun y => R x y) E) E) (o : OutE xr W dr σ H E) (Q : V → V → Hp → Prop)
    (q : ∀ x y v u H', R x y → Kp dr H H' → Pre dr (ext I H H') H' → Sh K dr (ext I H H') H' v x → Sh K dr (ext I H H') H' u y → Q v u H') : ta σ H fun v H1 => tb σ H1 fun u H2 => Q v u H2 := by
  refine ha dr env σ I H _ E p ev hi o _ fun x v H1 hx k1 r1 => ?_
  have p1 := p.step k1
  refine hb dr env σ _ H1 _ E p1 (ev.step k1 p) hx (o.step k1) _ fun y u H2 hy k2 r2 => ?_
  have e := p.ext_ext k1 k2
  have p2 := p1.step k2
  have r1' := r1.mono k2 p1
  rw [e] at r2 p2 r1'
  exact q x y v u H2 hy (k1.trans k2) p2 r1' r2
/-- clean ones -/
theorem twoE (ha : Snd K xr W ta ia) (hb : Snd K xr W tb ib) {dr : Dr} {env : List Sl} {σ : L2.St} {I H : Hp} {R : Dt → Dt → Prop} {E : Xc → Prop} (p : Pre dr I H) (ev : EnvOk K dr env σ I H)
    (hi : ia env (fun x => ib env (fun y => R x y) E) E) (o : OutE xr W dr σ H E) (Q : V → V → Hp → Prop)
    (q : ∀ x y v u H', R x y → Kp dr H H' → Pre dr (ext I H H') H' → Rp K dr (ext I H H') v x → Rp K dr (ext I H H') u y → Q v u H') : ta σ H fun v H1 => tb σ H1 fun u H2 => Q v u H2 := by
  refine ha dr env σ I H _ E p ev hi o _ fun x v H1 hx k1 r1 => ?_
  have p1 := p.step k1
  refine hb dr env σ _ H1 _ E p1 (ev.step k1 p) hx (o.step k1) _ fun y u H2 hy k2 r2 => ?_
  have e := p.ext_ext k1 k2
  have p2 := p1.step k2
  have r1' := r1.mono (p1.ext_sub (H' := H2))
  rw [e] at r2 p2 r1'
  exact q x y v u H2 hy (k1.trans k2) p2 r1' r2

/-! ### names, constants -/
def eVar (i : Nat) : IE := fun env P _ => match sl env i with
  | .im d => P d
  | _ => False
def oVar (i : Nat) : IE := fun env P _ => match sl env i with
  | .im d => P d
  | .ow d => P d
  | _ => False
def eC (d : Dt) : IE := fun _ P _ => P d
theorem snd_var {i : Nat} : Snd K xr W (tVar i) (eVar i) := fun dr env σ I H P E p ev hi o Q q => by
  unfold eVar at hi
  split at hi
  · rename_i d e
    obtain ⟨v, h1, r⟩ := ev.im e
    refine ⟨v, h1, q d v H hi Kp.refl ?_⟩
    rw [p.ext_same]; exact r
  · exact hi.elim
theorem sndO_var {i : Nat} : SndO K xr W (tVar i) (oVar i) := fun dr env σ I H P E p ev hi o Q q => by
  unfold oVar at hi
  split at hi
  · rename_i d e
    obtain ⟨v, h1, r⟩ := ev.im e
    refine ⟨v, h1, q d v H hi Kp.refl (.inl ?_)⟩
    rw [p.ext_same]; exact r
  · rename_i d e
    obtain ⟨pp, h1, h2, h3, h4⟩ := ev.ow e
    refine ⟨_, h1, q d _ H hi Kp.refl ?_⟩
    rw [p.ext_same]
    exact .inr ⟨pp, rfl, h2, h3, h4⟩
  · exact hi.elim
theorem snd_c {v : V} {d : Dt} (h : ∀ dr I, Rp K dr I v d) : Snd K xr W (tC v) (eC d) := fun dr env σ I H P E p ev hi o Q q => q d v H hi Kp.refl (h _ _)

/-! ### operations by values -/
def OpS (K : Fr) (r : R2) (f : Dt → Dt → (Dt → Prop) → Prop) : Prop := ∀ dr I H x y v u P, Pre dr I H → Sh K dr I H v x → Sh K dr I H u y → f x y P → ∀ Q : VK, (∀ d w H', P d → Kp dr H H' → Rp K dr (ext I H H') w d → Q w H') → r v u H Q
def OpN (K : Fr) (r : R2) (f : Dt → Dt → (Dt → Prop) → Prop) : Prop := ∀ dr I H x y v u P, Pre dr I H → Sh K dr I H v x → Sh K dr I H u y → f x y P → ∀ Q : VK, (∀ d w H', P d → Kp dr H H' → New K dr I H H' w d → Q w H') → r v u H Q
def eOp (f : Dt → Dt → (Dt → Prop) → Prop) (ia ib : IE) : IE := fun env P E => ia env (fun x => ib env (fun y => f x y P) E) E
theorem snd_op {r : R2} {f : Dt → Dt → (Dt → Prop) → Prop} (hr : OpS K r f) (ha : SndO K xr W ta ia) (hb : SndO K xr W tb ib) : Snd K xr W (tOp r ta tb) (eOp f ia ib) := fun dr env σ I H P E p ev hi o Q q =>
  two ha hb p ev hi o (fun v u H2 => r v u H2 Q) fun x y v u H2 hR k p2 r1 r2 => hr dr _ H2 x y v u P p2 r1 r2 hR Q fun d w H3 hP k3 r3 => q d w H3 hP (k.trans k3) (by rw [p.ext_ext k k3] at r3; exact r3)
theorem New.back {dr : Dr} {I H H1 H2 : Hp} {v : V} {d : Dt} (p : Pre dr I H) (k : Kp dr H H1) (k2 : Kp dr H1 H2) (h : New K dr (ext I H H1) H1 H2 v d) : New K dr I H H2 v d := by
  obtain ⟨a, rfl, hn, r⟩ := h
  refine ⟨a, rfl, k.none_back p hn, ?_⟩
  rw [p.ext_ext k k2] at r; exact r
theorem sndN_op {r : R2} {f : Dt → Dt → (Dt → Prop) → Prop} (hr : OpN K r f) (ha : SndO K xr W ta ia) (hb : SndO K xr W tb ib) : SndN K xr W (tOp r ta tb) (eOp f ia ib) := fun dr env σ I H P E p ev hi o Q q =>
  two ha hb p ev hi o (fun v u H2 => r v u H2 Q) fun x y v u H2 hR k p2 r1 r2 => hr dr _ H2 x y v u P p2 r1 r2 hR Q fun d w H3 hP k3 r3 => q d w H3 hP (k.trans k3) (r3.back p k k3)
/-- one operand -/
def UnS (K : Fr) (r : V → Hp → VK → Prop) (f : Dt → (Dt → Prop) → Prop) : Prop := ∀ dr I H x v P, Pre dr I H → Sh K dr I H v x → f x P → ∀ Q : VK, (∀ d w H', P d → Kp dr H H' → Rp K dr (ext I H H') w d → Q w H') → r v H Q
def eUn (f : Dt → (Dt → Prop) → Prop) (ia : IE) : IE := fun env P E => ia env (fun x => f x P) E
theorem snd_un {r : V → Hp → VK → Prop} {f : Dt → (Dt → Prop) → Prop} (hr : UnS K r f) (ha : SndO K xr W ta ia) : Snd K xr W (tUn r ta) (eUn f ia) := fun dr env σ I H P E p ev hi o Q q =>
  ha dr env σ I H _ E p ev hi o _ fun x v H1 hx k1 r1 => hr dr _ H1 x v P (p.step k1) r1 hx Q fun d w H3 hP k3 r3 => q d w H3 hP (k1.trans k3) (by rw [p.ext_ext k1 k3] at r3; exact r3)

/-! ### lists of arguments -/
def aNil : IA := fun _ P _ => P []
def aCons (ia : IE) (il : IA) : IA := fun env P E => ia env (fun x => il env (fun xs => P (x :: xs)) E) E
theorem sndA_nil : SndA K xr W tNil aNil := fun dr env σ I H P E p ev hi o Q q => q [] [] H hi Kp.refl .nil
theorem sndA_cons (ha : Snd K xr W ta ia) (hl : SndA K xr W tl il) : SndA K xr W (tCons ta tl) (aCons ia il) := fun dr env σ I H P E p ev hi o Q q => by
  refine ha dr env σ I H _ E p ev hi o _ fun x v H1 hx k1 r1 => ?_
  have p1 := p.step k1
  refine hl dr env σ _ H1 _ E p1 (ev.step k1 p) hx (o.step k1) _ fun ys us H2 hy k2 r2 => ?_
  have r1' := r1.mono (p1.ext_sub (H' := H2))
  rw [p.ext_ext k1 k2] at r2 r1'
  exact q _ _ H2 hy (k1.trans k2) (.cons r1' r2)
/-- operands (owned ones too) -/
def ShL (K : Fr) (dr : Dr) (I H : Hp) : List V → List Dt → Prop
  | [], [] => True
  | v :: vs, d :: ds => Sh K dr I H v d ∧ ShL K dr I H vs ds
  | _, _ => False
theorem ShL.mono {dr : Dr} {I H H' : Hp} (k : Kp dr H H') (p : Pre dr I H) : ∀ {vs : List V} {ds : List Dt}, ShL K dr I H vs ds → ShL K dr (ext I H H') H' vs ds
  | [], [], _ => trivial
  | _ :: _, _ :: _, h => ⟨h.1.mono k p, ShL.mono k p h.2⟩
  | [], _ :: _, h => h.elim
  | _ :: _, [], h => h.elim
def SndAO (K : Fr) (xr : XR) (W : WX) (ta : TA) (ia : IA) : Prop := ∀ dr env σ I H P E, Pre dr I H → EnvOk K dr env σ I H → ia env P E → OutE xr W dr σ H E → ∀ Q : List V → Hp → Prop, (∀ ds vs H', P ds → Kp dr H H' → ShL K dr (ext I H H') H' vs ds → Q vs H') → ta σ H Q
theorem sndAO_nil : SndAO K xr W tNil aNil := fun dr env σ I H P E p ev hi o Q q => q [] [] H hi Kp.refl trivial
theorem sndAO_cons (ha : SndO K xr W ta ia) (hl : SndAO K xr W tl il) : SndAO K xr W (tCons ta tl) (aCons ia il) := fun dr env σ I H P E p ev hi o Q q => by
  refine ha dr env σ I H _ E p ev hi o _ fun x v H1 hx k1 r1 => ?_
  have p1 := p.step k1
  refine hl dr env σ _ H1 _ E p1 (ev.step k1 p) hx (o.step k1) _ fun ys us H2 hy k2 r2 => ?_
  have r1' := r1.mono k2 p1
  rw [p.ext_ext k1 k2] at r2 r1'
  exact q _ _ H2 hy (k1.trans k2) ⟨r1', r2⟩
/-- a built-in's call -/
def CaS (K : Fr) (r : List V → Hp → VK → Prop) (f : List Dt → (Dt → Prop) → Prop) : Prop := ∀ dr I H xs vs P, Pre dr I H → ShL K dr I H vs xs → f xs P → ∀ Q : VK, (∀ d w H', P d → Kp dr H H' → Rp K dr (ext I H H') w d → Q w H') → r vs H Q
def CaN (K : Fr) (r : List V → Hp → VK → Prop) (f : List Dt → (Dt → Prop) → Prop) : Prop := ∀ dr I H xs vs P, Pre dr I H → ShL K dr I H vs xs → f xs P → ∀ Q : VK, (∀ d w H', P d → Kp dr H H' → New K dr I H H' w d → Q w H') → r vs H Q
def eCB (f : List Dt → (Dt → Prop) → Prop) (il : IA) : IE := fun env P E => il env (fun xs => f xs P) E
theorem snd_cb {r : List V → Hp → VK → Prop} {f : List Dt → (Dt → Prop) → Prop} (hr : CaS K r f) (hl : SndAO K xr W tl il) : Snd K xr W (tCB r tl) (eCB f il) := fun dr env σ I H P E p ev hi o Q q =>
  hl dr env σ I H _ E p ev hi o _ fun x v H1 hx k1 r1 => hr dr _ H1 x v P (p.step k1) r1 hx Q fun d w H3 hP k3 r3 => q d w H3 hP (k1.trans k3) (by rw [p.ext_ext k1 k3] at r3; exact r3)
theorem sndN_cb {r : List V → Hp → VK → Prop} {f : List Dt → (Dt → Prop) → Prop} (hr : CaN K r f) (hl : SndAO K xr W tl il) : SndN K xr W (tCB r tl) (eCB f il) := fun dr env σ I H P E p ev hi o Q q =>
  hl dr env σ I H _ E p ev hi o _ fun x v H1 hx k1 r1 => hr dr _ H1 x v P (p.step k1) r1 hx Q fun d w H3 hP k3 r3 => q d w H3 hP (k1.trans k3) (r3.back p k1 k3)

/-! ### new tuples, new lists -/
theorem new_at {dr : Dr} {I H : Hp} {p : Addr} {o : HO} (pr : Pre dr I H) (hp : H p = none) : Same I (hid p (ext I H (upd H p o))) := fun a u e => by
  have ne : a ≠ p := fun z => by subst z; have := pr.sub _ _ e; rw [hp] at this; cases this
  unfold hid
  rw [if_neg ne]
  exact pr.ext_sub a u e
def eTup (il : IA) : IE := fun env P E => il env (fun xs => xs.length ≤ 16777216 ∧ P (.tup xs)) E
def eLst (il : IA) : IE := fun env P E => il env (fun xs => xs.length ≤ 16777216 ∧ P (.lst xs)) E
theorem size_le {n : Nat} (h : n ≤ 16777216) : n ≤ sizeLine := by rw [sizeLine_eq]; exact h
theorem rp_new_tup {dr : Dr} {I H : Hp} {p : Addr} {o : Obj} {vs : List V} {ds : List Dt} (pr : Pre dr I H) (ho : o.dict = none) (hp : H p = none) (r : RpL K dr I vs ds) : Rp K dr (ext I H (upd H p (.frz o (.tup vs)))) (.ref p) (.tup ds) :=
  have e : ext I H (upd H p (.frz o (.tup vs))) p = some (.frz o (.tup vs)) := by rw [ext_none hp]; exact upd_same
  .tup (.inl (.inr ⟨o, e⟩)) (.inl ⟨o, vs, e, ho⟩) (RpL.mono pr.ext_sub _ _ r)
theorem new_lst {dr : Dr} {I H : Hp} {p : Addr} {vs : List V} {ds : List Dt} (pr : Pre dr I H) (hp : H p = none) (r : RpL K dr I vs ds) : New K dr I H (upd H p (.lst vs)) (.ref p) (.lst ds) :=
  ⟨p, rfl, hp, vs, upd_same, RpL.mono (new_at pr hp) _ _ r⟩
theorem snd_tup (hl : SndA K xr W tl il) : Snd K xr W (tTupF tl) (eTup il) := fun dr env σ I H P E p ev hi o Q q =>
  hl dr env σ I H _ E p ev hi o _ fun xs vs H1 hx k1 r1 => ⟨size_le (by rw [r1.len]; exact hx.1), fun a ob hob ha => by
    have p1 := p.step k1
    have k2 := Kp.new (o := .frz ob (.tup vs)) p1 ha
    have z := rp_new_tup p1 hob ha r1
    rw [p.ext_ext k1 k2] at z
    exact q _ _ _ hx.2 (k1.trans k2) z⟩
theorem sndN_lst (hl : SndA K xr W tl il) : SndN K xr W (tLst tl) (eLst il) := fun dr env σ I H P E p ev hi o Q q =>
  hl dr env σ I H _ E p ev hi o _ fun xs vs H1 hx k1 r1 => ⟨size_le (by rw [r1.len]; exact hx.1), fun a ha => by
    have p1 := p.step k1
    have k2 := Kp.new (o := .lst vs) p1 ha
    exact q _ _ _ hx.2 (k1.trans k2) ((new_lst p1 ha r1).back p k1 k2)⟩

/-! ### tests -/
def asB : Dt → (Bool → Prop) → Prop
  | .bl b, P => P b
  | _, _ => False
@[simp] theorem asB_r1  {b : Bool} {P : (Bool → Prop)} : asB (.bl b) P = (P b) := id rfl
def bT (ia : IE) : IT := fun env P E => ia env (fun x => asB x P) E
def bAnd (it iu : IT) : IT := fun env P E => it env (fun b => if b = true then iu env P E else P false) E
def bOr (it iu : IT) : IT := fun env P E => it env (fun b => if b = true then P true else iu env P E) E
def bNot (it : IT) : IT := fun env P E => it env (fun b => P (!b)) E
theorem isBl {dr : Dr} {H : Hp} {v : V} {d : Dt} {P : Bool → Prop} (r : Rp K dr H v d) (h : asB d P) : ∃ b, v = .bl b ∧ P b := by
  cases d with
  | bl b => cases r; exact ⟨b, rfl, h⟩
  | _ => exact h.elim
theorem sndT_B (ha : Snd K xr W ta ia) : SndT K xr W (tB ta) (bT ia) := fun dr env σ I H P E p ev hi o Q q =>
  ha dr env σ I H _ E p ev hi o _ fun x v H1 hx k1 r1 => let ⟨b, e, hb⟩ := isBl r1 hx; ⟨b, e, q b H1 hb k1⟩
theorem sndT_test (ha : Snd K xr W ta ia) : SndT K xr W (tTest ta) (bT ia) := fun dr env σ I H P E p ev hi o Q q =>
  ha dr env σ I H _ E p ev hi o _ fun x v H1 hx k1 r1 => let ⟨b, e, hb⟩ := isBl r1 hx; ⟨b, e, q b H1 hb k1⟩
theorem sndT_and (ht : SndT K xr W tt it) (hu : SndT K xr W tu iu) : SndT K xr W (tAnd tt tu) (bAnd it iu) := fun dr env σ I H P E p ev hi o Q q =>
  ht dr env σ I H _ E p ev hi o _ fun b H1 hb k1 => by
    cases b with
    | true => exact hu dr env σ _ H1 P E (p.step k1) (ev.step k1 p) hb (o.step k1) Q fun b' H2 hb' k2 => q b' H2 hb' (k1.trans k2)
    | false => exact q false H1 hb k1
theorem sndT_or (ht : SndT K xr W tt it) (hu : SndT K xr W tu iu) : SndT K xr W (tOr tt tu) (bOr it iu) := fun dr env σ I H P E p ev hi o Q q =>
  ht dr env σ I H _ E p ev hi o _ fun b H1 hb k1 => by
    cases b with
    | false => exact hu dr env σ _ H1 P E (p.step k1) (ev.step k1 p) hb (o.step k1) Q fun b' H2 hb' k2 => q b' H2 hb' (k1.trans k2)
    | true => exact q true H1 hb k1
theorem sndT_not (ht : SndT K xr W tt it) : SndT K xr W (tNot tt) (bNot it) := fun dr env σ I H P E p ev hi o Q q =>
  ht dr env σ I H _ E p ev hi o _ fun b H1 hb k1 => q _ H1 hb k1
def eAnd (ia ib : IE) : IE := fun env P E => ia env (fun x => asB x fun b => if b = true then ib env P E else P (.bl false)) E
def eOr (ia ib : IE) : IE := fun env P E => ia env (fun x => asB x fun b => if b = true then P (.bl true) else ib env P E) E
def eNot (ia : IE) : IE := fun env P E => ia env (fun x => asB x fun b => P (.bl (!b))) E
theorem ext_back {dr : Dr} {I H H1 H2 : Hp} {v : V} {d : Dt} (p : Pre dr I H) (k : Kp dr H H1) (k2 : Kp dr H1 H2) (h : Rp K dr (ext (ext I H H1) H1 H2) v d) : Rp K dr (ext I H H2) v d := by
  rw [p.ext_ext k k2] at h; exact h
theorem snd_and (ha : Snd K xr W ta ia) (hb : Snd K xr W tb ib) : Snd K xr W (tAndV ta tb) (eAnd ia ib) := fun dr env σ I H P E p ev hi o Q q =>
  ha dr env σ I H _ E p ev hi o _ fun x v H1 hx k1 r1 => by
    obtain ⟨b, e, hb'⟩ := isBl (P := fun b => if b = true then ib env P E else P (.bl false)) r1 hx
    refine ⟨b, e, ?_⟩
    cases b with
    | true => exact hb dr env σ _ H1 P E (p.step k1) (ev.step k1 p) hb' (o.step k1) Q fun d w H2 hd k2 r2 => q d w H2 hd (k1.trans k2) (ext_back p k1 k2 r2)
    | false => exact q _ _ H1 hb' k1 (.bl false)
theorem snd_or (ha : Snd K xr W ta ia) (hb : Snd K xr W tb ib) : Snd K xr W (tOrV ta tb) (eOr ia ib) := fun dr env σ I H P E p ev hi o Q q =>
  ha dr env σ I H _ E p ev hi o _ fun x v H1 hx k1 r1 => by
    obtain ⟨b, e, hb'⟩ := isBl (P := fun b => if b = true then P (.bl true) else ib env P E) r1 hx
    refine ⟨b, e, ?_⟩
    cases b with
    | false => exact hb dr env σ _ H1 P E (p.step k1) (ev.step k1 p) hb' (o.step k1) Q fun d w H2 hd k2 r2 => q d w H2 hd (k1.trans k2) (ext_back p k1 k2 r2)
    | true => exact q _ _ H1 hb' k1 (.bl true)
theorem snd_not (ha : Snd K xr W ta ia) : Snd K xr W (tNotV ta) (eNot ia) := fun dr env σ I H P E p ev hi o Q q =>
  ha dr env σ I H _ E p ev hi o _ fun x v H1 hx k1 r1 => by
    obtain ⟨b, e, hb'⟩ := isBl (P := fun b => P (.bl (!b))) r1 hx
    exact ⟨b, e, q _ _ H1 hb' k1 (.bl _)⟩
def eIf (it : IT) (ia ib : IE) : IE := fun env P E => it env (fun b => if b = true then ia env P E else ib env P E) E
theorem snd_if (ht : SndT K xr W tt it) (ha : Snd K xr W ta ia) (hb : Snd K xr W tb ib) : Snd K xr W (tIf tt ta tb) (eIf it ia ib) := fun dr env σ I H P E p ev hi o Q q =>
  ht dr env σ I H _ E p ev hi o _ fun b H1 hx k1 => by
    cases b with
    | true => exact ha dr env σ _ H1 P E (p.step k1) (ev.step k1 p) hx (o.step k1) Q fun d w H2 hd k2 r2 => q d w H2 hd (k1.trans k2) (ext_back p k1 k2 r2)
    | false => exact hb dr env σ _ H1 P E (p.step k1) (ev.step k1 p) hx (o.step k1) Q fun d w H2 hd k2 r2 => q d w H2 hd (k1.trans k2) (ext_back p k1 k2 r2)
theorem sndN_if (ht : SndT K xr W tt it) (ha : SndN K xr W ta ia) (hb : SndN K xr W tb ib) : SndN K xr W (tIf tt ta tb) (eIf it ia ib) := fun dr env σ I H P E p ev hi o Q q =>
  ht dr env σ I H _ E p ev hi o _ fun b H1 hx k1 => by
    cases b with
    | true => exact ha dr env σ _ H1 P E (p.step k1) (ev.step k1 p) hx (o.step k1) Q fun d w H2 hd k2 r2 => q d w H2 hd (k1.trans k2) (r2.back p k1 k2)
    | false => exact hb dr env σ _ H1 P E (p.step k1) (ev.step k1 p) hx (o.step k1) Q fun d w H2 hd k2 r2 => q d w H2 hd (k1.trans k2) (r2.back p k1 k2)
/-- a op1 b op2 c -/
def eChain (f g : Dt → Dt → (Dt → Prop) → Prop) (ia ib ic : IE) : IE := fun env P E => ia env (fun x => ib env (fun y => f x y (fun z => asB z fun b => if b = true then ic env (fun w => g y w P) E else P (.bl false))) E) E
theorem snd_chain {r r' : R2} {f g : Dt → Dt → (Dt → Prop) → Prop} (hr : OpS K r f) (hr' : OpS K r' g) (ha : SndO K xr W ta ia) (hb : SndO K xr W tb ib) (hc : SndO K xr W tc ic) : Snd K xr W (tChain r r' ta tb tc) (eChain f g ia ib ic) := fun dr env σ I H P E p ev hi o Q q =>
  two ha hb p ev hi o _ fun x y v u H2 hR k p2 r1 r2 => hr dr _ H2 x y v u _ p2 r1 r2 hR _ fun d w H3 hP k3 r3 => by
    obtain ⟨b, e, hb'⟩ := isBl (P := fun b => if b = true then ic env (fun w => g y w P) E else P (.bl false)) r3 hP
    refine ⟨b, e, ?_⟩
    have k' := k.trans k3
    cases b with
    | false => exact q _ _ H3 hb' k' (.bl false)
    | true =>
      refine hc dr env σ _ H3 _ E (p2.step k3) ((ev.step k p).step k3 p2) hb' (o.step k') _ fun z t H4 hz k4 r4 => ?_
      refine hr' dr _ H4 y z u t P ((p2.step k3).step k4) ((r2.mono k3 p2).mono k4 (p2.step k3)) r4 hz Q fun d' w' H5 hd k5 r5 => ?_
      refine q d' w' H5 hd ((k'.trans k4).trans k5) ?_
      have e1 := ext_back (p2.step k3) k4 k5 r5
      have e2 := ext_back p2 k3 (k4.trans k5) e1
      exact ext_back p k (k3.trans (k4.trans k5)) e2
end
end DL

set_option maxRecDepth 100000
/-! DL3: the operations of the language over plain data, each with its rule. -/
namespace DL
open PySem L2 PyProof.Rows

/-! ### as the library's data -/
mutual
def Dt.py : Dt → PyData
  | .non => .none
  | .bl b => .bool b
  | .int i => .int i
  | .str x => .str x
  | .lst xs => .list (pyL xs)
  | .tup xs => .tuple (pyL xs)
  | .dic _ _ => .dict []
  | .dit _ _ => .dict []
  | .st => .dict []
def pyL : List Dt → List PyData
  | [] => []
  | d :: ds => d.py :: pyL ds
end
theorem pyL_map (ds : List Dt) : pyL ds = ds.map Dt.py := by
  induction ds with
  | nil => rfl
  | cons d ds ih => rw [pyL, List.map_cons, ih]
section
variable {K : Fr} {dr : Dr} {H : Hp}
mutual
theorem Rp.dp : ∀ (d : Dt) (v : V), Rp K dr H v d → d.py.canLay0 = true → Dp K H v d.py
  | .non, _, h, _ => by cases h; rw [Dt.py]; exact .non
  | .bl b, _, h, _ => by cases h; rw [Dt.py]; exact .bl b
  | .int i, _, h, _ => by cases h; rw [Dt.py]; exact .int i
  | .str x, _, h, _ => by cases h; rw [Dt.py]; exact .str x
  | .lst ds, _, h, c => by
    cases h with
    | lst hs ha =>
      rw [Dt.py] at c ⊢
      exact .lst (SqL.of hs) (RpL.dp ds _ ha (by simpa [PyData.canLay0] using c))
  | .tup ds, _, h, c => by
    cases h with
    | tup hs _ ha =>
      rw [Dt.py] at c ⊢
      exact .tup hs (RpL.dp ds _ ha (by simpa [PyData.canLay0] using c))
  | .dic ks ds, _, _, c => by rw [Dt.py] at c; simp [PyData.canLay0] at c
  | .dit ks ds, _, _, c => by rw [Dt.py] at c; simp [PyData.canLay0] at c
  | .st, _, _, c => by rw [Dt.py] at c; simp [PyData.canLay0] at c
theorem RpL.dp : ∀ (ds : List Dt) (vs : List V), RpL K dr H vs ds → PyData.canLayAll0 (pyL ds) = true → DpAll K H vs (pyL ds)
  | [], _, h, _ => by cases h; rw [pyL]; exact .nil
  | d :: ds, _, h, c => by
    cases h with
    | cons h1 h2 =>
      rw [pyL] at c ⊢
      have c' : d.py.canLay0 = true ∧ PyData.canLayAll0 (pyL ds) = true := by simpa [PyData.canLayAll0] using c
      exact .cons (Rp.dp d _ h1 c'.1) (RpL.dp ds _ h2 c'.2)
end
end
/-- data that may be compared: no dict within, at most 64 deep -/
def okD (d : Dt) : Prop := SeqAt.shaped d.py = true
theorem okD.lay {d : Dt} (h : okD d) : d.py.canLay0 = true := SeqAt.canLay_of_shaped h
def eqv (x y : Dt) : Bool := PyData.eqv x.py y.py
theorem Sh.dp {K : Fr} {dr : Dr} {I H : Hp} {v : V} {d : Dt} (p : Pre dr I H) (h : Sh K dr I H v d) (c : okD d) : Dp K H v d.py := by
  rcases h with h | ⟨q, rfl, _, _, h3⟩
  · exact (h.mono p.sub).dp _ _ c.lay
  · cases d with
    | lst ds => obtain ⟨vs, h1, h2⟩ := h3; exact (Rp.lst h1 (RpL.mono p.sub _ _ h2)).dp _ _ c.lay
    | _ => first | exact h3.elim | (have := c.lay; rw [Dt.py] at this; simp [PyData.canLay0] at this)

/-! ### links: an expression, its mirror -/
def LE (xr : XR) (X : Cx) (W : WX) (e : Expr) (ie : IE) : Prop := ∃ te, PE X e te ∧ Snd X.K xr W te ie
def LO (xr : XR) (X : Cx) (W : WX) (e : Expr) (ie : IE) : Prop := ∃ te, PE X e te ∧ SndO X.K xr W te ie
def LN (xr : XR) (X : Cx) (W : WX) (e : Expr) (ie : IE) : Prop := ∃ te, PE X e te ∧ SndN X.K xr W te ie
def LT (xr : XR) (X : Cx) (W : WX) (e : Expr) (it : IT) : Prop := ∃ tt, PT X e tt ∧ SndT X.K xr W tt it
def LW (xr : XR) (X : Cx) (W : WX) (e : Expr) (it : IT) : Prop := ∃ tt, PW X e tt ∧ SndT X.K xr W tt it
def LA (xr : XR) (X : Cx) (W : WX) (es : List Expr) (ia : IA) : Prop := ∃ ta, PA X es ta ∧ SndA X.K xr W ta ia
def LAO (xr : XR) (X : Cx) (W : WX) (es : List Expr) (ia : IA) : Prop := ∃ ta, PA X es ta ∧ SndAO X.K xr W ta ia
def LP (xr : XR) (X : Cx) (W : WX) (e : Option Expr) (ip : IP) : Prop := ∃ tp, PO X e tp ∧ SndP X.K xr W tp ip

section
variable {xr : XR} {X : Cx} {W : WX} {e a b c : Expr} {es : List Expr} {ie ia ib ic : IE} {it iu : IT} {il : IA} {pos : Pos}
theorem LE.O (h : LE xr X W e ie) : LO xr X W e ie := let ⟨t, p, s⟩ := h; ⟨t, p, s.o⟩
theorem LN.E (h : LN xr X W e ie) : LE xr X W e ie := let ⟨t, p, s⟩ := h; ⟨t, p, s.e⟩
theorem LN.O (h : LN xr X W e ie) : LO xr X W e ie := h.E.O

/-! ### names, constants -/
theorem le_var (i : Nat) {x : Str} (hN : X.N[i]? = some x := by rfl) (hv : Vis X.env.scope x := by first | exact Or.inl rfl | exact Or.inr (Or.inl rfl) | exact Or.inr (Or.inr rfl)) (hd : (x == ("__debug__" : Str)) = false := by decide)
    (hcd : (x == ("__classdict__" : Str)) = false := by decide) : LE xr X W (.Name x pos) (eVar i) := ⟨_, pe_var hN hv hd hcd, snd_var⟩
theorem lo_var (i : Nat) {x : Str} (hN : X.N[i]? = some x := by rfl) (hv : Vis X.env.scope x := by first | exact Or.inl rfl | exact Or.inr (Or.inl rfl) | exact Or.inr (Or.inr rfl)) (hd : (x == ("__debug__" : Str)) = false := by decide)
    (hcd : (x == ("__classdict__" : Str)) = false := by decide) : LO xr X W (.Name x pos) (oVar i) := ⟨_, pe_var hN hv hd hcd, sndO_var⟩
theorem le_int {i : Int} {j} : LE xr X W (.Constant (.int i) j pos) (eC (.int i)) := ⟨_, pe_int, snd_c fun _ _ => .int i⟩
theorem le_bl {i : Bool} {j} : LE xr X W (.Constant (.bool i) j pos) (eC (.bl i)) := ⟨_, pe_bl, snd_c fun _ _ => .bl i⟩
theorem le_non {j} : LE xr X W (.Constant .none j pos) (eC .non) := ⟨_, pe_non, snd_c fun _ _ => .non⟩
theorem le_str {i : Str} {j} : LE xr X W (.Constant (.str i) j pos) (eC (.str i)) := ⟨_, pe_str, snd_c fun _ _ => .str i⟩
theorem le_glob {x : Str} {v : V} {u : Value} {d : Dt} (hg : Gl X x) (hm : X.mg x = some u) (r : RelV v u) (h : ∀ dr I, Rp X.K dr I v d) (hd : (x == ("__debug__" : Str)) = false := by decide) : LE xr X W (.Name x pos) (eC d) := ⟨_, pe_glob hg hm r hd, snd_c h⟩

/-! ### lists of arguments, tuples, lists -/
theorem la_nil : LA xr X W [] aNil := ⟨_, pa_nil, sndA_nil⟩
theorem la_cons (h : LE xr X W e ie) (hl : LA xr X W es il) (hs : starEach (e :: es) X.env = (false, eval e X.env) :: starEach es X.env := by rfl) : LA xr X W (e :: es) (aCons ie il) :=
  let ⟨_, p, s⟩ := h; let ⟨_, pl, sl⟩ := hl; ⟨_, pa_cons p pl hs, sndA_cons s sl⟩
theorem lao_nil : LAO xr X W [] aNil := ⟨_, pa_nil, sndAO_nil⟩
theorem lao_cons (h : LO xr X W e ie) (hl : LAO xr X W es il) (hs : starEach (e :: es) X.env = (false, eval e X.env) :: starEach es X.env := by rfl) : LAO xr X W (e :: es) (aCons ie il) :=
  let ⟨_, p, s⟩ := h; let ⟨_, pl, sl⟩ := hl; ⟨_, pa_cons p pl hs, sndAO_cons s sl⟩
theorem le_tup {k} (h : LA xr X W es il) : LE xr X W (.Tuple es k pos) (eTup il) := let ⟨_, p, s⟩ := h; ⟨_, pe_tupF p, snd_tup s⟩
theorem ln_lst (h : LA xr X W es il) : LN xr X W (.List es pos) (eLst il) := let ⟨_, p, s⟩ := h; ⟨_, pe_lst p, sndN_lst s⟩

/-! ### arithmetic -/
theorem OpR.or {f : Value → Value → Sem Value} {r r' : R2} (h : OpR X f r) (h' : OpR X f r') : OpR X f (fun x y H Q => r x y H Q ∨ r' x y H Q) := by
  intro pins s σ H x y v u Q I rx ry q
  rcases q with q | q
  · exact h pins s σ H x y v u Q I rx ry q
  · exact h' pins s σ H x y v u Q I rx ry q
theorem le_bin {op : Operator} {r : R2} {f : Dt → Dt → (Dt → Prop) → Prop} (ho : OpR X (binaryOp op) r) (hs : OpS X.K r f) (ha : LO xr X W a ia) (hb : LO xr X W b ib) : LE xr X W (.BinOp a op b pos) (eOp f ia ib) :=
  let ⟨_, p, s⟩ := ha; let ⟨_, q, t⟩ := hb; ⟨_, pe_op ho p q, snd_op hs s t⟩
theorem ln_bin {op : Operator} {r : R2} {f : Dt → Dt → (Dt → Prop) → Prop} (ho : OpR X (binaryOp op) r) (hs : OpN X.K r f) (ha : LO xr X W a ia) (hb : LO xr X W b ib) : LN xr X W (.BinOp a op b pos) (eOp f ia ib) :=
  let ⟨_, p, s⟩ := ha; let ⟨_, q, t⟩ := hb; ⟨_, pe_op ho p q, sndN_op hs s t⟩
end
section
variable {K : Fr} {dr : Dr} {I H : Hp} {v u : V} {i j : Int}
theorem Sh.int (h : Sh K dr I H v (.int i)) : v = .int i := by
  rcases h with h | ⟨_, _, _, _, h⟩
  · cases h; rfl
  · exact h.elim
theorem Sh.bl {i : Bool} (h : Sh K dr I H v (.bl i)) : v = .bl i := by
  rcases h with h | ⟨_, _, _, _, h⟩
  · cases h; rfl
  · exact h.elim
theorem Sh.str {i : Str} (h : Sh K dr I H v (.str i)) : v = .str i := by
  rcases h with h | ⟨_, _, _, _, h⟩
  · cases h; rfl
  · exact h.elim
theorem Sh.non (h : Sh K dr I H v .non) : v = .non := by
  rcases h with h | ⟨_, _, _, _, h⟩
  · cases h; rfl
  · exact h.elim
theorem rp_at {w : V} {d : Dt} (p : Pre dr I H) (h : Rp K dr I w d) : Rp K dr (ext I H H) w d := by rw [p.ext_same]; exact h
end
theorem op_mulK {X : Cx} : OpR X (binaryOp .Mult) (rI IntMulOk fun i j => .int (i * j)) := opI fun _ _ _ _ _ _ _ hc q => mul_int q hc
def DivOk (i j : Int) : Prop := Builtin.divisionGoesByPylong i j = false
theorem op_fdivK {X : Cx} : OpR X (binaryOp .FloorDiv) (rI (fun i j => j ≠ 0 ∧ DivOk i j) fun i j => .int (i.fdiv j)) := opI fun i j _ _ _ _ _ hc q => floordiv_int hc.1 q (.inl hc.2)
theorem rep_ok {K : Fr} : OpN K rRep (fun x y P => match x, y with
    | .lst xs, .int k => (-(2 ^ 63) ≤ k ∧ k < 2 ^ 63 ∧ xs.length * k.toNat ≤ 16777216) ∧ P (.lst (List.replicate k.toNat xs).flatten)
    | _, _ => False) := by
  intro dr I H x y v u P p hx hy hf Q q
  split at hf
  · rename_i xs k
    obtain ⟨⟨h1, h2, h3⟩, hP⟩ := hf
    obtain ⟨a, vs, rfl, ha, r⟩ := hx.lst p.sub
    obtain rfl := hy.int
    exact ⟨a, k, vs, rfl, rfl, ha, h1, h2, size_le (by rw [r.len]; exact h3), fun l hl => q _ _ _ hP (Kp.new p hl) (new_lst p hl (r.rep _))⟩
  · exact hf.elim

/-- + of two ints -/
def addI : Dt → Dt → (Dt → Prop) → Prop
  | .int a, .int b, P => P (.int (a + b))
  | _, _, _ => False
@[simp] theorem addI_r1  {a : Int} {b : Int} {P : (Dt → Prop)} : addI (.int a) (.int b) P = (P (.int (a + b))) := id rfl
def subI : Dt → Dt → (Dt → Prop) → Prop
  | .int a, .int b, P => P (.int (a - b))
  | _, _, _ => False
@[simp] theorem subI_r1  {a : Int} {b : Int} {P : (Dt → Prop)} : subI (.int a) (.int b) P = (P (.int (a - b))) := id rfl
def mulI : Dt → Dt → (Dt → Prop) → Prop
  | .int a, .int b, P => IntMulOk a b ∧ P (.int (a * b))
  | _, _, _ => False
@[simp] theorem mulI_r1  {a : Int} {b : Int} {P : (Dt → Prop)} : mulI (.int a) (.int b) P = (IntMulOk a b ∧ P (.int (a * b))) := id rfl
def divI : Dt → Dt → (Dt → Prop) → Prop
  | .int a, .int b, P => (b ≠ 0 ∧ DivOk a b) ∧ P (.int (a.fdiv b))
  | _, _, _ => False
@[simp] theorem divI_r1  {a : Int} {b : Int} {P : (Dt → Prop)} : divI (.int a) (.int b) P = ((b ≠ 0 ∧ DivOk a b) ∧ P (.int (a.fdiv b))) := id rfl
def modI : Dt → Dt → (Dt → Prop) → Prop
  | .int a, .int b, P => b ≠ 0 ∧ P (.int (a.fmod b))
  | _, _, _ => False
@[simp] theorem modI_r1  {a : Int} {b : Int} {P : (Dt → Prop)} : modI (.int a) (.int b) P = (b ≠ 0 ∧ P (.int (a.fmod b))) := id rfl
def catL : Dt → Dt → (Dt → Prop) → Prop
  | .lst xs, .lst ys, P => xs.length + ys.length ≤ 16777216 ∧ P (.lst (xs ++ ys))
  | _, _, _ => False
@[simp] theorem catL_r1  {xs : List Dt} {ys : List Dt} {P : (Dt → Prop)} : catL (.lst xs) (.lst ys) P = (xs.length + ys.length ≤ 16777216 ∧ P (.lst (xs ++ ys))) := id rfl
def catT : Dt → Dt → (Dt → Prop) → Prop
  | .tup xs, .tup ys, P => xs.length + ys.length ≤ 16777216 ∧ P (.tup (xs ++ ys))
  | _, _, _ => False
section
set_option autoImplicit true
@[simp] theorem catT_r1 {xs ys : List Dt} {P : Dt → Prop} : catT (.tup xs) (.tup ys) P = (xs.length + ys.length ≤ 16777216 ∧ P (.tup (xs ++ ys))) := id rfl
end
def catS : Dt → Dt → (Dt → Prop) → Prop
  | .str xs, .str ys, P => xs.length + ys.length ≤ 16777216 ∧ P (.str (xs ++ ys))
  | _, _, _ => False
@[simp] theorem catS_r1  {xs : Str} {ys : Str} {P : (Dt → Prop)} : catS (.str xs) (.str ys) P = (xs.length + ys.length ≤ 16777216 ∧ P (.str (xs ++ ys))) := id rfl
def repL : Dt → Dt → (Dt → Prop) → Prop
  | .lst xs, .int k, P => (-(2 ^ 63) ≤ k ∧ k < 2 ^ 63 ∧ xs.length * k.toNat ≤ 16777216) ∧ P (.lst (List.replicate k.toNat xs).flatten)
  | _, _, _ => False
@[simp] theorem repL_r1  {xs : List Dt} {k : Int} {P : (Dt → Prop)} : repL (.lst xs) (.int k) P = ((-(2 ^ 63) ≤ k ∧ k < 2 ^ 63 ∧ xs.length * k.toNat ≤ 16777216) ∧ P (.lst (List.replicate k.toNat xs).flatten)) := id rfl
section
variable {K : Fr}
theorem ops_I0 {g : Int → Int → V} {gd : Int → Int → Dt} {f : Dt → Dt → (Dt → Prop) → Prop} (hg : ∀ i j dr I, Rp K dr I (g i j) (gd i j)) (hf : ∀ x y P, f x y P → ∃ i j, x = .int i ∧ y = .int j ∧ P (gd i j)) : OpS K (rI0 g) f := by
  intro dr I H x y v u P p hx hy h Q q
  obtain ⟨i, j, rfl, rfl, hP⟩ := hf x y P h
  exact ⟨i, j, hx.int, hy.int, q _ _ H hP Kp.refl (rp_at p (hg i j _ _))⟩
theorem ops_I {C : Int → Int → Prop} {g : Int → Int → V} {gd : Int → Int → Dt} {f : Dt → Dt → (Dt → Prop) → Prop} (hg : ∀ i j dr I, Rp K dr I (g i j) (gd i j)) (hf : ∀ x y P, f x y P → ∃ i j, x = .int i ∧ y = .int j ∧ C i j ∧ P (gd i j)) : OpS K (rI C g) f := by
  intro dr I H x y v u P p hx hy h Q q
  obtain ⟨i, j, rfl, rfl, hC, hP⟩ := hf x y P h
  exact ⟨i, j, hx.int, hy.int, hC, q _ _ H hP Kp.refl (rp_at p (hg i j _ _))⟩
theorem ops_add : OpS K (rI0 fun i j => .int (i + j)) addI := ops_I0 (gd := fun i j => .int (i + j)) (fun i j _ _ => .int _) fun x y P h => by
  unfold addI at h
  split at h
  · exact ⟨_, _, rfl, rfl, h⟩
  · exact h.elim
theorem ops_sub : OpS K (rI0 fun i j => .int (i - j)) subI := ops_I0 (gd := fun i j => .int (i - j)) (fun i j _ _ => .int _) fun x y P h => by
  unfold subI at h
  split at h
  · exact ⟨_, _, rfl, rfl, h⟩
  · exact h.elim
theorem ops_mul : OpS K (rI IntMulOk fun i j => .int (i * j)) mulI := ops_I (gd := fun i j => .int (i * j)) (fun i j _ _ => .int _) fun x y P h => by
  unfold mulI at h
  split at h
  · exact ⟨_, _, rfl, rfl, h⟩
  · exact h.elim
theorem ops_div : OpS K (rI (fun i j => j ≠ 0 ∧ DivOk i j) fun i j => .int (i.fdiv j)) divI := ops_I (gd := fun i j => .int (i.fdiv j)) (fun i j _ _ => .int _) fun x y P h => by
  unfold divI at h
  split at h
  · exact ⟨_, _, rfl, rfl, h⟩
  · exact h.elim
theorem ops_mod : OpS K (rI (fun _ j => j ≠ 0) fun i j => .int (i.fmod j)) modI := ops_I (gd := fun i j => .int (i.fmod j)) (fun i j _ _ => .int _) fun x y P h => by
  unfold modI at h
  split at h
  · exact ⟨_, _, rfl, rfl, h⟩
  · exact h.elim
theorem opn_cat : OpN K rCat catL := by
  intro dr I H x y v u P p hx hy h Q q
  unfold catL at h
  split at h
  · obtain ⟨a, vs, rfl, ha, r⟩ := hx.lst p.sub
    obtain ⟨b, ws, rfl, hb, s⟩ := hy.lst p.sub
    exact ⟨a, b, vs, ws, rfl, rfl, ha, hb, size_le (by rw [r.len, s.len]; exact h.1), fun l hl => q _ _ _ h.2 (Kp.new p hl) (new_lst p hl (r.append s))⟩
  · exact h.elim
theorem opn_rep : OpN K rRep repL := by
  intro dr I H x y v u P p hx hy h Q q
  unfold repL at h
  split at h
  · obtain ⟨⟨h1, h2, h3⟩, hP⟩ := h
    obtain ⟨a, vs, rfl, ha, r⟩ := hx.lst p.sub
    obtain rfl := hy.int
    exact ⟨a, _, vs, rfl, rfl, ha, h1, h2, size_le (by rw [r.len]; exact h3), fun l hl => q _ _ _ hP (Kp.new p hl) (new_lst p hl (r.rep _))⟩
  · exact h.elim
theorem ops_catT : OpS K (rCatF K) catT := by
  intro dr I H x y v u P p hx hy h Q q
  unfold catT at h
  split at h
  · obtain ⟨a, vs, rfl, ha, r⟩ := hx.tup p.sub
    obtain ⟨b, ws, rfl, hb, s⟩ := hy.tup p.sub
    rename_i xs ys
    have rx : Rp K dr I (.ref a) (.tup xs) := by
      rcases hx with hx | ⟨_, _, _, _, h3⟩
      · exact hx
      · exact h3.elim
    have ry : Rp K dr I (.ref b) (.tup ys) := by
      rcases hy with hy | ⟨_, _, _, _, h3⟩
      · exact hy
      · exact h3.elim
    refine ⟨a, b, vs, ws, rfl, rfl, ha, hb, size_le (by rw [r.len, s.len]; exact h.1), fun e => ?_, fun e e2 => ?_, fun e e2 l ob hob hl => ?_⟩
    · subst e
      have hh := r.len
      cases xs with
      | nil => exact q _ _ _ h.2 Kp.refl (rp_at p ry)
      | cons _ _ => simp at hh
    · subst e2
      have hh := s.len
      cases ys with
      | nil => rw [List.append_nil] at h; exact q _ _ _ h.2 Kp.refl (rp_at p rx)
      | cons _ _ => simp at hh
    · exact q _ _ _ h.2 (Kp.new p hl) (rp_new_tup p hob hl (r.append s))
  · exact h.elim
theorem ops_catS : OpS K (fun x y H Q => ∃ i j, x = .str i ∧ y = .str j ∧ i.length + j.length ≤ sizeLine ∧ Q (.str (i ++ j)) H) catS := by
  intro dr I H x y v u P p hx hy h Q q
  unfold catS at h
  split at h
  · exact ⟨_, _, hx.str, hy.str, size_le h.1, q _ _ H h.2 Kp.refl (.str _)⟩
  · exact h.elim
end
section
variable {xr : XR} {X : Cx} {W : WX} {e a b c : Expr} {es : List Expr} {ie ia ib ic : IE} {it iu : IT} {il : IA} {pos : Pos}
theorem le_add (ha : LO xr X W a ia) (hb : LO xr X W b ib) : LE xr X W (.BinOp a .Add b pos) (eOp addI ia ib) := le_bin op_add ops_add ha hb
theorem le_sub (ha : LO xr X W a ia) (hb : LO xr X W b ib) : LE xr X W (.BinOp a .Sub b pos) (eOp subI ia ib) := le_bin op_sub ops_sub ha hb
theorem le_mul (ha : LO xr X W a ia) (hb : LO xr X W b ib) : LE xr X W (.BinOp a .Mult b pos) (eOp mulI ia ib) := le_bin op_mulK ops_mul ha hb
theorem le_div (ha : LO xr X W a ia) (hb : LO xr X W b ib) : LE xr X W (.BinOp a .FloorDiv b pos) (eOp divI ia ib) := le_bin op_fdivK ops_div ha hb
theorem le_mod (ha : LO xr X W a ia) (hb : LO xr X W b ib) : LE xr X W (.BinOp a .Mod b pos) (eOp modI ia ib) := le_bin op_modN ops_mod ha hb
theorem ln_cat (ha : LO xr X W a ia) (hb : LO xr X W b ib) : LN xr X W (.BinOp a .Add b pos) (eOp catL ia ib) := ln_bin op_cat opn_cat ha hb
theorem ln_rep (ha : LO xr X W a ia) (hb : LO xr X W b ib) : LN xr X W (.BinOp a .Mult b pos) (eOp repL ia ib) := ln_bin op_rep opn_rep ha hb
theorem le_catT (ha : LO xr X W a ia) (hb : LO xr X W b ib) : LE xr X W (.BinOp a .Add b pos) (eOp catT ia ib) := le_bin op_catF ops_catT ha hb
theorem le_catS (ha : LO xr X W a ia) (hb : LO xr X W b ib) : LE xr X W (.BinOp a .Add b pos) (eOp catS ia ib) := le_bin op_add_str ops_catS ha hb
def negI : Dt → (Dt → Prop) → Prop
  | .int a, P => P (.int (-a))
  | _, _ => False
@[simp] theorem negI_r1  {a : Int} {P : (Dt → Prop)} : negI (.int a) P = (P (.int (-a))) := id rfl
theorem le_neg (ha : LO xr X W a ia) : LE xr X W (.UnaryOp .USub a pos) (eUn negI ia) := by
  obtain ⟨_, p, s⟩ := ha
  refine ⟨_, pe_un un_neg p, snd_un (fun dr I H x v P pr hx h Q q => ?_) s⟩
  unfold negI at h
  split at h
  · exact ⟨_, hx.int, q _ _ H h Kp.refl (.int _)⟩
  · exact h.elim

/-! ### comparisons -/
def ltI : Dt → Dt → (Dt → Prop) → Prop
  | .int a, .int b, P => P (.bl (decide (a < b)))
  | _, _, _ => False
@[simp] theorem ltI_r1  {a : Int} {b : Int} {P : (Dt → Prop)} : ltI (.int a) (.int b) P = (P (.bl (decide (a < b)))) := id rfl
def leI : Dt → Dt → (Dt → Prop) → Prop
  | .int a, .int b, P => P (.bl (decide (a ≤ b)))
  | _, _, _ => False
@[simp] theorem leI_r1  {a : Int} {b : Int} {P : (Dt → Prop)} : leI (.int a) (.int b) P = (P (.bl (decide (a ≤ b)))) := id rfl
def gtI : Dt → Dt → (Dt → Prop) → Prop
  | .int a, .int b, P => P (.bl (decide (b < a)))
  | _, _, _ => False
@[simp] theorem gtI_r1  {a : Int} {b : Int} {P : (Dt → Prop)} : gtI (.int a) (.int b) P = (P (.bl (decide (b < a)))) := id rfl
def geI : Dt → Dt → (Dt → Prop) → Prop
  | .int a, .int b, P => P (.bl (decide (b ≤ a)))
  | _, _, _ => False
@[simp] theorem geI_r1  {a : Int} {b : Int} {P : (Dt → Prop)} : geI (.int a) (.int b) P = (P (.bl (decide (b ≤ a)))) := id rfl
def eqD (x y : Dt) (P : Dt → Prop) : Prop := (okD x ∧ okD y) ∧ P (.bl (eqv x y))
def neD (x y : Dt) (P : Dt → Prop) : Prop := (okD x ∧ okD y) ∧ P (.bl (!eqv x y))
def inL : Dt → Dt → (Dt → Prop) → Prop
  | x, .lst ys, P => (okD x ∧ okD (.lst ys)) ∧ P (.bl (ys.any fun y => eqv y x))
  | x, .tup ys, P => (okD x ∧ okD (.tup ys)) ∧ P (.bl (ys.any fun y => eqv y x))
  | _, _, _ => False
@[simp] theorem inL_r1  {x : Dt} {ys : List Dt} {P : (Dt → Prop)} : inL x (.lst ys) P = ((okD x ∧ okD (.lst ys)) ∧ P (.bl (ys.any fun y => eqv y x))) := id rfl
@[simp] theorem inL_r2  {x : Dt} {ys : List Dt} {P : (Dt → Prop)} : inL x (.tup ys) P = ((okD x ∧ okD (.tup ys)) ∧ P (.bl (ys.any fun y => eqv y x))) := id rfl
def niL : Dt → Dt → (Dt → Prop) → Prop
  | x, .lst ys, P => (okD x ∧ okD (.lst ys)) ∧ P (.bl (!ys.any fun y => eqv y x))
  | x, .tup ys, P => (okD x ∧ okD (.tup ys)) ∧ P (.bl (!ys.any fun y => eqv y x))
  | _, _, _ => False
@[simp] theorem niL_r1  {x : Dt} {ys : List Dt} {P : (Dt → Prop)} : niL x (.lst ys) P = ((okD x ∧ okD (.lst ys)) ∧ P (.bl (!ys.any fun y => eqv y x))) := id rfl
@[simp] theorem niL_r2  {x : Dt} {ys : List Dt} {P : (Dt → Prop)} : niL x (.tup ys) P = ((okD x ∧ okD (.tup ys)) ∧ P (.bl (!ys.any fun y => eqv y x))) := id rfl
def isNonD : Dt → Bool
  | .non => true
  | _ => false
section
set_option autoImplicit true
@[simp] theorem isNonD_r1 : isNonD .non = (true) := id rfl
@[simp] theorem isNonD_bl {q : Bool} : isNonD (.bl q) = false := rfl
@[simp] theorem isNonD_int : isNonD (.int i) = false := rfl
@[simp] theorem isNonD_str : isNonD (.str x) = false := rfl
@[simp] theorem isNonD_lst : isNonD (.lst x) = false := rfl
@[simp] theorem isNonD_tup : isNonD (.tup x) = false := rfl
@[simp] theorem isNonD_dic : isNonD (.dic x y) = false := rfl
@[simp] theorem isNonD_dit : isNonD (.dit x y) = false := rfl
@[simp] theorem isNonD_st : isNonD (.st) = false := rfl
end
def isN (x y : Dt) (P : Dt → Prop) : Prop := match y with
  | .non => P (.bl (isNonD x))
  | .bl b => (match x with | .bl a => P (.bl (decide (a = b))) | _ => False)
  | _ => False
def niN (x y : Dt) (P : Dt → Prop) : Prop := match y with
  | .non => P (.bl (!isNonD x))
  | .bl b => (match x with | .bl a => P (.bl (!decide (a = b))) | _ => False)
  | _ => False
def CmpS (X : Cx) (op : CmpOp) (f : Dt → Dt → (Dt → Prop) → Prop) : Prop := ∃ r, OpR X (compareOp op) r ∧ OpS X.K r f
theorem c_lt : CmpS X .Lt ltI := ⟨_, op_lt, ops_I0 (gd := fun i j => .bl (decide (i < j))) (fun i j _ _ => .bl _) fun x y P h => by
  unfold ltI at h
  split at h
  · exact ⟨_, _, rfl, rfl, h⟩
  · exact h.elim⟩
theorem c_le : CmpS X .LtE leI := ⟨_, op_le, ops_I0 (gd := fun i j => .bl (decide (i ≤ j))) (fun i j _ _ => .bl _) fun x y P h => by
  unfold leI at h
  split at h
  · exact ⟨_, _, rfl, rfl, h⟩
  · exact h.elim⟩
theorem c_gt : CmpS X .Gt gtI := ⟨_, op_gt, ops_I0 (gd := fun i j => .bl (decide (j < i))) (fun i j _ _ => .bl _) fun x y P h => by
  unfold gtI at h
  split at h
  · exact ⟨_, _, rfl, rfl, h⟩
  · exact h.elim⟩
theorem c_ge : CmpS X .GtE geI := ⟨_, op_ge, ops_I0 (gd := fun i j => .bl (decide (j ≤ i))) (fun i j _ _ => .bl _) fun x y P h => by
  unfold geI at h
  split at h
  · exact ⟨_, _, rfl, rfl, h⟩
  · exact h.elim⟩
theorem c_eq (hu : X.A.units + 65 < cLine) : CmpS X .Eq eqD := ⟨_, op_eqD (by omega), fun dr I H x y v u P p hx hy h Q q =>
  ⟨_, _, hx.dp p h.1.1, hy.dp p h.1.2, h.1.1, h.1.2, q _ _ H h.2 Kp.refl (.bl _)⟩⟩
theorem c_ne (hu : X.A.units + 65 < cLine) : CmpS X .NotEq neD := ⟨_, op_neD (by omega), fun dr I H x y v u P p hx hy h Q q =>
  ⟨_, _, hx.dp p h.1.1, hy.dp p h.1.2, h.1.1, h.1.2, q _ _ H h.2 Kp.refl (.bl _)⟩⟩
def rInDT (K : Fr) : R2 := fun x y H Q => ∃ d ds, Dp K H x d ∧ Dp K H y (.tuple ds) ∧ SeqAt.shaped d = true ∧ SeqAt.shaped (.tuple ds) = true ∧ Q (.bl (ds.any fun z => PyData.eqv z d)) H
def rNotInDT (K : Fr) : R2 := fun x y H Q => ∃ d ds, Dp K H x d ∧ Dp K H y (.tuple ds) ∧ SeqAt.shaped d = true ∧ SeqAt.shaped (.tuple ds) = true ∧ Q (.bl (!ds.any fun z => PyData.eqv z d)) H
theorem op_inDT (hu : X.A.units + 65 < cLine) : OpR X (compareOp .In) (rInDT X.K) := by
  intro pins s σ H x y v u Q I rx ry h
  obtain ⟨d, ds, hd, he, sd, se, q⟩ := h
  obtain ⟨as, r1⟩ := Dp.reads I d x v hd rx
  obtain ⟨bs, r2⟩ := Dp.reads I (.tuple ds) y u he ry
  exact SeqAt.in_tuple_reads r2 r1 (SeqAt.canLay_of_shaped se) (SeqAt.canLay_of_shaped sd) (room_in_shaped sd hu) ⟨.bl _, H, I, rfl, q⟩
theorem op_notInDT (hu : X.A.units + 65 < cLine) : OpR X (compareOp .NotIn) (rNotInDT X.K) := by
  intro pins s σ H x y v u Q I rx ry h
  obtain ⟨d, ds, hd, he, sd, se, q⟩ := h
  obtain ⟨as, r1⟩ := Dp.reads I d x v hd rx
  obtain ⟨bs, r2⟩ := Dp.reads I (.tuple ds) y u he ry
  exact SeqAt.notIn_tuple_reads r2 r1 (SeqAt.canLay_of_shaped se) (SeqAt.canLay_of_shaped sd) (room_in_shaped sd hu) ⟨.bl _, H, I, rfl, q⟩
theorem any_py {x : Dt} : ∀ ys : List Dt, (pyL ys).any (fun z => PyData.eqv z x.py) = ys.any fun y => eqv y x
  | [] => rfl
  | y :: ys => by rw [pyL, List.any_cons, List.any_cons, any_py ys]; rfl
theorem c_in (hu : X.A.units + 65 < cLine) : CmpS X .In inL := by
  refine ⟨_, OpR.or (op_inD hu) (op_inDT hu), fun dr I H x y v u P p hx hy h Q q => ?_⟩
  unfold inL at h
  split at h
  · obtain ⟨⟨h1, h2⟩, h3⟩ := h
    have e := hy.dp p h2
    have h2' := h2
    unfold okD at h2'
    rw [Dt.py] at e h2'
    exact .inl ⟨_, _, hx.dp p h1, e, h1, h2', q _ _ H h3 Kp.refl (by rw [any_py]; exact .bl _)⟩
  · obtain ⟨⟨h1, h2⟩, h3⟩ := h
    have e := hy.dp p h2
    have h2' := h2
    unfold okD at h2'
    rw [Dt.py] at e h2'
    exact .inr ⟨_, _, hx.dp p h1, e, h1, h2', q _ _ H h3 Kp.refl (by rw [any_py]; exact .bl _)⟩
  · exact h.elim
theorem c_ni (hu : X.A.units + 65 < cLine) : CmpS X .NotIn niL := by
  refine ⟨_, OpR.or (op_notInD hu) (op_notInDT hu), fun dr I H x y v u P p hx hy h Q q => ?_⟩
  unfold niL at h
  split at h
  · obtain ⟨⟨h1, h2⟩, h3⟩ := h
    have e := hy.dp p h2
    have h2' := h2
    unfold okD at h2'
    rw [Dt.py] at e h2'
    exact .inl ⟨_, _, hx.dp p h1, e, h1, h2', q _ _ H h3 Kp.refl (by rw [any_py]; exact .bl _)⟩
  · obtain ⟨⟨h1, h2⟩, h3⟩ := h
    have e := hy.dp p h2
    have h2' := h2
    unfold okD at h2'
    rw [Dt.py] at e h2'
    exact .inr ⟨_, _, hx.dp p h1, e, h1, h2', q _ _ H h3 Kp.refl (by rw [any_py]; exact .bl _)⟩
  · exact h.elim
theorem sh_non_iff {K : Fr} {dr : Dr} {I H : Hp} {v : V} {d : Dt} (h : Sh K dr I H v d) : decide (v = .non) = isNonD d := by
  rcases h with h | ⟨p, rfl, _, _, h⟩
  · cases h <;> simp
  · cases d <;> first | exact h.elim | simp
theorem c_is : CmpS X .Is isN := by
  refine ⟨_, OpR.or op_isN op_isBl, fun dr I H x y v u P p hx hy h Q q => ?_⟩
  unfold isN at h
  split at h
  · exact .inl ⟨hy.non, q _ _ H h Kp.refl (by rw [sh_non_iff hx]; exact .bl _)⟩
  · split at h
    · exact .inr ⟨_, _, hx.bl, hy.bl, q _ _ H h Kp.refl (.bl _)⟩
    · exact h.elim
  · exact h.elim
theorem c_isnot : CmpS X .IsNot niN := by
  refine ⟨_, OpR.or op_notN op_notBl, fun dr I H x y v u P p hx hy h Q q => ?_⟩
  unfold niN at h
  split at h
  · refine .inl ⟨hy.non, q _ _ H h Kp.refl ?_⟩
    rw [sh_non_iff hx]
    exact .bl _
  · split at h
    · exact .inr ⟨_, _, hx.bl, hy.bl, q _ _ H h Kp.refl (.bl _)⟩
    · exact h.elim
  · exact h.elim
theorem le_cmp {op : CmpOp} {f : Dt → Dt → (Dt → Prop) → Prop} (hc : CmpS X op f) (ha : LO xr X W a ia) (hb : LO xr X W b ib) (hm : behindInMarks op b = false := by first | exact nomark _ | rfl) : LE xr X W (.Compare a [op] [b] pos) (eOp f ia ib) :=
  let ⟨_, ho, hs⟩ := hc; let ⟨_, p, s⟩ := ha; let ⟨_, q, t⟩ := hb; ⟨_, pe_cmpR ho p q hm, snd_op hs s t⟩
theorem lt_cmp {op : CmpOp} {f : Dt → Dt → (Dt → Prop) → Prop} (hc : CmpS X op f) (ha : LO xr X W a ia) (hb : LO xr X W b ib) (hm : behindInMarks op b = false := by first | exact nomark _ | rfl) : LT xr X W (.Compare a [op] [b] pos) (bT (eOp f ia ib)) :=
  let ⟨_, ho, hs⟩ := hc; let ⟨_, p, s⟩ := ha; let ⟨_, q, t⟩ := hb; ⟨_, pt_cmpR ho p q hm, sndT_test (snd_op hs s t)⟩
theorem le_chain {op op' : CmpOp} {f g : Dt → Dt → (Dt → Prop) → Prop} (hc : CmpS X op f) (hc' : CmpS X op' g) (ha : LO xr X W a ia) (hb : LO xr X W b ib) (hcc : LO xr X W c ic) (hm : lastMarks [op, op'] [b, c] = false := by with_unfolding_all rfl) :
    LE xr X W (.Compare a [op, op'] [b, c] pos) (eChain f g ia ib ic) := by
  obtain ⟨_, ho, hs⟩ := hc
  obtain ⟨_, ho', hs'⟩ := hc'
  obtain ⟨_, p, s⟩ := ha
  obtain ⟨_, p2, s2⟩ := hb
  obtain ⟨_, p3, s3⟩ := hcc
  exact ⟨_, pe_chain ho ho' p p2 p3 hm, snd_chain hs hs' s s2 s3⟩
theorem lt_chain {op op' : CmpOp} {f g : Dt → Dt → (Dt → Prop) → Prop} (hc : CmpS X op f) (hc' : CmpS X op' g) (ha : LO xr X W a ia) (hb : LO xr X W b ib) (hcc : LO xr X W c ic) (hm : lastMarks [op, op'] [b, c] = false := by with_unfolding_all rfl) :
    LT xr X W (.Compare a [op, op'] [b, c] pos) (bT (eChain f g ia ib ic)) := by
  obtain ⟨_, ho, hs⟩ := hc
  obtain ⟨_, ho', hs'⟩ := hc'
  obtain ⟨_, p, s⟩ := ha
  obtain ⟨_, p2, s2⟩ := hb
  obtain ⟨_, p3, s3⟩ := hcc
  exact ⟨_, pt_chain ho ho' p p2 p3 hm, sndT_test (snd_chain hs hs' s s2 s3)⟩

/-! ### tests, and, or, not, if -/
theorem lt_val (h : LE xr X W e ie) (he : ∀ whole, isTrue e X.env whole = (do let v ← whole; standAt e.pos; holding [v] (truthy v)) := by intro _; rfl) : LT xr X W e (bT ie) := let ⟨_, p, s⟩ := h; ⟨_, pt_val p he, sndT_B s⟩
theorem lt_not (h : LT xr X W e it) : LT xr X W (.UnaryOp .Not e pos) (bNot it) := let ⟨_, p, s⟩ := h; ⟨_, pt_not p, sndT_not s⟩
theorem lw_and1 (h : LT xr X W e it) : LW xr X W (.BoolOp .And [e] pos) it := let ⟨_, p, s⟩ := h; ⟨_, pw_and1 p, s⟩
theorem lw_or1 (h : LT xr X W e it) : LW xr X W (.BoolOp .Or [e] pos) it := let ⟨_, p, s⟩ := h; ⟨_, pw_or1 p, s⟩
theorem lw_and (h : LT xr X W e it) (hr : LW xr X W (.BoolOp .And (b :: es) pos) iu) : LW xr X W (.BoolOp .And (e :: b :: es) pos) (bAnd it iu) := let ⟨_, p, s⟩ := h; let ⟨_, q, t⟩ := hr; ⟨_, pw_and p q, sndT_and s t⟩
theorem lw_or (h : LT xr X W e it) (hr : LW xr X W (.BoolOp .Or (b :: es) pos) iu) : LW xr X W (.BoolOp .Or (e :: b :: es) pos) (bOr it iu) := let ⟨_, p, s⟩ := h; let ⟨_, q, t⟩ := hr; ⟨_, pw_or p q, sndT_or s t⟩
theorem LW.t (h : LW xr X W e it) : LT xr X W e it := let ⟨_, p, s⟩ := h; ⟨_, p.pt, s⟩
theorem le_one {op} (h : LE xr X W e ie) : LE xr X W (.BoolOp op [e] pos) ie := let ⟨_, p, s⟩ := h; ⟨_, pe_one p, s⟩
theorem le_and (h : LE xr X W e ie) (hr : LE xr X W (.BoolOp .And (b :: es) pos) ib) : LE xr X W (.BoolOp .And (e :: b :: es) pos) (eAnd ie ib) := let ⟨_, p, s⟩ := h; let ⟨_, q, t⟩ := hr; ⟨_, pe_and p q, snd_and s t⟩
theorem le_or (h : LE xr X W e ie) (hr : LE xr X W (.BoolOp .Or (b :: es) pos) ib) : LE xr X W (.BoolOp .Or (e :: b :: es) pos) (eOr ie ib) := let ⟨_, p, s⟩ := h; let ⟨_, q, t⟩ := hr; ⟨_, pe_or p q, snd_or s t⟩
theorem le_not (h : LE xr X W e ie) : LE xr X W (.UnaryOp .Not e pos) (eNot ie) := let ⟨_, p, s⟩ := h; ⟨_, pe_not p, snd_not s⟩
theorem le_if (hc : LT xr X W c it) (ha : LE xr X W a ia) (hb : LE xr X W b ib) : LE xr X W (.IfExp c a b pos) (eIf it ia ib) := let ⟨_, p, s⟩ := hc; let ⟨_, p2, s2⟩ := ha; let ⟨_, p3, s3⟩ := hb; ⟨_, pe_ifExp p p2 p3, snd_if s s2 s3⟩
theorem ln_if (hc : LT xr X W c it) (ha : LN xr X W a ia) (hb : LN xr X W b ib) : LN xr X W (.IfExp c a b pos) (eIf it ia ib) := let ⟨_, p, s⟩ := hc; let ⟨_, p2, s2⟩ := ha; let ⟨_, p3, s3⟩ := hb; ⟨_, pe_ifExp p p2 p3, sndN_if s s2 s3⟩
end
end DL

set_option maxRecDepth 100000
/-! DL4: subscripts, slices, built-in calls, calls of defs, comprehensions. -/
namespace DL
open PySem L2 PyProof.Rows

/-! ### subscripts -/
def ixD : Dt → Dt → (Dt → Prop) → Prop
  | .lst xs, .int i, P => ∃ d, atI xs i = some d ∧ P d
  | .tup xs, .int i, P => ∃ d, atI xs i = some d ∧ P d
  | .str x, .int i, P => x.length ≤ 16777216 ∧ ∃ c, atI x.cps.toList i = some c ∧ P (.str ⟨#[c]⟩)
  | _, _, _ => False
section
set_option autoImplicit true
@[simp] theorem ixD_r1 : ixD (.lst xs) (.int i) P = (∃ d, atI xs i = some d ∧ P d) := id rfl
@[simp] theorem ixD_r2 : ixD (.tup xs) (.int i) P = (∃ d, atI xs i = some d ∧ P d) := id rfl
@[simp] theorem ixD_r3 : ixD (.str x) (.int i) P = (x.length ≤ 16777216 ∧ ∃ c, atI x.cps.toList i = some c ∧ P (.str ⟨#[c]⟩)) := id rfl
end
theorem RpL.atI {K : Fr} {dr : Dr} {H : Hp} {vs : List V} {ds : List Dt} {i : Int} {d : Dt} (r : RpL K dr H vs ds) (h : L2.atI ds i = some d) : ∃ v, L2.atI vs i = some v ∧ Rp K dr H v d := by
  unfold L2.atI at h ⊢
  rw [r.len]
  cases e : ixN ds.length i with
  | none => rw [e] at h; cases h
  | some j =>
    rw [e] at h
    exact r.get h
theorem ops_ix {K : Fr} : OpS K (fun x y H Q => rIxL K x y H Q ∨ rIxT K x y H Q ∨ rIxS x y H Q) ixD := by
  intro dr I H x y v u P p hx hy h Q q
  unfold ixD at h
  split at h
  · obtain ⟨d, e, hP⟩ := h
    obtain ⟨a, vs, rfl, ha, r⟩ := hx.lst p.sub
    obtain ⟨w, e2, rw'⟩ := r.atI e
    exact .inl ⟨a, vs, _, w, rfl, hy.int, SqL.of ha, e2, q _ _ H hP Kp.refl (rp_at p rw')⟩
  · obtain ⟨d, e, hP⟩ := h
    obtain ⟨a, vs, rfl, ha, r⟩ := hx.tup p.sub
    obtain ⟨w, e2, rw'⟩ := r.atI e
    exact .inr (.inl ⟨a, vs, _, w, rfl, hy.int, ha, e2, q _ _ H hP Kp.refl (rp_at p rw')⟩)
  · obtain ⟨hz, c, e, hP⟩ := h
    exact .inr (.inr ⟨_, _, c, hx.str, hy.int, size_le hz, e, q _ _ H hP Kp.refl (.str _)⟩)
  · exact h.elim

/-! ### slices -/
def cut {α : Type} (xs : List α) (lo hi : Option Int) : List α := (xs.drop (HT.sIx xs.length 0 lo)).take (HT.sIx xs.length xs.length hi - HT.sIx xs.length 0 lo)
theorem RpL.cut {K : Fr} {dr : Dr} {H : Hp} {vs : List V} {ds : List Dt} {lo hi : Option Int} (r : RpL K dr H vs ds) : RpL K dr H (cutV vs lo hi) (cut ds lo hi) := by
  unfold cutV DL.cut
  rw [r.len]
  exact (r.drop _).take _
def pNo : IP := fun _ P _ => P none
def asI : Dt → (Int → Prop) → Prop
  | .int i, P => P i
  | _, _ => False
@[simp] theorem asI_r1  {i : Int} {P : (Int → Prop)} : asI (.int i) P = (P i) := id rfl
def pAt (ia : IE) : IP := fun env P E => ia env (fun x => asI x fun i => P (some i)) E
section
variable {K : Fr} {xr : XR} {W : WX} {te : TE} {ie : IE} {t1 t2 : TO} {i1 i2 : IP}
theorem isInt {dr : Dr} {H : Hp} {v : V} {d : Dt} {P : Int → Prop} (r : Rp K dr H v d) (h : asI d P) : ∃ b, v = .int b ∧ P b := by
  cases d with
  | int b => cases r; exact ⟨b, rfl, h⟩
  | _ => exact h.elim
theorem sndP_no : SndP K xr W tNoPart pNo := fun dr env σ I H P E p ev hi o Q q => q none H hi Kp.refl
theorem sndP_at (ha : Snd K xr W te ie) : SndP K xr W (tPart te) (pAt ie) := fun dr env σ I H P E p ev hi o Q q =>
  ha dr env σ I H _ E p ev hi o _ fun x v H1 hx k1 r1 => let ⟨b, e, hb⟩ := isInt r1 hx; ⟨b, e, q _ H1 hb k1⟩
def SlS (K : Fr) (r : V → Option Int → Option Int → Hp → VK → Prop) (f : Dt → Option Int → Option Int → (Dt → Prop) → Prop) : Prop := ∀ dr I H x v lo hi P, Pre dr I H → Sh K dr I H v x → f x lo hi P → ∀ Q : VK, (∀ d w H', P d → Kp dr H H' → Rp K dr (ext I H H') w d → Q w H') → r v lo hi H Q
def SlN (K : Fr) (r : V → Option Int → Option Int → Hp → VK → Prop) (f : Dt → Option Int → Option Int → (Dt → Prop) → Prop) : Prop := ∀ dr I H x v lo hi P, Pre dr I H → Sh K dr I H v x → f x lo hi P → ∀ Q : VK, (∀ d w H', P d → Kp dr H H' → New K dr I H H' w d → Q w H') → r v lo hi H Q
def eSl (f : Dt → Option Int → Option Int → (Dt → Prop) → Prop) (ia : IE) (i1 i2 : IP) : IE := fun env P E => ia env (fun x => i1 env (fun lo => i2 env (fun hi => f x lo hi P) E) E) E
theorem sl_three (ha : SndO K xr W te ie) (h1 : SndP K xr W t1 i1) (h2 : SndP K xr W t2 i2) {dr : Dr} {env : List Sl} {σ : L2.St} {I H : Hp} {R : Dt → Option Int → Option Int → Prop} {E : Xc → Prop} (p : Pre dr I H) (ev : EnvOk K dr env σ I H)
    (hi : ie env (fun x => i1 env (fun lo => i2 env (fun hi => R x lo hi) E) E) E) (o : OutE xr W dr σ H E) (Q : V → Option Int → Option Int → Hp → Prop)
    (q : ∀ x v lo hi H', R x lo hi → Kp dr H H' → Pre dr (ext I H H') H' → Sh K dr (ext I H H') H' v x → Q v lo hi H') : te σ H fun v H1 => t1 σ H1 fun lo H2 => t2 σ H2 fun hi H3 => Q v lo hi H3 := by
  refine ha dr env σ I H _ E p ev hi o _ fun x v H1 hx k1 r1 => ?_
  have p1 := p.step k1
  have ev1 := ev.step k1 p
  refine h1 dr env σ _ H1 _ E p1 ev1 hx (o.step k1) _ fun lo H2 hlo k2 => ?_
  have p2 := p1.step k2
  refine h2 dr env σ _ H2 _ E p2 (ev1.step k2 p1) hlo ((o.step k1).step k2) _ fun hi H3 hhi k3 => ?_
  have p3 := p2.step k3
  have r3 := (r1.mono k2 p1).mono k3 p2
  have e1 := p1.ext_ext k2 k3
  have e2 := p.ext_ext k1 (k2.trans k3)
  rw [e1, e2] at r3 p3
  exact q x v lo hi H3 hhi (k1.trans (k2.trans k3)) p3 r3
theorem snd_sl {r : V → Option Int → Option Int → Hp → VK → Prop} {f : Dt → Option Int → Option Int → (Dt → Prop) → Prop} (hr : SlS K r f) (ha : SndO K xr W te ie) (h1 : SndP K xr W t1 i1) (h2 : SndP K xr W t2 i2) : Snd K xr W (tSl r te t1 t2) (eSl f ie i1 i2) := fun dr env σ I H P E p ev hi o Q q =>
  sl_three ha h1 h2 p ev hi o (fun v lo hi H' => r v lo hi H' Q) fun x v lo hi H2 hR k p2 r1 => hr dr _ H2 x v lo hi P p2 r1 hR Q fun d w H3 hP k3 r3 => q d w H3 hP (k.trans k3) (ext_back p k k3 r3)
theorem sndN_sl {r : V → Option Int → Option Int → Hp → VK → Prop} {f : Dt → Option Int → Option Int → (Dt → Prop) → Prop} (hr : SlN K r f) (ha : SndO K xr W te ie) (h1 : SndP K xr W t1 i1) (h2 : SndP K xr W t2 i2) : SndN K xr W (tSl r te t1 t2) (eSl f ie i1 i2) := fun dr env σ I H P E p ev hi o Q q =>
  sl_three ha h1 h2 p ev hi o (fun v lo hi H' => r v lo hi H' Q) fun x v lo hi H2 hR k p2 r1 => hr dr _ H2 x v lo hi P p2 r1 hR Q fun d w H3 hP k3 r3 => q d w H3 hP (k.trans k3) (r3.back p k k3)
def slL : Dt → Option Int → Option Int → (Dt → Prop) → Prop
  | .lst xs, lo, hi, P => P (.lst (cut xs lo hi))
  | _, _, _, _ => False
@[simp] theorem slL_r1  {xs : List Dt} {lo : Option Int} {hi : Option Int} {P : (Dt → Prop)} : slL (.lst xs) lo hi P = (P (.lst (cut xs lo hi))) := id rfl
def slT : Dt → Option Int → Option Int → (Dt → Prop) → Prop
  | .tup xs, lo, hi, P => P (.tup (cut xs lo hi))
  | _, _, _, _ => False
section
set_option autoImplicit true
@[simp] theorem slT_r1 {lo hi : Option Int} : slT (.tup xs) lo hi P = (P (.tup (cut xs lo hi))) := id rfl
end
theorem sln_list : SlN K (rSlL K) slL := by
  intro dr I H x v lo hi P p hx h Q q
  unfold slL at h
  split at h
  · obtain ⟨a, vs, rfl, ha, r⟩ := hx.lst p.sub
    exact ⟨a, vs, rfl, SqL.of ha, fun l hl => q _ _ _ h (Kp.new p hl) (new_lst p hl r.cut)⟩
  · exact h.elim
theorem sls_tup : SlS K (rSlF K) slT := by
  intro dr I H x v lo hi P p hx h Q q
  unfold slT at h
  split at h
  · obtain ⟨a, vs, rfl, ha, r⟩ := hx.tup p.sub
    rename_i xs
    have rx : Rp K dr I (.ref a) (.tup xs) := by
      rcases hx with hx | ⟨_, _, _, _, h3⟩
      · exact hx
      · exact h3.elim
    refine ⟨a, vs, rfl, ha, fun hw => ?_, fun _ l ob hob hl => q _ _ _ h (Kp.new p hl) (rp_new_tup p hob hl r.cut)⟩
    refine q _ _ H h Kp.refl (rp_at p ?_)
    rw [r.len] at hw
    unfold cut
    rw [hw.1, hw.2, List.drop_zero, Nat.sub_zero, List.take_length]
    exact rx
  · exact h.elim
end

/-! ### built-in calls -/
def f1 (f : Dt → (Dt → Prop) → Prop) : List Dt → (Dt → Prop) → Prop
  | [x], P => f x P
  | _, _ => False
def f2 (f : Dt → Dt → (Dt → Prop) → Prop) : List Dt → (Dt → Prop) → Prop
  | [x, y], P => f x y P
  | _, _ => False
theorem shl1 {K : Fr} {dr : Dr} {I H : Hp} {vs : List V} {x : Dt} (h : ShL K dr I H vs [x]) : ∃ v, vs = [v] ∧ Sh K dr I H v x := by
  match vs, h with
  | [v], h => exact ⟨v, rfl, h.1⟩
  | [], h => exact h.elim
  | _ :: _ :: _, h => exact h.2.elim
theorem shl2 {K : Fr} {dr : Dr} {I H : Hp} {vs : List V} {x y : Dt} (h : ShL K dr I H vs [x, y]) : ∃ v u, vs = [v, u] ∧ Sh K dr I H v x ∧ Sh K dr I H u y := by
  match vs, h with
  | [v, u], h => exact ⟨v, u, rfl, h.1, h.2.1⟩
  | [], h => exact h.elim
  | [_], h => exact h.2.elim
  | _ :: _ :: _ :: _, h => exact h.2.2.elim
def lenD : Dt → (Dt → Prop) → Prop
  | .lst xs, P => P (.int xs.length)
  | .tup xs, P => P (.int xs.length)
  | .str x, P => x.length ≤ 16777216 ∧ P (.int x.length)
  | .dic ks _, P => P (.int ks.length)
  | _, _ => False
section
set_option autoImplicit true
@[simp] theorem lenD_r1 : lenD (.lst xs) P = (P (.int xs.length)) := id rfl
@[simp] theorem lenD_r2 : lenD (.tup xs) P = (P (.int xs.length)) := id rfl
@[simp] theorem lenD_r3 : lenD (.str x) P = (x.length ≤ 16777216 ∧ P (.int x.length)) := id rfl
@[simp] theorem lenD_r4 : lenD (.dic ks w1) P = (P (.int ks.length)) := id rfl
end
def absD : Dt → (Dt → Prop) → Prop
  | .int i, P => P (.int (if i < 0 then -i else i))
  | _, _ => False
@[simp] theorem absD_r1  {i : Int} {P : (Dt → Prop)} : absD (.int i) P = (P (.int (if i < 0 then -i else i))) := id rfl
def intD : Dt → (Dt → Prop) → Prop
  | .int i, P => P (.int i)
  | .bl b, P => P (.int (if b then 1 else 0))
  | _, _ => False
@[simp] theorem intD_r1  {i : Int} {P : (Dt → Prop)} : intD (.int i) P = (P (.int i)) := id rfl
@[simp] theorem intD_r2  {b : Bool} {P : (Dt → Prop)} : intD (.bl b) P = (P (.int (if b then 1 else 0))) := id rfl
def strD : Dt → (Dt → Prop) → Prop
  | .int i, P => i.natAbs.log2 < 1920 ∧ P (.str (toString i))
  | _, _ => False
@[simp] theorem strD_r1  {i : Int} {P : (Dt → Prop)} : strD (.int i) P = (i.natAbs.log2 < 1920 ∧ P (.str (toString i))) := id rfl
def tupD : Dt → (Dt → Prop) → Prop
  | .lst xs, P => P (.tup xs)
  | .tup xs, P => P (.tup xs)
  | _, _ => False
section
set_option autoImplicit true
@[simp] theorem tupD_r1 : tupD (.lst xs) P = (P (.tup xs)) := id rfl
@[simp] theorem tupD_r2 : tupD (.tup xs) P = (P (.tup xs)) := id rfl
end
def lstD : Dt → (Dt → Prop) → Prop
  | .lst xs, P => P (.lst xs)
  | .tup xs, P => P (.lst xs)
  | _, _ => False
section
set_option autoImplicit true
@[simp] theorem lstD_r1 : lstD (.lst xs) P = (P (.lst xs)) := id rfl
@[simp] theorem lstD_r2 : lstD (.tup xs) P = (P (.lst xs)) := id rfl
end
def allD : Dt → (Dt → Prop) → Prop
  | .lst xs, P => ∃ bs : List Bool, xs = bs.map Dt.bl ∧ P (.bl (bs.all id))
  | _, _ => False
@[simp] theorem allD_r1  {xs : List Dt} {P : (Dt → Prop)} : allD (.lst xs) P = (∃ bs : List Bool, xs = bs.map Dt.bl ∧ P (.bl (bs.all id))) := id rfl
def anyD : Dt → (Dt → Prop) → Prop
  | .lst xs, P => ∃ bs : List Bool, xs = bs.map Dt.bl ∧ P (.bl (bs.any id))
  | _, _ => False
@[simp] theorem anyD_r1  {xs : List Dt} {P : (Dt → Prop)} : anyD (.lst xs) P = (∃ bs : List Bool, xs = bs.map Dt.bl ∧ P (.bl (bs.any id))) := id rfl
def sumD : Dt → (Dt → Prop) → Prop
  | .lst xs, P => ∃ ns : List Int, xs = ns.map Dt.int ∧ P (.int ns.sum)
  | _, _ => False
@[simp] theorem sumD_r1  {xs : List Dt} {P : (Dt → Prop)} : sumD (.lst xs) P = (∃ ns : List Int, xs = ns.map Dt.int ∧ P (.int ns.sum)) := id rfl
def min2 : Dt → Dt → (Dt → Prop) → Prop
  | .int i, .int j, P => P (.int (if j < i then j else i))
  | _, _, _ => False
@[simp] theorem min2_r1  {i : Int} {j : Int} {P : (Dt → Prop)} : min2 (.int i) (.int j) P = (P (.int (if j < i then j else i))) := id rfl
def max2 : Dt → Dt → (Dt → Prop) → Prop
  | .int i, .int j, P => P (.int (if j > i then j else i))
  | _, _, _ => False
@[simp] theorem max2_r1  {i : Int} {j : Int} {P : (Dt → Prop)} : max2 (.int i) (.int j) P = (P (.int (if j > i then j else i))) := id rfl
section
variable {K : Fr}
theorem RpL.bls {dr : Dr} {H : Hp} : ∀ {bs : List Bool} {vs : List V}, RpL K dr H vs (bs.map Dt.bl) → vs = bs.map V.bl
  | [], _, h => by cases h; rfl
  | b :: bs, _, h => by
    cases h with
    | cons h1 h2 => cases h1; rw [RpL.bls h2]; rfl
theorem RpL.ints {dr : Dr} {H : Hp} : ∀ {bs : List Int} {vs : List V}, RpL K dr H vs (bs.map Dt.int) → vs = bs.map V.int
  | [], _, h => by cases h; rfl
  | b :: bs, _, h => by
    cases h with
    | cons h1 h2 => cases h1; rw [RpL.ints h2]; rfl
theorem cas_len : CaS K (fun xs H Q => (∃ p ys, xs = [.ref p] ∧ (SqL K H p ys ∨ SqT K H p ys) ∧ Q (.int ys.length) H) ∨ (∃ z, xs = [.str z] ∧ z.length ≤ sizeLine ∧ Q (.int z.length) H) ∨ ∃ d kvs, xs = [.ref d] ∧ H d = some (.dK kvs) ∧ Q (.int kvs.length) H) (f1 lenD) := by
  intro dr I H xs vs P p hs h Q q
  match xs, h with
  | [x], h =>
    obtain ⟨v, rfl, hx⟩ := shl1 hs
    replace h : lenD x P := h
    unfold lenD at h
    split at h
    · obtain ⟨a, vs, rfl, ha, r⟩ := hx.lst p.sub
      exact .inl ⟨a, vs, rfl, .inl (SqL.of ha), q _ _ H h Kp.refl (by rw [r.len]; exact .int _)⟩
    · obtain ⟨a, vs, rfl, ha, r⟩ := hx.tup p.sub
      exact .inl ⟨a, vs, rfl, .inr ha, q _ _ H h Kp.refl (by rw [r.len]; exact .int _)⟩
    · obtain rfl := hx.str
      exact .inr (.inl ⟨_, rfl, size_le h.1, q _ _ H h.2 Kp.refl (.int _)⟩)
    · rename_i ks ds
      have hh : ∃ (a : Addr) (vs : List V), v = .ref a ∧ H a = some (.dK (ks.zip vs)) ∧ ks.length = vs.length := by
        rcases hx with hx | ⟨a, rfl, _, _, ws, h1, h2, h3⟩
        · cases hx with
          | dic h1 h2 h3 => exact ⟨_, _, rfl, p.sub _ _ h1, h2⟩
        · exact ⟨a, ws, rfl, h1, h2⟩
      obtain ⟨a, ws, rfl, ha, hl⟩ := hh
      refine .inr (.inr ⟨a, _, rfl, ha, q _ _ H h Kp.refl ?_⟩)
      rw [List.length_zip, ← hl, Nat.min_self]
      exact .int _
    · exact h.elim
theorem cas_abs : CaS K (fun xs H Q => ∃ i, xs = [.int i] ∧ Q (.int (if i < 0 then -i else i)) H) (f1 absD) := by
  intro dr I H xs vs P p hs h Q q
  match xs, h with
  | [x], h =>
    obtain ⟨v, rfl, hx⟩ := shl1 hs
    replace h : absD x P := h
    unfold absD at h
    split at h
    · obtain rfl := hx.int
      exact ⟨_, rfl, q _ _ H h Kp.refl (.int _)⟩
    · exact h.elim
theorem cas_int : CaS K (fun xs H Q => (∃ i, xs = [.int i] ∧ Q (.int i) H) ∨ ∃ k, xs = [.bl k] ∧ Q (.int (if k then 1 else 0)) H) (f1 intD) := by
  intro dr I H xs vs P p hs h Q q
  match xs, h with
  | [x], h =>
    obtain ⟨v, rfl, hx⟩ := shl1 hs
    replace h : intD x P := h
    unfold intD at h
    split at h
    · obtain rfl := hx.int
      exact .inl ⟨_, rfl, q _ _ H h Kp.refl (.int _)⟩
    · obtain rfl := hx.bl
      exact .inr ⟨_, rfl, q _ _ H h Kp.refl (.int _)⟩
    · exact h.elim
theorem cas_str : CaS K (fun xs H Q => ∃ i, xs = [.int i] ∧ i.natAbs.log2 < 1920 ∧ Q (.str (toString i)) H) (f1 strD) := by
  intro dr I H xs vs P p hs h Q q
  match xs, h with
  | [x], h =>
    obtain ⟨v, rfl, hx⟩ := shl1 hs
    replace h : strD x P := h
    unfold strD at h
    split at h
    · obtain rfl := hx.int
      exact ⟨_, rfl, h.1, q _ _ H h.2 Kp.refl (.str _)⟩
    · exact h.elim
theorem cas_tup : CaS K (fun xs H Q => ∃ p ys, xs = [.ref p] ∧ ((SqL K H p ys ∧ NewT H ys Q) ∨ (SqT K H p ys ∧ Q (.ref p) H))) (f1 tupD) := by
  intro dr I H xs vs P p hs h Q q
  match xs, h with
  | [x], h =>
    obtain ⟨v, rfl, hx⟩ := shl1 hs
    replace h : tupD x P := h
    unfold tupD at h
    split at h
    · obtain ⟨a, vs, rfl, ha, r⟩ := hx.lst p.sub
      exact ⟨a, vs, rfl, .inl ⟨SqL.of ha, fun l ob hob hl => q _ _ _ h (Kp.new p hl) (rp_new_tup p hob hl r)⟩⟩
    · obtain ⟨a, vs, rfl, ha, r⟩ := hx.tup p.sub
      refine ⟨a, vs, rfl, .inr ⟨ha, q _ _ H h Kp.refl (rp_at p ?_)⟩⟩
      rcases hx with hx | ⟨_, _, _, _, h3⟩
      · exact hx
      · exact h3.elim
    · exact h.elim
theorem can_lst : CaN K (fun xs H Q => ∃ p ys, xs = [.ref p] ∧ (SqL K H p ys ∨ SqT K H p ys) ∧ ∀ l, H l = none → Q (.ref l) (upd H l (.lst ys))) (f1 lstD) := by
  intro dr I H xs vs P p hs h Q q
  match xs, h with
  | [x], h =>
    obtain ⟨v, rfl, hx⟩ := shl1 hs
    replace h : lstD x P := h
    unfold lstD at h
    split at h
    · obtain ⟨a, vs, rfl, ha, r⟩ := hx.lst p.sub
      exact ⟨a, vs, rfl, .inl (SqL.of ha), fun l hl => q _ _ _ h (Kp.new p hl) (new_lst p hl r)⟩
    · obtain ⟨a, vs, rfl, ha, r⟩ := hx.tup p.sub
      exact ⟨a, vs, rfl, .inr ha, fun l hl => q _ _ _ h (Kp.new p hl) (new_lst p hl r)⟩
    · exact h.elim
theorem cas_all : CaS K (rAll K) (f1 allD) := by
  intro dr I H xs vs P p hs h Q q
  match xs, h with
  | [x], h =>
    obtain ⟨v, rfl, hx⟩ := shl1 hs
    replace h : allD x P := h
    unfold allD at h
    split at h
    · obtain ⟨bs, rfl, hP⟩ := h
      obtain ⟨a, vs, rfl, ha, r⟩ := hx.lst p.sub
      obtain rfl := r.bls
      exact ⟨a, bs, rfl, SqL.of ha, q _ _ H hP Kp.refl (.bl _)⟩
    · exact h.elim
theorem cas_any : CaS K (rAny K) (f1 anyD) := by
  intro dr I H xs vs P p hs h Q q
  match xs, h with
  | [x], h =>
    obtain ⟨v, rfl, hx⟩ := shl1 hs
    replace h : anyD x P := h
    unfold anyD at h
    split at h
    · obtain ⟨bs, rfl, hP⟩ := h
      obtain ⟨a, vs, rfl, ha, r⟩ := hx.lst p.sub
      obtain rfl := r.bls
      exact ⟨a, bs, rfl, SqL.of ha, q _ _ H hP Kp.refl (.bl _)⟩
    · exact h.elim
theorem cas_sum : CaS K (rSum K) (f1 sumD) := by
  intro dr I H xs vs P p hs h Q q
  match xs, h with
  | [x], h =>
    obtain ⟨v, rfl, hx⟩ := shl1 hs
    replace h : sumD x P := h
    unfold sumD at h
    split at h
    · obtain ⟨bs, rfl, hP⟩ := h
      obtain ⟨a, vs, rfl, ha, r⟩ := hx.lst p.sub
      obtain rfl := r.ints
      exact ⟨a, bs, rfl, SqL.of ha, q _ _ H hP Kp.refl (.int _)⟩
    · exact h.elim
theorem cas_min2 : CaS K (fun xs H Q => ∃ i j, xs = [.int i, .int j] ∧ Q (.int (if j < i then j else i)) H) (f2 min2) := by
  intro dr I H xs vs P p hs h Q q
  match xs, h with
  | [x, y], h =>
    obtain ⟨v, u, rfl, hx, hy⟩ := shl2 hs
    replace h : min2 x y P := h
    unfold min2 at h
    split at h
    · obtain rfl := hx.int
      obtain rfl := hy.int
      exact ⟨_, _, rfl, q _ _ H h Kp.refl (.int _)⟩
    · exact h.elim
theorem cas_max2 : CaS K (fun xs H Q => ∃ i j, xs = [.int i, .int j] ∧ Q (.int (if j > i then j else i)) H) (f2 max2) := by
  intro dr I H xs vs P p hs h Q q
  match xs, h with
  | [x, y], h =>
    obtain ⟨v, u, rfl, hx, hy⟩ := shl2 hs
    replace h : max2 x y P := h
    unfold max2 at h
    split at h
    · obtain rfl := hx.int
      obtain rfl := hy.int
      exact ⟨_, _, rfl, q _ _ H h Kp.refl (.int _)⟩
    · exact h.elim
end

/-! ### isinstance of a built-in class -/
def tyS : Dt → String
  | .non => "NoneType"
  | .bl _ => "bool"
  | .int _ => "int"
  | .str _ => "str"
  | .lst _ => "list"
  | .tup _ => "tuple"
  | .dic _ _ => "dict"
  | .dit _ _ => "dict"
  | .st => "list"
def isiD (T : String) (x : Dt) (P : Dt → Prop) : Prop := ∃ b, kitB (tyS x) T = some b ∧ P (.bl b)
def eIsi (T : String) (ia : IE) : IE := fun env P E => ia env (fun x => isiD T x P) E
theorem Sh.ty {K : Fr} {dr : Dr} {I H : Hp} {v : V} {d : Dt} (p : Pre dr I H) (h : Sh K dr I H v d) : TyX K H v (.type (tyS d)) := by
  rcases h with h | ⟨a, rfl, _, _, h⟩
  · have h := h.mono p.sub
    cases h with
    | non => exact .base .non
    | bl b => exact .base (.bl b)
    | int b => exact .base (.int b)
    | str b => exact .base (.str b)
    | lst e _ => exact .base (.lst e)
    | tup e _ _ =>
      rcases e with (e | ⟨o, e⟩) | ⟨o, its, n, e, c, _⟩
      · exact .base (.tup e)
      · exact .fTuple e
      · exact .kTuple e c
    | dic e _ _ => exact .base (.dK e)
    | dit e _ _ => exact .base (.dT e)
    | @st q e => obtain ⟨i, cs, h1, _⟩ := p.dro q e; exact .base (.lst h1)
  · cases d with
    | lst ds => obtain ⟨vs, h1, _⟩ := h; exact .base (.lst h1)
    | dic ks ds => obtain ⟨vs, h1, _⟩ := h; exact .base (.dK h1)
    | dit ks ds => obtain ⟨vs, h1, _⟩ := h; exact .base (.dT h1)
    | _ => exact h.elim
theorem snd_isi {K : Fr} {xr : XR} {W : WX} {ta : TE} {ia : IE} {T : String} (ha : SndO K xr W ta ia) : Snd K xr W (tCB (rIsi K) (tCons ta (tCons (tC (.ty T)) tNil))) (eIsi T ia) := fun dr env σ I H P E p ev hi o Q q =>
  ha dr env σ I H _ E p ev hi o _ fun x v H1 hx k1 r1 => let ⟨b, hb, hP⟩ := hx; ⟨v, .ty T, .type (tyS x), .type T, b, rfl, .ty T, r1.ty (p.step k1), kit_ty hb, q _ _ H1 hP k1 (.bl b)⟩
end DL

set_option maxRecDepth 100000
/-! DL5: links of subscripts and calls; what loops walk; comprehensions. -/
namespace DL
open PySem L2 PyProof.Rows

section
variable {xr : XR} {X : Cx} {W : WX} {e a b c : Expr} {es : List Expr} {ie ia ib ic : IE} {it iu : IT} {il : IA} {i1 i2 : IP} {pos : Pos}
theorem le_ix (ha : LO xr X W a ia) (hb : LO xr X W b ib) (hs : PlainIx b := by exact fun _ _ => rfl) : LE xr X W (.Subscript a b pos) (eOp ixD ia ib) :=
  let ⟨_, p, s⟩ := ha; let ⟨_, q, t⟩ := hb; ⟨_, pe_ix ix_seq p q hs, snd_op ops_ix s t⟩
theorem lp_no : LP xr X W none pNo := ⟨_, po_none, sndP_no⟩
theorem lp_at (h : LE xr X W e ie) : LP xr X W (some e) (pAt ie) := let ⟨_, p, s⟩ := h; ⟨_, po_some p, sndP_at s⟩
theorem ln_slL {lo hi : Option Expr} {p2 : Pos} (ha : LO xr X W a ia) (h1 : LP xr X W lo i1) (h2 : LP xr X W hi i2) : LN xr X W (.Subscript a (.Slice lo hi none p2) pos) (eSl slL ia i1 i2) :=
  let ⟨_, p, s⟩ := ha; let ⟨_, p1, s1⟩ := h1; let ⟨_, p3, s3⟩ := h2; ⟨_, pe_slice sl_list p p1 p3, sndN_sl sln_list s s1 s3⟩
theorem le_slT {lo hi : Option Expr} {p2 : Pos} (ha : LO xr X W a ia) (h1 : LP xr X W lo i1) (h2 : LP xr X W hi i2) : LE xr X W (.Subscript a (.Slice lo hi none p2) pos) (eSl slT ia i1 i2) :=
  let ⟨_, p, s⟩ := ha; let ⟨_, p1, s1⟩ := h1; let ⟨_, p3, s3⟩ := h2; ⟨_, pe_slice sl_tupF p p1 p3, snd_sl sls_tup s s1 s3⟩

/-! ### built-in names called -/
theorem le_fB {x : Str} {p : Pos} {id : String} {r : List V → Hp → VK → Prop} {f : List Dt → (Dt → Prop) → Prop} (hr : CallR X (.builtin id) r) (hs : CaS X.K r f) (hg : Gl X x) (hm : X.mg x = none) (hv : bootBuiltins x = some (.builtin id)) (ha : LAO xr X W (e :: es) il)
    (hn : x ≠ "__name__" := by decide) (hdb : (x == ("__debug__" : Str)) = false := by decide)
    (he : starEach (e :: es) X.env = (false, eval e X.env) :: starEach es X.env := by rfl) (hpl : (backTo pos (starEach es X.env)).any (·.1) = false := by rfl) : LE xr X W (.Call (.Name x p) (e :: es) [] pos) (eCB f il) :=
  let ⟨_, q, s⟩ := ha; ⟨_, pe_callB hr hg hm hv q hn hdb he hpl, snd_cb hs s⟩
theorem le_fT {x : Str} {p : Pos} {id : String} {r : List V → Hp → VK → Prop} {f : List Dt → (Dt → Prop) → Prop} (hr : CallR X (.type id) r) (hs : CaS X.K r f) (hg : Gl X x) (hm : X.mg x = none) (hv : bootBuiltins x = some (.type id)) (ha : LAO xr X W (e :: es) il)
    (hn : x ≠ "__name__" := by decide) (hdb : (x == ("__debug__" : Str)) = false := by decide)
    (he : starEach (e :: es) X.env = (false, eval e X.env) :: starEach es X.env := by rfl) (hpl : (backTo pos (starEach es X.env)).any (·.1) = false := by rfl) : LE xr X W (.Call (.Name x p) (e :: es) [] pos) (eCB f il) :=
  let ⟨_, q, s⟩ := ha; ⟨_, pe_callTy hr hg hm hv q hn hdb he hpl, snd_cb hs s⟩
theorem ln_fT {x : Str} {p : Pos} {id : String} {r : List V → Hp → VK → Prop} {f : List Dt → (Dt → Prop) → Prop} (hr : CallR X (.type id) r) (hs : CaN X.K r f) (hg : Gl X x) (hm : X.mg x = none) (hv : bootBuiltins x = some (.type id)) (ha : LAO xr X W (e :: es) il)
    (hn : x ≠ "__name__" := by decide) (hdb : (x == ("__debug__" : Str)) = false := by decide)
    (he : starEach (e :: es) X.env = (false, eval e X.env) :: starEach es X.env := by rfl) (hpl : (backTo pos (starEach es X.env)).any (·.1) = false := by rfl) : LN xr X W (.Call (.Name x p) (e :: es) [] pos) (eCB f il) :=
  let ⟨_, q, s⟩ := ha; ⟨_, pe_callTy hr hg hm hv q hn hdb he hpl, sndN_cb hs s⟩
section
variable {p : Pos}
theorem le_len (hg : Gl X "len") (hm : X.mg "len" = none) (ha : LO xr X W a ia) (hs : starEach [a] X.env = (false, eval a X.env) :: starEach [] X.env := by rfl) : LE xr X W (.Call (.Name "len" p) [a] [] pos) (eCB (f1 lenD) (aCons ia aNil)) :=
  le_fB (CallR.or call_len_seq (CallR.or call_len_str call_lenD)) cas_len hg hm boot_len (lao_cons ha lao_nil hs) (he := hs)
theorem le_abs (hg : Gl X "abs") (hm : X.mg "abs" = none) (ha : LO xr X W a ia) (hs : starEach [a] X.env = (false, eval a X.env) :: starEach [] X.env := by rfl) : LE xr X W (.Call (.Name "abs" p) [a] [] pos) (eCB (f1 absD) (aCons ia aNil)) :=
  le_fB call_abs cas_abs hg hm (by decide +kernel) (lao_cons ha lao_nil hs) (he := hs)
theorem le_intC (hg : Gl X "int") (hm : X.mg "int" = none) (ha : LO xr X W a ia) (hs : starEach [a] X.env = (false, eval a X.env) :: starEach [] X.env := by rfl) : LE xr X W (.Call (.Name "int" p) [a] [] pos) (eCB (f1 intD) (aCons ia aNil)) :=
  le_fT call_int1 cas_int hg hm (by decide +kernel) (lao_cons ha lao_nil hs) (he := hs)
theorem le_strC (hg : Gl X "str") (hm : X.mg "str" = none) (ha : LO xr X W a ia) (hs : starEach [a] X.env = (false, eval a X.env) :: starEach [] X.env := by rfl) : LE xr X W (.Call (.Name "str" p) [a] [] pos) (eCB (f1 strD) (aCons ia aNil)) :=
  le_fT call_str_int cas_str hg hm (by decide +kernel) (lao_cons ha lao_nil hs) (he := hs)
theorem le_tupC (hg : Gl X "tuple") (hm : X.mg "tuple" = none) (ha : LO xr X W a ia) (hs : starEach [a] X.env = (false, eval a X.env) :: starEach [] X.env := by rfl) : LE xr X W (.Call (.Name "tuple" p) [a] [] pos) (eCB (f1 tupD) (aCons ia aNil)) :=
  le_fT call_tupF cas_tup hg hm (by decide +kernel) (lao_cons ha lao_nil hs) (he := hs)
theorem ln_lstC (hg : Gl X "list") (hm : X.mg "list" = none) (ha : LO xr X W a ia) (hs : starEach [a] X.env = (false, eval a X.env) :: starEach [] X.env := by rfl) : LN xr X W (.Call (.Name "list" p) [a] [] pos) (eCB (f1 lstD) (aCons ia aNil)) :=
  ln_fT call_list_of can_lst hg hm (by decide +kernel) (lao_cons ha lao_nil hs) (he := hs)
theorem le_all (hc : X.calm = true) (hg : Gl X "all") (hm : X.mg "all" = none) (ha : LO xr X W a ia) (hs : starEach [a] X.env = (false, eval a X.env) :: starEach [] X.env := by rfl) : LE xr X W (.Call (.Name "all" p) [a] [] pos) (eCB (f1 allD) (aCons ia aNil)) :=
  le_fB (cr_all hc) cas_all hg hm (by decide +kernel) (lao_cons ha lao_nil hs) (he := hs)
theorem le_any (hc : X.calm = true) (hg : Gl X "any") (hm : X.mg "any" = none) (ha : LO xr X W a ia) (hs : starEach [a] X.env = (false, eval a X.env) :: starEach [] X.env := by rfl) : LE xr X W (.Call (.Name "any" p) [a] [] pos) (eCB (f1 anyD) (aCons ia aNil)) :=
  le_fB (cr_any hc) cas_any hg hm (by decide +kernel) (lao_cons ha lao_nil hs) (he := hs)
theorem le_sum (hc : X.calm = true) (hg : Gl X "sum") (hm : X.mg "sum" = none) (ha : LO xr X W a ia) (hs : starEach [a] X.env = (false, eval a X.env) :: starEach [] X.env := by rfl) : LE xr X W (.Call (.Name "sum" p) [a] [] pos) (eCB (f1 sumD) (aCons ia aNil)) :=
  le_fB (cr_sum hc) cas_sum hg hm (by decide +kernel) (lao_cons ha lao_nil hs) (he := hs)
theorem le_min2 (hc : X.calm = true) (hg : Gl X "min") (hm : X.mg "min" = none) (ha : LO xr X W a ia) (hb : LO xr X W b ib) (hs : starEach [a, b] X.env = (false, eval a X.env) :: starEach [b] X.env := by rfl) (hs2 : starEach [b] X.env = (false, eval b X.env) :: starEach [] X.env := by rfl) (hpl : (backTo pos (starEach [b] X.env)).any (·.1) = false := by rfl) : LE xr X W (.Call (.Name "min" p) [a, b] [] pos) (eCB (f2 min2) (aCons ia (aCons ib aNil))) :=
  le_fB (call_min2 hc) cas_min2 hg hm (by decide +kernel) (lao_cons ha (lao_cons hb lao_nil hs2) hs) (he := hs) (hpl := hpl)
theorem le_max2 (hc : X.calm = true) (hg : Gl X "max") (hm : X.mg "max" = none) (ha : LO xr X W a ia) (hb : LO xr X W b ib) (hs : starEach [a, b] X.env = (false, eval a X.env) :: starEach [b] X.env := by rfl) (hs2 : starEach [b] X.env = (false, eval b X.env) :: starEach [] X.env := by rfl) (hpl : (backTo pos (starEach [b] X.env)).any (·.1) = false := by rfl) : LE xr X W (.Call (.Name "max" p) [a, b] [] pos) (eCB (f2 max2) (aCons ia (aCons ib aNil))) :=
  le_fB (call_max2 hc) cas_max2 hg hm (by decide +kernel) (lao_cons ha (lao_cons hb lao_nil hs2) hs) (he := hs) (hpl := hpl)
theorem le_isi {x : Str} {T : String} {p2 : Pos} (hg : Gl X "isinstance") (hm : X.mg "isinstance" = none) (hg2 : Gl X x) (hm2 : X.mg x = none) (hv : bootBuiltins x = some (.type T)) (ha : LO xr X W a ia) (hn : x ≠ "__name__" := by decide) (hdb : (x == ("__debug__" : Str)) = false := by decide)
    (hs : starEach [a, .Name x p2] X.env = (false, eval a X.env) :: starEach [.Name x p2] X.env := by rfl) (hs2 : starEach [.Name x p2] X.env = (false, eval (.Name x p2) X.env) :: starEach [] X.env := by rfl) (hpl : (backTo pos (starEach [.Name x p2] X.env)).any (·.1) = false := by rfl) :
    LE xr X W (.Call (.Name "isinstance" p) [a, .Name x p2] [] pos) (eIsi T ia) := by
  obtain ⟨_, q, s⟩ := ha
  exact ⟨_, pe_callB call_isi hg hm (by decide +kernel) (pa_cons q (pa_cons (pe_bltn (v := .ty T) hg2 hm2 hv (show RelV (.ty T) (.type T) from rfl) hn hdb) pa_nil hs2) hs) (he := hs) (hpl := hpl), snd_isi s⟩
end
end

/-! ### defs called -/
abbrev DSp := List Dt → (Dt → Prop) → (Xc → Prop) → Prop
def liftS (K : Fr) (xr : XR) (sp : DSp) : Sp := fun vs H Q E => ∃ dr I ds P EP, Pre dr I H ∧ RpL K dr I vs ds ∧ sp ds P EP ∧ (∀ x c a H', EP x → Kp dr H H' → xr x c a H' → E c a H') ∧ ∀ d v H', P d → Kp dr H H' → Rp K dr (ext I H H') v d → Q v H'
def eCall (sp : DSp) (il : IA) : IE := fun env P E => il env (fun ds => sp ds P E) E
theorem snd_call {K : Fr} {xr : XR} {W : WX} {sp : DSp} {tl : TA} {il : IA} (hl : SndA K xr W tl il) : Snd K xr W (tCallSD (liftS K xr sp) [] (fun σ c a H => W c a σ H) tl) (eCall sp il) := fun dr env σ I H P E p ev hi o Q q =>
  hl dr env σ I H _ E p ev hi o _ fun ds vs H1 hx k1 r1 => ⟨dr, ext I H H1, ds, P, E, p.step k1, by rw [List.append_nil]; exact r1, hx, fun x c a H' hE k r => o x c a H' hE (k1.trans k) r, fun d v H' hP k r => q d v H' hP (k1.trans k) (ext_back p k1 k r)⟩
section
variable {xr : XR} {X : Cx} {W : WX} {e : Expr} {es : List Expr} {il : IA} {pos p : Pos} {k : Nat} {f : Addr} {fd : FuncData} {ps : List Str} {sp : DSp} {x : Str}
theorem le_call (F : FnOk X.prog X.w X.K X.mg X.base (L2.CX X.prog X.w) k f fd ps (liftS X.K xr sp)) (tk : Takes X W) (hr : Room k X.A) (hg : Gl X x) (hm : X.mg x = some (.ref f)) (hk : PySem.W.keepIn X.K (.ref f) = true) (hb : Binds X.K fd ps [])
    (ha : LA xr X W (e :: es) il) (hdb : (x == ("__debug__" : Str)) = false := by decide) (he : starEach (e :: es) X.env = (false, eval e X.env) :: starEach es X.env := by rfl) (hpl : (backTo pos (starEach es X.env)).any (·.1) = false := by rfl) :
    LE xr X W (.Call (.Name x p) (e :: es) [] pos) (eCall sp il) :=
  let ⟨_, q, s⟩ := ha; ⟨_, pe_callSD F hr hg hm hk hb .nil (fun σ => passAt tk σ) q hdb he hpl, snd_call s⟩
/-- a def called where nothing may leave -/
theorem le_call0 (F : FnOk X.prog X.w X.K X.mg X.base (L2.CX X.prog X.w) k f fd ps (liftS X.K xr sp)) (hr : Room k X.A) (hg : Gl X x) (hm : X.mg x = some (.ref f)) (hk : PySem.W.keepIn X.K (.ref f) = true) (hb : Binds X.K fd ps [])
    (hdb : (x == ("__debug__" : Str)) = false := by decide) : LE xr X W (.Call (.Name x p) [] [] pos) (fun _ P E => sp [] P fun _ => False) := by
  refine ⟨_, pe_call0 F hr hg hm hk hb .nil passL hdb, fun dr env σ I H P E pr ev hi o Q q => ?_⟩
  exact ⟨dr, I, [], P, fun _ => False, pr, .nil, hi, fun _ _ _ _ z => z.elim, fun d v H' hP k r => q d v H' hP k r⟩
end

/-! ### what is walked -/
abbrev II := List Sl → (List Dt → Prop) → (Xc → Prop) → Prop
structure Iter (K : Fr) (dr : Dr) (J : It) (ds : List Dt) (Iv I : Hp) : Prop where
  go : ∀ i H, Same Iv H → i < ds.length → J.go i H
  stop : ∀ i H, Same Iv H → ds.length ≤ i → J.stop i H
  yld : ∀ i H x H' d, Same Iv H → ds[i]? = some d → J.yld i H x H' → Same H H' ∧ ∀ I', Same I I' → Same I' H → Rp K dr (ext I' H H') x d
/-- any operand; clean ones -/
def SndIO (K : Fr) (xr : XR) (W : WX) (wi : TI) (ii : II) : Prop := ∀ dr env σ I H P E, Pre dr I H → EnvOk K dr env σ I H → ii env P E → OutE xr W dr σ H E → ∀ R : It → Hp → Prop, (∀ ds J H' Iv, P ds → Kp dr H H' → Pre dr Iv H' → Iter K dr J ds Iv (ext I H H') → R J H') → wi σ H R
def SndI (K : Fr) (xr : XR) (W : WX) (wi : TI) (ii : II) : Prop := ∀ dr env σ I H P E, Pre dr I H → EnvOk K dr env σ I H → ii env P E → OutE xr W dr σ H E → ∀ R : It → Hp → Prop, (∀ ds J H', P ds → Kp dr H H' → Iter K dr J ds (ext I H H') (ext I H H') → R J H') → wi σ H R
theorem SndI.o {K : Fr} {xr : XR} {W : WX} {wi : TI} {ii : II} (h : SndI K xr W wi ii) : SndIO K xr W wi ii := fun dr env σ I H P E p ev hi o R q => h dr env σ I H P E p ev hi o R fun ds J H' hP k it => q ds J H' _ hP k (p.step k) it
def iSeq (K : Fr) (tl : TE) : TI := fun σ H R => tl σ H fun x H1 => ∃ a, x = .ref a ∧ (((∃ xs, SqL K H1 a xs) ∧ R (Itl K a) H1) ∨ ((∃ xs, SqT K H1 a xs) ∧ R (Itt K a) H1))
theorem pi_seq {X : Cx} {tg l : Expr} {tl : TE} (hl : PE X l tl) : PI X tg l (iSeq X.K tl) := by
  refine ⟨fun pins s σ H R I h => ?_⟩
  refine thn (hl.run pins s σ H _ I h) fun v s1 ⟨x, H1, I1, r1, q1⟩ => ?_
  obtain ⟨a, e, ⟨⟨xs, hq⟩, q⟩ | ⟨⟨xs, hq⟩, q⟩⟩ := q1
  · subst e
    cases r1
    obtain ⟨its, rv, p, hz⟩ := I1.list hq
    refine wpAny_pyIter_list p.isList ?_
    refine ⟨s1.heap.objs.size, [s1.heap.objs.size], _, _, H1, rfl, I1.kept (t' := s1.toks) fun b o e => Heap.get?_push_of_some _ e, turn_list a _, ⟨_, Heap.get?_push_size _ rfl, rfl, rfl⟩, fun b hb => ?_, q⟩
    have e : b = s1.heap.objs.size := by simpa using hb
    subst e
    exact I1.fpOk (Nat.le_refl _) (I1.hok.fresh (Nat.le_refl _))
  · subst e
    cases r1
    obtain ⟨its, rv, p, hz⟩ := I1.tuple hq
    refine wpAny_pyIter_tuple (show s1.heap.IsTuple a its.toArray from p) ?_
    refine ⟨s1.heap.objs.size, [s1.heap.objs.size], _, _, H1, rfl, I1.kept (t' := s1.toks) fun b o e => Heap.get?_push_of_some _ e, turn_tuple a _, ⟨_, Heap.get?_push_size _ rfl, rfl, rfl⟩, fun b hb => ?_, q⟩
    have e : b = s1.heap.objs.size := by simpa using hb
    subst e
    exact I1.fpOk (Nat.le_refl _) (I1.hok.fresh (Nat.le_refl _))
def seqD : Dt → (List Dt → Prop) → Prop
  | .lst xs, P => P xs
  | .tup xs, P => P xs
  | _, _ => False
section
set_option autoImplicit true
@[simp] theorem seqD_r1 : seqD (.lst xs) P = (P xs) := id rfl
@[simp] theorem seqD_r2 : seqD (.tup xs) P = (P xs) := id rfl
end
def iOf (ia : IE) : II := fun env P E => ia env (fun x => seqD x P) E
section
variable {K : Fr} {dr : Dr}
theorem iter_list {a : Addr} {vs : List V} {ds : List Dt} {Iv I : Hp} (h : Iv a = some (.lst vs)) (r : RpL K dr I vs ds) : Iter K dr (Itl K a) ds Iv I where
  go := fun i H s hi => by
    obtain ⟨v, e, _⟩ := r.get (List.getElem?_eq_getElem hi)
    exact ⟨vs, v, SqL.of (s _ _ h), e⟩
  stop := fun i H s hi => ⟨vs, SqL.of (s _ _ h), by rw [r.len]; exact hi⟩
  yld := fun i H x H' d s hd hy => by
    obtain ⟨e, f⟩ := hy
    subst e
    obtain ⟨v, e, q⟩ := r.get hd
    have e2 := f vs (SqL.of (s _ _ h))
    rw [e] at e2
    cases e2
    refine ⟨Same.refl _, fun I' s1 s2 => q.mono fun b o z => ?_⟩
    rw [ext_some (by rw [s2 _ _ (s1 _ _ z)]; simp)]
    exact s1 _ _ z
theorem iter_tup {a : Addr} {vs : List V} {ds : List Dt} {Iv I : Hp} (h : SqT K Iv a vs) (r : RpL K dr I vs ds) : Iter K dr (Itt K a) ds Iv I where
  go := fun i H s hi => by
    obtain ⟨v, e, _⟩ := r.get (List.getElem?_eq_getElem hi)
    exact ⟨vs, v, same_seqT s h, e⟩
  stop := fun i H s hi => ⟨vs, same_seqT s h, by rw [r.len]; exact hi⟩
  yld := fun i H x H' d s hd hy => by
    obtain ⟨e, f⟩ := hy
    subst e
    obtain ⟨v, e, q⟩ := r.get hd
    have e2 := f vs (same_seqT s h)
    rw [e] at e2
    cases e2
    refine ⟨Same.refl _, fun I' s1 s2 => q.mono fun b o z => ?_⟩
    rw [ext_some (by rw [s2 _ _ (s1 _ _ z)]; simp)]
    exact s1 _ _ z
/-- one owned object taken in -/
theorem Pre.take {I H : Hp} {a : Addr} {o : HO} (p : Pre dr I H) (h : H a = some o) (n : ¬ IsDr dr a) : Pre dr (upd I a o) H := by
  refine ⟨fun b u e => ?_, p.dro, fun b i => ?_⟩
  · by_cases hb : b = a
    · subst hb; rw [upd_same] at e; cases e; exact h
    · rw [upd_ne hb] at e; exact p.sub b u e
  · rw [upd_ne (fun (z : b = a) => n (by rw [← z]; exact i))]; exact p.nI b i
theorem sndIO_of {xr : XR} {W : WX} {tl : TE} {ia : IE} (ha : SndO K xr W tl ia) : SndIO K xr W (iSeq K tl) (iOf ia) := fun dr env σ I H P E p ev hi o R q =>
  ha dr env σ I H _ E p ev hi o _ fun x v H1 hx k1 r1 => by
    have p1 := p.step k1
    unfold seqD at hx
    split at hx
    · rcases r1 with r1 | ⟨a, rfl, h1, h2, ws, h3, h4⟩
      · cases r1 with
        | lst e r => exact ⟨_, rfl, .inl ⟨⟨_, SqL.of (p1.sub _ _ e)⟩, q _ _ H1 _ hx k1 p1 (iter_list e r)⟩⟩
      · exact ⟨a, rfl, .inl ⟨⟨_, SqL.of h3⟩, q _ _ H1 _ hx k1 (p1.take h3 h2) (iter_list upd_same h4)⟩⟩
    · rcases r1 with r1 | ⟨a, rfl, h1, h2, h3⟩
      · cases r1 with
        | tup e _ r => exact ⟨_, rfl, .inr ⟨⟨_, same_seqT p1.sub e⟩, q _ _ H1 _ hx k1 p1 (iter_tup e r)⟩⟩
      · exact h3.elim
    · exact hx.elim
theorem sndI_of {xr : XR} {W : WX} {tl : TE} {ia : IE} (ha : Snd K xr W tl ia) : SndI K xr W (iSeq K tl) (iOf ia) := fun dr env σ I H P E p ev hi o R q =>
  ha dr env σ I H _ E p ev hi o _ fun x v H1 hx k1 r1 => by
    have p1 := p.step k1
    unfold seqD at hx
    split at hx
    · cases r1 with
      | lst e r => exact ⟨_, rfl, .inl ⟨⟨_, SqL.of (p1.sub _ _ e)⟩, q _ _ H1 hx k1 (iter_list e r)⟩⟩
    · cases r1 with
      | tup e _ r => exact ⟨_, rfl, .inr ⟨⟨_, same_seqT p1.sub e⟩, q _ _ H1 hx k1 (iter_tup e r)⟩⟩
    · exact hx.elim
/-- lo, lo + c, .., n of them -/
def rng (lo c : Int) (n : Nat) : List Dt := (List.range n).map fun (i : Nat) => Dt.int (lo + (i : Int) * c)
theorem rng_len (lo c : Int) (n : Nat) : (rng lo c n).length = n := by unfold rng; rw [List.length_map, List.length_range]
theorem rng_get {lo c : Int} {n i : Nat} {d : Dt} (h : (rng lo c n)[i]? = some d) : i < n ∧ d = .int (lo + (i : Int) * c) := by
  unfold rng at h
  rw [List.getElem?_map] at h
  by_cases hi : i < n
  · rw [List.getElem?_range hi] at h
    exact ⟨hi, (Option.some.inj h).symm⟩
  · rw [List.getElem?_eq_none (by rw [List.length_range]; omega)] at h
    cases h
theorem iter_rng {lo : Int} {n : Nat} {Iv I : Hp} : Iter K dr (Itr lo n) (rng lo 1 n) Iv I where
  go := fun i H _ hi => by rw [rng_len] at hi; exact hi
  stop := fun i H _ hi => by rw [rng_len] at hi; exact hi
  yld := fun i H x H' d _ hd hy => by
    obtain ⟨e, f⟩ := hy
    subst e f
    obtain ⟨_, rfl⟩ := rng_get hd
    refine ⟨Same.refl _, fun I' _ _ => ?_⟩
    rw [Int.mul_one]
    exact .int _
theorem iter_rngC {lo c : Int} {n : Nat} {Iv I : Hp} : Iter K dr (Itc lo c n) (rng lo c n) Iv I where
  go := fun i H _ hi => by rw [rng_len] at hi; exact hi
  stop := fun i H _ hi => by rw [rng_len] at hi; exact hi
  yld := fun i H x H' d _ hd hy => by
    obtain ⟨e, f⟩ := hy
    subst e f
    obtain ⟨_, rfl⟩ := rng_get hd
    exact ⟨Same.refl _, fun I' _ _ => .int _⟩
def g1 (f : Int → Prop) : List Dt → Prop
  | [.int i] => f i
  | _ => False
def g2 (f : Int → Int → Prop) : List Dt → Prop
  | [.int i, .int j] => f i j
  | _ => False
def iRange1 (il : IA) : II := fun env P E => il env (g1 fun j => (-(2 ^ 62) ≤ j ∧ j < 2 ^ 62) ∧ P (rng 0 1 j.toNat)) E
def iRange2 (il : IA) : II := fun env P E => il env (g2 fun i j => (-(2 ^ 62) ≤ i ∧ i < 2 ^ 62 ∧ -(2 ^ 62) ≤ j ∧ j < 2 ^ 62) ∧ P (rng i 1 (j - i).toNat)) E
/-- range(i, j, -1) -/
def g3 (f : Int → Int → Prop) : List Dt → Prop
  | [.int i, .int j, .int k] => k = -1 ∧ f i j
  | _ => False
def iRange3 (il : IA) : II := fun env P E => il env (g3 fun i j => (-(2 ^ 62) ≤ i ∧ i < 2 ^ 62 ∧ -(2 ^ 62) ≤ j ∧ j < 2 ^ 62) ∧ P (rng i (-1) (i - j).toNat)) E
theorem sndI_r1 {xr : XR} {W : WX} {tl : TA} {il : IA} (hl : SndA K xr W tl il) : SndI K xr W (iRng1 tl) (iRange1 il) := fun dr env σ I H P E p ev hi o R q =>
  hl dr env σ I H _ E p ev hi o _ fun ds vs H1 hx k1 r1 => by
    unfold g1 at hx
    split at hx
    · cases r1 with
      | cons a b =>
        cases a; cases b
        exact ⟨_, rfl, hx.1.1, hx.1.2, q _ _ H1 hx.2 k1 iter_rng⟩
    · exact hx.elim
theorem sndI_r2 {xr : XR} {W : WX} {tl : TA} {il : IA} (hl : SndA K xr W tl il) : SndI K xr W (iRng2 tl) (iRange2 il) := fun dr env σ I H P E p ev hi o R q =>
  hl dr env σ I H _ E p ev hi o _ fun ds vs H1 hx k1 r1 => by
    unfold g2 at hx
    split at hx
    · cases r1 with
      | cons a b =>
        cases a
        cases b with
        | cons a b =>
          cases a; cases b
          exact ⟨_, _, rfl, hx.1, q _ _ H1 hx.2 k1 iter_rng⟩
    · exact hx.elim
theorem sndI_r3 {xr : XR} {W : WX} {tl : TA} {il : IA} (hl : SndA K xr W tl il) : SndI K xr W (iRng3 tl) (iRange3 il) := fun dr env σ I H P E p ev hi o R q =>
  hl dr env σ I H _ E p ev hi o _ fun ds vs H1 hx k1 r1 => by
    unfold g3 at hx
    split at hx
    · cases r1 with
      | cons a b =>
        cases a
        cases b with
        | cons a b =>
          cases a
          cases b with
          | cons a b =>
            cases a; cases b
            obtain ⟨rfl, h1, h2⟩ := hx
            exact ⟨_, _, _, _, rfl, RgC.neg h1.1 h1.2.1 h1.2.2.1 h1.2.2.2, q _ _ H1 h2 k1 iter_rngC⟩
    · exact hx.elim
end
def LI (xr : XR) (X : Cx) (W : WX) (tg e : Expr) (ii : II) : Prop := ∃ wi, PI X tg e wi ∧ SndI X.K xr W wi ii
def LIO (xr : XR) (X : Cx) (W : WX) (tg e : Expr) (ii : II) : Prop := ∃ wi, PI X tg e wi ∧ SndIO X.K xr W wi ii
section
variable {xr : XR} {X : Cx} {W : WX} {e a b c tg : Expr} {es : List Expr} {ia : IE} {il : IA} {ii : II} {pos p : Pos}
theorem LI.O (h : LI xr X W tg e ii) : LIO xr X W tg e ii := let ⟨_, p, s⟩ := h; ⟨_, p, s.o⟩
theorem lio_of (h : LO xr X W e ia) : LIO xr X W tg e (iOf ia) := let ⟨_, p, s⟩ := h; ⟨_, pi_seq p, sndIO_of s⟩
theorem li_of (h : LE xr X W e ia) : LI xr X W tg e (iOf ia) := let ⟨_, p, s⟩ := h; ⟨_, pi_seq p, sndI_of s⟩
theorem li_r1 (hg : Gl X "range") (hm : X.mg "range" = none) (ha : LA xr X W [a] il) (hs : starEach [a] X.env = [(false, eval a X.env)] := by rfl) : LI xr X W tg (.Call (.Name "range" p) [a] [] pos) (iRange1 il) :=
  let ⟨_, q, s⟩ := ha; ⟨_, pi_range1 hg hm q hs, sndI_r1 s⟩
theorem li_r2 (hg : Gl X "range") (hm : X.mg "range" = none) (ha : LA xr X W [a, b] il) (hs : starEach [a, b] X.env = [(false, eval a X.env), (false, eval b X.env)] := by rfl) (hs2 : starEach [b] X.env = [(false, eval b X.env)] := by rfl) : LI xr X W tg (.Call (.Name "range" p) [a, b] [] pos) (iRange2 il) :=
  let ⟨_, q, s⟩ := ha; ⟨_, pi_range2 hg hm q hs hs2, sndI_r2 s⟩
theorem li_r3 (hg : Gl X "range") (hm : X.mg "range" = none) (ha : LA xr X W [a, b, c] il) (hs : starEach [a, b, c] X.env = (false, eval a X.env) :: starEach [b, c] X.env := by rfl) (hpl : (backTo pos (starEach [b, c] X.env)).any (·.1) = false := by rfl) : LI xr X W tg (.Call (.Name "range" p) [a, b, c] [] pos) (iRange3 il) :=
  let ⟨_, q, s⟩ := ha; ⟨_, pi_range3 hg hm q hs hpl, sndI_r3 s⟩
end
end DL

set_option maxRecDepth 100000
/-! DL6: targets, comprehensions. -/
namespace DL
open PySem L2 PyProof.Rows

/-! ### slots forgotten -/
theorem wipe_get (σ : L2.St) (j : Nat) : ∀ vs : List Nat, (wipe σ vs)[j]? = if j ∈ vs then σ[j]?.map (fun _ => none) else σ[j]?
  | [] => by simp [wipe]
  | v :: vs => by
    unfold wipe
    rw [List.getElem?_set, wipe_length, wipe_get σ j vs]
    by_cases hv : v = j
    · subst hv
      by_cases hl : v < σ.length
      · simp [hl]
      · simp [hl, List.getElem?_eq_none (Nat.not_lt.mp hl)]
    · have hn : ¬ j = v := fun z => hv z.symm
      simp [hv, hn, List.mem_cons]
theorem wipe_set {σ : L2.St} {i : Nat} {x : Option V} {vs : List Nat} (h : i ∈ vs) : wipe (σ.set i x) vs = wipe σ vs := by
  apply List.ext_getElem?
  intro j
  rw [wipe_get, wipe_get, List.getElem?_set]
  by_cases hj : i = j
  · subst hj
    rw [if_pos h, if_pos h, if_pos rfl]
    by_cases hl : i < σ.length
    · simp [hl]
    · simp [hl]
  · rw [if_neg hj]
theorem wipe_wipe (σ : L2.St) (vs : List Nat) : wipe (wipe σ vs) vs = wipe σ vs := by
  apply List.ext_getElem?
  intro j
  rw [wipe_get, wipe_get]
  by_cases h : j ∈ vs
  · simp only [if_pos h, Option.map_map]; rfl
  · simp [h]
def wipeE : List Sl → List Nat → List Sl
  | e, [] => e
  | e, v :: vs => put (wipeE e vs) v .no
theorem wipeE_length (e : List Sl) : ∀ vs, (wipeE e vs).length = e.length
  | [] => rfl
  | v :: vs => by rw [wipeE, put_length, wipeE_length e vs]
theorem wipeE_sl (e : List Sl) (j : Nat) : ∀ vs, sl (wipeE e vs) j = if j ∈ vs then .no else sl e j
  | [] => by simp [wipeE]
  | v :: vs => by
    rw [wipeE, sl_put, wipeE_sl e j vs, wipeE_length]
    by_cases hv : v = j
    · subst hv
      by_cases hl : v < e.length
      · simp [hl]
      · have : sl e v = .no := Classical.byContradiction fun z => hl (sl_lt z)
        simp [hl, this]
    · have hn : ¬ j = v := fun z => hv z.symm
      simp [hv, hn, List.mem_cons]
section
variable {K : Fr} {dr : Dr} {H H' H1 H2 I I' : Hp} {env : List Sl} {σ : L2.St}
theorem EnvOk.wipe (h : EnvOk K dr env σ I H) (vs : List Nat) : EnvOk K dr (wipeE env vs) (L2.wipe σ vs) I H := by
  refine ⟨by rw [wipe_length, wipeE_length]; exact h.len, fun i hi => ?_, fun i j d e p h1 h2 h3 h4 => ?_⟩
  · rw [wipeE_sl, wipe_get]
    by_cases hv : i ∈ vs
    · rw [if_pos hv, if_pos hv]; trivial
    · rw [if_neg hv, if_neg hv]
      exact h.at_ i (by rw [wipeE_length] at hi; exact hi)
  · rw [wipeE_sl] at h1 h2
    rw [wipe_get] at h3 h4
    by_cases hi : i ∈ vs
    · rw [if_pos hi] at h1; cases h1
    · by_cases hj : j ∈ vs
      · rw [if_pos hj] at h2; cases h2
      · rw [if_neg hi] at h1 h3
        rw [if_neg hj] at h2 h4
        exact h.sep i j d e p h1 h2 h3 h4
theorem EnvOk.put_im (h : EnvOk K dr env σ I H) {i : Nat} {v : V} {d : Dt} (r : Rp K dr I v d) : EnvOk K dr (put env i (.im d)) (σ.set i (some v)) I H := by
  refine ⟨by rw [List.length_set, put_length]; exact h.len, fun j hj => ?_, fun j k d' e p h1 h2 h3 h4 => ?_⟩
  · rw [put_length] at hj
    rw [sl_put, List.getElem?_set]
    by_cases hij : i = j
    · subst hij
      rw [if_pos rfl, if_pos (by rw [h.len]; exact hj), if_pos ⟨rfl, hj⟩]
      exact ⟨v, rfl, r⟩
    · rw [if_neg hij, if_neg (fun z => hij z.1)]
      exact h.at_ j hj
  · rw [sl_put] at h1 h2
    rw [List.getElem?_set] at h3 h4
    by_cases hij : i = j ∧ j < env.length
    · rw [if_pos hij] at h1; cases h1
    · rw [if_neg hij] at h1
      by_cases hik : i = k ∧ k < env.length
      · rw [if_pos hik] at h2; cases h2
      · rw [if_neg hik] at h2
        have l1 : j < env.length := sl_lt (by rw [h1]; simp)
        have l2 : k < env.length := sl_lt (by rw [h2]; simp)
        rw [if_neg (fun z => hij ⟨z, l1⟩)] at h3
        rw [if_neg (fun z => hik ⟨z, l2⟩)] at h4
        exact h.sep j k d' e p h1 h2 h3 h4
theorem EnvOk.put_ow (h : EnvOk K dr env σ I H) {i : Nat} {p : Addr} {d : Dt} (h1 : I p = none) (h2 : ¬ IsDr dr p) (h3 : OwR K dr I H p d) (h4 : ∀ j e, sl env j = .ow e → σ[j]? = some (some (.ref p)) → j = i) : EnvOk K dr (put env i (.ow d)) (σ.set i (some (.ref p))) I H := by
  refine ⟨by rw [List.length_set, put_length]; exact h.len, fun j hj => ?_, fun j k d' e q e1 e2 e3 e4 => ?_⟩
  · rw [put_length] at hj
    rw [sl_put, List.getElem?_set]
    by_cases hij : i = j
    · subst hij
      rw [if_pos rfl, if_pos (by rw [h.len]; exact hj), if_pos ⟨rfl, hj⟩]
      exact ⟨p, rfl, h1, h2, h3⟩
    · rw [if_neg hij, if_neg (fun z => hij z.1)]
      exact h.at_ j hj
  · rw [sl_put] at e1 e2
    rw [List.getElem?_set] at e3 e4
    have l1 : j < env.length := by
      by_cases z : i = j ∧ j < env.length
      · exact z.2
      · rw [if_neg z] at e1; exact sl_lt (by rw [e1]; simp)
    have l2 : k < env.length := by
      by_cases z : i = k ∧ k < env.length
      · exact z.2
      · rw [if_neg z] at e2; exact sl_lt (by rw [e2]; simp)
    by_cases hij : i = j
    · by_cases hik : i = k
      · exact hij.symm.trans hik
      · rw [if_neg (fun z => hik z.1)] at e2
        rw [if_neg hik] at e4
        rw [if_pos hij, if_pos (by rw [h.len, hij]; exact l1)] at e3
        have : p = q := by simpa using e3
        subst this
        exact absurd (h4 k e e2 e4).symm hik
    · rw [if_neg (fun z => hij z.1)] at e1
      rw [if_neg hij] at e3
      by_cases hik : i = k
      · rw [if_pos hik, if_pos (by rw [h.len, hik]; exact l2)] at e4
        have : p = q := by simpa using e4
        subst this
        exact absurd (h4 j d' e1 e3).symm hij
      · rw [if_neg (fun z => hik z.1)] at e2
        rw [if_neg hik] at e4
        exact h.sep j k d' e q e1 e2 e3 e4
/-- behind a new object that is left out -/
theorem EnvOk.hid {p : Addr} (pr : Pre dr I H) (k : Kp dr H H') (hp : H p = none) (h : EnvOk K dr env σ I H) : EnvOk K dr env σ (hid p (ext I H H')) H' := by
  refine ⟨h.len, fun i hi => ?_, h.sep⟩
  have q := h.at_ i hi
  revert q
  cases sl env i with
  | no => intro _; trivial
  | ex a dd wd => exact fun h => ⟨h.1, h.2.1, k.keep dd _ h.2.2 h.2.1⟩
  | im d =>
    rintro ⟨v, e, r⟩
    refine ⟨v, e, r.mono fun a o z => ?_⟩
    have ne : a ≠ p := fun y => by subst y; have := pr.sub _ _ z; rw [hp] at this; cases this
    unfold DL.hid
    rw [if_neg ne]
    exact pr.ext_sub a o z
  | ow d =>
    rintro ⟨q, e, h1, h2, h3⟩
    obtain ⟨o, e2⟩ := h3.some_
    have ne : q ≠ p := fun y => by subst y; rw [hp] at e2; cases e2
    refine ⟨q, e, ?_, h2, h3.mono (fun a o z => ?_) ((k.keep q o e2 h2).trans e2.symm)⟩
    · unfold DL.hid
      rw [if_neg ne, ext_some (by rw [e2]; simp)]
      exact h1
    · have ne : a ≠ p := fun y => by subst y; have := pr.sub _ _ z; rw [hp] at this; cases this
      unfold DL.hid
      rw [if_neg ne]
      exact pr.ext_sub a o z
theorem Pre.hid (pr : Pre dr I H) (k : Kp dr H H') (p : Addr) : Pre dr (hid p (ext I H H')) H' := (pr.step k).less hid_same
end

/-! ### targets that are names, or tuples of such -/
abbrev G := Dt → List Sl → (List Sl → Prop) → Prop
abbrev Gs := List Dt → List Sl → (List Sl → Prop) → Prop
structure Put (K : Fr) (dr : Dr) (ts : List Nat) (env : List Sl) (σ : L2.St) (I H : Hp) (env' : List Sl) (σ' : L2.St) : Prop where
  ok : EnvOk K dr env' σ' I H
  wp : ∀ vs, (∀ t ∈ ts, t ∈ vs) → wipe σ' vs = wipe σ vs
  own : ∀ i d p, sl env' i = .ow d → σ'[i]? = some (some (.ref p)) → sl env i = .ow d ∧ σ[i]? = some (some (.ref p))
def SndG (K : Fr) (tg : TG) (g : G) (ts : List Nat) : Prop := ∀ dr env σ I H v d P, Pre dr I H → EnvOk K dr env σ I H → Rp K dr I v d → g d env P → ∀ Q : L2.St → Hp → Prop, (∀ env' σ', P env' → Put K dr ts env σ I H env' σ' → Q σ' H) → tg v σ H Q
def SndGs (K : Fr) (tg : TGs) (g : Gs) (ts : List Nat) : Prop := ∀ dr env σ I H vs ds P, Pre dr I H → EnvOk K dr env σ I H → RpL K dr I vs ds → g ds env P → ∀ Q : L2.St → Hp → Prop, (∀ env' σ', P env' → Put K dr ts env σ I H env' σ' → Q σ' H) → tg vs σ H Q
def gN (i : Nat) : G := fun d env P => P (put env i (.im d))
def gsNil : Gs
  | [], env, P => P env
  | _, _, _ => False
def gsCons (g : G) (gs : Gs) : Gs
  | d :: ds, env, P => g d env fun env' => gs ds env' P
  | _, _, _ => False
def gT (n : Nat) (gs : Gs) : G
  | .tup ds, env, P => ds.length = n ∧ gs ds env P
  | _, _, _ => False
section
set_option autoImplicit true
@[simp] theorem gT_r1 (n : Nat) (gs : Gs) : gT n gs (.tup ds) env P = (ds.length = n ∧ gs ds env P) := id rfl
end
theorem sndG_name {K : Fr} {i : Nat} : SndG K (gName i) (gN i) [i] := fun dr env σ I H v d P p ev r h Q q => by
  refine q _ _ h ⟨ev.put_im r, fun vs hv => wipe_set (hv i List.mem_cons_self), fun j d' p' h1 h2 => ?_⟩
  rw [sl_put] at h1
  rw [List.getElem?_set] at h2
  by_cases hij : i = j ∧ j < env.length
  · rw [if_pos hij] at h1; cases h1
  · rw [if_neg hij] at h1
    have l1 : j < env.length := sl_lt (by rw [h1]; simp)
    rw [if_neg (fun z => hij ⟨z, l1⟩)] at h2
    exact ⟨h1, h2⟩
theorem sndGs_nil {K : Fr} : SndGs K gNil gsNil [] := fun dr env σ I H vs ds P p ev r h Q q => by
  cases r with
  | nil => exact ⟨rfl, q _ _ h ⟨ev, fun _ _ => rfl, fun _ _ _ h1 h2 => ⟨h1, h2⟩⟩⟩
  | cons _ _ => exact h.elim
theorem sndGs_cons {K : Fr} {tg : TG} {tgs : TGs} {g : G} {gs : Gs} {ts us : List Nat} (hg : SndG K tg g ts) (hs : SndGs K tgs gs us) : SndGs K (gCons tg tgs) (gsCons g gs) (ts ++ us) := fun dr env σ I H vs ds P p ev r h Q q => by
  cases r with
  | nil => exact h.elim
  | cons r1 r2 =>
    refine ⟨_, _, rfl, hg dr env σ I H _ _ _ p ev r1 h _ fun env' σ' h' k => ?_⟩
    refine hs dr env' σ' I H _ _ _ p k.ok r2 h' _ fun env2 σ2 h2 k2 => q _ _ h2 ⟨k2.ok, fun vs hv => ?_, fun i d p' e1 e2 => ?_⟩
    · rw [k2.wp vs fun t ht => hv t (List.mem_append_right _ ht), k.wp vs fun t ht => hv t (List.mem_append_left _ ht)]
    · obtain ⟨a, b⟩ := k2.own i d p' e1 e2
      exact k.own i d p' a b
theorem sndG_tup {K : Fr} {n : Nat} {tgs : TGs} {gs : Gs} {ts : List Nat} (hs : SndGs K tgs gs ts) : SndG K (gTup K n tgs) (gT n gs) ts := fun dr env σ I H v d P p ev r h Q q => by
  cases r with
  | tup e _ r => exact ⟨_, _, rfl, same_seqT p.sub e, by rw [r.len]; exact h.1, hs dr env σ I H _ _ _ p ev r h.2 Q q⟩
  | _ => exact h.elim
def LG (X : Cx) (tg : Expr) (g : G) (ts : List Nat) : Prop := ∃ t, PG X tg t ∧ SndG X.K t g ts
def LGs (X : Cx) (tg : List Expr) (g : Gs) (ts : List Nat) : Prop := ∃ t, PGs X tg t ∧ SndGs X.K t g ts
section
variable {X : Cx} {e : Expr} {es : List Expr} {g : G} {gs : Gs} {ts us : List Nat} {pos : Pos}
theorem lg_name (i : Nat) {x : Str} (hN : X.N.Nodup) (hi : X.N[i]? = some x := by rfl) (hx : Loc X.env.scope x := by first | exact Or.inl rfl | exact Or.inr rfl) (hf : X.fn x = true ∨ X.env.scope.names.lookup x = some .local := by first | exact .inl rfl | exact .inr rfl | assumption) : LG X (.Name x pos) (gN i) [i] :=
  ⟨_, pg_name hN hi hx hf, sndG_name⟩
theorem lgs_nil : LGs X [] gsNil [] := ⟨_, pgs_nil, sndGs_nil⟩
theorem lgs_cons (h : LG X e g ts) (hs : LGs X es gs us) (ha : (assignEach (e :: es) X.env).map (·.2) = assign e X.env :: (assignEach es X.env).map (·.2) := by rfl) : LGs X (e :: es) (gsCons g gs) (ts ++ us) :=
  let ⟨_, p, s⟩ := h; let ⟨_, q, t⟩ := hs; ⟨_, pgs_cons p q ha, sndGs_cons s t⟩
theorem lg_tup {k n : Nat} (hc : X.calm = true) (hs : LGs X es gs ts) (hn : (assignEach es X.env).length = n := by rfl) (hst : (assignEach es X.env).findIdx? (·.1) = none := by rfl) : LG X (.Tuple es k pos) (gT n gs) ts :=
  let ⟨_, q, t⟩ := hs; ⟨_, pg_tup hc q hn hst, sndG_tup t⟩
end

/-! ### comprehensions -/
def compD (g : G) (it : IT) (ie : IE) (env : List Sl) (P : Dt → Prop) : List Dt → List Dt → Prop
  | [], outs => P (.lst outs)
  | d :: ds, outs => g d env fun env1 => it env1 (fun b => if b = true then ie env1 (fun y => compD g it ie env P ds (outs ++ [y])) (fun _ => False) else compD g it ie env P ds outs) fun _ => False
def nComp (vs : List Nat) (ii : II) (g : G) (it : IT) (ie : IE) : IE := fun env P E => ii env (fun ds => ds.length ≤ 16777216 ∧ compD g it ie (wipeE env vs) P ds []) E
def bYes : IT := fun _ P _ => P true
abbrev WF : WX := fun _ _ _ _ => False
theorem outF {xr : XR} {dr : Dr} {σ : L2.St} {H : Hp} : OutE xr WF dr σ H fun _ => False := fun _ _ _ _ z => z.elim
theorem Kp.of_same {dr : Dr} {H H' : Hp} (s : Same H H') : Kp dr H H' := ⟨fun a o e _ => s a o e, fun q e ⟨i, cs, h1, h2, h3⟩ => ⟨i, cs, s _ _ h1, s _ _ h2, h3⟩⟩
theorem Kp.same {dr : Dr} {H H' I : Hp} (k : Kp dr H H') (p : Pre dr I H) : Same I H' := fun a o e => k.keep a o (p.sub a o e) fun i => by rw [p.nI a i] at e; cases e
theorem sndN_comp {K : Fr} {xr : XR} {W : WX} {wi : TI} {tg : TG} {tt : TT} {te : TE} {vs ts : List Nat} {ii : II} {g : G} {it : IT} {ie : IE} (hi : SndIO K xr W wi ii) (hg : SndG K tg g ts) (hts : ∀ t ∈ ts, t ∈ vs) (ht : SndT K xr WF tt it) (he : Snd K xr WF te ie) :
    SndN K xr W (tLc wi tg tt te vs) (nComp vs ii g it ie) := fun dr env σ I H P E p ev hx o Q q => by
  refine hi dr env σ I H _ E p ev hx o _ fun ds J H1 Iv hd k1 pv itr D hD => ?_
  obtain ⟨hlen, hc⟩ := hd
  have p1 := p.step k1
  have ev1 := ev.step k1 p
  generalize hI1 : ext I H H1 = I1 at p1 ev1 itr
  have kD : Kp dr H1 (upd H1 D (.lst [])) := Kp.new p1 hD
  refine ⟨fun i m H2 => m = ds.length - i ∧ i ≤ ds.length ∧ ∃ acc outs, Kp dr H1 H2 ∧ H2 D = some (.lst acc) ∧ RpL K dr (hid D (ext I1 H1 H2)) acc outs ∧ outs.length ≤ i ∧ compD g it ie (wipeE env vs) P (ds.drop i) outs, ⟨ds.length, by simp, Nat.zero_le _, [], [], kD, upd_same, .nil, Nat.le_refl _, hc⟩, ?_⟩
  rintro i m H2 ⟨rfl, hi', acc, outs, k2, hacc, racc, hol, hc2⟩
  have sv : Same Iv H2 := k2.same pv
  by_cases hlt : i < ds.length
  · refine .inr ⟨itr.go i H2 sv hlt, fun H' => ∃ acc outs, Kp dr H1 H' ∧ H' D = some (.lst acc) ∧ RpL K dr (hid D (ext I1 H1 H')) acc outs ∧ outs.length ≤ i + 1 ∧ compD g it ie (wipeE env vs) P (ds.drop (i + 1)) outs, fun H' h' => ⟨ds.length - (i + 1), by omega, rfl, hlt, h'⟩, fun x H3 hy => ?_⟩
    obtain ⟨s3, rx⟩ := itr.yld i H2 x H3 ds[i] sv (List.getElem?_eq_getElem hlt) hy
    have k3 : Kp dr H2 H3 := Kp.of_same s3
    have k13 := k2.trans k3
    -- the part that never changes, without the new list
    have sub1 : ∀ H', Kp dr H1 H' → Same I1 (hid D (ext I1 H1 H')) := fun H' k a o e => by
      have ne : a ≠ D := fun y => by subst y; have := p1.sub _ _ e; rw [hD] at this; cases this
      unfold hid
      rw [if_neg ne]
      exact p1.ext_sub a o e
    have grow : ∀ H' H'', Kp dr H1 H' → Kp dr H' H'' → Same (hid D (ext I1 H1 H')) (hid D (ext I1 H1 H'')) := fun H' H'' k k' a o e => by
      unfold hid at e ⊢
      by_cases ha : a = D
      · rw [if_pos ha] at e; cases e
      · rw [if_neg ha] at e ⊢
        by_cases h1 : H1 a = none
        · rw [ext_none h1] at e ⊢
          exact k'.keep a o e (p1.notDr h1)
        · rw [ext_some h1] at e ⊢; exact e
    have p3 : Pre dr (hid D (ext I1 H1 H3)) H3 := p1.hid k13 D
    have e3 : EnvOk K dr (wipeE env vs) (wipe σ vs) (hid D (ext I1 H1 H3)) H3 := (ev1.hid p1 k13 hD).wipe vs
    have rx3 : Rp K dr (hid D (ext I1 H1 H3)) x ds[i] := by
      refine (rx (hid D (ext I1 H1 H2)) (sub1 H2 k2) (p1.hid k2 D).sub).mono fun a o e => ?_
      by_cases h2 : H2 a = none
      · rw [ext_none h2] at e
        have ha : a ≠ D := fun y => by subst y; rw [hacc] at h2; cases h2
        have h1 : H1 a = none := k2.none_back p1 h2
        unfold hid
        rw [if_neg ha, ext_none h1]
        exact e
      · rw [ext_some h2] at e
        exact grow H2 H3 k2 k3 a o e
    have hdrop : ds.drop i = ds[i] :: ds.drop (i + 1) := (List.getElem_cons_drop (h := hlt)).symm
    rw [hdrop] at hc2
    refine hg dr _ _ _ H3 x ds[i] _ p3 e3 rx3 hc2 _ fun env1 σ1 h1 pu => ⟨?_, ?_⟩
    · rw [pu.wp vs hts, wipe_wipe]
    · refine ht dr env1 σ1 _ H3 _ _ p3 pu.ok h1 outF _ fun b H4 hb k4 => ?_
      have k14 := k13.trans k4
      have hacc4 : H4 D = some (.lst acc) := k4.keep D _ (k3.keep D _ hacc (p1.notDr hD)) (p1.notDr hD)
      cases b with
      | false =>
        show ∃ acc outs, _
        exact ⟨acc, outs, k14, hacc4, RpL.mono (grow H2 H4 k2 (k3.trans k4)) _ _ racc, by omega, hb⟩
      | true =>
        show te σ1 H4 _
        have p4 := p3.step k4
        refine he dr env1 σ1 _ H4 _ _ p4 (pu.ok.step k4 p3) hb outF _ fun y w H5 hy5 k5 r5 => ?_
        have k15 := k14.trans k5
        have hacc5 : H5 D = some (.lst acc) := k5.keep D _ hacc4 (p1.notDr hD)
        have kU : Kp dr H1 (upd H5 D (.lst (acc ++ [w]))) := by
          refine ⟨fun a o e n => ?_, fun qq e h => ?_⟩
          · rw [upd_ne (ne_of_none e hD)]; exact k15.keep a o e n
          · obtain ⟨i', cs, h1', h2', h3'⟩ := k15.dro qq e h
            have n1 : qq.1 ≠ D := fun z => p1.notDr hD ⟨qq, e, .inl z.symm⟩
            have n2 : qq.2 ≠ D := fun z => p1.notDr hD ⟨qq, e, .inr z.symm⟩
            exact ⟨i', cs, by rw [upd_ne n1]; exact h1', by rw [upd_ne n2]; exact h2', h3'⟩
        have up : Same (hid D (ext I1 H1 H5)) (hid D (ext I1 H1 (upd H5 D (.lst (acc ++ [w]))))) := fun a o e => by
          unfold hid at e ⊢
          by_cases ha : a = D
          · rw [if_pos ha] at e; cases e
          · rw [if_neg ha] at e ⊢
            by_cases h1 : H1 a = none
            · rw [ext_none h1] at e ⊢; rw [upd_ne ha]; exact e
            · rw [ext_some h1] at e ⊢; exact e
        have rw5 : Rp K dr (hid D (ext I1 H1 H5)) w y := by
          refine r5.mono fun a o e => ?_
          by_cases h4 : H4 a = none
          · rw [ext_none h4] at e
            have ha : a ≠ D := fun z => by subst z; rw [hacc4] at h4; cases h4
            have h1 : H1 a = none := k14.none_back p1 h4
            unfold hid
            rw [if_neg ha, ext_none h1]
            exact e
          · rw [ext_some h4] at e
            by_cases h3 : H3 a = none
            · rw [ext_none h3] at e
              have ha : a ≠ D := fun z => by
                subst z
                have := k3.keep a _ hacc (p1.notDr hD)
                rw [h3] at this; cases this
              have h1 : H1 a = none := k13.none_back p1 h3
              unfold hid
              rw [if_neg ha, ext_none h1]
              exact k5.keep a o e (p1.notDr h1)
            · rw [ext_some h3] at e
              exact grow H3 H5 k13 (k4.trans k5) a o e
        have hl := racc.len
        refine ⟨acc, hacc5, Nat.lt_of_lt_of_le (by omega) (size_le hlen), acc ++ [w], outs ++ [y], kU, upd_same, ?_, by rw [List.length_append, List.length_singleton]; omega, hy5⟩
        exact (RpL.mono up _ _ ((RpL.mono (grow H2 H5 k2 ((k3.trans k4).trans k5)) _ _ racc).append (.cons rw5 .nil)))
  · have ei : i = ds.length := by omega
    subst ei
    rw [List.drop_length] at hc2
    refine .inl ⟨itr.stop _ H2 sv (Nat.le_refl _), q _ _ H2 hc2 (k1.trans k2) ⟨D, rfl, k1.none_back p hD, acc, hacc, ?_⟩⟩
    rw [← hI1, p.ext_ext k1 k2] at racc
    exact racc
section
variable {xr : XR} {X : Cx} {W : WX} {elt tg iter : Expr} {ifs : List Expr} {scope : Scope} {own : List (Str × Nat)} {pos : Pos} {ii : II} {g : G} {ts : List Nat} {it : IT} {ie : IE}
def LTs (xr : XR) (X : Cx) (W : WX) (es : List Expr) (it : IT) : Prop := ∃ tt, PTs X es tt ∧ SndT X.K xr W tt it
theorem lts_nil : LTs xr X W [] bYes := ⟨_, pts_nil, fun dr env σ I H P E p ev hi o Q q => q true H hi Kp.refl⟩
theorem lts_one {c : Expr} (h : LT xr X W c it) : LTs xr X W [c] it := let ⟨_, p, s⟩ := h; ⟨_, pts_one p, s⟩
abbrev Blk (X : Cx) (scope : Scope) (P : Cx → Prop) : Prop := ∀ (s : Shared) (H : Hp) (C : Addr) (cl : List (Str × Addr)) (fp : List Addr), P (X.blk s H scope (compEnvC scope cl C X.env) fp)
theorem PE.uni {ι : Type} {F : ι → Cx} {e : Expr} {t : ι → TE} (h : ∀ c, PE (F c) e (t c)) (c : ι) : PE (F c) e (fun σ H Q => ∀ c, t c σ H Q) := ⟨fun pins s σ H Q I hq => (h c).run pins s σ H Q I (hq c)⟩
theorem blk_e {K : Fr} {ι : Type} {F : ι → Cx} {e : Expr} {ie : IE} (hK : ∀ c, (F c).K = K) (h : ∀ c, LE xr (F c) WF e ie) : ∃ te, (∀ c, PE (F c) e te) ∧ Snd K xr WF te ie := by
  have h' : ∀ c, ∃ te, PE (F c) e te ∧ Snd K xr WF te ie := fun c => by
    have z := h c
    unfold LE at z
    rw [hK c] at z
    exact z
  exact ⟨fun σ H Q => ∀ c, (h' c).choose σ H Q, fun c => PE.uni (fun c => (h' c).choose_spec.1) c, fun dr env σ I H P E p ev hi o Q q c => (h' c).choose_spec.2 dr env σ I H P E p ev hi o Q q⟩
theorem blk_t {K : Fr} {ι : Type} {F : ι → Cx} {ifs : List Expr} {it : IT} (hK : ∀ c, (F c).K = K) (h : ∀ c, LTs xr (F c) WF ifs it) : ∃ tt, (∀ c, PTs (F c) ifs tt) ∧ SndT K xr WF tt it := by
  have h' : ∀ c, ∃ te, PTs (F c) ifs te ∧ SndT K xr WF te it := fun c => by
    have z := h c
    unfold LTs at z
    rw [hK c] at z
    exact z
  exact ⟨fun σ H Q => ∀ c, (h' c).choose σ H Q, fun c => ⟨fun pins s σ H Q I hq => ((h' c).choose_spec.1).run pins s σ H Q I (hq c)⟩, fun dr env σ I H P E p ev hi o Q q c => (h' c).choose_spec.2 dr env σ I H P E p ev hi o Q q⟩
theorem blk_g {K : Fr} {ι : Type} {F : ι → Cx} {tg : Expr} {g : G} {ts : List Nat} (hK : ∀ c, (F c).K = K) (h : ∀ c, LG (F c) tg g ts) : ∃ t, (∀ c, PG (F c) tg t) ∧ SndG K t g ts := by
  have h' : ∀ c, ∃ te, PG (F c) tg te ∧ SndG K te g ts := fun c => by
    have z := h c
    unfold LG at z
    rw [hK c] at z
    exact z
  exact ⟨fun v σ H Q => ∀ c, (h' c).choose v σ H Q, fun c => ⟨fun pins s σ H v u Q I r hq => ((h' c).choose_spec.1).run pins s σ H v u Q I r (hq c)⟩, fun dr env σ I H v d P p ev r hi Q q c => (h' c).choose_spec.2 dr env σ I H v d P p ev r hi Q q⟩
theorem ln_comp (hc : X.calm = true) (hN : X.N.Nodup) (hi : LIO xr X W tg iter ii) (ok : BlkOk X.N X.env.scope scope own) (hts : ts = own.map (·.2))
    (hg : Blk X scope fun X' => LG X' tg g ts) (ht : Blk X scope fun X' => LTs xr X' WF ifs it) (he : Blk X scope fun X' => LE xr X' WF elt ie) (hs : ∀ x, foldedSetIterable iter X.env x = pure x := by intro _; rfl) :
    LN xr X W (.ListComp elt [⟨tg, iter, ifs, 0⟩] scope pos) (nComp ts ii g it ie) := by
  obtain ⟨wi, pi, si⟩ := hi
  subst hts
  obtain ⟨t, pg, sg⟩ := blk_g (ι := Shared × Hp × Addr × List (Str × Addr) × List Addr) (K := X.K) (F := fun c => X.blk c.1 c.2.1 scope (compEnvC scope c.2.2.2.1 c.2.2.1 X.env) c.2.2.2.2) (fun _ => rfl) fun c => hg c.1 c.2.1 c.2.2.1 c.2.2.2.1 c.2.2.2.2
  obtain ⟨tt, pt, st⟩ := blk_t (xr := xr) (ι := Shared × Hp × Addr × List (Str × Addr) × List Addr) (K := X.K) (F := fun c => X.blk c.1 c.2.1 scope (compEnvC scope c.2.2.2.1 c.2.2.1 X.env) c.2.2.2.2) (fun _ => rfl) fun c => ht c.1 c.2.1 c.2.2.1 c.2.2.2.1 c.2.2.2.2
  obtain ⟨te, pe, se⟩ := blk_e (xr := xr) (ι := Shared × Hp × Addr × List (Str × Addr) × List Addr) (K := X.K) (F := fun c => X.blk c.1 c.2.1 scope (compEnvC scope c.2.2.2.1 c.2.2.1 X.env) c.2.2.2.2) (fun _ => rfl) fun c => he c.1 c.2.1 c.2.2.1 c.2.2.2.1 c.2.2.2.2
  exact ⟨_, pe_lc hc hN pi ok (fun s H C cl fp => pg (s, H, C, cl, fp)) (fun s H C cl fp => pt (s, H, C, cl, fp)) (fun s H C cl fp => pe (s, H, C, cl, fp)) hs, sndN_comp si sg (fun _ h => h) st se⟩
end
end DL

set_option maxRecDepth 100000
/-! DL7: statements. -/
namespace DL
open PySem L2 PyProof.Rows

/-- what is wanted behind a statement, over plain data -/
structure Po where
  nx : List Sl → Prop
  rt : Dt → Prop
  bk : List Sl → Prop := fun _ => False
  ct : List Sl → Prop := fun _ => False
  ex : Xc → List Sl → Prop := fun _ _ => False
  rn : Dt → Prop := fun _ => False
abbrev IS := List Sl → Po → Prop

/-- the state within a def: (J, B) as at its entry, Gh what a loop leans on, I what never changes -/
structure Stt (K : Fr) (dr : Dr) (J B Gh : Hp) (env : List Sl) (σ : L2.St) (I H : Hp) : Prop where
  sub : Same J I
  eq : ∀ a, B a ≠ none → I a = J a
  pre : Pre dr I H
  pre0 : Pre dr J B
  kp : Kp dr B H
  ev : EnvOk K dr env σ I H
  own : ∀ i d p, sl env i = .ow d → σ[i]? = some (some (.ref p)) → B p = none
  gh : Same Gh I
section
variable {K : Fr} {dr : Dr} {J B Gh I H H' : Hp} {env : List Sl} {σ : L2.St}
theorem Stt.step (s : Stt K dr J B Gh env σ I H) (k : Kp dr H H') : Stt K dr J B Gh env σ (ext I H H') H' where
  sub := s.sub.trans s.pre.ext_sub
  eq := fun a h => by
    rw [ext_some fun z => h (s.kp.none_back s.pre0 z)]
    exact s.eq a h
  pre := s.pre.step k
  pre0 := s.pre0
  kp := s.kp.trans k
  ev := s.ev.step k s.pre
  own := s.own
  gh := s.gh.trans s.pre.ext_sub
theorem Stt.hid (s : Stt K dr J B Gh env σ I H) (k : Kp dr H H') {p : Addr} (hp : H p = none) : Stt K dr J B Gh env σ (hid p (ext I H H')) H' := by
  have up : Same I (DL.hid p (ext I H H')) := fun a o e => by
    have ne : a ≠ p := fun y => by subst y; have := s.pre.sub _ _ e; rw [hp] at this; cases this
    unfold DL.hid
    rw [if_neg ne]
    exact s.pre.ext_sub a o e
  refine ⟨s.sub.trans up, fun a h => ?_, s.pre.hid k p, s.pre0, s.kp.trans k, s.ev.hid s.pre k hp, s.own, s.gh.trans up⟩
  have ha : H a ≠ none := fun z => h (s.kp.none_back s.pre0 z)
  have ne : a ≠ p := fun y => by subst y; exact ha hp
  unfold DL.hid
  rw [if_neg ne, ext_some ha]
  exact s.eq a h
/-- what comes out, as the caller sees it -/
theorem Stt.out (s : Stt K dr J B Gh env σ I H) : Same I (ext J B H) := fun a o e => by
  by_cases h : B a = none
  · rw [ext_none h]; exact s.pre.sub a o e
  · rw [ext_some h, ← s.eq a h]; exact e
theorem Stt.weak {Gh' : Hp} (s : Stt K dr J B Gh env σ I H) (h : Same Gh' Gh) : Stt K dr J B Gh' env σ I H := ⟨s.sub, s.eq, s.pre, s.pre0, s.kp, s.ev, s.own, h.trans s.gh⟩
theorem Stt.put {ts : List Nat} {env' : List Sl} {σ' : L2.St} (s : Stt K dr J B Gh env σ I H) (p : Put K dr ts env σ I H env' σ') : Stt K dr J B Gh env' σ' I H :=
  ⟨s.sub, s.eq, s.pre, s.pre0, s.kp, p.ok, fun i d q e1 e2 => let ⟨a, b⟩ := p.own i d q e1 e2; s.own i d q a b, s.gh⟩
/-- a value with its slot's word -/
def Vok (K : Fr) (dr : Dr) (B I H : Hp) (env : List Sl) (σ : L2.St) (v : V) : Sl → Prop
  | .im d => Rp K dr I v d
  | .ow d => ∃ p, v = .ref p ∧ I p = none ∧ ¬ IsDr dr p ∧ B p = none ∧ OwR K dr I H p d ∧ ∀ j e, sl env j = .ow e → σ[j]? ≠ some (some (.ref p))
  | _ => False
theorem Stt.set {i : Nat} {v : V} {s' : Sl} (s : Stt K dr J B Gh env σ I H) (h : Vok K dr B I H env σ v s') : Stt K dr J B Gh (DL.put env i s') (σ.set i (some v)) I H := by
  cases s' with
  | no => exact h.elim
  | ex _ _ _ => exact h.elim
  | im d =>
    have p := sndG_name (K := K) (i := i) dr env σ I H v d (fun e => e = DL.put env i (.im d)) s.pre s.ev h rfl (fun σ' _ => σ' = σ.set i (some v) → Stt K dr J B Gh (DL.put env i (.im d)) (σ.set i (some v)) I H) fun env' σ' e pu e2 => by
      subst e e2
      exact s.put pu
    exact p rfl
  | ow d =>
    obtain ⟨p, rfl, h1, h2, h0, h3, h4⟩ := h
    refine ⟨s.sub, s.eq, s.pre, s.pre0, s.kp, s.ev.put_ow h1 h2 h3 fun j e a b => absurd b (h4 j e a), fun j d' q e1 e2 => ?_, s.gh⟩
    rw [sl_put] at e1
    rw [List.getElem?_set] at e2
    by_cases hij : i = j
    · by_cases hl : j < σ.length
      · rw [if_pos hij, if_pos (by rw [hij]; exact hl)] at e2
        have : p = q := by simpa using e2
        rw [← this]; exact h0
      · rw [if_pos hij, if_neg (by rw [hij]; exact hl)] at e2; cases e2
    · rw [if_neg (fun z => hij z.1)] at e1
      rw [if_neg hij] at e2
      exact s.own j d' q e1 e2
end

/-- a value that is put: clean, or new -/
abbrev IX := List Sl → (Sl → Prop) → (Xc → Prop) → Prop
def SndX (K : Fr) (xr : XR) (W : WX) (te : TE) (ix : IX) : Prop := ∀ dr J B Gh env σ I H P E, Stt K dr J B Gh env σ I H → ix env P E → OutE xr W dr σ H E → ∀ Q : VK, (∀ s v I' H', P s → Kp dr H H' → Same I I' → (∀ a, H a ≠ none → I' a = I a) → Stt K dr J B Gh env σ I' H' → Vok K dr B I' H' env σ v s → (∀ p, v = .ref p → (∃ d, s = .ow d) → H p = none) → Q v H') → te σ H Q
def xE (ie : IE) : IX := fun env P E => ie env (fun d => P (.im d)) E
def xN (ie : IE) : IX := fun env P E => ie env (fun d => P (.ow d)) E
section
variable {K : Fr} {xr : XR} {W : WX} {te ta tb : TE} {ie : IE} {ix iy : IX}
theorem Snd.X (h : Snd K xr W te ie) : SndX K xr W te (xE ie) := fun dr J B Gh env σ I H P E s hi o Q q =>
  h dr env σ I H _ E s.pre s.ev hi o Q fun d v H' hP k r => q _ v _ H' hP k s.pre.ext_sub (fun a h => ext_some h) (s.step k) r fun p _ z => nomatch z
theorem SndN.X (h : SndN K xr W te ie) : SndX K xr W te (xN ie) := fun dr J B Gh env σ I H P E s hi o Q q =>
  h dr env σ I H _ E s.pre s.ev hi o Q fun d v H' hP k r => by
    obtain ⟨p, rfl, hp, r⟩ := r
    have up : Same I (DL.hid p (ext I H H')) := fun a o e => by
      have ne : a ≠ p := fun y => by subst y; have := s.pre.sub _ _ e; rw [hp] at this; cases this
      unfold DL.hid
      rw [if_neg ne]
      exact s.pre.ext_sub a o e
    refine q _ _ _ H' hP k up (fun a h => ?_) (s.hid k hp) ⟨p, rfl, ?_, s.pre.notDr hp, s.kp.none_back s.pre0 hp, r, fun j e a b => ?_⟩ fun p' e _ => by cases e; exact hp
    · have ne : a ≠ p := fun y => by subst y; exact h hp
      unfold DL.hid
      rw [if_neg ne, ext_some h]
    · unfold DL.hid
      rw [if_pos rfl]
    · obtain ⟨p', e1, _, _, h3⟩ := s.ev.ow a
      rw [b] at e1
      cases e1
      obtain ⟨_, e2⟩ := h3.some_
      rw [hp] at e2; cases e2
/-- behind a second value the first one's word stands -/
theorem Vok.stay {dr : Dr} {B I H I' H' : Hp} {env : List Sl} {σ : L2.St} {v : V} {s : Sl} (h : Vok K dr B I H env σ v s) (k : Kp dr H H') (sub : Same I I') (eq : ∀ a, H a ≠ none → I' a = I a) : Vok K dr B I' H' env σ v s := by
  cases s with
  | no => exact h.elim
  | ex _ _ _ => exact h.elim
  | im d => exact Rp.mono sub _ _ h
  | ow d =>
    obtain ⟨p, rfl, h1, h2, h0, h3, h4⟩ := h
    obtain ⟨o, e⟩ := h3.some_
    refine ⟨p, rfl, ?_, h2, h0, h3.mono sub ((k.keep p o e h2).trans e.symm), h4⟩
    rw [eq p (by rw [e]; simp)]
    exact h1
end

/-! ### what a statement's reading keeps to -/
structure OutS (K : Fr) (xr : XR) (W : WX) (dr : Dr) (J B Gh : Hp) (Pp : Po) (D : Ends) : Prop where
  nx : ∀ env σ I H, Pp.nx env → Stt K dr J B Gh env σ I H → D.nx σ H
  bk : ∀ env σ I H, Pp.bk env → Stt K dr J B Gh env σ I H → D.bk σ H
  ct : ∀ env σ I H, Pp.ct env → Stt K dr J B Gh env σ I H → D.ct σ H
  rt : ∀ d v H, Pp.rt d → Kp dr B H → Rp K dr (ext J B H) v d → D.rt v H
  rn : ∀ d v H, Pp.rn d → Kp dr B H → New K dr J B H v d → D.rt v H
  ex : ∀ x c a env σ I H, Pp.ex x env → Stt K dr J B Gh env σ I H → xr x c a H → W c a σ H
def SndS (K : Fr) (xr : XR) (W : WX) (t : TS) (is : IS) : Prop := ∀ dr J B Gh env σ I H Pp D, Stt K dr J B Gh env σ I H → is env Pp → OutS K xr W dr J B Gh Pp D → t D σ H
section
variable {K : Fr} {xr : XR} {W : WX} {te ta tb ti : TE} {ie ia ib : IE} {ix iy : IX} {tc : TT} {it : IT} {t u : TS} {is iu : IS}
theorem OutS.e {dr : Dr} {J B Gh : Hp} {Pp : Po} {D : Ends} {env : List Sl} {σ : L2.St} {I H : Hp} (o : OutS K xr W dr J B Gh Pp D) (s : Stt K dr J B Gh env σ I H) : OutE xr W dr σ H (fun x => Pp.ex x env) := fun x c a H' h k r => o.ex x c a env σ _ H' h (s.step k) r
def sNext : IS := fun env Pp => Pp.nx env
def sBreak : IS := fun env Pp => Pp.bk env
def sCont : IS := fun env Pp => Pp.ct env
def sSeq (is iu : IS) : IS := fun env Pp => is env { Pp with nx := fun env' => iu env' Pp }
def sRet (ie : IE) : IS := fun env Pp => ie env Pp.rt (fun x => Pp.ex x env)
def sRetN : IS := fun _ Pp => Pp.rt .non
def sDrop (ie : IE) : IS := fun env Pp => ie env (fun _ => Pp.nx env) (fun x => Pp.ex x env)
def sIf (it : IT) (is iu : IS) : IS := fun env Pp => it env (fun b => if b = true then is env Pp else iu env Pp) (fun x => Pp.ex x env)
def sSet (i : Nat) (ix : IX) : IS := fun env Pp => ix env (fun s => Pp.nx (put env i s)) (fun x => Pp.ex x env)
def sPar (i j : Nat) (ix iy : IX) : IS := fun env Pp => ix env (fun s => iy env (fun s' => Pp.nx (put (put env i s) j s')) (fun x => Pp.ex x env)) (fun x => Pp.ex x env)
def sNever : IS := fun _ _ => False
/-- an owned object is owned no longer -/
def frz (env : List Sl) (i : Nat) : List Sl := match sl env i with
  | .ow d => put env i (.im d)
  | _ => env
def sFrz (i : Nat) (is : IS) : IS := fun env Pp => is (frz env i) Pp
theorem sndS_next : SndS K xr W tNext sNext := fun dr J B Gh env σ I H Pp D s h o => o.nx _ _ _ _ h s
theorem sndS_break : SndS K xr W tBreak sBreak := fun dr J B Gh env σ I H Pp D s h o => o.bk _ _ _ _ h s
theorem sndS_cont : SndS K xr W tCont sCont := fun dr J B Gh env σ I H Pp D s h o => o.ct _ _ _ _ h s
theorem sndS_never : SndS K xr W tNever sNever := fun dr J B Gh env σ I H Pp D s h o => h.elim
theorem sndS_seq (h1 : SndS K xr W t is) (h2 : SndS K xr W u iu) : SndS K xr W (tSeq t u) (sSeq is iu) := fun dr J B Gh env σ I H Pp D s h o =>
  h1 dr J B Gh env σ I H _ { D with nx := u D } s h ⟨fun env' σ' I' H' hn s' => h2 dr J B Gh env' σ' I' H' Pp D s' hn o, o.bk, o.ct, o.rt, o.rn, o.ex⟩
theorem sndS_ret (h : Snd K xr W te ie) : SndS K xr W (tRet te) (sRet ie) := fun dr J B Gh env σ I H Pp D s hi o =>
  h dr env σ I H _ _ s.pre s.ev hi (o.e s) _ fun d v H' hP k r => o.rt d v H' hP (s.kp.trans k) (r.mono (s.step k).out)
theorem sndS_retN : SndS K xr W tRetN sRetN := fun dr J B Gh env σ I H Pp D s hi o => o.rt .non .non H hi s.kp .non
theorem sndS_drop (h : Snd K xr W te ie) : SndS K xr W (tDrop te) (sDrop ie) := fun dr J B Gh env σ I H Pp D s hi o =>
  h dr env σ I H _ _ s.pre s.ev hi (o.e s) _ fun d v H' hP k r => o.nx _ _ _ _ hP (s.step k)
theorem sndS_if (hc : SndT K xr W tc it) (h1 : SndS K xr W t is) (h2 : SndS K xr W u iu) : SndS K xr W (tIfS tc t u) (sIf it is iu) := fun dr J B Gh env σ I H Pp D s hi o =>
  hc dr env σ I H _ _ s.pre s.ev hi (o.e s) _ fun b H' hb k => by
    cases b with
    | true => exact h1 dr J B Gh env σ _ H' Pp D (s.step k) hb o
    | false => exact h2 dr J B Gh env σ _ H' Pp D (s.step k) hb o
theorem sndS_set {i : Nat} (h : SndX K xr W te ix) : SndS K xr W (tAsg te (gName i)) (sSet i ix) := fun dr J B Gh env σ I H Pp D s hi o =>
  h dr J B Gh env σ I H _ _ s hi (o.e s) _ fun s' v I' H' hP _ _ _ st vo _ => o.nx _ _ _ _ hP (st.set vo)
theorem sndS_par {i j : Nat} (ha : SndX K xr W ta ix) (hb : SndX K xr W tb iy) : SndS K xr W (tPar i j (tCons ta (tCons tb tNil))) (sPar i j ix iy) := fun dr J B Gh env σ I H Pp D s hi o =>
  ha dr J B Gh env σ I H _ _ s hi (o.e s) _ fun s1 v1 I1 H1 h1 k1 _ _ st1 vo1 nw1 =>
    hb dr J B Gh env σ I1 H1 _ _ st1 h1 (o.e st1) _ fun s2 v2 I2 H2 h2 k2 sub2 eq2 st2 vo2 nw2 => by
      refine ⟨v1, v2, rfl, o.nx _ _ I2 H2 h2 ?_⟩
      have st := st2.set (i := i) (vo1.stay k2 sub2 eq2)
      refine st.set (i := j) ?_
      cases s2 with
      | no => exact vo2.elim
      | ex _ _ _ => exact vo2.elim
      | im d => exact vo2
      | ow d =>
        obtain ⟨p, rfl, a1, a2, a0, a3, a4⟩ := vo2
        refine ⟨p, rfl, a1, a2, a0, a3, fun k e b1 b2 => ?_⟩
        rw [sl_put] at b1
        rw [List.getElem?_set] at b2
        by_cases hik : i = k
        · by_cases hl : i < σ.length
          · rw [if_pos hik, if_pos hl] at b2
            have e1 : v1 = .ref p := by simpa using b2
            have hp := nw2 p rfl ⟨d, rfl⟩
            rw [hik.symm] at b1
            rw [← st2.ev.len] at b1
            rw [if_pos ⟨rfl, hl⟩] at b1
            subst b1
            obtain ⟨p', e2, _, _, _, c3, _⟩ := vo1
            rw [e1] at e2
            cases e2
            obtain ⟨_, e3⟩ := c3.some_
            rw [hp] at e3; cases e3
          · rw [if_pos hik, if_neg hl] at b2; cases b2
        · rw [if_neg (fun z => hik z.1)] at b1
          rw [if_neg hik] at b2
          exact a4 k e b1 b2
theorem Stt.frz {dr : Dr} {J B Gh : Hp} {env : List Sl} {σ : L2.St} {I H : Hp} (s : Stt K dr J B Gh env σ I H) (i : Nat) : ∃ I', Stt K dr J B Gh (frz env i) σ I' H := by
  unfold DL.frz
  split
  · rename_i d e
    obtain ⟨p, e1, h1, h2, h3⟩ := s.ev.ow e
    obtain ⟨o, e2⟩ := h3.some_
    have up : Same I (upd I p o) := fun a u z => by rw [upd_ne (ne_of_none z h1)]; exact z
    have hp : B p = none := s.own i d p e e1
    refine ⟨upd I p o, ⟨s.sub.trans up, fun a ha => ?_, s.pre.take e2 h2, s.pre0, s.kp, ?_, fun j d' q a b => ?_, s.gh.trans up⟩⟩
    · rw [upd_ne (fun (z : a = p) => ha (by rw [z]; exact hp))]
      exact s.eq a ha
    · have li : i < env.length := sl_lt (by rw [e]; simp)
      refine ⟨by rw [put_length]; exact s.ev.len, fun j hj => ?_, fun j k d' e' q a1 a2 a3 a4 => ?_⟩
      · rw [put_length] at hj
        rw [sl_put]
        by_cases hij : i = j
        · rw [if_pos ⟨hij, hj⟩, ← hij, e1]
          exact ⟨_, rfl, h3.rp up (by rw [upd_same]; exact e2.symm)⟩
        · rw [if_neg (fun z => hij z.1)]
          have q := s.ev.at_ j hj
          revert q
          cases hs : sl env j with
          | no => intro _; trivial
          | ex a dd wd => exact fun h => h
          | im d' => rintro ⟨v, ev, r⟩; exact ⟨v, ev, r.mono up⟩
          | ow d' =>
            rintro ⟨q, ev, b1, b2, b3⟩
            have ne : q ≠ p := fun z => by
              subst z
              exact hij (s.ev.sep i j d d' q e hs e1 (join_some ev))
            exact ⟨q, ev, by rw [upd_ne ne]; exact b1, b2, b3.mono up rfl⟩
      · rw [sl_put] at a1 a2
        by_cases hj : i = j ∧ j < env.length
        · rw [if_pos hj] at a1; cases a1
        · by_cases hk : i = k ∧ k < env.length
          · rw [if_pos hk] at a2; cases a2
          · rw [if_neg hj] at a1
            rw [if_neg hk] at a2
            exact s.ev.sep j k d' e' q a1 a2 a3 a4
    · rw [sl_put] at a
      by_cases hj : i = j ∧ j < env.length
      · rw [if_pos hj] at a; cases a
      · rw [if_neg hj] at a
        exact s.own j d' q a b
  · exact ⟨I, s⟩
theorem sndS_frz {i : Nat} (h : SndS K xr W t is) : SndS K xr W t (sFrz i is) := fun dr J B Gh env σ I H Pp D s hi o =>
  let ⟨I', s'⟩ := s.frz i; h dr J B Gh _ σ I' H Pp D s' hi o

/-! ### owned objects changed -/
theorem Stt.write {dr : Dr} {J B Gh : Hp} {env : List Sl} {σ : L2.St} {I H : Hp} {i : Nat} {d d' : Dt} {p : Addr} {o : HO} (s : Stt K dr J B Gh env σ I H) (e : sl env i = .ow d) (e1 : σ[i]? = some (some (.ref p))) (h : OwR K dr I (upd H p o) p d') : Stt K dr J B Gh (DL.put env i (.ow d')) σ I (upd H p o) := by
  obtain ⟨p', e1', h1, h2, h3⟩ := s.ev.ow e
  rw [e1] at e1'
  cases e1'
  have hp : B p = none := s.own i d p e e1
  have li : i < env.length := sl_lt (by rw [e]; simp)
  have n1 : ∀ q, dr = some q → q.1 ≠ p ∧ q.2 ≠ p := fun q eq => ⟨fun z => h2 ⟨q, eq, .inl z.symm⟩, fun z => h2 ⟨q, eq, .inr z.symm⟩⟩
  have dro : ∀ q, dr = some q → DrOk q H → DrOk q (upd H p o) := fun q eq ⟨x, cs, a1, a2, a3⟩ => ⟨x, cs, by rw [upd_ne (n1 q eq).1]; exact a1, by rw [upd_ne (n1 q eq).2]; exact a2, a3⟩
  refine ⟨s.sub, s.eq, ⟨fun a u z => ?_, fun q eq => dro q eq (s.pre.dro q eq), s.pre.nI⟩, s.pre0, ⟨fun a u z n => ?_, fun q eq z => dro q eq (s.kp.dro q eq z)⟩, ⟨by rw [put_length]; exact s.ev.len, fun j hj => ?_, fun j k d1 d2 q a1 a2 a3 a4 => ?_⟩, fun j d1 q a b => ?_, s.gh⟩
  · rw [upd_ne (ne_of_none z h1)]; exact s.pre.sub a u z
  · rw [upd_ne (ne_of_none z hp)]; exact s.kp.keep a u z n
  · rw [put_length] at hj
    rw [sl_put]
    by_cases hij : i = j
    · rw [if_pos ⟨hij, hj⟩, ← hij, e1]
      exact ⟨p, rfl, h1, h2, h⟩
    · rw [if_neg (fun z => hij z.1)]
      have q := s.ev.at_ j hj
      revert q
      cases hs : sl env j with
      | no => intro _; trivial
      | ex a dd wd => exact fun h5 => ⟨h5.1, h5.2.1, by rw [upd_ne (fun z => h3.notXd (z ▸ h5.2.2))]; exact h5.2.2⟩
      | im d' => rintro ⟨v, ev, r⟩; exact ⟨v, ev, r⟩
      | ow d1 =>
        rintro ⟨q, ev, b1, b2, b3⟩
        have ne : q ≠ p := fun z => by
          subst z
          exact hij (s.ev.sep i j d d1 q e hs e1 (join_some ev))
        exact ⟨q, ev, b1, b2, b3.mono (Same.refl _) (upd_ne ne)⟩
  · rw [sl_put] at a1 a2
    by_cases hj : i = j ∧ j < env.length
    · by_cases hk : i = k ∧ k < env.length
      · exact hj.1.symm.trans hk.1
      · rw [if_neg hk] at a2
        have z := s.ev.sep i k d d2 q e a2 (by rw [hj.1]; exact a3) a4
        exact hj.1.symm.trans z
    · rw [if_neg hj] at a1
      by_cases hk : i = k ∧ k < env.length
      · exact (s.ev.sep j i d1 d q a1 e a3 (by rw [hk.1]; exact a4)).trans hk.1
      · rw [if_neg hk] at a2
        exact s.ev.sep j k d1 d2 q a1 a2 a3 a4
  · rw [sl_put] at a
    by_cases hj : i = j ∧ j < env.length
    · rw [← hj.1, e1] at b
      have : p = q := by simpa using b
      rw [← this]; exact hp
    · rw [if_neg hj] at a
      exact s.own j d1 q a b
def owL (env : List Sl) (i : Nat) (P : List Dt → Prop) : Prop := match sl env i with
  | .ow (.lst xs) => P xs
  | _ => False
theorem owL_of {env : List Sl} {i : Nat} {P : List Dt → Prop} (h : owL env i P) : ∃ xs, sl env i = .ow (.lst xs) ∧ P xs := by
  unfold owL at h
  split at h
  · exact ⟨_, by assumption, h⟩
  · exact h.elim
/-- x.append(e) -/
def sApp (i : Nat) (ie : IE) : IS := fun env Pp => owL env i fun xs => xs.length < 16777216 ∧ ie env (fun d => Pp.nx (put env i (.ow (.lst (xs ++ [d]))))) (fun x => Pp.ex x env)
theorem lt_line {n : Nat} (h : n < 16777216) : n < sizeLine := by rw [sizeLine_eq]; exact h
theorem Stt.owLst {dr : Dr} {J B Gh : Hp} {env : List Sl} {σ : L2.St} {I H : Hp} {i : Nat} {xs : List Dt} (s : Stt K dr J B Gh env σ I H) (e : sl env i = .ow (.lst xs)) : ∃ p vs, σ[i]? = some (some (.ref p)) ∧ H p = some (.lst vs) ∧ ¬ IsDr dr p ∧ RpL K dr I vs xs :=
  let ⟨p, e1, _, h2, vs, h3, r⟩ := s.ev.ow e; ⟨p, vs, e1, h3, h2, r⟩
theorem sndS_app {i : Nat} (h : Snd K xr W te ie) : SndS K xr W (tDrop (tBM K "list" rAppend (tVar i) (tCons te tNil))) (sApp i ie) := fun dr J B Gh env σ I H Pp D s hi o => by
  obtain ⟨xs, e, hl, hi⟩ := owL_of hi
  obtain ⟨p, vs, e1, h1, hd, r⟩ := s.owLst e
  refine ⟨_, e1, .inl ⟨rfl, _, SqL.of h1⟩, ?_⟩
  refine h dr env σ I H _ _ s.pre s.ev hi (o.e s) _ fun d v H' hP k rv => ?_
  refine ⟨p, vs, v, rfl, rfl, k.keep p _ h1 hd, lt_line (by rw [r.len]; exact hl), o.nx _ _ _ _ hP ((s.step k).write e e1 ⟨vs ++ [v], upd_same, (RpL.mono s.pre.ext_sub _ _ r).append (.cons rv .nil)⟩)⟩
/-- x.extend(e) -/
def sExt (i : Nat) (ie : IE) : IS := fun env Pp => owL env i fun xs => ie env (fun d => match d with
  | .lst ys => xs.length + ys.length ≤ 16777216 ∧ Pp.nx (put env i (.ow (.lst (xs ++ ys))))
  | _ => False) (fun x => Pp.ex x env)
theorem sndS_ext {i : Nat} (h : Snd K xr W te ie) : SndS K xr W (tDrop (tBM K "list" rExtend (tVar i) (tCons te tNil))) (sExt i ie) := fun dr J B Gh env σ I H Pp D s hi o => by
  obtain ⟨xs, e, hi⟩ := owL_of hi
  obtain ⟨p, vs, e1, h1, hd, r⟩ := s.owLst e
  refine ⟨_, e1, .inl ⟨rfl, _, SqL.of h1⟩, ?_⟩
  refine h dr env σ I H _ _ s.pre s.ev hi (o.e s) _ fun d v H' hP k rv => ?_
  split at hP
  · cases rv with
    | lst e2 r2 =>
      refine ⟨p, _, vs, _, rfl, rfl, k.keep p _ h1 hd, (s.step k).pre.sub _ _ e2, size_le (by rw [r.len, r2.len]; exact hP.1), o.nx _ _ _ _ hP.2 ((s.step k).write e e1 ⟨_, upd_same, (RpL.mono s.pre.ext_sub _ _ r).append r2⟩)⟩
  · exact hP.elim
/-- x = l.pop(e), x = l.pop() -/
def popD (xs : List Dt) (P : Dt → List Dt → Prop) : Dt → Prop
  | .int k => (-(2 ^ 63) ≤ k ∧ k < 2 ^ 63) ∧ ∃ j d, ixN xs.length k = some j ∧ xs[j]? = some d ∧ P d (xs.eraseIdx j)
  | _ => False
def sPopAt (x i : Nat) (ie : IE) : IS := fun env Pp => owL env i fun xs => ie env (fun k => popD xs (fun d ys => Pp.nx (put (put env i (.ow (.lst ys))) x (.im d))) k) (fun x => Pp.ex x env)
theorem sndS_popAt {x i : Nat} (h : Snd K xr W te ie) : SndS K xr W (tAsg (tBM K "list" rPopAt (tVar i) (tCons te tNil)) (gName x)) (sPopAt x i ie) := fun dr J B Gh env σ I H Pp D s hi o => by
  obtain ⟨xs, e, hi⟩ := owL_of hi
  obtain ⟨p, vs, e1, h1, hd, r⟩ := s.owLst e
  refine ⟨_, e1, .inl ⟨rfl, _, SqL.of h1⟩, ?_⟩
  refine h dr env σ I H _ _ s.pre s.ev hi (o.e s) _ fun d v H' hP k rv => ?_
  unfold popD at hP
  split at hP
  · cases rv
    obtain ⟨⟨a1, a2⟩, j, d, hj, hdj, hP⟩ := hP
    obtain ⟨w, hw, rw'⟩ := r.get hdj
    have st := (s.step k).write e e1 (d' := .lst (xs.eraseIdx j)) (o := .lst (vs.eraseIdx j)) ⟨_, upd_same, (RpL.mono s.pre.ext_sub _ _ r).eraseIdx j⟩
    exact ⟨p, vs, _, j, w, rfl, rfl, k.keep p _ h1 hd, a1, a2, by rw [r.len]; exact (ixN_seq hj).1, hw, o.nx _ _ _ _ hP (st.set (s' := .im d) (rw'.mono s.pre.ext_sub))⟩
  · exact hP.elim
/-- x[e] = v -/
def setD (xs : List Dt) (d : Dt) (P : List Dt → Prop) : Dt → Prop
  | .int k => ∃ j, ixN xs.length k = some j ∧ P (xs.set j d)
  | _ => False
def sSetAt (i : Nat) (ib : IE) (ie : IE) : IS := fun env Pp => ie env (fun d => owL env i fun xs => ib env (fun k => setD xs d (fun ys => Pp.nx (put env i (.ow (.lst ys)))) k) (fun x => Pp.ex x env)) (fun x => Pp.ex x env)
theorem sndS_setAt {i : Nat} (hb : Snd K xr W ti ib) (h : Snd K xr W te ie) : SndS K xr W (tAsg te (gSub (tVar i) ti rSetL)) (sSetAt i ib ie) := fun dr J B Gh env σ I H Pp D s hi o => by
  refine h dr env σ I H _ _ s.pre s.ev hi (o.e s) _ fun d v H1 hP k1 rv => ?_
  obtain ⟨xs, e, hi⟩ := owL_of hP
  have s1 := s.step k1
  obtain ⟨p, vs, e1, h1, hd, r⟩ := s1.owLst e
  refine ⟨_, e1, ?_⟩
  refine hb dr env σ _ H1 _ _ s1.pre s1.ev hi (o.e s1) _ fun kk w H2 hP2 k2 rw' => ?_
  unfold setD at hP2
  split at hP2
  · cases rw'
    obtain ⟨j, hj, hP2⟩ := hP2
    refine ⟨p, vs, _, j, rfl, rfl, k2.keep p _ h1 hd, by rw [r.len]; exact hj, o.nx _ _ _ _ hP2 ((s1.step k2).write e e1 ⟨_, upd_same, RpL.set (rv.mono s1.pre.ext_sub) j (RpL.mono s1.pre.ext_sub _ _ r)⟩)⟩
  · exact hP2.elim
/-- x += e of whole numbers -/
def sAug (i : Nat) (f : Int → Int → Int) (ie : IE) : IS := fun env Pp => match sl env i with
  | .im (.int a) => ie env (fun d => asI d fun b => Pp.nx (put env i (.im (.int (f a b))))) (fun x => Pp.ex x env)
  | _ => False
theorem sndS_aug {i : Nat} {f : Int → Int → Int} (h : Snd K xr W te ie) : SndS K xr W (tAug i te (ipI f)) (sAug i f ie) := fun dr J B Gh env σ I H Pp D s hi o => by
  unfold sAug at hi
  split at hi
  · rename_i a e
    obtain ⟨v, e1, r⟩ := s.ev.im e
    cases r
    refine ⟨_, e1, h dr env σ I H _ _ s.pre s.ev hi (o.e s) _ fun d v H' hP k rv => ?_⟩
    obtain ⟨b, rfl, hb⟩ := isInt rv hP
    exact ⟨a, b, rfl, rfl, o.nx _ _ _ _ hb ((s.step k).set (s' := .im (.int (f a b))) (.int _))⟩
  · exact hi.elim

/-! ### targets of any form -/
abbrev IG := Dt → IS
def SndTG (K : Fr) (xr : XR) (W : WX) (tg : TG) (ig : IG) : Prop := ∀ dr J B Gh env σ I H Pp D v d, Stt K dr J B Gh env σ I H → Rp K dr I v d → ig d env Pp → OutS K xr W dr J B Gh Pp D → tg v σ H D.nx
def SndTGs (K : Fr) (xr : XR) (W : WX) (tg : TGs) (ig : List Dt → IS) : Prop := ∀ dr J B Gh env σ I H Pp D vs ds, Stt K dr J B Gh env σ I H → RpL K dr I vs ds → ig ds env Pp → OutS K xr W dr J B Gh Pp D → tg vs σ H D.nx
def tgN (i : Nat) : IG := fun d env Pp => Pp.nx (put env i (.im d))
def tgSub (i : Nat) (ib : IE) : IG := fun d env Pp => owL env i fun xs => ib env (fun k => setD xs d (fun ys => Pp.nx (put env i (.ow (.lst ys)))) k) (fun x => Pp.ex x env)
def tgsNil : List Dt → IS
  | [], env, Pp => Pp.nx env
  | _, _, _ => False
def tgsCons (ig : IG) (igs : List Dt → IS) : List Dt → IS
  | d :: ds, env, Pp => ig d env { Pp with nx := fun env' => igs ds env' Pp }
  | _, _, _ => False
def tgT (n : Nat) (igs : List Dt → IS) : IG
  | .tup ds, env, Pp => ds.length = n ∧ igs ds env Pp
  | .lst ds, env, Pp => ds.length = n ∧ igs ds env Pp
  | _, _, _ => False
section
set_option autoImplicit true
@[simp] theorem tgT_r2 (n : Nat) (igs : List Dt → IS) : tgT n igs (.lst ds) env Pp = (ds.length = n ∧ igs ds env Pp) := id rfl
@[simp] theorem tgT_r1 (n : Nat) (igs : List Dt → IS) : tgT n igs (.tup ds) env Pp = (ds.length = n ∧ igs ds env Pp) := id rfl
end
def sAsg (ie : IE) (ig : IG) : IS := fun env Pp => ie env (fun d => ig d env Pp) (fun x => Pp.ex x env)
theorem sndTG_name {i : Nat} : SndTG K xr W (gName i) (tgN i) := fun dr J B Gh env σ I H Pp D v d s r h o => o.nx _ _ _ _ h (s.set (s' := .im d) r)
theorem sndTG_sub {i : Nat} (hb : Snd K xr W ti ib) : SndTG K xr W (gSub (tVar i) ti rSetL) (tgSub i ib) := fun dr J B Gh env σ I H Pp D v d s rv h o => by
  obtain ⟨xs, e, hi⟩ := owL_of h
  obtain ⟨p, vs, e1, h1, hd, r⟩ := s.owLst e
  refine ⟨_, e1, ?_⟩
  refine hb dr env σ _ H _ _ s.pre s.ev hi (o.e s) _ fun kk w H2 hP2 k2 rw' => ?_
  unfold setD at hP2
  split at hP2
  · cases rw'
    obtain ⟨j, hj, hP2⟩ := hP2
    refine ⟨p, vs, _, j, rfl, rfl, k2.keep p _ h1 hd, by rw [r.len]; exact hj, o.nx _ _ _ _ hP2 ((s.step k2).write e e1 ⟨_, upd_same, RpL.set (rv.mono s.pre.ext_sub) j (RpL.mono s.pre.ext_sub _ _ r)⟩)⟩
  · exact hP2.elim
theorem sndTGs_nil : SndTGs K xr W gNil tgsNil := fun dr J B Gh env σ I H Pp D vs ds s r h o => by
  cases r with
  | nil => exact ⟨rfl, o.nx _ _ _ _ h s⟩
  | cons _ _ => exact h.elim
theorem OutS.nxt {dr : Dr} {J B Gh Gh' : Hp} {Pp : Po} {D : Ends} {n : List Sl → Prop} {N : L2.St → Hp → Prop} (o : OutS K xr W dr J B Gh Pp D) (hg : Same Gh Gh') (h : ∀ env σ I H, n env → Stt K dr J B Gh' env σ I H → N σ H) : OutS K xr W dr J B Gh' { Pp with nx := n } { D with nx := N } :=
  ⟨h, fun env σ I H z s => o.bk env σ I H z (s.weak hg), fun env σ I H z s => o.ct env σ I H z (s.weak hg), o.rt, o.rn, fun x c a env σ I H z s r => o.ex x c a env σ I H z (s.weak hg) r⟩
theorem sndTGs_cons {tg : TG} {tgs : TGs} {ig : IG} {igs : List Dt → IS} (h1 : SndTG K xr W tg ig) (h2 : SndTGs K xr W tgs igs) : SndTGs K xr W (gCons tg tgs) (tgsCons ig igs) := fun dr J B Gh env σ I H Pp D vs ds s r h o => by
  cases r with
  | nil => exact h.elim
  | cons r1 r2 =>
    have s' : Stt K dr J B I env σ I H := ⟨s.sub, s.eq, s.pre, s.pre0, s.kp, s.ev, s.own, Same.refl _⟩
    exact ⟨_, _, rfl, h1 dr J B I env σ I H _ { D with nx := fun σ' H' => tgs _ σ' H' D.nx } _ _ s' r1 h (o.nxt s.gh fun env' σ' I' H' hn s2 => h2 dr J B Gh env' σ' I' H' Pp D _ _ (s2.weak s.gh) (RpL.mono s2.gh _ _ r2) hn o)⟩
def gSeq (K : Fr) (n : Nat) (t : TGs) : TG := fun v σ H Q => gTup K n t v σ H Q ∨ gLst K n t v σ H Q
theorem sndTG_tup {n : Nat} {tgs : TGs} {igs : List Dt → IS} (h : SndTGs K xr W tgs igs) : SndTG K xr W (gSeq K n tgs) (tgT n igs) := fun dr J B Gh env σ I H Pp D v d s r hi o => by
  cases r with
  | tup e _ r => exact .inl ⟨_, _, rfl, same_seqT s.pre.sub e, by rw [r.len]; exact hi.1, h dr J B Gh env σ I H Pp D _ _ s r hi.2 o⟩
  | lst e r => exact .inr ⟨_, _, rfl, SqL.of (s.pre.sub _ _ e), by rw [r.len]; exact hi.1, h dr J B Gh env σ I H Pp D _ _ s r hi.2 o⟩
  | _ => exact hi.elim
theorem sndS_asg {tg : TG} {ig : IG} (h : Snd K xr W te ie) (hg : SndTG K xr W tg ig) : SndS K xr W (tAsg te tg) (sAsg ie ig) := fun dr J B Gh env σ I H Pp D s hi o =>
  h dr env σ I H _ _ s.pre s.ev hi (o.e s) _ fun d v H' hP k rv => hg dr J B Gh env σ _ H' Pp D v d (s.step k) rv hP o

/-! ### loops -/
def forD (g : G) (body : IS) (Pp : Po) : List Dt → List Sl → Prop
  | [], env => Pp.nx env
  | d :: ds, env => g d env fun env1 => body env1 { Pp with nx := forD g body Pp ds, ct := forD g body Pp ds, bk := Pp.nx }
def sFor (ii : II) (g : G) (body : IS) : IS := fun env Pp => ii env (fun ds => forD g body Pp ds env) (fun x => Pp.ex x env)
theorem sndS_for {wi : TI} {tg : TG} {ii : II} {g : G} {ts : List Nat} {body : IS} (hi : SndI K xr W wi ii) (hg : SndG K tg g ts) (hb : SndS K xr W t body) : SndS K xr W (tFor wi tg t) (sFor ii g body) := fun dr J B Gh env σ I H Pp D s h o => by
  refine hi dr env σ I H _ _ s.pre s.ev h (o.e s) _ fun ds Jt H1 hd k1 itr => ?_
  have s1 := s.step k1
  generalize ext I H H1 = Iv at s1 itr
  have s1' : Stt K dr J B Iv env σ Iv H1 := ⟨s1.sub, s1.eq, s1.pre, s1.pre0, s1.kp, s1.ev, s1.own, Same.refl _⟩
  refine ⟨fun i m σ' H' => m = ds.length - i ∧ i ≤ ds.length ∧ ∃ env' I', Stt K dr J B Iv env' σ' I' H' ∧ forD g body Pp (ds.drop i) env', ⟨ds.length, by simp, Nat.zero_le _, env, Iv, s1', hd⟩, ?_⟩
  rintro i m σ' H' ⟨rfl, hi', env', I', s', hf⟩
  have sv : Same Iv H' := s'.gh.trans s'.pre.sub
  by_cases hlt : i < ds.length
  · refine .inr ⟨itr.go i H' sv hlt, fun σ2 H2 => ∃ env' I', Stt K dr J B Iv env' σ2 I' H2 ∧ forD g body Pp (ds.drop (i + 1)) env', fun σ2 H2 h2 => ⟨ds.length - (i + 1), by omega, rfl, hlt, h2⟩, fun x H2 hy => ?_⟩
    obtain ⟨s3, rx⟩ := itr.yld i H' x H2 ds[i] sv (List.getElem?_eq_getElem hlt) hy
    have s2 := s'.step (Kp.of_same (dr := dr) s3)
    have rx2 := rx I' s'.gh s'.pre.sub
    have hdrop : ds.drop i = ds[i] :: ds.drop (i + 1) := (List.getElem_cons_drop (h := hlt)).symm
    rw [hdrop] at hf
    refine hg dr env' σ' _ H2 x ds[i] _ s2.pre s2.ev rx2 hf _ fun env1 σ1 h1 pu => ?_
    refine hb dr J B Iv env1 σ1 _ H2 _ _ (s2.put pu) h1 ⟨fun e σ I H z s => ⟨e, I, s, z⟩, fun e σ I H z s => o.nx e σ I H z (s.weak s1.gh), fun e σ I H z s => ⟨e, I, s, z⟩, o.rt, o.rn, fun x c a e σ I H z s r => o.ex x c a e σ I H z (s.weak s1.gh) r⟩
  · have ei : i = ds.length := by omega
    subst ei
    rw [List.drop_length] at hf
    exact .inl ⟨itr.stop _ H' sv (Nat.le_refl _), o.nx _ _ _ _ hf (s'.weak s1.gh)⟩
def sWhile (it : IT) (body : IS) : IS := fun env Pp => ∃ Wd : Nat → List Sl → Prop, (∃ m, Wd m env) ∧ ∀ m e, Wd m e → it e (fun b => if b = true then body e { Pp with nx := fun e' => ∃ m', m' < m ∧ Wd m' e', ct := fun e' => ∃ m', m' < m ∧ Wd m' e', bk := Pp.nx } else Pp.nx e) (fun x => Pp.ex x e)
theorem sndS_while {body : IS} (hc : SndT K xr W tc it) (hb : SndS K xr W t body) : SndS K xr W (tWhile tc t) (sWhile it body) := fun dr J B Gh env σ I H Pp D s h o => by
  obtain ⟨Wd, ⟨m0, w0⟩, turn⟩ := h
  refine ⟨fun m σ' H' => ∃ env' I', Stt K dr J B Gh env' σ' I' H' ∧ Wd m env', ⟨m0, env, I, s, w0⟩, ?_⟩
  rintro m σ' H' ⟨env', I', s', w'⟩
  refine hc dr env' σ' I' H' _ _ s'.pre s'.ev (turn m env' w') (o.e s') _ fun b H2 hb' k => ?_
  cases b with
  | false => exact o.nx _ _ _ _ hb' (s'.step k)
  | true =>
    refine ⟨fun σ2 H2 => ∃ env2 I2, Stt K dr J B Gh env2 σ2 I2 H2 ∧ ∃ m', m' < m ∧ Wd m' env2, fun σ2 H2 ⟨env2, I2, s2, m', hm, w2⟩ => ⟨m', hm, env2, I2, s2, w2⟩, ?_⟩
    exact hb dr J B Gh env' σ' _ H2 _ _ (s'.step k) hb' ⟨fun e σ I H z s => ⟨e, I, s, z⟩, fun e σ I H z s => o.nx e σ I H z s, fun e σ I H z s => ⟨e, I, s, z⟩, o.rt, o.rn, o.ex⟩
end
end DL

set_option maxRecDepth 100000
/-! DL8: links of statements, defs. -/
namespace DL
open PySem L2 PyProof.Rows

def LX (xr : XR) (X : Cx) (W : WX) (e : Expr) (ix : IX) : Prop := ∃ te, PE X e te ∧ SndX X.K xr W te ix
def LS (xr : XR) (X : Cx) (W : WX) (st : Stmt) (is : IS) : Prop := ∃ t, PS X st t ∧ SndS X.K xr W t is
def LSs (xr : XR) (X : Cx) (W : WX) (st : List Stmt) (is : IS) : Prop := ∃ t, PSs X st t ∧ SndS X.K xr W t is
def LTG (xr : XR) (X : Cx) (W : WX) (tg : Expr) (ig : IG) : Prop := ∃ t, PG X tg t ∧ SndTG X.K xr W t ig
def LTGs (xr : XR) (X : Cx) (W : WX) (tg : List Expr) (ig : List Dt → IS) : Prop := ∃ t, PGs X tg t ∧ SndTGs X.K xr W t ig

/-! ### a tuple of values, new ones among them, put into names at once -/
def putL : List Sl → List Nat → List Sl → List Sl
  | env, i :: is, s :: ss => putL (put env i s) is ss
  | env, _, _ => env
def setL : L2.St → List Nat → List V → L2.St
  | σ, i :: is, v :: vs => setL (σ.set i (some v)) is vs
  | σ, _, _ => σ
abbrev IXA := List Sl → (List Sl → Prop) → (Xc → Prop) → Prop
def xNil : IXA := fun _ P _ => P []
def xCons (ix : IX) (il : IXA) : IXA := fun env P E => ix env (fun s => il env (fun ss => P (s :: ss)) E) E
def VokL (K : Fr) (dr : Dr) (B I H : Hp) (env : List Sl) (σ : L2.St) : List V → List Sl → Prop
  | [], [] => True
  | v :: vs, s :: ss => Vok K dr B I H env σ v s ∧ VokL K dr B I H env σ vs ss ∧ ∀ p, v = .ref p → (∃ d, s = .ow d) → ∀ (j : Nat) d, ss[j]? = some (.ow d) → vs[j]? ≠ some (.ref p)
  | _, _ => False
def SndXA (K : Fr) (xr : XR) (W : WX) (ta : TA) (ix : IXA) : Prop := ∀ dr J B Gh env σ I H P E, Stt K dr J B Gh env σ I H → ix env P E → OutE xr W dr σ H E → ∀ Q : List V → Hp → Prop, (∀ ss vs I' H', P ss → Kp dr H H' → Same I I' → (∀ a, H a ≠ none → I' a = I a) → Stt K dr J B Gh env σ I' H' → VokL K dr B I' H' env σ vs ss → (∀ (j : Nat) p d, ss[j]? = some (.ow d) → vs[j]? = some (.ref p) → H p = none) → Q vs H') → ta σ H Q
section
variable {K : Fr} {xr : XR} {W : WX} {te : TE} {ta : TA} {ix : IX} {il : IXA}
theorem VokL.len {dr : Dr} {B I H : Hp} {env : List Sl} {σ : L2.St} : ∀ {vs : List V} {ss : List Sl}, VokL K dr B I H env σ vs ss → vs.length = ss.length
  | [], [], _ => rfl
  | _ :: _, _ :: _, h => congrArg (· + 1) (VokL.len h.2.1)
  | [], _ :: _, h => h.elim
  | _ :: _, [], h => h.elim
theorem VokL.stay {dr : Dr} {B I H I' H' : Hp} {env : List Sl} {σ : L2.St} (k : Kp dr H H') (sub : Same I I') (eq : ∀ a, H a ≠ none → I' a = I a) : ∀ {vs : List V} {ss : List Sl}, VokL K dr B I H env σ vs ss → VokL K dr B I' H' env σ vs ss
  | [], [], _ => trivial
  | _ :: _, _ :: _, h => ⟨h.1.stay k sub eq, VokL.stay k sub eq h.2.1, h.2.2⟩
  | [], _ :: _, h => h.elim
  | _ :: _, [], h => h.elim
theorem sndXA_nil : SndXA K xr W tNil xNil := fun dr J B Gh env σ I H P E s hi o Q q => q [] [] I H hi Kp.refl (Same.refl _) (fun _ _ => rfl) s trivial fun j p d z => by simp at z
theorem sndXA_cons (h : SndX K xr W te ix) (hl : SndXA K xr W ta il) : SndXA K xr W (tCons te ta) (xCons ix il) := fun dr J B Gh env σ I H P E s hi o Q q =>
  h dr J B Gh env σ I H _ E s hi o _ fun s1 v1 I1 H1 h1 k1 sub1 eq1 st1 vo1 nw1 =>
    hl dr J B Gh env σ I1 H1 _ E st1 h1 (o.step k1) _ fun ss vs I2 H2 h2 k2 sub2 eq2 st2 vo2 nw2 =>
      q _ _ I2 H2 h2 (k1.trans k2) (sub1.trans sub2) (fun a ha => by rw [eq2 a fun z => ha (k1.none_back s.pre z)]; exact eq1 a ha) st2
        ⟨vo1.stay k2 sub2 eq2, vo2, fun p e ⟨d, es⟩ j d' hj hv => by
          subst es
          obtain ⟨p', e', _, _, _, c3, _⟩ := vo1
          rw [e] at e'
          cases e'
          obtain ⟨_, e3⟩ := c3.some_
          have := nw2 j p d' hj hv
          rw [e3] at this; cases this⟩
        fun j p d hj hv => by
          cases j with
          | zero => exact nw1 p (by simpa using hv) ⟨d, by simpa using hj⟩
          | succ j => exact k1.none_back s.pre (nw2 j p d (by simpa using hj) (by simpa using hv))
theorem Stt.setL {dr : Dr} {J B Gh I H : Hp} : ∀ {is : List Nat} {vs : List V} {ss : List Sl} {env : List Sl} {σ : L2.St}, Stt K dr J B Gh env σ I H → VokL K dr B I H env σ vs ss → Stt K dr J B Gh (DL.putL env is ss) (DL.setL σ is vs) I H
  | [], [], [], _, _, s, _ => s
  | [], _ :: _, _ :: _, _, _, s, _ => s
  | _ :: _, [], [], _, _, s, _ => s
  | _, [], _ :: _, _, _, _, h => h.elim
  | _, _ :: _, [], _, _, _, h => h.elim
  | i :: is, v :: vs, s' :: ss, env, σ, s, h => by
    have s1 := s.set (i := i) h.1
    refine Stt.setL (is := is) s1 ?_
    -- the rest stays apart
    have key : ∀ {vs : List V} {ss : List Sl}, VokL K dr B I H env σ vs ss → (∀ p, v = .ref p → (∃ d, s' = .ow d) → ∀ (j : Nat) d, ss[j]? = some (.ow d) → vs[j]? ≠ some (.ref p)) → VokL K dr B I H (DL.put env i s') (σ.set i (some v)) vs ss := by
      intro vs ss
      induction vs generalizing ss with
      | nil => intro h _; cases ss <;> exact h
      | cons w vs ih =>
        intro h hn
        cases ss with
        | nil => exact h.elim
        | cons t ss =>
          refine ⟨?_, ih h.2.1 fun p e z j d hj => hn p e z (j + 1) d (by simpa using hj) |> fun q r => q (by simpa using r), h.2.2⟩
          have hv := h.1
          cases t with
          | no => exact hv.elim
          | ex _ _ _ => exact hv.elim
          | im d => exact hv
          | ow d =>
            obtain ⟨p, rfl, a1, a2, a0, a3, a4⟩ := hv
            refine ⟨p, rfl, a1, a2, a0, a3, fun k e b1 b2 => ?_⟩
            rw [sl_put] at b1
            rw [List.getElem?_set] at b2
            by_cases hik : i = k
            · by_cases hl : i < σ.length
              · rw [if_pos hik, if_pos hl] at b2
                have e1 : v = .ref p := by simpa using b2
                have hlk : k < env.length := by rw [← hik, ← s.ev.len]; exact hl
                rw [if_pos ⟨hik, hlk⟩] at b1
                exact hn p e1 ⟨e, b1⟩ 0 d rfl rfl
              · rw [if_pos hik, if_neg hl] at b2; cases b2
            · rw [if_neg (fun z => hik z.1)] at b1
              rw [if_neg hik] at b2
              exact a4 k e b1 b2
    exact key h.2.1 h.2.2
/-- the reading of (a, b, ..) = e where e's items go to names -/
def gNames : List Nat → TGs
  | [] => gNil
  | i :: is => gCons (gName i) (gNames is)
theorem gNames_at : ∀ {is : List Nat} {vs : List V} {σ : L2.St} {H : Hp} {Q : L2.St → Hp → Prop}, vs.length = is.length → Q (setL σ is vs) H → gNames is vs σ H Q
  | [], [], _, _, _, _, h => ⟨rfl, h⟩
  | i :: is, v :: vs, σ, H, Q, e, h => ⟨v, vs, rfl, gNames_at (is := is) (by simpa using e) h⟩
def sMany (is : List Nat) (il : IXA) : IS := fun env Pp => il env (fun ss => (ss.length = is.length ∧ ss.length ≤ 16777216) ∧ Pp.nx (putL env is ss)) (fun x => Pp.ex x env)
theorem sndS_many {is : List Nat} {n : Nat} (hn : n = is.length) (h : SndXA K xr W ta il) : SndS K xr W (tAsg (tTup ta) (gTup K n (gNames is))) (sMany is il) := fun dr J B Gh env σ I H Pp D s hi o => by
  refine h dr J B Gh env σ I H _ _ s hi (o.e s) _ fun ss vs I1 H1 hP k1 sub1 eq1 st1 vo1 nw1 => ?_
  have hl := vo1.len
  refine ⟨size_le (by rw [hl]; exact hP.1.2), fun t ht => ?_⟩
  have k2 : Kp dr H1 (upd H1 t (.tup vs)) := Kp.new st1.pre ht
  refine ⟨t, vs, rfl, SqT.of upd_same, by rw [hl, hn]; exact hP.1.1, gNames_at (by rw [hl]; exact hP.1.1) ?_⟩
  have up : Same I1 (hid t (ext I1 H1 (upd H1 t (.tup vs)))) := new_at st1.pre ht
  refine o.nx _ _ _ _ hP.2 (Stt.setL (st1.hid k2 ht) (vo1.stay k2 up fun a ha => ?_))
  have ne : a ≠ t := fun y => by subst y; exact ha ht
  unfold hid
  rw [if_neg ne, ext_some ha]
end
def LXA (xr : XR) (X : Cx) (W : WX) (es : List Expr) (ix : IXA) : Prop := ∃ ta, PA X es ta ∧ SndXA X.K xr W ta ix
def LNm (X : Cx) (es : List Expr) (is : List Nat) : Prop := PGs X es (gNames is)

section
variable {xr : XR} {X : Cx} {W : WX} {e a b c tg : Expr} {es : List Expr} {ie ia ib ic : IE} {ix iy : IX} {it : IT} {il : IA} {xl : IXA} {is iu : IS} {ig : IG} {igs : List Dt → IS} {st : Stmt} {rest p q : List Stmt} {pos : Pos} {ii : II} {g : G} {ts : List Nat}
theorem LE.x (h : LE xr X W e ie) : LX xr X W e (xE ie) := let ⟨_, p, s⟩ := h; ⟨_, p, s.X⟩
theorem LN.x (h : LN xr X W e ie) : LX xr X W e (xN ie) := let ⟨_, p, s⟩ := h; ⟨_, p, s.X⟩
theorem lxa_nil : LXA xr X W [] xNil := ⟨_, pa_nil, sndXA_nil⟩
theorem lxa_cons (h : LX xr X W e ix) (hl : LXA xr X W es xl) (hs : starEach (e :: es) X.env = (false, eval e X.env) :: starEach es X.env := by rfl) : LXA xr X W (e :: es) (xCons ix xl) :=
  let ⟨_, p, s⟩ := h; let ⟨_, pl, sl⟩ := hl; ⟨_, pa_cons p pl hs, sndXA_cons s sl⟩
theorem lnm_nil : LNm X [] [] := pgs_nil
theorem lnm_cons (i : Nat) {x : Str} {js : List Nat} (hN : X.N.Nodup) (hs : LNm X es js) (hi : X.N[i]? = some x := by rfl) (hx : Loc X.env.scope x := by first | exact Or.inl rfl | exact Or.inr rfl) (hf : X.fn x = true ∨ X.env.scope.names.lookup x = some .local := by first | exact .inl rfl | exact .inr rfl | assumption)
    (ha : (assignEach (.Name x pos :: es) X.env).map (·.2) = assign (.Name x pos) X.env :: (assignEach es X.env).map (·.2) := by rfl) : LNm X (.Name x pos :: es) (i :: js) := pgs_cons (pg_name hN hi hx hf) hs ha

/-! ### blocks -/
theorem lss_nil : LSs xr X W [] sNext := ⟨_, pss_nil, sndS_next⟩
theorem lss_cons (h : LS xr X W st is) (hr : LSs xr X W rest iu) : LSs xr X W (st :: rest) (sSeq is iu) := let ⟨_, p, s⟩ := h; let ⟨_, q, t⟩ := hr; ⟨_, pss_cons p q, sndS_seq s t⟩
theorem lss_one (h : LS xr X W st is) : LSs xr X W [st] is := let ⟨_, p, s⟩ := h; ⟨_, pss_one p, s⟩
theorem lss_frz (i : Nat) (h : LSs xr X W rest is) : LSs xr X W rest (sFrz i is) := let ⟨_, p, s⟩ := h; ⟨_, p, sndS_frz s⟩
theorem lss_never : LSs xr X W rest sNever := ⟨_, pss_never, sndS_never⟩
theorem ls_frz (i : Nat) (h : LS xr X W st is) : LS xr X W st (sFrz i is) := let ⟨_, p, s⟩ := h; ⟨_, p, sndS_frz s⟩
theorem ls_never : LS xr X W st sNever := ⟨_, ps_never, sndS_never⟩
theorem ls_pass : LS xr X W (.Pass pos) sNext := ⟨_, ps_pass, sndS_next⟩
theorem ls_break : LS xr X W (.Break pos) sBreak := ⟨_, ps_break, sndS_break⟩
theorem ls_cont : LS xr X W (.Continue pos) sCont := ⟨_, ps_continue, sndS_cont⟩
theorem ls_ret (h : LE xr X W e ie) : LS xr X W (.Return (some e) pos) (sRet ie) := let ⟨_, p, s⟩ := h; ⟨_, ps_ret p, sndS_ret s⟩
theorem ls_retN : LS xr X W (.Return none pos) sRetN := ⟨_, ps_retN, sndS_retN⟩
theorem ls_expr (h : LE xr X W e ie) (hs : swapsWith e none pos.line X.env = pure false := by rfl) : LS xr X W (.Expr e pos) (sDrop ie) := let ⟨_, p, s⟩ := h; ⟨_, ps_expr p hs, sndS_drop s⟩
theorem ls_if (hc : LT xr X W c it) (h1 : LSs xr X W p is) (h2 : LSs xr X W q iu) : LS xr X W (.If c p q pos) (sIf it is iu) := let ⟨_, p1, s1⟩ := hc; let ⟨_, p2, s2⟩ := h1; let ⟨_, p3, s3⟩ := h2; ⟨_, ps_if p1 p2 p3, sndS_if s1 s2 s3⟩

/-! ### assignments -/
theorem ls_set (i : Nat) {x : Str} {pos' : Pos} (hN : X.N.Nodup) (h : LX xr X W e ix) (hi : X.N[i]? = some x := by rfl) (hx : Loc X.env.scope x := by first | exact Or.inl rfl | exact Or.inr rfl) (hs : swapsWith e (some (.Name x pos')) pos.line X.env = pure false := by rfl) (hf : X.fn x = true ∨ X.env.scope.names.lookup x = some .local := by first | exact .inl rfl | exact .inr rfl | assumption) :
    LS xr X W (.Assign [.Name x pos'] e pos) (sSet i ix) := let ⟨_, p, s⟩ := h; ⟨_, ps_set hN hi hx p hs hf, sndS_set s⟩
theorem ls_par (i j : Nat) {x y : Str} {px py pt : Pos} {kt k2 pt2} (hc : X.calm = true) (hN : X.N.Nodup) (hij : i ≠ j) (ha : LX xr X W a ix) (hb : LX xr X W b iy) (hi : X.N[i]? = some x := by rfl) (hj : X.N[j]? = some y := by rfl)
    (hx : X.env.scope.names.lookup x = some .local := by rfl) (hy : X.env.scope.names.lookup y = some .local := by rfl)
    (hw : swappedStores [.Tuple [.Name x px, .Name y py] kt pt] (.Tuple [a, b] k2 pt2) X.env = pure (some [x, y]) := by rfl)
    (hs : swapsWithSole [.Tuple [.Name x px, .Name y py] kt pt] (.Tuple [a, b] k2 pt2) pos.line X.env = pure false := by rfl)
    (hs1 : starEach [a, b] X.env = (false, eval a X.env) :: starEach [b] X.env := by rfl) (hs2 : starEach [b] X.env = (false, eval b X.env) :: starEach [] X.env := by rfl) :
    LS xr X W (.Assign [.Tuple [.Name x px, .Name y py] kt pt] (.Tuple [a, b] k2 pt2) pos) (sPar i j ix iy) :=
  let ⟨_, p, s⟩ := ha; let ⟨_, q, t⟩ := hb; ⟨_, ps_par hc hN hi hj hij hx hy (pa_cons p (pa_cons q pa_nil hs2) hs1) hw hs, sndS_par s t⟩
theorem ltg_name (i : Nat) {x : Str} (hN : X.N.Nodup) (hi : X.N[i]? = some x := by rfl) (hx : Loc X.env.scope x := by first | exact Or.inl rfl | exact Or.inr rfl) (hf : X.fn x = true ∨ X.env.scope.names.lookup x = some .local := by first | exact .inl rfl | exact .inr rfl | assumption) : LTG xr X W (.Name x pos) (tgN i) :=
  ⟨_, pg_name hN hi hx hf, sndTG_name⟩
theorem ltg_sub (i : Nat) {x : Str} {px : Pos} (hb : LE xr X W b ib) (hN : X.N[i]? = some x := by rfl) (hv : Vis X.env.scope x := by first | exact Or.inl rfl | exact Or.inr (Or.inl rfl) | exact Or.inr (Or.inr rfl)) (hd : (x == ("__debug__" : Str)) = false := by decide) (hcd : (x == ("__classdict__" : Str)) = false := by decide)
    (ha : ∀ v, assign (.Subscript (.Name x px) b pos) X.env v = (do
      let ov ← holding [v] (eval (.Name x px) X.env)
      let iv ← holding [v, ov] (eval b X.env)
      standAt pos
      holding [v, ov, iv] (setItem ov iv v)
      release [v, ov, iv] []) := by intro _; rfl) : LTG xr X W (.Subscript (.Name x px) b pos) (tgSub i ib) :=
  let ⟨_, p, s⟩ := hb; ⟨_, pg_sub (pe_var hN hv hd hcd) p set_list ha, sndTG_sub s⟩
theorem ltgs_nil : LTGs xr X W [] tgsNil := ⟨_, pgs_nil, sndTGs_nil⟩
theorem ltgs_cons (h : LTG xr X W e ig) (hs : LTGs xr X W es igs) (ha : (assignEach (e :: es) X.env).map (·.2) = assign e X.env :: (assignEach es X.env).map (·.2) := by rfl) : LTGs xr X W (e :: es) (tgsCons ig igs) :=
  let ⟨_, p, s⟩ := h; let ⟨_, q, t⟩ := hs; ⟨_, pgs_cons p q ha, sndTGs_cons s t⟩
theorem pg_seq {k n : Nat} {t : TGs} (hc : X.calm = true) (h : PGs X es t) (hn : (assignEach es X.env).length = n := by rfl) (hst : (assignEach es X.env).findIdx? (·.1) = none := by rfl) : PG X (.Tuple es k pos) (gSeq X.K n t) := by
  refine ⟨fun pins s σ H v u Q I r hw => ?_⟩
  rcases hw with hw | hw
  · exact (pg_tup hc h hn hst).run pins s σ H v u Q I r hw
  · exact (pg_lst hc h hn hst).run pins s σ H v u Q I r hw
theorem ltg_tup {k n : Nat} (hc : X.calm = true) (hs : LTGs xr X W es igs) (hn : (assignEach es X.env).length = n := by rfl) (hst : (assignEach es X.env).findIdx? (·.1) = none := by rfl) : LTG xr X W (.Tuple es k pos) (tgT n igs) :=
  let ⟨_, q, t⟩ := hs; ⟨_, pg_seq hc q hn hst, sndTG_tup t⟩
theorem ls_asg (h : LE xr X W e ie) (hg : LTG xr X W tg ig) (hs : swapsWithSole [tg] e pos.line X.env = pure false := by rfl) (hw : swappedStores [tg] e X.env = pure none := by rfl) (h1 : (assignEach [tg] X.env).map (·.2) = [assign tg X.env] := by rfl) : LS xr X W (.Assign [tg] e pos) (sAsg ie ig) :=
  let ⟨_, p, s⟩ := h; let ⟨_, q, t⟩ := hg; ⟨_, ps_asg p q hs hw h1, sndS_asg s t⟩
theorem ls_many {js : List Nat} {n k k2 : Nat} {fs : List Expr} {pt p2 : Pos} (hc : X.calm = true) (h : LXA xr X W es xl) (hg : LNm X fs js) (hjs : n = js.length := by rfl) (hn : (assignEach fs X.env).length = n := by rfl) (hst : (assignEach fs X.env).findIdx? (·.1) = none := by rfl)
    (hs : swapsWithSole [.Tuple fs k pt] (.Tuple es k2 p2) pos.line X.env = pure false := by rfl) (hw : swappedStores [.Tuple fs k pt] (.Tuple es k2 p2) X.env = pure none := by rfl) (h1 : (assignEach [.Tuple fs k pt] X.env).map (·.2) = [assign (.Tuple fs k pt) X.env] := by rfl) :
    LS xr X W (.Assign [.Tuple fs k pt] (.Tuple es k2 p2) pos) (sMany js xl) :=
  let ⟨_, p, s⟩ := h; ⟨_, ps_asg (pe_tup p) (pg_tup hc hg hn hst) hs hw h1, sndS_many hjs s⟩
/-- name = [.. for ..] on one line -/
theorem ls_setLc (i : Nat) {y : Str} {py : Pos} {elt iter : Expr} {ifs : List Expr} {scope : Scope} {own : List (Str × Nat)} {spos : Pos} (hc : X.calm = true) (hN : X.N.Nodup) (hi : LIO xr X W tg iter ii) (ok : BlkOk X.N X.env.scope scope own) (hts : ts = own.map (·.2))
    (hg : Blk X scope fun X' => LG X' tg g ts) (ht : Blk X scope fun X' => LTs xr X' WF ifs it) (he : Blk X scope fun X' => LE xr X' WF elt ie) (hy : X.N[i]? = some y := by rfl) (hyl : X.env.scope.names.lookup y = some .local := by rfl)
    (hsw : swapsWith (.ListComp elt [⟨tg, iter, ifs, 0⟩] scope pos) (some (.Name y py)) spos.line X.env = pure true := by exact sw_true rfl rfl rfl (by decide +kernel)) (hs : ∀ x, foldedSetIterable iter X.env x = pure x := by intro _; rfl) :
    LS xr X W (.Assign [.Name y py] (.ListComp elt [⟨tg, iter, ifs, 0⟩] scope pos) spos) (sSet i (xN (nComp ts ii g it ie))) := by
  obtain ⟨wi, pi, si⟩ := hi
  subst hts
  obtain ⟨t, pg, sg⟩ := blk_g (ι := Shared × Hp × Addr × List (Str × Addr) × List Addr) (K := X.K) (F := fun c => X.blk c.1 c.2.1 scope (compEnvC scope c.2.2.2.1 c.2.2.1 X.env) c.2.2.2.2) (fun _ => rfl) fun c => hg c.1 c.2.1 c.2.2.1 c.2.2.2.1 c.2.2.2.2
  obtain ⟨tt, pt, st⟩ := blk_t (xr := xr) (ι := Shared × Hp × Addr × List (Str × Addr) × List Addr) (K := X.K) (F := fun c => X.blk c.1 c.2.1 scope (compEnvC scope c.2.2.2.1 c.2.2.1 X.env) c.2.2.2.2) (fun _ => rfl) fun c => ht c.1 c.2.1 c.2.2.1 c.2.2.2.1 c.2.2.2.2
  obtain ⟨te, pe, se⟩ := blk_e (xr := xr) (ι := Shared × Hp × Addr × List (Str × Addr) × List Addr) (K := X.K) (F := fun c => X.blk c.1 c.2.1 scope (compEnvC scope c.2.2.2.1 c.2.2.1 X.env) c.2.2.2.2) (fun _ => rfl) fun c => he c.1 c.2.1 c.2.2.1 c.2.2.2.1 c.2.2.2.2
  exact ⟨_, ps_setLc hc hN hy hyl hsw pi ok (fun s H C cl fp => pg (s, H, C, cl, fp)) (fun s H C cl fp => pt (s, H, C, cl, fp)) (fun s H C cl fp => pe (s, H, C, cl, fp)) hs, sndS_set (sndN_comp si sg (fun _ h => h) st se).X⟩
/-- the same, read alone -/
theorem ls_setLcE (i : Nat) {y : Str} {py : Pos} {elt iter : Expr} {ifs : List Expr} {scope : Scope} {own : List (Str × Nat)} {spos : Pos} (hc : X.calm = true) (hN : X.N.Nodup) (hi : LIO xr X W tg iter ii) (ok : BlkOk X.N X.env.scope scope own) (hts : ts = own.map (·.2))
    (hg : Blk X scope fun X' => LG X' tg g ts) (ht : Blk X scope fun X' => LTs xr X' WF ifs it) (he : Blk X scope fun X' => LE xr X' WF elt ie) (hy : X.N[i]? = some y := by rfl) (hyl : X.env.scope.names.lookup y = some .local := by rfl)
    (hsw : swapsWith (.ListComp elt [⟨tg, iter, ifs, 0⟩] scope pos) (some (.Name y py)) spos.line X.env = pure true := by exact sw_true rfl rfl rfl (by decide +kernel)) (hs : ∀ x, foldedSetIterable iter X.env x = pure x := by intro _; rfl) :
    LS xr X W (.Assign [.Name y py] (.ListComp elt [⟨tg, iter, ifs, 0⟩] scope pos) spos) (sSet i (xE (nComp ts ii g it ie))) := by
  obtain ⟨wi, pi, si⟩ := hi
  subst hts
  obtain ⟨t, pg, sg⟩ := blk_g (ι := Shared × Hp × Addr × List (Str × Addr) × List Addr) (K := X.K) (F := fun c => X.blk c.1 c.2.1 scope (compEnvC scope c.2.2.2.1 c.2.2.1 X.env) c.2.2.2.2) (fun _ => rfl) fun c => hg c.1 c.2.1 c.2.2.1 c.2.2.2.1 c.2.2.2.2
  obtain ⟨tt, pt, st⟩ := blk_t (xr := xr) (ι := Shared × Hp × Addr × List (Str × Addr) × List Addr) (K := X.K) (F := fun c => X.blk c.1 c.2.1 scope (compEnvC scope c.2.2.2.1 c.2.2.1 X.env) c.2.2.2.2) (fun _ => rfl) fun c => ht c.1 c.2.1 c.2.2.1 c.2.2.2.1 c.2.2.2.2
  obtain ⟨te, pe, se⟩ := blk_e (xr := xr) (ι := Shared × Hp × Addr × List (Str × Addr) × List Addr) (K := X.K) (F := fun c => X.blk c.1 c.2.1 scope (compEnvC scope c.2.2.2.1 c.2.2.1 X.env) c.2.2.2.2) (fun _ => rfl) fun c => he c.1 c.2.1 c.2.2.1 c.2.2.2.1 c.2.2.2.2
  exact ⟨_, ps_setLc hc hN hy hyl hsw pi ok (fun s H C cl fp => pg (s, H, C, cl, fp)) (fun s H C cl fp => pt (s, H, C, cl, fp)) (fun s H C cl fp => pe (s, H, C, cl, fp)) hs, sndS_set (sndN_comp si sg (fun _ h => h) st se).e.X⟩
theorem ls_aug {op : Operator} {f : Int → Int → Int} (i : Nat) {x : Str} {pos' : Pos} (hN : X.N.Nodup) (ho : PIp X op (ipI f)) (h : LE xr X W e ie) (hi : X.N[i]? = some x := by rfl) (hx : Loc X.env.scope x := by first | exact Or.inl rfl | exact Or.inr rfl) (hf : X.fn x = true ∨ X.env.scope.names.lookup x = some .local := by first | exact .inl rfl | exact .inr rfl | assumption) :
    LS xr X W (.AugAssign (.Name x pos') op e pos) (sAug i f ie) := let ⟨_, p, s⟩ := h; ⟨_, ps_aug hN hi hx p ho hf, sndS_aug s⟩

/-! ### methods of lists -/
section
variable {x : Str} {px apos cpos : Pos}
theorem ls_app (i : Nat) (h : LE xr X W e ie) (hN : X.N[i]? = some x := by rfl) (hv : Vis X.env.scope x := by first | exact Or.inl rfl | exact Or.inr (Or.inl rfl) | exact Or.inr (Or.inr rfl)) (hd : (x == ("__debug__" : Str)) = false := by decide) (hcd : (x == ("__classdict__" : Str)) = false := by decide)
    (hbase : attributeBase (.Name x px) "append" X.env (eval (.Name x px) X.env) = eval (.Name x px) X.env := by rfl)
    (hfew : ((backTo cpos (starEach [e] X.env)).all (fun x => !x.1) && (backToKw cpos (keywordEach [] X.env)).all (fun x => x.1.isSome)
      && decide ([e].length + ([] : List Keyword).length + (if ([] : List Keyword).isEmpty then 0 else 1) < 30)) = true := by rfl)
    (hline : (apos.endLine == cpos.line) = true := by rfl) (hs : starEach [e] X.env = (false, eval e X.env) :: starEach [] X.env := by rfl) (hsw : swapsWith (.Call (.Attribute (.Name x px) "append" apos) [e] [] cpos) none pos.line X.env = pure false := by rfl) :
    LS xr X W (.Expr (.Call (.Attribute (.Name x px) "append" apos) [e] [] cpos) pos) (sApp i ie) :=
  let ⟨_, p, s⟩ := h; ⟨_, ps_expr (pe_bm PySem.F.plainAttrs_list PySem.F.slot_list_append PySem.F.type_list_append mt_append (pe_var hN hv hd hcd) (pa_cons p pa_nil hs) hbase hfew hline hs) hsw, sndS_app s⟩
theorem ls_ext (i : Nat) (h : LE xr X W e ie) (hN : X.N[i]? = some x := by rfl) (hv : Vis X.env.scope x := by first | exact Or.inl rfl | exact Or.inr (Or.inl rfl) | exact Or.inr (Or.inr rfl)) (hd : (x == ("__debug__" : Str)) = false := by decide) (hcd : (x == ("__classdict__" : Str)) = false := by decide)
    (hbase : attributeBase (.Name x px) "extend" X.env (eval (.Name x px) X.env) = eval (.Name x px) X.env := by rfl)
    (hfew : ((backTo cpos (starEach [e] X.env)).all (fun x => !x.1) && (backToKw cpos (keywordEach [] X.env)).all (fun x => x.1.isSome)
      && decide ([e].length + ([] : List Keyword).length + (if ([] : List Keyword).isEmpty then 0 else 1) < 30)) = true := by rfl)
    (hline : (apos.endLine == cpos.line) = true := by rfl) (hs : starEach [e] X.env = (false, eval e X.env) :: starEach [] X.env := by rfl) (hsw : swapsWith (.Call (.Attribute (.Name x px) "extend" apos) [e] [] cpos) none pos.line X.env = pure false := by rfl) :
    LS xr X W (.Expr (.Call (.Attribute (.Name x px) "extend" apos) [e] [] cpos) pos) (sExt i ie) :=
  let ⟨_, p, s⟩ := h; ⟨_, ps_expr (pe_bm PySem.F.plainAttrs_list PySem.F.slot_list_extend PySem.F.type_list_extend mt_extend (pe_var hN hv hd hcd) (pa_cons p pa_nil hs) hbase hfew hline hs) hsw, sndS_ext s⟩
theorem ls_popAt (j i : Nat) {y : Str} {py : Pos} (hNd : X.N.Nodup) (h : LE xr X W e ie) (hN : X.N[i]? = some x := by rfl) (hv : Vis X.env.scope x := by first | exact Or.inl rfl | exact Or.inr (Or.inl rfl) | exact Or.inr (Or.inr rfl)) (hd : (x == ("__debug__" : Str)) = false := by decide) (hcd : (x == ("__classdict__" : Str)) = false := by decide)
    (hbase : attributeBase (.Name x px) "pop" X.env (eval (.Name x px) X.env) = eval (.Name x px) X.env := by rfl)
    (hfew : ((backTo cpos (starEach [e] X.env)).all (fun x => !x.1) && (backToKw cpos (keywordEach [] X.env)).all (fun x => x.1.isSome)
      && decide ([e].length + ([] : List Keyword).length + (if ([] : List Keyword).isEmpty then 0 else 1) < 30)) = true := by rfl)
    (hline : (apos.endLine == cpos.line) = true := by rfl) (hs : starEach [e] X.env = (false, eval e X.env) :: starEach [] X.env := by rfl)
    (hj : X.N[j]? = some y := by rfl) (hy : Loc X.env.scope y := by first | exact Or.inl rfl | exact Or.inr rfl) (hsw : swapsWith (.Call (.Attribute (.Name x px) "pop" apos) [e] [] cpos) (some (.Name y py)) pos.line X.env = pure false := by rfl) (hf : X.fn y = true ∨ X.env.scope.names.lookup y = some .local := by first | exact .inl rfl | exact .inr rfl | assumption) :
    LS xr X W (.Assign [.Name y py] (.Call (.Attribute (.Name x px) "pop" apos) [e] [] cpos) pos) (sPopAt j i ie) :=
  let ⟨_, p, s⟩ := h; ⟨_, ps_set hNd hj hy (pe_bm PySem.F.plainAttrs_list PySem.F.slot_list_pop PySem.F.type_list_pop mt_popAt (pe_var hN hv hd hcd) (pa_cons p pa_nil hs) hbase hfew hline hs) hsw hf, sndS_popAt s⟩
theorem ls_setAt (i : Nat) {e1 : Expr} (hb : LE xr X W b ib) (h : LE xr X W e1 ie) (hN : X.N[i]? = some x := by rfl) (hv : Vis X.env.scope x := by first | exact Or.inl rfl | exact Or.inr (Or.inl rfl) | exact Or.inr (Or.inr rfl)) (hd : (x == ("__debug__" : Str)) = false := by decide) (hcd : (x == ("__classdict__" : Str)) = false := by decide)
    (ha : ∀ v, assign (.Subscript (.Name x px) b apos) X.env v = (do
      let ov ← holding [v] (eval (.Name x px) X.env)
      let iv ← holding [v, ov] (eval b X.env)
      standAt apos
      holding [v, ov, iv] (setItem ov iv v)
      release [v, ov, iv] []) := by intro _; rfl)
    (hs : swapsWithSole [.Subscript (.Name x px) b apos] e1 pos.line X.env = pure false := by rfl) (hw : swappedStores [.Subscript (.Name x px) b apos] e1 X.env = pure none := by rfl) (h1 : (assignEach [.Subscript (.Name x px) b apos] X.env).map (·.2) = [assign (.Subscript (.Name x px) b apos) X.env] := by rfl) :
    LS xr X W (.Assign [.Subscript (.Name x px) b apos] e1 pos) (sSetAt i ib ie) :=
  let ⟨_, p, s⟩ := hb; let ⟨_, q, t⟩ := h; ⟨_, ps_asg q (pg_sub (pe_var hN hv hd hcd) p set_list ha) hs hw h1, sndS_setAt s t⟩
end

/-! ### loops -/
theorem ls_for {iter : Expr} {body : List Stmt} (tk : PassesOwn (model X.prog X.w) X.A X.env X.xe) (hc : X.calm = true) (hi : LI xr X W tg iter ii) (hg : LG X tg g ts) (hb : LSs xr X W body is) (hs : ∀ x, foldedSetIterable iter X.env x = pure x := by intro _; rfl) : LS xr X W (.For tg iter body [] pos) (sFor ii g is) :=
  let ⟨_, p, s⟩ := hi; let ⟨_, q, t⟩ := hg; let ⟨_, r, u⟩ := hb; ⟨_, ps_for tk hc p q r hs, sndS_for s t u⟩
theorem ls_while {body : List Stmt} (tk : PassesOwn (model X.prog X.w) X.A X.env X.xe) (hc : LT xr X W c it) (hb : LSs xr X W body is) : LS xr X W (.While c body [] pos) (sWhile it is) :=
  let ⟨_, p, s⟩ := hc; let ⟨_, r, u⟩ := hb; ⟨_, ps_while tk p r, sndS_while s u⟩
end

/-! ### defs -/
/-- the slots at a def's entry -/
def init (n : Nat) (ds : List Dt) : List Sl := ds.map Sl.im ++ List.replicate (n - ds.length) .no
theorem sl_init : ∀ (ds : List Dt) (r : List Sl) (i : Nat), sl (ds.map Sl.im ++ r) i = if h : i < ds.length then .im ds[i] else sl r (i - ds.length)
  | [], r, i => by simp
  | d :: ds, r, 0 => by simp [sl]
  | d :: ds, r, i + 1 => by
    simp only [List.map_cons, List.cons_append, sl, sl_init ds r i, List.length_cons, Nat.succ_lt_succ_iff, List.getElem_cons_succ, Nat.add_sub_add_right]
theorem sl_rep : ∀ (n i : Nat), sl (List.replicate n .no) i = .no
  | 0, _ => rfl
  | n + 1, 0 => rfl
  | n + 1, i + 1 => by rw [List.replicate_succ, sl]; exact sl_rep n i
theorem init_len {n : Nat} {ds : List Dt} (h : ds.length ≤ n) : (init n ds).length = n := by
  unfold init
  rw [List.length_append, List.length_map, List.length_replicate]
  omega
theorem env_init {K : Fr} {dr : Dr} {I H : Hp} {N : List Str} {vs : List V} {ds : List Dt} (r : RpL K dr I vs ds) (h : ds.length ≤ N.length) : EnvOk K dr (init N.length ds) (L2.start N vs) I H := by
  have hl := r.len
  refine ⟨?_, fun i hi => ?_, fun i j d e p h1 _ _ _ => ?_⟩
  · rw [init_len h]
    unfold L2.start
    rw [List.length_append, List.length_map, List.length_replicate]
    omega
  · unfold init
    rw [sl_init]
    by_cases hd : i < ds.length
    · rw [dif_pos hd]
      obtain ⟨v, e, q⟩ := r.get (List.getElem?_eq_getElem hd)
      refine ⟨v, ?_, q⟩
      unfold L2.start
      rw [List.getElem?_append_left (by rw [List.length_map]; omega), List.getElem?_map, e]
      rfl
    · rw [dif_neg hd, sl_rep]; trivial
  · unfold init at h1
    rw [sl_init] at h1
    split at h1
    · cases h1
    · rw [sl_rep] at h1; cases h1
/-- THE RULE for a def -/
theorem fn_ok {P : Program} {w : World} {K : Fr} {mg : Str → Option Value} {base : Heap} {xr : XR} {x qual : Str} {st : Stmt} {f : Addr} {fd : FuncData} {N ps : List Str} {k : Nat} {is : IS} {sp : DSp} (F : Fun K x qual st f fd) (S : FnScope N ps (defScope st))
    (len : ∀ ds P E, sp ds P E → ds.length = ps.length)
    (body : ∀ (cdv : Value) (A : Around) (outer : List Env) (s : Shared) (H : Hp) (E : XK) (W : WX), Room k (A.deeper (envOfC qual (defScope st) s.heap.objs.size f cdv)) → (A.deeper (envOfC qual (defScope st) s.heap.objs.size f cdv)).units + 65 < cLine → Takes (cxOf (L2.CX P w) P w K mg base N qual (defScope st) f cdv A outer s H E) W →
      PassesOwn (model P w) (A.deeper (envOfC qual (defScope st) s.heap.objs.size f cdv)) (envOfC qual (defScope st) s.heap.objs.size f cdv) (cxOf (L2.CX P w) P w K mg base N qual (defScope st) f cdv A outer s H E).xe →
      LSs xr (cxOf (L2.CX P w) P w K mg base N qual (defScope st) f cdv A outer s H E) W (defBody st) is)
    (ok : ∀ ds P E, sp ds P E → is (init N.length ds) { nx := fun _ => P .non, rt := P, ex := fun x _ => E x }) : FnOk P w K mg base (L2.CX P w) (k + 1) f fd ps (liftS K xr sp) := by
  have hpl : ps.length ≤ N.length := by have := congrArg List.length S.pre; rw [List.length_take] at this; omega
  refine F.okX S (fun vs H Q E h => ?_) (fun cdv A outer s H vs Q E hr h => ?_)
  · obtain ⟨dr, I, ds, P, EP, _, r, h, _⟩ := h
    rw [r.len]
    exact len ds P EP h
  · obtain ⟨dr, I, ds, Pd, EP, pre, r, h, hex, hq⟩ := h
    have hl := len ds Pd EP h
    obtain ⟨t, pt, so⟩ := body cdv A outer s H E (fun c a _ H' => E c a H') hr (by have := hr.un; omega) (takes_of rfl rfl rfl rfl) (passes_of rfl)
    refine ⟨t, pt, so dr I H I (init N.length ds) (L2.start N vs) I H _ _ ⟨Same.refl _, fun _ _ => rfl, pre, pre, Kp.refl, env_init r (by omega), fun i d p h1 _ => ?_, Same.refl _⟩ (ok ds Pd EP h) ⟨fun env σ I' H' hn s' => ?_, fun _ _ _ _ z _ => z, fun _ _ _ _ z _ => z, fun d v H' hP k r => hq d v H' hP k r, fun _ _ _ z => z.elim, fun x c a env σ I' H' hE s' r => hex x c a H' hE s'.kp r⟩⟩
    · unfold init at h1
      rw [sl_init] at h1
      split at h1
      · cases h1
      · rw [sl_rep] at h1; cases h1
    · exact hq .non .non H' hn s'.kp .non
end DL

set_option maxRecDepth 100000
/-! DL9: where defs and constants stand; what a draw promises. -/
namespace DL
open PySem L2 PyProof.Rows
structure Dfn (K : Fr) (mg : Str → Option Value) (x : Str) (st : Stmt) where
  f : Addr
  fd : FuncData
  g : mg x = some (.ref f)
  F : Fun K x x st f fd
structure Cst (K : Fr) (mg : Str → Option Value) (x : Str) (d : Dt) where
  v : V
  u : Value
  hm : mg x = some u
  r : RelV v u
  h : ∀ dr I, Rp K dr I v d
/-- a draw: any number from 0 on, less than the bound -/
def sp__law_take : DSp := fun ds P _ => match ds with
  | [.st, .int b] => b < 1073741824 ∧ ∀ r : Int, (b < 2 → r = 0) → (2 ≤ b → 0 ≤ r ∧ r < b) → P (.int r)
  | _ => False
/-- what a law's own state promises: the object that draws, new -/
def spState (K : Fr) : Sp := fun vs H Q _ => ∃ (a : Addr) (ns : List Int), vs = [.ref a] ∧ SqL K H a (ns.map V.int) ∧ ns.length ≤ 63 ∧
  ∀ (p1 p2 : Addr) (cs : List Int) (H' : Hp), Same H H' → p1 ≠ p2 → H' p1 = some (.lst [.int 0, .ref p2]) → H' p2 = some (.lst (cs.map V.int)) → cs ≠ [] → cs.length ≤ 63 → Q (.ref p1) H'
def spLaw (K : Fr) : Sp := fun vs H Q _ => ∃ (a : Addr) (ns : List Int), vs = [.ref a] ∧ SqL K H a (ns.map V.int) ∧ ns.length ≤ 63 ∧ ∀ H', Q (.bl true) H'
def nil0 : Hp := fun _ => none
def env0 (n i : Nat) : List Sl := put (List.replicate n .no) i (.im .st)
theorem Stt.begin {K : Fr} {p1 p2 : Addr} {H : Hp} {σ : L2.St} {n i : Nat} (hlen : σ.length = n) (h : σ[i]? = some (some (.ref p1))) (dro : DrOk (p1, p2) H) : Stt K (some (p1, p2)) nil0 H nil0 (env0 n i) σ nil0 H := by
  have pre : Pre (some (p1, p2)) nil0 H := ⟨fun _ _ e => (nomatch e), fun q e => by cases e; exact dro, fun _ _ => rfl⟩
  refine ⟨Same.refl _, fun _ _ => rfl, pre, pre, Kp.refl, ⟨?_, fun j hj => ?_, fun j k d e p a1 _ _ _ => ?_⟩, fun j d p a1 _ => ?_, Same.refl _⟩
  · unfold env0; rw [put_length, List.length_replicate]; exact hlen
  · unfold env0 at hj ⊢
    rw [put_length, List.length_replicate] at hj
    rw [sl_put, sl_rep, List.length_replicate]
    by_cases hij : i = j
    · rw [if_pos ⟨hij, hj⟩, ← hij, h]
      exact ⟨.ref p1, rfl, .st (q := (p1, p2)) rfl⟩
    · rw [if_neg (fun z => hij z.1)]; trivial
  · unfold env0 at a1
    rw [sl_put, sl_rep] at a1
    split at a1 <;> cases a1
  · unfold env0 at a1
    rw [sl_put, sl_rep] at a1
    split at a1 <;> cases a1
theorem same_new {H : Hp} {p : Addr} {o : HO} (h : H p = none) : Same H (upd H p o) := fun b x e => by
  rw [upd_ne (ne_of_none e h)]
  exact e
theorem cutV_ints (ns : List Int) (lo hi : Option Int) : cutV (ns.map V.int) lo hi = (cut ns lo hi).map V.int := by
  unfold cutV cut
  rw [List.map_take, List.map_drop, List.length_map]
theorem cut_len {α : Type} (xs : List α) (lo hi : Option Int) : (cut xs lo hi).length ≤ xs.length := by
  unfold cut
  rw [List.length_take, List.length_drop]
  omega
end DL

set_option maxRecDepth 100000
/-! DLA: what the top has written, read off the head's part. -/
namespace DL
open PySem L2 PyProof.Rows
def Dfn.of {K : Fr} {h : Heap} {mg : Str → Option Value} {x : Str} {st : Stmt} {f : Addr} {oc kV doc pm cdv ct : Value} {od an : Option Addr} {osl : Array (Option Value)} (X : K.In h) (G : h.Ns mainGlobals mg)
    (a : PySem.W.nsIn K mainGlobals x = some (some (.ref f))) (l : K.lookup f = some ⟨oc, od, .func (PySem.W.fnOf x x (defArgs st) (defBody st) (defScope st) .none kV doc pm an cdv ct), osl⟩) (c : PySem.W.codeIn K cdv x = true) (k : PySem.W.keepIn K (.ref f) = true) : Dfn K mg x st :=
  ⟨f, _, PySem.W.mg_of X G a, fun_mk l c k⟩
theorem rp_ints {K : Fr} {dr : Dr} {I : Hp} : ∀ ns : List Int, RpL K dr I (ns.map V.int) (ns.map Dt.int)
  | [] => .nil
  | n :: ns => .cons (.int n) (rp_ints ns)
/-- a tuple of whole numbers that the top has written -/
def Cst.ints {K : Fr} {h : Heap} {mg : Str → Option Value} {x : Str} {a : Addr} {its : Array Value} {n : Nat} {sl : Array (Option Value)} (X : K.In h) (G : h.Ns mainGlobals mg) (ns : List Int)
    (e : PySem.W.nsIn K mainGlobals x = some (some (.ref a))) (l : K.lookup a = some ⟨.type "tuple", none, .seq its n, sl⟩) (hz : its.size ≤ sizeLine) (v : Vals (ns.map V.int) its.toList) : Cst K mg x (.tup (ns.map Dt.int)) :=
  ⟨.ref a, .ref a, PySem.W.mg_of X G e, rfl, fun _ _ => .tup (.inr ⟨_, _, _, l, rfl, rfl, hz, v⟩) (.inr ⟨_, l, rfl⟩) (rp_ints ns)⟩
def Cst.int1 {K : Fr} {h : Heap} {mg : Str → Option Value} {x : Str} {t : Tok} (X : K.In h) (G : h.Ns mainGlobals mg) (i : Int) (e : PySem.W.nsIn K mainGlobals x = some (some (.int i t))) : Cst K mg x (.int i) :=
  ⟨.int i, .int i t, PySem.W.mg_of X G e, ⟨t, rfl⟩, fun _ _ => .int i⟩
theorem no_cx {P : Program} {w : World} {H : Hp} {s : Shared} {e : Value} {s' : Shared} (h : L2.CX P w [] H s (fun _ _ _ => False) e s') : False := by
  obtain ⟨_, _, _, _, _, _, _, _, _, _, _, _, z⟩ := h
  exact z
end DL

set_option maxRecDepth 100000
/-! DLB: tools for the plain laws over the mirrors. -/
namespace DL
open PySem L2
@[simp] theorem sl_c0 {s : Sl} {r : List Sl} : sl (s :: r) 0 = s := id rfl
@[simp] theorem sl_c1 {s : Sl} {r : List Sl} {n : Nat} : sl (s :: r) (n + 1) = sl r n := id rfl
@[simp] theorem put_c0 {s t : Sl} {r : List Sl} : put (s :: r) 0 t = t :: r := id rfl
@[simp] theorem put_c1 {s t : Sl} {r : List Sl} {n : Nat} : put (s :: r) (n + 1) t = s :: put r n t := id rfl
/-- plain data without truth values and dicts, at most k deep -/
def pln : Nat → Dt → Prop
  | _, .non => True
  | _, .int _ => True
  | _, .str x => PyData.strOk x = true
  | k + 1, .lst xs => ∀ x ∈ xs, pln k x
  | k + 1, .tup xs => ∀ x ∈ xs, pln k x
  | _, _ => False
theorem pyAll_ok {k : Nat} {xs : List Dt} (h : ∀ x ∈ xs, x.py.canLay0 = true ∧ x.py.depth ≤ k) : PyData.canLayAll0 (pyL xs) = true ∧ PyData.depthAll (pyL xs) ≤ k := by
  induction xs with
  | nil => exact ⟨rfl, Nat.zero_le _⟩
  | cons x xs ih =>
    have h1 := h x (by simp)
    have h2 := ih fun y hy => h y (by simp [hy])
    rw [pyL]
    refine ⟨?_, ?_⟩
    · simp only [PyData.canLayAll0, h1.1, h2.1, Bool.and_self]
    · simp only [PyData.depthAll]
      exact Nat.max_le.mpr ⟨h1.2, h2.2⟩
theorem pln.lay : ∀ {k : Nat} {d : Dt}, pln k d → d.py.canLay0 = true ∧ d.py.depth ≤ k
  | _, .non, _ => ⟨by simp [Dt.py, PyData.canLay0], by simp [Dt.py, PyData.depth]⟩
  | _, .int _, _ => ⟨by simp [Dt.py, PyData.canLay0], by simp [Dt.py, PyData.depth]⟩
  | 0, .str x, h => ⟨by simpa [Dt.py, PyData.canLay0, pln] using h, by simp [Dt.py, PyData.depth]⟩
  | _ + 1, .str x, h => ⟨by simpa [Dt.py, PyData.canLay0, pln] using h, by simp [Dt.py, PyData.depth]⟩
  | k + 1, .lst xs, h => by
    have := pyAll_ok (k := k) (xs := xs) fun x hx => pln.lay (h x hx)
    simp only [Dt.py, PyData.canLay0, PyData.depth]
    exact ⟨this.1, by omega⟩
  | k + 1, .tup xs, h => by
    have := pyAll_ok (k := k) (xs := xs) fun x hx => pln.lay (h x hx)
    simp only [Dt.py, PyData.canLay0, PyData.depth]
    exact ⟨this.1, by omega⟩
  | 0, .lst _, h => by simp [pln] at h
  | 0, .tup _, h => by simp [pln] at h
  | 0, .bl _, h => by simp [pln] at h
  | _ + 1, .bl _, h => by simp [pln] at h
  | 0, .dic _ _, h => by simp [pln] at h
  | _ + 1, .dic _ _, h => by simp [pln] at h
  | 0, .dit _ _, h => by simp [pln] at h
  | _ + 1, .dit _ _, h => by simp [pln] at h
  | 0, .st, h => by simp [pln] at h
  | _ + 1, .st, h => by simp [pln] at h
theorem pln.ok {k : Nat} {d : Dt} (h : pln k d) (hk : k ≤ 64 := by decide) : okD d := by
  obtain ⟨a, b⟩ := h.lay
  unfold okD SeqAt.shaped
  rw [a, decide_eq_true (Nat.le_trans b hk)]
  rfl
theorem eqvAll_iff {xs ys : List Dt} (h : ∀ x ∈ xs, ∀ y, y ∈ ys → (eqv x y = true ↔ x = y)) : PyData.eqvAll (pyL xs) (pyL ys) = true ↔ xs = ys := by
  induction xs generalizing ys with
  | nil =>
    cases ys with
    | nil => simp [pyL, PyData.eqvAll]
    | cons y ys => simp [pyL, PyData.eqvAll]
  | cons x xs ih =>
    cases ys with
    | nil => simp [pyL, PyData.eqvAll]
    | cons y ys =>
      have h1 := h x (by simp) y (by simp)
      have h2 := ih (ys := ys) fun a ha b hb => h a (by simp [ha]) b (by simp [hb])
      unfold eqv at h1
      simp only [pyL, PyData.eqvAll, Bool.and_eq_true, List.cons.injEq]
      rw [h1, h2]
theorem eqv_iff : ∀ {k : Nat} {x y : Dt}, pln k x → pln k y → (eqv x y = true ↔ x = y) := by
  intro k
  induction k with
  | zero =>
    intro x y hx hy
    cases x <;> cases y <;> simp [pln] at hx hy <;> simp [eqv, Dt.py, PyData.eqv]
  | succ k ih =>
    intro x y hx hy
    cases x <;> cases y <;> simp [pln] at hx hy <;> first
      | (simp [eqv, Dt.py, PyData.eqv]; done)
      | (simp only [eqv, Dt.py, PyData.eqv]
         rw [eqvAll_iff fun a ha b hb => ih (hx a ha) (hy b hb)]
         simp)
theorem eqv_false {k : Nat} {x y : Dt} (hx : pln k x) (hy : pln k y) (h : x ≠ y) : eqv x y = false := by
  cases e : eqv x y with
  | false => rfl
  | true => exact absurd ((eqv_iff hx hy).mp e) h
theorem eqv_self {k : Nat} {x : Dt} (hx : pln k x) : eqv x x = true := (eqv_iff hx hx).mpr rfl
@[simp] theorem pln_int {k : Nat} {i : Int} : pln k (.int i) := by cases k <;> trivial
@[simp] theorem pln_non {k : Nat} : pln k .non := by cases k <;> trivial
theorem pln_str {k : Nat} {x : Str} (h : PyData.strOk x = true) : pln k (.str x) := by cases k <;> exact h
theorem pln.up {k m : Nat} {d : Dt} (h : pln k d) (hk : k ≤ m) : pln m d := by
  induction k generalizing m d with
  | zero => cases d <;> simp [pln] at h <;> cases m <;> simp [pln, h]
  | succ k ih =>
    obtain ⟨m, rfl⟩ : ∃ m', m = m' + 1 := ⟨m - 1, by omega⟩
    cases d <;> simp [pln] at h ⊢
    · exact h
    · exact fun x hx => ih (h x hx) (by omega)
    · exact fun x hx => ih (h x hx) (by omega)
@[simp] theorem okD_int {i : Int} : okD (.int i) := pln.ok (k := 0) pln_int
@[simp] theorem okD_non : okD .non := pln.ok (k := 0) pln_non
@[simp] theorem eqv_int {i j : Int} : eqv (.int i) (.int j) = decide (i = j) := by
  have := eqv_iff (k := 0) (x := .int i) (y := .int j) pln_int pln_int
  by_cases h : i = j
  · rw [decide_eq_true h, this.mpr (by rw [h])]
  · rw [decide_eq_false h]
    exact eqv_false (k := 0) pln_int pln_int fun z => h (by cases z; rfl)
/-! ### loops -/
theorem forD_inv {g : G} {body : IS} {Pp : Po} (I : Nat → List Sl → Prop) {ds : List Dt} {env : List Sl} (h0 : I 0 env)
    (step : ∀ i d e, ds[i]? = some d → I i e → ∀ nx : List Sl → Prop, (∀ e', I (i + 1) e' → nx e') → g d e fun e1 => body e1 { Pp with nx := nx, ct := nx, bk := Pp.nx })
    (done : ∀ e, I ds.length e → Pp.nx e) : forD g body Pp ds env := by
  have key : ∀ (n i : Nat) (e : List Sl), i + n = ds.length → I i e → forD g body Pp (ds.drop i) e := by
    intro n
    induction n with
    | zero =>
      intro i e hi hI
      have : i = ds.length := by omega
      subst this
      rw [List.drop_length]
      exact done e hI
    | succ n ih =>
      intro i e hi hI
      have hlt : i < ds.length := by omega
      have hdrop : ds.drop i = ds[i] :: ds.drop (i + 1) := (List.getElem_cons_drop (h := hlt)).symm
      rw [hdrop]
      exact step i ds[i] e (List.getElem?_eq_getElem hlt) hI _ fun e' he => ih (i + 1) e' (by omega) he
  have := key ds.length 0 env (by omega) h0
  rwa [List.drop_zero] at this
/-! ### comprehensions -/
inductive All2 {α β : Type} (S : α → β → Prop) : List α → List β → Prop
  | nil : All2 S [] []
  | cons {a : α} {b : β} {as : List α} {bs : List β} : S a b → All2 S as bs → All2 S (a :: as) (b :: bs)
theorem All2.len {α β : Type} {S : α → β → Prop} : ∀ {as : List α} {bs : List β}, All2 S as bs → as.length = bs.length
  | _, _, .nil => rfl
  | _, _, .cons _ t => congrArg (· + 1) t.len
theorem All2.get {α β : Type} {S : α → β → Prop} {as : List α} {bs : List β} (h : All2 S as bs) {i : Nat} {b : β} (e : bs[i]? = some b) : ∃ a, as[i]? = some a ∧ S a b := by
  induction h generalizing i with
  | nil => simp at e
  | cons s t ih =>
    cases i with
    | zero => simp at e; subst e; exact ⟨_, rfl, s⟩
    | succ i => simpa using ih (by simpa using e)
theorem All2.mem {α β : Type} {S : α → β → Prop} {as : List α} {bs : List β} (h : All2 S as bs) {b : β} (m : b ∈ bs) : ∃ a, a ∈ as ∧ S a b := by
  obtain ⟨i, hi, e⟩ := List.mem_iff_getElem.mp m
  obtain ⟨a, e1, s⟩ := h.get (i := i) (b := b) (by rw [List.getElem?_eq_getElem hi, e])
  exact ⟨a, List.mem_of_getElem? e1, s⟩
def cStep (g : G) (it : IT) (ie : IE) (env : List Sl) (d : Dt) (Q : Dt → Prop) (R : Prop) : Prop := g d env fun e1 => it e1 (fun b => if b = true then ie e1 Q (fun _ => False) else R) fun _ => False
theorem compD_rel {g : G} {it : IT} {ie : IE} {env : List Sl} {P : Dt → Prop} (S : Dt → Dt → Prop) : ∀ {ds : List Dt} {outs : List Dt},
    (∀ d ∈ ds, ∀ (Q : Dt → Prop) (R : Prop), (∀ y, S d y → Q y) → cStep g it ie env d Q R) → (∀ ys, All2 S ds ys → P (.lst (outs ++ ys))) → compD g it ie env P ds outs
  | [], outs, _, k => by have := k [] .nil; rwa [List.append_nil] at this
  | d :: ds, outs, h, k => h d (by simp) _ _ fun y s => compD_rel S (fun e he => h e (by simp [he])) fun ys a => by have := k (y :: ys) (.cons s a); rwa [List.append_assoc]
theorem compD_fm {g : G} {it : IT} {ie : IE} {env : List Sl} {P : Dt → Prop} (p : Dt → Bool) (f : Dt → Dt) : ∀ {ds : List Dt} {outs : List Dt},
    (∀ d ∈ ds, ∀ (Q : Dt → Prop) (R : Prop), (if p d = true then Q (f d) else R) → cStep g it ie env d Q R) → P (.lst (outs ++ (ds.filter p).map f)) → compD g it ie env P ds outs
  | [], outs, _, k => by show P (.lst outs); simpa using k
  | d :: ds, outs, h, k => h d (by simp) _ _ (by
      cases e : p d with
      | true =>
        simp only [if_true]
        exact compD_fm p f (fun e he => h e (by simp [he])) (by simpa [List.filter_cons, e] using k)
      | false =>
        simp only [Bool.false_eq_true, if_false]
        exact compD_fm p f (fun e he => h e (by simp [he])) (by simpa [List.filter_cons, e] using k))
theorem compD_map {g : G} {it : IT} {ie : IE} {env : List Sl} {P : Dt → Prop} (f : Dt → Dt) {ds : List Dt}
    (h : ∀ d ∈ ds, ∀ (Q : Dt → Prop) (R : Prop), Q (f d) → cStep g it ie env d Q R) (k : P (.lst (ds.map f))) : compD g it ie env P ds [] :=
  compD_fm (fun _ => true) f (fun d hd Q R q => h d hd Q R (by simpa using q)) (by rw [List.filter_eq_self.mpr fun _ _ => rfl]; exact k)
/-- over a list of given things -/
theorem compD_mapG {α : Type} {e : α → Dt} {g : G} {it : IT} {ie : IE} {env : List Sl} {P : Dt → Prop} (f : α → Dt) : ∀ {as : List α} {outs : List Dt},
    (∀ a ∈ as, ∀ (Q : Dt → Prop) (R : Prop), Q (f a) → cStep g it ie env (e a) Q R) → P (.lst (outs ++ as.map f)) → compD g it ie env P (as.map e) outs
  | [], outs, _, k => by show P (.lst outs); simpa using k
  | a :: as, outs, h, k => h a (by simp) _ _ (compD_mapG f (fun b hb => h b (by simp [hb])) (by simpa using k))
theorem compD_fmG {α : Type} {e : α → Dt} {g : G} {it : IT} {ie : IE} {env : List Sl} {P : Dt → Prop} (p : α → Bool) (f : α → Dt) : ∀ {as : List α} {outs : List Dt},
    (∀ a ∈ as, ∀ (Q : Dt → Prop) (R : Prop), (if p a = true then Q (f a) else R) → cStep g it ie env (e a) Q R) → P (.lst (outs ++ (as.filter p).map f)) → compD g it ie env P (as.map e) outs
  | [], outs, _, k => by show P (.lst outs); simpa using k
  | a :: as, outs, h, k => h a (by simp) _ _ (by
      cases q : p a with
      | true =>
        simp only [if_true]
        exact compD_fmG p f (fun e he => h e (by simp [he])) (by simpa [List.filter_cons, q] using k)
      | false =>
        simp only [Bool.false_eq_true, if_false]
        exact compD_fmG p f (fun e he => h e (by simp [he])) (by simpa [List.filter_cons, q] using k))
theorem compD_relG {α β : Type} {e : α → Dt} {o : β → Dt} {g : G} {it : IT} {ie : IE} {env : List Sl} {P : Dt → Prop} (S : α → β → Prop) : ∀ {as : List α} {outs : List Dt},
    (∀ a ∈ as, ∀ (Q : Dt → Prop) (R : Prop), (∀ y, S a y → Q (o y)) → cStep g it ie env (e a) Q R) → (∀ ys, All2 S as ys → P (.lst (outs ++ ys.map o))) → compD g it ie env P (as.map e) outs
  | [], outs, _, k => by have := k [] .nil; rwa [List.map_nil, List.append_nil] at this
  | a :: as, outs, h, k => h a (by simp) _ _ fun y s => compD_relG S (fun b hb => h b (by simp [hb])) fun ys q => by have := k (y :: ys) (.cons s q); rw [List.append_assoc]; exact this
theorem rng0 (n : Nat) : rng 0 1 n = (List.range n).map fun (i : Nat) => Dt.int (i : Int) := by
  unfold rng
  exact List.map_congr_left fun i _ => by rw [Int.zero_add, Int.mul_one]
theorem rng_lo (a : Int) (n : Nat) : rng a 1 n = (List.range n).map fun (i : Nat) => Dt.int (a + (i : Int)) := by
  unfold rng
  exact List.map_congr_left fun i _ => by rw [Int.mul_one]
/-! ### places -/
theorem ixL {xs : List Dt} {i : Nat} {d : Dt} {P : Dt → Prop} (h : xs[i]? = some d) (p : P d) : ixD (.lst xs) (.int (i : Int)) P := ⟨d, atI_nat h, p⟩
theorem ixT {xs : List Dt} {i : Nat} {d : Dt} {P : Dt → Prop} (h : xs[i]? = some d) (p : P d) : ixD (.tup xs) (.int (i : Int)) P := ⟨d, atI_nat h, p⟩
@[simp] theorem atI_natE {α : Type} {xs : List α} {j : Nat} : atI xs (j : Int) = xs[j]? := by
  unfold atI ixN
  rw [if_pos (by omega)]
  by_cases h : j < xs.length
  · rw [if_pos (by omega)]; simp
  · rw [if_neg (by omega), List.getElem?_eq_none (by omega)]; rfl
@[simp] theorem atI_0 {α : Type} {x : α} {xs : List α} : atI (x :: xs) 0 = some x := atI_natE (j := 0)
@[simp] theorem atI_1 {α : Type} {x y : α} {xs : List α} : atI (x :: y :: xs) 1 = some y := atI_natE (j := 1)
@[simp] theorem atI_2 {α : Type} {x y z : α} {xs : List α} : atI (x :: y :: z :: xs) 2 = some z := atI_natE (j := 2)
@[simp] theorem atI_3 {α : Type} {x y z u : α} {xs : List α} : atI (x :: y :: z :: u :: xs) 3 = some u := atI_natE (j := 3)
theorem mulOk {m n : Nat} {a b : Int} (ha : a.natAbs < 2 ^ m) (hb : b.natAbs < 2 ^ n) (h : m + n ≤ 134217728 := by decide) : IntMulOk a b := IntMulOk.of_le (intBits_le_iff.mpr ha) (intBits_le_iff.mpr hb) h
theorem divOk {a b : Int} (h : b.natAbs < 2 ^ 8000) : DivOk a b := by
  refine PyProof.noPylong_of_log2 ?_
  by_cases h0 : b.natAbs = 0
  · rw [h0]; decide
  · have := (Nat.log2_lt h0).mpr h
    omega
end DL

set_option maxRecDepth 100000
set_option maxHeartbeats 2000000
/-! DLX: an own exception over a chain of classes over ValueError, whose __init__ says super().__init__(text) and keeps its word. -/
namespace DLX
open PySem PySem.Spec PySem.W PyProof.Rows L2 NdefX
/-- what the top has written of the class x, its __init__ the def st -/
structure MissF (P : Program) (K : PySem.W.Frag) (mg : Str → Option Value) (x qual : Str) (st : Stmt) (C fI cda cc : Addr) (fd : FuncData) : Prop where
  g : mg x = some (.ref C)
  oex : OexC K C
  ini : findIn K (.ref C) "__init__" = some (some (.ref fI))
  tyI : typeIn K (.ref fI) = some (.type "function")
  fn : ∃ oc od doc pm ct osl, fd = ksFn "__init__" qual (defArgs st) (defBody st) (defScope st) .none .none doc pm none (.ref cda) ct cc ∧ K.lookup fI = some ⟨oc, od, .func fd, osl⟩
  code : codeIn K (.ref cda) qual = true
  file : ∃ ccl cdd vs ccs file tf, K.lookup cda = some ⟨ccl, cdd, .fields vs, ccs⟩ ∧ vs[2]? = some (.str file tf) ∧ ((P.main.file : Str) == file) = true
  cell : ∃ cl cld csl, K.lookup cc = some ⟨cl, cld, .cell (some (.ref C)), csl⟩
  cls : ∃ cd, clsIn K C = some cd
  sub : mroIn K C (.ref C) = some true
  sup : ks_superIn K C C "__init__" = some (some (.builtin "ValueError.__init__"))
  ve : subIn K (.ref C) (.type "ValueError") = some true
  opq : nsIn K cStatics "thirdparty.any" = some none
  wd : findIn K (.ref C) "word" = some none
  bs : mg "super" = none
  top : (P.main.scope.names.lookup ("super" : Str)).isSome = false
  xf : XfC K C
/-- what its __init__ promises -/
def spInit (C : Addr) : Sp := fun vs H Q _ => ∃ (a : Addr) (wd : Str), vs = [.ref a, .str wd] ∧ wd.length ≤ 1000 ∧ H a = some (exo a C none) ∧ ∀ dx, H dx = none → dx ≠ a → Q .non (upd (upd H dx (exd dx [("word", .str wd)])) a (exo a C (some dx)))
section
variable {P : Program} {w : World} {K : PySem.W.Frag} {mg : Str → Option Value} {base : Heap} {x qual : Str} {st : Stmt} {C fI cda cc : Addr} {fd : FuncData} {txt : Str} {j : Nat} {p0 p1 p2 p3 p4 p5 p6 p7 p8 p9 p10 p11 : Pos}
abbrev nf (qual : Str) (st : Stmt) (cda cc : Addr) : NF := ⟨"__init__", qual, defArgs st, defBody st, defScope st, [("__class__", cc)], cda⟩
theorem init_ok (Z : MissF P K mg x qual st C fI cda cc fd) (S : NScope ["self", "word", "__class__"] ["self", "word"] ["__class__"] (defScope st))
    (hb : defBody st = [.Expr (.Call (.Attribute (.Call (.Name "super" p0) [] [] p1) "__init__" p2) [.BinOp (.Constant (.str txt) j p3) .Add (.Name "word" p4) p5] [] p6) p7, .Assign [.Attribute (.Name "self" p8) "word" p9] (.Name "word" p10) p11])
    (hp : ((defArgs st).posonlyargs ++ (defArgs st).args).head?.map (·.arg) = some "self") (hks : (defScope st).names.lookup ("super" : Str) = some .globalImplicit) (hkw : (defScope st).names.lookup ("word" : Str) = some .local) (hlt : txt.length ≤ 1000)
    (hi : ∀ L, interactive (ksEnv qual (defScope st) L fI (.ref cda) cc) = false)
    (hsw : ∀ L, swapsWith (.Call (.Attribute (.Call (.Name "super" p0) [] [] p1) "__init__" p2) [.BinOp (.Constant (.str txt) j p3) .Add (.Name "word" p4) p5] [] p6) none p7.line (ksEnv qual (defScope st) L fI (.ref cda) cc) = pure false)
    (hsa : ∀ L, swapsWith (.Name "word" p10) (some (.Attribute (.Name "self" p8) "word" p9)) p11.line (ksEnv qual (defScope st) L fI (.ref cda) cc) = pure false)
    (pl : Sem Bool)
    (he : ∀ L, eval (.Call (.Attribute (.Call (.Name "super" p0) [] [] p1) "__init__" p2) [.BinOp (.Constant (.str txt) j p3) .Add (.Name "word" p4) p5] [] p6) (ksEnv qual (defScope st) L fI (.ref cda) cc) = (do
      let ov ← attributeBase (.Call (.Name "super" p0) [] [] p1) "__init__" (ksEnv qual (defScope st) L fI (.ref cda) cc) (eval (.Call (.Name "super" p0) [] [] p1) (ksEnv qual (defScope st) L fI (.ref cda) cc))
      standAt p2.atName
      let (f, first) ← holding [ov] (getMethod ov "__init__" pl)
      callWith p6 f first (backTo p6 (starEach [.BinOp (.Constant (.str txt) j p3) .Add (.Name "word" p4) p5] (ksEnv qual (defScope st) L fI (.ref cda) cc))) [])) :
    FnOk P w K mg base (L2.CX P w) 3 fI fd ["self", "word"] (spInit C) := by
  refine ⟨fun vs H Q E h => ?_, fun A outer s H args us vs Q E hr e0 hbd r hsp => ?_⟩
  · obtain ⟨a, wd, rfl, _⟩ := h; rfl
  obtain ⟨a, wd, rfl, hwl, ea, hQ⟩ := hsp
  have hKI : K.In s.heap := e0.mod.kin.keeps fun b o e => (e0.bs b o e).1
  have lim : s.heap.NoLimit := e0.mod.nolimit.keeps fun b o e => (e0.bs b o e).1
  have hK0 : ∀ {b o}, K.lookup b = some o → H b = none := fun {b o} e => (e0.bs b o (e0.mod.kin _ _ e)).2
  obtain ⟨oc, od, doc, pm, ct, osl, rfl, lf⟩ := Z.fn
  obtain ⟨cl, cld, csl, hcell⟩ := Z.cell
  obtain ⟨cdD, hcd⟩ := Z.cls
  obtain ⟨ccl, cdd, cvs, ccs, file, tf, hco, hvs, hfile⟩ := Z.file
  cases r with
  | @cons _ u0 _ us1 r0 r1 =>
  cases r1 with
  | @cons _ u1 _ us2 ru rn =>
  cases rn
  obtain rfl : u0 = .ref a := r0
  obtain ⟨tw, rfl⟩ : ∃ t, u1 = .str wd t := ru
  refine ks_codeAny_call_defAt (fd := ksFn "__init__" qual (defArgs st) (defBody st) (defScope st) .none .none doc pm none (.ref cda) ct cc) (body := defBody st) hr.depth (hKI _ _ lf) rfl lim (codeRec_of hKI Z.code) rfl hbd S.nocell
    (fun y hy => S.par _ (List.of_mem_zip hy).1) (fun h₁ hns kp => ?_) S.co S.gen S.kind
  have cl1 : ∀ (y : Str) (c : Addr), List.lookup y [(("__class__" : Str), cc)] = some c → y = ("__class__" : Str) ∧ c = cc := fun y c e => by
    by_cases h : (y == ("__class__" : Str)) = true
    · rw [List.lookup_cons, h] at e
      exact ⟨eq_of_beq h, (Option.some.inj e).symm⟩
    · rw [List.lookup_cons, Bool.not_eq_true _ |>.mp h] at e
      cases e
  have CA : CellsAt [("__class__", cc)] ["__class__"] [none] s.heap H := by
    refine ⟨rfl, fun y c e => ?_, fun x y c e1 e2 => (cl1 _ _ e1).1.trans (cl1 _ _ e2).1.symm, fun i y e => ?_⟩
    · obtain ⟨_, rfl⟩ := cl1 y c e
      exact ⟨hK0 hcell, _, _, hKI _ _ hcell, rfl⟩
    · cases i with
      | zero =>
        simp at e
        subst e
        exact ⟨cc, rfl, fun v z => by simp at z⟩
      | succ i => simp at e
  have rr : Vals [V.ref a, V.str wd] [Value.ref a, Value.str wd tw] := .cons rfl (.cons ⟨tw, rfl⟩ .nil)
  have I := inv_startN (CX := L2.CX P w) (F := nf qual st cda cc) (f := fI) (E := E) (tk := s.toks + (["self", "word"].zip [Value.ref a, .str wd tw]).length) S hr.hd e0 rfl rr CA hns kp
  have hK1 : K.In h₁ := hKI.keeps kp
  show _root_.PySem.wpAt (model P w) (A.deeper (ksEnv qual (defScope st) s.heap.objs.size fI (.ref cda) cc)) (.func (defBody st) (ksEnv qual (defScope st) s.heap.objs.size fI (.ref cda) cc)) (execs (defBody st) (ksEnv qual (defScope st) s.heap.objs.size fI (.ref cda) cc)) _ _ _
  rw [show execs (defBody st) = execs _ from congrArg execs hb]
  obtain ⟨t1, hx⟩ := exo_at I.hok ea
  refine ks_wpAt_execs_cons (ks_wpAt_Expr_any (ks_wpAt_MethodCall (pl := pl) ?_ (he _)) (hi _) (hsw _))
  obtain ⟨oD, hD1, hD2⟩ : ∃ oD, h₁.get? C = some oD ∧ oD.data = .cls cdD := by
    unfold clsIn at hcd
    split at hcd
    · rename_i c d cd' sl ho
      cases hcd
      exact ⟨_, hK1 _ _ ho, rfl⟩
    · cases hcd
  obtain ⟨ar, har, harn⟩ := Option.map_eq_some_iff.mp hp
  refine ks_wpAt_super_base hks (S.frk _ (by simp)) (by decide) rfl (hK1 _ _ lf) rfl har rfl (hK1 _ _ hco) rfl hvs hfile Z.top ?_
  obtain ⟨mb, hb1, hb2⟩ := e0.mod.blt
  have hbk : ∀ b o, base.get? b = some o → h₁.get? b = some o := fun b o e => kp _ _ (e0.bs b o e).1
  refine ks_loadName_global S.kind hks (Calls.loadGlobal_builtin (e0.mod.glob.keeps hbk) Z.bs (hb1.keeps hbk) ((hb2 _ (by decide)).trans (by first | exact PyProof.Rows.Boot.«super» | rfl)) ⟨rfl, ?_⟩)
  refine wpAny_loadName_free S.kind (S.frk _ (by simp)) rfl ⟨_, hK1 _ _ hcell, rfl⟩ ?_
  have hvs2 : ((["self", "word"] : List Str).zip [Value.ref a, Value.str wd tw]).reverse.lookup ar.arg = some (Value.ref a) := by rw [harn]; rfl
  refine wpAny_loadName_local S.kind (by rw [harn]; exact S.par _ (by simp)) hns hvs2 ?_
  refine ks_wpAny_isType_cls hD1 hD2 ⟨rfl, ?_⟩
  refine ks_wpAny_call_super hD1 hD2 hx rfl (fun c => by simp) (looks_mroIn hK1 Z.sub) (fun h2 e2 k2 => ?_)
  have I2 := I.kept (t' := s.toks + (["self", "word"].zip [Value.ref a, Value.str wd tw]).length) k2
  have hK2 : K.In h2 := hK1.keeps k2
  have J2 : InstAt h2 a ({ cls := .ref C, dict := none, data := .fields #[.ref t1, .none, .none, .none, .bool false, .none] } : Obj) C none := ⟨k2 _ _ hx, rfl, rfl, trivial⟩
  have hsup := Z.sup
  unfold ks_superIn at hsup
  rw [hcd] at hsup
  refine kxs_getMethod kxs_ValueError e2 (looks_opaque hK2 Z.opq) (l₀ := cdD.mro) (fun A Q E s k q => wpAny_bind ((looks_clsIn hK2 hcd) A _ E s k (wpAny_pure q))) rfl hK2 hsup (J2.type.andThen (looks_subIn hK2 Z.ve)) (ks_ne hK2 J2 hcd) (by decide) ?_
  -- the bound __init__, pinned while the text is made
  have nu : H h2.objs.size = none := I2.hok.fresh (Nat.le_refl _)
  have I3 := I2.kept (h' := h2.push (kxs_mw "ValueError.__init__" a)) (t' := s.toks + (["self", "word"].zip [Value.ref a, Value.str wd tw]).length + 1) (fun b o e => Heap.get?_push_of_some _ e)
  have I4 := I3.pins_of (pins' := [(h2.objs.size, kxs_mw "ValueError.__init__" a)]) (fun p hp => by
    rw [List.mem_singleton] at hp
    subst hp
    refine ⟨Heap.get?_push_at rfl rfl, nu, fun z => ?_, fun z => ?_, fun v => by simp⟩
    · obtain ⟨m, ⟨o, es, ep, ho, _⟩, _⟩ := I2.loc
      have := Heap.lt_size ho
      rw [← z] at this
      exact absurd this (Nat.lt_irrefl _)
    · exact I2.nofs (Nat.le_refl _) z)
  have hpv : PE (ncx (L2.CX P w) P w K mg base ["self", "word", "__class__"] (nf qual st cda cc) fI A outer s H E) (.Name "word" p4) (tVar 1) := pe_var (i := 1) (x := "word") rfl (Or.inl hkw) (by decide)
  have hpa := pa_cons (pe_op (pos := p5) op_add_str (pe_str (x := txt) (j := j) (pos := p3)) hpv) (pa_nil (X := ncx (L2.CX P w) P w K mg base ["self", "word", "__class__"] (nf qual st cda cc) fI A outer s H E))
  have run := hpa.run p6 [(h2.objs.size, kxs_mw "ValueError.__init__" a)] _ _ H (fun vs H1 => vs = [V.str (txt ++ wd)] ∧ H1 = H) I4 (by
    refine ⟨.str wd, rfl, txt, wd, rfl, rfl, ?_, rfl, rfl⟩
    rw [sizeLine_eq]; omega)
  have he1 : starEach [.BinOp (.Constant (.str txt) j p3) .Add (.Name "word" p4) p5] (ksEnv qual (defScope st) s.heap.objs.size fI (.ref cda) cc) = [(false, eval (.BinOp (.Constant (.str txt) j p3) .Add (.Name "word" p4) p5) (ksEnv qual (defScope st) s.heap.objs.size fI (.ref cda) cc))] := rfl
  show wpAny _ _ (callWith p6 (.ref h2.objs.size) [] (backTo p6 (starEach _ (ksEnv qual (defScope st) s.heap.objs.size fI (.ref cda) cc))) []) _ _ _
  refine kxs_callWith (i := "ValueError.__init__") (x := a) rfl ?_
  refine Calls.evalArgs_plain (wpAny_mono run (fun us s5 hh => ?_) fun _ _ z => z)
  obtain ⟨vs5, H5, I5, r5, e5, eH⟩ := hh
  subst e5
  rw [eH] at I5
  have hu := (I5.pin (h2.objs.size, kxs_mw "ValueError.__init__" a) (List.mem_append_right _ (by simp))).1
  refine ⟨hu, ?_⟩
  obtain ⟨h5, g5, d5, t5, os5⟩ := s5
  obtain ⟨tx, hx5⟩ := exo_at I5.hok ea
  obtain ⟨nm, q, N, bs, bm, sn, sub, ab, col, dd, k0, k1, k2', k3, k5, hC, hbm⟩ := Z.oex.cls
  have hC5 := I5.kIn _ _ hC
  have hus : us.length ≤ sizeLine := by
    rw [← r5.length, sizeLine_eq]; simp
  refine wpAny_call (codeAny_of_tree ?_)
  show wpAny _ (Around.in1 _) (callAny (.ref h2.objs.size) ⟨us, []⟩) _ _ _
  simp only [callAny]
  refine wpAny_bind (wpAny_load hu ?_)
  simp only [kxs_mw, show (Value.type "method-wrapper" == Value.type "method" || Value.type "method-wrapper" == Value.type "builtin_function_or_method" || Value.type "method-wrapper" == Value.type "method-wrapper") = true by decide, if_true]
  refine KFB.if_so (by decide) ?_
  refine wpAny_bind (check_bound_init F.excBase_ValueError.toExcCallFacts hC5 hx5 rfl ?_)
  refine wpAny_bind (wpAny_pure (wpAny_pure ?_))
  refine ⟨plainId_quiet F.excBase_ValueError.init.plain _, codeAny_builtin F.excBase_ValueError.initEntry ?_⟩
  refine exc_init_tree (cls := .ref C) (t0 := tx) (dv := none) (c2 := .none) (c3 := .none) (b4 := .bool false) hx5 hus fun h6 k6 hx6 _ => ?_
  have J := I5.write (t' := t5) (x := a) (e := a) (o := exo a C none) (by rw [ea]; exact True.intro) (.inl rfl) k6 ⟨_, hx6⟩ (exo_ok hx6)
  have eu : upd H a (exo a C none) = H := by
    funext b
    by_cases hb : b = a
    · rw [hb, upd_same, ea]
    · rw [upd_ne hb]
  rw [eu] at J
  have J0 := J.pins_of (pins' := []) (fun p hp => by simp at hp)
  refine wpAt_of_wpAny ?_
  have ps : PSs (ncx (L2.CX P w) P w K mg base ["self", "word", "__class__"] (nf qual st cda cc) fI A outer s H E) [.Assign [.Attribute (.Name "self" p8) "word" p9] (.Name "word" p10) p11] _ :=
    pss_one (ps_ost (pe_var (i := 0) (x := "self") rfl (Or.inl (S.par _ (by simp))) (by decide)) (pe_var (i := 1) (x := "word") rfl (Or.inl hkw) (by decide)) (hsa _))
  refine wpAny_mono (ps.run [] _ _ H { nx := fun _ H' => Q .non H', rt := Q } J0 ?_) (fun fl s' hs => ?_) fun e s' hs => hs
  · refine ⟨.str wd, rfl, .ref a, rfl, a, C, rfl, Z.oex, Z.wd, .inl ⟨ea, fun dx hd hne => ?_⟩⟩
    exact hQ dx hd hne
  · have fin : ∀ {σ' : L2.St} {H' : Hp} {v : V} {u : Value}, Inv (ncx (L2.CX P w) P w K mg base ["self", "word", "__class__"] (nf qual st cda cc) fI A outer s H E) [] σ' H' s' → L2.RelV v u → Q v H' → CE outer P w H s Q u s' :=
      fun {σ' H' v u} J rv q => ⟨v, H', J.os, J.bare, J.base, J.hok, rv, q⟩
    cases fl with
    | ret u =>
      obtain ⟨v, σ', H', J, rv, q⟩ := hs
      exact fin J rv q
    | next =>
      obtain ⟨σ', H', J, q⟩ := hs
      exact fin (v := V.non) (u := Value.none) J rfl q
    | brk =>
      obtain ⟨_, _, _, q⟩ := hs
      exact False.elim q
    | cont =>
      obtain ⟨_, _, _, q⟩ := hs
      exact False.elim q
end
end DLX

set_option maxRecDepth 100000
set_option maxHeartbeats 1000000
/-! DLY: raising an own exception, catching it. -/
namespace DL
open PySem L2 DLX
/-- the exception x('word') as it flies -/
def XM (C : Addr) (x : Str) : XR := fun e cls d H => ∃ (wd : Str) (dx : Addr), e = (x, [.str wd]) ∧ cls = .ref C ∧ d = some dx ∧ H dx = some (.xd [(("word" : Str), .str wd)])
def sRaise (x : Str) (il : IA) : IS := fun env Pp => il env (fun ds => match ds with
  | [.str wd] => wd.length ≤ 1000 ∧ Pp.ex (x, [.str wd]) env
  | _ => False) (fun x => Pp.ex x env)
section
variable {K : Fr} {xr : XR} {W : WX} {ta : TA} {il : IA}
theorem sndS_raise {C : Addr} {x : Str} (hx : ∀ e c d H, XM C x e c d H → xr e c d H) (ha : SndA K xr W ta il) : SndS K xr W (fun _ σ H => tMkO C (spInit C) [] ta σ H fun cls d H' => W cls d σ H') (sRaise x il) := fun dr J B Gh env σ I H Pp D s h o => by
  refine ha dr env σ I H _ _ s.pre s.ev h (o.e s) _ fun ds vs H1 hd k1 r1 => ?_
  split at hd
  · rename_i wd
    obtain ⟨hl, hE⟩ := hd
    cases r1 with
    | cons r t =>
      cases t
      cases r
      refine ⟨by simp, fun a ha => ⟨a, wd, rfl, hl, upd_same, fun dx hdx hne => ?_⟩⟩
      have h1 : H1 dx = none := by rwa [upd_ne hne] at hdx
      refine ⟨rfl, dx, [("word", .str wd)], upd_same, ?_, h1, ?_⟩
      · rw [upd_ne hne, upd_same]
      · refine o.e s (x, [.str wd]) _ _ _ hE ?_ (hx _ _ _ _ ⟨wd, dx, rfl, rfl, rfl, upd_same⟩)
        have p1 := s.pre.step k1
        have e : upd (del (upd (upd (upd H1 a (exo a C none)) dx (exd dx [("word", .str wd)])) a (exo a C (some dx))) a) dx (.xd [("word", .str wd)]) = upd H1 dx (.xd [("word", .str wd)]) := by
          funext b
          by_cases hb : b = dx
          · subst hb; rw [upd_same, upd_same]
          · rw [upd_ne hb, upd_ne hb]
            by_cases hba : b = a
            · subst hba; rw [del_same, ha]
            · rw [del_ne hba, upd_ne hba, upd_ne hb, upd_ne hba]
        rw [e]
        exact k1.trans (Kp.new p1 h1)
  · exact hd.elim
end
end DL
namespace DL
open PySem L2 DLX
/-- try: .. except x as n: return n.word -/
def sTryW (i : Nat) (is : IS) : IS := fun env Pp => is env { Pp with ex := fun e env' => match e.2 with
  | [.str wd] => i < env'.length ∧ Pp.rt (.str wd)
  | _ => False }
/-- try: .. except x: return d -/
def sTryC (d : Dt) (is : IS) : IS := fun env Pp => is env { Pp with ex := fun _ _ => Pp.rt d }
section
variable {K : Fr} {xr : XR} {W Wout : WX} {is : IS} {tb : WX → TS}
theorem sndS_tryW {C : Addr} {x : Str} {i : Nat} (hx : ∀ e c d H, xr e c d H → XM C x e c d H) (hm : PySem.W.exmOne K (.ref C) (.ref C) = some true) (hb : ∀ W', SndS K xr W' (tb W') is) :
    SndS K xr W (fun D σ H => tb (wAs K (.ref C) i (fun a cls d => tRet (tXf a cls d C "word" (tVar i))) Wout D) D σ H) (sTryW i is) := fun dr J B Gh env σ I H Pp D s h o =>
  hb _ dr J B Gh env σ I H _ D s h ⟨o.nx, o.bk, o.ct, o.rt, o.rn, fun e c d env' σ' I' H' he s' hr => by
    obtain ⟨wd, dx, rfl, rfl, rfl, hd⟩ := hx _ _ _ _ hr
    obtain ⟨hl, hP⟩ := he
    refine ⟨true, hm, fun _ a ha => ?_, fun z => by cases z⟩
    refine ⟨.ref a, ?_, rfl, rfl, dx, _, .str wd, rfl, hd, rfl, o.rt _ _ _ hP s'.kp (.str wd)⟩
    rw [List.getElem?_set_self (by rw [s'.ev.len]; exact hl)]⟩
theorem sndS_tryC {C : Addr} {x : Str} {v : V} {d0 : Dt} (hx : ∀ e c d H, xr e c d H → XM C x e c d H) (hm : PySem.W.exmOne K (.ref C) (.ref C) = some true) (hv : ∀ dr I, Rp K dr I v d0) (hb : ∀ W', SndS K xr W' (tb W') is) :
    SndS K xr W (fun D σ H => tb (wOnly K (.ref C) (fun _ _ _ => tRet (tC v)) Wout D) D σ H) (sTryC d0 is) := fun dr J B Gh env σ I H Pp D s h o =>
  hb _ dr J B Gh env σ I H _ D s h ⟨o.nx, o.bk, o.ct, o.rt, o.rn, fun e c d env' σ' I' H' he s' hr => by
    obtain ⟨wd, dx, rfl, rfl, rfl, hd⟩ := hx _ _ _ _ hr
    exact ⟨true, hm, fun _ a ha => o.rt _ _ _ he s'.kp (hv _ _), fun z => by cases z⟩⟩
end
end DL
namespace DL
open PySem L2 DLX
theorem passF {X : Cx} : Passes (L2.CX X.prog X.w) X (fun _ _ _ => False) := by
  intro pins σ H s e s' I c
  obtain ⟨_, _, _, _, _, _, _, _, _, _, _, _, z⟩ := c
  exact z.elim
section
variable {xr : XR} {X : Cx} {W : WX} {C fI cda cc : Addr} {fd : FuncData} {x qual : Str} {st : Stmt} {e : Expr} {es : List Expr} {il : IA} {p pos pos' : Pos} {ds : List Value}
theorem ls_raise (hc : X.calm = true) (tk : Takes X W) (Z : MissF X.prog X.K X.mg x qual st C fI cda cc fd) (F1 : FnOk X.prog X.w X.K X.mg X.base (L2.CX X.prog X.w) 3 fI fd ["self", "word"] (spInit C)) (hr : Room 4 X.A) (hb : Binds X.K fd ["self", "word"] [])
    (hx : ∀ e c d H, XM C x e c d H → xr e c d H) (hg : Gl X x) (ha : LA xr X W (e :: es) il) (hdb : (x == ("__debug__" : Str)) = false := by decide) (he : starEach (e :: es) X.env = (false, eval e X.env) :: starEach es X.env := by rfl) (hpl : (backTo pos (starEach es X.env)).any (·.1) = false := by rfl) :
    LS xr X W (.Raise (some (.Call (.Name x p) (e :: es) [] pos)) none pos') (sRaise x il) := by
  obtain ⟨_, pa, sa⟩ := ha
  exact ⟨_, ps_raise hc tk (pmk_oex Z.oex Z.ini Z.tyI F1 hr hb .nil passF hg Z.g pa hdb he hpl), sndS_raise hx sa⟩
end
end DL
namespace DL
open PySem L2 DLX
section
variable {xr : XR} {X : Cx} {W : WX} {C fI cda cc : Addr} {fd : FuncData} {x qual n : Str} {st : Stmt} {is : IS} {body : List Stmt} {np p1 p2 p3 pos pos' : Pos} {i : Nat}
theorem one_body (hb : ∀ (W' : WX) (pn : List (Addr × Obj)) (xe : Value → Shared → Prop), Takes (X.tr pn xe) W' → PassesOwn (model X.prog X.w) X.A X.env xe → ∃ t, PSs (X.tr pn xe) body t ∧ SndS X.K xr W' t is) :
    ∃ tb : WX → TS, ∀ W' : WX, (∀ (pn : List (Addr × Obj)) (xe : Value → Shared → Prop), Takes (X.tr pn xe) W' → PassesOwn (model X.prog X.w) X.A X.env xe → PSs (X.tr pn xe) body (tb W')) ∧ SndS X.K xr W' (tb W') is := by
  refine ⟨fun W' D σ H => ∀ pn xe (h1 : Takes (X.tr pn xe) W') (h2 : PassesOwn (model X.prog X.w) X.A X.env xe), Classical.choose (hb W' pn xe h1 h2) D σ H, fun W' => ⟨fun pn xe h1 h2 => ⟨fun pins s σ H D I h => ?_⟩, fun dr J B Gh env σ I H Pp D s h o pn xe h1 h2 => ?_⟩⟩
  · exact (Classical.choose_spec (hb W' pn xe h1 h2)).1.run pins s σ H D I (h pn xe h1 h2)
  · exact (Classical.choose_spec (hb W' pn xe h1 h2)).2 dr J B Gh env σ I H Pp D s h o
theorem ls_tryW (i : Nat) (hs : X.stack = X.env :: X.outer) (hf : X.env.frame = some X.env.locals) (hN : X.N.Nodup) (tk : Takes X W) (Z : MissF X.prog X.K X.mg x qual st C fI cda cc fd) (hm : PySem.W.exmOne X.K (.ref C) (.ref C) = some true)
    (hx : ∀ e c d H, xr e c d H → XM C x e c d H) (hg : Gl X x)
    (hb : ∀ (W' : WX) (pn : List (Addr × Obj)) (xe : Value → Shared → Prop), Takes (X.tr pn xe) W' → PassesOwn (model X.prog X.w) X.A X.env xe → ∃ t, PSs (X.tr pn xe) body t ∧ SndS X.K xr W' t is)
    (hi : X.N[i]? = some n := by rfl) (hln : X.env.kindOf n = some .local := by rfl) (hdb : (x == ("__debug__" : Str)) = false := by decide) (hv : Vis X.env.scope n := by first | exact Or.inl rfl | exact Or.inr (Or.inl rfl) | exact Or.inr (Or.inr rfl))
    (hd : (n == ("__debug__" : Str)) = false := by decide) (hcd : (n == ("__classdict__" : Str)) = false := by decide) :
    LS xr X W (.Try body [.ExceptHandler (some (.Name x np)) (some n) [.Return (some (.Attribute (.Name n p1) "word" p2)) p3] pos'] [] [] pos) (sTryW i is) := by
  obtain ⟨tb, htb⟩ := one_body hb
  exact ⟨_, ps_try_as (ts := fun a cls d => tRet (tXf a cls d C "word" (tVar i))) hs hf hN hi hln ⟨hg, hdb, .inl Z.g⟩ tk (fun W' pn xe h1 h2 => (htb W').1 pn xe h1 h2)
    (fun a oe cls d pn hz hfl => pss_one (ps_ret (pe_xf Z.xf Z.wd hz hfl (pe_var hi hv hd hcd)))), sndS_tryW hx hm fun W' => (htb W').2⟩
theorem ls_tryC {v : V} {d0 : Dt} {ce : Expr} (hs : X.stack = X.env :: X.outer) (hf : X.env.frame = some X.env.locals) (tk : Takes X W) (Z : MissF X.prog X.K X.mg x qual st C fI cda cc fd) (hm : PySem.W.exmOne X.K (.ref C) (.ref C) = some true)
    (hx : ∀ e c d H, xr e c d H → XM C x e c d H) (hg : Gl X x) (hv : ∀ dr I, Rp X.K dr I v d0) (hce : ∀ X' : Cx, PE X' ce (tC v))
    (hb : ∀ (W' : WX) (pn : List (Addr × Obj)) (xe : Value → Shared → Prop), Takes (X.tr pn xe) W' → PassesOwn (model X.prog X.w) X.A X.env xe → ∃ t, PSs (X.tr pn xe) body t ∧ SndS X.K xr W' t is)
    (hdb : (x == ("__debug__" : Str)) = false := by decide) :
    LS xr X W (.Try body [.ExceptHandler (some (.Name x np)) none [.Return (some ce) p3] pos'] [] [] pos) (sTryC d0 is) := by
  obtain ⟨tb, htb⟩ := one_body hb
  exact ⟨_, ps_try_only (ts := fun _ _ _ => tRet (tC v)) hs hf ⟨hg, hdb, .inl Z.g⟩ tk (fun W' pn xe h1 h2 => (htb W').1 pn xe h1 h2)
    (fun a oe cls d pn hz hfl => pss_one (ps_ret (hce _))), sndS_tryC hx hm hv fun W' => (htb W').2⟩
end
end DL

set_option maxRecDepth 100000
set_option maxHeartbeats 1000000
/-! DLZ: three names at once; what the top has written of Misstep; defs that call themselves. -/
namespace DL
open PySem L2 DLX PyProof.Rows
def sMany3 (i j l : Nat) (il : IXA) : IS := fun env Pp => il env (fun ss => ss.length = 3 ∧ Pp.nx (putL env [i, j, l] ss)) (fun x => Pp.ex x env)
section
variable {K : Fr} {xr : XR} {W : WX} {ta : TA} {il : IXA} {i j l : Nat}
theorem sndS_many3 (h : SndXA K xr W ta il) : SndS K xr W (tPar3 i j l ta) (sMany3 i j l il) := fun dr J B Gh env σ I H Pp D s hi o => by
  refine h dr J B Gh env σ I H _ _ s hi (o.e s) _ fun ss vs I1 H1 hP k1 sub1 eq1 st1 vo1 nw1 => ?_
  have hl := vo1.len
  rw [hP.1] at hl
  match vs, hl with
  | [u, v, w], _ => exact ⟨u, v, w, rfl, o.nx _ _ _ _ hP.2 (Stt.setL (is := [i, j, l]) st1 vo1)⟩
end
section
variable {xr : XR} {X : Cx} {W : WX} {xl : IXA} {pos : Pos}
theorem ls_par3 (i j l : Nat) {x y z : Str} {a b c : Expr} {px py pz pt : Pos} {kt k2 pt2} (hc : X.calm = true) (hN : X.N.Nodup) (hij : i ≠ j) (hil : i ≠ l) (hjl : j ≠ l) (ha : LXA xr X W [a, b, c] xl)
    (hi : X.N[i]? = some x := by rfl) (hj : X.N[j]? = some y := by rfl) (hl : X.N[l]? = some z := by rfl)
    (hx : X.env.scope.names.lookup x = some .local := by rfl) (hy : X.env.scope.names.lookup y = some .local := by rfl) (hz : X.env.scope.names.lookup z = some .local := by rfl)
    (hw : swappedStores [.Tuple [.Name x px, .Name y py, .Name z pz] kt pt] (.Tuple [a, b, c] k2 pt2) X.env = pure (some [x, y, z]) := by rfl)
    (hs : swapsWithSole [.Tuple [.Name x px, .Name y py, .Name z pz] kt pt] (.Tuple [a, b, c] k2 pt2) pos.line X.env = pure false := by rfl) :
    LS xr X W (.Assign [.Tuple [.Name x px, .Name y py, .Name z pz] kt pt] (.Tuple [a, b, c] k2 pt2) pos) (sMany3 i j l xl) :=
  let ⟨_, p, s⟩ := ha; ⟨_, ps_par3 hc hN hi hj hl hij hil hjl hx hy hz p hw hs, sndS_many3 s⟩
end
/-- an exception of the class Misstep -/
def XR0 (K : Fr) (mg : Str → Option Value) : XR := fun e cls d H => ∃ C : Addr, mg "Misstep" = some (.ref C) ∧ XM C "Misstep" e cls d H
def initOf : Stmt → Stmt
  | .ClassDef _ _ _ (b :: _) _ _ _ _ _ _ _ => b
  | s => s
structure Mis (P : Program) (K : Fr) (mg : Str → Option Value) (st : Stmt) where
  C : Addr
  fI : Addr
  cda : Addr
  cc : Addr
  fd : FuncData
  Z : MissF P K mg "Misstep" "Misstep.__init__" st C fI cda cc fd
  hm : PySem.W.exmOne K (.ref C) (.ref C) = some true
section
variable {P : Program} {K : Fr} {mg : Str → Option Value} {st : Stmt}
theorem Mis.x1 (M : Mis P K mg st) : ∀ e c d H, XM M.C "Misstep" e c d H → XR0 K mg e c d H := fun _ _ _ _ h => ⟨_, M.Z.g, h⟩
theorem Mis.x2 (M : Mis P K mg st) : ∀ e c d H, XR0 K mg e c d H → XM M.C "Misstep" e c d H := fun _ _ _ _ ⟨C, h, z⟩ => by
  rw [M.Z.g] at h
  cases h
  exact z
theorem fn_never {w : World} {base : Heap} {k : Nat} {f : Addr} {fd : FuncData} {ps : List Str} {xr : XR} : FnOk P w K mg base (L2.CX P w) k f fd ps (liftS K xr fun _ _ _ => False) :=
  ⟨fun vs H Q E h => by
    obtain ⟨_, _, _, _, _, _, _, h, _⟩ := h
    exact h.elim, fun A outer s H args us vs Q E hr e0 hbd r hsp => by
    obtain ⟨_, _, _, _, _, _, _, h, _⟩ := hsp
    exact h.elim⟩
end
end DL

set_option maxRecDepth 100000
/-! DLW: what the top has written of Misstep, read off the head's part. -/
namespace DL
open PySem L2 DLX PyProof.Rows
theorem exm_self {K : Fr} {C : Addr} (b : PySem.W.subIn K (.ref C) (.type "BaseException") = some true) (i : PySem.W.isClsIn K C = true) (t : PySem.W.typeIn K (.ref C) = some (.type "type")) (s : PySem.W.subIn K (.ref C) (.ref C) = some true) : PySem.W.exmOne K (.ref C) (.ref C) = some true := by
  unfold PySem.W.exmOne
  rw [b, if_pos (by rfl)]
  unfold PySem.W.kitCls
  have hc : (PySem.W.clsIn K C).isSome = true := i
  simp only [hc, t, Bool.true_and]
  rw [if_pos (by rfl)]
  exact s
def Mis.of {P : Program} {K : Fr} {h : Heap} {mg : Str → Option Value} {st : Stmt} {C fI cda cc : Addr} {nm q : Str} {N : Addr} {bs bm : List Value} {sn : List Str} {sb : List Value} {ab : Bool} {col : Option Bool} {dd : Option Addr} {k0 k1 k2 k3 k5 : Option Value}
    {oc doc pm ct ccl cl : Value} {od cdd cld : Option Addr} {osl ccs csl : Array (Option Value)} {vs : Array Value} {file : Str} {tf : Tok} {cd : ClassData}
    (X : K.In h) (G : h.Ns mainGlobals mg)
    (g : PySem.W.nsIn K mainGlobals "Misstep" = some (some (.ref C)))
    (cls : K.lookup C = some (excClassObj nm q C N bs bm true sn sb ab col dd k0 k1 k2 k3 k5 "ValueError.__new__")) (rv : PySem.HandSPX.refsVE bm = true)
    (sa : PySem.W.findIn K (.ref C) "__setattr__" = some (some (.builtin "object.__setattr__")))
    (exC : PySem.W.subIn K (.ref C) (.type "BaseException") = some true) (tyC : PySem.W.typeIn K (.ref C) = some (.type "type")) (kC : PySem.W.keepIn K (.ref C) = true)
    (ini : PySem.W.findIn K (.ref C) "__init__" = some (some (.ref fI))) (tyI : PySem.W.typeIn K (.ref fI) = some (.type "function"))
    (lf : K.lookup fI = some ⟨oc, od, .func (PySem.W.ksFn "__init__" "Misstep.__init__" (defArgs st) (defBody st) (defScope st) .none .none doc pm none (.ref cda) ct cc), osl⟩)
    (code : PySem.W.codeIn K (.ref cda) "Misstep.__init__" = true)
    (lc : K.lookup cda = some ⟨ccl, cdd, .fields vs, ccs⟩) (v2 : vs[2]? = some (.str file tf)) (hf : ((P.main.file : Str) == file) = true)
    (cell : K.lookup cc = some ⟨cl, cld, .cell (some (.ref C)), csl⟩)
    (clsI : PySem.W.clsIn K C = some cd) (sub : PySem.W.mroIn K C (.ref C) = some true)
    (sup : PySem.W.ks_superIn K C C "__init__" = some (some (.builtin "ValueError.__init__")))
    (ve : PySem.W.subIn K (.ref C) (.type "ValueError") = some true) (opq : PySem.W.nsIn K cStatics "thirdparty.any" = some none) (wd : PySem.W.findIn K (.ref C) "word" = some none)
    (bsu : PySem.W.nsIn K mainGlobals "super" = some none) (top : (P.main.scope.names.lookup ("super" : Str)).isSome = false)
    (ga : PySem.W.findIn K (.ref C) "__getattribute__" = some (some (.builtin "BaseException.__getattribute__"))) (gg : PySem.W.findIn K (.ref C) "__getattr__" = some none) (hdC : PySem.W.hasDictIn K C = true)
    (icl : PySem.W.isClsIn K C = true) (sC : PySem.W.subIn K (.ref C) (.ref C) = some true) : Mis P K mg st :=
  ⟨C, fI, cda, cc, _, ⟨PySem.W.mg_of X G g, ⟨⟨nm, q, N, bs, bm, sn, sb, ab, col, dd, k0, k1, k2, k3, k5, cls, rv⟩, sa, exC, tyC, kC⟩, ini, tyI, ⟨oc, od, doc, pm, ct, osl, rfl, lf⟩, code, ⟨ccl, cdd, vs, ccs, file, tf, lc, v2, hf⟩, ⟨cl, cld, csl, cell⟩, ⟨cd, clsI⟩, sub, sup, ve, opq, wd, PySem.W.mg_none_of X G bsu, top, ⟨ga, gg, exC, hdC⟩⟩, exm_self exC icl tyC sC⟩
end DL

set_option maxRecDepth 100000
/-! DLS: the words' own rows as rules for simp, each proved once (not by unfolding in place: the kernel has then nothing to unfold). -/
namespace DL
open PySem L2
def eV : Sl → (Dt → Prop) → Prop
  | .im d, P => P d
  | _, _ => False
def oV : Sl → (Dt → Prop) → Prop
  | .im d, P => P d
  | .ow d, P => P d
  | _, _ => False
def owV : Sl → (List Dt → Prop) → Prop
  | .ow (.lst xs), P => P xs
  | _, _ => False
def agV : Sl → (Int → Prop) → Prop
  | .im (.int a), P => P a
  | _, _ => False
def fzV (env : List Sl) (i : Nat) : Sl → List Sl
  | .ow d => put env i (.im d)
  | _ => env
def exV : Dt → (List Dt → Prop) → Prop
  | .lst xs, P => P xs
  | _, _ => False
def wdV : List Dt → (Str → Prop) → Prop
  | [.str w], P => P w
  | _, _ => False
section
variable {env : List Sl} {P : Dt → Prop} {PB : Bool → Prop} {PL : List Dt → Prop} {PI : Option Int → Prop} {PS : Sl → Prop} {PSs : List Sl → Prop} {PE : List Sl → Prop} {E : Xc → Prop} {Pp : Po} {d x y : Dt} {ds xs ys : List Dt} {ia ib ic : IE} {it iu : IT} {il : IA} {is js : IS} {ix iy : IX} {xl : IXA} {i j l n : Nat} {ii : II} {g : G} {gs : Gs} {body : IS} {s : Sl} {ss : List Sl} {r : List Sl} {f h : Dt → Dt → (Dt → Prop) → Prop} {ig : IG} {igs : List Dt → IS} {k m : Int} {w : Str} {is' : List Nat} {b c : Bool}
@[simp] theorem eV_im : eV (.im d) P = P d := id rfl
@[simp] theorem oV_im : oV (.im d) P = P d := id rfl
@[simp] theorem oV_ow : oV (.ow d) P = P d := id rfl
@[simp] theorem owV_ow : owV (.ow (.lst xs)) PL = PL xs := id rfl
@[simp] theorem agV_im {PN : Int → Prop} : agV (.im (.int k)) PN = PN k := id rfl
@[simp] theorem fzV_no : fzV env i .no = env := id rfl
@[simp] theorem fzV_im : fzV env i (.im d) = env := id rfl
@[simp] theorem fzV_ow : fzV env i (.ow d) = put env i (.im d) := id rfl
@[simp] theorem exV_l : exV (.lst xs) PL = PL xs := id rfl
@[simp] theorem wdV_l {PW : Str → Prop} : wdV [.str w] PW = PW w := id rfl
@[simp] theorem eVar_e : eVar i env P E = eV (sl env i) P := by unfold eVar eV; cases sl env i <;> rfl
@[simp] theorem oVar_e : oVar i env P E = oV (sl env i) P := by unfold oVar oV; cases sl env i <;> rfl
@[simp] theorem eC_e : eC d env P E = P d := id rfl
@[simp] theorem eOp_e : eOp f ia ib env P E = ia env (fun x => ib env (fun y => f x y P) E) E := id rfl
@[simp] theorem eUn_e {f : Dt → (Dt → Prop) → Prop} : eUn f ia env P E = ia env (fun x => f x P) E := id rfl
@[simp] theorem aNil_e : aNil env PL E = PL [] := id rfl
@[simp] theorem aCons_e : aCons ia il env PL E = ia env (fun x => il env (fun xs => PL (x :: xs)) E) E := id rfl
@[simp] theorem eCB_e {f : List Dt → (Dt → Prop) → Prop} : eCB f il env P E = il env (fun xs => f xs P) E := id rfl
@[simp] theorem eTup_e : eTup il env P E = il env (fun xs => xs.length ≤ 16777216 ∧ P (.tup xs)) E := id rfl
@[simp] theorem eLst_e : eLst il env P E = il env (fun xs => xs.length ≤ 16777216 ∧ P (.lst xs)) E := id rfl
@[simp] theorem bT_e : bT ia env PB E = ia env (fun x => asB x PB) E := id rfl
@[simp] theorem bAnd_e : bAnd it iu env PB E = it env (fun b => if b = true then iu env PB E else PB false) E := id rfl
@[simp] theorem bOr_e : bOr it iu env PB E = it env (fun b => if b = true then PB true else iu env PB E) E := id rfl
@[simp] theorem bNot_e : bNot it env PB E = it env (fun b => PB (!b)) E := id rfl
@[simp] theorem eAnd_e : eAnd ia ib env P E = ia env (fun x => asB x fun b => if b = true then ib env P E else P (.bl false)) E := id rfl
@[simp] theorem eOr_e : eOr ia ib env P E = ia env (fun x => asB x fun b => if b = true then P (.bl true) else ib env P E) E := id rfl
@[simp] theorem eNot_e : eNot ia env P E = ia env (fun x => asB x fun b => P (.bl (!b))) E := id rfl
@[simp] theorem eIf_e : eIf it ia ib env P E = it env (fun b => if b = true then ia env P E else ib env P E) E := id rfl
@[simp] theorem eChain_e : eChain f h ia ib ic env P E = ia env (fun x => ib env (fun y => f x y (fun z => asB z fun b => if b = true then ic env (fun w => h y w P) E else P (.bl false))) E) E := id rfl
@[simp] theorem eqD_e : eqD x y P = ((okD x ∧ okD y) ∧ P (.bl (eqv x y))) := id rfl
@[simp] theorem neD_e : neD x y P = ((okD x ∧ okD y) ∧ P (.bl (!eqv x y))) := id rfl
@[simp] theorem isN_n : isN x .non P = P (.bl (isNonD x)) := id rfl
@[simp] theorem isN_b : isN (.bl b) (.bl c) P = P (.bl (decide (b = c))) := id rfl
@[simp] theorem niN_n : niN x .non P = P (.bl (!isNonD x)) := id rfl
@[simp] theorem niN_b : niN (.bl b) (.bl c) P = P (.bl (!decide (b = c))) := id rfl
@[simp] theorem pNo_e : pNo env PI E = PI none := id rfl
@[simp] theorem pAt_e : pAt ia env PI E = ia env (fun x => asI x fun i => PI (some i)) E := id rfl
@[simp] theorem eSl_e {f : Dt → Option Int → Option Int → (Dt → Prop) → Prop} {i1 i2 : IP} : eSl f ia i1 i2 env P E = ia env (fun x => i1 env (fun lo => i2 env (fun hi => f x lo hi P) E) E) E := id rfl
@[simp] theorem f1_e {f : Dt → (Dt → Prop) → Prop} : f1 f [x] P = f x P := id rfl
@[simp] theorem f2_e : f2 f [x, y] P = f x y P := id rfl
theorem isiD_e {T : String} : isiD T x P = (∃ b, kitB (tyS x) T = some b ∧ P (.bl b)) := id rfl
theorem isiD_v {T : String} {b : Bool} (h : kitB (tyS x) T = some b) : isiD T x P = P (.bl b) := propext ⟨fun ⟨b', h1, h2⟩ => by rw [h] at h1; cases h1; exact h2, fun q => ⟨b, h, q⟩⟩
@[simp] theorem isi_non_tuple : isiD "tuple" .non P = P (.bl false) := isiD_v (show kitB "NoneType" "tuple" = some false by decide +kernel)
@[simp] theorem isi_non_int : isiD "int" .non P = P (.bl false) := isiD_v (show kitB "NoneType" "int" = some false by decide +kernel)
@[simp] theorem isi_non_bool : isiD "bool" .non P = P (.bl false) := isiD_v (show kitB "NoneType" "bool" = some false by decide +kernel)
@[simp] theorem isi_non_str : isiD "str" .non P = P (.bl false) := isiD_v (show kitB "NoneType" "str" = some false by decide +kernel)
@[simp] theorem isi_non_list : isiD "list" .non P = P (.bl false) := isiD_v (show kitB "NoneType" "list" = some false by decide +kernel)
@[simp] theorem isi_non_dict : isiD "dict" .non P = P (.bl false) := isiD_v (show kitB "NoneType" "dict" = some false by decide +kernel)
@[simp] theorem isi_bl_tuple : isiD "tuple" (.bl b) P = P (.bl false) := isiD_v (show kitB "bool" "tuple" = some false by decide +kernel)
@[simp] theorem isi_bl_int : isiD "int" (.bl b) P = P (.bl true) := isiD_v (show kitB "bool" "int" = some true by decide +kernel)
@[simp] theorem isi_bl_bool : isiD "bool" (.bl b) P = P (.bl true) := isiD_v (show kitB "bool" "bool" = some true by decide +kernel)
@[simp] theorem isi_bl_str : isiD "str" (.bl b) P = P (.bl false) := isiD_v (show kitB "bool" "str" = some false by decide +kernel)
@[simp] theorem isi_bl_list : isiD "list" (.bl b) P = P (.bl false) := isiD_v (show kitB "bool" "list" = some false by decide +kernel)
@[simp] theorem isi_bl_dict : isiD "dict" (.bl b) P = P (.bl false) := isiD_v (show kitB "bool" "dict" = some false by decide +kernel)
@[simp] theorem isi_int_tuple : isiD "tuple" (.int k) P = P (.bl false) := isiD_v (show kitB "int" "tuple" = some false by decide +kernel)
@[simp] theorem isi_int_int : isiD "int" (.int k) P = P (.bl true) := isiD_v (show kitB "int" "int" = some true by decide +kernel)
@[simp] theorem isi_int_bool : isiD "bool" (.int k) P = P (.bl false) := isiD_v (show kitB "int" "bool" = some false by decide +kernel)
@[simp] theorem isi_int_str : isiD "str" (.int k) P = P (.bl false) := isiD_v (show kitB "int" "str" = some false by decide +kernel)
@[simp] theorem isi_int_list : isiD "list" (.int k) P = P (.bl false) := isiD_v (show kitB "int" "list" = some false by decide +kernel)
@[simp] theorem isi_int_dict : isiD "dict" (.int k) P = P (.bl false) := isiD_v (show kitB "int" "dict" = some false by decide +kernel)
@[simp] theorem isi_str_tuple : isiD "tuple" (.str w) P = P (.bl false) := isiD_v (show kitB "str" "tuple" = some false by decide +kernel)
@[simp] theorem isi_str_int : isiD "int" (.str w) P = P (.bl false) := isiD_v (show kitB "str" "int" = some false by decide +kernel)
@[simp] theorem isi_str_bool : isiD "bool" (.str w) P = P (.bl false) := isiD_v (show kitB "str" "bool" = some false by decide +kernel)
@[simp] theorem isi_str_str : isiD "str" (.str w) P = P (.bl true) := isiD_v (show kitB "str" "str" = some true by decide +kernel)
@[simp] theorem isi_str_list : isiD "list" (.str w) P = P (.bl false) := isiD_v (show kitB "str" "list" = some false by decide +kernel)
@[simp] theorem isi_str_dict : isiD "dict" (.str w) P = P (.bl false) := isiD_v (show kitB "str" "dict" = some false by decide +kernel)
@[simp] theorem isi_lst_tuple : isiD "tuple" (.lst xs) P = P (.bl false) := isiD_v (show kitB "list" "tuple" = some false by decide +kernel)
@[simp] theorem isi_lst_int : isiD "int" (.lst xs) P = P (.bl false) := isiD_v (show kitB "list" "int" = some false by decide +kernel)
@[simp] theorem isi_lst_bool : isiD "bool" (.lst xs) P = P (.bl false) := isiD_v (show kitB "list" "bool" = some false by decide +kernel)
@[simp] theorem isi_lst_str : isiD "str" (.lst xs) P = P (.bl false) := isiD_v (show kitB "list" "str" = some false by decide +kernel)
@[simp] theorem isi_lst_list : isiD "list" (.lst xs) P = P (.bl true) := isiD_v (show kitB "list" "list" = some true by decide +kernel)
@[simp] theorem isi_lst_dict : isiD "dict" (.lst xs) P = P (.bl false) := isiD_v (show kitB "list" "dict" = some false by decide +kernel)
@[simp] theorem isi_tup_tuple : isiD "tuple" (.tup xs) P = P (.bl true) := isiD_v (show kitB "tuple" "tuple" = some true by decide +kernel)
@[simp] theorem isi_tup_int : isiD "int" (.tup xs) P = P (.bl false) := isiD_v (show kitB "tuple" "int" = some false by decide +kernel)
@[simp] theorem isi_tup_bool : isiD "bool" (.tup xs) P = P (.bl false) := isiD_v (show kitB "tuple" "bool" = some false by decide +kernel)
@[simp] theorem isi_tup_str : isiD "str" (.tup xs) P = P (.bl false) := isiD_v (show kitB "tuple" "str" = some false by decide +kernel)
@[simp] theorem isi_tup_list : isiD "list" (.tup xs) P = P (.bl false) := isiD_v (show kitB "tuple" "list" = some false by decide +kernel)
@[simp] theorem isi_tup_dict : isiD "dict" (.tup xs) P = P (.bl false) := isiD_v (show kitB "tuple" "dict" = some false by decide +kernel)
@[simp] theorem isi_dic_tuple {ks : List Key} : isiD "tuple" (.dic ks xs) P = P (.bl false) := isiD_v (show kitB "dict" "tuple" = some false by decide +kernel)
@[simp] theorem isi_dic_int {ks : List Key} : isiD "int" (.dic ks xs) P = P (.bl false) := isiD_v (show kitB "dict" "int" = some false by decide +kernel)
@[simp] theorem isi_dic_bool {ks : List Key} : isiD "bool" (.dic ks xs) P = P (.bl false) := isiD_v (show kitB "dict" "bool" = some false by decide +kernel)
@[simp] theorem isi_dic_str {ks : List Key} : isiD "str" (.dic ks xs) P = P (.bl false) := isiD_v (show kitB "dict" "str" = some false by decide +kernel)
@[simp] theorem isi_dic_list {ks : List Key} : isiD "list" (.dic ks xs) P = P (.bl false) := isiD_v (show kitB "dict" "list" = some false by decide +kernel)
@[simp] theorem isi_dic_dict {ks : List Key} : isiD "dict" (.dic ks xs) P = P (.bl true) := isiD_v (show kitB "dict" "dict" = some true by decide +kernel)
@[simp] theorem isi_dit_tuple {kt : List (List Key)} : isiD "tuple" (.dit kt xs) P = P (.bl false) := isiD_v (show kitB "dict" "tuple" = some false by decide +kernel)
@[simp] theorem isi_dit_int {kt : List (List Key)} : isiD "int" (.dit kt xs) P = P (.bl false) := isiD_v (show kitB "dict" "int" = some false by decide +kernel)
@[simp] theorem isi_dit_bool {kt : List (List Key)} : isiD "bool" (.dit kt xs) P = P (.bl false) := isiD_v (show kitB "dict" "bool" = some false by decide +kernel)
@[simp] theorem isi_dit_str {kt : List (List Key)} : isiD "str" (.dit kt xs) P = P (.bl false) := isiD_v (show kitB "dict" "str" = some false by decide +kernel)
@[simp] theorem isi_dit_list {kt : List (List Key)} : isiD "list" (.dit kt xs) P = P (.bl false) := isiD_v (show kitB "dict" "list" = some false by decide +kernel)
@[simp] theorem isi_dit_dict {kt : List (List Key)} : isiD "dict" (.dit kt xs) P = P (.bl true) := isiD_v (show kitB "dict" "dict" = some true by decide +kernel)
@[simp] theorem eIsi_e {T : String} : eIsi T ia env P E = ia env (fun x => isiD T x P) E := id rfl
@[simp] theorem eCall_e {sp : DSp} : eCall sp il env P E = il env (fun ds => sp ds P E) E := id rfl
@[simp] theorem iOf_e : iOf ia env PL E = ia env (fun x => seqD x PL) E := id rfl
@[simp] theorem g1_e {f : Int → Prop} : g1 f [.int k] = f k := id rfl
@[simp] theorem g2_e {f : Int → Int → Prop} : g2 f [.int k, .int m] = f k m := id rfl
@[simp] theorem g3_e {f : Int → Int → Prop} {t : Int} : g3 f [.int k, .int m, .int t] = (t = -1 ∧ f k m) := id rfl
@[simp] theorem iRange1_e : iRange1 il env PL E = il env (g1 fun j => (-(2 ^ 62) ≤ j ∧ j < 2 ^ 62) ∧ PL (rng 0 1 j.toNat)) E := id rfl
@[simp] theorem iRange2_e : iRange2 il env PL E = il env (g2 fun i j => (-(2 ^ 62) ≤ i ∧ i < 2 ^ 62 ∧ -(2 ^ 62) ≤ j ∧ j < 2 ^ 62) ∧ PL (rng i 1 (j - i).toNat)) E := id rfl
@[simp] theorem iRange3_e : iRange3 il env PL E = il env (g3 fun i j => (-(2 ^ 62) ≤ i ∧ i < 2 ^ 62 ∧ -(2 ^ 62) ≤ j ∧ j < 2 ^ 62) ∧ PL (rng i (-1) (i - j).toNat)) E := id rfl
@[simp] theorem gN_e : gN i d env PE = PE (put env i (.im d)) := id rfl
@[simp] theorem gsNil_e : gsNil [] env PE = PE env := id rfl
@[simp] theorem gsCons_e : gsCons g gs (d :: ds) env PE = g d env fun env' => gs ds env' PE := id rfl
@[simp] theorem wipeE_n : wipeE env [] = env := id rfl
@[simp] theorem wipeE_c {is : List Nat} : wipeE env (i :: is) = put (wipeE env is) i .no := id rfl
@[simp] theorem nComp_e {vs : List Nat} : nComp vs ii g it ia env P E = ii env (fun ds => ds.length ≤ 16777216 ∧ compD g it ia (wipeE env vs) P ds []) E := id rfl
@[simp] theorem bYes_e : bYes env PB E = PB true := id rfl
@[simp] theorem xE_e : xE ia env PS E = ia env (fun d => PS (.im d)) E := id rfl
@[simp] theorem xN_e : xN ia env PS E = ia env (fun d => PS (.ow d)) E := id rfl
@[simp] theorem sNext_e : sNext env Pp = Pp.nx env := id rfl
@[simp] theorem sBreak_e : sBreak env Pp = Pp.bk env := id rfl
@[simp] theorem sCont_e : sCont env Pp = Pp.ct env := id rfl
@[simp] theorem sSeq_e : sSeq is js env Pp = is env { Pp with nx := fun env' => js env' Pp } := id rfl
@[simp] theorem sRet_e : sRet ia env Pp = ia env Pp.rt (fun x => Pp.ex x env) := id rfl
@[simp] theorem sRetN_e : sRetN env Pp = Pp.rt .non := id rfl
@[simp] theorem sDrop_e : sDrop ia env Pp = ia env (fun _ => Pp.nx env) (fun x => Pp.ex x env) := id rfl
@[simp] theorem sIf_e : sIf it is js env Pp = it env (fun b => if b = true then is env Pp else js env Pp) (fun x => Pp.ex x env) := id rfl
@[simp] theorem sSet_e : sSet i ix env Pp = ix env (fun s => Pp.nx (put env i s)) (fun x => Pp.ex x env) := id rfl
@[simp] theorem sPar_e : sPar i j ix iy env Pp = ix env (fun s => iy env (fun s' => Pp.nx (put (put env i s) j s')) (fun x => Pp.ex x env)) (fun x => Pp.ex x env) := id rfl
@[simp] theorem sNever_e : sNever env Pp = False := id rfl
@[simp] theorem frz_e : frz env i = fzV env i (sl env i) := by unfold frz fzV; cases sl env i <;> rfl
@[simp] theorem sFrz_e : sFrz i is env Pp = is (frz env i) Pp := id rfl
theorem owL_v : owL env i PL = owV (sl env i) PL := by
  unfold owL owV
  cases sl env i with
  | no => rfl
  | ex _ _ _ => rfl
  | im d => rfl
  | ow d => cases d <;> rfl
@[simp] theorem owL_e : owL env i PL = owV (sl env i) PL := owL_v
@[simp] theorem sApp_e : sApp i ia env Pp = owL env i fun xs => xs.length < 16777216 ∧ ia env (fun d => Pp.nx (put env i (.ow (.lst (xs ++ [d]))))) (fun x => Pp.ex x env) := id rfl
theorem sExt_v : sExt i ia env Pp = owL env i fun xs => ia env (fun d => exV d fun ys => xs.length + ys.length ≤ 16777216 ∧ Pp.nx (put env i (.ow (.lst (xs ++ ys))))) (fun x => Pp.ex x env) := by
  unfold sExt
  congr 1
  funext xs
  congr 1
  funext d
  cases d <;> rfl
@[simp] theorem sExt_e : sExt i ia env Pp = owL env i fun xs => ia env (fun d => exV d fun ys => xs.length + ys.length ≤ 16777216 ∧ Pp.nx (put env i (.ow (.lst (xs ++ ys))))) (fun x => Pp.ex x env) := sExt_v
@[simp] theorem popD_e {PQ : Dt → List Dt → Prop} : popD xs PQ (.int k) = ((-(2 ^ 63) ≤ k ∧ k < 2 ^ 63) ∧ ∃ j d, ixN xs.length k = some j ∧ xs[j]? = some d ∧ PQ d (xs.eraseIdx j)) := id rfl
@[simp] theorem sPopAt_e : sPopAt j i ia env Pp = owL env i fun xs => ia env (fun k => popD xs (fun d ys => Pp.nx (put (put env i (.ow (.lst ys))) j (.im d))) k) (fun x => Pp.ex x env) := id rfl
@[simp] theorem setD_e : setD xs d PL (.int k) = (∃ j, ixN xs.length k = some j ∧ PL (xs.set j d)) := id rfl
@[simp] theorem sSetAt_e : sSetAt i ib ia env Pp = ia env (fun d => owL env i fun xs => ib env (fun k => setD xs d (fun ys => Pp.nx (put env i (.ow (.lst ys)))) k) (fun x => Pp.ex x env)) (fun x => Pp.ex x env) := id rfl
@[simp] theorem sAug_e {f : Int → Int → Int} : sAug i f ia env Pp = agV (sl env i) fun a => ia env (fun d => asI d fun b => Pp.nx (put env i (.im (.int (f a b))))) (fun x => Pp.ex x env) := by
  unfold sAug agV
  cases sl env i with
  | no => rfl
  | ex _ _ _ => rfl
  | ow d => rfl
  | im d => cases d <;> rfl
@[simp] theorem tgN_e : tgN i d env Pp = Pp.nx (put env i (.im d)) := id rfl
@[simp] theorem tgSub_e : tgSub i ib d env Pp = owL env i fun xs => ib env (fun k => setD xs d (fun ys => Pp.nx (put env i (.ow (.lst ys)))) k) (fun x => Pp.ex x env) := id rfl
@[simp] theorem tgsNil_e : tgsNil [] env Pp = Pp.nx env := id rfl
@[simp] theorem tgsCons_e : tgsCons ig igs (d :: ds) env Pp = ig d env { Pp with nx := fun env' => igs ds env' Pp } := id rfl
@[simp] theorem sAsg_e : sAsg ia ig env Pp = ia env (fun d => ig d env Pp) (fun x => Pp.ex x env) := id rfl
@[simp] theorem sFor_e : sFor ii g body env Pp = ii env (fun ds => forD g body Pp ds env) (fun x => Pp.ex x env) := id rfl
@[simp] theorem sWhile_e : sWhile it body env Pp = ∃ Wd : Nat → List Sl → Prop, (∃ m, Wd m env) ∧ ∀ m e, Wd m e → it e (fun b => if b = true then body e { Pp with nx := fun e' => ∃ m', m' < m ∧ Wd m' e', ct := fun e' => ∃ m', m' < m ∧ Wd m' e', bk := Pp.nx } else Pp.nx e) (fun x => Pp.ex x e) := id rfl
@[simp] theorem xNil_e : xNil env PSs E = PSs [] := id rfl
@[simp] theorem xCons_e : xCons ix xl env PSs E = ix env (fun s => xl env (fun ss => PSs (s :: ss)) E) E := id rfl
@[simp] theorem putL_n : putL env [] [] = env := id rfl
@[simp] theorem putL_c {is : List Nat} : putL env (i :: is) (s :: ss) = putL (put env i s) is ss := id rfl
@[simp] theorem sMany_e : sMany is' xl env Pp = xl env (fun ss => (ss.length = is'.length ∧ ss.length ≤ 16777216) ∧ Pp.nx (putL env is' ss)) (fun x => Pp.ex x env) := id rfl
@[simp] theorem sMany3_e : sMany3 i j l xl env Pp = xl env (fun ss => ss.length = 3 ∧ Pp.nx (putL env [i, j, l] ss)) (fun x => Pp.ex x env) := id rfl
@[simp] theorem sRaise_e {x : Str} : sRaise x il env Pp = il env (fun ds => wdV ds fun wd => wd.length ≤ 1000 ∧ Pp.ex (x, [.str wd]) env) (fun x => Pp.ex x env) := by
  unfold sRaise
  congr 1
  funext ds
  rcases ds with _ | ⟨d, _ | ⟨d2, t⟩⟩
  · rfl
  · cases d <;> rfl
  · cases d <;> rfl
@[simp] theorem sTryW_e : sTryW i is env Pp = is env { Pp with ex := fun e env' => wdV e.2 fun wd => i < env'.length ∧ Pp.rt (.str wd) } := by
  unfold sTryW
  congr 2
  funext e env'
  obtain ⟨c, ds⟩ := e
  rcases ds with _ | ⟨d, _ | ⟨d2, t⟩⟩
  · rfl
  · cases d <;> rfl
  · cases d <;> rfl
@[simp] theorem sTryC_e : sTryC d is env Pp = is env { Pp with ex := fun _ _ => Pp.rt d } := id rfl
end
end DL

set_option maxRecDepth 100000
set_option maxHeartbeats 1000000
/-! DLP: sums and slices of what may be a number, a text, a tuple or a list; xs[::-1]. -/
namespace DL
open PySem L2
def addD : Dt → Dt → (Dt → Prop) → Prop
  | .int a, .int b, P => P (.int (a + b))
  | .tup xs, .tup ys, P => xs.length + ys.length ≤ 16777216 ∧ P (.tup (xs ++ ys))
  | .lst xs, .lst ys, P => xs.length + ys.length ≤ 16777216 ∧ P (.lst (xs ++ ys))
  | .str xs, .str ys, P => xs.length + ys.length ≤ 16777216 ∧ P (.str (xs ++ ys))
  | _, _, _ => False
def slD : Dt → Option Int → Option Int → (Dt → Prop) → Prop
  | .tup xs, lo, hi, P => P (.tup (cut xs lo hi))
  | .lst xs, lo, hi, P => P (.lst (cut xs lo hi))
  | _, _, _, _ => False
section
variable {xs ys : List Dt} {a b : Int} {s t : Str} {P : Dt → Prop} {lo hi : Option Int}
@[simp] theorem addD_i : addD (.int a) (.int b) P = P (.int (a + b)) := id rfl
@[simp] theorem addD_t : addD (.tup xs) (.tup ys) P = (xs.length + ys.length ≤ 16777216 ∧ P (.tup (xs ++ ys))) := id rfl
@[simp] theorem addD_l : addD (.lst xs) (.lst ys) P = (xs.length + ys.length ≤ 16777216 ∧ P (.lst (xs ++ ys))) := id rfl
@[simp] theorem addD_s : addD (.str s) (.str t) P = (s.length + t.length ≤ 16777216 ∧ P (.str (s ++ t))) := id rfl
@[simp] theorem slD_t : slD (.tup xs) lo hi P = P (.tup (cut xs lo hi)) := id rfl
@[simp] theorem slD_l : slD (.lst xs) lo hi P = P (.lst (cut xs lo hi)) := id rfl
end
section
variable {K : Fr} {r r' : R2} {f f' h : Dt → Dt → (Dt → Prop) → Prop}
theorem opr_or {X : Cx} {o : Value → Value → Sem Value} (h1 : OpR X o r) (h2 : OpR X o r') : OpR X o fun x y H Q => r x y H Q ∨ r' x y H Q := by
  intro pins s σ H x y v u Q I rx ry q
  rcases q with q | q
  · exact h1 pins s σ H x y v u Q I rx ry q
  · exact h2 pins s σ H x y v u Q I rx ry q
theorem ops_or (s1 : OpS K r f) (s2 : OpS K r' f') (hf : ∀ x y P, h x y P → f x y P ∨ f' x y P) : OpS K (fun x y H Q => r x y H Q ∨ r' x y H Q) h := by
  intro dr I H x y v u P p hx hy q Q k
  rcases hf x y P q with q | q
  · exact .inl (s1 dr I H x y v u P p hx hy q Q k)
  · exact .inr (s2 dr I H x y v u P p hx hy q Q k)
theorem OpN.s (s : OpN K r f) : OpS K r f := fun dr I H x y v u P p hx hy q Q k => s dr I H x y v u P p hx hy q Q fun d w H' hP k' n => k d w H' hP k' n.rp
def or3 (f f' h : Dt → Dt → (Dt → Prop) → Prop) : Dt → Dt → (Dt → Prop) → Prop := fun x y P => f x y P ∨ f' x y P ∨ h x y P
end
section
variable {xr : XR} {X : Cx} {W : WX} {a b : Expr} {ia ib : IE} {pos : Pos} {i1 i2 : IP}
theorem le_addD (ha : LO xr X W a ia) (hb : LO xr X W b ib) : LE xr X W (.BinOp a .Add b pos) (eOp addD ia ib) :=
  le_bin (opr_or op_add (opr_or op_catF (opr_or op_add_str op_cat))) (ops_or ops_add (ops_or (h := fun x y P => catT x y P ∨ catS x y P ∨ catL x y P) ops_catT (ops_or (h := fun x y P => catS x y P ∨ catL x y P) ops_catS opn_cat.s fun _ _ _ h => h) fun _ _ _ h => h) fun x y P h => by
    unfold addD at h
    split at h
    · exact .inl h
    · exact .inr (.inl h)
    · exact .inr (.inr (.inr h))
    · exact .inr (.inr (.inl h))
    · exact h.elim) ha hb
theorem sls_any {K : Fr} : SlS K (fun x lo hi H Q => rSlL K x lo hi H Q ∨ rSlF K x lo hi H Q) slD := by
  intro dr I H x v lo hi P p hx h Q q
  unfold slD at h
  split at h
  · exact .inr (sls_tup dr I H _ v _ _ P p hx h Q q)
  · exact .inl (sln_list dr I H _ v _ _ P p hx h Q fun d w H' hP k n => q d w H' hP k n.rp)
  · exact h.elim
theorem le_slD {lo hi : Option Expr} {p2 : Pos} (ha : LO xr X W a ia) (h1 : LP xr X W lo i1) (h2 : LP xr X W hi i2) : LE xr X W (.Subscript a (.Slice lo hi none p2) pos) (eSl slD ia i1 i2) :=
  let ⟨_, p, s⟩ := ha; let ⟨_, p1, s1⟩ := h1; let ⟨_, p2, s2⟩ := h2; ⟨_, pe_slice (SlR.or sl_list sl_tupF) p p1 p2, snd_sl sls_any s s1 s2⟩
end
/-! ### xs[::-1] of a list -/
def revD : Dt → (Dt → Prop) → Prop
  | .lst xs, P => P (.lst xs.reverse)
  | _, _ => False
@[simp] theorem revD_l {xs : List Dt} {P : Dt → Prop} : revD (.lst xs) P = P (.lst xs.reverse) := id rfl
section
variable {xr : XR} {X : Cx} {W : WX} {a : Expr} {ia : IE} {pos : Pos}
theorem ln_rev {k : Nat} {p1 p2 p3 : Pos} (ha : LO xr X W a ia) : LN xr X W (.Subscript a (.Slice none none (some (.UnaryOp .USub (.Constant (.int 1) k p1) p2)) p3) pos) (eUn revD ia) := by
  obtain ⟨_, p, s⟩ := ha
  refine ⟨_, pe_revL p, fun dr env σ I H P E pr ev hi o Q q => ?_⟩
  refine s dr env σ I H _ E pr ev hi o _ fun x v H1 hx k1 r1 => ?_
  have p1 := pr.step k1
  unfold revD at hx
  split at hx
  · obtain ⟨a, vs, rfl, h1, h2⟩ := r1.lst p1.sub
    refine ⟨a, vs, rfl, SqL.of h1, fun l hl => ?_⟩
    have k2 := Kp.new (o := .lst vs.reverse) p1 hl
    exact q _ _ _ hx (k1.trans k2) ((new_lst p1 hl h2.reverse).back pr k1 k2)
  · exact hx.elim
end
end DL

set_option maxRecDepth 100000
set_option maxHeartbeats 1000000
/-! DLH: try: .. except x as n: any suite that reads n.word. -/
namespace DL
open PySem L2 DLX
def exS (a : Addr) (d : Option Addr) : Sl → (Dt → Prop) → Prop
  | .ex a' dd wd, P => a' = a ∧ d = some dd ∧ P (.str wd)
  | _, _ => False
/-- n.word in the suite -/
def eXw (a : Addr) (d : Option Addr) (i : Nat) : IE := fun env P _ => exS a d (sl env i) P
def sTryH (i : Nat) (is : IS) (hs : Addr → Option Addr → IS) : IS := fun env Pp => is env { Pp with ex := fun e env' => match e.2 with
  | [.str wd] => i < env'.length ∧ ∀ a dd, hs a (some dd) (put env' i (.ex a dd wd)) { nx := fun e2 => Pp.nx (put e2 i .no), rt := Pp.rt, bk := fun e2 => Pp.bk (put e2 i .no), ct := fun e2 => Pp.ct (put e2 i .no) }
  | _ => False }
section
variable {K : Fr} {xr : XR} {W Wout : WX} {is : IS} {tb : WX → TS} {dr : Dr} {J B Gh : Hp} {env : List Sl} {σ : L2.St} {I H : Hp} {i : Nat}
theorem snd_xw {C a : Addr} {d : Option Addr} : Snd K xr W (tXf a (.ref C) d C "word" (tVar i)) (eXw a d i) := fun dr env σ I H P E p ev hi o Q q => by
  unfold eXw at hi
  have hlt : sl env i ≠ .no := fun z => by rw [z] at hi; exact hi.elim
  have r := ev.at_ i (sl_lt hlt)
  cases hs : sl env i with
  | ex a' dd wd =>
    rw [hs] at hi r
    obtain ⟨rfl, rfl, hP⟩ := hi
    obtain ⟨e, n, h1⟩ := r
    exact ⟨.ref a', join_some e, rfl, rfl, dd, _, .str wd, rfl, h1, rfl, q _ _ H hP Kp.refl (.str wd)⟩
  | _ => rw [hs] at hi; exact hi.elim
theorem Stt.setO {x : Option V} {s1 : Sl} (s : Stt K dr J B Gh env σ I H) (h : SlR K dr I H x s1) (hn : ∀ d, s1 ≠ .ow d) : Stt K dr J B Gh (DL.put env i s1) (σ.set i x) I H := by
  have get : ∀ {j d} {y : Option (Option V)}, sl (DL.put env i s1) j = .ow d → (σ.set i x)[j]? = y → sl env j = .ow d ∧ σ[j]? = y := fun {j d y} e1 e2 => by
    rw [sl_put] at e1
    by_cases hij : i = j
    · by_cases hl : j < env.length
      · rw [if_pos ⟨hij, hl⟩] at e1; exact (hn d e1).elim
      · rw [if_neg (fun z => hl z.2)] at e1
        exact (hl (sl_lt (by rw [e1]; simp))).elim
    · rw [if_neg (fun z => hij z.1)] at e1
      rw [List.getElem?_set_ne hij] at e2
      exact ⟨e1, e2⟩
  refine ⟨s.sub, s.eq, s.pre, s.pre0, s.kp, ⟨by simpa [put_length] using s.ev.len, fun j hj => ?_, fun j k d e p a1 a2 a3 a4 => ?_⟩, fun j d p a b => ?_, s.gh⟩
  · rw [put_length] at hj
    rw [sl_put]
    by_cases hij : i = j
    · rw [if_pos ⟨hij, hj⟩]
      subst hij
      rw [List.getElem?_set_self (by rw [s.ev.len]; exact hj)]
      exact h
    · rw [if_neg (fun z => hij z.1), List.getElem?_set_ne hij]
      exact s.ev.at_ j hj
  · obtain ⟨b1, b3⟩ := get a1 a3
    obtain ⟨b2, b4⟩ := get a2 a4
    exact s.ev.sep j k d e p b1 b2 b3 b4
  · obtain ⟨b1, b2⟩ := get a b
    exact s.own j d p b1 b2
theorem sndS_tryH {C : Addr} {x : Str} {th : Addr → Option Addr → TS} {hs : Addr → Option Addr → IS} (hx : ∀ e c d H, xr e c d H → XM C x e c d H) (hm : PySem.W.exmOne K (.ref C) (.ref C) = some true) (hb : ∀ W', SndS K xr W' (tb W') is) (hh : ∀ a d, SndS K xr W (th a d) (hs a d)) :
    SndS K xr W (fun D σ H => tb (wAs K (.ref C) i (fun a cls d D σ H => cls = .ref C ∧ th a d D σ H) Wout D) D σ H) (sTryH i is hs) := fun dr J B Gh env σ I H Pp D s h o =>
  hb _ dr J B Gh env σ I H _ D s h ⟨o.nx, o.bk, o.ct, o.rt, o.rn, fun e c d env' σ' I' H' he s' hr => by
    obtain ⟨wd, dx, rfl, rfl, rfl, hd⟩ := hx _ _ _ _ hr
    obtain ⟨hl, hP⟩ := he
    have nd : ¬ IsDr dr dx := fun ⟨q, e1, e2⟩ => by
      obtain ⟨j, cs, h1, h2, _⟩ := s'.pre.dro q e1
      rcases e2 with rfl | rfl
      · rw [h1] at hd; cases hd
      · rw [h2] at hd; cases hd
    refine ⟨true, hm, fun _ a ha => ⟨rfl, ?_⟩, fun z => by cases z⟩
    exact hh a (some dx) dr J B Gh _ _ I' H' _ _ (s'.setO (i := i) (x := some (.ref a)) (s1 := .ex a dx wd) ⟨rfl, nd, hd⟩ (fun d z => nomatch z)) (hP a dx)
      ⟨fun env2 σ2 I2 H2 hn s2 => o.nx _ _ _ _ hn (s2.setO trivial (fun d z => nomatch z)), fun env2 σ2 I2 H2 hn s2 => o.bk _ _ _ _ hn (s2.setO trivial (fun d z => nomatch z)), fun env2 σ2 I2 H2 hn s2 => o.ct _ _ _ _ hn (s2.setO trivial (fun d z => nomatch z)), o.rt, fun _ _ _ z => z.elim, fun _ _ _ _ _ _ _ z => z.elim⟩⟩
end
section
variable {xr : XR} {X : Cx} {W : WX} {C fI cda cc : Addr} {fd : FuncData} {x qual n : Str} {st : Stmt} {is : IS} {body suite : List Stmt} {b₀ : Stmt} {np p1 p2 p3 pos pos' : Pos}
theorem le_xw (i : Nat) {a : Addr} {oe : Obj} {d : Option Addr} {pn : List (Addr × Obj)} (Z : MissF X.prog X.K X.mg x qual st C fI cda cc fd) (hz : Zc (.ref C) d oe) (hf : ∃ vs, oe.data = .fields vs)
    (hi : X.N[i]? = some n := by rfl) (hv : Vis X.env.scope n := by first | exact Or.inl rfl | exact Or.inr (Or.inl rfl) | exact Or.inr (Or.inr rfl))
    (hd : (n == ("__debug__" : Str)) = false := by decide) (hcd : (n == ("__classdict__" : Str)) = false := by decide) : LE xr (X.suite a ((a, oe) :: pn)) W (.Attribute (.Name n p1) "word" p2) (eXw a d i) :=
  ⟨_, pe_xf Z.xf Z.wd hz hf (pe_var hi hv hd hcd), snd_xw⟩
theorem ls_tryH (i : Nat) {hs' : Addr → Option Addr → IS} (hs : X.stack = X.env :: X.outer) (hf : X.env.frame = some X.env.locals) (hN : X.N.Nodup) (tk : Takes X W) (Z : MissF X.prog X.K X.mg x qual st C fI cda cc fd) (hm : PySem.W.exmOne X.K (.ref C) (.ref C) = some true)
    (hx : ∀ e c d H, xr e c d H → XM C x e c d H) (hg : Gl X x)
    (hb : ∀ (W' : WX) (pn : List (Addr × Obj)) (xe : Value → Shared → Prop), Takes (X.tr pn xe) W' → PassesOwn (model X.prog X.w) X.A X.env xe → ∃ t, PSs (X.tr pn xe) body t ∧ SndS X.K xr W' t is)
    (hh : ∀ (a : Addr) (d : Option Addr) (oe : Obj) (pn : List (Addr × Obj)), Zc (.ref C) d oe → (∃ vs, oe.data = .fields vs) → LSs xr (X.suite a ((a, oe) :: pn)) W (b₀ :: suite) (hs' a d))
    (hi : X.N[i]? = some n := by rfl) (hln : X.env.kindOf n = some .local := by rfl) (hdb : (x == ("__debug__" : Str)) = false := by decide) :
    LS xr X W (.Try body [.ExceptHandler (some (.Name x np)) (some n) (b₀ :: suite) pos'] [] [] pos) (sTryH i is hs') := by
  obtain ⟨tb, htb⟩ := one_body hb
  refine ⟨_, ps_try_as (ts := fun a cls d D σ H => cls = .ref C ∧ ∀ (oe : Obj) (pn : List (Addr × Obj)) (hz : Zc (.ref C) d oe) (hf : ∃ vs, oe.data = .fields vs), Classical.choose (hh a d oe pn hz hf) D σ H) hs hf hN hi hln ⟨hg, hdb, .inl Z.g⟩ tk (fun W' pn xe h1 h2 => (htb W').1 pn xe h1 h2)
    (fun a oe cls d pn hz hfl => ⟨fun pins s σ H D I h => ?_⟩), sndS_tryH hx hm (fun W' => (htb W').2) fun a d dr J B Gh env σ I H Pp D s h o oe pn hz hfl => ?_⟩
  · obtain ⟨rfl, h⟩ := h
    exact (Classical.choose_spec (hh a d oe pn hz hfl)).1.run pins s σ H D I (h oe pn hz hfl)
  · exact (Classical.choose_spec (hh a d oe pn hz hfl)).2 dr J B Gh env σ I H Pp D s h o
end
end DL

set_option maxRecDepth 100000
set_option maxHeartbeats 1000000
/-! DLN: more words: except suites (rules), ranges with a step, list(range(..)), len(set(..)). -/
namespace DL
open PySem L2 DLX PyProof.Rows
section
variable {a dd : Addr} {d : Option Addr} {i : Nat} {wd : Str} {P : Dt → Prop} {E : Xc → Prop} {env : List Sl} {is : IS} {hs : Addr → Option Addr → IS} {Pp : Po}
@[simp] theorem exS_e : exS a (some dd) (.ex a dd wd) P = P (.str wd) := propext ⟨fun h => h.2.2, fun h => ⟨rfl, rfl, h⟩⟩
@[simp] theorem eXw_e : eXw a d i env P E = exS a d (sl env i) P := id rfl
@[simp] theorem sTryH_e : sTryH i is hs env Pp = is env { Pp with ex := fun e env' => wdV e.2 fun wd => i < env'.length ∧ ∀ a dd, hs a (some dd) (put env' i (.ex a dd wd)) { nx := fun e2 => Pp.nx (put e2 i .no), rt := Pp.rt, bk := fun e2 => Pp.bk (put e2 i .no), ct := fun e2 => Pp.ct (put e2 i .no) } } := by
  unfold sTryH
  congr 2
  funext e env'
  obtain ⟨c, ds⟩ := e
  rcases ds with _ | ⟨d, _ | ⟨d2, t⟩⟩
  · rfl
  · cases d <;> rfl
  · cases d <;> rfl
end

/-! ### range(i, j, k), k above 0 -/
def rngN (i j k : Int) : Nat := if i < j then ((j - i - 1) / k + 1).toNat else 0
theorem RgC.pos {i j k : Int} (hk : 0 < k) (hk2 : k < 1073741824) (ha : -(2 ^ 60) ≤ i) (ha' : i < 2 ^ 60) (hb : -(2 ^ 60) ≤ j) (hb' : j < 2 ^ 60) : RgC i j k (rngN i j k) := by
  have hs : Builtin.Range.rangeSize i j k = (rngN i j k : Int) := by
    unfold Builtin.Range.rangeSize rngN
    rw [if_pos hk]
    split
    · have : 0 ≤ (j - i - 1) / k := Int.ediv_nonneg (by omega) (by omega)
      omega
    · rfl
  have hn : (rngN i j k : Int) < 2 ^ 62 := by
    unfold rngN
    split
    · have h0 : 0 ≤ (j - i - 1) / k := Int.ediv_nonneg (by omega) (by omega)
      have h1 : (j - i - 1) / k ≤ j - i - 1 := Int.ediv_le_self _ (by omega)
      omega
    · decide
  refine ⟨by omega, by omega, ?_, hs⟩
  unfold Builtin.Range.small
  rw [hs, if_pos hk]
  simp only [Builtin.Range.rangeFitsLong, Bool.and_eq_true, Bool.or_eq_true, decide_eq_true_eq, beq_iff_eq]
  omega
def g3P (f : Int → Int → Int → Prop) : List Dt → Prop
  | [.int i, .int j, .int k] => (0 < k ∧ k < 1073741824 ∧ -(2 ^ 60) ≤ i ∧ i < 2 ^ 60 ∧ -(2 ^ 60) ≤ j ∧ j < 2 ^ 60) ∧ f i j k
  | _ => False
@[simp] theorem g3P_e {i j k : Int} {f : Int → Int → Int → Prop} : g3P f [.int i, .int j, .int k] = ((0 < k ∧ k < 1073741824 ∧ -(2 ^ 60) ≤ i ∧ i < 2 ^ 60 ∧ -(2 ^ 60) ≤ j ∧ j < 2 ^ 60) ∧ f i j k) := id rfl
def iRangeP (il : IA) : II := fun env P E => il env (g3P fun i j k => P (rng i k (rngN i j k))) E
@[simp] theorem iRangeP_e {il : IA} {env : List Sl} {P : List Dt → Prop} {E : Xc → Prop} : iRangeP il env P E = il env (g3P fun i j k => P (rng i k (rngN i j k))) E := id rfl
theorem sndI_rP {K : Fr} {xr : XR} {W : WX} {tl : TA} {il : IA} (hl : SndA K xr W tl il) : SndI K xr W (iRng3 tl) (iRangeP il) := fun dr env σ I H P E p ev hi o R q =>
  hl dr env σ I H _ E p ev hi o _ fun ds vs H1 hx k1 r1 => by
    unfold g3P at hx
    split at hx
    · cases r1 with
      | cons a b =>
        cases a
        cases b with
        | cons a b =>
          cases a
          cases b with
          | cons a b =>
            cases a; cases b
            obtain ⟨⟨h1, h2, h3, h4, h5, h6⟩, h7⟩ := hx
            exact ⟨_, _, _, _, rfl, RgC.pos h1 h2 h3 h4 h5 h6, q _ _ H1 h7 k1 iter_rngC⟩
    · exact hx.elim
section
variable {xr : XR} {X : Cx} {W : WX} {e a b c tg : Expr} {es : List Expr} {ia ib ic : IE} {il : IA} {ii : II} {pos p p2 pos2 : Pos}
theorem li_rP (hg : Gl X "range") (hm : X.mg "range" = none) (ha : LA xr X W [a, b, c] il) (hs : starEach [a, b, c] X.env = (false, eval a X.env) :: starEach [b, c] X.env := by rfl) (hpl : (backTo pos (starEach [b, c] X.env)).any (·.1) = false := by rfl) : LI xr X W tg (.Call (.Name "range" p) [a, b, c] [] pos) (iRangeP il) :=
  let ⟨_, q, s⟩ := ha; ⟨_, pi_range3 hg hm q hs hpl, sndI_rP s⟩
end

/-! ### list(range(..)) -/
def rgC (i c : Int) (n : Nat) : List V := (List.range n).map fun k => V.int (i + (k : Nat) * c)
theorem vals_rgC {i c : Int} {n : Nat} {acc : Array Value} (h : ItemsOf (fun k v => ∃ t, v = .int (i + k * c) t) acc n) : Vals (rgC i c n) acc.toList := by
  have e : acc.toList.length = n := by rw [Array.length_toList]; exact h.1
  unfold rgC
  rw [← e]
  refine vals_of_get acc.toList _ fun j u hj => ?_
  obtain ⟨t, rfl⟩ := h.2 j u (by rw [← hj, Array.getElem?_toList])
  exact ⟨t, rfl⟩
theorem rpl_rgC {K : Fr} {dr : Dr} {I : Hp} {i c : Int} {n : Nat} : RpL K dr I (rgC i c n) (rng i c n) := by
  unfold rgC rng
  generalize List.range n = l
  induction l with
  | nil => exact .nil
  | cons k l ih => exact .cons (.int _) ih
theorem rpl_rgV {K : Fr} {dr : Dr} {I : Hp} {i j : Int} : RpL K dr I (rgV i j) (rng i 1 (j - i).toNat) := by
  unfold rgV rng
  generalize List.range (j - i).toNat = l
  induction l with
  | nil => exact .nil
  | cons k l ih => exact .cons (by show Rp _ _ _ (V.int _) (Dt.int (_ + _ * 1)); rw [Int.mul_one]; exact .int _) ih
def lrg1 : Dt → (Dt → Prop) → Prop
  | .int n, P => RgOk 0 n ∧ P (.lst (rng 0 1 n.toNat))
  | _, _ => False
def lrg2 : Dt → Dt → (Dt → Prop) → Prop
  | .int i, .int j, P => RgOk i j ∧ P (.lst (rng i 1 (j - i).toNat))
  | _, _, _ => False
@[simp] theorem lrg1_e {n : Int} {P : Dt → Prop} : lrg1 (.int n) P = (RgOk 0 n ∧ P (.lst (rng 0 1 n.toNat))) := id rfl
@[simp] theorem lrg2_e {i j : Int} {P : Dt → Prop} : lrg2 (.int i) (.int j) P = (RgOk i j ∧ P (.lst (rng i 1 (j - i).toNat))) := id rfl
def eLRg3 (il : IA) : IE := fun env P E => il env (g3P fun i j k => rngN i j k ≤ 16777216 ∧ P (.lst (rng i k (rngN i j k)))) E
@[simp] theorem eLRg3_e {il : IA} {env : List Sl} {P : Dt → Prop} {E : Xc → Prop} : eLRg3 il env P E = il env (g3P fun i j k => rngN i j k ≤ 16777216 ∧ P (.lst (rng i k (rngN i j k)))) E := id rfl
section
variable {X : Cx} {e a b c : Expr} {ta : TA} {p pos p2 pos2 : Pos}
def tLRg3 (ta : TA) : TE := fun σ H Q => ta σ H fun vs H1 => ∃ (i j c : Int) (n : Nat), vs = [.int i, .int j, .int c] ∧ RgC i j c n ∧ n ≤ 2 ^ 24 ∧ ∀ q, H1 q = none → Q (.ref q) (upd H1 q (.lst (rgC i c n)))
theorem pe_listRg3 (hc : X.calm = true) (hg : Gl X "list") (hm : X.mg "list" = none) (hg2 : Gl X "range") (hm2 : X.mg "range" = none) (ha : PA X [a, b, c] ta)
    (hs : starEach [a, b, c] X.env = (false, eval a X.env) :: starEach [b, c] X.env := by rfl) (hpl : (backTo pos2 (starEach [b, c] X.env)).any (·.1) = false := by rfl)
    (na : starEach [Expr.Call (.Name "range" p2) [a, b, c] [] pos2] X.env = (false, eval (Expr.Call (.Name "range" p2) [a, b, c] [] pos2) X.env) :: starEach [] X.env := by rfl) :
    PE X (.Call (.Name "list" p) [.Call (.Name "range" p2) [a, b, c] [] pos2] [] pos) (tLRg3 ta) := by
  refine ⟨fun pins s σ H Q I h => ?_⟩
  have he : wpAny (model X.prog X.w) X.A (eval (Expr.Call (.Name "range" p2) [a, b, c] [] pos2) X.env) (fun x s' => ∃ r i j c t u v n H', x = .ref r ∧ IsRange s'.heap r i j c t u v ∧ Inv X pins σ H' s' ∧ RgC i j c n ∧ n ≤ 2 ^ 24 ∧ ∀ q, H' q = none → Q (.ref q) (upd H' q (.lst (rgC i c n)))) X.xe s := by
    refine Call_ (ld_blt I hg2 hm2 boot_range (PyProof.Rows.callWith_type1 (thn (ha.run pos2 pins s σ H _ I h) fun us s1 ⟨vs, H1, I1, r1, q1⟩ => ?_) hs hpl))
    obtain ⟨i, j, k, n, e, ⟨c0, c1, c2, c3⟩, q⟩ := q1
    subst e
    cases r1 with
    | cons r rr =>
      cases rr with
      | cons r' rr =>
        cases rr with
        | cons r'' rr =>
          cases rr
          obtain ⟨t, rfl⟩ := r
          obtain ⟨t', rfl⟩ := r'
          obtain ⟨t'', rfl⟩ := r''
          refine call_range_3 c0 ?_ (.inl (PyProof.noPylong_small c1))
          exact ⟨_, i, j, k, _, _, _, n, H1, rfl, IsRange.new .., I1.kept (t' := s1.toks) fun b o e => Heap.get?_push_of_some _ e, ⟨c0, c1, c2, c3⟩, q⟩
  refine Call_ (ld_blt I hg hm boot_list (PyProof.Rows.callWith_type1 (args_cons (thn he fun x s1 ⟨r, i, j, k, t, u, v, n, H1, ex, hr, I1, ok, hn, q⟩ => args_nil ?_) na) na))
  subst ex
  refine call_list_range (n := n) (I1.ok.hd hc) hr ok.2.2.1 ok.2.2.2 hn fun h' tk acc c' hk e' hi => ?_
  have hl : (rgC i k n).length = n := by unfold rgC; rw [List.length_map, List.length_range]
  refine ⟨.ref s1.heap.objs.size, upd H1 s1.heap.objs.size (.lst (rgC i k n)), I1.laid hk (Nat.le_refl _) (show ObjOk X.prog X.w _ _ _ (.lst (rgC i k n)) from ⟨?_, acc.toList, c', vals_rgC hi, ?_⟩), rfl, q _ (I1.hok.fresh (Nat.le_refl _))⟩
  · rw [hl, sizeLine_eq]; omega
  · rw [Array.toArray_toList]; exact e'
end
section
variable {xr : XR} {X : Cx} {W : WX} {e a b c : Expr} {ia ib : IE} {il : IA} {p pos p2 pos2 : Pos}
theorem ln_lrg1 (hc : X.calm = true) (hg : Gl X "list") (hm : X.mg "list" = none) (hg2 : Gl X "range") (hm2 : X.mg "range" = none) (ha : LE xr X W a ia) (hs : starEach [a] X.env = (false, eval a X.env) :: starEach [] X.env := by rfl)
    (na : starEach [Expr.Call (.Name "range" p2) [a] [] pos2] X.env = (false, eval (Expr.Call (.Name "range" p2) [a] [] pos2) X.env) :: starEach [] X.env := by rfl) :
    LN xr X W (.Call (.Name "list" p) [.Call (.Name "range" p2) [a] [] pos2] [] pos) (eUn lrg1 ia) := by
  obtain ⟨_, q, s⟩ := ha
  refine ⟨_, pe_listRg hc hg hm (prg_1 hg2 hm2 q hs) na, fun dr env σ I H P E pr ev hi o Q q => ?_⟩
  refine s dr env σ I H _ E pr ev hi o _ fun x v H1 hx k1 r1 => ?_
  have p1 := pr.step k1
  unfold lrg1 at hx
  split at hx
  · rename_i n
    cases r1
    refine ⟨_, rfl, hx.1, fun l hl => ?_⟩
    have k2 := Kp.new (o := .lst (rgV 0 n)) p1 hl
    have z := rpl_rgV (K := X.K) (dr := dr) (I := ext I H H1) (i := 0) (j := n)
    simp only [Int.sub_zero] at z
    exact q _ _ _ hx.2 (k1.trans k2) ((new_lst p1 hl z).back pr k1 k2)
  · exact hx.elim
theorem ln_lrg2 (hc : X.calm = true) (hg : Gl X "list") (hm : X.mg "list" = none) (hg2 : Gl X "range") (hm2 : X.mg "range" = none) (ha : LE xr X W a ia) (hb : LE xr X W b ib) (hs : starEach [a, b] X.env = (false, eval a X.env) :: starEach [b] X.env := by rfl)
    (hs2 : starEach [b] X.env = (false, eval b X.env) :: starEach [] X.env := by rfl) (hpl : (backTo pos2 (starEach [b] X.env)).any (·.1) = false := by rfl)
    (na : starEach [Expr.Call (.Name "range" p2) [a, b] [] pos2] X.env = (false, eval (Expr.Call (.Name "range" p2) [a, b] [] pos2) X.env) :: starEach [] X.env := by rfl) :
    LN xr X W (.Call (.Name "list" p) [.Call (.Name "range" p2) [a, b] [] pos2] [] pos) (eOp lrg2 ia ib) := by
  obtain ⟨_, q, s⟩ := ha
  obtain ⟨_, q', s'⟩ := hb
  refine ⟨_, pe_listRg hc hg hm (prg_2 hg2 hm2 q q' hs hs2 hpl) na, fun dr env σ I H P E pr ev hi o Q q => ?_⟩
  refine twoE s s' pr ev hi o (fun v u H2 => ∃ i j, v = .int i ∧ u = .int j ∧ RgOk i j ∧ ∀ q, H2 q = none → Q (.ref q) (upd H2 q (.lst (rgV i j)))) fun x y v u H2 hx k p2 r1 r2 => ?_
  unfold lrg2 at hx
  split at hx
  · rename_i i j
    cases r1
    cases r2
    refine ⟨_, _, rfl, rfl, hx.1, fun l hl => ?_⟩
    have k2 := Kp.new (o := .lst (rgV i j)) p2 hl
    exact q _ _ _ hx.2 (k.trans k2) ((new_lst p2 hl rpl_rgV).back pr k k2)
  · exact hx.elim
theorem ln_lrg3 (hc : X.calm = true) (hg : Gl X "list") (hm : X.mg "list" = none) (hg2 : Gl X "range") (hm2 : X.mg "range" = none) (ha : LA xr X W [a, b, c] il)
    (hs : starEach [a, b, c] X.env = (false, eval a X.env) :: starEach [b, c] X.env := by rfl) (hpl : (backTo pos2 (starEach [b, c] X.env)).any (·.1) = false := by rfl)
    (na : starEach [Expr.Call (.Name "range" p2) [a, b, c] [] pos2] X.env = (false, eval (Expr.Call (.Name "range" p2) [a, b, c] [] pos2) X.env) :: starEach [] X.env := by rfl) :
    LN xr X W (.Call (.Name "list" p) [.Call (.Name "range" p2) [a, b, c] [] pos2] [] pos) (eLRg3 il) := by
  obtain ⟨_, q, s⟩ := ha
  refine ⟨_, pe_listRg3 hc hg hm hg2 hm2 q hs hpl na, fun dr env σ I H P E pr ev hi o Q q => ?_⟩
  refine s dr env σ I H _ E pr ev hi o _ fun ds vs H1 hx k1 r1 => ?_
  have p1 := pr.step k1
  unfold g3P at hx
  split at hx
  · rename_i i j k
    cases r1 with
    | cons a b =>
      cases a
      cases b with
      | cons a b =>
        cases a
        cases b with
        | cons a b =>
          cases a; cases b
          obtain ⟨⟨h1, h2, h3, h4, h5, h6⟩, h7, h8⟩ := hx
          refine ⟨i, j, k, _, rfl, RgC.pos h1 h2 h3 h4 h5 h6, by omega, fun l hl => ?_⟩
          have k2 := Kp.new (o := .lst (rgC i k (rngN i j k))) p1 hl
          exact q _ _ _ h8 (k1.trans k2) ((new_lst p1 hl rpl_rgC).back pr k1 k2)
  · exact hx.elim
end

/-! ### len(set(xs)), xs a list of tuples of ints -/
def itup (ns : List Int) : Dt := .tup (ns.map Dt.int)
def lenSetT : Dt → (Dt → Prop) → Prop
  | .lst xs, P => ∃ rows : List (List Int), xs = rows.map itup ∧ rows.length < 64 ∧ ∀ L : List (List Int), L.Nodup → (∀ x, x ∈ L ↔ x ∈ rows) → P (.int L.length)
  | _, _ => False
@[simp] theorem lenSetT_e {xs : List Dt} {P : Dt → Prop} : lenSetT (.lst xs) P = ∃ rows : List (List Int), xs = rows.map itup ∧ rows.length < 64 ∧ ∀ L : List (List Int), L.Nodup → (∀ x, x ∈ L ↔ x ∈ rows) → P (.int L.length) := id rfl
section
variable {X : Cx} {a : Expr} {ta : TE} {p pos p2 pos2 : Pos}
def tLenSetT (K : PySem.W.Frag) (ta : TE) : TE := fun σ H Q => ta σ H fun x H1 => ∃ (l : Addr) (ks : List (Addr × List Int)), x = V.ref l ∧ SqL K H1 l (ks.map fun p => V.ref p.1) ∧ (∀ p ∈ ks, SqT K H1 p.1 (p.2.map V.int)) ∧ ks.length < 64 ∧
  ∀ L : List (List Int), L.Nodup → (∀ x, x ∈ L ↔ x ∈ ks.map (·.2)) → Q (.int L.length) H1
theorem pe_lenSetT (hc : X.calm = true) (hu : X.A.units + 64 < cLine) (hg : Gl X "len") (hm : X.mg "len" = none) (hg2 : Gl X "set") (hm2 : X.mg "set" = none) (ha : PE X a ta)
    (na : starEach [a] X.env = (false, eval a X.env) :: starEach [] X.env := by rfl) : PE X (.Call (.Name "len" p) [.Call (.Name "set" p2) [a] [] pos2] [] pos) (tLenSetT X.K ta) := by
  refine ⟨fun pins s σ H Q I h => ?_⟩
  refine Call_ (ld_blt I hg hm PySem.boot_len ?_)
  refine PyProof.Rows.callWith_builtin1 (PyProof.Rows.args_cons ?_ rfl) rfl rfl
  refine Call_ (ld_blt I hg2 hm2 PyProof.Rows.boot_set ?_)
  refine PyProof.Rows.callWith_type1 (PyProof.Rows.args_cons (thn (ha.run pins s σ H _ I h) fun v s1 ⟨x, H1, I1, r1, q1⟩ => PyProof.Rows.args_nil ?_) na) na rfl
  obtain ⟨l, ks, rfl, hl, hk, hf, q⟩ := q1
  cases r1
  obtain ⟨its, rv, pl, hz⟩ := I1.list hl
  refine call_set_tups (P := X.prog) (w := X.w) ks (I1.ok.hd hc) pl.isList (by simpa using refs_of_vals rv) (fun p hp => I1.isT (hk p hp)) hf (by omega) fun h' tk L es ep t R g k => ?_
  refine PyProof.Rows.args_nil ?_
  obtain ⟨o, ho, hex, hd⟩ := R.ob
  have I2 : Inv X pins σ H1 { s1 with heap := h', toks := tk } := I1.kept k
  have hsz : es.size = L.length := by
    have h := congrArg List.length R.rows
    unfold rowsOf at h
    rw [Array.length_toList, List.length_map] at h
    exact h
  have hfew := R.few
  have hfit : t.fits es.size = true := SetTR.fits (s := { s1 with heap := h', toks := tk }) R
  refine call_len_set ho hex hd hfit (by rw [hsz] <;> omega) ⟨.int L.length, H1, I2.tok _, ⟨_, by rw [hsz]⟩, ?_⟩
  have hq := q (L.map (·.2)) R.nd fun x => ⟨fun hx => ?_, fun hx => ?_⟩
  · rw [List.length_map] at hq; exact hq
  · obtain ⟨p, hp, rfl⟩ := List.mem_map.mp hx
    exact List.mem_map.mpr ⟨p, List.mem_of_mem_take (g.sub p hp), rfl⟩
  · obtain ⟨p, hp, rfl⟩ := List.mem_map.mp hx
    exact g.all p (by rw [List.take_length]; exact hp)
end
section
variable {K : Fr} {dr : Dr} {H I : Hp}
theorem rpl_itup (s : Same I H) : ∀ {rows : List (List Int)} {vs : List V}, RpL K dr I vs (rows.map itup) → ∃ ks : List (Addr × List Int), vs = ks.map (fun p => V.ref p.1) ∧ ks.map (·.2) = rows ∧ ∀ p ∈ ks, SqT K H p.1 (p.2.map V.int)
  | [], _, h => by cases h; exact ⟨[], rfl, rfl, by simp⟩
  | r :: rows, _, h => by
    cases h with
    | cons h1 h2 =>
      obtain ⟨ks, rfl, e, hk⟩ := rpl_itup s h2
      unfold itup at h1
      cases h1 with
      | @tup a vs _ ha _ hr =>
        obtain rfl := hr.ints
        refine ⟨(a, r) :: ks, rfl, by simp [e], fun p hp => ?_⟩
        rcases List.mem_cons.mp hp with rfl | hp
        · exact same_seqT s ha
        · exact hk p hp
end
section
variable {xr : XR} {X : Cx} {W : WX} {a : Expr} {ia : IE} {p pos p2 pos2 : Pos}
theorem le_lenSetT (hc : X.calm = true) (hu : X.A.units + 64 < cLine) (hg : Gl X "len") (hm : X.mg "len" = none) (hg2 : Gl X "set") (hm2 : X.mg "set" = none) (ha : LO xr X W a ia)
    (na : starEach [a] X.env = (false, eval a X.env) :: starEach [] X.env := by rfl) : LE xr X W (.Call (.Name "len" p) [.Call (.Name "set" p2) [a] [] pos2] [] pos) (eUn lenSetT ia) := by
  obtain ⟨_, q, s⟩ := ha
  refine ⟨_, pe_lenSetT hc hu hg hm hg2 hm2 q na, fun dr env σ I H P E pr ev hi o Q q => ?_⟩
  refine s dr env σ I H _ E pr ev hi o _ fun x v H1 hx k1 r1 => ?_
  have p1 := pr.step k1
  unfold lenSetT at hx
  split at hx
  · obtain ⟨rows, rfl, hl, hP⟩ := hx
    obtain ⟨l, vs, rfl, h1, h2⟩ := r1.lst p1.sub
    obtain ⟨ks, rfl, e, hk⟩ := rpl_itup p1.sub h2
    refine ⟨l, ks, rfl, SqL.of h1, hk, by rw [← e, List.length_map] at hl; exact hl, fun L h3 h4 => ?_⟩
    exact q _ _ _ (hP L h3 (fun x => by rw [← e]; exact h4 x)) k1 (.int _)
  · exact hx.elim
end
end DL

set_option maxRecDepth 100000
set_option maxHeartbeats 1000000
/-! DLD: dicts whose keys are whole numbers and texts. -/
namespace DL
open PySem L2 DLX PyProof.Rows
/-- what stands at a key -/
def vD {α : Type} : List Key → List α → Key → Option α
  | k :: ks, x :: xs, j => if k = j then some x else vD ks xs j
  | _, _, _ => none
section
variable {α : Type} {k j : Key} {ks : List Key} {x : α} {xs : List α}
@[simp] theorem vD_nil : vD [] xs j = none := rfl
theorem vD_cons : vD (k :: ks) (x :: xs) j = if k = j then some x else vD ks xs j := rfl
@[simp] theorem vD_same : vD (k :: ks) (x :: xs) k = some x := by rw [vD_cons, if_pos rfl]
theorem vD_ne (h : k ≠ j) : vD (k :: ks) (x :: xs) j = vD ks xs j := by rw [vD_cons, if_neg h]
end
/-- in its place, or at the end: the keys, the values -/
def pKs (ks : List Key) (j : Key) : List Key := if (ks.any fun k => decide (k = j)) = true then ks else ks ++ [j]
def pXs {α : Type} : List Key → List α → Key → α → List α
  | k :: ks, x :: xs, j, y => if k = j then y :: xs else x :: pXs ks xs j y
  | _, xs, _, y => xs ++ [y]
def asDic : Dt → (List Key → List Dt → Prop) → Prop
  | .dic ks xs, P => P ks xs
  | _, _ => False
def asKey : Dt → (Key → Prop) → Prop
  | .int i, P => P (.inl i)
  | .str x, P => P (.inr x)
  | _, _ => False
section
variable {ks : List Key} {xs : List Dt} {P : Dt → Prop} {D : List Key → List Dt → Prop} {F : Key → Prop} {i : Int} {x : Str}
@[simp] theorem asDic_e : asDic (.dic ks xs) D = D ks xs := id rfl
@[simp] theorem asKey_i : asKey (.int i) F = F (.inl i) := id rfl
@[simp] theorem asKey_s : asKey (.str x) F = F (.inr x) := id rfl
end
def dixD (d k : Dt) (P : Dt → Prop) : Prop := asDic d fun ks xs => asKey k fun j => ∃ x, vD ks xs j = some x ∧ P x
def dinD (k d : Dt) (P : Dt → Prop) : Prop := asDic d fun ks xs => asKey k fun j => P (.bl (vD ks xs j).isSome)
def dniD (k d : Dt) (P : Dt → Prop) : Prop := asDic d fun ks xs => asKey k fun j => P (.bl (!(vD ks xs j).isSome))
section
variable {d k : Dt} {P : Dt → Prop}
@[simp] theorem dixD_e : dixD d k P = asDic d fun ks xs => asKey k fun j => ∃ x, vD ks xs j = some x ∧ P x := id rfl
@[simp] theorem dinD_e : dinD k d P = asDic d fun ks xs => asKey k fun j => P (.bl (vD ks xs j).isSome) := id rfl
@[simp] theorem dniD_e : dniD k d P = asDic d fun ks xs => asKey k fun j => P (.bl (!(vD ks xs j).isSome)) := id rfl
end
section
variable {K : Fr} {dr : Dr} {I H : Hp} {v u : V}
theorem asDic_of {d : Dt} {D : List Key → List Dt → Prop} (h : asDic d D) : ∃ ks xs, d = .dic ks xs ∧ D ks xs := by
  unfold asDic at h
  split at h
  · exact ⟨_, _, rfl, h⟩
  · exact h.elim
theorem asKey_sh {k : Dt} {F : Key → Prop} (r : Sh K dr I H u k) (h : asKey k F) : ∃ j, u = kV j ∧ F j := by
  unfold asKey at h
  split at h
  · exact ⟨.inl _, r.int, h⟩
  · exact ⟨.inr _, r.str, h⟩
  · exact h.elim
theorem Sh.dic {ks : List Key} {xs : List Dt} (s : Same I H) (h : Sh K dr I H v (.dic ks xs)) : ∃ a vs, v = .ref a ∧ H a = some (.dK (ks.zip vs)) ∧ ks.length = vs.length ∧ RpL K dr I vs xs := by
  rcases h with h | ⟨p, rfl, _, _, vs, h1, h2, h3⟩
  · cases h with
    | dic hs hl ha => exact ⟨_, _, rfl, s _ _ hs, hl, ha⟩
  · exact ⟨p, vs, rfl, h1, h2, h3⟩
theorem valV_cons {k j : Key} {x : V} {r : List (Key × V)} : valV ((k, x) :: r) j = if k = j then some x else valV r j := by
  by_cases h : k = j
  · rw [valV_pos h, if_pos h]
  · rw [valV_neg h, if_neg h]
theorem RpL.val {j : Key} : ∀ {ks : List Key} {vs : List V} {xs : List Dt}, RpL K dr I vs xs → (∀ x, vD ks xs j = some x → ∃ v, valV (ks.zip vs) j = some v ∧ Rp K dr I v x) ∧ (vD ks xs j = none → ks.length = vs.length → valV (ks.zip vs) j = none)
  | [], vs, xs, _ => ⟨fun x h => (nomatch h), fun _ _ => by rw [List.zip_nil_left]; exact valV_nil⟩
  | k :: ks, _, _, .nil => ⟨fun x h => (nomatch h), fun _ h => nomatch h⟩
  | k :: ks, v :: vs, x :: xs, .cons r t => by
    obtain ⟨h1, h2⟩ := RpL.val (j := j) (ks := ks) t
    rw [List.zip_cons_cons, vD_cons, valV_cons]
    by_cases h : k = j
    · rw [if_pos h, if_pos h]
      exact ⟨fun y e => ⟨v, rfl, Option.some.inj e ▸ r⟩, fun e => nomatch e⟩
    · rw [if_neg h, if_neg h]
      exact ⟨h1, fun e l => h2 e (Nat.succ.inj l)⟩
/-- what a dict's reading gives -/
theorem dget_of {ks : List Key} {xs : List Dt} {vs : List V} {a : Addr} {j : Key} (e : H a = some (.dK (ks.zip vs))) (hl : ks.length = vs.length) (r : RpL K dr I vs xs) : ∃ o : Option V, DGet H a (kV j) o ∧ (vD ks xs j = none → o = none) ∧ ∀ x, vD ks xs j = some x → ∃ v, o = some v ∧ Rp K dr I v x :=
  ⟨_, DGet.k e, fun h => (r.val (ks := ks)).2 h hl, fun x h => (r.val (ks := ks)).1 x h⟩
end
/-! ### d[k], k in d -/
def rDGet : R2 := fun x y H Q => ∃ a v, x = .ref a ∧ DGet H a y (some v) ∧ Q v H
def rDIn : R2 := fun y x H Q => ∃ a o, x = .ref a ∧ DGet H a y o ∧ Q (.bl o.isSome) H
def rDNi : R2 := fun y x H Q => ∃ a o, x = .ref a ∧ DGet H a y o ∧ Q (.bl (!o.isSome)) H
theorem ops_dix {K : Fr} : OpS K rDGet dixD := by
  intro dr I H x y v u P p hx hy h Q q
  obtain ⟨ks, xs, rfl, h⟩ := asDic_of h
  obtain ⟨j, rfl, z, e, hP⟩ := asKey_sh hy h
  obtain ⟨a, vs, rfl, ha, hl, r⟩ := hx.dic p.sub
  obtain ⟨o, g, _, g2⟩ := dget_of (j := j) ha hl r
  obtain ⟨w, rfl, rw'⟩ := g2 z e
  exact ⟨a, w, rfl, g, q _ _ H hP Kp.refl (rp_at p rw')⟩
theorem isSome_of {K : Fr} {dr : Dr} {I : Hp} {a : Option Dt} {o : Option V} (h1 : a = none → o = none) (h2 : ∀ x, a = some x → ∃ v, o = some v ∧ Rp K dr I v x) : o.isSome = a.isSome := by
  cases a with
  | none => rw [h1 rfl]; rfl
  | some x => obtain ⟨v, rfl, _⟩ := h2 x rfl; rfl
theorem ops_din {K : Fr} : OpS K rDIn dinD := by
  intro dr I H x y v u P p hx hy h Q q
  obtain ⟨ks, xs, rfl, h⟩ := asDic_of h
  obtain ⟨j, rfl, hP⟩ := asKey_sh hx h
  obtain ⟨a, vs, rfl, ha, hl, r⟩ := hy.dic p.sub
  obtain ⟨o, g, g1, g2⟩ := dget_of (j := j) ha hl r
  refine ⟨a, o, rfl, g, q _ _ H hP Kp.refl ?_⟩
  rw [isSome_of g1 g2]
  exact .bl _
theorem ops_dni {K : Fr} : OpS K rDNi dniD := by
  intro dr I H x y v u P p hx hy h Q q
  obtain ⟨ks, xs, rfl, h⟩ := asDic_of h
  obtain ⟨j, rfl, hP⟩ := asKey_sh hx h
  obtain ⟨a, vs, rfl, ha, hl, r⟩ := hy.dic p.sub
  obtain ⟨o, g, g1, g2⟩ := dget_of (j := j) ha hl r
  refine ⟨a, o, rfl, g, q _ _ H hP Kp.refl ?_⟩
  rw [isSome_of g1 g2]
  exact .bl _
section
variable {xr : XR} {X : Cx} {W : WX} {e a b c f o : Expr} {ia ib ic ie : IE} {pos p apos cpos : Pos}
theorem c_dic (hu : X.A.units + 1 < cLine) : CmpS X .In dinD := ⟨rDIn, fun pins s σ H x y v u Q I rx ry ⟨a, o, ex, g, q⟩ => by
  subst ex
  cases ry
  exact d_in hu I g rx fun s' I' => ⟨.bl _, H, I', rfl, q⟩, ops_din⟩
theorem c_dni (hu : X.A.units + 1 < cLine) : CmpS X .NotIn dniD := ⟨rDNi, fun pins s σ H x y v u Q I rx ry ⟨a, o, ex, g, q⟩ => by
  subst ex
  cases ry
  exact d_notIn hu I g rx fun s' I' => ⟨.bl _, H, I', rfl, q⟩, ops_dni⟩
theorem le_dix (hu : X.A.units + 1 < cLine) (ha : LO xr X W a ia) (hb : LO xr X W b ib) (hs : NoSl b := by intro _ _; rfl) : LE xr X W (.Subscript a b pos) (eOp dixD ia ib) := by
  obtain ⟨_, p, s⟩ := ha
  obtain ⟨_, q, t⟩ := hb
  have z := pe_dget (pos := pos) hu p q hs
  exact ⟨_, z, snd_op (r := rDGet) ops_dix s t⟩
end
/-! ### d.get(k), d.get(k, x) -/
def eGet1 (ia ib : IE) : IE := fun env P E => ia env (fun d => asDic d fun ks xs => ib env (fun k => asKey k fun j => P ((vD ks xs j).getD .non)) E) E
def eGet2 (ia ib ic : IE) : IE := fun env P E => ia env (fun d => asDic d fun ks xs => ib env (fun k => asKey k fun j => ic env (fun z => P ((vD ks xs j).getD z)) E) E) E
section
variable {ia ib ic : IE} {env : List Sl} {P : Dt → Prop} {E : Xc → Prop}
@[simp] theorem eGet1_e : eGet1 ia ib env P E = ia env (fun d => asDic d fun ks xs => ib env (fun k => asKey k fun j => P ((vD ks xs j).getD .non)) E) E := id rfl
@[simp] theorem eGet2_e : eGet2 ia ib ic env P E = ia env (fun d => asDic d fun ks xs => ib env (fun k => asKey k fun j => ic env (fun z => P ((vD ks xs j).getD z)) E) E) E := id rfl
end
theorem Rp.key {K : Fr} {dr : Dr} {I : Hp} {u : V} {k : Dt} {F : Key → Prop} (r : Rp K dr I u k) (h : asKey k F) : ∃ j, u = kV j ∧ F j := asKey_sh (H := I) (I := I) (.inl r) h
theorem kp_dic {K : Fr} {dr : Dr} {I H H1 : Hp} {a : Addr} {u : HO} (p : Pre dr I H) (sh : ∀ q, dr = some q → H q.1 ≠ some u ∧ H q.2 ≠ some u) (e : H a = some u) (k : Kp dr H H1) : H1 a = some u :=
  k.keep a _ e fun ⟨q, e1, e2⟩ => by
    rcases e2 with rfl | rfl
    · exact (sh q e1).1 e
    · exact (sh q e1).2 e
theorem not_draw {dr : Dr} {I H : Hp} {a : Addr} {kvs : List (Key × V)} (p : Pre dr I H) (e : H a = some (.dK kvs)) : ¬ IsDr dr a := fun ⟨q, e1, e2⟩ => by
  obtain ⟨j, cs, h1, h2, _⟩ := p.dro q e1
  rcases e2 with rfl | rfl
  · rw [h1] at e; cases e
  · rw [h2] at e; cases e
section
variable {K : Fr} {xr : XR} {W : WX} {ta tb tc : TE} {ia ib ic : IE}
theorem rp_getD {dr : Dr} {I : Hp} {a : Option Dt} {o : Option V} {z : V} {d : Dt} (h1 : a = none → o = none) (h2 : ∀ x, a = some x → ∃ v, o = some v ∧ Rp K dr I v x) (hz : Rp K dr I z d) : Rp K dr I (o.getD z) (a.getD d) := by
  cases a with
  | none => rw [h1 rfl]; exact hz
  | some x => obtain ⟨v, rfl, r⟩ := h2 x rfl; exact r
theorem snd_get1 (ha : SndO K xr W ta ia) (hb : Snd K xr W tb ib) : Snd K xr W (tDGet1 ta tb) (eGet1 ia ib) := fun dr env σ I H P E p ev hi o Q q => by
  refine ha dr env σ I H _ E p ev hi o _ fun x v H1 hx k1 r1 => ?_
  obtain ⟨ks, xs, rfl, hx⟩ := asDic_of hx
  have p1 := p.step k1
  obtain ⟨a, vs, rfl, h1, hl, r⟩ := r1.dic p1.sub
  have nd := not_draw p1 h1
  refine ⟨a, rfl, .inl ⟨_, .inl h1⟩, ?_⟩
  refine hb dr env σ _ H1 _ E p1 (ev.step k1 p) hx (o.step k1) _ fun y u H2 hy k2 r2 => ?_
  obtain ⟨j, rfl, hP⟩ := r2.key hy
  have r' := RpL.mono (p1.ext_sub (H' := H2)) _ _ r
  rw [p.ext_ext k1 k2] at r'
  obtain ⟨o', g, g1, g2⟩ := dget_of (j := j) (k2.keep a _ h1 nd) hl r'
  exact ⟨o', g, q _ _ H2 hP (k1.trans k2) (rp_getD g1 g2 .non)⟩
theorem snd_get2 (ha : SndO K xr W ta ia) (hb : Snd K xr W tb ib) (hc : Snd K xr W tc ic) : Snd K xr W (tDGet2 ta tb tc) (eGet2 ia ib ic) := fun dr env σ I H P E p ev hi o Q q => by
  refine ha dr env σ I H _ E p ev hi o _ fun x v H1 hx k1 r1 => ?_
  obtain ⟨ks, xs, rfl, hx⟩ := asDic_of hx
  have p1 := p.step k1
  have ev1 := ev.step k1 p
  obtain ⟨a, vs, rfl, h1, hl, r⟩ := r1.dic p1.sub
  have nd := not_draw p1 h1
  refine ⟨a, rfl, .inl ⟨_, .inl h1⟩, ?_⟩
  refine hb dr env σ _ H1 _ E p1 ev1 hx (o.step k1) _ fun y u H2 hy k2 r2 => ?_
  obtain ⟨j, rfl, hP⟩ := r2.key hy
  have p2 := p1.step k2
  refine hc dr env σ _ H2 _ E p2 (ev1.step k2 p1) hP ((o.step k1).step k2) _ fun z w H3 hz k3 r3 => ?_
  have r' := RpL.mono (p2.ext_sub (H' := H3)) _ _ (RpL.mono (p1.ext_sub (H' := H2)) _ _ r)
  have e1 := p1.ext_ext k2 k3
  have e2 := p.ext_ext k1 (k2.trans k3)
  rw [e1, e2] at r' r3
  obtain ⟨o', g, g1, g2⟩ := dget_of (j := j) (k3.keep a _ (k2.keep a _ h1 nd) nd) hl r'
  exact ⟨o', g, q _ _ H3 hz (k1.trans (k2.trans k3)) (rp_getD g1 g2 r3)⟩
end
section
variable {xr : XR} {X : Cx} {W : WX} {e f o : Expr} {ia ib ic : IE} {apos cpos : Pos}
theorem le_get1 (hu : X.A.units + 1 < cLine) (ha : LO xr X W o ia) (hb : LE xr X W e ib) (m1 : attributeBase o "get" X.env (eval o X.env) = eval o X.env := by rfl)
    (m2 : ((backTo cpos (starEach [e] X.env)).all (fun x => !x.1) && (backToKw cpos (keywordEach [] X.env)).all (fun x => x.1.isSome) && decide (([e] : List Expr).length + ([] : List Keyword).length + (if ([] : List Keyword).isEmpty then 0 else 1) < 30)) = true := by rfl)
    (m3 : (apos.endLine == cpos.line) = true := by rfl) (m4 : backTo cpos (starEach [e] X.env) = [(false, eval e X.env)] := by rfl) : LE xr X W (.Call (.Attribute o "get" apos) [e] [] cpos) (eGet1 ia ib) :=
  let ⟨_, p, s⟩ := ha; let ⟨_, q, t⟩ := hb; ⟨_, pe_dget1 hu p q ⟨m1, m2, m3, m4⟩, snd_get1 s t⟩
theorem le_get2 (hu : X.A.units + 1 < cLine) (ha : LO xr X W o ia) (hb : LE xr X W e ib) (hc : LE xr X W f ic) (m1 : attributeBase o "get" X.env (eval o X.env) = eval o X.env := by rfl)
    (m2 : ((backTo cpos (starEach [e, f] X.env)).all (fun x => !x.1) && (backToKw cpos (keywordEach [] X.env)).all (fun x => x.1.isSome) && decide (([e, f] : List Expr).length + ([] : List Keyword).length + (if ([] : List Keyword).isEmpty then 0 else 1) < 30)) = true := by rfl)
    (m3 : (apos.endLine == cpos.line) = true := by rfl) (m4 : backTo cpos (starEach [e, f] X.env) = [(false, eval e X.env), (false, eval f X.env)] := by rfl) : LE xr X W (.Call (.Attribute o "get" apos) [e, f] [] cpos) (eGet2 ia ib ic) :=
  let ⟨_, p, s⟩ := ha; let ⟨_, q, t⟩ := hb; let ⟨_, r, u⟩ := hc; ⟨_, pe_dget2 hu p q r ⟨m1, m2, m3, m4⟩, snd_get2 s t u⟩
end
end DL

set_option maxRecDepth 100000
set_option maxHeartbeats 1000000
/-! DLE: displays of dicts, d[k] = v. -/
namespace DL
open PySem L2 DLX PyProof.Rows
def hasK (ks : List Key) (j : Key) : Bool := ks.any fun k => decide (k = j)
def zM {α : Type} (j : Key) (y : α) : List Key → List α → List α
  | k :: ks, x :: xs => (if k = j then y else x) :: zM j y ks xs
  | _, xs => xs
/-- in its place, or at the end: the keys, the values -/
def kPut (ks : List Key) (j : Key) : List Key := if hasK ks j = true then ks else ks ++ [j]
def xPut {α : Type} (ks : List Key) (xs : List α) (j : Key) (y : α) : List α := if hasK ks j = true then zM j y ks xs else xs ++ [y]
section
variable {α : Type} {j k : Key} {y x : α} {ks : List Key} {xs : List α}
@[simp] theorem hasK_nil : hasK [] j = false := rfl
@[simp] theorem hasK_cons : hasK (k :: ks) j = (decide (k = j) || hasK ks j) := rfl
@[simp] theorem zM_nil : zM j y ([] : List Key) xs = xs := by cases xs <;> rfl
@[simp] theorem zM_cons : zM j y (k :: ks) (x :: xs) = (if k = j then y else x) :: zM j y ks xs := rfl
theorem zM_len : ∀ {ks : List Key} {xs : List α}, (zM j y ks xs).length = xs.length
  | [], xs => by rw [zM_nil]
  | _ :: _, [] => rfl
  | k :: ks, x :: xs => congrArg (· + 1) zM_len
theorem put_len (h : ks.length = xs.length) : (kPut ks j).length = (xPut ks xs j y).length := by
  unfold kPut xPut
  split
  · rw [zM_len, h]
  · simp [h]
theorem kPut_le : (kPut ks j).length ≤ ks.length + 1 := by
  unfold kPut
  split
  · omega
  · simp
end
theorem zM_zip {j : Key} {y : V} : ∀ {ks : List Key} {vs : List V}, ks.length = vs.length → (ks.zip vs).map (fun kv => if kv.1 = j then (kv.1, y) else kv) = ks.zip (zM j y ks vs)
  | [], _, _ => rfl
  | k :: ks, [], h => by cases h
  | k :: ks, v :: vs, h => by
    rw [List.zip_cons_cons, List.map_cons, zM_cons, List.zip_cons_cons, zM_zip (Nat.succ.inj h)]
    by_cases hk : k = j
    · simp [hk]
    · simp [hk]
theorem any_zip {j : Key} : ∀ {ks : List Key} {vs : List V}, ks.length = vs.length → ((ks.zip vs).any fun kv => decide (kv.1 = j)) = hasK ks j
  | [], _, _ => rfl
  | k :: ks, [], h => by cases h
  | k :: ks, v :: vs, h => by rw [List.zip_cons_cons, List.any_cons, hasK_cons, any_zip (Nat.succ.inj h)]
theorem putK_zip {ks : List Key} {vs : List V} {j : Key} {y : V} (h : ks.length = vs.length) : putK (ks.zip vs) j y = (kPut ks j).zip (xPut ks vs j y) := by
  unfold putK kPut xPut
  rw [any_zip h]
  split
  · exact zM_zip h
  · rw [List.zip_append h]; rfl
section
variable {K : Fr} {dr : Dr} {I : Hp}
theorem RpL.zM {j : Key} {v : V} {d : Dt} (r : Rp K dr I v d) : ∀ {ks : List Key} {vs : List V} {xs : List Dt}, RpL K dr I vs xs → RpL K dr I (DL.zM j v ks vs) (DL.zM j d ks xs)
  | [], _, _, h => by rw [zM_nil, zM_nil]; exact h
  | k :: ks, _, _, .nil => .nil
  | k :: ks, _, _, .cons a t => by
    rw [zM_cons, zM_cons]
    refine .cons ?_ (RpL.zM r t)
    split
    · exact r
    · exact a
theorem RpL.xPut {j : Key} {v : V} {d : Dt} {ks : List Key} {vs : List V} {xs : List Dt} (r : Rp K dr I v d) (h : RpL K dr I vs xs) : RpL K dr I (DL.xPut ks vs j v) (DL.xPut ks xs j d) := by
  unfold DL.xPut
  split
  · exact RpL.zM r h
  · exact h.append (.cons r .nil)
end
/-! ### {} -/
def eDNew : IE := fun _ P _ => P (.dic [] [])
@[simp] theorem eDNew_e {env : List Sl} {P : Dt → Prop} {E : Xc → Prop} : eDNew env P E = P (.dic [] []) := id rfl
theorem sndN_dnew {K : Fr} {xr : XR} {W : WX} : SndN K xr W tDNewK eDNew := fun dr env σ I H P E p ev hi o Q q l hl =>
  q _ _ _ hi (Kp.new p hl) ⟨l, rfl, hl, [], upd_same, rfl, .nil⟩
theorem ln_dnew {xr : XR} {X : Cx} {W : WX} {pos : Pos} : LN xr X W (.Dict [] [] pos) eDNew := ⟨_, pe_dnewK, sndN_dnew⟩
/-! ### {k: v, ..} -/
def dPairs : List (IE × IE) → List Sl → (List (Key × Dt) → Prop) → (Xc → Prop) → Prop
  | [], _, P, _ => P []
  | (ik, iv) :: r, env, P, E => ik env (fun k => asKey k fun j => iv env (fun x => dPairs r env (fun ps => P ((j, x) :: ps)) E) E) E
def dMerge : List Key → List Dt → List (Key × Dt) → Dt
  | ks, xs, [] => .dic ks xs
  | ks, xs, (j, x) :: r => dMerge (kPut ks j) (xPut ks xs j x) r
def eDisp (trs : List (IE × IE)) : IE := fun env P E => dPairs trs env (fun ps => ps.length ≤ 15 ∧ P (dMerge [] [] ps)) E
section
variable {ik iv : IE} {r trs : List (IE × IE)} {env : List Sl} {P : Dt → Prop} {PP : List (Key × Dt) → Prop} {E : Xc → Prop} {ks : List Key} {xs : List Dt} {j : Key} {x : Dt} {ps : List (Key × Dt)}
@[simp] theorem dPairs_n : dPairs [] env PP E = PP [] := id rfl
@[simp] theorem dPairs_c : dPairs ((ik, iv) :: r) env PP E = ik env (fun k => asKey k fun j => iv env (fun x => dPairs r env (fun ps => PP ((j, x) :: ps)) E) E) E := id rfl
@[simp] theorem dMerge_n : dMerge ks xs [] = .dic ks xs := rfl
@[simp] theorem dMerge_c : dMerge ks xs ((j, x) :: ps) = dMerge (kPut ks j) (xPut ks xs j x) ps := rfl
@[simp] theorem eDisp_e : eDisp trs env P E = dPairs trs env (fun ps => ps.length ≤ 15 ∧ P (dMerge [] [] ps)) E := id rfl
end
inductive SndPs (K : Fr) (xr : XR) (W : WX) : List (TE × TE) → List (IE × IE) → Prop
  | nil : SndPs K xr W [] []
  | cons {tk tv : TE} {ik iv : IE} {ts : List (TE × TE)} {is : List (IE × IE)} : Snd K xr W tk ik → Snd K xr W tv iv → SndPs K xr W ts is → SndPs K xr W ((tk, tv) :: ts) ((ik, iv) :: is)
section
variable {K : Fr} {xr : XR} {W : WX}
theorem snd_pairs {ts : List (TE × TE)} {is : List (IE × IE)} (h : SndPs K xr W ts is) : ∀ dr env σ I H (P : List (Key × Dt) → Prop) E, Pre dr I H → EnvOk K dr env σ I H → dPairs is env P E → OutE xr W dr σ H E → ∀ Q : List (V × V) → Hp → Prop,
    (∀ ps (kvs : List (Key × V)) H', P ps → Kp dr H H' → kvs.map (·.1) = ps.map (·.1) → RpL K dr (ext I H H') (kvs.map (·.2)) (ps.map (·.2)) → Q (kvs.map fun kv => (kV kv.1, kv.2)) H') → tPairs ts σ H Q := by
  induction h with
  | nil => exact fun dr env σ I H P E p ev hi o Q q => q [] [] H hi Kp.refl rfl .nil
  | cons hk hv _ ih =>
    intro dr env σ I H P E p ev hi o Q q
    refine hk dr env σ I H _ E p ev hi o _ fun k u H1 hx k1 r1 => ?_
    obtain ⟨j, rfl, hx⟩ := r1.key hx
    have p1 := p.step k1
    have ev1 := ev.step k1 p
    refine hv dr env σ _ H1 _ E p1 ev1 hx (o.step k1) _ fun x v H2 hy k2 r2 => ?_
    have p2 := p1.step k2
    refine ih dr env σ _ H2 _ E p2 (ev1.step k2 p1) hy ((o.step k1).step k2) _ fun ps kvs H3 hz k3 e r3 => ?_
    have r2' := r2.mono (p2.ext_sub (H' := H3))
    have e1 := p1.ext_ext k2 k3
    have e2 := p.ext_ext k1 (k2.trans k3)
    rw [e1, e2] at r2' r3
    exact q ((j, x) :: ps) ((j, v) :: kvs) H3 hz (k1.trans (k2.trans k3)) (by rw [List.map_cons, List.map_cons, e]) (.cons r2' r3)
theorem merge_zip : ∀ {kvs : List (Key × V)} {ks : List Key} {vs : List V}, ks.length = vs.length → ∃ ks' vs', mergeK (ks.zip vs) kvs = ks'.zip vs' ∧ ks'.length = vs'.length ∧ ∀ {dr : Dr} {I : Hp} {xs : List Dt} {ps : List (Key × Dt)}, RpL K dr I vs xs → kvs.map (·.1) = ps.map (·.1) → RpL K dr I (kvs.map (·.2)) (ps.map (·.2)) →
    ∃ xs', dMerge ks xs ps = .dic ks' xs' ∧ RpL K dr I vs' xs'
  | [], ks, vs, h => ⟨ks, vs, rfl, h, fun {dr I xs ps} r e _ => by
    cases ps with
    | nil => exact ⟨xs, rfl, r⟩
    | cons _ _ => cases e⟩
  | (j, v) :: kvs, ks, vs, h => by
    obtain ⟨ks', vs', e1, e2, e3⟩ := merge_zip (kvs := kvs) (put_len (j := j) (y := v) h)
    refine ⟨ks', vs', ?_, e2, fun {dr I xs ps} r e rr => ?_⟩
    · rw [← e1, ← putK_zip h]; rfl
    · cases ps with
      | nil => cases e
      | cons p ps =>
        obtain ⟨j', x⟩ := p
        simp only [List.map_cons, List.cons.injEq] at e rr
        obtain ⟨rfl, e⟩ := e
        cases rr with
        | cons r1 r2 => exact e3 (r.xPut r1) e r2
theorem sndN_disp {ts : List (TE × TE)} {is : List (IE × IE)} (h : SndPs K xr W ts is) : SndN K xr W (tDisp ts) (eDisp is) := fun dr env σ I H P E p ev hi o Q q l hl => by
  have k0 := Kp.new (o := .dK []) p hl
  have nd := p.notDr hl
  have p0 : Pre dr (hid l (ext I H (upd H l (.dK [])))) (upd H l (.dK [])) := (p.step k0).less hid_same
  have ev0 := ev.hid p k0 hl
  refine snd_pairs h dr env σ _ _ _ E p0 ev0 hi (o.step k0) _ fun ps kvs H2 hP k e r => ?_
  have h2 : H2 l = some (.dK []) := k.keep l _ upd_same nd
  have hlen : kvs.length = ps.length := by have := congrArg List.length e; simpa using this
  obtain ⟨ks', vs', e1, e2, e3⟩ := merge_zip (K := K) (kvs := kvs) (ks := []) (vs := []) rfl
  obtain ⟨xs', e4, e5⟩ := e3 (xs := []) .nil e r
  refine ⟨h2, kvs, rfl, by rw [hlen]; exact hP.1, ?_⟩
  have e1' : mergeK [] kvs = ks'.zip vs' := e1
  rw [e1']
  rw [e4] at hP
  refine q _ _ _ hP.2 ⟨fun a u ea na => ?_, fun qq eq dk => ?_⟩ ⟨l, rfl, hl, vs', upd_same, e2, RpL.mono (fun a u ea => ?_) _ _ e5⟩
  · have ne : a ≠ l := fun z => by subst z; rw [hl] at ea; cases ea
    rw [upd_ne ne]
    exact k.keep a u (by rw [upd_ne ne]; exact ea) na
  · have n1 : qq.1 ≠ l := fun z => nd ⟨qq, eq, .inl z.symm⟩
    have n2 : qq.2 ≠ l := fun z => nd ⟨qq, eq, .inr z.symm⟩
    obtain ⟨i, cs, a1, a2, a3⟩ := k.dro qq eq (k0.dro qq eq dk)
    exact ⟨i, cs, by rw [upd_ne n1]; exact a1, by rw [upd_ne n2]; exact a2, a3⟩
  · by_cases ha : a = l
    · subst ha
      rw [ext_some (by rw [upd_same]; simp)] at ea
      unfold hid at ea
      rw [if_pos rfl] at ea
      cases ea
    · unfold hid
      rw [if_neg ha]
      by_cases hH : H a = none
      · rw [ext_none (by rw [upd_ne ha]; exact hH)] at ea
        rw [ext_none hH, upd_ne ha]
        exact ea
      · rw [ext_some (by rw [upd_ne ha]; exact hH)] at ea
        unfold hid at ea
        rw [if_neg ha, ext_some hH] at ea
        rw [ext_some hH]
        exact ea
end
def LPs (xr : XR) (X : Cx) (W : WX) (pos : Pos) (keys : List (Option Expr)) (values : List Expr) (is : List (IE × IE)) : Prop := ∃ trs, PPs X pos keys values trs ∧ SndPs X.K xr W trs is
section
variable {xr : XR} {X : Cx} {W : WX} {k v : Expr} {ks : List (Option Expr)} {vs : List Expr} {ik iv : IE} {is : List (IE × IE)} {pos : Pos}
theorem lps_nil : LPs xr X W pos [] [] [] := ⟨_, pps_nil, .nil⟩
theorem lps_cons (hk : LE xr X W k ik) (hv : LE xr X W v iv) (h : LPs xr X W pos ks vs is) : LPs xr X W pos (some k :: ks) (v :: vs) ((ik, iv) :: is) :=
  let ⟨_, p, s⟩ := hk; let ⟨_, q, t⟩ := hv; let ⟨_, r, u⟩ := h; ⟨_, pps_cons p q r, .cons s t u⟩
theorem ln_disp (h : LPs xr X W pos ks vs is) (hall : ks.all (·.isSome) = true := by rfl) (hl : ks.length = vs.length := by rfl) (h0 : ks ≠ [] := by simp) (h15 : ks.length ≤ 15 := by decide) : LN xr X W (.Dict ks vs pos) (eDisp is) :=
  let ⟨_, p, s⟩ := h; ⟨_, pe_disp p hall hl h0 h15, sndN_disp s⟩
end
/-! ### d[k] = v, d owned -/
def owD (env : List Sl) (i : Nat) (P : List Key → List Dt → Prop) : Prop := match sl env i with
  | .ow (.dic ks xs) => P ks xs
  | _ => False
theorem owD_of {env : List Sl} {i : Nat} {P : List Key → List Dt → Prop} (h : owD env i P) : ∃ ks xs, sl env i = .ow (.dic ks xs) ∧ P ks xs := by
  unfold owD at h
  split at h
  · exact ⟨_, _, by assumption, h⟩
  · exact h.elim
def odV : Sl → (List Key → List Dt → Prop) → Prop
  | .ow (.dic ks xs), P => P ks xs
  | _, _ => False
@[simp] theorem odV_e {ks : List Key} {xs : List Dt} {P : List Key → List Dt → Prop} : odV (.ow (.dic ks xs)) P = P ks xs := id rfl
def sDPutI (i : Nat) (ik iv : IE) : IS := fun env Pp => iv env (fun d => owD env i fun ks xs => ik env (fun k => asKey k fun j => ks.length < 16777216 ∧ Pp.nx (put env i (.ow (.dic (kPut ks j) (xPut ks xs j d))))) (fun x => Pp.ex x env)) (fun x => Pp.ex x env)
@[simp] theorem sDPutI_e {i : Nat} {ik iv : IE} {env : List Sl} {Pp : Po} : sDPutI i ik iv env Pp = iv env (fun d => odV (sl env i) fun ks xs => ik env (fun k => asKey k fun j => ks.length < 16777216 ∧ Pp.nx (put env i (.ow (.dic (kPut ks j) (xPut ks xs j d))))) (fun x => Pp.ex x env)) (fun x => Pp.ex x env) := by
  unfold sDPutI owD odV
  congr 1
  funext d
  cases sl env i with
  | ow d => cases d <;> rfl
  | _ => rfl
theorem sndS_dput {K : Fr} {xr : XR} {W : WX} {tk tv : TE} {ik iv : IE} {i : Nat} (hk : Snd K xr W tk ik) (hv : Snd K xr W tv iv) : SndS K xr W (sDPut (tVar i) tk tv) (sDPutI i ik iv) := fun dr J B Gh env σ I H Pp D s hi o => by
  refine hv dr env σ I H _ _ s.pre s.ev hi (o.e s) _ fun d v H1 hP k1 rv => ?_
  obtain ⟨ks, xs, e, hP⟩ := owD_of hP
  have s1 := s.step k1
  obtain ⟨p, e1, hn, hd, vs, h1, hl, r⟩ := s1.ev.ow e
  refine ⟨_, e1, ?_⟩
  refine hk dr env σ _ H1 _ _ s1.pre s1.ev hP (o.e s1) _ fun kk w H2 hP2 k2 rw' => ?_
  obtain ⟨j, rfl, hlt, hP2⟩ := rw'.key hP2
  have h2 := k2.keep p _ h1 hd
  refine ⟨p, _, rfl, DPut.k h2 ?_, ?_⟩
  · rw [List.length_zip, ← hl, Nat.min_self, sizeLine_eq]; omega
  rw [putK_zip hl]
  refine o.nx _ _ _ _ hP2 ((s1.step k2).write e e1 ⟨_, upd_same, put_len hl, ?_⟩)
  exact (RpL.mono s1.pre.ext_sub _ _ r).xPut (rv.mono s1.pre.ext_sub)
section
variable {xr : XR} {X : Cx} {W : WX} {b e1 : Expr} {ib ie : IE} {x : Str} {px apos pos : Pos}
theorem ls_dput (i : Nat) (hu : X.A.units + 1 < cLine) (hb : LE xr X W b ib) (h : LE xr X W e1 ie) (hN : X.N[i]? = some x := by rfl) (hv : Vis X.env.scope x := by first | exact Or.inl rfl | exact Or.inr (Or.inl rfl) | exact Or.inr (Or.inr rfl)) (hd : (x == ("__debug__" : Str)) = false := by decide) (hcd : (x == ("__classdict__" : Str)) = false := by decide)
    (hs : swapsWith e1 (some (.Subscript (.Name x px) b apos)) pos.line X.env = pure false := by rfl) : LS xr X W (.Assign [.Subscript (.Name x px) b apos] e1 pos) (sDPutI i ib ie) :=
  let ⟨_, p, s⟩ := hb; let ⟨_, q, t⟩ := h; ⟨_, ps_dput hu (pe_var hN hv hd hcd) p q hs, sndS_dput s t⟩
end
theorem hu1 {n m : Nat} (h : n + 65 < m) : n + 1 < m := by omega
theorem hu64 {n m : Nat} (h : n + 65 < m) : n + 64 < m := by omega
end DL

set_option maxRecDepth 100000
set_option maxHeartbeats 1000000
/-! DLI: xs.index(d), dict(pairs). -/
namespace DL
open PySem L2 DLX PyProof.Rows
/-! ### xs.index(d) -/
def lidxL (xs : List Dt) (d : Dt) (P : Dt → Prop) : Prop := (okD d ∧ okD (.lst xs)) ∧ ∃ (j : Nat) (z : Dt), xs[j]? = some z ∧ eqv z d = true ∧ (∀ (m : Nat) (z' : Dt), m < j → xs[m]? = some z' → eqv z' d = false) ∧ P (.int (j : Int))
def eLidx (ia ib : IE) : IE := fun env P E => ia env (fun x => exV x fun xs => ib env (fun d => lidxL xs d P) E) E
@[simp] theorem eLidx_e {ia ib : IE} {env : List Sl} {P : Dt → Prop} {E : Xc → Prop} : eLidx ia ib env P E = ia env (fun x => exV x fun xs => ib env (fun d => lidxL xs d P) E) E := id rfl
theorem exV_of {x : Dt} {PL : List Dt → Prop} (h : exV x PL) : ∃ xs, x = .lst xs ∧ PL xs := by
  unfold exV at h
  split at h
  · exact ⟨_, rfl, h⟩
  · exact h.elim
section
variable {xr : XR} {X : Cx} {W : WX} {e o : Expr} {ia ib : IE} {apos cpos : Pos}
theorem get_py {xs : List Dt} {m : Nat} {z : PyData} (h : (pyL xs)[m]? = some z) : ∃ z', xs[m]? = some z' ∧ z = z'.py := by
  rw [pyL_map, List.getElem?_map] at h
  cases e : xs[m]? with
  | none => rw [e] at h; cases h
  | some z' => rw [e] at h; exact ⟨z', rfl, by simpa using h.symm⟩
theorem le_lidx (hu : X.A.units + 65 < cLine) (ha : LO xr X W o ia) (hb : LE xr X W e ib) (hbase : attributeBase o "index" X.env (eval o X.env) = eval o X.env := by rfl)
    (hfew : ((backTo cpos (starEach [e] X.env)).all (fun x => !x.1) && (backToKw cpos (keywordEach [] X.env)).all (fun x => x.1.isSome)
      && decide ([e].length + ([] : List Keyword).length + (if ([] : List Keyword).isEmpty then 0 else 1) < 30)) = true := by rfl)
    (hline : (apos.endLine == cpos.line) = true := by rfl) (hs : starEach [e] X.env = (false, eval e X.env) :: starEach [] X.env := by rfl) : LE xr X W (.Call (.Attribute o "index" apos) [e] [] cpos) (eLidx ia ib) := by
  obtain ⟨_, p, s⟩ := ha
  obtain ⟨_, q, t⟩ := hb
  refine ⟨_, pe_bm PySem.F.plainAttrs_list PySem.F.slot_list_index PySem.F.type_list_index (mt_indexD hu) p (pa_cons q pa_nil hs) hbase hfew hline hs, fun dr env σ I H P E pr ev hi oo Q qq => ?_⟩
  refine s dr env σ I H _ E pr ev hi oo _ fun x v H1 hx k1 r1 => ?_
  have p1 := pr.step k1
  obtain ⟨xs, rfl, hx⟩ := exV_of hx
  obtain ⟨a, vs, rfl, h1, h2⟩ := r1.lst p1.sub
  refine ⟨.inl ⟨rfl, vs, SqL.of h1⟩, ?_⟩
  refine t dr env σ _ H1 _ E p1 (ev.step k1 pr) hx (oo.step k1) _ fun d u H2 hd k2 r2 => ?_
  obtain ⟨⟨o1, o2⟩, j, z, e1, e2, e3, hP⟩ := hd
  have p2 := p1.step k2
  have s1 := (r1.mono k2 p1).dp p2 o2
  have s2 := (Rp.sh (H := H2) r2).dp p2 o1
  rw [Dt.py] at s1
  refine ⟨a, u, d.py, pyL xs, j, z.py, rfl, rfl, s1, s2, by unfold okD at o2; rw [Dt.py] at o2; exact o2, o1, by rw [pyL_map, List.getElem?_map, e1]; rfl, e2, fun m z' hm hz => ?_, qq _ _ H2 hP (k1.trans k2) (.int _)⟩
  obtain ⟨z2, a1, rfl⟩ := get_py hz
  exact e3 m z2 hm a1
end
/-! ### dict(pairs) -/
def kD : Key → Dt
  | .inl i => .int i
  | .inr x => .str x
def prD (p : Key × Dt) : Dt := .tup [kD p.1, p.2]
def dictP : Dt → (Dt → Prop) → Prop
  | .lst xs, P => ∃ ps : List (Key × Dt), xs = ps.map prD ∧ P (dMerge [] [] ps)
  | .tup xs, P => ∃ ps : List (Key × Dt), xs = ps.map prD ∧ P (dMerge [] [] ps)
  | _, _ => False
@[simp] theorem dictP_t {xs : List Dt} {P : Dt → Prop} : dictP (.tup xs) P = (∃ ps : List (Key × Dt), xs = ps.map prD ∧ P (dMerge [] [] ps)) := id rfl
@[simp] theorem dictP_e {xs : List Dt} {P : Dt → Prop} : dictP (.lst xs) P = (∃ ps : List (Key × Dt), xs = ps.map prD ∧ P (dMerge [] [] ps)) := id rfl
theorem rp_key {K : Fr} {dr : Dr} {I : Hp} {v : V} {k : Key} (r : Rp K dr I v (kD k)) : v = kV k := by
  cases k with
  | inl i => cases r; rfl
  | inr x => cases r; rfl
theorem rp_pairs {K : Fr} {dr : Dr} {I H : Hp} (s : Same I H) : ∀ {ps : List (Key × Dt)} {vs : List V}, RpL K dr I vs (ps.map prD) →
    ∃ (as : List Addr) (kvs : List (Key × V)), vs = as.map V.ref ∧ Paired (fun p kv => SqT K H p [kV kv.1, kv.2]) as kvs ∧ kvs.map (·.1) = ps.map (·.1) ∧ RpL K dr I (kvs.map (·.2)) (ps.map (·.2))
  | [], _, h => by cases h; exact ⟨[], [], rfl, .nil, rfl, .nil⟩
  | p :: ps, _, h => by
    cases h with
    | cons h1 h2 =>
      obtain ⟨as, kvs, rfl, e1, e2, e3⟩ := rp_pairs s h2
      unfold prD at h1
      cases h1 with
      | @tup a us ds hs _ hr =>
        cases hr with
        | cons a1 a2 =>
          cases a2 with
          | cons b1 b2 =>
            cases b2
            obtain rfl := rp_key a1
            rename_i u2
            exact ⟨a :: as, (p.1, u2) :: kvs, rfl, .cons (same_seqT s hs) e1, by rw [List.map_cons, List.map_cons, e2], .cons b1 e3⟩
def rDictL (K : Fr) : List V → Hp → VK → Prop := fun xs H Q => ∃ (a : Addr) (ps : List Addr) (kvs : List (Key × V)), xs = [.ref a] ∧ SqL K H a (ps.map V.ref) ∧ Paired (fun p kv => SqT K H p [kV kv.1, kv.2]) ps kvs ∧
    ∀ p, H p = none → Q (.ref p) (L2.upd H p (.dK (mergeK [] kvs)))
def rDictT (K : Fr) : List V → Hp → VK → Prop := fun xs H Q => ∃ (a : Addr) (ps : List Addr) (kvs : List (Key × V)), xs = [.ref a] ∧ SqT K H a (ps.map V.ref) ∧ NdT K H a ∧ Paired (fun p kv => SqT K H p [kV kv.1, kv.2]) ps kvs ∧
    ∀ p, H p = none → Q (.ref p) (L2.upd H p (.dK (mergeK [] kvs)))
theorem call_dictLT {X : Cx} (hc : X.calm = true) : CallR X (.type "dict") (fun xs H Q => rDictL X.K xs H Q ∨ rDictT X.K xs H Q) := by
  intro pins s σ H xs us Q I r q
  rcases q with q | q
  · exact call_dictP hc pins s σ H xs us Q I r q
  · exact call_dictT hc pins s σ H xs us Q I r q
theorem can_dict {K : Fr} : CaN K (fun xs H Q => rDictL K xs H Q ∨ rDictT K xs H Q) (f1 dictP) := by
  intro dr I H xs vs P p hs h Q q
  match xs, h with
  | [x], h =>
    obtain ⟨v, rfl, hx⟩ := shl1 hs
    replace h : dictP x P := h
    unfold dictP at h
    split at h
    · obtain ⟨ps, rfl, hP⟩ := h
      obtain ⟨a, vs, rfl, ha, r⟩ := hx.lst p.sub
      obtain ⟨as, kvs, rfl, e1, e2, e3⟩ := rp_pairs p.sub r
      refine .inl ⟨a, as, kvs, rfl, SqL.of ha, e1, fun l hl => ?_⟩
      obtain ⟨ks', vs', f1, f2, f3⟩ := merge_zip (K := K) (kvs := kvs) (ks := []) (vs := []) rfl
      obtain ⟨xs', f4, f5⟩ := f3 (xs := []) .nil e2 e3
      have f1' : mergeK [] kvs = ks'.zip vs' := f1
      rw [f1']
      rw [f4] at hP
      exact q _ _ _ hP (Kp.new p hl) ⟨l, rfl, hl, vs', upd_same, f2, RpL.mono (new_at p hl) _ _ f5⟩
    · obtain ⟨ps, rfl, hP⟩ := h
      obtain ⟨a, vs, rfl, ha, hn, r⟩ := hx.tupN p.sub
      obtain ⟨as, kvs, rfl, e1, e2, e3⟩ := rp_pairs p.sub r
      refine .inr ⟨a, as, kvs, rfl, ha, hn, e1, fun l hl => ?_⟩
      obtain ⟨ks', vs', f1, f2, f3⟩ := merge_zip (K := K) (kvs := kvs) (ks := []) (vs := []) rfl
      obtain ⟨xs', f4, f5⟩ := f3 (xs := []) .nil e2 e3
      have f1' : mergeK [] kvs = ks'.zip vs' := f1
      rw [f1']
      rw [f4] at hP
      exact q _ _ _ hP (Kp.new p hl) ⟨l, rfl, hl, vs', upd_same, f2, RpL.mono (new_at p hl) _ _ f5⟩
    · exact h.elim
section
variable {xr : XR} {X : Cx} {W : WX} {a : Expr} {ia : IE} {pos p : Pos}
theorem ln_dict (hc : X.calm = true) (hg : Gl X "dict") (hm : X.mg "dict" = none) (ha : LO xr X W a ia) (hs : starEach [a] X.env = (false, eval a X.env) :: starEach [] X.env := by rfl) : LN xr X W (.Call (.Name "dict" p) [a] [] pos) (eCB (f1 dictP) (aCons ia aNil)) :=
  ln_fT (call_dictLT hc) can_dict hg hm (by decide +kernel) (lao_cons ha lao_nil hs) (he := hs)
end
end DL

set_option maxRecDepth 100000
set_option maxHeartbeats 1000000
/-! DLC: defs that give new lists (or dicts), which their callers may change. -/
namespace DL
open PySem L2 DLX PyProof.Rows
def sRetO (ie : IE) : IS := fun env Pp => ie env Pp.rn (fun x => Pp.ex x env)
def rnV : Sl → (Dt → Prop) → Prop
  | .ow d, P => P d
  | _, _ => False
/-- return x, x an owned name -/
def sRetS (i : Nat) : IS := fun env Pp => rnV (sl env i) Pp.rn
@[simp] theorem rnV_ow {d : Dt} {P : Dt → Prop} : rnV (.ow d) P = P d := id rfl
@[simp] theorem sRetO_e {ie : IE} {env : List Sl} {Pp : Po} : sRetO ie env Pp = ie env Pp.rn (fun x => Pp.ex x env) := id rfl
@[simp] theorem sRetS_e {i : Nat} {env : List Sl} {Pp : Po} : sRetS i env Pp = rnV (sl env i) Pp.rn := id rfl
section
variable {K : Fr} {xr : XR} {W : WX} {te : TE} {ie : IE} {dr : Dr} {J B Gh I H H' : Hp} {env : List Sl} {σ : L2.St}
theorem hid_up {I I' : Hp} (s : Same I I') (a : Addr) : Same (hid a I) (hid a I') := fun b o e => by
  unfold hid at e ⊢
  by_cases h : b = a
  · rw [if_pos h] at e; cases e
  · rw [if_neg h] at e ⊢; exact s b o e
theorem Stt.newOut (s : Stt K dr J B Gh env σ I H) (k : Kp dr H H') {v : V} {d : Dt} (n : New K dr I H H' v d) : New K dr J B H' v d := by
  obtain ⟨p, rfl, hp, r⟩ := n
  exact ⟨p, rfl, s.kp.none_back s.pre0 hp, r.mono (hid_up (s.step k).out p) rfl⟩
theorem sndS_retO (h : SndN K xr W te ie) : SndS K xr W (tRet te) (sRetO ie) := fun dr J B Gh env σ I H Pp D s hi o =>
  h dr env σ I H _ _ s.pre s.ev hi (o.e s) _ fun d v H' hP k r => o.rn d v H' hP (s.kp.trans k) (s.newOut k r)
theorem sndS_retS {i : Nat} : SndS K xr W (tRet (tVar i)) (sRetS i) := fun dr J B Gh env σ I H Pp D s hi o => by
  unfold sRetS rnV at hi
  split at hi
  · rename_i d e
    obtain ⟨p, e1, h1, h2, h3⟩ := s.ev.ow e
    refine ⟨_, e1, o.rn d _ H hi s.kp ⟨p, rfl, s.own i d p e e1, h3.mono (fun a u z => ?_) rfl⟩⟩
    have ne : a ≠ p := fun y => by subst y; rw [h1] at z; cases z
    unfold hid
    rw [if_neg ne]
    exact s.out a u z
  · exact hi.elim
end
section
variable {xr : XR} {X : Cx} {W : WX} {e : Expr} {ie : IE} {pos p : Pos}
theorem ls_retO (h : LN xr X W e ie) : LS xr X W (.Return (some e) pos) (sRetO ie) := let ⟨_, p, s⟩ := h; ⟨_, ps_ret p, sndS_retO s⟩
theorem ls_retS (i : Nat) {x : Str} (hN : X.N[i]? = some x := by rfl) (hv : Vis X.env.scope x := by first | exact Or.inl rfl | exact Or.inr (Or.inl rfl) | exact Or.inr (Or.inr rfl)) (hd : (x == ("__debug__" : Str)) = false := by decide)
    (hcd : (x == ("__classdict__" : Str)) = false := by decide) : LS xr X W (.Return (some (.Name x p)) pos) (sRetS i) := ⟨_, ps_ret (pe_var hN hv hd hcd), sndS_retS⟩
end
def liftN (K : Fr) (xr : XR) (sp : DSp) : Sp := fun vs H Q E => ∃ dr I ds P EP, Pre dr I H ∧ RpL K dr I vs ds ∧ sp ds P EP ∧ (∀ x c a H', EP x → Kp dr H H' → xr x c a H' → E c a H') ∧ ∀ d v H', P d → Kp dr H H' → New K dr I H H' v d → Q v H'
theorem sndN_call {K : Fr} {xr : XR} {W : WX} {sp : DSp} {tl : TA} {il : IA} (hl : SndA K xr W tl il) : SndN K xr W (tCallSD (liftN K xr sp) [] (fun σ c a H => W c a σ H) tl) (eCall sp il) := fun dr env σ I H P E p ev hi o Q q =>
  hl dr env σ I H _ E p ev hi o _ fun ds vs H1 hx k1 r1 => ⟨dr, ext I H H1, ds, P, E, p.step k1, by rw [List.append_nil]; exact r1, hx, fun x c a H' hE k r => o x c a H' hE (k1.trans k) r, fun d v H' hP k r => q d v H' hP (k1.trans k) (r.back p k1 k)⟩
section
variable {xr : XR} {X : Cx} {W : WX} {e : Expr} {es : List Expr} {il : IA} {pos p : Pos} {k : Nat} {f : Addr} {fd : FuncData} {ps : List Str} {sp : DSp} {x : Str}
theorem ln_call (F : FnOk X.prog X.w X.K X.mg X.base (L2.CX X.prog X.w) k f fd ps (liftN X.K xr sp)) (tk : Takes X W) (hr : Room k X.A) (hg : Gl X x) (hm : X.mg x = some (.ref f)) (hk : PySem.W.keepIn X.K (.ref f) = true) (hb : Binds X.K fd ps [])
    (ha : LA xr X W (e :: es) il) (hdb : (x == ("__debug__" : Str)) = false := by decide) (he : starEach (e :: es) X.env = (false, eval e X.env) :: starEach es X.env := by rfl) (hpl : (backTo pos (starEach es X.env)).any (·.1) = false := by rfl) :
    LN xr X W (.Call (.Name x p) (e :: es) [] pos) (eCall sp il) :=
  let ⟨_, q, s⟩ := ha; ⟨_, pe_callSD F hr hg hm hk hb .nil (fun σ => passAt tk σ) q hdb he hpl, sndN_call s⟩
end
/-- THE RULE for such a def -/
theorem fn_okN {P : Program} {w : World} {K : Fr} {mg : Str → Option Value} {base : Heap} {xr : XR} {x qual : Str} {st : Stmt} {f : Addr} {fd : FuncData} {N ps : List Str} {k : Nat} {is : IS} {sp : DSp} (F : Fun K x qual st f fd) (S : FnScope N ps (defScope st))
    (len : ∀ ds P E, sp ds P E → ds.length = ps.length)
    (body : ∀ (cdv : Value) (A : Around) (outer : List Env) (s : Shared) (H : Hp) (E : XK) (W : WX), Room k (A.deeper (envOfC qual (defScope st) s.heap.objs.size f cdv)) → (A.deeper (envOfC qual (defScope st) s.heap.objs.size f cdv)).units + 65 < cLine → Takes (cxOf (L2.CX P w) P w K mg base N qual (defScope st) f cdv A outer s H E) W →
      PassesOwn (model P w) (A.deeper (envOfC qual (defScope st) s.heap.objs.size f cdv)) (envOfC qual (defScope st) s.heap.objs.size f cdv) (cxOf (L2.CX P w) P w K mg base N qual (defScope st) f cdv A outer s H E).xe →
      LSs xr (cxOf (L2.CX P w) P w K mg base N qual (defScope st) f cdv A outer s H E) W (defBody st) is)
    (ok : ∀ ds P E, sp ds P E → is (init N.length ds) { nx := fun _ => False, rt := fun _ => False, rn := P, ex := fun x _ => E x }) : FnOk P w K mg base (L2.CX P w) (k + 1) f fd ps (liftN K xr sp) := by
  have hpl : ps.length ≤ N.length := by have := congrArg List.length S.pre; rw [List.length_take] at this; omega
  refine F.okX S (fun vs H Q E h => ?_) (fun cdv A outer s H vs Q E hr h => ?_)
  · obtain ⟨dr, I, ds, P, EP, _, r, h, _⟩ := h
    rw [r.len]
    exact len ds P EP h
  · obtain ⟨dr, I, ds, Pd, EP, pre, r, h, hex, hq⟩ := h
    have hl := len ds Pd EP h
    obtain ⟨t, pt, so⟩ := body cdv A outer s H E (fun c a _ H' => E c a H') hr (by have := hr.un; omega) (takes_of rfl rfl rfl rfl) (passes_of rfl)
    refine ⟨t, pt, so dr I H I (init N.length ds) (L2.start N vs) I H _ _ ⟨Same.refl _, fun _ _ => rfl, pre, pre, Kp.refl, env_init r (by omega), fun i d p h1 _ => ?_, Same.refl _⟩ (ok ds Pd EP h) ⟨fun _ _ _ _ z _ => z.elim, fun _ _ _ _ z _ => z, fun _ _ _ _ z _ => z, fun _ _ _ z => z.elim, fun d v H' hP k r => hq d v H' hP k r, fun x c a env σ I' H' hE s' r => hex x c a H' hE s'.kp r⟩⟩
    · unfold init at h1
      rw [sl_init] at h1
      split at h1
      · cases h1
      · rw [sl_rep] at h1; cases h1
theorem fn_neverN {P : Program} {w : World} {K : Fr} {mg : Str → Option Value} {base : Heap} {k : Nat} {f : Addr} {fd : FuncData} {ps : List Str} {xr : XR} : FnOk P w K mg base (L2.CX P w) k f fd ps (liftN K xr fun _ _ _ => False) :=
  ⟨fun vs H Q E h => by
    obtain ⟨_, _, _, _, _, _, _, h, _⟩ := h
    exact h.elim, fun A outer s H args us vs Q E hr e0 hbd r hsp => by
    obtain ⟨_, _, _, _, _, _, _, h, _⟩ := hsp
    exact h.elim⟩
end DL

set_option maxRecDepth 100000
set_option maxHeartbeats 1000000
/-! DLJ: sorted(xs) of ints, a tuple times a number. -/
namespace DL
open PySem L2 DLX PyProof.Rows
def srtD : Dt → (Dt → Prop) → Prop
  | .lst xs, P => ∃ ns : List Int, xs = ns.map Dt.int ∧ ∀ ms : List Int, ms.Perm ns → ms.Pairwise (· ≤ ·) → P (.lst (ms.map Dt.int))
  | _, _ => False
@[simp] theorem srtD_e {xs : List Dt} {P : Dt → Prop} : srtD (.lst xs) P = (∃ ns : List Int, xs = ns.map Dt.int ∧ ∀ ms : List Int, ms.Perm ns → ms.Pairwise (· ≤ ·) → P (.lst (ms.map Dt.int))) := id rfl
theorem rpl_ints {K : Fr} {dr : Dr} {I : Hp} : ∀ {ns : List Int}, RpL K dr I (ns.map V.int) (ns.map Dt.int)
  | [] => .nil
  | n :: ns => .cons (.int n) rpl_ints
theorem can_srt {K : Fr} : CaN K (rSortedI K) (f1 srtD) := by
  intro dr I H xs vs P p hs h Q q
  match xs, h with
  | [x], h =>
    obtain ⟨v, rfl, hx⟩ := shl1 hs
    replace h : srtD x P := h
    unfold srtD at h
    split at h
    · obtain ⟨ns, rfl, hP⟩ := h
      obtain ⟨a, vs, rfl, ha, r⟩ := hx.lst p.sub
      obtain rfl := r.ints
      exact ⟨a, ns, rfl, SqL.of ha, fun ms l h1 h2 hl => q _ _ _ (hP ms h1 h2) (Kp.new p hl) (new_lst p hl rpl_ints)⟩
    · exact h.elim
section
variable {xr : XR} {X : Cx} {W : WX} {a b : Expr} {ia ib : IE} {pos p : Pos}
theorem ln_fB {x : Str} {p : Pos} {id : String} {r : List V → Hp → VK → Prop} {f : List Dt → (Dt → Prop) → Prop} {e : Expr} {es : List Expr} {il : IA} (hr : CallR X (.builtin id) r) (hs : CaN X.K r f) (hg : Gl X x) (hm : X.mg x = none) (hv : bootBuiltins x = some (.builtin id)) (ha : LAO xr X W (e :: es) il)
    (hn : x ≠ "__name__" := by decide) (hdb : (x == ("__debug__" : Str)) = false := by decide)
    (he : starEach (e :: es) X.env = (false, eval e X.env) :: starEach es X.env := by rfl) (hpl : (backTo pos (starEach es X.env)).any (·.1) = false := by rfl) : LN xr X W (.Call (.Name x p) (e :: es) [] pos) (eCB f il) :=
  let ⟨_, q, s⟩ := ha; ⟨_, pe_callB hr hg hm hv q hn hdb he hpl, sndN_cb hs s⟩
theorem ln_srt (hg : Gl X "sorted") (hm : X.mg "sorted" = none) (ha : LO xr X W a ia) (hs : starEach [a] X.env = (false, eval a X.env) :: starEach [] X.env := by rfl) : LN xr X W (.Call (.Name "sorted" p) [a] [] pos) (eCB (f1 srtD) (aCons ia aNil)) :=
  ln_fB cr_sortedI can_srt hg hm (by decide +kernel) (lao_cons ha lao_nil hs) (he := hs)
/-! ### a tuple times a number -/
def repT : Dt → Dt → (Dt → Prop) → Prop
  | .tup xs, .int k, P => (-1000 ≤ k ∧ k ≤ 1000 ∧ xs.length ≤ 1000) ∧ P (.tup (List.replicate k.toNat xs).flatten)
  | _, _, _ => False
@[simp] theorem repT_e {xs : List Dt} {k : Int} {P : Dt → Prop} : repT (.tup xs) (.int k) P = ((-1000 ≤ k ∧ k ≤ 1000 ∧ xs.length ≤ 1000) ∧ P (.tup (List.replicate k.toNat xs).flatten)) := id rfl
theorem ops_repT {K : Fr} : OpS K (rRepF K) repT := by
  intro dr I H x y v u P p hx hy h Q q
  unfold repT at h
  split at h
  · obtain ⟨⟨h1, h2, h3⟩, hP⟩ := h
    obtain ⟨a, vs, rfl, ha, r⟩ := hx.tup p.sub
    rename_i xs k
    have rx : Rp K dr I (.ref a) (.tup xs) := by
      rcases hx with hx | ⟨_, _, _, _, h3⟩
      · exact hx
      · exact h3.elim
    obtain rfl := hy.int
    refine ⟨a, _, vs, rfl, rfl, ha, h1, h2, by rw [r.len]; exact h3, fun e => q _ _ _ hP Kp.refl ?_, fun _ _ l ob hob hl => q _ _ _ hP (Kp.new p hl) (rp_new_tup p hob hl (r.rep _))⟩
    rcases e with e | e
    · have : xs = [] := List.eq_nil_of_length_eq_zero (by have := r.len; rw [e] at this; exact this.symm)
      subst this
      simpa using rp_at p rx
    · subst e
      simpa using rp_at p rx
  · exact h.elim
theorem le_repT (ha : LO xr X W a ia) (hb : LO xr X W b ib) : LE xr X W (.BinOp a .Mult b pos) (eOp repT ia ib) := le_bin op_repF ops_repT ha hb
end
end DL

set_option maxRecDepth 100000
set_option maxHeartbeats 4000000
namespace KK
open PySem L2 DL DLX
def top (i : Nat) : Stmt := PySem.Challenge.pw_cogwright_k34_whole_powers.main.body.getD i (.Pass ⟨0, 0, 0, 0⟩)
abbrev s_divisor : Stmt := top 4
abbrev s_part : Stmt := top 5
abbrev s_is_part : Stmt := top 6
abbrev s_plus : Stmt := top 7
abbrev s_minus : Stmt := top 8
abbrev s_times : Stmt := top 9
abbrev s_over : Stmt := top 10
abbrev s_negative : Stmt := top 11
abbrev s_is_less : Stmt := top 12
abbrev s_total : Stmt := top 13
abbrev s_names : Stmt := top 16
abbrev s_place : Stmt := top 17
abbrev s_terms : Stmt := top 18
abbrev s_row_of : Stmt := top 19
abbrev s_rows_of : Stmt := top 20
abbrev s_loads_row : Stmt := top 21
abbrev s_reduced : Stmt := top 25
abbrev s_ways : Stmt := top 26
abbrev s_point : Stmt := top 27
abbrev s_made_of : Stmt := top 28
abbrev s_rank_of : Stmt := top 29
abbrev s_driven_rows : Stmt := top 33
abbrev s_speeds : Stmt := top 34
abbrev s_refusal : Stmt := top 35
abbrev s_drive_rows : Stmt := top 37
abbrev s_moving : Stmt := top 38
abbrev s_is_sure : Stmt := top 39
abbrev s_pushes : Stmt := top 40
abbrev s_part_flows : Stmt := top 41
abbrev s_load_flows : Stmt := top 42
abbrev s_drive_flows : Stmt := top 43
abbrev s_passed : Stmt := top 44
abbrev s_put_in : Stmt := top 45
abbrev s_circling : Stmt := top 46
abbrev s_is_balanced : Stmt := top 47
abbrev s__law_state : Stmt := top 49
abbrev s__law_take : Stmt := top 50
abbrev s__law_pick : Stmt := top 51
abbrev s__law_fr : Stmt := top 52
abbrev s__law_add : Stmt := top 53
abbrev s__law_mul : Stmt := top 54
abbrev s__law_sub : Stmt := top 55
abbrev s__law_sum : Stmt := top 56
abbrev s__law_machine : Stmt := top 57
abbrev s__law_some : Stmt := top 58
abbrev s__law_number : Stmt := top 59
abbrev s__law_part : Stmt := top 60
abbrev s__law_told : Stmt := top 61
abbrev s__law_less : Stmt := top 62
abbrev s__law_over : Stmt := top 63
abbrev s__law_turn : Stmt := top 65
abbrev s__law_terms : Stmt := top 66
abbrev s__law_row : Stmt := top 67
abbrev s__law_rows : Stmt := top 68
abbrev s__law_put_out : Stmt := top 69
abbrev s__law_rank : Stmt := top 70
abbrev s__law_ways : Stmt := top 71
abbrev s__law_free : Stmt := top 72
abbrev s__law_driven : Stmt := top 77
abbrev s__law_speeds : Stmt := top 78
abbrev s__law_word : Stmt := top 79
abbrev s__law_rests : Stmt := top 80
abbrev s__law_sure_hold : Stmt := top 81
abbrev s_law : Stmt := top 82
def c_NOUGHT_laying : Dt := (.tup [(.int 0), (.int 1)])
def c_NOUGHT_solving : Dt := (.tup [(.int 0), (.int 1)])
def c_ONE_solving : Dt := (.tup [(.int 1), (.int 1)])
def c_NOUGHT_speeds : Dt := (.tup [(.int 0), (.int 1)])
def c_ONE_speeds : Dt := (.tup [(.int 1), (.int 1)])
abbrev s_init : Stmt := initOf (top 2)
structure Txt (P : Program) (K : Fr) (mg : Str → Option Value) where
  d_divisor : Dfn K mg "divisor" s_divisor
  d_part : Dfn K mg "part" s_part
  d_is_part : Dfn K mg "is_part" s_is_part
  d_plus : Dfn K mg "plus" s_plus
  d_minus : Dfn K mg "minus" s_minus
  d_times : Dfn K mg "times" s_times
  d_over : Dfn K mg "over" s_over
  d_negative : Dfn K mg "negative" s_negative
  d_is_less : Dfn K mg "is_less" s_is_less
  d_total : Dfn K mg "total" s_total
  d_names : Dfn K mg "names" s_names
  d_place : Dfn K mg "place" s_place
  d_terms : Dfn K mg "terms" s_terms
  d_row_of : Dfn K mg "row_of" s_row_of
  d_rows_of : Dfn K mg "rows_of" s_rows_of
  d_loads_row : Dfn K mg "loads_row" s_loads_row
  d_reduced : Dfn K mg "reduced" s_reduced
  d_ways : Dfn K mg "ways" s_ways
  d_point : Dfn K mg "point" s_point
  d_made_of : Dfn K mg "made_of" s_made_of
  d_rank_of : Dfn K mg "rank_of" s_rank_of
  d_driven_rows : Dfn K mg "driven_rows" s_driven_rows
  d_speeds : Dfn K mg "speeds" s_speeds
  d_refusal : Dfn K mg "refusal" s_refusal
  d_drive_rows : Dfn K mg "drive_rows" s_drive_rows
  d_moving : Dfn K mg "moving" s_moving
  d_is_sure : Dfn K mg "is_sure" s_is_sure
  d_pushes : Dfn K mg "pushes" s_pushes
  d_part_flows : Dfn K mg "part_flows" s_part_flows
  d_load_flows : Dfn K mg "load_flows" s_load_flows
  d_drive_flows : Dfn K mg "drive_flows" s_drive_flows
  d_passed : Dfn K mg "passed" s_passed
  d_put_in : Dfn K mg "put_in" s_put_in
  d_circling : Dfn K mg "circling" s_circling
  d_is_balanced : Dfn K mg "is_balanced" s_is_balanced
  d__law_state : Dfn K mg "_law_state" s__law_state
  d__law_take : Dfn K mg "_law_take" s__law_take
  d__law_pick : Dfn K mg "_law_pick" s__law_pick
  d__law_fr : Dfn K mg "_law_fr" s__law_fr
  d__law_add : Dfn K mg "_law_add" s__law_add
  d__law_mul : Dfn K mg "_law_mul" s__law_mul
  d__law_sub : Dfn K mg "_law_sub" s__law_sub
  d__law_sum : Dfn K mg "_law_sum" s__law_sum
  d__law_machine : Dfn K mg "_law_machine" s__law_machine
  d__law_some : Dfn K mg "_law_some" s__law_some
  d__law_number : Dfn K mg "_law_number" s__law_number
  d__law_part : Dfn K mg "_law_part" s__law_part
  d__law_told : Dfn K mg "_law_told" s__law_told
  d__law_less : Dfn K mg "_law_less" s__law_less
  d__law_over : Dfn K mg "_law_over" s__law_over
  d__law_turn : Dfn K mg "_law_turn" s__law_turn
  d__law_terms : Dfn K mg "_law_terms" s__law_terms
  d__law_row : Dfn K mg "_law_row" s__law_row
  d__law_rows : Dfn K mg "_law_rows" s__law_rows
  d__law_put_out : Dfn K mg "_law_put_out" s__law_put_out
  d__law_rank : Dfn K mg "_law_rank" s__law_rank
  d__law_ways : Dfn K mg "_law_ways" s__law_ways
  d__law_free : Dfn K mg "_law_free" s__law_free
  d__law_driven : Dfn K mg "_law_driven" s__law_driven
  d__law_speeds : Dfn K mg "_law_speeds" s__law_speeds
  d__law_word : Dfn K mg "_law_word" s__law_word
  d__law_rests : Dfn K mg "_law_rests" s__law_rests
  d__law_sure_hold : Dfn K mg "_law_sure_hold" s__law_sure_hold
  d_law : Dfn K mg "law" s_law
  c_NOUGHT_laying : Cst K mg "NOUGHT_laying" c_NOUGHT_laying
  c_NOUGHT_solving : Cst K mg "NOUGHT_solving" c_NOUGHT_solving
  c_ONE_solving : Cst K mg "ONE_solving" c_ONE_solving
  c_NOUGHT_speeds : Cst K mg "NOUGHT_speeds" c_NOUGHT_speeds
  c_ONE_speeds : Cst K mg "ONE_speeds" c_ONE_speeds
  b_abs : mg "abs" = none
  b_all : mg "all" = none
  b_any : mg "any" = none
  b_bool : mg "bool" = none
  b_dict : mg "dict" = none
  b_int : mg "int" = none
  b_isinstance : mg "isinstance" = none
  b_len : mg "len" = none
  b_list : mg "list" = none
  b_range : mg "range" = none
  b_str : mg "str" = none
  b_tuple : mg "tuple" = none
  mis : Mis P K mg s_init

abbrev N_divisor : List Str := "one" :: "other" :: []
abbrev p_divisor : List Str := ["one", "other"]
def m_divisor : IS := (sSeq (sPar 0 1 (xE (eCB (f1 absD) (aCons (eVar 0) aNil))) (xE (eCB (f1 absD) (aCons (eVar 1) aNil))))
  (sSeq (sWhile (bT (eOp neD (eVar 1) (eC (.int 0)))) (sPar 0 1 (xE (eVar 1)) (xE (eOp modI (eVar 0) (eVar 1)))))
  (sRet (eVar 0))))
def sp_divisor : DSp := fun ds P E => ds.length = 2 ∧ m_divisor (init 2 ds) { nx := fun _ => P .non, rt := P, ex := fun x _ => E x }

abbrev N_part : List Str := "above" :: "below" :: "common" :: []
abbrev p_part : List Str := ["above", "below"]
def m_part : IS := (sSeq (sIf (bT (eOp ltI (eVar 1) (eC (.int 0)))) (sPar 0 1 (xE (eOp subI (eC (.int 0)) (eVar 0))) (xE (eOp subI (eC (.int 0)) (eVar 1)))) sNext)
  (sSeq (sSet 2 (xE (eCall sp_divisor (aCons (eVar 0) (aCons (eVar 1) aNil)))))
  (sRet (eTup (aCons (eOp divI (eVar 0) (eVar 2)) (aCons (eOp divI (eVar 1) (eVar 2)) aNil))))))
def sp_part : DSp := fun ds P E => ds.length = 2 ∧ m_part (init 3 ds) { nx := fun _ => P .non, rt := P, ex := fun x _ => E x }

abbrev N_is_part : List Str := "value" :: "number" :: []
abbrev p_is_part : List Str := ["value"]
def m_is_part : IS := (sSeq (sIf (bOr (bNot (bT (eIsi "tuple" (eVar 0)))) (bT (eOp neD (eCB (f1 lenD) (aCons (eVar 0) aNil)) (eC (.int 2))))) (sRet (eC (.bl false))) sNext)
  (sSeq (sIf (bNot (bT (eCB (f1 allD) (aCons (nComp [1] (iOf (eVar 0)) (gN 1) bYes (eAnd (eIsi "int" (eVar 1)) (eNot (eIsi "bool" (eVar 1))))) aNil)))) (sRet (eC (.bl false))) sNext)
  (sRet (eAnd (eOp geI (eOp ixD (eVar 0) (eC (.int 1))) (eC (.int 1))) (eOp eqD (eCall sp_divisor (aCons (eOp ixD (eVar 0) (eC (.int 0))) (aCons (eOp ixD (eVar 0) (eC (.int 1))) aNil))) (eC (.int 1)))))))
def sp_is_part : DSp := fun ds P E => ds.length = 1 ∧ m_is_part (init 2 ds) { nx := fun _ => P .non, rt := P, ex := fun x _ => E x }

abbrev N_plus : List Str := "one" :: "other" :: []
abbrev p_plus : List Str := ["one", "other"]
def m_plus : IS := (sRet (eCall sp_part (aCons (eOp addI (eOp mulI (eOp ixD (eVar 0) (eC (.int 0))) (eOp ixD (eVar 1) (eC (.int 1)))) (eOp mulI (eOp ixD (eVar 1) (eC (.int 0))) (eOp ixD (eVar 0) (eC (.int 1))))) (aCons (eOp mulI (eOp ixD (eVar 0) (eC (.int 1))) (eOp ixD (eVar 1) (eC (.int 1)))) aNil))))
def sp_plus : DSp := fun ds P E => ds.length = 2 ∧ m_plus (init 2 ds) { nx := fun _ => P .non, rt := P, ex := fun x _ => E x }

abbrev N_minus : List Str := "one" :: "other" :: []
abbrev p_minus : List Str := ["one", "other"]
def m_minus : IS := (sRet (eCall sp_part (aCons (eOp subI (eOp mulI (eOp ixD (eVar 0) (eC (.int 0))) (eOp ixD (eVar 1) (eC (.int 1)))) (eOp mulI (eOp ixD (eVar 1) (eC (.int 0))) (eOp ixD (eVar 0) (eC (.int 1))))) (aCons (eOp mulI (eOp ixD (eVar 0) (eC (.int 1))) (eOp ixD (eVar 1) (eC (.int 1)))) aNil))))
def sp_minus : DSp := fun ds P E => ds.length = 2 ∧ m_minus (init 2 ds) { nx := fun _ => P .non, rt := P, ex := fun x _ => E x }

abbrev N_times : List Str := "one" :: "other" :: []
abbrev p_times : List Str := ["one", "other"]
def m_times : IS := (sRet (eCall sp_part (aCons (eOp mulI (eOp ixD (eVar 0) (eC (.int 0))) (eOp ixD (eVar 1) (eC (.int 0)))) (aCons (eOp mulI (eOp ixD (eVar 0) (eC (.int 1))) (eOp ixD (eVar 1) (eC (.int 1)))) aNil))))
def sp_times : DSp := fun ds P E => ds.length = 2 ∧ m_times (init 2 ds) { nx := fun _ => P .non, rt := P, ex := fun x _ => E x }

abbrev N_over : List Str := "one" :: "other" :: []
abbrev p_over : List Str := ["one", "other"]
def m_over : IS := (sRet (eCall sp_part (aCons (eOp mulI (eOp ixD (eVar 0) (eC (.int 0))) (eOp ixD (eVar 1) (eC (.int 1)))) (aCons (eOp mulI (eOp ixD (eVar 0) (eC (.int 1))) (eOp ixD (eVar 1) (eC (.int 0)))) aNil))))
def sp_over : DSp := fun ds P E => ds.length = 2 ∧ m_over (init 2 ds) { nx := fun _ => P .non, rt := P, ex := fun x _ => E x }

abbrev N_negative : List Str := "one" :: []
abbrev p_negative : List Str := ["one"]
def m_negative : IS := (sRet (eTup (aCons (eOp subI (eC (.int 0)) (eOp ixD (eVar 0) (eC (.int 0)))) (aCons (eOp ixD (eVar 0) (eC (.int 1))) aNil))))
def sp_negative : DSp := fun ds P E => ds.length = 1 ∧ m_negative (init 1 ds) { nx := fun _ => P .non, rt := P, ex := fun x _ => E x }

abbrev N_is_less : List Str := "one" :: "other" :: []
abbrev p_is_less : List Str := ["one", "other"]
def m_is_less : IS := (sRet (eOp ltI (eOp mulI (eOp ixD (eVar 0) (eC (.int 0))) (eOp ixD (eVar 1) (eC (.int 1)))) (eOp mulI (eOp ixD (eVar 1) (eC (.int 0))) (eOp ixD (eVar 0) (eC (.int 1))))))
def sp_is_less : DSp := fun ds P E => ds.length = 2 ∧ m_is_less (init 2 ds) { nx := fun _ => P .non, rt := P, ex := fun x _ => E x }

abbrev N_total : List Str := "row" :: "found" :: "one" :: []
abbrev p_total : List Str := ["row"]
def m_total : IS := (sSeq (sSet 1 (xE (eTup (aCons (eC (.int 0)) (aCons (eC (.int 1)) aNil)))))
  (sSeq (sFor (iOf (eVar 0)) (gN 2) (sSet 1 (xE (eCall sp_plus (aCons (eVar 1) (aCons (eVar 2) aNil))))))
  (sRet (eVar 1))))
def sp_total : DSp := fun ds P E => ds.length = 1 ∧ m_total (init 3 ds) { nx := fun _ => P .non, rt := P, ex := fun x _ => E x }

abbrev N_names : List Str := "machine" :: "name" :: "kind" :: []
abbrev p_names : List Str := ["machine"]
def m_names : IS := (sRet (nComp [1, 2] (iOf (eOp ixD (eVar 0) (eC (.int 1)))) (gT 2 (gsCons (gN 1) (gsCons (gN 2) gsNil))) bYes (eVar 1)))
def sp_names : DSp := fun ds P E => ds.length = 1 ∧ m_names (init 3 ds) { nx := fun _ => P .non, rt := P, ex := fun x _ => E x }

abbrev N_place : List Str := "machine" :: "name" :: "told" :: []
abbrev p_place : List Str := ["machine", "name"]
def m_place : IS := (sSeq (sSet 2 (xE (eCall sp_names (aCons (eVar 0) aNil))))
  (sSeq (sIf (bT (eOp niL (eVar 1) (eVar 2))) (sRaise "Misstep" (aCons (eC (.str (PySem.Str.ofString "thing"))) aNil)) sNext)
  (sRet (eLidx (eVar 2) (eVar 1)))))
def sp_place : DSp := fun ds P E => ds.length = 2 ∧ m_place (init 3 ds) { nx := fun _ => P .non, rt := P, ex := fun x _ => E x }

abbrev N_terms : List Str := "part" :: "word" :: "rest" :: []
abbrev p_terms : List Str := ["part"]
def t1_terms : IS := (sRet (eLst (aCons (eTup (aCons (eOp ixD (eVar 2) (eC (.int 0))) (aCons (eC (.int 1)) aNil))) (aCons (eTup (aCons (eOp ixD (eVar 2) (eC (.int 1))) (aCons (eC (.int 1)) aNil))) (aCons (eTup (aCons (eOp ixD (eVar 2) (eC (.int 2))) (aCons (eOp subI (eC (.int 0)) (eC (.int 2))) aNil))) aNil)))))
def t2_terms : IS := (sSeq (sIf (bT (eOp eqD (eVar 1) (eC (.str (PySem.Str.ofString "rope"))))) (sRet (eLst (aCons (eTup (aCons (eOp ixD (eVar 2) (eC (.int 0))) (aCons (eOp ixD (eVar 2) (eC (.int 1))) aNil))) (aCons (eTup (aCons (eOp ixD (eVar 2) (eC (.int 2))) (aCons (eOp ixD (eVar 2) (eC (.int 3))) aNil))) aNil)))) sNext)
  t1_terms)
def t3_terms : IS := (sSeq (sIf (bT (eOp eqD (eVar 1) (eC (.str (PySem.Str.ofString "rack"))))) (sRet (eLst (aCons (eTup (aCons (eOp ixD (eVar 2) (eC (.int 0))) (aCons (eC (.int 1)) aNil))) (aCons (eTup (aCons (eOp ixD (eVar 2) (eC (.int 1))) (aCons (eOp subI (eC (.int 0)) (eOp ixD (eVar 2) (eC (.int 2)))) aNil))) aNil)))) sNext)
  t2_terms)
def t4_terms : IS := (sSeq (sIf (bT (eOp eqD (eVar 1) (eC (.str (PySem.Str.ofString "fix"))))) (sRet (eLst (aCons (eTup (aCons (eOp ixD (eVar 2) (eC (.int 0))) (aCons (eC (.int 1)) aNil))) aNil))) sNext)
  t3_terms)
def t5_terms : IS := (sSeq (sIf (bT (eOp eqD (eVar 1) (eC (.str (PySem.Str.ofString "tie"))))) (sRet (eLst (aCons (eTup (aCons (eOp ixD (eVar 2) (eC (.int 0))) (aCons (eC (.int 1)) aNil))) (aCons (eTup (aCons (eOp ixD (eVar 2) (eC (.int 1))) (aCons (eOp subI (eC (.int 0)) (eC (.int 1))) aNil))) aNil)))) sNext)
  t4_terms)
def t6_terms : IS := (sSeq (sIf (bT (eOp eqD (eVar 1) (eC (.str (PySem.Str.ofString "under"))))) (sRet (eLst (aCons (eTup (aCons (eOp ixD (eVar 2) (eC (.int 1))) (aCons (eOp ixD (eVar 2) (eC (.int 2))) aNil))) (aCons (eTup (aCons (eOp ixD (eVar 2) (eC (.int 3))) (aCons (eOp subI (eC (.int 0)) (eOp ixD (eVar 2) (eC (.int 4)))) aNil))) (aCons (eTup (aCons (eOp ixD (eVar 2) (eC (.int 0))) (aCons (eOp subI (eOp ixD (eVar 2) (eC (.int 4))) (eOp ixD (eVar 2) (eC (.int 2)))) aNil))) aNil))))) sNext)
  t5_terms)
def t7_terms : IS := (sSeq (sIf (bT (eOp eqD (eVar 1) (eC (.str (PySem.Str.ofString "over"))))) (sRet (eLst (aCons (eTup (aCons (eOp ixD (eVar 2) (eC (.int 1))) (aCons (eOp ixD (eVar 2) (eC (.int 2))) aNil))) (aCons (eTup (aCons (eOp ixD (eVar 2) (eC (.int 3))) (aCons (eOp ixD (eVar 2) (eC (.int 4))) aNil))) (aCons (eTup (aCons (eOp ixD (eVar 2) (eC (.int 0))) (aCons (eOp subI (eOp subI (eC (.int 0)) (eOp ixD (eVar 2) (eC (.int 2)))) (eOp ixD (eVar 2) (eC (.int 4)))) aNil))) aNil))))) sNext)
  t6_terms)
def t8_terms : IS := (sSeq (sIf (bT (eOp inL (eVar 1) (eTup (aCons (eC (.str (PySem.Str.ofString "ring"))) (aCons (eC (.str (PySem.Str.ofString "belt"))) aNil))))) (sRet (eLst (aCons (eTup (aCons (eOp ixD (eVar 2) (eC (.int 0))) (aCons (eOp ixD (eVar 2) (eC (.int 1))) aNil))) (aCons (eTup (aCons (eOp ixD (eVar 2) (eC (.int 2))) (aCons (eOp subI (eC (.int 0)) (eOp ixD (eVar 2) (eC (.int 3)))) aNil))) aNil)))) sNext)
  t7_terms)
def t9_terms : IS := (sSeq (sIf (bT (eOp inL (eVar 1) (eTup (aCons (eC (.str (PySem.Str.ofString "gear"))) (aCons (eC (.str (PySem.Str.ofString "cross"))) aNil))))) (sRet (eLst (aCons (eTup (aCons (eOp ixD (eVar 2) (eC (.int 0))) (aCons (eOp ixD (eVar 2) (eC (.int 1))) aNil))) (aCons (eTup (aCons (eOp ixD (eVar 2) (eC (.int 2))) (aCons (eOp ixD (eVar 2) (eC (.int 3))) aNil))) aNil)))) sNext)
  t8_terms)
def m_terms : IS := (sSeq (sPar 1 2 (xE (eOp ixD (eVar 0) (eC (.int 0)))) (xE (eSl slD (eVar 0) (pAt (eC (.int 1))) pNo)))
  t9_terms)
def sp_terms : DSp := fun ds P E => ds.length = 1 ∧ m_terms (init 3 ds) { nx := fun _ => P .non, rt := P, ex := fun x _ => E x }

abbrev N_row_of : List Str := "machine" :: "part" :: "found" :: "name" :: "number" :: "spot" :: []
abbrev p_row_of : List Str := ["machine", "part"]
def m_row_of : IS := (sSeq (sSet 2 (xN (eOp repL (eLst (aCons (eC c_NOUGHT_laying) aNil)) (eCB (f1 lenD) (aCons (eOp ixD (eVar 0) (eC (.int 1))) aNil)))))
  (sSeq (sFor (iOf (eCall sp_terms (aCons (eVar 1) aNil))) (gT 2 (gsCons (gN 3) (gsCons (gN 4) gsNil))) (sSeq (sSet 5 (xE (eCall sp_place (aCons (eVar 0) (aCons (eVar 3) aNil)))))
  (sSetAt 2 (eVar 5) (eCall sp_plus (aCons (eOp ixD (oVar 2) (eVar 5)) (aCons (eTup (aCons (eVar 4) (aCons (eC (.int 1)) aNil))) aNil))))))
  (sRet (eCB (f1 tupD) (aCons (oVar 2) aNil)))))
def sp_row_of : DSp := fun ds P E => ds.length = 2 ∧ m_row_of (init 6 ds) { nx := fun _ => P .non, rt := P, ex := fun x _ => E x }

abbrev N_rows_of : List Str := "machine" :: "part" :: []
abbrev p_rows_of : List Str := ["machine"]
def m_rows_of : IS := (sRetO (nComp [1] (iOf (eOp ixD (eVar 0) (eC (.int 2)))) (gN 1) bYes (eCall sp_row_of (aCons (eVar 0) (aCons (eVar 1) aNil)))))
def sp_rows_of : DSp := fun ds P E => ds.length = 1 ∧ m_rows_of (init 2 ds) { nx := fun _ => False, rt := fun _ => False, rn := P, ex := fun x _ => E x }

abbrev N_loads_row : List Str := "machine" :: "told" :: "name" :: []
abbrev p_loads_row : List Str := ["machine"]
def m_loads_row : IS := (sSeq (sSet 1 (xE (eCB (f1 dictP) (aCons (eOp ixD (eVar 0) (eC (.int 4))) aNil))))
  (sRet (eCB (f1 tupD) (aCons (nComp [2] (iOf (eCall sp_names (aCons (eVar 0) aNil))) (gN 2) bYes (eGet2 (eVar 1) (eVar 2) (eC c_NOUGHT_laying))) aNil))))
def sp_loads_row : DSp := fun ds P E => ds.length = 1 ∧ m_loads_row (init 3 ds) { nx := fun _ => P .non, rt := P, ex := fun x _ => E x }

abbrev N_reduced : List Str := "rows" :: "wide" :: "lines" :: "leads" :: "column" :: "ready" :: "spot" :: "k" :: "factor" :: "row" :: "one" :: "c" :: []
abbrev p_reduced : List Str := ["rows", "wide"]
def m_reduced : IS := (sSeq (sMany [2, 3] (xCons (xN (nComp [9] (iOf (eVar 0)) (gN 9) bYes (eCB (f1 lstD) (aCons (eVar 9) aNil)))) (xCons (xN (eLst aNil)) xNil)))
  (sSeq (sFor (iRange1 (aCons (eVar 1) aNil)) (gN 4) (sSeq (sSet 5 (xE (nComp [7] (iRange2 (aCons (eCB (f1 lenD) (aCons (oVar 3) aNil)) (aCons (eCB (f1 lenD) (aCons (oVar 2) aNil)) aNil))) (gN 7) (bT (eOp neD (eOp ixD (eOp ixD (eOp ixD (oVar 2) (eVar 7)) (eVar 4)) (eC (.int 0))) (eC (.int 0)))) (eVar 7))))
  (sIf (bT (eOp gtI (eCB (f1 lenD) (aCons (eVar 5) aNil)) (eC (.int 0)))) (sSeq (sSet 6 (xE (eCB (f1 lenD) (aCons (oVar 3) aNil))))
  (sSeq (sAsg (eTup (aCons (eOp ixD (oVar 2) (eOp ixD (eVar 5) (eC (.int 0)))) (aCons (eOp ixD (oVar 2) (eVar 6)) aNil))) (tgT 2 (tgsCons (tgSub 2 (eVar 6)) (tgsCons (tgSub 2 (eOp ixD (eVar 5) (eC (.int 0)))) tgsNil))))
  (sSeq (sSetAt 2 (eVar 6) (nComp [10] (iOf (eOp ixD (oVar 2) (eVar 6))) (gN 10) bYes (eCall sp_over (aCons (eVar 10) (aCons (eOp ixD (eOp ixD (oVar 2) (eVar 6)) (eVar 4)) aNil)))))
  (sSeq (sFor (iRange1 (aCons (eCB (f1 lenD) (aCons (oVar 2) aNil)) aNil)) (gN 7) (sIf (bAnd (bT (eOp neD (eVar 7) (eVar 6))) (bT (eOp neD (eOp ixD (eOp ixD (eOp ixD (oVar 2) (eVar 7)) (eVar 4)) (eC (.int 0))) (eC (.int 0))))) (sSeq (sSet 8 (xE (eOp ixD (eOp ixD (oVar 2) (eVar 7)) (eVar 4))))
  (sSetAt 2 (eVar 7) (nComp [11] (iRange1 (aCons (eCB (f1 lenD) (aCons (eOp ixD (oVar 2) (eVar 7)) aNil)) aNil)) (gN 11) bYes (eCall sp_minus (aCons (eOp ixD (eOp ixD (oVar 2) (eVar 7)) (eVar 11)) (aCons (eCall sp_times (aCons (eVar 8) (aCons (eOp ixD (eOp ixD (oVar 2) (eVar 6)) (eVar 11)) aNil))) aNil)))))) sNext))
  (sApp 3 (eVar 4)))))) sNext)))
  (sFrz 2 (sFrz 3 (sRet (eTup (aCons (eVar 2) (aCons (eVar 3) aNil))))))))
def sp_reduced : DSp := fun ds P E => ds.length = 2 ∧ m_reduced (init 12 ds) { nx := fun _ => P .non, rt := P, ex := fun x _ => E x }

abbrev N_ways : List Str := "rows" :: "wide" :: "lines" :: "leads" :: "found" :: "column" :: "row" :: "k" :: []
abbrev p_ways : List Str := ["rows", "wide"]
def m_ways : IS := (sSeq (sAsg (eCall sp_reduced (aCons (eVar 0) (aCons (eVar 1) aNil))) (tgT 2 (tgsCons (tgN 2) (tgsCons (tgN 3) tgsNil))))
  (sSeq (sSet 4 (xN (eLst aNil)))
  (sSeq (sFor (iRange1 (aCons (eVar 1) aNil)) (gN 5) (sIf (bT (eOp niL (eVar 5) (eVar 3))) (sSeq (sSet 6 (xN (eOp repL (eLst (aCons (eC c_NOUGHT_solving) aNil)) (eVar 1))))
  (sSeq (sSetAt 6 (eVar 5) (eC c_ONE_solving))
  (sSeq (sFor (iRange1 (aCons (eCB (f1 lenD) (aCons (eVar 3) aNil)) aNil)) (gN 7) (sSetAt 6 (eOp ixD (eVar 3) (eVar 7)) (eCall sp_negative (aCons (eOp ixD (eOp ixD (eVar 2) (eVar 7)) (eVar 5)) aNil))))
  (sApp 4 (eCB (f1 tupD) (aCons (oVar 6) aNil)))))) sNext))
  (sFrz 4 (sRet (eVar 4))))))
def sp_ways : DSp := fun ds P E => ds.length = 2 ∧ m_ways (init 8 ds) { nx := fun _ => P .non, rt := P, ex := fun x _ => E x }

abbrev N_point : List Str := "rows" :: "goals" :: "wide" :: "lines" :: "leads" :: "found" :: "k" :: "line" :: []
abbrev p_point : List Str := ["rows", "goals", "wide"]
def m_point : IS := (sSeq (sAsg (eCall sp_reduced (aCons (nComp [6] (iRange1 (aCons (eCB (f1 lenD) (aCons (eVar 0) aNil)) aNil)) (gN 6) bYes (eOp catL (eCB (f1 lstD) (aCons (eOp ixD (eVar 0) (eVar 6)) aNil)) (eLst (aCons (eOp ixD (eVar 1) (eVar 6)) aNil)))) (aCons (eVar 2) aNil))) (tgT 2 (tgsCons (tgN 3) (tgsCons (tgN 4) tgsNil))))
  (sSeq (sIf (bT (eCB (f1 anyD) (aCons (nComp [7] (iOf (eSl slD (eVar 3) (pAt (eCB (f1 lenD) (aCons (eVar 4) aNil))) pNo)) (gN 7) bYes (eOp neD (eOp ixD (eOp ixD (eVar 7) (eVar 2)) (eC (.int 0))) (eC (.int 0)))) aNil))) (sRet (eC .non)) sNext)
  (sSeq (sSet 5 (xN (eOp repL (eLst (aCons (eC c_NOUGHT_solving) aNil)) (eVar 2))))
  (sSeq (sFor (iRange1 (aCons (eCB (f1 lenD) (aCons (eVar 4) aNil)) aNil)) (gN 6) (sSetAt 5 (eOp ixD (eVar 4) (eVar 6)) (eOp ixD (eOp ixD (eVar 3) (eVar 6)) (eVar 2))))
  (sRet (eCB (f1 tupD) (aCons (oVar 5) aNil)))))))
def sp_point : DSp := fun ds P E => ds.length = 3 ∧ m_point (init 8 ds) { nx := fun _ => P .non, rt := P, ex := fun x _ => E x }

abbrev N_made_of : List Str := "rows" :: "goal" :: "columns" :: "c" :: "row" :: []
abbrev p_made_of : List Str := ["rows", "goal"]
def m_made_of : IS := (sSeq (sSet 2 (xE (nComp [3] (iRange1 (aCons (eCB (f1 lenD) (aCons (eVar 1) aNil)) aNil)) (gN 3) bYes (nComp [4] (iOf (eVar 0)) (gN 4) bYes (eOp ixD (eVar 4) (eVar 3))))))
  (sRet (eCall sp_point (aCons (eVar 2) (aCons (eCB (f1 lstD) (aCons (eVar 1) aNil)) (aCons (eCB (f1 lenD) (aCons (eVar 0) aNil)) aNil))))))
def sp_made_of : DSp := fun ds P E => ds.length = 2 ∧ m_made_of (init 5 ds) { nx := fun _ => P .non, rt := P, ex := fun x _ => E x }

abbrev N_rank_of : List Str := "rows" :: "wide" :: []
abbrev p_rank_of : List Str := ["rows", "wide"]
def m_rank_of : IS := (sRet (eCB (f1 lenD) (aCons (eOp ixD (eCall sp_reduced (aCons (eVar 0) (aCons (eVar 1) aNil))) (eC (.int 1))) aNil)))
def sp_rank_of : DSp := fun ds P E => ds.length = 2 ∧ m_rank_of (init 2 ds) { nx := fun _ => P .non, rt := P, ex := fun x _ => E x }

abbrev N_driven_rows : List Str := "machine" :: "rows" :: "goals" :: "name" :: "told" :: "row" :: []
abbrev p_driven_rows : List Str := ["machine"]
def m_driven_rows : IS := (sSeq (sPar 1 2 (xN (eCall sp_rows_of (aCons (eVar 0) aNil))) (xN (eOp repL (eLst (aCons (eC c_NOUGHT_speeds) aNil)) (eCB (f1 lenD) (aCons (eOp ixD (eVar 0) (eC (.int 2))) aNil)))))
  (sSeq (sFor (iOf (eOp ixD (eVar 0) (eC (.int 3)))) (gT 2 (gsCons (gN 3) (gsCons (gN 4) gsNil))) (sSeq (sSet 5 (xN (eOp repL (eLst (aCons (eC c_NOUGHT_speeds) aNil)) (eCB (f1 lenD) (aCons (eOp ixD (eVar 0) (eC (.int 1))) aNil)))))
  (sSeq (sSetAt 5 (eCall sp_place (aCons (eVar 0) (aCons (eVar 3) aNil))) (eC c_ONE_speeds))
  (sSeq (sApp 1 (eCB (f1 tupD) (aCons (oVar 5) aNil)))
  (sApp 2 (eVar 4))))))
  (sFrz 1 (sFrz 2 (sRet (eTup (aCons (eVar 1) (aCons (eVar 2) aNil))))))))
def sp_driven_rows : DSp := fun ds P E => ds.length = 1 ∧ m_driven_rows (init 6 ds) { nx := fun _ => P .non, rt := P, ex := fun x _ => E x }

abbrev N_refusal : List Str := "rows" :: "goals" :: "wide" :: "full" :: "k" :: []
abbrev p_refusal : List Str := ["rows", "goals", "wide"]
def m_refusal : IS := (sSeq (sSet 3 (xE (nComp [4] (iRange1 (aCons (eCB (f1 lenD) (aCons (eVar 0) aNil)) aNil)) (gN 4) bYes (eOp catL (eCB (f1 lstD) (aCons (eOp ixD (eVar 0) (eVar 4)) aNil)) (eLst (aCons (eOp ixD (eVar 1) (eVar 4)) aNil))))))
  (sRet (eCall sp_made_of (aCons (eVar 3) (aCons (eOp catT (eOp repT (eTup (aCons (eC c_NOUGHT_speeds) aNil)) (eVar 2)) (eTup (aCons (eC c_ONE_speeds) aNil))) aNil)))))
def sp_refusal : DSp := fun ds P E => ds.length = 3 ∧ m_refusal (init 5 ds) { nx := fun _ => P .non, rt := P, ex := fun x _ => E x }

abbrev N_speeds : List Str := "machine" :: "rows" :: "goals" :: "wide" :: "told" :: "more" :: []
abbrev p_speeds : List Str := ["machine"]
def m_speeds : IS := (sSeq (sAsg (eCall sp_driven_rows (aCons (eVar 0) aNil)) (tgT 2 (tgsCons (tgN 1) (tgsCons (tgN 2) tgsNil))))
  (sSeq (sSet 3 (xE (eCB (f1 lenD) (aCons (eOp ixD (eVar 0) (eC (.int 1))) aNil))))
  (sSeq (sSet 4 (xE (eCall sp_point (aCons (eVar 1) (aCons (eVar 2) (aCons (eVar 3) aNil))))))
  (sSeq (sIf (bT (eOp isN (eVar 4) (eC .non))) (sRet (eTup (aCons (eC (.str (PySem.Str.ofString "none"))) (aCons (eCall sp_refusal (aCons (eVar 1) (aCons (eVar 2) (aCons (eVar 3) aNil)))) aNil)))) sNext)
  (sSeq (sSet 5 (xE (eCall sp_ways (aCons (eVar 1) (aCons (eVar 3) aNil)))))
  (sRet (eIf (bT (eOp eqD (eVar 5) (eLst aNil))) (eTup (aCons (eC (.str (PySem.Str.ofString "one"))) (aCons (eVar 4) aNil))) (eTup (aCons (eC (.str (PySem.Str.ofString "many"))) (aCons (eVar 4) (aCons (eCB (f1 tupD) (aCons (eVar 5) aNil)) aNil)))))))))))
def sp_speeds : DSp := fun ds P E => ds.length = 1 ∧ m_speeds (init 6 ds) { nx := fun _ => P .non, rt := P, ex := fun x _ => E x }

abbrev N_drive_rows : List Str := "machine" :: "told" :: "name" :: "part" :: "one" :: []
abbrev p_drive_rows : List Str := ["machine"]
def m_drive_rows : IS := (sSeq (sSet 1 (xE (eCall sp_names (aCons (eVar 0) aNil))))
  (sRet (nComp [2, 3] (iOf (eOp ixD (eVar 0) (eC (.int 3)))) (gT 2 (gsCons (gN 2) (gsCons (gN 3) gsNil))) bYes (eCB (f1 tupD) (aCons (nComp [4] (iOf (eVar 1)) (gN 4) bYes (eIf (bT (eOp eqD (eVar 4) (eVar 2))) (eTup (aCons (eC (.int 1)) (aCons (eC (.int 1)) aNil))) (eTup (aCons (eC (.int 0)) (aCons (eC (.int 1)) aNil))))) aNil)))))
def sp_drive_rows : DSp := fun ds P E => ds.length = 1 ∧ m_drive_rows (init 5 ds) { nx := fun _ => P .non, rt := P, ex := fun x _ => E x }

abbrev N_moving : List Str := "machine" :: "told" :: []
abbrev p_moving : List Str := ["machine"]
def m_moving : IS := (sSeq (sSet 1 (xE (eCall sp_speeds (aCons (eVar 0) aNil))))
  (sSeq (sIf (bT (eOp neD (eOp ixD (eVar 1) (eC (.int 0))) (eC (.str (PySem.Str.ofString "one"))))) (sRaise "Misstep" (aCons (eIf (bT (eOp eqD (eOp ixD (eVar 1) (eC (.int 0))) (eC (.str (PySem.Str.ofString "many"))))) (eC (.str (PySem.Str.ofString "loose"))) (eC (.str (PySem.Str.ofString "clash")))) aNil)) sNext)
  (sRet (eOp ixD (eVar 1) (eC (.int 1))))))
def sp_moving : DSp := fun ds P E => ds.length = 1 ∧ m_moving (init 2 ds) { nx := fun _ => P .non, rt := P, ex := fun x _ => E x }

abbrev N_is_sure : List Str := "machine" :: "rows" :: []
abbrev p_is_sure : List Str := ["machine"]
def m_is_sure : IS := (sSeq (sSet 1 (xE (eOp addD (eCall sp_rows_of (aCons (eVar 0) aNil)) (eCall sp_drive_rows (aCons (eVar 0) aNil)))))
  (sRet (eOp eqD (eCall sp_rank_of (aCons (eVar 1) (aCons (eCB (f1 lenD) (aCons (eOp ixD (eVar 0) (eC (.int 1))) aNil)) aNil))) (eCB (f1 lenD) (aCons (eVar 1) aNil)))))
def sp_is_sure : DSp := fun ds P E => ds.length = 1 ∧ m_is_sure (init 2 ds) { nx := fun _ => P .non, rt := P, ex := fun x _ => E x }

abbrev N_pushes : List Str := "machine" :: "rows" :: "told" :: "many" :: "one" :: []
abbrev p_pushes : List Str := ["machine"]
def m_pushes : IS := (sSeq (sDrop (eCall sp_moving (aCons (eVar 0) aNil)))
  (sSeq (sIf (bNot (bT (eCall sp_is_sure (aCons (eVar 0) aNil)))) (sRaise "Misstep" (aCons (eC (.str (PySem.Str.ofString "spare"))) aNil)) sNext)
  (sSeq (sSet 1 (xE (eOp addD (eCall sp_rows_of (aCons (eVar 0) aNil)) (eCall sp_drive_rows (aCons (eVar 0) aNil)))))
  (sSeq (sSet 2 (xE (eCall sp_made_of (aCons (eVar 1) (aCons (eCB (f1 tupD) (aCons (nComp [4] (iOf (eCall sp_loads_row (aCons (eVar 0) aNil))) (gN 4) bYes (eCall sp_negative (aCons (eVar 4) aNil))) aNil)) aNil)))))
  (sSeq (sSet 3 (xE (eCB (f1 lenD) (aCons (eOp ixD (eVar 0) (eC (.int 2))) aNil))))
  (sRet (eTup (aCons (eCB (f1 tupD) (aCons (eSl slD (eVar 2) pNo (pAt (eVar 3))) aNil)) (aCons (eCB (f1 tupD) (aCons (eSl slD (eVar 2) (pAt (eVar 3)) pNo) aNil)) aNil)))))))))
def sp_pushes : DSp := fun ds P E => ds.length = 1 ∧ m_pushes (init 5 ds) { nx := fun _ => P .non, rt := P, ex := fun x _ => E x }

abbrev N_part_flows : List Str := "machine" :: "told" :: "rows" :: "bear" :: "found" :: "k" :: "j" :: []
abbrev p_part_flows : List Str := ["machine"]
def m_part_flows : IS := (sSeq (sMany [1, 2, 3] (xCons (xE (eCall sp_moving (aCons (eVar 0) aNil))) (xCons (xE (eCall sp_rows_of (aCons (eVar 0) aNil))) (xCons (xE (eOp ixD (eCall sp_pushes (aCons (eVar 0) aNil)) (eC (.int 0)))) xNil))))
  (sSeq (sSet 4 (xN (eLst aNil)))
  (sSeq (sFor (iRange1 (aCons (eCB (f1 lenD) (aCons (eVar 2) aNil)) aNil)) (gN 5) (sApp 4 (eCB (f1 tupD) (aCons (nComp [6] (iRange1 (aCons (eCB (f1 lenD) (aCons (eVar 1) aNil)) aNil)) (gN 6) bYes (eCall sp_times (aCons (eCall sp_times (aCons (eOp ixD (eVar 3) (eVar 5)) (aCons (eOp ixD (eOp ixD (eVar 2) (eVar 5)) (eVar 6)) aNil))) (aCons (eOp ixD (eVar 1) (eVar 6)) aNil)))) aNil))))
  (sFrz 4 (sRet (eVar 4))))))
def sp_part_flows : DSp := fun ds P E => ds.length = 1 ∧ m_part_flows (init 7 ds) { nx := fun _ => P .non, rt := P, ex := fun x _ => E x }

abbrev N_load_flows : List Str := "machine" :: "told" :: "loads" :: "j" :: []
abbrev p_load_flows : List Str := ["machine"]
def m_load_flows : IS := (sSeq (sMany [1, 2] (xCons (xE (eCall sp_moving (aCons (eVar 0) aNil))) (xCons (xE (eCall sp_loads_row (aCons (eVar 0) aNil))) xNil)))
  (sRet (eCB (f1 tupD) (aCons (nComp [3] (iRange1 (aCons (eCB (f1 lenD) (aCons (eVar 1) aNil)) aNil)) (gN 3) bYes (eCall sp_times (aCons (eOp ixD (eVar 2) (eVar 3)) (aCons (eOp ixD (eVar 1) (eVar 3)) aNil)))) aNil))))
def sp_load_flows : DSp := fun ds P E => ds.length = 1 ∧ m_load_flows (init 4 ds) { nx := fun _ => P .non, rt := P, ex := fun x _ => E x }

abbrev N_drive_flows : List Str := "machine" :: "told" :: "given" :: "order" :: "k" :: []
abbrev p_drive_flows : List Str := ["machine"]
def m_drive_flows : IS := (sSeq (sMany [1, 2, 3] (xCons (xE (eCall sp_moving (aCons (eVar 0) aNil))) (xCons (xE (eOp ixD (eCall sp_pushes (aCons (eVar 0) aNil)) (eC (.int 1)))) (xCons (xE (eCall sp_names (aCons (eVar 0) aNil))) xNil))))
  (sRet (eCB (f1 tupD) (aCons (nComp [4] (iRange1 (aCons (eCB (f1 lenD) (aCons (eVar 2) aNil)) aNil)) (gN 4) bYes (eCall sp_times (aCons (eOp ixD (eVar 2) (eVar 4)) (aCons (eOp ixD (eVar 1) (eLidx (eVar 3) (eOp ixD (eOp ixD (eOp ixD (eVar 0) (eC (.int 3))) (eVar 4)) (eC (.int 0))))) aNil)))) aNil))))
def sp_drive_flows : DSp := fun ds P E => ds.length = 1 ∧ m_drive_flows (init 5 ds) { nx := fun _ => P .non, rt := P, ex := fun x _ => E x }

abbrev N_passed : List Str := "machine" :: "row" :: "one" :: []
abbrev p_passed : List Str := ["machine"]
def m_passed : IS := (sRet (nComp [1] (iOf (eCall sp_part_flows (aCons (eVar 0) aNil))) (gN 1) bYes (eCall sp_total (aCons (nComp [2] (iOf (eVar 1)) (gN 2) (bT (eOp gtI (eOp ixD (eVar 2) (eC (.int 0))) (eC (.int 0)))) (eVar 2)) aNil))))
def sp_passed : DSp := fun ds P E => ds.length = 1 ∧ m_passed (init 3 ds) { nx := fun _ => P .non, rt := P, ex := fun x _ => E x }

abbrev N_put_in : List Str := "machine" :: "told" :: "one" :: []
abbrev p_put_in : List Str := ["machine"]
def m_put_in : IS := (sSeq (sSet 1 (xE (nComp [2] (iOf (eOp addD (eCall sp_drive_flows (aCons (eVar 0) aNil)) (eCall sp_load_flows (aCons (eVar 0) aNil)))) (gN 2) (bT (eOp gtI (eOp ixD (eVar 2) (eC (.int 0))) (eC (.int 0)))) (eVar 2))))
  (sRet (eCall sp_total (aCons (eVar 1) aNil))))
def sp_put_in : DSp := fun ds P E => ds.length = 1 ∧ m_put_in (init 3 ds) { nx := fun _ => P .non, rt := P, ex := fun x _ => E x }

abbrev N_circling : List Str := "machine" :: "told" :: "whole" :: "k" :: []
abbrev p_circling : List Str := ["machine"]
def m_circling : IS := (sSeq (sMany [1, 2] (xCons (xE (eCall sp_passed (aCons (eVar 0) aNil))) (xCons (xE (eCall sp_put_in (aCons (eVar 0) aNil))) xNil)))
  (sRet (nComp [3] (iRange1 (aCons (eCB (f1 lenD) (aCons (eVar 1) aNil)) aNil)) (gN 3) (bT (eCall sp_is_less (aCons (eVar 2) (aCons (eOp ixD (eVar 1) (eVar 3)) aNil)))) (eVar 3))))
def sp_circling : DSp := fun ds P E => ds.length = 1 ∧ m_circling (init 4 ds) { nx := fun _ => P .non, rt := P, ex := fun x _ => E x }

abbrev N_is_balanced : List Str := "machine" :: "value" :: "rows" :: "shares" :: "loads" :: "j" :: "one" :: "row" :: "k" :: []
abbrev p_is_balanced : List Str := ["machine", "value"]
def t1_is_balanced : IS := (sRet (eC (.bl true)))
def t2_is_balanced : IS := (sSeq (sFor (iRange1 (aCons (eCB (f1 lenD) (aCons (eVar 4) aNil)) aNil)) (gN 5) (sIf (bT (eOp neD (eOp ixD (eCall sp_plus (aCons (eOp ixD (eVar 4) (eVar 5)) (aCons (eCall sp_total (aCons (nComp [8] (iRange1 (aCons (eCB (f1 lenD) (aCons (eVar 2) aNil)) aNil)) (gN 8) bYes (eCall sp_times (aCons (eOp ixD (eVar 3) (eVar 8)) (aCons (eOp ixD (eOp ixD (eVar 2) (eVar 8)) (eVar 5)) aNil)))) aNil)) aNil))) (eC (.int 0))) (eC (.int 0)))) (sRet (eC (.bl false))) sNext))
  t1_is_balanced)
def t3_is_balanced : IS := (sSeq (sSet 4 (xE (eCall sp_loads_row (aCons (eVar 0) aNil))))
  t2_is_balanced)
def t4_is_balanced : IS := (sSeq (sMany [2, 3] (xCons (xE (eOp addD (eCall sp_rows_of (aCons (eVar 0) aNil)) (eCall sp_drive_rows (aCons (eVar 0) aNil)))) (xCons (xE (eOp addD (eOp ixD (eVar 1) (eC (.int 0))) (eOp ixD (eVar 1) (eC (.int 1))))) xNil)))
  t3_is_balanced)
def t5_is_balanced : IS := (sSeq (sIf (bNot (bT (eCB (f1 allD) (aCons (nComp [6] (iOf (eOp addD (eOp ixD (eVar 1) (eC (.int 0))) (eOp ixD (eVar 1) (eC (.int 1))))) (gN 6) bYes (eCall sp_is_part (aCons (eVar 6) aNil))) aNil)))) (sRet (eC (.bl false))) sNext)
  t4_is_balanced)
def t6_is_balanced : IS := (sSeq (sIf (bOr (bT (eOp neD (eCB (f1 lenD) (aCons (eOp ixD (eVar 1) (eC (.int 0))) aNil)) (eCB (f1 lenD) (aCons (eOp ixD (eVar 0) (eC (.int 2))) aNil)))) (bT (eOp neD (eCB (f1 lenD) (aCons (eOp ixD (eVar 1) (eC (.int 1))) aNil)) (eCB (f1 lenD) (aCons (eOp ixD (eVar 0) (eC (.int 3))) aNil))))) (sRet (eC (.bl false))) sNext)
  t5_is_balanced)
def t7_is_balanced : IS := (sSeq (sIf (bOr (bNot (bT (eIsi "tuple" (eVar 1)))) (bOr (bT (eOp neD (eCB (f1 lenD) (aCons (eVar 1) aNil)) (eC (.int 2)))) (bNot (bT (eCB (f1 allD) (aCons (nComp [7] (iOf (eVar 1)) (gN 7) bYes (eIsi "tuple" (eVar 7))) aNil)))))) (sRet (eC (.bl false))) sNext)
  t6_is_balanced)
def m_is_balanced : IS := (sSeq (sDrop (eCall sp_moving (aCons (eVar 0) aNil)))
  t7_is_balanced)
def sp_is_balanced : DSp := fun ds P E => ds.length = 2 ∧ m_is_balanced (init 9 ds) { nx := fun _ => P .non, rt := P, ex := fun x _ => E x }

abbrev N__law_pick : List Str := "state" :: "row" :: []
abbrev p__law_pick : List Str := ["state", "row"]
def m__law_pick : IS := (sRet (eOp ixD (eVar 1) (eCall sp__law_take (aCons (eVar 0) (aCons (eCB (f1 lenD) (aCons (eVar 1) aNil)) aNil)))))
def sp__law_pick : DSp := fun ds P E => ds.length = 2 ∧ m__law_pick (init 2 ds) { nx := fun _ => P .non, rt := P, ex := fun x _ => E x }

abbrev N__law_fr : List Str := "upper" :: "lower" :: "one" :: "other" :: "turn" :: []
abbrev p__law_fr : List Str := ["upper", "lower"]
def m__law_fr : IS := (sSeq (sIf (bT (eOp ltI (eVar 1) (eC (.int 0)))) (sPar 0 1 (xE (eOp subI (eC (.int 0)) (eVar 0))) (xE (eOp subI (eC (.int 0)) (eVar 1)))) sNext)
  (sSeq (sPar 2 3 (xE (eCB (f1 absD) (aCons (eVar 0) aNil))) (xE (eVar 1)))
  (sSeq (sFor (iRange1 (aCons (eC (.int 4000)) aNil)) (gN 4) (sSeq (sIf (bT (eOp eqD (eVar 3) (eC (.int 0)))) sBreak sNext)
  (sPar 2 3 (xE (eVar 3)) (xE (eOp modI (eCB (f1 intD) (aCons (eVar 2) aNil)) (eVar 3))))))
  (sRet (eTup (aCons (eOp divI (eVar 0) (eVar 2)) (aCons (eOp divI (eVar 1) (eVar 2)) aNil)))))))
def sp__law_fr : DSp := fun ds P E => ds.length = 2 ∧ m__law_fr (init 5 ds) { nx := fun _ => P .non, rt := P, ex := fun x _ => E x }

abbrev N__law_add : List Str := "one" :: "other" :: []
abbrev p__law_add : List Str := ["one", "other"]
def m__law_add : IS := (sRet (eCall sp__law_fr (aCons (eOp addI (eOp mulI (eOp ixD (eVar 0) (eC (.int 0))) (eOp ixD (eVar 1) (eC (.int 1)))) (eOp mulI (eOp ixD (eVar 1) (eC (.int 0))) (eOp ixD (eVar 0) (eC (.int 1))))) (aCons (eOp mulI (eOp ixD (eVar 0) (eC (.int 1))) (eOp ixD (eVar 1) (eC (.int 1)))) aNil))))
def sp__law_add : DSp := fun ds P E => ds.length = 2 ∧ m__law_add (init 2 ds) { nx := fun _ => P .non, rt := P, ex := fun x _ => E x }

abbrev N__law_mul : List Str := "one" :: "other" :: []
abbrev p__law_mul : List Str := ["one", "other"]
def m__law_mul : IS := (sRet (eCall sp__law_fr (aCons (eOp mulI (eOp ixD (eVar 0) (eC (.int 0))) (eOp ixD (eVar 1) (eC (.int 0)))) (aCons (eOp mulI (eOp ixD (eVar 0) (eC (.int 1))) (eOp ixD (eVar 1) (eC (.int 1)))) aNil))))
def sp__law_mul : DSp := fun ds P E => ds.length = 2 ∧ m__law_mul (init 2 ds) { nx := fun _ => P .non, rt := P, ex := fun x _ => E x }

abbrev N__law_sub : List Str := "one" :: "other" :: []
abbrev p__law_sub : List Str := ["one", "other"]
def m__law_sub : IS := (sRet (eCall sp__law_add (aCons (eVar 0) (aCons (eTup (aCons (eOp subI (eC (.int 0)) (eOp ixD (eVar 1) (eC (.int 0)))) (aCons (eOp ixD (eVar 1) (eC (.int 1))) aNil))) aNil))))
def sp__law_sub : DSp := fun ds P E => ds.length = 2 ∧ m__law_sub (init 2 ds) { nx := fun _ => P .non, rt := P, ex := fun x _ => E x }

abbrev N__law_sum : List Str := "row" :: "found" :: "one" :: []
abbrev p__law_sum : List Str := ["row"]
def m__law_sum : IS := (sSeq (sSet 1 (xE (eTup (aCons (eC (.int 0)) (aCons (eC (.int 1)) aNil)))))
  (sSeq (sFor (iOf (eVar 0)) (gN 2) (sSet 1 (xE (eCall sp__law_add (aCons (eVar 1) (aCons (eVar 2) aNil))))))
  (sRet (eVar 1))))
def sp__law_sum : DSp := fun ds P E => ds.length = 1 ∧ m__law_sum (init 3 ds) { nx := fun _ => P .non, rt := P, ex := fun x _ => E x }

abbrev N__law_some : List Str := "state" :: "row" :: "many" :: "found" :: "left" :: "k" :: "name" :: "one" :: []
abbrev p__law_some : List Str := ["state", "row", "many"]
def m__law_some : IS := (sSeq (sPar 3 4 (xN (eLst aNil)) (xE (eCB (f1 lstD) (aCons (eVar 1) aNil))))
  (sSeq (sFor (iRange1 (aCons (eVar 2) aNil)) (gN 5) (sSeq (sSet 6 (xE (eCall sp__law_pick (aCons (eVar 0) (aCons (eVar 4) aNil)))))
  (sSeq (sApp 3 (eVar 6))
  (sSet 4 (xE (nComp [7] (iOf (eVar 4)) (gN 7) (bT (eOp neD (eVar 7) (eVar 6))) (eVar 7)))))))
  (sFrz 3 (sRet (eVar 3)))))
def sp__law_some : DSp := fun ds P E => ds.length = 3 ∧ m__law_some (init 8 ds) { nx := fun _ => P .non, rt := P, ex := fun x _ => E x }

abbrev N__law_number : List Str := "state" :: []
abbrev p__law_number : List Str := ["state"]
def m__law_number : IS := (sRet (eCall sp__law_pick (aCons (eVar 0) (aCons (eLst (aCons (eC (.int 1)) (aCons (eC (.int 2)) (aCons (eC (.int 3)) (aCons (eC (.int 4)) (aCons (eC (.int 6)) (aCons (eC (.int 12)) (aCons (eC (.int 20)) (aCons (eC (.int 35)) aNil))))))))) aNil))))
def sp__law_number : DSp := fun ds P E => ds.length = 1 ∧ m__law_number (init 1 ds) { nx := fun _ => P .non, rt := P, ex := fun x _ => E x }

abbrev N__law_part : List Str := "state" :: "shafts" :: "lines" :: "sort" :: "one" :: "other" :: "arm" :: []
abbrev p__law_part : List Str := ["state", "shafts", "lines"]
def t1__law_part : IS := (sRet (eOp catT (eTup (aCons (eC (.str (PySem.Str.ofString "tie"))) aNil)) (eCB (f1 tupD) (aCons (eCall sp__law_some (aCons (eVar 0) (aCons (eIf (bAnd (bT (eOp gtI (eCB (f1 lenD) (aCons (eVar 2) aNil)) (eC (.int 1)))) (bT (eOp eqD (eCall sp__law_take (aCons (eVar 0) (aCons (eC (.int 2)) aNil))) (eC (.int 0))))) (eVar 2) (eVar 1)) (aCons (eC (.int 2)) aNil)))) aNil))))
def t2__law_part : IS := (sSeq (sIf (bT (eOp eqD (eVar 3) (eC (.int 9)))) (sRet (eTup (aCons (eC (.str (PySem.Str.ofString "fix"))) (aCons (eCall sp__law_pick (aCons (eVar 0) (aCons (eOp addD (eVar 1) (eVar 2)) aNil))) aNil)))) sNext)
  t1__law_part)
def t3__law_part : IS := (sSeq (sIf (bAnd (bT (eOp eqD (eVar 3) (eC (.int 8)))) (bT (eOp gtI (eCB (f1 lenD) (aCons (eVar 1) aNil)) (eC (.int 2))))) (sRet (eOp catT (eTup (aCons (eC (.str (PySem.Str.ofString "mean"))) aNil)) (eCB (f1 tupD) (aCons (eCall sp__law_some (aCons (eVar 0) (aCons (eIf (bAnd (bT (eOp gtI (eCB (f1 lenD) (aCons (eVar 2) aNil)) (eC (.int 2)))) (bT (eOp eqD (eCall sp__law_take (aCons (eVar 0) (aCons (eC (.int 2)) aNil))) (eC (.int 0))))) (eVar 2) (eVar 1)) (aCons (eC (.int 3)) aNil)))) aNil)))) sNext)
  t2__law_part)
def t4__law_part : IS := (sSeq (sIf (bAnd (bT (eOp eqD (eVar 3) (eC (.int 7)))) (bT (eOp gtI (eCB (f1 lenD) (aCons (eVar 2) aNil)) (eC (.int 1))))) (sSeq (sAsg (eCall sp__law_some (aCons (eVar 0) (aCons (eVar 2) (aCons (eC (.int 2)) aNil)))) (tgT 2 (tgsCons (tgN 4) (tgsCons (tgN 5) tgsNil))))
  (sRet (eTup (aCons (eC (.str (PySem.Str.ofString "rope"))) (aCons (eVar 4) (aCons (eCall sp__law_number (aCons (eVar 0) aNil)) (aCons (eVar 5) (aCons (eCall sp__law_number (aCons (eVar 0) aNil)) aNil)))))))) sNext)
  t3__law_part)
def t5__law_part : IS := (sSeq (sIf (bAnd (bT (eOp eqD (eVar 3) (eC (.int 6)))) (bT (eOp gtI (eCB (f1 lenD) (aCons (eVar 2) aNil)) (eC (.int 0))))) (sRet (eTup (aCons (eC (.str (PySem.Str.ofString "rack"))) (aCons (eCall sp__law_pick (aCons (eVar 0) (aCons (eVar 2) aNil))) (aCons (eCall sp__law_pick (aCons (eVar 0) (aCons (eVar 1) aNil))) (aCons (eCall sp__law_number (aCons (eVar 0) aNil)) aNil)))))) sNext)
  t4__law_part)
def t6__law_part : IS := (sSeq (sIf (bAnd (bT (eOp ltI (eVar 3) (eC (.int 6)))) (bT (eOp gtI (eCB (f1 lenD) (aCons (eVar 1) aNil)) (eC (.int 2))))) (sSeq (sAsg (eCall sp__law_some (aCons (eVar 0) (aCons (eVar 1) (aCons (eC (.int 3)) aNil)))) (tgT 3 (tgsCons (tgN 6) (tgsCons (tgN 4) (tgsCons (tgN 5) tgsNil)))))
  (sRet (eTup (aCons (eOp ixD (eLst (aCons (eC (.str (PySem.Str.ofString "over"))) (aCons (eC (.str (PySem.Str.ofString "under"))) aNil))) (eOp subI (eVar 3) (eC (.int 4)))) (aCons (eVar 6) (aCons (eVar 4) (aCons (eCall sp__law_number (aCons (eVar 0) aNil)) (aCons (eVar 5) (aCons (eCall sp__law_number (aCons (eVar 0) aNil)) aNil))))))))) sNext)
  t5__law_part)
def t7__law_part : IS := (sSeq (sIf (bT (eOp ltI (eVar 3) (eC (.int 4)))) (sSeq (sAsg (eCall sp__law_some (aCons (eVar 0) (aCons (eVar 1) (aCons (eC (.int 2)) aNil)))) (tgT 2 (tgsCons (tgN 4) (tgsCons (tgN 5) tgsNil))))
  (sRet (eTup (aCons (eOp ixD (eLst (aCons (eC (.str (PySem.Str.ofString "gear"))) (aCons (eC (.str (PySem.Str.ofString "ring"))) (aCons (eC (.str (PySem.Str.ofString "belt"))) (aCons (eC (.str (PySem.Str.ofString "cross"))) aNil))))) (eVar 3)) (aCons (eVar 4) (aCons (eCall sp__law_number (aCons (eVar 0) aNil)) (aCons (eVar 5) (aCons (eCall sp__law_number (aCons (eVar 0) aNil)) aNil)))))))) sNext)
  t6__law_part)
def m__law_part : IS := (sSeq (sSet 3 (xE (eCall sp__law_take (aCons (eVar 0) (aCons (eC (.int 11)) aNil)))))
  t7__law_part)
def sp__law_part : DSp := fun ds P E => ds.length = 3 ∧ m__law_part (init 7 ds) { nx := fun _ => P .non, rt := P, ex := fun x _ => E x }

abbrev N__law_told : List Str := "state" :: "things" :: "some" :: "name" :: "kind" :: []
abbrev p__law_told : List Str := ["state", "things"]
def m__law_told : IS := (sSeq (sSet 2 (xE (eCall sp__law_some (aCons (eVar 0) (aCons (nComp [3, 4] (iOf (eVar 1)) (gT 2 (gsCons (gN 3) (gsCons (gN 4) gsNil))) bYes (eVar 3)) (aCons (eCall sp__law_take (aCons (eVar 0) (aCons (eC (.int 3)) aNil))) aNil))))))
  (sRet (eCB (f1 tupD) (aCons (nComp [3] (iOf (eVar 2)) (gN 3) bYes (eTup (aCons (eVar 3) (aCons (eCall sp__law_fr (aCons (eOp subI (eCall sp__law_take (aCons (eVar 0) (aCons (eC (.int 13)) aNil))) (eC (.int 6))) (aCons (eOp addI (eC (.int 1)) (eCall sp__law_take (aCons (eVar 0) (aCons (eC (.int 3)) aNil)))) aNil))) aNil)))) aNil))))
def sp__law_told : DSp := fun ds P E => ds.length = 2 ∧ m__law_told (init 5 ds) { nx := fun _ => P .non, rt := P, ex := fun x _ => E x }

abbrev N__law_machine : List Str := "state" :: "many" :: "shafts" :: "lines" :: "things" :: "parts" :: "k" :: "name" :: []
abbrev p__law_machine : List Str := ["state", "many"]
def m__law_machine : IS := (sSeq (sSet 2 (xE (eSl slL (eLst (aCons (eC (.str (PySem.Str.ofString "a"))) (aCons (eC (.str (PySem.Str.ofString "b"))) (aCons (eC (.str (PySem.Str.ofString "c"))) (aCons (eC (.str (PySem.Str.ofString "d"))) (aCons (eC (.str (PySem.Str.ofString "e"))) aNil)))))) pNo (pAt (eOp addI (eC (.int 2)) (eCall sp__law_take (aCons (eVar 0) (aCons (eC (.int 4)) aNil))))))))
  (sSeq (sSet 3 (xE (eSl slL (eLst (aCons (eC (.str (PySem.Str.ofString "x"))) (aCons (eC (.str (PySem.Str.ofString "y"))) (aCons (eC (.str (PySem.Str.ofString "w"))) aNil)))) pNo (pAt (eCall sp__law_take (aCons (eVar 0) (aCons (eC (.int 4)) aNil)))))))
  (sSeq (sSet 4 (xE (eCB (f1 tupD) (aCons (eOp catL (nComp [7] (iOf (eVar 2)) (gN 7) bYes (eTup (aCons (eVar 7) (aCons (eC (.str (PySem.Str.ofString "shaft"))) aNil)))) (nComp [7] (iOf (eVar 3)) (gN 7) bYes (eTup (aCons (eVar 7) (aCons (eC (.str (PySem.Str.ofString "line"))) aNil))))) aNil))))
  (sSeq (sSet 5 (xE (eCB (f1 tupD) (aCons (nComp [6] (iRange1 (aCons (eCall sp__law_take (aCons (eVar 0) (aCons (eOp addI (eVar 1) (eC (.int 1))) aNil))) aNil)) (gN 6) bYes (eCall sp__law_part (aCons (eVar 0) (aCons (eVar 2) (aCons (eVar 3) aNil))))) aNil))))
  (sRet (eTup (aCons (eC (.str (PySem.Str.ofString "machine"))) (aCons (eVar 4) (aCons (eVar 5) (aCons (eCall sp__law_told (aCons (eVar 0) (aCons (eVar 4) aNil))) (aCons (eCall sp__law_told (aCons (eVar 0) (aCons (eVar 4) aNil))) aNil)))))))))))
def sp__law_machine : DSp := fun ds P E => ds.length = 2 ∧ m__law_machine (init 8 ds) { nx := fun _ => P .non, rt := P, ex := fun x _ => E x }

abbrev N__law_less : List Str := "one" :: "other" :: []
abbrev p__law_less : List Str := ["one", "other"]
def m__law_less : IS := (sRet (eOp ltI (eOp mulI (eOp ixD (eVar 0) (eC (.int 0))) (eOp ixD (eVar 1) (eC (.int 1)))) (eOp mulI (eOp ixD (eVar 1) (eC (.int 0))) (eOp ixD (eVar 0) (eC (.int 1))))))
def sp__law_less : DSp := fun ds P E => ds.length = 2 ∧ m__law_less (init 2 ds) { nx := fun _ => P .non, rt := P, ex := fun x _ => E x }

abbrev N__law_over : List Str := "one" :: "other" :: []
abbrev p__law_over : List Str := ["one", "other"]
def m__law_over : IS := (sRet (eCall sp__law_fr (aCons (eOp mulI (eOp ixD (eVar 0) (eC (.int 0))) (eOp ixD (eVar 1) (eC (.int 1)))) (aCons (eOp mulI (eOp ixD (eVar 0) (eC (.int 1))) (eOp ixD (eVar 1) (eC (.int 0)))) aNil))))
def sp__law_over : DSp := fun ds P E => ds.length = 2 ∧ m__law_over (init 2 ds) { nx := fun _ => P .non, rt := P, ex := fun x _ => E x }

abbrev N__law_turn : List Str := "one" :: []
abbrev p__law_turn : List Str := ["one"]
def m__law_turn : IS := (sRet (eTup (aCons (eOp subI (eC (.int 0)) (eOp ixD (eVar 0) (eC (.int 0)))) (aCons (eOp ixD (eVar 0) (eC (.int 1))) aNil))))
def sp__law_turn : DSp := fun ds P E => ds.length = 1 ∧ m__law_turn (init 1 ds) { nx := fun _ => P .non, rt := P, ex := fun x _ => E x }

abbrev N__law_terms : List Str := "part_v" :: "word" :: "rest" :: "arm" :: "one" :: "n" :: "other" :: "m" :: "sign" :: []
abbrev p__law_terms : List Str := ["part_v"]
def t1__law_terms : IS := (sRet (eOp dixD (eDisp (((eC (.str (PySem.Str.ofString "tie"))), (eLst (aCons (eTup (aCons (eOp ixD (eVar 2) (eC (.int 0))) (aCons (eC (.int 1)) aNil))) (aCons (eTup (aCons (eOp ixD (eVar 2) (eUn negI (eC (.int 1)))) (aCons (eUn negI (eC (.int 1))) aNil))) aNil)))) :: (((eC (.str (PySem.Str.ofString "fix"))), (eLst (aCons (eTup (aCons (eOp ixD (eVar 2) (eC (.int 0))) (aCons (eC (.int 1)) aNil))) aNil))) :: (((eC (.str (PySem.Str.ofString "mean"))), (eOp catL (nComp [4] (iOf (eSl slD (eVar 2) pNo (pAt (eC (.int 2))))) (gN 4) bYes (eTup (aCons (eVar 4) (aCons (eC (.int 1)) aNil)))) (eLst (aCons (eTup (aCons (eOp ixD (eVar 2) (eUn negI (eC (.int 1)))) (aCons (eUn negI (eC (.int 2))) aNil))) aNil)))) :: [])))) (eVar 1)))
def t2__law_terms : IS := (sSeq (sIf (bT (eOp eqD (eVar 1) (eC (.str (PySem.Str.ofString "rack"))))) (sRet (eLst (aCons (eTup (aCons (eOp ixD (eVar 2) (eC (.int 0))) (aCons (eC (.int 1)) aNil))) (aCons (eTup (aCons (eOp ixD (eVar 2) (eC (.int 1))) (aCons (eOp subI (eC (.int 0)) (eOp ixD (eVar 2) (eC (.int 2)))) aNil))) aNil)))) sNext)
  t1__law_terms)
def t3__law_terms : IS := (sSeq (sIf (bT (eOp inL (eVar 1) (eTup (aCons (eC (.str (PySem.Str.ofString "gear"))) (aCons (eC (.str (PySem.Str.ofString "cross"))) (aCons (eC (.str (PySem.Str.ofString "rope"))) (aCons (eC (.str (PySem.Str.ofString "ring"))) (aCons (eC (.str (PySem.Str.ofString "belt"))) aNil)))))))) (sRet (eLst (aCons (eTup (aCons (eOp ixD (eVar 2) (eC (.int 0))) (aCons (eOp ixD (eVar 2) (eC (.int 1))) aNil))) (aCons (eTup (aCons (eOp ixD (eVar 2) (eC (.int 2))) (aCons (eIf (bT (eOp inL (eVar 1) (eTup (aCons (eC (.str (PySem.Str.ofString "gear"))) (aCons (eC (.str (PySem.Str.ofString "cross"))) (aCons (eC (.str (PySem.Str.ofString "rope"))) aNil)))))) (eOp ixD (eVar 2) (eC (.int 3))) (eOp subI (eC (.int 0)) (eOp ixD (eVar 2) (eC (.int 3))))) aNil))) aNil)))) sNext)
  t2__law_terms)
def t4__law_terms : IS := (sSeq (sIf (bT (eOp inL (eVar 1) (eTup (aCons (eC (.str (PySem.Str.ofString "over"))) (aCons (eC (.str (PySem.Str.ofString "under"))) aNil))))) (sSeq (sAsg (eVar 2) (tgT 5 (tgsCons (tgN 3) (tgsCons (tgN 4) (tgsCons (tgN 5) (tgsCons (tgN 6) (tgsCons (tgN 7) tgsNil)))))))
  (sSeq (sSet 8 (xE (eIf (bT (eOp eqD (eVar 1) (eC (.str (PySem.Str.ofString "over"))))) (eC (.int 1)) (eUn negI (eC (.int 1))))))
  (sRet (eLst (aCons (eTup (aCons (eVar 4) (aCons (eVar 5) aNil))) (aCons (eTup (aCons (eVar 6) (aCons (eOp mulI (eVar 8) (eVar 7)) aNil))) (aCons (eTup (aCons (eVar 3) (aCons (eOp subI (eOp subI (eC (.int 0)) (eVar 5)) (eOp mulI (eVar 8) (eVar 7))) aNil))) aNil))))))) sNext)
  t3__law_terms)
def m__law_terms : IS := (sSeq (sPar 1 2 (xE (eOp ixD (eVar 0) (eC (.int 0)))) (xE (eSl slD (eVar 0) (pAt (eC (.int 1))) pNo)))
  t4__law_terms)
def sp__law_terms : DSp := fun ds P E => ds.length = 1 ∧ m__law_terms (init 9 ds) { nx := fun _ => P .non, rt := P, ex := fun x _ => E x }

abbrev N__law_row : List Str := "machine" :: "part_v" :: "told" :: "name" :: "kind" :: []
abbrev p__law_row : List Str := ["machine", "part_v"]
def m__law_row : IS := (sSeq (sSet 2 (xE (eCB (f1 dictP) (aCons (eCall sp__law_terms (aCons (eVar 1) aNil)) aNil))))
  (sRet (eCB (f1 tupD) (aCons (nComp [3, 4] (iOf (eOp ixD (eVar 0) (eC (.int 1)))) (gT 2 (gsCons (gN 3) (gsCons (gN 4) gsNil))) bYes (eTup (aCons (eGet2 (eVar 2) (eVar 3) (eC (.int 0))) (aCons (eC (.int 1)) aNil)))) aNil))))
def sp__law_row : DSp := fun ds P E => ds.length = 2 ∧ m__law_row (init 5 ds) { nx := fun _ => P .non, rt := P, ex := fun x _ => E x }

abbrev N__law_rows : List Str := "machine" :: "part_v" :: []
abbrev p__law_rows : List Str := ["machine"]
def m__law_rows : IS := (sRet (nComp [1] (iOf (eOp ixD (eVar 0) (eC (.int 2)))) (gN 1) bYes (eCall sp__law_row (aCons (eVar 0) (aCons (eVar 1) aNil)))))
def sp__law_rows : DSp := fun ds P E => ds.length = 1 ∧ m__law_rows (init 2 ds) { nx := fun _ => P .non, rt := P, ex := fun x _ => E x }

abbrev N__law_put_out : List Str := "rows" :: "wide" :: "lines" :: "leads" :: "column" :: "spot" :: "ready" :: "first" :: "row" :: "k" :: "one" :: "c" :: []
abbrev p__law_put_out : List Str := ["rows", "wide"]
def m__law_put_out : IS := (sSeq (sMany [2, 3] (xCons (xN (nComp [8] (iOf (eVar 0)) (gN 8) bYes (eCB (f1 lstD) (aCons (eVar 8) aNil)))) (xCons (xN (eLst aNil)) xNil)))
  (sSeq (sFor (iRange1 (aCons (eVar 1) aNil)) (gN 4) (sSeq (sSet 5 (xE (eCB (f1 lenD) (aCons (oVar 3) aNil))))
  (sSeq (sSet 6 (xE (nComp [9] (iRange2 (aCons (eVar 5) (aCons (eCB (f1 lenD) (aCons (oVar 2) aNil)) aNil))) (gN 9) (bT (eOp neD (eOp ixD (eOp ixD (eOp ixD (oVar 2) (eVar 9)) (eVar 4)) (eC (.int 0))) (eC (.int 0)))) (eVar 9))))
  (sIf (bT (eOp neD (eVar 6) (eLst aNil))) (sSeq (sPopAt 7 2 (eOp ixD (eVar 6) (eC (.int 0))))
  (sSeq (sSet 7 (xE (nComp [10] (iOf (eVar 7)) (gN 10) bYes (eCall sp__law_over (aCons (eVar 10) (aCons (eOp ixD (eVar 7) (eVar 4)) aNil))))))
  (sSeq (sSet 2 (xN (nComp [8] (iOf (oVar 2)) (gN 8) bYes (nComp [11] (iRange1 (aCons (eCB (f1 lenD) (aCons (eVar 8) aNil)) aNil)) (gN 11) bYes (eCall sp__law_sub (aCons (eOp ixD (eVar 8) (eVar 11)) (aCons (eCall sp__law_mul (aCons (eOp ixD (eVar 8) (eVar 4)) (aCons (eOp ixD (eVar 7) (eVar 11)) aNil))) aNil)))))))
  (sSeq (sSet 2 (xN (eOp catL (eOp catL (eSl slL (oVar 2) pNo (pAt (eVar 5))) (eLst (aCons (eVar 7) aNil))) (eSl slL (oVar 2) (pAt (eVar 5)) pNo))))
  (sApp 3 (eVar 4)))))) sNext))))
  (sFrz 2 (sFrz 3 (sRet (eTup (aCons (eVar 2) (aCons (eVar 3) aNil))))))))
def sp__law_put_out : DSp := fun ds P E => ds.length = 2 ∧ m__law_put_out (init 12 ds) { nx := fun _ => P .non, rt := P, ex := fun x _ => E x }

abbrev N__law_rank : List Str := "rows" :: "wide" :: []
abbrev p__law_rank : List Str := ["rows", "wide"]
def m__law_rank : IS := (sRet (eCB (f1 lenD) (aCons (eOp ixD (eCall sp__law_put_out (aCons (eVar 0) (aCons (eVar 1) aNil))) (eC (.int 1))) aNil)))
def sp__law_rank : DSp := fun ds P E => ds.length = 2 ∧ m__law_rank (init 2 ds) { nx := fun _ => P .non, rt := P, ex := fun x _ => E x }

abbrev N__law_ways : List Str := "rows" :: "wide" :: "lines" :: "leads" :: "found" :: "column" :: "row" :: "k" :: "c" :: []
abbrev p__law_ways : List Str := ["rows", "wide"]
def m__law_ways : IS := (sSeq (sAsg (eCall sp__law_put_out (aCons (eVar 0) (aCons (eVar 1) aNil))) (tgT 2 (tgsCons (tgN 2) (tgsCons (tgN 3) tgsNil))))
  (sSeq (sSet 4 (xN (eLst aNil)))
  (sSeq (sFor (iOf (nComp [8] (iRange1 (aCons (eVar 1) aNil)) (gN 8) (bT (eOp niL (eVar 8) (eVar 3))) (eVar 8))) (gN 5) (sSeq (sSet 6 (xN (nComp [8] (iRange1 (aCons (eVar 1) aNil)) (gN 8) bYes (eIf (bT (eOp eqD (eVar 8) (eVar 5))) (eTup (aCons (eC (.int 1)) (aCons (eC (.int 1)) aNil))) (eTup (aCons (eC (.int 0)) (aCons (eC (.int 1)) aNil)))))))
  (sSeq (sFor (iRange1 (aCons (eCB (f1 lenD) (aCons (eVar 3) aNil)) aNil)) (gN 7) (sSetAt 6 (eOp ixD (eVar 3) (eVar 7)) (eCall sp__law_turn (aCons (eOp ixD (eOp ixD (eVar 2) (eVar 7)) (eVar 5)) aNil))))
  (sApp 4 (eCB (f1 tupD) (aCons (oVar 6) aNil))))))
  (sFrz 4 (sRet (eVar 4))))))
def sp__law_ways : DSp := fun ds P E => ds.length = 2 ∧ m__law_ways (init 9 ds) { nx := fun _ => P .non, rt := P, ex := fun x _ => E x }

abbrev N__law_free : List Str := "machine" :: []
abbrev p__law_free : List Str := ["machine"]
def m__law_free : IS := (sRet (eCall sp__law_ways (aCons (eCall sp__law_rows (aCons (eVar 0) aNil)) (aCons (eCB (f1 lenD) (aCons (eOp ixD (eVar 0) (eC (.int 1))) aNil)) aNil))))
def sp__law_free : DSp := fun ds P E => ds.length = 1 ∧ m__law_free (init 1 ds) { nx := fun _ => P .non, rt := P, ex := fun x _ => E x }

abbrev N__law_driven : List Str := "state" :: "machine" :: "names_v" :: "ways_v" :: "drives" :: "k" :: "loads" :: "name" :: "kind" :: "way" :: "j" :: []
abbrev p__law_driven : List Str := ["state"]
def t1__law_driven : IS := (sRet (eOp catT (eSl slD (eVar 1) pNo (pAt (eC (.int 3)))) (eTup (aCons (eIf (bT (eOp gtI (eCall sp__law_take (aCons (eVar 0) (aCons (eC (.int 6)) aNil))) (eC (.int 0)))) (eCB (f1 tupD) (aCons (oVar 4) aNil)) (eOp ixD (eVar 1) (eC (.int 3)))) (aCons (eVar 6) aNil)))))
def t2__law_driven : IS := (sSeq (sSet 6 (xE (eCB (f1 tupD) (aCons (nComp [7] (iOf (eVar 2)) (gN 7) (bT (eOp eqD (eCall sp__law_take (aCons (eVar 0) (aCons (eC (.int 2)) aNil))) (eC (.int 0)))) (eTup (aCons (eVar 7) (aCons (eCall sp__law_fr (aCons (eOp subI (eCall sp__law_take (aCons (eVar 0) (aCons (eC (.int 9)) aNil))) (eC (.int 4))) (aCons (eOp addI (eC (.int 1)) (eCall sp__law_take (aCons (eVar 0) (aCons (eC (.int 2)) aNil)))) aNil))) aNil)))) aNil))))
  t1__law_driven)
def t3__law_driven : IS := (sSeq (sFor (iRange1 (aCons (eCB (f1 lenD) (aCons (eVar 2) aNil)) aNil)) (gN 5) (sIf (bT (eOp gtI (eCall sp__law_rank (aCons (nComp [9] (iOf (eVar 3)) (gN 9) bYes (nComp [10] (iRange1 (aCons (eOp addI (eVar 5) (eC (.int 1))) aNil)) (gN 10) bYes (eOp ixD (eVar 9) (eVar 10)))) (aCons (eOp addI (eVar 5) (eC (.int 1))) aNil))) (eCall sp__law_rank (aCons (nComp [9] (iOf (eVar 3)) (gN 9) bYes (nComp [10] (iRange1 (aCons (eVar 5) aNil)) (gN 10) bYes (eOp ixD (eVar 9) (eVar 10)))) (aCons (eVar 5) aNil))))) (sApp 4 (eTup (aCons (eOp ixD (eVar 2) (eVar 5)) (aCons (eCall sp__law_fr (aCons (eOp subI (eCall sp__law_take (aCons (eVar 0) (aCons (eC (.int 9)) aNil))) (eC (.int 4))) (aCons (eOp addI (eC (.int 1)) (eCall sp__law_take (aCons (eVar 0) (aCons (eC (.int 2)) aNil)))) aNil))) aNil)))) sNext))
  t2__law_driven)
def t4__law_driven : IS := (sSeq (sMany3 2 3 4 (xCons (xE (nComp [7, 8] (iOf (eOp ixD (eVar 1) (eC (.int 1)))) (gT 2 (gsCons (gN 7) (gsCons (gN 8) gsNil))) bYes (eVar 7))) (xCons (xE (eCall sp__law_free (aCons (eVar 1) aNil))) (xCons (xN (eLst aNil)) xNil))))
  t3__law_driven)
def m__law_driven : IS := (sSeq (sSet 1 (xE (eCall sp__law_machine (aCons (eVar 0) (aCons (eC (.int 4)) aNil)))))
  t4__law_driven)
def sp__law_driven : DSp := fun ds P E => ds.length = 1 ∧ m__law_driven (init 11 ds) { nx := fun _ => P .non, rt := P, ex := fun x _ => E x }

abbrev N__law_speeds : List Str := "machine" :: "names_v" :: "rows" :: "goals" :: "wide" :: "name" :: "part_v" :: "lines" :: "leads" :: "kind" :: "k" :: "one" :: []
abbrev p__law_speeds : List Str := ["machine"]
def t1__law_speeds : IS := (sRet (eIf (bT (eOp eqD (eCB (f1 lenD) (aCons (eVar 8) aNil)) (eVar 4))) (eCB (f1 tupD) (aCons (nComp [10] (iRange1 (aCons (eVar 4) aNil)) (gN 10) bYes (eOp ixD (eOp ixD (eVar 7) (eVar 10)) (eVar 4))) aNil)) (eC (.str (PySem.Str.ofString "loose")))))
def t2__law_speeds : IS := (sSeq (sIf (bT (eOp inL (eVar 4) (eVar 8))) (sRet (eC (.str (PySem.Str.ofString "clash")))) sNext)
  t1__law_speeds)
def t3__law_speeds : IS := (sSeq (sAsg (eCall sp__law_put_out (aCons (nComp [10] (iRange1 (aCons (eCB (f1 lenD) (aCons (eVar 2) aNil)) aNil)) (gN 10) bYes (eOp catL (eCB (f1 lstD) (aCons (eOp ixD (eVar 2) (eVar 10)) aNil)) (eLst (aCons (eOp ixD (eVar 3) (eVar 10)) aNil)))) (aCons (eOp addI (eVar 4) (eC (.int 1))) aNil))) (tgT 2 (tgsCons (tgN 7) (tgsCons (tgN 8) tgsNil))))
  t2__law_speeds)
def t4__law_speeds : IS := (sSeq (sFor (iOf (eOp ixD (eVar 0) (eC (.int 3)))) (gT 2 (gsCons (gN 5) (gsCons (gN 6) gsNil))) (sSeq (sSet 2 (xE (eOp catL (eVar 2) (eLst (aCons (eCB (f1 tupD) (aCons (nComp [11] (iOf (eVar 1)) (gN 11) bYes (eIf (bT (eOp eqD (eVar 11) (eVar 5))) (eTup (aCons (eC (.int 1)) (aCons (eC (.int 1)) aNil))) (eTup (aCons (eC (.int 0)) (aCons (eC (.int 1)) aNil))))) aNil)) aNil)))))
  (sSet 3 (xE (eOp catL (eVar 3) (eLst (aCons (eVar 6) aNil)))))))
  t3__law_speeds)
def t5__law_speeds : IS := (sSeq (sMany [2, 3, 4] (xCons (xE (eCall sp__law_rows (aCons (eVar 0) aNil))) (xCons (xE (eOp repL (eLst (aCons (eTup (aCons (eC (.int 0)) (aCons (eC (.int 1)) aNil))) aNil)) (eCB (f1 lenD) (aCons (eOp ixD (eVar 0) (eC (.int 2))) aNil)))) (xCons (xE (eCB (f1 lenD) (aCons (eVar 1) aNil))) xNil))))
  t4__law_speeds)
def m__law_speeds : IS := (sSeq (sSet 1 (xE (nComp [5, 9] (iOf (eOp ixD (eVar 0) (eC (.int 1)))) (gT 2 (gsCons (gN 5) (gsCons (gN 9) gsNil))) bYes (eVar 5))))
  t5__law_speeds)
def sp__law_speeds : DSp := fun ds P E => ds.length = 1 ∧ m__law_speeds (init 12 ds) { nx := fun _ => P .non, rt := P, ex := fun x _ => E x }

abbrev N__law_word : List Str := "call" :: "machine" :: "error" :: []
abbrev p__law_word : List Str := ["call", "machine"]
def m__law_word : IS := (sTryW 2 (sSeq (sIf (bT (eOp eqD (eVar 0) (eC (.int 0)))) (sDrop (eCall sp_moving (aCons (eVar 1) aNil))) (sIf (bT (eOp eqD (eVar 0) (eC (.int 1)))) (sDrop (eCall sp_pushes (aCons (eVar 1) aNil))) (sIf (bT (eOp eqD (eVar 0) (eC (.int 2)))) (sDrop (eCall sp_circling (aCons (eVar 1) aNil))) (sDrop (eCall sp_is_balanced (aCons (eVar 1) (aCons (eC .non) aNil)))))))
  (sRet (eC (.str (PySem.Str.ofString ""))))))
def sp__law_word : DSp := fun ds P E => ds.length = 2 ∧ m__law_word (init 3 ds) { nx := fun _ => P .non, rt := P, ex := fun x _ => E x }

abbrev N__law_rests : List Str := "rows" :: "loads" :: "shares" :: "j" :: "k" :: []
abbrev p__law_rests : List Str := ["rows", "loads", "shares"]
def m__law_rests : IS := (sRet (nComp [3] (iRange1 (aCons (eCB (f1 lenD) (aCons (eVar 1) aNil)) aNil)) (gN 3) bYes (eCall sp__law_add (aCons (eOp ixD (eVar 1) (eVar 3)) (aCons (eCall sp__law_sum (aCons (nComp [4] (iRange1 (aCons (eCB (f1 lenD) (aCons (eVar 0) aNil)) aNil)) (gN 4) bYes (eCall sp__law_mul (aCons (eOp ixD (eVar 2) (eVar 4)) (aCons (eOp ixD (eOp ixD (eVar 0) (eVar 4)) (eVar 3)) aNil)))) aNil)) aNil)))))
def sp__law_rests : DSp := fun ds P E => ds.length = 3 ∧ m__law_rests (init 5 ds) { nx := fun _ => P .non, rt := P, ex := fun x _ => E x }

abbrev N__law_sure_hold : List Str := "state" :: "machine" :: "told" :: "rows" :: "loads" :: "names_v" :: "many" :: "bear" :: "push" :: "shares" :: "flows" :: "given" :: "weighed" :: "j" :: "own" :: "on" :: "whole" :: "k" :: "bent" :: "row" :: "name" :: "kind" :: "one" :: []
abbrev p__law_sure_hold : List Str := ["state", "machine", "told", "rows", "loads"]
def t1__law_sure_hold : IS := (sRet (eC (.bl true)))
def t2__law_sure_hold : IS := (sSeq (sFor (iRange1 (aCons (eCB (f1 lenD) (aCons (eVar 9) aNil)) aNil)) (gN 17) (sSeq (sSet 18 (xE (eOp catT (eOp catT (eSl slT (eVar 9) pNo (pAt (eVar 17))) (eTup (aCons (eCall sp__law_add (aCons (eOp ixD (eVar 9) (eVar 17)) (aCons (eTup (aCons (eC (.int 1)) (aCons (eC (.int 2)) aNil))) aNil))) aNil))) (eSl slT (eVar 9) (pAt (eOp addI (eVar 17) (eC (.int 1)))) pNo))))
  (sIf (bT (eOp niN (eCall sp_is_balanced (aCons (eVar 1) (aCons (eTup (aCons (eSl slT (eVar 18) pNo (pAt (eVar 6))) (aCons (eSl slT (eVar 18) (pAt (eVar 6)) pNo) aNil))) aNil))) (eC (.bl false)))) (sRet (eC (.bl false))) sNext)))
  t1__law_sure_hold)
def t3__law_sure_hold : IS := (sSeq (sIf (bOr (bT (eOp neD (eCB (f1 lstD) (aCons (eCall sp_passed (aCons (eVar 1) aNil)) aNil)) (eVar 15))) (bOr (bT (eOp neD (eCall sp_put_in (aCons (eVar 1) aNil)) (eVar 16))) (bT (eOp neD (eCB (f1 lstD) (aCons (eCall sp_circling (aCons (eVar 1) aNil)) aNil)) (nComp [17] (iRange1 (aCons (eVar 6) aNil)) (gN 17) (bT (eCall sp__law_less (aCons (eVar 16) (aCons (eOp ixD (eVar 15) (eVar 17)) aNil)))) (eVar 17)))))) (sRet (eC (.bl false))) sNext)
  t2__law_sure_hold)
def t4__law_sure_hold : IS := (sSeq (sSet 16 (xE (eCall sp__law_sum (aCons (nComp [22] (iOf (eOp catT (eVar 11) (eVar 12))) (gN 22) (bT (eOp gtI (eOp ixD (eVar 22) (eC (.int 0))) (eC (.int 0)))) (eVar 22)) aNil))))
  t3__law_sure_hold)
def t5__law_sure_hold : IS := (sSeq (sSet 15 (xE (nComp [19] (iOf (eVar 10)) (gN 19) bYes (eCall sp__law_sum (aCons (nComp [22] (iOf (eVar 19)) (gN 22) (bT (eOp gtI (eOp ixD (eVar 22) (eC (.int 0))) (eC (.int 0)))) (eVar 22)) aNil)))))
  t4__law_sure_hold)
def t6__law_sure_hold : IS := (sSeq (sFor (iRange1 (aCons (eCB (f1 lenD) (aCons (eVar 5) aNil)) aNil)) (gN 13) (sSeq (sSet 14 (xE (nComp [17] (iRange1 (aCons (eCB (f1 lenD) (aCons (eVar 11) aNil)) aNil)) (gN 17) (bT (eOp eqD (eOp ixD (eOp ixD (eOp ixD (eVar 1) (eC (.int 3))) (eVar 17)) (eC (.int 0))) (eOp ixD (eVar 5) (eVar 13)))) (eOp ixD (eVar 11) (eVar 17)))))
  (sIf (bT (eOp neD (eOp ixD (eCall sp__law_sum (aCons (eOp catL (eOp catL (nComp [19] (iOf (eVar 10)) (gN 19) bYes (eOp ixD (eVar 19) (eVar 13))) (eLst (aCons (eOp ixD (eVar 12) (eVar 13)) aNil))) (eVar 14)) aNil)) (eC (.int 0))) (eC (.int 0)))) (sRet (eC (.bl false))) sNext)))
  t5__law_sure_hold)
def t7__law_sure_hold : IS := (sSeq (sIf (bOr (bT (eOp neD (eCB (f1 tupD) (aCons (eCall sp_load_flows (aCons (eVar 1) aNil)) aNil)) (eVar 12))) (bT (eOp neD (eOp ixD (eCall sp__law_sum (aCons (eOp catL (eCB (f1 lstD) (aCons (eVar 11) aNil)) (eCB (f1 lstD) (aCons (eVar 12) aNil))) aNil)) (eC (.int 0))) (eC (.int 0))))) (sRet (eC (.bl false))) sNext)
  t6__law_sure_hold)
def t8__law_sure_hold : IS := (sSeq (sSet 12 (xE (eCB (f1 tupD) (aCons (nComp [13] (iRange1 (aCons (eCB (f1 lenD) (aCons (eVar 5) aNil)) aNil)) (gN 13) bYes (eCall sp__law_mul (aCons (eOp ixD (eVar 4) (eVar 13)) (aCons (eOp ixD (eVar 2) (eVar 13)) aNil)))) aNil))))
  t7__law_sure_hold)
def t9__law_sure_hold : IS := (sSeq (sIf (bT (eOp gtI (eCB (f1 lenD) (aCons (nComp [19] (iOf (eVar 10)) (gN 19) (bT (eOp neD (eOp ixD (eCall sp__law_sum (aCons (eCB (f1 lstD) (aCons (eVar 19) aNil)) aNil)) (eC (.int 0))) (eC (.int 0)))) (eVar 19)) aNil)) (eC (.int 0)))) (sRet (eC (.bl false))) sNext)
  t8__law_sure_hold)
def t10__law_sure_hold : IS := (sSeq (sIf (bOr (bT (eOp neD (nComp [19] (iOf (eCall sp_part_flows (aCons (eVar 1) aNil))) (gN 19) bYes (eCB (f1 tupD) (aCons (eVar 19) aNil))) (eVar 10))) (bT (eOp neD (eCB (f1 tupD) (aCons (eCall sp_drive_flows (aCons (eVar 1) aNil)) aNil)) (eVar 11)))) (sRet (eC (.bl false))) sNext)
  t9__law_sure_hold)
def t11__law_sure_hold : IS := (sSeq (sSet 11 (xE (eCB (f1 tupD) (aCons (nComp [17] (iRange1 (aCons (eCB (f1 lenD) (aCons (eOp ixD (eVar 1) (eC (.int 3))) aNil)) aNil)) (gN 17) bYes (eCall sp__law_mul (aCons (eOp ixD (eVar 9) (eOp addI (eVar 6) (eVar 17))) (aCons (eOp ixD (eVar 2) (eLidx (eVar 5) (eOp ixD (eOp ixD (eOp ixD (eVar 1) (eC (.int 3))) (eVar 17)) (eC (.int 0))))) aNil)))) aNil))))
  t10__law_sure_hold)
def t12__law_sure_hold : IS := (sSeq (sSet 10 (xE (nComp [17] (iRange1 (aCons (eVar 6) aNil)) (gN 17) bYes (eCB (f1 tupD) (aCons (nComp [13] (iRange1 (aCons (eCB (f1 lenD) (aCons (eVar 5) aNil)) aNil)) (gN 13) bYes (eCall sp__law_mul (aCons (eCall sp__law_mul (aCons (eOp ixD (eVar 9) (eVar 17)) (aCons (eOp ixD (eOp ixD (eVar 3) (eVar 17)) (eVar 13)) aNil))) (aCons (eOp ixD (eVar 2) (eVar 13)) aNil)))) aNil)))))
  t11__law_sure_hold)
def t13__law_sure_hold : IS := (sSeq (sIf (bT (eOp niN (eCall sp_is_balanced (aCons (eVar 1) (aCons (eTup (aCons (eCB (f1 tupD) (aCons (eVar 7) aNil)) (aCons (eCB (f1 tupD) (aCons (eVar 8) aNil)) aNil))) aNil))) (eC (.bl true)))) (sRet (eC (.bl false))) sNext)
  t12__law_sure_hold)
def t14__law_sure_hold : IS := (sSeq (sIf (bOr (bT (eOp neD (eCB (f1 lenD) (aCons (eVar 7) aNil)) (eVar 6))) (bOr (bT (eOp neD (eCB (f1 lenD) (aCons (eVar 8) aNil)) (eCB (f1 lenD) (aCons (eOp ixD (eVar 1) (eC (.int 3))) aNil)))) (bT (eOp gtI (eCB (f1 lenD) (aCons (nComp [22] (iOf (eCall sp__law_rests (aCons (eVar 3) (aCons (eVar 4) (aCons (eVar 9) aNil))))) (gN 22) (bT (eOp neD (eOp ixD (eVar 22) (eC (.int 0))) (eC (.int 0)))) (eVar 22)) aNil)) (eC (.int 0)))))) (sRet (eC (.bl false))) sNext)
  t13__law_sure_hold)
def t15__law_sure_hold : IS := (sSeq (sSet 9 (xE (eOp catT (eCB (f1 tupD) (aCons (eVar 7) aNil)) (eCB (f1 tupD) (aCons (eVar 8) aNil)))))
  t14__law_sure_hold)
def t16__law_sure_hold : IS := (sSeq (sAsg (eCall sp_pushes (aCons (eVar 1) aNil)) (tgT 2 (tgsCons (tgN 7) (tgsCons (tgN 8) tgsNil))))
  t15__law_sure_hold)
def m__law_sure_hold : IS := (sSeq (sMany [5, 6] (xCons (xE (nComp [20, 21] (iOf (eOp ixD (eVar 1) (eC (.int 1)))) (gT 2 (gsCons (gN 20) (gsCons (gN 21) gsNil))) bYes (eVar 20))) (xCons (xE (eCB (f1 lenD) (aCons (eOp ixD (eVar 1) (eC (.int 2))) aNil))) xNil)))
  t16__law_sure_hold)
def sp__law_sure_hold : DSp := fun ds P E => ds.length = 5 ∧ m__law_sure_hold (init 23 ds) { nx := fun _ => P .non, rt := P, ex := fun x _ => E x }

abbrev N_law : List Str := "script" :: "state" :: "turn" :: "machine" :: "names_v" :: "told" :: "singled" :: "rows" :: "loads" :: "sure" :: "turned" :: "lines" :: "leads" :: "shares" :: "k" :: "many" :: "nulls" :: "null" :: "both" :: "odd" :: "name" :: "kind" :: "part_v" :: "c" :: "one" :: "row" :: "value" :: []
abbrev p_law : List Str := ["script"]
abbrev i_law : Nat := 1
abbrev lv_law : Nat := 16
def t1_law : IS := (sFor (iOf (eOp catL (eLst (aCons (eOp repL (eLst (aCons (eTup (aCons (eC (.int 0)) (aCons (eC (.int 1)) aNil))) aNil)) (eCB (f1 lenD) (aCons (eVar 7) aNil))) aNil)) (eCB (f1 lstD) (aCons (eVar 16) aNil)))) (gN 17) (sSeq (sSet 18 (xE (eCB (f1 tupD) (aCons (nComp [14] (iRange1 (aCons (eCB (f1 lenD) (aCons (eVar 7) aNil)) aNil)) (gN 14) bYes (eCall sp__law_add (aCons (eOp ixD (oVar 13) (eVar 14)) (aCons (eOp ixD (eVar 17) (eVar 14)) aNil)))) aNil))))
  (sIf (bT (eOp niN (eCall sp_is_balanced (aCons (eVar 3) (aCons (eTup (aCons (eSl slT (eVar 18) pNo (pAt (eVar 15))) (aCons (eSl slT (eVar 18) (pAt (eVar 15)) pNo) aNil))) aNil))) (eC (.bl true)))) (sRet (eC (.bl false))) sNext)))
def t2_law : IS := (sSeq (sPar 15 16 (xE (eCB (f1 lenD) (aCons (eOp ixD (eVar 3) (eC (.int 2))) aNil))) (xE (eCall sp__law_ways (aCons (nComp [25] (iOf (eVar 10)) (gN 25) bYes (eSl slD (eVar 25) pNo (pAt (eUn negI (eC (.int 1)))))) (aCons (eCB (f1 lenD) (aCons (eVar 7) aNil)) aNil)))))
  t1_law)
def t3_law : IS := (sSeq (sFor (iRange1 (aCons (eCB (f1 lenD) (aCons (eVar 12) aNil)) aNil)) (gN 14) (sSetAt 13 (eOp ixD (eVar 12) (eVar 14)) (eOp ixD (eOp ixD (eVar 11) (eVar 14)) (eCB (f1 lenD) (aCons (eVar 7) aNil)))))
  t2_law)
def t4_law : IS := (sSeq (sSet 13 (xN (eOp repL (eLst (aCons (eTup (aCons (eC (.int 0)) (aCons (eC (.int 1)) aNil))) aNil)) (eCB (f1 lenD) (aCons (eVar 7) aNil)))))
  t3_law)
def t5_law : IS := (sSeq (sAsg (eCall sp__law_put_out (aCons (nComp [25] (iOf (eVar 10)) (gN 25) bYes (eCB (f1 lstD) (aCons (eVar 25) aNil))) (aCons (eOp addI (eCB (f1 lenD) (aCons (eVar 7) aNil)) (eC (.int 1))) aNil))) (tgT 2 (tgsCons (tgN 11) (tgsCons (tgN 12) tgsNil))))
  t4_law)
def t6_law : IS := (sIf (bT (eOp gtI (eCB (f1 lenD) (aCons (nComp [26] (iOf (eVar 19)) (gN 26) (bT (eOp niN (eCall sp_is_balanced (aCons (eVar 3) (aCons (eVar 26) aNil))) (eC (.bl false)))) (eVar 26)) aNil)) (eC (.int 0)))) (sRet (eC (.bl false))) sNext)
def t7_law : IS := (sSeq (sSet 19 (xE (eLst (aCons (eC .non) (aCons (eTup aNil) (aCons (eLst (aCons (eTup aNil) (aCons (eTup aNil) aNil))) (aCons (eIf (bT (eOp neD (eOp ixD (eVar 3) (eC (.int 2))) (eTup aNil))) (eTup (aCons (eTup aNil) (aCons (eTup aNil) aNil))) (eC .non)) (aCons (eTup (aCons (eOp repT (eTup (aCons (eTup (aCons (eC (.int 1)) (aCons (eC (.int 1)) aNil))) aNil)) (eC (.int 99))) (aCons (eTup aNil) aNil))) (aCons (eIf (bT (eOp neD (eOp ixD (eVar 3) (eC (.int 2))) (eTup aNil))) (eTup (aCons (eOp repT (eTup (aCons (eTup (aCons (eC (.bl true)) (aCons (eC (.int 1)) aNil))) aNil)) (eCB (f1 lenD) (aCons (eOp ixD (eVar 3) (eC (.int 2))) aNil))) (aCons (eOp repT (eTup (aCons (eTup (aCons (eC (.int 0)) (aCons (eC (.int 1)) aNil))) aNil)) (eCB (f1 lenD) (aCons (eOp ixD (eVar 3) (eC (.int 3))) aNil))) aNil))) (eC .non)) aNil)))))))))
  t6_law)
def t8_law : IS := (sSeq (sIf (bNot (bT (eVar 9))) (sSeq (sSet 10 (xE (nComp [23] (iRange1 (aCons (eCB (f1 lenD) (aCons (eVar 4) aNil)) aNil)) (gN 23) bYes (eOp catT (eCB (f1 tupD) (aCons (nComp [25] (iOf (eVar 7)) (gN 25) bYes (eOp ixD (eVar 25) (eVar 23))) aNil)) (eTup (aCons (eCall sp__law_turn (aCons (eOp ixD (eVar 8) (eVar 23)) aNil)) aNil))))))
  t5_law) sNext)
  t7_law)
def t9_law : IS := (sSeq (sIf (bAnd (bT (eVar 9)) (bNot (bT (eCall sp__law_sure_hold (aCons (eVar 1) (aCons (eVar 3) (aCons (eVar 5) (aCons (eVar 7) (aCons (eVar 8) aNil))))))))) (sRet (eC (.bl false))) sNext)
  t8_law)
def t10_law : IS := (sSeq (sIf (bAnd (bNot (bT (eVar 9))) (bT (eOp neD (nComp [14] (iRange2 (aCons (eC (.int 1)) (aCons (eC (.int 3)) aNil))) (gN 14) bYes (eCall sp__law_word (aCons (eVar 14) (aCons (eVar 3) aNil)))) (eLst (aCons (eC (.str (PySem.Str.ofString "spare"))) (aCons (eC (.str (PySem.Str.ofString "spare"))) aNil)))))) (sRet (eC (.bl false))) sNext)
  t9_law)
def t11_law : IS := (sSeq (sIf (bOr (bT (eOp neD (nComp [25] (iOf (eCall sp_drive_rows (aCons (eVar 3) aNil))) (gN 25) bYes (eCB (f1 tupD) (aCons (eVar 25) aNil))) (eVar 6))) (bOr (bT (eOp neD (eCB (f1 tupD) (aCons (eCall sp_moving (aCons (eVar 3) aNil)) aNil)) (eVar 5))) (bT (eOp neD (eCall sp_is_sure (aCons (eVar 3) aNil)) (eVar 9))))) (sRet (eC (.bl false))) sNext)
  t10_law)
def t12_law : IS := (sSeq (sSet 9 (xE (eOp eqD (eCall sp__law_rank (aCons (eVar 7) (aCons (eCB (f1 lenD) (aCons (eVar 4) aNil)) aNil))) (eCB (f1 lenD) (aCons (eVar 7) aNil)))))
  t11_law)
def t13_law : IS := (sSeq (sMany [7, 8] (xCons (xE (eOp catL (eCall sp__law_rows (aCons (eVar 3) aNil)) (eVar 6))) (xCons (xE (nComp [20] (iOf (eVar 4)) (gN 20) bYes (eGet2 (eCB (f1 dictP) (aCons (eCB (f1 lstD) (aCons (eOp ixD (eVar 3) (eC (.int 4))) aNil)) aNil)) (eVar 20) (eTup (aCons (eC (.int 0)) (aCons (eC (.int 1)) aNil)))))) xNil)))
  t12_law)
def t14_law : IS := (sSeq (sSet 6 (xE (nComp [20, 22] (iOf (eOp ixD (eVar 3) (eC (.int 3)))) (gT 2 (gsCons (gN 20) (gsCons (gN 22) gsNil))) bYes (eCB (f1 tupD) (aCons (nComp [24] (iOf (eVar 4)) (gN 24) bYes (eIf (bT (eOp eqD (eVar 24) (eVar 20))) (eTup (aCons (eC (.int 1)) (aCons (eC (.int 1)) aNil))) (eTup (aCons (eC (.int 0)) (aCons (eC (.int 1)) aNil))))) aNil)))))
  t13_law)
def t15_law : IS := (sSeq (sIf (bT (eIsi "str" (eVar 5))) (sSeq (sIf (bT (eOp neD (nComp [14] (iRange1 (aCons (eC (.int 4)) aNil)) (gN 14) bYes (eCall sp__law_word (aCons (eVar 14) (aCons (eVar 3) aNil)))) (eOp repL (eLst (aCons (eVar 5) aNil)) (eC (.int 4))))) (sRet (eC (.bl false))) sNext)
  sCont) sNext)
  t14_law)
def t16_law : IS := (sSeq (sSet 5 (xE (eCall sp__law_speeds (aCons (eVar 3) aNil))))
  t15_law)
def t17_law : IS := (sSeq (sSet 4 (xE (nComp [20, 21] (iOf (eOp ixD (eVar 3) (eC (.int 1)))) (gT 2 (gsCons (gN 20) (gsCons (gN 21) gsNil))) bYes (eVar 20))))
  t16_law)
def m_law : IS := (sSeq (sFor (iRange1 (aCons (eC (.int 4)) aNil)) (gN 2) (sSeq (sSet 3 (xE (eCall sp__law_driven (aCons (eVar 1) aNil))))
  t17_law))
  (sRet (eC (.bl true))))

end KK

set_option maxRecDepth 100000
set_option maxHeartbeats 4000000
namespace KK
open PySem L2 DL DLX
section
variable {P : Program} {w : World} {K : Fr} {mg : Str → Option Value} {base : Heap}
theorem hb_mis (M : Mis P K mg s_init) : Binds K M.fd ["self", "word"] [] := by
  obtain ⟨_, _, _, _, _, _, e, _⟩ := M.Z.fn
  rw [e]
  exact Binds.all fun us hl => match us, hl with | [_, _], _ => rfl
theorem ok_mis (M : Mis P K mg s_init) : FnOk P w K mg base (L2.CX P w) 3 M.fI M.fd ["self", "word"] (spInit M.C) :=
  init_ok M.Z (NdefX.nscope_by (by decide +kernel)) rfl rfl rfl rfl (by decide) (fun _ => rfl) (fun _ => rfl) (fun _ => rfl) _ (fun _ => rfl)
abbrev N__law_take : List Str := ["state", "bound", "cells", "spot", "cell", "mixed"]
abbrev p__law_take : List Str := ["state", "bound"]
theorem sc__law_take : FnScope N__law_take p__law_take (defScope s__law_take) := ⟨rfl, rfl, rfl, by decide +kernel, rfl, by decide +kernel, by decide +kernel⟩
theorem b__law_take (T : Txt P K mg) : Binds K T.d__law_take.fd p__law_take [] := T.d__law_take.F.binds fun _ _ _ _ _ _ us hl => match us, hl with | [_, _], _ => rfl
theorem fmod_in {x b : Int} (h : 2 ≤ b) : 0 ≤ x.fmod b ∧ x.fmod b < b := by
  rw [Int.fmod_eq_emod_of_nonneg x (by omega)]
  exact ⟨Int.emod_nonneg x (by omega), Int.emod_lt_of_pos x (by omega)⟩
theorem ok__law_take (T : Txt P K mg) : FnOk P w K mg base (L2.CX P w) 1 T.d__law_take.f T.d__law_take.fd p__law_take (liftS K (XR0 K mg) sp__law_take) := by
  have key : ∀ {ds : List Dt} {Pd : Dt → Prop} {E : Xc → Prop}, sp__law_take ds Pd E → ∃ b : Int, ds = [.st, .int b] ∧ b < 1073741824 ∧ ∀ r : Int, (b < 2 → r = 0) → (2 ≤ b → 0 ≤ r ∧ r < b) → Pd (.int r) := by
    intro ds Pd E h
    unfold sp__law_take at h
    split at h
    · exact ⟨_, rfl, h⟩
    · exact h.elim
  refine T.d__law_take.F.okX sc__law_take (fun vs H Q E h => ?_) (fun cdv A outer s H vs Q E hr h => ?_)
  · obtain ⟨dr, I, ds, Pd, EP, _, r, h, _⟩ := h
    obtain ⟨b, rfl, _⟩ := key h
    exact r.len
  · obtain ⟨dr, I, ds, Pd, EP, pre, r, h, _, hq⟩ := h
    obtain ⟨b, rfl, hb, hP⟩ := key h
    have nd := sc__law_take.nd
    cases r with
    | cons r1 r2 =>
    cases r1 with
    | @st q hdr =>
    cases r2 with
    | cons r2 r3 =>
    cases r2
    cases r3
    obtain ⟨i, cs, h1, h2, h3, h4, h5⟩ := pre.dro q hdr
    have hl : 0 < cs.length := List.length_pos_iff.mpr h3
    refine ⟨_, pss_cons (ps_if (pt_cmpR op_lt (pv 1) pe_int (nomark _)) (pss_one (ps_ret pe_int)) pss_nil)
      (pss_cons (ps_set (i := 2) nd rfl (Or.inl rfl) (pe_ix ix_list (pv 0) pe_int (fun _ _ => rfl)))
      (pss_cons (ps_set (i := 3) nd rfl (Or.inl rfl) (pe_op op_mod (pe_callTy call_int1 (by rfl) T.b_int (by decide +kernel) (pa_cons (pe_ix ix_list (pv 0) pe_int (fun _ _ => rfl)) pa_nil)) (pe_callB call_len_seq (by rfl) T.b_len PySem.boot_len (pa_cons (pv 2) pa_nil))))
      (pss_cons (ps_set (i := 4) nd rfl (Or.inl rfl) (pe_ix ix_list (pv 2) (pv 3) (fun _ _ => rfl)))
      (pss_cons (ps_if (pt_cmpR op_ge (pv 4) pe_int (nomark _))
        (pss_cons (ps_asg (pe_op op_fdivN (pv 4) (pv 1)) (pg_sub (pv 2) (pv 3) set_list)) (pss_one (ps_ret (pe_op op_modN (pe_callTy call_int1 (by rfl) T.b_int (by decide +kernel) (pa_cons (pv 4) pa_nil)) (pv 1))))) pss_nil)
      (pss_cons (ps_asg (pe_op op_add (pe_ix ix_list (pv 0) pe_int (fun _ _ => rfl)) pe_int) (pg_sub (pv 0) pe_int set_list))
      (pss_cons (ps_set (i := 5) nd rfl (Or.inl rfl) (pe_op op_mod (pe_callTy call_int1 (by rfl) T.b_int (by decide +kernel) (pa_cons (pe_op op_add (pe_op op_mul (pv 4) pe_int) (pe_op op_mul (pe_ix ix_list (pv 0) pe_int (fun _ _ => rfl)) pe_int)) pa_nil)) pe_int))
      (pss_cons (ps_set (i := 5) nd rfl (Or.inl rfl) (pe_op op_mod (pe_callTy call_int1 (by rfl) T.b_int (by decide +kernel) (pa_cons (pe_op op_add (pe_op op_mul (pv 5) pe_int) (pe_op op_mul (pe_ix ix_list (pv 0) pe_int (fun _ _ => rfl)) pe_int)) pa_nil)) pe_int))
      (pss_one (ps_ret (pe_op op_modN (pe_callTy call_int1 (by rfl) T.b_int (by decide +kernel) (pa_cons (pe_op op_fdiv (pv 5) pe_int) pa_nil)) (pv 1))))))))))), ?_⟩
    -- if bound < 2
    refine ⟨_, rfl, _, _, rfl, rfl, _, rfl, ite2 (fun e => ?_) (fun e => ?_)⟩
    · have e' : b < 2 := of_decide_eq_true e
      exact hq (.int 0) _ H (hP 0 (fun _ => rfl) (fun z => absurd z (by omega))) Kp.refl (.int _)
    · have hb2 : 2 ≤ b := by
        have : ¬ b < 2 := fun z => e (decide_eq_true z)
        omega
      have fin : ∀ (x : Int) (H' : Hp), Kp dr H H' → Q (.int (x.fmod b)) H' := fun x H' k => hq (.int _) _ H' (hP _ (fun z => absurd z (by omega)) fun _ => fmod_in hb2) k (.int _)
      -- cells = state[1]; spot = int(state[0]) % len(cells); cell = cells[spot]
      refine ⟨_, rfl, _, _, 1, _, rfl, rfl, SqL.of h1, atI_nat (j := 1) rfl, _, rfl, _, _, 0, _, rfl, rfl, SqL.of h1, atI_nat (j := 0) rfl, .inl ⟨_, rfl, _, rfl, _, _, rfl, .inl (SqL.of h2), _, _, rfl, rfl, (by rw [List.length_map]; omega), ?_⟩⟩
      rw [List.length_map]
      have s0 : 0 ≤ i % (cs.length : Int) := Int.emod_nonneg i (by omega)
      have s1 : i % (cs.length : Int) < cs.length := Int.emod_lt_of_pos i (by omega)
      obtain ⟨j, ej⟩ : ∃ j : Nat, i % (cs.length : Int) = j := ⟨(i % (cs.length : Int)).toNat, by omega⟩
      have ev : V.int (i % (cs.length : Int)) = V.int j := congrArg V.int ej
      have hj : j < cs.length := by omega
      refine ⟨_, rfl, _, rfl, _, _, (j : Int), .int cs[j], rfl, ev, SqL.of h2, atI_nat (j := j) (by rw [List.getElem?_map, List.getElem?_eq_getElem hj]; rfl), _, rfl, _, _, rfl, rfl, _, rfl, ite2 (fun e2 => ?_) (fun e2 => ?_)⟩
      · -- cells[spot] = cell // bound; return int(cell) % bound
        have hk : Kp dr H (upd H q.2 (.lst ((cs.map V.int).set j (.int (cs[j].fdiv b))))) := by
          refine ⟨fun a o z n => ?_, fun q' eq ⟨i', cs', a1, a2, a3, a4, a5⟩ => ?_⟩
          · rw [upd_ne (fun (y : a = q.2) => n ⟨q, hdr, .inr y⟩)]; exact z
          · rw [hdr] at eq
            cases eq
            refine ⟨i', cs.set j (cs[j].fdiv b), by rw [upd_ne a5]; exact a1, by rw [upd_same, List.map_set], fun z => ?_, by rw [List.length_set]; exact h4, a5⟩
            have z2 := congrArg List.length z
            rw [List.length_set, List.length_nil] at z2
            omega
        refine ⟨_, rfl, _, rfl, cs[j], b, rfl, rfl, ⟨by omega, by omega⟩, _, rfl, _, rfl, q.2, cs.map V.int, (j : Int), j, rfl, ev, h2, Evl.ixN_nat (by rw [List.length_map]; exact hj), ?_⟩
        exact ⟨_, rfl, .inl ⟨_, rfl, _, rfl, _, _, rfl, rfl, by omega, fin _ _ hk⟩⟩
      · -- state[0] = state[0] + 1
        have hk : Kp dr H (upd H q.1 (.lst ([V.int i, V.ref q.2].set 0 (.int (i + 1))))) := by
          refine ⟨fun a o z n => ?_, fun q' eq ⟨i', cs', a1, a2, a3, a4, a5⟩ => ?_⟩
          · rw [upd_ne (fun (y : a = q.1) => n ⟨q, hdr, .inl y⟩)]; exact z
          · rw [hdr] at eq
            cases eq
            exact ⟨i + 1, cs', upd_same, by rw [upd_ne a5.symm]; exact a2, a3, a4, a5⟩
        refine ⟨_, rfl, _, _, 0, _, rfl, rfl, SqL.of h1, atI_nat (j := 0) rfl, i, 1, rfl, rfl, _, rfl, q.1, _, 0, 0, rfl, rfl, h1, rfl, ?_⟩
        refine ⟨_, rfl, _, _, rfl, rfl, .inr ⟨by decide, by decide⟩, _, rfl, _, _, 0, _, rfl, rfl, SqL.of upd_same, atI_nat (j := 0) rfl, _, _, rfl, rfl, .inr ⟨by decide, by decide⟩, _, _, rfl, rfl, .inl ⟨_, rfl, _, _, rfl, rfl, (by show (0 : Int) < 2147483647; decide), ?_⟩⟩
        refine ⟨_, rfl, _, _, rfl, rfl, .inr ⟨by decide, by decide⟩, _, rfl, _, _, 0, _, rfl, rfl, SqL.of upd_same, atI_nat (j := 0) rfl, _, _, rfl, rfl, .inr ⟨by decide, by decide⟩, _, _, rfl, rfl, .inl ⟨_, rfl, _, _, rfl, rfl, (by show (0 : Int) < 1000000007; decide), ?_⟩⟩
        exact ⟨_, rfl, _, _, rfl, rfl, ⟨by decide, by decide⟩, .inl ⟨_, rfl, _, rfl, _, _, rfl, rfl, by omega, fin _ _ hk⟩⟩
abbrev N__law_state : List Str := ["script", "cells", "cell"]
abbrev p__law_state : List Str := ["script"]
theorem sc__law_state : FnScope N__law_state p__law_state (defScope s__law_state) := ⟨rfl, rfl, rfl, by decide +kernel, rfl, by decide +kernel, by decide +kernel⟩
theorem b__law_state (T : Txt P K mg) : Binds K T.d__law_state.fd p__law_state [] := T.d__law_state.F.binds fun _ _ _ _ _ _ us hl => match us, hl with | [_], _ => rfl
theorem ok__law_state (T : Txt P K mg) : FnOk P w K mg base (L2.CX P w) 1 T.d__law_state.f T.d__law_state.fd p__law_state (spState K) := by
  refine T.d__law_state.F.okX sc__law_state (fun vs H Q E h => ?_) (fun cdv A outer s H vs Q E hr h => ?_)
  · obtain ⟨a, ns, rfl, _⟩ := h
    rfl
  · obtain ⟨a, ns, rfl, hS, hn, hq⟩ := h
    have nd := sc__law_state.nd
    refine ⟨_, pss_cons (ps_setLc (i := 1) (own := [("cell", 2)]) (g := gName 2) rfl nd rfl rfl (sw_true rfl rfl rfl (by decide +kernel)) (pi_list (pe_slice sl_list (pv 0) po_none (po_some pe_int))) (blkOk_by (own := [("cell", 2)]) (N := N__law_state) (sc := defScope s__law_state) (by decide +kernel))
        (fun _ _ _ _ _ => pg_name (i := 2) nd rfl (Or.inl rfl)) (fun _ _ _ _ _ => pts_nil) (fun _ _ _ _ _ => pe_callB call_abs (by rfl) T.b_abs (by decide +kernel) (pa_cons (pv 2) pa_nil)))
      (pss_cons (ps_if (pt_cmpR op_eq (pe_callB call_len_seq (by rfl) T.b_len PySem.boot_len (pa_cons (pv 1) pa_nil)) pe_int (nomark _)) (pss_one (ps_set (i := 1) nd rfl (Or.inl rfl) (pe_lst (pa_cons pe_int pa_nil)))) pss_nil)
      (pss_one (ps_ret (pe_lst (pa_cons pe_int (pa_cons (pv 1) pa_nil)))))), ?_⟩
    refine ⟨_, rfl, 63, rfl, a, ns.map V.int, rfl, hS, fun p np => ?_⟩
    rw [cutV_ints]
    generalize hms : cut ns none (some 63) = ms
    have hml : ms.length ≤ 63 := by rw [← hms]; exact Nat.le_trans (cut_len ns none (some 63)) hn
    have s1 := same_new (o := .lst (ms.map V.int)) np
    refine ⟨p, rfl, ⟨_, SqL.of upd_same⟩, fun D nD => ?_⟩
    have pD : p ≠ D := ne_of_none upd_same nD
    have nD0 : H D = none := by
      rw [upd_ne pD.symm] at nD
      exact nD
    refine lc_list (K := K) (a := p) (xs := ms.map V.int) (fun i H2 => Same H H2 ∧ H2 p = some (.lst (ms.map V.int)) ∧ H2 D = some (.lst (((ms.take i).map fun i => if i < 0 then -i else i).map V.int)))
      ⟨fun b o e => by rw [upd_ne (ne_of_none e nD0)]; exact s1 b o e, by rw [upd_ne pD]; exact upd_same, by rw [upd_same]; rfl⟩ (fun i H2 _ h => SqL.of h.2.1) (fun i x H2 hx h => ?_) (fun H2 h => ?_)
    · obtain ⟨h1, h2, h3⟩ := h
      rw [List.getElem?_map] at hx
      have hil : i < ms.length := by
        cases e : ms[i]? with
        | none => rw [e] at hx; cases hx
        | some z => exact (List.getElem?_eq_some_iff.mp e).1
      rw [List.getElem?_eq_getElem hil] at hx
      obtain rfl : V.int ms[i] = x := Option.some.inj hx
      refine ⟨by rfl, _, rfl, _, rfl, _, h3, Nat.lt_of_le_of_lt (show _ ≤ 63 from by rw [List.length_map, List.length_map, List.length_take]; omega) (by decide), fun b o e => ?_, by rw [upd_ne pD]; exact h2, ?_⟩
      · rw [upd_ne (ne_of_none e nD0)]; exact h1 b o e
      · rw [upd_same, List.take_add_one, List.getElem?_eq_getElem hil, List.map_append, List.map_append]
        rfl
    · obtain ⟨h1, h2, h3⟩ := h
      rw [List.length_map, List.take_length] at h3
      refine ⟨_, rfl, D, _, rfl, .inl (SqL.of h3), rfl, _, rfl, ite2 (fun e => ?_) (fun e => ?_)⟩
      · refine ⟨by show 1 ≤ sizeLine; decide, fun c nc => ?_⟩
        refine ⟨_, rfl, by show 2 ≤ sizeLine; decide, fun l nl => ?_⟩
        have cl : c ≠ l := ne_of_none upd_same nl
        refine hq l c [0] _ (fun b o e => ?_) cl.symm upd_same (by rw [upd_ne cl, upd_same]; rfl) (by simp) (by simp)
        have e2 := h1 b o e
        rw [upd_ne (ne_of_none (show (upd H2 c _) b = some o from by rw [upd_ne (ne_of_none e2 nc)]; exact e2) nl), upd_ne (ne_of_none e2 nc)]
        exact e2
      · refine ⟨_, rfl, by show 2 ≤ sizeLine; decide, fun l nl => ?_⟩
        have cl : D ≠ l := ne_of_none h3 nl
        refine hq l D (ms.map fun i => if i < 0 then -i else i) _ (fun b o e => ?_) cl.symm upd_same (by rw [upd_ne cl]; exact h3) (fun z => e ?_) (by rw [List.length_map]; exact hml)
        · have e2 := h1 b o e
          rw [upd_ne (ne_of_none e2 nl)]
          exact e2
        · rw [List.map_eq_nil_iff] at z
          subst z
          rfl
theorem sc_divisor : FnScope N_divisor p_divisor (defScope s_divisor) := ⟨rfl, rfl, rfl, by decide +kernel, rfl, by decide +kernel, by decide +kernel⟩
theorem b_divisor (T : Txt P K mg) : Binds K T.d_divisor.fd p_divisor [] := T.d_divisor.F.binds fun _ _ _ _ _ _ us hl => match us, hl with | [_, _], _ => rfl
theorem ok_divisor (T : Txt P K mg) : FnOk P w K mg base (L2.CX P w) 1 T.d_divisor.f T.d_divisor.fd p_divisor (liftS K (XR0 K mg) sp_divisor) := by
  refine fn_ok (is := m_divisor) T.d_divisor.F sc_divisor (fun _ _ _ h => h.1) (fun cdv A outer s H E W hr hu tk po => ?_) fun _ _ _ h => h.2
  have nd := sc_divisor.nd
  exact (lss_cons (ls_par 0 1 rfl nd (by decide) (le_abs (by rfl) T.b_abs (le_var 0).O).x (le_abs (by rfl) T.b_abs (le_var 1).O).x)
      (lss_cons (ls_while po (lt_cmp (c_ne hu) (le_var 1).O (le_int).O) (lss_one (ls_par 0 1 rfl nd (by decide) (le_var 1).x (le_mod (le_var 0).O (le_var 1).O).x)))
      (lss_one (ls_ret (le_var 0)))))

theorem sc_part : FnScope N_part p_part (defScope s_part) := ⟨rfl, rfl, rfl, by decide +kernel, rfl, by decide +kernel, by decide +kernel⟩
theorem b_part (T : Txt P K mg) : Binds K T.d_part.fd p_part [] := T.d_part.F.binds fun _ _ _ _ _ _ us hl => match us, hl with | [_, _], _ => rfl
theorem ok_part (T : Txt P K mg) : FnOk P w K mg base (L2.CX P w) 2 T.d_part.f T.d_part.fd p_part (liftS K (XR0 K mg) sp_part) := by
  refine fn_ok (is := m_part) T.d_part.F sc_part (fun _ _ _ h => h.1) (fun cdv A outer s H E W hr hu tk po => ?_) fun _ _ _ h => h.2
  have nd := sc_part.nd
  exact (lss_cons (ls_if (lt_cmp c_lt (le_var 1).O (le_int).O) (lss_one (ls_par 0 1 rfl nd (by decide) (le_sub (le_int).O (le_var 0).O).x (le_sub (le_int).O (le_var 1).O).x)) lss_nil)
      (lss_cons (ls_set 2 nd (le_call (ok_divisor T) tk (hr.mono (by decide)) (by rfl) T.d_divisor.g T.d_divisor.F.kp (b_divisor T) (la_cons (le_var 0) (la_cons (le_var 1) la_nil))).x)
      (lss_one (ls_ret (le_tup (la_cons (le_div (le_var 0).O (le_var 2).O) (la_cons (le_div (le_var 1).O (le_var 2).O) la_nil)))))))

theorem sc_is_part : FnScope N_is_part p_is_part (defScope s_is_part) := ⟨rfl, rfl, rfl, by decide +kernel, rfl, by decide +kernel, by decide +kernel⟩
theorem b_is_part (T : Txt P K mg) : Binds K T.d_is_part.fd p_is_part [] := T.d_is_part.F.binds fun _ _ _ _ _ _ us hl => match us, hl with | [_], _ => rfl
theorem ok_is_part (T : Txt P K mg) : FnOk P w K mg base (L2.CX P w) 2 T.d_is_part.f T.d_is_part.fd p_is_part (liftS K (XR0 K mg) sp_is_part) := by
  refine fn_ok (is := m_is_part) T.d_is_part.F sc_is_part (fun _ _ _ h => h.1) (fun cdv A outer s H E W hr hu tk po => ?_) fun _ _ _ h => h.2
  have nd := sc_is_part.nd
  exact (lss_cons (ls_if (lw_or (lt_not (lt_val (le_isi (T := "tuple") (by rfl) T.b_isinstance (by rfl) T.b_tuple (by decide +kernel) (le_var 0).O))) (lw_or1 (lt_cmp (c_ne hu) (le_len (by rfl) T.b_len (le_var 0).O).O (le_int).O))).t (lss_one (ls_ret le_bl)) lss_nil)
      (lss_cons (ls_if (lt_not (lt_val (le_all rfl (by rfl) T.b_all ((ln_comp (ts := [1]) (own := [("number", 1)]) rfl nd (lio_of (le_var 0).O) (blkOk_by (own := [("number", 1)]) (by show blkC N_is_part (defScope s_is_part) _ _ = true; decide +kernel)) rfl (fun _ _ _ _ _ => (lg_name 1 nd)) (fun _ _ _ _ _ => lts_nil) (fun _ _ _ _ _ => (le_and (le_isi (T := "int") (by rfl) T.b_isinstance (by rfl) T.b_int (by decide +kernel) (le_var 1).O) (le_one (le_not (le_isi (T := "bool") (by rfl) T.b_isinstance (by rfl) T.b_bool (by decide +kernel) (le_var 1).O))))))).E.O))) (lss_one (ls_ret le_bl)) lss_nil)
      (lss_one (ls_ret (le_and (le_cmp c_ge (le_ix (le_var 0).O (le_int).O).O (le_int).O) (le_one (le_cmp (c_eq hu) (le_call (ok_divisor T) tk (hr.mono (by decide)) (by rfl) T.d_divisor.g T.d_divisor.F.kp (b_divisor T) (la_cons (le_ix (le_var 0).O (le_int).O) (la_cons (le_ix (le_var 0).O (le_int).O) la_nil))).O (le_int).O)))))))

theorem sc_plus : FnScope N_plus p_plus (defScope s_plus) := ⟨rfl, rfl, rfl, by decide +kernel, rfl, by decide +kernel, by decide +kernel⟩
theorem b_plus (T : Txt P K mg) : Binds K T.d_plus.fd p_plus [] := T.d_plus.F.binds fun _ _ _ _ _ _ us hl => match us, hl with | [_, _], _ => rfl
theorem ok_plus (T : Txt P K mg) : FnOk P w K mg base (L2.CX P w) 3 T.d_plus.f T.d_plus.fd p_plus (liftS K (XR0 K mg) sp_plus) := by
  refine fn_ok (is := m_plus) T.d_plus.F sc_plus (fun _ _ _ h => h.1) (fun cdv A outer s H E W hr hu tk po => ?_) fun _ _ _ h => h.2
  have nd := sc_plus.nd
  exact (lss_one (ls_ret (le_call (ok_part T) tk (hr.mono (by decide)) (by rfl) T.d_part.g T.d_part.F.kp (b_part T) (la_cons (le_add (le_mul (le_ix (le_var 0).O (le_int).O).O (le_ix (le_var 1).O (le_int).O).O).O (le_mul (le_ix (le_var 1).O (le_int).O).O (le_ix (le_var 0).O (le_int).O).O).O) (la_cons (le_mul (le_ix (le_var 0).O (le_int).O).O (le_ix (le_var 1).O (le_int).O).O) la_nil)))))

theorem sc_minus : FnScope N_minus p_minus (defScope s_minus) := ⟨rfl, rfl, rfl, by decide +kernel, rfl, by decide +kernel, by decide +kernel⟩
theorem b_minus (T : Txt P K mg) : Binds K T.d_minus.fd p_minus [] := T.d_minus.F.binds fun _ _ _ _ _ _ us hl => match us, hl with | [_, _], _ => rfl
theorem ok_minus (T : Txt P K mg) : FnOk P w K mg base (L2.CX P w) 3 T.d_minus.f T.d_minus.fd p_minus (liftS K (XR0 K mg) sp_minus) := by
  refine fn_ok (is := m_minus) T.d_minus.F sc_minus (fun _ _ _ h => h.1) (fun cdv A outer s H E W hr hu tk po => ?_) fun _ _ _ h => h.2
  have nd := sc_minus.nd
  exact (lss_one (ls_ret (le_call (ok_part T) tk (hr.mono (by decide)) (by rfl) T.d_part.g T.d_part.F.kp (b_part T) (la_cons (le_sub (le_mul (le_ix (le_var 0).O (le_int).O).O (le_ix (le_var 1).O (le_int).O).O).O (le_mul (le_ix (le_var 1).O (le_int).O).O (le_ix (le_var 0).O (le_int).O).O).O) (la_cons (le_mul (le_ix (le_var 0).O (le_int).O).O (le_ix (le_var 1).O (le_int).O).O) la_nil)))))

theorem sc_times : FnScope N_times p_times (defScope s_times) := ⟨rfl, rfl, rfl, by decide +kernel, rfl, by decide +kernel, by decide +kernel⟩
theorem b_times (T : Txt P K mg) : Binds K T.d_times.fd p_times [] := T.d_times.F.binds fun _ _ _ _ _ _ us hl => match us, hl with | [_, _], _ => rfl
theorem ok_times (T : Txt P K mg) : FnOk P w K mg base (L2.CX P w) 3 T.d_times.f T.d_times.fd p_times (liftS K (XR0 K mg) sp_times) := by
  refine fn_ok (is := m_times) T.d_times.F sc_times (fun _ _ _ h => h.1) (fun cdv A outer s H E W hr hu tk po => ?_) fun _ _ _ h => h.2
  have nd := sc_times.nd
  exact (lss_one (ls_ret (le_call (ok_part T) tk (hr.mono (by decide)) (by rfl) T.d_part.g T.d_part.F.kp (b_part T) (la_cons (le_mul (le_ix (le_var 0).O (le_int).O).O (le_ix (le_var 1).O (le_int).O).O) (la_cons (le_mul (le_ix (le_var 0).O (le_int).O).O (le_ix (le_var 1).O (le_int).O).O) la_nil)))))

theorem sc_over : FnScope N_over p_over (defScope s_over) := ⟨rfl, rfl, rfl, by decide +kernel, rfl, by decide +kernel, by decide +kernel⟩
theorem b_over (T : Txt P K mg) : Binds K T.d_over.fd p_over [] := T.d_over.F.binds fun _ _ _ _ _ _ us hl => match us, hl with | [_, _], _ => rfl
theorem ok_over (T : Txt P K mg) : FnOk P w K mg base (L2.CX P w) 3 T.d_over.f T.d_over.fd p_over (liftS K (XR0 K mg) sp_over) := by
  refine fn_ok (is := m_over) T.d_over.F sc_over (fun _ _ _ h => h.1) (fun cdv A outer s H E W hr hu tk po => ?_) fun _ _ _ h => h.2
  have nd := sc_over.nd
  exact (lss_one (ls_ret (le_call (ok_part T) tk (hr.mono (by decide)) (by rfl) T.d_part.g T.d_part.F.kp (b_part T) (la_cons (le_mul (le_ix (le_var 0).O (le_int).O).O (le_ix (le_var 1).O (le_int).O).O) (la_cons (le_mul (le_ix (le_var 0).O (le_int).O).O (le_ix (le_var 1).O (le_int).O).O) la_nil)))))

theorem sc_negative : FnScope N_negative p_negative (defScope s_negative) := ⟨rfl, rfl, rfl, by decide +kernel, rfl, by decide +kernel, by decide +kernel⟩
theorem b_negative (T : Txt P K mg) : Binds K T.d_negative.fd p_negative [] := T.d_negative.F.binds fun _ _ _ _ _ _ us hl => match us, hl with | [_], _ => rfl
theorem ok_negative (T : Txt P K mg) : FnOk P w K mg base (L2.CX P w) 1 T.d_negative.f T.d_negative.fd p_negative (liftS K (XR0 K mg) sp_negative) := by
  refine fn_ok (is := m_negative) T.d_negative.F sc_negative (fun _ _ _ h => h.1) (fun cdv A outer s H E W hr hu tk po => ?_) fun _ _ _ h => h.2
  have nd := sc_negative.nd
  exact (lss_one (ls_ret (le_tup (la_cons (le_sub (le_int).O (le_ix (le_var 0).O (le_int).O).O) (la_cons (le_ix (le_var 0).O (le_int).O) la_nil)))))

theorem sc_is_less : FnScope N_is_less p_is_less (defScope s_is_less) := ⟨rfl, rfl, rfl, by decide +kernel, rfl, by decide +kernel, by decide +kernel⟩
theorem b_is_less (T : Txt P K mg) : Binds K T.d_is_less.fd p_is_less [] := T.d_is_less.F.binds fun _ _ _ _ _ _ us hl => match us, hl with | [_, _], _ => rfl
theorem ok_is_less (T : Txt P K mg) : FnOk P w K mg base (L2.CX P w) 1 T.d_is_less.f T.d_is_less.fd p_is_less (liftS K (XR0 K mg) sp_is_less) := by
  refine fn_ok (is := m_is_less) T.d_is_less.F sc_is_less (fun _ _ _ h => h.1) (fun cdv A outer s H E W hr hu tk po => ?_) fun _ _ _ h => h.2
  have nd := sc_is_less.nd
  exact (lss_one (ls_ret (le_cmp c_lt (le_mul (le_ix (le_var 0).O (le_int).O).O (le_ix (le_var 1).O (le_int).O).O).O (le_mul (le_ix (le_var 1).O (le_int).O).O (le_ix (le_var 0).O (le_int).O).O).O)))

theorem sc_total : FnScope N_total p_total (defScope s_total) := ⟨rfl, rfl, rfl, by decide +kernel, rfl, by decide +kernel, by decide +kernel⟩
theorem b_total (T : Txt P K mg) : Binds K T.d_total.fd p_total [] := T.d_total.F.binds fun _ _ _ _ _ _ us hl => match us, hl with | [_], _ => rfl
theorem ok_total (T : Txt P K mg) : FnOk P w K mg base (L2.CX P w) 4 T.d_total.f T.d_total.fd p_total (liftS K (XR0 K mg) sp_total) := by
  refine fn_ok (is := m_total) T.d_total.F sc_total (fun _ _ _ h => h.1) (fun cdv A outer s H E W hr hu tk po => ?_) fun _ _ _ h => h.2
  have nd := sc_total.nd
  exact (lss_cons (ls_set 1 nd (le_tup (la_cons le_int (la_cons le_int la_nil))).x)
      (lss_cons (ls_for po rfl (li_of (le_var 0)) (lg_name 2 nd) (lss_one (ls_set 1 nd (le_call (ok_plus T) tk (hr.mono (by decide)) (by rfl) T.d_plus.g T.d_plus.F.kp (b_plus T) (la_cons (le_var 1) (la_cons (le_var 2) la_nil))).x)))
      (lss_one (ls_ret (le_var 1)))))

theorem sc_names : FnScope N_names p_names (defScope s_names) := ⟨rfl, rfl, rfl, by decide +kernel, rfl, by decide +kernel, by decide +kernel⟩
theorem b_names (T : Txt P K mg) : Binds K T.d_names.fd p_names [] := T.d_names.F.binds fun _ _ _ _ _ _ us hl => match us, hl with | [_], _ => rfl
theorem ok_names (T : Txt P K mg) : FnOk P w K mg base (L2.CX P w) 1 T.d_names.f T.d_names.fd p_names (liftS K (XR0 K mg) sp_names) := by
  refine fn_ok (is := m_names) T.d_names.F sc_names (fun _ _ _ h => h.1) (fun cdv A outer s H E W hr hu tk po => ?_) fun _ _ _ h => h.2
  have nd := sc_names.nd
  exact (lss_one (ls_ret ((ln_comp (ts := [1, 2]) (own := [("name", 1), ("kind", 2)]) rfl nd (lio_of (le_ix (le_var 0).O (le_int).O).O) (blkOk_by (own := [("name", 1), ("kind", 2)]) (by show blkC N_names (defScope s_names) _ _ = true; decide +kernel)) rfl (fun _ _ _ _ _ => (lg_tup (n := 2) rfl (lgs_cons (lg_name 1 nd) (lgs_cons (lg_name 2 nd) lgs_nil)))) (fun _ _ _ _ _ => lts_nil) (fun _ _ _ _ _ => (le_var 1)))).E))

theorem sc_place : FnScope N_place p_place (defScope s_place) := ⟨rfl, rfl, rfl, by decide +kernel, rfl, by decide +kernel, by decide +kernel⟩
theorem b_place (T : Txt P K mg) : Binds K T.d_place.fd p_place [] := T.d_place.F.binds fun _ _ _ _ _ _ us hl => match us, hl with | [_, _], _ => rfl
theorem ok_place (T : Txt P K mg) : FnOk P w K mg base (L2.CX P w) 5 T.d_place.f T.d_place.fd p_place (liftS K (XR0 K mg) sp_place) := by
  refine fn_ok (is := m_place) T.d_place.F sc_place (fun _ _ _ h => h.1) (fun cdv A outer s H E W hr hu tk po => ?_) fun _ _ _ h => h.2
  have nd := sc_place.nd
  exact (lss_cons (ls_set 2 nd (le_call (ok_names T) tk (hr.mono (by decide)) (by rfl) T.d_names.g T.d_names.F.kp (b_names T) (la_cons (le_var 0) la_nil)).x)
      (lss_cons (ls_if (lt_cmp (c_ni hu) (le_var 1).O (le_var 2).O) (lss_one (ls_raise rfl tk T.mis.Z (ok_mis T.mis) (hr.mono (by decide)) (hb_mis T.mis) T.mis.x1 (by rfl) (la_cons le_str la_nil))) lss_nil)
      (lss_one (ls_ret (le_lidx hu (le_var 2).O (le_var 1))))))

theorem sc_terms : FnScope N_terms p_terms (defScope s_terms) := ⟨rfl, rfl, rfl, by decide +kernel, rfl, by decide +kernel, by decide +kernel⟩
theorem b_terms (T : Txt P K mg) : Binds K T.d_terms.fd p_terms [] := T.d_terms.F.binds fun _ _ _ _ _ _ us hl => match us, hl with | [_], _ => rfl
theorem ok_terms (T : Txt P K mg) : FnOk P w K mg base (L2.CX P w) 1 T.d_terms.f T.d_terms.fd p_terms (liftS K (XR0 K mg) sp_terms) := by
  refine fn_ok (is := m_terms) T.d_terms.F sc_terms (fun _ _ _ h => h.1) (fun cdv A outer s H E W hr hu tk po => ?_) fun _ _ _ h => h.2
  have nd := sc_terms.nd
  exact (lss_cons (ls_par 1 2 rfl nd (by decide) (le_ix (le_var 0).O (le_int).O).x (le_slD (le_var 0).O (lp_at le_int) lp_no).x)
      (lss_cons (ls_if (lt_cmp (c_in hu) (le_var 1).O (le_tup (la_cons le_str (la_cons le_str la_nil))).O) (lss_one (ls_ret ((ln_lst (la_cons (le_tup (la_cons (le_ix (le_var 2).O (le_int).O) (la_cons (le_ix (le_var 2).O (le_int).O) la_nil))) (la_cons (le_tup (la_cons (le_ix (le_var 2).O (le_int).O) (la_cons (le_ix (le_var 2).O (le_int).O) la_nil))) la_nil)))).E)) lss_nil)
      (lss_cons (ls_if (lt_cmp (c_in hu) (le_var 1).O (le_tup (la_cons le_str (la_cons le_str la_nil))).O) (lss_one (ls_ret ((ln_lst (la_cons (le_tup (la_cons (le_ix (le_var 2).O (le_int).O) (la_cons (le_ix (le_var 2).O (le_int).O) la_nil))) (la_cons (le_tup (la_cons (le_ix (le_var 2).O (le_int).O) (la_cons (le_sub (le_int).O (le_ix (le_var 2).O (le_int).O).O) la_nil))) la_nil)))).E)) lss_nil)
      (lss_cons (ls_if (lt_cmp (c_eq hu) (le_var 1).O (le_str).O) (lss_one (ls_ret ((ln_lst (la_cons (le_tup (la_cons (le_ix (le_var 2).O (le_int).O) (la_cons (le_ix (le_var 2).O (le_int).O) la_nil))) (la_cons (le_tup (la_cons (le_ix (le_var 2).O (le_int).O) (la_cons (le_ix (le_var 2).O (le_int).O) la_nil))) (la_cons (le_tup (la_cons (le_ix (le_var 2).O (le_int).O) (la_cons (le_sub (le_sub (le_int).O (le_ix (le_var 2).O (le_int).O).O).O (le_ix (le_var 2).O (le_int).O).O) la_nil))) la_nil))))).E)) lss_nil)
      (lss_cons (ls_if (lt_cmp (c_eq hu) (le_var 1).O (le_str).O) (lss_one (ls_ret ((ln_lst (la_cons (le_tup (la_cons (le_ix (le_var 2).O (le_int).O) (la_cons (le_ix (le_var 2).O (le_int).O) la_nil))) (la_cons (le_tup (la_cons (le_ix (le_var 2).O (le_int).O) (la_cons (le_sub (le_int).O (le_ix (le_var 2).O (le_int).O).O) la_nil))) (la_cons (le_tup (la_cons (le_ix (le_var 2).O (le_int).O) (la_cons (le_sub (le_ix (le_var 2).O (le_int).O).O (le_ix (le_var 2).O (le_int).O).O) la_nil))) la_nil))))).E)) lss_nil)
      (lss_cons (ls_if (lt_cmp (c_eq hu) (le_var 1).O (le_str).O) (lss_one (ls_ret ((ln_lst (la_cons (le_tup (la_cons (le_ix (le_var 2).O (le_int).O) (la_cons le_int la_nil))) (la_cons (le_tup (la_cons (le_ix (le_var 2).O (le_int).O) (la_cons (le_sub (le_int).O (le_int).O) la_nil))) la_nil)))).E)) lss_nil)
      (lss_cons (ls_if (lt_cmp (c_eq hu) (le_var 1).O (le_str).O) (lss_one (ls_ret ((ln_lst (la_cons (le_tup (la_cons (le_ix (le_var 2).O (le_int).O) (la_cons le_int la_nil))) la_nil))).E)) lss_nil)
      (lss_cons (ls_if (lt_cmp (c_eq hu) (le_var 1).O (le_str).O) (lss_one (ls_ret ((ln_lst (la_cons (le_tup (la_cons (le_ix (le_var 2).O (le_int).O) (la_cons le_int la_nil))) (la_cons (le_tup (la_cons (le_ix (le_var 2).O (le_int).O) (la_cons (le_sub (le_int).O (le_ix (le_var 2).O (le_int).O).O) la_nil))) la_nil)))).E)) lss_nil)
      (lss_cons (ls_if (lt_cmp (c_eq hu) (le_var 1).O (le_str).O) (lss_one (ls_ret ((ln_lst (la_cons (le_tup (la_cons (le_ix (le_var 2).O (le_int).O) (la_cons (le_ix (le_var 2).O (le_int).O) la_nil))) (la_cons (le_tup (la_cons (le_ix (le_var 2).O (le_int).O) (la_cons (le_ix (le_var 2).O (le_int).O) la_nil))) la_nil)))).E)) lss_nil)
      (lss_one (ls_ret ((ln_lst (la_cons (le_tup (la_cons (le_ix (le_var 2).O (le_int).O) (la_cons le_int la_nil))) (la_cons (le_tup (la_cons (le_ix (le_var 2).O (le_int).O) (la_cons le_int la_nil))) (la_cons (le_tup (la_cons (le_ix (le_var 2).O (le_int).O) (la_cons (le_sub (le_int).O (le_int).O) la_nil))) la_nil))))).E)))))))))))

theorem sc_row_of : FnScope N_row_of p_row_of (defScope s_row_of) := ⟨rfl, rfl, rfl, by decide +kernel, rfl, by decide +kernel, by decide +kernel⟩
theorem b_row_of (T : Txt P K mg) : Binds K T.d_row_of.fd p_row_of [] := T.d_row_of.F.binds fun _ _ _ _ _ _ us hl => match us, hl with | [_, _], _ => rfl
theorem ok_row_of (T : Txt P K mg) : FnOk P w K mg base (L2.CX P w) 6 T.d_row_of.f T.d_row_of.fd p_row_of (liftS K (XR0 K mg) sp_row_of) := by
  refine fn_ok (is := m_row_of) T.d_row_of.F sc_row_of (fun _ _ _ h => h.1) (fun cdv A outer s H E W hr hu tk po => ?_) fun _ _ _ h => h.2
  have nd := sc_row_of.nd
  exact (lss_cons (ls_set 2 nd (ln_rep ((ln_lst (la_cons (le_glob (by rfl) T.c_NOUGHT_laying.hm T.c_NOUGHT_laying.r T.c_NOUGHT_laying.h) la_nil))).E.O (le_len (by rfl) T.b_len (le_ix (le_var 0).O (le_int).O).O).O).x)
      (lss_cons (ls_for po rfl (li_of (le_call (ok_terms T) tk (hr.mono (by decide)) (by rfl) T.d_terms.g T.d_terms.F.kp (b_terms T) (la_cons (le_var 1) la_nil))) (lg_tup (n := 2) rfl (lgs_cons (lg_name 3 nd) (lgs_cons (lg_name 4 nd) lgs_nil))) (lss_cons (ls_set 5 nd (le_call (ok_place T) tk (hr.mono (by decide)) (by rfl) T.d_place.g T.d_place.F.kp (b_place T) (la_cons (le_var 0) (la_cons (le_var 3) la_nil))).x)
      (lss_one (ls_setAt 2 (le_var 5) (le_call (ok_plus T) tk (hr.mono (by decide)) (by rfl) T.d_plus.g T.d_plus.F.kp (b_plus T) (la_cons (le_ix (lo_var 2) (le_var 5).O) (la_cons (le_tup (la_cons (le_var 4) (la_cons le_int la_nil))) la_nil)))))))
      (lss_one (ls_ret (le_tupC (by rfl) T.b_tuple (lo_var 2))))))

theorem sc_rows_of : FnScope N_rows_of p_rows_of (defScope s_rows_of) := ⟨rfl, rfl, rfl, by decide +kernel, rfl, by decide +kernel, by decide +kernel⟩
theorem b_rows_of (T : Txt P K mg) : Binds K T.d_rows_of.fd p_rows_of [] := T.d_rows_of.F.binds fun _ _ _ _ _ _ us hl => match us, hl with | [_], _ => rfl
theorem ok_rows_of (T : Txt P K mg) : FnOk P w K mg base (L2.CX P w) 7 T.d_rows_of.f T.d_rows_of.fd p_rows_of (liftN K (XR0 K mg) sp_rows_of) := by
  refine fn_okN (is := m_rows_of) T.d_rows_of.F sc_rows_of (fun _ _ _ h => h.1) (fun cdv A outer s H E W hr hu tk po => ?_) fun _ _ _ h => h.2
  have nd := sc_rows_of.nd
  exact (lss_one (ls_retO (ln_comp (ts := [1]) (own := [("part", 1)]) rfl nd (lio_of (le_ix (le_var 0).O (le_int).O).O) (blkOk_by (own := [("part", 1)]) (by show blkC N_rows_of (defScope s_rows_of) _ _ = true; decide +kernel)) rfl (fun _ _ _ _ _ => (lg_name 1 nd)) (fun _ _ _ _ _ => lts_nil) (fun _ _ _ _ _ => (le_call (ok_row_of T) takes0 (hr.mono (by decide)) (by rfl) T.d_row_of.g T.d_row_of.F.kp (b_row_of T) (la_cons (le_var 0) (la_cons (le_var 1) la_nil)))))))

theorem sc_loads_row : FnScope N_loads_row p_loads_row (defScope s_loads_row) := ⟨rfl, rfl, rfl, by decide +kernel, rfl, by decide +kernel, by decide +kernel⟩
theorem b_loads_row (T : Txt P K mg) : Binds K T.d_loads_row.fd p_loads_row [] := T.d_loads_row.F.binds fun _ _ _ _ _ _ us hl => match us, hl with | [_], _ => rfl
theorem ok_loads_row (T : Txt P K mg) : FnOk P w K mg base (L2.CX P w) 2 T.d_loads_row.f T.d_loads_row.fd p_loads_row (liftS K (XR0 K mg) sp_loads_row) := by
  refine fn_ok (is := m_loads_row) T.d_loads_row.F sc_loads_row (fun _ _ _ h => h.1) (fun cdv A outer s H E W hr hu tk po => ?_) fun _ _ _ h => h.2
  have nd := sc_loads_row.nd
  exact (lss_cons (ls_set 1 nd ((ln_dict rfl (by rfl) T.b_dict (le_ix (le_var 0).O (le_int).O).O)).E.x)
      (lss_one (ls_ret (le_tupC (by rfl) T.b_tuple ((ln_comp (ts := [2]) (own := [("name", 2)]) rfl nd (lio_of (le_call (ok_names T) tk (hr.mono (by decide)) (by rfl) T.d_names.g T.d_names.F.kp (b_names T) (la_cons (le_var 0) la_nil)).O) (blkOk_by (own := [("name", 2)]) (by show blkC N_loads_row (defScope s_loads_row) _ _ = true; decide +kernel)) rfl (fun _ _ _ _ _ => (lg_name 2 nd)) (fun _ _ _ _ _ => lts_nil) (fun _ _ _ _ _ => (le_get2 (hu1 hu) (le_var 1).O (le_var 2) (le_glob (by rfl) T.c_NOUGHT_laying.hm T.c_NOUGHT_laying.r T.c_NOUGHT_laying.h))))).E.O))))

theorem sc_reduced : FnScope N_reduced p_reduced (defScope s_reduced) := ⟨rfl, rfl, rfl, by decide +kernel, rfl, by decide +kernel, by decide +kernel⟩
theorem b_reduced (T : Txt P K mg) : Binds K T.d_reduced.fd p_reduced [] := T.d_reduced.F.binds fun _ _ _ _ _ _ us hl => match us, hl with | [_, _], _ => rfl
theorem ok_reduced (T : Txt P K mg) : FnOk P w K mg base (L2.CX P w) 4 T.d_reduced.f T.d_reduced.fd p_reduced (liftS K (XR0 K mg) sp_reduced) := by
  refine fn_ok (is := m_reduced) T.d_reduced.F sc_reduced (fun _ _ _ h => h.1) (fun cdv A outer s H E W hr hu tk po => ?_) fun _ _ _ h => h.2
  have nd := sc_reduced.nd
  exact (lss_cons (ls_many rfl (lxa_cons (ln_comp (ts := [9]) (own := [("row", 9)]) rfl nd (lio_of (le_var 0).O) (blkOk_by (own := [("row", 9)]) (by show blkC N_reduced (defScope s_reduced) _ _ = true; decide +kernel)) rfl (fun _ _ _ _ _ => (lg_name 9 nd)) (fun _ _ _ _ _ => lts_nil) (fun _ _ _ _ _ => ((ln_lstC (by rfl) T.b_list (le_var 9).O)).E)).x (lxa_cons (ln_lst la_nil).x lxa_nil)) (lnm_cons 2 nd (lnm_cons 3 nd lnm_nil)))
      (lss_cons (ls_for po rfl (li_r1 (by rfl) T.b_range (la_cons (le_var 1) la_nil)) (lg_name 4 nd) (lss_cons (ls_setLcE 5 (ts := [7]) (own := [("k", 7)]) rfl nd (li_r2 (by rfl) T.b_range (la_cons (le_len (by rfl) T.b_len (lo_var 3)) (la_cons (le_len (by rfl) T.b_len (lo_var 2)) la_nil))).O (blkOk_by (own := [("k", 7)]) (by show blkC N_reduced (defScope s_reduced) _ _ = true; decide +kernel)) rfl (fun _ _ _ _ _ => (lg_name 7 nd)) (fun _ _ _ _ _ => (lts_one (lt_cmp (c_ne hu) (le_ix (le_ix (le_ix (lo_var 2) (le_var 7).O).O (le_var 4).O).O (le_int).O).O (le_int).O))) (fun _ _ _ _ _ => (le_var 7)))
      (lss_one (ls_if (lt_cmp c_gt (le_len (by rfl) T.b_len (le_var 5).O).O (le_int).O) (lss_cons (ls_set 6 nd (le_len (by rfl) T.b_len (lo_var 3)).x)
      (lss_cons (ls_asg (le_tup (la_cons (le_ix (lo_var 2) (le_ix (le_var 5).O (le_int).O).O) (la_cons (le_ix (lo_var 2) (le_var 6).O) la_nil))) (ltg_tup (n := 2) rfl (ltgs_cons (ltg_sub 2 (le_var 6)) (ltgs_cons (ltg_sub 2 (le_ix (le_var 5).O (le_int).O)) ltgs_nil))))
      (lss_cons (ls_setAt 2 (le_var 6) ((ln_comp (ts := [10]) (own := [("one", 10)]) rfl nd (lio_of (le_ix (lo_var 2) (le_var 6).O).O) (blkOk_by (own := [("one", 10)]) (by show blkC N_reduced (defScope s_reduced) _ _ = true; decide +kernel)) rfl (fun _ _ _ _ _ => (lg_name 10 nd)) (fun _ _ _ _ _ => lts_nil) (fun _ _ _ _ _ => (le_call (ok_over T) takes0 (hr.mono (by decide)) (by rfl) T.d_over.g T.d_over.F.kp (b_over T) (la_cons (le_var 10) (la_cons (le_ix (le_ix (lo_var 2) (le_var 6).O).O (le_var 4).O) la_nil)))))).E)
      (lss_cons (ls_for po rfl (li_r1 (by rfl) T.b_range (la_cons (le_len (by rfl) T.b_len (lo_var 2)) la_nil)) (lg_name 7 nd) (lss_one (ls_if (lw_and (lt_cmp (c_ne hu) (le_var 7).O (le_var 6).O) (lw_and1 (lt_cmp (c_ne hu) (le_ix (le_ix (le_ix (lo_var 2) (le_var 7).O).O (le_var 4).O).O (le_int).O).O (le_int).O))).t (lss_cons (ls_set 8 nd (le_ix (le_ix (lo_var 2) (le_var 7).O).O (le_var 4).O).x)
      (lss_one (ls_setAt 2 (le_var 7) ((ln_comp (ts := [11]) (own := [("c", 11)]) rfl nd (li_r1 (by rfl) T.b_range (la_cons (le_len (by rfl) T.b_len (le_ix (lo_var 2) (le_var 7).O).O) la_nil)).O (blkOk_by (own := [("c", 11)]) (by show blkC N_reduced (defScope s_reduced) _ _ = true; decide +kernel)) rfl (fun _ _ _ _ _ => (lg_name 11 nd)) (fun _ _ _ _ _ => lts_nil) (fun _ _ _ _ _ => (le_call (ok_minus T) takes0 (hr.mono (by decide)) (by rfl) T.d_minus.g T.d_minus.F.kp (b_minus T) (la_cons (le_ix (le_ix (lo_var 2) (le_var 7).O).O (le_var 11).O) (la_cons (le_call (ok_times T) takes0 (hr.mono (by decide)) (by rfl) T.d_times.g T.d_times.F.kp (b_times T) (la_cons (le_var 8) (la_cons (le_ix (le_ix (lo_var 2) (le_var 6).O).O (le_var 11).O) la_nil))) la_nil)))))).E))) lss_nil)))
      (lss_one (ls_app 3 (le_var 4))))))) lss_nil))))
      (lss_one (ls_frz 2 (ls_frz 3 (ls_ret (le_tup (la_cons (le_var 2) (la_cons (le_var 3) la_nil)))))))))

theorem sc_ways : FnScope N_ways p_ways (defScope s_ways) := ⟨rfl, rfl, rfl, by decide +kernel, rfl, by decide +kernel, by decide +kernel⟩
theorem b_ways (T : Txt P K mg) : Binds K T.d_ways.fd p_ways [] := T.d_ways.F.binds fun _ _ _ _ _ _ us hl => match us, hl with | [_, _], _ => rfl
theorem ok_ways (T : Txt P K mg) : FnOk P w K mg base (L2.CX P w) 5 T.d_ways.f T.d_ways.fd p_ways (liftS K (XR0 K mg) sp_ways) := by
  refine fn_ok (is := m_ways) T.d_ways.F sc_ways (fun _ _ _ h => h.1) (fun cdv A outer s H E W hr hu tk po => ?_) fun _ _ _ h => h.2
  have nd := sc_ways.nd
  exact (lss_cons (ls_asg (le_call (ok_reduced T) tk (hr.mono (by decide)) (by rfl) T.d_reduced.g T.d_reduced.F.kp (b_reduced T) (la_cons (le_var 0) (la_cons (le_var 1) la_nil))) (ltg_tup (n := 2) rfl (ltgs_cons (ltg_name 2 nd) (ltgs_cons (ltg_name 3 nd) ltgs_nil))))
      (lss_cons (ls_set 4 nd (ln_lst la_nil).x)
      (lss_cons (ls_for po rfl (li_r1 (by rfl) T.b_range (la_cons (le_var 1) la_nil)) (lg_name 5 nd) (lss_one (ls_if (lt_cmp (c_ni hu) (le_var 5).O (le_var 3).O) (lss_cons (ls_set 6 nd (ln_rep ((ln_lst (la_cons (le_glob (by rfl) T.c_NOUGHT_solving.hm T.c_NOUGHT_solving.r T.c_NOUGHT_solving.h) la_nil))).E.O (le_var 1).O).x)
      (lss_cons (ls_setAt 6 (le_var 5) (le_glob (by rfl) T.c_ONE_solving.hm T.c_ONE_solving.r T.c_ONE_solving.h))
      (lss_cons (ls_for po rfl (li_r1 (by rfl) T.b_range (la_cons (le_len (by rfl) T.b_len (le_var 3).O) la_nil)) (lg_name 7 nd) (lss_one (ls_setAt 6 (le_ix (le_var 3).O (le_var 7).O) (le_call (ok_negative T) tk (hr.mono (by decide)) (by rfl) T.d_negative.g T.d_negative.F.kp (b_negative T) (la_cons (le_ix (le_ix (le_var 2).O (le_var 7).O).O (le_var 5).O) la_nil)))))
      (lss_one (ls_app 4 (le_tupC (by rfl) T.b_tuple (lo_var 6))))))) lss_nil)))
      (lss_one (ls_frz 4 (ls_ret (le_var 4)))))))

theorem sc_point : FnScope N_point p_point (defScope s_point) := ⟨rfl, rfl, rfl, by decide +kernel, rfl, by decide +kernel, by decide +kernel⟩
theorem b_point (T : Txt P K mg) : Binds K T.d_point.fd p_point [] := T.d_point.F.binds fun _ _ _ _ _ _ us hl => match us, hl with | [_, _, _], _ => rfl
theorem ok_point (T : Txt P K mg) : FnOk P w K mg base (L2.CX P w) 5 T.d_point.f T.d_point.fd p_point (liftS K (XR0 K mg) sp_point) := by
  refine fn_ok (is := m_point) T.d_point.F sc_point (fun _ _ _ h => h.1) (fun cdv A outer s H E W hr hu tk po => ?_) fun _ _ _ h => h.2
  have nd := sc_point.nd
  exact (lss_cons (ls_asg (le_call (ok_reduced T) tk (hr.mono (by decide)) (by rfl) T.d_reduced.g T.d_reduced.F.kp (b_reduced T) (la_cons ((ln_comp (ts := [6]) (own := [("k", 6)]) rfl nd (li_r1 (by rfl) T.b_range (la_cons (le_len (by rfl) T.b_len (le_var 0).O) la_nil)).O (blkOk_by (own := [("k", 6)]) (by show blkC N_point (defScope s_point) _ _ = true; decide +kernel)) rfl (fun _ _ _ _ _ => (lg_name 6 nd)) (fun _ _ _ _ _ => lts_nil) (fun _ _ _ _ _ => ((ln_cat ((ln_lstC (by rfl) T.b_list (le_ix (le_var 0).O (le_var 6).O).O)).E.O ((ln_lst (la_cons (le_ix (le_var 1).O (le_var 6).O) la_nil))).E.O)).E))).E (la_cons (le_var 2) la_nil))) (ltg_tup (n := 2) rfl (ltgs_cons (ltg_name 3 nd) (ltgs_cons (ltg_name 4 nd) ltgs_nil))))
      (lss_cons (ls_if (lt_val (le_any rfl (by rfl) T.b_any ((ln_comp (ts := [7]) (own := [("line", 7)]) rfl nd (lio_of (le_slD (le_var 3).O (lp_at (le_len (by rfl) T.b_len (le_var 4).O)) lp_no).O) (blkOk_by (own := [("line", 7)]) (by show blkC N_point (defScope s_point) _ _ = true; decide +kernel)) rfl (fun _ _ _ _ _ => (lg_name 7 nd)) (fun _ _ _ _ _ => lts_nil) (fun _ _ _ _ _ => (le_cmp (c_ne hu) (le_ix (le_ix (le_var 7).O (le_var 2).O).O (le_int).O).O (le_int).O)))).E.O)) (lss_one (ls_ret le_non)) lss_nil)
      (lss_cons (ls_set 5 nd (ln_rep ((ln_lst (la_cons (le_glob (by rfl) T.c_NOUGHT_solving.hm T.c_NOUGHT_solving.r T.c_NOUGHT_solving.h) la_nil))).E.O (le_var 2).O).x)
      (lss_cons (ls_for po rfl (li_r1 (by rfl) T.b_range (la_cons (le_len (by rfl) T.b_len (le_var 4).O) la_nil)) (lg_name 6 nd) (lss_one (ls_setAt 5 (le_ix (le_var 4).O (le_var 6).O) (le_ix (le_ix (le_var 3).O (le_var 6).O).O (le_var 2).O))))
      (lss_one (ls_ret (le_tupC (by rfl) T.b_tuple (lo_var 5))))))))

theorem sc_made_of : FnScope N_made_of p_made_of (defScope s_made_of) := ⟨rfl, rfl, rfl, by decide +kernel, rfl, by decide +kernel, by decide +kernel⟩
theorem b_made_of (T : Txt P K mg) : Binds K T.d_made_of.fd p_made_of [] := T.d_made_of.F.binds fun _ _ _ _ _ _ us hl => match us, hl with | [_, _], _ => rfl
theorem ok_made_of (T : Txt P K mg) : FnOk P w K mg base (L2.CX P w) 6 T.d_made_of.f T.d_made_of.fd p_made_of (liftS K (XR0 K mg) sp_made_of) := by
  refine fn_ok (is := m_made_of) T.d_made_of.F sc_made_of (fun _ _ _ h => h.1) (fun cdv A outer s H E W hr hu tk po => ?_) fun _ _ _ h => h.2
  have nd := sc_made_of.nd
  exact (lss_cons (ls_setLcE 2 (ts := [3]) (own := [("c", 3)]) rfl nd (li_r1 (by rfl) T.b_range (la_cons (le_len (by rfl) T.b_len (le_var 1).O) la_nil)).O (blkOk_by (own := [("c", 3)]) (by show blkC N_made_of (defScope s_made_of) _ _ = true; decide +kernel)) rfl (fun _ _ _ _ _ => (lg_name 3 nd)) (fun _ _ _ _ _ => lts_nil) (fun _ _ _ _ _ => ((ln_comp (ts := [4]) (own := [("row", 4)]) rfl nd (lio_of (le_var 0).O) (blkOk_by (own := [("row", 4)]) (by show blkC N_made_of (relS _ (defScope s_made_of)) _ _ = true; decide +kernel)) rfl (fun _ _ _ _ _ => (lg_name 4 nd)) (fun _ _ _ _ _ => lts_nil) (fun _ _ _ _ _ => (le_ix (le_var 4).O (le_var 3).O)))).E))
      (lss_one (ls_ret (le_call (ok_point T) tk (hr.mono (by decide)) (by rfl) T.d_point.g T.d_point.F.kp (b_point T) (la_cons (le_var 2) (la_cons ((ln_lstC (by rfl) T.b_list (le_var 1).O)).E (la_cons (le_len (by rfl) T.b_len (le_var 0).O) la_nil)))))))

theorem sc_rank_of : FnScope N_rank_of p_rank_of (defScope s_rank_of) := ⟨rfl, rfl, rfl, by decide +kernel, rfl, by decide +kernel, by decide +kernel⟩
theorem b_rank_of (T : Txt P K mg) : Binds K T.d_rank_of.fd p_rank_of [] := T.d_rank_of.F.binds fun _ _ _ _ _ _ us hl => match us, hl with | [_, _], _ => rfl
theorem ok_rank_of (T : Txt P K mg) : FnOk P w K mg base (L2.CX P w) 5 T.d_rank_of.f T.d_rank_of.fd p_rank_of (liftS K (XR0 K mg) sp_rank_of) := by
  refine fn_ok (is := m_rank_of) T.d_rank_of.F sc_rank_of (fun _ _ _ h => h.1) (fun cdv A outer s H E W hr hu tk po => ?_) fun _ _ _ h => h.2
  have nd := sc_rank_of.nd
  exact (lss_one (ls_ret (le_len (by rfl) T.b_len (le_ix (le_call (ok_reduced T) tk (hr.mono (by decide)) (by rfl) T.d_reduced.g T.d_reduced.F.kp (b_reduced T) (la_cons (le_var 0) (la_cons (le_var 1) la_nil))).O (le_int).O).O)))

theorem sc_driven_rows : FnScope N_driven_rows p_driven_rows (defScope s_driven_rows) := ⟨rfl, rfl, rfl, by decide +kernel, rfl, by decide +kernel, by decide +kernel⟩
theorem b_driven_rows (T : Txt P K mg) : Binds K T.d_driven_rows.fd p_driven_rows [] := T.d_driven_rows.F.binds fun _ _ _ _ _ _ us hl => match us, hl with | [_], _ => rfl
theorem ok_driven_rows (T : Txt P K mg) : FnOk P w K mg base (L2.CX P w) 8 T.d_driven_rows.f T.d_driven_rows.fd p_driven_rows (liftS K (XR0 K mg) sp_driven_rows) := by
  refine fn_ok (is := m_driven_rows) T.d_driven_rows.F sc_driven_rows (fun _ _ _ h => h.1) (fun cdv A outer s H E W hr hu tk po => ?_) fun _ _ _ h => h.2
  have nd := sc_driven_rows.nd
  exact (lss_cons (ls_par 1 2 rfl nd (by decide) (ln_call (ok_rows_of T) tk (hr.mono (by decide)) (by rfl) T.d_rows_of.g T.d_rows_of.F.kp (b_rows_of T) (la_cons (le_var 0) la_nil)).x (ln_rep ((ln_lst (la_cons (le_glob (by rfl) T.c_NOUGHT_speeds.hm T.c_NOUGHT_speeds.r T.c_NOUGHT_speeds.h) la_nil))).E.O (le_len (by rfl) T.b_len (le_ix (le_var 0).O (le_int).O).O).O).x)
      (lss_cons (ls_for po rfl (li_of (le_ix (le_var 0).O (le_int).O)) (lg_tup (n := 2) rfl (lgs_cons (lg_name 3 nd) (lgs_cons (lg_name 4 nd) lgs_nil))) (lss_cons (ls_set 5 nd (ln_rep ((ln_lst (la_cons (le_glob (by rfl) T.c_NOUGHT_speeds.hm T.c_NOUGHT_speeds.r T.c_NOUGHT_speeds.h) la_nil))).E.O (le_len (by rfl) T.b_len (le_ix (le_var 0).O (le_int).O).O).O).x)
      (lss_cons (ls_setAt 5 (le_call (ok_place T) tk (hr.mono (by decide)) (by rfl) T.d_place.g T.d_place.F.kp (b_place T) (la_cons (le_var 0) (la_cons (le_var 3) la_nil))) (le_glob (by rfl) T.c_ONE_speeds.hm T.c_ONE_speeds.r T.c_ONE_speeds.h))
      (lss_cons (ls_app 1 (le_tupC (by rfl) T.b_tuple (lo_var 5)))
      (lss_one (ls_app 2 (le_var 4)))))))
      (lss_one (ls_frz 1 (ls_frz 2 (ls_ret (le_tup (la_cons (le_var 1) (la_cons (le_var 2) la_nil)))))))))

theorem sc_refusal : FnScope N_refusal p_refusal (defScope s_refusal) := ⟨rfl, rfl, rfl, by decide +kernel, rfl, by decide +kernel, by decide +kernel⟩
theorem b_refusal (T : Txt P K mg) : Binds K T.d_refusal.fd p_refusal [] := T.d_refusal.F.binds fun _ _ _ _ _ _ us hl => match us, hl with | [_, _, _], _ => rfl
theorem ok_refusal (T : Txt P K mg) : FnOk P w K mg base (L2.CX P w) 7 T.d_refusal.f T.d_refusal.fd p_refusal (liftS K (XR0 K mg) sp_refusal) := by
  refine fn_ok (is := m_refusal) T.d_refusal.F sc_refusal (fun _ _ _ h => h.1) (fun cdv A outer s H E W hr hu tk po => ?_) fun _ _ _ h => h.2
  have nd := sc_refusal.nd
  exact (lss_cons (ls_setLcE 3 (ts := [4]) (own := [("k", 4)]) rfl nd (li_r1 (by rfl) T.b_range (la_cons (le_len (by rfl) T.b_len (le_var 0).O) la_nil)).O (blkOk_by (own := [("k", 4)]) (by show blkC N_refusal (defScope s_refusal) _ _ = true; decide +kernel)) rfl (fun _ _ _ _ _ => (lg_name 4 nd)) (fun _ _ _ _ _ => lts_nil) (fun _ _ _ _ _ => ((ln_cat ((ln_lstC (by rfl) T.b_list (le_ix (le_var 0).O (le_var 4).O).O)).E.O ((ln_lst (la_cons (le_ix (le_var 1).O (le_var 4).O) la_nil))).E.O)).E))
      (lss_one (ls_ret (le_call (ok_made_of T) tk (hr.mono (by decide)) (by rfl) T.d_made_of.g T.d_made_of.F.kp (b_made_of T) (la_cons (le_var 3) (la_cons (le_catT (le_repT (le_tup (la_cons (le_glob (by rfl) T.c_NOUGHT_speeds.hm T.c_NOUGHT_speeds.r T.c_NOUGHT_speeds.h) la_nil)).O (le_var 2).O).O (le_tup (la_cons (le_glob (by rfl) T.c_ONE_speeds.hm T.c_ONE_speeds.r T.c_ONE_speeds.h) la_nil)).O) la_nil))))))

theorem sc_speeds : FnScope N_speeds p_speeds (defScope s_speeds) := ⟨rfl, rfl, rfl, by decide +kernel, rfl, by decide +kernel, by decide +kernel⟩
theorem b_speeds (T : Txt P K mg) : Binds K T.d_speeds.fd p_speeds [] := T.d_speeds.F.binds fun _ _ _ _ _ _ us hl => match us, hl with | [_], _ => rfl
theorem ok_speeds (T : Txt P K mg) : FnOk P w K mg base (L2.CX P w) 9 T.d_speeds.f T.d_speeds.fd p_speeds (liftS K (XR0 K mg) sp_speeds) := by
  refine fn_ok (is := m_speeds) T.d_speeds.F sc_speeds (fun _ _ _ h => h.1) (fun cdv A outer s H E W hr hu tk po => ?_) fun _ _ _ h => h.2
  have nd := sc_speeds.nd
  exact (lss_cons (ls_asg (le_call (ok_driven_rows T) tk (hr.mono (by decide)) (by rfl) T.d_driven_rows.g T.d_driven_rows.F.kp (b_driven_rows T) (la_cons (le_var 0) la_nil)) (ltg_tup (n := 2) rfl (ltgs_cons (ltg_name 1 nd) (ltgs_cons (ltg_name 2 nd) ltgs_nil))))
      (lss_cons (ls_set 3 nd (le_len (by rfl) T.b_len (le_ix (le_var 0).O (le_int).O).O).x)
      (lss_cons (ls_set 4 nd (le_call (ok_point T) tk (hr.mono (by decide)) (by rfl) T.d_point.g T.d_point.F.kp (b_point T) (la_cons (le_var 1) (la_cons (le_var 2) (la_cons (le_var 3) la_nil)))).x)
      (lss_cons (ls_if (lt_cmp c_is (le_var 4).O (le_non).O) (lss_one (ls_ret (le_tup (la_cons le_str (la_cons (le_call (ok_refusal T) tk (hr.mono (by decide)) (by rfl) T.d_refusal.g T.d_refusal.F.kp (b_refusal T) (la_cons (le_var 1) (la_cons (le_var 2) (la_cons (le_var 3) la_nil)))) la_nil))))) lss_nil)
      (lss_cons (ls_set 5 nd (le_call (ok_ways T) tk (hr.mono (by decide)) (by rfl) T.d_ways.g T.d_ways.F.kp (b_ways T) (la_cons (le_var 1) (la_cons (le_var 3) la_nil))).x)
      (lss_one (ls_ret (le_if (lt_cmp (c_eq hu) (le_var 5).O ((ln_lst la_nil)).E.O) (le_tup (la_cons le_str (la_cons (le_var 4) la_nil))) (le_tup (la_cons le_str (la_cons (le_var 4) (la_cons (le_tupC (by rfl) T.b_tuple (le_var 5).O) la_nil))))))))))))

theorem sc_drive_rows : FnScope N_drive_rows p_drive_rows (defScope s_drive_rows) := ⟨rfl, rfl, rfl, by decide +kernel, rfl, by decide +kernel, by decide +kernel⟩
theorem b_drive_rows (T : Txt P K mg) : Binds K T.d_drive_rows.fd p_drive_rows [] := T.d_drive_rows.F.binds fun _ _ _ _ _ _ us hl => match us, hl with | [_], _ => rfl
theorem ok_drive_rows (T : Txt P K mg) : FnOk P w K mg base (L2.CX P w) 2 T.d_drive_rows.f T.d_drive_rows.fd p_drive_rows (liftS K (XR0 K mg) sp_drive_rows) := by
  refine fn_ok (is := m_drive_rows) T.d_drive_rows.F sc_drive_rows (fun _ _ _ h => h.1) (fun cdv A outer s H E W hr hu tk po => ?_) fun _ _ _ h => h.2
  have nd := sc_drive_rows.nd
  exact (lss_cons (ls_set 1 nd (le_call (ok_names T) tk (hr.mono (by decide)) (by rfl) T.d_names.g T.d_names.F.kp (b_names T) (la_cons (le_var 0) la_nil)).x)
      (lss_one (ls_ret ((ln_comp (ts := [2, 3]) (own := [("name", 2), ("part", 3)]) rfl nd (lio_of (le_ix (le_var 0).O (le_int).O).O) (blkOk_by (own := [("name", 2), ("part", 3)]) (by show blkC N_drive_rows (defScope s_drive_rows) _ _ = true; decide +kernel)) rfl (fun _ _ _ _ _ => (lg_tup (n := 2) rfl (lgs_cons (lg_name 2 nd) (lgs_cons (lg_name 3 nd) lgs_nil)))) (fun _ _ _ _ _ => lts_nil) (fun _ _ _ _ _ => (le_tupC (by rfl) T.b_tuple ((ln_comp (ts := [4]) (own := [("one", 4)]) rfl nd (lio_of (le_var 1).O) (blkOk_by (own := [("one", 4)]) (by show blkC N_drive_rows (relS _ (defScope s_drive_rows)) _ _ = true; decide +kernel)) rfl (fun _ _ _ _ _ => (lg_name 4 nd)) (fun _ _ _ _ _ => lts_nil) (fun _ _ _ _ _ => (le_if (lt_cmp (c_eq hu) (le_var 4).O (le_var 2).O) (le_tup (la_cons le_int (la_cons le_int la_nil))) (le_tup (la_cons le_int (la_cons le_int la_nil))))))).E.O)))).E)))

theorem sc_moving : FnScope N_moving p_moving (defScope s_moving) := ⟨rfl, rfl, rfl, by decide +kernel, rfl, by decide +kernel, by decide +kernel⟩
theorem b_moving (T : Txt P K mg) : Binds K T.d_moving.fd p_moving [] := T.d_moving.F.binds fun _ _ _ _ _ _ us hl => match us, hl with | [_], _ => rfl
theorem ok_moving (T : Txt P K mg) : FnOk P w K mg base (L2.CX P w) 10 T.d_moving.f T.d_moving.fd p_moving (liftS K (XR0 K mg) sp_moving) := by
  refine fn_ok (is := m_moving) T.d_moving.F sc_moving (fun _ _ _ h => h.1) (fun cdv A outer s H E W hr hu tk po => ?_) fun _ _ _ h => h.2
  have nd := sc_moving.nd
  exact (lss_cons (ls_set 1 nd (le_call (ok_speeds T) tk (hr.mono (by decide)) (by rfl) T.d_speeds.g T.d_speeds.F.kp (b_speeds T) (la_cons (le_var 0) la_nil)).x)
      (lss_cons (ls_if (lt_cmp (c_ne hu) (le_ix (le_var 1).O (le_int).O).O (le_str).O) (lss_one (ls_raise rfl tk T.mis.Z (ok_mis T.mis) (hr.mono (by decide)) (hb_mis T.mis) T.mis.x1 (by rfl) (la_cons (le_if (lt_cmp (c_eq hu) (le_ix (le_var 1).O (le_int).O).O (le_str).O) le_str le_str) la_nil))) lss_nil)
      (lss_one (ls_ret (le_ix (le_var 1).O (le_int).O)))))

theorem sc_is_sure : FnScope N_is_sure p_is_sure (defScope s_is_sure) := ⟨rfl, rfl, rfl, by decide +kernel, rfl, by decide +kernel, by decide +kernel⟩
theorem b_is_sure (T : Txt P K mg) : Binds K T.d_is_sure.fd p_is_sure [] := T.d_is_sure.F.binds fun _ _ _ _ _ _ us hl => match us, hl with | [_], _ => rfl
theorem ok_is_sure (T : Txt P K mg) : FnOk P w K mg base (L2.CX P w) 8 T.d_is_sure.f T.d_is_sure.fd p_is_sure (liftS K (XR0 K mg) sp_is_sure) := by
  refine fn_ok (is := m_is_sure) T.d_is_sure.F sc_is_sure (fun _ _ _ h => h.1) (fun cdv A outer s H E W hr hu tk po => ?_) fun _ _ _ h => h.2
  have nd := sc_is_sure.nd
  exact (lss_cons (ls_set 1 nd (le_addD (ln_call (ok_rows_of T) tk (hr.mono (by decide)) (by rfl) T.d_rows_of.g T.d_rows_of.F.kp (b_rows_of T) (la_cons (le_var 0) la_nil)).E.O (le_call (ok_drive_rows T) tk (hr.mono (by decide)) (by rfl) T.d_drive_rows.g T.d_drive_rows.F.kp (b_drive_rows T) (la_cons (le_var 0) la_nil)).O).x)
      (lss_one (ls_ret (le_cmp (c_eq hu) (le_call (ok_rank_of T) tk (hr.mono (by decide)) (by rfl) T.d_rank_of.g T.d_rank_of.F.kp (b_rank_of T) (la_cons (le_var 1) (la_cons (le_len (by rfl) T.b_len (le_ix (le_var 0).O (le_int).O).O) la_nil))).O (le_len (by rfl) T.b_len (le_var 1).O).O))))

theorem sc_pushes : FnScope N_pushes p_pushes (defScope s_pushes) := ⟨rfl, rfl, rfl, by decide +kernel, rfl, by decide +kernel, by decide +kernel⟩
theorem b_pushes (T : Txt P K mg) : Binds K T.d_pushes.fd p_pushes [] := T.d_pushes.F.binds fun _ _ _ _ _ _ us hl => match us, hl with | [_], _ => rfl
theorem ok_pushes (T : Txt P K mg) : FnOk P w K mg base (L2.CX P w) 11 T.d_pushes.f T.d_pushes.fd p_pushes (liftS K (XR0 K mg) sp_pushes) := by
  refine fn_ok (is := m_pushes) T.d_pushes.F sc_pushes (fun _ _ _ h => h.1) (fun cdv A outer s H E W hr hu tk po => ?_) fun _ _ _ h => h.2
  have nd := sc_pushes.nd
  exact (lss_cons (ls_expr (le_call (ok_moving T) tk (hr.mono (by decide)) (by rfl) T.d_moving.g T.d_moving.F.kp (b_moving T) (la_cons (le_var 0) la_nil)))
      (lss_cons (ls_if (lt_not (lt_val (le_call (ok_is_sure T) tk (hr.mono (by decide)) (by rfl) T.d_is_sure.g T.d_is_sure.F.kp (b_is_sure T) (la_cons (le_var 0) la_nil)))) (lss_one (ls_raise rfl tk T.mis.Z (ok_mis T.mis) (hr.mono (by decide)) (hb_mis T.mis) T.mis.x1 (by rfl) (la_cons le_str la_nil))) lss_nil)
      (lss_cons (ls_set 1 nd (le_addD (ln_call (ok_rows_of T) tk (hr.mono (by decide)) (by rfl) T.d_rows_of.g T.d_rows_of.F.kp (b_rows_of T) (la_cons (le_var 0) la_nil)).E.O (le_call (ok_drive_rows T) tk (hr.mono (by decide)) (by rfl) T.d_drive_rows.g T.d_drive_rows.F.kp (b_drive_rows T) (la_cons (le_var 0) la_nil)).O).x)
      (lss_cons (ls_set 2 nd (le_call (ok_made_of T) tk (hr.mono (by decide)) (by rfl) T.d_made_of.g T.d_made_of.F.kp (b_made_of T) (la_cons (le_var 1) (la_cons (le_tupC (by rfl) T.b_tuple ((ln_comp (ts := [4]) (own := [("one", 4)]) rfl nd (lio_of (le_call (ok_loads_row T) tk (hr.mono (by decide)) (by rfl) T.d_loads_row.g T.d_loads_row.F.kp (b_loads_row T) (la_cons (le_var 0) la_nil)).O) (blkOk_by (own := [("one", 4)]) (by show blkC N_pushes (defScope s_pushes) _ _ = true; decide +kernel)) rfl (fun _ _ _ _ _ => (lg_name 4 nd)) (fun _ _ _ _ _ => lts_nil) (fun _ _ _ _ _ => (le_call (ok_negative T) takes0 (hr.mono (by decide)) (by rfl) T.d_negative.g T.d_negative.F.kp (b_negative T) (la_cons (le_var 4) la_nil))))).E.O) la_nil))).x)
      (lss_cons (ls_set 3 nd (le_len (by rfl) T.b_len (le_ix (le_var 0).O (le_int).O).O).x)
      (lss_one (ls_ret (le_tup (la_cons (le_tupC (by rfl) T.b_tuple (le_slD (le_var 2).O lp_no (lp_at (le_var 3))).O) (la_cons (le_tupC (by rfl) T.b_tuple (le_slD (le_var 2).O (lp_at (le_var 3)) lp_no).O) la_nil))))))))))

theorem sc_part_flows : FnScope N_part_flows p_part_flows (defScope s_part_flows) := ⟨rfl, rfl, rfl, by decide +kernel, rfl, by decide +kernel, by decide +kernel⟩
theorem b_part_flows (T : Txt P K mg) : Binds K T.d_part_flows.fd p_part_flows [] := T.d_part_flows.F.binds fun _ _ _ _ _ _ us hl => match us, hl with | [_], _ => rfl
theorem ok_part_flows (T : Txt P K mg) : FnOk P w K mg base (L2.CX P w) 12 T.d_part_flows.f T.d_part_flows.fd p_part_flows (liftS K (XR0 K mg) sp_part_flows) := by
  refine fn_ok (is := m_part_flows) T.d_part_flows.F sc_part_flows (fun _ _ _ h => h.1) (fun cdv A outer s H E W hr hu tk po => ?_) fun _ _ _ h => h.2
  have nd := sc_part_flows.nd
  exact (lss_cons (ls_many rfl (lxa_cons (le_call (ok_moving T) tk (hr.mono (by decide)) (by rfl) T.d_moving.g T.d_moving.F.kp (b_moving T) (la_cons (le_var 0) la_nil)).x (lxa_cons (ln_call (ok_rows_of T) tk (hr.mono (by decide)) (by rfl) T.d_rows_of.g T.d_rows_of.F.kp (b_rows_of T) (la_cons (le_var 0) la_nil)).E.x (lxa_cons (le_ix (le_call (ok_pushes T) tk (hr.mono (by decide)) (by rfl) T.d_pushes.g T.d_pushes.F.kp (b_pushes T) (la_cons (le_var 0) la_nil)).O (le_int).O).x lxa_nil))) (lnm_cons 1 nd (lnm_cons 2 nd (lnm_cons 3 nd lnm_nil))))
      (lss_cons (ls_set 4 nd (ln_lst la_nil).x)
      (lss_cons (ls_for po rfl (li_r1 (by rfl) T.b_range (la_cons (le_len (by rfl) T.b_len (le_var 2).O) la_nil)) (lg_name 5 nd) (lss_one (ls_app 4 (le_tupC (by rfl) T.b_tuple ((ln_comp (ts := [6]) (own := [("j", 6)]) rfl nd (li_r1 (by rfl) T.b_range (la_cons (le_len (by rfl) T.b_len (le_var 1).O) la_nil)).O (blkOk_by (own := [("j", 6)]) (by show blkC N_part_flows (defScope s_part_flows) _ _ = true; decide +kernel)) rfl (fun _ _ _ _ _ => (lg_name 6 nd)) (fun _ _ _ _ _ => lts_nil) (fun _ _ _ _ _ => (le_call (ok_times T) takes0 (hr.mono (by decide)) (by rfl) T.d_times.g T.d_times.F.kp (b_times T) (la_cons (le_call (ok_times T) takes0 (hr.mono (by decide)) (by rfl) T.d_times.g T.d_times.F.kp (b_times T) (la_cons (le_ix (le_var 3).O (le_var 5).O) (la_cons (le_ix (le_ix (le_var 2).O (le_var 5).O).O (le_var 6).O) la_nil))) (la_cons (le_ix (le_var 1).O (le_var 6).O) la_nil)))))).E.O))))
      (lss_one (ls_frz 4 (ls_ret (le_var 4)))))))

theorem sc_load_flows : FnScope N_load_flows p_load_flows (defScope s_load_flows) := ⟨rfl, rfl, rfl, by decide +kernel, rfl, by decide +kernel, by decide +kernel⟩
theorem b_load_flows (T : Txt P K mg) : Binds K T.d_load_flows.fd p_load_flows [] := T.d_load_flows.F.binds fun _ _ _ _ _ _ us hl => match us, hl with | [_], _ => rfl
theorem ok_load_flows (T : Txt P K mg) : FnOk P w K mg base (L2.CX P w) 11 T.d_load_flows.f T.d_load_flows.fd p_load_flows (liftS K (XR0 K mg) sp_load_flows) := by
  refine fn_ok (is := m_load_flows) T.d_load_flows.F sc_load_flows (fun _ _ _ h => h.1) (fun cdv A outer s H E W hr hu tk po => ?_) fun _ _ _ h => h.2
  have nd := sc_load_flows.nd
  exact (lss_cons (ls_many rfl (lxa_cons (le_call (ok_moving T) tk (hr.mono (by decide)) (by rfl) T.d_moving.g T.d_moving.F.kp (b_moving T) (la_cons (le_var 0) la_nil)).x (lxa_cons (le_call (ok_loads_row T) tk (hr.mono (by decide)) (by rfl) T.d_loads_row.g T.d_loads_row.F.kp (b_loads_row T) (la_cons (le_var 0) la_nil)).x lxa_nil)) (lnm_cons 1 nd (lnm_cons 2 nd lnm_nil)))
      (lss_one (ls_ret (le_tupC (by rfl) T.b_tuple ((ln_comp (ts := [3]) (own := [("j", 3)]) rfl nd (li_r1 (by rfl) T.b_range (la_cons (le_len (by rfl) T.b_len (le_var 1).O) la_nil)).O (blkOk_by (own := [("j", 3)]) (by show blkC N_load_flows (defScope s_load_flows) _ _ = true; decide +kernel)) rfl (fun _ _ _ _ _ => (lg_name 3 nd)) (fun _ _ _ _ _ => lts_nil) (fun _ _ _ _ _ => (le_call (ok_times T) takes0 (hr.mono (by decide)) (by rfl) T.d_times.g T.d_times.F.kp (b_times T) (la_cons (le_ix (le_var 2).O (le_var 3).O) (la_cons (le_ix (le_var 1).O (le_var 3).O) la_nil)))))).E.O))))

theorem sc_drive_flows : FnScope N_drive_flows p_drive_flows (defScope s_drive_flows) := ⟨rfl, rfl, rfl, by decide +kernel, rfl, by decide +kernel, by decide +kernel⟩
theorem b_drive_flows (T : Txt P K mg) : Binds K T.d_drive_flows.fd p_drive_flows [] := T.d_drive_flows.F.binds fun _ _ _ _ _ _ us hl => match us, hl with | [_], _ => rfl
theorem ok_drive_flows (T : Txt P K mg) : FnOk P w K mg base (L2.CX P w) 12 T.d_drive_flows.f T.d_drive_flows.fd p_drive_flows (liftS K (XR0 K mg) sp_drive_flows) := by
  refine fn_ok (is := m_drive_flows) T.d_drive_flows.F sc_drive_flows (fun _ _ _ h => h.1) (fun cdv A outer s H E W hr hu tk po => ?_) fun _ _ _ h => h.2
  have nd := sc_drive_flows.nd
  exact (lss_cons (ls_many rfl (lxa_cons (le_call (ok_moving T) tk (hr.mono (by decide)) (by rfl) T.d_moving.g T.d_moving.F.kp (b_moving T) (la_cons (le_var 0) la_nil)).x (lxa_cons (le_ix (le_call (ok_pushes T) tk (hr.mono (by decide)) (by rfl) T.d_pushes.g T.d_pushes.F.kp (b_pushes T) (la_cons (le_var 0) la_nil)).O (le_int).O).x (lxa_cons (le_call (ok_names T) tk (hr.mono (by decide)) (by rfl) T.d_names.g T.d_names.F.kp (b_names T) (la_cons (le_var 0) la_nil)).x lxa_nil))) (lnm_cons 1 nd (lnm_cons 2 nd (lnm_cons 3 nd lnm_nil))))
      (lss_one (ls_ret (le_tupC (by rfl) T.b_tuple ((ln_comp (ts := [4]) (own := [("k", 4)]) rfl nd (li_r1 (by rfl) T.b_range (la_cons (le_len (by rfl) T.b_len (le_var 2).O) la_nil)).O (blkOk_by (own := [("k", 4)]) (by show blkC N_drive_flows (defScope s_drive_flows) _ _ = true; decide +kernel)) rfl (fun _ _ _ _ _ => (lg_name 4 nd)) (fun _ _ _ _ _ => lts_nil) (fun _ _ _ _ _ => (le_call (ok_times T) takes0 (hr.mono (by decide)) (by rfl) T.d_times.g T.d_times.F.kp (b_times T) (la_cons (le_ix (le_var 2).O (le_var 4).O) (la_cons (le_ix (le_var 1).O (le_lidx hu (le_var 3).O (le_ix (le_ix (le_ix (le_var 0).O (le_int).O).O (le_var 4).O).O (le_int).O)).O) la_nil)))))).E.O))))

theorem sc_passed : FnScope N_passed p_passed (defScope s_passed) := ⟨rfl, rfl, rfl, by decide +kernel, rfl, by decide +kernel, by decide +kernel⟩
theorem b_passed (T : Txt P K mg) : Binds K T.d_passed.fd p_passed [] := T.d_passed.F.binds fun _ _ _ _ _ _ us hl => match us, hl with | [_], _ => rfl
theorem ok_passed (T : Txt P K mg) : FnOk P w K mg base (L2.CX P w) 13 T.d_passed.f T.d_passed.fd p_passed (liftS K (XR0 K mg) sp_passed) := by
  refine fn_ok (is := m_passed) T.d_passed.F sc_passed (fun _ _ _ h => h.1) (fun cdv A outer s H E W hr hu tk po => ?_) fun _ _ _ h => h.2
  have nd := sc_passed.nd
  exact (lss_one (ls_ret ((ln_comp (ts := [1]) (own := [("row", 1)]) rfl nd (lio_of (le_call (ok_part_flows T) tk (hr.mono (by decide)) (by rfl) T.d_part_flows.g T.d_part_flows.F.kp (b_part_flows T) (la_cons (le_var 0) la_nil)).O) (blkOk_by (own := [("row", 1)]) (by show blkC N_passed (defScope s_passed) _ _ = true; decide +kernel)) rfl (fun _ _ _ _ _ => (lg_name 1 nd)) (fun _ _ _ _ _ => lts_nil) (fun _ _ _ _ _ => (le_call (ok_total T) takes0 (hr.mono (by decide)) (by rfl) T.d_total.g T.d_total.F.kp (b_total T) (la_cons ((ln_comp (ts := [2]) (own := [("one", 2)]) rfl nd (lio_of (le_var 1).O) (blkOk_by (own := [("one", 2)]) (by show blkC N_passed (relS _ (defScope s_passed)) _ _ = true; decide +kernel)) rfl (fun _ _ _ _ _ => (lg_name 2 nd)) (fun _ _ _ _ _ => (lts_one (lt_cmp c_gt (le_ix (le_var 2).O (le_int).O).O (le_int).O))) (fun _ _ _ _ _ => (le_var 2)))).E la_nil))))).E))

theorem sc_put_in : FnScope N_put_in p_put_in (defScope s_put_in) := ⟨rfl, rfl, rfl, by decide +kernel, rfl, by decide +kernel, by decide +kernel⟩
theorem b_put_in (T : Txt P K mg) : Binds K T.d_put_in.fd p_put_in [] := T.d_put_in.F.binds fun _ _ _ _ _ _ us hl => match us, hl with | [_], _ => rfl
theorem ok_put_in (T : Txt P K mg) : FnOk P w K mg base (L2.CX P w) 13 T.d_put_in.f T.d_put_in.fd p_put_in (liftS K (XR0 K mg) sp_put_in) := by
  refine fn_ok (is := m_put_in) T.d_put_in.F sc_put_in (fun _ _ _ h => h.1) (fun cdv A outer s H E W hr hu tk po => ?_) fun _ _ _ h => h.2
  have nd := sc_put_in.nd
  exact (lss_cons (ls_setLcE 1 (ts := [2]) (own := [("one", 2)]) rfl nd (lio_of (le_addD (le_call (ok_drive_flows T) tk (hr.mono (by decide)) (by rfl) T.d_drive_flows.g T.d_drive_flows.F.kp (b_drive_flows T) (la_cons (le_var 0) la_nil)).O (le_call (ok_load_flows T) tk (hr.mono (by decide)) (by rfl) T.d_load_flows.g T.d_load_flows.F.kp (b_load_flows T) (la_cons (le_var 0) la_nil)).O).O) (blkOk_by (own := [("one", 2)]) (by show blkC N_put_in (defScope s_put_in) _ _ = true; decide +kernel)) rfl (fun _ _ _ _ _ => (lg_name 2 nd)) (fun _ _ _ _ _ => (lts_one (lt_cmp c_gt (le_ix (le_var 2).O (le_int).O).O (le_int).O))) (fun _ _ _ _ _ => (le_var 2)))
      (lss_one (ls_ret (le_call (ok_total T) tk (hr.mono (by decide)) (by rfl) T.d_total.g T.d_total.F.kp (b_total T) (la_cons (le_var 1) la_nil)))))

theorem sc_circling : FnScope N_circling p_circling (defScope s_circling) := ⟨rfl, rfl, rfl, by decide +kernel, rfl, by decide +kernel, by decide +kernel⟩
theorem b_circling (T : Txt P K mg) : Binds K T.d_circling.fd p_circling [] := T.d_circling.F.binds fun _ _ _ _ _ _ us hl => match us, hl with | [_], _ => rfl
theorem ok_circling (T : Txt P K mg) : FnOk P w K mg base (L2.CX P w) 14 T.d_circling.f T.d_circling.fd p_circling (liftS K (XR0 K mg) sp_circling) := by
  refine fn_ok (is := m_circling) T.d_circling.F sc_circling (fun _ _ _ h => h.1) (fun cdv A outer s H E W hr hu tk po => ?_) fun _ _ _ h => h.2
  have nd := sc_circling.nd
  exact (lss_cons (ls_many rfl (lxa_cons (le_call (ok_passed T) tk (hr.mono (by decide)) (by rfl) T.d_passed.g T.d_passed.F.kp (b_passed T) (la_cons (le_var 0) la_nil)).x (lxa_cons (le_call (ok_put_in T) tk (hr.mono (by decide)) (by rfl) T.d_put_in.g T.d_put_in.F.kp (b_put_in T) (la_cons (le_var 0) la_nil)).x lxa_nil)) (lnm_cons 1 nd (lnm_cons 2 nd lnm_nil)))
      (lss_one (ls_ret ((ln_comp (ts := [3]) (own := [("k", 3)]) rfl nd (li_r1 (by rfl) T.b_range (la_cons (le_len (by rfl) T.b_len (le_var 1).O) la_nil)).O (blkOk_by (own := [("k", 3)]) (by show blkC N_circling (defScope s_circling) _ _ = true; decide +kernel)) rfl (fun _ _ _ _ _ => (lg_name 3 nd)) (fun _ _ _ _ _ => (lts_one (lt_val (le_call (ok_is_less T) takes0 (hr.mono (by decide)) (by rfl) T.d_is_less.g T.d_is_less.F.kp (b_is_less T) (la_cons (le_var 2) (la_cons (le_ix (le_var 1).O (le_var 3).O) la_nil)))))) (fun _ _ _ _ _ => (le_var 3)))).E)))

theorem sc_is_balanced : FnScope N_is_balanced p_is_balanced (defScope s_is_balanced) := ⟨rfl, rfl, rfl, by decide +kernel, rfl, by decide +kernel, by decide +kernel⟩
theorem b_is_balanced (T : Txt P K mg) : Binds K T.d_is_balanced.fd p_is_balanced [] := T.d_is_balanced.F.binds fun _ _ _ _ _ _ us hl => match us, hl with | [_, _], _ => rfl
theorem ok_is_balanced (T : Txt P K mg) : FnOk P w K mg base (L2.CX P w) 11 T.d_is_balanced.f T.d_is_balanced.fd p_is_balanced (liftS K (XR0 K mg) sp_is_balanced) := by
  refine fn_ok (is := m_is_balanced) T.d_is_balanced.F sc_is_balanced (fun _ _ _ h => h.1) (fun cdv A outer s H E W hr hu tk po => ?_) fun _ _ _ h => h.2
  have nd := sc_is_balanced.nd
  exact (lss_cons (ls_expr (le_call (ok_moving T) tk (hr.mono (by decide)) (by rfl) T.d_moving.g T.d_moving.F.kp (b_moving T) (la_cons (le_var 0) la_nil)))
      (lss_cons (ls_if (lw_or (lt_not (lt_val (le_isi (T := "tuple") (by rfl) T.b_isinstance (by rfl) T.b_tuple (by decide +kernel) (le_var 1).O))) (lw_or (lt_cmp (c_ne hu) (le_len (by rfl) T.b_len (le_var 1).O).O (le_int).O) (lw_or1 (lt_not (lt_val (le_all rfl (by rfl) T.b_all ((ln_comp (ts := [7]) (own := [("row", 7)]) rfl nd (lio_of (le_var 1).O) (blkOk_by (own := [("row", 7)]) (by show blkC N_is_balanced (defScope s_is_balanced) _ _ = true; decide +kernel)) rfl (fun _ _ _ _ _ => (lg_name 7 nd)) (fun _ _ _ _ _ => lts_nil) (fun _ _ _ _ _ => (le_isi (T := "tuple") (by rfl) T.b_isinstance (by rfl) T.b_tuple (by decide +kernel) (le_var 7).O)))).E.O)))))).t (lss_one (ls_ret le_bl)) lss_nil)
      (lss_cons (ls_if (lw_or (lt_cmp (c_ne hu) (le_len (by rfl) T.b_len (le_ix (le_var 1).O (le_int).O).O).O (le_len (by rfl) T.b_len (le_ix (le_var 0).O (le_int).O).O).O) (lw_or1 (lt_cmp (c_ne hu) (le_len (by rfl) T.b_len (le_ix (le_var 1).O (le_int).O).O).O (le_len (by rfl) T.b_len (le_ix (le_var 0).O (le_int).O).O).O))).t (lss_one (ls_ret le_bl)) lss_nil)
      (lss_cons (ls_if (lt_not (lt_val (le_all rfl (by rfl) T.b_all ((ln_comp (ts := [6]) (own := [("one", 6)]) rfl nd (lio_of (le_addD (le_ix (le_var 1).O (le_int).O).O (le_ix (le_var 1).O (le_int).O).O).O) (blkOk_by (own := [("one", 6)]) (by show blkC N_is_balanced (defScope s_is_balanced) _ _ = true; decide +kernel)) rfl (fun _ _ _ _ _ => (lg_name 6 nd)) (fun _ _ _ _ _ => lts_nil) (fun _ _ _ _ _ => (le_call (ok_is_part T) takes0 (hr.mono (by decide)) (by rfl) T.d_is_part.g T.d_is_part.F.kp (b_is_part T) (la_cons (le_var 6) la_nil))))).E.O))) (lss_one (ls_ret le_bl)) lss_nil)
      (lss_cons (ls_many rfl (lxa_cons (le_addD (ln_call (ok_rows_of T) tk (hr.mono (by decide)) (by rfl) T.d_rows_of.g T.d_rows_of.F.kp (b_rows_of T) (la_cons (le_var 0) la_nil)).E.O (le_call (ok_drive_rows T) tk (hr.mono (by decide)) (by rfl) T.d_drive_rows.g T.d_drive_rows.F.kp (b_drive_rows T) (la_cons (le_var 0) la_nil)).O).x (lxa_cons (le_addD (le_ix (le_var 1).O (le_int).O).O (le_ix (le_var 1).O (le_int).O).O).x lxa_nil)) (lnm_cons 2 nd (lnm_cons 3 nd lnm_nil)))
      (lss_cons (ls_set 4 nd (le_call (ok_loads_row T) tk (hr.mono (by decide)) (by rfl) T.d_loads_row.g T.d_loads_row.F.kp (b_loads_row T) (la_cons (le_var 0) la_nil)).x)
      (lss_cons (ls_for po rfl (li_r1 (by rfl) T.b_range (la_cons (le_len (by rfl) T.b_len (le_var 4).O) la_nil)) (lg_name 5 nd) (lss_one (ls_if (lt_cmp (c_ne hu) (le_ix (le_call (ok_plus T) tk (hr.mono (by decide)) (by rfl) T.d_plus.g T.d_plus.F.kp (b_plus T) (la_cons (le_ix (le_var 4).O (le_var 5).O) (la_cons (le_call (ok_total T) tk (hr.mono (by decide)) (by rfl) T.d_total.g T.d_total.F.kp (b_total T) (la_cons ((ln_comp (ts := [8]) (own := [("k", 8)]) rfl nd (li_r1 (by rfl) T.b_range (la_cons (le_len (by rfl) T.b_len (le_var 2).O) la_nil)).O (blkOk_by (own := [("k", 8)]) (by show blkC N_is_balanced (defScope s_is_balanced) _ _ = true; decide +kernel)) rfl (fun _ _ _ _ _ => (lg_name 8 nd)) (fun _ _ _ _ _ => lts_nil) (fun _ _ _ _ _ => (le_call (ok_times T) takes0 (hr.mono (by decide)) (by rfl) T.d_times.g T.d_times.F.kp (b_times T) (la_cons (le_ix (le_var 3).O (le_var 8).O) (la_cons (le_ix (le_ix (le_var 2).O (le_var 8).O).O (le_var 5).O) la_nil)))))).E la_nil)) la_nil))).O (le_int).O).O (le_int).O) (lss_one (ls_ret le_bl)) lss_nil)))
      (lss_one (ls_ret le_bl)))))))))

theorem sc__law_pick : FnScope N__law_pick p__law_pick (defScope s__law_pick) := ⟨rfl, rfl, rfl, by decide +kernel, rfl, by decide +kernel, by decide +kernel⟩
theorem b__law_pick (T : Txt P K mg) : Binds K T.d__law_pick.fd p__law_pick [] := T.d__law_pick.F.binds fun _ _ _ _ _ _ us hl => match us, hl with | [_, _], _ => rfl
theorem ok__law_pick (T : Txt P K mg) : FnOk P w K mg base (L2.CX P w) 2 T.d__law_pick.f T.d__law_pick.fd p__law_pick (liftS K (XR0 K mg) sp__law_pick) := by
  refine fn_ok (is := m__law_pick) T.d__law_pick.F sc__law_pick (fun _ _ _ h => h.1) (fun cdv A outer s H E W hr hu tk po => ?_) fun _ _ _ h => h.2
  have nd := sc__law_pick.nd
  exact (lss_one (ls_ret (le_ix (le_var 1).O (le_call (ok__law_take T) tk (hr.mono (by decide)) (by rfl) T.d__law_take.g T.d__law_take.F.kp (b__law_take T) (la_cons (le_var 0) (la_cons (le_len (by rfl) T.b_len (le_var 1).O) la_nil))).O)))

theorem sc__law_fr : FnScope N__law_fr p__law_fr (defScope s__law_fr) := ⟨rfl, rfl, rfl, by decide +kernel, rfl, by decide +kernel, by decide +kernel⟩
theorem b__law_fr (T : Txt P K mg) : Binds K T.d__law_fr.fd p__law_fr [] := T.d__law_fr.F.binds fun _ _ _ _ _ _ us hl => match us, hl with | [_, _], _ => rfl
theorem ok__law_fr (T : Txt P K mg) : FnOk P w K mg base (L2.CX P w) 1 T.d__law_fr.f T.d__law_fr.fd p__law_fr (liftS K (XR0 K mg) sp__law_fr) := by
  refine fn_ok (is := m__law_fr) T.d__law_fr.F sc__law_fr (fun _ _ _ h => h.1) (fun cdv A outer s H E W hr hu tk po => ?_) fun _ _ _ h => h.2
  have nd := sc__law_fr.nd
  exact (lss_cons (ls_if (lt_cmp c_lt (le_var 1).O (le_int).O) (lss_one (ls_par 0 1 rfl nd (by decide) (le_sub (le_int).O (le_var 0).O).x (le_sub (le_int).O (le_var 1).O).x)) lss_nil)
      (lss_cons (ls_par 2 3 rfl nd (by decide) (le_abs (by rfl) T.b_abs (le_var 0).O).x (le_var 1).x)
      (lss_cons (ls_for po rfl (li_r1 (by rfl) T.b_range (la_cons le_int la_nil)) (lg_name 4 nd) (lss_cons (ls_if (lt_cmp (c_eq hu) (le_var 3).O (le_int).O) (lss_one ls_break) lss_nil)
      (lss_one (ls_par 2 3 rfl nd (by decide) (le_var 3).x (le_mod (le_intC (by rfl) T.b_int (le_var 2).O).O (le_var 3).O).x))))
      (lss_one (ls_ret (le_tup (la_cons (le_div (le_var 0).O (le_var 2).O) (la_cons (le_div (le_var 1).O (le_var 2).O) la_nil))))))))

theorem sc__law_add : FnScope N__law_add p__law_add (defScope s__law_add) := ⟨rfl, rfl, rfl, by decide +kernel, rfl, by decide +kernel, by decide +kernel⟩
theorem b__law_add (T : Txt P K mg) : Binds K T.d__law_add.fd p__law_add [] := T.d__law_add.F.binds fun _ _ _ _ _ _ us hl => match us, hl with | [_, _], _ => rfl
theorem ok__law_add (T : Txt P K mg) : FnOk P w K mg base (L2.CX P w) 2 T.d__law_add.f T.d__law_add.fd p__law_add (liftS K (XR0 K mg) sp__law_add) := by
  refine fn_ok (is := m__law_add) T.d__law_add.F sc__law_add (fun _ _ _ h => h.1) (fun cdv A outer s H E W hr hu tk po => ?_) fun _ _ _ h => h.2
  have nd := sc__law_add.nd
  exact (lss_one (ls_ret (le_call (ok__law_fr T) tk (hr.mono (by decide)) (by rfl) T.d__law_fr.g T.d__law_fr.F.kp (b__law_fr T) (la_cons (le_add (le_mul (le_ix (le_var 0).O (le_int).O).O (le_ix (le_var 1).O (le_int).O).O).O (le_mul (le_ix (le_var 1).O (le_int).O).O (le_ix (le_var 0).O (le_int).O).O).O) (la_cons (le_mul (le_ix (le_var 0).O (le_int).O).O (le_ix (le_var 1).O (le_int).O).O) la_nil)))))

theorem sc__law_mul : FnScope N__law_mul p__law_mul (defScope s__law_mul) := ⟨rfl, rfl, rfl, by decide +kernel, rfl, by decide +kernel, by decide +kernel⟩
theorem b__law_mul (T : Txt P K mg) : Binds K T.d__law_mul.fd p__law_mul [] := T.d__law_mul.F.binds fun _ _ _ _ _ _ us hl => match us, hl with | [_, _], _ => rfl
theorem ok__law_mul (T : Txt P K mg) : FnOk P w K mg base (L2.CX P w) 2 T.d__law_mul.f T.d__law_mul.fd p__law_mul (liftS K (XR0 K mg) sp__law_mul) := by
  refine fn_ok (is := m__law_mul) T.d__law_mul.F sc__law_mul (fun _ _ _ h => h.1) (fun cdv A outer s H E W hr hu tk po => ?_) fun _ _ _ h => h.2
  have nd := sc__law_mul.nd
  exact (lss_one (ls_ret (le_call (ok__law_fr T) tk (hr.mono (by decide)) (by rfl) T.d__law_fr.g T.d__law_fr.F.kp (b__law_fr T) (la_cons (le_mul (le_ix (le_var 0).O (le_int).O).O (le_ix (le_var 1).O (le_int).O).O) (la_cons (le_mul (le_ix (le_var 0).O (le_int).O).O (le_ix (le_var 1).O (le_int).O).O) la_nil)))))

theorem sc__law_sub : FnScope N__law_sub p__law_sub (defScope s__law_sub) := ⟨rfl, rfl, rfl, by decide +kernel, rfl, by decide +kernel, by decide +kernel⟩
theorem b__law_sub (T : Txt P K mg) : Binds K T.d__law_sub.fd p__law_sub [] := T.d__law_sub.F.binds fun _ _ _ _ _ _ us hl => match us, hl with | [_, _], _ => rfl
theorem ok__law_sub (T : Txt P K mg) : FnOk P w K mg base (L2.CX P w) 3 T.d__law_sub.f T.d__law_sub.fd p__law_sub (liftS K (XR0 K mg) sp__law_sub) := by
  refine fn_ok (is := m__law_sub) T.d__law_sub.F sc__law_sub (fun _ _ _ h => h.1) (fun cdv A outer s H E W hr hu tk po => ?_) fun _ _ _ h => h.2
  have nd := sc__law_sub.nd
  exact (lss_one (ls_ret (le_call (ok__law_add T) tk (hr.mono (by decide)) (by rfl) T.d__law_add.g T.d__law_add.F.kp (b__law_add T) (la_cons (le_var 0) (la_cons (le_tup (la_cons (le_sub (le_int).O (le_ix (le_var 1).O (le_int).O).O) (la_cons (le_ix (le_var 1).O (le_int).O) la_nil))) la_nil)))))

theorem sc__law_sum : FnScope N__law_sum p__law_sum (defScope s__law_sum) := ⟨rfl, rfl, rfl, by decide +kernel, rfl, by decide +kernel, by decide +kernel⟩
theorem b__law_sum (T : Txt P K mg) : Binds K T.d__law_sum.fd p__law_sum [] := T.d__law_sum.F.binds fun _ _ _ _ _ _ us hl => match us, hl with | [_], _ => rfl
theorem ok__law_sum (T : Txt P K mg) : FnOk P w K mg base (L2.CX P w) 3 T.d__law_sum.f T.d__law_sum.fd p__law_sum (liftS K (XR0 K mg) sp__law_sum) := by
  refine fn_ok (is := m__law_sum) T.d__law_sum.F sc__law_sum (fun _ _ _ h => h.1) (fun cdv A outer s H E W hr hu tk po => ?_) fun _ _ _ h => h.2
  have nd := sc__law_sum.nd
  exact (lss_cons (ls_set 1 nd (le_tup (la_cons le_int (la_cons le_int la_nil))).x)
      (lss_cons (ls_for po rfl (li_of (le_var 0)) (lg_name 2 nd) (lss_one (ls_set 1 nd (le_call (ok__law_add T) tk (hr.mono (by decide)) (by rfl) T.d__law_add.g T.d__law_add.F.kp (b__law_add T) (la_cons (le_var 1) (la_cons (le_var 2) la_nil))).x)))
      (lss_one (ls_ret (le_var 1)))))

theorem sc__law_some : FnScope N__law_some p__law_some (defScope s__law_some) := ⟨rfl, rfl, rfl, by decide +kernel, rfl, by decide +kernel, by decide +kernel⟩
theorem b__law_some (T : Txt P K mg) : Binds K T.d__law_some.fd p__law_some [] := T.d__law_some.F.binds fun _ _ _ _ _ _ us hl => match us, hl with | [_, _, _], _ => rfl
theorem ok__law_some (T : Txt P K mg) : FnOk P w K mg base (L2.CX P w) 3 T.d__law_some.f T.d__law_some.fd p__law_some (liftS K (XR0 K mg) sp__law_some) := by
  refine fn_ok (is := m__law_some) T.d__law_some.F sc__law_some (fun _ _ _ h => h.1) (fun cdv A outer s H E W hr hu tk po => ?_) fun _ _ _ h => h.2
  have nd := sc__law_some.nd
  exact (lss_cons (ls_par 3 4 rfl nd (by decide) (ln_lst la_nil).x ((ln_lstC (by rfl) T.b_list (le_var 1).O)).E.x)
      (lss_cons (ls_for po rfl (li_r1 (by rfl) T.b_range (la_cons (le_var 2) la_nil)) (lg_name 5 nd) (lss_cons (ls_set 6 nd (le_call (ok__law_pick T) tk (hr.mono (by decide)) (by rfl) T.d__law_pick.g T.d__law_pick.F.kp (b__law_pick T) (la_cons (le_var 0) (la_cons (le_var 4) la_nil))).x)
      (lss_cons (ls_app 3 (le_var 6))
      (lss_one (ls_setLcE 4 (ts := [7]) (own := [("one", 7)]) rfl nd (lio_of (le_var 4).O) (blkOk_by (own := [("one", 7)]) (by show blkC N__law_some (defScope s__law_some) _ _ = true; decide +kernel)) rfl (fun _ _ _ _ _ => (lg_name 7 nd)) (fun _ _ _ _ _ => (lts_one (lt_cmp (c_ne hu) (le_var 7).O (le_var 6).O))) (fun _ _ _ _ _ => (le_var 7)))))))
      (lss_one (ls_frz 3 (ls_ret (le_var 3))))))

theorem sc__law_number : FnScope N__law_number p__law_number (defScope s__law_number) := ⟨rfl, rfl, rfl, by decide +kernel, rfl, by decide +kernel, by decide +kernel⟩
theorem b__law_number (T : Txt P K mg) : Binds K T.d__law_number.fd p__law_number [] := T.d__law_number.F.binds fun _ _ _ _ _ _ us hl => match us, hl with | [_], _ => rfl
theorem ok__law_number (T : Txt P K mg) : FnOk P w K mg base (L2.CX P w) 3 T.d__law_number.f T.d__law_number.fd p__law_number (liftS K (XR0 K mg) sp__law_number) := by
  refine fn_ok (is := m__law_number) T.d__law_number.F sc__law_number (fun _ _ _ h => h.1) (fun cdv A outer s H E W hr hu tk po => ?_) fun _ _ _ h => h.2
  have nd := sc__law_number.nd
  exact (lss_one (ls_ret (le_call (ok__law_pick T) tk (hr.mono (by decide)) (by rfl) T.d__law_pick.g T.d__law_pick.F.kp (b__law_pick T) (la_cons (le_var 0) (la_cons ((ln_lst (la_cons le_int (la_cons le_int (la_cons le_int (la_cons le_int (la_cons le_int (la_cons le_int (la_cons le_int (la_cons le_int la_nil)))))))))).E la_nil)))))

theorem sc__law_part : FnScope N__law_part p__law_part (defScope s__law_part) := ⟨rfl, rfl, rfl, by decide +kernel, rfl, by decide +kernel, by decide +kernel⟩
theorem b__law_part (T : Txt P K mg) : Binds K T.d__law_part.fd p__law_part [] := T.d__law_part.F.binds fun _ _ _ _ _ _ us hl => match us, hl with | [_, _, _], _ => rfl
theorem ok__law_part (T : Txt P K mg) : FnOk P w K mg base (L2.CX P w) 4 T.d__law_part.f T.d__law_part.fd p__law_part (liftS K (XR0 K mg) sp__law_part) := by
  refine fn_ok (is := m__law_part) T.d__law_part.F sc__law_part (fun _ _ _ h => h.1) (fun cdv A outer s H E W hr hu tk po => ?_) fun _ _ _ h => h.2
  have nd := sc__law_part.nd
  exact (lss_cons (ls_set 3 nd (le_call (ok__law_take T) tk (hr.mono (by decide)) (by rfl) T.d__law_take.g T.d__law_take.F.kp (b__law_take T) (la_cons (le_var 0) (la_cons le_int la_nil))).x)
      (lss_cons (ls_if (lt_cmp c_lt (le_var 3).O (le_int).O) (lss_cons (ls_asg (le_call (ok__law_some T) tk (hr.mono (by decide)) (by rfl) T.d__law_some.g T.d__law_some.F.kp (b__law_some T) (la_cons (le_var 0) (la_cons (le_var 1) (la_cons le_int la_nil)))) (ltg_tup (n := 2) rfl (ltgs_cons (ltg_name 4 nd) (ltgs_cons (ltg_name 5 nd) ltgs_nil))))
      (lss_one (ls_ret (le_tup (la_cons (le_ix ((ln_lst (la_cons le_str (la_cons le_str (la_cons le_str (la_cons le_str la_nil)))))).E.O (le_var 3).O) (la_cons (le_var 4) (la_cons (le_call (ok__law_number T) tk (hr.mono (by decide)) (by rfl) T.d__law_number.g T.d__law_number.F.kp (b__law_number T) (la_cons (le_var 0) la_nil)) (la_cons (le_var 5) (la_cons (le_call (ok__law_number T) tk (hr.mono (by decide)) (by rfl) T.d__law_number.g T.d__law_number.F.kp (b__law_number T) (la_cons (le_var 0) la_nil)) la_nil))))))))) lss_nil)
      (lss_cons (ls_if (lw_and (lt_cmp c_lt (le_var 3).O (le_int).O) (lw_and1 (lt_cmp c_gt (le_len (by rfl) T.b_len (le_var 1).O).O (le_int).O))).t (lss_cons (ls_asg (le_call (ok__law_some T) tk (hr.mono (by decide)) (by rfl) T.d__law_some.g T.d__law_some.F.kp (b__law_some T) (la_cons (le_var 0) (la_cons (le_var 1) (la_cons le_int la_nil)))) (ltg_tup (n := 3) rfl (ltgs_cons (ltg_name 6 nd) (ltgs_cons (ltg_name 4 nd) (ltgs_cons (ltg_name 5 nd) ltgs_nil)))))
      (lss_one (ls_ret (le_tup (la_cons (le_ix ((ln_lst (la_cons le_str (la_cons le_str la_nil)))).E.O (le_sub (le_var 3).O (le_int).O).O) (la_cons (le_var 6) (la_cons (le_var 4) (la_cons (le_call (ok__law_number T) tk (hr.mono (by decide)) (by rfl) T.d__law_number.g T.d__law_number.F.kp (b__law_number T) (la_cons (le_var 0) la_nil)) (la_cons (le_var 5) (la_cons (le_call (ok__law_number T) tk (hr.mono (by decide)) (by rfl) T.d__law_number.g T.d__law_number.F.kp (b__law_number T) (la_cons (le_var 0) la_nil)) la_nil)))))))))) lss_nil)
      (lss_cons (ls_if (lw_and (lt_cmp (c_eq hu) (le_var 3).O (le_int).O) (lw_and1 (lt_cmp c_gt (le_len (by rfl) T.b_len (le_var 2).O).O (le_int).O))).t (lss_one (ls_ret (le_tup (la_cons le_str (la_cons (le_call (ok__law_pick T) tk (hr.mono (by decide)) (by rfl) T.d__law_pick.g T.d__law_pick.F.kp (b__law_pick T) (la_cons (le_var 0) (la_cons (le_var 2) la_nil))) (la_cons (le_call (ok__law_pick T) tk (hr.mono (by decide)) (by rfl) T.d__law_pick.g T.d__law_pick.F.kp (b__law_pick T) (la_cons (le_var 0) (la_cons (le_var 1) la_nil))) (la_cons (le_call (ok__law_number T) tk (hr.mono (by decide)) (by rfl) T.d__law_number.g T.d__law_number.F.kp (b__law_number T) (la_cons (le_var 0) la_nil)) la_nil))))))) lss_nil)
      (lss_cons (ls_if (lw_and (lt_cmp (c_eq hu) (le_var 3).O (le_int).O) (lw_and1 (lt_cmp c_gt (le_len (by rfl) T.b_len (le_var 2).O).O (le_int).O))).t (lss_cons (ls_asg (le_call (ok__law_some T) tk (hr.mono (by decide)) (by rfl) T.d__law_some.g T.d__law_some.F.kp (b__law_some T) (la_cons (le_var 0) (la_cons (le_var 2) (la_cons le_int la_nil)))) (ltg_tup (n := 2) rfl (ltgs_cons (ltg_name 4 nd) (ltgs_cons (ltg_name 5 nd) ltgs_nil))))
      (lss_one (ls_ret (le_tup (la_cons le_str (la_cons (le_var 4) (la_cons (le_call (ok__law_number T) tk (hr.mono (by decide)) (by rfl) T.d__law_number.g T.d__law_number.F.kp (b__law_number T) (la_cons (le_var 0) la_nil)) (la_cons (le_var 5) (la_cons (le_call (ok__law_number T) tk (hr.mono (by decide)) (by rfl) T.d__law_number.g T.d__law_number.F.kp (b__law_number T) (la_cons (le_var 0) la_nil)) la_nil))))))))) lss_nil)
      (lss_cons (ls_if (lw_and (lt_cmp (c_eq hu) (le_var 3).O (le_int).O) (lw_and1 (lt_cmp c_gt (le_len (by rfl) T.b_len (le_var 1).O).O (le_int).O))).t (lss_one (ls_ret (le_catT (le_tup (la_cons le_str la_nil)).O (le_tupC (by rfl) T.b_tuple (le_call (ok__law_some T) tk (hr.mono (by decide)) (by rfl) T.d__law_some.g T.d__law_some.F.kp (b__law_some T) (la_cons (le_var 0) (la_cons (le_if (lw_and (lt_cmp c_gt (le_len (by rfl) T.b_len (le_var 2).O).O (le_int).O) (lw_and1 (lt_cmp (c_eq hu) (le_call (ok__law_take T) tk (hr.mono (by decide)) (by rfl) T.d__law_take.g T.d__law_take.F.kp (b__law_take T) (la_cons (le_var 0) (la_cons le_int la_nil))).O (le_int).O))).t (le_var 2) (le_var 1)) (la_cons le_int la_nil)))).O).O))) lss_nil)
      (lss_cons (ls_if (lt_cmp (c_eq hu) (le_var 3).O (le_int).O) (lss_one (ls_ret (le_tup (la_cons le_str (la_cons (le_call (ok__law_pick T) tk (hr.mono (by decide)) (by rfl) T.d__law_pick.g T.d__law_pick.F.kp (b__law_pick T) (la_cons (le_var 0) (la_cons (le_addD (le_var 1).O (le_var 2).O) la_nil))) la_nil))))) lss_nil)
      (lss_one (ls_ret (le_catT (le_tup (la_cons le_str la_nil)).O (le_tupC (by rfl) T.b_tuple (le_call (ok__law_some T) tk (hr.mono (by decide)) (by rfl) T.d__law_some.g T.d__law_some.F.kp (b__law_some T) (la_cons (le_var 0) (la_cons (le_if (lw_and (lt_cmp c_gt (le_len (by rfl) T.b_len (le_var 2).O).O (le_int).O) (lw_and1 (lt_cmp (c_eq hu) (le_call (ok__law_take T) tk (hr.mono (by decide)) (by rfl) T.d__law_take.g T.d__law_take.F.kp (b__law_take T) (la_cons (le_var 0) (la_cons le_int la_nil))).O (le_int).O))).t (le_var 2) (le_var 1)) (la_cons le_int la_nil)))).O).O))))))))))

theorem sc__law_told : FnScope N__law_told p__law_told (defScope s__law_told) := ⟨rfl, rfl, rfl, by decide +kernel, rfl, by decide +kernel, by decide +kernel⟩
theorem b__law_told (T : Txt P K mg) : Binds K T.d__law_told.fd p__law_told [] := T.d__law_told.F.binds fun _ _ _ _ _ _ us hl => match us, hl with | [_, _], _ => rfl
theorem ok__law_told (T : Txt P K mg) : FnOk P w K mg base (L2.CX P w) 4 T.d__law_told.f T.d__law_told.fd p__law_told (liftS K (XR0 K mg) sp__law_told) := by
  refine fn_ok (is := m__law_told) T.d__law_told.F sc__law_told (fun _ _ _ h => h.1) (fun cdv A outer s H E W hr hu tk po => ?_) fun _ _ _ h => h.2
  have nd := sc__law_told.nd
  exact (lss_cons (ls_set 2 nd (le_call (ok__law_some T) tk (hr.mono (by decide)) (by rfl) T.d__law_some.g T.d__law_some.F.kp (b__law_some T) (la_cons (le_var 0) (la_cons ((ln_comp (ts := [3, 4]) (own := [("name", 3), ("kind", 4)]) rfl nd (lio_of (le_var 1).O) (blkOk_by (own := [("name", 3), ("kind", 4)]) (by show blkC N__law_told (defScope s__law_told) _ _ = true; decide +kernel)) rfl (fun _ _ _ _ _ => (lg_tup (n := 2) rfl (lgs_cons (lg_name 3 nd) (lgs_cons (lg_name 4 nd) lgs_nil)))) (fun _ _ _ _ _ => lts_nil) (fun _ _ _ _ _ => (le_var 3)))).E (la_cons (le_call (ok__law_take T) tk (hr.mono (by decide)) (by rfl) T.d__law_take.g T.d__law_take.F.kp (b__law_take T) (la_cons (le_var 0) (la_cons le_int la_nil))) la_nil)))).x)
      (lss_one (ls_ret (le_tupC (by rfl) T.b_tuple ((ln_comp (ts := [3]) (own := [("name", 3)]) rfl nd (lio_of (le_var 2).O) (blkOk_by (own := [("name", 3)]) (by show blkC N__law_told (defScope s__law_told) _ _ = true; decide +kernel)) rfl (fun _ _ _ _ _ => (lg_name 3 nd)) (fun _ _ _ _ _ => lts_nil) (fun _ _ _ _ _ => (le_tup (la_cons (le_var 3) (la_cons (le_call (ok__law_fr T) takes0 (hr.mono (by decide)) (by rfl) T.d__law_fr.g T.d__law_fr.F.kp (b__law_fr T) (la_cons (le_sub (le_call (ok__law_take T) takes0 (hr.mono (by decide)) (by rfl) T.d__law_take.g T.d__law_take.F.kp (b__law_take T) (la_cons (le_var 0) (la_cons le_int la_nil))).O (le_int).O) (la_cons (le_add (le_int).O (le_call (ok__law_take T) takes0 (hr.mono (by decide)) (by rfl) T.d__law_take.g T.d__law_take.F.kp (b__law_take T) (la_cons (le_var 0) (la_cons le_int la_nil))).O) la_nil))) la_nil)))))).E.O))))

theorem sc__law_machine : FnScope N__law_machine p__law_machine (defScope s__law_machine) := ⟨rfl, rfl, rfl, by decide +kernel, rfl, by decide +kernel, by decide +kernel⟩
theorem b__law_machine (T : Txt P K mg) : Binds K T.d__law_machine.fd p__law_machine [] := T.d__law_machine.F.binds fun _ _ _ _ _ _ us hl => match us, hl with | [_, _], _ => rfl
theorem ok__law_machine (T : Txt P K mg) : FnOk P w K mg base (L2.CX P w) 5 T.d__law_machine.f T.d__law_machine.fd p__law_machine (liftS K (XR0 K mg) sp__law_machine) := by
  refine fn_ok (is := m__law_machine) T.d__law_machine.F sc__law_machine (fun _ _ _ h => h.1) (fun cdv A outer s H E W hr hu tk po => ?_) fun _ _ _ h => h.2
  have nd := sc__law_machine.nd
  exact (lss_cons (ls_set 2 nd ((ln_slL ((ln_lst (la_cons le_str (la_cons le_str (la_cons le_str (la_cons le_str (la_cons le_str la_nil))))))).E.O lp_no (lp_at (le_add (le_int).O (le_call (ok__law_take T) tk (hr.mono (by decide)) (by rfl) T.d__law_take.g T.d__law_take.F.kp (b__law_take T) (la_cons (le_var 0) (la_cons le_int la_nil))).O)))).E.x)
      (lss_cons (ls_set 3 nd ((ln_slL ((ln_lst (la_cons le_str (la_cons le_str (la_cons le_str la_nil))))).E.O lp_no (lp_at (le_call (ok__law_take T) tk (hr.mono (by decide)) (by rfl) T.d__law_take.g T.d__law_take.F.kp (b__law_take T) (la_cons (le_var 0) (la_cons le_int la_nil)))))).E.x)
      (lss_cons (ls_set 4 nd (le_tupC (by rfl) T.b_tuple ((ln_cat ((ln_comp (ts := [7]) (own := [("name", 7)]) rfl nd (lio_of (le_var 2).O) (blkOk_by (own := [("name", 7)]) (by show blkC N__law_machine (defScope s__law_machine) _ _ = true; decide +kernel)) rfl (fun _ _ _ _ _ => (lg_name 7 nd)) (fun _ _ _ _ _ => lts_nil) (fun _ _ _ _ _ => (le_tup (la_cons (le_var 7) (la_cons le_str la_nil)))))).E.O ((ln_comp (ts := [7]) (own := [("name", 7)]) rfl nd (lio_of (le_var 3).O) (blkOk_by (own := [("name", 7)]) (by show blkC N__law_machine (defScope s__law_machine) _ _ = true; decide +kernel)) rfl (fun _ _ _ _ _ => (lg_name 7 nd)) (fun _ _ _ _ _ => lts_nil) (fun _ _ _ _ _ => (le_tup (la_cons (le_var 7) (la_cons le_str la_nil)))))).E.O)).E.O).x)
      (lss_cons (ls_set 5 nd (le_tupC (by rfl) T.b_tuple ((ln_comp (ts := [6]) (own := [("k", 6)]) rfl nd (li_r1 (by rfl) T.b_range (la_cons (le_call (ok__law_take T) tk (hr.mono (by decide)) (by rfl) T.d__law_take.g T.d__law_take.F.kp (b__law_take T) (la_cons (le_var 0) (la_cons (le_add (le_var 1).O (le_int).O) la_nil))) la_nil)).O (blkOk_by (own := [("k", 6)]) (by show blkC N__law_machine (defScope s__law_machine) _ _ = true; decide +kernel)) rfl (fun _ _ _ _ _ => (lg_name 6 nd)) (fun _ _ _ _ _ => lts_nil) (fun _ _ _ _ _ => (le_call (ok__law_part T) takes0 (hr.mono (by decide)) (by rfl) T.d__law_part.g T.d__law_part.F.kp (b__law_part T) (la_cons (le_var 0) (la_cons (le_var 2) (la_cons (le_var 3) la_nil))))))).E.O).x)
      (lss_one (ls_ret (le_tup (la_cons le_str (la_cons (le_var 4) (la_cons (le_var 5) (la_cons (le_call (ok__law_told T) tk (hr.mono (by decide)) (by rfl) T.d__law_told.g T.d__law_told.F.kp (b__law_told T) (la_cons (le_var 0) (la_cons (le_var 4) la_nil))) (la_cons (le_call (ok__law_told T) tk (hr.mono (by decide)) (by rfl) T.d__law_told.g T.d__law_told.F.kp (b__law_told T) (la_cons (le_var 0) (la_cons (le_var 4) la_nil))) la_nil))))))))))))

theorem sc__law_less : FnScope N__law_less p__law_less (defScope s__law_less) := ⟨rfl, rfl, rfl, by decide +kernel, rfl, by decide +kernel, by decide +kernel⟩
theorem b__law_less (T : Txt P K mg) : Binds K T.d__law_less.fd p__law_less [] := T.d__law_less.F.binds fun _ _ _ _ _ _ us hl => match us, hl with | [_, _], _ => rfl
theorem ok__law_less (T : Txt P K mg) : FnOk P w K mg base (L2.CX P w) 1 T.d__law_less.f T.d__law_less.fd p__law_less (liftS K (XR0 K mg) sp__law_less) := by
  refine fn_ok (is := m__law_less) T.d__law_less.F sc__law_less (fun _ _ _ h => h.1) (fun cdv A outer s H E W hr hu tk po => ?_) fun _ _ _ h => h.2
  have nd := sc__law_less.nd
  exact (lss_one (ls_ret (le_cmp c_lt (le_mul (le_ix (le_var 0).O (le_int).O).O (le_ix (le_var 1).O (le_int).O).O).O (le_mul (le_ix (le_var 1).O (le_int).O).O (le_ix (le_var 0).O (le_int).O).O).O)))

theorem sc__law_over : FnScope N__law_over p__law_over (defScope s__law_over) := ⟨rfl, rfl, rfl, by decide +kernel, rfl, by decide +kernel, by decide +kernel⟩
theorem b__law_over (T : Txt P K mg) : Binds K T.d__law_over.fd p__law_over [] := T.d__law_over.F.binds fun _ _ _ _ _ _ us hl => match us, hl with | [_, _], _ => rfl
theorem ok__law_over (T : Txt P K mg) : FnOk P w K mg base (L2.CX P w) 2 T.d__law_over.f T.d__law_over.fd p__law_over (liftS K (XR0 K mg) sp__law_over) := by
  refine fn_ok (is := m__law_over) T.d__law_over.F sc__law_over (fun _ _ _ h => h.1) (fun cdv A outer s H E W hr hu tk po => ?_) fun _ _ _ h => h.2
  have nd := sc__law_over.nd
  exact (lss_one (ls_ret (le_call (ok__law_fr T) tk (hr.mono (by decide)) (by rfl) T.d__law_fr.g T.d__law_fr.F.kp (b__law_fr T) (la_cons (le_mul (le_ix (le_var 0).O (le_int).O).O (le_ix (le_var 1).O (le_int).O).O) (la_cons (le_mul (le_ix (le_var 0).O (le_int).O).O (le_ix (le_var 1).O (le_int).O).O) la_nil)))))

theorem sc__law_turn : FnScope N__law_turn p__law_turn (defScope s__law_turn) := ⟨rfl, rfl, rfl, by decide +kernel, rfl, by decide +kernel, by decide +kernel⟩
theorem b__law_turn (T : Txt P K mg) : Binds K T.d__law_turn.fd p__law_turn [] := T.d__law_turn.F.binds fun _ _ _ _ _ _ us hl => match us, hl with | [_], _ => rfl
theorem ok__law_turn (T : Txt P K mg) : FnOk P w K mg base (L2.CX P w) 1 T.d__law_turn.f T.d__law_turn.fd p__law_turn (liftS K (XR0 K mg) sp__law_turn) := by
  refine fn_ok (is := m__law_turn) T.d__law_turn.F sc__law_turn (fun _ _ _ h => h.1) (fun cdv A outer s H E W hr hu tk po => ?_) fun _ _ _ h => h.2
  have nd := sc__law_turn.nd
  exact (lss_one (ls_ret (le_tup (la_cons (le_sub (le_int).O (le_ix (le_var 0).O (le_int).O).O) (la_cons (le_ix (le_var 0).O (le_int).O) la_nil)))))

theorem sc__law_terms : FnScope N__law_terms p__law_terms (defScope s__law_terms) := ⟨rfl, rfl, rfl, by decide +kernel, rfl, by decide +kernel, by decide +kernel⟩
theorem b__law_terms (T : Txt P K mg) : Binds K T.d__law_terms.fd p__law_terms [] := T.d__law_terms.F.binds fun _ _ _ _ _ _ us hl => match us, hl with | [_], _ => rfl
theorem ok__law_terms (T : Txt P K mg) : FnOk P w K mg base (L2.CX P w) 1 T.d__law_terms.f T.d__law_terms.fd p__law_terms (liftS K (XR0 K mg) sp__law_terms) := by
  refine fn_ok (is := m__law_terms) T.d__law_terms.F sc__law_terms (fun _ _ _ h => h.1) (fun cdv A outer s H E W hr hu tk po => ?_) fun _ _ _ h => h.2
  have nd := sc__law_terms.nd
  exact (lss_cons (ls_par 1 2 rfl nd (by decide) (le_ix (le_var 0).O (le_int).O).x (le_slD (le_var 0).O (lp_at le_int) lp_no).x)
      (lss_cons (ls_if (lt_cmp (c_in hu) (le_var 1).O (le_tup (la_cons le_str (la_cons le_str la_nil))).O) (lss_cons (ls_asg (le_var 2) (ltg_tup (n := 5) rfl (ltgs_cons (ltg_name 3 nd) (ltgs_cons (ltg_name 4 nd) (ltgs_cons (ltg_name 5 nd) (ltgs_cons (ltg_name 6 nd) (ltgs_cons (ltg_name 7 nd) ltgs_nil)))))))
      (lss_cons (ls_set 8 nd (le_if (lt_cmp (c_eq hu) (le_var 1).O (le_str).O) le_int (le_neg (le_int).O)).x)
      (lss_one (ls_ret ((ln_lst (la_cons (le_tup (la_cons (le_var 4) (la_cons (le_var 5) la_nil))) (la_cons (le_tup (la_cons (le_var 6) (la_cons (le_mul (le_var 8).O (le_var 7).O) la_nil))) (la_cons (le_tup (la_cons (le_var 3) (la_cons (le_sub (le_sub (le_int).O (le_var 5).O).O (le_mul (le_var 8).O (le_var 7).O).O) la_nil))) la_nil))))).E)))) lss_nil)
      (lss_cons (ls_if (lt_cmp (c_in hu) (le_var 1).O (le_tup (la_cons le_str (la_cons le_str (la_cons le_str (la_cons le_str (la_cons le_str la_nil)))))).O) (lss_one (ls_ret ((ln_lst (la_cons (le_tup (la_cons (le_ix (le_var 2).O (le_int).O) (la_cons (le_ix (le_var 2).O (le_int).O) la_nil))) (la_cons (le_tup (la_cons (le_ix (le_var 2).O (le_int).O) (la_cons (le_if (lt_cmp (c_in hu) (le_var 1).O (le_tup (la_cons le_str (la_cons le_str (la_cons le_str la_nil)))).O) (le_ix (le_var 2).O (le_int).O) (le_sub (le_int).O (le_ix (le_var 2).O (le_int).O).O)) la_nil))) la_nil)))).E)) lss_nil)
      (lss_cons (ls_if (lt_cmp (c_eq hu) (le_var 1).O (le_str).O) (lss_one (ls_ret ((ln_lst (la_cons (le_tup (la_cons (le_ix (le_var 2).O (le_int).O) (la_cons le_int la_nil))) (la_cons (le_tup (la_cons (le_ix (le_var 2).O (le_int).O) (la_cons (le_sub (le_int).O (le_ix (le_var 2).O (le_int).O).O) la_nil))) la_nil)))).E)) lss_nil)
      (lss_one (ls_ret (le_dix (hu1 hu) ((ln_disp (lps_cons le_str ((ln_lst (la_cons (le_tup (la_cons (le_ix (le_var 2).O (le_int).O) (la_cons le_int la_nil))) (la_cons (le_tup (la_cons (le_ix (le_var 2).O (le_neg (le_int).O).O) (la_cons (le_neg (le_int).O) la_nil))) la_nil)))).E (lps_cons le_str ((ln_lst (la_cons (le_tup (la_cons (le_ix (le_var 2).O (le_int).O) (la_cons le_int la_nil))) la_nil))).E (lps_cons le_str ((ln_cat ((ln_comp (ts := [4]) (own := [("one", 4)]) rfl nd (lio_of (le_slD (le_var 2).O lp_no (lp_at le_int)).O) (blkOk_by (own := [("one", 4)]) (by show blkC N__law_terms (defScope s__law_terms) _ _ = true; decide +kernel)) rfl (fun _ _ _ _ _ => (lg_name 4 nd)) (fun _ _ _ _ _ => lts_nil) (fun _ _ _ _ _ => (le_tup (la_cons (le_var 4) (la_cons le_int la_nil)))))).E.O ((ln_lst (la_cons (le_tup (la_cons (le_ix (le_var 2).O (le_neg (le_int).O).O) (la_cons (le_neg (le_int).O) la_nil))) la_nil))).E.O)).E lps_nil))))).E.O (le_var 1).O)))))))

theorem sc__law_row : FnScope N__law_row p__law_row (defScope s__law_row) := ⟨rfl, rfl, rfl, by decide +kernel, rfl, by decide +kernel, by decide +kernel⟩
theorem b__law_row (T : Txt P K mg) : Binds K T.d__law_row.fd p__law_row [] := T.d__law_row.F.binds fun _ _ _ _ _ _ us hl => match us, hl with | [_, _], _ => rfl
theorem ok__law_row (T : Txt P K mg) : FnOk P w K mg base (L2.CX P w) 2 T.d__law_row.f T.d__law_row.fd p__law_row (liftS K (XR0 K mg) sp__law_row) := by
  refine fn_ok (is := m__law_row) T.d__law_row.F sc__law_row (fun _ _ _ h => h.1) (fun cdv A outer s H E W hr hu tk po => ?_) fun _ _ _ h => h.2
  have nd := sc__law_row.nd
  exact (lss_cons (ls_set 2 nd ((ln_dict rfl (by rfl) T.b_dict (le_call (ok__law_terms T) tk (hr.mono (by decide)) (by rfl) T.d__law_terms.g T.d__law_terms.F.kp (b__law_terms T) (la_cons (le_var 1) la_nil)).O)).E.x)
      (lss_one (ls_ret (le_tupC (by rfl) T.b_tuple ((ln_comp (ts := [3, 4]) (own := [("name", 3), ("kind", 4)]) rfl nd (lio_of (le_ix (le_var 0).O (le_int).O).O) (blkOk_by (own := [("name", 3), ("kind", 4)]) (by show blkC N__law_row (defScope s__law_row) _ _ = true; decide +kernel)) rfl (fun _ _ _ _ _ => (lg_tup (n := 2) rfl (lgs_cons (lg_name 3 nd) (lgs_cons (lg_name 4 nd) lgs_nil)))) (fun _ _ _ _ _ => lts_nil) (fun _ _ _ _ _ => (le_tup (la_cons (le_get2 (hu1 hu) (le_var 2).O (le_var 3) le_int) (la_cons le_int la_nil)))))).E.O))))

theorem sc__law_rows : FnScope N__law_rows p__law_rows (defScope s__law_rows) := ⟨rfl, rfl, rfl, by decide +kernel, rfl, by decide +kernel, by decide +kernel⟩
theorem b__law_rows (T : Txt P K mg) : Binds K T.d__law_rows.fd p__law_rows [] := T.d__law_rows.F.binds fun _ _ _ _ _ _ us hl => match us, hl with | [_], _ => rfl
theorem ok__law_rows (T : Txt P K mg) : FnOk P w K mg base (L2.CX P w) 3 T.d__law_rows.f T.d__law_rows.fd p__law_rows (liftS K (XR0 K mg) sp__law_rows) := by
  refine fn_ok (is := m__law_rows) T.d__law_rows.F sc__law_rows (fun _ _ _ h => h.1) (fun cdv A outer s H E W hr hu tk po => ?_) fun _ _ _ h => h.2
  have nd := sc__law_rows.nd
  exact (lss_one (ls_ret ((ln_comp (ts := [1]) (own := [("part_v", 1)]) rfl nd (lio_of (le_ix (le_var 0).O (le_int).O).O) (blkOk_by (own := [("part_v", 1)]) (by show blkC N__law_rows (defScope s__law_rows) _ _ = true; decide +kernel)) rfl (fun _ _ _ _ _ => (lg_name 1 nd)) (fun _ _ _ _ _ => lts_nil) (fun _ _ _ _ _ => (le_call (ok__law_row T) takes0 (hr.mono (by decide)) (by rfl) T.d__law_row.g T.d__law_row.F.kp (b__law_row T) (la_cons (le_var 0) (la_cons (le_var 1) la_nil)))))).E))

theorem sc__law_put_out : FnScope N__law_put_out p__law_put_out (defScope s__law_put_out) := ⟨rfl, rfl, rfl, by decide +kernel, rfl, by decide +kernel, by decide +kernel⟩
theorem b__law_put_out (T : Txt P K mg) : Binds K T.d__law_put_out.fd p__law_put_out [] := T.d__law_put_out.F.binds fun _ _ _ _ _ _ us hl => match us, hl with | [_, _], _ => rfl
theorem ok__law_put_out (T : Txt P K mg) : FnOk P w K mg base (L2.CX P w) 4 T.d__law_put_out.f T.d__law_put_out.fd p__law_put_out (liftS K (XR0 K mg) sp__law_put_out) := by
  refine fn_ok (is := m__law_put_out) T.d__law_put_out.F sc__law_put_out (fun _ _ _ h => h.1) (fun cdv A outer s H E W hr hu tk po => ?_) fun _ _ _ h => h.2
  have nd := sc__law_put_out.nd
  exact (lss_cons (ls_many rfl (lxa_cons (ln_comp (ts := [8]) (own := [("row", 8)]) rfl nd (lio_of (le_var 0).O) (blkOk_by (own := [("row", 8)]) (by show blkC N__law_put_out (defScope s__law_put_out) _ _ = true; decide +kernel)) rfl (fun _ _ _ _ _ => (lg_name 8 nd)) (fun _ _ _ _ _ => lts_nil) (fun _ _ _ _ _ => ((ln_lstC (by rfl) T.b_list (le_var 8).O)).E)).x (lxa_cons (ln_lst la_nil).x lxa_nil)) (lnm_cons 2 nd (lnm_cons 3 nd lnm_nil)))
      (lss_cons (ls_for po rfl (li_r1 (by rfl) T.b_range (la_cons (le_var 1) la_nil)) (lg_name 4 nd) (lss_cons (ls_set 5 nd (le_len (by rfl) T.b_len (lo_var 3)).x)
      (lss_cons (ls_setLcE 6 (ts := [9]) (own := [("k", 9)]) rfl nd (li_r2 (by rfl) T.b_range (la_cons (le_var 5) (la_cons (le_len (by rfl) T.b_len (lo_var 2)) la_nil))).O (blkOk_by (own := [("k", 9)]) (by show blkC N__law_put_out (defScope s__law_put_out) _ _ = true; decide +kernel)) rfl (fun _ _ _ _ _ => (lg_name 9 nd)) (fun _ _ _ _ _ => (lts_one (lt_cmp (c_ne hu) (le_ix (le_ix (le_ix (lo_var 2) (le_var 9).O).O (le_var 4).O).O (le_int).O).O (le_int).O))) (fun _ _ _ _ _ => (le_var 9)))
      (lss_one (ls_if (lt_cmp (c_ne hu) (le_var 6).O ((ln_lst la_nil)).E.O) (lss_cons (ls_popAt 7 2 nd (le_ix (le_var 6).O (le_int).O))
      (lss_cons (ls_set 7 nd ((ln_comp (ts := [10]) (own := [("one", 10)]) rfl nd (lio_of (le_var 7).O) (blkOk_by (own := [("one", 10)]) (by show blkC N__law_put_out (defScope s__law_put_out) _ _ = true; decide +kernel)) rfl (fun _ _ _ _ _ => (lg_name 10 nd)) (fun _ _ _ _ _ => lts_nil) (fun _ _ _ _ _ => (le_call (ok__law_over T) takes0 (hr.mono (by decide)) (by rfl) T.d__law_over.g T.d__law_over.F.kp (b__law_over T) (la_cons (le_var 10) (la_cons (le_ix (le_var 7).O (le_var 4).O) la_nil)))))).E.x)
      (lss_cons (ls_set 2 nd (ln_comp (ts := [8]) (own := [("row", 8)]) rfl nd (lio_of (lo_var 2)) (blkOk_by (own := [("row", 8)]) (by show blkC N__law_put_out (defScope s__law_put_out) _ _ = true; decide +kernel)) rfl (fun _ _ _ _ _ => (lg_name 8 nd)) (fun _ _ _ _ _ => lts_nil) (fun _ _ _ _ _ => ((ln_comp (ts := [11]) (own := [("c", 11)]) rfl nd (li_r1 (by rfl) T.b_range (la_cons (le_len (by rfl) T.b_len (le_var 8).O) la_nil)).O (blkOk_by (own := [("c", 11)]) (by show blkC N__law_put_out (relS _ (defScope s__law_put_out)) _ _ = true; decide +kernel)) rfl (fun _ _ _ _ _ => (lg_name 11 nd)) (fun _ _ _ _ _ => lts_nil) (fun _ _ _ _ _ => (le_call (ok__law_sub T) takes0 (hr.mono (by decide)) (by rfl) T.d__law_sub.g T.d__law_sub.F.kp (b__law_sub T) (la_cons (le_ix (le_var 8).O (le_var 11).O) (la_cons (le_call (ok__law_mul T) takes0 (hr.mono (by decide)) (by rfl) T.d__law_mul.g T.d__law_mul.F.kp (b__law_mul T) (la_cons (le_ix (le_var 8).O (le_var 4).O) (la_cons (le_ix (le_var 7).O (le_var 11).O) la_nil))) la_nil)))))).E)).x)
      (lss_cons (ls_set 2 nd (ln_cat ((ln_cat ((ln_slL (lo_var 2) lp_no (lp_at (le_var 5)))).E.O ((ln_lst (la_cons (le_var 7) la_nil))).E.O)).E.O ((ln_slL (lo_var 2) (lp_at (le_var 5)) lp_no)).E.O).x)
      (lss_one (ls_app 3 (le_var 4))))))) lss_nil)))))
      (lss_one (ls_frz 2 (ls_frz 3 (ls_ret (le_tup (la_cons (le_var 2) (la_cons (le_var 3) la_nil)))))))))

theorem sc__law_rank : FnScope N__law_rank p__law_rank (defScope s__law_rank) := ⟨rfl, rfl, rfl, by decide +kernel, rfl, by decide +kernel, by decide +kernel⟩
theorem b__law_rank (T : Txt P K mg) : Binds K T.d__law_rank.fd p__law_rank [] := T.d__law_rank.F.binds fun _ _ _ _ _ _ us hl => match us, hl with | [_, _], _ => rfl
theorem ok__law_rank (T : Txt P K mg) : FnOk P w K mg base (L2.CX P w) 5 T.d__law_rank.f T.d__law_rank.fd p__law_rank (liftS K (XR0 K mg) sp__law_rank) := by
  refine fn_ok (is := m__law_rank) T.d__law_rank.F sc__law_rank (fun _ _ _ h => h.1) (fun cdv A outer s H E W hr hu tk po => ?_) fun _ _ _ h => h.2
  have nd := sc__law_rank.nd
  exact (lss_one (ls_ret (le_len (by rfl) T.b_len (le_ix (le_call (ok__law_put_out T) tk (hr.mono (by decide)) (by rfl) T.d__law_put_out.g T.d__law_put_out.F.kp (b__law_put_out T) (la_cons (le_var 0) (la_cons (le_var 1) la_nil))).O (le_int).O).O)))

theorem sc__law_ways : FnScope N__law_ways p__law_ways (defScope s__law_ways) := ⟨rfl, rfl, rfl, by decide +kernel, rfl, by decide +kernel, by decide +kernel⟩
theorem b__law_ways (T : Txt P K mg) : Binds K T.d__law_ways.fd p__law_ways [] := T.d__law_ways.F.binds fun _ _ _ _ _ _ us hl => match us, hl with | [_, _], _ => rfl
theorem ok__law_ways (T : Txt P K mg) : FnOk P w K mg base (L2.CX P w) 5 T.d__law_ways.f T.d__law_ways.fd p__law_ways (liftS K (XR0 K mg) sp__law_ways) := by
  refine fn_ok (is := m__law_ways) T.d__law_ways.F sc__law_ways (fun _ _ _ h => h.1) (fun cdv A outer s H E W hr hu tk po => ?_) fun _ _ _ h => h.2
  have nd := sc__law_ways.nd
  exact (lss_cons (ls_asg (le_call (ok__law_put_out T) tk (hr.mono (by decide)) (by rfl) T.d__law_put_out.g T.d__law_put_out.F.kp (b__law_put_out T) (la_cons (le_var 0) (la_cons (le_var 1) la_nil))) (ltg_tup (n := 2) rfl (ltgs_cons (ltg_name 2 nd) (ltgs_cons (ltg_name 3 nd) ltgs_nil))))
      (lss_cons (ls_set 4 nd (ln_lst la_nil).x)
      (lss_cons (ls_for po rfl (li_of ((ln_comp (ts := [8]) (own := [("c", 8)]) rfl nd (li_r1 (by rfl) T.b_range (la_cons (le_var 1) la_nil)).O (blkOk_by (own := [("c", 8)]) (by show blkC N__law_ways (defScope s__law_ways) _ _ = true; decide +kernel)) rfl (fun _ _ _ _ _ => (lg_name 8 nd)) (fun _ _ _ _ _ => (lts_one (lt_cmp (c_ni hu) (le_var 8).O (le_var 3).O))) (fun _ _ _ _ _ => (le_var 8)))).E) (lg_name 5 nd) (lss_cons (ls_setLc 6 (ts := [8]) (own := [("c", 8)]) rfl nd (li_r1 (by rfl) T.b_range (la_cons (le_var 1) la_nil)).O (blkOk_by (own := [("c", 8)]) (by show blkC N__law_ways (defScope s__law_ways) _ _ = true; decide +kernel)) rfl (fun _ _ _ _ _ => (lg_name 8 nd)) (fun _ _ _ _ _ => lts_nil) (fun _ _ _ _ _ => (le_if (lt_cmp (c_eq hu) (le_var 8).O (le_var 5).O) (le_tup (la_cons le_int (la_cons le_int la_nil))) (le_tup (la_cons le_int (la_cons le_int la_nil))))))
      (lss_cons (ls_for po rfl (li_r1 (by rfl) T.b_range (la_cons (le_len (by rfl) T.b_len (le_var 3).O) la_nil)) (lg_name 7 nd) (lss_one (ls_setAt 6 (le_ix (le_var 3).O (le_var 7).O) (le_call (ok__law_turn T) tk (hr.mono (by decide)) (by rfl) T.d__law_turn.g T.d__law_turn.F.kp (b__law_turn T) (la_cons (le_ix (le_ix (le_var 2).O (le_var 7).O).O (le_var 5).O) la_nil)))))
      (lss_one (ls_app 4 (le_tupC (by rfl) T.b_tuple (lo_var 6)))))))
      (lss_one (ls_frz 4 (ls_ret (le_var 4)))))))

theorem sc__law_free : FnScope N__law_free p__law_free (defScope s__law_free) := ⟨rfl, rfl, rfl, by decide +kernel, rfl, by decide +kernel, by decide +kernel⟩
theorem b__law_free (T : Txt P K mg) : Binds K T.d__law_free.fd p__law_free [] := T.d__law_free.F.binds fun _ _ _ _ _ _ us hl => match us, hl with | [_], _ => rfl
theorem ok__law_free (T : Txt P K mg) : FnOk P w K mg base (L2.CX P w) 6 T.d__law_free.f T.d__law_free.fd p__law_free (liftS K (XR0 K mg) sp__law_free) := by
  refine fn_ok (is := m__law_free) T.d__law_free.F sc__law_free (fun _ _ _ h => h.1) (fun cdv A outer s H E W hr hu tk po => ?_) fun _ _ _ h => h.2
  have nd := sc__law_free.nd
  exact (lss_one (ls_ret (le_call (ok__law_ways T) tk (hr.mono (by decide)) (by rfl) T.d__law_ways.g T.d__law_ways.F.kp (b__law_ways T) (la_cons (le_call (ok__law_rows T) tk (hr.mono (by decide)) (by rfl) T.d__law_rows.g T.d__law_rows.F.kp (b__law_rows T) (la_cons (le_var 0) la_nil)) (la_cons (le_len (by rfl) T.b_len (le_ix (le_var 0).O (le_int).O).O) la_nil)))))

theorem sc__law_driven : FnScope N__law_driven p__law_driven (defScope s__law_driven) := ⟨rfl, rfl, rfl, by decide +kernel, rfl, by decide +kernel, by decide +kernel⟩
theorem b__law_driven (T : Txt P K mg) : Binds K T.d__law_driven.fd p__law_driven [] := T.d__law_driven.F.binds fun _ _ _ _ _ _ us hl => match us, hl with | [_], _ => rfl
theorem ok__law_driven (T : Txt P K mg) : FnOk P w K mg base (L2.CX P w) 7 T.d__law_driven.f T.d__law_driven.fd p__law_driven (liftS K (XR0 K mg) sp__law_driven) := by
  refine fn_ok (is := m__law_driven) T.d__law_driven.F sc__law_driven (fun _ _ _ h => h.1) (fun cdv A outer s H E W hr hu tk po => ?_) fun _ _ _ h => h.2
  have nd := sc__law_driven.nd
  exact (lss_cons (ls_set 1 nd (le_call (ok__law_machine T) tk (hr.mono (by decide)) (by rfl) T.d__law_machine.g T.d__law_machine.F.kp (b__law_machine T) (la_cons (le_var 0) (la_cons le_int la_nil))).x)
      (lss_cons (ls_par3 2 3 4 rfl nd (by decide) (by decide) (by decide) (lxa_cons ((ln_comp (ts := [7, 8]) (own := [("name", 7), ("kind", 8)]) rfl nd (lio_of (le_ix (le_var 1).O (le_int).O).O) (blkOk_by (own := [("name", 7), ("kind", 8)]) (by show blkC N__law_driven (defScope s__law_driven) _ _ = true; decide +kernel)) rfl (fun _ _ _ _ _ => (lg_tup (n := 2) rfl (lgs_cons (lg_name 7 nd) (lgs_cons (lg_name 8 nd) lgs_nil)))) (fun _ _ _ _ _ => lts_nil) (fun _ _ _ _ _ => (le_var 7)))).E.x (lxa_cons (le_call (ok__law_free T) tk (hr.mono (by decide)) (by rfl) T.d__law_free.g T.d__law_free.F.kp (b__law_free T) (la_cons (le_var 1) la_nil)).x (lxa_cons (ln_lst la_nil).x lxa_nil))))
      (lss_cons (ls_for po rfl (li_r1 (by rfl) T.b_range (la_cons (le_len (by rfl) T.b_len (le_var 2).O) la_nil)) (lg_name 5 nd) (lss_one (ls_if (lt_cmp c_gt (le_call (ok__law_rank T) tk (hr.mono (by decide)) (by rfl) T.d__law_rank.g T.d__law_rank.F.kp (b__law_rank T) (la_cons ((ln_comp (ts := [9]) (own := [("way", 9)]) rfl nd (lio_of (le_var 3).O) (blkOk_by (own := [("way", 9)]) (by show blkC N__law_driven (defScope s__law_driven) _ _ = true; decide +kernel)) rfl (fun _ _ _ _ _ => (lg_name 9 nd)) (fun _ _ _ _ _ => lts_nil) (fun _ _ _ _ _ => ((ln_comp (ts := [10]) (own := [("j", 10)]) rfl nd (li_r1 (by rfl) T.b_range (la_cons (le_add (le_var 5).O (le_int).O) la_nil)).O (blkOk_by (own := [("j", 10)]) (by show blkC N__law_driven (relS _ (defScope s__law_driven)) _ _ = true; decide +kernel)) rfl (fun _ _ _ _ _ => (lg_name 10 nd)) (fun _ _ _ _ _ => lts_nil) (fun _ _ _ _ _ => (le_ix (le_var 9).O (le_var 10).O)))).E))).E (la_cons (le_add (le_var 5).O (le_int).O) la_nil))).O (le_call (ok__law_rank T) tk (hr.mono (by decide)) (by rfl) T.d__law_rank.g T.d__law_rank.F.kp (b__law_rank T) (la_cons ((ln_comp (ts := [9]) (own := [("way", 9)]) rfl nd (lio_of (le_var 3).O) (blkOk_by (own := [("way", 9)]) (by show blkC N__law_driven (defScope s__law_driven) _ _ = true; decide +kernel)) rfl (fun _ _ _ _ _ => (lg_name 9 nd)) (fun _ _ _ _ _ => lts_nil) (fun _ _ _ _ _ => ((ln_comp (ts := [10]) (own := [("j", 10)]) rfl nd (li_r1 (by rfl) T.b_range (la_cons (le_var 5) la_nil)).O (blkOk_by (own := [("j", 10)]) (by show blkC N__law_driven (relS _ (defScope s__law_driven)) _ _ = true; decide +kernel)) rfl (fun _ _ _ _ _ => (lg_name 10 nd)) (fun _ _ _ _ _ => lts_nil) (fun _ _ _ _ _ => (le_ix (le_var 9).O (le_var 10).O)))).E))).E (la_cons (le_var 5) la_nil))).O) (lss_one (ls_app 4 (le_tup (la_cons (le_ix (le_var 2).O (le_var 5).O) (la_cons (le_call (ok__law_fr T) tk (hr.mono (by decide)) (by rfl) T.d__law_fr.g T.d__law_fr.F.kp (b__law_fr T) (la_cons (le_sub (le_call (ok__law_take T) tk (hr.mono (by decide)) (by rfl) T.d__law_take.g T.d__law_take.F.kp (b__law_take T) (la_cons (le_var 0) (la_cons le_int la_nil))).O (le_int).O) (la_cons (le_add (le_int).O (le_call (ok__law_take T) tk (hr.mono (by decide)) (by rfl) T.d__law_take.g T.d__law_take.F.kp (b__law_take T) (la_cons (le_var 0) (la_cons le_int la_nil))).O) la_nil))) la_nil))))) lss_nil)))
      (lss_cons (ls_set 6 nd (le_tupC (by rfl) T.b_tuple ((ln_comp (ts := [7]) (own := [("name", 7)]) rfl nd (lio_of (le_var 2).O) (blkOk_by (own := [("name", 7)]) (by show blkC N__law_driven (defScope s__law_driven) _ _ = true; decide +kernel)) rfl (fun _ _ _ _ _ => (lg_name 7 nd)) (fun _ _ _ _ _ => (lts_one (lt_cmp (c_eq hu) (le_call (ok__law_take T) takes0 (hr.mono (by decide)) (by rfl) T.d__law_take.g T.d__law_take.F.kp (b__law_take T) (la_cons (le_var 0) (la_cons le_int la_nil))).O (le_int).O))) (fun _ _ _ _ _ => (le_tup (la_cons (le_var 7) (la_cons (le_call (ok__law_fr T) takes0 (hr.mono (by decide)) (by rfl) T.d__law_fr.g T.d__law_fr.F.kp (b__law_fr T) (la_cons (le_sub (le_call (ok__law_take T) takes0 (hr.mono (by decide)) (by rfl) T.d__law_take.g T.d__law_take.F.kp (b__law_take T) (la_cons (le_var 0) (la_cons le_int la_nil))).O (le_int).O) (la_cons (le_add (le_int).O (le_call (ok__law_take T) takes0 (hr.mono (by decide)) (by rfl) T.d__law_take.g T.d__law_take.F.kp (b__law_take T) (la_cons (le_var 0) (la_cons le_int la_nil))).O) la_nil))) la_nil)))))).E.O).x)
      (lss_one (ls_ret (le_catT (le_slD (le_var 1).O lp_no (lp_at le_int)).O (le_tup (la_cons (le_if (lt_cmp c_gt (le_call (ok__law_take T) tk (hr.mono (by decide)) (by rfl) T.d__law_take.g T.d__law_take.F.kp (b__law_take T) (la_cons (le_var 0) (la_cons le_int la_nil))).O (le_int).O) (le_tupC (by rfl) T.b_tuple (lo_var 4)) (le_ix (le_var 1).O (le_int).O)) (la_cons (le_var 6) la_nil))).O)))))))

theorem sc__law_speeds : FnScope N__law_speeds p__law_speeds (defScope s__law_speeds) := ⟨rfl, rfl, rfl, by decide +kernel, rfl, by decide +kernel, by decide +kernel⟩
theorem b__law_speeds (T : Txt P K mg) : Binds K T.d__law_speeds.fd p__law_speeds [] := T.d__law_speeds.F.binds fun _ _ _ _ _ _ us hl => match us, hl with | [_], _ => rfl
theorem ok__law_speeds (T : Txt P K mg) : FnOk P w K mg base (L2.CX P w) 5 T.d__law_speeds.f T.d__law_speeds.fd p__law_speeds (liftS K (XR0 K mg) sp__law_speeds) := by
  refine fn_ok (is := m__law_speeds) T.d__law_speeds.F sc__law_speeds (fun _ _ _ h => h.1) (fun cdv A outer s H E W hr hu tk po => ?_) fun _ _ _ h => h.2
  have nd := sc__law_speeds.nd
  exact (lss_cons (ls_setLcE 1 (ts := [5, 9]) (own := [("name", 5), ("kind", 9)]) rfl nd (lio_of (le_ix (le_var 0).O (le_int).O).O) (blkOk_by (own := [("name", 5), ("kind", 9)]) (by show blkC N__law_speeds (defScope s__law_speeds) _ _ = true; decide +kernel)) rfl (fun _ _ _ _ _ => (lg_tup (n := 2) rfl (lgs_cons (lg_name 5 nd) (lgs_cons (lg_name 9 nd) lgs_nil)))) (fun _ _ _ _ _ => lts_nil) (fun _ _ _ _ _ => (le_var 5)))
      (lss_cons (ls_many rfl (lxa_cons (le_call (ok__law_rows T) tk (hr.mono (by decide)) (by rfl) T.d__law_rows.g T.d__law_rows.F.kp (b__law_rows T) (la_cons (le_var 0) la_nil)).x (lxa_cons ((ln_rep ((ln_lst (la_cons (le_tup (la_cons le_int (la_cons le_int la_nil))) la_nil))).E.O (le_len (by rfl) T.b_len (le_ix (le_var 0).O (le_int).O).O).O)).E.x (lxa_cons (le_len (by rfl) T.b_len (le_var 1).O).x lxa_nil))) (lnm_cons 2 nd (lnm_cons 3 nd (lnm_cons 4 nd lnm_nil))))
      (lss_cons (ls_for po rfl (li_of (le_ix (le_var 0).O (le_int).O)) (lg_tup (n := 2) rfl (lgs_cons (lg_name 5 nd) (lgs_cons (lg_name 6 nd) lgs_nil))) (lss_cons (ls_set 2 nd ((ln_cat (le_var 2).O ((ln_lst (la_cons (le_tupC (by rfl) T.b_tuple ((ln_comp (ts := [11]) (own := [("one", 11)]) rfl nd (lio_of (le_var 1).O) (blkOk_by (own := [("one", 11)]) (by show blkC N__law_speeds (defScope s__law_speeds) _ _ = true; decide +kernel)) rfl (fun _ _ _ _ _ => (lg_name 11 nd)) (fun _ _ _ _ _ => lts_nil) (fun _ _ _ _ _ => (le_if (lt_cmp (c_eq hu) (le_var 11).O (le_var 5).O) (le_tup (la_cons le_int (la_cons le_int la_nil))) (le_tup (la_cons le_int (la_cons le_int la_nil))))))).E.O) la_nil))).E.O)).E.x)
      (lss_one (ls_set 3 nd ((ln_cat (le_var 3).O ((ln_lst (la_cons (le_var 6) la_nil))).E.O)).E.x))))
      (lss_cons (ls_asg (le_call (ok__law_put_out T) tk (hr.mono (by decide)) (by rfl) T.d__law_put_out.g T.d__law_put_out.F.kp (b__law_put_out T) (la_cons ((ln_comp (ts := [10]) (own := [("k", 10)]) rfl nd (li_r1 (by rfl) T.b_range (la_cons (le_len (by rfl) T.b_len (le_var 2).O) la_nil)).O (blkOk_by (own := [("k", 10)]) (by show blkC N__law_speeds (defScope s__law_speeds) _ _ = true; decide +kernel)) rfl (fun _ _ _ _ _ => (lg_name 10 nd)) (fun _ _ _ _ _ => lts_nil) (fun _ _ _ _ _ => ((ln_cat ((ln_lstC (by rfl) T.b_list (le_ix (le_var 2).O (le_var 10).O).O)).E.O ((ln_lst (la_cons (le_ix (le_var 3).O (le_var 10).O) la_nil))).E.O)).E))).E (la_cons (le_add (le_var 4).O (le_int).O) la_nil))) (ltg_tup (n := 2) rfl (ltgs_cons (ltg_name 7 nd) (ltgs_cons (ltg_name 8 nd) ltgs_nil))))
      (lss_cons (ls_if (lt_cmp (c_in hu) (le_var 4).O (le_var 8).O) (lss_one (ls_ret le_str)) lss_nil)
      (lss_one (ls_ret (le_if (lt_cmp (c_eq hu) (le_len (by rfl) T.b_len (le_var 8).O).O (le_var 4).O) (le_tupC (by rfl) T.b_tuple ((ln_comp (ts := [10]) (own := [("k", 10)]) rfl nd (li_r1 (by rfl) T.b_range (la_cons (le_var 4) la_nil)).O (blkOk_by (own := [("k", 10)]) (by show blkC N__law_speeds (defScope s__law_speeds) _ _ = true; decide +kernel)) rfl (fun _ _ _ _ _ => (lg_name 10 nd)) (fun _ _ _ _ _ => lts_nil) (fun _ _ _ _ _ => (le_ix (le_ix (le_var 7).O (le_var 10).O).O (le_var 4).O)))).E.O) le_str))))))))

theorem sc__law_word : FnScope N__law_word p__law_word (defScope s__law_word) := ⟨rfl, rfl, rfl, by decide +kernel, rfl, by decide +kernel, by decide +kernel⟩
theorem b__law_word (T : Txt P K mg) : Binds K T.d__law_word.fd p__law_word [] := T.d__law_word.F.binds fun _ _ _ _ _ _ us hl => match us, hl with | [_, _], _ => rfl
theorem ok__law_word (T : Txt P K mg) : FnOk P w K mg base (L2.CX P w) 15 T.d__law_word.f T.d__law_word.fd p__law_word (liftS K (XR0 K mg) sp__law_word) := by
  refine fn_ok (is := m__law_word) T.d__law_word.F sc__law_word (fun _ _ _ h => h.1) (fun cdv A outer s H E W hr hu tk po => ?_) fun _ _ _ h => h.2
  have nd := sc__law_word.nd
  exact (lss_one (ls_tryW 2 rfl rfl nd tk T.mis.Z T.mis.hm T.mis.x2 (by rfl) (fun W' pn xe tk po => (lss_cons (ls_if (lt_cmp (c_eq hu) (le_var 0).O (le_int).O) (lss_one (ls_expr (le_call (ok_moving T) tk (hr.mono (by decide)) (by rfl) T.d_moving.g T.d_moving.F.kp (b_moving T) (la_cons (le_var 1) la_nil)))) (lss_one (ls_if (lt_cmp (c_eq hu) (le_var 0).O (le_int).O) (lss_one (ls_expr (le_call (ok_pushes T) tk (hr.mono (by decide)) (by rfl) T.d_pushes.g T.d_pushes.F.kp (b_pushes T) (la_cons (le_var 1) la_nil)))) (lss_one (ls_if (lt_cmp (c_eq hu) (le_var 0).O (le_int).O) (lss_one (ls_expr (le_call (ok_circling T) tk (hr.mono (by decide)) (by rfl) T.d_circling.g T.d_circling.F.kp (b_circling T) (la_cons (le_var 1) la_nil)))) (lss_one (ls_expr (le_call (ok_is_balanced T) tk (hr.mono (by decide)) (by rfl) T.d_is_balanced.g T.d_is_balanced.F.kp (b_is_balanced T) (la_cons (le_var 1) (la_cons le_non la_nil))))))))))
      (lss_one (ls_ret le_str))))))

theorem sc__law_rests : FnScope N__law_rests p__law_rests (defScope s__law_rests) := ⟨rfl, rfl, rfl, by decide +kernel, rfl, by decide +kernel, by decide +kernel⟩
theorem b__law_rests (T : Txt P K mg) : Binds K T.d__law_rests.fd p__law_rests [] := T.d__law_rests.F.binds fun _ _ _ _ _ _ us hl => match us, hl with | [_, _, _], _ => rfl
theorem ok__law_rests (T : Txt P K mg) : FnOk P w K mg base (L2.CX P w) 4 T.d__law_rests.f T.d__law_rests.fd p__law_rests (liftS K (XR0 K mg) sp__law_rests) := by
  refine fn_ok (is := m__law_rests) T.d__law_rests.F sc__law_rests (fun _ _ _ h => h.1) (fun cdv A outer s H E W hr hu tk po => ?_) fun _ _ _ h => h.2
  have nd := sc__law_rests.nd
  exact (lss_one (ls_ret ((ln_comp (ts := [3]) (own := [("j", 3)]) rfl nd (li_r1 (by rfl) T.b_range (la_cons (le_len (by rfl) T.b_len (le_var 1).O) la_nil)).O (blkOk_by (own := [("j", 3)]) (by show blkC N__law_rests (defScope s__law_rests) _ _ = true; decide +kernel)) rfl (fun _ _ _ _ _ => (lg_name 3 nd)) (fun _ _ _ _ _ => lts_nil) (fun _ _ _ _ _ => (le_call (ok__law_add T) takes0 (hr.mono (by decide)) (by rfl) T.d__law_add.g T.d__law_add.F.kp (b__law_add T) (la_cons (le_ix (le_var 1).O (le_var 3).O) (la_cons (le_call (ok__law_sum T) takes0 (hr.mono (by decide)) (by rfl) T.d__law_sum.g T.d__law_sum.F.kp (b__law_sum T) (la_cons ((ln_comp (ts := [4]) (own := [("k", 4)]) rfl nd (li_r1 (by rfl) T.b_range (la_cons (le_len (by rfl) T.b_len (le_var 0).O) la_nil)).O (blkOk_by (own := [("k", 4)]) (by show blkC N__law_rests (relS _ (defScope s__law_rests)) _ _ = true; decide +kernel)) rfl (fun _ _ _ _ _ => (lg_name 4 nd)) (fun _ _ _ _ _ => lts_nil) (fun _ _ _ _ _ => (le_call (ok__law_mul T) takes0 (hr.mono (by decide)) (by rfl) T.d__law_mul.g T.d__law_mul.F.kp (b__law_mul T) (la_cons (le_ix (le_var 2).O (le_var 4).O) (la_cons (le_ix (le_ix (le_var 0).O (le_var 4).O).O (le_var 3).O) la_nil)))))).E la_nil)) la_nil)))))).E))

theorem sc__law_sure_hold : FnScope N__law_sure_hold p__law_sure_hold (defScope s__law_sure_hold) := ⟨rfl, rfl, rfl, by decide +kernel, rfl, by decide +kernel, by decide +kernel⟩
theorem b__law_sure_hold (T : Txt P K mg) : Binds K T.d__law_sure_hold.fd p__law_sure_hold [] := T.d__law_sure_hold.F.binds fun _ _ _ _ _ _ us hl => match us, hl with | [_, _, _, _, _], _ => rfl
theorem ok__law_sure_hold (T : Txt P K mg) : FnOk P w K mg base (L2.CX P w) 15 T.d__law_sure_hold.f T.d__law_sure_hold.fd p__law_sure_hold (liftS K (XR0 K mg) sp__law_sure_hold) := by
  refine fn_ok (is := m__law_sure_hold) T.d__law_sure_hold.F sc__law_sure_hold (fun _ _ _ h => h.1) (fun cdv A outer s H E W hr hu tk po => ?_) fun _ _ _ h => h.2
  have nd := sc__law_sure_hold.nd
  exact (lss_cons (ls_many rfl (lxa_cons ((ln_comp (ts := [20, 21]) (own := [("name", 20), ("kind", 21)]) rfl nd (lio_of (le_ix (le_var 1).O (le_int).O).O) (blkOk_by (own := [("name", 20), ("kind", 21)]) (by show blkC N__law_sure_hold (defScope s__law_sure_hold) _ _ = true; decide +kernel)) rfl (fun _ _ _ _ _ => (lg_tup (n := 2) rfl (lgs_cons (lg_name 20 nd) (lgs_cons (lg_name 21 nd) lgs_nil)))) (fun _ _ _ _ _ => lts_nil) (fun _ _ _ _ _ => (le_var 20)))).E.x (lxa_cons (le_len (by rfl) T.b_len (le_ix (le_var 1).O (le_int).O).O).x lxa_nil)) (lnm_cons 5 nd (lnm_cons 6 nd lnm_nil)))
      (lss_cons (ls_asg (le_call (ok_pushes T) tk (hr.mono (by decide)) (by rfl) T.d_pushes.g T.d_pushes.F.kp (b_pushes T) (la_cons (le_var 1) la_nil)) (ltg_tup (n := 2) rfl (ltgs_cons (ltg_name 7 nd) (ltgs_cons (ltg_name 8 nd) ltgs_nil))))
      (lss_cons (ls_set 9 nd (le_catT (le_tupC (by rfl) T.b_tuple (le_var 7).O).O (le_tupC (by rfl) T.b_tuple (le_var 8).O).O).x)
      (lss_cons (ls_if (lw_or (lt_cmp (c_ne hu) (le_len (by rfl) T.b_len (le_var 7).O).O (le_var 6).O) (lw_or (lt_cmp (c_ne hu) (le_len (by rfl) T.b_len (le_var 8).O).O (le_len (by rfl) T.b_len (le_ix (le_var 1).O (le_int).O).O).O) (lw_or1 (lt_cmp c_gt (le_len (by rfl) T.b_len ((ln_comp (ts := [22]) (own := [("one", 22)]) rfl nd (lio_of (le_call (ok__law_rests T) tk (hr.mono (by decide)) (by rfl) T.d__law_rests.g T.d__law_rests.F.kp (b__law_rests T) (la_cons (le_var 3) (la_cons (le_var 4) (la_cons (le_var 9) la_nil)))).O) (blkOk_by (own := [("one", 22)]) (by show blkC N__law_sure_hold (defScope s__law_sure_hold) _ _ = true; decide +kernel)) rfl (fun _ _ _ _ _ => (lg_name 22 nd)) (fun _ _ _ _ _ => (lts_one (lt_cmp (c_ne hu) (le_ix (le_var 22).O (le_int).O).O (le_int).O))) (fun _ _ _ _ _ => (le_var 22)))).E.O).O (le_int).O)))).t (lss_one (ls_ret le_bl)) lss_nil)
      (lss_cons (ls_if (lt_cmp c_isnot (le_call (ok_is_balanced T) tk (hr.mono (by decide)) (by rfl) T.d_is_balanced.g T.d_is_balanced.F.kp (b_is_balanced T) (la_cons (le_var 1) (la_cons (le_tup (la_cons (le_tupC (by rfl) T.b_tuple (le_var 7).O) (la_cons (le_tupC (by rfl) T.b_tuple (le_var 8).O) la_nil))) la_nil))).O (le_bl).O) (lss_one (ls_ret le_bl)) lss_nil)
      (lss_cons (ls_setLcE 10 (ts := [17]) (own := [("k", 17)]) rfl nd (li_r1 (by rfl) T.b_range (la_cons (le_var 6) la_nil)).O (blkOk_by (own := [("k", 17)]) (by show blkC N__law_sure_hold (defScope s__law_sure_hold) _ _ = true; decide +kernel)) rfl (fun _ _ _ _ _ => (lg_name 17 nd)) (fun _ _ _ _ _ => lts_nil) (fun _ _ _ _ _ => (le_tupC (by rfl) T.b_tuple ((ln_comp (ts := [13]) (own := [("j", 13)]) rfl nd (li_r1 (by rfl) T.b_range (la_cons (le_len (by rfl) T.b_len (le_var 5).O) la_nil)).O (blkOk_by (own := [("j", 13)]) (by show blkC N__law_sure_hold (relS _ (defScope s__law_sure_hold)) _ _ = true; decide +kernel)) rfl (fun _ _ _ _ _ => (lg_name 13 nd)) (fun _ _ _ _ _ => lts_nil) (fun _ _ _ _ _ => (le_call (ok__law_mul T) takes0 (hr.mono (by decide)) (by rfl) T.d__law_mul.g T.d__law_mul.F.kp (b__law_mul T) (la_cons (le_call (ok__law_mul T) takes0 (hr.mono (by decide)) (by rfl) T.d__law_mul.g T.d__law_mul.F.kp (b__law_mul T) (la_cons (le_ix (le_var 9).O (le_var 17).O) (la_cons (le_ix (le_ix (le_var 3).O (le_var 17).O).O (le_var 13).O) la_nil))) (la_cons (le_ix (le_var 2).O (le_var 13).O) la_nil)))))).E.O)))
      (lss_cons (ls_set 11 nd (le_tupC (by rfl) T.b_tuple ((ln_comp (ts := [17]) (own := [("k", 17)]) rfl nd (li_r1 (by rfl) T.b_range (la_cons (le_len (by rfl) T.b_len (le_ix (le_var 1).O (le_int).O).O) la_nil)).O (blkOk_by (own := [("k", 17)]) (by show blkC N__law_sure_hold (defScope s__law_sure_hold) _ _ = true; decide +kernel)) rfl (fun _ _ _ _ _ => (lg_name 17 nd)) (fun _ _ _ _ _ => lts_nil) (fun _ _ _ _ _ => (le_call (ok__law_mul T) takes0 (hr.mono (by decide)) (by rfl) T.d__law_mul.g T.d__law_mul.F.kp (b__law_mul T) (la_cons (le_ix (le_var 9).O (le_add (le_var 6).O (le_var 17).O).O) (la_cons (le_ix (le_var 2).O (le_lidx hu (le_var 5).O (le_ix (le_ix (le_ix (le_var 1).O (le_int).O).O (le_var 17).O).O (le_int).O)).O) la_nil)))))).E.O).x)
      (lss_cons (ls_if (lw_or (lt_cmp (c_ne hu) ((ln_comp (ts := [19]) (own := [("row", 19)]) rfl nd (lio_of (le_call (ok_part_flows T) tk (hr.mono (by decide)) (by rfl) T.d_part_flows.g T.d_part_flows.F.kp (b_part_flows T) (la_cons (le_var 1) la_nil)).O) (blkOk_by (own := [("row", 19)]) (by show blkC N__law_sure_hold (defScope s__law_sure_hold) _ _ = true; decide +kernel)) rfl (fun _ _ _ _ _ => (lg_name 19 nd)) (fun _ _ _ _ _ => lts_nil) (fun _ _ _ _ _ => (le_tupC (by rfl) T.b_tuple (le_var 19).O)))).E.O (le_var 10).O) (lw_or1 (lt_cmp (c_ne hu) (le_tupC (by rfl) T.b_tuple (le_call (ok_drive_flows T) tk (hr.mono (by decide)) (by rfl) T.d_drive_flows.g T.d_drive_flows.F.kp (b_drive_flows T) (la_cons (le_var 1) la_nil)).O).O (le_var 11).O))).t (lss_one (ls_ret le_bl)) lss_nil)
      (lss_cons (ls_if (lt_cmp c_gt (le_len (by rfl) T.b_len ((ln_comp (ts := [19]) (own := [("row", 19)]) rfl nd (lio_of (le_var 10).O) (blkOk_by (own := [("row", 19)]) (by show blkC N__law_sure_hold (defScope s__law_sure_hold) _ _ = true; decide +kernel)) rfl (fun _ _ _ _ _ => (lg_name 19 nd)) (fun _ _ _ _ _ => (lts_one (lt_cmp (c_ne hu) (le_ix (le_call (ok__law_sum T) takes0 (hr.mono (by decide)) (by rfl) T.d__law_sum.g T.d__law_sum.F.kp (b__law_sum T) (la_cons ((ln_lstC (by rfl) T.b_list (le_var 19).O)).E la_nil)).O (le_int).O).O (le_int).O))) (fun _ _ _ _ _ => (le_var 19)))).E.O).O (le_int).O) (lss_one (ls_ret le_bl)) lss_nil)
      (lss_cons (ls_set 12 nd (le_tupC (by rfl) T.b_tuple ((ln_comp (ts := [13]) (own := [("j", 13)]) rfl nd (li_r1 (by rfl) T.b_range (la_cons (le_len (by rfl) T.b_len (le_var 5).O) la_nil)).O (blkOk_by (own := [("j", 13)]) (by show blkC N__law_sure_hold (defScope s__law_sure_hold) _ _ = true; decide +kernel)) rfl (fun _ _ _ _ _ => (lg_name 13 nd)) (fun _ _ _ _ _ => lts_nil) (fun _ _ _ _ _ => (le_call (ok__law_mul T) takes0 (hr.mono (by decide)) (by rfl) T.d__law_mul.g T.d__law_mul.F.kp (b__law_mul T) (la_cons (le_ix (le_var 4).O (le_var 13).O) (la_cons (le_ix (le_var 2).O (le_var 13).O) la_nil)))))).E.O).x)
      (lss_cons (ls_if (lw_or (lt_cmp (c_ne hu) (le_tupC (by rfl) T.b_tuple (le_call (ok_load_flows T) tk (hr.mono (by decide)) (by rfl) T.d_load_flows.g T.d_load_flows.F.kp (b_load_flows T) (la_cons (le_var 1) la_nil)).O).O (le_var 12).O) (lw_or1 (lt_cmp (c_ne hu) (le_ix (le_call (ok__law_sum T) tk (hr.mono (by decide)) (by rfl) T.d__law_sum.g T.d__law_sum.F.kp (b__law_sum T) (la_cons ((ln_cat ((ln_lstC (by rfl) T.b_list (le_var 11).O)).E.O ((ln_lstC (by rfl) T.b_list (le_var 12).O)).E.O)).E la_nil)).O (le_int).O).O (le_int).O))).t (lss_one (ls_ret le_bl)) lss_nil)
      (lss_cons (ls_for po rfl (li_r1 (by rfl) T.b_range (la_cons (le_len (by rfl) T.b_len (le_var 5).O) la_nil)) (lg_name 13 nd) (lss_cons (ls_setLcE 14 (ts := [17]) (own := [("k", 17)]) rfl nd (li_r1 (by rfl) T.b_range (la_cons (le_len (by rfl) T.b_len (le_var 11).O) la_nil)).O (blkOk_by (own := [("k", 17)]) (by show blkC N__law_sure_hold (defScope s__law_sure_hold) _ _ = true; decide +kernel)) rfl (fun _ _ _ _ _ => (lg_name 17 nd)) (fun _ _ _ _ _ => (lts_one (lt_cmp (c_eq hu) (le_ix (le_ix (le_ix (le_var 1).O (le_int).O).O (le_var 17).O).O (le_int).O).O (le_ix (le_var 5).O (le_var 13).O).O))) (fun _ _ _ _ _ => (le_ix (le_var 11).O (le_var 17).O)))
      (lss_one (ls_if (lt_cmp (c_ne hu) (le_ix (le_call (ok__law_sum T) tk (hr.mono (by decide)) (by rfl) T.d__law_sum.g T.d__law_sum.F.kp (b__law_sum T) (la_cons ((ln_cat ((ln_cat ((ln_comp (ts := [19]) (own := [("row", 19)]) rfl nd (lio_of (le_var 10).O) (blkOk_by (own := [("row", 19)]) (by show blkC N__law_sure_hold (defScope s__law_sure_hold) _ _ = true; decide +kernel)) rfl (fun _ _ _ _ _ => (lg_name 19 nd)) (fun _ _ _ _ _ => lts_nil) (fun _ _ _ _ _ => (le_ix (le_var 19).O (le_var 13).O)))).E.O ((ln_lst (la_cons (le_ix (le_var 12).O (le_var 13).O) la_nil))).E.O)).E.O (le_var 14).O)).E la_nil)).O (le_int).O).O (le_int).O) (lss_one (ls_ret le_bl)) lss_nil))))
      (lss_cons (ls_set 15 nd ((ln_comp (ts := [19]) (own := [("row", 19)]) rfl nd (lio_of (le_var 10).O) (blkOk_by (own := [("row", 19)]) (by show blkC N__law_sure_hold (defScope s__law_sure_hold) _ _ = true; decide +kernel)) rfl (fun _ _ _ _ _ => (lg_name 19 nd)) (fun _ _ _ _ _ => lts_nil) (fun _ _ _ _ _ => (le_call (ok__law_sum T) takes0 (hr.mono (by decide)) (by rfl) T.d__law_sum.g T.d__law_sum.F.kp (b__law_sum T) (la_cons ((ln_comp (ts := [22]) (own := [("one", 22)]) rfl nd (lio_of (le_var 19).O) (blkOk_by (own := [("one", 22)]) (by show blkC N__law_sure_hold (relS _ (defScope s__law_sure_hold)) _ _ = true; decide +kernel)) rfl (fun _ _ _ _ _ => (lg_name 22 nd)) (fun _ _ _ _ _ => (lts_one (lt_cmp c_gt (le_ix (le_var 22).O (le_int).O).O (le_int).O))) (fun _ _ _ _ _ => (le_var 22)))).E la_nil))))).E.x)
      (lss_cons (ls_set 16 nd (le_call (ok__law_sum T) tk (hr.mono (by decide)) (by rfl) T.d__law_sum.g T.d__law_sum.F.kp (b__law_sum T) (la_cons ((ln_comp (ts := [22]) (own := [("one", 22)]) rfl nd (lio_of (le_catT (le_var 11).O (le_var 12).O).O) (blkOk_by (own := [("one", 22)]) (by show blkC N__law_sure_hold (defScope s__law_sure_hold) _ _ = true; decide +kernel)) rfl (fun _ _ _ _ _ => (lg_name 22 nd)) (fun _ _ _ _ _ => (lts_one (lt_cmp c_gt (le_ix (le_var 22).O (le_int).O).O (le_int).O))) (fun _ _ _ _ _ => (le_var 22)))).E la_nil)).x)
      (lss_cons (ls_if (lw_or (lt_cmp (c_ne hu) ((ln_lstC (by rfl) T.b_list (le_call (ok_passed T) tk (hr.mono (by decide)) (by rfl) T.d_passed.g T.d_passed.F.kp (b_passed T) (la_cons (le_var 1) la_nil)).O)).E.O (le_var 15).O) (lw_or (lt_cmp (c_ne hu) (le_call (ok_put_in T) tk (hr.mono (by decide)) (by rfl) T.d_put_in.g T.d_put_in.F.kp (b_put_in T) (la_cons (le_var 1) la_nil)).O (le_var 16).O) (lw_or1 (lt_cmp (c_ne hu) ((ln_lstC (by rfl) T.b_list (le_call (ok_circling T) tk (hr.mono (by decide)) (by rfl) T.d_circling.g T.d_circling.F.kp (b_circling T) (la_cons (le_var 1) la_nil)).O)).E.O ((ln_comp (ts := [17]) (own := [("k", 17)]) rfl nd (li_r1 (by rfl) T.b_range (la_cons (le_var 6) la_nil)).O (blkOk_by (own := [("k", 17)]) (by show blkC N__law_sure_hold (defScope s__law_sure_hold) _ _ = true; decide +kernel)) rfl (fun _ _ _ _ _ => (lg_name 17 nd)) (fun _ _ _ _ _ => (lts_one (lt_val (le_call (ok__law_less T) takes0 (hr.mono (by decide)) (by rfl) T.d__law_less.g T.d__law_less.F.kp (b__law_less T) (la_cons (le_var 16) (la_cons (le_ix (le_var 15).O (le_var 17).O) la_nil)))))) (fun _ _ _ _ _ => (le_var 17)))).E.O)))).t (lss_one (ls_ret le_bl)) lss_nil)
      (lss_cons (ls_for po rfl (li_r1 (by rfl) T.b_range (la_cons (le_len (by rfl) T.b_len (le_var 9).O) la_nil)) (lg_name 17 nd) (lss_cons (ls_set 18 nd (le_catT (le_catT (le_slT (le_var 9).O lp_no (lp_at (le_var 17))).O (le_tup (la_cons (le_call (ok__law_add T) tk (hr.mono (by decide)) (by rfl) T.d__law_add.g T.d__law_add.F.kp (b__law_add T) (la_cons (le_ix (le_var 9).O (le_var 17).O) (la_cons (le_tup (la_cons le_int (la_cons le_int la_nil))) la_nil))) la_nil)).O).O (le_slT (le_var 9).O (lp_at (le_add (le_var 17).O (le_int).O)) lp_no).O).x)
      (lss_one (ls_if (lt_cmp c_isnot (le_call (ok_is_balanced T) tk (hr.mono (by decide)) (by rfl) T.d_is_balanced.g T.d_is_balanced.F.kp (b_is_balanced T) (la_cons (le_var 1) (la_cons (le_tup (la_cons (le_slT (le_var 18).O lp_no (lp_at (le_var 6))) (la_cons (le_slT (le_var 18).O (lp_at (le_var 6)) lp_no) la_nil))) la_nil))).O (le_bl).O) (lss_one (ls_ret le_bl)) lss_nil))))
      (lss_one (ls_ret le_bl))))))))))))))))))

theorem sc_law : FnScope N_law p_law (defScope s_law) := ⟨rfl, rfl, rfl, by decide +kernel, rfl, by decide +kernel, by decide +kernel⟩
theorem rest_law (T : Txt P K mg) (cdv : Value) (A : Around) (outer : List Env) (s : Shared) (H : Hp) (E : XK) (W : WX) (hr : Room 15 (A.deeper (PyProof.Rows.envOfC "law" (defScope s_law) s.heap.objs.size T.d_law.f cdv))) (hu : (A.deeper (PyProof.Rows.envOfC "law" (defScope s_law) s.heap.objs.size T.d_law.f cdv)).units + 65 < cLine)
    (tk : Takes (cxOf (L2.CX P w) P w K mg base N_law "law" (defScope s_law) T.d_law.f cdv A outer s H E) W) (po : PassesOwn (model P w) (A.deeper (PyProof.Rows.envOfC "law" (defScope s_law) s.heap.objs.size T.d_law.f cdv)) (PyProof.Rows.envOfC "law" (defScope s_law) s.heap.objs.size T.d_law.f cdv) (cxOf (L2.CX P w) P w K mg base N_law "law" (defScope s_law) T.d_law.f cdv A outer s H E).xe) :
    LSs (XR0 K mg) (cxOf (L2.CX P w) P w K mg base N_law "law" (defScope s_law) T.d_law.f cdv A outer s H E) W (defBody s_law).tail m_law := by
  have nd := sc_law.nd
  exact (lss_cons (ls_for po rfl (li_r1 (by rfl) T.b_range (la_cons le_int la_nil)) (lg_name 2 nd) (lss_cons (ls_set 3 nd (le_call (ok__law_driven T) tk (hr.mono (by decide)) (by rfl) T.d__law_driven.g T.d__law_driven.F.kp (b__law_driven T) (la_cons (le_var 1) la_nil)).x)
      (lss_cons (ls_set 4 nd ((ln_comp (ts := [20, 21]) (own := [("name", 20), ("kind", 21)]) rfl nd (lio_of (le_ix (le_var 3).O (le_int).O).O) (blkOk_by (own := [("name", 20), ("kind", 21)]) (by show blkC N_law (defScope s_law) _ _ = true; decide +kernel)) rfl (fun _ _ _ _ _ => (lg_tup (n := 2) rfl (lgs_cons (lg_name 20 nd) (lgs_cons (lg_name 21 nd) lgs_nil)))) (fun _ _ _ _ _ => lts_nil) (fun _ _ _ _ _ => (le_var 20)))).E.x)
      (lss_cons (ls_set 5 nd (le_call (ok__law_speeds T) tk (hr.mono (by decide)) (by rfl) T.d__law_speeds.g T.d__law_speeds.F.kp (b__law_speeds T) (la_cons (le_var 3) la_nil)).x)
      (lss_cons (ls_if (lt_val (le_isi (T := "str") (by rfl) T.b_isinstance (by rfl) T.b_str (by decide +kernel) (le_var 5).O)) (lss_cons (ls_if (lt_cmp (c_ne hu) ((ln_comp (ts := [14]) (own := [("k", 14)]) rfl nd (li_r1 (by rfl) T.b_range (la_cons le_int la_nil)).O (blkOk_by (own := [("k", 14)]) (by show blkC N_law (defScope s_law) _ _ = true; decide +kernel)) rfl (fun _ _ _ _ _ => (lg_name 14 nd)) (fun _ _ _ _ _ => lts_nil) (fun _ _ _ _ _ => (le_call (ok__law_word T) takes0 (hr.mono (by decide)) (by rfl) T.d__law_word.g T.d__law_word.F.kp (b__law_word T) (la_cons (le_var 14) (la_cons (le_var 3) la_nil)))))).E.O ((ln_rep ((ln_lst (la_cons (le_var 5) la_nil))).E.O (le_int).O)).E.O) (lss_one (ls_ret le_bl)) lss_nil)
      (lss_one ls_cont)) lss_nil)
      (lss_cons (ls_setLcE 6 (ts := [20, 22]) (own := [("name", 20), ("part_v", 22)]) rfl nd (lio_of (le_ix (le_var 3).O (le_int).O).O) (blkOk_by (own := [("name", 20), ("part_v", 22)]) (by show blkC N_law (defScope s_law) _ _ = true; decide +kernel)) rfl (fun _ _ _ _ _ => (lg_tup (n := 2) rfl (lgs_cons (lg_name 20 nd) (lgs_cons (lg_name 22 nd) lgs_nil)))) (fun _ _ _ _ _ => lts_nil) (fun _ _ _ _ _ => (le_tupC (by rfl) T.b_tuple ((ln_comp (ts := [24]) (own := [("one", 24)]) rfl nd (lio_of (le_var 4).O) (blkOk_by (own := [("one", 24)]) (by show blkC N_law (relS _ (defScope s_law)) _ _ = true; decide +kernel)) rfl (fun _ _ _ _ _ => (lg_name 24 nd)) (fun _ _ _ _ _ => lts_nil) (fun _ _ _ _ _ => (le_if (lt_cmp (c_eq hu) (le_var 24).O (le_var 20).O) (le_tup (la_cons le_int (la_cons le_int la_nil))) (le_tup (la_cons le_int (la_cons le_int la_nil))))))).E.O)))
      (lss_cons (ls_many rfl (lxa_cons ((ln_cat (le_call (ok__law_rows T) tk (hr.mono (by decide)) (by rfl) T.d__law_rows.g T.d__law_rows.F.kp (b__law_rows T) (la_cons (le_var 3) la_nil)).O (le_var 6).O)).E.x (lxa_cons ((ln_comp (ts := [20]) (own := [("name", 20)]) rfl nd (lio_of (le_var 4).O) (blkOk_by (own := [("name", 20)]) (by show blkC N_law (defScope s_law) _ _ = true; decide +kernel)) rfl (fun _ _ _ _ _ => (lg_name 20 nd)) (fun _ _ _ _ _ => lts_nil) (fun _ _ _ _ _ => (le_get2 (hu1 hu) ((ln_dict rfl (by rfl) T.b_dict ((ln_lstC (by rfl) T.b_list (le_ix (le_var 3).O (le_int).O).O)).E.O)).E.O (le_var 20) (le_tup (la_cons le_int (la_cons le_int la_nil))))))).E.x lxa_nil)) (lnm_cons 7 nd (lnm_cons 8 nd lnm_nil)))
      (lss_cons (ls_set 9 nd (le_cmp (c_eq hu) (le_call (ok__law_rank T) tk (hr.mono (by decide)) (by rfl) T.d__law_rank.g T.d__law_rank.F.kp (b__law_rank T) (la_cons (le_var 7) (la_cons (le_len (by rfl) T.b_len (le_var 4).O) la_nil))).O (le_len (by rfl) T.b_len (le_var 7).O).O).x)
      (lss_cons (ls_if (lw_or (lt_cmp (c_ne hu) ((ln_comp (ts := [25]) (own := [("row", 25)]) rfl nd (lio_of (le_call (ok_drive_rows T) tk (hr.mono (by decide)) (by rfl) T.d_drive_rows.g T.d_drive_rows.F.kp (b_drive_rows T) (la_cons (le_var 3) la_nil)).O) (blkOk_by (own := [("row", 25)]) (by show blkC N_law (defScope s_law) _ _ = true; decide +kernel)) rfl (fun _ _ _ _ _ => (lg_name 25 nd)) (fun _ _ _ _ _ => lts_nil) (fun _ _ _ _ _ => (le_tupC (by rfl) T.b_tuple (le_var 25).O)))).E.O (le_var 6).O) (lw_or (lt_cmp (c_ne hu) (le_tupC (by rfl) T.b_tuple (le_call (ok_moving T) tk (hr.mono (by decide)) (by rfl) T.d_moving.g T.d_moving.F.kp (b_moving T) (la_cons (le_var 3) la_nil)).O).O (le_var 5).O) (lw_or1 (lt_cmp (c_ne hu) (le_call (ok_is_sure T) tk (hr.mono (by decide)) (by rfl) T.d_is_sure.g T.d_is_sure.F.kp (b_is_sure T) (la_cons (le_var 3) la_nil)).O (le_var 9).O)))).t (lss_one (ls_ret le_bl)) lss_nil)
      (lss_cons (ls_if (lw_and (lt_not (lt_val (le_var 9))) (lw_and1 (lt_cmp (c_ne hu) ((ln_comp (ts := [14]) (own := [("k", 14)]) rfl nd (li_r2 (by rfl) T.b_range (la_cons le_int (la_cons le_int la_nil))).O (blkOk_by (own := [("k", 14)]) (by show blkC N_law (defScope s_law) _ _ = true; decide +kernel)) rfl (fun _ _ _ _ _ => (lg_name 14 nd)) (fun _ _ _ _ _ => lts_nil) (fun _ _ _ _ _ => (le_call (ok__law_word T) takes0 (hr.mono (by decide)) (by rfl) T.d__law_word.g T.d__law_word.F.kp (b__law_word T) (la_cons (le_var 14) (la_cons (le_var 3) la_nil)))))).E.O ((ln_lst (la_cons le_str (la_cons le_str la_nil)))).E.O))).t (lss_one (ls_ret le_bl)) lss_nil)
      (lss_cons (ls_if (lw_and (lt_val (le_var 9)) (lw_and1 (lt_not (lt_val (le_call (ok__law_sure_hold T) tk (hr.mono (by decide)) (by rfl) T.d__law_sure_hold.g T.d__law_sure_hold.F.kp (b__law_sure_hold T) (la_cons (le_var 1) (la_cons (le_var 3) (la_cons (le_var 5) (la_cons (le_var 7) (la_cons (le_var 8) la_nil)))))))))).t (lss_one (ls_ret le_bl)) lss_nil)
      (lss_cons (ls_if (lt_not (lt_val (le_var 9))) (lss_cons (ls_setLcE 10 (ts := [23]) (own := [("c", 23)]) rfl nd (li_r1 (by rfl) T.b_range (la_cons (le_len (by rfl) T.b_len (le_var 4).O) la_nil)).O (blkOk_by (own := [("c", 23)]) (by show blkC N_law (defScope s_law) _ _ = true; decide +kernel)) rfl (fun _ _ _ _ _ => (lg_name 23 nd)) (fun _ _ _ _ _ => lts_nil) (fun _ _ _ _ _ => (le_catT (le_tupC (by rfl) T.b_tuple ((ln_comp (ts := [25]) (own := [("row", 25)]) rfl nd (lio_of (le_var 7).O) (blkOk_by (own := [("row", 25)]) (by show blkC N_law (relS _ (defScope s_law)) _ _ = true; decide +kernel)) rfl (fun _ _ _ _ _ => (lg_name 25 nd)) (fun _ _ _ _ _ => lts_nil) (fun _ _ _ _ _ => (le_ix (le_var 25).O (le_var 23).O)))).E.O).O (le_tup (la_cons (le_call (ok__law_turn T) takes0 (hr.mono (by decide)) (by rfl) T.d__law_turn.g T.d__law_turn.F.kp (b__law_turn T) (la_cons (le_ix (le_var 8).O (le_var 23).O) la_nil)) la_nil)).O)))
      (lss_cons (ls_asg (le_call (ok__law_put_out T) tk (hr.mono (by decide)) (by rfl) T.d__law_put_out.g T.d__law_put_out.F.kp (b__law_put_out T) (la_cons ((ln_comp (ts := [25]) (own := [("row", 25)]) rfl nd (lio_of (le_var 10).O) (blkOk_by (own := [("row", 25)]) (by show blkC N_law (defScope s_law) _ _ = true; decide +kernel)) rfl (fun _ _ _ _ _ => (lg_name 25 nd)) (fun _ _ _ _ _ => lts_nil) (fun _ _ _ _ _ => ((ln_lstC (by rfl) T.b_list (le_var 25).O)).E))).E (la_cons (le_add (le_len (by rfl) T.b_len (le_var 7).O).O (le_int).O) la_nil))) (ltg_tup (n := 2) rfl (ltgs_cons (ltg_name 11 nd) (ltgs_cons (ltg_name 12 nd) ltgs_nil))))
      (lss_cons (ls_set 13 nd (ln_rep ((ln_lst (la_cons (le_tup (la_cons le_int (la_cons le_int la_nil))) la_nil))).E.O (le_len (by rfl) T.b_len (le_var 7).O).O).x)
      (lss_cons (ls_for po rfl (li_r1 (by rfl) T.b_range (la_cons (le_len (by rfl) T.b_len (le_var 12).O) la_nil)) (lg_name 14 nd) (lss_one (ls_setAt 13 (le_ix (le_var 12).O (le_var 14).O) (le_ix (le_ix (le_var 11).O (le_var 14).O).O (le_len (by rfl) T.b_len (le_var 7).O).O))))
      (lss_cons (ls_par 15 16 rfl nd (by decide) (le_len (by rfl) T.b_len (le_ix (le_var 3).O (le_int).O).O).x (le_call (ok__law_ways T) tk (hr.mono (by decide)) (by rfl) T.d__law_ways.g T.d__law_ways.F.kp (b__law_ways T) (la_cons ((ln_comp (ts := [25]) (own := [("row", 25)]) rfl nd (lio_of (le_var 10).O) (blkOk_by (own := [("row", 25)]) (by show blkC N_law (defScope s_law) _ _ = true; decide +kernel)) rfl (fun _ _ _ _ _ => (lg_name 25 nd)) (fun _ _ _ _ _ => lts_nil) (fun _ _ _ _ _ => (le_slD (le_var 25).O lp_no (lp_at (le_neg (le_int).O)))))).E (la_cons (le_len (by rfl) T.b_len (le_var 7).O) la_nil))).x)
      (lss_one (ls_for po rfl (li_of ((ln_cat ((ln_lst (la_cons ((ln_rep ((ln_lst (la_cons (le_tup (la_cons le_int (la_cons le_int la_nil))) la_nil))).E.O (le_len (by rfl) T.b_len (le_var 7).O).O)).E la_nil))).E.O ((ln_lstC (by rfl) T.b_list (le_var 16).O)).E.O)).E) (lg_name 17 nd) (lss_cons (ls_set 18 nd (le_tupC (by rfl) T.b_tuple ((ln_comp (ts := [14]) (own := [("k", 14)]) rfl nd (li_r1 (by rfl) T.b_range (la_cons (le_len (by rfl) T.b_len (le_var 7).O) la_nil)).O (blkOk_by (own := [("k", 14)]) (by show blkC N_law (defScope s_law) _ _ = true; decide +kernel)) rfl (fun _ _ _ _ _ => (lg_name 14 nd)) (fun _ _ _ _ _ => lts_nil) (fun _ _ _ _ _ => (le_call (ok__law_add T) takes0 (hr.mono (by decide)) (by rfl) T.d__law_add.g T.d__law_add.F.kp (b__law_add T) (la_cons (le_ix (lo_var 13) (le_var 14).O) (la_cons (le_ix (le_var 17).O (le_var 14).O) la_nil)))))).E.O).x)
      (lss_one (ls_if (lt_cmp c_isnot (le_call (ok_is_balanced T) tk (hr.mono (by decide)) (by rfl) T.d_is_balanced.g T.d_is_balanced.F.kp (b_is_balanced T) (la_cons (le_var 3) (la_cons (le_tup (la_cons (le_slT (le_var 18).O lp_no (lp_at (le_var 15))) (la_cons (le_slT (le_var 18).O (lp_at (le_var 15)) lp_no) la_nil))) la_nil))).O (le_bl).O) (lss_one (ls_ret le_bl)) lss_nil)))))))))) lss_nil)
      (lss_cons (ls_set 19 nd ((ln_lst (la_cons le_non (la_cons (le_tup la_nil) (la_cons ((ln_lst (la_cons (le_tup la_nil) (la_cons (le_tup la_nil) la_nil)))).E (la_cons (le_if (lt_cmp (c_ne hu) (le_ix (le_var 3).O (le_int).O).O (le_tup la_nil).O) (le_tup (la_cons (le_tup la_nil) (la_cons (le_tup la_nil) la_nil))) le_non) (la_cons (le_tup (la_cons (le_repT (le_tup (la_cons (le_tup (la_cons le_int (la_cons le_int la_nil))) la_nil)).O (le_int).O) (la_cons (le_tup la_nil) la_nil))) (la_cons (le_if (lt_cmp (c_ne hu) (le_ix (le_var 3).O (le_int).O).O (le_tup la_nil).O) (le_tup (la_cons (le_repT (le_tup (la_cons (le_tup (la_cons le_bl (la_cons le_int la_nil))) la_nil)).O (le_len (by rfl) T.b_len (le_ix (le_var 3).O (le_int).O).O).O) (la_cons (le_repT (le_tup (la_cons (le_tup (la_cons le_int (la_cons le_int la_nil))) la_nil)).O (le_len (by rfl) T.b_len (le_ix (le_var 3).O (le_int).O).O).O) la_nil))) le_non) la_nil)))))))).E.x)
      (lss_one (ls_if (lt_cmp c_gt (le_len (by rfl) T.b_len ((ln_comp (ts := [26]) (own := [("value", 26)]) rfl nd (lio_of (le_var 19).O) (blkOk_by (own := [("value", 26)]) (by show blkC N_law (defScope s_law) _ _ = true; decide +kernel)) rfl (fun _ _ _ _ _ => (lg_name 26 nd)) (fun _ _ _ _ _ => (lts_one (lt_cmp c_isnot (le_call (ok_is_balanced T) takes0 (hr.mono (by decide)) (by rfl) T.d_is_balanced.g T.d_is_balanced.F.kp (b_is_balanced T) (la_cons (le_var 3) (la_cons (le_var 26) la_nil))).O (le_bl).O))) (fun _ _ _ _ _ => (le_var 26)))).E.O).O (le_int).O) (lss_one (ls_ret le_bl)) lss_nil)))))))))))))))
      (lss_one (ls_ret le_bl)))

theorem ok_law (T : Txt P K mg) (holds : m_law (env0 N_law.length i_law) { nx := fun _ => False, rt := fun d => d = .bl true }) : FnOk P w K mg base (L2.CX P w) lv_law T.d_law.f T.d_law.fd p_law (spLaw K) := by
  refine T.d_law.F.okX sc_law (fun vs H Q E h => ?_) (fun cdv A outer s H vs Q E hr h => ?_)
  · obtain ⟨a, ns, rfl, _⟩ := h
    rfl
  · obtain ⟨a, ns, rfl, hS, hn, hq⟩ := h
    obtain ⟨t, pt, so⟩ := rest_law T cdv A outer s H E (fun c a _ H' => E c a H') hr (by have := hr.un; omega) (takes_of rfl rfl rfl rfl) (passes_of rfl)
    refine ⟨_, pss_cons (ps_set (i := i_law) sc_law.nd rfl (by first | exact Or.inl rfl | exact Or.inr rfl) (pe_call (ok__law_state T) (hr.mono (by decide)) (by rfl) T.d__law_state.g T.d__law_state.F.kp (b__law_state T) .nil passL (pa_cons (pv 0) pa_nil))) pt, ?_⟩
    refine ⟨_, rfl, a, ns, rfl, hS, hn, fun p1 p2 cs H1 s1 n12 h1 h2 h3 h4 => ?_⟩
    have dro : DrOk (p1, p2) H1 := ⟨0, cs, h1, h2, h3, h4, n12⟩
    have st := Stt.begin (K := K) (σ := (L2.start N_law [V.ref a]).set i_law (some (.ref p1))) (n := N_law.length) (i := i_law) rfl rfl dro
    exact so _ _ _ _ _ _ _ _ _ _ st holds ⟨fun _ _ _ _ z _ => z.elim, fun _ _ _ _ z _ => z.elim, fun _ _ _ _ z _ => z.elim, fun d v H' e _ r => by subst e; cases r; exact hq H', fun _ _ _ z => z.elim, fun _ _ _ _ _ _ _ z _ _ => z.elim⟩
theorem all_mk {h : Heap} {fa : Addr} (X : K.In h) (G : h.Ns mainGlobals mg) (hfa : mg "law" = some (.ref fa)) (T : Txt P K mg) (holds : m_law (env0 N_law.length i_law) { nx := fun _ => False, rt := fun d => d = .bl true }) :
    ∃ fd : FuncData, (∀ (s : Shared) (v : Value), BindsTo s fd ⟨[v], []⟩ [("script", v)]) ∧ ∀ base : Heap, K.In base → base.Ns mainGlobals mg → FnOk P w K mg base (L2.CX P w) lv_law fa fd ["script"] (spLaw K) := by
  have e := hfa.symm.trans T.d_law.g
  cases e
  obtain ⟨oc, od, kV, doc, pm, an, cdv, ct, osl, q, l, c⟩ := T.d_law.F.ex
  exact ⟨T.d_law.fd, fun s v => by rw [q]; exact .of_eq rfl, fun _ _ _ => ok_law T holds⟩

end
end KK

set_option maxRecDepth 100000
set_option maxHeartbeats 1000000
/-! FQ: parts as core Rat, their sizes by instances; no program in sight. -/
namespace FQ
open PySem L2 DL
def dq (q : Rat) : Dt := .tup [.int q.num, .int (q.den : Int)]
theorem den_pos' (q : Rat) : (0 : Int) < (q.den : Int) := by have := q.den_pos; omega
theorem fmod_nat (x y : Nat) : ((x : Int)).fmod (y : Int) = ((x % y : Nat) : Int) := by
  rw [Int.fmod_eq_emod_of_nonneg _ (by omega)]; rfl
theorem abs_nat (a : Int) : (if a < 0 then -a else a) = ((a.natAbs : Nat) : Int) := by split <;> omega
theorem fdiv_pos {a b : Int} (h : 0 < b) : a.fdiv b = a / b := Int.fdiv_eq_ediv_of_nonneg _ (by omega)
theorem gcd_le {u l : Int} (hl : l ≠ 0) : Int.gcd u l ≤ l.natAbs := Nat.le_of_dvd (Int.natAbs_pos.mpr hl) (Nat.gcd_dvd_right _ _)
theorem gcd_pos {u l : Int} (hl : l ≠ 0) : 0 < Int.gcd u l := Nat.gcd_pos_of_pos_right _ (Int.natAbs_pos.mpr hl)
theorem dq_pos {u l : Int} (hl : 0 < l) : dq (Rat.divInt u l) = .tup [.int (u / (Int.gcd u l : Nat)), .int (l / (Int.gcd u l : Nat))] := by
  unfold dq
  rw [Rat.num_divInt, Rat.den_divInt, if_neg (by omega), Int.sign_eq_one_of_pos hl, Int.one_mul, Int.gcd_comm]
  congr 3
  rw [Int.natCast_ediv]
  congr 2
  omega
theorem divInt_neg2 (u l : Int) : Rat.divInt (0 - u) (0 - l) = Rat.divInt u l := by
  rw [Int.zero_sub, Int.zero_sub, Rat.neg_divInt_neg]
theorem mul_eq (a b : Rat) : a * b = Rat.divInt (a.num * b.num) ((a.den : Int) * (b.den : Int)) := by
  conv => lhs; rw [← Rat.num_divInt_den a, ← Rat.num_divInt_den b]
  rw [Rat.divInt_mul_divInt]
theorem add_eq (a b : Rat) : a + b = Rat.divInt (a.num * (b.den : Int) + b.num * (a.den : Int)) ((a.den : Int) * (b.den : Int)) := by
  conv => lhs; rw [← Rat.num_divInt_den a, ← Rat.num_divInt_den b]
  rw [Rat.divInt_add_divInt _ _ (by have := den_pos' a; omega) (by have := den_pos' b; omega)]
theorem sub_eq (a b : Rat) : a - b = Rat.divInt (a.num * (b.den : Int) - b.num * (a.den : Int)) ((a.den : Int) * (b.den : Int)) := by
  conv => lhs; rw [← Rat.num_divInt_den a, ← Rat.num_divInt_den b]
  rw [Rat.divInt_sub_divInt _ _ (by have := den_pos' a; omega) (by have := den_pos' b; omega)]
theorem div_eq (a b : Rat) : a / b = Rat.divInt (a.num * (b.den : Int)) ((a.den : Int) * b.num) := by
  rw [Rat.div_def, Rat.inv_def]
  conv => lhs; rw [← Rat.num_divInt_den a]
  rw [Rat.divInt_mul_divInt]
theorem num_ne {b : Rat} (h : b ≠ 0) : b.num ≠ 0 := fun z => h (Rat.num_eq_zero.mp z)
theorem dd_ne (a b : Rat) : (a.den : Int) * (b.den : Int) ≠ 0 := by
  have := Int.mul_pos (den_pos' a) (den_pos' b); omega
theorem dq_neg (a : Rat) : dq (-a) = .tup [.int (0 - a.num), .int a.den] := by
  unfold dq
  rw [Rat.neg_num, Rat.neg_den, Int.zero_sub]
theorem dq_negA (a : Rat) : Dt.tup [.int (-a.num), .int a.den] = dq (-a) := by
  unfold dq
  rw [Rat.neg_num, Rat.neg_den]
theorem half_step {x y N : Nat} (h : y < x) (hy : y ≠ 0) (hN : x * y * N < 2 ^ 3960) : x % y < y ∧ y * (x % y) * (2 * N) < 2 ^ 3960 := by
  have h1 := Nat.mod_lt x (Nat.pos_of_ne_zero hy)
  refine ⟨h1, Nat.lt_of_le_of_lt ?_ hN⟩
  have h2 : y + x % y ≤ x := by
    have := Nat.mod_add_div x y
    have h3 : 1 ≤ x / y := (Nat.one_le_div_iff (Nat.pos_of_ne_zero hy)).mpr (by omega)
    have := Nat.mul_le_mul_left y h3
    omega
  have h3 : 2 * (y * (x % y)) ≤ x * y := by
    have a := Nat.mul_le_mul_right y h2
    have b := Nat.mul_le_mul_left y (Nat.le_of_lt h1)
    rw [Nat.add_mul] at a
    have := Nat.mul_comm (x % y) y
    omega
  have e : y * (x % y) * (2 * N) = 2 * (y * (x % y)) * N := by rw [← Nat.mul_assoc, Nat.mul_comm (y * (x % y)) 2]
  rw [e]
  exact Nat.mul_le_mul_right _ h3
/-! ### sizes -/
class Sz (n : outParam Nat) (q : Rat) : Prop where
  nu : q.num.natAbs < 2 ^ n
  de : q.den < 2 ^ n
section
variable {m n : Nat} {a b : Rat}
theorem Sz.d' (h : Sz n a) : ((a.den : Int)).natAbs < 2 ^ n := by simpa using h.de
theorem pw_mul {x y : Nat} (hx : x < 2 ^ m) (hy : y < 2 ^ n) : x * y < 2 ^ (m + n) := by
  rw [Nat.pow_add]
  exact Nat.mul_lt_mul'' hx hy
theorem pw_up {x : Nat} (h : x < 2 ^ m) (k : m ≤ n) : x < 2 ^ n := Nat.lt_of_lt_of_le h (Nat.pow_le_pow_right (by decide) k)
theorem Sz.up (h : Sz m a) (k : m ≤ n) : Sz n a := ⟨pw_up h.nu k, pw_up h.de k⟩
theorem Sz.one (h : Sz n a) : 1 < 2 ^ n := Nat.lt_of_le_of_lt a.den_pos h.de
theorem sz_divInt {u l : Int} (hl : l ≠ 0) (hu : u.natAbs < 2 ^ n) (hd : l.natAbs < 2 ^ n) : Sz n (Rat.divInt u l) := by
  refine ⟨?_, ?_⟩
  · rw [Rat.num_divInt]
    have h1 : l.sign.natAbs ≤ 1 := by
      rcases Int.lt_trichotomy l 0 with h | h | h
      · rw [Int.sign_eq_neg_one_of_neg h]; decide
      · subst h; decide
      · rw [Int.sign_eq_one_of_pos h]; decide
    refine Nat.lt_of_le_of_lt (Nat.le_trans (Int.natAbs_ediv_le_natAbs _ _) ?_) hu
    rw [Int.natAbs_mul]
    exact Nat.le_trans (Nat.mul_le_mul_right _ h1) (by rw [Nat.one_mul]; exact Nat.le_refl _)
  · rw [Rat.den_divInt, if_neg hl]
    exact Nat.lt_of_le_of_lt (Nat.div_le_self _ _) hd
instance sz_add [ha : Sz m a] [hb : Sz n b] : Sz (m + n + 1) (a + b) := by
  rw [add_eq]
  refine sz_divInt (dd_ne a b) ?_ ?_
  · have h1 := pw_mul ha.nu hb.d'
    have h2 := pw_mul hb.nu ha.d'
    rw [Nat.add_comm n m] at h2
    rw [← Int.natAbs_mul] at h1 h2
    rw [Nat.pow_succ]
    omega
  · rw [Int.natAbs_mul]
    exact pw_up (pw_mul ha.d' hb.d') (by omega)
instance sz_neg [ha : Sz m a] : Sz m (-a) := ⟨by rw [Rat.neg_num, Int.natAbs_neg]; exact ha.nu, ha.de⟩
instance sz_sub [ha : Sz m a] [hb : Sz n b] : Sz (m + n + 1) (a - b) := by
  rw [Rat.sub_eq_add_neg]
  exact sz_add
instance sz_mul [ha : Sz m a] [hb : Sz n b] : Sz (m + n) (a * b) := by
  rw [mul_eq]
  refine sz_divInt (dd_ne a b) ?_ ?_
  · rw [Int.natAbs_mul]; exact pw_mul ha.nu hb.nu
  · rw [Int.natAbs_mul]; exact pw_mul ha.d' hb.d'
instance sz_div [ha : Sz m a] [hb : Sz n b] : Sz (m + n) (a / b) := by
  by_cases h0 : b = 0
  · subst h0
    rw [Rat.div_def, Rat.inv_zero, Rat.mul_zero]
    have := ha.one
    exact ⟨Nat.pow_pos (by decide), pw_up this (by omega)⟩
  · rw [div_eq]
    refine sz_divInt (Int.mul_ne_zero (by have := den_pos' a; omega) (num_ne h0)) ?_ ?_
    · rw [Int.natAbs_mul]; exact pw_mul ha.nu hb.d'
    · rw [Int.natAbs_mul]; exact pw_mul ha.d' hb.nu
instance sz_0 : Sz 1 (0 : Rat) := ⟨by decide, by decide⟩
instance sz_1 : Sz 1 (1 : Rat) := ⟨by decide, by decide⟩
instance sz_2 : Sz 2 (2 : Rat) := ⟨by decide, by decide⟩
instance sz_9 : Sz 4 (9 : Rat) := ⟨by decide, by decide⟩
instance sz_99 : Sz 7 (99 : Rat) := ⟨by decide, by decide⟩
theorem mNN (ha : Sz m a) (hb : Sz n b) (h : m + n ≤ 134217728) : IntMulOk a.num b.num := mulOk ha.nu hb.nu h
theorem mND (ha : Sz m a) (hb : Sz n b) (h : m + n ≤ 134217728) : IntMulOk a.num (b.den : Int) := mulOk ha.nu hb.d' h
theorem mDN (ha : Sz m a) (hb : Sz n b) (h : m + n ≤ 134217728) : IntMulOk (a.den : Int) b.num := mulOk ha.d' hb.nu h
theorem mDD (ha : Sz m a) (hb : Sz n b) (h : m + n ≤ 134217728) : IntMulOk (a.den : Int) (b.den : Int) := mulOk ha.d' hb.d' h
theorem Sz.dd {B : Nat} (ha : Sz m a) (hb : Sz n b) (h : m + n ≤ B) : ((a.den : Int) * (b.den : Int)).natAbs < 2 ^ B := by
  rw [Int.natAbs_mul]; exact pw_up (pw_mul ha.d' hb.d') h
theorem Sz.dn {B : Nat} (ha : Sz m a) (hb : Sz n b) (h : m + n ≤ B) : ((a.den : Int) * b.num).natAbs < 2 ^ B := by
  rw [Int.natAbs_mul]; exact pw_up (pw_mul ha.d' hb.nu) h
end
theorem dq_inj {a b : Rat} (h : dq a = dq b) : a = b := by
  unfold dq at h
  simp only [Dt.tup.injEq, List.cons.injEq, Dt.int.injEq, and_true] at h
  exact Rat.ext h.1 (by omega)
theorem pln_dq {k : Nat} {a : Rat} : pln (k + 1) (dq a) := by
  unfold dq
  intro x hx
  simp at hx
  rcases hx with rfl | rfl <;> exact pln_int
@[simp] theorem okD_dq {a : Rat} : okD (dq a) := pln.ok (k := 1) pln_dq
@[simp] theorem eqv_dq {a b : Rat} : eqv (dq a) (dq b) = decide (a = b) := by
  by_cases h : a = b
  · subst h; rw [eqv_self (k := 1) pln_dq]; simp
  · rw [eqv_false (k := 1) pln_dq pln_dq (fun z => h (dq_inj z))]; simp [h]
/-! ### lists -/
class Ln {α : Type} (k : outParam Nat) (l : List α) : Prop where
  le : l.length ≤ k
section
variable {α β : Type} {k m : Nat} {l l' : List α}
instance ln_nil : Ln 0 ([] : List α) := ⟨by simp⟩
instance ln_cons {x : α} [h : Ln k l] : Ln (k + 1) (x :: l) := ⟨by have := h.le; simp; exact this⟩
instance ln_map {f : α → β} [h : Ln k l] : Ln k (l.map f) := ⟨by have := h.le; simpa using this⟩
instance ln_filter {p : α → Bool} [h : Ln k l] : Ln k (l.filter p) := ⟨Nat.le_trans (List.length_filter_le _ _) h.le⟩
instance ln_append [h : Ln k l] [h' : Ln m l'] : Ln (k + m) (l ++ l') := ⟨by have := h.le; have := h'.le; rw [List.length_append]; omega⟩
end
class SzL (n : outParam Nat) (l : List Rat) : Prop where
  all : ∀ q, q ∈ l → Sz n q
def tot (qs : List Rat) : Rat := qs.foldl (· + ·) 0
theorem tot_take {qs : List Rat} {k : Nat} {q : Rat} (h : qs[k]? = some q) : tot (qs.take (k + 1)) = tot (qs.take k) + q := by
  rw [List.take_add_one, h]
  unfold tot
  rw [List.foldl_append]
  rfl
theorem foldl_add (qs : List Rat) (s : Rat) : qs.foldl (· + ·) s = s + tot qs := by
  unfold tot
  induction qs generalizing s with
  | nil => simp [Rat.add_zero]
  | cons q qs ih =>
    rw [List.foldl_cons, List.foldl_cons, ih, ih (0 + q), Rat.zero_add, Rat.add_assoc]
@[simp] theorem tot_nil : tot [] = 0 := rfl
@[simp] theorem tot_cons {q : Rat} {qs : List Rat} : tot (q :: qs) = q + tot qs := by
  show List.foldl _ (0 + q) qs = _
  rw [foldl_add, Rat.zero_add]
@[simp] theorem tot_append {xs ys : List Rat} : tot (xs ++ ys) = tot xs + tot ys := by
  induction xs with
  | nil => simp [Rat.zero_add]
  | cons x xs ih => simp [ih, Rat.add_assoc]
theorem sz_take {n : Nat} {qs : List Rat} (h : SzL n qs) : ∀ k, k ≤ qs.length → Sz (k * (n + 1) + 1) (tot (qs.take k)) := by
  intro k
  induction k with
  | zero => intro _; exact sz_0.up (by omega)
  | succ k ih =>
    intro hk
    have e : qs[k]? = some qs[k] := List.getElem?_eq_getElem (by omega)
    rw [tot_take e]
    have h1 := ih (by omega)
    have h2 := h.all qs[k] (List.getElem_mem _)
    exact (sz_add (a := tot (qs.take k)) (b := qs[k])).up (by rw [Nat.add_mul]; omega)
instance sz_tot {n k : Nat} {qs : List Rat} [h : SzL n qs] [l : Ln k qs] : Sz (k * (n + 1) + 1) (tot qs) := by
  have := sz_take h qs.length (Nat.le_refl _)
  rw [List.take_length] at this
  exact this.up (Nat.add_le_add_right (Nat.mul_le_mul_right _ l.le) _)
/-- x is in l -/
class Mm {α : Type} (x : α) (l : outParam (List α)) : Prop where
  m : x ∈ l
theorem szl_of {α : Type} {n : Nat} {l : List α} {f : α → Rat} (h : ∀ x, [Mm x l] → Sz n (f x)) : SzL n (l.map f) := ⟨fun q hq => by
  obtain ⟨x, hx, rfl⟩ := List.mem_map.mp hq
  have : Mm x l := ⟨hx⟩
  exact h x⟩
instance szl_nil : SzL 1 [] := ⟨fun _ h => by cases h⟩
theorem Sz.l {n : Nat} {l : List Rat} (h : SzL n l) {q : Rat} (m : q ∈ l) : Sz n q := h.all q m
end FQ

set_option maxRecDepth 100000
set_option maxHeartbeats 1000000
namespace KK
open PySem L2 DL FQ
theorem c_divisor {a b : Int} {P : Dt → Prop} {E : Xc → Prop} (h : P (.int (Int.gcd a b))) : sp_divisor [.int a, .int b] P E := by
  refine ⟨rfl, ?_⟩
  show m_divisor [.im (.int a), .im (.int b)] _
  simp only [m_divisor, sSeq, sPar, sWhile, sRet, xE, eCB, f1, absD, aCons, aNil, eVar, sl_c0, sl_c1, bT, eOp, neD, eC, modI, put_c0, put_c1]
  refine ⟨fun m e => ∃ x y : Nat, e = [.im (.int x), .im (.int y)] ∧ Nat.gcd x y = Int.gcd a b ∧ m = y, ⟨b.natAbs, a.natAbs, b.natAbs, ?_, rfl, rfl⟩, ?_⟩
  · rw [abs_nat, abs_nat]
  · rintro m e ⟨x, y, rfl, hg, rfl⟩
    simp
    by_cases h0 : m = 0
    · subst h0
      simp at hg ⊢
      rw [← hg] at h
      exact h
    · simp [h0]
      refine ⟨x % m, Nat.mod_lt _ (by omega), m, ⟨rfl, fmod_nat _ _⟩, ?_⟩
      rw [← hg, Nat.gcd_comm x m, Nat.gcd_rec m x, Nat.gcd_comm]
theorem c_part {u l : Int} {P : Dt → Prop} {E : Xc → Prop} (hl : l ≠ 0) (hz : l.natAbs < 2 ^ 7990) (h : P (dq (Rat.divInt u l))) : sp_part [.int u, .int l] P E := by
  have key : ∀ u l : Int, 0 < l → l.natAbs < 2 ^ 7990 → P (dq (Rat.divInt u l)) → P (.tup [.int (u.fdiv (Int.gcd u l : Nat)), .int (l.fdiv (Int.gcd u l : Nat))]) := fun u l h1 h2 h3 => by
    have hg := gcd_pos (u := u) (l := l) (by omega)
    rw [fdiv_pos (by omega), fdiv_pos (by omega), ← dq_pos h1]
    exact h3
  have ok : ∀ u l a : Int, 0 < l → l.natAbs < 2 ^ 7990 → ((Int.gcd u l : Nat) : Int) ≠ 0 ∧ DivOk a (Int.gcd u l : Nat) := fun u l a h1 h2 => by
    have hg := gcd_pos (u := u) (l := l) (by omega)
    refine ⟨by omega, divOk ?_⟩
    have := gcd_le (u := u) (l := l) (by omega)
    rw [Int.natAbs_natCast]
    exact Nat.lt_of_le_of_lt this (Nat.lt_trans h2 (Nat.pow_lt_pow_right (by decide) (by decide)))
  refine ⟨rfl, ?_⟩
  show m_part [.im (.int u), .im (.int l), .no] _
  simp [m_part]
  by_cases hn : l < 0
  · simp only [hn, if_true]
    refine c_divisor ⟨ok _ _ _ (by omega) (by omega), ok _ _ _ (by omega) (by omega), key _ _ (by omega) (by omega) ?_⟩
    rw [← Int.zero_sub, ← Int.zero_sub, divInt_neg2]
    exact h
  · simp only [hn, if_false]
    exact c_divisor ⟨ok _ _ _ (by omega) hz, ok _ _ _ (by omega) hz, key _ _ (by omega) hz h⟩
theorem c_plus {m n : Nat} {a b : Rat} {P : Dt → Prop} {E : Xc → Prop} [ha : Sz m a] [hb : Sz n b] (h : P (dq (a + b))) (hmn : m + n ≤ 7990 := by decide) : sp_plus [dq a, dq b] P E := by
  refine ⟨rfl, ?_⟩
  show m_plus [.im (dq a), .im (dq b)] _
  simp [m_plus, dq]
  exact ⟨mND ha hb (by omega), mND hb ha (by omega), mDD ha hb (by omega), c_part (dd_ne a b) (ha.dd hb hmn) (by rw [← add_eq]; exact h)⟩
theorem c_minus {m n : Nat} {a b : Rat} {P : Dt → Prop} {E : Xc → Prop} [ha : Sz m a] [hb : Sz n b] (h : P (dq (a - b))) (hmn : m + n ≤ 7990 := by decide) : sp_minus [dq a, dq b] P E := by
  refine ⟨rfl, ?_⟩
  show m_minus [.im (dq a), .im (dq b)] _
  simp [m_minus, dq]
  exact ⟨mND ha hb (by omega), mND hb ha (by omega), mDD ha hb (by omega), c_part (dd_ne a b) (ha.dd hb hmn) (by rw [← sub_eq]; exact h)⟩
theorem c_times {m n : Nat} {a b : Rat} {P : Dt → Prop} {E : Xc → Prop} [ha : Sz m a] [hb : Sz n b] (h : P (dq (a * b))) (hmn : m + n ≤ 7990 := by decide) : sp_times [dq a, dq b] P E := by
  refine ⟨rfl, ?_⟩
  show m_times [.im (dq a), .im (dq b)] _
  simp [m_times, dq]
  exact ⟨mNN ha hb (by omega), mDD ha hb (by omega), c_part (dd_ne a b) (ha.dd hb hmn) (by rw [← mul_eq]; exact h)⟩
theorem c_over {m n : Nat} {a b : Rat} {P : Dt → Prop} {E : Xc → Prop} [ha : Sz m a] [hb : Sz n b] (h0 : b ≠ 0) (h : P (dq (a / b))) (hmn : m + n ≤ 7990 := by decide) : sp_over [dq a, dq b] P E := by
  refine ⟨rfl, ?_⟩
  show m_over [.im (dq a), .im (dq b)] _
  simp [m_over, dq]
  exact ⟨mND ha hb (by omega), mDN ha hb (by omega), c_part (Int.mul_ne_zero (by have := den_pos' a; omega) (num_ne h0)) (ha.dn hb hmn) (by rw [← div_eq]; exact h)⟩
theorem c_negative {a : Rat} {P : Dt → Prop} {E : Xc → Prop} (h : P (dq (-a))) : sp_negative [dq a] P E := by
  refine ⟨rfl, ?_⟩
  show m_negative [.im (dq a)] _
  rw [dq_neg] at h
  simpa [m_negative, dq] using h
theorem c_is_less {m n : Nat} {a b : Rat} {P : Dt → Prop} {E : Xc → Prop} [ha : Sz m a] [hb : Sz n b] (h : P (.bl (decide (a < b)))) (hmn : m + n ≤ 134217728 := by decide) : sp_is_less [dq a, dq b] P E := by
  refine ⟨rfl, ?_⟩
  show m_is_less [.im (dq a), .im (dq b)] _
  simp [m_is_less, dq]
  exact ⟨mND ha hb hmn, mND hb ha (by omega), by simpa [Rat.lt_iff] using h⟩
theorem c_total {n k : Nat} {qs : List Rat} {P : Dt → Prop} {E : Xc → Prop} [s : SzL n qs] [l : Ln k qs] (h : P (dq (tot qs))) (hs : k * (n + 1) + 1 + n ≤ 7990 := by decide) : sp_total [.lst (qs.map dq)] P E := by
  refine ⟨rfl, ?_⟩
  show m_total [.im (.lst (qs.map dq)), .no, .no] _
  simp [m_total]
  refine forD_inv (fun i e => ∃ t, e = [.im (.lst (qs.map dq)), .im (dq (tot (qs.take i))), t]) ⟨.no, rfl⟩ ?_ ?_
  · rintro i x e hx ⟨t, rfl⟩ nx hnx
    obtain ⟨q, hq, rfl⟩ : ∃ q, qs[i]? = some q ∧ dq q = x := by simpa using hx
    have hi : i < qs.length := (List.getElem?_eq_some_iff.mp hq).1
    have s1 := sz_take s i (by omega)
    have s2 := s.all q (List.mem_of_getElem? hq)
    simp
    have := l.le
    have h3 : i * (n + 1) ≤ k * (n + 1) := Nat.mul_le_mul_right _ (by omega)
    refine c_plus ?_ (by omega)
    rw [← tot_take hq]
    exact hnx _ ⟨_, rfl⟩
  · rintro e ⟨t, rfl⟩
    simpa using h
theorem c__law_turn {a : Rat} {P : Dt → Prop} {E : Xc → Prop} (h : P (dq (-a))) : sp__law_turn [dq a] P E := by
  refine ⟨rfl, ?_⟩
  show m__law_turn [.im (dq a)] _
  rw [dq_neg] at h
  simpa [m__law_turn, dq] using h
theorem c__law_less {m n : Nat} {a b : Rat} {P : Dt → Prop} {E : Xc → Prop} [ha : Sz m a] [hb : Sz n b] (h : P (.bl (decide (a < b)))) (hmn : m + n ≤ 134217728 := by decide) : sp__law_less [dq a, dq b] P E := by
  refine ⟨rfl, ?_⟩
  show m__law_less [.im (dq a), .im (dq b)] _
  simp [m__law_less, dq]
  exact ⟨mND ha hb hmn, mND hb ha (by omega), by simpa [Rat.lt_iff] using h⟩
theorem c__law_fr {u l : Int} {P : Dt → Prop} {E : Xc → Prop} (hl : l ≠ 0) (hz : l.natAbs < 2 ^ 1980) (h : P (dq (Rat.divInt u l))) : sp__law_fr [.int u, .int l] P E := by
  have key : ∀ u l : Int, 0 < l → l.natAbs < 2 ^ 1980 → P (dq (Rat.divInt u l)) →
      sSeq (sPar 2 3 (xE (eCB (f1 absD) (aCons (eVar 0) aNil))) (xE (eVar 1)))
        (sSeq (sFor (iRange1 (aCons (eC (.int 4000)) aNil)) (gN 4) (sSeq (sIf (bT (eOp eqD (eVar 3) (eC (.int 0)))) sBreak sNext)
          (sPar 2 3 (xE (eVar 3)) (xE (eOp modI (eCB (f1 intD) (aCons (eVar 2) aNil)) (eVar 3))))))
        (sRet (eTup (aCons (eOp divI (eVar 0) (eVar 2)) (aCons (eOp divI (eVar 1) (eVar 2)) aNil))))) [.im (.int u), .im (.int l), .no, .no, .no] { nx := fun _ => P .non, rt := P, ex := fun x _ => E x } := fun u l h1 h2 h3 => by
    simp
    have ln : ((l.natAbs : Nat) : Int) = l := by omega
    have hg := gcd_pos (u := u) (l := l) (by omega)
    have dv : ∀ a : Int, ((Int.gcd u l : Nat) : Int) ≠ 0 ∧ DivOk a (Int.gcd u l : Nat) := fun a => by
      refine ⟨by omega, divOk ?_⟩
      have := gcd_le (u := u) (l := l) (by omega)
      rw [Int.natAbs_natCast]
      exact Nat.lt_of_le_of_lt this (Nat.lt_trans h2 (Nat.pow_lt_pow_right (by decide) (by decide)))
    refine forD_inv (fun i e => ∃ (x y : Nat) (t : Sl), e = [.im (.int u), .im (.int l), .im (.int x), .im (.int y), t] ∧ Nat.gcd x y = Int.gcd u l ∧ ((i = 0 ∧ y = l.natAbs) ∨ (1 ≤ i ∧ y < x ∧ x * y * 2 ^ (i - 1) < 2 ^ 3960))) ?_ ?_ ?_
    · exact ⟨u.natAbs, l.natAbs, .no, by rw [abs_nat, ln], rfl, .inl ⟨rfl, rfl⟩⟩
    · rintro i d e - ⟨x, y, t, rfl, hgc, hi⟩ nx hnx
      simp
      by_cases h0 : y = 0
      · subst h0
        rw [Nat.gcd_zero_right] at hgc
        subst hgc
        simp only [Int.natCast_eq_zero, decide_true, if_true]
        refine ⟨⟨by omega, (dv u).2⟩, ⟨by omega, (dv l).2⟩, ?_⟩
        rw [fdiv_pos (by omega), fdiv_pos (by omega), ← dq_pos h1]
        exact h3
      · simp [h0]
        refine hnx _ ⟨y, x % y, .im d, by rw [fmod_nat], ?_, .inr ⟨by omega, ?_⟩⟩
        · rw [← hgc, Nat.gcd_comm x y, Nat.gcd_rec y x, Nat.gcd_comm]
        · rcases hi with ⟨rfl, rfl⟩ | ⟨h4, h5, h6⟩
          · have h7 := Nat.mod_lt x (Nat.pos_of_ne_zero h0)
            refine ⟨h7, ?_⟩
            simp only [Nat.zero_add, Nat.sub_self, Nat.pow_zero, Nat.mul_one]
            have e : (2 : Nat) ^ 3960 = 2 ^ 1980 * 2 ^ 1980 := Nat.pow_add 2 1980 1980
            rw [e]
            exact Nat.mul_lt_mul'' h2 (by omega)
          · have := half_step h5 h0 h6
            refine ⟨this.1, ?_⟩
            have e : (2 : Nat) ^ (i + 1 - 1) = 2 * 2 ^ (i - 1) := by
              obtain ⟨j, rfl⟩ : ∃ j, i = j + 1 := ⟨i - 1, by omega⟩
              simp [Nat.pow_succ, Nat.mul_comm]
            rw [e]
            exact this.2
    · rintro e ⟨x, y, t, rfl, hgc, hi⟩
      have hl4 : (rng 0 1 4000).length = 4000 := by simp [rng]
      rw [hl4] at hi
      have h0 : y = 0 := by
        rcases hi with ⟨h, _⟩ | ⟨_, h5, h6⟩
        · omega
        · refine Classical.byContradiction fun hy => ?_
          have : 1 ≤ x * y := Nat.mul_pos (by omega) (Nat.pos_of_ne_zero hy)
          have h7 := Nat.mul_le_mul_right (2 ^ (4000 - 1)) this
          have h8 : (2 : Nat) ^ 3960 ≤ 2 ^ (4000 - 1) := Nat.pow_le_pow_right (by decide) (by decide)
          omega
      subst h0
      rw [Nat.gcd_zero_right] at hgc
      subst hgc
      simp
      refine ⟨⟨by omega, (dv u).2⟩, ⟨by omega, (dv l).2⟩, ?_⟩
      rw [fdiv_pos (by omega), fdiv_pos (by omega), ← dq_pos h1]
      exact h3
  refine ⟨rfl, ?_⟩
  show m__law_fr [.im (.int u), .im (.int l), .no, .no, .no] _
  unfold m__law_fr
  by_cases hn : l < 0
  · have := key (0 - u) (0 - l) (by omega) (by omega) (by rw [divInt_neg2]; exact h)
    simpa [hn] using this
  · have := key u l (by omega) hz h
    simpa [hn] using this
theorem c__law_add {m n : Nat} {a b : Rat} {P : Dt → Prop} {E : Xc → Prop} [ha : Sz m a] [hb : Sz n b] (h : P (dq (a + b))) (hmn : m + n ≤ 1980 := by decide) : sp__law_add [dq a, dq b] P E := by
  refine ⟨rfl, ?_⟩
  show m__law_add [.im (dq a), .im (dq b)] _
  simp [m__law_add, dq]
  exact ⟨mND ha hb (by omega), mND hb ha (by omega), mDD ha hb (by omega), c__law_fr (dd_ne a b) (ha.dd hb hmn) (by rw [← add_eq]; exact h)⟩
theorem c__law_sub {m n : Nat} {a b : Rat} {P : Dt → Prop} {E : Xc → Prop} [ha : Sz m a] [hb : Sz n b] (h : P (dq (a - b))) (hmn : m + n ≤ 1980 := by decide) : sp__law_sub [dq a, dq b] P E := by
  refine ⟨rfl, ?_⟩
  show m__law_sub [.im (dq a), .im (dq b)] _
  have := c__law_add (P := P) (E := E) (a := a) (b := -b) (by rw [← Rat.sub_eq_add_neg]; exact h) hmn
  rw [dq_neg] at this
  simpa [m__law_sub, dq] using this
theorem c__law_mul {m n : Nat} {a b : Rat} {P : Dt → Prop} {E : Xc → Prop} [ha : Sz m a] [hb : Sz n b] (h : P (dq (a * b))) (hmn : m + n ≤ 1980 := by decide) : sp__law_mul [dq a, dq b] P E := by
  refine ⟨rfl, ?_⟩
  show m__law_mul [.im (dq a), .im (dq b)] _
  simp [m__law_mul, dq]
  exact ⟨mNN ha hb (by omega), mDD ha hb (by omega), c__law_fr (dd_ne a b) (ha.dd hb hmn) (by rw [← mul_eq]; exact h)⟩
theorem c__law_over {m n : Nat} {a b : Rat} {P : Dt → Prop} {E : Xc → Prop} [ha : Sz m a] [hb : Sz n b] (h0 : b ≠ 0) (h : P (dq (a / b))) (hmn : m + n ≤ 1980 := by decide) : sp__law_over [dq a, dq b] P E := by
  refine ⟨rfl, ?_⟩
  show m__law_over [.im (dq a), .im (dq b)] _
  simp [m__law_over, dq]
  exact ⟨mND ha hb (by omega), mDN ha hb (by omega), c__law_fr (Int.mul_ne_zero (by have := den_pos' a; omega) (num_ne h0)) (ha.dn hb hmn) (by rw [← div_eq]; exact h)⟩
theorem c__law_sum {n k : Nat} {qs : List Rat} {P : Dt → Prop} {E : Xc → Prop} [s : SzL n qs] [l : Ln k qs] (h : P (dq (tot qs))) (hs : k * (n + 1) + 1 + n ≤ 1980 := by decide) : sp__law_sum [.lst (qs.map dq)] P E := by
  refine ⟨rfl, ?_⟩
  show m__law_sum [.im (.lst (qs.map dq)), .no, .no] _
  simp [m__law_sum]
  refine forD_inv (fun i e => ∃ t, e = [.im (.lst (qs.map dq)), .im (dq (tot (qs.take i))), t]) ⟨.no, rfl⟩ ?_ ?_
  · rintro i x e hx ⟨t, rfl⟩ nx hnx
    obtain ⟨q, hq, rfl⟩ : ∃ q, qs[i]? = some q ∧ dq q = x := by simpa using hx
    have hi : i < qs.length := (List.getElem?_eq_some_iff.mp hq).1
    have s1 := sz_take s i (by omega)
    have s2 := s.all q (List.mem_of_getElem? hq)
    simp
    have := l.le
    have h3 : i * (n + 1) ≤ k * (n + 1) := Nat.mul_le_mul_right _ (by omega)
    refine c__law_add ?_ (by omega)
    rw [← tot_take hq]
    exact hnx _ ⟨_, rfl⟩
  · rintro e ⟨t, rfl⟩
    simpa using h
end KK

/-! M1: rows put out, without any program: what a reduced table tells. -/
namespace MX
abbrev Vc := Nat → Rat
def sm : Nat → Vc → Rat
  | 0, _ => 0
  | n + 1, f => sm n f + f n
theorem sm_congr {n : Nat} {f h : Vc} (e : ∀ j, j < n → f j = h j) : sm n f = sm n h := by
  induction n with
  | zero => rfl
  | succ n ih =>
    unfold sm
    rw [ih fun j hj => e j (by omega), e n (by omega)]
theorem sm_zero {n : Nat} {f : Vc} (e : ∀ j, j < n → f j = 0) : sm n f = 0 := by
  induction n with
  | zero => rfl
  | succ n ih =>
    unfold sm
    rw [ih fun j hj => e j (by omega), e n (by omega)]
    grind
theorem sm_lin {n : Nat} (a b : Rat) (f h : Vc) : sm n (fun j => a * f j + b * h j) = a * sm n f + b * sm n h := by
  induction n with
  | zero => unfold sm; grind
  | succ n ih =>
    unfold sm
    rw [ih]
    grind
theorem sm_mul {n : Nat} (a : Rat) (f : Vc) : sm n (fun j => a * f j) = a * sm n f := by
  have h := sm_lin (n := n) a 0 f f
  have e : sm n (fun j => a * f j + 0 * f j) = sm n (fun j => a * f j) := sm_congr fun j _ => by grind
  rw [← e, h]
  grind
theorem sm_one {n a : Nat} {f : Vc} (ha : a < n) (e : ∀ j, j < n → j ≠ a → f j = 0) : sm n f = f a := by
  induction n with
  | zero => omega
  | succ n ih =>
    unfold sm
    by_cases h : a = n
    · subst h
      rw [sm_zero fun j hj => e j (by omega) (by omega)]
      grind
    · rw [ih (by omega) fun j hj hn => e j (by omega) hn, e n (by omega) (by omega)]
      grind
theorem sm_two {n a b : Nat} {f : Vc} (ha : a < n) (hb : b < n) (hab : a ≠ b) (e : ∀ j, j < n → j ≠ a → j ≠ b → f j = 0) : sm n f = f a + f b := by
  induction n with
  | zero => omega
  | succ n ih =>
    unfold sm
    by_cases h : a = n
    · subst h
      rw [sm_one (a := b) (by omega) fun j hj hn => e j (by omega) (by omega) hn]
      grind
    · by_cases h2 : b = n
      · subst h2
        rw [sm_one (a := a) (by omega) fun j hj hn => e j (by omega) hn (by omega)]
      · rw [ih (by omega) (by omega) fun j hj h3 h4 => e j (by omega) h3 h4, e n (by omega) (by omega) (by omega)]
        grind
theorem sm_swap {n m : Nat} (f : Nat → Nat → Rat) : sm n (fun i => sm m (fun j => f i j)) = sm m (fun j => sm n (fun i => f i j)) := by
  induction n with
  | zero =>
    show (0 : Rat) = sm m fun _ => 0
    exact (sm_zero fun _ _ => rfl).symm
  | succ n ih =>
    have e : sm m (fun j => sm (n + 1) (fun i => f i j)) = sm m (fun j => 1 * sm n (fun i => f i j) + 1 * f n j) := sm_congr fun j _ => by show sm n _ + _ = _; grind
    rw [e, sm_lin, ← ih]
    show sm n _ + _ = _
    grind
def dt (n : Nat) (r x : Vc) : Rat := sm n fun j => r j * x j
theorem dt_lin {n : Nat} (a b : Rat) (r s x : Vc) : dt n (fun j => a * r j + b * s j) x = a * dt n r x + b * dt n s x := by
  unfold dt
  rw [← sm_lin]
  exact sm_congr fun j _ => by grind
theorem dt_linR {n : Nat} (a b : Rat) (r x y : Vc) : dt n r (fun j => a * x j + b * y j) = a * dt n r x + b * dt n r y := by
  unfold dt
  rw [← sm_lin]
  exact sm_congr fun j _ => by grind
def g (r : List Rat) : Vc := fun j => r.getD j 0
def at2 (A : List (List Rat)) (k j : Nat) : Rat := g (A.getD k []) j
def Nul (n : Nat) (A : List (List Rat)) (x : Vc) : Prop := ∀ r ∈ A, dt n (g r) x = 0
theorem Nul.lin {n : Nat} {A : List (List Rat)} {x y : Vc} (a b : Rat) (hx : Nul n A x) (hy : Nul n A y) : Nul n A fun j => a * x j + b * y j := fun r hr => by
  rw [dt_linR, hx r hr, hy r hr]
  grind
theorem nul_app {n : Nat} {A B : List (List Rat)} {x : Vc} : Nul n (A ++ B) x ↔ Nul n A x ∧ Nul n B x := by
  unfold Nul
  constructor
  · intro h
    exact ⟨fun r hr => h r (List.mem_append_left _ hr), fun r hr => h r (List.mem_append_right _ hr)⟩
  · intro h r hr
    rcases List.mem_append.mp hr with z | z
    · exact h.1 r z
    · exact h.2 r z
/-- a reduced table -/
structure RR (n : Nat) (A : List (List Rat)) (L : List Nat) : Prop where
  len : A.length = L.length
  lt : ∀ l ∈ L, l < n
  sorted : L.Pairwise (· < ·)
  one : ∀ k l, L[k]? = some l → at2 A k l = 1
  off : ∀ i k l, L[k]? = some l → i ≠ k → at2 A i l = 0
  low : ∀ k l c, L[k]? = some l → c < l → at2 A k c = 0
theorem mem_at {A : List (List Rat)} {r : List Rat} (h : r ∈ A) : ∃ k, k < A.length ∧ A.getD k [] = r := by
  obtain ⟨k, hk, e⟩ := List.mem_iff_getElem.mp h
  exact ⟨k, hk, by rw [List.getD_eq_getElem?_getD, List.getElem?_eq_getElem hk]; exact e⟩
theorem at_mem {A : List (List Rat)} {k : Nat} (h : k < A.length) : A.getD k [] ∈ A := by
  rw [List.getD_eq_getElem?_getD, List.getElem?_eq_getElem h]
  exact List.getElem_mem h
theorem idx_get {L : List Nat} {j : Nat} (h : j ∈ L) : L[L.idxOf j]? = some j := by
  have := List.idxOf_lt_length_of_mem h
  rw [List.getElem?_eq_getElem this]
  simp
def way (A : List (List Rat)) (L : List Nat) (c : Nat) : Vc := fun j => if j = c then 1 else if j ∈ L then - at2 A (L.idxOf j) c else 0
theorem way_self {A : List (List Rat)} {L : List Nat} {c : Nat} : way A L c c = 1 := by simp [way]
theorem way_free {A : List (List Rat)} {L : List Nat} {c j : Nat} (h : j ∉ L) (hc : j ≠ c) : way A L c j = 0 := by simp [way, h, hc]
theorem pw_nodup {L : List Nat} (h : L.Pairwise (· < ·)) {i k l : Nat} (hi : L[i]? = some l) (hk : L[k]? = some l) : i = k := by
  rw [List.pairwise_iff_getElem] at h
  obtain ⟨h1, e1⟩ := List.getElem?_eq_some_iff.mp hi
  obtain ⟨h2, e2⟩ := List.getElem?_eq_some_iff.mp hk
  rcases Nat.lt_trichotomy i k with z | z | z
  · have := h i k h1 h2 z; omega
  · exact z
  · have := h k i h2 h1 z; omega
section
variable {n : Nat} {A B : List (List Rat)} {L L' : List Nat}
theorem way_lead {c : Nat} (h : RR n A L) {k l : Nat} (hk : L[k]? = some l) (hc : l ≠ c) : way A L c l = - at2 A k c := by
  have m : l ∈ L := List.mem_of_getElem? hk
  have : L.idxOf l = k := pw_nodup h.sorted (idx_get m) hk
  simp [way, m, hc, this]
theorem RR.mem_lt (h : RR n A L) {k l : Nat} (hk : L[k]? = some l) : l < n := h.lt l (List.mem_of_getElem? hk)
theorem way_nul (h : RR n A L) {c : Nat} (hc : c < n) (hn : c ∉ L) : Nul n A (way A L c) := fun r hr => by
  obtain ⟨k, hk, e⟩ := mem_at hr
  subst e
  have hk' : k < L.length := by rw [← h.len]; exact hk
  have gl : L[k]? = some L[k] := List.getElem?_eq_getElem hk'
  have hl : L[k] < n := h.mem_lt gl
  have hlc : L[k] ≠ c := fun z => hn (z ▸ List.getElem_mem hk')
  show sm n _ = 0
  rw [sm_two (a := c) (b := L[k]) hc hl (Ne.symm hlc) fun j hj h1 h2 => ?_]
  · rw [way_self, way_lead h gl hlc]
    have := h.one k _ gl
    unfold at2 at this
    rw [this]
    unfold at2
    grind
  · by_cases hm : j ∈ L
    · have gi := idx_get hm
      have : at2 A k j = 0 := h.off k _ j gi fun z => h2 (by rw [← z] at gi; rw [gl] at gi; exact (Option.some.inj gi).symm)
      unfold at2 at this
      rw [this]
      grind
    · rw [way_free hm h1]
      grind
theorem way_above (h : RR n A L) {c j : Nat} (hj : c < j) : way A L c j = 0 := by
  by_cases hm : j ∈ L
  · rw [way_lead h (idx_get hm) (by omega), h.low _ _ c (idx_get hm) hj]
    grind
  · exact way_free hm (by omega)
theorem row_zero (h : RR n A L) {k l : Nat} (gl : L[k]? = some l) {x : Vc} (hx : Nul n A x) (z : ∀ j, j < n → j ≠ l → at2 A k j * x j = 0) : x l = 0 := by
  have hk : k < A.length := by rw [h.len]; exact (List.getElem?_eq_some_iff.mp gl).1
  have e : sm n (fun j => at2 A k j * x j) = 0 := hx _ (at_mem hk)
  rw [sm_one (a := l) (h.mem_lt gl) fun j hj hn => z j hj hn] at e
  rw [h.one k l gl] at e
  grind
theorem nul_zero (h : RR n A L) {x : Vc} (hx : Nul n A x) (z : ∀ j, j < n → j ∉ L → x j = 0) : ∀ j, j < n → x j = 0 := fun j hj => by
  by_cases hm : j ∈ L
  · refine row_zero h (idx_get hm) hx fun i hi hn => ?_
    by_cases hi2 : i ∈ L
    · have := h.off (L.idxOf j) (L.idxOf i) i (idx_get hi2) fun z => hn (by
        have a := idx_get hm
        have b := idx_get hi2
        rw [z, b] at a
        exact Option.some.inj a)
      rw [this]; grind
    · rw [z i hi hi2]; grind
  · exact z j hj hm
theorem lead_of (h : RR n A L) {c : Nat} (hm : c ∈ L) {x : Vc} (hx : Nul n A x) (z : ∀ j, c < j → j < n → x j = 0) : x c = 0 := by
  refine row_zero h (idx_get hm) hx fun j hj hn => ?_
  rcases Nat.lt_or_gt_of_ne hn with q | q
  · rw [h.low _ _ j (idx_get hm) q]; grind
  · rw [z j q hj]; grind
theorem leads_sub (h : RR n A L) (h' : RR n B L') (s : ∀ x, Nul n B x → Nul n A x) : ∀ c ∈ L, c ∈ L' := fun c hc => by
  by_cases hm : c ∈ L'
  · exact hm
  · have := lead_of h hc (s _ (way_nul h' (h.lt c hc) hm)) fun j h1 _ => way_above h' h1
    rw [way_self] at this
    grind
end
theorem sorted_sub {L L' : List Nat} (h : L.Pairwise (· < ·)) (h' : L'.Pairwise (· < ·)) (s : ∀ c ∈ L, c ∈ L') : L.Sublist L' := by
  induction L' generalizing L with
  | nil =>
    cases L with
    | nil => exact .slnil
    | cons a l => exact absurd (s a (by simp)) (by simp)
  | cons b l' ih =>
    cases L with
    | nil => exact List.nil_sublist _
    | cons a l =>
      rw [List.pairwise_cons] at h h'
      by_cases e : a = b
      · subst e
        refine .cons₂ _ (ih h.2 h'.2 fun c hc => ?_)
        have := h.1 c hc
        rcases List.mem_cons.mp (s c (by simp [hc])) with z | z
        · omega
        · exact z
      · refine .cons _ (ih (List.pairwise_cons.mpr h) h'.2 fun c hc => ?_)
        rcases List.mem_cons.mp (s c hc) with z | z
        · subst z
          rcases List.mem_cons.mp (s a (by simp)) with q | q
          · exact absurd q e
          · have h1 := h'.1 a q
            rcases List.mem_cons.mp hc with w | w
            · exact absurd w.symm e
            · have := h.1 _ w; omega
        · exact z
theorem sorted_eq {L L' : List Nat} (h : L.Pairwise (· < ·)) (h' : L'.Pairwise (· < ·)) (s : ∀ c ∈ L, c ∈ L') (hl : L.length = L'.length) : L = L' := (sorted_sub h h' s).eq_of_length hl
theorem sorted_eq2 {L L' : List Nat} (h : L.Pairwise (· < ·)) (h' : L'.Pairwise (· < ·)) (s : ∀ c ∈ L, c ∈ L') (s' : ∀ c ∈ L', c ∈ L) : L = L' := (sorted_sub h h' s).eq_of_length (Nat.le_antisymm (sorted_sub h h' s).length_le (sorted_sub h' h s').length_le)
theorem range_sorted (n : Nat) : (List.range n).Pairwise (· < ·) := List.pairwise_lt_range
section
variable {n : Nat} {A B : List (List Rat)} {L L' : List Nat}
theorem rows_eq (h : RR n A L) (h' : RR n B L) (s : ∀ x, Nul n B x → Nul n A x) {k j : Nat} (hk : k < L.length) (hj : j < n) : at2 A k j = at2 B k j := by
  have gl : L[k]? = some L[k] := List.getElem?_eq_getElem hk
  by_cases hm : j ∈ L
  · by_cases e : L.idxOf j = k
    · have a := idx_get hm
      rw [e] at a
      rw [h.one k j a, h'.one k j a]
    · rw [h.off k _ j (idx_get hm) (Ne.symm e), h'.off k _ j (idx_get hm) (Ne.symm e)]
  · have w1 := way_nul h hj hm
    have w2 := s _ (way_nul h' hj hm)
    have hlj : L[k] ≠ j := fun z => hm (z ▸ List.getElem_mem hk)
    have := nul_zero h (w1.lin 1 (-1) w2) (fun i hi hn => by
      by_cases e : i = j
      · subst e; rw [way_self, way_self]; grind
      · rw [way_free hn e, way_free hn e]; grind) L[k] (h.mem_lt gl)
    rw [way_lead h gl hlj, way_lead h' gl hlj] at this
    grind
theorem leads_eq (h : RR n A L) (h' : RR n B L') (s : ∀ x, Nul n B x ↔ Nul n A x) : L = L' :=
  sorted_eq2 h.sorted h'.sorted (leads_sub h h' fun x => (s x).mp) (leads_sub h' h fun x => (s x).mpr)
theorem table_eq (h : RR n A L) (h' : RR n B L) (s : ∀ x, Nul n B x → Nul n A x) (wA : ∀ r ∈ A, r.length = n) (wB : ∀ r ∈ B, r.length = n) : A = B := by
  refine List.ext_getElem (by rw [h.len, h'.len]) fun k h1 h2 => ?_
  refine List.ext_getElem (by rw [wA _ (List.getElem_mem h1), wB _ (List.getElem_mem h2)]) fun j h3 h4 => ?_
  have := rows_eq h h' s (k := k) (j := j) (by rw [← h.len]; exact h1) (by rw [← wA _ (List.getElem_mem h1)]; exact h3)
  unfold at2 at this
  simp only [List.getD_eq_getElem?_getD, List.getElem?_eq_getElem h1, List.getElem?_eq_getElem h2, Option.getD_some, g, List.getElem?_eq_getElem h3, List.getElem?_eq_getElem h4] at this
  exact this
theorem rank_le (h : RR n A L) : L.length ≤ n := by
  have := (sorted_sub h.sorted (range_sorted n) fun c hc => List.mem_range.mpr (h.lt c hc)).length_le
  rwa [List.length_range] at this
theorem free_of (h : RR n A L) (hl : L.length < n) : ∃ c, c < n ∧ c ∉ L := by
  refine Classical.byContradiction fun z => ?_
  have := (sorted_sub (range_sorted n) h.sorted fun c hc => Classical.byContradiction fun q => z ⟨c, List.mem_range.mp hc, q⟩).length_le
  rw [List.length_range] at this
  omega
end
end MX

set_option maxHeartbeats 1000000
/-! M4: small whole solutions of equations with few whole numbers, by counting. -/
namespace MX
theorem pigeon : ∀ (M N : Nat) (f : Nat → Nat), M < N → (∀ i, i < N → f i < M) → ∃ i j, i < j ∧ j < N ∧ f i = f j
  | 0, N, f, h, hf => by have := hf 0 h; omega
  | M + 1, N, f, h, hf => by
    obtain ⟨K, rfl⟩ : ∃ K, N = K + 1 := ⟨N - 1, by omega⟩
    by_cases hx : ∃ i, i < K ∧ f i = f K
    · obtain ⟨i, hi, e⟩ := hx
      exact ⟨i, K, hi, by omega, e⟩
    · obtain ⟨i, j, h1, h2, h3⟩ := pigeon M K (fun i => if f i < f K then f i else f i - 1) (by omega) fun i hi => by
        have h1 := hf i (by omega)
        have h2 := hf K (by omega)
        have h3 : f i ≠ f K := fun e => hx ⟨i, hi, e⟩
        show (if f i < f K then f i else f i - 1) < M
        split <;> omega
      have a1 : f i ≠ f K := fun e => hx ⟨i, by omega, e⟩
      have a2 : f j ≠ f K := fun e => hx ⟨j, by omega, e⟩
      refine ⟨i, j, h1, by omega, ?_⟩
      split at h3 <;> split at h3 <;> omega
def dig (b n i : Nat) : Nat := n / b ^ i % b
theorem dig_lt {b n i : Nat} (h : 0 < b) : dig b n i < b := Nat.mod_lt _ h
theorem dig_succ {b n i : Nat} : dig b n (i + 1) = dig b (n / b) i := by
  unfold dig
  rw [Nat.pow_succ, Nat.mul_comm (b ^ i), Nat.div_div_eq_div_mul]
theorem dig_inj {b : Nat} (hb : 0 < b) : ∀ (s n m : Nat), n < b ^ s → m < b ^ s → (∀ i, i < s → dig b n i = dig b m i) → n = m
  | 0, n, m, h1, h2, _ => by simp at h1 h2; omega
  | s + 1, n, m, h1, h2, h => by
    have h0 := h 0 (by omega)
    simp only [dig, Nat.pow_zero, Nat.div_one] at h0
    have k := dig_inj hb s (n / b) (m / b) (Nat.div_lt_of_lt_mul (by rw [Nat.pow_succ, Nat.mul_comm] at h1; exact h1)) (Nat.div_lt_of_lt_mul (by rw [Nat.pow_succ, Nat.mul_comm] at h2; exact h2)) fun i hi => by
      rw [← dig_succ, ← dig_succ]; exact h (i + 1) (by omega)
    have e1 := Nat.mod_add_div n b
    have e2 := Nat.mod_add_div m b
    rw [h0, k] at e1
    omega
def enc (b : Nat) (v : Nat → Nat) : Nat → Nat
  | 0 => 0
  | k + 1 => enc b v k * b + v k
theorem enc_lt {b : Nat} {v : Nat → Nat} : ∀ k, (∀ j, j < k → v j < b) → enc b v k < b ^ k
  | 0, _ => by simp [enc]
  | k + 1, h => by
    have h1 := enc_lt (b := b) (v := v) k fun j hj => h j (by omega)
    have h2 := h k (by omega)
    show enc b v k * b + v k < b ^ (k + 1)
    rw [Nat.pow_succ]
    have := Nat.mul_le_mul_right b (show enc b v k + 1 ≤ b ^ k from h1)
    rw [Nat.add_mul] at this
    omega
theorem enc_inj {b : Nat} {v w : Nat → Nat} : ∀ k, (∀ j, j < k → v j < b) → (∀ j, j < k → w j < b) → enc b v k = enc b w k → ∀ j, j < k → v j = w j
  | 0, _, _, _, j, hj => by omega
  | k + 1, hv, hw, e, j, hj => by
    have e : enc b v k * b + v k = enc b w k * b + w k := e
    have a := hv k (by omega)
    have c := hw k (by omega)
    have e1 : (enc b v k * b + v k) % b = (enc b w k * b + w k) % b := by rw [e]
    rw [Nat.mul_add_mod_of_lt' a, Nat.mul_add_mod_of_lt' c] at e1
    have e2 : enc b v k * b = enc b w k * b := by omega
    have e3 := Nat.eq_of_mul_eq_mul_right (by omega) e2
    by_cases h : j = k
    · subst h; exact e1
    · exact enc_inj k (fun j hj => hv j (by omega)) (fun j hj => hw j (by omega)) e3 j (by omega)
where
  Nat.mul_add_mod_of_lt' {a b c : Nat} (h : c < b) : (a * b + c) % b = c := by
    rw [Nat.add_comm, Nat.add_mul_mod_self_right, Nat.mod_eq_of_lt h]
def isum : Nat → (Nat → Int) → Int
  | 0, _ => 0
  | k + 1, f => isum k f + f k
theorem isum_sub (f g : Nat → Int) : ∀ k, isum k (fun i => f i - g i) = isum k f - isum k g
  | 0 => rfl
  | k + 1 => by
    have := isum_sub f g k
    simp only [isum]
    omega
theorem isum_congr {f g : Nat → Int} : ∀ k, (∀ i, i < k → f i = g i) → isum k f = isum k g
  | 0, _ => rfl
  | k + 1, h => by
    simp only [isum]
    rw [isum_congr k fun i hi => h i (by omega), h k (by omega)]
theorem isum_bd {f : Nat → Int} {B : Int} : ∀ k, (∀ i, i < k → -B ≤ f i ∧ f i ≤ B) → -((k : Int) * B) ≤ isum k f ∧ isum k f ≤ (k : Int) * B
  | 0, _ => by simp [isum]
  | k + 1, h => by
    have h1 := isum_bd (f := f) k fun i hi => h i (by omega)
    have h2 := h k (by omega)
    have e : ((k + 1 : Nat) : Int) * B = (k : Int) * B + B := by rw [Int.natCast_add, Int.add_mul]; omega
    rw [e]
    simp only [isum]
    omega
/-- fewer equations than numbers -/
theorem small_sol (e X : Nat) (hX : 0 < X) (A : Nat → Nat → Int) (hA : ∀ i j, (A i j).natAbs ≤ X) :
    ∃ z : Nat → Int, (∃ i, i < e + 1 ∧ z i ≠ 0) ∧ (∀ i, (z i).natAbs ≤ (2 * (e + 1) * X) ^ e) ∧ ∀ j, j < e → isum (e + 1) (fun i => z i * A i j) = 0 := by
  by_cases he : e = 0
  · subst he
    exact ⟨fun _ => 1, ⟨0, by omega, by simp⟩, fun _ => by simp, fun j hj => by omega⟩
  · obtain ⟨q, hq⟩ : ∃ q, q = 2 * (e + 1) * X := ⟨_, rfl⟩
    rw [← hq]
    have q0 : 0 < q := by rw [hq]; exact Nat.mul_pos (by omega) hX
    obtain ⟨b, hb⟩ : ∃ b, b = q ^ e := ⟨_, rfl⟩
    have b0 : 0 < b := by rw [hb]; exact Nat.pow_pos q0
    obtain ⟨S, hS⟩ : ∃ S : Nat, S = (e + 1) * (b * X) := ⟨_, rfl⟩
    have S0 : 0 < S := by rw [hS]; exact Nat.mul_pos (by omega) (Nat.mul_pos b0 hX)
    have h2S : 2 * S = q * b := by
      rw [hS, hq]; simp only [Nat.mul_assoc, Nat.mul_comm, Nat.mul_left_comm]
    -- the values at a vector of figures
    let val : Nat → Nat → Int := fun n j => isum (e + 1) fun i => (dig b n i : Int) * A i j
    have vb : ∀ n j, -(S : Int) < val n j ∧ val n j < (S : Int) := fun n j => by
      have := isum_bd (f := fun i => (dig b n i : Int) * A i j) (B := ((b - 1 : Nat) : Int) * (X : Int)) (e + 1) fun i _ => by
        have h1 := dig_lt (n := n) (i := i) b0
        have h2 := hA i j
        have h3 : ((dig b n i : Int) * A i j).natAbs ≤ (b - 1) * X := by
          rw [Int.natAbs_mul, Int.natAbs_natCast]
          exact Nat.mul_le_mul (by omega) h2
        have h4 : (((b - 1) * X : Nat) : Int) = ((b - 1 : Nat) : Int) * (X : Int) := Int.natCast_mul _ _
        rw [← h4]
        omega
      have h5 : ((e + 1 : Nat) : Int) * (((b - 1 : Nat) : Int) * (X : Int)) < (S : Int) := by
        rw [← Int.natCast_mul, ← Int.natCast_mul, hS]
        have : (e + 1) * ((b - 1) * X) < (e + 1) * (b * X) := Nat.mul_lt_mul_of_pos_left (Nat.mul_lt_mul_of_pos_right (by omega) hX) (by omega)
        omega
      exact ⟨by show -(S : Int) < isum _ _; omega, by show isum _ _ < (S : Int); omega⟩
    let w : Nat → Nat → Nat := fun n j => (val n j + (S : Int) - 1).toNat
    have wl : ∀ n j, w n j < 2 * S - 1 := fun n j => by
      have := vb n j
      show (val n j + (S : Int) - 1).toNat < _
      omega
    obtain ⟨n, m, h1, h2, h3⟩ := pigeon ((2 * S - 1) ^ e) (b ^ (e + 1)) (fun n => enc (2 * S - 1) (w n) e) (by
      have a1 : (2 * S - 1) ^ e < (2 * S) ^ e := Nat.pow_lt_pow_left (by omega) he
      have a2 : (2 * S) ^ e = b ^ (e + 1) := by rw [h2S, Nat.mul_pow, ← hb, Nat.pow_succ, Nat.mul_comm]
      omega) fun n _ => enc_lt e fun j _ => wl n j
    have hw := enc_inj e (fun j _ => wl n j) (fun j _ => wl m j) h3
    refine ⟨fun i => (dig b n i : Int) - (dig b m i : Int), ?_, fun i => ?_, fun j hj => ?_⟩
    · refine Classical.byContradiction fun hn => ?_
      have : n = m := dig_inj b0 (e + 1) n m (by omega) h2 fun i hi => by
        have : ¬ ((dig b n i : Int) - (dig b m i : Int) ≠ 0) := fun z => hn ⟨i, hi, z⟩
        omega
      omega
    · have a1 := dig_lt (n := n) (i := i) b0
      have a2 := dig_lt (n := m) (i := i) b0
      rw [← hb]
      show ((dig b n i : Int) - (dig b m i : Int)).natAbs ≤ b
      omega
    · have e1 : val n j = val m j := by
        have := hw j hj
        have b1 := vb n j
        have b2 := vb m j
        have h4 : (val n j + (S : Int) - 1).toNat = (val m j + (S : Int) - 1).toNat := this
        omega
      have e2 : isum (e + 1) (fun i => ((dig b n i : Int) - (dig b m i : Int)) * A i j) = isum (e + 1) fun i => (dig b n i : Int) * A i j - (dig b m i : Int) * A i j := isum_congr _ fun i _ => Int.sub_mul _ _ _
      show isum (e + 1) (fun i => ((dig b n i : Int) - (dig b m i : Int)) * A i j) = 0
      rw [e2, isum_sub]
      show val n j - val m j = 0
      omega
end MX

/-! M2: how rows are put out, and what it keeps. -/
namespace MX
def Spn (W : Nat) (M : List (List Rat)) (u : Vc) : Prop := ∃ y : Vc, ∀ j, j < W → u j = sm M.length fun i => y i * at2 M i j
theorem Spn.lin {W : Nat} {M : List (List Rat)} {u v : Vc} (a b : Rat) (hu : Spn W M u) (hv : Spn W M v) : Spn W M fun j => a * u j + b * v j := by
  obtain ⟨y, e⟩ := hu
  obtain ⟨z, f⟩ := hv
  refine ⟨fun i => a * y i + b * z i, fun j hj => ?_⟩
  show a * u j + b * v j = _
  rw [e j hj, f j hj, ← sm_lin]
  exact sm_congr fun i _ => by grind
theorem Spn.base {W : Nat} {M : List (List Rat)} {r : List Rat} (h : r ∈ M) : Spn W M (g r) := by
  obtain ⟨k, hk, e⟩ := mem_at h
  refine ⟨fun i => if i = k then 1 else 0, fun j _ => ?_⟩
  rw [sm_one (a := k) hk fun i _ hn => by simp [hn]]
  simp only [if_true]
  unfold at2
  rw [e]
  grind
theorem Spn.congr {W : Nat} {M : List (List Rat)} {u v : Vc} (h : Spn W M u) (e : ∀ j, j < W → v j = u j) : Spn W M v := by
  obtain ⟨y, f⟩ := h
  exact ⟨y, fun j hj => by rw [e j hj, f j hj]⟩
theorem g_ge {r : List Rat} {j : Nat} (h : r.length ≤ j) : g r j = 0 := by simp [g, List.getD_eq_getElem?_getD, List.getElem?_eq_none h]
/-- what is divided by its leading one -/
def nrm (q : List Rat) (c : Nat) : List Rat := q.map fun x => x / g q c
def upd (p : List Rat) (c : Nat) (r : List Rat) : List Rat := (List.range r.length).map fun j => g r j - g r c * g p j
theorem nrm_len (q : List Rat) (c : Nat) : (nrm q c).length = q.length := by simp [nrm]
theorem upd_len (p : List Rat) (c : Nat) (r : List Rat) : (upd p c r).length = r.length := by simp [upd]
theorem g_nrm (q : List Rat) (c j : Nat) : g (nrm q c) j = g q j / g q c := by
  by_cases h : j < q.length
  · simp [g, nrm, List.getD_eq_getElem?_getD, List.getElem?_eq_getElem, h]
  · rw [g_ge (by rw [nrm_len]; omega), g_ge (r := q) (by omega)]
    grind
theorem g_upd {p r : List Rat} (c : Nat) (hl : p.length = r.length) (j : Nat) : g (upd p c r) j = g r j - g r c * g p j := by
  by_cases h : j < r.length
  · simp [g, upd, List.getD_eq_getElem?_getD, h]
  · rw [g_ge (by rw [upd_len]; omega), g_ge (r := r) (by omega), g_ge (r := p) (by omega)]
    grind
def ScV (d X : Nat) (r : List Rat) : Prop := ∀ j, ∃ m : Int, g r j * (d : Rat) = (m : Rat) ∧ m.natAbs ≤ X
theorem Spn.zero {W : Nat} {T : List (List Rat)} : Spn W T fun _ => 0 := ⟨fun _ => 0, fun j _ => (sm_zero fun i _ => by grind).symm⟩
theorem Spn.sum {W : Nat} {B : List (List Rat)} (y : Nat → Rat) (f : Nat → Vc) : ∀ n, (∀ i, i < n → Spn W B (f i)) → Spn W B fun j => sm n fun i => y i * f i j
  | 0, _ => Spn.zero
  | n + 1, h => ((Spn.sum y f n fun i hi => h i (by omega)).lin 1 (y n) (h n (by omega))).congr fun j _ => by
    show sm (n + 1) _ = _
    simp only [sm]
    grind
theorem Spn.trans {W : Nat} {A B : List (List Rat)} {u : Vc} (h : Spn W A u) (s : ∀ a ∈ A, Spn W B (g a)) : Spn W B u := by
  obtain ⟨y, e⟩ := h
  exact (Spn.sum y (fun i j => at2 A i j) A.length fun i hi => s _ (at_mem hi)).congr fun j hj => e j hj
structure Inv (n W c : Nat) (M T R : List (List Rat)) (L : List Nat) : Prop where
  nW : n ≤ W
  cn : c ≤ n
  len : T.length = L.length
  wT : ∀ r ∈ T, r.length = W
  wR : ∀ r ∈ R, r.length = W
  lt : ∀ l ∈ L, l < c
  sorted : L.Pairwise (· < ·)
  one : ∀ k l, L[k]? = some l → at2 T k l = 1
  off : ∀ i k l, L[k]? = some l → i ≠ k → at2 T i l = 0
  low : ∀ k l j, L[k]? = some l → j < l → at2 T k j = 0
  rz : ∀ r ∈ R, ∀ j, j < c → g r j = 0
  nul : ∀ x, (Nul W T x ∧ Nul W R x) ↔ Nul W M x
  sp : ∀ r, r ∈ T ∨ r ∈ R → Spn W M (g r)
  tot : T.length + R.length = M.length
  pv : ∃ P : List (List Rat), P.length = T.length ∧ (∀ p ∈ P, p ∈ M) ∧ (∀ z : Vc, (∀ j, j < W → sm P.length (fun i => z i * at2 P i j) = 0) → ∀ i, i < P.length → z i = 0) ∧ (∀ p ∈ P, Spn W T (g p)) ∧ (∀ r ∈ R, ∃ q ∈ M, Spn W T (fun j => g r j - g q j)) ∧ ∀ t ∈ T, Spn W P (g t)
theorem Inv.start {n W : Nat} {M : List (List Rat)} (nW : n ≤ W) (w : ∀ r ∈ M, r.length = W) : Inv n W 0 M [] M [] := by
  refine ⟨nW, Nat.zero_le _, rfl, by simp, w, by simp, .nil, by simp, by simp, by simp, fun r _ j hj => by omega, fun x => by simp [Nul], fun r h => ?_, by simp, [], rfl, by simp, fun z _ i hi => by simp at hi, by simp, fun r hr => ⟨r, hr, Spn.zero.congr fun j _ => by grind⟩, by simp⟩
  rcases h with h | h
  · simp at h
  · exact .base h
theorem spn_zero {n W c : Nat} {M T R : List (List Rat)} {L : List Nat} (I : Inv n W c M T R L) {u : Vc} (h : Spn W T u) (z : ∀ l ∈ L, u l = 0) : ∀ j, j < W → u j = 0 := by
  obtain ⟨y, e⟩ := h
  have y0 : ∀ k, k < T.length → y k = 0 := fun k hk => by
    have hk' : k < L.length := by rw [← I.len]; exact hk
    have gl : L[k]? = some L[k] := List.getElem?_eq_getElem hk'
    have hm : L[k] ∈ L := List.getElem_mem hk'
    have hl := I.lt _ hm
    have h1 := e L[k] (by have := I.cn; have := I.nW; omega)
    rw [z _ hm, sm_one (a := k) hk fun i _ hn => by rw [I.off i k _ gl hn]; grind] at h1
    rw [I.one k _ gl] at h1
    grind
  intro j hj
  rw [e j hj]
  exact sm_zero fun i hi => by rw [y0 i hi]; grind
theorem Inv.skip {n W c : Nat} {M T R : List (List Rat)} {L : List Nat} (I : Inv n W c M T R L) (hc : c < n) (z : ∀ r ∈ R, g r c = 0) : Inv n W (c + 1) M T R L :=
  { I with
    cn := hc
    lt := fun l hl => by have := I.lt l hl; omega
    rz := fun r hr j hj => by
      by_cases e : j = c
      · subst e; exact z r hr
      · exact I.rz r hr j (by omega) }
theorem at2_app {T : List (List Rat)} {p : List Rat} {f : List Rat → List Rat} (k j : Nat) : at2 (T.map f ++ [p]) k j = if k < T.length then g (f (T.getD k [])) j else if k = T.length then g p j else 0 := by
  unfold at2
  by_cases h : k < T.length
  · simp [List.getD_eq_getElem?_getD, h, List.getElem?_append_left]
  · rw [if_neg h]
    by_cases e : k = T.length
    · subst e
      simp [List.getD_eq_getElem?_getD]
    · rw [if_neg e]
      have : (T.map f ++ [p]).getD k [] = [] := by
        rw [List.getD_eq_getElem?_getD, List.getElem?_eq_none (by simp; omega)]
        rfl
      rw [this]
      exact g_ge (by simp)
theorem get_app {L : List Nat} {c k l : Nat} (h : (L ++ [c])[k]? = some l) : L[k]? = some l ∨ (k = L.length ∧ l = c) := by
  rcases Nat.lt_trichotomy k L.length with z | z | z
  · exact .inl (by rwa [List.getElem?_append_left z] at h)
  · subst z
    right
    simp at h
    exact ⟨rfl, h.symm⟩
  · rw [List.getElem?_eq_none (by simp; omega)] at h
    cases h
theorem dt_upd {W c : Nat} {p r : List Rat} (hl : p.length = r.length) (x : Vc) : dt W (g (upd p c r)) x = dt W (g r) x - g r c * dt W (g p) x := by
  have : dt W (g (upd p c r)) x = dt W (fun j => 1 * g r j + (- g r c) * g p j) x := by
    unfold dt
    exact sm_congr fun j _ => by rw [g_upd c hl]; grind
  rw [this, dt_lin]
  grind
theorem dt_nrm {W c : Nat} {q : List Rat} (x : Vc) : dt W (g (nrm q c)) x = dt W (g q) x / g q c := by
  have : dt W (g (nrm q c)) x = dt W (fun j => (1 / g q c) * g q j + 0 * g q j) x := by
    unfold dt
    exact sm_congr fun j _ => by rw [g_nrm]; grind
  rw [this, dt_lin]
  grind
theorem Inv.step {n W c : Nat} {M T R R' : List (List Rat)} {L : List Nat} {q : List Rat} (I : Inv n W c M T R L) (hc : c < n) (hp : R.Perm (q :: R')) (h0 : g q c ≠ 0) :
    Inv n W (c + 1) M (T.map (upd (nrm q c) c) ++ [nrm q c]) (R'.map (upd (nrm q c) c)) (L ++ [c]) := by
  have mq : q ∈ R := hp.mem_iff.mpr (by simp)
  have mR : ∀ r ∈ R', r ∈ R := fun r h => hp.mem_iff.mpr (by simp [h])
  have wq := I.wR q mq
  have wp : (nrm q c).length = W := by rw [nrm_len, wq]
  have pz : ∀ j, j < c → g (nrm q c) j = 0 := fun j hj => by rw [g_nrm, I.rz q mq j hj]; grind
  have p1 : g (nrm q c) c = 1 := by rw [g_nrm]; grind
  have gT : ∀ r ∈ T, ∀ j, g (upd (nrm q c) c r) j = g r j - g r c * g (nrm q c) j := fun r hr j => g_upd c (by rw [wp, I.wT r hr]) j
  have gR : ∀ r ∈ R', ∀ j, g (upd (nrm q c) c r) j = g r j - g r c * g (nrm q c) j := fun r hr j => g_upd c (by rw [wp, I.wR r (mR r hr)]) j
  have aT : ∀ k j, k < T.length → g (upd (nrm q c) c (T.getD k [])) j = at2 T k j - at2 T k c * g (nrm q c) j := fun k j hk => gT _ (at_mem hk) j
  have l1 : ∀ k l, L[k]? = some l → k < T.length := fun k l h => by rw [I.len]; exact (List.getElem?_eq_some_iff.mp h).1
  have lc : ∀ k l, L[k]? = some l → l < c := fun k l h => I.lt l (List.mem_of_getElem? h)
  refine ⟨I.nW, hc, by simp [I.len], ?_, ?_, ?_, ?_, ?_, ?_, ?_, ?_, ?_, ?_, ?_, ?_⟩
  · intro r hr
    rcases List.mem_append.mp hr with z | z
    · obtain ⟨s, hs, rfl⟩ := List.mem_map.mp z
      rw [upd_len, I.wT s hs]
    · rw [List.mem_singleton] at z
      rw [z, wp]
  · intro r hr
    obtain ⟨s, hs, rfl⟩ := List.mem_map.mp hr
    rw [upd_len, I.wR s (mR s hs)]
  · intro l hl
    rcases List.mem_append.mp hl with z | z
    · have := I.lt l z; omega
    · rw [List.mem_singleton] at z; omega
  · rw [List.pairwise_append]
    exact ⟨I.sorted, List.pairwise_singleton _ _, fun a ha b hb => by rw [List.mem_singleton] at hb; rw [hb]; exact I.lt a ha⟩
  · intro k l h
    rw [at2_app]
    rcases get_app h with z | ⟨rfl, rfl⟩
    · rw [if_pos (l1 k l z), aT k l (l1 k l z), I.one k l z, pz l (lc k l z)]
      grind
    · rw [if_neg (by rw [I.len]; omega), if_pos I.len.symm, p1]
  · intro i k l h hik
    rw [at2_app]
    rcases get_app h with z | ⟨rfl, rfl⟩
    · by_cases hi : i < T.length
      · rw [if_pos hi, aT i l hi, I.off i k l z hik, pz l (lc k l z)]
        grind
      · rw [if_neg hi]
        split
        · exact pz l (lc k l z)
        · rfl
    · by_cases hi : i < T.length
      · rw [if_pos hi, aT i l hi, p1]
        grind
      · rw [if_neg hi, if_neg (by rw [I.len]; exact hik)]
  · intro k l j h hj
    rw [at2_app]
    rcases get_app h with z | ⟨rfl, rfl⟩
    · rw [if_pos (l1 k l z), aT k j (l1 k l z), I.low k l j z hj, pz j (by have := lc k l z; omega)]
      grind
    · rw [if_neg (by rw [I.len]; omega), if_pos I.len.symm]
      exact pz j hj
  · intro r hr j hj
    obtain ⟨s, hs, rfl⟩ := List.mem_map.mp hr
    rw [gR s hs]
    by_cases e : j = c
    · subst e; rw [p1]; grind
    · rw [I.rz s (mR s hs) j (by omega), pz j (by omega)]; grind
  · intro x
    rw [← I.nul x]
    have eT : ∀ r ∈ T, dt W (g (upd (nrm q c) c r)) x = dt W (g r) x - g r c * dt W (g (nrm q c)) x := fun r hr => dt_upd (by rw [wp, I.wT r hr]) x
    have eR : ∀ r ∈ R', dt W (g (upd (nrm q c) c r)) x = dt W (g r) x - g r c * dt W (g (nrm q c)) x := fun r hr => dt_upd (by rw [wp, I.wR r (mR r hr)]) x
    have eq := dt_nrm (W := W) (c := c) (q := q) x
    constructor
    · rintro ⟨h1, h2⟩
      rw [nul_app] at h1
      have hpz : dt W (g (nrm q c)) x = 0 := h1.2 _ (by simp)
      have hqz : dt W (g q) x = 0 := by rw [hpz] at eq; grind
      refine ⟨fun r hr => ?_, fun r hr => ?_⟩
      · have := h1.1 _ (List.mem_map_of_mem hr)
        rw [eT r hr, hpz] at this; grind
      · rcases List.mem_cons.mp (hp.mem_iff.mp hr) with z | z
        · rw [z, hqz]
        · have := h2 _ (List.mem_map_of_mem z)
          rw [eR r z, hpz] at this; grind
    · rintro ⟨h1, h2⟩
      have hpz : dt W (g (nrm q c)) x = 0 := by rw [eq, h2 q mq]; grind
      rw [nul_app]
      refine ⟨⟨fun r hr => ?_, fun r hr => ?_⟩, fun r hr => ?_⟩
      · obtain ⟨s, hs, rfl⟩ := List.mem_map.mp hr
        rw [eT s hs, hpz, h1 s hs]; grind
      · rw [List.mem_singleton] at hr
        rw [hr, hpz]
      · obtain ⟨s, hs, rfl⟩ := List.mem_map.mp hr
        rw [eR s hs, hpz, h2 s (mR s hs)]; grind
  · have sq := I.sp q (.inr mq)
    have spp : Spn W M (g (nrm q c)) := (sq.lin (1 / g q c) 0 sq).congr fun j _ => by rw [g_nrm]; grind
    have su : ∀ s, s.length = W → Spn W M (g s) → Spn W M (g (upd (nrm q c) c s)) := fun s hw hs => (hs.lin 1 (- g s c) spp).congr fun j _ => by rw [g_upd c (by rw [wp, hw])]; grind
    intro r hr
    rcases hr with hr | hr
    · rcases List.mem_append.mp hr with z | z
      · obtain ⟨s, hs, rfl⟩ := List.mem_map.mp z
        exact su s (I.wT s hs) (I.sp s (.inl hs))
      · rw [List.mem_singleton] at z
        rw [z]; exact spp
    · obtain ⟨s, hs, rfl⟩ := List.mem_map.mp hr
      exact su s (I.wR s (mR s hs)) (I.sp s (.inr (mR s hs)))
  · have := hp.length_eq
    have t := I.tot
    simp only [List.length_append, List.length_map, List.length_cons, List.length_nil] at this ⊢
    omega
  · obtain ⟨P, P1, P2, P3, P4, P5, P6⟩ := I.pv
    obtain ⟨q0, mq0, hq0⟩ := P5 q mq
    have tp : Spn W (T.map (upd (nrm q c) c) ++ [nrm q c]) (g (nrm q c)) := .base (by simp)
    have tT : ∀ t ∈ T, Spn W (T.map (upd (nrm q c) c) ++ [nrm q c]) (g t) := fun t ht =>
      ((Spn.base (show upd (nrm q c) c t ∈ T.map (upd (nrm q c) c) ++ [nrm q c] by simp; exact .inl ⟨t, ht, rfl⟩)).lin 1 (g t c) tp).congr fun j _ => by rw [gT t ht]; grind
    have tq : Spn W (T.map (upd (nrm q c) c) ++ [nrm q c]) (g q) := (tp.lin (g q c) 0 tp).congr fun j _ => by rw [g_nrm]; grind
    have lenP : (P ++ [q0]).length = P.length + 1 := by simp
    have atP : ∀ i j, i < P.length → at2 (P ++ [q0]) i j = at2 P i j := fun i j hi => by
      unfold at2
      rw [List.getD_eq_getElem?_getD, List.getElem?_append_left hi, ← List.getD_eq_getElem?_getD]
    have atq : ∀ j, at2 (P ++ [q0]) P.length j = g q0 j := fun j => by
      unfold at2
      simp [List.getD_eq_getElem?_getD]
    have pp : ∀ p ∈ P, Spn W (P ++ [q0]) (g p) := fun p hp' => .base (by simp [hp'])
    have pq : Spn W (P ++ [q0]) (g q) := ((hq0.trans fun t ht => (P6 t ht).trans pp).lin 1 1 (Spn.base (show q0 ∈ P ++ [q0] by simp))).congr fun j _ => by grind
    have pn : Spn W (P ++ [q0]) (g (nrm q c)) := (pq.lin (1 / g q c) 0 pq).congr fun j _ => by rw [g_nrm]; grind
    refine ⟨P ++ [q0], by simp [P1], fun p hp' => ?_, fun z hz => ?_, fun p hp' => ?_, fun r hr => ?_, fun t ht => ?_⟩
    · rcases List.mem_append.mp hp' with h | h
      · exact P2 p h
      · rw [List.mem_singleton] at h; rw [h]; exact mq0
    · have hz' : ∀ j, j < W → sm P.length (fun i => z i * at2 P i j) + z P.length * g q0 j = 0 := fun j hj => by
        have := hz j hj
        rw [lenP] at this
        simp only [sm] at this
        rw [atq] at this
        rw [← this]
        congr 1
        exact sm_congr fun i hi => by rw [atP i j hi]
      have sP : Spn W T fun j => sm P.length fun i => z i * at2 P i j := Spn.sum z (fun i j => at2 P i j) P.length fun i hi => P4 _ (at_mem hi)
      have sq : Spn W T fun j => z P.length * g q j := (hq0.lin (z P.length) (-1) sP).congr fun j hj => by have := hz' j hj; grind
      have z0 := spn_zero I sq (fun l hl => by rw [I.rz q mq l (I.lt l hl)]; grind) c (by have := I.nW; omega)
      have zs : z P.length = 0 := by
        rcases Rat.mul_eq_zero.mp z0 with h | h
        · exact h
        · exact absurd h h0
      have zi := P3 z fun j hj => by have := hz' j hj; rw [zs] at this; grind
      intro i hi
      rw [lenP] at hi
      by_cases h : i = P.length
      · rw [h]; exact zs
      · exact zi i (by omega)
    · rcases List.mem_append.mp hp' with h | h
      · exact (P4 p h).trans tT
      · rw [List.mem_singleton] at h
        rw [h]
        exact (tq.lin 1 (-1) (hq0.trans tT)).congr fun j _ => by grind
    · obtain ⟨s, hs, rfl⟩ := List.mem_map.mp hr
      obtain ⟨qs, m1, m2⟩ := P5 s (mR s hs)
      exact ⟨qs, m1, ((m2.trans tT).lin 1 (- g s c) tp).congr fun j _ => by rw [gR s hs]; grind⟩
    · rcases List.mem_append.mp ht with h | h
      · obtain ⟨s, hs, rfl⟩ := List.mem_map.mp h
        exact (((P6 s hs).trans pp).lin 1 (- g s c) pn).congr fun j _ => by rw [gT s hs]; grind
      · rw [List.mem_singleton] at h
        rw [h]; exact pn
end MX

/-! M3: what follows: one table for one space, points, ways, rows made of rows. -/
namespace MX
section
variable {n W : Nat} {M T R T' R' : List (List Rat)} {L L' : List Nat}
theorem Inv.ext_ (M : List (List Rat)) (nW : n ≤ W) (w : ∀ r ∈ M, r.length = W) : ∀ c, c ≤ n → ∃ T R L, Inv n W c M T R L := by
  intro c
  induction c with
  | zero => exact fun _ => ⟨_, _, _, Inv.start nW w⟩
  | succ c ih =>
    intro hc
    obtain ⟨T, R, L, I⟩ := ih (by omega)
    by_cases h : ∃ q ∈ R, g q c ≠ 0
    · obtain ⟨q, hq, h0⟩ := h
      exact ⟨_, _, _, I.step (by omega) (List.perm_cons_erase hq) h0⟩
    · exact ⟨_, _, _, I.skip (by omega) fun r hr => Classical.byContradiction fun z => h ⟨r, hr, z⟩⟩
theorem Inv.exX {M : List (List Rat)} (nW : n ≤ W) (w : ∀ r ∈ M, r.length = W) : ∃ T R L, Inv n W n M T R L := Inv.ext_ M nW w n (Nat.le_refl _)
theorem Inv.rr (I : Inv n W n M T R L) : RR n T L := ⟨I.len, I.lt, I.sorted, I.one, I.off, I.low⟩
theorem Inv.nulR (I : Inv n W n M T R L) {x : Vc} (hx : ∀ j, n ≤ j → j < W → ∀ r ∈ R, g r j * x j = 0) : Nul W R x := fun r hr => sm_zero fun j hj => by
  by_cases h : j < n
  · rw [I.rz r hr j h]; grind
  · exact hx j (by omega) hj r hr
theorem Inv.nul0 (I : Inv n n n M T R L) (x : Vc) : Nul n T x ↔ Nul n M x := by
  rw [← I.nul x]
  exact ⟨fun h => ⟨h, I.nulR fun j h1 h2 => by omega⟩, fun h => h.1⟩
/-- two ways, one table -/
theorem Inv.uniq (I : Inv n n n M T R L) (J : Inv n n n M T' R' L') : T = T' ∧ L = L' := by
  have e : L = L' := leads_eq I.rr J.rr fun x => by rw [I.nul0, J.nul0]
  subst e
  exact ⟨table_eq I.rr J.rr (fun x h => (I.nul0 x).mpr ((J.nul0 x).mp h)) I.wT J.wT, rfl⟩
theorem rank_zero (I : Inv n W n M T R L) : L.length ≤ M.length := by
  have := I.tot; have := I.len; omega
/-- rows with goals behind -/
def aug (n : Nat) (M : List (List Rat)) (b : Vc) : List (List Rat) := (List.range M.length).map fun i => M.getD i [] ++ [b i]
theorem g_snoc {r : List Rat} {z : Rat} {j : Nat} (hl : r.length = n) : g (r ++ [z]) j = if j < n then g r j else if j = n then z else 0 := by
  subst hl
  by_cases h : j < r.length
  · simp [g, List.getD_eq_getElem?_getD, h, List.getElem?_append_left]
  · rw [if_neg h]
    by_cases e : j = r.length
    · subst e; simp [g, List.getD_eq_getElem?_getD]
    · rw [if_neg e, g_ge (by simp; omega)]
theorem dt_snoc {r : List Rat} {z : Rat} (hl : r.length = n) (x : Vc) : dt (n + 1) (g (r ++ [z])) x = dt n (g r) x + z * x n := by
  unfold dt
  show sm n _ + g (r ++ [z]) n * x n = _
  rw [sm_congr (n := n) (h := fun j => g r j * x j) fun j hj => by rw [g_snoc hl, if_pos hj], g_snoc hl, if_neg (by omega), if_pos rfl]
theorem mem_aug {b : Vc} {r : List Rat} : r ∈ aug n M b ↔ ∃ i, i < M.length ∧ r = M.getD i [] ++ [b i] := by
  unfold aug
  simp only [List.mem_map, List.mem_range]
  exact ⟨fun ⟨i, h, e⟩ => ⟨i, h, e.symm⟩, fun ⟨i, h, e⟩ => ⟨i, h, e.symm⟩⟩
theorem aug_len {b : Vc} (w : ∀ r ∈ M, r.length = n) : ∀ r ∈ aug n M b, r.length = n + 1 := fun r hr => by
  obtain ⟨i, hi, rfl⟩ := mem_aug.mp hr
  rw [List.length_append, List.length_singleton, w _ (at_mem hi)]
theorem nul_aug {b x : Vc} (w : ∀ r ∈ M, r.length = n) : Nul (n + 1) (aug n M b) x ↔ ∀ i, i < M.length → dt n (g (M.getD i [])) x + b i * x n = 0 := by
  constructor
  · intro h i hi
    rw [← dt_snoc (w _ (at_mem hi))]
    exact h _ (mem_aug.mpr ⟨i, hi, rfl⟩)
  · intro h r hr
    obtain ⟨i, hi, rfl⟩ := mem_aug.mp hr
    rw [dt_snoc (w _ (at_mem hi))]
    exact h i hi
theorem dt_cut {r : List Rat} (x : Vc) : dt (n + 1) (g r) (fun j => if j = n then 0 else x j) = dt n (g r) x := by
  unfold dt
  show sm n _ + _ = _
  rw [sm_congr (n := n) (h := fun j => g r j * x j) fun j hj => by simp [show j ≠ n by omega]]
  simp
  grind
/-- the leads of the rows alone -/
theorem Inv.aug_leads {b : Vc} (w : ∀ r ∈ M, r.length = n) (I : Inv n (n + 1) n (aug n M b) T R L) (J : Inv n n n M T' R' L') : L = L' := by
  refine leads_eq I.rr J.rr fun x => ?_
  rw [J.nul0 x]
  have h1 := I.nul (fun j => if j = n then 0 else x j)
  rw [nul_aug w] at h1
  have hR : Nul (n + 1) R (fun j => if j = n then 0 else x j) := I.nulR fun j a b r hr => by rw [if_pos (by omega)]; grind
  constructor
  · intro h r hr
    rw [← dt_cut]
    refine (h1.mpr fun i hi => ?_).1 r hr
    have := dt_cut (r := M.getD i []) (n := n) x
    have e : dt n (g (M.getD i [])) (fun j => if j = n then 0 else x j) = dt n (g (M.getD i [])) x := by
      unfold dt
      exact sm_congr fun j hj => by simp [show j ≠ n by omega]
    rw [e, h _ (at_mem hi)]
    simp
    grind
  · intro h r hr
    have h2 := h1.mp ⟨fun r hr => by rw [dt_cut]; exact h r hr, hR⟩
    obtain ⟨i, hi, rfl⟩ := mem_at hr
    have := h2 i hi
    have e : dt n (g (M.getD i [])) (fun j => if j = n then 0 else x j) = dt n (g (M.getD i [])) x := by
      unfold dt
      exact sm_congr fun j hj => by simp [show j ≠ n by omega]
    rw [e] at this
    simp at this
    grind
/-- the point that the table tells -/
def pnt (T : List (List Rat)) (L : List Nat) (n : Nat) : Vc := fun j => if j ∈ L then at2 T (L.idxOf j) n else 0
theorem Inv.rr1 (I : Inv n (n + 1) n M T R L) : RR (n + 1) T L := ⟨I.len, fun l h => by have := I.lt l h; omega, I.sorted, I.one, I.off, I.low⟩
theorem Inv.not_n (I : Inv n W n M T R L) : n ∉ L := fun h => by have := I.lt n h; omega
theorem Inv.way_n {b : Vc} (w : ∀ r ∈ M, r.length = n) (I : Inv n (n + 1) n (aug n M b) T R L) (z : ∀ r ∈ R, g r n = 0) : Nul (n + 1) (aug n M b) (way T L n) := by
  refine (I.nul _).mp ⟨way_nul I.rr1 (by omega) I.not_n, I.nulR fun j h1 h2 r hr => ?_⟩
  have : j = n := by omega
  subst this
  rw [z r hr]; grind
theorem Inv.point {b : Vc} (w : ∀ r ∈ M, r.length = n) (I : Inv n (n + 1) n (aug n M b) T R L) (z : ∀ r ∈ R, g r n = 0) : ∀ i, i < M.length → dt n (g (M.getD i [])) (pnt T L n) = b i := fun i hi => by
  have h := (nul_aug w).mp (I.way_n w z) i hi
  rw [way_self] at h
  have e : dt n (g (M.getD i [])) (way T L n) = dt n (g (M.getD i [])) (fun j => (-1) * pnt T L n j + 0 * pnt T L n j) := by
    unfold dt
    refine sm_congr fun j hj => ?_
    by_cases hm : j ∈ L
    · rw [way_lead I.rr1 (idx_get hm) (by omega)]
      simp [pnt, hm]
      grind
    · rw [way_free hm (by omega)]
      simp [pnt, hm]
      grind
  rw [e, dt_linR] at h
  grind
/-- no point: numbers that tell why -/
theorem Inv.none_ {b : Vc} (w : ∀ r ∈ M, r.length = n) (I : Inv n (n + 1) n (aug n M b) T R L) {r : List Rat} (hr : r ∈ R) (z : g r n ≠ 0) : ∃ y : Vc, (∀ j, j < n → sm M.length (fun i => y i * at2 M i j) = 0) ∧ sm M.length (fun i => y i * b i) ≠ 0 := by
  obtain ⟨y, hy⟩ := I.sp r (.inr hr)
  have el : (aug n M b).length = M.length := by simp [aug]
  have ea : ∀ i, i < M.length → (aug n M b).getD i [] = M.getD i [] ++ [b i] := fun i hi => by simp [aug, List.getD_eq_getElem?_getD, hi]
  rw [el] at hy
  refine ⟨y, fun j hj => ?_, fun q => z ?_⟩
  · rw [← I.rz r hr j hj, hy j (by omega)]
    refine sm_congr fun i hi => ?_
    unfold at2
    rw [ea i hi, g_snoc (w _ (at_mem hi)), if_pos hj]
  · rw [hy n (by omega), ← q]
    refine sm_congr fun i hi => ?_
    unfold at2
    rw [ea i hi, g_snoc (w _ (at_mem hi)), if_neg (by omega), if_pos rfl]
theorem none_not {b x y : Vc} (h : ∀ i, i < M.length → dt n (g (M.getD i [])) x = b i) (h1 : ∀ j, j < n → sm M.length (fun i => y i * at2 M i j) = 0) : sm M.length (fun i => y i * b i) = 0 := by
  have e : sm M.length (fun i => y i * b i) = sm M.length (fun i => sm n fun j => (y i * at2 M i j) * x j) := sm_congr fun i hi => by
    rw [← h i hi]
    unfold dt
    rw [← sm_mul]
    exact sm_congr fun j _ => by unfold at2; grind
  rw [e, sm_swap]
  refine sm_zero fun j hj => ?_
  have : sm M.length (fun i => y i * at2 M i j * x j) = sm M.length (fun i => x j * (y i * at2 M i j)) := sm_congr fun i _ => by grind
  rw [this, sm_mul, h1 j hj]
  grind
/-- the whole table leads in the goals' column just where there is no point -/
theorem Inv.ends {b : Vc} (w : ∀ r ∈ M, r.length = n) (I : Inv n (n + 1) n (aug n M b) T R L) (J : Inv (n + 1) (n + 1) (n + 1) (aug n M b) T' R' L') : n ∈ L' ↔ ∃ r ∈ R, g r n ≠ 0 := by
  constructor
  · intro hm
    refine Classical.byContradiction fun q => ?_
    have z : ∀ r ∈ R, g r n = 0 := fun r hr => Classical.byContradiction fun k => q ⟨r, hr, k⟩
    have := lead_of J.rr hm ((J.nul0 _).mpr (I.way_n w z)) fun j h1 h2 => by omega
    rw [way_self] at this
    grind
  · rintro ⟨r, hr, z⟩
    refine Classical.byContradiction fun q => ?_
    obtain ⟨y, h1, h2⟩ := I.none_ w hr z
    have h3 := (nul_aug w).mp ((J.nul0 _).mp (way_nul J.rr (by omega) q))
    refine h2 (none_not (x := fun j => (-1) * way T' L' n j + 0 * way T' L' n j) (n := n) (fun i hi => ?_) h1)
    rw [dt_linR]
    have := h3 i hi
    rw [way_self] at this
    grind
/-- rows with one more: no more leads just where the one is made of them -/
theorem nul_snoc {M : List (List Rat)} {r : List Rat} {x : Vc} : Nul n (M ++ [r]) x ↔ Nul n M x ∧ dt n (g r) x = 0 := by
  rw [nul_app]
  simp [Nul]
theorem Inv.same_rank {goal : List Rat} (I : Inv n n n M T R L) (J : Inv n n n (M ++ [goal]) T' R' L') : L'.length = L.length ↔ ∀ x, Nul n M x → dt n (g goal) x = 0 := by
  have s : ∀ x, Nul n T' x → Nul n T x := fun x h => (I.nul0 x).mpr (nul_snoc.mp ((J.nul0 x).mp h)).1
  constructor
  · intro e x hx
    have el : L = L' := sorted_eq I.sorted J.sorted (leads_sub I.rr J.rr s) e.symm
    subst el
    have : Nul n T' x := fun r hr => by
      obtain ⟨k, hk, rfl⟩ := mem_at hr
      have h1 := (I.nul0 x).mpr hx
      have hk' : k < L.length := by rw [← J.len]; exact hk
      rw [← h1 _ (at_mem (A := T) (k := k) (by rw [I.len]; exact hk'))]
      unfold dt
      exact sm_congr fun j hj => by
        have := rows_eq I.rr J.rr s hk' hj
        unfold at2 at this
        rw [this]
    exact (nul_snoc.mp ((J.nul0 x).mp this)).2
  · intro h
    have : L' = L := leads_eq J.rr I.rr fun x => by
      rw [I.nul0, J.nul0, nul_snoc]
      exact ⟨fun a => ⟨a, h x a⟩, fun a => a.1⟩
    rw [this]
/-- more unknowns than rows -/
theorem some_nul (f : Nat → Nat → Rat) {a b : Nat} (h : a < b) : ∃ z : Vc, (∃ i, i < b ∧ z i ≠ 0) ∧ ∀ k, k < a → sm b (fun i => f k i * z i) = 0 := by
  obtain ⟨T, R, L, I⟩ := Inv.ext_ (n := b) (W := b) ((List.range a).map fun k => (List.range b).map fun i => f k i) (Nat.le_refl _) (by simp) b (Nat.le_refl _)
  have hl : L.length < b := by
    have := rank_zero I
    simp at this
    omega
  obtain ⟨c, hc, hm⟩ := free_of I.rr hl
  refine ⟨way T L c, ⟨c, hc, by rw [way_self]; grind⟩, fun k hk => ?_⟩
  have := (I.nul0 _).mp (way_nul I.rr hc hm) ((List.range b).map fun i => f k i) (List.mem_map.mpr ⟨k, List.mem_range.mpr hk, rfl⟩)
  unfold dt at this
  rw [← this]
  exact sm_congr fun i hi => by simp [g, List.getD_eq_getElem?_getD, hi]
/-! ### ways -/
def frees (n : Nat) (L : List Nat) : List Nat := (List.range n).filter fun c => !L.contains c
def wayL (T : List (List Rat)) (L : List Nat) (n c : Nat) : List Rat := (List.range n).map (way T L c)
def waysL (T : List (List Rat)) (L : List Nat) (n : Nat) : List (List Rat) := (frees n L).map (wayL T L n)
theorem mem_frees {c : Nat} : c ∈ frees n L ↔ c < n ∧ c ∉ L := by simp [frees]
theorem cnt_sub : ∀ (L : List Nat) (S : List Nat), L.Pairwise (· < ·) → S.Pairwise (· < ·) → (∀ c ∈ L, c ∈ S) → (S.filter fun c => !L.contains c).length + L.length = S.length := by
  intro L S hL hS hs
  have h1 : L = S.filter fun c => L.contains c := sorted_eq2 hL (hS.filter _) (fun c hc => by simp [hc, hs c hc]) fun c hc => by simp at hc; exact hc.2
  have h2 : ∀ S : List Nat, (S.filter fun c => !L.contains c).length + (S.filter fun c => L.contains c).length = S.length := by
    intro S
    induction S with
    | nil => rfl
    | cons a s ih =>
      rw [List.filter_cons, List.filter_cons]
      cases L.contains a <;> simp at ih ⊢ <;> omega
  have h3 := h2 S
  rw [← h1] at h3
  exact h3
theorem frees_len (I : RR n T L) : (frees n L).length + L.length = n := by
  have := cnt_sub L (List.range n) I.sorted (range_sorted n) fun c hc => List.mem_range.mpr (I.lt c hc)
  rwa [List.length_range] at this
theorem g_wayL {c j : Nat} (hj : j < n) : g (wayL T L n c) j = way T L c j := by simp [wayL, g, List.getD_eq_getElem?_getD, hj]
theorem dt_comm (r x : Vc) : dt n r x = dt n x r := sm_congr fun j _ => by grind
theorem dt_wayL {c : Nat} (x : Vc) : dt n (g (wayL T L n c)) x = dt n x (way T L c) := by
  rw [dt_comm]
  exact sm_congr fun j hj => by rw [g_wayL hj]
theorem ways_len : ∀ r ∈ waysL T L n, r.length = n := fun r hr => by
  obtain ⟨c, _, rfl⟩ := List.mem_map.mp hr
  simp [wayL]
theorem ways_keep (I : Inv n n n M T R L) {v : List Rat} (hv : v ∈ waysL T L n) {r : List Rat} (hr : r ∈ M) : dt n (g r) (g v) = 0 := by
  obtain ⟨c, hc, rfl⟩ := List.mem_map.mp hv
  have hc := mem_frees.mp hc
  have := (I.nul0 _).mp (way_nul I.rr hc.1 hc.2) r hr
  rw [← this]
  exact sm_congr fun j hj => by rw [g_wayL hj]
/-- ways are apart -/
theorem ways_apart (h : RR n T L) {x : Vc} (hx : Nul n (waysL T L n) x) (z : ∀ l ∈ L, x l = 0) : ∀ j, j < n → x j = 0 := fun j hj => by
  by_cases hm : j ∈ L
  · exact z j hm
  · have := hx _ (List.mem_map_of_mem (mem_frees.mpr ⟨hj, hm⟩))
    rw [dt_wayL] at this
    unfold dt at this
    rw [sm_one (a := j) hj fun i hi hn => ?_, way_self] at this
    · grind
    · by_cases hl : i ∈ L
      · rw [z i hl]; grind
      · rw [way_free hl hn]; grind
theorem sm_lt_zero {a b : Nat} {f : Vc} (h : a ≤ b) (z : ∀ j, a ≤ j → j < b → f j = 0) : sm b f = sm a f := by
  induction b with
  | zero => have : a = 0 := by omega
            rw [this]
  | succ b ih =>
    by_cases e : a = b + 1
    · rw [e]
    · show sm b f + f b = _
      rw [ih (by omega) (fun j h1 h2 => z j h1 (by omega)), z b (by omega) (by omega)]
      grind
theorem nul_sum {A : List (List Rat)} (f : Nat → Vc) (z : Vc) : ∀ b, (∀ i, i < b → Nul n A (f i)) → Nul n A fun j => sm b fun i => z i * f i j := by
  intro b
  induction b with
  | zero => exact fun _ r _ => sm_zero fun j _ => by show _ * (0 : Rat) = 0; grind
  | succ b ih =>
    intro h
    have h1 := ih fun i hi => h i (by omega)
    have h2 := h b (by omega)
    intro r hr
    have := (h1.lin 1 (z b) h2) r hr
    rw [← this]
    unfold dt
    exact sm_congr fun j _ => by show _ * (sm b _ + _) = _; grind
theorem ways_rank (h : RR n T L) (J : Inv n n n (waysL T L n) T' R' L') : L'.length = (waysL T L n).length := by
  have le := rank_zero J
  refine Classical.byContradiction fun q => ?_
  have hl : (waysL T L n).length = (frees n L).length := by simp [waysL]
  have f1 := frees_len h
  have f2 := frees_len J.rr
  have lt : L.length < (frees n L').length := by omega
  obtain ⟨z, ⟨i0, hi0, z0⟩, hz⟩ := some_nul (fun k i => way T' L' ((frees n L').getD i 0) (L.getD k 0)) lt
  have fm : ∀ i, i < (frees n L').length → (frees n L').getD i 0 < n ∧ (frees n L').getD i 0 ∉ L' := fun i hi => by
    rw [List.getD_eq_getElem?_getD, List.getElem?_eq_getElem hi]
    exact mem_frees.mp (List.getElem_mem hi)
  have hN := nul_sum (n := n) (A := waysL T L n) (fun i => way T' L' ((frees n L').getD i 0)) z (frees n L').length fun i hi => (J.nul0 _).mp (way_nul J.rr (fm i hi).1 (fm i hi).2)
  have hA := ways_apart h hN (fun l hl => by
    obtain ⟨k, hk, e⟩ := List.mem_iff_getElem.mp hl
    have := hz k hk
    rw [← this]
    refine sm_congr fun i _ => ?_
    have : L.getD k 0 = l := by rw [List.getD_eq_getElem?_getD, List.getElem?_eq_getElem hk, e]; rfl
    rw [this]
    grind) ((frees n L').getD i0 0) (fm i0 hi0).1
  rw [sm_one (a := i0) hi0 fun i hi hn => ?_, way_self] at hA
  · exact z0 (by grind)
  · rw [way_free (fm i0 hi0).2 fun e => hn ?_]
    · grind
    · have p : (frees n L').Pairwise (· < ·) := (range_sorted n).filter _
      refine pw_nodup p (l := (frees n L').getD i 0) ?_ ?_
      · rw [List.getD_eq_getElem?_getD, List.getElem?_eq_getElem hi]; rfl
      · rw [← e, List.getD_eq_getElem?_getD, List.getElem?_eq_getElem hi0]; rfl
end
end MX

set_option maxHeartbeats 1000000
/-! M5: how great the numbers of tables that are put out are. -/
namespace MX
def yb (X n : Nat) : Nat := (2 * (n + 1) * X) ^ (n + 1)
theorem yb_mono {X m n : Nat} (hX : 0 < X) (h : m ≤ n) : yb X m ≤ yb X n := by
  unfold yb
  have h1 : 2 * (m + 1) * X ≤ 2 * (n + 1) * X := Nat.mul_le_mul_right _ (by omega)
  have h0 : 0 < 2 * (n + 1) * X := Nat.mul_pos (by omega) hX
  exact Nat.le_trans (Nat.pow_le_pow_left h1 _) (Nat.pow_le_pow_right h0 (by omega))
theorem isum_cast (f : Nat → Int) : ∀ k, ((isum k f : Int) : Rat) = sm k fun i => ((f i : Int) : Rat)
  | 0 => rfl
  | k + 1 => by
    show ((isum k f + f k : Int) : Rat) = _
    rw [Rat.intCast_add, isum_cast f k]
    rfl
/-- whole shares of rows that make 0 at some places -/
theorem comb {d X e : Nat} (f : Nat → Vc) (hX : 0 < X) (hf : ∀ i j, ∃ m : Int, f i j * (d : Rat) = (m : Rat) ∧ m.natAbs ≤ X) (hd : 0 < d) (cols : Nat → Nat) :
    ∃ z : Nat → Int, (∃ i, i < e + 1 ∧ z i ≠ 0) ∧ (∀ i, (z i).natAbs * X ≤ yb X e) ∧ (∀ j, j < e → sm (e + 1) (fun i => (z i : Rat) * f i (cols j)) = 0) ∧ ∀ j, ∃ U : Int, sm (e + 1) (fun i => (z i : Rat) * f i j) * (d : Rat) = (U : Rat) ∧ U.natAbs ≤ yb X e := by
  let a : Nat → Nat → Int := fun i j => Classical.choose (hf i j)
  have ha : ∀ i j, f i j * (d : Rat) = (a i j : Rat) ∧ (a i j).natAbs ≤ X := fun i j => Classical.choose_spec (hf i j)
  obtain ⟨z, h1, h2, h3⟩ := small_sol e X hX (fun i j => a i (cols j)) fun i j => (ha i (cols j)).2
  have d0 : (d : Rat) ≠ 0 := fun q => by
    have : ((d : Int) : Rat) = ((0 : Int) : Rat) := q
    have := Rat.intCast_inj.mp this
    omega
  have key : ∀ j, sm (e + 1) (fun i => (z i : Rat) * f i j) * (d : Rat) = ((isum (e + 1) fun i => z i * a i j : Int) : Rat) := fun j => by
    rw [isum_cast]
    have : sm (e + 1) (fun i => (z i : Rat) * f i j) * (d : Rat) = (d : Rat) * sm (e + 1) (fun i => (z i : Rat) * f i j) := Rat.mul_comm _ _
    rw [this, ← sm_mul]
    exact sm_congr fun i _ => by rw [Rat.intCast_mul, ← (ha i j).1]; grind
  have hb : (2 * (e + 1) * X) ^ e * X ≤ yb X e := by
    unfold yb
    rw [Nat.pow_succ]
    refine Nat.mul_le_mul_left _ ?_
    exact Nat.le_mul_of_pos_left X (by omega)
  refine ⟨z, h1, fun i => Nat.le_trans (Nat.mul_le_mul_right _ (h2 i)) hb, fun j hj => ?_, fun j => ⟨_, key j, ?_⟩⟩
  · have := key (cols j)
    rw [h3 j hj] at this
    have h0 : ((0 : Int) : Rat) = 0 := rfl
    rw [h0] at this
    rcases Rat.mul_eq_zero.mp this with q | q
    · exact q
    · exact absurd q d0
  · have := isum_bd (f := fun i => z i * a i j) (B := (((2 * (e + 1) * X) ^ e * X : Nat) : Int)) (e + 1) fun i _ => by
      have h4 : (z i * a i j).natAbs ≤ (2 * (e + 1) * X) ^ e * X := by
        rw [Int.natAbs_mul]
        exact Nat.mul_le_mul (h2 i) (ha i j).2
      omega
    have h5 : ((e + 1 : Nat) : Int) * (((2 * (e + 1) * X) ^ e * X : Nat) : Int) ≤ (yb X e : Int) := by
      rw [← Int.natCast_mul]
      have : (e + 1) * ((2 * (e + 1) * X) ^ e * X) ≤ yb X e := by
        unfold yb
        rw [Nat.pow_succ]
        have q : (e + 1) * ((2 * (e + 1) * X) ^ e * X) = (2 * (e + 1) * X) ^ e * ((e + 1) * X) := by rw [Nat.mul_left_comm]
        rw [q]
        exact Nat.mul_le_mul_left _ (Nat.mul_le_mul_right _ (by omega))
      omega
    omega
/-- the same, each row with a number of its own -/
theorem combR {X e : Nat} (f : Nat → Vc) (hX : 0 < X) (hf : ∀ i, ∃ d : Nat, 0 < d ∧ d ≤ X ∧ ∀ j, ∃ m : Int, f i j * (d : Rat) = (m : Rat) ∧ m.natAbs ≤ X) (cols : Nat → Nat) :
    ∃ z : Nat → Int, (∃ i, i < e + 1 ∧ z i ≠ 0) ∧ (∀ i, (z i).natAbs ≤ yb X e) ∧ (∀ j, j < e → sm (e + 1) (fun i => (z i : Rat) * f i (cols j)) = 0) ∧ ∀ j, ∃ U : Int, sm (e + 1) (fun i => (z i : Rat) * f i j) = (U : Rat) ∧ U.natAbs ≤ yb X e := by
  let d : Nat → Nat := fun i => Classical.choose (hf i)
  have hd : ∀ i, 0 < d i ∧ d i ≤ X ∧ ∀ j, ∃ m : Int, f i j * (d i : Rat) = (m : Rat) ∧ m.natAbs ≤ X := fun i => Classical.choose_spec (hf i)
  have c1 : ((1 : Nat) : Rat) = 1 := rfl
  obtain ⟨z, z1, z2, z3, z4⟩ := comb (d := 1) (e := e) (fun i j => f i j * (d i : Rat)) hX (fun i j => by
    obtain ⟨m, a, b⟩ := (hd i).2.2 j
    exact ⟨m, by rw [c1, Rat.mul_one]; exact a, b⟩) (by decide) cols
  have cc : ∀ i, ((z i * (d i : Int) : Int) : Rat) = (z i : Rat) * (d i : Rat) := fun i => by rw [Rat.intCast_mul]; rfl
  have cs : ∀ j, sm (e + 1) (fun i => ((z i * (d i : Int) : Int) : Rat) * f i j) = sm (e + 1) fun i => (z i : Rat) * (f i j * (d i : Rat)) := fun j => sm_congr fun i _ => by rw [cc]; grind
  refine ⟨fun i => z i * (d i : Int), ?_, fun i => ?_, fun j hj => ?_, fun j => ?_⟩
  · obtain ⟨i, hi, hz⟩ := z1
    have := (hd i).1
    exact ⟨i, hi, Int.mul_ne_zero hz (by omega)⟩
  · rw [Int.natAbs_mul]
    exact Nat.le_trans (Nat.mul_le_mul_left _ (by have := (hd i).2.1; simpa using this)) (z2 i)
  · rw [cs]; exact z3 j hj
  · obtain ⟨U, a, b⟩ := z4 j
    rw [c1, Rat.mul_one] at a
    exact ⟨U, by rw [cs]; exact a, b⟩
/-- and at columns -/
theorem combW {X e : Nat} (f : Nat → Vc) (hX : 0 < X) (hf : ∀ j, ∃ d : Nat, 0 < d ∧ d ≤ X ∧ ∀ i, ∃ m : Int, f i j * (d : Rat) = (m : Rat) ∧ m.natAbs ≤ X) :
    ∃ z : Nat → Int, (∃ i, i < e + 1 ∧ z i ≠ 0) ∧ (∀ i, (z i).natAbs ≤ yb X e) ∧ (∀ j, j < e → sm (e + 1) (fun i => (z i : Rat) * f i j) = 0) := by
  let d : Nat → Nat := fun i => Classical.choose (hf i)
  have hd : ∀ i, 0 < d i ∧ d i ≤ X ∧ ∀ j, ∃ m : Int, f j i * (d i : Rat) = (m : Rat) ∧ m.natAbs ≤ X := fun i => Classical.choose_spec (hf i)
  have c1 : ((1 : Nat) : Rat) = 1 := rfl
  obtain ⟨z, z1, z2, z3, z4⟩ := comb (d := 1) (e := e) (fun i j => f i j * (d j : Rat)) hX (fun i j => by
    obtain ⟨m, a, b⟩ := (hd j).2.2 i
    exact ⟨m, by rw [c1, Rat.mul_one]; exact a, b⟩) (by decide) id
  refine ⟨z, z1, fun i => Nat.le_trans (Nat.le_mul_of_pos_right _ hX) (z2 i), fun j hj => ?_⟩
  have h := z3 j hj
  have e1 : sm (e + 1) (fun i => (z i : Rat) * (f i (id j) * (d j : Rat))) = (d j : Rat) * sm (e + 1) fun i => (z i : Rat) * f i j := by
    rw [← sm_mul]
    exact sm_congr fun i _ => by show _ * (f i j * _) = _; grind
  have d0 : (d j : Rat) ≠ 0 := fun q => by
    have : (((d j : Nat) : Int) : Rat) = ((0 : Int) : Rat) := q
    have := Rat.intCast_inj.mp this
    have := (hd j).1
    omega
  have h' : sm (e + 1) (fun i => (z i : Rat) * (f i (id j) * (d j : Rat))) = 0 := h
  rw [e1] at h'
  rcases Rat.mul_eq_zero.mp h' with q | q
  · exact absurd q d0
  · exact q
/-- rows of whole numbers, but for one number a row -/
def Whole (X : Nat) (M : List (List Rat)) : Prop := 0 < X ∧ ∀ r ∈ M, ∃ d : Nat, 0 < d ∧ d ≤ X ∧ ScV d X r
theorem Whole.of {d X : Nat} {M : List (List Rat)} (h0 : 0 < d) (h1 : d ≤ X) (h : ∀ r ∈ M, ScV d X r) : Whole X M := ⟨by omega, fun r hr => ⟨d, h0, h1, h r hr⟩⟩
theorem Whole.at_ {X : Nat} {M P : List (List Rat)} (h : Whole X M) (hP : ∀ p ∈ P, p ∈ M) (i : Nat) : ∃ d : Nat, 0 < d ∧ d ≤ X ∧ ∀ j, ∃ m : Int, at2 P i j * (d : Rat) = (m : Rat) ∧ m.natAbs ≤ X := by
  by_cases hi : i < P.length
  · exact h.2 _ (hP _ (at_mem hi))
  · refine ⟨1, by decide, h.1, fun j => ⟨0, ?_, by simp⟩⟩
    unfold at2
    rw [List.getD_eq_getElem?_getD, List.getElem?_eq_none (by omega)]
    simp [g]
variable {n W c d : Nat} {M T R : List (List Rat)} {L : List Nat}
theorem rat_cast0 {z : Int} (h : z ≠ 0) : (z : Rat) ≠ 0 := fun q => h (Rat.intCast_inj.mp q)
theorem sgn_mul (z : Int) : ((z.natAbs : Nat) : Rat) = ((z.sign : Int) : Rat) * ((z : Int) : Rat) := by
  have : ((z.natAbs : Nat) : Int) = z.sign * z := by
    rcases Int.lt_trichotomy z 0 with h | h | h
    · rw [Int.sign_eq_neg_one_of_neg h]; omega
    · subst h; rfl
    · rw [Int.sign_eq_one_of_pos h]; omega
  have h2 : (((z.natAbs : Nat) : Int) : Rat) = ((z.sign * z : Int) : Rat) := by rw [this]
  rw [Rat.intCast_mul] at h2
  exact h2
theorem natAbs_sign_mul (z u : Int) : (z.sign * u).natAbs ≤ u.natAbs := by
  rw [Int.natAbs_mul]
  have : z.sign.natAbs ≤ 1 := by
    rcases Int.lt_trichotomy z 0 with h | h | h
    · rw [Int.sign_eq_neg_one_of_neg h]; decide
    · subst h; decide
    · rw [Int.sign_eq_one_of_pos h]; decide
  exact Nat.le_trans (Nat.mul_le_mul_right _ this) (by rw [Nat.one_mul]; exact Nat.le_refl _)
theorem Inv.len_n (I : Inv n W c M T R L) : L.length ≤ n := Nat.le_trans (sorted_sub I.sorted (range_sorted n) fun l hl => List.mem_range.mpr (Nat.lt_of_lt_of_le (I.lt l hl) I.cn)).length_le (by rw [List.length_range]; exact Nat.le_refl _)
/-- from shares to a row's own numbers -/
theorem sc_of {r : List Rat} {u : Vc} {z : Int} {Y e : Nat} (hd : 0 < d) (hz : z ≠ 0) (he : ∀ j, u j = (z : Rat) * g r j) (hu : ∀ j, ∃ U : Int, u j * (d : Rat) = (U : Rat) ∧ U.natAbs ≤ Y) (hb : z.natAbs * d ≤ Y) : ∃ D, 0 < D ∧ D ≤ Y ∧ ScV D Y r := by
  refine ⟨z.natAbs * d, Nat.mul_pos (Int.natAbs_pos.mpr hz) hd, hb, fun j => ?_⟩
  obtain ⟨U, h1, h2⟩ := hu j
  refine ⟨z.sign * U, ?_, Nat.le_trans (natAbs_sign_mul _ _) h2⟩
  rw [Rat.intCast_mul, ← h1, he j]
  have : ((z.natAbs * d : Nat) : Rat) = ((z.natAbs : Nat) : Rat) * (d : Rat) := Rat.natCast_mul _ _
  rw [this, sgn_mul]
  grind
theorem sc_nrm {r : List Rat} {u : Vc} {z : Int} {Y : Nat} {l : Nat} (hd : 0 < d) (hz : z ≠ 0) (he : ∀ j, u j = (z : Rat) * g r j) (hl : g r l ≠ 0) (hu : ∀ j, ∃ U : Int, u j * (d : Rat) = (U : Rat) ∧ U.natAbs ≤ Y) : ∃ D, 0 < D ∧ D ≤ Y ∧ ScV D Y (nrm r l) := by
  obtain ⟨V, v1, v2⟩ := hu l
  have d0 : (d : Rat) ≠ 0 := fun q => by
    have : ((d : Int) : Rat) = ((0 : Int) : Rat) := q
    have := Rat.intCast_inj.mp this
    omega
  have V0 : V ≠ 0 := fun q => by
    subst q
    rw [he l] at v1
    have h0 : ((0 : Int) : Rat) = 0 := rfl
    rw [h0] at v1
    rcases Rat.mul_eq_zero.mp v1 with q | q
    · rcases Rat.mul_eq_zero.mp q with q | q
      · exact rat_cast0 hz q
      · exact hl q
    · exact d0 q
  refine ⟨V.natAbs, Int.natAbs_pos.mpr V0, v2, fun j => ?_⟩
  obtain ⟨U, h1, h2⟩ := hu j
  refine ⟨V.sign * U, ?_, Nat.le_trans (natAbs_sign_mul _ _) h2⟩
  rw [Rat.intCast_mul, ← h1, g_nrm, sgn_mul, ← v1, he j, he l]
  have := rat_cast0 hz
  grind
theorem sc_of1 {r : List Rat} {u : Vc} {z : Int} {Y : Nat} (hz : z ≠ 0) (he : ∀ j, u j = (z : Rat) * g r j) (hu : ∀ j, ∃ U : Int, u j = (U : Rat) ∧ U.natAbs ≤ Y) (hb : z.natAbs ≤ Y) : ∃ D, 0 < D ∧ D ≤ Y ∧ ScV D Y r :=
  sc_of (d := 1) (e := 0) (by decide) hz he (fun j => by
    obtain ⟨U, a, b⟩ := hu j
    exact ⟨U, by rw [show ((1 : Nat) : Rat) = 1 from rfl, Rat.mul_one]; exact a, b⟩) (by omega)
theorem sc_nrm1 {r : List Rat} {u : Vc} {z : Int} {Y : Nat} {l : Nat} (hz : z ≠ 0) (he : ∀ j, u j = (z : Rat) * g r j) (hl : g r l ≠ 0) (hu : ∀ j, ∃ U : Int, u j = (U : Rat) ∧ U.natAbs ≤ Y) : ∃ D, 0 < D ∧ D ≤ Y ∧ ScV D Y (nrm r l) :=
  sc_nrm (d := 1) (by decide) hz he hl fun j => by
    obtain ⟨U, a, b⟩ := hu j
    exact ⟨U, by rw [show ((1 : Nat) : Rat) = 1 from rfl, Rat.mul_one]; exact a, b⟩
/-- the numbers of the rows that are left -/
theorem Inv.left (I : Inv n W c M T R L) (hw : ∀ r ∈ M, r.length = W) {x : Nat} (S : Whole x M) {r : List Rat} (hr : r ∈ R) : ∃ (u : Vc) (z : Int), z ≠ 0 ∧ (∀ j, u j = (z : Rat) * g r j) ∧ (∀ j, ∃ U : Int, u j = (U : Rat) ∧ U.natAbs ≤ yb x L.length) ∧ z.natAbs ≤ yb x L.length := by
  obtain ⟨P, P1, P2, P3, P4, P5, P6⟩ := I.pv
  obtain ⟨q0, mq0, hq0⟩ := P5 r hr
  have x0 : 0 < x := S.1
  have lenP : P.length = L.length := by rw [P1, I.len]
  let f : Nat → Vc := fun i => if i < P.length then at2 P i else if i = P.length then g q0 else fun _ => 0
  have ff : ∀ i, ∃ d : Nat, 0 < d ∧ d ≤ x ∧ ∀ j, ∃ m : Int, f i j * (d : Rat) = (m : Rat) ∧ m.natAbs ≤ x := fun i => by
    show ∃ d : Nat, 0 < d ∧ d ≤ x ∧ ∀ j, ∃ m : Int, (if i < P.length then at2 P i else if i = P.length then g q0 else fun _ => 0) j * (d : Rat) = (m : Rat) ∧ _
    split
    · exact S.at_ P2 i
    · split
      · exact S.2 _ mq0
      · exact ⟨1, by decide, x0, fun j => ⟨0, by simp, by simp⟩⟩
  obtain ⟨z, z1, z2, z3, z4⟩ := combR (e := L.length) f x0 ff fun i => L.getD i 0
  have sum : ∀ j, sm (L.length + 1) (fun i => (z i : Rat) * f i j) = sm P.length (fun i => (z i : Rat) * at2 P i j) + (z P.length : Rat) * g q0 j := fun j => by
    simp only [sm, ← lenP]
    congr 1
    · exact sm_congr fun i hi => by show _ * (if i < P.length then at2 P i else _) j = _; rw [if_pos hi]
    · show _ * (if P.length < P.length then at2 P P.length else if P.length = P.length then g q0 else fun _ => 0) j = _
      rw [if_neg (by omega), if_pos rfl]
  let u : Vc := fun j => sm (L.length + 1) (fun i => (z i : Rat) * f i j)
  have hu0 : ∀ l ∈ L, u l = 0 := fun l hl => by
    obtain ⟨k, hk, e⟩ := List.mem_iff_getElem.mp hl
    have := z3 k hk
    simp only [List.getD_eq_getElem?_getD, List.getElem?_eq_getElem hk, e, Option.getD_some] at this
    exact this
  have sP : Spn W T fun j => sm P.length fun i => (z i : Rat) * at2 P i j := Spn.sum (fun i => (z i : Rat)) (fun i j => at2 P i j) P.length fun i hi => P4 _ (at_mem hi)
  -- u less its share of the row is 0
  have sv : Spn W T fun j => u j - (z P.length : Rat) * g r j := (sP.lin 1 (- (z P.length : Rat)) hq0).congr fun j _ => by
    show u j - _ = _
    have : u j = _ := sum j
    rw [this]
    grind
  have hz := spn_zero I sv fun l hl => by
    rw [hu0 l hl, I.rz r hr l (I.lt l hl)]; grind
  have heq : ∀ j, u j = (z P.length : Rat) * g r j := fun j => by
    by_cases hj : j < W
    · have := hz j hj; grind
    · have e1 : g r j = 0 := g_ge (by rw [I.wR r hr]; omega)
      have e2 : g q0 j = 0 := g_ge (by rw [hw _ mq0]; omega)
      have e3 : ∀ i, at2 P i j = 0 := fun i => by
        by_cases hi : i < P.length
        · exact g_ge (by rw [hw _ (P2 _ (at_mem hi))]; omega)
        · unfold at2
          rw [List.getD_eq_getElem?_getD, List.getElem?_eq_none (by omega)]
          simp [g]
      have : u j = _ := sum j
      rw [this, e1, e2, sm_zero fun i _ => by rw [e3 i]; grind]
      grind
  have zn : z P.length ≠ 0 := fun hz0 => by
    have hall := P3 (fun i => (z i : Rat)) fun j hj => by
      have h1 := heq j
      have h2 : u j = _ := sum j
      rw [h2, hz0] at h1
      have h0 : ((0 : Int) : Rat) = 0 := rfl
      rw [h0] at h1
      grind
    obtain ⟨i, hi, hne⟩ := z1
    by_cases hip : i = P.length
    · subst hip; exact hne hz0
    · have := hall i (by omega)
      exact hne (Rat.intCast_inj.mp this)
  refine ⟨u, z P.length, zn, heq, z4, z2 _⟩
/-- the numbers of the rows that lead -/
theorem Inv.lead_sc (I : Inv n W c M T R L) (hw : ∀ r ∈ M, r.length = W) {x : Nat} (S : Whole x M) {r : List Rat} (hr : r ∈ T) : ∃ D, 0 < D ∧ D ≤ yb x L.length ∧ ScV D (yb x L.length) r := by
  obtain ⟨P, P1, P2, P3, P4, P5, P6⟩ := I.pv
  have x0 : 0 < x := S.1
  have lenP : P.length = L.length := by rw [P1, I.len]
  obtain ⟨k, hk, er⟩ := mem_at hr
  have hkL : k < L.length := by rw [← I.len]; exact hk
  obtain ⟨s, hs⟩ : ∃ s, L.length = s + 1 := ⟨L.length - 1, by omega⟩
  -- all leads but the k-th
  obtain ⟨z, z1, z2, z3, z4⟩ := combR (e := s) (fun i => at2 P i) x0 (fun i => S.at_ P2 i) fun i => L.getD (if i < k then i else i + 1) 0
  let u : Vc := fun j => sm (s + 1) (fun i => (z i : Rat) * at2 P i j)
  have hu0 : ∀ i l, L[i]? = some l → i ≠ k → u l = 0 := fun i l hl hik => by
    have hi := (List.getElem?_eq_some_iff.mp hl).1
    have := z3 (if i < k then i else i - 1) (by split <;> omega)
    have e : (if (if i < k then i else i - 1) < k then (if i < k then i else i - 1) else (if i < k then i else i - 1) + 1) = i := by
      by_cases h : i < k
      · simp [h]
      · simp only [if_neg h]
        rw [if_neg (by omega)]
        omega
    simp only [e, List.getD_eq_getElem?_getD, hl, Option.getD_some] at this
    exact this
  have su : Spn W T u := (Spn.sum (fun i => (z i : Rat)) (fun i j => at2 P i j) (s + 1) fun i hi => P4 _ (at_mem (by omega))).congr fun j _ => rfl
  have gk : L[k]? = some L[k] := List.getElem?_eq_getElem hkL
  have sv : Spn W T fun j => u j - u L[k] * g r j := (su.lin 1 (- u L[k]) (Spn.base hr)).congr fun j _ => by grind
  have hz := spn_zero I sv fun l hl => by
    obtain ⟨i, hi, e⟩ := List.mem_iff_getElem.mp hl
    have gi : L[i]? = some l := by rw [List.getElem?_eq_getElem hi, e]
    have e1 : g r l = at2 T k l := by unfold at2; rw [er]
    by_cases hik : i = k
    · subst hik
      subst e
      rw [e1, I.one i _ gi]; grind
    · rw [hu0 i l gi hik, e1, I.off k i l gi fun q => hik q.symm]; grind
  have heq : ∀ j, u j = u L[k] * g r j := fun j => by
    by_cases hj : j < W
    · have := hz j hj; grind
    · have e1 : g r j = 0 := g_ge (by rw [I.wT r hr]; omega)
      have e3 : ∀ i, at2 P i j = 0 := fun i => by
        by_cases hi : i < P.length
        · exact g_ge (by rw [hw _ (P2 _ (at_mem hi))]; omega)
        · unfold at2
          rw [List.getD_eq_getElem?_getD, List.getElem?_eq_none (by omega)]
          simp [g]
      have : u j = 0 := sm_zero fun i _ => by rw [e3 i]; grind
      rw [this, e1]; grind
  have un : u L[k] ≠ 0 := fun h0 => by
    have hall := P3 (fun i => (z i : Rat)) fun j hj => by
      have h1 := heq j
      rw [h0] at h1
      rw [lenP, hs]
      show u j = 0
      grind
    obtain ⟨i, hi, hne⟩ := z1
    exact hne (Rat.intCast_inj.mp (hall i (by omega)))
  obtain ⟨V, v1, v2⟩ := z4 L[k]
  have V0 : V ≠ 0 := fun q => by
    subst q
    have h0 : ((0 : Int) : Rat) = 0 := rfl
    rw [h0] at v1
    exact un v1
  have ym := yb_mono x0 (show s ≤ L.length by omega)
  refine ⟨V.natAbs, Int.natAbs_pos.mpr V0, Nat.le_trans v2 ym, fun j => ?_⟩
  obtain ⟨U, h1, h2⟩ := z4 j
  refine ⟨V.sign * U, ?_, Nat.le_trans (natAbs_sign_mul _ _) (Nat.le_trans h2 ym)⟩
  have e : u j = (U : Rat) := h1
  have e' : u L[k] = (V : Rat) := v1
  rw [Rat.intCast_mul, ← e, sgn_mul, ← e', heq j]
  grind
theorem dt_spn {P : List (List Rat)} {u x : Vc} (h : Spn W P u) (z : ∀ p ∈ P, dt W (g p) x = 0) : dt W u x = 0 := by
  obtain ⟨y, e⟩ := h
  have : dt W u x = sm P.length fun i => y i * dt W (g (P.getD i [])) x := by
    unfold dt
    rw [sm_congr (h := fun j => sm P.length fun i => (y i * at2 P i j) * x j) fun j hj => by
      rw [e j hj]
      have : sm P.length (fun i => y i * at2 P i j) * x j = x j * sm P.length (fun i => y i * at2 P i j) := Rat.mul_comm _ _
      rw [this, ← sm_mul]
      exact sm_congr fun i _ => by grind]
    rw [sm_swap]
    exact sm_congr fun i _ => by
      rw [← sm_mul]
      exact sm_congr fun j _ => by unfold at2; grind
  rw [this]
  exact sm_zero fun i hi => by rw [z _ (at_mem hi)]; grind
/-- the numbers of a way -/
theorem way_sc (I : Inv n W c M T R L) (rr : RR W T L) {x : Nat} (S : Whole x M) {k : Nat} (hk : k < W) (hn : k ∉ L) : ∃ D : Nat, 0 < D ∧ D ≤ yb x L.length ∧ ∀ j, j < W → ∃ m : Int, way T L k j * (D : Rat) = (m : Rat) ∧ m.natAbs ≤ yb x L.length := by
  obtain ⟨P, P1, P2, P3, P4, P5, P6⟩ := I.pv
  have x0 : 0 < x := S.1
  have lenP : P.length = L.length := by rw [P1, I.len]
  let C : Nat → Nat := fun i => if i < L.length then L.getD i 0 else k
  have nd : ∀ {i k l : Nat}, L[i]? = some l → L[k]? = some l → i = k := fun a b => pw_nodup I.sorted a b
  obtain ⟨z, z1, zb, z3⟩ := combW (e := L.length) (fun i j => at2 P j (C i)) x0 (fun j => by
    obtain ⟨d, d0, d1, d2⟩ := S.at_ P2 j
    exact ⟨d, d0, d1, fun i => d2 (C i)⟩)
  have cL : ∀ i, i < L.length → C i = L.getD i 0 := fun i hi => by show (if _ then _ else _) = _; rw [if_pos hi]
  have cK : C L.length = k := by show (if _ then _ else _) = _; rw [if_neg (by omega)]
  have cW : ∀ i, i < L.length + 1 → C i < W := fun i hi => by
    by_cases h : i < L.length
    · rw [cL i h, List.getD_eq_getElem?_getD, List.getElem?_eq_getElem h]
      exact rr.lt _ (List.getElem_mem h)
    · have : i = L.length := by omega
      rw [this, cK]; exact hk
  have cI : ∀ i i', i < L.length + 1 → i' < L.length + 1 → C i = C i' → i = i' := fun i i' h h' e => by
    by_cases a : i < L.length <;> by_cases b : i' < L.length
    · rw [cL i a, cL i' b] at e
      simp only [List.getD_eq_getElem?_getD, List.getElem?_eq_getElem a, List.getElem?_eq_getElem b, Option.getD_some] at e
      exact nd (List.getElem?_eq_getElem a) (by rw [List.getElem?_eq_getElem b, e])
    · have hb : i' = L.length := by omega
      rw [hb, cK, cL i a, List.getD_eq_getElem?_getD, List.getElem?_eq_getElem a] at e
      exact absurd (e ▸ List.getElem_mem a) hn
    · have hb : i = L.length := by omega
      rw [hb, cK, cL i' b, List.getD_eq_getElem?_getD, List.getElem?_eq_getElem b] at e
      exact absurd (e.symm ▸ List.getElem_mem b) hn
    · omega
  -- the vector
  let v : Vc := fun j => sm (L.length + 1) fun i => (z i : Rat) * (if C i = j then 1 else 0)
  have vC : ∀ i, i < L.length + 1 → v (C i) = (z i : Rat) := fun i hi => by
    show sm _ _ = _
    rw [sm_one (a := i) hi fun i' hi' hne => by rw [if_neg fun e => hne (cI i' i hi' hi e)]; grind]
    simp only [if_true]
    grind
  have v0 : ∀ j, (∀ i, i < L.length + 1 → C i ≠ j) → v j = 0 := fun j h => sm_zero fun i hi => by rw [if_neg (h i hi)]; grind
  have dv : ∀ p ∈ P, dt W (g p) v = 0 := fun p hp => by
    obtain ⟨i0, h0, e0⟩ := mem_at hp
    have h3 := z3 i0 (by omega)
    have : dt W (g p) v = sm (L.length + 1) fun i => (z i : Rat) * at2 P i0 (C i) := by
      unfold dt
      rw [sm_congr (h := fun j => sm (L.length + 1) fun i => g p j * ((z i : Rat) * (if C i = j then 1 else 0))) fun j _ => by rw [← sm_mul]]
      rw [sm_swap]
      exact sm_congr fun i hi => by
        rw [sm_one (a := C i) (cW i hi) fun j _ hne => by rw [if_neg fun e => hne e.symm]; grind]
        simp only [if_true]
        unfold at2
        rw [e0]
        grind
    rw [this]
    exact h3
  have nv : Nul W T v := fun t ht => dt_spn (P6 t ht) dv
  have nw := way_nul rr hk hn
  have ny := nv.lin 1 (- v k) nw
  have hz := nul_zero rr ny fun j hj hjL => by
    by_cases hjk : j = k
    · subst hjk; rw [way_self]; grind
    · rw [way_free hjL hjk, v0 j fun i hi e => ?_]
      · grind
      · by_cases h : i < L.length
        · rw [cL i h, List.getD_eq_getElem?_getD, List.getElem?_eq_getElem h] at e
          exact hjL (e ▸ List.getElem_mem h)
        · have : i = L.length := by omega
          rw [this, cK] at e
          exact hjk e.symm
  have vk : v k = (z L.length : Rat) := by have := vC L.length (by omega); rwa [cK] at this
  have zn : z L.length ≠ 0 := fun h0 => by
    obtain ⟨i, hi, hne⟩ := z1
    have h1 := hz (C i) (cW i hi)
    rw [vC i hi, vk, h0] at h1
    have h0' : ((0 : Int) : Rat) = 0 := rfl
    rw [h0'] at h1
    have : (z i : Rat) = ((0 : Int) : Rat) := by rw [h0']; grind
    exact hne (Rat.intCast_inj.mp this)
  refine ⟨(z L.length).natAbs, Int.natAbs_pos.mpr zn, zb _, fun j hj => ?_⟩
  -- v j is whole
  have vw : ∃ m : Int, v j = (m : Rat) ∧ m.natAbs ≤ yb x L.length := by
    by_cases h : ∃ i, i < L.length + 1 ∧ C i = j
    · obtain ⟨i, hi, rfl⟩ := h
      exact ⟨z i, vC i hi, zb i⟩
    · exact ⟨0, v0 j fun i hi e => h ⟨i, hi, e⟩, by simp⟩
  obtain ⟨m, m1, m2⟩ := vw
  refine ⟨(z L.length).sign * m, ?_, Nat.le_trans (natAbs_sign_mul _ _) m2⟩
  rw [Rat.intCast_mul, ← m1, sgn_mul]
  have := hz j hj
  rw [vk] at this
  grind
end MX

set_option maxRecDepth 100000
set_option maxHeartbeats 1000000
/-! FQ2: reading parts, comprehensions over given lists. -/
namespace FQ
open PySem L2 DL
section
variable {q : Rat} {P : Dt → Prop}
@[simp] theorem ixD_dq0 : ixD (dq q) (.int 0) P = P (.int q.num) := by simp [dq]
@[simp] theorem ixD_dq1 : ixD (dq q) (.int 1) P = P (.int (q.den : Int)) := by simp [dq]
@[simp] theorem lenD_dq : lenD (dq q) P = P (.int 2) := by simp [dq]
@[simp] theorem seqD_dq {R : List Dt → Prop} : seqD (dq q) R = R [.int q.num, .int (q.den : Int)] := by simp [dq]
@[simp] theorem isNon_dq : isNonD (dq q) = false := rfl
@[simp] theorem tyS_dq : tyS (dq q) = "tuple" := rfl
@[simp] theorem isi_dq_tuple : isiD "tuple" (dq q) P = P (.bl true) := isi_tup_tuple
@[simp] theorem num_lt0 : q.num < 0 ↔ q < 0 := by
  have := Rat.num_nonneg (q := q)
  rw [← Int.not_le, this, Rat.not_le]
@[simp] theorem num_le0 : q.num ≤ 0 ↔ q ≤ 0 := by
  have h1 : q.num < 0 ↔ q < 0 := num_lt0
  have h2 : q.num = 0 ↔ q = 0 := Rat.num_eq_zero
  grind
@[simp] theorem num_ge0 : 0 ≤ q.num ↔ 0 ≤ q := Rat.num_nonneg
@[simp] theorem num_gt0 : 0 < q.num ↔ 0 < q := by
  have h1 : q.num ≤ 0 ↔ q ≤ 0 := num_le0
  grind
@[simp] theorem num_eq0 : q.num = 0 ↔ q = 0 := Rat.num_eq_zero
end
theorem dq0' : Dt.tup [.int 0, .int 1] = dq 0 := rfl
theorem dq1' : Dt.tup [.int 1, .int 1] = dq 1 := rfl
theorem dqI' (i : Int) : Dt.tup [.int i, .int 1] = dq (i : Rat) := rfl
section
variable {α β : Type} {e : α → Dt} {g : G} {it : IT} {ie : IE} {env : List Sl} {P : Dt → Prop}
theorem compD_E (o : β → Dt) (f : α → β) {as : List α} (h : ∀ a, a ∈ as → ∀ (Q : Dt → Prop) (R : Prop), Q (o (f a)) → cStep g it ie env (e a) Q R) (k : P (.lst ((as.map f).map o))) : compD g it ie env P (as.map e) [] :=
  compD_mapG (fun a => o (f a)) h (by rw [List.map_map] at k; exact k)
theorem compD_FE (o : β → Dt) (f : α → β) (p : α → Bool) {as : List α} (h : ∀ a, a ∈ as → ∀ (Q : Dt → Prop) (R : Prop), (if p a = true then Q (o (f a)) else R) → cStep g it ie env (e a) Q R) (k : P (.lst (((as.filter p).map f).map o))) : compD g it ie env P (as.map e) [] :=
  compD_fmG p (fun a => o (f a)) h (by rw [List.map_map] at k; exact k)
/-- any list that stands to the first as S says -/
theorem compD_RE (o : β → Dt) (S : α → β → Prop) {as : List α} (h : ∀ a, a ∈ as → ∀ (Q : Dt → Prop) (R : Prop), (∀ y, S a y → Q (o y)) → cStep g it ie env (e a) Q R) (k : ∀ ys, All2 S as ys → P (.lst (ys.map o))) : compD g it ie env P (as.map e) [] :=
  compD_relG S h (by simpa using k)
end
theorem init_c {n : Nat} {d : Dt} {ds : List Dt} : init (n + 1) (d :: ds) = .im d :: init n ds := by simp [init]
theorem init_n {n : Nat} : init n [] = List.replicate n .no := by simp [init]
theorem ln_of {α : Type} {k : Nat} {l : List α} [h : Ln k l] (hk : k ≤ 1000 := by decide) : l.length ≤ 16777216 := by have := h.le; omega
end FQ

set_option maxRecDepth 100000
set_option maxHeartbeats 1000000
/-! FQ3: draws, positive quotients, data with truth values. -/
namespace FQ
open PySem L2 DL
theorem tk {b : Int} {P : Dt → Prop} {E : Xc → Prop} (hb : 2 ≤ b := by decide) (h : ∀ r : Int, 0 ≤ r → r < b → P (.int r)) (hb' : b < 1073741824 := by decide) : sp__law_take [.st, .int b] P E :=
  ⟨hb', fun r _ h2 => h r (h2 hb).1 (h2 hb).2⟩
theorem dpos {u l : Int} (hu : 0 < u) (hl : 0 < l) : 0 < Rat.divInt u l := by
  rw [Rat.divInt_eq_div, Rat.div_def]
  exact Rat.mul_pos (Rat.intCast_pos.mpr hu) (Rat.inv_pos.mpr (Rat.intCast_pos.mpr hl))
theorem div_pos {a b : Rat} (ha : 0 < a) (hb : 0 < b) : 0 < a / b := by
  rw [Rat.div_def]
  exact Rat.mul_pos ha (Rat.inv_pos.mpr hb)
/-- plain data with truth values, at most k deep -/
def plB : Nat → Dt → Prop
  | _, .non => True
  | _, .bl _ => True
  | _, .int _ => True
  | _, .str x => PyData.strOk x = true
  | k + 1, .lst xs => ∀ x ∈ xs, plB k x
  | k + 1, .tup xs => ∀ x ∈ xs, plB k x
  | _, _ => False
theorem plB.lay : ∀ {k : Nat} {d : Dt}, plB k d → d.py.canLay0 = true ∧ d.py.depth ≤ k
  | _, .non, _ => ⟨by simp [Dt.py, PyData.canLay0], by simp [Dt.py, PyData.depth]⟩
  | _, .bl _, _ => ⟨by simp [Dt.py, PyData.canLay0], by simp [Dt.py, PyData.depth]⟩
  | _, .int _, _ => ⟨by simp [Dt.py, PyData.canLay0], by simp [Dt.py, PyData.depth]⟩
  | 0, .str x, h => ⟨by simpa [Dt.py, PyData.canLay0, plB] using h, by simp [Dt.py, PyData.depth]⟩
  | _ + 1, .str x, h => ⟨by simpa [Dt.py, PyData.canLay0, plB] using h, by simp [Dt.py, PyData.depth]⟩
  | k + 1, .lst xs, h => by
    have := pyAll_ok (k := k) (xs := xs) fun x hx => plB.lay (h x hx)
    simp only [Dt.py, PyData.canLay0, PyData.depth]
    exact ⟨this.1, by omega⟩
  | k + 1, .tup xs, h => by
    have := pyAll_ok (k := k) (xs := xs) fun x hx => plB.lay (h x hx)
    simp only [Dt.py, PyData.canLay0, PyData.depth]
    exact ⟨this.1, by omega⟩
  | 0, .lst _, h => by simp [plB] at h
  | 0, .tup _, h => by simp [plB] at h
  | 0, .dic _ _, h => by simp [plB] at h
  | _ + 1, .dic _ _, h => by simp [plB] at h
  | 0, .dit _ _, h => by simp [plB] at h
  | _ + 1, .dit _ _, h => by simp [plB] at h
  | 0, .st, h => by simp [plB] at h
  | _ + 1, .st, h => by simp [plB] at h
theorem plB.ok {k : Nat} {d : Dt} (h : plB k d) (hk : k ≤ 64 := by decide) : okD d := by
  obtain ⟨a, b⟩ := h.lay
  unfold okD SeqAt.shaped
  rw [a, decide_eq_true (Nat.le_trans b hk)]
  rfl
theorem eqvAll_self {xs : List Dt} (h : ∀ x ∈ xs, eqv x x = true) : PyData.eqvAll (pyL xs) (pyL xs) = true := by
  induction xs with
  | nil => simp [pyL, PyData.eqvAll]
  | cons x xs ih =>
    have h1 := h x (by simp)
    have h2 := ih fun a ha => h a (by simp [ha])
    unfold eqv at h1
    simp only [pyL, PyData.eqvAll, Bool.and_eq_true]
    exact ⟨h1, h2⟩
theorem eqv_refl : ∀ {k : Nat} {x : Dt}, plB k x → eqv x x = true := by
  intro k
  induction k with
  | zero =>
    intro x hx
    cases x <;> simp [plB] at hx <;> simp [eqv, Dt.py, PyData.eqv]
  | succ k ih =>
    intro x hx
    cases x <;> simp [plB] at hx <;> first
      | (simp [eqv, Dt.py, PyData.eqv]; done)
      | (simp only [eqv, Dt.py, PyData.eqv]
         exact eqvAll_self fun a ha => ih (hx a ha))
theorem plB_dq {k : Nat} {a : Rat} : plB (k + 1) (dq a) := by
  unfold dq
  intro x hx
  simp at hx
  rcases hx with rfl | rfl <;> (cases k <;> trivial)
theorem eqv_tup {xs ys : List Dt} : eqv (.tup xs) (.tup ys) = PyData.eqvAll (pyL xs) (pyL ys) := by simp only [eqv, Dt.py, PyData.eqv]
theorem eqv_lst {xs ys : List Dt} : eqv (.lst xs) (.lst ys) = PyData.eqvAll (pyL xs) (pyL ys) := by simp only [eqv, Dt.py, PyData.eqv]
theorem eqvA_n : PyData.eqvAll (pyL []) (pyL []) = true := by simp [pyL, PyData.eqvAll]
theorem eqvA_c {x y : Dt} {xs ys : List Dt} : PyData.eqvAll (pyL (x :: xs)) (pyL (y :: ys)) = (eqv x y && PyData.eqvAll (pyL xs) (pyL ys)) := by simp only [pyL, PyData.eqvAll, eqv]
theorem strOk_of (s : String) : PyData.strOk (PySem.Str.ofString s) = true := by
  rw [PySem.Str.ofString_eq_toList]
  unfold PyData.strOk
  simp only [← Array.all_toList, List.all_eq_true]
  intro c hc
  obtain ⟨d, _, rfl⟩ := List.mem_map.mp hc
  have := d.valid
  unfold UInt32.isValidChar Nat.isValidChar at this
  exact decide_eq_true (by show d.val.toNat < _; omega)
@[simp] theorem okD_s (s : String) : okD (.str (PySem.Str.ofString s)) := plB.ok (k := 0) (strOk_of s)
@[simp] theorem eqv_s (s : String) : eqv (.str (PySem.Str.ofString s)) (.str (PySem.Str.ofString s)) = true := eqv_refl (k := 0) (strOk_of s)
@[simp] theorem okD_bl (b : Bool) : okD (.bl b) := plB.ok (k := 0) trivial
theorem plB_1 {a : Dt} {k : Nat} (ha : plB k a) : plB (k + 1) (.tup [a]) := fun x hx => by
  simp at hx
  subst hx
  exact ha
theorem plB_2 {a b : Dt} {k : Nat} (ha : plB k a) (hb : plB k b) : plB (k + 1) (.tup [a, b]) := fun x hx => by
  simp at hx
  rcases hx with rfl | rfl
  · exact ha
  · exact hb
@[simp] theorem okD_qq (a b : Rat) : okD (.tup [dq a, dq b]) := (plB_2 (plB_dq (k := 0)) (plB_dq (k := 0))).ok
@[simp] theorem okD_qb (a : Rat) (b : Bool) : okD (.tup [dq a, .bl b]) := (plB_2 (plB_dq (k := 0)) (show plB 1 (.bl b) from trivial)).ok
@[simp] theorem eqv_qq (a b c d : Rat) : eqv (.tup [dq a, dq b]) (.tup [dq c, dq d]) = (decide (a = c) && decide (b = d)) := by
  rw [eqv_tup, eqvA_c, eqvA_c, eqvA_n, eqv_dq, eqv_dq, Bool.and_true]
theorem eqv_str_dq {x : Str} {a : Rat} : eqv (dq a) (.str x) = false := by simp [eqv, dq, Dt.py, PyData.eqv]
end FQ

set_option maxRecDepth 100000
set_option maxHeartbeats 1000000
namespace KK
open PySem L2 DL FQ MX
theorem compD_a2 {α : Type} {S : Dt → α → Prop} {g : G} {it : IT} {ie : IE} {env : List Sl} {P : Dt → Prop} (f : α → Dt) : ∀ {ds : List Dt} {as : List α} {outs : List Dt}, All2 S ds as →
    (∀ x a, a ∈ as → S x a → ∀ (Q : Dt → Prop) (R : Prop), Q (f a) → cStep g it ie env x Q R) → P (.lst (outs ++ as.map f)) → compD g it ie env P ds outs
  | _, _, outs, .nil, _, k => by show P (.lst outs); simpa using k
  | _, _, outs, .cons s t, h, k => h _ _ (by simp) s _ _ (compD_a2 f t (fun x a m => h x a (by simp [m])) (by simpa using k))
abbrev Sm (q : Rat) : Prop := Sz 990 q
theorem z_plus {a b : Rat} {P : Dt → Prop} {E : Xc → Prop} (ha : Sm a) (hb : Sm b) (h : P (dq (a + b))) : sp_plus [dq a, dq b] P E := c_plus (ha := ha) (hb := hb) h (by omega)
theorem z_minus {a b : Rat} {P : Dt → Prop} {E : Xc → Prop} (ha : Sm a) (hb : Sm b) (h : P (dq (a - b))) : sp_minus [dq a, dq b] P E := c_minus (ha := ha) (hb := hb) h (by omega)
theorem z_times {a b : Rat} {P : Dt → Prop} {E : Xc → Prop} (ha : Sm a) (hb : Sm b) (h : P (dq (a * b))) : sp_times [dq a, dq b] P E := c_times (ha := ha) (hb := hb) h (by omega)
theorem z__law_add {a b : Rat} {P : Dt → Prop} {E : Xc → Prop} (ha : Sm a) (hb : Sm b) (h : P (dq (a + b))) : sp__law_add [dq a, dq b] P E := c__law_add (ha := ha) (hb := hb) h (by omega)
theorem z__law_sub {a b : Rat} {P : Dt → Prop} {E : Xc → Prop} (ha : Sm a) (hb : Sm b) (h : P (dq (a - b))) : sp__law_sub [dq a, dq b] P E := c__law_sub (ha := ha) (hb := hb) h (by omega)
theorem z__law_mul {a b : Rat} {P : Dt → Prop} {E : Xc → Prop} (ha : Sm a) (hb : Sm b) (h : P (dq (a * b))) : sp__law_mul [dq a, dq b] P E := c__law_mul (ha := ha) (hb := hb) h (by omega)
theorem z_over {a b : Rat} {P : Dt → Prop} {E : Xc → Prop} (ha : Sm a) (hb : Sm b) (h0 : b ≠ 0) (h : P (dq (a / b))) : sp_over [dq a, dq b] P E := c_over (ha := ha) (hb := hb) h0 h (by omega)
theorem z__law_over {a b : Rat} {P : Dt → Prop} {E : Xc → Prop} (ha : Sm a) (hb : Sm b) (h0 : b ≠ 0) (h : P (dq (a / b))) : sp__law_over [dq a, dq b] P E := c__law_over (ha := ha) (hb := hb) h0 h (by omega)
def Sq (d : Dt) (xs : List Dt) : Prop := d = .lst xs ∨ d = .tup xs
abbrev dqs (r : List Rat) : List Dt := r.map dq
theorem dq0 : dq 0 = .tup [.int 0, .int 1] := rfl
theorem dq1 : dq 1 = .tup [.int 1, .int 1] := rfl
theorem dqi (i : Int) : dq (i : Rat) = .tup [.int i, .int 1] := rfl
/-! numbers over one divisor -/
def S1 (d X : Nat) (q : Rat) : Prop := ∃ m : Int, q * (d : Rat) = (m : Rat) ∧ m.natAbs ≤ X
theorem S1.eq {d X : Nat} {q : Rat} (hd : 0 < d) (h : S1 d X q) : ∃ m : Int, q = Rat.divInt m d ∧ m.natAbs ≤ X := by
  obtain ⟨m, e, b⟩ := h
  refine ⟨m, ?_, b⟩
  have : (d : Rat) ≠ 0 := by intro z; have : d = 0 := by exact_mod_cast z
                             omega
  rw [Rat.divInt_eq_div, ← e]
  push_cast
  grind
theorem S1.num {d X : Nat} {q : Rat} (hd : 0 < d) (h : S1 d X q) : q.num.natAbs ≤ X ∧ q.den ≤ d := by
  obtain ⟨m, e, b⟩ := h.eq hd
  subst e
  have hz : (d : Int) ≠ 0 := by omega
  refine ⟨?_, ?_⟩
  · rw [Rat.num_divInt, Int.sign_eq_one_of_pos (by omega), Int.one_mul]
    exact Nat.le_trans (Int.natAbs_ediv_le_natAbs _ _) b
  · rw [Rat.den_divInt, if_neg hz]
    simpa using Nat.div_le_self _ _
theorem S1.sm {d X : Nat} {q : Rat} (h : S1 d X q) (hd : 0 < d) (h1 : d < 2 ^ 990) (h2 : X < 2 ^ 990) : Sm q :=
  ⟨Nat.lt_of_le_of_lt (h.num hd).1 h2, Nat.lt_of_le_of_lt (h.num hd).2 h1⟩
theorem S1.add {d X Y : Nat} {a b : Rat} (h : S1 d X a) (k : S1 d Y b) : S1 d (X + Y) (a + b) := by
  obtain ⟨m, e, u⟩ := h
  obtain ⟨n, f, v⟩ := k
  refine ⟨m + n, ?_, by omega⟩
  push_cast
  rw [← e, ← f]
  grind
theorem S1.mul {d e X Y : Nat} {a b : Rat} (h : S1 d X a) (k : S1 e Y b) : S1 (d * e) (X * Y) (a * b) := by
  obtain ⟨m, p, u⟩ := h
  obtain ⟨n, q, v⟩ := k
  refine ⟨m * n, ?_, ?_⟩
  · push_cast
    rw [← p, ← q]
    grind
  · rw [Int.natAbs_mul]
    exact Nat.mul_le_mul u v
theorem S1.up {d X Y : Nat} {a : Rat} (h : S1 d X a) (k : X ≤ Y) : S1 d Y a := let ⟨m, e, u⟩ := h; ⟨m, e, Nat.le_trans u k⟩
theorem S1.scale {d e X : Nat} {a : Rat} (h : S1 d X a) : S1 (d * e) (X * e) a := by
  obtain ⟨m, p, u⟩ := h
  refine ⟨m * e, ?_, ?_⟩
  · push_cast
    rw [← p]
    grind
  · rw [Int.natAbs_mul]
    exact Nat.mul_le_mul u (by simp)
theorem S1.zero {d X : Nat} : S1 d X 0 := ⟨0, by simp, by simp⟩
theorem S1.tot {d X : Nat} : ∀ {qs : List Rat}, (∀ q ∈ qs, S1 d X q) → ∀ k, k ≤ qs.length → S1 d (k * X) (tot (qs.take k)) := by
  intro qs h k
  induction k with
  | zero => intro _; exact S1.zero
  | succ k ih =>
    intro hk
    have e : qs[k]? = some qs[k] := List.getElem?_eq_getElem (by omega)
    rw [tot_take e, Nat.succ_mul]
    exact (ih (by omega)).add (h _ (List.getElem_mem _))
structure Sums (qs : List Rat) : Prop where
  p : ∀ k, k ≤ qs.length → Sm (tot (qs.take k))
  q : ∀ q ∈ qs, Sm q
theorem Sums.of {d X : Nat} {qs : List Rat} (hd : 0 < d) (h1 : d < 2 ^ 990) (hX : X < 2 ^ 990) (h2 : qs.length * X < 2 ^ 990) (h : ∀ q ∈ qs, S1 d X q) : Sums qs :=
  ⟨fun k hk => (S1.tot h k hk).sm hd h1 (Nat.lt_of_le_of_lt (Nat.mul_le_mul_right _ hk) h2), fun q hq => (h q hq).sm hd h1 hX⟩
section
variable {a b : Rat} {P : Dt → Prop} {E : Xc → Prop} {d d' : Dt}
theorem Sq.seq {xs : List Dt} (h : Sq d xs) {R : List Dt → Prop} (r : R xs) : seqD d R := by rcases h with rfl | rfl <;> exact r
theorem Sq.len {xs : List Dt} (h : Sq d xs) {R : Dt → Prop} (r : R (.int xs.length)) : lenD d R := by rcases h with rfl | rfl <;> exact r
theorem Sq.ix {xs : List Dt} (h : Sq d xs) {R : Dt → Prop} {i : Nat} {x : Dt} (e : xs[i]? = some x) (r : R x) : ixD d (.int (i : Int)) R := by rcases h with rfl | rfl <;> exact ⟨x, atI_nat e, r⟩
theorem Sq.lst {xs : List Dt} (h : Sq d xs) {R : Dt → Prop} (r : R (.lst xs)) : lstD d R := by rcases h with rfl | rfl <;> exact r
theorem Sq.tup {xs : List Dt} (h : Sq d xs) {R : Dt → Prop} (r : R (.tup xs)) : tupD d R := by rcases h with rfl | rfl <;> exact r
theorem get_dqs {r : List Rat} {k : Nat} (h : k < r.length) : (dqs r)[k]? = some (dq (g r k)) := by simp [dqs, g, List.getD_eq_getElem?_getD, h]
theorem Sq.ixg {r : List Rat} (h : Sq d (dqs r)) {R : Dt → Prop} {k : Nat} (hk : k < r.length) (q : R (dq (g r k))) : ixD d (.int (k : Int)) R := h.ix (get_dqs hk) q
theorem lc_total {qs : List Rat} (hd : Sq d (dqs qs)) (s : Sums qs) (h : P (dq (tot qs))) : sp_total [d] P E := by
  refine ⟨rfl, ?_⟩
  show m_total [.im d, .no, .no] _
  simp [m_total]
  refine hd.seq (forD_inv (fun i e => ∃ t, e = [.im d, .im (dq (tot (qs.take i))), t]) ⟨.no, rfl⟩ ?_ ?_)
  · rintro i x e hx ⟨t, rfl⟩ nx hnx
    obtain ⟨q, hq, rfl⟩ : ∃ q, qs[i]? = some q ∧ dq q = x := by simpa using hx
    have hi : i < qs.length := (List.getElem?_eq_some_iff.mp hq).1
    simp
    exact z_plus (s.p i (by omega)) (s.q q (List.mem_of_getElem? hq)) (hnx _ ⟨_, by rw [tot_take hq]⟩)
  · rintro e ⟨t, rfl⟩
    simp
    exact h
theorem lc__law_sum {qs : List Rat} (hd : Sq d (dqs qs)) (s : Sums qs) (h : P (dq (tot qs))) : sp__law_sum [d] P E := by
  refine ⟨rfl, ?_⟩
  show m__law_sum [.im d, .no, .no] _
  simp [m__law_sum]
  refine hd.seq (forD_inv (fun i e => ∃ t, e = [.im d, .im (dq (tot (qs.take i))), t]) ⟨.no, rfl⟩ ?_ ?_)
  · rintro i x e hx ⟨t, rfl⟩ nx hnx
    obtain ⟨q, hq, rfl⟩ : ∃ q, qs[i]? = some q ∧ dq q = x := by simpa using hx
    have hi : i < qs.length := (List.getElem?_eq_some_iff.mp hq).1
    simp
    exact z__law_add (s.p i (by omega)) (s.q q (List.mem_of_getElem? hq)) (hnx _ ⟨_, by rw [tot_take hq]⟩)
  · rintro e ⟨t, rfl⟩
    simp
    exact h
theorem tot_range (n : Nat) (f : Nat → Rat) : tot ((List.range n).map f) = sm n f := by
  unfold tot
  induction n with
  | zero => rfl
  | succ n ih => rw [List.range_succ, List.map_append, List.foldl_append, ih]; rfl
/-- what two rows' sum of products asks -/
structure Dots (r s : List Rat) : Prop where
  len : r.length ≤ s.length
  big : r.length ≤ 16777216
  ra : ∀ k, k < r.length → Sm (g r k)
  sa : ∀ k, k < r.length → Sm (g s k)
  t : Sums ((List.range r.length).map fun k => g r k * g s k)
end
theorem get_rng {n i : Nat} {x : Dt} (h : (rng 0 1 n)[i]? = some x) : i < n ∧ x = .int (i : Int) := by
  rw [rng0] at h
  have := (List.getElem?_eq_some_iff.mp h).1
  simp at this
  simp [this] at h
  exact ⟨this, h.symm⟩
theorem rng_len (n : Nat) (a c : Int) : (rng a c n).length = n := by simp [rng]
def dR (r : List Rat) : Dt := .lst (dqs r)
def dM (A : List (List Rat)) : Dt := .lst (A.map dR)
def dL (L : List Nat) : Dt := .lst (L.map fun (n : Nat) => .int (n : Int))
abbrev Rws (ds : List Dt) (M : List (List Rat)) : Prop := All2 (fun x r => Sq x (dqs r)) ds M
def Mt (d : Dt) (M : List (List Rat)) : Prop := ∃ ds, Sq d ds ∧ Rws ds M
/-- what putting out asks of a table -/
structure Tab (n W : Nat) (M : List (List Rat)) : Prop where
  nW : n ≤ W
  w : ∀ r ∈ M, r.length = W
  W0 : W ≤ 1000
  m0 : M.length ≤ 1000
  sc : ∃ x : Nat, Whole x M ∧ ∀ k, k ≤ n → k ≤ M.length → yb x k < 2 ^ 450
section
variable {n W c : Nat} {M T R T' R' : List (List Rat)} {L L' : List Nat} {P : Dt → Prop} {E : Xc → Prop} {d d' : Dt}
theorem _root_.MX.Inv.len_le (I : Inv n W c M T R L) : L.length ≤ n := Nat.le_trans (sorted_sub I.sorted (range_sorted n) fun l hl => List.mem_range.mpr (Nat.lt_of_lt_of_le (I.lt l hl) I.cn)).length_le (by rw [List.length_range]; exact Nat.le_refl _)
theorem _root_.MX.Inv.lt_len (I : Inv n W c M T R L) (hc : c < n) : L.length < n := by
  have := (sorted_sub I.sorted (range_sorted c) fun l hl => List.mem_range.mpr (I.lt l hl)).length_le
  rw [List.length_range] at this
  omega
theorem up450 {a : Nat} (h : a < 2 ^ 450) : a < 2 ^ 990 := Nat.lt_of_lt_of_le h (Nat.pow_le_pow_right (by decide) (by decide))
theorem sq450 {a b : Nat} (h : a < 2 ^ 450) (k : b < 2 ^ 450) : a * b < 2 ^ 990 := by
  have e : (2 : Nat) ^ 900 = 2 ^ 450 * 2 ^ 450 := Nat.pow_add 2 450 450
  have := Nat.mul_lt_mul'' h k
  rw [← e] at this
  exact Nat.lt_of_lt_of_le this (Nat.pow_le_pow_right (by decide) (by decide))
theorem _root_.MX.Inv.num (I : Inv n W c M T R L) (B : Tab n W M) {r : List Rat} (hr : r ∈ T ∨ r ∈ R) : ∃ D X : Nat, 0 < D ∧ D < 2 ^ 450 ∧ X < 2 ^ 450 ∧ ScV D X r := by
  obtain ⟨x, S, b⟩ := B.sc
  have b := b _ I.len_le (by have := I.tot; have := I.len; omega)
  rcases hr with hr | hr
  · obtain ⟨D, h1, h2, h3⟩ := I.lead_sc B.w S hr
    exact ⟨D, _, h1, Nat.lt_of_le_of_lt h2 b, b, h3⟩
  · obtain ⟨u, z, h1, h2, h3, h4⟩ := I.left B.w S hr
    obtain ⟨D, k1, k2, k3⟩ := sc_of1 h1 h2 h3 h4
    exact ⟨D, _, k1, Nat.lt_of_le_of_lt k2 b, b, k3⟩
theorem _root_.MX.Inv.numP (I : Inv n W c M T R L) (B : Tab n W M) {q : List Rat} (mq : q ∈ R) (h0 : g q c ≠ 0) : ∃ D X : Nat, 0 < D ∧ D < 2 ^ 450 ∧ X < 2 ^ 450 ∧ ScV D X (nrm q c) := by
  obtain ⟨x, S, b⟩ := B.sc
  have b := b _ I.len_le (by have := I.tot; have := I.len; omega)
  obtain ⟨u, z, h1, h2, h3, h4⟩ := I.left B.w S mq
  obtain ⟨D, k1, k2, k3⟩ := sc_nrm1 h1 h2 h0 h3
  exact ⟨D, _, k1, Nat.lt_of_le_of_lt k2 b, b, k3⟩
theorem _root_.MX.Inv.small (I : Inv n W c M T R L) (B : Tab n W M) {r : List Rat} (hr : r ∈ T ∨ r ∈ R) (j : Nat) : Sm (g r j) := by
  obtain ⟨D, X, h1, h2, h3, h4⟩ := I.num B hr
  exact S1.sm (h4 j) h1 (up450 h2) (up450 h3)
theorem _root_.MX.Inv.smallP (I : Inv n W c M T R L) (B : Tab n W M) (hc : c < n) {q : List Rat} (mq : q ∈ R) (h0 : g q c ≠ 0) (j : Nat) : Sm (g (nrm q c) j) := by
  obtain ⟨D, X, h1, h2, h3, h4⟩ := I.numP B mq h0
  exact S1.sm (h4 j) h1 (up450 h2) (up450 h3)
theorem _root_.MX.Inv.smallM (I : Inv n W c M T R L) (B : Tab n W M) (hc : c < n) {q : List Rat} (mq : q ∈ R) (h0 : g q c ≠ 0) {r : List Rat} (hr : r ∈ T ∨ r ∈ R) (j : Nat) : Sm (g r c * g (nrm q c) j) := by
  obtain ⟨D, X, h1, h2, h3, h4⟩ := I.num B hr
  obtain ⟨D', X', k1, k2, k3, k4⟩ := I.numP B mq h0
  exact S1.sm (S1.mul (h4 c) (k4 j)) (Nat.mul_pos h1 k1) (sq450 h2 k2) (sq450 h3 k3)
theorem _root_.MX.Inv.wid (I : Inv n W c M T R L) {r : List Rat} (hr : r ∈ T ∨ r ∈ R) : r.length = W := by
  rcases hr with h | h
  · exact I.wT r h
  · exact I.wR r h
theorem mem_g {r : List Rat} {q : Rat} (h : q ∈ r) : ∃ j, j < r.length ∧ g r j = q := by
  obtain ⟨j, hj, e⟩ := List.mem_iff_getElem.mp h
  exact ⟨j, hj, by simp [g, List.getD_eq_getElem?_getD, hj, e]⟩
theorem sq_row (r : List Rat) : Sq (dR r) (dqs r) := .inl rfl
theorem get_dM {A : List (List Rat)} {i : Nat} (h : i < A.length) : (A.map dR)[i]? = some (dR (A.getD i [])) := by simp [List.getD_eq_getElem?_getD, h]
theorem mem_getD {A : List (List Rat)} {i : Nat} (h : i < A.length) : A.getD i [] ∈ A := at_mem h
theorem getD_app2 {A B : List (List Rat)} {i : Nat} : (A ++ B).getD (A.length + i) [] = B.getD i [] := by simp [List.getD_eq_getElem?_getD, List.getElem?_append_right]
theorem get_g {r : List Rat} {k : Nat} (h : k < r.length) : r[k]? = some (g r k) := by simp [g, List.getD_eq_getElem?_getD, h]
theorem perm_erase : ∀ {R : List (List Rat)} {i : Nat}, i < R.length → R.Perm (R.getD i [] :: R.eraseIdx i)
  | [], _, h => by simp at h
  | r :: R, 0, _ => by simp
  | r :: R, i + 1, h => by
    have := perm_erase (R := R) (i := i) (by simpa using h)
    refine (this.cons r).trans ?_
    rw [List.getD_cons_succ, List.eraseIdx_cons_succ]
    exact .swap _ _ _
theorem erase_map {α β : Type} {f : α → β} : ∀ {xs : List α} {i : Nat}, (xs.map f).eraseIdx i = (xs.eraseIdx i).map f
  | [], _ => by simp
  | x :: xs, 0 => rfl
  | x :: xs, i + 1 => by simp [erase_map (xs := xs) (i := i)]
theorem cut_take {α : Type} {xs : List α} {k : Nat} (h : k ≤ xs.length) : cut xs none (some (k : Int)) = xs.take k := by
  unfold cut
  rw [HT.sIx_nat, HT.sIx_none, List.drop_zero, Nat.sub_zero, Nat.min_eq_left h]
theorem cut_drop {α : Type} {xs : List α} {k : Nat} (h : k ≤ xs.length) : cut xs (some (k : Int)) none = xs.drop k := by
  unfold cut
  rw [HT.sIx_nat, HT.sIx_none, Nat.min_eq_left h, ← List.length_drop, List.take_length]
theorem c__law_put_out (hd : Mt d M) (B : Tab n W M) (h : ∀ T R L, Inv n W n M T R L → P (.tup [dM (T ++ R), dL L])) : sp__law_put_out [d, .int (n : Int)] P E := by
  obtain ⟨ds, hs, ha⟩ := hd
  have hW := B.W0
  have hm := B.m0
  have hn := B.nW
  refine ⟨rfl, ?_⟩
  show m__law_put_out [.im d, .im (.int n), .no, .no, .no, .no, .no, .no, .no, .no, .no, .no] _
  unfold m__law_put_out
  simp only [sSeq, sMany, xCons, xN, nComp, iOf, eVar, sl_c0, sl_c1]
  refine hs.seq ⟨by have := ha.len; omega, compD_a2 dR ha (fun x a _ s Q R q => ?_) ?_⟩
  · unfold cStep
    simp
    exact s.lst q
  simp
  refine ⟨by omega, ?_⟩
  refine forD_inv (fun c e => ∃ T R L x4 x5 x6 x7 x8 x9 x10 x11, Inv n W c M T R L ∧ e = [.im d, .im (.int n), .ow (dM (T ++ R)), .ow (dL L), x4, x5, x6, x7, x8, x9, x10, x11]) ?_ ?_ ?_
  · exact ⟨[], M, [], _, _, _, _, _, _, _, _, Inv.start B.nW B.w, rfl⟩
  · rintro c x e hx ⟨T, R, L, x4, x5, x6, x7, x8, x9, x10, x11, I, rfl⟩ nx hnx
    obtain ⟨hc, rfl⟩ := get_rng hx
    have hTL := I.len
    have htot := I.tot
    have hc' : c < n := by omega
    have hRn : ((((T ++ R).map dR).length : Int) - ((L.map fun (n : Nat) => Dt.int (n : Int)).length : Int)).toNat = R.length := by simp; omega
    simp [dM, dL, -List.map_append]
    simp only [List.length_map, List.length_append] at hRn
    refine ⟨by omega, by rw [rng_len]; omega, ?_⟩
    rw [show ((T.length : Int) + (R.length : Int)).toNat - L.length = R.length by omega, rng_lo]
    refine compD_fmG (fun i => decide (g (R.getD i []) c ≠ 0)) (fun i => Dt.int ((L.length : Int) + (i : Int))) (fun i hi Q K q => ?_) ?_
    · have hi := List.mem_range.mp hi
      unfold cStep
      simp [wipeE, -List.map_append, -List.getD_eq_getElem?_getD]
      rw [show ((L.length : Int) + (i : Int)) = ((T.length + i : Nat) : Int) by omega] at q ⊢
      have e1 : ((T ++ R).map dR)[T.length + i]? = some (dR (R.getD i [])) := by
        rw [get_dM (by rw [List.length_append]; omega), getD_app2]
      have w1 := I.wR _ (mem_getD hi)
      refine ixL e1 (ixL (get_dqs (by omega)) ?_)
      by_cases h0 : g (R.getD i []) c = 0
      · rw [if_neg (by rw [decide_eq_true_iff]; exact fun z => z h0)] at q
        simp [dq, h0, -List.getD_eq_getElem?_getD]
        exact q
      · rw [if_pos (decide_eq_true h0)] at q
        have h1 := num_ne h0
        simp [dq, h1, -List.getD_eq_getElem?_getD]
        exact q
    rw [List.nil_append]
    generalize hF : (List.range R.length).filter (fun i => decide (g (R.getD i []) c ≠ 0)) = F
    have pF : pln 1 (.lst (F.map fun (i : Nat) => Dt.int ((L.length : Int) + (i : Int)))) := fun x hx => by
      obtain ⟨i, _, rfl⟩ := List.mem_map.mp hx
      exact pln_int
    have p0 : pln 1 (.lst []) := fun x hx => by simp at hx
    refine ⟨⟨pF.ok, p0.ok⟩, ?_⟩
    cases F with
    | nil =>
      rw [List.map_nil, eqv_self p0, if_pos rfl]
      refine hnx _ ⟨T, R, L, _, _, _, _, _, _, _, _, I.skip hc' fun r hr => ?_, rfl⟩
      obtain ⟨i, hi, rfl⟩ := mem_at hr
      refine Classical.byContradiction fun z => ?_
      have : i ∈ ([] : List Nat) := by rw [← hF]; exact List.mem_filter.mpr ⟨List.mem_range.mpr hi, by simpa using z⟩
      simp at this
    | cons i0 rest =>
      have m0 : i0 ∈ (List.range R.length).filter (fun i => decide (g (R.getD i []) c ≠ 0)) := by rw [hF]; simp
      obtain ⟨hi0, h0⟩ := List.mem_filter.mp m0
      have hi0 := List.mem_range.mp hi0
      have h0 : g (R.getD i0 []) c ≠ 0 := by simpa using h0
      rw [eqv_false pF p0 (by simp), if_neg (by simp)]
      simp [-List.map_append]
      have hq : (T ++ R)[T.length + i0]? = some (R.getD i0 []) := by
        rw [List.getElem?_append_right (by omega), List.getD_eq_getElem?_getD]
        simp [hi0]
      generalize hqd : R.getD i0 [] = q at *
      have mq : q ∈ R := by rw [← hqd]; exact mem_getD hi0
      have wq := I.wR q mq
      have st := I.step hc' (R' := R.eraseIdx i0) (q := q) (by
        rw [← hqd]
        exact perm_erase hi0) h0
      have er : ((T ++ R).map dR).eraseIdx (T.length + i0) = (T ++ R.eraseIdx i0).map dR := by
        rw [erase_map, List.eraseIdx_append_of_length_le (by omega)]
        simp
      refine ⟨by omega, T.length + i0, ?_, _, ⟨_, hq, rfl⟩, ?_⟩
      · unfold ixN
        rw [if_pos (by omega), if_pos (by omega)]
        congr 1
        omega
      rw [er]
      simp only [dR]
      refine ⟨by simp; omega, compD_mapG (fun x => dq (x / g q c)) (fun x hx Q K k => ?_) ?_⟩
      · obtain ⟨j, hj, rfl⟩ := mem_g hx
        unfold cStep
        simp [wipeE, -List.map_append, -List.getD_eq_getElem?_getD]
        exact ⟨_, ⟨_, get_g (by omega), rfl⟩, z__law_over (I.small B (.inr mq) j) (I.small B (.inr mq) c) h0 k⟩
      have hE : R.length = (R.eraseIdx i0).length + 1 := by rw [List.length_eraseIdx_of_lt hi0]; omega
      have ep : ([] ++ q.map fun x => dq (x / g q c)) = dqs (nrm q c) := by simp [nrm, dqs]
      rw [ep]
      have wp : (nrm q c).length = W := by rw [nrm_len, wq]
      refine ⟨by simp; omega, compD_mapG (fun r => dR (upd (nrm q c) c r)) (fun r hr Q K k => ?_) ?_⟩
      · have hr' : r ∈ T ∨ r ∈ R := by
          rcases List.mem_append.mp hr with z | z
          · exact .inl z
          · exact .inr (List.mem_of_mem_eraseIdx z)
        have wr := I.wid hr'
        unfold cStep
        simp [wipeE, -List.map_append, -List.getD_eq_getElem?_getD, dR]
        refine ⟨by omega, by rw [rng_len]; omega, ?_⟩
        rw [rng0]
        refine compD_mapG (fun j => dq (g r j - g r c * g (nrm q c) j)) (fun j hj Q2 K2 k2 => ?_) ?_
        · have hj := List.mem_range.mp hj
          unfold cStep
          simp [wipeE, -List.map_append, -List.getD_eq_getElem?_getD]
          exact ⟨_, ⟨_, get_g (by omega), rfl⟩, _, ⟨_, get_g (by omega), rfl⟩, _, ⟨_, get_g (by omega), rfl⟩,
            z__law_mul (I.small B hr' c) (I.smallP B hc' mq h0 j) (z__law_sub (I.small B hr' j) (I.smallM B hc' mq h0 hr' j) k2)⟩
        · have : dqs (upd (nrm q c) c r) = (List.range r.length).map fun j => dq (g r j - g r c * g (nrm q c) j) := by simp [dqs, MX.upd]
          rw [List.nil_append, ← this]
          exact k
      · have e1 : ([] ++ (T ++ R.eraseIdx i0).map fun r => dR (MX.upd (nrm q c) c r)) = (T.map (MX.upd (nrm q c) c) ++ (R.eraseIdx i0).map (MX.upd (nrm q c) c)).map dR := by simp [Function.comp_def]
        rw [e1]
        have e2 : L.length = (T.map (MX.upd (nrm q c) c)).length := by simp [I.len]
        have e3 : L.length ≤ ((T.map (MX.upd (nrm q c) c) ++ (R.eraseIdx i0).map (MX.upd (nrm q c) c)).map dR).length := by simp; omega
        simp only [slL_r1, catL_r1, cut_take e3, cut_drop e3]
        rw [← List.map_take, ← List.map_drop, e2, List.take_left, List.drop_left]
        have f1 : Dt.lst (List.map dR (T.map (MX.upd (nrm q c) c)) ++ [Dt.lst (dqs (nrm q c))] ++ List.map dR ((R.eraseIdx i0).map (MX.upd (nrm q c) c))) = dM ((T.map (MX.upd (nrm q c) c) ++ [nrm q c]) ++ (R.eraseIdx i0).map (MX.upd (nrm q c) c)) := by simp [dM, dR]
        have f2 : Dt.lst (L.map (fun (n : Nat) => Dt.int (n : Int)) ++ [Dt.int (c : Int)]) = dL (L ++ [c]) := by simp [dL]
        rw [f1, f2]
        exact ⟨by simp; omega, by simp; omega, by simp; omega, hnx _ ⟨_, _, _, _, _, _, _, _, _, _, _, st, rfl⟩⟩
  · rintro e ⟨T, R, L, x4, x5, x6, x7, x8, x9, x10, x11, I, rfl⟩
    rw [rng_len] at I
    simp [frz]
    exact h T R L I
end
section
variable {n W c : Nat} {M T R T' R' : List (List Rat)} {L L' : List Nat} {P : Dt → Prop} {E : Xc → Prop} {d d' : Dt}
theorem ixN_nat {n j : Nat} (h : j < n) : ixN n (j : Int) = some j := by
  unfold ixN
  rw [if_pos (by omega), if_pos (by omega)]; simp
theorem swap_rest (s : List Rat) : ∀ {Rt : List (List Rat)} {j : Nat}, j < Rt.length → (s :: Rt).Perm (Rt.getD j [] :: Rt.set j s)
  | [], _, h => by simp at h
  | a :: t, 0, _ => by simp; exact .swap _ _ _
  | a :: t, j + 1, h => by
    have := swap_rest s (Rt := t) (j := j) (by simpa using h)
    rw [List.getD_cons_succ, List.set_cons_succ]
    exact (List.Perm.swap a s t).trans ((this.cons a).trans (.swap _ _ _))
theorem swap_perm {i0 : Nat} (h : i0 < R.length) : ∃ R', ((T ++ R).set T.length (R.getD i0 [])).set (T.length + i0) (R.getD 0 []) = T ++ R.getD i0 [] :: R' ∧ R.Perm (R.getD i0 [] :: R') := by
  match R, h with
  | s :: Rt, h =>
    match i0, h with
    | 0, _ => exact ⟨Rt, by simp, .refl _⟩
    | j + 1, h =>
      refine ⟨Rt.set j s, by simp [List.set_append_right], ?_⟩
      have hj : j < Rt.length := by simpa using h
      rw [List.getD_cons_succ]
      exact swap_rest s hj
def mix (B : List (List Rat)) (sp : Nat) (F : List Rat → List Rat) (k : Nat) : List (List Rat) := (List.range B.length).map fun i => if i < k ∧ i ≠ sp then F (B.getD i []) else B.getD i []
theorem mix_len (B : List (List Rat)) (sp : Nat) (F : List Rat → List Rat) (k : Nat) : (mix B sp F k).length = B.length := by simp [mix]
theorem mix_get {B : List (List Rat)} {sp : Nat} {F : List Rat → List Rat} {k i : Nat} (h : i < B.length) : (mix B sp F k)[i]? = some (if i < k ∧ i ≠ sp then F (B.getD i []) else B.getD i []) := by simp [mix, h]
theorem mix_0 {B : List (List Rat)} {sp : Nat} {F : List Rat → List Rat} : mix B sp F 0 = B := by
  refine List.ext_getElem? fun i => ?_
  by_cases h : i < B.length
  · rw [mix_get h]; simp [h]
  · rw [List.getElem?_eq_none (by rw [mix_len]; omega), List.getElem?_eq_none (by omega)]
theorem mix_set {B : List (List Rat)} {sp : Nat} {F : List Rat → List Rat} {k : Nat} (h : k < B.length) (hk : k ≠ sp) : (mix B sp F k).set k (F (B.getD k [])) = mix B sp F (k + 1) := by
  refine List.ext_getElem? fun i => ?_
  by_cases h : i < B.length
  · rw [mix_get h, List.getElem?_set]
    by_cases e : k = i
    · subst e
      rw [if_pos rfl, if_pos (by rw [mix_len]; omega), if_pos ⟨by omega, hk⟩]
    · rw [if_neg e, mix_get h]
      by_cases q : i < k ∧ i ≠ sp
      · rw [if_pos q, if_pos ⟨by omega, q.2⟩]
      · rw [if_neg q, if_neg fun z => q ⟨by omega, z.2⟩]
  · rw [List.getElem?_eq_none (by rw [List.length_set, mix_len]; omega), List.getElem?_eq_none (by rw [mix_len]; omega)]
theorem mix_skip {B : List (List Rat)} {sp : Nat} {F : List Rat → List Rat} {k : Nat} (hk : k = sp ∨ F (B.getD k []) = B.getD k []) : mix B sp F (k + 1) = mix B sp F k := by
  refine List.ext_getElem? fun i => ?_
  by_cases h : i < B.length
  · rw [mix_get h, mix_get h]
    by_cases e : k = i
    · subst e
      rcases hk with rfl | hk
      · simp
      · rw [hk]; simp
    · by_cases q : i < k ∧ i ≠ sp
      · rw [if_pos q, if_pos ⟨by omega, q.2⟩]
      · rw [if_neg q, if_neg fun z => q ⟨by omega, z.2⟩]
  · rw [List.getElem?_eq_none (by rw [mix_len]; omega), List.getElem?_eq_none (by rw [mix_len]; omega)]
theorem mix_end {p : List Rat} {F : List Rat → List Rat} : mix (T ++ p :: R) T.length F (T ++ p :: R).length = (T.map F ++ [p]) ++ R.map F := by
  refine List.ext_getElem? fun i => ?_
  by_cases h : i < (T ++ p :: R).length
  · rw [mix_get h]
    rcases Nat.lt_trichotomy i T.length with z | z | z
    · rw [if_pos ⟨h, by omega⟩]
      simp [List.getElem?_append_left, z]
    · subst z
      rw [if_neg fun q => q.2 rfl]
      simp [List.getElem?_append_right]
    · rw [if_pos ⟨h, by omega⟩]
      obtain ⟨j, rfl⟩ : ∃ j, i = T.length + 1 + j := ⟨i - T.length - 1, by omega⟩
      have hj : j < R.length := by simp at h; omega
      rw [List.getElem?_append_right (by simp), List.getD_eq_getElem?_getD, List.getElem?_append_right (by omega)]
      simp [hj, show T.length + 1 + j - T.length = j + 1 by omega]
  · rw [List.getElem?_eq_none (by rw [mix_len]; omega), List.getElem?_eq_none (by simp at h ⊢; omega)]
theorem upd_zero {p r : List Rat} (h : g r c = 0) : MX.upd p c r = r := by
  refine List.ext_getElem? fun i => ?_
  by_cases hi : i < r.length
  · rw [get_g (by rw [upd_len]; exact hi), get_g hi]
    congr 1
    simp [MX.upd, g, List.getD_eq_getElem?_getD, hi]
    have h : r[c]?.getD 0 = 0 := by simpa [g, List.getD_eq_getElem?_getD] using h
    rw [h]
    grind
  · rw [List.getElem?_eq_none (by rw [upd_len]; omega), List.getElem?_eq_none (by omega)]
theorem c_reduced (hd : Mt d M) (B : Tab n W M) (h : ∀ T R L, Inv n W n M T R L → P (.tup [dM (T ++ R), dL L])) : sp_reduced [d, .int (n : Int)] P E := by
  obtain ⟨ds, hs, ha⟩ := hd
  have hW := B.W0
  have hm := B.m0
  have hn := B.nW
  refine ⟨rfl, ?_⟩
  show m_reduced [.im d, .im (.int n), .no, .no, .no, .no, .no, .no, .no, .no, .no, .no] _
  unfold m_reduced
  simp only [sSeq, sMany, xCons, xN, nComp, iOf, eVar, sl_c0, sl_c1]
  refine hs.seq ⟨by have := ha.len; omega, compD_a2 dR ha (fun x a _ s Q R q => ?_) ?_⟩
  · unfold cStep
    simp
    exact s.lst q
  simp
  refine ⟨by omega, ?_⟩
  refine forD_inv (fun c e => ∃ T R L x4 x5 x6 x7 x8 x9 x10 x11, Inv n W c M T R L ∧ e = [.im d, .im (.int n), .ow (dM (T ++ R)), .ow (dL L), x4, x5, x6, x7, x8, x9, x10, x11]) ?_ ?_ ?_
  · exact ⟨[], M, [], _, _, _, _, _, _, _, _, Inv.start B.nW B.w, rfl⟩
  · rintro c x e hx ⟨T, R, L, x4, x5, x6, x7, x8, x9, x10, x11, I, rfl⟩ nx hnx
    obtain ⟨hc, rfl⟩ := get_rng hx
    have hTL := I.len
    have htot := I.tot
    have hc' : c < n := by omega
    simp [dM, dL, -List.map_append]
    refine ⟨by omega, by rw [rng_len]; omega, ?_⟩
    rw [show ((T.length : Int) + (R.length : Int)).toNat - L.length = R.length by omega, rng_lo]
    refine compD_fmG (fun i => decide (g (R.getD i []) c ≠ 0)) (fun i => Dt.int ((L.length : Int) + (i : Int))) (fun i hi Q K q => ?_) ?_
    · have hi := List.mem_range.mp hi
      unfold cStep
      simp [wipeE, -List.map_append, -List.getD_eq_getElem?_getD]
      rw [show ((L.length : Int) + (i : Int)) = ((T.length + i : Nat) : Int) by omega] at q ⊢
      have e1 : ((T ++ R).map dR)[T.length + i]? = some (dR (R.getD i [])) := by
        rw [get_dM (by rw [List.length_append]; omega), getD_app2]
      have w1 := I.wR _ (mem_getD hi)
      refine ixL e1 (ixL (get_dqs (by omega)) ?_)
      by_cases h0 : g (R.getD i []) c = 0
      · rw [if_neg (by rw [decide_eq_true_iff]; exact fun z => z h0)] at q
        simp [dq, h0, -List.getD_eq_getElem?_getD]
        exact q
      · rw [if_pos (decide_eq_true h0)] at q
        have h1 := num_ne h0
        simp [dq, h1, -List.getD_eq_getElem?_getD]
        exact q
    rw [List.nil_append]
    generalize hF : (List.range R.length).filter (fun i => decide (g (R.getD i []) c ≠ 0)) = F
    cases F with
    | nil =>
      simp [-List.map_append]
      refine hnx _ ⟨T, R, L, _, _, _, _, _, _, _, _, I.skip hc' fun r hr => ?_, rfl⟩
      obtain ⟨i, hi, rfl⟩ := mem_at hr
      refine Classical.byContradiction fun z => ?_
      have : i ∈ ([] : List Nat) := by rw [← hF]; exact List.mem_filter.mpr ⟨List.mem_range.mpr hi, decide_eq_true z⟩
      simp at this
    | cons i0 rest =>
      have m0 : i0 ∈ (List.range R.length).filter (fun i => decide (g (R.getD i []) c ≠ 0)) := by rw [hF]; simp
      obtain ⟨hi0, h0⟩ := List.mem_filter.mp m0
      have hi0 := List.mem_range.mp hi0
      have h0 : g (R.getD i0 []) c ≠ 0 := of_decide_eq_true h0
      have hpos : (0 : Int) < (rest.length : Int) + 1 := by omega
      simp [-List.map_append, -List.getD_eq_getElem?_getD, hpos]
      obtain ⟨S, eS, pS⟩ := swap_perm (T := T) hi0
      have hs0 : (T ++ R)[L.length]? = some (R.getD 0 []) := by
        rw [List.getElem?_append_right (by omega), List.getD_eq_getElem?_getD, hTL, Nat.sub_self]
        simp [show 0 < R.length by omega]
      have hq : (T ++ R)[T.length + i0]? = some (R.getD i0 []) := by
        rw [List.getElem?_append_right (by omega), List.getD_eq_getElem?_getD]
        simp [hi0]
      generalize hqd : R.getD i0 [] = q at *
      have mq : q ∈ R := by rw [← hqd]; exact mem_getD hi0
      have wq := I.wR q mq
      have st := I.step hc' (R' := S) (q := q) pS h0
      have mS : ∀ r ∈ S, r ∈ R := fun r hr => pS.mem_iff.mpr (by simp [hr])
      have lS : R.length = S.length + 1 := pS.length_eq
      have wp : (nrm q c).length = W := by rw [nrm_len, wq]
      refine ⟨dR q, ?_, dR (R.getD 0 []), ⟨_, hs0, rfl⟩, T.length, by rw [← hTL]; exact ixN_nat (by omega), T.length + i0, ?_, dR q, ?_⟩
      · rw [show ((L.length : Int) + (i0 : Int)) = ((T.length + i0 : Nat) : Int) by omega, atI_natE, List.getElem?_map, hq]
        rfl
      · rw [show ((L.length : Int) + (i0 : Int)) = ((T.length + i0 : Nat) : Int) by omega]
        exact ixN_nat (by omega)
      rw [← List.map_set, ← List.map_set, eS]
      refine ⟨by rw [List.getElem?_map, List.getElem?_append_right (by omega), hTL, Nat.sub_self]; rfl, ?_⟩
      simp only [dR]
      refine ⟨by simp; omega, compD_mapG (fun x => dq (x / g q c)) (fun x hx Q K k => ?_) ?_⟩
      · obtain ⟨j, hj, rfl⟩ := mem_g hx
        unfold cStep
        simp [wipeE, -List.map_append, -List.getD_eq_getElem?_getD]
        refine ⟨dR q, ⟨q, ?_, rfl⟩, ?_⟩
        · rw [List.getElem?_append_right (by omega), ← hTL, Nat.sub_self]; rfl
        · exact ixL (get_dqs (by omega)) (z_over (I.small B (.inr mq) j) (I.small B (.inr mq) c) h0 k)
      have ep : ([] ++ q.map fun x => dq (x / g q c)) = dqs (nrm q c) := by simp [nrm, dqs]
      rw [ep]
      refine ⟨T.length, by rw [← hTL]; exact ixN_nat (by omega), by omega, ?_⟩
      have eB : ((T ++ q :: S).map dR).set T.length (Dt.lst (dqs (nrm q c))) = (T ++ nrm q c :: S).map dR := by
        rw [show Dt.lst (dqs (nrm q c)) = dR (nrm q c) from rfl, ← List.map_set]
        simp [List.set_append_right]
      rw [eB]
      have lB : (T ++ nrm q c :: S).length = T.length + R.length := by simp; omega
      rw [show T.length + R.length = (T ++ nrm q c :: S).length by omega, rng0]
      refine forD_inv (fun k e => ∃ x7 x8 x9 x10 x11, e = [.im d, .im (.int n), .ow (.lst ((mix (T ++ nrm q c :: S) T.length (MX.upd (nrm q c) c) k).map dR)), .ow (.lst (L.map fun (n : Nat) => Dt.int (n : Int))), .im (.int c), .im (Dt.lst (Dt.int ((L.length : Int) + (i0 : Int)) :: rest.map fun (i : Nat) => Dt.int ((L.length : Int) + (i : Int)))), .im (.int L.length), x7, x8, x9, x10, x11]) ⟨x7, x8, x9, x10, x11, by rw [mix_0]⟩ ?_ ?_
      · rintro k x e hx ⟨x7, x8, x9, x10, x11, rfl⟩ nx2 hnx2
        have hk : k < (T ++ nrm q c :: S).length := by simpa using (List.getElem?_eq_some_iff.mp hx).1
        obtain rfl : x = .int (k : Int) := by
          rw [List.getElem?_map, List.getElem?_range hk] at hx
          exact (Option.some.inj hx).symm
        generalize hBr : (T ++ nrm q c :: S).getD k [] = r at *
        have gk : ∀ (i : Nat), (mix (T ++ nrm q c :: S) T.length (MX.upd (nrm q c) c) k)[k]? = some r := fun _ => by
          rw [mix_get hk, if_neg (by omega), hBr]
        have gs : (mix (T ++ nrm q c :: S) T.length (MX.upd (nrm q c) c) k)[L.length]? = some (nrm q c) := by
          rw [← hTL, mix_get (by omega), if_neg (by omega)]
          congr 1
          simp
        have key := gk 0
        by_cases hks : k = T.length
        · have : (k : Int) = (L.length : Int) := by omega
          simp [this]
          exact hnx2 _ ⟨_, _, _, _, _, by rw [mix_skip (.inl hks)]⟩
        · have hne : ¬ ((k : Int) = (L.length : Int)) := by omega
          have hr : r ∈ T ∨ r ∈ R := by
            by_cases hlt : k < T.length
            · left
              rw [← hBr, List.getD_eq_getElem?_getD, List.getElem?_append_left hlt, List.getElem?_eq_getElem hlt]
              exact List.getElem_mem hlt
            · right
              refine mS r ?_
              obtain ⟨j, rfl⟩ : ∃ j, k = T.length + 1 + j := ⟨k - T.length - 1, by omega⟩
              have hj : j < S.length := by omega
              rw [← hBr, List.getD_eq_getElem?_getD, List.getElem?_append_right (by omega), show T.length + 1 + j - T.length = j + 1 by omega, List.getElem?_cons_succ, List.getElem?_eq_getElem hj]
              exact List.getElem_mem hj
          have wr := I.wid hr
          simp [hne, key, gs, dR, -List.getD_eq_getElem?_getD]
          refine ⟨_, ⟨_, get_g (by omega), rfl⟩, ?_⟩
          by_cases hz : g r c = 0
          · rw [hz, dq0]
            simp
            exact hnx2 _ ⟨_, _, _, _, _, by rw [mix_skip (.inr (by rw [hBr]; exact upd_zero hz))]⟩
          · have hz1 := num_ne hz
            simp [dq, hz1, -List.getD_eq_getElem?_getD]
            refine ⟨_, ⟨_, get_g (by omega), rfl⟩, by omega, by rw [rng_len]; omega, ?_⟩
            rw [rng0]
            refine compD_mapG (fun j => dq (g r j - g r c * g (nrm q c) j)) (fun j hj Q2 K2 k2 => ?_) ?_
            · have hj := List.mem_range.mp hj
              unfold cStep
              simp [wipeE, -List.map_append, -List.getD_eq_getElem?_getD, key, gs, dR]
              exact ⟨_, ⟨_, get_g (by omega), rfl⟩, _, ⟨_, get_g (by omega), rfl⟩,
                z_times (I.small B hr c) (I.smallP B hc' mq h0 j) (z_minus (I.small B hr j) (I.smallM B hc' mq h0 hr j) k2)⟩
            · have e3 : Dt.lst ([] ++ (List.range r.length).map fun j => dq (g r j - g r c * g (nrm q c) j)) = dR (MX.upd (nrm q c) c r) := by simp [dR, dqs, MX.upd]
              rw [e3]
              simp only [mix_len] at *
              refine ⟨k, ixN_nat (by omega), ?_⟩
              have e4 := mix_set (B := T ++ nrm q c :: S) (F := MX.upd (nrm q c) c) hk hks
              rw [hBr] at e4
              rw [← List.map_set, e4]
              exact hnx2 _ ⟨_, _, _, _, _, rfl⟩
      · rintro e ⟨x7, x8, x9, x10, x11, rfl⟩
        rw [List.length_map, List.length_range, mix_end]
        simp only [sl_c0, sl_c1, put_c0, put_c1]
        refine ⟨by simp; omega, ?_⟩
        simp only [eV_im]
        have f2 : Dt.lst (L.map (fun (n : Nat) => Dt.int (n : Int)) ++ [Dt.int (c : Int)]) = dL (L ++ [c]) := by simp [dL]
        rw [f2]
        exact hnx _ ⟨_, _, _, _, _, _, _, _, _, _, _, st, rfl⟩
  · rintro e ⟨T, R, L, x4, x5, x6, x7, x8, x9, x10, x11, I, rfl⟩
    rw [rng_len] at I
    simp [frz]
    exact h T R L I
end
section
variable {n W c : Nat} {M T R T' R' : List (List Rat)} {L L' : List Nat} {P : Dt → Prop} {E : Xc → Prop} {d d' : Dt}
theorem c_rank_of (hd : Mt d M) (B : Tab n W M) (h : ∀ T R L, Inv n W n M T R L → P (.int (L.length : Int))) : sp_rank_of [d, .int (n : Int)] P E := by
  refine ⟨rfl, ?_⟩
  show m_rank_of [.im d, .im (.int n)] _
  simp [m_rank_of]
  refine c_reduced hd B fun T R L I => ?_
  simp [dL]
  exact h T R L I
theorem c__law_rank (hd : Mt d M) (B : Tab n W M) (h : ∀ T R L, Inv n W n M T R L → P (.int (L.length : Int))) : sp__law_rank [d, .int (n : Int)] P E := by
  refine ⟨rfl, ?_⟩
  show m__law_rank [.im d, .im (.int n)] _
  simp [m__law_rank]
  refine c__law_put_out hd B fun T R L I => ?_
  simp [dL]
  exact h T R L I
/-! ways -/
def wk (T : List (List Rat)) (S L : List Nat) (c : Nat) : Nat → Rat := fun j => if j = c then 1 else if j ∈ S then - at2 T (L.idxOf j) c else 0
theorem wk_all : wk T L L c = way T L c := rfl
theorem set_range {α : Type} {n l : Nat} {f : Nat → α} {v : α} : ((List.range n).map f).set l v = (List.range n).map fun j => if j = l then v else f j := by
  refine List.ext_getElem? fun i => ?_
  by_cases h : i < n
  · rw [List.getElem?_set]
    by_cases e : l = i
    · subst e; simp [h]
    · rw [if_neg e]; simp [h, Ne.symm e]
  · rw [List.getElem?_eq_none (by simp; omega), List.getElem?_eq_none (by simp; omega)]
theorem wk_set (p : L.Pairwise (· < ·)) {k l : Nat} (hk : L[k]? = some l) (hc : c ∉ L) : ((List.range n).map fun j => dq (wk T (L.take k) L c j)).set l (dq (- at2 T k c)) = (List.range n).map fun j => dq (wk T (L.take (k + 1)) L c j) := by
  rw [set_range]
  refine List.map_congr_left fun j _ => ?_
  have hm : l ∈ L := List.mem_of_getElem? hk
  have e : L.take (k + 1) = L.take k ++ [l] := by rw [List.take_add_one, hk]; rfl
  by_cases hj : j = l
  · subst hj
    have h1 : L.idxOf j = k := pw_nodup p (idx_get hm) hk
    have h2 : j ≠ c := fun z => hc (z ▸ hm)
    rw [if_pos rfl]
    simp [wk, h2, e, h1]
  · rw [if_neg hj]
    simp [wk, e, hj]
theorem any_lead {L : List Nat} {c : Nat} : ((L.map fun (n : Nat) => Dt.int (n : Int)).any fun y => eqv y (.int (c : Int))) = L.contains c := by
  induction L with
  | nil => rfl
  | cons a l ih =>
    rw [List.map_cons, List.any_cons, ih, List.contains_cons]
    rw [eqv_int]
    by_cases h : a = c
    · subst h; simp
    · have h1 : ¬ ((a : Int) = (c : Int)) := by omega
      have h2 : ¬ c = a := fun z => h z.symm
      simp [h1, h2]
theorem pln_L {L : List Nat} : pln 1 (.lst (L.map fun (n : Nat) => Dt.int (n : Int))) := fun x hx => by
  obtain ⟨i, _, rfl⟩ := List.mem_map.mp hx
  exact pln_int
def dT (r : List Rat) : Dt := .tup (dqs r)
theorem at2_get (hk : k < T.length) {c : Nat} (hc : c < n) (w : ∀ r ∈ T, r.length = n) : ((T ++ R).map dR)[k]? = some (dR (T.getD k [])) ∧ (dqs (T.getD k []))[c]? = some (dq (at2 T k c)) := by
  refine ⟨?_, get_dqs (by rw [w _ (at_mem hk)]; exact hc)⟩
  rw [get_dM (by rw [List.length_append]; omega)]
  simp [List.getElem?_append_left hk, List.getD_eq_getElem?_getD, hk]
def fw (T : List (List Rat)) (L : List Nat) (n c : Nat) : List Dt := (((List.range c).filter fun c => !L.contains c).map (wayL T L n)).map dT
theorem fw_skip (h : c ∈ L) : fw T L n (c + 1) = fw T L n c := by
  unfold fw
  rw [List.range_succ, List.filter_append]
  simp [h]
theorem fw_add (h : c ∉ L) : fw T L n (c + 1) = fw T L n c ++ [dT (wayL T L n c)] := by
  unfold fw
  rw [List.range_succ, List.filter_append, List.map_append, List.map_append]
  simp [h]
theorem fw_all : fw T L n n = (waysL T L n).map dT := rfl
theorem fw_len : (fw T L n c).length ≤ c := by
  unfold fw
  rw [List.length_map, List.length_map]
  exact Nat.le_trans (List.length_filter_le _ _) (by rw [List.length_range]; exact Nat.le_refl _)
theorem dT_way {c : Nat} : dT (wayL T L n c) = .tup ((List.range n).map fun j => dq (wk T L L c j)) := by
  unfold dT wayL dqs
  rw [List.map_map]
  rfl
theorem wk_0 {c : Nat} (hc : c < n) : ((List.range n).map fun j => dq (wk T (L.take 0) L c j)) = (List.replicate n (dq 0)).set c (dq 1) := by
  refine List.ext_getElem? fun i => ?_
  by_cases h : i < n
  · rw [List.getElem?_set]
    by_cases e : c = i
    · subst e; simp [h, wk]
    · rw [if_neg e]; simp [h, wk, Ne.symm e]
  · rw [List.getElem?_eq_none (by simp; omega), List.getElem?_eq_none (by simp; omega)]
theorem rep_flat {α : Type} (n : Nat) (x : α) : (List.replicate n [x]).flatten = List.replicate n x := by
  induction n with
  | zero => rfl
  | succ n ih => rw [List.replicate_succ, List.flatten_cons, ih]; rfl
theorem c_ways (hd : Mt d M) (B : Tab n n M) (h : ∀ T R L, Inv n n n M T R L → P (.lst ((waysL T L n).map dT))) : sp_ways [d, .int (n : Int)] P E := by
  have hW := B.W0
  refine ⟨rfl, ?_⟩
  show m_ways [.im d, .im (.int n), .no, .no, .no, .no, .no, .no] _
  simp [m_ways]
  refine c_reduced hd B fun T R L I => ?_
  have keyA : ∀ k, k < L.length → ((T ++ R).map dR)[k]? = some (dR (T.getD k [])) := fun k hk => (at2_get (n := n) (c := 0) (by rw [I.len]; exact hk) (by
    have := I.len_le; omega) I.wT).1
  have keyB : ∀ k, k < L.length → ∀ c, c < n → (dqs (T.getD k []))[c]? = some (dq (at2 T k c)) := fun k hk c hc => (at2_get (R := R) (by rw [I.len]; exact hk) hc I.wT).2
  unfold dM dL
  generalize (T ++ R).map dR = A at *
  simp
  refine ⟨by omega, ?_⟩
  rw [rng0]
  refine forD_inv (fun c e => ∃ x5 x6 x7, e = [.im d, .im (.int n), .im (.lst A), .im (.lst (L.map fun (n : Nat) => Dt.int (n : Int))), .ow (.lst (fw T L n c)), x5, x6, x7]) ⟨_, _, _, rfl⟩ ?_ ?_
  · rintro c x e hx ⟨x5, x6, x7, rfl⟩ nx hnx
    obtain ⟨hc, rfl⟩ := get_rng (by rw [rng0]; exact hx)
    have hcn : c < n := by omega
    simp only [sSeq, sIf, bT, eOp, niL, gN, sl_c0, sl_c1, put_c0, put_c1, eVar, sNext]
    refine ⟨⟨okD_int, pln_L.ok⟩, ?_⟩
    rw [any_lead]
    simp only [asB]
    by_cases hm : c ∈ L
    · rw [fw_skip hm] at hnx
      simp [hm]
      exact hnx _ ⟨_, _, _, rfl⟩
    · rw [fw_add hm] at hnx
      simp [hm]
      refine ⟨⟨by omega, by omega⟩, c, ixN_nat hcn, by have := I.len_le; omega, ?_⟩
      rw [show c_NOUGHT_solving = dq 0 from rfl, show c_ONE_solving = dq 1 from rfl, ← wk_0 (T := T) (L := L) hcn, rng0]
      refine forD_inv (fun k e => ∃ x7, e = [.im d, .im (.int n), .im (.lst A), .im (.lst (L.map fun (n : Nat) => Dt.int (n : Int))), .ow (.lst (fw T L n c)), .im (.int c), .ow (.lst ((List.range n).map fun j => dq (wk T (L.take k) L c j))), x7]) ⟨_, rfl⟩ ?_ ?_
      · rintro k x e hx ⟨x7, rfl⟩ nx2 hnx2
        obtain ⟨hk, rfl⟩ := get_rng (by rw [rng0]; exact hx)
        have gl : L[k]? = some L[k] := List.getElem?_eq_getElem hk
        have hl : L[k] < n := I.rr.mem_lt gl
        have st := wk_set (n := n) (T := T) I.sorted gl hm
        simp [-List.getD_eq_getElem?_getD, -List.getElem?_map, keyA k hk, dR, keyB k hk c hcn]
        refine c_negative ?_
        refine ⟨.int L[k], by rw [List.getElem?_map, gl]; rfl, L[k], ixN_nat (by simpa using hl), ?_⟩
        rw [st]
        exact hnx2 _ ⟨_, rfl⟩
      · rintro e ⟨x7, rfl⟩
        rw [List.length_map, List.length_range, List.take_length]
        simp
        refine ⟨by have := fw_len (T := T) (L := L) (n := n) (c := c); omega, ?_⟩
        rw [← dT_way]
        exact hnx _ ⟨_, _, _, rfl⟩
  · rintro e ⟨x5, x6, x7, rfl⟩
    rw [List.length_map, List.length_range, fw_all]
    simp [frz]
    have := h T R L I
    simpa using this
end
section
variable {n W c : Nat} {M T R T' R' : List (List Rat)} {L L' : List Nat} {P : Dt → Prop} {E : Xc → Prop} {d d' : Dt}
theorem mapR_one {n c : Nat} : ((List.range n).map fun (j : Nat) => if (j : Int) = (c : Int) then dq 1 else dq 0) = (List.range n).map fun j => dq (wk T (L.take 0) L c j) := by
  refine List.map_congr_left fun j _ => ?_
  by_cases h : j = c
  · subst h; simp [wk]
  · have : ¬ ((j : Int) = (c : Int)) := by omega
    simp [wk, h, this]
theorem c__law_ways (hd : Mt d M) (B : Tab n n M) (h : ∀ T R L, Inv n n n M T R L → P (.lst ((waysL T L n).map dT))) : sp__law_ways [d, .int (n : Int)] P E := by
  have hW := B.W0
  refine ⟨rfl, ?_⟩
  show m__law_ways [.im d, .im (.int n), .no, .no, .no, .no, .no, .no, .no] _
  simp [m__law_ways]
  refine c__law_put_out hd B fun T R L I => ?_
  have keyA : ∀ k, k < L.length → ((T ++ R).map dR)[k]? = some (dR (T.getD k [])) := fun k hk => (at2_get (n := n) (c := 0) (by rw [I.len]; exact hk) (by
    have := I.len_le; omega) I.wT).1
  have keyB : ∀ k, k < L.length → ∀ c, c < n → (dqs (T.getD k []))[c]? = some (dq (at2 T k c)) := fun k hk c hc => (at2_get (R := R) (by rw [I.len]; exact hk) hc I.wT).2
  unfold dM dL
  generalize (T ++ R).map dR = A at *
  simp
  refine ⟨by omega, by rw [rng_len]; omega, ?_⟩
  rw [rng0]
  refine compD_fmG (fun c => !L.contains c) (fun (c : Nat) => Dt.int (c : Int)) (fun i hi Q K q => ?_) ?_
  · unfold cStep
    simp only [gN, bT, eOp, niL, eVar, wipeE, sl_c0, sl_c1, put_c0, put_c1, asB]
    refine ⟨⟨okD_int, pln_L.ok⟩, ?_⟩
    rw [any_lead]
    exact q
  rw [List.nil_append]
  rw [show (List.range n).filter (fun c => !L.contains c) = frees n L from rfl]
  try dsimp only
  have hfl : (frees n L).length ≤ 1000 := by have := frees_len I.rr; omega
  refine forD_inv (fun i e => ∃ x5 x6 x7 x8, e = [.im d, .im (.int n), .im (.lst A), .im (.lst (L.map fun (n : Nat) => Dt.int (n : Int))), .ow (.lst ((((frees n L).take i).map (wayL T L n)).map dT)), x5, x6, x7, x8]) ⟨_, _, _, _, rfl⟩ ?_ ?_
  · rintro i x e hx ⟨x5, x6, x7, x8, rfl⟩ nx hnx
    obtain ⟨c, gc, rfl⟩ : ∃ c, (frees n L)[i]? = some c ∧ Dt.int (c : Int) = x := by simpa using hx
    have mc := mem_frees.mp (List.mem_of_getElem? gc)
    have hi : i < (frees n L).length := (List.getElem?_eq_some_iff.mp gc).1
    have et : (((frees n L).take (i + 1)).map (wayL T L n)).map dT = (((frees n L).take i).map (wayL T L n)).map dT ++ [dT (wayL T L n c)] := by
      rw [List.take_add_one, gc]; simp
    rw [et] at hnx
    generalize hG : (((frees n L).take i).map (wayL T L n)).map dT = G at *
    have lG : G.length ≤ 1000 := by rw [← hG]; simp; omega
    obtain ⟨hcn, hm⟩ := mc
    simp
    refine ⟨by omega, by rw [rng_len]; omega, ?_⟩
    rw [rng0]
    refine compD_mapG (fun (j : Nat) => if (j : Int) = (c : Int) then dq 1 else dq 0) (fun j hj Q K q => ?_) ?_
    · unfold cStep
      simp [wipeE]
      by_cases h : (j : Int) = (c : Int)
      · rw [if_pos h] at q
        simp [h]; exact q
      · rw [if_neg h] at q
        simp [h]; exact q
    rw [List.nil_append, mapR_one (T := T) (L := L)]
    refine ⟨by have := I.len_le; omega, ?_⟩
    skip
    refine forD_inv (fun k e => ∃ x7, e = [.im d, .im (.int n), .im (.lst A), .im (.lst (L.map fun (n : Nat) => Dt.int (n : Int))), .ow (.lst G), .im (.int c), .ow (.lst ((List.range n).map fun j => dq (wk T (L.take k) L c j))), x7, x8]) ⟨_, rfl⟩ ?_ ?_
    · rintro k x e hx ⟨x7, rfl⟩ nx2 hnx2
      obtain ⟨hk, rfl⟩ := get_rng (by rw [rng0]; exact hx)
      have gl : L[k]? = some L[k] := List.getElem?_eq_getElem hk
      have hl : L[k] < n := I.rr.mem_lt gl
      have st := wk_set (n := n) (T := T) I.sorted gl hm
      simp [-List.getD_eq_getElem?_getD, -List.getElem?_map, keyA k hk, dR, keyB k hk c hcn]
      refine c__law_turn ?_
      refine ⟨.int L[k], by rw [List.getElem?_map, gl]; rfl, L[k], ixN_nat (by simpa using hl), ?_⟩
      rw [st]
      exact hnx2 _ ⟨_, rfl⟩
    · rintro e ⟨x7, rfl⟩
      rw [List.length_map, List.length_range, List.take_length]
      simp
      refine ⟨by omega, ?_⟩
      rw [← dT_way]
      exact hnx _ ⟨_, _, _, _, rfl⟩
  · rintro e ⟨x5, x6, x7, x8, rfl⟩
    rw [List.length_map, List.take_length]
    simp [frz]
    have := h T R L I
    simpa [waysL] using this
/-! points -/
def pk (T : List (List Rat)) (S L : List Nat) (n : Nat) : Nat → Rat := fun j => if j ∈ S then at2 T (L.idxOf j) n else 0
theorem pk_all : pk T L L n = pnt T L n := rfl
theorem pk_set (p : L.Pairwise (· < ·)) {k l : Nat} (hk : L[k]? = some l) : ((List.range n).map fun j => dq (pk T (L.take k) L n j)).set l (dq (at2 T k n)) = (List.range n).map fun j => dq (pk T (L.take (k + 1)) L n j) := by
  rw [set_range]
  refine List.map_congr_left fun j _ => ?_
  have hm : l ∈ L := List.mem_of_getElem? hk
  have e : L.take (k + 1) = L.take k ++ [l] := by rw [List.take_add_one, hk]; rfl
  by_cases hj : j = l
  · subst hj
    have h1 : L.idxOf j = k := pw_nodup p (idx_get hm) hk
    rw [if_pos rfl]
    simp [pk, e, h1]
  · rw [if_neg hj]
    simp [pk, e, hj]
theorem pk_0 : ((List.range n).map fun j => dq (pk T (L.take 0) L n j)) = List.replicate n (dq 0) := by
  refine List.ext_getElem? fun i => ?_
  by_cases h : i < n
  · simp [h, pk]
  · rw [List.getElem?_eq_none (by simp; omega), List.getElem?_eq_none (by simp; omega)]
theorem Rws.ix {ds : List Dt} (ha : Rws ds M) {k : Nat} (hk : k < M.length) : ∃ x, ds[k]? = some x ∧ Sq x (dqs (M.getD k [])) := by
  have hl := ha.len
  obtain ⟨a, e, s⟩ := ha.get (i := k) (b := M.getD k []) (by simp [List.getD_eq_getElem?_getD, hk])
  exact ⟨a, e, s⟩
theorem Mt.len (hd : Mt d M) {Q : Dt → Prop} (q : Q (.int M.length)) : lenD d Q := by
  obtain ⟨ds, hs, ha⟩ := hd
  exact hs.len (by rw [ha.len]; exact q)
theorem Mt.ix (hd : Mt d M) {k : Nat} (hk : k < M.length) {Q : Dt → Prop} (q : ∀ x, Sq x (dqs (M.getD k [])) → Q x) : ixD d (.int (k : Int)) Q := by
  obtain ⟨ds, hs, ha⟩ := hd
  obtain ⟨x, e, s⟩ := Rws.ix ha hk
  exact hs.ix e (q x s)
theorem mt_dM : Mt (dM M) M := by
  refine ⟨_, .inl rfl, ?_⟩
  induction M with
  | nil => exact .nil
  | cons r M ih => exact .cons (.inl rfl) ih
theorem mt_dT : Rws (M.map dT) M := by
  induction M with
  | nil => exact .nil
  | cons r M ih => exact .cons (.inr rfl) ih
theorem mt_mapR {α : Type} {f : α → List Rat} {as : List α} : Mt (.lst (as.map fun a => dR (f a))) (as.map f) := by
  have := mt_dM (M := as.map f)
  unfold dM at this
  rwa [List.map_map] at this
theorem c_point {b : List Rat} (hd : Mt d M) (hg : Sq d' (dqs b)) (hb : M.length ≤ b.length) (B : Tab n (n + 1) (aug n M (g b)))
    (h0 : ∀ T R L, Inv n (n + 1) n (aug n M (g b)) T R L → (∃ r ∈ R, g r n ≠ 0) → P .non)
    (h1 : ∀ T R L, Inv n (n + 1) n (aug n M (g b)) T R L → (∀ r ∈ R, g r n = 0) → P (.tup ((List.range n).map fun j => dq (pnt T L n j)))) : sp_point [d, d', .int (n : Int)] P E := by
  have hW := B.W0
  have hm := B.m0
  have hal : (aug n M (g b)).length = M.length := by simp [aug]
  refine ⟨rfl, ?_⟩
  show m_point [.im d, .im d', .im (.int n), .no, .no, .no, .no, .no] _
  simp [m_point]
  refine hd.len ?_
  simp
  refine ⟨by omega, by rw [rng_len]; omega, ?_⟩
  rw [rng0]
  refine compD_mapG (fun k => dR (M.getD k [] ++ [g b k])) (fun k hk Q K q => ?_) ?_
  · have hk := List.mem_range.mp hk
    unfold cStep
    simp [wipeE]
    refine hd.ix hk fun x sx => sx.lst ?_
    refine hg.ixg (by omega) ?_
    refine ⟨by have := B.w (M.getD k [] ++ [g b k]) (mem_aug.mpr ⟨k, hk, rfl⟩); simp at this ⊢; omega, ?_⟩
    simpa [dR] using q
  rw [List.nil_append]
  refine c_reduced (M := aug n M (g b)) mt_mapR B fun T R L I => ?_
  have keyA : ∀ k, k < L.length → ((T ++ R).map dR)[k]? = some (dR (T.getD k [])) := fun k hk => by
    have hk' : k < T.length := by rw [I.len]; exact hk
    rw [get_dM (by rw [List.length_append]; omega), List.getD_eq_getElem?_getD, List.getElem?_append_left hk', ← List.getD_eq_getElem?_getD]
  have keyB : ∀ k, k < L.length → (dqs (T.getD k []))[n]? = some (dq (at2 T k n)) := fun k hk => get_dqs (by
    have hk' : k < T.length := by rw [I.len]; exact hk
    rw [I.wT _ (at_mem hk')]; omega)
  have keyC : cut ((T ++ R).map dR) (some (L.length : Int)) none = R.map dR := by
    rw [cut_drop (by simp; have := I.len; omega), ← I.len, ← List.map_drop, List.drop_left]
  have lA : ((T ++ R).map dR).length ≤ 1000 := by
    have := I.tot
    simp; omega
  have lR : R.length ≤ 1000 := by have := I.tot; omega
  unfold dM dL
  generalize (T ++ R).map dR = A at *
  simp [keyC]
  refine ⟨by omega, ?_⟩
  refine compD_mapG (fun r => Dt.bl (decide (g r n ≠ 0))) (fun r hr Q K q => ?_) ?_
  · unfold cStep
    have wr := I.wR r hr
    simp [wipeE, dR]
    refine ⟨_, ⟨_, get_g (by omega), rfl⟩, ?_⟩
    simp [dq]
    simpa using q
  refine ⟨R.map fun r => decide (g r n ≠ 0), by simp, ?_⟩
  dsimp only [asB]
  by_cases hz : ∃ r ∈ R, g r n ≠ 0
  · rw [if_pos (by simpa using hz)]
    exact h0 T R L I hz
  · rw [if_neg (by simpa using hz)]
    have hz' : ∀ r ∈ R, g r n = 0 := fun r hr => Classical.byContradiction fun z => hz ⟨r, hr, z⟩
    have ln := I.len_le
    refine ⟨⟨by omega, by omega⟩, by omega, ?_⟩
    rw [show c_NOUGHT_solving = dq 0 from rfl, ← pk_0 (T := T) (L := L), rng0]
    refine forD_inv (fun k e => ∃ x6 x7, e = [.im d, .im d', .im (.int n), .im (.lst A), .im (.lst (L.map fun (n : Nat) => Dt.int (n : Int))), .ow (.lst ((List.range n).map fun j => dq (pk T (L.take k) L n j))), x6, x7]) ⟨_, _, rfl⟩ ?_ ?_
    · rintro k x e hx ⟨x6, x7, rfl⟩ nx2 hnx2
      obtain ⟨hk, rfl⟩ := get_rng (by rw [rng0]; exact hx)
      have gl : L[k]? = some L[k] := List.getElem?_eq_getElem hk
      have hl : L[k] < n := I.rr.mem_lt gl
      have st := pk_set (n := n) (T := T) I.sorted gl
      simp [-List.getD_eq_getElem?_getD, -List.getElem?_map, keyA k hk, dR, keyB k hk]
      refine ⟨.int L[k], by rw [List.getElem?_map, gl]; rfl, L[k], ixN_nat (by simpa using hl), ?_⟩
      rw [st]
      exact hnx2 _ ⟨_, _, rfl⟩
    · rintro e ⟨x6, x7, rfl⟩
      rw [List.length_map, List.length_range, List.take_length, pk_all]
      simp
      exact h1 T R L I hz'
end
@[simp] theorem eqv_bl {a b : Bool} : eqv (.bl a) (.bl b) = (a == b) := by
  simp [eqv, Dt.py, PyData.eqv]
theorem compD_none {α : Type} {S : Dt → α → Prop} {g : G} {it : IT} {ie : IE} {env : List Sl} {P : Dt → Prop} : ∀ {ds : List Dt} {as : List α} {outs : List Dt}, All2 S ds as →
    (∀ x a, a ∈ as → S x a → ∀ (Q : Dt → Prop) (R : Prop), R → cStep g it ie env x Q R) → P (.lst outs) → compD g it ie env P ds outs
  | _, _, outs, .nil, _, k => k
  | _, _, outs, .cons s t, h, k => h _ _ (by simp) s _ _ (compD_none t (fun x a m => h x a (by simp [m])) k)
section
variable {n W c : Nat} {M M' T R T' R' : List (List Rat)} {L L' : List Nat} {P : Dt → Prop} {E : Xc → Prop} {d d' : Dt}
def trn (W : Nat) (M : List (List Rat)) : List (List Rat) := (List.range W).map fun c => M.map fun r => g r c
theorem trn_len : (trn W M).length = W := by simp [trn]
theorem trn_get {c : Nat} (h : c < W) : (trn W M).getD c [] = M.map fun r => g r c := by simp [trn, List.getD_eq_getElem?_getD, h]
theorem g_col {c k : Nat} : g (M.map fun r => g r c) k = at2 M k c := by
  unfold at2
  by_cases h : k < M.length
  · simp [g, List.getD_eq_getElem?_getD, h]
  · rw [g_ge (by simp; omega)]
    simp [List.getD_eq_getElem?_getD, List.getElem?_eq_none (show M.length ≤ k by omega)]
    exact (g_ge (by simp)).symm
theorem at2_trn {c k : Nat} (h : c < W) : at2 (trn W M) c k = at2 M k c := by
  conv => lhs; unfold at2
  rw [trn_get h, g_col]
theorem Mt.seqA (hd : Mt d M) {Q : List Dt → Prop} (q : ∀ ds, Rws ds M → Q ds) : seqD d Q := by
  obtain ⟨ds, hs, ha⟩ := hd
  exact hs.seq (q ds ha)
theorem c_made_of {gl : List Rat} (hd : Mt d M) (hg : Sq d' (dqs gl)) (hw : ∀ r ∈ M, gl.length ≤ r.length) (hl : M.length ≤ 1000) (B : Tab M.length (M.length + 1) (aug M.length (trn gl.length M) (g gl)))
    (h0 : ∀ T R L, Inv M.length (M.length + 1) M.length (aug M.length (trn gl.length M) (g gl)) T R L → (∃ r ∈ R, g r M.length ≠ 0) → P .non)
    (h1 : ∀ T R L, Inv M.length (M.length + 1) M.length (aug M.length (trn gl.length M) (g gl)) T R L → (∀ r ∈ R, g r M.length = 0) → P (.tup ((List.range M.length).map fun j => dq (pnt T L M.length j)))) : sp_made_of [d, d'] P E := by
  have hm := B.m0
  have hal : (aug M.length (trn gl.length M) (g gl)).length = gl.length := by simp [aug, trn]
  refine ⟨rfl, ?_⟩
  show m_made_of [.im d, .im d', .no, .no, .no] _
  simp [m_made_of]
  refine hg.len ?_
  simp
  refine ⟨by omega, by rw [rng_len]; omega, ?_⟩
  rw [rng0]
  refine compD_mapG (fun c => dR (M.map fun r => g r c)) (fun c hc Q K q => ?_) ?_
  · have hc := List.mem_range.mp hc
    unfold cStep
    simp [wipeE]
    refine hd.seqA fun ds ha => ⟨by rw [ha.len]; omega, ?_⟩
    refine compD_a2 (fun r => dq (g r c)) ha (fun x r mr s Q2 R2 q2 => ?_) ?_
    · unfold cStep
      simp [wipeE]
      exact s.ixg (by have := hw r mr; omega) q2
    · have : Dt.lst ([] ++ M.map fun r => dq (g r c)) = dR (M.map fun r => g r c) := by simp [dR, Function.comp_def]
      rw [this]
      exact q
  rw [List.nil_append]
  refine hg.lst (hd.len ?_)
  exact c_point (M := trn gl.length M) mt_mapR (.inl rfl) (by rw [trn_len]; exact Nat.le_refl _) B h0 h1
theorem _root_.MX.Inv.any (B : Tab n W M) : ∃ T R L, Inv n W n M T R L := MX.Inv.exX B.nW B.w
theorem mt_app {ds ds' : List Dt} (h : Rws ds M) (h' : Rws ds' M') : Rws (ds ++ ds') (M ++ M') := by
  induction h with
  | nil => exact h'
  | cons s t ih => exact .cons s ih
end
end KK

set_option maxRecDepth 100000
set_option maxHeartbeats 1000000
namespace KK
open PySem L2 DL FQ MX
@[simp] theorem atI_4 {α : Type} {x y z u v : α} {xs : List α} : atI (x :: y :: z :: u :: v :: xs) 4 = some v := atI_natE (j := 4)
@[simp] theorem atI_5 {α : Type} {x y z u v w : α} {xs : List α} : atI (x :: y :: z :: u :: v :: w :: xs) 5 = some w := atI_natE (j := 5)
abbrev mst (w : String) : Xc := ("Misstep", [.str (PySem.Str.ofString w)])
abbrev sD (s : String) : Dt := .str (PySem.Str.ofString s)
theorem ofString_inj {a b : String} : PySem.Str.ofString a = PySem.Str.ofString b ↔ a = b := by
  constructor
  · intro h
    rw [PySem.Str.ofString_eq_toList, PySem.Str.ofString_eq_toList] at h
    have h1 : (a.toList.map Char.toNat).toArray = (b.toList.map Char.toNat).toArray := by injection h
    have h2 : a.toList.map Char.toNat = b.toList.map Char.toNat := by
      have := congrArg Array.toList h1
      simpa using this
    exact String.toList_inj.mp ((List.map_inj_right fun x y e => Char.toNat_inj.mp e).mp h2)
  · rintro rfl; rfl
theorem pln_sD {k : Nat} (s : String) : pln k (sD s) := pln_str (strOk_of s)
@[simp] theorem eqv_ss (a b : String) : eqv (.str (PySem.Str.ofString a)) (.str (PySem.Str.ofString b)) = decide (a = b) := by
  have := eqv_iff (pln_sD (k := 0) a) (pln_sD (k := 0) b)
  by_cases h : a = b
  · rw [decide_eq_true h, this.mpr (by rw [h])]
  · rw [decide_eq_false h]
    exact eqv_false (pln_sD (k := 0) a) (pln_sD (k := 0) b) fun z => h (ofString_inj.mp (by injection z))
theorem key_inj {a b : String} : (Sum.inr (PySem.Str.ofString a) : Key) = Sum.inr (PySem.Str.ofString b) ↔ a = b := by
  constructor
  · intro h; exact ofString_inj.mp (by injection h)
  · rintro rfl; rfl
/-- what drawn things want: texts, numbers -/
structure Eqs {α : Type} [DecidableEq α] (f : α → Dt) : Prop where
  p : ∀ a, pln 1 (f a)
  inj : ∀ a b, f a = f b → a = b
theorem Eqs.ok {α : Type} [DecidableEq α] {f : α → Dt} (h : Eqs f) (a : α) : okD (f a) := (h.p a).ok
theorem Eqs.eqv {α : Type} [DecidableEq α] {f : α → Dt} (h : Eqs f) (a b : α) : eqv (f a) (f b) = decide (a = b) := by
  have := eqv_iff (h.p a) (h.p b)
  by_cases e : a = b
  · rw [decide_eq_true e, this.mpr (by rw [e])]
  · rw [decide_eq_false e]
    exact eqv_false (h.p a) (h.p b) fun z => e (h.inj a b z)
theorem Eqs.okL {α : Type} [DecidableEq α] {f : α → Dt} (h : Eqs f) (l : List α) : okD (.lst (l.map f)) := pln.ok (k := 2) fun x hx => by
  obtain ⟨a, _, rfl⟩ := List.mem_map.mp hx
  exact h.p a
theorem Eqs.any {α : Type} [DecidableEq α] {f : α → Dt} (h : Eqs f) (l : List α) (a : α) : ((l.map f).any fun y => DL.eqv y (f a)) = decide (a ∈ l) := by
  rw [Bool.eq_iff_iff, List.any_eq_true, decide_eq_true_iff]
  constructor
  · rintro ⟨y, hy, he⟩
    obtain ⟨b, hb, rfl⟩ := List.mem_map.mp hy
    rw [h.eqv] at he
    rw [← of_decide_eq_true he]; exact hb
  · intro ha
    exact ⟨f a, List.mem_map.mpr ⟨a, ha, rfl⟩, by rw [h.eqv]; simp⟩
theorem eqs_s : Eqs sD := ⟨fun a => pln_sD a, fun a b e => ofString_inj.mp (by injection e)⟩
theorem eqs_i : Eqs Dt.int := ⟨fun a => pln_int, fun a b e => by injection e⟩
theorem eqs_n : Eqs fun n : Nat => Dt.int (n : Int) := ⟨fun a => pln_int, fun a b e => Int.ofNat_inj.mp (show (a : Int) = (b : Int) by simpa using e)⟩
theorem okL_s (l : List String) : okD (.lst (l.map sD)) := eqs_s.okL l
theorem any_s (l : List String) (a : String) : ((l.map sD).any fun y => eqv y (sD a)) = decide (a ∈ l) := eqs_s.any l a
theorem tk1 {b : Int} {P : Dt → Prop} {E : Xc → Prop} (hb : 1 ≤ b) (h : ∀ r : Int, 0 ≤ r → r < b → P (.int r)) (hb' : b < 1073741824) : sp__law_take [.st, .int b] P E :=
  ⟨hb', fun r h1 h2 => by
    by_cases h3 : b < 2
    · rw [h1 h3]; exact h 0 (by omega) (by omega)
    · exact h r (h2 (by omega)).1 (h2 (by omega)).2⟩
theorem sz_int {n : Nat} {k : Int} (h : k.natAbs < 2 ^ n) (hn : 1 ≤ n) : Sz n ((k : Int) : Rat) := ⟨h, by
  show 1 < 2 ^ n
  exact Nat.lt_of_lt_of_le (by decide) (Nat.pow_le_pow_right (by decide) hn)⟩
theorem idx_at {α : Type} [DecidableEq α] {l : List α} {a : α} (h : a ∈ l) : l[l.idxOf a]? = some a := by
  have hl := List.idxOf_lt_length_iff.mpr h
  rw [List.getElem?_eq_getElem hl, List.getElem_idxOf hl]
theorem idx_first {α : Type} [DecidableEq α] {l : List α} {a b : α} {m : Nat} (hm : m < l.idxOf a) (h : l[m]? = some b) : b ≠ a := by
  induction l generalizing m with
  | nil => simp at h
  | cons x t ih =>
    rw [List.idxOf_cons] at hm
    intro e
    subst e
    cases m with
    | zero =>
      have : x = b := by simpa using h
      subst this
      simp at hm
    | succ m =>
      cases hx : (x == b) with
      | true => rw [hx] at hm; simp at hm
      | false =>
        rw [hx] at hm
        simp at hm
        exact ih (m := m) hm (by simpa using h) rfl
/-- the place of a thing in a list -/
theorem idx_it {α : Type} [DecidableEq α] {f : α → Dt} (hf : Eqs f) {l : List α} {a : α} (h : a ∈ l) {P : Dt → Prop} (p : P (.int (l.idxOf a : Nat))) : lidxL (l.map f) (f a) P := by
  refine ⟨⟨hf.ok a, hf.okL l⟩, l.idxOf a, f a, by rw [List.getElem?_map, idx_at h]; rfl, by rw [hf.eqv]; simp, fun m z' hm hz => ?_, p⟩
  rw [List.getElem?_map] at hz
  cases e : l[m]? with
  | none => rw [e] at hz; cases hz
  | some b =>
    rw [e] at hz
    have ez : f b = z' := by simpa using hz
    rw [← ez, hf.eqv, decide_eq_false (idx_first hm e)]
theorem c__law_pick {α : Type} {f : α → Dt} {l : List α} {P : Dt → Prop} {E : Xc → Prop} (h0 : l ≠ []) (h : ∀ x, x ∈ l → P (f x)) (hl : l.length < 1000000 := by decide) : sp__law_pick [.st, .lst (l.map f)] P E := by
  refine ⟨rfl, ?_⟩
  simp only [init_c, init_n, List.replicate]
  have := List.length_pos_iff.mpr h0
  simp [m__law_pick]
  refine tk1 (by omega) (fun r r0 r1 => ?_) (by omega)
  obtain ⟨n, rfl⟩ : ∃ m : Nat, r = (m : Int) := ⟨r.toNat, by omega⟩
  have hn : n < l.length := by omega
  refine ixL (d := f l[n]) ?_ (h _ (List.getElem_mem hn))
  rw [List.getElem?_map, List.getElem?_eq_getElem hn]; rfl
theorem c__law_some {α : Type} [DecidableEq α] {f : α → Dt} (hf : Eqs f) {row : List α} {many : Nat} {P : Dt → Prop} {E : Xc → Prop} (hn : row.Nodup) (hm : many ≤ row.length) (hl : row.length < 1000000) (h : ∀ l : List α, l.Nodup → l.length = many → (∀ x ∈ l, x ∈ row) → P (.lst (l.map f))) : sp__law_some [.st, .lst (row.map f), .int (many : Int)] P E := by
  refine ⟨rfl, ?_⟩
  simp only [init_c, init_n, List.replicate]
  simp [m__law_some]
  refine ⟨by omega, ?_⟩
  rw [rng0]
  refine forD_inv (fun i e => ∃ (fd left : List α) (x5 x6 x7 : Sl), e = [.im .st, .im (.lst (row.map f)), .im (.int many), .ow (.lst (fd.map f)), .im (.lst (left.map f)), x5, x6, x7] ∧ fd.Nodup ∧ fd.length = i ∧ (∀ x ∈ fd, x ∈ row) ∧ left.Nodup ∧ left.length + i = row.length ∧ (∀ x ∈ left, x ∈ row ∧ x ∉ fd)) ?_ ?_ ?_
  · exact ⟨[], row, _, _, _, rfl, .nil, rfl, by simp, hn, by simp, fun x hx => ⟨hx, by simp⟩⟩
  · rintro i d e hd ⟨fd, left, x5, x6, x7, rfl, f1, f2, f3, l1, l2, l3⟩ nx hnx
    have hi : i < many := by
      have := (List.getElem?_eq_some_iff.mp hd).1
      simpa using this
    simp
    refine c__law_pick (f := f) (fun z => by rw [z] at l2; simp at l2; omega) (fun a ha => ?_) (by omega)
    try simp
    refine ⟨by omega, by omega, ?_⟩
    obtain ⟨la, ln⟩ := l3 a ha
    refine compD_FE f id (fun x => !decide (x = a)) (fun x hx Q R hQ => ?_) ?_
    · unfold cStep
      simp [hf.ok, hf.eqv]
      simpa using hQ
    · rw [List.map_id]
      refine hnx _ ⟨fd ++ [a], left.filter fun x => !decide (x = a), _, _, _, by rw [List.map_append]; rfl, ?_, by simp [f2], ?_, l1.filter _, ?_, fun x hx => ?_⟩
      · rw [List.nodup_append]
        exact ⟨f1, by simp, fun x hx y hy e => by
          simp at hy
          subst hy e
          exact ln hx⟩
      · intro x hx
        rcases List.mem_append.mp hx with z | z
        · exact f3 x z
        · simp at z; rw [z]; exact la
      · have key : ∀ {l : List α}, l.Nodup → a ∈ l → (l.filter fun x => !decide (x = a)).length + 1 = l.length := fun {l} => by
          induction l with
          | nil => intro _ h; cases h
          | cons y t ih =>
            intro nd hm
            obtain ⟨n1, n2⟩ := List.nodup_cons.mp nd
            by_cases e : y = a
            · subst e
              have : (t.filter fun x => !decide (x = y)) = t := List.filter_eq_self.mpr fun x hx => by
                have : x ≠ y := fun z => n1 (z ▸ hx)
                simp [this]
              simp [List.filter_cons, this]
            · have hm' : a ∈ t := by
                rcases List.mem_cons.mp hm with z | z
                · exact absurd z.symm e
                · exact z
              have := ih n2 hm'
              simp [List.filter_cons, e]
              omega
        have := key l1 ha
        omega
      · obtain ⟨h1, h2⟩ := List.mem_filter.mp hx
        obtain ⟨h3, h4⟩ := l3 x h1
        have h2 : x ≠ a := by simpa using h2
        refine ⟨h3, fun z => ?_⟩
        rcases List.mem_append.mp z with z | z
        · exact h4 z
        · simp at z; exact h2 z
  · rintro e ⟨fd, left, x5, x6, x7, rfl, f1, f2, f3, l1, l2, l3⟩
    have f2 : fd.length = many := by simpa using f2
    simp [fzV]
    exact h fd f1 f2 f3
/-! ### machines -/
inductive Tw where
  | gear | cross | rope | ring | belt
deriving DecidableEq
def Tw.w : Tw → String
  | .gear => "gear" | .cross => "cross" | .rope => "rope" | .ring => "ring" | .belt => "belt"
def Tw.sg : Tw → Int
  | .gear => 1 | .cross => 1 | .rope => 1 | .ring => -1 | .belt => -1
inductive Prt where
  | two (k : Tw) (a : String) (n : Int) (b : String) (m : Int)
  | arm (o : Bool) (c a : String) (n : Int) (b : String) (m : Int)
  | tie (a b : String)
  | fix (a : String)
  | rack (l s : String) (n : Int)
  | mean (a b c : String)
deriving DecidableEq
def sgB (o : Bool) : Int := if o then 1 else -1
/-- the equation: names with numbers -/
def Prt.terms : Prt → List (String × Int)
  | .two k a n b m => [(a, n), (b, k.sg * m)]
  | .arm o c a n b m => [(a, n), (b, sgB o * m), (c, -n - sgB o * m)]
  | .tie a b => [(a, 1), (b, -1)]
  | .fix a => [(a, 1)]
  | .rack l s n => [(l, 1), (s, -n)]
  | .mean a b c => [(a, 1), (b, 1), (c, -2)]
def Prt.d : Prt → Dt
  | .two k a n b m => .tup [sD k.w, sD a, .int n, sD b, .int m]
  | .arm o c a n b m => .tup [sD (if o then "over" else "under"), sD c, sD a, .int n, sD b, .int m]
  | .tie a b => .tup [sD "tie", sD a, sD b]
  | .fix a => .tup [sD "fix", sD a]
  | .rack l s n => .tup [sD "rack", sD l, sD s, .int n]
  | .mean a b c => .tup [sD "mean", sD a, sD b, sD c]
def Prt.nums : Prt → List Int
  | .two _ _ n _ m => [n, m]
  | .arm _ _ _ n _ m => [n, m]
  | .rack _ _ n => [n]
  | _ => []
def Prt.names (p : Prt) : List String := p.terms.map (·.1)
def dterm (t : String × Int) : Dt := .tup [sD t.1, .int t.2]
/-- over some names, numbers not too great -/
structure Prt.ok (ns : List String) (p : Prt) : Prop where
  nd : p.names.Nodup
  sub : ∀ x ∈ p.names, x ∈ ns
  num : ∀ n ∈ p.nums, 1 ≤ n ∧ n ≤ 1000000
theorem terms_bd {ns : List String} {p : Prt} (h : p.ok ns) : ∀ t ∈ p.terms, t.2.natAbs ≤ 2000000 := by
  intro t ht
  have hn := h.num
  cases p with
  | two k a n b m =>
    have h1 := hn n (by simp [Prt.nums])
    have h2 := hn m (by simp [Prt.nums])
    simp [Prt.terms] at ht
    rcases ht with rfl | rfl
    · show n.natAbs ≤ _; omega
    · show (k.sg * m).natAbs ≤ _; cases k <;> simp [Tw.sg] <;> omega
  | arm o c a n b m =>
    have h1 := hn n (by simp [Prt.nums])
    have h2 := hn m (by simp [Prt.nums])
    simp [Prt.terms] at ht
    rcases ht with rfl | rfl | rfl
    · show n.natAbs ≤ _; omega
    · show (sgB o * m).natAbs ≤ _; cases o <;> simp [sgB] <;> omega
    · show (-n - sgB o * m).natAbs ≤ _; cases o <;> simp [sgB] <;> omega
  | tie a b =>
    simp [Prt.terms] at ht
    rcases ht with rfl | rfl <;> simp
  | fix a =>
    simp [Prt.terms] at ht
    subst ht; simp
  | rack l s n =>
    have h1 := hn n (by simp [Prt.nums])
    simp [Prt.terms] at ht
    rcases ht with rfl | rfl
    · simp
    · show (-n).natAbs ≤ _; omega
  | mean a b c =>
    simp [Prt.terms] at ht
    rcases ht with rfl | rfl | rfl <;> simp
/-- the sum of the numbers at a name -/
def cf : List (String × Int) → String → Int
  | [], _ => 0
  | t :: ts, x => (if t.1 = x then t.2 else 0) + cf ts x
theorem cf_app (ts us : List (String × Int)) (x : String) : cf (ts ++ us) x = cf ts x + cf us x := by
  induction ts with
  | nil => simp [cf]
  | cons t ts ih => simp only [List.cons_append, cf, ih]; omega
theorem cf_bd {ts : List (String × Int)} {B : Nat} (h : ∀ t ∈ ts, t.2.natAbs ≤ B) (x : String) : (cf ts x).natAbs ≤ ts.length * B := by
  induction ts with
  | nil => simp [cf]
  | cons t ts ih =>
    have h1 := h t (by simp)
    have h2 := ih fun u hu => h u (by simp [hu])
    simp only [cf, List.length_cons, Nat.add_mul, Nat.one_mul]
    split <;> omega
theorem cf_none {ts : List (String × Int)} {x : String} (h : x ∉ ts.map (·.1)) : cf ts x = 0 := by
  induction ts with
  | nil => rfl
  | cons t ts ih =>
    simp at h
    simp only [cf]
    rw [if_neg fun e => h.1 e.symm, ih (by simpa using h.2)]
    rfl
theorem terms_len (p : Prt) : p.terms.length ≤ 3 := by cases p <;> simp [Prt.terms]
theorem cf_small {ns : List String} {p : Prt} (h : p.ok ns) (k : Nat) (x : String) : (cf (p.terms.take k) x).natAbs ≤ 6000000 := by
  have := cf_bd (ts := p.terms.take k) (B := 2000000) (fun t ht => terms_bd h t (List.mem_of_mem_take ht)) x
  have h2 : (p.terms.take k).length ≤ 3 := Nat.le_trans (by rw [List.length_take]; omega) (terms_len p)
  omega
def rowP (ns : List String) (p : Prt) : List Rat := ns.map fun x => ((cf p.terms x : Int) : Rat)
structure Mc where
  things : List (String × String)
  parts : List Prt
  drv : List (String × Rat)
  lds : List (String × Rat)
def dth (t : String × String) : Dt := .tup [sD t.1, sD t.2]
def dtl (t : String × Rat) : Dt := .tup [sD t.1, dq t.2]
def Mc.ns (m : Mc) : List String := m.things.map (·.1)
def Mc.d (m : Mc) : Dt := .tup [sD "machine", .tup (m.things.map dth), .tup (m.parts.map Prt.d), .tup (m.drv.map dtl), .tup (m.lds.map dtl)]
def Mc.rows (m : Mc) : List (List Rat) := m.parts.map (rowP m.ns)
structure Mc.ok (m : Mc) : Prop where
  nd : m.ns.Nodup
  len : m.ns.length ≤ 100
  parts : ∀ p ∈ m.parts, p.ok m.ns
  pl : m.parts.length ≤ 100
@[simp] theorem ixM1 {m : Mc} {P : Dt → Prop} : ixD m.d (.int 1) P = P (.tup (m.things.map dth)) := by simp [Mc.d]
@[simp] theorem ixM2 {m : Mc} {P : Dt → Prop} : ixD m.d (.int 2) P = P (.tup (m.parts.map Prt.d)) := by simp [Mc.d]
@[simp] theorem ixM3 {m : Mc} {P : Dt → Prop} : ixD m.d (.int 3) P = P (.tup (m.drv.map dtl)) := by simp [Mc.d]
@[simp] theorem ixM4 {m : Mc} {P : Dt → Prop} : ixD m.d (.int 4) P = P (.tup (m.lds.map dtl)) := by simp [Mc.d]
theorem Mc.tl (m : Mc) : m.things.length = m.ns.length := by simp [Mc.ns]
theorem rowP_len (ns : List String) (p : Prt) : (rowP ns p).length = ns.length := by simp [rowP]
theorem Mc.rows_w (m : Mc) : ∀ r ∈ m.rows, r.length = m.ns.length := fun r hr => by
  obtain ⟨p, _, rfl⟩ := List.mem_map.mp hr
  exact rowP_len _ _
theorem c_names {m : Mc} {P : Dt → Prop} {E : Xc → Prop} (hm : m.ok) (h : P (.lst (m.ns.map sD))) : sp_names [m.d] P E := by
  refine ⟨rfl, ?_⟩
  simp only [init_c, init_n, List.replicate]
  have := m.tl
  have := hm.len
  simp [m_names]
  refine ⟨by omega, ?_⟩
  refine compD_E sD (fun t : String × String => t.1) (fun t ht Q R q => ?_) h
  unfold cStep
  simp [dth]
  exact q
theorem c_place {m : Mc} {x : String} {P : Dt → Prop} {E : Xc → Prop} (hm : m.ok) (hx : x ∈ m.ns) (h : P (.int (m.ns.idxOf x : Nat))) : sp_place [m.d, sD x] P E := by
  refine ⟨rfl, ?_⟩
  simp only [init_c, init_n, List.replicate]
  simp [m_place]
  refine c_names hm ?_
  simp [okL_s, any_s, hx, -List.any_map]
  exact idx_it eqs_s hx h
theorem c_place_x {m : Mc} {x : String} {P : Dt → Prop} {E : Xc → Prop} (hm : m.ok) (hx : x ∉ m.ns) (h : E (mst "thing")) : sp_place [m.d, sD x] P E := by
  refine ⟨rfl, ?_⟩
  simp only [init_c, init_n, List.replicate]
  simp [m_place]
  refine c_names hm ?_
  simp [okL_s, any_s, hx, -List.any_map]
  exact ⟨by decide, h⟩
theorem c_terms {p : Prt} {P : Dt → Prop} {E : Xc → Prop} (h : P (.lst (p.terms.map dterm))) : sp_terms [p.d] P E := by
  refine ⟨rfl, ?_⟩
  simp only [init_c, init_n, List.replicate]
  have okl : ∀ a b : String, okD (.tup [sD a, sD b]) := fun a b => (show pln 1 (.tup _) from fun x hx => by
    simp at hx
    rcases hx with rfl | rfl <;> exact pln_sD _).ok
  cases p with
  | two k a n b m =>
    cases k
    all_goals simp [m_terms, Prt.d, Tw.w, t9_terms, t8_terms, t7_terms, t6_terms, t5_terms, t4_terms, t3_terms, t2_terms, okl, cut, HT.sIx]
    all_goals simpa [Prt.terms, dterm, Tw.sg] using h
  | arm o c a n b m =>
    cases o
    · have e : Int.neg n - sgB false * m = m - n := by show -n - _ = _; simp [sgB]; omega
      have e : -n - sgB false * m = m - n := e
      simp [m_terms, Prt.d, Tw.w, t9_terms, t8_terms, t7_terms, t6_terms, t5_terms, okl, cut, HT.sIx]
      simp only [Prt.terms, List.map_cons, List.map_nil, dterm, e] at h
      simpa [sgB] using h
    · simp [m_terms, Prt.d, Tw.w, t9_terms, t8_terms, t7_terms, t6_terms, t5_terms, okl, cut, HT.sIx]
      simpa [Prt.terms, dterm, sgB] using h
  | tie a b =>
    simp [m_terms, Prt.d, t9_terms, t8_terms, t7_terms, t6_terms, t5_terms, okl, cut, HT.sIx]
    simpa [Prt.terms, dterm] using h
  | fix a =>
    simp [m_terms, Prt.d, t9_terms, t8_terms, t7_terms, t6_terms, t5_terms, t4_terms, okl, cut, HT.sIx]
    simpa [Prt.terms, dterm] using h
  | rack l s n =>
    simp [m_terms, Prt.d, t9_terms, t8_terms, t7_terms, t6_terms, t5_terms, t4_terms, t3_terms, okl, cut, HT.sIx]
    simpa [Prt.terms, dterm] using h
  | mean a b c =>
    simp [m_terms, Prt.d, t9_terms, t8_terms, t7_terms, t6_terms, t5_terms, t4_terms, t3_terms, t2_terms, t1_terms, okl, cut, HT.sIx]
    simpa [Prt.terms, dterm] using h
theorem set_map {α : Type} {ns : List String} (nd : ns.Nodup) {f : String → α} {x : String} {v : α} : (ns.map f).set (ns.idxOf x) v = ns.map fun y => if y = x then v else f y := by
  induction ns with
  | nil => rfl
  | cons y t ih =>
    obtain ⟨n1, n2⟩ := List.nodup_cons.mp nd
    rw [List.idxOf_cons]
    by_cases e : y = x
    · subst e
      simp
      intro a ha e2
      exact absurd (e2 ▸ ha) n1
    · have : (y == x) = false := by simpa using e
      simp [this, e, ih n2]
theorem tk_snoc {α : Type} {xs : List α} {i : Nat} {x : α} (h : xs[i]? = some x) : xs.take (i + 1) = xs.take i ++ [x] := by
  rw [List.take_add_one, h]; rfl
theorem at_map {α : Type} {f : α → Dt} {xs : List α} {i : Nat} {d : Dt} (h : (xs.map f)[i]? = some d) : ∃ x, xs[i]? = some x ∧ d = f x := by
  rw [List.getElem?_map] at h
  cases e : xs[i]? with
  | none => rw [e] at h; cases h
  | some x => rw [e] at h; exact ⟨x, rfl, by simpa using h.symm⟩
theorem c_row_of {m : Mc} {p : Prt} {P : Dt → Prop} {E : Xc → Prop} (hm : m.ok) (hp : p.ok m.ns) (h : P (dT (rowP m.ns p))) : sp_row_of [m.d, p.d] P E := by
  refine ⟨rfl, ?_⟩
  simp only [init_c, init_n, List.replicate]
  have hl := hm.len
  have ht := m.tl
  simp [m_row_of, c_NOUGHT_laying, dq0']
  refine ⟨⟨by omega, by omega⟩, ?_⟩
  refine c_terms ?_
  simp
  refine forD_inv (fun i e => ∃ x3 x4 x5, e = [.im m.d, .im p.d, .ow (.lst (m.ns.map fun x => dq ((cf (p.terms.take i) x : Int) : Rat))), x3, x4, x5]) ⟨.no, .no, .no, ?_⟩ ?_ ?_
  · have : (m.ns.map fun x => dq ((cf (p.terms.take 0) x : Int) : Rat)) = List.replicate m.things.length (dq 0) := by
      rw [ht]
      refine List.eq_replicate_iff.mpr ⟨by simp, fun b hb => ?_⟩
      obtain ⟨x, _, rfl⟩ := List.mem_map.mp hb
      simp [cf]
    rw [this]
  · rintro i d e hd ⟨x3, x4, x5, rfl⟩ nx hnx
    obtain ⟨t, gt, rfl⟩ := at_map hd
    have mt := List.mem_of_getElem? gt
    have hx : t.1 ∈ m.ns := hp.sub _ (List.mem_map.mpr ⟨t, mt, rfl⟩)
    have hxl := List.idxOf_lt_length_iff.mpr hx
    simp [dterm]
    refine c_place hm hx ?_
    simp
    refine ⟨_, ⟨_, idx_at hx, rfl⟩, ?_⟩
    have b1 := cf_small hp i t.1
    have b2 := terms_bd hp t mt
    have z1 : Sz 40 ((cf (p.terms.take i) t.1 : Int) : Rat) := sz_int (by omega) (by decide)
    have z2 : Sz 40 ((t.2 : Int) : Rat) := sz_int (by omega) (by decide)
    rw [dqI']
    refine c_plus ?_
    refine ⟨_, ixN_nat (by simpa using hxl), ?_⟩
    rw [set_map hm.nd]
    have : (fun y => if y = t.1 then dq (((cf (p.terms.take i) t.1 : Int) : Rat) + ((t.2 : Int) : Rat)) else dq ((cf (p.terms.take i) y : Int) : Rat)) = fun x => dq ((cf (p.terms.take (i + 1)) x : Int) : Rat) := by
      funext y
      rw [tk_snoc gt, cf_app]
      by_cases e : y = t.1
      · subst e
        rw [if_pos rfl, Rat.intCast_add]
        simp [cf]
      · rw [if_neg e]
        have e' : ¬ t.1 = y := fun z => e z.symm
        simp [cf, e']
    rw [this]
    exact hnx _ ⟨_, _, _, rfl⟩
  · rintro e ⟨x3, x4, x5, rfl⟩
    rw [List.length_map, List.take_length]
    simp
    simpa [dT, rowP, Function.comp_def] using h
theorem c_rows_of {m : Mc} {P : Dt → Prop} {E : Xc → Prop} (hm : m.ok) (h : P (.lst (m.rows.map dT))) : sp_rows_of [m.d] P E := by
  refine ⟨rfl, ?_⟩
  simp only [init_c, init_n, List.replicate]
  have := hm.pl
  simp [m_rows_of]
  refine ⟨by omega, ?_⟩
  refine compD_E dT (fun p => rowP m.ns p) (fun p hp Q R q => ?_) (by simpa [Mc.rows] using h)
  unfold cStep
  simp
  exact c_row_of hm (hm.parts p hp) q
/-! ### dicts of pairs -/
theorem hasK_iff {ks : List Key} {j : Key} : hasK ks j = true ↔ j ∈ ks := by
  induction ks with
  | nil => simp
  | cons k ks ih =>
    rw [hasK_cons, Bool.or_eq_true, ih, List.mem_cons, decide_eq_true_iff]
    constructor
    · rintro (h | h)
      · exact .inl h.symm
      · exact .inr h
    · rintro (h | h)
      · exact .inl h.symm
      · exact .inr h
theorem vD_end {α : Type} {j i : Key} {y : α} : ∀ {ks : List Key} {xs : List α}, ks.length = xs.length → j ∉ ks → vD (ks ++ [j]) (xs ++ [y]) i = if j = i then some y else vD ks xs i
  | [], [], _, _ => by rw [List.nil_append, List.nil_append, vD_cons]
  | [], _ :: _, h, _ => by simp at h
  | _ :: _, [], h, _ => by simp at h
  | k :: ks, x :: xs, h, hj => by
    rw [List.cons_append, List.cons_append, vD_cons, vD_cons, vD_end (by simpa using h) fun z => hj (by simp [z])]
    by_cases e : j = i
    · subst e
      have : ¬ k = j := fun z => hj (by simp [z])
      simp [this]
    · simp [e]
theorem vD_zM {α : Type} {j i : Key} {y : α} : ∀ {ks : List Key} {xs : List α}, ks.length = xs.length → j ∈ ks → vD ks (zM j y ks xs) i = if j = i then some y else vD ks xs i
  | [], _, _, h => by simp at h
  | _ :: _, [], h, _ => by simp at h
  | k :: ks, x :: xs, h, hj => by
    rw [zM_cons, vD_cons, vD_cons]
    by_cases hk : k = j
    · subst hk
      by_cases e : k = i
      · simp [e]
      · simp only [e, if_false]
        by_cases hm : k ∈ ks
        · rw [vD_zM (by simpa using h) hm, if_neg e]
        · have : zM k y ks xs = xs := by
            clear vD_zM hj h
            induction ks generalizing xs with
            | nil => cases xs <;> rfl
            | cons a ks ih =>
              cases xs with
              | nil => rfl
              | cons b xs =>
                have : ¬ a = k := fun z => hm (by simp [z])
                rw [zM_cons, if_neg this, ih _ fun z => hm (by simp [z])]
          rw [this]
    · have hm : j ∈ ks := by
        rcases List.mem_cons.mp hj with z | z
        · exact absurd z.symm hk
        · exact z
      rw [vD_zM (by simpa using h) hm]
      simp only [hk, if_false]
      by_cases e : k = i
      · have : ¬ j = i := fun z => hk (e.trans z.symm)
        simp [e, this]
      · simp [e]
theorem vD_put {ks : List Key} {xs : List Dt} {j i : Key} {y : Dt} (h : ks.length = xs.length) : vD (kPut ks j) (xPut ks xs j y) i = if j = i then some y else vD ks xs i := by
  unfold kPut xPut
  by_cases hk : hasK ks j = true
  · rw [if_pos hk, if_pos hk]
    exact vD_zM h (hasK_iff.mp hk)
  · rw [if_neg hk, if_neg hk]
    exact vD_end h fun z => hk (hasK_iff.mpr z)
/-- what stands at a key behind all pairs -/
def getP : List (Key × Dt) → Key → Option Dt → Option Dt
  | [], _, a => a
  | p :: ps, i, a => getP ps i (if p.1 = i then some p.2 else a)
theorem dMerge_get : ∀ {ps : List (Key × Dt)} {ks : List Key} {xs : List Dt}, ks.length = xs.length → ∃ ks' xs', dMerge ks xs ps = .dic ks' xs' ∧ ks'.length = xs'.length ∧ ∀ i, vD ks' xs' i = getP ps i (vD ks xs i)
  | [], ks, xs, h => ⟨ks, xs, rfl, h, fun _ => rfl⟩
  | (j, y) :: ps, ks, xs, h => by
    obtain ⟨ks', xs', e1, e2, e3⟩ := dMerge_get (ps := ps) (put_len (j := j) (y := y) h)
    exact ⟨ks', xs', e1, e2, fun i => by rw [e3, vD_put h]; rfl⟩
theorem getP_names {α : Type} {f : α → Dt} {g : α → String} : ∀ {ts : List α} {x : String} {a : Option Dt}, x ∉ ts.map g → getP (ts.map fun t => (Sum.inr (PySem.Str.ofString (g t)), f t)) (Sum.inr (PySem.Str.ofString x)) a = a
  | [], _, _, _ => rfl
  | t :: ts, x, a, h => by
    simp at h
    show getP _ _ (if (Sum.inr (PySem.Str.ofString (g t)) : Key) = _ then _ else _) = a
    rw [if_neg fun e => h.1 (key_inj.mp e).symm]
    exact getP_names (by simpa using h.2)
theorem getP_at {α : Type} {f : α → Dt} {g : α → String} : ∀ {ts : List α} {t : α} {a : Option Dt}, (ts.map g).Nodup → t ∈ ts → getP (ts.map fun t => (Sum.inr (PySem.Str.ofString (g t)), f t)) (Sum.inr (PySem.Str.ofString (g t))) a = some (f t)
  | [], _, _, _, h => by simp at h
  | t :: ts, u, a, nd, h => by
    rw [List.map_cons] at nd
    obtain ⟨n1, n2⟩ := List.nodup_cons.mp nd
    show getP _ _ (if (Sum.inr (PySem.Str.ofString (g t)) : Key) = _ then _ else _) = _
    rcases List.mem_cons.mp h with rfl | h
    · rw [if_pos rfl, getP_names n1]
    · exact getP_at n2 h
theorem cf_at {ts : List (String × Int)} {t : String × Int} (nd : (ts.map (·.1)).Nodup) (h : t ∈ ts) : cf ts t.1 = t.2 := by
  induction ts with
  | nil => simp at h
  | cons u ts ih =>
    rw [List.map_cons] at nd
    obtain ⟨n1, n2⟩ := List.nodup_cons.mp nd
    simp only [cf]
    rcases List.mem_cons.mp h with rfl | h
    · rw [if_pos rfl, cf_none n1]; omega
    · rw [if_neg fun e => n1 (by rw [e]; exact List.mem_map.mpr ⟨t, h, rfl⟩), ih n2 h]; omega
theorem term_prs (ts : List (String × Int)) : ts.map dterm = (ts.map fun t => ((Sum.inr (PySem.Str.ofString t.1) : Key), Dt.int t.2)).map DL.prD := by
  rw [List.map_map]; rfl
theorem dix_merge {ps : List (Key × Dt)} {k : String} {x : Dt} {P : Dt → Prop} (h : getP ps (.inr (PySem.Str.ofString k)) none = some x) (p : P x) : dixD (dMerge [] [] ps) (sD k) P := by
  obtain ⟨ks, xs, e1, e2, e3⟩ := dMerge_get (ps := ps) (ks := []) (xs := []) rfl
  rw [e1]
  exact ⟨x, by rw [e3, vD_nil, h], p⟩
theorem atm_1 {α : Type} {a : α} : atI [a] (-1) = some a := rfl
theorem atm_2 {α : Type} {a b : α} : atI [a, b] (-1) = some b := rfl
theorem atm_3 {α : Type} {a b c : α} : atI [a, b, c] (-1) = some c := rfl
theorem c__law_terms {ns : List String} {p : Prt} {P : Dt → Prop} {E : Xc → Prop} (hp : p.ok ns) (h : P (.lst (p.terms.map dterm))) : sp__law_terms [p.d] P E := by
  refine ⟨rfl, ?_⟩
  simp only [init_c, init_n, List.replicate]
  have oks : ∀ l : List String, okD (.tup (l.map sD)) := fun l => (show pln 1 (.tup _) from fun x hx => by
    obtain ⟨a, _, rfl⟩ := List.mem_map.mp hx
    exact pln_sD _).ok
  have ok2 := oks ["over", "under"]
  have ok3 := oks ["gear", "cross", "rope"]
  have ok5 := oks ["gear", "cross", "rope", "ring", "belt"]
  simp at ok2 ok3 ok5
  have hn := hp.num
  have mk1 : ∀ m : Int, 1 ≤ m ∧ m ≤ 1000000 → IntMulOk 1 m ∧ IntMulOk (-1) m := fun m hm => ⟨mulOk (m := 1) (n := 30) (by decide) (by omega), mulOk (m := 1) (n := 30) (by decide) (by omega)⟩
  cases p with
  | two k a n b m =>
    cases k
    all_goals simp [m__law_terms, Prt.d, Tw.w, t4__law_terms, t3__law_terms, ok2, ok3, ok5, cut, HT.sIx]
    all_goals simpa [Prt.terms, dterm, Tw.sg] using h
  | arm o c a n b m =>
    have hm := mk1 m (hn m (by simp [Prt.nums]))
    cases o
    · simp [m__law_terms, Prt.d, t4__law_terms, ok2, cut, HT.sIx]
      exact ⟨hm.2, by simpa [Prt.terms, dterm, sgB] using h⟩
    · simp [m__law_terms, Prt.d, t4__law_terms, ok2, cut, HT.sIx]
      exact ⟨hm.1, by simpa [Prt.terms, dterm, sgB] using h⟩
  | tie a b =>
    simp [m__law_terms, Prt.d, t4__law_terms, t3__law_terms, t2__law_terms, t1__law_terms, ok2, ok5, cut, HT.sIx, compD, atm_2, -dMerge_c, -dixD_e]
    refine dix_merge (by simp [getP, key_inj]; rfl) ?_
    simpa [Prt.terms, dterm] using h
  | fix a =>
    simp [m__law_terms, Prt.d, t4__law_terms, t3__law_terms, t2__law_terms, t1__law_terms, ok2, ok5, cut, HT.sIx, compD, atm_1, -dMerge_c, -dixD_e]
    refine dix_merge (by simp [getP, key_inj]; rfl) ?_
    simpa [Prt.terms, dterm] using h
  | rack l s n =>
    simp [m__law_terms, Prt.d, t4__law_terms, t3__law_terms, t2__law_terms, ok2, ok5, cut, HT.sIx]
    simpa [Prt.terms, dterm] using h
  | mean a b c =>
    simp [m__law_terms, Prt.d, t4__law_terms, t3__law_terms, t2__law_terms, t1__law_terms, ok2, ok5, cut, HT.sIx, compD, atm_3, -dMerge_c, -dixD_e]
    refine dix_merge (by simp [getP, key_inj]; rfl) ?_
    simpa [Prt.terms, dterm] using h
theorem c__law_row {m : Mc} {p : Prt} {P : Dt → Prop} {E : Xc → Prop} (hm : m.ok) (hp : p.ok m.ns) (h : P (dT (rowP m.ns p))) : sp__law_row [m.d, p.d] P E := by
  refine ⟨rfl, ?_⟩
  simp only [init_c, init_n, List.replicate]
  have hl := hm.len
  have ht := m.tl
  simp [m__law_row]
  refine c__law_terms hp ?_
  refine ⟨_, term_prs p.terms, ?_⟩
  obtain ⟨ks, xs, e1, e2, e3⟩ := dMerge_get (ps := p.terms.map fun t => ((Sum.inr (PySem.Str.ofString t.1) : Key), Dt.int t.2)) (ks := []) (xs := []) rfl
  rw [e1]
  refine ⟨by omega, ?_⟩
  refine compD_E dq (fun t : String × String => ((cf p.terms t.1 : Int) : Rat)) (fun t ht Q R q => ?_) ?_
  · unfold cStep
    simp [dth]
    rw [e3]
    have : (getP (p.terms.map fun t => ((Sum.inr (PySem.Str.ofString t.1) : Key), Dt.int t.2)) (Sum.inr (PySem.Str.ofString t.1)) none).getD (.int 0) = .int (cf p.terms t.1) := by
      by_cases hx : t.1 ∈ p.terms.map (·.1)
      · obtain ⟨u, hu, e⟩ := List.mem_map.mp hx
        rw [← e, getP_at (g := fun t : String × Int => t.1) hp.nd hu, cf_at hp.nd hu]
        rfl
      · rw [getP_names (g := fun t : String × Int => t.1) hx, cf_none hx]
        rfl
    rw [vD_nil, this]
    exact q
  · simpa [dT, rowP, Mc.ns, Function.comp_def] using h
theorem c__law_rows {m : Mc} {P : Dt → Prop} {E : Xc → Prop} (hm : m.ok) (h : P (.lst (m.rows.map dT))) : sp__law_rows [m.d] P E := by
  refine ⟨rfl, ?_⟩
  simp only [init_c, init_n, List.replicate]
  have := hm.pl
  simp [m__law_rows]
  refine ⟨by omega, ?_⟩
  refine compD_E dT (fun p => rowP m.ns p) (fun p hp Q R q => ?_) (by simpa [Mc.rows] using h)
  unfold cStep
  simp
  exact c__law_row hm (hm.parts p hp) q
theorem c__law_number {P : Dt → Prop} {E : Xc → Prop} (h : ∀ n : Int, 1 ≤ n → n ≤ 35 → P (.int n)) : sp__law_number [.st] P E := by
  refine ⟨rfl, ?_⟩
  simp only [init_c, init_n, List.replicate]
  simp [m__law_number]
  refine c__law_pick (f := Dt.int) (l := [1, 2, 3, 4, 6, 12, 20, 35]) (by simp) (fun x hx => ?_)
  simp at hx
  rcases hx with rfl | rfl | rfl | rfl | rfl | rfl | rfl | rfl <;> exact h _ (by decide) (by decide)
def num35 (n : Int) : Prop := 1 ≤ n ∧ n ≤ 35
/-- a part over shafts and lines -/
def Prt.fit (sh ln : List String) : Prt → Prop
  | .two k a n b m => (if k = .rope then a ∈ ln ∧ b ∈ ln else a ∈ sh ∧ b ∈ sh) ∧ a ≠ b ∧ num35 n ∧ num35 m
  | .arm _ c a n b m => (c ∈ sh ∧ a ∈ sh ∧ b ∈ sh) ∧ (c ≠ a ∧ c ≠ b ∧ a ≠ b) ∧ num35 n ∧ num35 m
  | .tie a b => ((a ∈ sh ∧ b ∈ sh) ∨ (a ∈ ln ∧ b ∈ ln)) ∧ a ≠ b
  | .fix a => a ∈ sh ∨ a ∈ ln
  | .rack l s n => l ∈ ln ∧ s ∈ sh ∧ num35 n
  | .mean a b c => ((a ∈ sh ∧ b ∈ sh ∧ c ∈ sh) ∨ (a ∈ ln ∧ b ∈ ln ∧ c ∈ ln)) ∧ a ≠ b ∧ a ≠ c ∧ b ≠ c
theorem l2_of {l : List String} (h : l.length = 2) (nd : l.Nodup) : ∃ a b, l = [a, b] ∧ a ≠ b := by
  match l, h with
  | [a, b], _ => exact ⟨a, b, rfl, by simpa using nd⟩
theorem l3_of {l : List String} (h : l.length = 3) (nd : l.Nodup) : ∃ a b c, l = [a, b, c] ∧ a ≠ b ∧ a ≠ c ∧ b ≠ c := by
  match l, h with
  | [a, b, c], _ => exact ⟨a, b, c, rfl, by simp at nd; exact ⟨nd.1.1, nd.1.2, nd.2⟩⟩
theorem if_no {a b : Prop} [Decidable a] [Decidable b] {A B : Prop} (h : ¬ (a ∧ b)) (k : B) : if a then (if b then A else B) else B := by
  by_cases x : a
  · by_cases y : b
    · exact absurd ⟨x, y⟩ h
    · rw [if_pos x, if_neg y]; exact k
  · rw [if_neg x]; exact k
theorem if_yes {a b : Prop} [Decidable a] [Decidable b] {A B : Prop} (h : a ∧ b) (k : A) : if a then (if b then A else B) else B := by
  rw [if_pos h.1, if_pos h.2]; exact k
theorem c__law_part {sh ln : List String} {P : Dt → Prop} {E : Xc → Prop} (s1 : sh.Nodup) (s2 : ln.Nodup) (hs : 2 ≤ sh.length ∧ sh.length ≤ 5) (hl : ln.length ≤ 3) (h : ∀ p : Prt, p.fit sh ln → P p.d) : sp__law_part [.st, .lst (sh.map sD), .lst (ln.map sD)] P E := by
  refine ⟨rfl, ?_⟩
  simp only [init_c, init_n, List.replicate]
  have some2 : ∀ {row : List String} {Q : Dt → Prop}, row.Nodup → 2 ≤ row.length → row.length ≤ 5 → (∀ a b, a ∈ row → b ∈ row → a ≠ b → Q (.lst [sD a, sD b])) → sp__law_some [.st, .lst (row.map sD), .int 2] Q (fun x => E x) := fun {row Q} nd h2 h5 q =>
    c__law_some (many := 2) eqs_s nd h2 (by omega) fun l n1 n2 n3 => by
      obtain ⟨a, b, rfl, e⟩ := l2_of n2 n1
      exact q a b (n3 a (by simp)) (n3 b (by simp)) e
  have some3 : ∀ {row : List String} {Q : Dt → Prop}, row.Nodup → 3 ≤ row.length → row.length ≤ 5 → (∀ a b c, a ∈ row → b ∈ row → c ∈ row → a ≠ b → a ≠ c → b ≠ c → Q (.lst [sD a, sD b, sD c])) → sp__law_some [.st, .lst (row.map sD), .int 3] Q (fun x => E x) := fun {row Q} nd h2 h5 q =>
    c__law_some (many := 3) eqs_s nd h2 (by omega) fun l n1 n2 n3 => by
      obtain ⟨a, b, c, rfl, e1, e2, e3⟩ := l3_of n2 n1
      exact q a b c (n3 a (by simp)) (n3 b (by simp)) (n3 c (by simp)) e1 e2 e3
  have tie : ∀ x3 x4 x5 x6, t1__law_part [.im .st, .im (.lst (sh.map sD)), .im (.lst (ln.map sD)), x3, x4, x5, x6] { nx := fun _ => P .non, rt := P, ex := fun x _ => E x } := fun x3 x4 x5 x6 => by
    simp [t1__law_part]
    have k1 : ∀ a b, a ∈ sh → b ∈ sh → a ≠ b → P (.tup [sD "tie", sD a, sD b]) := fun a b ha hb e => h (.tie a b) ⟨.inl ⟨ha, hb⟩, e⟩
    have k2 : ∀ a b, a ∈ ln → b ∈ ln → a ≠ b → P (.tup [sD "tie", sD a, sD b]) := fun a b ha hb e => h (.tie a b) ⟨.inr ⟨ha, hb⟩, e⟩
    by_cases hn : 1 < (ln.length : Int)
    · simp [hn]
      refine tk (h := fun r r0 r1 => ?_)
      by_cases hr : r = 0
      · simp [hr]
        exact some2 s2 (by omega) (by omega) fun a b ha hb e => by simp; exact k2 a b ha hb e
      · simp [hr]
        exact some2 s1 (by omega) (by omega) fun a b ha hb e => by simp; exact k1 a b ha hb e
    · simp [hn]
      exact some2 s1 (by omega) (by omega) fun a b ha hb e => by simp; exact k1 a b ha hb e
  simp [m__law_part]
  refine tk (h := fun r r0 r1 => ?_)
  by_cases c1 : r < 4
  · simp [t7__law_part, c1]
    refine some2 s1 (by omega) (by omega) fun a b ha hb e => ?_
    simp
    have fin : ∀ (k : Tw) (n m : Int), k ≠ .rope → 1 ≤ n → n ≤ 35 → 1 ≤ m → m ≤ 35 → P (.tup [sD k.w, sD a, .int n, sD b, .int m]) := fun k n m hk n1 n2 m1 m2 => h (.two k a n b m) ⟨by rw [if_neg hk]; exact ⟨ha, hb⟩, e, ⟨n1, n2⟩, ⟨m1, m2⟩⟩
    rcases (by omega : r = 0 ∨ r = 1 ∨ r = 2 ∨ r = 3) with rfl | rfl | rfl | rfl
    · simp
      exact c__law_number fun n n1 n2 => c__law_number fun m m1 m2 => fin .gear n m (by decide) n1 n2 m1 m2
    · simp
      exact c__law_number fun n n1 n2 => c__law_number fun m m1 m2 => fin .ring n m (by decide) n1 n2 m1 m2
    · simp
      exact c__law_number fun n n1 n2 => c__law_number fun m m1 m2 => fin .belt n m (by decide) n1 n2 m1 m2
    · simp
      exact c__law_number fun n n1 n2 => c__law_number fun m m1 m2 => fin .cross n m (by decide) n1 n2 m1 m2
  · simp [t7__law_part, c1]
    by_cases c2 : r < 6 ∧ 2 < (sh.length : Int)
    · simp [t6__law_part, c2]
      refine some3 s1 (by omega) (by omega) fun c a b hc ha hb e1 e2 e3 => ?_
      simp
      have fin : ∀ (o : Bool) (n m : Int), 1 ≤ n → n ≤ 35 → 1 ≤ m → m ≤ 35 → P (.tup [sD (if o then "over" else "under"), sD c, sD a, .int n, sD b, .int m]) := fun o n m n1 n2 m1 m2 => h (.arm o c a n b m) ⟨⟨hc, ha, hb⟩, ⟨e1, e2, e3⟩, ⟨n1, n2⟩, ⟨m1, m2⟩⟩
      rcases (by omega : r = 4 ∨ r = 5) with rfl | rfl
      · simp
        exact c__law_number fun n n1 n2 => c__law_number fun m m1 m2 => fin true n m n1 n2 m1 m2
      · simp
        exact c__law_number fun n n1 n2 => c__law_number fun m m1 m2 => fin false n m n1 n2 m1 m2
    · simp [t6__law_part]
      refine if_no c2 ?_
      simp [t5__law_part]
      by_cases c3 : r = 6 ∧ 0 < ln.length
      · refine if_yes c3 ?_
        have : ln ≠ [] := fun z => by rw [z] at c3; simp at c3
        refine c__law_pick (f := sD) this (fun l hlm => ?_) (by omega)
        try simp
        refine c__law_pick (f := sD) (l := sh) (fun z => by rw [z] at hs; simp at hs) (fun s hsm => ?_) (by omega)
        try simp
        exact c__law_number fun n n1 n2 => h (.rack l s n) ⟨hlm, hsm, ⟨n1, n2⟩⟩
      · refine if_no c3 ?_
        simp [t4__law_part]
        by_cases c4 : r = 7 ∧ 1 < (ln.length : Int)
        · refine if_yes c4 ?_
          refine some2 s2 (by omega) (by omega) fun a b ha hb e => ?_
          simp
          exact c__law_number fun n n1 n2 => c__law_number fun m m1 m2 => h (.two .rope a n b m) ⟨by rw [if_pos rfl]; exact ⟨ha, hb⟩, e, ⟨n1, n2⟩, ⟨m1, m2⟩⟩
        · refine if_no c4 ?_
          simp [t3__law_part]
          have k1 : ∀ a b c, a ∈ sh → b ∈ sh → c ∈ sh → a ≠ b → a ≠ c → b ≠ c → P (.tup [sD "mean", sD a, sD b, sD c]) := fun a b c ha hb hc e1 e2 e3 => h (.mean a b c) ⟨.inl ⟨ha, hb, hc⟩, e1, e2, e3⟩
          have k2 : ∀ a b c, a ∈ ln → b ∈ ln → c ∈ ln → a ≠ b → a ≠ c → b ≠ c → P (.tup [sD "mean", sD a, sD b, sD c]) := fun a b c ha hb hc e1 e2 e3 => h (.mean a b c) ⟨.inr ⟨ha, hb, hc⟩, e1, e2, e3⟩
          by_cases c5 : r = 8 ∧ 2 < (sh.length : Int)
          · refine if_yes c5 ?_
            by_cases hn : 2 < (ln.length : Int)
            · simp [hn]
              refine tk (h := fun r r0 r1 => ?_)
              by_cases hr : r = 0
              · simp [hr]
                exact some3 s2 (by omega) (by omega) fun a b c ha hb hc e1 e2 e3 => by simp; exact k2 a b c ha hb hc e1 e2 e3
              · simp [hr]
                exact some3 s1 (by omega) (by omega) fun a b c ha hb hc e1 e2 e3 => by simp; exact k1 a b c ha hb hc e1 e2 e3
            · simp [hn]
              exact some3 s1 (by omega) (by omega) fun a b c ha hb hc e1 e2 e3 => by simp; exact k1 a b c ha hb hc e1 e2 e3
          · refine if_no c5 ?_
            by_cases c6 : r = 9
            · simp [t2__law_part, c6]
              refine ⟨by omega, ?_⟩
              rw [← List.map_append]
              refine c__law_pick (f := sD) (fun z => ?_) (fun a ha => ?_) (by rw [List.length_append]; omega)
              · have := (List.append_eq_nil_iff.mp z).1
                rw [this] at hs
                simp at hs
              · exact h (.fix a) (List.mem_append.mp ha)
            · simp [t2__law_part, c6]
              exact tie _ _ _ _
theorem divInt_sz {u l : Int} {n : Nat} (hl : 0 < l) (hu : u.natAbs < 2 ^ n) (hn : l.natAbs < 2 ^ n) : Sz n (Rat.divInt u l) := sz_divInt (by omega) hu hn
theorem c_fr {u l : Int} {n : Nat} {P : Dt → Prop} {E : Xc → Prop} (hl : 0 < l) (hu : u.natAbs < 2 ^ n) (hn : l.natAbs < 2 ^ n) (hz : n ≤ 1980) (h : ∀ q, q = Rat.divInt u l → Sz n q → P (dq q)) : sp__law_fr [.int u, .int l] P E :=
  c__law_fr (by omega) (Nat.lt_of_lt_of_le hn (Nat.pow_le_pow_right (by decide) hz)) (h _ rfl (divInt_sz hl hu hn))
theorem S1.dv {u : Int} {l : Nat} (hl : 0 < l) : S1 l u.natAbs (Rat.divInt u l) := by
  refine ⟨u, ?_, Nat.le_refl _⟩
  have : (l : Rat) ≠ 0 := fun q => by
    have : ((l : Int) : Rat) = ((0 : Int) : Rat) := q
    have := Rat.intCast_inj.mp this
    omega
  rw [Rat.divInt_eq_div]
  show (u : Rat) / (l : Rat) * (l : Rat) = u
  grind
theorem S1.dv6 {u l : Int} (h1 : 0 < l) (h2 : l ≤ 3) (h3 : u.natAbs ≤ 140) : S1 6 840 (Rat.divInt u l) := by
  rcases (by omega : l = 1 ∨ l = 2 ∨ l = 3) with rfl | rfl | rfl
  · exact ((S1.dv (u := u) (l := 1) (by decide)).scale (e := 6)).up (by omega)
  · exact ((S1.dv (u := u) (l := 2) (by decide)).scale (e := 3)).up (by omega)
  · exact ((S1.dv (u := u) (l := 3) (by decide)).scale (e := 2)).up (by omega)
structure Drawn (k : Nat) (sh ln : List String) (m : Mc) : Prop where
  s1 : sh.Nodup
  s2 : ln.Nodup
  dj : ∀ x ∈ sh, x ∉ ln
  sl : 2 ≤ sh.length ∧ sh.length ≤ 5
  ll : ln.length ≤ 3
  sub : (∀ x ∈ sh, x ∈ ["a", "b", "c", "d", "e"]) ∧ ∀ x ∈ ln, x ∈ ["x", "y", "w"]
  th : m.things = sh.map (fun x => (x, "shaft")) ++ ln.map fun x => (x, "line")
  pl : m.parts.length ≤ k
  fit : ∀ p ∈ m.parts, p.fit sh ln
  dv : ∀ t ∈ m.drv, t.1 ∈ m.ns ∧ Sz 3 t.2 ∧ S1 6 840 t.2
  dn : (m.drv.map (·.1)).Nodup ∧ m.drv.length ≤ 2
  lv : ∀ t ∈ m.lds, t.1 ∈ m.ns ∧ Sz 3 t.2 ∧ S1 6 840 t.2
  l_n : (m.lds.map (·.1)).Nodup ∧ m.lds.length ≤ 2
theorem Drawn.ns {k : Nat} {sh ln : List String} {m : Mc} (h : Drawn k sh ln m) : m.ns = sh ++ ln := by
  unfold Mc.ns
  rw [h.th]
  simp [Function.comp_def]
theorem fit_ok {sh ln ns : List String} {p : Prt} (h : p.fit sh ln) (dj : ∀ x ∈ sh, x ∉ ln) (e : ns = sh ++ ln) : p.ok ns := by
  subst e
  cases p with
  | two k a n b m =>
    obtain ⟨h1, h2, h3, h4⟩ := h
    refine ⟨by simp [Prt.names, Prt.terms, h2], fun x hx => ?_, fun q hq => ?_⟩
    · simp [Prt.names, Prt.terms] at hx
      split at h1 <;> rcases hx with rfl | rfl <;> simp [h1]
    · simp [Prt.nums] at hq
      unfold num35 at h3 h4
      rcases hq with rfl | rfl <;> omega
  | arm o c a n b m =>
    obtain ⟨⟨h1, h2, h3⟩, ⟨e1, e2, e3⟩, h5, h6⟩ := h
    refine ⟨by simp [Prt.names, Prt.terms, e3, Ne.symm e1, Ne.symm e2], fun x hx => ?_, fun q hq => ?_⟩
    · simp [Prt.names, Prt.terms] at hx
      rcases hx with rfl | rfl | rfl <;> simp [h1, h2, h3]
    · simp [Prt.nums] at hq
      unfold num35 at h5 h6
      rcases hq with rfl | rfl <;> omega
  | tie a b =>
    obtain ⟨h1, h2⟩ := h
    refine ⟨by simp [Prt.names, Prt.terms, h2], fun x hx => ?_, fun q hq => by simp [Prt.nums] at hq⟩
    simp [Prt.names, Prt.terms] at hx
    rcases h1 with h1 | h1 <;> rcases hx with rfl | rfl <;> simp [h1]
  | fix a =>
    refine ⟨by simp [Prt.names, Prt.terms], fun x hx => ?_, fun q hq => by simp [Prt.nums] at hq⟩
    simp [Prt.names, Prt.terms] at hx
    subst hx
    exact List.mem_append.mpr h
  | rack l s n =>
    obtain ⟨h1, h2, h3⟩ := h
    refine ⟨?_, fun x hx => ?_, fun q hq => ?_⟩
    · have : ¬ l = s := fun e => dj s h2 (e ▸ h1)
      simp [Prt.names, Prt.terms, this]
    · simp [Prt.names, Prt.terms] at hx
      rcases hx with rfl | rfl <;> simp [h1, h2]
    · simp [Prt.nums] at hq
      unfold num35 at h3
      subst hq; omega
  | mean a b c =>
    obtain ⟨h1, e1, e2, e3⟩ := h
    refine ⟨by simp [Prt.names, Prt.terms, e1, e2, e3], fun x hx => ?_, fun q hq => by simp [Prt.nums] at hq⟩
    simp [Prt.names, Prt.terms] at hx
    rcases h1 with h1 | h1 <;> rcases hx with rfl | rfl | rfl <;> simp [h1]
theorem Drawn.ok {k : Nat} {sh ln : List String} {m : Mc} (h : Drawn k sh ln m) (hk : k ≤ 100 := by decide) : m.ok := by
  have e := h.ns
  refine ⟨?_, ?_, fun p hp => fit_ok (h.fit p hp) h.dj e, Nat.le_trans h.pl hk⟩
  · rw [e, List.nodup_append]
    exact ⟨h.s1, h.s2, fun x hx y hy z => h.dj x hx (z ▸ hy)⟩
  · rw [e, List.length_append]
    have := h.sl
    have := h.ll
    omega
theorem Drawn.wide {k : Nat} {sh ln : List String} {m : Mc} (h : Drawn k sh ln m) : 2 ≤ m.ns.length ∧ m.ns.length ≤ 8 := by
  rw [h.ns, List.length_append]
  have := h.sl
  have := h.ll
  omega
theorem c__law_told {ts : List (String × String)} {P : Dt → Prop} {E : Xc → Prop} (nd : (ts.map (·.1)).Nodup) (hl : 2 ≤ ts.length ∧ ts.length ≤ 100) (h : ∀ l : List (String × Rat), (∀ t ∈ l, t.1 ∈ ts.map (·.1) ∧ Sz 3 t.2 ∧ S1 6 840 t.2) → (l.map (·.1)).Nodup → l.length ≤ 2 → P (.tup (l.map dtl))) : sp__law_told [.st, .tup (ts.map dth)] P E := by
  refine ⟨rfl, ?_⟩
  simp only [init_c, init_n, List.replicate]
  simp [m__law_told]
  refine ⟨by omega, ?_⟩
  refine compD_E sD (fun t : String × String => t.1) (fun t ht Q R q => ?_) ?_
  · unfold cStep
    simp [dth]
    exact q
  refine tk (h := fun r r0 r1 => ?_)
  obtain ⟨n, rfl⟩ : ∃ m : Nat, r = (m : Int) := ⟨r.toNat, by omega⟩
  refine c__law_some eqs_s nd (by simp; omega) (by simp; omega) fun l n1 n2 n3 => ?_
  simp
  refine ⟨by omega, ?_⟩
  refine compD_RE dtl (fun x t => t.1 = x ∧ Sz 3 t.2 ∧ S1 6 840 t.2) (fun x hx Q R q => ?_) fun ys hy => ?_
  · unfold cStep
    simp
    refine tk (h := fun u u0 u1 => ?_)
    try simp
    refine tk (h := fun v v0 v1 => ?_)
    try simp
    refine c_fr (n := 3) (by omega) (by omega) (by omega) (by decide) fun z ez sz => ?_
    exact q (x, z) ⟨rfl, sz, ez ▸ S1.dv6 (by omega) (by omega) (by omega)⟩
  · simp
    have e : ys.map (·.1) = l := by
      clear n1 n2 n3
      induction hy with
      | nil => rfl
      | cons s t ih => simp [s.1, ih]
    refine h ys (fun t ht => ?_) (by rw [e]; exact n1) (by have := congrArg List.length e; simp at this; omega)
    obtain ⟨a, ha, s⟩ := hy.mem ht
    exact ⟨by rw [s.1]; exact n3 a ha, s.2⟩
theorem c__law_machine {k : Nat} {P : Dt → Prop} {E : Xc → Prop} (hk : 1 ≤ k ∧ k ≤ 50) (h : ∀ sh ln m, Drawn k sh ln m → P m.d) : sp__law_machine [.st, .int (k : Int)] P E := by
  refine ⟨rfl, ?_⟩
  simp only [init_c, init_n, List.replicate]
  simp [m__law_machine]
  refine tk (h := fun r r0 r1 => ?_)
  obtain ⟨n, rfl⟩ : ∃ m : Nat, r = (m : Int) := ⟨r.toNat, by omega⟩
  simp
  refine tk (h := fun u u0 u1 => ?_)
  obtain ⟨j, rfl⟩ : ∃ m : Nat, u = (m : Int) := ⟨u.toNat, by omega⟩
  have e1 : cut [sD "a", sD "b", sD "c", sD "d", sD "e"] none (some (2 + (n : Int))) = (["a", "b", "c", "d", "e"].take (2 + n)).map sD := by
    rw [show (2 : Int) + (n : Int) = ((2 + n : Nat) : Int) by omega, cut_take (by simp; omega), List.map_take]
    rfl
  have e2 : cut [sD "x", sD "y", sD "w"] none (some (j : Int)) = (["x", "y", "w"].take j).map sD := by
    rw [cut_take (by simp; omega), List.map_take]
    rfl
  have nd1 : (["a", "b", "c", "d", "e"].take (2 + n)).Nodup := List.Nodup.sublist (List.take_sublist _ _) (by decide)
  have nd2 : (["x", "y", "w"].take j).Nodup := List.Nodup.sublist (List.take_sublist _ _) (by decide)
  have l1 : (["a", "b", "c", "d", "e"].take (2 + n)).length = 2 + n := by rw [List.length_take]; simp; omega
  have l2 : (["x", "y", "w"].take j).length ≤ 3 := by rw [List.length_take]; simp; omega
  have m1 : ∀ x ∈ ["a", "b", "c", "d", "e"].take (2 + n), x ∈ ["a", "b", "c", "d", "e"] := fun x hx => List.mem_of_mem_take hx
  have m2 : ∀ x ∈ ["x", "y", "w"].take j, x ∈ ["x", "y", "w"] := fun x hx => List.mem_of_mem_take hx
  simp only [slL_r1, e1, e2]
  generalize ["a", "b", "c", "d", "e"].take (2 + n) = sh at *
  generalize ["x", "y", "w"].take j = ln at *
  have dj : ∀ x ∈ sh, x ∉ ln := fun x hx hy => by
    have a := m1 x hx
    have b := m2 x hy
    simp at a b
    rcases a with rfl | rfl | rfl | rfl | rfl <;> simp at b
  simp [e2]
  refine ⟨by omega, ?_⟩
  refine compD_E dth (fun x : String => (x, "shaft")) (fun x hx Q R q => ?_) ?_
  · unfold cStep
    simp
    exact q
  refine ⟨by omega, ?_⟩
  refine compD_E dth (fun x : String => (x, "line")) (fun x hx Q R q => ?_) ?_
  · unfold cStep
    simp
    exact q
  simp only [catL_r1, tupD_r1, List.length_map]
  refine ⟨by omega, ?_⟩
  rw [← List.map_append]
  have hns : ((sh.map fun x => (x, "shaft")) ++ ln.map fun x => (x, "line")).map (·.1) = sh ++ ln := by simp [Function.comp_def]
  have htl : ((sh.map fun x => (x, "shaft")) ++ ln.map fun x => (x, "line")).length = sh.length + ln.length := by simp
  generalize hth : ((sh.map fun x => (x, "shaft")) ++ ln.map fun x => (x, "line")) = ts at *
  have nds : (ts.map (·.1)).Nodup := by
    rw [hns, List.nodup_append]
    exact ⟨nd1, nd2, fun x hx y hy z => dj x hx (z ▸ hy)⟩
  refine tk1 (by omega) (fun q q0 q1 => ?_) (by omega)
  obtain ⟨i, rfl⟩ : ∃ m : Nat, q = (m : Int) := ⟨q.toNat, by omega⟩
  simp
  refine ⟨by omega, by simp [rng]; omega, ?_⟩
  rw [rng0]
  refine compD_RE Prt.d (fun _ p => p.fit sh ln) (fun x hx Q R q => ?_) fun ps hps => ?_
  · unfold cStep
    simp
    exact c__law_part nd1 nd2 (by omega) l2 fun p hp => q p hp
  simp
  refine c__law_told nds (by omega) fun dv d1 d2 d3 => ?_
  refine c__law_told nds (by omega) fun lv v1 v2 v3 => ?_
  have pl := hps.len
  simp at pl
  refine h sh ln ⟨ts, ps, dv, lv⟩ ⟨nd1, nd2, dj, by omega, l2, ⟨m1, m2⟩, hth.symm, ?_, fun p hp => ?_, d1, ⟨d2, d3⟩, v1, ⟨v2, v3⟩⟩
  · show ps.length ≤ k
    omega
  · obtain ⟨a, _, s⟩ := hps.mem hp
    exact s
end KK

set_option maxHeartbeats 1000000
/-! M7: ranks, what hangs on what, circuits. -/
namespace MX
variable {n : Nat} {A B M T R : List (List Rat)} {L : List Nat} {r s : List Rat}
def Wd (n : Nat) (A : List (List Rat)) : Prop := ∀ r ∈ A, r.length = n
theorem rk_ex (A : List (List Rat)) : ∃ k : Nat, Wd n A → ∃ T R L, Inv n n n A T R L ∧ L.length = k := by
  by_cases h : Wd n A
  · obtain ⟨T, R, L, I⟩ := Inv.exX (n := n) (W := n) (Nat.le_refl _) h
    exact ⟨L.length, fun _ => ⟨T, R, L, I, rfl⟩⟩
  · exact ⟨0, fun z => absurd z h⟩
noncomputable def rk (n : Nat) (A : List (List Rat)) : Nat := Classical.choose (rk_ex (n := n) A)
theorem rk_inv (w : Wd n A) (I : Inv n n n A T R L) : L.length = rk n A := by
  obtain ⟨T', R', L', I', e⟩ := Classical.choose_spec (rk_ex (n := n) A) w
  have := (I.uniq I').2
  rw [this]; exact e
theorem rk_has (w : Wd n A) : ∃ T R L, Inv n n n A T R L ∧ L.length = rk n A := by
  obtain ⟨T, R, L, I⟩ := Inv.exX (n := n) (W := n) (Nat.le_refl _) w
  exact ⟨T, R, L, I, rk_inv w I⟩
theorem rk_congr (wa : Wd n A) (wb : Wd n B) (h : ∀ x, Nul n A x ↔ Nul n B x) : rk n A = rk n B := by
  obtain ⟨T, R, L, I, e⟩ := rk_has wa
  obtain ⟨T', R', L', J, f⟩ := rk_has wb
  have := leads_eq I.rr J.rr fun x => (J.nul0 x).trans ((h x).symm.trans (I.nul0 x).symm)
  rw [← e, ← f, this]
theorem rk_len (w : Wd n A) : rk n A ≤ A.length := by
  obtain ⟨T, R, L, I, e⟩ := rk_has w
  rw [← e]; exact rank_zero I
theorem rk_wide (w : Wd n A) : rk n A ≤ n := by
  obtain ⟨T, R, L, I, e⟩ := rk_has w
  rw [← e]; exact rank_le I.rr
/-- a row that says nothing more -/
def Dep (n : Nat) (A : List (List Rat)) (r : List Rat) : Prop := ∀ x, Nul n A x → dt n (g r) x = 0
theorem Dep.mono (h : Dep n A r) (s : ∀ a ∈ A, a ∈ B) : Dep n B r := fun x hx => h x fun a ha => hx a (s a ha)
theorem Dep.mem (h : r ∈ A) : Dep n A r := fun x hx => hx r h
theorem Dep.trans (h : Dep n A r) (s : ∀ a ∈ A, Dep n B a) : Dep n B r := fun x hx => h x fun a ha => s a ha x hx
theorem nul_dep (h : Dep n A r) {x : Vc} : Nul n (A ++ [r]) x ↔ Nul n A x := by
  rw [nul_snoc]
  exact ⟨fun h => h.1, fun z => ⟨z, h x z⟩⟩
theorem wd_snoc (w : Wd n A) (h : r.length = n) : Wd n (A ++ [r]) := fun a ha => by
  rcases List.mem_append.mp ha with z | z
  · exact w a z
  · rw [List.mem_singleton] at z; rw [z]; exact h
theorem rk_dep (w : Wd n A) (h : r.length = n) (d : Dep n A r) : rk n (A ++ [r]) = rk n A := rk_congr (wd_snoc w h) w fun x => nul_dep d
theorem rk_new (w : Wd n A) (h : r.length = n) (d : ¬ Dep n A r) : rk n (A ++ [r]) = rk n A + 1 := by
  have w' := wd_snoc w h
  obtain ⟨T, R, L, I, e⟩ := rk_has w
  obtain ⟨T', R', L', J, f⟩ := rk_has w'
  have hne : L'.length ≠ L.length := fun z => d ((Inv.same_rank I J).mp z)
  have sub : ∀ c ∈ L, c ∈ L' := leads_sub I.rr J.rr fun x hx => (I.nul0 x).mpr ((nul_snoc.mp ((J.nul0 x).mp hx)).1)
  have sl := sorted_sub I.sorted J.sorted sub
  have le := sl.length_le
  have up : L'.length ≤ L.length + 1 := by
    refine Classical.byContradiction fun z => ?_
    -- two leads more
    have ndL : L.Nodup := I.sorted.imp fun h => Nat.ne_of_lt h
    have ndL' : L'.Nodup := J.sorted.imp fun h => Nat.ne_of_lt h
    have hcnt := cnt_sub L L' I.sorted J.sorted sub
    obtain ⟨a, b, t, ht⟩ : ∃ a b t, (L'.filter fun c => !L.contains c) = a :: b :: t := by
      match hq : L'.filter fun c => !L.contains c with
      | [] => rw [hq] at hcnt; simp at hcnt; omega
      | [a] => rw [hq] at hcnt; simp at hcnt; omega
      | a :: b :: t => exact ⟨a, b, t, rfl⟩
    have ma : a ∈ L' ∧ a ∉ L := by
      have : a ∈ L'.filter fun c => !L.contains c := by rw [ht]; simp
      simpa using this
    have mb : b ∈ L' ∧ b ∉ L := by
      have : b ∈ L'.filter fun c => !L.contains c := by rw [ht]; simp
      simpa using this
    have hab : a ≠ b := by
      have := ndL'.filter fun c => !L.contains c
      rw [ht] at this
      simp at this
      exact this.1.1
    have la := J.rr.lt a ma.1
    have lb := J.rr.lt b mb.1
    have na := way_nul I.rr la ma.2
    have nb := way_nul I.rr lb mb.2
    let p := dt n (g r) (way T L a)
    let q := dt n (g r) (way T L b)
    -- a sum of both that keeps the row too
    have key : ∀ α β : Rat, α * p + β * q = 0 → α = 0 ∧ β = 0 := fun α β hz => by
      let x : Vc := fun j => α * way T L a j + β * way T L b j
      have nx : Nul n T x := na.lin α β nb
      have rx : dt n (g r) x = 0 := by
        show dt n (g r) (fun j => α * way T L a j + β * way T L b j) = 0
        rw [dt_linR]
        exact hz
      have nx' : Nul n T' x := (J.nul0 x).mpr (nul_snoc.mpr ⟨(I.nul0 x).mp nx, rx⟩)
      have z0 := nul_zero J.rr nx' fun j hj hjL => by
        have hjL2 : j ∉ L := fun h => hjL (sub j h)
        have e1 : j ≠ a := fun e => hjL (e ▸ ma.1)
        have e2 : j ≠ b := fun e => hjL (e ▸ mb.1)
        show α * way T L a j + β * way T L b j = 0
        rw [way_free hjL2 e1, way_free hjL2 e2]
        grind
      have za : α * way T L a a + β * way T L b a = 0 := z0 a la
      have zb : α * way T L a b + β * way T L b b = 0 := z0 b lb
      rw [way_self, way_free ma.2 hab] at za
      rw [way_self, way_free mb.2 hab.symm] at zb
      constructor <;> grind
    by_cases hp : p = 0
    · have := (key 1 0 (by rw [hp]; grind)).1
      grind
    · have := (key q (-p) (by grind)).2
      grind
  rw [← e, ← f]
  omega
theorem rk_snoc (w : Wd n A) (h : r.length = n) : rk n A ≤ rk n (A ++ [r]) ∧ rk n (A ++ [r]) ≤ rk n A + 1 ∧ (rk n (A ++ [r]) = rk n A ↔ Dep n A r) := by
  by_cases d : Dep n A r
  · have := rk_dep w h d
    exact ⟨by omega, by omega, fun _ => d, fun _ => this⟩
  · have := rk_new w h d
    exact ⟨by omega, by omega, fun z => by omega, fun z => absurd z d⟩
theorem rk_nil : rk n [] = 0 := by
  have := rk_len (n := n) (A := []) (fun _ h => by simp at h)
  simpa using this
theorem nul_mem (h : ∀ a, a ∈ A ↔ a ∈ B) (x : Vc) : Nul n A x ↔ Nul n B x := ⟨fun q a ha => q a ((h a).mpr ha), fun q a ha => q a ((h a).mp ha)⟩
theorem rk_mem (wa : Wd n A) (wb : Wd n B) (h : ∀ a, a ∈ A ↔ a ∈ B) : rk n A = rk n B := rk_congr wa wb (nul_mem h)
theorem Dep.exch (h : Dep n (A ++ [s]) r) (d : ¬ Dep n A r) : Dep n (A ++ [r]) s := fun x hx => by
  obtain ⟨h1, h2⟩ := nul_snoc.mp hx
  obtain ⟨x0, hx0⟩ := Classical.not_forall.mp d
  obtain ⟨n0, r0⟩ := Classical.not_imp.mp hx0
  have s0 : dt n (g s) x0 ≠ 0 := fun z => r0 (h x0 (nul_snoc.mpr ⟨n0, z⟩))
  let c := dt n (g s) x / dt n (g s) x0
  have ny : Nul n A fun j => 1 * x j + (-c) * x0 j := h1.lin 1 (-c) n0
  have sy : dt n (g s) (fun j => 1 * x j + (-c) * x0 j) = 0 := by
    rw [dt_linR]
    show 1 * dt n (g s) x + -(dt n (g s) x / dt n (g s) x0) * dt n (g s) x0 = 0
    grind
  have ry := h _ (nul_snoc.mpr ⟨ny, sy⟩)
  rw [dt_linR, h2] at ry
  have hc : c * dt n (g r) x0 = 0 := by grind
  rcases Rat.mul_eq_zero.mp hc with q | q
  · have : dt n (g s) x / dt n (g s) x0 = 0 := q
    grind
  · exact absurd q r0
end MX

set_option maxHeartbeats 1000000
/-! M8: lots of rows, needless ones, first ones, circuits. -/
namespace MX
open Classical
variable {n : Nat} {A B M T R : List (List Rat)} {L l S C : List Nat} {r s : List Rat} {k : Nat}
/-- the rows at some numbers -/
def pick (A : List (List Rat)) (l : List Nat) : List (List Rat) := l.map fun k => A.getD k []
def rm (k : Nat) (l : List Nat) : List Nat := l.filter fun j => decide (j ≠ k)
theorem mem_rm {j : Nat} : j ∈ rm k l ↔ j ∈ l ∧ j ≠ k := by simp [rm]
theorem mem_pick {a : List Rat} : a ∈ pick A l ↔ ∃ k ∈ l, A.getD k [] = a := by simp [pick]
theorem pick_wd (w : Wd n A) (h : ∀ k ∈ l, k < A.length) : Wd n (pick A l) := fun a ha => by
  obtain ⟨k, hk, e⟩ := mem_pick.mp ha
  rw [← e]
  exact w _ (at_mem (h k hk))
theorem Dep.congr (h : ∀ x, Nul n A x ↔ Nul n B x) : Dep n A r ↔ Dep n B r := ⟨fun d x hx => d x ((h x).mpr hx), fun d x hx => d x ((h x).mp hx)⟩
theorem Dep.mem_congr (h : ∀ a, a ∈ A ↔ a ∈ B) : Dep n A r ↔ Dep n B r := Dep.congr (nul_mem h)
theorem mem_erase : ∀ {A : List (List Rat)} {k : Nat}, k < A.length → ∀ a, a ∈ A ↔ a ∈ A.eraseIdx k ++ [A.getD k []]
  | a :: A, 0, _, x => by simp [or_comm]
  | a :: A, k + 1, h, x => by
    have := mem_erase (A := A) (k := k) (by simpa using h) x
    simp only [List.eraseIdx_cons_succ, List.cons_append, List.mem_cons, List.getD_cons_succ]
    rw [this]
theorem rk_erase (w : Wd n A) (h : k < A.length) : rk n (A.eraseIdx k) = rk n A ↔ Dep n (A.eraseIdx k) (A.getD k []) := by
  have we : Wd n (A.eraseIdx k) := fun a ha => w a ((mem_erase h a).mpr (List.mem_append_left _ ha))
  have wk := w _ (at_mem h)
  have e : rk n A = rk n (A.eraseIdx k ++ [A.getD k []]) := rk_mem w (wd_snoc we wk) (mem_erase h)
  rw [e, ← (rk_snoc we wk).2.2]
  exact eq_comm
theorem rk_erase2 (w : Wd n A) (h : k < A.length) : rk n (A.eraseIdx k) ≤ rk n A ∧ rk n A ≤ rk n (A.eraseIdx k) + 1 := by
  have we : Wd n (A.eraseIdx k) := fun a ha => w a ((mem_erase h a).mpr (List.mem_append_left _ ha))
  have wk := w _ (at_mem h)
  have e : rk n A = rk n (A.eraseIdx k ++ [A.getD k []]) := rk_mem w (wd_snoc we wk) (mem_erase h)
  have := rk_snoc we wk
  omega
theorem take_one (h : k < A.length) : A.take (k + 1) = A.take k ++ [A.getD k []] := by
  rw [List.take_succ, List.getD_eq_getElem?_getD, List.getElem?_eq_getElem h]
  rfl
theorem take_wd (w : Wd n A) : Wd n (A.take k) := fun a ha => w a (List.mem_of_mem_take ha)
noncomputable def dpB (n : Nat) (A : List (List Rat)) (r : List Rat) : Bool := @decide (Dep n A r) (Classical.propDecidable _)
theorem dpB_iff : dpB n A r = true ↔ Dep n A r := by simp [dpB]
theorem dpB_not : dpB n A r = false ↔ ¬ Dep n A r := by simp [dpB]
/-- the numbers of rows that say more than those before -/
noncomputable def firsts (n : Nat) (A : List (List Rat)) (K : Nat) : List Nat := (List.range K).filter fun j => !dpB n (A.take j) (A.getD j [])
theorem firsts_succ {K : Nat} : firsts n A (K + 1) = if Dep n (A.take K) (A.getD K []) then firsts n A K else firsts n A K ++ [K] := by
  unfold firsts
  rw [List.range_succ, List.filter_append]
  by_cases h : Dep n (A.take K) (A.getD K [])
  · rw [if_pos h, List.filter_cons_of_neg (by rw [dpB_iff.mpr h]; simp)]
    simp
  · rw [if_neg h, List.filter_cons_of_pos (by rw [dpB_not.mpr h]; simp)]
    simp
theorem firsts_lt {K : Nat} : ∀ j ∈ firsts n A K, j < K := fun j hj => List.mem_range.mp (List.mem_filter.mp hj).1
theorem firsts_nul {x : Vc} : ∀ {K : Nat}, K ≤ A.length → (Nul n (pick A (firsts n A K)) x ↔ Nul n (A.take K) x)
  | 0, _ => by simp [firsts, pick, Nul]
  | K + 1, h => by
    have ih := firsts_nul (x := x) (K := K) (by omega)
    rw [take_one (by omega), firsts_succ]
    by_cases d : Dep n (A.take K) (A.getD K [])
    · rw [if_pos d, nul_dep d, ih]
    · rw [if_neg d]
      unfold pick at *
      rw [List.map_append, List.map_cons, List.map_nil, nul_snoc, nul_snoc, ih]
theorem firsts_rk (w : Wd n A) : ∀ {K : Nat}, K ≤ A.length → rk n (A.take K) = (firsts n A K).length
  | 0, _ => by simp [firsts, rk_nil]
  | K + 1, h => by
    have ih := firsts_rk w (K := K) (by omega)
    have wk := w _ (at_mem (show K < A.length by omega))
    rw [take_one (by omega), firsts_succ]
    by_cases d : Dep n (A.take K) (A.getD K [])
    · rw [if_pos d, rk_dep (take_wd w) wk d, ih]
    · rw [if_neg d, rk_new (take_wd w) wk d, ih, List.length_append]
      rfl
theorem firsts_wd (w : Wd n A) {K : Nat} (h : K ≤ A.length) : Wd n (pick A (firsts n A K)) := pick_wd w fun j hj => by have := firsts_lt j hj; omega
theorem firsts_test (w : Wd n A) {K : Nat} (h : K < A.length) : (firsts n A K).length < rk n (pick A (firsts n A K ++ [K])) ↔ ¬ Dep n (A.take K) (A.getD K []) := by
  have wk := w _ (at_mem h)
  have wf := firsts_wd w (K := K) (by omega)
  have e1 : rk n (pick A (firsts n A K)) = (firsts n A K).length := by
    rw [← firsts_rk w (by omega)]
    exact rk_congr wf (take_wd w) fun x => firsts_nul (by omega)
  have e2 : pick A (firsts n A K ++ [K]) = pick A (firsts n A K) ++ [A.getD K []] := by simp [pick]
  have := rk_snoc wf wk
  rw [e2, ← Dep.congr (r := A.getD K []) fun x => firsts_nul (n := n) (A := A) (K := K) (by omega), ← this.2.2]
  omega
theorem first_step (w : Wd n A) {K : Nat} (h : K < A.length) : rk n (A.take (K + 1)) = rk n (A.take K) + (if Dep n (A.take K) (A.getD K []) then 0 else 1) := by
  have wk := w _ (at_mem h)
  rw [take_one h]
  by_cases d : Dep n (A.take K) (A.getD K [])
  · rw [if_pos d, rk_dep (take_wd w) wk d]; rfl
  · rw [if_neg d, rk_new (take_wd w) wk d]
/-! made of others -/
def trs (W : Nat) (M : List (List Rat)) : List (List Rat) := (List.range W).map fun c => M.map fun r => g r c
theorem trs_len {W : Nat} : (trs W M).length = W := by simp [trs]
theorem trs_get {W c : Nat} (h : c < W) : (trs W M).getD c [] = M.map fun r => g r c := by simp [trs, List.getD_eq_getElem?_getD, h]
theorem g_cols {c k : Nat} : g (M.map fun r => g r c) k = at2 M k c := by
  unfold at2 g
  by_cases h : k < M.length
  · simp [List.getD_eq_getElem?_getD, h]
  · simp [List.getD_eq_getElem?_getD, List.getElem?_eq_none (Nat.not_lt.mp h)]
theorem at2_trs {W c k : Nat} (h : c < W) : at2 (trs W M) c k = at2 M k c := by
  unfold at2
  rw [trs_get h]
  exact g_cols
theorem trs_wd {W : Nat} : ∀ r ∈ trs W M, r.length = M.length := fun r hr => by
  obtain ⟨c, _, e⟩ := List.mem_map.mp hr
  rw [← e, List.length_map]
variable {gl : List Rat}
theorem made_eq (I : Inv M.length (M.length + 1) M.length (aug M.length (trs n M) (g gl)) T R L) (z : ∀ r ∈ R, g r M.length = 0) : ∀ c, c < n → dt M.length (fun j => at2 M j c) (pnt T L M.length) = g gl c := fun c hc => by
  have := I.point trs_wd z c (by rw [trs_len]; exact hc)
  rw [← this]
  unfold dt
  refine sm_congr fun j hj => ?_
  rw [trs_get hc, g_cols]
theorem dep_of {x : Vc} (h : ∀ c, c < n → dt M.length (fun j => at2 M j c) x = g gl c) : Dep n M gl := fun y hy => by
  have e : dt n (g gl) y = sm n fun c => sm M.length fun j => at2 M j c * x j * y c := by
    unfold dt
    refine sm_congr fun c hc => ?_
    rw [← h c hc]
    unfold dt
    rw [Rat.mul_comm, ← sm_mul]
    refine sm_congr fun j _ => ?_
    grind
  rw [e, sm_swap]
  refine sm_zero fun j hj => ?_
  have := hy _ (at_mem hj)
  have e2 : (sm n fun i => at2 M j i * x j * y i) = x j * dt n (g (M.getD j [])) y := by
    unfold dt
    rw [← sm_mul]
    refine sm_congr fun i _ => ?_
    unfold at2
    grind
  rw [e2, this]
  grind
theorem made_yes (I : Inv M.length (M.length + 1) M.length (aug M.length (trs n M) (g gl)) T R L) (z : ∀ r ∈ R, g r M.length = 0) : Dep n M gl := dep_of (made_eq I z)
theorem made_no (I : Inv M.length (M.length + 1) M.length (aug M.length (trs n M) (g gl)) T R L) (z : ∃ r ∈ R, g r M.length ≠ 0) : ¬ Dep n M gl := fun d => by
  obtain ⟨r, hr, h0⟩ := z
  obtain ⟨y, h1, h2⟩ := I.none_ trs_wd hr h0
  rw [trs_len] at h1 h2
  have hy : Nul n M y := fun a ha => by
    obtain ⟨j, hj, e⟩ := mem_at ha
    rw [← h1 j hj]
    unfold dt
    refine sm_congr fun c hc => ?_
    rw [at2_trs hc, ← e]
    unfold at2
    grind
  refine h2 ?_
  rw [← d y hy]
  unfold dt
  refine sm_congr fun c _ => ?_
  grind
theorem made_zero (I : Inv M.length (M.length + 1) M.length (aug M.length (trs n M) (g gl)) T R L) (hk : k < M.length) (z : ∀ c, c < n → at2 M k c = 0) : k ∉ L := fun hm => by
  obtain ⟨y, hy⟩ := I.sp (T.getD (L.idxOf k) []) (.inl (at_mem (by rw [I.len]; exact List.idxOf_lt_length_of_mem hm)))
  have h1 := I.one _ _ (idx_get hm)
  have h2 := hy k (by omega)
  have h3 : g (T.getD (L.idxOf k) []) k = 1 := h1
  rw [h3] at h2
  have : (sm (aug M.length (trs n M) (g gl)).length fun i => y i * at2 (aug M.length (trs n M) (g gl)) i k) = 0 := sm_zero fun i hi => by
    have hl : i < (trs n M).length := by simpa [aug] using hi
    have hl' : i < n := by rw [trs_len] at hl; exact hl
    have ea : (aug M.length (trs n M) (g gl)).getD i [] = (trs n M).getD i [] ++ [g gl i] := by simp [aug, List.getD_eq_getElem?_getD, hl]
    unfold at2
    rw [ea, g_snoc (trs_wd _ (at_mem hl)), if_pos hk]
    have := z i hl'
    rw [← at2_trs hl'] at this
    unfold at2 at this
    rw [this]
    grind
  rw [this] at h2
  exact absurd h2 (by decide)
/-! circuits -/
structure Circ (n : Nat) (A : List (List Rat)) (l : List Nat) : Prop where
  a : rk n (pick A l) + 1 = l.length
  b : ∀ i ∈ l, rk n (pick A (rm i l)) + 1 = l.length
theorem ind_rk (w : Wd n A) : ∀ {l : List Nat}, l.Nodup → (∀ k ∈ l, k < A.length) → (∀ i ∈ l, ¬ Dep n (pick A (rm i l)) (A.getD i [])) → rk n (pick A l) = l.length := by
  intro l nd hl h
  have key : ∀ j, j ≤ l.length → rk n (pick A (l.take j)) = j := by
    intro j
    induction j with
    | zero => intro _; simp [pick, rk_nil]
    | succ j ih =>
      intro hj
      have ih := ih (by omega)
      have hj' : j < l.length := by omega
      have ml : l[j] ∈ l := List.getElem_mem hj'
      have e : pick A (l.take (j + 1)) = pick A (l.take j) ++ [A.getD l[j] []] := by
        rw [List.take_succ, List.getElem?_eq_getElem hj']
        unfold pick
        rw [List.map_append]
        rfl
      rw [e, rk_new (pick_wd w fun k hk => hl k (List.mem_of_mem_take hk)) (w _ (at_mem (hl _ ml))) fun d => h _ ml (d.mono fun a ha => ?_), ih]
      obtain ⟨k, hk, ek⟩ := mem_pick.mp ha
      refine mem_pick.mpr ⟨k, mem_rm.mpr ⟨List.mem_of_mem_take hk, fun z => ?_⟩, ek⟩
      subst z
      obtain ⟨i, hi, ei⟩ := List.mem_iff_getElem.mp hk
      rw [List.length_take] at hi
      rw [List.getElem_take] at ei
      have := (List.getElem_inj nd).mp ei
      omega
  have := key l.length (Nat.le_refl _)
  rwa [List.take_length] at this
theorem rm_len (nd : l.Nodup) (h : k ∈ l) : (rm k l).length + 1 = l.length := by
  have : rm k l = l.erase k := by
    rw [nd.erase_eq_filter]
    unfold rm
    congr 1
    funext j
    by_cases e : j = k <;> simp [e]
  rw [this, List.length_erase_of_mem h]
  have := List.length_pos_of_mem h
  omega
theorem rm_nodup (nd : l.Nodup) : (rm k l).Nodup := nd.filter _
theorem circ_of (w : Wd n A) (hk : k < A.length) (nd : S.Nodup) (kS : k ∉ S) (hS : ∀ i ∈ S, i < A.length) (d : Dep n (pick A S) (A.getD k [])) (h : ∀ i ∈ S, ¬ Dep n (pick A (rm i S)) (A.getD k [])) (cn : C.Nodup) (c : ∀ i, i ∈ C ↔ i ∈ S ∨ i = k) (cl : C.length = S.length + 1) : Circ n A C := by
  have wS := pick_wd w hS
  have wk := w _ (at_mem hk)
  have hC : ∀ i ∈ C, i < A.length := fun i hi => by
    rcases (c i).mp hi with z | z
    · exact hS i z
    · rw [z]; exact hk
  -- none of the lot is made by the others of it
  have free : ∀ i ∈ S, ¬ Dep n (pick A (rm i S)) (A.getD i []) := fun i hi z => h i hi (d.trans fun a ha => by
    obtain ⟨j, hj, e⟩ := mem_pick.mp ha
    rw [← e]
    by_cases q : j = i
    · rw [q]; exact z
    · exact Dep.mem (mem_pick.mpr ⟨j, mem_rm.mpr ⟨hj, q⟩, rfl⟩))
  have rS := ind_rk w nd hS free
  have e1 : rk n (pick A C) = rk n (pick A S ++ [A.getD k []]) := rk_mem (pick_wd w hC) (wd_snoc wS wk) fun a => by
    rw [List.mem_append, List.mem_singleton, mem_pick, mem_pick]
    constructor
    · rintro ⟨j, hj, e⟩
      rcases (c j).mp hj with z | z
      · exact .inl ⟨j, z, e⟩
      · exact .inr (by rw [← e, z])
    · rintro (⟨j, hj, e⟩ | e)
      · exact ⟨j, (c j).mpr (.inl hj), e⟩
      · exact ⟨k, (c k).mpr (.inr rfl), e.symm⟩
  refine ⟨by rw [e1, rk_dep wS wk d, rS, cl], fun i hi => ?_⟩
  rcases (c i).mp hi with z | z
  · have wi : Wd n (pick A (rm i S)) := pick_wd w fun j hj => hS j (mem_rm.mp hj).1
    have e2 : rk n (pick A (rm i C)) = rk n (pick A (rm i S) ++ [A.getD k []]) := rk_mem (pick_wd w fun j hj => hC j (mem_rm.mp hj).1) (wd_snoc wi wk) fun a => by
      rw [List.mem_append, List.mem_singleton, mem_pick, mem_pick]
      have ik : k ≠ i := fun e => kS (e ▸ z)
      constructor
      · rintro ⟨j, hj, e⟩
        obtain ⟨j1, j2⟩ := mem_rm.mp hj
        rcases (c j).mp j1 with q | q
        · exact .inl ⟨j, mem_rm.mpr ⟨q, j2⟩, e⟩
        · exact .inr (by rw [← e, q])
      · rintro (⟨j, hj, e⟩ | e)
        · exact ⟨j, mem_rm.mpr ⟨(c j).mpr (.inl (mem_rm.mp hj).1), (mem_rm.mp hj).2⟩, e⟩
        · exact ⟨k, mem_rm.mpr ⟨(c k).mpr (.inr rfl), ik⟩, e.symm⟩
    have rI : rk n (pick A (rm i S)) = (rm i S).length := ind_rk w (rm_nodup nd) (fun j hj => hS j (mem_rm.mp hj).1) fun j hj z => free j (mem_rm.mp hj).1 (z.mono fun a ha => by
      obtain ⟨q, hq, e⟩ := mem_pick.mp ha
      obtain ⟨q1, q2⟩ := mem_rm.mp hq
      exact mem_pick.mpr ⟨q, mem_rm.mpr ⟨(mem_rm.mp q1).1, q2⟩, e⟩)
    rw [e2, rk_new wi wk (h i z), rI, cl]
    have := rm_len nd z
    omega
  · subst z
    have e2 : rk n (pick A (rm i C)) = rk n (pick A S) := rk_mem (pick_wd w fun j hj => hC j (mem_rm.mp hj).1) wS fun a => by
      rw [mem_pick, mem_pick]
      constructor
      · rintro ⟨j, hj, e⟩
        obtain ⟨j1, j2⟩ := mem_rm.mp hj
        rcases (c j).mp j1 with q | q
        · exact ⟨j, q, e⟩
        · exact absurd q j2
      · rintro ⟨j, hj, e⟩
        exact ⟨j, mem_rm.mpr ⟨(c j).mpr (.inl hj), fun q => kS (q ▸ hj)⟩, e⟩
    rw [e2, rS, cl]
end MX

set_option maxRecDepth 100000
set_option maxHeartbeats 1000000
namespace KK
open PySem L2 DL FQ MX
variable {P : Dt → Prop} {E : Xc → Prop} {m : Mc} {k : Nat}
/-! machines with drives: rows and goals -/
def unit (ns : List String) (x : String) : List Rat := ns.map fun y => if y = x then 1 else 0
def Mc.drows (m : Mc) : List (List Rat) := m.drv.map fun t => unit m.ns t.1
def Mc.srows (m : Mc) : List (List Rat) := m.rows ++ m.drows
def Mc.goals (m : Mc) : List Rat := List.replicate m.parts.length 0 ++ m.drv.map (·.2)
/-- what is told of a name -/
def ldAt : List (String × Rat) → String → Rat
  | [], _ => 0
  | t :: l, x => if t.1 = x then t.2 else ldAt l x
def Mc.loads (m : Mc) : List Rat := m.ns.map (ldAt m.lds)
theorem ldAt_at {l : List (String × Rat)} {t : String × Rat} (nd : (l.map (·.1)).Nodup) (h : t ∈ l) : ldAt l t.1 = t.2 := by
  induction l with
  | nil => cases h
  | cons u l ih =>
    rw [List.map_cons, List.nodup_cons] at nd
    rcases List.mem_cons.mp h with rfl | h
    · simp [ldAt]
    · have : u.1 ≠ t.1 := fun e => nd.1 (e ▸ List.mem_map.mpr ⟨t, h, rfl⟩)
      simp only [ldAt]
      rw [if_neg this, ih nd.2 h]
theorem ldAt_no {l : List (String × Rat)} {x : String} (h : x ∉ l.map (·.1)) : ldAt l x = 0 := by
  induction l with
  | nil => rfl
  | cons u l ih =>
    rw [List.map_cons, List.mem_cons, not_or] at h
    simp only [ldAt]
    rw [if_neg fun e => h.1 e.symm, ih h.2]
/-- a machine with drives and loads, numbers not too great -/
structure Mc.fit (m : Mc) : Prop where
  ok : m.ok
  n : 2 ≤ m.ns.length ∧ m.ns.length ≤ 12
  p : m.parts.length ≤ 12
  dl : m.drv.length ≤ 12
  ll : m.lds.length ≤ 12
  e : ∀ p ∈ m.parts, ∀ x, (cf p.terms x).natAbs ≤ 140
  dn : ∀ t ∈ m.drv, t.1 ∈ m.ns
  ln : ∀ t ∈ m.lds, t.1 ∈ m.ns
  dv : ∀ t ∈ m.drv, S1 6 840 t.2
  lv : ∀ t ∈ m.lds, S1 6 840 t.2
  dd : (m.drv.map (·.1)).Nodup
  ld : (m.lds.map (·.1)).Nodup
theorem rows_len (m : Mc) : m.rows.length = m.parts.length := by simp [Mc.rows]
theorem srows_len (m : Mc) : m.srows.length = m.parts.length + m.drv.length := by simp [Mc.srows, Mc.drows, rows_len]
theorem goals_len (m : Mc) : m.goals.length = m.parts.length + m.drv.length := by simp [Mc.goals]
theorem unit_len (ns : List String) (x : String) : (unit ns x).length = ns.length := by simp [unit]
theorem srows_w (m : Mc) : Wd m.ns.length m.srows := fun r hr => by
  rcases List.mem_append.mp hr with h | h
  · exact m.rows_w r h
  · obtain ⟨t, _, rfl⟩ := List.mem_map.mp h
    exact unit_len _ _
theorem unit_set {ns : List String} (nd : ns.Nodup) {x : String} (hx : x ∈ ns) : (List.replicate ns.length (dq 0)).set (ns.idxOf x) (dq 1) = dqs (unit ns x) := by
  have e : List.replicate ns.length (dq 0) = ns.map fun _ => dq 0 := (List.map_const' ..).symm
  rw [e, set_map nd]
  simp only [unit, List.map_map]
  refine List.map_congr_left fun y _ => ?_
  simp only [Function.comp_apply]
  split <;> rfl
theorem c_driven_rows (h : m.fit) (q : P (.tup [.lst (m.srows.map dT), .lst (dqs m.goals)])) : sp_driven_rows [m.d] P E := by
  refine ⟨rfl, ?_⟩
  simp only [init_c, init_n, List.replicate]
  have h1 := h.n
  have h2 := h.p
  have h3 := h.dl
  have ht := m.tl
  simp [m_driven_rows]
  refine c_rows_of h.ok ?_
  refine ⟨⟨by omega, by omega⟩, ?_⟩
  refine forD_inv (fun t e => ∃ x3 x4 x5, e = [.im m.d, .ow (.lst ((m.rows ++ m.drows.take t).map dT)), .ow (.lst (dqs (List.replicate m.parts.length 0 ++ (m.drv.map (·.2)).take t))), x3, x4, x5]) ⟨.no, .no, .no, ?_⟩ ?_ ?_
  · rw [List.take_zero, List.take_zero, List.append_nil, List.append_nil]
    simp
    exact .inr rfl
  · rintro t x e hx ⟨x3, x4, x5, rfl⟩ nx hnx
    obtain ⟨u, hu, rfl⟩ := at_map hx
    have mu := List.mem_of_getElem? hu
    have lu : t < m.drv.length := (List.getElem?_eq_some_iff.mp hu).1
    have eA : (m.rows ++ m.drows.take (t + 1)).map dT = (m.rows ++ m.drows.take t).map dT ++ [dT (unit m.ns u.1)] := by
      rw [tk_snoc (x := unit m.ns u.1) (by simp [Mc.drows, hu]), ← List.append_assoc, List.map_append (l₂ := [_])]
      rfl
    have eG : dqs (List.replicate m.parts.length 0 ++ (m.drv.map (·.2)).take (t + 1)) = dqs (List.replicate m.parts.length 0 ++ (m.drv.map (·.2)).take t) ++ [dq u.2] := by
      rw [tk_snoc (x := u.2) (by simp [hu]), ← List.append_assoc]
      exact List.map_append ..
    have lA : ((m.rows ++ m.drows.take t).map dT).length ≤ 24 := by simp [rows_len]; omega
    have lG : (dqs (List.replicate m.parts.length 0 ++ (m.drv.map (·.2)).take t)).length ≤ 24 := by simp; omega
    rw [eA, eG] at hnx
    generalize (m.rows ++ m.drows.take t).map dT = A at *
    generalize dqs (List.replicate m.parts.length 0 ++ (m.drv.map (·.2)).take t) = G at *
    have eu := unit_set h.ok.nd (h.dn u mu)
    simp [dtl]
    refine ⟨⟨by omega, by omega⟩, ?_⟩
    refine c_place h.ok (h.dn u mu) ?_
    have il : m.ns.idxOf u.1 < m.ns.length := List.idxOf_lt_length_of_mem (h.dn u mu)
    refine ⟨m.ns.idxOf u.1, by simp; rw [ht]; exact ixN_nat il, ?_⟩
    rw [ht, show c_NOUGHT_speeds = dq 0 from rfl, show c_ONE_speeds = dq 1 from rfl, eu]
    exact ⟨by omega, by omega, hnx _ ⟨_, _, _, rfl⟩⟩
  · rintro e ⟨x3, x4, x5, rfl⟩
    rw [List.length_map]
    have e1 : m.rows ++ m.drows.take m.drv.length = m.srows := by
      rw [List.take_of_length_le (by simp [Mc.drows])]
      rfl
    have e2 : List.replicate m.parts.length 0 ++ (m.drv.map (·.2)).take m.drv.length = m.goals := by
      rw [List.take_of_length_le (by simp)]
      rfl
    rw [e1, e2]
    simp
    exact q
theorem c_drive_rows (h : m.fit) (q : P (.lst (m.drows.map dT))) : sp_drive_rows [m.d] P E := by
  refine ⟨rfl, ?_⟩
  simp only [init_c, init_n, List.replicate]
  have h1 := h.n
  have h3 := h.dl
  simp [m_drive_rows]
  refine c_names h.ok ?_
  refine ⟨by omega, ?_⟩
  refine compD_E dT (fun t : String × Rat => unit m.ns t.1) (fun t ht Q R z => ?_) (by simpa [Mc.drows] using q)
  unfold cStep
  simp [dtl]
  refine ⟨by omega, ?_⟩
  refine compD_E dq (fun y : String => if y = t.1 then 1 else 0) (fun y hy Q R z => ?_) ?_
  · unfold cStep
    simp
    by_cases c : y = t.1
    · simp [c] at z ⊢
      exact z
    · simp [c] at z ⊢
      exact z
  · simp
    simpa [dT, unit] using z
theorem c_loads_row (h : m.fit) (q : P (dT m.loads)) : sp_loads_row [m.d] P E := by
  refine ⟨rfl, ?_⟩
  simp only [init_c, init_n, List.replicate]
  have h1 := h.n
  have h3 := h.ll
  simp [m_loads_row]
  refine ⟨m.lds.map fun t => ((Sum.inr (PySem.Str.ofString t.1) : Key), dq t.2), by simp [Function.comp_def, DL.prD, kD, dtl], ?_⟩
  obtain ⟨ks, xs, e1, e2, e3⟩ := dMerge_get (ps := m.lds.map fun t => ((Sum.inr (PySem.Str.ofString t.1) : Key), dq t.2)) (ks := []) (xs := []) rfl
  rw [e1]
  refine c_names h.ok ?_
  refine ⟨by simp; omega, ?_⟩
  refine compD_E dq (ldAt m.lds) (fun x hx Q R z => ?_) (by simpa [dT, Mc.loads] using q)
  unfold cStep
  simp
  rw [e3]
  have : (getP (m.lds.map fun t => ((Sum.inr (PySem.Str.ofString t.1) : Key), dq t.2)) (Sum.inr (PySem.Str.ofString x)) none).getD (dq 0) = dq (ldAt m.lds x) := by
    by_cases hx : x ∈ m.lds.map (·.1)
    · obtain ⟨u, hu, e⟩ := List.mem_map.mp hx
      rw [← e, getP_at (g := fun t : String × Rat => t.1) h.ld hu, ldAt_at h.ld hu]
      rfl
    · rw [getP_names (g := fun t : String × Rat => t.1) hx, ldAt_no hx]
      rfl
  rw [vD_nil, show c_NOUGHT_laying = dq 0 from rfl, this]
  exact z
/-! sizes -/
theorem S1.i6 {z : Int} (h : z.natAbs ≤ 140) : S1 6 840 (z : Rat) := ⟨z * 6, by rw [Rat.intCast_mul]; rfl, by omega⟩
theorem S1.g6 {r : List Rat} (h : ∀ q ∈ r, S1 6 840 q) (j : Nat) : S1 6 840 (g r j) := by
  by_cases hj : j < r.length
  · have : g r j = r[j] := by simp [g, List.getD_eq_getElem?_getD, hj]
    rw [this]
    exact h _ (List.getElem_mem hj)
  · rw [g_ge (by omega)]
    exact .zero
theorem srows_S1 (h : m.fit) : ∀ r ∈ m.srows, ∀ q ∈ r, S1 6 840 q := fun r hr q hq => by
  rcases List.mem_append.mp hr with z | z
  · obtain ⟨p, hp, rfl⟩ := List.mem_map.mp z
    obtain ⟨x, _, rfl⟩ := List.mem_map.mp hq
    exact .i6 (h.e p hp x)
  · obtain ⟨t, _, rfl⟩ := List.mem_map.mp z
    obtain ⟨x, _, rfl⟩ := List.mem_map.mp hq
    split
    · exact .i6 (z := 1) (by decide)
    · exact .zero
theorem goals_S1 (h : m.fit) : ∀ q ∈ m.goals, S1 6 840 q := fun q hq => by
  rcases List.mem_append.mp hq with z | z
  · rw [List.eq_of_mem_replicate z]
    exact .zero
  · obtain ⟨t, ht, rfl⟩ := List.mem_map.mp z
    exact h.dv t ht
theorem loads_S1 (h : m.fit) : ∀ q ∈ m.loads, S1 6 840 q := fun q hq => by
  obtain ⟨x, _, rfl⟩ := List.mem_map.mp hq
  by_cases hx : x ∈ m.lds.map (·.1)
  · obtain ⟨u, hu, rfl⟩ := List.mem_map.mp hx
    rw [ldAt_at h.ld hu]
    exact h.lv u hu
  · rw [ldAt_no hx]
    exact .zero
/-- tables of such numbers -/
def En6 (M : List (List Rat)) : Prop := ∀ r ∈ M, ∀ j, S1 6 840 (g r j)
theorem En6.sc {M : List (List Rat)} (h : En6 M) : Whole 840 M := .of (d := 6) (by decide) (by decide) fun r hr j => h r hr j
theorem yb25 {k : Nat} (h : k ≤ 25) : yb 840 k < 2 ^ 420 := Nat.lt_of_le_of_lt (yb_mono (by decide) h) (by decide)
theorem tab6 {n W : Nat} {M : List (List Rat)} (w : ∀ r ∈ M, r.length = W) (nW : n ≤ W) (hW : W ≤ 1000) (hm : M.length ≤ 1000) (hn : n ≤ 25) (e : En6 M) : Tab n W M :=
  ⟨nW, w, hW, hm, 840, e.sc, fun k hk _ => Nat.lt_trans (yb25 (by omega)) (Nat.pow_lt_pow_right (by decide) (by decide))⟩
theorem srows6 (h : m.fit) : En6 m.srows := fun r hr j => .g6 (srows_S1 h r hr) j
end KK

set_option maxRecDepth 100000
set_option maxHeartbeats 1000000
namespace KK
open PySem L2 DL FQ MX
variable {P : Dt → Prop} {E : Xc → Prop} {m : Mc} {k : Nat}
/-- speeds that keep all rows and drives -/
def Sol (m : Mc) (x : Vc) : Prop := ∀ i, i < m.srows.length → dt m.ns.length (g (m.srows.getD i [])) x = g m.goals i
def Fin6 (x : List Rat) : Prop := ∃ d X : Nat, 0 < d ∧ d < 2 ^ 420 ∧ X < 2 ^ 420 ∧ ∀ j, S1 d X (g x j)
abbrev wid (m : Mc) : Nat := m.ns.length
theorem row_gl {r : List Rat} : Sq (dT r) (dqs r) := .inr rfl
theorem Mt_T (M : List (List Rat)) : Mt (.lst (M.map dT)) M := ⟨_, .inl rfl, mt_dT⟩
theorem full6 (h : m.fit) : En6 (aug m.ns.length m.srows (g m.goals)) := fun r hr j => by
  obtain ⟨i, hi, e⟩ := mem_aug.mp hr
  rw [e, g_snoc (srows_w m _ (at_mem hi))]
  split
  · exact srows6 h _ (at_mem hi) j
  · split
    · exact .g6 (goals_S1 h) i
    · exact .zero
theorem full_w (m : Mc) : ∀ r ∈ aug m.ns.length m.srows (g m.goals), r.length = m.ns.length + 1 := aug_len (srows_w m)
theorem full_len (m : Mc) : (aug m.ns.length m.srows (g m.goals)).length = m.srows.length := by simp [aug]
theorem srows_le (h : m.fit) : m.srows.length ≤ 24 := by
  have := srows_len m
  have := h.p
  have := h.dl
  omega
theorem full_tab (h : m.fit) : Tab m.ns.length (m.ns.length + 1) (aug m.ns.length m.srows (g m.goals)) := by
  have := h.n
  have := srows_le h
  exact tab6 (full_w m) (by omega) (by omega) (by rw [full_len]; omega) (by omega) (full6 h)
theorem srow_tab (h : m.fit) : Tab m.ns.length m.ns.length m.srows := by
  have := h.n
  have := srows_le h
  exact tab6 (srows_w m) (Nat.le_refl _) (by omega) (by omega) (by omega) (srows6 h)
theorem trn6 {n : Nat} {M : List (List Rat)} (h : En6 M) : En6 (trn n M) := fun r hr j => by
  obtain ⟨c, hc, rfl⟩ := List.mem_map.mp hr
  rw [g_col]
  by_cases hj : j < M.length
  · exact h _ (at_mem hj) c
  · have : at2 M j c = 0 := by simp [at2, g, List.getD_eq_getElem?_getD, List.getElem?_eq_none (Nat.not_lt.mp hj)]
    rw [this]
    exact .zero
theorem aug6 {n : Nat} {M : List (List Rat)} {gl : List Rat} (h : En6 M) (hg : ∀ j, S1 6 840 (g gl j)) : En6 (aug M.length (trn n M) (g gl)) := fun r hr j => by
  obtain ⟨i, hi, e⟩ := mem_aug.mp hr
  have hi' : i < n := by rw [trn_len] at hi; exact hi
  have wl : ((trn n M).getD i []).length = M.length := by rw [trn_get hi', List.length_map]
  rw [e, g_snoc wl]
  split
  · exact trn6 h _ (at_mem hi) j
  · split
    · exact hg i
    · exact .zero
theorem aug_w {n : Nat} {M : List (List Rat)} {gl : List Rat} : ∀ r ∈ aug M.length (trn n M) (g gl), r.length = M.length + 1 := aug_len fun r hr => by
  obtain ⟨c, _, e⟩ := List.mem_map.mp hr
  rw [← e, List.length_map]
theorem made6 {n : Nat} {M : List (List Rat)} {gl : List Rat} (h : En6 M) (hg : ∀ j, S1 6 840 (g gl j)) (hm : M.length ≤ 24) (hn : n ≤ 900) : Tab M.length (M.length + 1) (aug M.length (trn n M) (g gl)) :=
  tab6 aug_w (by omega) (by omega) (by simp [aug, trn_len]; omega) (by omega) (aug6 h hg)
theorem srow_get {i : Nat} (hi : i < m.srows.length) : (m.srows.map dT)[i]? = some (dT (m.srows.getD i [])) := by simp [List.getD_eq_getElem?_getD, hi]
theorem srow_at {i : Nat} (hi : i < m.srows.length) : m.srows[i]? = some (m.srows.getD i []) := by simp [List.getD_eq_getElem?_getD, hi]
/-- no speeds: why -/
theorem c_refusal (h : m.fit) (q : ∀ r, P r) : sp_refusal [.lst (m.srows.map dT), .lst (dqs m.goals), .int (m.ns.length : Int)] P E := by
  refine ⟨rfl, ?_⟩
  simp only [init_c, init_n, List.replicate]
  have h1 := h.n
  have h2 := srows_le h
  have gl := goals_len m
  have sl := srows_len m
  simp [m_refusal]
  refine ⟨by omega, by rw [rng_len]; omega, ?_⟩
  rw [rng0]
  refine compD_E dR (fun i => m.srows.getD i [] ++ [g m.goals i]) (fun i hi Q R z => ?_) ?_
  · have hi := List.mem_range.mp hi
    unfold cStep
    simp
    refine ⟨_, ⟨_, srow_at hi, rfl⟩, ?_⟩
    refine ⟨dq (g m.goals i), ⟨_, get_g (by omega), rfl⟩, ?_⟩
    have e := srows_w m _ (at_mem hi)
    simp [dT]
    refine ⟨by rw [← List.getD_eq_getElem?_getD, e]; omega, ?_⟩
    simpa [dR] using z
  have ea : (List.range m.srows.length).map (fun i => m.srows.getD i [] ++ [g m.goals i]) = aug m.ns.length m.srows (g m.goals) := rfl
  rw [ea]
  refine ⟨by omega, by omega, ?_⟩
  have eg : Dt.tup (List.replicate m.ns.length c_NOUGHT_speeds ++ [c_ONE_speeds]) = dT (List.replicate m.ns.length 0 ++ [1]) := by
    simp [dT]
    exact ⟨.inr rfl, rfl⟩
  rw [eg]
  have gl1 : (List.replicate m.ns.length (0 : Rat) ++ [1]).length = m.ns.length + 1 := by simp
  have g6 : ∀ j, S1 6 840 (g (List.replicate m.ns.length (0 : Rat) ++ [1]) j) := fun j => .g6 (fun q hq => by
    rcases List.mem_append.mp hq with z | z
    · rw [List.eq_of_mem_replicate z]; exact .zero
    · rw [List.mem_singleton.mp z]; exact .i6 (z := 1) (by decide)) j
  refine c_made_of (M := aug m.ns.length m.srows (g m.goals)) mt_dM row_gl (fun r hr => by rw [full_w m r hr, gl1]; exact Nat.le_refl _) (by rw [full_len]; omega) (made6 (full6 h) g6 (by rw [full_len]; omega) (by omega)) (fun _ _ _ _ _ => q _) fun _ _ _ _ _ => q _
theorem sol_iff (h : m.fit) {T R : List (List Rat)} {L : List Nat} (I : Inv m.ns.length (m.ns.length + 1) m.ns.length (aug m.ns.length m.srows (g m.goals)) T R L) : (∃ x, Sol m x) ↔ ∀ r ∈ R, g r m.ns.length = 0 := by
  constructor
  · rintro ⟨x, hx⟩ r hr
    refine Classical.byContradiction fun z => ?_
    obtain ⟨y, h1, h2⟩ := I.none_ (srows_w m) hr z
    exact h2 (none_not hx h1)
  · intro z
    exact ⟨_, I.point (srows_w m) z⟩
theorem sol_fin (h : m.fit) {T R : List (List Rat)} {L : List Nat} (I : Inv m.ns.length (m.ns.length + 1) m.ns.length (aug m.ns.length m.srows (g m.goals)) T R L) : Fin6 ((List.range m.ns.length).map (pnt T L m.ns.length)) := by
  obtain ⟨D, D0, D1, D2⟩ := way_sc I I.rr1 (full6 h).sc (k := m.ns.length) (by omega) I.not_n
  have h1 := h.n
  have yl : yb 840 L.length < 2 ^ 420 := yb25 (by have := I.len_n; omega)
  refine ⟨D, yb 840 L.length, D0, by omega, yl, fun j => ?_⟩
  by_cases hj : j < m.ns.length
  · rw [show g ((List.range m.ns.length).map (pnt T L m.ns.length)) j = pnt T L m.ns.length j by simp [g, List.getD_eq_getElem?_getD, hj]]
    by_cases hl : j ∈ L
    · obtain ⟨q, e1, e2⟩ := D2 j (by omega)
      have hw := way_lead I.rr1 (idx_get hl) (c := m.ns.length) (by omega)
      refine ⟨-q, ?_, by omega⟩
      have : pnt T L m.ns.length j = - way T L m.ns.length j := by
        rw [hw]
        simp [pnt, hl]
      rw [this, Rat.intCast_neg, ← e1]
      try grind
    · rw [show pnt T L m.ns.length j = 0 by simp [pnt, hl]]
      exact .zero
  · rw [g_ge (by simp; omega)]
    exact .zero
theorem c_speeds (h : m.fit) (h0 : (¬ ∃ x, Sol m x) → ∀ r, P (.tup [sD "none", r]))
    (h1 : ∀ x : List Rat, x.length = m.ns.length → Sol m (g x) → rk m.ns.length m.srows = m.ns.length → Fin6 x → P (.tup [sD "one", dT x]))
    (h2 : ∀ x : List Rat, x.length = m.ns.length → Sol m (g x) → rk m.ns.length m.srows < m.ns.length → Fin6 x → ∀ ws, P (.tup [sD "many", dT x, ws])) : sp_speeds [m.d] P E := by
  refine ⟨rfl, ?_⟩
  simp only [init_c, init_n, List.replicate]
  have ht := m.tl
  simp [m_speeds]
  refine c_driven_rows h ?_
  simp
  rw [ht]
  have gl := goals_len m
  have sl := srows_len m
  have hw := h.n
  have fin : ∀ T R L, Inv m.ns.length (m.ns.length + 1) m.ns.length (aug m.ns.length m.srows (g m.goals)) T R L → (∀ r ∈ R, g r m.ns.length = 0) → Sol m (g ((List.range m.ns.length).map (pnt T L m.ns.length))) := fun T R L I z i hi => by
    rw [← I.point (srows_w m) z i hi]
    unfold dt
    refine sm_congr fun j hj => ?_
    rw [show g ((List.range m.ns.length).map (pnt T L m.ns.length)) j = pnt T L m.ns.length j by simp [g, List.getD_eq_getElem?_getD, hj]]
  refine c_point (M := m.srows) (b := m.goals) (Mt_T _) (.inl rfl) (by omega) (full_tab h) (fun T R L I z => ?_) fun T R L I z => ?_
  · have hn : ¬ ∃ x, Sol m x := fun w => by
      obtain ⟨r, hr, q⟩ := z
      exact q ((sol_iff h I).mp w r hr)
    simp
    exact c_refusal h fun r => h0 hn r
  · have e : Dt.tup ((List.range m.ns.length).map fun j => dq (pnt T L m.ns.length j)) = dT ((List.range m.ns.length).map (pnt T L m.ns.length)) := by simp [dT, Function.comp_def]
    rw [e]
    have sx := fin T R L I z
    have fx := sol_fin h I
    have lx : ((List.range m.ns.length).map (pnt T L m.ns.length)).length = m.ns.length := by simp
    generalize (List.range m.ns.length).map (pnt T L m.ns.length) = x at *
    have ei : isNonD (dT x) = false := rfl
    simp [ei]
    refine c_ways (Mt_T _) (srow_tab h) fun T' R' L' J => ?_
    have fl := frees_len J.rr
    have rk_ := rk_inv (srow_tab h).w J
    have wl : (waysL T' L' m.ns.length).length = m.ns.length - rk m.ns.length m.srows := by simp [waysL]; omega
    have hle := rk_wide (srow_tab h).w
    have pw : ∀ ws : List (List Rat), pln 3 (.lst (ws.map dT)) := fun ws y hy => by
      obtain ⟨r, _, rfl⟩ := List.mem_map.mp hy
      intro q hq
      obtain ⟨v, _, rfl⟩ := List.mem_map.mp hq
      exact pln_dq
    refine ⟨⟨(pw _).ok, (pw []).ok⟩, ?_⟩
    by_cases c : waysL T' L' m.ns.length = []
    · rw [c]
      have : eqv (.lst ([] : List Dt)) (.lst []) = true := eqv_self (pw [])
      simp [this]
      rw [c] at wl
      simp at wl
      exact h1 x lx sx (by omega) fx
    · have n1 : eqv (.lst ((waysL T' L' m.ns.length).map dT)) (.lst []) = false := eqv_false (pw _) (pw []) (by simp [c])
      rw [n1]
      simp
      have := List.length_pos_iff.mpr c
      exact h2 x lx sx (by omega) fx _
end KK

set_option maxRecDepth 100000
set_option maxHeartbeats 1000000
namespace KK
open PySem L2 DL FQ MX
variable {P : Dt → Prop} {E : Xc → Prop} {m : Mc} {k : Nat}
theorem eqv_sF {a b : String} (h : a ≠ b) : eqv (sD a) (sD b) = false := by rw [eqv_ss]; exact decide_eq_false h
theorem c_moving (h : m.fit) (h0 : (¬ ∃ x, Sol m x) → E (mst "clash")) (h1 : ∀ x : List Rat, x.length = m.ns.length → Sol m (g x) → rk m.ns.length m.srows = m.ns.length → Fin6 x → P (dT x)) (h2 : (∃ x, Sol m x) → rk m.ns.length m.srows < m.ns.length → E (mst "loose")) : sp_moving [m.d] P E := by
  refine ⟨rfl, ?_⟩
  simp only [init_c, init_n, List.replicate]
  simp [m_moving]
  refine c_speeds h (fun z r => ?_) (fun x a b c d => ?_) fun x a b c d ws => ?_
  · simp
    exact ⟨by decide, h0 z⟩
  · simp
    exact h1 x a b c d
  · simp
    exact ⟨by decide, h2 ⟨_, b⟩ c⟩
theorem srows_eq (m : Mc) : (m.rows.map dT) ++ (m.drows.map dT) = m.srows.map dT := by simp [Mc.srows]
noncomputable def sureB (m : Mc) : Bool := decide (rk m.ns.length m.srows = m.srows.length)
theorem c_is_sure (h : m.fit) (q : P (.bl (sureB m))) : sp_is_sure [m.d] P E := by
  refine ⟨rfl, ?_⟩
  simp only [init_c, init_n, List.replicate]
  have h1 := h.n
  have h2 := h.p
  have h3 := h.dl
  have ht := m.tl
  simp [m_is_sure]
  refine c_rows_of h.ok ?_
  refine c_drive_rows h ?_
  simp
  refine ⟨by simp [rows_len, Mc.drows]; omega, ?_⟩
  rw [ht, srows_eq]
  refine c_rank_of (Mt_T m.srows) (srow_tab h) fun T R L I => ?_
  rw [rk_inv (srow_tab h).w I]
  simp
  have e : decide (((rk m.ns.length m.srows : Nat) : Int) = (m.rows.length : Int) + (m.drows.length : Int)) = sureB m := by
    have : m.srows.length = m.rows.length + m.drows.length := by simp [Mc.srows]
    unfold sureB
    rw [decide_eq_decide, this]
    omega
  rw [e]
  exact q
theorem full_dep {n : Nat} {A : List (List Rat)} (w : Wd n A) (h : rk n A = n) (r : List Rat) : Dep n A r := fun x hx => by
  obtain ⟨T, R, L, I, e⟩ := rk_has w
  have hL : L = List.range n := sorted_eq I.sorted (range_sorted n) (fun c hc => List.mem_range.mpr (I.lt c hc)) (by rw [List.length_range]; omega)
  have z := nul_zero I.rr ((I.nul0 x).mpr hx) fun j hj hn => absurd (by rw [hL]; exact List.mem_range.mpr hj) hn
  exact sm_zero fun j hj => by rw [z j hj]; grind
/-- shares that hold the loads -/
structure Shr (m : Mc) (s : List Rat) : Prop where
  len : s.length = m.srows.length
  z : ∀ c, c < m.ns.length → dt m.srows.length (fun j => at2 m.srows j c) (g s) = - g m.loads c
  f : Fin6 s
theorem loads_len (m : Mc) : m.loads.length = m.ns.length := by simp [Mc.loads]
theorem S1.neg {d X : Nat} {a : Rat} (h : S1 d X a) : S1 d X (-a) := by
  obtain ⟨z, e, b⟩ := h
  exact ⟨-z, by rw [Rat.intCast_neg, ← e]; grind, by omega⟩
theorem g_map {f : Rat → Rat} (hf : f 0 = 0) (r : List Rat) (j : Nat) : g (r.map f) j = f (g r j) := by
  by_cases h : j < r.length
  · simp [g, List.getD_eq_getElem?_getD, h]
  · rw [g_ge (by simp; omega), g_ge (by omega), hf]
/-- made_of over the rows, when the speeds are one -/
theorem c_shares (h : m.fit) (hr : rk m.ns.length m.srows = m.ns.length) (q : ∀ s, Shr m s → P (dT s)) : sp_made_of [.lst (m.srows.map dT), dT (m.loads.map fun v => -v)] P E := by
  have h1 := h.n
  have h2 := srows_le h
  have gl : (m.loads.map fun v => -v).length = m.ns.length := by rw [List.length_map, loads_len]
  have g6 : ∀ j, S1 6 840 (g (m.loads.map fun v => -v) j) := fun j => by
    rw [g_map (by decide)]
    exact (S1.g6 (loads_S1 h) j).neg
  have key := c_made_of (P := P) (E := E) (Mt_T m.srows) (row_gl (r := m.loads.map fun v => -v)) (fun r hr => by rw [srows_w m r hr, gl]; exact Nat.le_refl _) (by omega) (made6 (n := (m.loads.map fun v => -v).length) (srows6 h) g6 h2 (by omega))
  refine key (fun T R L I z => ?_) fun T R L I z => ?_
  · exfalso
    have := made_no (n := m.ns.length) (by rw [gl] at I; exact I) z
    exact this (full_dep (srows_w m) hr _)
  · have e : Dt.tup ((List.range m.srows.length).map fun j => dq (pnt T L m.srows.length j)) = dT ((List.range m.srows.length).map (pnt T L m.srows.length)) := by simp [dT, Function.comp_def]
    rw [e]
    rw [gl] at I
    have gx : ∀ j, j < m.srows.length → g ((List.range m.srows.length).map (pnt T L m.srows.length)) j = pnt T L m.srows.length j := fun j hj => by simp [g, List.getD_eq_getElem?_getD, hj]
    refine q _ ⟨by simp, fun c hc => ?_, ?_⟩
    · have := made_eq I z c hc
      rw [g_map (by decide)] at this
      rw [← this]
      unfold dt
      exact sm_congr fun j hj => by rw [gx j hj]
    · obtain ⟨D, D0, D1, D2⟩ := way_sc I I.rr1 (aug6 (n := m.ns.length) (srows6 h) g6).sc (k := m.srows.length) (by omega) I.not_n
      have yl : yb 840 L.length < 2 ^ 420 := yb25 (by have := I.len_n; omega)
      refine ⟨D, yb 840 L.length, D0, by omega, yl, fun j => ?_⟩
      by_cases hj : j < m.srows.length
      · rw [gx j hj]
        by_cases hl : j ∈ L
        · obtain ⟨q, e1, e2⟩ := D2 j (by omega)
          have hw := way_lead I.rr1 (idx_get hl) (c := m.srows.length) (by omega)
          refine ⟨-q, ?_, by omega⟩
          have : pnt T L m.srows.length j = - way T L m.srows.length j := by
            rw [hw]
            simp [pnt, hl]
          rw [this, Rat.intCast_neg, ← e1]
          try grind
        · rw [show pnt T L m.srows.length j = 0 by simp [pnt, hl]]
          exact .zero
      · rw [g_ge (by simp; omega)]
        exact .zero
theorem c_pushes (h : m.fit) (h0 : (¬ ∃ x, Sol m x) → E (mst "clash")) (h2 : (∃ x, Sol m x) → rk m.ns.length m.srows < m.ns.length → E (mst "loose")) (h3 : rk m.ns.length m.srows = m.ns.length → sureB m = false → E (mst "spare"))
    (h1 : rk m.ns.length m.srows = m.ns.length → sureB m = true → ∀ s, Shr m s → P (.tup [dT (s.take m.parts.length), dT (s.drop m.parts.length)])) : sp_pushes [m.d] P E := by
  refine ⟨rfl, ?_⟩
  simp only [init_c, init_n, List.replicate]
  have a1 := h.n
  have a2 := h.p
  have a3 := h.dl
  have sl := srows_len m
  simp [m_pushes]
  refine c_moving h h0 (fun x b1 b2 b3 b4 => ?_) h2
  refine c_is_sure h ?_
  by_cases hs : sureB m = true
  · simp [hs]
    refine c_rows_of h.ok ?_
    refine c_drive_rows h ?_
    simp
    refine ⟨by simp [rows_len, Mc.drows]; omega, ?_⟩
    rw [srows_eq]
    refine c_loads_row h ?_
    have ll := loads_len m
    refine row_gl.seq ⟨by simp; omega, ?_⟩
    refine compD_E (e := dq) dq (fun v => -v) (fun v hv Q R z => ?_) ?_
    · unfold cStep
      simp
      exact c_negative z
    simp [-List.map_map]
    refine c_shares h b3 fun s hsr => ?_
    have l := hsr.len
    have e1 : cut (dqs s) none (some (m.parts.length : Int)) = dqs (s.take m.parts.length) := by rw [cut_take (by simp; omega)]; exact (List.map_take ..).symm
    have e2 : cut (dqs s) (some (m.parts.length : Int)) none = dqs (s.drop m.parts.length) := by rw [cut_drop (by simp; omega)]; exact (List.map_drop ..).symm
    have := h1 b3 hs s hsr
    unfold dT at this ⊢
    simp only [slD_t, tupD_r2, e1, e2]
    exact this
  · simp [hs]
    exact ⟨by decide, h3 b3 (by simpa using hs)⟩
end KK

set_option maxRecDepth 100000
set_option maxHeartbeats 1000000
namespace KK
open PySem L2 DL FQ MX
variable {P : Dt → Prop} {E : Xc → Prop} {m : Mc} {k : Nat} {x s : List Rat}
theorem row_ext {a b : List Rat} {n : Nat} (ha : a.length = n) (hb : b.length = n) (h : ∀ c, c < n → g a c = g b c) : a = b := by
  refine List.ext_getElem (by omega) fun i h1 h2 => ?_
  have := h i (by omega)
  simpa [g, List.getD_eq_getElem?_getD, h1, h2] using this
/-- rows that are as many as their rank: no sum of them is nought -/
theorem ind_of_rk {n : Nat} {A : List (List Rat)} (w : Wd n A) (h : rk n A = A.length) {d : Vc} (z : ∀ c, c < n → dt A.length (fun j => at2 A j c) d = 0) : ∀ j, j < A.length → d j = 0 := fun k hk => Classical.byContradiction fun hd => by
  have dep : Dep n (A.eraseIdx k) (A.getD k []) := fun y hy => by
    have e : (sm A.length fun j => d j * dt n (g (A.getD j [])) y) = 0 := by
      have e1 : (sm A.length fun j => d j * dt n (g (A.getD j [])) y) = sm A.length fun j => sm n fun c => d j * at2 A j c * y c := sm_congr fun j _ => by
        unfold dt
        rw [← sm_mul]
        exact sm_congr fun c _ => by unfold at2; grind
      rw [e1, sm_swap]
      refine sm_zero fun c hc => ?_
      have := z c hc
      have e2 : (sm A.length fun j => d j * at2 A j c * y c) = y c * dt A.length (fun j => at2 A j c) d := by
        unfold dt
        rw [← sm_mul]
        exact sm_congr fun j _ => by grind
      rw [e2, this]
      grind
    rw [sm_one (a := k) hk fun j hj hne => ?_] at e
    · rcases Rat.mul_eq_zero.mp e with q | q
      · exact absurd q hd
      · exact q
    · have : dt n (g (A.getD j [])) y = 0 := hy _ (List.mem_eraseIdx_iff_getElem?.mpr ⟨j, hne, by simp [List.getD_eq_getElem?_getD, hj]⟩)
      rw [this]
      grind
  have e := (rk_erase w hk).mpr dep
  have we : Wd n (A.eraseIdx k) := fun a ha => w a (List.mem_of_mem_eraseIdx ha)
  have := rk_len we
  rw [List.length_eraseIdx_of_lt hk] at this
  omega
/-- the speeds are one -/
structure One (m : Mc) (x : List Rat) : Prop where
  h : m.fit
  len : x.length = m.ns.length
  sol : Sol m (g x)
  r : rk m.ns.length m.srows = m.ns.length
  f : Fin6 x
theorem One.uniq (o : One m x) {y : List Rat} (l : y.length = m.ns.length) (s : Sol m (g y)) : y = x := by
  refine row_ext l o.len fun c hc => ?_
  have hd := full_dep (srows_w m) o.r ((List.range m.ns.length).map fun j => if j = c then 1 else 0) (fun j => 1 * g y j + (-1) * g x j) fun r hr => by
    obtain ⟨i, hi, rfl⟩ := mem_at hr
    rw [dt_linR, s i hi, o.sol i hi]
    grind
  unfold dt at hd
  rw [sm_one (a := c) hc fun j hj hne => by simp [g, List.getD_eq_getElem?_getD, hj, hne]] at hd
  simp [g, List.getD_eq_getElem?_getD, hc] at hd
  have : g y c + -1 * g x c = 0 := by simpa [g, List.getD_eq_getElem?_getD] using hd
  grind
theorem One.mov (o : One m x) (q : P (dT x)) : sp_moving [m.d] P E :=
  c_moving o.h (fun z => absurd ⟨_, o.sol⟩ z) (fun y a b c d => by rw [o.uniq a b]; exact q) fun _ z => by have := o.r; omega
structure Sur (m : Mc) (x s : List Rat) : Prop where
  o : One m x
  b : sureB m = true
  s : Shr m s
theorem Sur.sq (S : Sur m x s) : m.srows.length = m.ns.length := by
  have := of_decide_eq_true S.b
  rw [← this, S.o.r]
theorem Sur.uniq (S : Sur m x s) {t : List Rat} (h : Shr m t) : t = s := by
  refine row_ext h.len S.s.len fun j hj => ?_
  have := ind_of_rk (srows_w m) (of_decide_eq_true S.b) (d := fun j => 1 * g t j + (-1) * g s j) (fun c hc => by
    rw [dt_linR, h.z c hc, S.s.z c hc]
    grind) j hj
  have : 1 * g t j + (-1) * g s j = 0 := this
  grind
theorem Sur.pus (S : Sur m x s) (q : P (.tup [dT (s.take m.parts.length), dT (s.drop m.parts.length)])) : sp_pushes [m.d] P E :=
  c_pushes S.o.h (fun z => absurd ⟨_, S.o.sol⟩ z) (fun _ z => by have := S.o.r; omega) (fun _ z => by rw [S.b] at z; cases z) fun _ _ t ht => by rw [S.uniq ht]; exact q
end KK

set_option maxRecDepth 100000
set_option maxHeartbeats 1000000
namespace KK
open PySem L2 DL FQ MX
variable {P : Dt → Prop} {E : Xc → Prop} {m : Mc} {k : Nat} {x s : List Rat}
/-! what flows -/
theorem Fin6.sm {x : List Rat} (h : Fin6 x) (j : Nat) : Sm (g x j) := by
  obtain ⟨d, X, h0, h1, h2, h3⟩ := h
  exact (h3 j).sm h0 (Nat.lt_trans h1 (Nat.pow_lt_pow_right (by decide) (by decide))) (Nat.lt_trans h2 (Nat.pow_lt_pow_right (by decide) (by decide)))
theorem p852 {a b : Nat} (ha : a < 2 ^ 420) (hb : b < 2 ^ 420) : a * 840 * b < 2 ^ 850 := by
  have h1 : a * b < 2 ^ 840 := by
    have := Nat.mul_lt_mul'' ha hb
    rwa [← Nat.pow_add] at this
  have h2 : a * 840 * b = (a * b) * 840 := by rw [Nat.mul_right_comm]
  have h3 : (a * b) * 840 < 2 ^ 840 * 2 ^ 10 := Nat.mul_lt_mul'' h1 (by decide)
  rw [← Nat.pow_add] at h3
  rw [h2]
  exact h3
/-- shares, numbers of rows and speeds: one measure for all their products -/
theorem tri_S1 {s x : List Rat} (hs : Fin6 s) (hx : Fin6 x) : ∃ d X : Nat, 0 < d ∧ d < 2 ^ 850 ∧ X < 2 ^ 850 ∧ ∀ i j : Nat, ∀ q : Rat, S1 6 840 q → S1 d X (g s i * q * g x j) := by
  obtain ⟨d, X, h0, h1, h2, h3⟩ := hs
  obtain ⟨e, Y, e0, e1, e2, e3⟩ := hx
  refine ⟨d * 6 * e, X * 840 * Y, Nat.mul_pos (Nat.mul_pos h0 (by decide)) e0, ?_, p852 h2 e2, fun i j q hq => ((h3 i).mul hq).mul (e3 j)⟩
  exact Nat.lt_of_le_of_lt (Nat.mul_le_mul_right _ (Nat.mul_le_mul_left _ (by decide))) (p852 h1 e1)
theorem S1.sm8 {d X : Nat} {q : Rat} (h : S1 d X q) (h0 : 0 < d) (h1 : d < 2 ^ 850) (h2 : X < 2 ^ 850) : Sm q :=
  h.sm h0 (Nat.lt_trans h1 (Nat.pow_lt_pow_right (by decide) (by decide))) (Nat.lt_trans h2 (Nat.pow_lt_pow_right (by decide) (by decide)))
theorem prod_sm {s : List Rat} (hs : Fin6 s) (i : Nat) {q : Rat} (hq : S1 6 840 q) : Sm (g s i * q) := by
  obtain ⟨d, X, h0, h1, h2, h3⟩ := hs
  have := (h3 i).mul hq
  refine this.sm (Nat.mul_pos h0 (by decide)) ?_ ?_
  · have : d * 6 < 2 ^ 420 * 2 ^ 10 := Nat.mul_lt_mul'' h1 (by decide)
    rw [← Nat.pow_add] at this
    exact Nat.lt_trans this (Nat.pow_lt_pow_right (by decide) (by decide))
  · have : X * 840 < 2 ^ 420 * 2 ^ 10 := Nat.mul_lt_mul'' h2 (by decide)
    rw [← Nat.pow_add] at this
    exact Nat.lt_trans this (Nat.pow_lt_pow_right (by decide) (by decide))
/-- what a part passes on -/
def pfl (m : Mc) (x s : List Rat) (k : Nat) : List Rat := (List.range m.ns.length).map fun j => g s k * at2 m.srows k j * g x j
def lfl (m : Mc) (x : List Rat) : List Rat := (List.range m.ns.length).map fun j => g m.loads j * g x j
def dfl (m : Mc) (x s : List Rat) : List Rat := (List.range m.drv.length).map fun k => g s (m.parts.length + k) * g x (m.ns.idxOf (m.drv.getD k ("", 0)).1)
theorem at2_rows {k j : Nat} (hk : k < m.parts.length) : at2 m.rows k j = at2 m.srows k j := by
  unfold at2 Mc.srows
  have : k < m.rows.length := by rw [rows_len]; exact hk
  simp [List.getD_eq_getElem?_getD, List.getElem?_append_left this]
theorem g_take {s : List Rat} {p k : Nat} (h : k < p) : g (s.take p) k = g s k := by simp [g, List.getD_eq_getElem?_getD, List.getElem?_take, h]
theorem g_drop {s : List Rat} {p k : Nat} : g (s.drop p) k = g s (p + k) := by simp [g, List.getD_eq_getElem?_getD]
theorem row_at (hk : k < m.parts.length) : m.rows[k]? = some (m.rows.getD k []) := by
  have : k < m.rows.length := by rw [rows_len]; exact hk
  simp [List.getD_eq_getElem?_getD, this]
theorem at_S1 (h : m.fit) (hk : k < m.srows.length) (j : Nat) : S1 6 840 (at2 m.srows k j) := srows6 h _ (at_mem hk) j
theorem c_part_flows (S : Sur m x s) (q : P (.lst ((List.range m.parts.length).map fun k => dT (pfl m x s k)))) : sp_part_flows [m.d] P E := by
  refine ⟨rfl, ?_⟩
  simp only [init_c, init_n, List.replicate]
  have h := S.o.h
  have a1 := h.n
  have a2 := h.p
  have rl := rows_len m
  have sl := srows_len m
  have xl := S.o.len
  have ssl := S.s.len
  simp [m_part_flows]
  refine S.o.mov ?_
  refine c_rows_of h.ok ?_
  refine S.pus ?_
  simp
  refine ⟨by omega, ?_⟩
  rw [rng0]
  refine forD_inv (fun t e => ∃ x5 x6, e = [.im m.d, .im (dT x), .im (.lst (m.rows.map dT)), .im (dT (s.take m.parts.length)), .ow (.lst ((List.range t).map fun k => dT (pfl m x s k))), x5, x6]) ⟨_, _, rfl⟩ ?_ ?_
  · rintro t d e hx ⟨x5, x6, rfl⟩ nx hnx
    obtain ⟨ht, rfl⟩ := get_rng (by rw [rng0]; exact hx)
    have eA : ((List.range (t + 1)).map fun k => dT (pfl m x s k)) = ((List.range t).map fun k => dT (pfl m x s k)) ++ [dT (pfl m x s t)] := by rw [List.range_succ, List.map_append]; rfl
    have lA : ((List.range t).map fun k => dT (pfl m x s k)).length = t := by simp
    rw [eA] at hnx
    generalize ((List.range t).map fun k => dT (pfl m x s k)) = A at *
    simp
    refine ⟨by omega, ?_⟩
    refine row_gl.len ?_
    simp
    refine ⟨by omega, by rw [rng_len]; omega, ?_⟩
    rw [rng0, xl]
    refine compD_E dq (fun j => g s t * at2 m.srows t j * g x j) (fun j hj Q R z => ?_) ?_
    · have hj := List.mem_range.mp hj
      unfold cStep
      simp
      refine row_gl.ixg (by simp; omega) ?_
      refine ⟨_, ⟨_, row_at (by omega), rfl⟩, ?_⟩
      refine row_gl.ixg (by rw [m.rows_w _ (at_mem ht)]; exact hj) ?_
      have e1 : g (m.rows.getD t []) j = at2 m.srows t j := at2_rows (by omega)
      rw [e1, g_take (by omega)]
      have s1 := at_S1 h (k := t) (by omega) j
      refine z_times (S.s.f.sm t) (s1.sm (by decide) (by decide) (by decide)) ?_
      refine row_gl.ixg (by omega) ?_
      exact z_times (prod_sm S.s.f t s1) (S.o.f.sm j) z
    · simp [-List.map_map]
      exact hnx _ ⟨_, _, rfl⟩
  · rintro e ⟨x5, x6, rfl⟩
    rw [List.length_map, List.length_range, rl]
    simp
    exact q
theorem c_load_flows (o : One m x) (q : P (dT (lfl m x))) : sp_load_flows [m.d] P E := by
  refine ⟨rfl, ?_⟩
  simp only [init_c, init_n, List.replicate]
  have h := o.h
  have a1 := h.n
  have xl := o.len
  have ll := loads_len m
  simp [m_load_flows]
  refine o.mov ?_
  refine c_loads_row h ?_
  refine row_gl.len ?_
  simp
  refine ⟨by omega, by rw [rng_len]; omega, ?_⟩
  rw [rng0, xl]
  refine compD_E dq (fun j => g m.loads j * g x j) (fun j hj Q R z => ?_) ?_
  · have hj := List.mem_range.mp hj
    unfold cStep
    simp
    refine row_gl.ixg (by omega) ?_
    refine row_gl.ixg (by omega) ?_
    exact z_times ((S1.g6 (loads_S1 h) j).sm (by decide) (by decide) (by decide)) (o.f.sm j) z
  · simp [-List.map_map]
    exact q
theorem drv_at {k : Nat} (hk : k < m.drv.length) : m.drv[k]? = some (m.drv.getD k ("", 0)) := by simp [List.getD_eq_getElem?_getD, hk]
theorem c_drive_flows (S : Sur m x s) (q : P (dT (dfl m x s))) : sp_drive_flows [m.d] P E := by
  refine ⟨rfl, ?_⟩
  simp only [init_c, init_n, List.replicate]
  have h := S.o.h
  have a1 := h.n
  have a2 := h.dl
  have sl := srows_len m
  have xl := S.o.len
  have ssl := S.s.len
  have dl : (s.drop m.parts.length).length = m.drv.length := by rw [List.length_drop]; omega
  simp [m_drive_flows]
  refine S.o.mov ?_
  refine S.pus ?_
  simp
  refine c_names h.ok ?_
  refine row_gl.len ?_
  simp
  refine ⟨by omega, by rw [rng_len]; omega, ?_⟩
  rw [rng0]
  have e : s.length - m.parts.length = m.drv.length := by omega
  rw [e]
  refine compD_E dq (fun k => g s (m.parts.length + k) * g x (m.ns.idxOf (m.drv.getD k ("", 0)).1)) (fun k hk Q R z => ?_) ?_
  · have hk := List.mem_range.mp hk
    have mk : m.drv.getD k ("", 0) ∈ m.drv := List.mem_of_getElem? (drv_at hk)
    have hx := h.dn _ mk
    have il : m.ns.idxOf (m.drv.getD k ("", 0)).1 < m.ns.length := List.idxOf_lt_length_of_mem hx
    unfold cStep
    simp [-List.getD_eq_getElem?_getD]
    refine row_gl.ixg (by omega) ?_
    rw [g_drop]
    refine ⟨_, ⟨_, _, drv_at hk, rfl⟩, ?_⟩
    simp [dtl, -List.getD_eq_getElem?_getD]
    refine idx_it eqs_s hx ?_
    refine row_gl.ixg (by omega) ?_
    exact z_times (S.s.f.sm _) (S.o.f.sm _) z
  · simp [-List.map_map]
    exact q
/-- the sum of what is above 0 -/
def posl (r : List Rat) : List Rat := r.filter fun q => decide (0 < q)
theorem up870 {a : Nat} (h : a < 2 ^ 850) : a < 2 ^ 870 := Nat.lt_trans h (Nat.pow_lt_pow_right (by decide) (by decide))
/-- lists of numbers of one measure -/
def Mea (r : List Rat) : Prop := ∃ d X : Nat, 0 < d ∧ d < 2 ^ 870 ∧ X < 2 ^ 870 ∧ ∀ q ∈ r, S1 d X q
theorem Mea.sub {r t : List Rat} (h : Mea r) (s : ∀ q ∈ t, q ∈ r) : Mea t := by
  obtain ⟨d, X, h0, h1, h2, h3⟩ := h
  exact ⟨d, X, h0, h1, h2, fun q hq => h3 q (s q hq)⟩
theorem Mea.sums {r : List Rat} (h : Mea r) (hl : r.length ≤ 1000) : Sums r := by
  obtain ⟨d, X, h0, h1, h2, h3⟩ := h
  refine Sums.of h0 (Nat.lt_trans h1 (Nat.pow_lt_pow_right (by decide) (by decide))) (Nat.lt_trans h2 (Nat.pow_lt_pow_right (by decide) (by decide))) ?_ h3
  have : r.length * X < 2 ^ 10 * 2 ^ 870 := Nat.mul_lt_mul'' (Nat.lt_of_le_of_lt hl (by decide)) h2
  rw [← Nat.pow_add] at this
  exact Nat.lt_trans this (Nat.pow_lt_pow_right (by decide) (by decide))
theorem pfl_mea (S : Sur m x s) (hk : k < m.srows.length) : Mea (pfl m x s k) := by
  obtain ⟨d, X, h0, h1, h2, h3⟩ := tri_S1 S.s.f S.o.f
  refine ⟨d, X, h0, up870 h1, up870 h2, fun q hq => ?_⟩
  obtain ⟨j, hj, rfl⟩ := List.mem_map.mp hq
  exact h3 k j _ (at_S1 S.o.h hk j)
theorem c_passed (S : Sur m x s) (q : P (.lst ((List.range m.parts.length).map fun k => dq (tot (posl (pfl m x s k)))))) : sp_passed [m.d] P E := by
  refine ⟨rfl, ?_⟩
  simp only [init_c, init_n, List.replicate]
  have h := S.o.h
  have a1 := h.n
  have a2 := h.p
  have sl := srows_len m
  simp [m_passed]
  refine c_part_flows S ?_
  simp
  refine ⟨by omega, ?_⟩
  refine compD_E (e := fun k => dT (pfl m x s k)) dq (fun k => tot (posl (pfl m x s k))) (fun k hk Q R z => ?_) ?_
  · have hk := List.mem_range.mp hk
    have pl : (pfl m x s k).length = m.ns.length := by simp [pfl]
    unfold cStep
    simp
    refine row_gl.seq ⟨by simp; omega, ?_⟩
    refine compD_FE (e := dq) dq id (fun q => decide (0 < q)) (fun v hv Q R w => ?_) ?_
    · unfold cStep
      simp [dq]
      by_cases c : 0 < v
      · rw [if_pos (by simp [c])] at w
        rw [if_pos c]
        exact w
      · rw [if_neg (by simp [c])] at w
        rw [if_neg c]
        exact w
    · rw [List.map_id]
      have lp : (posl (pfl m x s k)).length ≤ (pfl m x s k).length := List.length_filter_le _ _
      have ef : (pfl m x s k).filter (fun q => decide (0 < q)) = posl (pfl m x s k) := rfl
      rw [ef]
      exact lc_total (qs := posl (pfl m x s k)) (.inl rfl) (((pfl_mea S (k := k) (by omega)).sub fun q hq => (List.mem_filter.mp (by exact hq)).1).sums (by omega)) z
  · simpa [Function.comp_def] using q
/-- what drives and loads give -/
theorem given_mea (S : Sur m x s) : Mea (dfl m x s ++ lfl m x) := by
  obtain ⟨d, X, h0, h1, h2, h3⟩ := id S.s.f
  obtain ⟨e, Y, e0, e1, e2, e3⟩ := id S.o.f
  have b1 : d * 840 * e < 2 ^ 850 := p852 h1 e1
  have b2 : X * 840 * e < 2 ^ 850 := p852 h2 e1
  have b3 : X * 840 * Y < 2 ^ 850 := p852 h2 e2
  have b4 : Y * 840 * d < 2 ^ 850 := p852 e2 h1
  have b5 : 2 ^ 850 + 2 ^ 850 < 2 ^ 870 := by
    have : 2 ^ 850 * 2 < 2 ^ 850 * 2 ^ 20 := Nat.mul_lt_mul_of_pos_left (by decide) (Nat.two_pow_pos _)
    rw [← Nat.pow_add] at this
    omega
  have b6 : d * 6 * e ≤ d * 840 * e := Nat.mul_le_mul_right _ (Nat.mul_le_mul_left _ (by decide))
  refine ⟨d * 6 * e, X * 840 * Y + Y * 840 * d, Nat.mul_pos (Nat.mul_pos h0 (by decide)) e0, by omega, by omega, fun q hq => ?_⟩
  rcases List.mem_append.mp hq with z | z
  · obtain ⟨k, _, rfl⟩ := List.mem_map.mp z
    have t := ((h3 (m.parts.length + k)).mul (S1.i6 (z := 1) (by decide))).mul (e3 (m.ns.idxOf (m.drv.getD k ("", 0)).1))
    have : g s (m.parts.length + k) * ((1 : Int) : Rat) * g x (m.ns.idxOf (m.drv.getD k ("", 0)).1) = g s (m.parts.length + k) * g x (m.ns.idxOf (m.drv.getD k ("", 0)).1) := by
      rw [show ((1 : Int) : Rat) = 1 from rfl]
      grind
    rw [this] at t
    exact t.up (by omega)
  · obtain ⟨j, _, rfl⟩ := List.mem_map.mp z
    have t := ((S1.g6 (loads_S1 S.o.h) j).mul (e3 j)).scale (e := d)
    rw [show 6 * e * d = d * 6 * e by rw [Nat.mul_comm, ← Nat.mul_assoc], show 840 * Y * d = Y * 840 * d by rw [Nat.mul_comm 840 Y]] at t
    exact t.up (by omega)
theorem c_put_in (S : Sur m x s) (q : P (dq (tot (posl (dfl m x s ++ lfl m x))))) : sp_put_in [m.d] P E := by
  refine ⟨rfl, ?_⟩
  simp only [init_c, init_n, List.replicate]
  have h := S.o.h
  have a1 := h.n
  have a2 := h.dl
  have l1 : (dfl m x s).length = m.drv.length := by simp [dfl]
  have l2 : (lfl m x).length = m.ns.length := by simp [lfl]
  simp [m_put_in]
  refine c_drive_flows S ?_
  refine c_load_flows S.o ?_
  refine (show ∀ {Q : Dt → Prop}, Q (dT (dfl m x s ++ lfl m x)) → addD (dT (dfl m x s)) (dT (lfl m x)) Q from fun {Q} q => by
    have e : dT (dfl m x s ++ lfl m x) = .tup (dqs (dfl m x s) ++ dqs (lfl m x)) := by simp [dT]
    rw [e] at q
    unfold dT
    simp
    exact ⟨by omega, q⟩) ?_
  refine row_gl.seq ⟨by simp; omega, ?_⟩
  refine compD_FE (e := dq) dq id (fun q => decide (0 < q)) (fun v hv Q R w => ?_) ?_
  · unfold cStep
    simp [dq]
    by_cases c : 0 < v
    · rw [if_pos (by simp [c])] at w
      rw [if_pos c]
      exact w
    · rw [if_neg (by simp [c])] at w
      rw [if_neg c]
      exact w
  · rw [List.map_id]
    have lp : (posl (dfl m x s ++ lfl m x)).length ≤ (dfl m x s ++ lfl m x).length := List.length_filter_le _ _
    rw [List.length_append] at lp
    have ef : (dfl m x s ++ lfl m x).filter (fun q => decide (0 < q)) = posl (dfl m x s ++ lfl m x) := rfl
    rw [ef]
    exact lc_total (qs := posl (dfl m x s ++ lfl m x)) (.inl rfl) (((given_mea S).sub fun q hq => (List.mem_filter.mp (by exact hq)).1).sums (by omega)) q
end KK

set_option maxRecDepth 100000
set_option maxHeartbeats 1000000
namespace KK
open PySem L2 DL FQ MX
variable {P : Dt → Prop} {E : Xc → Prop} {m : Mc} {k : Nat} {x s : List Rat}
theorem Sums.tot {r : List Rat} (h : Sums r) : Sm (FQ.tot r) := by
  have := h.p r.length (Nat.le_refl _)
  rwa [List.take_length] at this
theorem pas_sums (S : Sur m x s) (hk : k < m.parts.length) : Sums (posl (pfl m x s k)) := by
  have h := S.o.h
  have a1 := h.n
  have sl := srows_len m
  have pl : (pfl m x s k).length = m.ns.length := by simp [pfl]
  have lp : (posl (pfl m x s k)).length ≤ (pfl m x s k).length := List.length_filter_le _ _
  exact ((pfl_mea S (k := k) (by omega)).sub fun q hq => (List.mem_filter.mp (by exact hq)).1).sums (by omega)
theorem put_sums (S : Sur m x s) : Sums (posl (dfl m x s ++ lfl m x)) := by
  have h := S.o.h
  have a1 := h.n
  have a2 := h.dl
  have l1 : (dfl m x s).length = m.drv.length := by simp [dfl]
  have l2 : (lfl m x).length = m.ns.length := by simp [lfl]
  have lp : (posl (dfl m x s ++ lfl m x)).length ≤ (dfl m x s ++ lfl m x).length := List.length_filter_le _ _
  rw [List.length_append] at lp
  exact ((given_mea S).sub fun q hq => (List.mem_filter.mp (by exact hq)).1).sums (by omega)
def cirl (m : Mc) (x s : List Rat) : List Nat := (List.range m.parts.length).filter fun k => decide (tot (posl (dfl m x s ++ lfl m x)) < tot (posl (pfl m x s k)))
theorem c_circling (S : Sur m x s) (q : P (dL (cirl m x s))) : sp_circling [m.d] P E := by
  refine ⟨rfl, ?_⟩
  simp only [init_c, init_n, List.replicate]
  have h := S.o.h
  have a2 := h.p
  simp [m_circling]
  refine c_passed S ?_
  refine c_put_in S ?_
  simp
  refine ⟨by omega, by rw [rng_len]; omega, ?_⟩
  rw [rng0]
  refine compD_FE (fun (n : Nat) => Dt.int (n : Int)) id (fun k => decide (tot (posl (dfl m x s ++ lfl m x)) < tot (posl (pfl m x s k)))) (fun k hk Q R z => ?_) ?_
  · have hk := List.mem_range.mp hk
    unfold cStep
    simp
    refine ⟨_, ⟨k, by simp [hk], rfl⟩, ?_⟩
    exact c_is_less (ha := (put_sums S).tot) (hb := (pas_sums S hk).tot) z
  · rw [List.map_id]
    exact q
end KK

set_option maxRecDepth 100000
set_option maxHeartbeats 1000000
namespace KK
open PySem L2 DL FQ MX
variable {P : Dt → Prop} {E : Xc → Prop} {m : Mc} {k : Nat} {x s : List Rat}
theorem c_is_part {q : Rat} (h : P (.bl true)) : sp_is_part [dq q] P E := by
  refine ⟨rfl, ?_⟩
  simp only [init_c, init_n, List.replicate]
  have dp : (q.den : Int) ≥ 1 := by have := q.den_pos; omega
  simp [m_is_part, dq]
  refine compD_E (as := [q.num, (q.den : Int)]) (e := Dt.int) Dt.bl (fun _ => true) (fun i hi Q R z => ?_) ?_
  · unfold cStep
    simp [eAnd, eNot]
    exact z
  refine ⟨[true, true], rfl, ?_⟩
  simp
  have e : Int.gcd q.num (q.den : Int) = 1 := by
    have := q.reduced
    simpa [Int.gcd, Nat.Coprime] using this
  rw [if_pos (by omega)]
  refine c_divisor ?_
  rw [e]
  exact ⟨by simp, by simpa using h⟩
theorem ifT {c a b : Prop} [Decidable c] (h : c) (k : a) : if c then a else b := by rw [if_pos h]; exact k
theorem add_dT {a b : List Rat} (h : a.length + b.length ≤ 1000) {Q : Dt → Prop} (q : Q (dT (a ++ b))) : addD (dT a) (dT b) Q := by
  have e : dT (a ++ b) = .tup (dqs a ++ dqs b) := by simp [dT]
  rw [e] at q
  unfold dT
  simp
  exact ⟨by omega, q⟩
/-- what is_balanced tells of shares -/
def rst (m : Mc) (s : List Rat) (j : Nat) : Rat := g m.loads j + dt m.srows.length (g s) fun k => at2 m.srows k j
noncomputable def balB (m : Mc) (s : List Rat) : Bool := @decide (∀ j, j < m.ns.length → rst m s j = 0) (Classical.propDecidable _)
theorem c_is_balanced (o : One m x) {a b : List Rat} (ha : a.length = m.parts.length) (hb : b.length = m.drv.length) (hs : ∃ d X : Nat, 0 < d ∧ d < 2 ^ 860 ∧ X < 2 ^ 860 ∧ ∀ j, S1 d X (g (a ++ b) j)) (q : P (.bl (balB m (a ++ b)))) : sp_is_balanced [m.d, .tup [dT a, dT b]] P E := by
  refine ⟨rfl, ?_⟩
  simp only [init_c, init_n, List.replicate]
  have h := o.h
  have a1 := h.n
  have a2 := h.p
  have a3 := h.dl
  have rl := rows_len m
  have sl := srows_len m
  simp [m_is_balanced]
  refine o.mov ?_
  simp [t7_is_balanced]
  refine compD_E (as := [a, b]) (e := dT) Dt.bl (fun _ => true) (fun i hi Q R z => ?_) ?_
  · unfold cStep
    simp [dT]
    simpa [dT] using z
  refine ⟨[true, true], rfl, ?_⟩
  simp [t6_is_balanced]
  refine row_gl.len ⟨by simp, ifT (by simp [ha]) ?_⟩
  refine row_gl.len ⟨by simp, ifT (by simp [hb]) ?_⟩
  have ab : (a ++ b).length = m.srows.length := by rw [List.length_append]; omega
  simp [t5_is_balanced]
  refine add_dT (by omega) ?_
  refine row_gl.seq ⟨by simp; omega, ?_⟩
  refine compD_E (e := dq) Dt.bl (fun _ => true) (fun v hv Q R z => ?_) ?_
  · unfold cStep
    simp
    exact c_is_part z
  refine ⟨(a ++ b).map fun _ => true, by simp, ?_⟩
  have ea : (((a ++ b).map fun _ => true).all id) = true := by simp
  rw [ea]
  simp [t4_is_balanced]
  refine c_rows_of h.ok ?_
  refine c_drive_rows h ?_
  simp
  refine ⟨by simp [rl, Mc.drows]; omega, ?_⟩
  rw [srows_eq]
  refine add_dT (by omega) ?_
  generalize a ++ b = t at *
  simp [t3_is_balanced]
  refine c_loads_row h ?_
  simp [t2_is_balanced]
  have ll := loads_len m
  refine row_gl.len ?_
  simp
  refine ⟨by omega, ?_⟩
  rw [rng0, ll]
  obtain ⟨d, X, d0, d1, d2, d3⟩ := hs
  have tsm : ∀ j, Sm (g t j) := fun j => (d3 j).sm d0 (Nat.lt_trans d1 (Nat.pow_lt_pow_right (by decide) (by decide))) (Nat.lt_trans d2 (Nat.pow_lt_pow_right (by decide) (by decide)))
  have m1 : d * 6 < 2 ^ 870 := by
    have : d * 6 < 2 ^ 860 * 2 ^ 10 := Nat.mul_lt_mul'' d1 (by decide)
    rwa [← Nat.pow_add] at this
  have m2 : X * 840 < 2 ^ 870 := by
    have : X * 840 < 2 ^ 860 * 2 ^ 10 := Nat.mul_lt_mul'' d2 (by decide)
    rwa [← Nat.pow_add] at this
  have sums : ∀ j, Sums ((List.range m.srows.length).map fun k => g t k * at2 m.srows k j) := fun j => Mea.sums ⟨d * 6, X * 840, by omega, m1, m2, fun q hq => by
    obtain ⟨k, hk, rfl⟩ := List.mem_map.mp hq
    exact (d3 k).mul (at_S1 h (List.mem_range.mp hk) j)⟩ (by simp; omega)
  have st : ∀ j, dt m.srows.length (g t) (fun k => at2 m.srows k j) = tot ((List.range m.srows.length).map fun k => g t k * at2 m.srows k j) := fun j => by rw [tot_range]; rfl
  refine forD_inv (fun i e => (∃ x5 x6 x7 x8, e = [.im m.d, .im (.tup [dT a, dT b]), .im (.lst (m.srows.map dT)), .im (dT t), .im (dT m.loads), x5, x6, x7, x8]) ∧ ∀ j, j < i → rst m t j = 0) ⟨⟨_, _, _, _, rfl⟩, fun j z => by omega⟩ ?_ ?_
  · rintro j dd e hx ⟨⟨x5, x6, x7, x8, rfl⟩, ih⟩ nx hnx
    obtain ⟨hj, rfl⟩ := get_rng (by rw [rng0]; exact hx)
    simp
    refine row_gl.ixg (by omega) ?_
    refine ⟨by omega, by rw [rng_len]; omega, ?_⟩
    rw [rng0]
    refine compD_E dq (fun k => g t k * at2 m.srows k j) (fun k hk Q R z => ?_) ?_
    · have hk := List.mem_range.mp hk
      unfold cStep
      simp
      refine row_gl.ixg (by omega) ?_
      refine ⟨_, ⟨_, srow_at hk, rfl⟩, ?_⟩
      refine row_gl.ixg (by rw [srows_w m _ (at_mem hk)]; exact hj) ?_
      exact z_times (tsm k) ((at_S1 h hk j).sm (by decide) (by decide) (by decide)) z
    · refine lc_total (.inl rfl) (sums j) ?_
      refine z_plus ((S1.g6 (loads_S1 h) j).sm (by decide) (by decide) (by decide)) (sums j).tot ?_
      rw [← st j]
      have e : g m.loads j + dt m.srows.length (g t) (fun k => at2 m.srows k j) = rst m t j := rfl
      rw [e]
      simp [dq]
      by_cases c : rst m t j = 0
      · rw [if_pos c]
        refine hnx _ ⟨⟨_, _, _, _, rfl⟩, fun i hi => ?_⟩
        by_cases z : i = j
        · rw [z]; exact c
        · exact ih i (by omega)
      · rw [if_neg c]
        rw [show balB m t = false by simp [balB]; exact ⟨j, hj, c⟩] at q
        exact q
  · rintro e ⟨⟨x5, x6, x7, x8, rfl⟩, ih⟩
    rw [List.length_map, List.length_range] at ih
    simp [t1_is_balanced]
    rw [show balB m t = true by simp [balB]; exact ih] at q
    exact q
end KK

set_option maxRecDepth 100000
set_option maxHeartbeats 1000000
namespace KK
open PySem L2 DL FQ MX
variable {P : Dt → Prop} {E : Xc → Prop} {m : Mc} {k : Nat} {x s : List Rat}
/-- values that are no shares -/
inductive OddV (m : Mc) : Dt → Prop
  | n : OddV m .non
  | e : OddV m (.tup [])
  | l : OddV m (.lst [.tup [], .tup []])
  | z : m.parts ≠ [] → OddV m (.tup [.tup [], .tup []])
  | w : OddV m (.tup [.tup (List.replicate 99 (dq 1)), .tup []])
  | b : m.parts ≠ [] → OddV m (.tup [.tup (List.replicate m.parts.length (.tup [.bl true, .int 1])), .tup (List.replicate m.drv.length (dq 0))])
def isG : Dt → Bool
  | .tup [.bl _, _] => false
  | _ => true
theorem odd_part {P : Dt → Prop} {E : Xc → Prop} (h : P (.bl false)) : sp_is_part [.tup [.bl true, .int 1]] P E := by
  refine ⟨rfl, ?_⟩
  simp only [init_c, init_n, List.replicate]
  simp [m_is_part]
  refine compD_E (as := [Dt.bl true, Dt.int 1]) (e := id) Dt.bl (fun v => match v with | .int _ => true | _ => false) (fun i hi Q R z => ?_) ?_
  · simp at hi
    unfold cStep
    rcases hi with rfl | rfl
    · simp [eAnd, eNot]
      exact z
    · simp [eAnd, eNot]
      exact z
  refine ⟨[false, true], rfl, ?_⟩
  simp
  exact h
theorem c_is_balanced_odd (o : One m x) {v : Dt} (hv : OddV m v) (q : P (.bl false)) : sp_is_balanced [m.d, v] P E := by
  refine ⟨rfl, ?_⟩
  simp only [init_c, init_n, List.replicate]
  have h := o.h
  have a2 := h.p
  have a3 := h.dl
  simp [m_is_balanced]
  refine o.mov ?_
  cases hv with
  | n => simp [t7_is_balanced]; exact q
  | e => simp [t7_is_balanced]; exact q
  | l => simp [t7_is_balanced]; exact q
  | z hp =>
    simp [t7_is_balanced]
    refine compD_E (as := [Dt.tup [], Dt.tup []]) (e := id) Dt.bl (fun _ => true) (fun i hi Q R z => ?_) ?_
    · simp at hi
      subst hi
      unfold cStep
      simp
      exact z
    refine ⟨[true, true], rfl, ?_⟩
    simp [t6_is_balanced]
    rw [if_neg (by intro z; exact hp (List.length_eq_zero_iff.mp (by omega)))]
    exact q
  | w =>
    simp [t7_is_balanced]
    refine compD_E (as := [Dt.tup (List.replicate 99 (dq 1)), Dt.tup []]) (e := id) Dt.bl (fun _ => true) (fun i hi Q R z => ?_) ?_
    · simp at hi
      rcases hi with rfl | rfl
      · unfold cStep
        simp
        exact z
      · unfold cStep
        simp
        exact z
    refine ⟨[true, true], rfl, ?_⟩
    simp [t6_is_balanced]
    rw [if_neg (by omega)]
    exact q
  | b hp =>
    simp [t7_is_balanced]
    refine compD_E (as := [Dt.tup (List.replicate m.parts.length (.tup [.bl true, .int 1])), Dt.tup (List.replicate m.drv.length (dq 0))]) (e := id) Dt.bl (fun _ => true) (fun i hi Q R z => ?_) ?_
    · simp at hi
      rcases hi with rfl | rfl
      · unfold cStep
        simp
        exact z
      · unfold cStep
        simp
        exact z
    refine ⟨[true, true], rfl, ?_⟩
    simp [t6_is_balanced]
    simp [t5_is_balanced]
    refine ⟨by omega, ?_⟩
    have hb : 0 < m.parts.length := List.length_pos_iff.mpr hp
    rw [← List.map_id (List.replicate m.parts.length _ ++ _)]
    refine compD_E (e := id) Dt.bl isG (fun v hv Q R z => ?_) ?_
    · unfold cStep
      simp
      rcases List.mem_append.mp hv with e | e
      · rw [List.eq_of_mem_replicate e] at z ⊢
        exact odd_part z
      · rw [List.eq_of_mem_replicate e] at z ⊢
        exact c_is_part z
    refine ⟨(List.replicate m.parts.length (Dt.tup [.bl true, .int 1]) ++ List.replicate m.drv.length (dq 0)).map isG, rfl, ?_⟩
    have ea : ((List.replicate m.parts.length (Dt.tup [.bl true, .int 1]) ++ List.replicate m.drv.length (dq 0)).map isG).all id = false := by
      rw [List.all_eq_false]
      exact ⟨false, List.mem_map.mpr ⟨_, List.mem_append_left _ (List.mem_replicate.mpr ⟨by omega, rfl⟩), rfl⟩, by simp⟩
    rw [ea]
    simp
    exact q
end KK

set_option maxRecDepth 100000
set_option maxHeartbeats 1000000
namespace KK
open PySem L2 DL FQ MX
variable {P : Dt → Prop} {E : Xc → Prop} {m : Mc} {k : Nat} {x s : List Rat}
theorem full_tab1 (h : m.fit) : Tab (m.ns.length + 1) (m.ns.length + 1) (aug m.ns.length m.srows (g m.goals)) := by
  have := h.n
  have := srows_le h
  exact tab6 (full_w m) (by omega) (by omega) (by rw [full_len]; omega) (by omega) (full6 h)
/-- what the whole table tells -/
theorem whole_has (h : m.fit) {T R : List (List Rat)} {L : List Nat} (J : Inv (m.ns.length + 1) (m.ns.length + 1) (m.ns.length + 1) (aug m.ns.length m.srows (g m.goals)) T R L) :
    (m.ns.length ∈ L → ¬ ∃ x, Sol m x) ∧ (m.ns.length ∉ L → (∃ x, Sol m x) ∧ L.length = rk m.ns.length m.srows ∧ (L.length = m.ns.length → One m ((List.range m.ns.length).map fun k => at2 T k m.ns.length))) := by
  obtain ⟨T', R', L', I⟩ := Inv.ext_ (n := m.ns.length) (W := m.ns.length + 1) (aug m.ns.length m.srows (g m.goals)) (by omega) (full_w m) m.ns.length (Nat.le_refl _)
  have e := I.ends (srows_w m) J
  have sI := sol_iff h I
  refine ⟨fun hn w => ?_, fun hn => ?_⟩
  · obtain ⟨r, hr, z⟩ := e.mp hn
    exact z (sI.mp w r hr)
  · have z : ∀ r ∈ R', g r m.ns.length = 0 := fun r hr => Classical.byContradiction fun k => hn (e.mpr ⟨r, hr, k⟩)
    have ex := sI.mpr z
    obtain ⟨T2, R2, L2, K, k1⟩ := rk_has (srows_w m)
    have eL : L' = L2 := I.aug_leads (srows_w m) K
    have nu : ∀ x, Nul (m.ns.length + 1) T x ↔ Nul (m.ns.length + 1) T' x := fun x => by
      rw [J.nul0, ← I.nul x]
      refine ⟨fun q => q.1, fun q => ⟨q, I.nulR fun j a b r hr => ?_⟩⟩
      rw [show j = m.ns.length by omega, z r hr]
      grind
    have eLL : L = L' := leads_eq J.rr I.rr1 fun x => (nu x).symm
    subst eLL
    have eT : T = T' := table_eq J.rr I.rr1 (fun x q => (nu x).mpr q) J.wT I.wT
    subst eT
    refine ⟨ex, by rw [eL, k1], fun hl => ?_⟩
    have hL : L = List.range m.ns.length := sorted_eq I.sorted (range_sorted m.ns.length) (fun c hc => List.mem_range.mpr (I.lt c hc)) (by rw [List.length_range]; omega)
    have ep : ((List.range m.ns.length).map fun k => at2 T k m.ns.length) = (List.range m.ns.length).map (pnt T L m.ns.length) := List.map_congr_left fun j hj => by
      have hm : j ∈ L := by rw [hL]; exact hj
      have e2 := idx_get hm
      have e3 : L.idxOf j = j := by
        have lt := (List.getElem?_eq_some_iff.mp e2).1
        generalize L.idxOf j = i at *
        rw [hL] at e2 lt
        simp at e2 lt
        rcases List.getElem?_eq_some_iff.mp e2 with ⟨_, e4⟩
        simpa using e4
      show _ = pnt T L m.ns.length j
      unfold pnt
      rw [if_pos hm, e3]
    rw [ep]
    refine ⟨h, by simp, fun i hi => ?_, by rw [← k1, ← eL]; exact hl, sol_fin h I⟩
    rw [← I.point (srows_w m) z i hi]
    unfold dt
    exact sm_congr fun j hj => by rw [show g ((List.range m.ns.length).map (pnt T L m.ns.length)) j = pnt T L m.ns.length j by simp [g, List.getD_eq_getElem?_getD, hj]]
/-- the law's own speeds -/
theorem c__law_speeds (h : m.fit) (h0 : (¬ ∃ x, Sol m x) → P (sD "clash")) (h1 : ∀ x, One m x → P (dT x)) (h2 : (∃ x, Sol m x) → rk m.ns.length m.srows < m.ns.length → P (sD "loose")) : sp__law_speeds [m.d] P E := by
  refine ⟨rfl, ?_⟩
  simp only [init_c, init_n, List.replicate]
  have a1 := h.n
  have a2 := h.p
  have a3 := h.dl
  have ht := m.tl
  have gl := goals_len m
  have sl := srows_len m
  simp [m__law_speeds]
  refine ⟨by omega, ?_⟩
  refine compD_E sD (fun t : String × String => t.1) (fun t ht Q R z => by unfold cStep; simp [dth]; exact z) ?_
  have en : m.things.map (fun t : String × String => t.1) = m.ns := rfl
  rw [en]
  simp [t5__law_speeds]
  refine c__law_rows h.ok ?_
  refine ⟨by omega, ?_⟩
  simp [t4__law_speeds]
  refine forD_inv (fun t e => ∃ x5 x6 x7 x8 x9 x10 x11, e = [.im m.d, .im (.lst (m.ns.map sD)), .im (.lst ((m.rows ++ m.drows.take t).map dT)), .im (.lst (dqs (List.replicate m.parts.length 0 ++ (m.drv.map (·.2)).take t))), .im (.int m.ns.length), x5, x6, x7, x8, x9, x10, x11]) ⟨.no, .no, .no, .no, .no, .no, .no, ?_⟩ ?_ ?_
  · rw [List.take_zero, List.take_zero, List.append_nil, List.append_nil]
    simp
    exact .inr rfl
  · rintro t d e hx ⟨x5, x6, x7, x8, x9, x10, x11, rfl⟩ nx hnx
    obtain ⟨u, hu, rfl⟩ := at_map hx
    have mu := List.mem_of_getElem? hu
    have lu : t < m.drv.length := (List.getElem?_eq_some_iff.mp hu).1
    have eA : (m.rows ++ m.drows.take (t + 1)).map dT = (m.rows ++ m.drows.take t).map dT ++ [dT (unit m.ns u.1)] := by
      rw [tk_snoc (x := unit m.ns u.1) (by simp [Mc.drows, hu]), ← List.append_assoc, List.map_append (l₂ := [_])]
      rfl
    have eG : dqs (List.replicate m.parts.length 0 ++ (m.drv.map (·.2)).take (t + 1)) = dqs (List.replicate m.parts.length 0 ++ (m.drv.map (·.2)).take t) ++ [dq u.2] := by
      rw [tk_snoc (x := u.2) (by simp [hu]), ← List.append_assoc]
      exact List.map_append ..
    have lA : ((m.rows ++ m.drows.take t).map dT).length ≤ 24 := by simp [rows_len]; omega
    have lG : (dqs (List.replicate m.parts.length 0 ++ (m.drv.map (·.2)).take t)).length ≤ 24 := by simp; omega
    rw [eA, eG] at hnx
    generalize (m.rows ++ m.drows.take t).map dT = A at *
    generalize dqs (List.replicate m.parts.length 0 ++ (m.drv.map (·.2)).take t) = G at *
    simp [dtl]
    refine ⟨by omega, ?_⟩
    refine compD_E dq (fun y : String => if y = u.1 then 1 else 0) (fun y hy Q R z => ?_) ?_
    · unfold cStep
      simp
      by_cases c : y = u.1
      · simp [c] at z ⊢
        exact z
      · simp [c] at z ⊢
        exact z
    · have eu : Dt.tup ((m.ns.map fun y : String => if y = u.1 then (1 : Rat) else 0).map dq) = dT (unit m.ns u.1) := rfl
      simp [-List.map_map]
      rw [eu]
      exact ⟨by omega, by omega, hnx _ ⟨_, _, _, _, _, _, _, rfl⟩⟩
  · rintro e ⟨x5, x6, x7, x8, x9, x10, x11, rfl⟩
    rw [List.length_map]
    have e1 : m.rows ++ m.drows.take m.drv.length = m.srows := by
      rw [List.take_of_length_le (by simp [Mc.drows])]
      rfl
    have e2 : List.replicate m.parts.length 0 ++ (m.drv.map (·.2)).take m.drv.length = m.goals := by
      rw [List.take_of_length_le (by simp)]
      rfl
    rw [e1, e2]
    simp [t3__law_speeds]
    refine ⟨by omega, by rw [rng_len]; omega, ?_⟩
    rw [rng0]
    refine compD_E dR (fun i => m.srows.getD i [] ++ [g m.goals i]) (fun i hi Q R z => ?_) ?_
    · have hi := List.mem_range.mp hi
      unfold cStep
      simp
      refine ⟨_, ⟨_, srow_at hi, rfl⟩, ?_⟩
      refine row_gl.lst ?_
      refine ⟨dq (g m.goals i), ⟨_, get_g (by omega), rfl⟩, ?_⟩
      have e := srows_w m _ (at_mem hi)
      simp
      refine ⟨by rw [← List.getD_eq_getElem?_getD, e]; omega, ?_⟩
      simpa [dR] using z
    have ea : (List.range m.srows.length).map (fun i => m.srows.getD i [] ++ [g m.goals i]) = aug m.ns.length m.srows (g m.goals) := rfl
    rw [ea]
    refine c__law_put_out mt_dM (full_tab1 h) fun T R L J => ?_
    obtain ⟨y, n⟩ := whole_has h J
    simp [t2__law_speeds]
    unfold dL
    simp only [inL]
    refine ⟨⟨okD_int, pln_L.ok⟩, ?_⟩
    rw [any_lead]
    by_cases c : m.ns.length ∈ L
    · simp [c]
      exact h0 (y c)
    · obtain ⟨n1, n2, n3⟩ := n c
      simp [c, t1__law_speeds]
      by_cases l : L.length = m.ns.length
      · rw [if_pos (by omega)]
        refine ⟨by omega, by rw [rng_len]; omega, ?_⟩
        rw [rng0]
        refine compD_E dq (fun k => at2 T k m.ns.length) (fun k hk Q R2 z => ?_) ?_
        · have hk := List.mem_range.mp hk
          unfold cStep
          have hkT : k < T.length := by rw [J.len]; omega
          obtain ⟨q1, q2⟩ := at2_get (R := R) (n := m.ns.length + 1) (c := m.ns.length) hkT (by omega) J.wT
          simp
          unfold dM
          refine (Sq.ix (xs := (T ++ R).map dR) (.inl rfl) q1 ?_)
          exact Sq.ix (xs := dqs (T.getD k [])) (.inl rfl) q2 z
        · simp [-List.map_map]
          exact h1 _ (n3 l)
      · rw [if_neg (by omega)]
        have := rk_wide (srows_w m)
        exact h2 n1 (by omega)
end KK

set_option maxRecDepth 100000
set_option maxHeartbeats 1000000
namespace KK
open PySem L2 DL FQ MX
variable {P : Dt → Prop} {E : Xc → Prop} {m : Mc} {k : Nat} {x s : List Rat}
/-! drawn machines with drives -/
theorem fit70 {sh ln : List String} {p : Prt} (h : p.fit sh ln) : ∀ t ∈ p.terms, t.2.natAbs ≤ 70 := by
  intro t ht
  cases p with
  | two k a n b m =>
    obtain ⟨h1, h2, h3, h4⟩ := h
    unfold num35 at h3 h4
    simp [Prt.terms] at ht
    rcases ht with rfl | rfl
    · show n.natAbs ≤ _; omega
    · show (k.sg * m).natAbs ≤ _; cases k <;> simp [Tw.sg] <;> omega
  | arm o c a n b m =>
    obtain ⟨h1, h2, h3, h4⟩ := h
    unfold num35 at h3 h4
    simp [Prt.terms] at ht
    rcases ht with rfl | rfl | rfl
    · show n.natAbs ≤ _; omega
    · show (sgB o * m).natAbs ≤ _; cases o <;> simp [sgB] <;> omega
    · show (-n - sgB o * m).natAbs ≤ _; cases o <;> simp [sgB] <;> omega
  | tie a b =>
    simp [Prt.terms] at ht
    rcases ht with rfl | rfl <;> simp
  | fix a =>
    simp [Prt.terms] at ht
    subst ht; simp
  | rack l s n =>
    obtain ⟨h1, h2, h3⟩ := h
    unfold num35 at h3
    simp [Prt.terms] at ht
    rcases ht with rfl | rfl
    · simp
    · show (-n).natAbs ≤ _; omega
  | mean a b c =>
    simp [Prt.terms] at ht
    rcases ht with rfl | rfl | rfl <;> simp
theorem cf_nd {ts : List (String × Int)} {B : Nat} (nd : (ts.map (·.1)).Nodup) (h : ∀ t ∈ ts, t.2.natAbs ≤ B) (x : String) : (cf ts x).natAbs ≤ B := by
  induction ts with
  | nil => simp [cf]
  | cons t ts ih =>
    rw [List.map_cons, List.nodup_cons] at nd
    simp only [cf]
    by_cases e : t.1 = x
    · rw [cf_none (ts := ts) (x := x) (e ▸ nd.1), if_pos e]
      have := h t (by simp)
      omega
    · rw [if_neg e]
      have := ih nd.2 fun u hu => h u (by simp [hu])
      omega
theorem Drawn.ent {K : Nat} {sh ln : List String} (h : Drawn K sh ln m) (hK : K ≤ 100 := by decide) : ∀ p ∈ m.parts, ∀ x, (cf p.terms x).natAbs ≤ 70 := fun p hp x =>
  cf_nd ((h.ok hK).parts p hp).nd (fit70 (h.fit p hp)) x
theorem Drawn.whole {K : Nat} {sh ln : List String} (h : Drawn K sh ln m) (hK : K ≤ 100 := by decide) : Whole 70 m.rows := .of (d := 1) (by decide) (by decide) fun r hr j => by
  obtain ⟨p, hp, rfl⟩ := List.mem_map.mp hr
  by_cases hj : j < m.ns.length
  · refine ⟨cf p.terms m.ns[j], ?_, h.ent hK p hp _⟩
    simp [rowP, g, List.getD_eq_getElem?_getD, hj]
  · refine ⟨0, ?_, by simp⟩
    rw [g_ge (by rw [rowP_len]; omega)]
    simp
theorem yb_ways {r w k n : Nat} (hn : n ≤ 8) (hr : r ≤ 4) (hw : w + r = n) (hk : k ≤ w) : yb (yb 70 r) k < 2 ^ 450 := by
  have a : ∀ r w : Nat, 0 < yb 70 r → k ≤ w → yb (yb 70 r) w < 2 ^ 450 → yb (yb 70 r) k < 2 ^ 450 := fun r w h0 h1 h2 => Nat.lt_of_le_of_lt (yb_mono h0 h1) h2
  rcases (by omega : r = 0 ∨ r = 1 ∨ r = 2 ∨ r = 3 ∨ r = 4) with rfl | rfl | rfl | rfl | rfl
  · exact a 0 8 (by decide) (by omega) (by decide)
  · exact a 1 7 (by decide) (by omega) (by decide)
  · exact a 2 6 (by decide) (by omega) (by decide)
  · exact a 3 5 (by decide) (by omega) (by decide)
  · exact a 4 4 (by decide) (by omega) (by decide)
theorem Drawn.tab {K : Nat} {sh ln : List String} (h : Drawn K sh ln m) (hK : K ≤ 100 := by decide) : Tab m.ns.length m.ns.length m.rows := by
  have := h.wide
  have := h.pl
  have := rows_len m
  refine ⟨Nat.le_refl _, m.rows_w, by omega, by omega, 70, h.whole hK, fun k hk _ => ?_⟩
  exact Nat.lt_of_le_of_lt (yb_mono (by decide) (show k ≤ 8 by omega)) (by decide)
theorem ways_whole {K : Nat} {sh ln : List String} (h : Drawn K sh ln m) (hK : K ≤ 100) {T R : List (List Rat)} {L : List Nat} (I : Inv m.ns.length m.ns.length m.ns.length m.rows T R L) : Whole (yb 70 L.length) (waysL T L m.ns.length) :=
  ⟨Nat.pow_pos (by omega), fun r hr => by
    obtain ⟨c, hc, rfl⟩ := List.mem_map.mp hr
    obtain ⟨hc, hL⟩ := mem_frees.mp hc
    obtain ⟨D, D0, D1, D2⟩ := way_sc I I.rr (h.whole hK) hc hL
    refine ⟨D, D0, D1, fun j => ?_⟩
    by_cases hj : j < m.ns.length
    · rw [g_wayL hj]; exact D2 j hj
    · exact ⟨0, by rw [g_ge (by simp [wayL]; omega)]; simp, by simp⟩⟩
/-- the ways, cut -/
theorem cut_tab {sh ln : List String} (h : Drawn 4 sh ln m) {T R : List (List Rat)} {L : List Nat} (I : Inv m.ns.length m.ns.length m.ns.length m.rows T R L) {q : Nat} (hq : q ≤ m.ns.length) :
    Tab q q ((waysL T L m.ns.length).map fun w => (List.range q).map fun j => g w j) := by
  have hw := h.wide
  have hp := h.pl
  have rl := rows_len m
  have fl := frees_len I.rr
  have rz := rank_zero I
  have wl : (waysL T L m.ns.length).length + L.length = m.ns.length := by simp [waysL]; exact fl
  refine ⟨Nat.le_refl _, fun r hr => ?_, by omega, by rw [List.length_map]; omega, yb 70 L.length, ⟨(ways_whole h (by decide) I).1, fun r hr => ?_⟩, fun k hk hl => ?_⟩
  · obtain ⟨w, _, rfl⟩ := List.mem_map.mp hr
    simp
  · obtain ⟨w, hw, rfl⟩ := List.mem_map.mp hr
    obtain ⟨d, d0, d1, d2⟩ := (ways_whole h (by decide) I).2 w hw
    refine ⟨d, d0, d1, fun j => ?_⟩
    by_cases hj : j < q
    · rw [show g ((List.range q).map fun j => g w j) j = g w j by simp [g, List.getD_eq_getElem?_getD, hj]]
      exact d2 j
    · exact ⟨0, by rw [g_ge (by simp; omega)]; simp, by simp⟩
  · rw [List.length_map] at hl
    exact yb_ways (n := m.ns.length) (w := (waysL T L m.ns.length).length) (by omega) (by omega) wl hl
/-- a drawn number for a drive or a load -/
theorem c_told2 {Q : Dt → Prop} {E : Xc → Prop} {u v : Int} (u0 : 0 ≤ u ∧ u < 9) (v0 : 0 ≤ v ∧ v < 2) (h : ∀ q, S1 6 840 q → Q (dq q)) : sp__law_fr [.int (u - 4), .int (1 + v)] Q E :=
  c_fr (n := 3) (by omega) (by omega) (by omega) (by decide) fun z ez sz => h z (ez ▸ S1.dv6 (by omega) (by omega) (by omega))
end KK

set_option maxRecDepth 100000
set_option maxHeartbeats 1000000
namespace KK
open PySem L2 DL FQ MX
variable {P : Dt → Prop} {E : Xc → Prop} {m : Mc} {k : Nat} {x s : List Rat}
/-- drawn drives or loads: names in their order -/
structure Tld (ns : List String) (l : List (String × Rat)) : Prop where
  sub : (l.map (·.1)).Sublist ns
  v : ∀ t ∈ l, S1 6 840 t.2
theorem Tld.len {ns : List String} {l : List (String × Rat)} (h : Tld ns l) : l.length ≤ ns.length := by
  have := h.sub.length_le
  simpa using this
theorem compD_sub2 {α β : Type} {e : α → Dt} (o : β → Dt) (S : α → β → Prop) {g : G} {it : IT} {ie : IE} {env : List Sl} {P : Dt → Prop} : ∀ {as : List α} {outs : List β},
    (∀ a, a ∈ as → ∀ (Q : Dt → Prop) (R : Prop), (∀ b, S a b → Q (o b)) → R → cStep g it ie env (e a) Q R) →
    (∀ (cs : List α) (bs : List β), cs.Sublist as → All2 S cs bs → P (.lst ((outs ++ bs).map o))) → compD g it ie env P (as.map e) (outs.map o)
  | [], outs, _, k => by have := k [] [] (List.Sublist.refl _) .nil; simpa [compD] using this
  | a :: as, outs, h, k => h a (by simp) _ _ (fun b hb => by
      have := compD_sub2 o S (as := as) (outs := outs ++ [b]) (P := P) (fun b hb => h b (by simp [hb])) fun cs bs hs h2 => by
        have := k (a :: cs) (b :: bs) (hs.cons_cons a) (.cons hb h2)
        rwa [List.append_assoc]
      rwa [List.map_append] at this) (compD_sub2 o S (fun b hb => h b (by simp [hb])) fun cs bs hs h2 => k cs bs (hs.cons a) h2)
theorem drawn_fit {sh ln : List String} (h : Drawn 4 sh ln m) {dv lv : List (String × Rat)} (h1 : Tld m.ns dv ∨ dv = m.drv) (h2 : Tld m.ns lv) : ({ m with drv := dv, lds := lv } : Mc).fit := by
  have hw := h.wide
  have ok := h.ok
  have nd : m.ns.Nodup := ok.nd
  have l2 := h2.len
  have dn := h.dn
  have key : dv.length ≤ 12 ∧ (∀ t ∈ dv, t.1 ∈ m.ns) ∧ (∀ t ∈ dv, S1 6 840 t.2) ∧ (dv.map (·.1)).Nodup := by
    rcases h1 with h1 | rfl
    · have := h1.len
      exact ⟨by omega, fun t ht => h1.sub.subset (List.mem_map.mpr ⟨t, ht, rfl⟩), h1.v, nd.sublist h1.sub⟩
    · exact ⟨by omega, fun t ht => (h.dv t ht).1, fun t ht => (h.dv t ht).2.2, dn.1⟩
  exact ⟨⟨nd, ok.len, ok.parts, ok.pl⟩, ⟨hw.1, Nat.le_trans hw.2 (by decide)⟩, Nat.le_trans h.pl (by decide), key.1, Nat.le_trans l2 (Nat.le_trans hw.2 (by decide)), fun p hp x => Nat.le_trans (h.ent (by decide) p hp x) (by decide), key.2.1, fun t ht => h2.sub.subset (List.mem_map.mpr ⟨t, ht, rfl⟩), key.2.2.1, h2.v, key.2.2.2, nd.sublist h2.sub⟩
theorem c__law_free (hm : m.ok) (B : Tab m.ns.length m.ns.length m.rows) (h : ∀ T R L, Inv m.ns.length m.ns.length m.ns.length m.rows T R L → P (.lst ((waysL T L m.ns.length).map dT))) : sp__law_free [m.d] P E := by
  refine ⟨rfl, ?_⟩
  simp only [init_c, init_n, List.replicate]
  have ht := m.tl
  simp [m__law_free]
  refine c__law_rows hm ?_
  rw [ht]
  exact c__law_ways (Mt_T m.rows) B fun T R L I => h T R L I
theorem c__law_driven (h : ∀ m : Mc, m.fit → P m.d) : sp__law_driven [.st] P E := by
  refine ⟨rfl, ?_⟩
  simp only [init_c, init_n, List.replicate]
  simp [m__law_driven]
  refine c__law_machine (k := 4) (by decide) fun sh ln m hd => ?_
  have hw := hd.wide
  have hp := hd.pl
  have ht := m.tl
  simp [t4__law_driven]
  refine ⟨by omega, ?_⟩
  refine compD_E sD (fun t : String × String => t.1) (fun t ht Q R z => by unfold cStep; simp [dth]; exact z) ?_
  have en : m.things.map (fun t : String × String => t.1) = m.ns := rfl
  rw [en]
  refine c__law_free hd.ok hd.tab fun T R L I => ?_
  simp [t3__law_driven]
  rw [rng0]
  refine ⟨by omega, ?_⟩
  refine forD_inv (fun t e => ∃ x5 x6 x7 x8 x9 x10 dv, e = [.im .st, .im m.d, .im (.lst (m.ns.map sD)), .im (.lst ((waysL T L m.ns.length).map dT)), .ow (.lst (dv.map dtl)), x5, x6, x7, x8, x9, x10] ∧ Tld (m.ns.take t) dv) ⟨_, _, _, _, _, _, [], rfl, ⟨by simp, by simp⟩⟩ ?_ ?_
  · rintro t d e hx ⟨x5, x6, x7, x8, x9, x10, dv, rfl, hdv⟩ nx hnx
    obtain ⟨ht, rfl⟩ := get_rng (by rw [rng0]; exact hx)
    have wl : (waysL T L m.ns.length).length ≤ m.ns.length := by
      have := frees_len I.rr
      simp [waysL]
      omega
    have tkl : (m.ns.take (t + 1)) = m.ns.take t ++ [m.ns[t]] := by rw [List.take_succ_eq_append_getElem ht]
    have inner : ∀ (q : Nat) (w : List Rat), q ≤ m.ns.length → w ∈ waysL T L m.ns.length → ∀ (a0 a1 a2 a3 a4 a5 a6 a7 a8 a10 : Sl) (Q : Dt → Prop), Q (dR ((List.range q).map fun j => g w j)) →
        compD (gN 10) bYes (eOp ixD (eVar 9) (eVar 10)) [a0, a1, a2, a3, a4, a5, a6, a7, a8, .im (dT w), .no] Q ((List.range q).map fun (i : Nat) => Dt.int (i : Int)) [] := fun q w hq hw a0 a1 a2 a3 a4 a5 a6 a7 a8 a10 Q z => by
      have wlen := ways_len w hw
      refine compD_E dq (fun j => g w j) (fun j hj Q R z => ?_) z
      have hj := List.mem_range.mp hj
      unfold cStep
      simp
      exact row_gl.ixg (by omega) z
    simp
    refine ⟨by omega, ?_⟩
    refine compD_E dR (fun w => (List.range (t + 1)).map fun j => g w j) (fun w hw Q R2 z => ?_) ?_
    · unfold cStep
      simp
      refine ⟨by omega, ?_⟩
      refine ⟨by rw [rng_len]; omega, ?_⟩
      rw [rng0]
      exact inner (t + 1) w (by omega) hw _ _ _ _ _ _ _ _ _ .no _ z
    have mt : ∀ q : Nat, Mt (.lst (((waysL T L m.ns.length).map fun w => (List.range q).map fun j => g w j).map dR)) ((waysL T L m.ns.length).map fun w => (List.range q).map fun j => g w j) := fun q => mt_dM
    have e1 : (t : Int) + 1 = ((t + 1 : Nat) : Int) := by omega
    rw [e1]
    refine c__law_rank (mt _) (cut_tab hd I (by omega)) fun T1 R1 L1 I1 => ?_
    refine ⟨by omega, ?_⟩
    refine compD_E dR (fun w => (List.range t).map fun j => g w j) (fun w hw Q R2 z => ?_) ?_
    · unfold cStep
      simp
      refine ⟨by omega, by rw [rng_len]; omega, ?_⟩
      rw [rng0]
      exact inner t w (by omega) hw _ _ _ _ _ _ _ _ _ .no _ z
    refine c__law_rank (mt _) (cut_tab hd I (by omega)) fun T2 R2 L2 I2 => ?_
    simp
    have dl := hdv.len
    have stay : ∀ x5, nx [Sl.im Dt.st, Sl.im m.d, Sl.im (Dt.lst (List.map sD m.ns)), Sl.im (Dt.lst (List.map dT (waysL T L m.ns.length))), Sl.ow (Dt.lst (List.map dtl dv)), x5, x6, x7, x8, x9, x10] := fun x5 => hnx _ ⟨_, _, _, _, _, _, dv, rfl, ⟨by rw [tkl]; exact hdv.sub.trans (List.sublist_append_left ..), hdv.v⟩⟩
    by_cases c : L2.length < L1.length
    · rw [if_pos c]
      refine ⟨by rw [List.length_take] at dl; omega, sD m.ns[t], ⟨_, List.getElem?_eq_getElem ht, rfl⟩, ?_⟩
      refine tk (h := fun u u0 u1 => ?_)
      try simp
      refine tk (h := fun v v0 v1 => ?_)
      try simp
      refine c_told2 ⟨u0, by omega⟩ ⟨v0, by omega⟩ fun q hq => ?_
      have ed : dv.map dtl ++ [.tup [sD m.ns[t], dq q]] = (dv ++ [(m.ns[t], q)]).map dtl := by rw [List.map_append]; rfl
      rw [ed]
      refine hnx _ ⟨_, _, _, _, _, _, _, rfl, ⟨?_, fun w hw => ?_⟩⟩
      · rw [tkl, List.map_append]
        exact hdv.sub.append (.refl _)
      · rcases List.mem_append.mp hw with z | z
        · exact hdv.v w z
        · rw [List.mem_singleton.mp z]; exact hq
    · rw [if_neg c]
      exact stay _
  · rintro e ⟨x5, x6, x7, x8, x9, x10, dv, rfl, hdv⟩
    rw [List.length_map, List.length_range, List.take_length] at hdv
    simp [t2__law_driven]
    refine ⟨by omega, ?_⟩
    refine compD_sub2 (outs := []) dtl (fun x t => t.1 = x ∧ S1 6 840 t.2) (fun x hx Q R z w => ?_) fun cs bs hs hb => ?_
    · unfold cStep
      simp
      refine tk (h := fun r r0 r1 => ?_)
      by_cases hr : r = 0
      · simp [hr]
        refine tk (h := fun u u0 u1 => ?_)
        try simp
        refine tk (h := fun v v0 v1 => ?_)
        try simp
        exact c_told2 ⟨u0, by omega⟩ ⟨v0, by omega⟩ fun q hq => z (x, q) ⟨rfl, hq⟩
      · simp [hr]
        exact w
    have e : bs.map (·.1) = cs := by
      clear hs
      induction hb with
      | nil => rfl
      | cons s t ih => simp [s.1, ih]
    have hl : Tld m.ns bs := ⟨by rw [e]; exact hs, fun t ht => by
      obtain ⟨a, _, s⟩ := hb.mem ht
      exact s.2⟩
    simp [t1__law_driven]
    have c3 : ∀ a b c d e : Dt, cut [a, b, c, d, e] none (some 3) = [a, b, c] := fun a b c d e => by rw [show (3 : Int) = ((3 : Nat) : Int) from rfl, cut_take (by simp)]; rfl
    have f1 := h _ (drawn_fit hd (.inl hdv) hl)
    have f2 := h _ (drawn_fit hd (.inr rfl) hl)
    unfold Mc.d at f1 f2 ⊢
    simp only [slD_t, c3]
    refine tk (h := fun r r0 r1 => ?_)
    by_cases hr : r > 0
    · simp [hr]
      exact f1
    · simp [hr]
      exact f2
end KK

set_option maxRecDepth 100000
set_option maxHeartbeats 1000000
namespace KK
open PySem L2 DL FQ MX
variable {P : Dt → Prop} {E : Xc → Prop} {m : Mc} {k : Nat} {x s : List Rat}
/-! what the shares give: sums that are nought -/
theorem Sur.rst0 (S : Sur m x s) {j : Nat} (hj : j < m.ns.length) : rst m s j = 0 := by
  have := S.s.z j hj
  unfold rst
  rw [dt_comm, this]
  grind
theorem sm_app (f : Vc) (a : Nat) : ∀ b, sm (a + b) f = sm a f + sm b fun k => f (a + k)
  | 0 => by simp [sm]; grind
  | b + 1 => by
    rw [← Nat.add_assoc]
    simp only [sm]
    rw [sm_app f a b]
    grind
theorem goal_p (hk : k < m.parts.length) : g m.goals k = 0 := by
  simp [Mc.goals, g, List.getD_eq_getElem?_getD, List.getElem?_append_left, hk]
theorem Sur.row0 (S : Sur m x s) (hk : k < m.parts.length) : dt m.ns.length (g (m.srows.getD k [])) (g x) = 0 := by
  have sl := srows_len m
  rw [S.o.sol k (by omega), goal_p hk]
theorem Sur.flow0 (S : Sur m x s) (hk : k < m.parts.length) : tot (pfl m x s k) = 0 := by
  unfold pfl
  rw [tot_range]
  have : (sm m.ns.length fun j => g s k * at2 m.srows k j * g x j) = g s k * dt m.ns.length (g (m.srows.getD k [])) (g x) := by
    unfold dt
    rw [← sm_mul]
    exact sm_congr fun j _ => by unfold at2; grind
  rw [this, S.row0 hk]
  grind
theorem srow_dr (hk : k < m.drv.length) : m.srows.getD (m.parts.length + k) [] = unit m.ns (m.drv.getD k ("", 0)).1 := by
  have rl := rows_len m
  simp [Mc.srows, List.getD_eq_getElem?_getD, List.getElem?_append_right, rl, Mc.drows, hk]
theorem g_unit {ns : List String} {y : String} {j : Nat} (hj : j < ns.length) : g (unit ns y) j = if ns[j] = y then 1 else 0 := by
  simp [unit, g, List.getD_eq_getElem?_getD, hj]
theorem idx_u {ns : List String} (nd : ns.Nodup) {y : String} (hy : y ∈ ns) {j : Nat} (hj : j < ns.length) : ns[j] = y ↔ j = ns.idxOf y := by
  have h1 := idx_at hy
  constructor
  · intro e
    have h2 : ns[j]? = some y := by rw [List.getElem?_eq_getElem hj, e]
    exact (List.getElem?_inj hj nd).mp (by rw [h1, h2])
  · rintro rfl
    rw [List.getElem?_eq_getElem hj] at h1
    exact Option.some.inj h1
theorem unit_dot {ns : List String} (nd : ns.Nodup) {y : String} (hy : y ∈ ns) (v : Vc) : dt ns.length (g (unit ns y)) v = v (ns.idxOf y) := by
  have il := List.idxOf_lt_length_of_mem hy
  unfold dt
  rw [sm_one (a := ns.idxOf y) il fun j hj hne => by
    rw [g_unit hj, if_neg fun e => hne ((idx_u nd hy hj).mp e)]; grind]
  rw [g_unit il, if_pos ((idx_u nd hy il).mpr rfl)]
  grind
theorem drv_mem (hk : k < m.drv.length) : m.drv.getD k ("", 0) ∈ m.drv := List.mem_of_getElem? (drv_at hk)
theorem Sur.all0 (S : Sur m x s) : tot (dfl m x s ++ lfl m x) = 0 := by
  have sl := srows_len m
  rw [tot_append]
  unfold dfl lfl
  rw [tot_range, tot_range]
  have h1 : (sm m.ns.length fun j => g m.loads j * g x j) = - sm m.srows.length fun i => g s i * dt m.ns.length (g (m.srows.getD i [])) (g x) := by
    have e : (sm m.ns.length fun j => g m.loads j * g x j) = sm m.ns.length fun j => (-1) * sm m.srows.length fun i => g s i * at2 m.srows i j * g x j := sm_congr fun j hj => by
      have := S.s.z j hj
      have e2 : (sm m.srows.length fun i => g s i * at2 m.srows i j * g x j) = g x j * dt m.srows.length (fun i => at2 m.srows i j) (g s) := by
        unfold dt
        rw [← sm_mul]
        exact sm_congr fun i _ => by grind
      rw [e2, this]
      grind
    rw [e, sm_mul, sm_swap]
    have e3 : (sm m.srows.length fun j => sm m.ns.length fun i => g s j * at2 m.srows j i * g x i) = sm m.srows.length fun i => g s i * dt m.ns.length (g (m.srows.getD i [])) (g x) := sm_congr fun i _ => by
      unfold dt
      rw [← sm_mul]
      exact sm_congr fun j _ => by unfold at2; grind
    rw [e3]
    grind
  rw [h1, sl, sm_app, sm_zero (n := m.parts.length) fun i hi => by rw [S.row0 hi]; grind]
  have e4 : (sm m.drv.length fun k => g s (m.parts.length + k) * dt m.ns.length (g (m.srows.getD (m.parts.length + k) [])) (g x)) = sm m.drv.length fun k => g s (m.parts.length + k) * g x (m.ns.idxOf (m.drv.getD k ("", 0)).1) := sm_congr fun k hk => by
    rw [srow_dr hk, unit_dot S.o.h.ok.nd (S.o.h.dn _ (drv_mem hk))]
  rw [e4]
  grind
theorem tot_filter (p : Nat → Bool) (f : Nat → Rat) : ∀ n, tot (((List.range n).filter p).map f) = sm n fun k => if p k = true then f k else 0
  | 0 => rfl
  | n + 1 => by
    rw [List.range_succ, List.filter_append, List.map_append, tot_append, tot_filter p f n]
    show _ = sm n _ + _
    congr 1
    by_cases h : p n = true
    · simp [h]; grind
    · simp [h]
/-- what the drives give at a thing -/
def ownl (m : Mc) (x s : List Rat) (j : Nat) : List Rat := ((List.range m.drv.length).filter fun k => decide ((m.drv.getD k ("", 0)).1 = m.ns.getD j "")).map fun k => g (dfl m x s) k
theorem g_dfl (hk : k < m.drv.length) : g (dfl m x s) k = g s (m.parts.length + k) * g x (m.ns.idxOf (m.drv.getD k ("", 0)).1) := by
  simp [dfl, g, List.getD_eq_getElem?_getD, hk]
theorem g_lfl {j : Nat} (hj : j < m.ns.length) : g (lfl m x) j = g m.loads j * g x j := by
  simp [lfl, g, List.getD_eq_getElem?_getD, hj]
theorem g_pfl {j : Nat} (hj : j < m.ns.length) : g (pfl m x s k) j = g s k * at2 m.srows k j * g x j := by
  simp [pfl, g, List.getD_eq_getElem?_getD, hj]
theorem ns_getD {j : Nat} (hj : j < m.ns.length) : m.ns.getD j "" = m.ns[j] := by simp [List.getD_eq_getElem?_getD, hj]
def thil (m : Mc) (x s : List Rat) (j : Nat) : List Rat := ((List.range m.parts.length).map fun k => g (pfl m x s k) j) ++ [g (lfl m x) j] ++ ownl m x s j
theorem Sur.thing0 (S : Sur m x s) {j : Nat} (hj : j < m.ns.length) : tot (thil m x s j) = 0 := by
  have sl := srows_len m
  have h := S.o.h
  unfold thil ownl
  rw [tot_append, tot_append, tot_range, tot_filter]
  have e1 : (sm m.parts.length fun k => g (pfl m x s k) j) = sm m.parts.length fun k => g x j * (at2 m.srows k j * g s k) := sm_congr fun k hk => by rw [g_pfl hj]; grind
  have e2 : (sm m.drv.length fun k => if decide ((m.drv.getD k ("", 0)).1 = m.ns.getD j "") = true then g (dfl m x s) k else 0) = sm m.drv.length fun k => g x j * (at2 m.srows (m.parts.length + k) j * g s (m.parts.length + k)) := sm_congr fun k hk => by
    have hm := h.dn _ (drv_mem hk)
    unfold at2
    rw [srow_dr hk, g_unit hj, ns_getD hj]
    by_cases c : m.ns[j] = (m.drv.getD k ("", 0)).1
    · rw [if_pos (by simpa using c.symm), if_pos c, g_dfl hk, ← (idx_u h.ok.nd hm hj).mp c]
      grind
    · rw [if_neg (by simpa using fun e => c e.symm), if_neg c]
      grind
  rw [e1, e2]
  have e3 := S.s.z j hj
  have e4 : dt m.srows.length (fun i => at2 m.srows i j) (g s) = (sm m.parts.length fun k => at2 m.srows k j * g s k) + sm m.drv.length fun k => at2 m.srows (m.parts.length + k) j * g s (m.parts.length + k) := by
    unfold dt
    rw [sl, sm_app]
  rw [sm_mul, sm_mul, g_lfl hj]
  rw [e4] at e3
  simp
  grind
/-- one measure for all flows -/
theorem all_mea (hm : m.fit) (hs : Fin6 s) (hx : Fin6 x) : ∃ d X : Nat, 0 < d ∧ d < 2 ^ 870 ∧ X < 2 ^ 870 ∧ (∀ i j k : Nat, k < m.srows.length → S1 d X (g s i * at2 m.srows k j * g x j)) ∧ (∀ i j, S1 d X (g s i * g x j)) ∧ ∀ j, S1 d X (g m.loads j * g x j) := by
  obtain ⟨d, X, h0, h1, h2, h3⟩ := hs
  obtain ⟨e, Y, e0, e1, e2, e3⟩ := hx
  have b1 : d * 840 * e < 2 ^ 850 := p852 h1 e1
  have b3 : X * 840 * Y < 2 ^ 850 := p852 h2 e2
  have b4 : Y * 840 * d < 2 ^ 850 := p852 e2 h1
  have b5 : 2 ^ 850 + 2 ^ 850 < 2 ^ 870 := by
    have : 2 ^ 850 * 2 < 2 ^ 850 * 2 ^ 20 := Nat.mul_lt_mul_of_pos_left (by decide) (Nat.two_pow_pos _)
    rw [← Nat.pow_add] at this
    omega
  have b6 : d * 6 * e ≤ d * 840 * e := Nat.mul_le_mul_right _ (Nat.mul_le_mul_left _ (by decide))
  have r1 : ∀ i j : Nat, ∀ q : Rat, S1 6 840 q → S1 (d * 6 * e) (X * 840 * Y) (g s i * q * g x j) := fun i j q hq => ((h3 i).mul hq).mul (e3 j)
  refine ⟨d * 6 * e, X * 840 * Y + Y * 840 * d, Nat.mul_pos (Nat.mul_pos h0 (by decide)) e0, by omega, by omega, fun i j k hk => (r1 i j _ (at_S1 hm hk j)).up (by omega), fun i j => ?_, fun j => ?_⟩
  · have t := r1 i j _ (S1.i6 (z := 1) (by decide))
    rw [show ((1 : Int) : Rat) = 1 from rfl, Rat.mul_one] at t
    exact t.up (by omega)
  · have t := ((S1.g6 (loads_S1 hm) j).mul (e3 j)).scale (e := d)
    rw [show 6 * e * d = d * 6 * e by rw [Nat.mul_comm, ← Nat.mul_assoc], show 840 * Y * d = Y * 840 * d by rw [Nat.mul_comm 840 Y]] at t
    exact t.up (by omega)
theorem thil_sums (S : Sur m x s) {j : Nat} (hj : j < m.ns.length) : Sums (thil m x s j) := by
  have h := S.o.h
  have a1 := h.n
  have a2 := h.p
  have a3 := h.dl
  have sl := srows_len m
  obtain ⟨d, X, d0, d1, d2, t1, t2, t3⟩ := all_mea h S.s.f S.o.f
  have ol : (ownl m x s j).length ≤ m.drv.length := by
    unfold ownl
    rw [List.length_map]
    exact Nat.le_trans (List.length_filter_le _ _) (by simp)
  refine Mea.sums ⟨d, X, d0, d1, d2, fun q hq => ?_⟩ (by simp [thil]; omega)
  unfold thil at hq
  rcases List.mem_append.mp hq with hq | hq
  · rcases List.mem_append.mp hq with hq | hq
    · obtain ⟨k, hk, rfl⟩ := List.mem_map.mp hq
      rw [g_pfl hj]
      exact t1 _ _ _ (by have := List.mem_range.mp hk; omega)
    · rw [List.mem_singleton.mp hq, g_lfl hj]
      exact t3 j
  · obtain ⟨k, hk, rfl⟩ := List.mem_map.mp hq
    have hk := List.mem_range.mp (List.mem_filter.mp hk).1
    rw [g_dfl hk]
    exact t2 _ _
theorem given_sums (S : Sur m x s) : Sums (dfl m x s ++ lfl m x) := by
  have h := S.o.h
  have a1 := h.n
  have a3 := h.dl
  exact (given_mea S).sums (by simp [dfl, lfl]; omega)
theorem flow_sums (S : Sur m x s) (hk : k < m.parts.length) : Sums (pfl m x s k) := by
  have h := S.o.h
  have a1 := h.n
  have sl := srows_len m
  exact (pfl_mea S (k := k) (by omega)).sums (by simp [pfl]; omega)
/-- shares with one bent -/
def bent (s : List Rat) (k : Nat) : List Rat := s.take k ++ [g s k + 1 / 2] ++ s.drop (k + 1)
theorem bent_len (hk : k < s.length) : (bent s k).length = s.length := by simp [bent]; omega
theorem g_bent (hk : k < s.length) (j : Nat) : g (bent s k) j = 1 * g s j + (1 / 2) * (if j = k then 1 else 0) := by
  have : bent s k = s.set k (g s k + 1 / 2) := by
    rw [List.set_eq_take_append_cons_drop, if_pos hk]
    simp [bent]
  rw [this]
  by_cases e : j = k
  · subst e
    simp [g, List.getD_eq_getElem?_getD, hk]
  · have : ¬ k = j := fun q => e q.symm
    simp [g, List.getD_eq_getElem?_getD, List.getElem?_set, this, e]
    try grind
theorem Sur.bent_not (S : Sur m x s) (hk : k < s.length) : balB m (bent s k) = false := by
  have hk' : k < m.srows.length := by rw [← S.s.len]; exact hk
  have ind := ind_of_rk (srows_w m) (of_decide_eq_true S.b) (d := fun j => if j = k then 1 else 0)
  have ex : ∃ j, j < m.ns.length ∧ at2 m.srows k j ≠ 0 := Classical.byContradiction fun z => by
    have := ind (fun c hc => by
      have z0 : at2 m.srows k c = 0 := Classical.byContradiction fun q => z ⟨c, hc, q⟩
      unfold dt
      rw [sm_one (a := k) hk' fun j hj hne => by simp [hne]]
      simp only [z0]
      grind) k hk'
    simp at this
  obtain ⟨j, hj, hz⟩ := ex
  simp [balB]
  refine ⟨j, hj, ?_⟩
  have e : rst m (bent s k) j = rst m s j + (1 / 2) * at2 m.srows k j := by
    unfold rst
    rw [dt_comm, dt_comm (g s)]
    have : dt m.srows.length (fun k => at2 m.srows k j) (g (bent s k)) = dt m.srows.length (fun k => at2 m.srows k j) fun i => 1 * g s i + (1 / 2) * (if i = k then 1 else 0) := by
      unfold dt
      exact sm_congr fun i _ => by rw [g_bent hk]
    rw [this, dt_linR]
    have : dt m.srows.length (fun k => at2 m.srows k j) (fun i => if i = k then 1 else 0) = at2 m.srows k j := by
      unfold dt
      rw [sm_one (a := k) hk' fun i hi hne => by simp [hne]]
      simp
    rw [this]
    grind
  rw [e, S.rst0 hj]
  intro q
  exact hz (by grind)
theorem bent_f (h : Fin6 s) (hk : k < s.length) : ∃ d X : Nat, 0 < d ∧ d < 2 ^ 860 ∧ X < 2 ^ 860 ∧ ∀ j, S1 d X (g (bent s k) j) := by
  obtain ⟨d, X, h0, h1, h2, h3⟩ := h
  have p1 : 2 ^ 420 * 2 ^ 2 ≤ 2 ^ 860 := by rw [← Nat.pow_add]; exact Nat.pow_le_pow_right (by decide) (by decide)
  refine ⟨d * 2, X * 2 + d, by omega, by omega, by omega, fun j => ?_⟩
  rw [g_bent hk]
  have t := (h3 j).scale (e := 2)
  have hh : S1 (d * 2) d ((1 / 2) * (if j = k then 1 else 0)) := by
    split
    · refine ⟨d, ?_, by omega⟩
      rw [Rat.natCast_mul, show ((2 : Nat) : Rat) = 2 from rfl]
      show _ = (d : Rat)
      grind
    · have : (1 / 2 : Rat) * 0 = 0 := by grind
      rw [this]
      exact .zero
  have := t.add hh
  rwa [show 1 * g s j = g s j by grind]
end KK

set_option maxRecDepth 100000
set_option maxHeartbeats 1000000
namespace KK
open PySem L2 DL FQ MX
variable {P : Dt → Prop} {E : Xc → Prop} {m : Mc} {k : Nat} {x s : List Rat} {Pp : Po}
theorem pln_M (ws : List (List Rat)) : pln 3 (.lst (ws.map dT)) := fun y hy => by
  obtain ⟨r, _, rfl⟩ := List.mem_map.mp hy
  intro q hq
  obtain ⟨v, _, rfl⟩ := List.mem_map.mp hq
  exact pln_dq
theorem pln_T (r : List Rat) : pln 2 (dT r) := fun q hq => by
  obtain ⟨v, _, rfl⟩ := List.mem_map.mp hq
  exact pln_dq
theorem pln_Rr (r : List Rat) : pln 2 (dR r) := fun q hq => by
  obtain ⟨v, _, rfl⟩ := List.mem_map.mp hq
  exact pln_dq
theorem compD_no {g : G} {it : IT} {ie : IE} {env : List Sl} {P : Dt → Prop} {as : List Dt} (h : ∀ a, a ∈ as → ∀ (Q : Dt → Prop) (R : Prop), R → cStep g it ie env a Q R) (k : P (.lst [])) : compD g it ie env P as [] := by
  have := compD_FE (g := g) (it := it) (ie := ie) (env := env) (P := P) (e := fun d : Dt => d) (fun d : Dt => d) id (fun _ => false) (as := as) (fun a ha Q R z => h a ha Q R (by simpa using z)) (by rw [List.filter_eq_nil_iff.mpr (by simp)]; exact k)
  simpa using this
theorem c__law_rests (h : m.fit) (hs : Fin6 s) (q : P (dR ((List.range m.ns.length).map (rst m s)))) (hl : s.length = m.srows.length) : sp__law_rests [.lst (m.srows.map dT), .lst (dqs m.loads), dT s] P E := by
  refine ⟨rfl, ?_⟩
  simp only [init_c, init_n, List.replicate]
  have a1 := h.n
  have a2 := srows_le h
  have ll := loads_len m
  simp [m__law_rests]
  refine ⟨by omega, by rw [rng_len]; omega, ?_⟩
  rw [rng0, ll]
  have sums : ∀ j, Sums ((List.range m.srows.length).map fun k => g s k * at2 m.srows k j) := fun j => by
    obtain ⟨d, X, d0, d1, d2, d3⟩ := hs
    have m1 : d * 6 < 2 ^ 870 := by
      have : d * 6 < 2 ^ 420 * 2 ^ 10 := Nat.mul_lt_mul'' d1 (by decide)
      rw [← Nat.pow_add] at this
      exact Nat.lt_trans this (Nat.pow_lt_pow_right (by decide) (by decide))
    have m2 : X * 840 < 2 ^ 870 := by
      have : X * 840 < 2 ^ 420 * 2 ^ 10 := Nat.mul_lt_mul'' d2 (by decide)
      rw [← Nat.pow_add] at this
      exact Nat.lt_trans this (Nat.pow_lt_pow_right (by decide) (by decide))
    refine Mea.sums ⟨d * 6, X * 840, by omega, m1, m2, fun q hq => ?_⟩ (by simp; omega)
    obtain ⟨k, hk, rfl⟩ := List.mem_map.mp hq
    exact (d3 k).mul (at_S1 h (List.mem_range.mp hk) j)
  refine compD_E dq (rst m s) (fun j hj Q R z => ?_) q
  have hj := List.mem_range.mp hj
  unfold cStep
  simp
  refine ⟨dq (g m.loads j), ⟨_, get_g (by omega), rfl⟩, ?_⟩
  refine ⟨by omega, by rw [rng_len]; omega, ?_⟩
  rw [rng0]
  refine compD_E dq (fun k => g s k * at2 m.srows k j) (fun k hk Q R z => ?_) ?_
  · have hk := List.mem_range.mp hk
    unfold cStep
    simp
    refine row_gl.ixg (by omega) ?_
    refine ⟨_, ⟨_, srow_at hk, rfl⟩, ?_⟩
    refine row_gl.ixg (by rw [srows_w m _ (at_mem hk)]; exact hj) ?_
    exact z__law_mul (hs.sm k) ((at_S1 h hk j).sm (by decide) (by decide) (by decide)) z
  · refine lc__law_sum (.inl rfl) (sums j) ?_
    refine z__law_add ((S1.g6 (loads_S1 h) j).sm (by decide) (by decide) (by decide)) (sums j).tot ?_
    rw [tot_range]
    exact z
def Rs (m : Mc) : Dt := .lst (m.srows.map dT)
def Ns (m : Mc) : Dt := .lst (m.ns.map sD)
theorem hA (S : Sur m x s) {s1 s2 s3 s4 s5 s6 s7 s8 s9 s10 s11 s12 s13 s14 s15 s16 s17 s18 s19 s20 s21 s22 : Sl} (h : t12__law_sure_hold [.im .st, .im m.d, .im (dT x), .im (Rs m), .im (.lst (dqs m.loads)), .im (Ns m), .im (.int (m.parts.length : Int)), .im (dT (s.take m.parts.length)), .im (dT (s.drop m.parts.length)), .im (dT s), s10, s11, s12, s13, s14, s15, s16, s17, s18, s19, s20, s21, s22] Pp) :
    t16__law_sure_hold [.im .st, .im m.d, .im (dT x), .im (Rs m), .im (.lst (dqs m.loads)), .im (Ns m), .im (.int (m.parts.length : Int)), s7, s8, s9, s10, s11, s12, s13, s14, s15, s16, s17, s18, s19, s20, s21, s22] Pp := by
  have hm := S.o.h
  have a1 := hm.n
  have a2 := hm.p
  have a3 := hm.dl
  have sl := srows_len m
  have ssl := S.s.len
  have tl : (s.take m.parts.length).length = m.parts.length := by rw [List.length_take]; omega
  have dl : (s.drop m.parts.length).length = m.drv.length := by rw [List.length_drop]; omega
  simp [t16__law_sure_hold]
  refine S.pus ?_
  simp [t15__law_sure_hold]
  refine row_gl.tup ?_
  refine row_gl.tup ?_
  simp
  refine ⟨by omega, ?_⟩
  rw [show Dt.tup (s.map dq) = dT s from rfl]
  simp [t14__law_sure_hold]
  refine row_gl.len ⟨by simp, ifT (by rw [List.length_map, tl]; simp) ?_⟩
  refine row_gl.len ⟨by simp, ifT (by rw [List.length_map, dl]; simp) ?_⟩
  unfold Rs
  refine c__law_rests hm S.s.f ?_ ssl
  refine (Sq.seq (xs := dqs ((List.range m.ns.length).map (rst m s))) (.inl rfl) ⟨by simp; omega, ?_⟩)
  have z0 : (List.range m.ns.length).map (rst m s) = (List.range m.ns.length).map fun _ => (0 : Rat) := List.map_congr_left fun j hj => S.rst0 (List.mem_range.mp hj)
  refine compD_FE (e := dq) dq id (fun q => decide (q ≠ 0)) (fun v hv Q R w => ?_) ?_
  · unfold cStep
    simp [dq]
    by_cases c : v = 0
    · rw [if_neg (by simp [c])] at w
      rw [if_pos c]
      exact w
    · rw [if_pos (by simp [c])] at w
      rw [if_neg c]
      exact w
  rw [z0, List.filter_eq_nil_iff.mpr (by simp)]
  simp
  simp [t13__law_sure_hold]
  refine row_gl.tup ?_
  refine row_gl.tup ?_
  refine c_is_balanced S.o (a := s.take m.parts.length) (b := s.drop m.parts.length) tl dl ?_ ?_
  · rw [List.take_append_drop]
    obtain ⟨d, X, d0, d1, d2, d3⟩ := S.s.f
    exact ⟨d, X, d0, Nat.lt_trans d1 (Nat.pow_lt_pow_right (by decide) (by decide)), Nat.lt_trans d2 (Nat.pow_lt_pow_right (by decide) (by decide)), d3⟩
  · rw [List.take_append_drop, show balB m s = true by simp [balB]; exact fun j hj => S.rst0 hj]
    simp
    exact h
def Fl (m : Mc) (x s : List Rat) : Dt := .lst (((List.range m.parts.length).map (pfl m x s)).map dT)
theorem hB (S : Sur m x s) {s1 s2 s3 s4 s5 s6 s7 s8 s9 s10 s11 s12 s13 s14 s15 s16 s17 s18 s19 s20 s21 s22 : Sl} (h : t9__law_sure_hold [.im .st, .im m.d, .im (dT x), .im (Rs m), .im (.lst (dqs m.loads)), .im (Ns m), .im (.int (m.parts.length : Int)), .im (dT (s.take m.parts.length)), .im (dT (s.drop m.parts.length)), .im (dT s), .im (Fl m x s), .im (dT (dfl m x s)), s12, s13, s14, s15, s16, s17, s18, s19, s20, s21, s22] Pp) :
    t12__law_sure_hold [.im .st, .im m.d, .im (dT x), .im (Rs m), .im (.lst (dqs m.loads)), .im (Ns m), .im (.int (m.parts.length : Int)), .im (dT (s.take m.parts.length)), .im (dT (s.drop m.parts.length)), .im (dT s), s10, s11, s12, s13, s14, s15, s16, s17, s18, s19, s20, s21, s22] Pp := by
  have hm := S.o.h
  have a1 := hm.n
  have a2 := hm.p
  have a3 := hm.dl
  have sl := srows_len m
  have ssl := S.s.len
  have xl := S.o.len
  unfold Rs Ns at *
  simp [t12__law_sure_hold]
  refine ⟨by omega, by rw [rng_len]; omega, ?_⟩
  rw [rng0]
  refine compD_E dT (pfl m x s) (fun k hk Q R z => ?_) ?_
  · have hk := List.mem_range.mp hk
    unfold cStep
    simp
    refine ⟨by omega, by rw [rng_len]; omega, ?_⟩
    rw [rng0]
    refine compD_E dq (fun j => g s k * at2 m.srows k j * g x j) (fun j hj Q R z => ?_) ?_
    · have hj := List.mem_range.mp hj
      unfold cStep
      simp
      refine row_gl.ixg (by omega) ?_
      refine ⟨_, ⟨_, srow_at (by omega), rfl⟩, ?_⟩
      refine row_gl.ixg (by rw [srows_w m _ (at_mem (by omega))]; exact hj) ?_
      have s1 := at_S1 hm (k := k) (by omega) j
      refine z__law_mul (S.s.f.sm k) (s1.sm (by decide) (by decide) (by decide)) ?_
      refine row_gl.ixg (by omega) ?_
      exact z__law_mul (prod_sm S.s.f k s1) (S.o.f.sm j) z
    · simp [-List.map_map]
      exact z
  have eF : Dt.lst (((List.range m.parts.length).map (pfl m x s)).map dT) = Fl m x s := rfl
  rw [eF]
  simp [t11__law_sure_hold]
  refine ⟨by omega, by rw [rng_len]; omega, ?_⟩
  rw [rng0]
  refine compD_E dq (fun k => g s (m.parts.length + k) * g x (m.ns.idxOf (m.drv.getD k ("", 0)).1)) (fun k hk Q R z => ?_) ?_
  · have hk := List.mem_range.mp hk
    have hx := hm.dn _ (drv_mem hk)
    have il : m.ns.idxOf (m.drv.getD k ("", 0)).1 < m.ns.length := List.idxOf_lt_length_of_mem hx
    unfold cStep
    simp [-List.getD_eq_getElem?_getD]
    rw [show ((m.parts.length : Int) + (k : Int)) = ((m.parts.length + k : Nat) : Int) by omega]
    refine row_gl.ixg (by omega) ?_
    refine ⟨_, ⟨_, _, drv_at hk, rfl⟩, ?_⟩
    simp [dtl, -List.getD_eq_getElem?_getD]
    refine idx_it eqs_s hx ?_
    refine row_gl.ixg (by omega) ?_
    exact z__law_mul (S.s.f.sm _) (S.o.f.sm _) z
  have eG : tupD (.lst (((List.range m.drv.length).map fun k => g s (m.parts.length + k) * g x (m.ns.idxOf (m.drv.getD k ("", 0)).1)).map dq)) = fun Q => Q (dT (dfl m x s)) := rfl
  rw [eG]
  simp [t10__law_sure_hold]
  refine c_part_flows S ?_
  simp
  refine ⟨by omega, ?_⟩
  refine compD_E (e := fun k => dT (pfl m x s k)) dT (pfl m x s) (fun k hk Q R z => ?_) ?_
  · unfold cStep
    simp
    refine row_gl.tup z
  rw [eF]
  have pF : pln 3 (Fl m x s) := pln_M _
  refine ⟨⟨pF.ok, pF.ok⟩, ifT (eqv_self pF) ?_⟩
  refine c_drive_flows S ?_
  refine row_gl.tup ?_
  have pG := pln_T (dfl m x s)
  refine ⟨⟨pG.ok, pG.ok⟩, ifT (eqv_self pG) ?_⟩
  exact h
theorem hC (S : Sur m x s) {s1 s2 s3 s4 s5 s6 s7 s8 s9 s10 s11 s12 s13 s14 s15 s16 s17 s18 s19 s20 s21 s22 : Sl} (h : t6__law_sure_hold [.im .st, .im m.d, .im (dT x), .im (Rs m), .im (.lst (dqs m.loads)), .im (Ns m), .im (.int (m.parts.length : Int)), .im (dT (s.take m.parts.length)), .im (dT (s.drop m.parts.length)), .im (dT s), .im (Fl m x s), .im (dT (dfl m x s)), .im (dT (lfl m x)), s13, s14, s15, s16, s17, s18, s19, s20, s21, s22] Pp) :
    t9__law_sure_hold [.im .st, .im m.d, .im (dT x), .im (Rs m), .im (.lst (dqs m.loads)), .im (Ns m), .im (.int (m.parts.length : Int)), .im (dT (s.take m.parts.length)), .im (dT (s.drop m.parts.length)), .im (dT s), .im (Fl m x s), .im (dT (dfl m x s)), s12, s13, s14, s15, s16, s17, s18, s19, s20, s21, s22] Pp := by
  have hm := S.o.h
  have a1 := hm.n
  have a2 := hm.p
  have a3 := hm.dl
  have ll := loads_len m
  have xl := S.o.len
  simp [t9__law_sure_hold]
  unfold Fl
  simp [-List.map_map]
  refine ⟨by omega, ?_⟩
  refine compD_no (fun v hv Q R w => ?_) ?_
  · obtain ⟨r, hr, rfl⟩ := List.mem_map.mp hv
    obtain ⟨k, hk, rfl⟩ := List.mem_map.mp hr
    have hk := List.mem_range.mp hk
    unfold cStep
    simp
    refine row_gl.lst ?_
    refine lc__law_sum (.inl rfl) (flow_sums S hk) ?_
    rw [S.flow0 hk]
    simp [dq]
    exact w
  simp [-List.map_map]
  rw [show Dt.lst (((List.range m.parts.length).map (pfl m x s)).map dT) = Fl m x s from rfl]
  unfold Ns
  simp [t8__law_sure_hold]
  refine ⟨by omega, by rw [rng_len]; omega, ?_⟩
  rw [rng0]
  refine compD_E dq (fun j => g m.loads j * g x j) (fun j hj Q R z => ?_) ?_
  · have hj := List.mem_range.mp hj
    unfold cStep
    simp
    refine ⟨dq (g m.loads j), ⟨_, get_g (by omega), rfl⟩, ?_⟩
    refine row_gl.ixg (by omega) ?_
    exact z__law_mul ((S1.g6 (loads_S1 hm) j).sm (by decide) (by decide) (by decide)) (S.o.f.sm j) z
  have eG : tupD (.lst (((List.range m.ns.length).map fun j => g m.loads j * g x j).map dq)) = fun Q => Q (dT (lfl m x)) := rfl
  rw [eG]
  simp [t7__law_sure_hold]
  refine c_load_flows S.o ?_
  refine row_gl.tup ?_
  have pG := pln_T (lfl m x)
  refine ⟨⟨pG.ok, pG.ok⟩, ifT (eqv_self pG) ?_⟩
  refine row_gl.lst ?_
  refine row_gl.lst ?_
  simp
  refine ⟨by simp [dfl, lfl]; omega, ?_⟩
  have ec : dqs (dfl m x s) ++ dqs (lfl m x) = dqs (dfl m x s ++ lfl m x) := by simp
  rw [ec]
  refine lc__law_sum (.inl rfl) (given_sums S) ?_
  rw [S.all0]
  simp [dq]
  exact h
def Fv (m : Mc) (x s : List Rat) (e : List Sl) : Prop := ∃ s13 s14 s15 s16 s17 s18 s19 s20 s21 s22, e = [.im .st, .im m.d, .im (dT x), .im (Rs m), .im (.lst (dqs m.loads)), .im (Ns m), .im (.int (m.parts.length : Int)), .im (dT (s.take m.parts.length)), .im (dT (s.drop m.parts.length)), .im (dT s), .im (Fl m x s), .im (dT (dfl m x s)), .im (dT (lfl m x)), s13, s14, s15, s16, s17, s18, s19, s20, s21, s22]
theorem hD (S : Sur m x s) {e : List Sl} (he : Fv m x s e) (h : ∀ e, Fv m x s e → t5__law_sure_hold e Pp) : t6__law_sure_hold e Pp := by
  obtain ⟨s13, s14, s15, s16, s17, s18, s19, s20, s21, s22, rfl⟩ := he
  have hm := S.o.h
  have a1 := hm.n
  have a2 := hm.p
  have a3 := hm.dl
  have ll := loads_len m
  have xl := S.o.len
  have dfl_l : (dfl m x s).length = m.drv.length := by simp [dfl]
  have lfl_l : (lfl m x).length = m.ns.length := by simp [lfl]
  unfold Ns
  simp [t6__law_sure_hold]
  refine ⟨by omega, ?_⟩
  rw [rng0]
  refine forD_inv (fun _ e => Fv m x s e) ⟨_, _, _, _, _, _, _, _, _, _, rfl⟩ ?_ fun e he => h e he
  rintro j d e hd ⟨s13, s14, s15, s16, s17, s18, s19, s20, s21, s22, rfl⟩ nx hnx
  obtain ⟨hj, rfl⟩ := get_rng (by rw [rng0]; exact hd)
  unfold Ns
  simp
  refine row_gl.len ?_
  simp [dfl_l]
  refine ⟨by omega, by rw [rng_len]; omega, ?_⟩
  rw [rng0]
  refine compD_FE dq (fun k => g (dfl m x s) k) (fun k => decide ((m.drv.getD k ("", 0)).1 = m.ns.getD j "")) (fun k hk Q R z => ?_) ?_
  · have hk := List.mem_range.mp hk
    have e0 := drv_at hk
    have e1 : m.ns[j]? = some (m.ns.getD j "") := by rw [ns_getD hj]; exact List.getElem?_eq_getElem hj
    generalize m.drv.getD k ("", 0) = u at *
    generalize m.ns.getD j "" = y at *
    unfold cStep
    simp
    refine ⟨_, ⟨_, _, e0, rfl⟩, ?_⟩
    simp [dtl]
    refine ⟨_, ⟨_, e1, rfl⟩, ?_⟩
    rw [eqs_s.eqv]
    refine ⟨eqs_s.ok y, ?_⟩
    by_cases c : u.1 = y
    · simp [c] at z ⊢
      exact row_gl.ixg (by omega) z
    · simp [c] at z ⊢
      exact z
  · have eo : (((List.range m.drv.length).filter fun k => decide ((m.drv.getD k ("", 0)).1 = m.ns.getD j "")).map fun k => g (dfl m x s) k) = ownl m x s j := rfl
    rw [eo]
    have ol : (ownl m x s j).length ≤ m.drv.length := by
      unfold ownl
      rw [List.length_map]
      exact Nat.le_trans (List.length_filter_le _ _) (by simp)
    unfold Fl
    simp [-List.map_map]
    refine ⟨by omega, ?_⟩
    refine compD_E (e := dT) dq (fun r => g r j) (fun r hr Q R z => ?_) ?_
    · obtain ⟨k, hk, rfl⟩ := List.mem_map.mp hr
      unfold cStep
      simp
      exact row_gl.ixg (by simp [pfl]; omega) z
    · rw [show Dt.lst (((List.range m.parts.length).map (pfl m x s)).map dT) = Fl m x s from rfl]
      refine row_gl.ixg (by omega) ?_
      simp [-List.map_map]
      refine ⟨by omega, ?_⟩
      have et : ((((List.range m.parts.length).map (pfl m x s)).map fun r => g r j).map dq) ++ dq (g (lfl m x) j) :: (ownl m x s j).map dq = dqs (thil m x s j) := by
        simp [thil, Function.comp_def]
      rw [et]
      refine ⟨by omega, ?_⟩
      refine lc__law_sum (.inl rfl) (thil_sums S hj) ?_
      rw [S.thing0 hj]
      simp [dq]
      exact hnx _ ⟨_, _, _, _, _, _, _, _, _, _, rfl⟩
theorem add_dT2 {a b : List Rat} (h : a.length + b.length ≤ 1000) {Q : Dt → Prop} (q : Q (dT (a ++ b))) : catT (dT a) (dT b) Q := by
  have e : dT (a ++ b) = .tup (dqs a ++ dqs b) := by simp [dT]
  rw [e] at q
  unfold dT
  simp
  exact ⟨by omega, q⟩
theorem slT_take {r : List Rat} {k : Nat} (h : k ≤ r.length) {Q : Dt → Prop} (q : Q (dT (r.take k))) : slT (dT r) none (some (k : Int)) Q := by
  unfold dT at q ⊢
  rw [slT_r1, cut_take (by simpa using h), ← List.map_take]
  exact q
theorem slT_drop {r : List Rat} {k : Nat} (h : k ≤ r.length) {Q : Dt → Prop} (q : Q (dT (r.drop k))) : slT (dT r) (some (k : Int)) none Q := by
  unfold dT at q ⊢
  rw [slT_r1, cut_drop (by simpa using h), ← List.map_drop]
  exact q
theorem posl_comp {Q : Dt → Prop} {g : G} {env : List Sl} {r : List Rat} {it : IT} {ie : IE} (hs : ∀ v, v ∈ r → ∀ (Q : Dt → Prop) (R : Prop), (if 0 < v then Q (dq v) else R) → cStep g it ie env (dq v) Q R) (q : Q (.lst (dqs (posl r)))) : compD g it ie env Q (dqs r) [] := by
  refine compD_FE (e := dq) dq id (fun q => decide (0 < q)) (fun v hv Q R w => hs v hv Q R ?_) (by rw [List.map_id]; exact q)
  by_cases c : 0 < v
  · rw [if_pos c]; rw [if_pos (by simp [c])] at w; exact w
  · rw [if_neg c]; rw [if_neg (by simp [c])] at w; exact w
def Fw (m : Mc) (x s : List Rat) (e : List Sl) : Prop := ∃ s13 s14 s15 s16 s17 s18 s19 s20 s21 s22, e = [.im .st, .im m.d, .im (dT x), .im (Rs m), .im (.lst (dqs m.loads)), .im (Ns m), .im (.int (m.parts.length : Int)), .im (dT (s.take m.parts.length)), .im (dT (s.drop m.parts.length)), .im (dT s), .im (Fl m x s), .im (dT (dfl m x s)), .im (dT (lfl m x)), s13, s14, s15, s16, s17, s18, s19, s20, s21, s22]
theorem hE (S : Sur m x s) {e : List Sl} (he : Fv m x s e) (h : ∀ e, Fw m x s e → t2__law_sure_hold e Pp) : t5__law_sure_hold e Pp := by
  obtain ⟨s13, s14, s15, s16, s17, s18, s19, s20, s21, s22, rfl⟩ := he
  have hm := S.o.h
  have a1 := hm.n
  have a2 := hm.p
  have a3 := hm.dl
  have dfl_l : (dfl m x s).length = m.drv.length := by simp [dfl]
  have lfl_l : (lfl m x).length = m.ns.length := by simp [lfl]
  unfold Fl
  simp [t5__law_sure_hold, -List.map_map]
  refine ⟨by omega, ?_⟩
  refine compD_E (e := dT) (as := (List.range m.parts.length).map (pfl m x s)) dq (fun r => tot (posl r)) (fun r hr Q R z => ?_) ?_
  · obtain ⟨k, hk, rfl⟩ := List.mem_map.mp hr
    have hk := List.mem_range.mp hk
    unfold cStep
    simp
    refine row_gl.seq ⟨by simp [pfl]; omega, ?_⟩
    refine posl_comp (fun v hv Q R w => ?_) ?_
    · unfold cStep
      simp [dq]
      exact w
    · exact lc__law_sum (.inl rfl) (pas_sums S hk) z
  rw [show Dt.lst (((List.range m.parts.length).map (pfl m x s)).map dT) = Fl m x s from rfl]
  have eo : (((List.range m.parts.length).map (pfl m x s)).map fun r => tot (posl r)).map dq = dqs ((List.range m.parts.length).map fun k => tot (posl (pfl m x s k))) := by simp [Function.comp_def]
  rw [eo]
  generalize hon : dqs ((List.range m.parts.length).map fun k => tot (posl (pfl m x s k))) = on
  simp [t4__law_sure_hold]
  refine add_dT2 (by omega) ?_
  refine row_gl.seq ⟨by simp; omega, ?_⟩
  refine posl_comp (fun v hv Q R w => ?_) ?_
  · unfold cStep
    simp [dq]
    exact w
  refine lc__law_sum (.inl rfl) (put_sums S) ?_
  simp [t3__law_sure_hold]
  refine c_passed S ?_
  have e2 : ((List.range m.parts.length).map fun k => dq (tot (posl (pfl m x s k)))) = on := by rw [← hon]; simp [Function.comp_def]
  rw [e2]
  simp
  have pon : pln 2 (.lst on) := by rw [← hon]; exact pln_Rr _
  refine ⟨pon.ok, ifT (eqv_self pon) ?_⟩
  refine c_put_in S ?_
  have pd : pln 2 (dq (tot (posl (dfl m x s ++ lfl m x)))) := pln_dq
  refine ⟨pd.ok, ifT (eqv_self pd) ?_⟩
  refine c_circling S ?_
  unfold dL
  simp
  refine ⟨by omega, by rw [rng_len]; omega, ?_⟩
  rw [rng0]
  refine compD_FE (fun (n : Nat) => Dt.int (n : Int)) id (fun k => decide (tot (posl (dfl m x s ++ lfl m x)) < tot (posl (pfl m x s k)))) (fun k hk Q R z => ?_) ?_
  · have hk := List.mem_range.mp hk
    unfold cStep
    simp
    refine ⟨dq (tot (posl (pfl m x s k))), by rw [← hon]; simp [hk], ?_⟩
    refine c__law_less (ha := (put_sums S).tot) (hb := (pas_sums S hk).tot) ?_
    simp
    by_cases c : tot (posl (dfl m x s ++ lfl m x)) < tot (posl (pfl m x s k))
    · simp [c] at z ⊢
      exact z
    · simp [c] at z ⊢
      exact z
  · rw [List.map_id]
    have pc : pln 1 (.lst ((cirl m x s).map fun (n : Nat) => Dt.int (n : Int))) := pln_L
    refine ⟨⟨pc.ok, pc.ok⟩, ifT (eqv_self pc) ?_⟩
    exact h _ ⟨_, _, _, _, _, _, _, _, _, _, rfl⟩
theorem hF (S : Sur m x s) {e : List Sl} (he : Fw m x s e) (h : Pp.rt (.bl true)) : t2__law_sure_hold e Pp := by
  obtain ⟨s13, s14, s15, s16, s17, s18, s19, s20, s21, s22, rfl⟩ := he
  have hm := S.o.h
  have a1 := hm.n
  have a2 := hm.p
  have a3 := hm.dl
  have sl := srows_len m
  have ssl := S.s.len
  simp [t2__law_sure_hold]
  refine row_gl.len ?_
  simp
  refine ⟨by omega, ?_⟩
  rw [rng0]
  refine forD_inv (fun _ e => Fw m x s e) ⟨_, _, _, _, _, _, _, _, _, _, rfl⟩ ?_ fun e he => ?_
  · rintro k d e hd ⟨s13, s14, s15, s16, s17, s18, s19, s20, s21, s22, rfl⟩ nx hnx
    obtain ⟨hk, rfl⟩ := get_rng (by rw [rng0]; exact hd)
    simp
    have ks : k < s.length := hk
    rw [show (k : Int) + 1 = ((k + 1 : Nat) : Int) by omega]
    refine slT_take (by omega) ?_
    refine row_gl.ixg hk ?_
    have h12 : (1 / 2 : Rat) = Rat.divInt 1 2 := by rw [Rat.divInt_eq_div]; rfl
    have hh : Dt.tup [.int 1, .int 2] = dq (1 / 2) := by rw [h12]; rfl
    rw [hh]
    have s12 : Sm (1 / 2) := by rw [h12]; exact sz_divInt (by decide) (by decide) (by decide)
    refine z__law_add (S.s.f.sm k) s12 ?_
    rw [show Dt.tup [dq (g s k + 1 / 2)] = dT [g s k + 1 / 2] from rfl]
    refine add_dT2 (by simp; omega) ?_
    refine slT_drop (by omega) ?_
    refine add_dT2 (by simp; omega) ?_
    rw [show s.take k ++ [g s k + 1 / 2] ++ s.drop (k + 1) = bent s k from rfl]
    have bl := bent_len ks
    refine slT_take (by omega) ?_
    refine slT_drop (by omega) ?_
    refine c_is_balanced S.o (a := (bent s k).take m.parts.length) (b := (bent s k).drop m.parts.length) (by rw [List.length_take]; omega) (by rw [List.length_drop]; omega) ?_ ?_
    · rw [List.take_append_drop]
      exact bent_f S.s.f ks
    · rw [List.take_append_drop, S.bent_not ks]
      simp
      exact hnx _ ⟨_, _, _, _, _, _, _, _, _, _, rfl⟩
  · obtain ⟨s13, s14, s15, s16, s17, s18, s19, s20, s21, s22, rfl⟩ := he
    simp [t1__law_sure_hold]
    exact h
theorem c__law_sure_hold (S : Sur m x s) (q : P (.bl true)) : sp__law_sure_hold [.st, m.d, dT x, Rs m, .lst (dqs m.loads)] P E := by
  refine ⟨rfl, ?_⟩
  simp only [init_c, init_n, List.replicate]
  have hm := S.o.h
  have a1 := hm.n
  have a2 := hm.p
  have ht := m.tl
  simp [m__law_sure_hold]
  refine ⟨by omega, ?_⟩
  refine compD_E sD (fun t : String × String => t.1) (fun t ht Q R z => by unfold cStep; simp [dth]; exact z) ?_
  exact hA S (s1 := .no) (s2 := .no) (s3 := .no) (s4 := .no) (s5 := .no) (s6 := .no) (s7 := .no) (s8 := .no) (s9 := .no) (hB S (s1 := .no) (s2 := .no) (s3 := .no) (s4 := .no) (s5 := .no) (s6 := .no) (s7 := .no) (s8 := .no) (s9 := .no) (s10 := .no) (s11 := .no) (hC S (s1 := .no) (s2 := .no) (s3 := .no) (s4 := .no) (s5 := .no) (s6 := .no) (s7 := .no) (s8 := .no) (s9 := .no) (s10 := .no) (s11 := .no) (s12 := .no) (hD S ⟨_, _, _, _, _, _, _, _, _, _, rfl⟩ fun e he => hE S he fun e he => hF S he q)))
end KK

set_option maxRecDepth 100000
set_option maxHeartbeats 1000000
namespace KK
open PySem L2 DL FQ MX
variable {P : Dt → Prop} {E : Xc → Prop} {m : Mc} {k : Nat} {x s : List Rat} {Pp : Po} {wd : String}
/-- machines without one answer, and the word for them -/
def Bad (m : Mc) (wd : String) : Prop := ((¬ ∃ x, Sol m x) ∧ wd = "clash") ∨ ((∃ x, Sol m x) ∧ rk m.ns.length m.srows < m.ns.length ∧ wd = "loose")
theorem mov_no (h : m.fit) (b : Bad m wd) (q : E (mst wd)) : sp_moving [m.d] P E := by
  refine c_moving h (fun z => ?_) (fun x a1 a2 a3 a4 => ?_) fun z l => ?_
  · rcases b with ⟨b, e⟩ | ⟨b, e⟩
    · rw [← e]; exact q
    · exact absurd b z
  · rcases b with ⟨b, e⟩ | ⟨b, e, e2⟩
    · exact absurd ⟨_, a2⟩ b
    · omega
  · rcases b with ⟨b, e⟩ | ⟨b, e, e2⟩
    · exact absurd z b
    · rw [← e2]; exact q
theorem pus_no (h : m.fit) (b : Bad m wd) (q : E (mst wd)) : sp_pushes [m.d] P E := by
  refine ⟨rfl, ?_⟩
  simp only [init_c, init_n, List.replicate]
  simp [m_pushes]
  exact mov_no h b q
/-- one answer for the speeds, but more for the shares -/
structure Spr (m : Mc) (x : List Rat) : Prop where
  o : One m x
  b : sureB m = false
theorem pus_spare (S : Spr m x) (q : E (mst "spare")) : sp_pushes [m.d] P E :=
  c_pushes S.o.h (fun z => absurd ⟨_, S.o.sol⟩ z) (fun _ z => by have := S.o.r; omega) (fun _ _ => q) fun _ z => by rw [S.b] at z; cases z
theorem pfl_no (h : m.fit) (b : Bad m wd) (q : E (mst wd)) : sp_part_flows [m.d] P E := by
  refine ⟨rfl, ?_⟩
  simp only [init_c, init_n, List.replicate]
  simp [m_part_flows]
  exact mov_no h b q
theorem pfl_spare (S : Spr m x) (q : E (mst "spare")) : sp_part_flows [m.d] P E := by
  refine ⟨rfl, ?_⟩
  simp only [init_c, init_n, List.replicate]
  simp [m_part_flows]
  refine S.o.mov ?_
  refine c_rows_of S.o.h.ok ?_
  exact pus_spare S q
theorem cir_no (q : ∀ P, sp_part_flows [m.d] P E) : sp_circling [m.d] P E := by
  refine ⟨rfl, ?_⟩
  simp only [init_c, init_n, List.replicate]
  simp [m_circling]
  refine ⟨rfl, ?_⟩
  simp only [init_c, init_n, List.replicate]
  simp [m_passed]
  exact q _
theorem bal_no {v : Dt} (h : m.fit) (b : Bad m wd) (q : E (mst wd)) : sp_is_balanced [m.d, v] P E := by
  refine ⟨rfl, ?_⟩
  simp only [init_c, init_n, List.replicate]
  simp [m_is_balanced]
  exact mov_no h b q
theorem word_bad (h : m.fit) (b : Bad m wd) (hk : k < 4) (q : P (sD wd)) : sp__law_word [.int (k : Int), m.d] P E := by
  refine ⟨rfl, ?_⟩
  simp only [init_c, init_n, List.replicate]
  rcases (by omega : k = 0 ∨ k = 1 ∨ k = 2 ∨ k = 3) with rfl | rfl | rfl | rfl
  · simp [m__law_word]
    refine mov_no h b ?_
    simp [wdV]
    exact q
  · simp [m__law_word]
    refine pus_no h b ?_
    simp [wdV]
    exact q
  · simp [m__law_word]
    refine cir_no fun Q => pfl_no h b ?_
    simp [wdV]
    exact q
  · simp [m__law_word]
    refine bal_no h b ?_
    simp [wdV]
    exact q
theorem word_spare (S : Spr m x) (hk : k = 1 ∨ k = 2) (q : P (sD "spare")) : sp__law_word [.int (k : Int), m.d] P E := by
  refine ⟨rfl, ?_⟩
  simp only [init_c, init_n, List.replicate]
  rcases hk with rfl | rfl
  · simp [m__law_word]
    refine pus_spare S ?_
    simp [wdV]
    exact q
  · simp [m__law_word]
    refine cir_no fun Q => pfl_spare S ?_
    simp [wdV]
    exact q
/-- the law's walk -/
def Fx (e : List Sl) : Prop := ∃ s0 s2 s3 s4 s5 s6 s7 s8 s9 s10 s11 s12 s13 s14 s15 s16 s17 s18 s19 s20 s21 s22 s23 s24 s25 s26, e = [s0, .im .st, s2, s3, s4, s5, s6, s7, s8, s9, s10, s11, s12, s13, s14, s15, s16, s17, s18, s19, s20, s21, s22, s23, s24, s25, s26]
theorem lawBad (h : m.fit) (b : Bad m wd) {s0 s1 s2 s3 s4 s5 s6 s7 s8 s9 s10 s11 s12 s13 s14 s15 s16 s17 s18 s19 s20 s21 s22 s23 s24 s25 s26 : Sl} (q : ∀ e, Fx e → Pp.ct e) : t15_law [s0, .im .st, s2, .im m.d, .im (Ns m), .im (sD wd), s6, s7, s8, s9, s10, s11, s12, s13, s14, s15, s16, s17, s18, s19, s20, s21, s22, s23, s24, s25, s26] Pp := by
  simp [t15_law]
  rw [rng0]
  refine ⟨by decide, ?_⟩
  refine compD_E sD (fun _ => wd) (fun k hk Q R z => ?_) ?_
  · have hk := List.mem_range.mp hk
    unfold cStep
    simp
    exact word_bad h b hk z
  have p : pln 1 (.lst [sD wd, sD wd, sD wd, sD wd]) := fun y hy => by
    simp at hy
    rw [hy]
    exact pln_sD _
  refine ⟨⟨p.ok, p.ok⟩, ifT (eqv_self p) ?_⟩
  exact q _ ⟨_, _, _, _, _, _, _, _, _, _, _, _, _, _, _, _, _, _, _, _, _, _, _, _, _, _, rfl⟩
theorem get_ld {l : List (String × Rat)} (nd : (l.map (·.1)).Nodup) (y : String) : (getP (l.map fun t => ((Sum.inr (PySem.Str.ofString t.1) : Key), dq t.2)) (Sum.inr (PySem.Str.ofString y)) none).getD (dq 0) = dq (ldAt l y) := by
  by_cases hx : y ∈ l.map (·.1)
  · obtain ⟨u, hu, e⟩ := List.mem_map.mp hx
    rw [← e, getP_at (g := fun t : String × Rat => t.1) nd hu, ldAt_at nd hu]
    rfl
  · rw [getP_names (g := fun t : String × Rat => t.1) hx, ldAt_no hx]
    rfl
theorem lawG (h : One m x) {s0 s1 s2 s3 s4 s5 s6 s7 s8 s9 s10 s11 s12 s13 s14 s15 s16 s17 s18 s19 s20 s21 s22 s23 s24 s25 s26 : Sl} (q : t10_law [s0, .im .st, s2, .im m.d, .im (Ns m), .im (dT x), .im (.lst (m.drows.map dT)), .im (Rs m), .im (.lst (dqs m.loads)), .im (.bl (sureB m)), s10, s11, s12, s13, s14, s15, s16, s17, s18, s19, s20, s21, s22, s23, s24, s25, s26] Pp) : t15_law [s0, .im .st, s2, .im m.d, .im (Ns m), .im (dT x), s6, s7, s8, s9, s10, s11, s12, s13, s14, s15, s16, s17, s18, s19, s20, s21, s22, s23, s24, s25, s26] Pp := by
  have hm := h.h
  have a1 := hm.n
  have a2 := hm.p
  have a3 := hm.dl
  have a4 := hm.ll
  simp [t15_law]
  refine ⟨false, rfl, ?_⟩
  simp [t14_law]
  refine ⟨by omega, ?_⟩
  refine compD_E (e := dtl) dT (fun t : String × Rat => unit m.ns t.1) (fun t ht Q R z => ?_) ?_
  · unfold cStep
    unfold Ns
    simp [dtl]
    refine ⟨by omega, ?_⟩
    refine compD_E dq (fun y : String => if y = t.1 then 1 else 0) (fun y hy Q R z => ?_) ?_
    · unfold cStep
      simp
      by_cases c : y = t.1
      · simp [c] at z ⊢
        exact z
      · simp [c] at z ⊢
        exact z
    · simp
      simpa [dT, unit] using z
  rw [show m.drv.map (fun t : String × Rat => unit m.ns t.1) = m.drows from rfl]
  simp [t13_law]
  refine c__law_rows hm.ok ?_
  simp
  have rl := rows_len m
  have dl : m.drows.length = m.drv.length := by simp [Mc.drows]
  refine ⟨by omega, ?_⟩
  rw [show m.rows.map dT ++ m.drows.map dT = m.srows.map dT from srows_eq m]
  unfold Ns
  simp
  refine ⟨by omega, ?_⟩
  refine compD_E dq (ldAt m.lds) (fun y hy Q R z => ?_) ?_
  · unfold cStep
    simp
    refine ⟨m.lds.map fun t => ((Sum.inr (PySem.Str.ofString t.1) : Key), dq t.2), by simp [Function.comp_def, DL.prD, kD, dtl], ?_⟩
    obtain ⟨ks, xs, e1, e2, e3⟩ := dMerge_get (ps := m.lds.map fun t => ((Sum.inr (PySem.Str.ofString t.1) : Key), dq t.2)) (ks := []) (xs := []) rfl
    rw [e1]
    simp
    rw [e3, vD_nil, show Dt.tup [.int 0, .int 1] = dq 0 from rfl, get_ld hm.ld y]
    exact z
  rw [show m.ns.map (ldAt m.lds) = m.loads from rfl]
  simp [t12_law]
  refine c__law_rank (Mt_T m.srows) (srow_tab hm) fun T R L I => ?_
  rw [rk_inv (srow_tab hm).w I]
  have es : eqv (Dt.int (rk m.ns.length m.srows : Nat)) (Dt.int (m.srows.length : Nat)) = sureB m := by
    simp [sureB]
    omega
  rw [es]
  refine ⟨okD_int, ?_⟩
  simp [t11_law]
  refine c_drive_rows hm ?_
  simp
  refine ⟨by omega, ?_⟩
  refine compD_E (e := dT) dT id (fun r hr Q R z => ?_) ?_
  · unfold cStep
    simp
    exact row_gl.tup z
  rw [List.map_id]
  have pD : pln 3 (.lst (m.drows.map dT)) := pln_M _
  refine ⟨⟨pD.ok, pD.ok⟩, ifT (eqv_self pD) ?_⟩
  refine h.mov ?_
  refine row_gl.tup ?_
  have pX := pln_T x
  refine ⟨⟨pX.ok, pX.ok⟩, ifT (eqv_self pX) ?_⟩
  refine c_is_sure hm ?_
  simp
  exact q
theorem pln_prt (p : Prt) : pln 2 p.d := by
  cases p <;> intro y hy <;> simp at hy <;> rcases hy with rfl | rfl | rfl | rfl | rfl | rfl <;> first | exact pln_sD _ | exact pln_int
/-- values that are no shares: all are told so -/
theorem lawO (h : One m x) {s0 s1 s2 s3 s4 s5 s6 s7 s8 s9 s10 s11 s12 s13 s14 s15 s16 s17 s18 s19 s20 s21 s22 s23 s24 s25 s26 : Sl} (q : ∀ s19, Pp.nx [s0, .im .st, s2, .im m.d, s4, s5, s6, s7, s8, s9, s10, s11, s12, s13, s14, s15, s16, s17, s18, s19, s20, s21, s22, s23, s24, s25, s26]) : t7_law [s0, .im .st, s2, .im m.d, s4, s5, s6, s7, s8, s9, s10, s11, s12, s13, s14, s15, s16, s17, s18, s19, s20, s21, s22, s23, s24, s25, s26] Pp := by
  have hm := h.h
  have a2 := hm.p
  have a3 := hm.dl
  simp [t7_law, -List.reduceReplicate]
  have pp : pln 3 (.tup (m.parts.map Prt.d)) := fun y hy => by
    obtain ⟨r, _, rfl⟩ := List.mem_map.mp hy
    exact pln_prt r
  have p0 : pln 3 (.tup []) := fun y hy => by simp at hy
  have fin : ∀ vs : List Dt, (∀ v ∈ vs, OddV m v) → vs.length ≤ 10 → t6_law [s0, .im .st, s2, .im m.d, s4, s5, s6, s7, s8, s9, s10, s11, s12, s13, s14, s15, s16, s17, s18, .im (.lst vs), s20, s21, s22, s23, s24, s25, s26] Pp := fun vs hv hl => by
    simp [t6_law]
    refine ⟨by omega, ?_⟩
    refine compD_no (fun v mv Q R w => ?_) ?_
    · unfold cStep
      simp
      refine c_is_balanced_odd h (hv v mv) ?_
      simp
      exact w
    · simp
      exact q _
  refine ⟨⟨pp.ok, p0.ok⟩, ?_⟩
  by_cases c : m.parts = []
  · have e : eqv (.tup (m.parts.map Prt.d)) (.tup []) = true := by rw [c]; exact eqv_self p0
    rw [if_pos e]
    refine ⟨⟨pp.ok, p0.ok⟩, ifT e ?_⟩
    refine fin _ (fun v hv => ?_) (by simp)
    simp only [List.mem_cons, List.not_mem_nil, or_false] at hv
    rcases hv with rfl | rfl | rfl | rfl | rfl | rfl
    · exact .n
    · exact .e
    · exact .l
    · exact .n
    · exact .w
    · exact .n
  · have e : eqv (.tup (m.parts.map Prt.d)) (.tup []) = false := eqv_false pp p0 (by simp [c])
    rw [if_neg (by rw [e]; decide), if_neg (by rw [e]; decide)]
    refine ⟨⟨pp.ok, p0.ok⟩, by omega, by omega, ?_⟩
    refine fin _ (fun v hv => ?_) (by simp)
    simp only [List.mem_cons, List.not_mem_nil, or_false] at hv
    rcases hv with rfl | rfl | rfl | rfl | rfl | rfl
    · exact .n
    · exact .e
    · exact .l
    · exact .z c
    · exact .w
    · exact .b c
end KK

set_option maxRecDepth 100000
set_option maxHeartbeats 1000000
namespace KK
open PySem L2 DL FQ MX
variable {P : Dt → Prop} {E : Xc → Prop} {m : Mc} {k : Nat} {x s : List Rat} {Pp : Po} {wd : String}
/-- where there is a point, the whole table does not lead in the last column -/
theorem whole_pt {n : Nat} {M : List (List Rat)} {b : Vc} (w : ∀ r ∈ M, r.length = n) (ex : ∃ x, ∀ i, i < M.length → dt n (g (M.getD i [])) x = b i) {T R : List (List Rat)} {L : List Nat} (J : Inv (n + 1) (n + 1) (n + 1) (aug n M b) T R L) :
    ∃ R', Inv n (n + 1) n (aug n M b) T R' L ∧ ∀ r ∈ R', g r n = 0 := by
  obtain ⟨T', R', L', I⟩ := Inv.ext_ (n := n) (W := n + 1) (aug n M b) (by omega) (aug_len w) n (Nat.le_refl _)
  have z : ∀ r ∈ R', g r n = 0 := fun r hr => Classical.byContradiction fun k => by
    obtain ⟨x, hx⟩ := ex
    obtain ⟨y, h1, h2⟩ := I.none_ w hr k
    exact h2 (none_not hx h1)
  have nu : ∀ x, Nul (n + 1) T x ↔ Nul (n + 1) T' x := fun x => by
    rw [J.nul0, ← I.nul x]
    refine ⟨fun q => q.1, fun q => ⟨q, I.nulR fun j a b r hr => ?_⟩⟩
    rw [show j = n by omega, z r hr]
    grind
  have eLL : L = L' := leads_eq J.rr I.rr1 fun x => (nu x).symm
  subst eLL
  have eT : T = T' := table_eq J.rr I.rr1 (fun x q => (nu x).mpr q) J.wT I.wT
  subst eT
  exact ⟨R', I, z⟩
theorem pnt_fin {n : Nat} {M : List (List Rat)} {b : Vc} {T R : List (List Rat)} {L : List Nat} (I : Inv n (n + 1) n (aug n M b) T R L) (e : En6 (aug n M b)) (hn : n ≤ 25) : Fin6 ((List.range n).map (pnt T L n)) := by
  obtain ⟨D, D0, D1, D2⟩ := way_sc I I.rr1 e.sc (k := n) (by omega) I.not_n
  have yl : yb 840 L.length < 2 ^ 420 := yb25 (by have := I.len_n; omega)
  refine ⟨D, yb 840 L.length, D0, by omega, yl, fun j => ?_⟩
  by_cases hj : j < n
  · rw [show g ((List.range n).map (pnt T L n)) j = pnt T L n j by simp [g, List.getD_eq_getElem?_getD, hj]]
    by_cases hl : j ∈ L
    · obtain ⟨q, e1, e2⟩ := D2 j (by omega)
      have hw := way_lead I.rr1 (idx_get hl) (c := n) (by omega)
      refine ⟨-q, ?_, by omega⟩
      have : pnt T L n j = - way T L n j := by
        rw [hw]
        simp [pnt, hl]
      rw [this, Rat.intCast_neg, ← e1]
      try grind
    · rw [show pnt T L n j = 0 by simp [pnt, hl]]
      exact .zero
  · rw [g_ge (by simp; omega)]
    exact .zero
def ngl (m : Mc) : List Rat := m.loads.map fun v => -v
theorem ngl_len (m : Mc) : (ngl m).length = m.ns.length := by rw [ngl, List.length_map, loads_len]
theorem g_ngl (m : Mc) (c : Nat) : g (ngl m) c = - g m.loads c := by rw [ngl, g_map (by decide)]
def Tn (m : Mc) : List (List Rat) := aug m.srows.length (trn m.ns.length m.srows) (g (ngl m))
theorem trn_wd (m : Mc) : ∀ r ∈ trn m.ns.length m.srows, r.length = m.srows.length := fun r hr => by
  obtain ⟨c, _, e⟩ := List.mem_map.mp hr
  rw [← e, List.length_map]
theorem ngl6 (h : m.fit) (j : Nat) : S1 6 840 (g (ngl m) j) := by
  rw [g_ngl]
  exact (S1.g6 (loads_S1 h) j).neg
theorem Tn6 (h : m.fit) : En6 (Tn m) := aug6 (n := m.ns.length) (srows6 h) (ngl6 h)
theorem Tn_len (m : Mc) : (Tn m).length = m.ns.length := by simp [Tn, aug, trn_len]
theorem Tn_w (m : Mc) : ∀ r ∈ Tn m, r.length = m.srows.length + 1 := aug_len (trn_wd m)
theorem Tn_tab (h : m.fit) : Tab (m.srows.length + 1) (m.srows.length + 1) (Tn m) := by
  have h1 := h.n
  have := srows_le h
  exact tab6 (Tn_w m) (Nat.le_refl _) (by omega) (by rw [Tn_len]; omega) (by omega) (Tn6 h)
theorem trn_tab (h : m.fit) : Tab m.srows.length m.srows.length (trn m.ns.length m.srows) := by
  have h1 := h.n
  have := srows_le h
  exact tab6 (trn_wd m) (Nat.le_refl _) (by omega) (by rw [trn_len]; omega) (by omega) (trn6 (srows6 h))
theorem Tn_ex (h : One m x) : ∃ y, ∀ i, i < (trn m.ns.length m.srows).length → dt m.srows.length (g ((trn m.ns.length m.srows).getD i [])) y = g (ngl m) i := by
  have hm := h.h
  obtain ⟨T, R, L, I⟩ := Inv.ext_ (n := m.srows.length) (W := m.srows.length + 1) (Tn m) (by omega) (Tn_w m) m.srows.length (Nat.le_refl _)
  have z : ∀ r ∈ R, g r m.srows.length = 0 := fun r hr => Classical.byContradiction fun k => made_no (n := m.ns.length) (gl := ngl m) I ⟨r, hr, k⟩ (full_dep (srows_w m) h.r _)
  exact ⟨_, I.point (trn_wd m) z⟩
/-- the law's own shares -/
structure Own (m : Mc) (s : List Rat) : Prop where
  len : s.length = m.srows.length
  z : ∀ c, c < m.ns.length → dt m.srows.length (fun j => at2 m.srows j c) (g s) = - g m.loads c
  f : Fin6 s
theorem own_of (h : One m x) {T R : List (List Rat)} {L : List Nat} (J : Inv (m.srows.length + 1) (m.srows.length + 1) (m.srows.length + 1) (Tn m) T R L) :
    (∀ l ∈ L, l < m.srows.length) ∧ Own m ((List.range m.srows.length).map (pnt T L m.srows.length)) := by
  have := srows_le h.h
  obtain ⟨R', I, z⟩ := whole_pt (trn_wd m) (Tn_ex h) J
  refine ⟨I.lt, by simp, fun c hc => ?_, pnt_fin I (Tn6 h.h) (by omega)⟩
  have := made_eq (n := m.ns.length) (gl := ngl m) I z c hc
  rw [g_ngl] at this
  rw [← this]
  unfold dt
  exact sm_congr fun j hj => by rw [show g ((List.range m.srows.length).map (pnt T L m.srows.length)) j = pnt T L m.srows.length j by simp [g, List.getD_eq_getElem?_getD, hj]]
/-- shares with a null of them are shares as well -/
structure Nll (m : Mc) (v : List Rat) : Prop where
  len : v.length = m.srows.length
  z : ∀ c, c < m.ns.length → dt m.srows.length (fun j => at2 m.srows j c) (g v) = 0
  f : Fin6 v
def addv (s v : List Rat) : List Rat := (List.range s.length).map fun k => g s k + g v k
theorem addv_bal (o : Own m s) {v : List Rat} (n : Nll m v) : balB m (addv s v) = true := by
  simp [balB]
  intro j hj
  unfold rst
  rw [dt_comm]
  have : dt m.srows.length (fun k => at2 m.srows k j) (g (addv s v)) = dt m.srows.length (fun k => at2 m.srows k j) fun i => 1 * g s i + 1 * g v i := by
    unfold dt
    exact sm_congr fun i hi => by
      rw [show g (addv s v) i = g s i + g v i by simp [addv, g, List.getD_eq_getElem?_getD, o.len, hi]]
      grind
  rw [this, dt_linR, o.z j hj, n.z j hj]
  grind
theorem addv_f {v : List Rat} (h1 : Fin6 s) (h2 : Fin6 v) : ∃ d X : Nat, 0 < d ∧ d < 2 ^ 860 ∧ X < 2 ^ 860 ∧ ∀ j, S1 d X (g (addv s v) j) := by
  obtain ⟨d, X, a0, a1, a2, a3⟩ := h1
  obtain ⟨e, Y, b0, b1, b2, b3⟩ := h2
  have c1 := p852 a1 b1
  have c2 := p852 a2 b1
  have c3 := p852 b2 a1
  have p : 2 ^ 850 + 2 ^ 850 ≤ 2 ^ 860 := by
    have : 2 ^ 850 * 2 ≤ 2 ^ 850 * 2 ^ 10 := Nat.mul_le_mul_left _ (by decide)
    rw [← Nat.pow_add] at this
    omega
  have l : ∀ a b : Nat, a * b ≤ a * 840 * b := fun a b => Nat.mul_le_mul_right _ (Nat.le_mul_of_pos_right _ (by decide))
  have l1 := l d e
  have l2 := l X e
  have l3 := l Y d
  refine ⟨d * e, X * e + Y * d, Nat.mul_pos a0 b0, by omega, by omega, fun j => ?_⟩
  by_cases hj : j < s.length
  · rw [show g (addv s v) j = g s j + g v j by simp [addv, g, List.getD_eq_getElem?_getD, hj]]
    have t1 := (a3 j).scale (e := e)
    have t2 := (b3 j).scale (e := d)
    rw [Nat.mul_comm e d] at t2
    exact t1.add t2
  · rw [g_ge (by simp [addv]; omega)]
    exact .zero
theorem null0 (m : Mc) : Nll m (List.replicate m.srows.length 0) := by
  have g0 : ∀ j, g (List.replicate m.srows.length (0 : Rat)) j = 0 := fun j => by
    by_cases hj : j < m.srows.length
    · simp [g, List.getD_eq_getElem?_getD, hj]
    · exact g_ge (by simp; omega)
  exact ⟨by simp, fun c hc => sm_zero fun j hj => by rw [g0]; grind, ⟨1, 1, by decide, by decide, by decide, fun j => by rw [g0]; exact .zero⟩⟩
theorem nulls_of (h : m.fit) {T R : List (List Rat)} {L : List Nat} (J : Inv m.srows.length m.srows.length m.srows.length (trn m.ns.length m.srows) T R L) {v : List Rat} (hv : v ∈ waysL T L m.srows.length) : Nll m v := by
  have := srows_le h
  refine ⟨ways_len v hv, fun c hc => ?_, ?_⟩
  · have hr : (trn m.ns.length m.srows).getD c [] ∈ trn m.ns.length m.srows := at_mem (by rw [trn_len]; exact hc)
    have := ways_keep J hv hr
    rw [← this]
    unfold dt
    exact sm_congr fun j hj => by
      show at2 m.srows j c * _ = _
      rw [← at2_trn (M := m.srows) (k := j) hc]
      rfl
  · obtain ⟨c, hc, rfl⟩ := List.mem_map.mp hv
    obtain ⟨hc, hL⟩ := mem_frees.mp hc
    obtain ⟨D, D0, D1, D2⟩ := way_sc J J.rr (trn6 (n := m.ns.length) (srows6 h)).sc hc hL
    have yl : yb 840 L.length < 2 ^ 420 := yb25 (by have := J.len_n; omega)
    refine ⟨D, yb 840 L.length, D0, by omega, yl, fun j => ?_⟩
    by_cases hj : j < m.srows.length
    · rw [g_wayL hj]; exact D2 j hj
    · rw [g_ge (by simp [wayL]; omega)]
      exact .zero
end KK

set_option maxRecDepth 100000
set_option maxHeartbeats 1000000
namespace KK
open PySem L2 DL FQ MX
variable {P : Dt → Prop} {E : Xc → Prop} {m : Mc} {k : Nat} {x s : List Rat} {Pp : Po} {wd : String} {ws : List (List Rat)}
theorem cut_last {xs : List Dt} (h : xs ≠ []) : cut xs none (some (-1)) = xs.dropLast := by
  have : 0 < xs.length := List.length_pos_iff.mpr h
  unfold cut
  rw [List.dropLast_eq_take]
  simp [HT.sIx]
  congr 1
  omega
/-- not sure: the law's own shares are shares -/
theorem lawN1 (h : One m x) {s0 s1 s2 s3 s4 s5 s6 s7 s8 s9 s10 s11 s12 s13 s14 s15 s16 s17 s18 s19 s20 s21 s22 s23 s24 s25 s26 : Sl} (q : ∀ s10 s11 s12 s13 s14 s15 s16 s17 s18, Pp.nx [s0, .im .st, s2, .im m.d, .im (Ns m), .im (dT x), s6, .im (Rs m), .im (.lst (dqs m.loads)), .im (.bl false), s10, s11, s12, s13, s14, s15, s16, s17, s18, s19, s20, s21, s22, s23, s24, s25, s26]) (o : Own m s)
    (hs : ∀ v, v ∈ ws → Nll m v) (hl : ws.length ≤ 30) :
    t1_law [s0, .im .st, s2, .im m.d, .im (Ns m), .im (dT x), s6, .im (Rs m), .im (.lst (dqs m.loads)), .im (.bl false), s10, s11, s12, .ow (dR s), s14, .im (.int (m.parts.length : Int)), .im (.lst (ws.map dT)), s17, s18, s19, s20, s21, s22, s23, s24, s25, s26] Pp := by
  have hm := h.h
  have a1 := hm.n
  have a2 := srows_le hm
  have a3 := hm.p
  have sl := srows_len m
  unfold Rs
  simp [t1_law, -List.map_map]
  refine ⟨by omega, ?_⟩
  refine ⟨by omega, ?_⟩
  refine forD_inv (fun _ e => ∃ s14 s17 s18, e = [s0, .im .st, s2, .im m.d, .im (Ns m), .im (dT x), s6, .im (.lst (m.srows.map dT)), .im (.lst (dqs m.loads)), .im (.bl false), s10, s11, s12, .ow (dR s), s14, .im (.int (m.parts.length : Int)), .im (.lst (ws.map dT)), s17, s18, s19, s20, s21, s22, s23, s24, s25, s26]) ⟨_, _, _, rfl⟩ ?_ ?_
  · rintro i d e hd ⟨s14, s17, s18, rfl⟩ nx hnx
    obtain ⟨v, hv, hq⟩ : ∃ v, Nll m v ∧ Sq d (dqs v) := by
      have md := List.mem_of_getElem? hd
      rcases List.mem_cons.mp md with rfl | md
      · exact ⟨_, null0 m, .inl (by simp [dqs]; exact .inr rfl)⟩
      · obtain ⟨v, hv, rfl⟩ := List.mem_map.mp md
        exact ⟨v, hs v hv, row_gl⟩
    have ol := o.len
    simp
    refine ⟨by omega, by rw [rng_len]; omega, ?_⟩
    rw [rng0]
    refine compD_E dq (fun k => g s k + g v k) (fun k hk Q R z => ?_) ?_
    · have hk := List.mem_range.mp hk
      unfold cStep
      simp
      refine Sq.ixg (d := dR s) (.inl rfl) (by omega) ?_
      refine hq.ixg (by rw [hv.len]; omega) ?_
      exact z__law_add (o.f.sm k) (hv.f.sm k) z
    have ea : ((List.range m.srows.length).map fun k => g s k + g v k) = addv s v := by unfold addv; rw [ol]
    rw [ea]
    rw [show tupD (.lst ((addv s v).map dq)) = fun Q => Q (dT (addv s v)) from rfl]
    have al : (addv s v).length = m.srows.length := by simp [addv, ol]
    simp
    refine slT_take (by omega) ?_
    refine slT_drop (by omega) ?_
    refine c_is_balanced h (a := (addv s v).take m.parts.length) (b := (addv s v).drop m.parts.length) (by rw [List.length_take]; omega) (by rw [List.length_drop]; omega) ?_ ?_
    · rw [List.take_append_drop]
      exact addv_f o.f hv.f
    · rw [List.take_append_drop, addv_bal o hv]
      simp
      exact hnx _ ⟨_, _, _, rfl⟩
  · rintro e ⟨s14, s17, s18, rfl⟩
    exact q _ _ _ _ _ _ _ _ _
theorem lawN (h : One m x) (b : sureB m = false) {s0 s1 s2 s3 s4 s5 s6 s7 s8 s9 s10 s11 s12 s13 s14 s15 s16 s17 s18 s19 s20 s21 s22 s23 s24 s25 s26 : Sl} (q : ∀ s10 s11 s12 s13 s14 s15 s16 s17 s18, t7_law [s0, .im .st, s2, .im m.d, .im (Ns m), .im (dT x), s6, .im (Rs m), .im (.lst (dqs m.loads)), .im (.bl false), s10, s11, s12, s13, s14, s15, s16, s17, s18, s19, s20, s21, s22, s23, s24, s25, s26] Pp) :
    t8_law [s0, .im .st, s2, .im m.d, .im (Ns m), .im (dT x), s6, .im (Rs m), .im (.lst (dqs m.loads)), .im (.bl false), s10, s11, s12, s13, s14, s15, s16, s17, s18, s19, s20, s21, s22, s23, s24, s25, s26] Pp := by
  have hm := h.h
  have a1 := hm.n
  have a2 := srows_le hm
  have ll := loads_len m
  unfold Ns Rs
  simp [t8_law]
  refine ⟨by omega, by rw [rng_len]; omega, ?_⟩
  rw [rng0]
  refine compD_E dT (fun c => (trn m.ns.length m.srows).getD c [] ++ [g (ngl m) c]) (fun c hc Q R z => ?_) ?_
  · have hc := List.mem_range.mp hc
    unfold cStep
    simp
    refine ⟨by omega, ?_⟩
    refine compD_E (e := dT) dq (fun r => g r c) (fun r hr Q R z => ?_) ?_
    · unfold cStep
      simp
      exact row_gl.ixg (by rw [srows_w m r hr]; exact hc) z
    simp [-List.map_map]
    refine ⟨dq (g m.loads c), ⟨_, get_g (by omega), rfl⟩, ?_⟩
    refine c__law_turn ?_
    rw [trn_get hc, g_ngl] at z
    refine ⟨by omega, ?_⟩
    have e : dT ((m.srows.map fun r => g r c) ++ [- g m.loads c]) = .tup (((m.srows.map fun r => g r c).map dq) ++ [dq (- g m.loads c)]) := by simp [dT]
    rw [e] at z
    exact z
  have eT : ((List.range m.ns.length).map fun c => (trn m.ns.length m.srows).getD c [] ++ [g (ngl m) c]) = Tn m := by
    unfold Tn aug
    rw [trn_len]
  rw [eT]
  simp [t5_law]
  have tl := Tn_len m
  refine ⟨by omega, ?_⟩
  refine compD_E (e := dT) dR id (fun r hr Q R z => ?_) ?_
  · unfold cStep
    simp
    exact row_gl.lst z
  rw [List.map_id]
  have e1 : (m.srows.length : Int) + 1 = ((m.srows.length + 1 : Nat) : Int) := by omega
  rw [e1]
  refine c__law_put_out mt_dM (Tn_tab hm) fun T R L J => ?_
  obtain ⟨Llt, o⟩ := own_of h J
  simp [t4_law]
  refine ⟨by omega, ?_⟩
  unfold dL
  simp [t3_law]
  have lL := J.len_n
  refine ⟨by omega, ?_⟩
  have wT := J.wT
  have keyA : ∀ k, k < L.length → ((T ++ R).map dR)[k]? = some (dR (T.getD k [])) := fun k hk => (at2_get (R := R) (n := m.srows.length + 1) (c := 0) (by rw [J.len]; exact hk) (by omega) wT).1
  have keyB : ∀ k, k < L.length → ∀ c, c < m.srows.length + 1 → (dqs (T.getD k []))[c]? = some (dq (at2 T k c)) := fun k hk c hc => (at2_get (R := R) (by rw [J.len]; exact hk) hc wT).2
  rw [rng0, show Dt.tup [.int 0, .int 1] = dq 0 from rfl, ← pk_0 (T := T) (L := L)]
  refine forD_inv (fun k e => ∃ s14, e = [s0, .im .st, s2, .im m.d, .im (.lst (m.ns.map sD)), .im (dT x), s6, .im (.lst (m.srows.map dT)), .im (.lst (dqs m.loads)), .im (.bl false), .im (.lst ((Tn m).map dT)), .im (dM (T ++ R)), .im (.lst (L.map fun (n : Nat) => .int (n : Int))), .ow (.lst ((List.range m.srows.length).map fun j => dq (pk T (L.take k) L m.srows.length j))), s14, s15, s16, s17, s18, s19, s20, s21, s22, s23, s24, s25, s26]) ⟨_, rfl⟩ ?_ ?_
  · rintro k d e hd ⟨s14, rfl⟩ nx hnx
    obtain ⟨hk, rfl⟩ := get_rng (by rw [rng0]; exact hd)
    have gl : L[k]? = some L[k] := List.getElem?_eq_getElem hk
    have hl : L[k] < m.srows.length := Llt _ (List.getElem_mem hk)
    have st := pk_set (n := m.srows.length) (T := T) J.sorted gl
    simp
    unfold dM
    refine Sq.ix (xs := (T ++ R).map dR) (.inl rfl) (keyA k hk) ?_
    refine Sq.ix (xs := dqs (T.getD k [])) (.inl rfl) (keyB k hk m.srows.length (by omega)) ?_
    refine ⟨.int L[k], ⟨_, gl, rfl⟩, L[k], ixN_nat (by simpa using hl), ?_⟩
    rw [st]
    exact hnx _ ⟨_, rfl⟩
  · rintro e ⟨s14, rfl⟩
    rw [List.length_map, List.length_range, List.take_length]
    have es : ((List.range m.srows.length).map fun j => dq (pk T L L m.srows.length j)) = dqs ((List.range m.srows.length).map (pnt T L m.srows.length)) := by simp [Function.comp_def, pk_all]
    rw [es]
    generalize (List.range m.srows.length).map (pnt T L m.srows.length) = s at *
    simp [t2_law]
    refine ⟨by omega, ?_⟩
    refine compD_E (e := dT) (as := Tn m) dT (fun r => r.take m.srows.length) (fun r hr Q R z => ?_) ?_
    · have rl := Tn_w m r hr
      unfold cStep
      simp
      unfold dT
      rw [slD_t, cut_last (by intro e; rw [List.map_eq_nil_iff] at e; rw [e] at rl; simp at rl), ← List.map_dropLast]
      have : r.take m.srows.length = r.dropLast := by rw [List.dropLast_eq_take, rl]; rfl
      rw [this] at z
      exact z
    have eC : (Tn m).map (fun r => r.take m.srows.length) = trn m.ns.length m.srows := by
      unfold Tn aug
      rw [List.map_map]
      refine List.ext_getElem (by simp) fun i h1 h2 => ?_
      rw [trn_len] at h2
      have lr : ((trn m.ns.length m.srows).getD i []).length = m.srows.length := trn_wd m _ (at_mem (by rw [trn_len]; exact h2))
      simp [-List.getD_eq_getElem?_getD]
      rw [List.take_append_of_le_length (by omega), List.take_of_length_le (by omega)]
      simp [List.getD_eq_getElem?_getD, trn_len, h2]
    rw [eC]
    refine c__law_ways (Mt_T _) (trn_tab hm) fun T2 R2 L2 K => ?_
    have wl : (waysL T2 L2 m.srows.length).length ≤ 30 := by
      have := frees_len K.rr
      simp [waysL]
      omega
    refine lawN1 h (s1 := .no) (s3 := .no) (s4 := .no) (s5 := .no) (s7 := .no) (s8 := .no) (s9 := .no) (s13 := .no) (s15 := .no) (s16 := .no) q o (fun v hv => nulls_of hm K hv) wl
end KK

set_option maxRecDepth 100000
set_option maxHeartbeats 1000000
namespace KK
open PySem L2 DL FQ MX
variable {P : Dt → Prop} {E : Xc → Prop} {m : Mc} {k : Nat} {x s : List Rat} {Pp : Po} {wd : String}
theorem sur_ex (h : One m x) (b : sureB m = true) : ∃ s, Sur m x s := by
  obtain ⟨T, R, L, J⟩ := Inv.exX (n := m.srows.length + 1) (W := m.srows.length + 1) (M := Tn m) (Nat.le_refl _) (Tn_w m)
  obtain ⟨_, o⟩ := own_of h J
  exact ⟨_, h, b, o.len, o.z, o.f⟩
theorem lawH (h : One m x) {s0 s1 s2 s3 s4 s5 s6 s7 s8 s9 s10 s11 s12 s13 s14 s15 s16 s17 s18 s19 s20 s21 s22 s23 s24 s25 s26 : Sl} (q : ∀ e, Fx e → Pp.nx e) : t10_law [s0, .im .st, s2, .im m.d, .im (Ns m), .im (dT x), .im (.lst (m.drows.map dT)), .im (Rs m), .im (.lst (dqs m.loads)), .im (.bl (sureB m)), s10, s11, s12, s13, s14, s15, s16, s17, s18, s19, s20, s21, s22, s23, s24, s25, s26] Pp := by
  have fin : ∀ s0 s2 s4 s5 s6 s7 s8 s9 s10 s11 s12 s13 s14 s15 s16 s17 s18 s19 s20 s21 s22 s23 s24 s25 s26, t7_law [s0, .im .st, s2, .im m.d, s4, s5, s6, s7, s8, s9, s10, s11, s12, s13, s14, s15, s16, s17, s18, s19, s20, s21, s22, s23, s24, s25, s26] Pp := fun s0 s2 s4 s5 s6 s7 s8 s9 s10 s11 s12 s13 s14 s15 s16 s17 s18 s19 s20 s21 s22 s23 s24 s25 s26 => lawO h (s1 := .no) (s3 := .no) fun s19 => q _ ⟨_, _, _, _, _, _, _, _, _, _, _, _, _, _, _, _, _, _, _, _, _, _, _, _, _, _, rfl⟩
  by_cases b : sureB m = true
  · obtain ⟨s, S⟩ := sur_ex h b
    simp [t10_law, b]
    simp [t9_law]
    refine c__law_sure_hold S ?_
    simp
    simp [t8_law]
    exact fin _ _ _ _ _ _ _ _ _ _ _ _ _ _ _ _ _ _ _ _ _ _ _ _ _
  · have b : sureB m = false := by simpa using b
    simp [t10_law, b]
    refine ⟨by decide, ?_⟩
    have er : rng 1 1 2 = [1, 2].map fun n : Nat => Dt.int (n : Int) := rfl
    rw [er]
    refine compD_E sD (fun _ => "spare") (fun k hk Q R z => ?_) ?_
    · unfold cStep
      simp
      exact word_spare ⟨h, b⟩ (by simpa using hk) z
    have p : pln 1 (.lst [sD "spare", sD "spare"]) := fun y hy => by
      simp at hy
      rw [hy]
      exact pln_sD _
    refine ⟨⟨p.ok, p.ok⟩, ifT (eqv_self p) ?_⟩
    simp [t9_law]
    refine lawN h b (s1 := .no) (s3 := .no) (s4 := .no) (s5 := .no) (s7 := .no) (s8 := .no) (s9 := .no) fun s10 s11 s12 s13 s14 s15 s16 s17 s18 => fin _ _ _ _ _ _ _ _ _ _ _ _ _ _ _ _ _ _ _ _ _ _ _ _ _
def Shp (e : List Sl) : Prop := Fx e
theorem holds : m_law (env0 N_law.length i_law) { nx := fun _ => False, rt := fun d => d = .bl true } := by
  have e0 : env0 N_law.length i_law = [.no, .im .st, .no, .no, .no, .no, .no, .no, .no, .no, .no, .no, .no, .no, .no, .no, .no, .no, .no, .no, .no, .no, .no, .no, .no, .no, .no] := rfl
  rw [e0]
  simp only [m_law, sSeq_e, sFor_e, iRange1_e, aCons_e, aNil_e, eC_e, g1_e]
  refine ⟨by decide, ?_⟩
  refine forD_inv (fun _ e => Fx e) ⟨_, _, _, _, _, _, _, _, _, _, _, _, _, _, _, _, _, _, _, _, _, _, _, _, _, _, rfl⟩ ?_ ?_
  · rintro i d e - ⟨s0, s2, s3, s4, s5, s6, s7, s8, s9, s10, s11, s12, s13, s14, s15, s16, s17, s18, s19, s20, s21, s22, s23, s24, s25, s26, rfl⟩ nx hnx
    simp
    refine c__law_driven fun m hm => ?_
    have a1 := hm.n
    have ht := m.tl
    simp [t17_law]
    refine ⟨by omega, ?_⟩
    refine compD_E sD (fun t : String × String => t.1) (fun t ht Q R z => by unfold cStep; simp [dth]; exact z) ?_
    rw [show Dt.lst ((m.things.map (fun t : String × String => t.1)).map sD) = Ns m from rfl]
    simp [t16_law]
    refine c__law_speeds hm (fun z => ?_) (fun x o => ?_) fun z l => ?_
    · exact lawBad hm (s1 := .no) (s3 := .no) (s4 := .no) (s5 := .no) (wd := "clash") (.inl ⟨z, rfl⟩) fun e he => hnx e he
    · refine lawG o (s1 := .no) (s3 := .no) (s4 := .no) (s5 := .no) ?_
      refine lawH o (s1 := .no) (s3 := .no) (s4 := .no) (s5 := .no) (s6 := .no) (s7 := .no) (s8 := .no) (s9 := .no) ?_
      exact fun e he => hnx e he
    · exact lawBad hm (s1 := .no) (s3 := .no) (s4 := .no) (s5 := .no) (wd := "loose") (.inr ⟨z, l, rfl⟩) fun e he => hnx e he
  · rintro e ⟨s0, s2, s3, s4, s5, s6, s7, s8, s9, s10, s11, s12, s13, s14, s15, s16, s17, s18, s19, s20, s21, s22, s23, s24, s25, s26, rfl⟩
    simp
end KK

open PySem PySem.W PyProof.Rows
set_option maxRecDepth 100000 in
set_option maxHeartbeats 0 in
theorem PySem.Challenge.cw_cogwright_k34_whole_powers_holds : PySem.Challenge.rw_cogwright_k34_whole_powers.Holds := by
  w_on; o_law; k_head; (case hw => w_witness2)
  k_fill
  refine L2.walk_of (l := PySem.Challenge.rw_cogwright_k34_whole_powers) (n := 63) (k := KK.lv_law) (x := "script") (CX := fun w => L2.CX PySem.Challenge.pw_cogwright_k34_whole_powers w) (sp := fun w => DL.spLaw _) rfl (by decide) rfl ⟨rfl, by decide, by decide⟩ (fun w h Y => PySem.W.kIn_of Y) ?F (fun _ _ a ns hl _ hS => ⟨a, ns, rfl, hS, hl, fun _ => rfl⟩) (fun _ _ _ _ _ z => DL.no_cx z)
  case F =>
    intro w mg fa h KX G hmg
    refine' KK.all_mk KX G hmg ⟨?d_divisor, ?d_part, ?d_is_part, ?d_plus, ?d_minus, ?d_times, ?d_over, ?d_negative, ?d_is_less, ?d_total, ?d_names, ?d_place, ?d_terms, ?d_row_of, ?d_rows_of, ?d_loads_row, ?d_reduced, ?d_ways, ?d_point, ?d_made_of, ?d_rank_of, ?d_driven_rows, ?d_speeds, ?d_refusal, ?d_drive_rows, ?d_moving, ?d_is_sure, ?d_pushes, ?d_part_flows, ?d_load_flows, ?d_drive_flows, ?d_passed, ?d_put_in, ?d_circling, ?d_is_balanced, ?d__law_state, ?d__law_take, ?d__law_pick, ?d__law_fr, ?d__law_add, ?d__law_mul, ?d__law_sub, ?d__law_sum, ?d__law_machine, ?d__law_some, ?d__law_number, ?d__law_part, ?d__law_told, ?d__law_less, ?d__law_over, ?d__law_turn, ?d__law_terms, ?d__law_row, ?d__law_rows, ?d__law_put_out, ?d__law_rank, ?d__law_ways, ?d__law_free, ?d__law_driven, ?d__law_speeds, ?d__law_word, ?d__law_rests, ?d__law_sure_hold, ?d_law, ?c_NOUGHT_laying, ?c_NOUGHT_solving, ?c_ONE_solving, ?c_NOUGHT_speeds, ?c_ONE_speeds, ?b_abs, ?b_all, ?b_any, ?b_bool, ?b_dict, ?b_int, ?b_isinstance, ?b_len, ?b_list, ?b_range, ?b_str, ?b_tuple, ?mis⟩ KK.holds
    (case d_divisor => refine' DL.Dfn.of KX G ?a ?l ?c ?k; (case a => k_is); (case l => k_is); (case c => k_is); (case k => k_is))
    (case d_part => refine' DL.Dfn.of KX G ?a ?l ?c ?k; (case a => k_is); (case l => k_is); (case c => k_is); (case k => k_is))
    (case d_is_part => refine' DL.Dfn.of KX G ?a ?l ?c ?k; (case a => k_is); (case l => k_is); (case c => k_is); (case k => k_is))
    (case d_plus => refine' DL.Dfn.of KX G ?a ?l ?c ?k; (case a => k_is); (case l => k_is); (case c => k_is); (case k => k_is))
    (case d_minus => refine' DL.Dfn.of KX G ?a ?l ?c ?k; (case a => k_is); (case l => k_is); (case c => k_is); (case k => k_is))
    (case d_times => refine' DL.Dfn.of KX G ?a ?l ?c ?k; (case a => k_is); (case l => k_is); (case c => k_is); (case k => k_is))
    (case d_over => refine' DL.Dfn.of KX G ?a ?l ?c ?k; (case a => k_is); (case l => k_is); (case c => k_is); (case k => k_is))
    (case d_negative => refine' DL.Dfn.of KX G ?a ?l ?c ?k; (case a => k_is); (case l => k_is); (case c => k_is); (case k => k_is))
    (case d_is_less => refine' DL.Dfn.of KX G ?a ?l ?c ?k; (case a => k_is); (case l => k_is); (case c => k_is); (case k => k_is))
    (case d_total => refine' DL.Dfn.of KX G ?a ?l ?c ?k; (case a => k_is); (case l => k_is); (case c => k_is); (case k => k_is))
    (case d_names => refine' DL.Dfn.of KX G ?a ?l ?c ?k; (case a => k_is); (case l => k_is); (case c => k_is); (case k => k_is))
    (case d_place => refine' DL.Dfn.of KX G ?a ?l ?c ?k; (case a => k_is); (case l => k_is); (case c => k_is); (case k => k_is))
    (case d_terms => refine' DL.Dfn.of KX G ?a ?l ?c ?k; (case a => k_is); (case l => k_is); (case c => k_is); (case k => k_is))
    (case d_row_of => refine' DL.Dfn.of KX G ?a ?l ?c ?k; (case a => k_is); (case l => k_is); (case c => k_is); (case k => k_is))
    (case d_rows_of => refine' DL.Dfn.of KX G ?a ?l ?c ?k; (case a => k_is); (case l => k_is); (case c => k_is); (case k => k_is))
    (case d_loads_row => refine' DL.Dfn.of KX G ?a ?l ?c ?k; (case a => k_is); (case l => k_is); (case c => k_is); (case k => k_is))
    (case d_reduced => refine' DL.Dfn.of KX G ?a ?l ?c ?k; (case a => k_is); (case l => k_is); (case c => k_is); (case k => k_is))
    (case d_ways => refine' DL.Dfn.of KX G ?a ?l ?c ?k; (case a => k_is); (case l => k_is); (case c => k_is); (case k => k_is))
    (case d_point => refine' DL.Dfn.of KX G ?a ?l ?c ?k; (case a => k_is); (case l => k_is); (case c => k_is); (case k => k_is))
    (case d_made_of => refine' DL.Dfn.of KX G ?a ?l ?c ?k; (case a => k_is); (case l => k_is); (case c => k_is); (case k => k_is))
    (case d_rank_of => refine' DL.Dfn.of KX G ?a ?l ?c ?k; (case a => k_is); (case l => k_is); (case c => k_is); (case k => k_is))
    (case d_driven_rows => refine' DL.Dfn.of KX G ?a ?l ?c ?k; (case a => k_is); (case l => k_is); (case c => k_is); (case k => k_is))
    (case d_speeds => refine' DL.Dfn.of KX G ?a ?l ?c ?k; (case a => k_is); (case l => k_is); (case c => k_is); (case k => k_is))
    (case d_refusal => refine' DL.Dfn.of KX G ?a ?l ?c ?k; (case a => k_is); (case l => k_is); (case c => k_is); (case k => k_is))
    (case d_drive_rows => refine' DL.Dfn.of KX G ?a ?l ?c ?k; (case a => k_is); (case l => k_is); (case c => k_is); (case k => k_is))
    (case d_moving => refine' DL.Dfn.of KX G ?a ?l ?c ?k; (case a => k_is); (case l => k_is); (case c => k_is); (case k => k_is))
    (case d_is_sure => refine' DL.Dfn.of KX G ?a ?l ?c ?k; (case a => k_is); (case l => k_is); (case c => k_is); (case k => k_is))
    (case d_pushes => refine' DL.Dfn.of KX G ?a ?l ?c ?k; (case a => k_is); (case l => k_is); (case c => k_is); (case k => k_is))
    (case d_part_flows => refine' DL.Dfn.of KX G ?a ?l ?c ?k; (case a => k_is); (case l => k_is); (case c => k_is); (case k => k_is))
    (case d_load_flows => refine' DL.Dfn.of KX G ?a ?l ?c ?k; (case a => k_is); (case l => k_is); (case c => k_is); (case k => k_is))
    (case d_drive_flows => refine' DL.Dfn.of KX G ?a ?l ?c ?k; (case a => k_is); (case l => k_is); (case c => k_is); (case k => k_is))
    (case d_passed => refine' DL.Dfn.of KX G ?a ?l ?c ?k; (case a => k_is); (case l => k_is); (case c => k_is); (case k => k_is))
    (case d_put_in => refine' DL.Dfn.of KX G ?a ?l ?c ?k; (case a => k_is); (case l => k_is); (case c => k_is); (case k => k_is))
    (case d_circling => refine' DL.Dfn.of KX G ?a ?l ?c ?k; (case a => k_is); (case l => k_is); (case c => k_is); (case k => k_is))
    (case d_is_balanced => refine' DL.Dfn.of KX G ?a ?l ?c ?k; (case a => k_is); (case l => k_is); (case c => k_is); (case k => k_is))
    (case d__law_state => refine' DL.Dfn.of KX G ?a ?l ?c ?k; (case a => k_is); (case l => k_is); (case c => k_is); (case k => k_is))
    (case d__law_take => refine' DL.Dfn.of KX G ?a ?l ?c ?k; (case a => k_is); (case l => k_is); (case c => k_is); (case k => k_is))
    (case d__law_pick => refine' DL.Dfn.of KX G ?a ?l ?c ?k; (case a => k_is); (case l => k_is); (case c => k_is); (case k => k_is))
    (case d__law_fr => refine' DL.Dfn.of KX G ?a ?l ?c ?k; (case a => k_is); (case l => k_is); (case c => k_is); (case k => k_is))
    (case d__law_add => refine' DL.Dfn.of KX G ?a ?l ?c ?k; (case a => k_is); (case l => k_is); (case c => k_is); (case k => k_is))
    (case d__law_mul => refine' DL.Dfn.of KX G ?a ?l ?c ?k; (case a => k_is); (case l => k_is); (case c => k_is); (case k => k_is))
    (case d__law_sub => refine' DL.Dfn.of KX G ?a ?l ?c ?k; (case a => k_is); (case l => k_is); (case c => k_is); (case k => k_is))
    (case d__law_sum => refine' DL.Dfn.of KX G ?a ?l ?c ?k; (case a => k_is); (case l => k_is); (case c => k_is); (case k => k_is))
    (case d__law_machine => refine' DL.Dfn.of KX G ?a ?l ?c ?k; (case a => k_is); (case l => k_is); (case c => k_is); (case k => k_is))
    (case d__law_some => refine' DL.Dfn.of KX G ?a ?l ?c ?k; (case a => k_is); (case l => k_is); (case c => k_is); (case k => k_is))
    (case d__law_number => refine' DL.Dfn.of KX G ?a ?l ?c ?k; (case a => k_is); (case l => k_is); (case c => k_is); (case k => k_is))
    (case d__law_part => refine' DL.Dfn.of KX G ?a ?l ?c ?k; (case a => k_is); (case l => k_is); (case c => k_is); (case k => k_is))
    (case d__law_told => refine' DL.Dfn.of KX G ?a ?l ?c ?k; (case a => k_is); (case l => k_is); (case c => k_is); (case k => k_is))
    (case d__law_less => refine' DL.Dfn.of KX G ?a ?l ?c ?k; (case a => k_is); (case l => k_is); (case c => k_is); (case k => k_is))
    (case d__law_over => refine' DL.Dfn.of KX G ?a ?l ?c ?k; (case a => k_is); (case l => k_is); (case c => k_is); (case k => k_is))
    (case d__law_turn => refine' DL.Dfn.of KX G ?a ?l ?c ?k; (case a => k_is); (case l => k_is); (case c => k_is); (case k => k_is))
    (case d__law_terms => refine' DL.Dfn.of KX G ?a ?l ?c ?k; (case a => k_is); (case l => k_is); (case c => k_is); (case k => k_is))
    (case d__law_row => refine' DL.Dfn.of KX G ?a ?l ?c ?k; (case a => k_is); (case l => k_is); (case c => k_is); (case k => k_is))
    (case d__law_rows => refine' DL.Dfn.of KX G ?a ?l ?c ?k; (case a => k_is); (case l => k_is); (case c => k_is); (case k => k_is))
    (case d__law_put_out => refine' DL.Dfn.of KX G ?a ?l ?c ?k; (case a => k_is); (case l => k_is); (case c => k_is); (case k => k_is))
    (case d__law_rank => refine' DL.Dfn.of KX G ?a ?l ?c ?k; (case a => k_is); (case l => k_is); (case c => k_is); (case k => k_is))
    (case d__law_ways => refine' DL.Dfn.of KX G ?a ?l ?c ?k; (case a => k_is); (case l => k_is); (case c => k_is); (case k => k_is))
    (case d__law_free => refine' DL.Dfn.of KX G ?a ?l ?c ?k; (case a => k_is); (case l => k_is); (case c => k_is); (case k => k_is))
    (case d__law_driven => refine' DL.Dfn.of KX G ?a ?l ?c ?k; (case a => k_is); (case l => k_is); (case c => k_is); (case k => k_is))
    (case d__law_speeds => refine' DL.Dfn.of KX G ?a ?l ?c ?k; (case a => k_is); (case l => k_is); (case c => k_is); (case k => k_is))
    (case d__law_word => refine' DL.Dfn.of KX G ?a ?l ?c ?k; (case a => k_is); (case l => k_is); (case c => k_is); (case k => k_is))
    (case d__law_rests => refine' DL.Dfn.of KX G ?a ?l ?c ?k; (case a => k_is); (case l => k_is); (case c => k_is); (case k => k_is))
    (case d__law_sure_hold => refine' DL.Dfn.of KX G ?a ?l ?c ?k; (case a => k_is); (case l => k_is); (case c => k_is); (case k => k_is))
    (case d_law => refine' DL.Dfn.of KX G ?a ?l ?c ?k; (case a => k_is); (case l => k_is); (case c => k_is); (case k => k_is))
    (case c_NOUGHT_laying => refine' DL.Cst.ints KX G [0, 1] ?e ?l ?z ?v; (case e => k_is); (case l => k_is); (case z => decide); (case v => exact .cons ⟨_, rfl⟩ (.cons ⟨_, rfl⟩ (.nil))))
    (case c_NOUGHT_solving => refine' DL.Cst.ints KX G [0, 1] ?e ?l ?z ?v; (case e => k_is); (case l => k_is); (case z => decide); (case v => exact .cons ⟨_, rfl⟩ (.cons ⟨_, rfl⟩ (.nil))))
    (case c_ONE_solving => refine' DL.Cst.ints KX G [1, 1] ?e ?l ?z ?v; (case e => k_is); (case l => k_is); (case z => decide); (case v => exact .cons ⟨_, rfl⟩ (.cons ⟨_, rfl⟩ (.nil))))
    (case c_NOUGHT_speeds => refine' DL.Cst.ints KX G [0, 1] ?e ?l ?z ?v; (case e => k_is); (case l => k_is); (case z => decide); (case v => exact .cons ⟨_, rfl⟩ (.cons ⟨_, rfl⟩ (.nil))))
    (case c_ONE_speeds => refine' DL.Cst.ints KX G [1, 1] ?e ?l ?z ?v; (case e => k_is); (case l => k_is); (case z => decide); (case v => exact .cons ⟨_, rfl⟩ (.cons ⟨_, rfl⟩ (.nil))))
    (case b_abs => refine' PySem.W.mg_none_of KX G ?a; (case a => k_is))
    (case b_all => refine' PySem.W.mg_none_of KX G ?a; (case a => k_is))
    (case b_any => refine' PySem.W.mg_none_of KX G ?a; (case a => k_is))
    (case b_bool => refine' PySem.W.mg_none_of KX G ?a; (case a => k_is))
    (case b_dict => refine' PySem.W.mg_none_of KX G ?a; (case a => k_is))
    (case b_int => refine' PySem.W.mg_none_of KX G ?a; (case a => k_is))
    (case b_isinstance => refine' PySem.W.mg_none_of KX G ?a; (case a => k_is))
    (case b_len => refine' PySem.W.mg_none_of KX G ?a; (case a => k_is))
    (case b_list => refine' PySem.W.mg_none_of KX G ?a; (case a => k_is))
    (case b_range => refine' PySem.W.mg_none_of KX G ?a; (case a => k_is))
    (case b_str => refine' PySem.W.mg_none_of KX G ?a; (case a => k_is))
    (case b_tuple => refine' PySem.W.mg_none_of KX G ?a; (case a => k_is))
    (case mis => refine' DL.Mis.of KX G ?g ?cls ?rv ?sa ?exC ?tyC ?kC ?ini ?tyI ?lf ?code ?lc ?v2 ?hf ?cell ?clsI ?sub ?sup ?ve ?opq ?wd ?bsu ?top ?ga ?gg ?hdC ?icl ?sC; (case g => k_is); (case cls => k_is); (case rv => decide +kernel); (case sa => k_is); (case exC => k_is); (case tyC => k_is); (case kC => k_is); (case ini => k_is); (case tyI => k_is); (case lf => k_is); (case code => k_is); (case lc => k_is); (case v2 => rfl); (case hf => first | rfl | decide +kernel); (case cell => k_is); (case clsI => k_is); (case sub => k_is); (case sup => ks_is); (case ve => k_is); (case opq => k_is); (case wd => k_is); (case bsu => k_is); (case top => first | rfl | decide +kernel); (case ga => k_is); (case gg => k_is); (case hdC => k_is); (case icl => k_is); (case sC => first | rfl | k_is))


