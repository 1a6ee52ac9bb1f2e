import PyProof.Rows.All
import Wide.All
import OpenK.AllK
import Wide.FinOn
import HandS.ForMost
import HandS.Exc
import HandS.CallSlots
import HandS.TryOnly
import HandS.Deep
import HandS.IsInst
import HandS.Style
import HandS.Conv
import HandS.TupAny
import HandS.Wide
import HandS.WordsExc
import HandS.ExcOwn
import KE.IntBitsLaws
import HandS.ExcInit
import HandS.Nested
import HandS.ExcField
import KE.KExcSuper
import HandS.TupSets
import HandS.Dict
import HandS.Evl
import KE.RegKSuper
import PySem.Challenge.RW_cogwright_k14_whole_hands_and_days
set_option Elab.async false
set_option linter.all false
set_option maxRecDepth 100000
/-! DL1: plain data, how it lies in the abstract heap, environments of slots. -/
namespace DL
open PySem L2
theorem same_seqT {K : PySem.W.Frag} {H H' : Hp} {a : Addr} {xs : List V} (e : Same H H') (h : SqT K H a xs) : SqT K H' a xs := by
  rcases h with (h | ⟨o, h⟩) | h
  · exact .inl (.inl (e _ _ h))
  · exact .inl (.inr ⟨o, e _ _ h⟩)
  · exact .inr h

abbrev Fr := PySem.W.Frag

/-- plain data -/
inductive Dt where
  | non
  | bl (b : Bool)
  | int (i : Int)
  | str (x : Str)
  | lst (xs : List Dt)
  | tup (xs : List Dt)
  | dic (ks : List Key) (xs : List Dt)
  | dit (ks : List (List Key)) (xs : List Dt)
  | st

/-- the address of the one object that draws, and of its cells -/
abbrev Dr := Option (Addr × Addr)

mutual
inductive Rp (K : Fr) (dr : Dr) (H : Hp) : V → Dt → Prop
  | non : Rp K dr H .non .non
  | bl (b : Bool) : Rp K dr H (.bl b) (.bl b)
  | int (i : Int) : Rp K dr H (.int i) (.int i)
  | str (x : Str) : Rp K dr H (.str x) (.str x)
  | lst {a : Addr} {vs : List V} {ds : List Dt} : H a = some (.lst vs) → RpL K dr H vs ds → Rp K dr H (.ref a) (.lst ds)
  | tup {a : Addr} {vs : List V} {ds : List Dt} : SqT K H a vs → RpL K dr H vs ds → Rp K dr H (.ref a) (.tup ds)
  | dic {a : Addr} {ks : List Key} {vs : List V} {ds : List Dt} : H a = some (.dK (ks.zip vs)) → ks.length = vs.length → RpL K dr H vs ds → Rp K dr H (.ref a) (.dic ks ds)
  | dit {a : Addr} {ks : List (List Key)} {vs : List V} {ds : List Dt} : H a = some (.dT (ks.zip vs)) → ks.length = vs.length → RpL K dr H vs ds → Rp K dr H (.ref a) (.dit ks ds)
  | st {q : Addr × Addr} : dr = some q → Rp K dr H (.ref q.1) .st
inductive RpL (K : Fr) (dr : Dr) (H : Hp) : List V → List Dt → Prop
  | nil : RpL K dr H [] []
  | cons {v : V} {vs : List V} {d : Dt} {ds : List Dt} : Rp K dr H v d → RpL K dr H vs ds → RpL K dr H (v :: vs) (d :: ds)
end

section
variable {K : Fr} {dr : Dr} {H H' H1 H2 I I' : Hp}
mutual
theorem Rp.mono (s : Same H H') : ∀ (d : Dt) (v : V), Rp K dr H v d → Rp K dr H' v d
  | .non, _, h => by cases h; exact .non
  | .bl b, _, h => by cases h; exact .bl b
  | .int i, _, h => by cases h; exact .int i
  | .str x, _, h => by cases h; exact .str x
  | .lst ds, _, h => by
    cases h with
    | lst hs ha => exact .lst (s _ _ hs) (RpL.mono s ds _ ha)
  | .tup ds, _, h => by
    cases h with
    | tup hs ha => exact .tup (same_seqT s hs) (RpL.mono s ds _ ha)
  | .dic ks ds, _, h => by
    cases h with
    | dic hs hl ha => exact .dic (s _ _ hs) hl (RpL.mono s ds _ ha)
  | .dit ks ds, _, h => by
    cases h with
    | dit hs hl ha => exact .dit (s _ _ hs) hl (RpL.mono s ds _ ha)
  | .st, _, h => by
    cases h with
    | st e => exact .st e
theorem RpL.mono (s : Same H H') : ∀ (ds : List Dt) (vs : List V), RpL K dr H vs ds → RpL K dr H' vs ds
  | [], _, h => by cases h; exact .nil
  | d :: ds, _, h => by
    cases h with
    | cons h1 h2 => exact .cons (Rp.mono s d _ h1) (RpL.mono s ds _ h2)
end
theorem RpL.len : ∀ {vs : List V} {ds : List Dt}, RpL K dr H vs ds → vs.length = ds.length
  | _, _, .nil => rfl
  | _, _, .cons _ t => congrArg (· + 1) (RpL.len t)
theorem RpL.get : ∀ {vs : List V} {ds : List Dt} {i : Nat} {d : Dt}, RpL K dr H vs ds → ds[i]? = some d → ∃ v, vs[i]? = some v ∧ Rp K dr H v d
  | _, _, _, _, .nil, e => by simp at e
  | _, _, 0, _, .cons r _, e => by simp at e; subst e; exact ⟨_, rfl, r⟩
  | _, _, i + 1, d, .cons _ t, e => by
    obtain ⟨v, h1, h2⟩ := RpL.get (i := i) (d := d) t (by simpa using e)
    exact ⟨v, by simpa using h1, h2⟩
theorem RpL.getV : ∀ {vs : List V} {ds : List Dt} {i : Nat} {v : V}, RpL K dr H vs ds → vs[i]? = some v → ∃ d, ds[i]? = some d ∧ Rp K dr H v d
  | _, _, _, _, .nil, e => by simp at e
  | _, _, 0, _, .cons r _, e => by simp at e; subst e; exact ⟨_, rfl, r⟩
  | _, _, i + 1, d, .cons _ t, e => by
    obtain ⟨v, h1, h2⟩ := RpL.getV (i := i) (v := d) t (by simpa using e)
    exact ⟨v, by simpa using h1, h2⟩
theorem RpL.append : ∀ {vs ws : List V} {ds es : List Dt}, RpL K dr H vs ds → RpL K dr H ws es → RpL K dr H (vs ++ ws) (ds ++ es)
  | _, _, _, _, .nil, s => s
  | _, _, _, _, .cons r t, s => .cons r (RpL.append t s)
theorem RpL.take : ∀ {vs : List V} {ds : List Dt} (n : Nat), RpL K dr H vs ds → RpL K dr H (vs.take n) (ds.take n)
  | _, _, 0, _ => .nil
  | _, _, _ + 1, .nil => .nil
  | _, _, n + 1, .cons r t => .cons r (RpL.take n t)
theorem RpL.drop : ∀ {vs : List V} {ds : List Dt} (n : Nat), RpL K dr H vs ds → RpL K dr H (vs.drop n) (ds.drop n)
  | _, _, 0, r => r
  | _, _, _ + 1, .nil => .nil
  | _, _, n + 1, .cons _ t => RpL.drop n t
theorem RpL.set {v : V} {d : Dt} (r : Rp K dr H v d) : ∀ {vs : List V} {ds : List Dt} (i : Nat), RpL K dr H vs ds → RpL K dr H (vs.set i v) (ds.set i d)
  | _, _, _, .nil => .nil
  | _, _, 0, .cons _ t => .cons r t
  | _, _, i + 1, .cons q t => .cons q (RpL.set r i t)
theorem RpL.eraseIdx : ∀ {vs : List V} {ds : List Dt} (i : Nat), RpL K dr H vs ds → RpL K dr H (vs.eraseIdx i) (ds.eraseIdx i)
  | _, _, _, .nil => .nil
  | _, _, 0, .cons _ t => t
  | _, _, i + 1, .cons r t => .cons r (RpL.eraseIdx i t)
theorem RpL.reverse {vs : List V} {ds : List Dt} (h : RpL K dr H vs ds) : RpL K dr H vs.reverse ds.reverse := by
  induction vs generalizing ds with
  | nil => cases h; exact .nil
  | cons v vs ih =>
    cases h with
    | cons r t => rw [List.reverse_cons, List.reverse_cons]; exact (ih t).append (.cons r .nil)
theorem RpL.rep {vs : List V} {ds : List Dt} (h : RpL K dr H vs ds) : ∀ k : Nat, RpL K dr H (List.replicate k vs).flatten (List.replicate k ds).flatten
  | 0 => .nil
  | k + 1 => by
    rw [List.replicate_succ, List.replicate_succ, List.flatten_cons, List.flatten_cons]
    exact h.append (RpL.rep h k)
theorem RpL.one {v : V} {d : Dt} (h : Rp K dr H v d) : RpL K dr H [v] [d] := .cons h .nil

/-! ### the object that draws -/
def IsDr (dr : Dr) (a : Addr) : Prop := ∃ q, dr = some q ∧ (a = q.1 ∨ a = q.2)
def DrOk (q : Addr × Addr) (H : Hp) : Prop := ∃ (i : Int) (cs : List Int), H q.1 = some (.lst [.int i, .ref q.2]) ∧ H q.2 = some (.lst (cs.map V.int)) ∧ cs ≠ [] ∧ cs.length ≤ 63 ∧ q.1 ≠ q.2
theorem DrOk.some_ (h : ∀ q, dr = some q → DrOk q H) {a : Addr} (i : IsDr dr a) : H a ≠ none := by
  obtain ⟨q, e, r⟩ := i
  obtain ⟨_, _, h1, h2, _⟩ := h q e
  rcases r with rfl | rfl
  · rw [h1]; simp
  · rw [h2]; simp
structure Kp (dr : Dr) (H H' : Hp) : Prop where
  keep : ∀ a o, H a = some o → ¬ IsDr dr a → H' a = some o
  dro : ∀ q, dr = some q → DrOk q H → DrOk q H'
theorem Kp.refl : Kp dr H H := ⟨fun _ _ e _ => e, fun _ _ h => h⟩
theorem Kp.trans (a : Kp dr H H1) (b : Kp dr H1 H2) : Kp dr H H2 := ⟨fun c o e n => b.keep c o (a.keep c o e n) n, fun q e h => b.dro q e (a.dro q e h)⟩
/-- the part that never changes -/
structure Pre (dr : Dr) (I H : Hp) : Prop where
  sub : Same I H
  dro : ∀ q, dr = some q → DrOk q H
  nI : ∀ a, IsDr dr a → I a = none
theorem Pre.notDr (p : Pre dr I H) {a : Addr} (h : H a = none) : ¬ IsDr dr a := fun i => DrOk.some_ p.dro i h
theorem Kp.new {a : Addr} {o : HO} (p : Pre dr I H) (h : H a = none) : Kp dr H (upd H a o) := by
  refine ⟨fun b u e _ => by rw [upd_ne (ne_of_none e h)]; exact e, fun q e ⟨i, cs, h1, h2, h3⟩ => ⟨i, cs, ?_, ?_, h3⟩⟩
  · rw [upd_ne (ne_of_none h1 h)]; exact h1
  · rw [upd_ne (ne_of_none h2 h)]; exact h2
theorem Kp.none_back (k : Kp dr H H') (p : Pre dr I H) {a : Addr} (h : H' a = none) : H a = none := by
  cases e : H a with
  | none => rfl
  | some o =>
    by_cases i : IsDr dr a
    · exact absurd h (DrOk.some_ (fun q e => k.dro q e (p.dro q e)) i)
    · rw [k.keep a o e i] at h; cases h
/-- what never changes, with what is new -/
def ext (I H H' : Hp) : Hp := fun a => match H a with
  | none => H' a
  | some _ => I a
theorem ext_none {a : Addr} (h : H a = none) : ext I H H' a = H' a := by unfold ext; rw [h]
theorem ext_some {a : Addr} (h : H a ≠ none) : ext I H H' a = I a := by
  unfold ext
  cases e : H a with
  | none => exact absurd e h
  | some o => rfl
theorem Pre.ext_sub (p : Pre dr I H) : Same I (ext I H H') := fun a o e => by
  rw [ext_some (by rw [p.sub a o e]; simp)]; exact e
theorem Pre.step (p : Pre dr I H) (k : Kp dr H H') : Pre dr (ext I H H') H' := by
  refine ⟨fun a o e => ?_, fun q e => k.dro q e (p.dro q e), fun a i => ?_⟩
  · by_cases h : H a = none
    · rw [ext_none h] at e; exact e
    · rw [ext_some h] at e
      refine k.keep a o (p.sub a o e) fun i => ?_
      rw [p.nI a i] at e; cases e
  · rw [ext_some (DrOk.some_ p.dro i)]; exact p.nI a i
theorem Pre.ext_ext (p : Pre dr I H) (k : Kp dr H H1) (k2 : Kp dr H1 H2) : ext (ext I H H1) H1 H2 = ext I H H2 := by
  funext a
  by_cases h : H a = none
  · rw [ext_none h]
    by_cases h1 : H1 a = none
    · rw [ext_none h1]
    · rw [ext_some h1, ext_none h]
      cases e : H1 a with
      | none => exact absurd e h1
      | some o => exact (k2.keep a o e (p.notDr h)).symm
  · have h1 : H1 a ≠ none := fun z => h (k.none_back p z)
    rw [ext_some h, ext_some h1, ext_some h]
theorem ext_refl (p : Pre dr I H) : Same (ext I H H) I → True := fun _ => trivial
theorem Pre.ext_same (p : Pre dr I H) : ext I H H = I := by
  funext a
  by_cases h : H a = none
  · rw [ext_none h, h]
    cases e : I a with
    | none => rfl
    | some o => rw [p.sub a o e] at h; cases h
  · rw [ext_some h]
theorem Pre.less (p : Pre dr I H) (s : Same I' I) : Pre dr I' H := ⟨fun a o e => p.sub a o (s a o e), p.dro, fun a i => by
  cases e : I' a with
  | none => rfl
  | some o => have := s a o e; rw [p.nI a i] at this; cases this⟩
theorem ext_mono (s : Same I I') (p : Pre dr I' H) : Same (ext I H H') (ext I' H H') := fun a o e => by
  by_cases h : H a = none
  · rw [ext_none h] at e ⊢; exact e
  · rw [ext_some h] at e ⊢; exact s a o e

/-! ### owned objects -/
def OwR (K : Fr) (dr : Dr) (I H : Hp) (p : Addr) : Dt → Prop
  | .lst ds => ∃ vs, H p = some (.lst vs) ∧ RpL K dr I vs ds
  | .dic ks ds => ∃ vs, H p = some (.dK (ks.zip vs)) ∧ ks.length = vs.length ∧ RpL K dr I vs ds
  | .dit ks ds => ∃ vs, H p = some (.dT (ks.zip vs)) ∧ ks.length = vs.length ∧ RpL K dr I vs ds
  | _ => False
theorem OwR.mono {p : Addr} {d : Dt} (s : Same I I') (e : H' p = H p) (h : OwR K dr I H p d) : OwR K dr I' H' p d := by
  cases d with
  | lst ds => obtain ⟨vs, h1, h2⟩ := h; exact ⟨vs, e.trans h1, RpL.mono s _ _ h2⟩
  | dic ks ds => obtain ⟨vs, h1, h3, h2⟩ := h; exact ⟨vs, e.trans h1, h3, RpL.mono s _ _ h2⟩
  | dit ks ds => obtain ⟨vs, h1, h3, h2⟩ := h; exact ⟨vs, e.trans h1, h3, RpL.mono s _ _ h2⟩
  | _ => exact h.elim
theorem OwR.some_ {p : Addr} {d : Dt} (h : OwR K dr I H p d) : ∃ o, H p = some o := by
  cases d with
  | lst ds => obtain ⟨vs, h1, h2⟩ := h; exact ⟨_, h1⟩
  | dic ks ds => obtain ⟨vs, h1, h3, h2⟩ := h; exact ⟨_, h1⟩
  | dit ks ds => obtain ⟨vs, h1, h3, h2⟩ := h; exact ⟨_, h1⟩
  | _ => exact h.elim
theorem OwR.notXd {p : Addr} {d : Dt} (h : OwR K dr I H p d) {fs : List (Str × V)} (e : H p = some (.xd fs)) : False := by
  cases d with
  | lst ds => obtain ⟨vs, h1, h2⟩ := h; rw [e] at h1; cases h1
  | dic ks ds => obtain ⟨vs, h1, h3, h2⟩ := h; rw [e] at h1; cases h1
  | dit ks ds => obtain ⟨vs, h1, h3, h2⟩ := h; rw [e] at h1; cases h1
  | _ => exact h.elim
/-- an owned object, taken into what never changes -/
theorem OwR.rp {p : Addr} {d : Dt} (s : Same I I') (e : I' p = H p) (h : OwR K dr I H p d) : Rp K dr I' (.ref p) d := by
  cases d with
  | lst ds => obtain ⟨vs, h1, h2⟩ := h; exact .lst (e.trans h1) (RpL.mono s _ _ h2)
  | dic ks ds => obtain ⟨vs, h1, h3, h2⟩ := h; exact .dic (e.trans h1) h3 (RpL.mono s _ _ h2)
  | dit ks ds => obtain ⟨vs, h1, h3, h2⟩ := h; exact .dit (e.trans h1) h3 (RpL.mono s _ _ h2)
  | _ => exact h.elim
/-- an operand: clean, or an owned object -/
def Sh (K : Fr) (dr : Dr) (I H : Hp) (v : V) (d : Dt) : Prop := Rp K dr I v d ∨ ∃ p, v = .ref p ∧ I p = none ∧ ¬ IsDr dr p ∧ OwR K dr I H p d
theorem Sh.lst {v : V} {ds : List Dt} (s : Same I H) (h : Sh K dr I H v (.lst ds)) : ∃ a vs, v = .ref a ∧ H a = some (.lst vs) ∧ RpL K dr I vs ds := by
  rcases h with h | ⟨p, rfl, _, _, vs, h1, h2⟩
  · cases h with
    | lst hs ha => exact ⟨_, _, rfl, s _ _ hs, ha⟩
  · exact ⟨p, vs, rfl, h1, h2⟩
theorem Sh.tup {v : V} {ds : List Dt} (s : Same I H) (h : Sh K dr I H v (.tup ds)) : ∃ a vs, v = .ref a ∧ SqT K H a vs ∧ RpL K dr I vs ds := by
  rcases h with h | ⟨p, rfl, _, _, h⟩
  · cases h with
    | tup hs ha => exact ⟨_, _, rfl, same_seqT s hs, ha⟩
  · exact h.elim
theorem Rp.sh {v : V} {d : Dt} (h : Rp K dr I v d) : Sh K dr I H v d := .inl h
theorem Sh.mono {v : V} {d : Dt} (k : Kp dr H H') (p : Pre dr I H) (h : Sh K dr I H v d) : Sh K dr (ext I H H') H' v d := by
  rcases h with h | ⟨q, rfl, h1, h2, h3⟩
  · exact .inl (h.mono p.ext_sub)
  · obtain ⟨o, e⟩ := h3.some_
    refine .inr ⟨q, rfl, ?_, h2, h3.mono p.ext_sub ((k.keep q o e h2).trans e.symm)⟩
    rw [ext_some (by rw [e]; simp)]; exact h1
end

/-! ### environments -/
inductive Sl where
  | no
  | im (d : Dt)
  | ow (d : Dt)
  | ex (a dd : Addr) (wd : Str)
def sl : List Sl → Nat → Sl
  | [], _ => .no
  | s :: _, 0 => s
  | _ :: r, n + 1 => sl r n
def put : List Sl → Nat → Sl → List Sl
  | [], _, _ => []
  | _ :: r, 0, s => s :: r
  | t :: r, n + 1, s => t :: put r n s
theorem put_length : ∀ (e : List Sl) (i : Nat) (s : Sl), (put e i s).length = e.length
  | [], _, _ => rfl
  | _ :: _, 0, _ => rfl
  | _ :: r, n + 1, s => congrArg (· + 1) (put_length r n s)
theorem sl_put : ∀ (e : List Sl) (i j : Nat) (s : Sl), sl (put e i s) j = if i = j ∧ j < e.length then s else sl e j
  | [], _, _, _ => by simp [put, sl]
  | _ :: _, 0, 0, _ => by simp [put, sl]
  | _ :: _, 0, j + 1, _ => by simp [put, sl]
  | _ :: _, i + 1, 0, _ => by simp [put, sl]
  | _ :: r, i + 1, j + 1, s => by
    simp only [put, sl, sl_put r i j s, List.length_cons]
    by_cases h : i = j
    · subst h; simp
    · simp [h]
theorem sl_lt : ∀ {e : List Sl} {i : Nat}, sl e i ≠ .no → i < e.length
  | [], _, h => absurd rfl h
  | _ :: _, 0, _ => Nat.succ_pos _
  | _ :: r, n + 1, h => Nat.succ_lt_succ (sl_lt (e := r) h)
def SlR (K : Fr) (dr : Dr) (I H : Hp) (x : Option V) : Sl → Prop
  | .no => True
  | .im d => ∃ v, x = some v ∧ Rp K dr I v d
  | .ow d => ∃ p, x = some (.ref p) ∧ I p = none ∧ ¬ IsDr dr p ∧ OwR K dr I H p d
  | .ex a dd wd => x = some (.ref a) ∧ ¬ IsDr dr dd ∧ H dd = some (.xd [(("word" : Str), .str wd)])
structure EnvOk (K : Fr) (dr : Dr) (env : List Sl) (σ : L2.St) (I H : Hp) : Prop where
  len : σ.length = env.length
  at_ : ∀ i, i < env.length → SlR K dr I H (σ[i]?.join) (sl env i)
  sep : ∀ i j d e p, sl env i = .ow d → sl env j = .ow e → σ[i]? = some (some (.ref p)) → σ[j]? = some (some (.ref p)) → i = j
section
variable {K : Fr} {dr : Dr} {H H' H1 H2 I I' : Hp} {env : List Sl} {σ : L2.St}
theorem SlR.step {x : Option V} {s : Sl} (k : Kp dr H H') (p : Pre dr I H) (h : SlR K dr I H x s) : SlR K dr (ext I H H') H' x s := by
  cases s with
  | no => trivial
  | ex a dd wd => exact ⟨h.1, h.2.1, k.keep dd _ h.2.2 h.2.1⟩
  | im d => obtain ⟨v, e, r⟩ := h; exact ⟨v, e, r.mono p.ext_sub⟩
  | ow d =>
    obtain ⟨q, e, h1, h2, h3⟩ := h
    obtain ⟨o, e2⟩ := h3.some_
    refine ⟨q, e, ?_, h2, h3.mono p.ext_sub ((k.keep q o e2 h2).trans e2.symm)⟩
    rw [ext_some (by rw [e2]; simp)]; exact h1
theorem EnvOk.step (k : Kp dr H H') (p : Pre dr I H) (h : EnvOk K dr env σ I H) : EnvOk K dr env σ (ext I H H') H' :=
  ⟨h.len, fun i hi => (h.at_ i hi).step k p, h.sep⟩
theorem join_some {x : Option (Option V)} {v : V} (h : x.join = some v) : x = some (some v) := by
  cases x with
  | none => cases h
  | some y => exact congrArg some h
theorem EnvOk.im {i : Nat} {d : Dt} (h : EnvOk K dr env σ I H) (e : sl env i = .im d) : ∃ v, σ[i]? = some (some v) ∧ Rp K dr I v d := by
  have hi : i < env.length := sl_lt (by rw [e]; simp)
  have q := h.at_ i hi
  rw [e] at q
  obtain ⟨v, e1, r⟩ := q
  exact ⟨v, join_some e1, r⟩
theorem EnvOk.ow {i : Nat} {d : Dt} (h : EnvOk K dr env σ I H) (e : sl env i = .ow d) : ∃ p, σ[i]? = some (some (.ref p)) ∧ I p = none ∧ ¬ IsDr dr p ∧ OwR K dr I H p d := by
  have hi : i < env.length := sl_lt (by rw [e]; simp)
  have q := h.at_ i hi
  rw [e] at q
  obtain ⟨v, e1, r⟩ := q
  exact ⟨v, join_some e1, r⟩
end
end DL

set_option maxRecDepth 100000
/-! DL2: mirrors of expressions as predicate transformers over plain data, and what it is that a reading keeps to one. -/
namespace DL
open PySem L2

/-- an exception: its class's name, its fields -/
abbrev Xc := Str × List Dt
abbrev XR := Xc → Value → Option Addr → Hp → Prop
abbrev IE := List Sl → (Dt → Prop) → (Xc → Prop) → Prop
abbrev IT := List Sl → (Bool → Prop) → (Xc → Prop) → Prop
abbrev IA := List Sl → (List Dt → Prop) → (Xc → Prop) → Prop
abbrev IP := List Sl → (Option Int → Prop) → (Xc → Prop) → Prop

def OutE (xr : XR) (W : WX) (dr : Dr) (σ : L2.St) (H : Hp) (E : Xc → Prop) : Prop := ∀ x c a H', E x → Kp dr H H' → xr x c a H' → W c a σ H'
theorem OutE.step {xr : XR} {W : WX} {dr : Dr} {σ : L2.St} {H H' : Hp} {E : Xc → Prop} (o : OutE xr W dr σ H E) (k : Kp dr H H') : OutE xr W dr σ H' E := fun x c a H2 e k2 r => o x c a H2 e (k.trans k2) r

section
variable (K : Fr) (xr : XR) (W : WX)
def Snd (te : TE) (ie : IE) : Prop := ∀ dr env σ I H P E, Pre dr I H → EnvOk K dr env σ I H → ie env P E → OutE xr W dr σ H E → ∀ Q : VK, (∀ d v H', P d → Kp dr H H' → Rp K dr (ext I H H') v d → Q v H') → te σ H Q
def SndO (te : TE) (ie : IE) : Prop := ∀ dr env σ I H P E, Pre dr I H → EnvOk K dr env σ I H → ie env P E → OutE xr W dr σ H E → ∀ Q : VK, (∀ d v H', P d → Kp dr H H' → Sh K dr (ext I H H') H' v d → Q v H') → te σ H Q
/-- all but one -/
def hid (p : Addr) (J : Hp) : Hp := fun a => if a = p then none else J a
def New (dr : Dr) (I H H' : Hp) (v : V) (d : Dt) : Prop := ∃ p, v = .ref p ∧ H p = none ∧ OwR K dr (hid p (ext I H H')) H' p d
def SndN (te : TE) (ie : IE) : Prop := ∀ dr env σ I H P E, Pre dr I H → EnvOk K dr env σ I H → ie env P E → OutE xr W dr σ H E → ∀ Q : VK, (∀ d v H', P d → Kp dr H H' → New K dr I H H' v d → Q v H') → te σ H Q
def SndT (tt : TT) (it : IT) : Prop := ∀ dr env σ I H P E, Pre dr I H → EnvOk K dr env σ I H → it env P E → OutE xr W dr σ H E → ∀ Q : Bool → Hp → Prop, (∀ b H', P b → Kp dr H H' → Q b H') → tt σ H Q
def SndA (ta : TA) (ia : IA) : Prop := ∀ dr env σ I H P E, Pre dr I H → EnvOk K dr env σ I H → ia env P E → OutE xr W dr σ H E → ∀ Q : List V → Hp → Prop, (∀ ds vs H', P ds → Kp dr H H' → RpL K dr (ext I H H') vs ds → Q vs H') → ta σ H Q
def SndP (tp : TO) (ip : IP) : Prop := ∀ dr env σ I H P E, Pre dr I H → EnvOk K dr env σ I H → ip env P E → OutE xr W dr σ H E → ∀ Q : Option Int → Hp → Prop, (∀ o H', P o → Kp dr H H' → Q o H') → tp σ H Q
end

section
variable {K : Fr} {xr : XR} {W : WX} {te ta tb tc : TE} {ie ia ib ic : IE} {tt tu : TT} {it iu : IT} {tl : TA} {il : IA}
theorem hid_same {p : Addr} {J : Hp} : Same (hid p J) J := fun a o e => by
  unfold hid at e
  split at e
  · cases e
  · exact e
theorem Snd.o (h : Snd K xr W te ie) : SndO K xr W te ie := fun dr env σ I H P E p ev hi o Q q => h dr env σ I H P E p ev hi o Q fun d v H' hp k r => q d v H' hp k r.sh
theorem New.rp {dr : Dr} {I H H' : Hp} {v : V} {d : Dt} (h : New K dr I H H' v d) : Rp K dr (ext I H H') v d := by
  obtain ⟨p, rfl, hn, r⟩ := h
  exact r.rp hid_same (ext_none hn)
theorem SndN.e (h : SndN K xr W te ie) : Snd K xr W te ie := fun dr env σ I H P E p ev hi o Q q => h dr env σ I H P E p ev hi o Q fun d v H' hp k r => q d v H' hp k r.rp
/-- two operands -/
theorem two (ha : SndO K xr W ta ia) (hb : SndO K xr W tb ib) {dr : Dr} {env : List Sl} {σ : L2.St} {I H : Hp} {R : Dt → Dt → Prop} {E : Xc → Prop} (p : Pre dr I H) (ev : EnvOk K dr env σ I H)
    (hi : ia env (fun x => ib env (fun y => R x y) E) E) (o : OutE xr W dr σ H E) (Q : V → V → Hp → Prop)
    (q : ∀ x y v u H', R x y → Kp dr H H' → Pre dr (ext I H H') H' → Sh K dr (ext I H H') H' v x → Sh K dr (ext I H H') H' u y → Q v u H') : ta σ H fun v H1 => tb σ H1 fun u H2 => Q v u H2 := by
  refine ha dr env σ I H _ E p ev hi o _ fun x v H1 hx k1 r1 => ?_
  have p1 := p.step k1
  refine hb dr env σ _ H1 _ E p1 (ev.step k1 p) hx (o.step k1) _ fun y u H2 hy k2 r2 => ?_
  have e := p.ext_ext k1 k2
  have p2 := p1.step k2
  have r1' := r1.mono k2 p1
  rw [e] at r2 p2 r1'
  exact q x y v u H2 hy (k1.trans k2) p2 r1' r2
/-- clean ones -/
theorem twoE (ha : Snd K xr W ta ia) (hb : Snd K xr W tb ib) {dr : Dr} {env : List Sl} {σ : L2.St} {I H : Hp} {R : Dt → Dt → Prop} {E : Xc → Prop} (p : Pre dr I H) (ev : EnvOk K dr env σ I H)
    (hi : ia env (fun x => ib env (fun y => R x y) E) E) (o : OutE xr W dr σ H E) (Q : V → V → Hp → Prop)
    (q : ∀ x y v u H', R x y → Kp dr H H' → Pre dr (ext I H H') H' → Rp K dr (ext I H H') v x → Rp K dr (ext I H H') u y → Q v u H') : ta σ H fun v H1 => tb σ H1 fun u H2 => Q v u H2 := by
  refine ha dr env σ I H _ E p ev hi o _ fun x v H1 hx k1 r1 => ?_
  have p1 := p.step k1
  refine hb dr env σ _ H1 _ E p1 (ev.step k1 p) hx (o.step k1) _ fun y u H2 hy k2 r2 => ?_
  have e := p.ext_ext k1 k2
  have p2 := p1.step k2
  have r1' := r1.mono (p1.ext_sub (H' := H2))
  rw [e] at r2 p2 r1'
  exact q x y v u H2 hy (k1.trans k2) p2 r1' r2

/-! ### names, constants -/
def eVar (i : Nat) : IE := fun env P _ => match sl env i with
  | .im d => P d
  | _ => False
def oVar (i : Nat) : IE := fun env P _ => match sl env i with
  | .im d => P d
  | .ow d => P d
  | _ => False
def eC (d : Dt) : IE := fun _ P _ => P d
theorem snd_var {i : Nat} : Snd K xr W (tVar i) (eVar i) := fun dr env σ I H P E p ev hi o Q q => by
  unfold eVar at hi
  split at hi
  · rename_i d e
    obtain ⟨v, h1, r⟩ := ev.im e
    refine ⟨v, h1, q d v H hi Kp.refl ?_⟩
    rw [p.ext_same]; exact r
  · exact hi.elim
theorem sndO_var {i : Nat} : SndO K xr W (tVar i) (oVar i) := fun dr env σ I H P E p ev hi o Q q => by
  unfold oVar at hi
  split at hi
  · rename_i d e
    obtain ⟨v, h1, r⟩ := ev.im e
    refine ⟨v, h1, q d v H hi Kp.refl (.inl ?_)⟩
    rw [p.ext_same]; exact r
  · rename_i d e
    obtain ⟨pp, h1, h2, h3, h4⟩ := ev.ow e
    refine ⟨_, h1, q d _ H hi Kp.refl ?_⟩
    rw [p.ext_same]
    exact .inr ⟨pp, rfl, h2, h3, h4⟩
  · exact hi.elim
theorem snd_c {v : V} {d : Dt} (h : ∀ dr I, Rp K dr I v d) : Snd K xr W (tC v) (eC d) := fun dr env σ I H P E p ev hi o Q q => q d v H hi Kp.refl (h _ _)

/-! ### operations by values -/
def OpS (K : Fr) (r : R2) (f : Dt → Dt → (Dt → Prop) → Prop) : Prop := ∀ dr I H x y v u P, Pre dr I H → Sh K dr I H v x → Sh K dr I H u y → f x y P → ∀ Q : VK, (∀ d w H', P d → Kp dr H H' → Rp K dr (ext I H H') w d → Q w H') → r v u H Q
def OpN (K : Fr) (r : R2) (f : Dt → Dt → (Dt → Prop) → Prop) : Prop := ∀ dr I H x y v u P, Pre dr I H → Sh K dr I H v x → Sh K dr I H u y → f x y P → ∀ Q : VK, (∀ d w H', P d → Kp dr H H' → New K dr I H H' w d → Q w H') → r v u H Q
def eOp (f : Dt → Dt → (Dt → Prop) → Prop) (ia ib : IE) : IE := fun env P E => ia env (fun x => ib env (fun y => f x y P) E) E
theorem snd_op {r : R2} {f : Dt → Dt → (Dt → Prop) → Prop} (hr : OpS K r f) (ha : SndO K xr W ta ia) (hb : SndO K xr W tb ib) : Snd K xr W (tOp r ta tb) (eOp f ia ib) := fun dr env σ I H P E p ev hi o Q q =>
  two ha hb p ev hi o (fun v u H2 => r v u H2 Q) fun x y v u H2 hR k p2 r1 r2 => hr dr _ H2 x y v u P p2 r1 r2 hR Q fun d w H3 hP k3 r3 => q d w H3 hP (k.trans k3) (by rw [p.ext_ext k k3] at r3; exact r3)
theorem New.back {dr : Dr} {I H H1 H2 : Hp} {v : V} {d : Dt} (p : Pre dr I H) (k : Kp dr H H1) (k2 : Kp dr H1 H2) (h : New K dr (ext I H H1) H1 H2 v d) : New K dr I H H2 v d := by
  obtain ⟨a, rfl, hn, r⟩ := h
  refine ⟨a, rfl, k.none_back p hn, ?_⟩
  rw [p.ext_ext k k2] at r; exact r
theorem sndN_op {r : R2} {f : Dt → Dt → (Dt → Prop) → Prop} (hr : OpN K r f) (ha : SndO K xr W ta ia) (hb : SndO K xr W tb ib) : SndN K xr W (tOp r ta tb) (eOp f ia ib) := fun dr env σ I H P E p ev hi o Q q =>
  two ha hb p ev hi o (fun v u H2 => r v u H2 Q) fun x y v u H2 hR k p2 r1 r2 => hr dr _ H2 x y v u P p2 r1 r2 hR Q fun d w H3 hP k3 r3 => q d w H3 hP (k.trans k3) (r3.back p k k3)
/-- one operand -/
def UnS (K : Fr) (r : V → Hp → VK → Prop) (f : Dt → (Dt → Prop) → Prop) : Prop := ∀ dr I H x v P, Pre dr I H → Sh K dr I H v x → f x P → ∀ Q : VK, (∀ d w H', P d → Kp dr H H' → Rp K dr (ext I H H') w d → Q w H') → r v H Q
def eUn (f : Dt → (Dt → Prop) → Prop) (ia : IE) : IE := fun env P E => ia env (fun x => f x P) E
theorem snd_un {r : V → Hp → VK → Prop} {f : Dt → (Dt → Prop) → Prop} (hr : UnS K r f) (ha : SndO K xr W ta ia) : Snd K xr W (tUn r ta) (eUn f ia) := fun dr env σ I H P E p ev hi o Q q =>
  ha dr env σ I H _ E p ev hi o _ fun x v H1 hx k1 r1 => hr dr _ H1 x v P (p.step k1) r1 hx Q fun d w H3 hP k3 r3 => q d w H3 hP (k1.trans k3) (by rw [p.ext_ext k1 k3] at r3; exact r3)

/-! ### lists of arguments -/
def aNil : IA := fun _ P _ => P []
def aCons (ia : IE) (il : IA) : IA := fun env P E => ia env (fun x => il env (fun xs => P (x :: xs)) E) E
theorem sndA_nil : SndA K xr W tNil aNil := fun dr env σ I H P E p ev hi o Q q => q [] [] H hi Kp.refl .nil
theorem sndA_cons (ha : Snd K xr W ta ia) (hl : SndA K xr W tl il) : SndA K xr W (tCons ta tl) (aCons ia il) := fun dr env σ I H P E p ev hi o Q q => by
  refine ha dr env σ I H _ E p ev hi o _ fun x v H1 hx k1 r1 => ?_
  have p1 := p.step k1
  refine hl dr env σ _ H1 _ E p1 (ev.step k1 p) hx (o.step k1) _ fun ys us H2 hy k2 r2 => ?_
  have r1' := r1.mono (p1.ext_sub (H' := H2))
  rw [p.ext_ext k1 k2] at r2 r1'
  exact q _ _ H2 hy (k1.trans k2) (.cons r1' r2)
/-- operands (owned ones too) -/
def ShL (K : Fr) (dr : Dr) (I H : Hp) : List V → List Dt → Prop
  | [], [] => True
  | v :: vs, d :: ds => Sh K dr I H v d ∧ ShL K dr I H vs ds
  | _, _ => False
theorem ShL.mono {dr : Dr} {I H H' : Hp} (k : Kp dr H H') (p : Pre dr I H) : ∀ {vs : List V} {ds : List Dt}, ShL K dr I H vs ds → ShL K dr (ext I H H') H' vs ds
  | [], [], _ => trivial
  | _ :: _, _ :: _, h => ⟨h.1.mono k p, ShL.mono k p h.2⟩
  | [], _ :: _, h => h.elim
  | _ :: _, [], h => h.elim
def SndAO (K : Fr) (xr : XR) (W : WX) (ta : TA) (ia : IA) : Prop := ∀ dr env σ I H P E, Pre dr I H → EnvOk K dr env σ I H → ia env P E → OutE xr W dr σ H E → ∀ Q : List V → Hp → Prop, (∀ ds vs H', P ds → Kp dr H H' → ShL K dr (ext I H H') H' vs ds → Q vs H') → ta σ H Q
theorem sndAO_nil : SndAO K xr W tNil aNil := fun dr env σ I H P E p ev hi o Q q => q [] [] H hi Kp.refl trivial
theorem sndAO_cons (ha : SndO K xr W ta ia) (hl : SndAO K xr W tl il) : SndAO K xr W (tCons ta tl) (aCons ia il) := fun dr env σ I H P E p ev hi o Q q => by
  refine ha dr env σ I H _ E p ev hi o _ fun x v H1 hx k1 r1 => ?_
  have p1 := p.step k1
  refine hl dr env σ _ H1 _ E p1 (ev.step k1 p) hx (o.step k1) _ fun ys us H2 hy k2 r2 => ?_
  have r1' := r1.mono k2 p1
  rw [p.ext_ext k1 k2] at r2 r1'
  exact q _ _ H2 hy (k1.trans k2) ⟨r1', r2⟩
/-- a built-in's call -/
def CaS (K : Fr) (r : List V → Hp → VK → Prop) (f : List Dt → (Dt → Prop) → Prop) : Prop := ∀ dr I H xs vs P, Pre dr I H → ShL K dr I H vs xs → f xs P → ∀ Q : VK, (∀ d w H', P d → Kp dr H H' → Rp K dr (ext I H H') w d → Q w H') → r vs H Q
def CaN (K : Fr) (r : List V → Hp → VK → Prop) (f : List Dt → (Dt → Prop) → Prop) : Prop := ∀ dr I H xs vs P, Pre dr I H → ShL K dr I H vs xs → f xs P → ∀ Q : VK, (∀ d w H', P d → Kp dr H H' → New K dr I H H' w d → Q w H') → r vs H Q
def eCB (f : List Dt → (Dt → Prop) → Prop) (il : IA) : IE := fun env P E => il env (fun xs => f xs P) E
theorem snd_cb {r : List V → Hp → VK → Prop} {f : List Dt → (Dt → Prop) → Prop} (hr : CaS K r f) (hl : SndAO K xr W tl il) : Snd K xr W (tCB r tl) (eCB f il) := fun dr env σ I H P E p ev hi o Q q =>
  hl dr env σ I H _ E p ev hi o _ fun x v H1 hx k1 r1 => hr dr _ H1 x v P (p.step k1) r1 hx Q fun d w H3 hP k3 r3 => q d w H3 hP (k1.trans k3) (by rw [p.ext_ext k1 k3] at r3; exact r3)
theorem sndN_cb {r : List V → Hp → VK → Prop} {f : List Dt → (Dt → Prop) → Prop} (hr : CaN K r f) (hl : SndAO K xr W tl il) : SndN K xr W (tCB r tl) (eCB f il) := fun dr env σ I H P E p ev hi o Q q =>
  hl dr env σ I H _ E p ev hi o _ fun x v H1 hx k1 r1 => hr dr _ H1 x v P (p.step k1) r1 hx Q fun d w H3 hP k3 r3 => q d w H3 hP (k1.trans k3) (r3.back p k1 k3)

/-! ### new tuples, new lists -/
theorem new_at {dr : Dr} {I H : Hp} {p : Addr} {o : HO} (pr : Pre dr I H) (hp : H p = none) : Same I (hid p (ext I H (upd H p o))) := fun a u e => by
  have ne : a ≠ p := fun z => by subst z; have := pr.sub _ _ e; rw [hp] at this; cases this
  unfold hid
  rw [if_neg ne]
  exact pr.ext_sub a u e
def eTup (il : IA) : IE := fun env P E => il env (fun xs => xs.length ≤ 16777216 ∧ P (.tup xs)) E
def eLst (il : IA) : IE := fun env P E => il env (fun xs => xs.length ≤ 16777216 ∧ P (.lst xs)) E
theorem size_le {n : Nat} (h : n ≤ 16777216) : n ≤ sizeLine := by rw [sizeLine_eq]; exact h
theorem rp_new_tup {dr : Dr} {I H : Hp} {p : Addr} {vs : List V} {ds : List Dt} (pr : Pre dr I H) (hp : H p = none) (r : RpL K dr I vs ds) : Rp K dr (ext I H (upd H p (.tup vs))) (.ref p) (.tup ds) :=
  .tup (SqT.of (by rw [ext_none hp]; exact upd_same)) (RpL.mono pr.ext_sub _ _ r)
theorem new_lst {dr : Dr} {I H : Hp} {p : Addr} {vs : List V} {ds : List Dt} (pr : Pre dr I H) (hp : H p = none) (r : RpL K dr I vs ds) : New K dr I H (upd H p (.lst vs)) (.ref p) (.lst ds) :=
  ⟨p, rfl, hp, vs, upd_same, RpL.mono (new_at pr hp) _ _ r⟩
theorem snd_tup (hl : SndA K xr W tl il) : Snd K xr W (tTup tl) (eTup il) := fun dr env σ I H P E p ev hi o Q q =>
  hl dr env σ I H _ E p ev hi o _ fun xs vs H1 hx k1 r1 => ⟨size_le (by rw [r1.len]; exact hx.1), fun a ha => by
    have p1 := p.step k1
    have k2 := Kp.new (o := .tup vs) p1 ha
    have z := rp_new_tup p1 ha r1
    rw [p.ext_ext k1 k2] at z
    exact q _ _ _ hx.2 (k1.trans k2) z⟩
theorem sndN_lst (hl : SndA K xr W tl il) : SndN K xr W (tLst tl) (eLst il) := fun dr env σ I H P E p ev hi o Q q =>
  hl dr env σ I H _ E p ev hi o _ fun xs vs H1 hx k1 r1 => ⟨size_le (by rw [r1.len]; exact hx.1), fun a ha => by
    have p1 := p.step k1
    have k2 := Kp.new (o := .lst vs) p1 ha
    exact q _ _ _ hx.2 (k1.trans k2) ((new_lst p1 ha r1).back p k1 k2)⟩

/-! ### tests -/
def asB : Dt → (Bool → Prop) → Prop
  | .bl b, P => P b
  | _, _ => False
@[simp] theorem asB_r1  {b : Bool} {P : (Bool → Prop)} : asB (.bl b) P = (P b) := id rfl
def bT (ia : IE) : IT := fun env P E => ia env (fun x => asB x P) E
def bAnd (it iu : IT) : IT := fun env P E => it env (fun b => if b = true then iu env P E else P false) E
def bOr (it iu : IT) : IT := fun env P E => it env (fun b => if b = true then P true else iu env P E) E
def bNot (it : IT) : IT := fun env P E => it env (fun b => P (!b)) E
theorem isBl {dr : Dr} {H : Hp} {v : V} {d : Dt} {P : Bool → Prop} (r : Rp K dr H v d) (h : asB d P) : ∃ b, v = .bl b ∧ P b := by
  cases d with
  | bl b => cases r; exact ⟨b, rfl, h⟩
  | _ => exact h.elim
theorem sndT_B (ha : Snd K xr W ta ia) : SndT K xr W (tB ta) (bT ia) := fun dr env σ I H P E p ev hi o Q q =>
  ha dr env σ I H _ E p ev hi o _ fun x v H1 hx k1 r1 => let ⟨b, e, hb⟩ := isBl r1 hx; ⟨b, e, q b H1 hb k1⟩
theorem sndT_test (ha : Snd K xr W ta ia) : SndT K xr W (tTest ta) (bT ia) := fun dr env σ I H P E p ev hi o Q q =>
  ha dr env σ I H _ E p ev hi o _ fun x v H1 hx k1 r1 => let ⟨b, e, hb⟩ := isBl r1 hx; ⟨b, e, q b H1 hb k1⟩
theorem sndT_and (ht : SndT K xr W tt it) (hu : SndT K xr W tu iu) : SndT K xr W (tAnd tt tu) (bAnd it iu) := fun dr env σ I H P E p ev hi o Q q =>
  ht dr env σ I H _ E p ev hi o _ fun b H1 hb k1 => by
    cases b with
    | true => exact hu dr env σ _ H1 P E (p.step k1) (ev.step k1 p) hb (o.step k1) Q fun b' H2 hb' k2 => q b' H2 hb' (k1.trans k2)
    | false => exact q false H1 hb k1
theorem sndT_or (ht : SndT K xr W tt it) (hu : SndT K xr W tu iu) : SndT K xr W (tOr tt tu) (bOr it iu) := fun dr env σ I H P E p ev hi o Q q =>
  ht dr env σ I H _ E p ev hi o _ fun b H1 hb k1 => by
    cases b with
    | false => exact hu dr env σ _ H1 P E (p.step k1) (ev.step k1 p) hb (o.step k1) Q fun b' H2 hb' k2 => q b' H2 hb' (k1.trans k2)
    | true => exact q true H1 hb k1
theorem sndT_not (ht : SndT K xr W tt it) : SndT K xr W (tNot tt) (bNot it) := fun dr env σ I H P E p ev hi o Q q =>
  ht dr env σ I H _ E p ev hi o _ fun b H1 hb k1 => q _ H1 hb k1
def eAnd (ia ib : IE) : IE := fun env P E => ia env (fun x => asB x fun b => if b = true then ib env P E else P (.bl false)) E
def eOr (ia ib : IE) : IE := fun env P E => ia env (fun x => asB x fun b => if b = true then P (.bl true) else ib env P E) E
def eNot (ia : IE) : IE := fun env P E => ia env (fun x => asB x fun b => P (.bl (!b))) E
theorem ext_back {dr : Dr} {I H H1 H2 : Hp} {v : V} {d : Dt} (p : Pre dr I H) (k : Kp dr H H1) (k2 : Kp dr H1 H2) (h : Rp K dr (ext (ext I H H1) H1 H2) v d) : Rp K dr (ext I H H2) v d := by
  rw [p.ext_ext k k2] at h; exact h
theorem snd_and (ha : Snd K xr W ta ia) (hb : Snd K xr W tb ib) : Snd K xr W (tAndV ta tb) (eAnd ia ib) := fun dr env σ I H P E p ev hi o Q q =>
  ha dr env σ I H _ E p ev hi o _ fun x v H1 hx k1 r1 => by
    obtain ⟨b, e, hb'⟩ := isBl (P := fun b => if b = true then ib env P E else P (.bl false)) r1 hx
    refine ⟨b, e, ?_⟩
    cases b with
    | true => exact hb dr env σ _ H1 P E (p.step k1) (ev.step k1 p) hb' (o.step k1) Q fun d w H2 hd k2 r2 => q d w H2 hd (k1.trans k2) (ext_back p k1 k2 r2)
    | false => exact q _ _ H1 hb' k1 (.bl false)
theorem snd_or (ha : Snd K xr W ta ia) (hb : Snd K xr W tb ib) : Snd K xr W (tOrV ta tb) (eOr ia ib) := fun dr env σ I H P E p ev hi o Q q =>
  ha dr env σ I H _ E p ev hi o _ fun x v H1 hx k1 r1 => by
    obtain ⟨b, e, hb'⟩ := isBl (P := fun b => if b = true then P (.bl true) else ib env P E) r1 hx
    refine ⟨b, e, ?_⟩
    cases b with
    | false => exact hb dr env σ _ H1 P E (p.step k1) (ev.step k1 p) hb' (o.step k1) Q fun d w H2 hd k2 r2 => q d w H2 hd (k1.trans k2) (ext_back p k1 k2 r2)
    | true => exact q _ _ H1 hb' k1 (.bl true)
theorem snd_not (ha : Snd K xr W ta ia) : Snd K xr W (tNotV ta) (eNot ia) := fun dr env σ I H P E p ev hi o Q q =>
  ha dr env σ I H _ E p ev hi o _ fun x v H1 hx k1 r1 => by
    obtain ⟨b, e, hb'⟩ := isBl (P := fun b => P (.bl (!b))) r1 hx
    exact ⟨b, e, q _ _ H1 hb' k1 (.bl _)⟩
def eIf (it : IT) (ia ib : IE) : IE := fun env P E => it env (fun b => if b = true then ia env P E else ib env P E) E
theorem snd_if (ht : SndT K xr W tt it) (ha : Snd K xr W ta ia) (hb : Snd K xr W tb ib) : Snd K xr W (tIf tt ta tb) (eIf it ia ib) := fun dr env σ I H P E p ev hi o Q q =>
  ht dr env σ I H _ E p ev hi o _ fun b H1 hx k1 => by
    cases b with
    | true => exact ha dr env σ _ H1 P E (p.step k1) (ev.step k1 p) hx (o.step k1) Q fun d w H2 hd k2 r2 => q d w H2 hd (k1.trans k2) (ext_back p k1 k2 r2)
    | false => exact hb dr env σ _ H1 P E (p.step k1) (ev.step k1 p) hx (o.step k1) Q fun d w H2 hd k2 r2 => q d w H2 hd (k1.trans k2) (ext_back p k1 k2 r2)
theorem sndN_if (ht : SndT K xr W tt it) (ha : SndN K xr W ta ia) (hb : SndN K xr W tb ib) : SndN K xr W (tIf tt ta tb) (eIf it ia ib) := fun dr env σ I H P E p ev hi o Q q =>
  ht dr env σ I H _ E p ev hi o _ fun b H1 hx k1 => by
    cases b with
    | true => exact ha dr env σ _ H1 P E (p.step k1) (ev.step k1 p) hx (o.step k1) Q fun d w H2 hd k2 r2 => q d w H2 hd (k1.trans k2) (r2.back p k1 k2)
    | false => exact hb dr env σ _ H1 P E (p.step k1) (ev.step k1 p) hx (o.step k1) Q fun d w H2 hd k2 r2 => q d w H2 hd (k1.trans k2) (r2.back p k1 k2)
/-- a op1 b op2 c -/
def eChain (f g : Dt → Dt → (Dt → Prop) → Prop) (ia ib ic : IE) : IE := fun env P E => ia env (fun x => ib env (fun y => f x y (fun z => asB z fun b => if b = true then ic env (fun w => g y w P) E else P (.bl false))) E) E
theorem snd_chain {r r' : R2} {f g : Dt → Dt → (Dt → Prop) → Prop} (hr : OpS K r f) (hr' : OpS K r' g) (ha : SndO K xr W ta ia) (hb : SndO K xr W tb ib) (hc : SndO K xr W tc ic) : Snd K xr W (tChain r r' ta tb tc) (eChain f g ia ib ic) := fun dr env σ I H P E p ev hi o Q q =>
  two ha hb p ev hi o _ fun x y v u H2 hR k p2 r1 r2 => hr dr _ H2 x y v u _ p2 r1 r2 hR _ fun d w H3 hP k3 r3 => by
    obtain ⟨b, e, hb'⟩ := isBl (P := fun b => if b = true then ic env (fun w => g y w P) E else P (.bl false)) r3 hP
    refine ⟨b, e, ?_⟩
    have k' := k.trans k3
    cases b with
    | false => exact q _ _ H3 hb' k' (.bl false)
    | true =>
      refine hc dr env σ _ H3 _ E (p2.step k3) ((ev.step k p).step k3 p2) hb' (o.step k') _ fun z t H4 hz k4 r4 => ?_
      refine hr' dr _ H4 y z u t P ((p2.step k3).step k4) ((r2.mono k3 p2).mono k4 (p2.step k3)) r4 hz Q fun d' w' H5 hd k5 r5 => ?_
      refine q d' w' H5 hd ((k'.trans k4).trans k5) ?_
      have e1 := ext_back (p2.step k3) k4 k5 r5
      have e2 := ext_back p2 k3 (k4.trans k5) e1
      exact ext_back p k (k3.trans (k4.trans k5)) e2
end
end DL

set_option maxRecDepth 100000
/-! DL3: the operations of the language over plain data, each with its rule. -/
namespace DL
open PySem L2 PyProof.Rows

/-! ### as the library's data -/
mutual
def Dt.py : Dt → PyData
  | .non => .none
  | .bl b => .bool b
  | .int i => .int i
  | .str x => .str x
  | .lst xs => .list (pyL xs)
  | .tup xs => .tuple (pyL xs)
  | .dic _ _ => .dict []
  | .dit _ _ => .dict []
  | .st => .dict []
def pyL : List Dt → List PyData
  | [] => []
  | d :: ds => d.py :: pyL ds
end
theorem pyL_map (ds : List Dt) : pyL ds = ds.map Dt.py := by
  induction ds with
  | nil => rfl
  | cons d ds ih => rw [pyL, List.map_cons, ih]
section
variable {K : Fr} {dr : Dr} {H : Hp}
mutual
theorem Rp.dp : ∀ (d : Dt) (v : V), Rp K dr H v d → d.py.canLay0 = true → Dp K H v d.py
  | .non, _, h, _ => by cases h; rw [Dt.py]; exact .non
  | .bl b, _, h, _ => by cases h; rw [Dt.py]; exact .bl b
  | .int i, _, h, _ => by cases h; rw [Dt.py]; exact .int i
  | .str x, _, h, _ => by cases h; rw [Dt.py]; exact .str x
  | .lst ds, _, h, c => by
    cases h with
    | lst hs ha =>
      rw [Dt.py] at c ⊢
      exact .lst (SqL.of hs) (RpL.dp ds _ ha (by simpa [PyData.canLay0] using c))
  | .tup ds, _, h, c => by
    cases h with
    | tup hs ha =>
      rw [Dt.py] at c ⊢
      exact .tup hs (RpL.dp ds _ ha (by simpa [PyData.canLay0] using c))
  | .dic ks ds, _, _, c => by rw [Dt.py] at c; simp [PyData.canLay0] at c
  | .dit ks ds, _, _, c => by rw [Dt.py] at c; simp [PyData.canLay0] at c
  | .st, _, _, c => by rw [Dt.py] at c; simp [PyData.canLay0] at c
theorem RpL.dp : ∀ (ds : List Dt) (vs : List V), RpL K dr H vs ds → PyData.canLayAll0 (pyL ds) = true → DpAll K H vs (pyL ds)
  | [], _, h, _ => by cases h; rw [pyL]; exact .nil
  | d :: ds, _, h, c => by
    cases h with
    | cons h1 h2 =>
      rw [pyL] at c ⊢
      have c' : d.py.canLay0 = true ∧ PyData.canLayAll0 (pyL ds) = true := by simpa [PyData.canLayAll0] using c
      exact .cons (Rp.dp d _ h1 c'.1) (RpL.dp ds _ h2 c'.2)
end
end
/-- data that may be compared: no dict within, at most 64 deep -/
def okD (d : Dt) : Prop := SeqAt.shaped d.py = true
theorem okD.lay {d : Dt} (h : okD d) : d.py.canLay0 = true := SeqAt.canLay_of_shaped h
def eqv (x y : Dt) : Bool := PyData.eqv x.py y.py
theorem Sh.dp {K : Fr} {dr : Dr} {I H : Hp} {v : V} {d : Dt} (p : Pre dr I H) (h : Sh K dr I H v d) (c : okD d) : Dp K H v d.py := by
  rcases h with h | ⟨q, rfl, _, _, h3⟩
  · exact (h.mono p.sub).dp _ _ c.lay
  · cases d with
    | lst ds => obtain ⟨vs, h1, h2⟩ := h3; exact (Rp.lst h1 (RpL.mono p.sub _ _ h2)).dp _ _ c.lay
    | _ => first | exact h3.elim | (have := c.lay; rw [Dt.py] at this; simp [PyData.canLay0] at this)

/-! ### links: an expression, its mirror -/
def LE (xr : XR) (X : Cx) (W : WX) (e : Expr) (ie : IE) : Prop := ∃ te, PE X e te ∧ Snd X.K xr W te ie
def LO (xr : XR) (X : Cx) (W : WX) (e : Expr) (ie : IE) : Prop := ∃ te, PE X e te ∧ SndO X.K xr W te ie
def LN (xr : XR) (X : Cx) (W : WX) (e : Expr) (ie : IE) : Prop := ∃ te, PE X e te ∧ SndN X.K xr W te ie
def LT (xr : XR) (X : Cx) (W : WX) (e : Expr) (it : IT) : Prop := ∃ tt, PT X e tt ∧ SndT X.K xr W tt it
def LW (xr : XR) (X : Cx) (W : WX) (e : Expr) (it : IT) : Prop := ∃ tt, PW X e tt ∧ SndT X.K xr W tt it
def LA (xr : XR) (X : Cx) (W : WX) (es : List Expr) (ia : IA) : Prop := ∃ ta, PA X es ta ∧ SndA X.K xr W ta ia
def LAO (xr : XR) (X : Cx) (W : WX) (es : List Expr) (ia : IA) : Prop := ∃ ta, PA X es ta ∧ SndAO X.K xr W ta ia
def LP (xr : XR) (X : Cx) (W : WX) (e : Option Expr) (ip : IP) : Prop := ∃ tp, PO X e tp ∧ SndP X.K xr W tp ip

section
variable {xr : XR} {X : Cx} {W : WX} {e a b c : Expr} {es : List Expr} {ie ia ib ic : IE} {it iu : IT} {il : IA} {pos : Pos}
theorem LE.O (h : LE xr X W e ie) : LO xr X W e ie := let ⟨t, p, s⟩ := h; ⟨t, p, s.o⟩
theorem LN.E (h : LN xr X W e ie) : LE xr X W e ie := let ⟨t, p, s⟩ := h; ⟨t, p, s.e⟩
theorem LN.O (h : LN xr X W e ie) : LO xr X W e ie := h.E.O

/-! ### names, constants -/
theorem le_var (i : Nat) {x : Str} (hN : X.N[i]? = some x := by rfl) (hv : Vis X.env.scope x := by first | exact Or.inl rfl | exact Or.inr (Or.inl rfl) | exact Or.inr (Or.inr rfl)) (hd : (x == ("__debug__" : Str)) = false := by decide)
    (hcd : (x == ("__classdict__" : Str)) = false := by decide) : LE xr X W (.Name x pos) (eVar i) := ⟨_, pe_var hN hv hd hcd, snd_var⟩
theorem lo_var (i : Nat) {x : Str} (hN : X.N[i]? = some x := by rfl) (hv : Vis X.env.scope x := by first | exact Or.inl rfl | exact Or.inr (Or.inl rfl) | exact Or.inr (Or.inr rfl)) (hd : (x == ("__debug__" : Str)) = false := by decide)
    (hcd : (x == ("__classdict__" : Str)) = false := by decide) : LO xr X W (.Name x pos) (oVar i) := ⟨_, pe_var hN hv hd hcd, sndO_var⟩
theorem le_int {i : Int} {j} : LE xr X W (.Constant (.int i) j pos) (eC (.int i)) := ⟨_, pe_int, snd_c fun _ _ => .int i⟩
theorem le_bl {i : Bool} {j} : LE xr X W (.Constant (.bool i) j pos) (eC (.bl i)) := ⟨_, pe_bl, snd_c fun _ _ => .bl i⟩
theorem le_non {j} : LE xr X W (.Constant .none j pos) (eC .non) := ⟨_, pe_non, snd_c fun _ _ => .non⟩
theorem le_str {i : Str} {j} : LE xr X W (.Constant (.str i) j pos) (eC (.str i)) := ⟨_, pe_str, snd_c fun _ _ => .str i⟩
theorem le_glob {x : Str} {v : V} {u : Value} {d : Dt} (hg : Gl X x) (hm : X.mg x = some u) (r : RelV v u) (h : ∀ dr I, Rp X.K dr I v d) (hd : (x == ("__debug__" : Str)) = false := by decide) : LE xr X W (.Name x pos) (eC d) := ⟨_, pe_glob hg hm r hd, snd_c h⟩

/-! ### lists of arguments, tuples, lists -/
theorem la_nil : LA xr X W [] aNil := ⟨_, pa_nil, sndA_nil⟩
theorem la_cons (h : LE xr X W e ie) (hl : LA xr X W es il) (hs : starEach (e :: es) X.env = (false, eval e X.env) :: starEach es X.env := by rfl) : LA xr X W (e :: es) (aCons ie il) :=
  let ⟨_, p, s⟩ := h; let ⟨_, pl, sl⟩ := hl; ⟨_, pa_cons p pl hs, sndA_cons s sl⟩
theorem lao_nil : LAO xr X W [] aNil := ⟨_, pa_nil, sndAO_nil⟩
theorem lao_cons (h : LO xr X W e ie) (hl : LAO xr X W es il) (hs : starEach (e :: es) X.env = (false, eval e X.env) :: starEach es X.env := by rfl) : LAO xr X W (e :: es) (aCons ie il) :=
  let ⟨_, p, s⟩ := h; let ⟨_, pl, sl⟩ := hl; ⟨_, pa_cons p pl hs, sndAO_cons s sl⟩
theorem le_tup {k} (h : LA xr X W es il) : LE xr X W (.Tuple es k pos) (eTup il) := let ⟨_, p, s⟩ := h; ⟨_, pe_tup p, snd_tup s⟩
theorem ln_lst (h : LA xr X W es il) : LN xr X W (.List es pos) (eLst il) := let ⟨_, p, s⟩ := h; ⟨_, pe_lst p, sndN_lst s⟩

/-! ### arithmetic -/
theorem OpR.or {f : Value → Value → Sem Value} {r r' : R2} (h : OpR X f r) (h' : OpR X f r') : OpR X f (fun x y H Q => r x y H Q ∨ r' x y H Q) := by
  intro pins s σ H x y v u Q I rx ry q
  rcases q with q | q
  · exact h pins s σ H x y v u Q I rx ry q
  · exact h' pins s σ H x y v u Q I rx ry q
theorem le_bin {op : Operator} {r : R2} {f : Dt → Dt → (Dt → Prop) → Prop} (ho : OpR X (binaryOp op) r) (hs : OpS X.K r f) (ha : LO xr X W a ia) (hb : LO xr X W b ib) : LE xr X W (.BinOp a op b pos) (eOp f ia ib) :=
  let ⟨_, p, s⟩ := ha; let ⟨_, q, t⟩ := hb; ⟨_, pe_op ho p q, snd_op hs s t⟩
theorem ln_bin {op : Operator} {r : R2} {f : Dt → Dt → (Dt → Prop) → Prop} (ho : OpR X (binaryOp op) r) (hs : OpN X.K r f) (ha : LO xr X W a ia) (hb : LO xr X W b ib) : LN xr X W (.BinOp a op b pos) (eOp f ia ib) :=
  let ⟨_, p, s⟩ := ha; let ⟨_, q, t⟩ := hb; ⟨_, pe_op ho p q, sndN_op hs s t⟩
end
section
variable {K : Fr} {dr : Dr} {I H : Hp} {v u : V} {i j : Int}
theorem Sh.int (h : Sh K dr I H v (.int i)) : v = .int i := by
  rcases h with h | ⟨_, _, _, _, h⟩
  · cases h; rfl
  · exact h.elim
theorem Sh.bl {i : Bool} (h : Sh K dr I H v (.bl i)) : v = .bl i := by
  rcases h with h | ⟨_, _, _, _, h⟩
  · cases h; rfl
  · exact h.elim
theorem Sh.str {i : Str} (h : Sh K dr I H v (.str i)) : v = .str i := by
  rcases h with h | ⟨_, _, _, _, h⟩
  · cases h; rfl
  · exact h.elim
theorem Sh.non (h : Sh K dr I H v .non) : v = .non := by
  rcases h with h | ⟨_, _, _, _, h⟩
  · cases h; rfl
  · exact h.elim
theorem rp_at {w : V} {d : Dt} (p : Pre dr I H) (h : Rp K dr I w d) : Rp K dr (ext I H H) w d := by rw [p.ext_same]; exact h
end
theorem op_mulK {X : Cx} : OpR X (binaryOp .Mult) (rI IntMulOk fun i j => .int (i * j)) := opI fun _ _ _ _ _ _ _ hc q => mul_int q hc
def DivOk (i j : Int) : Prop := Builtin.divisionGoesByPylong i j = false
theorem op_fdivK {X : Cx} : OpR X (binaryOp .FloorDiv) (rI (fun i j => j ≠ 0 ∧ DivOk i j) fun i j => .int (i.fdiv j)) := opI fun i j _ _ _ _ _ hc q => floordiv_int hc.1 q (.inl hc.2)
theorem rep_ok {K : Fr} : OpN K rRep (fun x y P => match x, y with
    | .lst xs, .int k => (-(2 ^ 63) ≤ k ∧ k < 2 ^ 63 ∧ xs.length * k.toNat ≤ 16777216) ∧ P (.lst (List.replicate k.toNat xs).flatten)
    | _, _ => False) := by
  intro dr I H x y v u P p hx hy hf Q q
  split at hf
  · rename_i xs k
    obtain ⟨⟨h1, h2, h3⟩, hP⟩ := hf
    obtain ⟨a, vs, rfl, ha, r⟩ := hx.lst p.sub
    obtain rfl := hy.int
    exact ⟨a, k, vs, rfl, rfl, ha, h1, h2, size_le (by rw [r.len]; exact h3), fun l hl => q _ _ _ hP (Kp.new p hl) (new_lst p hl (r.rep _))⟩
  · exact hf.elim

/-- + of two ints -/
def addI : Dt → Dt → (Dt → Prop) → Prop
  | .int a, .int b, P => P (.int (a + b))
  | _, _, _ => False
@[simp] theorem addI_r1  {a : Int} {b : Int} {P : (Dt → Prop)} : addI (.int a) (.int b) P = (P (.int (a + b))) := id rfl
def subI : Dt → Dt → (Dt → Prop) → Prop
  | .int a, .int b, P => P (.int (a - b))
  | _, _, _ => False
@[simp] theorem subI_r1  {a : Int} {b : Int} {P : (Dt → Prop)} : subI (.int a) (.int b) P = (P (.int (a - b))) := id rfl
def mulI : Dt → Dt → (Dt → Prop) → Prop
  | .int a, .int b, P => IntMulOk a b ∧ P (.int (a * b))
  | _, _, _ => False
@[simp] theorem mulI_r1  {a : Int} {b : Int} {P : (Dt → Prop)} : mulI (.int a) (.int b) P = (IntMulOk a b ∧ P (.int (a * b))) := id rfl
def divI : Dt → Dt → (Dt → Prop) → Prop
  | .int a, .int b, P => (b ≠ 0 ∧ DivOk a b) ∧ P (.int (a.fdiv b))
  | _, _, _ => False
@[simp] theorem divI_r1  {a : Int} {b : Int} {P : (Dt → Prop)} : divI (.int a) (.int b) P = ((b ≠ 0 ∧ DivOk a b) ∧ P (.int (a.fdiv b))) := id rfl
def modI : Dt → Dt → (Dt → Prop) → Prop
  | .int a, .int b, P => b ≠ 0 ∧ P (.int (a.fmod b))
  | _, _, _ => False
@[simp] theorem modI_r1  {a : Int} {b : Int} {P : (Dt → Prop)} : modI (.int a) (.int b) P = (b ≠ 0 ∧ P (.int (a.fmod b))) := id rfl
def catL : Dt → Dt → (Dt → Prop) → Prop
  | .lst xs, .lst ys, P => xs.length + ys.length ≤ 16777216 ∧ P (.lst (xs ++ ys))
  | _, _, _ => False
@[simp] theorem catL_r1  {xs : List Dt} {ys : List Dt} {P : (Dt → Prop)} : catL (.lst xs) (.lst ys) P = (xs.length + ys.length ≤ 16777216 ∧ P (.lst (xs ++ ys))) := id rfl
def catT : Dt → Dt → (Dt → Prop) → Prop
  | .tup xs, .tup ys, P => xs.length + ys.length ≤ 16777216 ∧ P (.tup (xs ++ ys))
  | _, _, _ => False
section
set_option autoImplicit true
@[simp] theorem catT_r1 {xs ys : List Dt} {P : Dt → Prop} : catT (.tup xs) (.tup ys) P = (xs.length + ys.length ≤ 16777216 ∧ P (.tup (xs ++ ys))) := id rfl
end
def catS : Dt → Dt → (Dt → Prop) → Prop
  | .str xs, .str ys, P => xs.length + ys.length ≤ 16777216 ∧ P (.str (xs ++ ys))
  | _, _, _ => False
@[simp] theorem catS_r1  {xs : Str} {ys : Str} {P : (Dt → Prop)} : catS (.str xs) (.str ys) P = (xs.length + ys.length ≤ 16777216 ∧ P (.str (xs ++ ys))) := id rfl
def repL : Dt → Dt → (Dt → Prop) → Prop
  | .lst xs, .int k, P => (-(2 ^ 63) ≤ k ∧ k < 2 ^ 63 ∧ xs.length * k.toNat ≤ 16777216) ∧ P (.lst (List.replicate k.toNat xs).flatten)
  | _, _, _ => False
@[simp] theorem repL_r1  {xs : List Dt} {k : Int} {P : (Dt → Prop)} : repL (.lst xs) (.int k) P = ((-(2 ^ 63) ≤ k ∧ k < 2 ^ 63 ∧ xs.length * k.toNat ≤ 16777216) ∧ P (.lst (List.replicate k.toNat xs).flatten)) := id rfl
section
variable {K : Fr}
theorem ops_I0 {g : Int → Int → V} {gd : Int → Int → Dt} {f : Dt → Dt → (Dt → Prop) → Prop} (hg : ∀ i j dr I, Rp K dr I (g i j) (gd i j)) (hf : ∀ x y P, f x y P → ∃ i j, x = .int i ∧ y = .int j ∧ P (gd i j)) : OpS K (rI0 g) f := by
  intro dr I H x y v u P p hx hy h Q q
  obtain ⟨i, j, rfl, rfl, hP⟩ := hf x y P h
  exact ⟨i, j, hx.int, hy.int, q _ _ H hP Kp.refl (rp_at p (hg i j _ _))⟩
theorem ops_I {C : Int → Int → Prop} {g : Int → Int → V} {gd : Int → Int → Dt} {f : Dt → Dt → (Dt → Prop) → Prop} (hg : ∀ i j dr I, Rp K dr I (g i j) (gd i j)) (hf : ∀ x y P, f x y P → ∃ i j, x = .int i ∧ y = .int j ∧ C i j ∧ P (gd i j)) : OpS K (rI C g) f := by
  intro dr I H x y v u P p hx hy h Q q
  obtain ⟨i, j, rfl, rfl, hC, hP⟩ := hf x y P h
  exact ⟨i, j, hx.int, hy.int, hC, q _ _ H hP Kp.refl (rp_at p (hg i j _ _))⟩
theorem ops_add : OpS K (rI0 fun i j => .int (i + j)) addI := ops_I0 (gd := fun i j => .int (i + j)) (fun i j _ _ => .int _) fun x y P h => by
  unfold addI at h
  split at h
  · exact ⟨_, _, rfl, rfl, h⟩
  · exact h.elim
theorem ops_sub : OpS K (rI0 fun i j => .int (i - j)) subI := ops_I0 (gd := fun i j => .int (i - j)) (fun i j _ _ => .int _) fun x y P h => by
  unfold subI at h
  split at h
  · exact ⟨_, _, rfl, rfl, h⟩
  · exact h.elim
theorem ops_mul : OpS K (rI IntMulOk fun i j => .int (i * j)) mulI := ops_I (gd := fun i j => .int (i * j)) (fun i j _ _ => .int _) fun x y P h => by
  unfold mulI at h
  split at h
  · exact ⟨_, _, rfl, rfl, h⟩
  · exact h.elim
theorem ops_div : OpS K (rI (fun i j => j ≠ 0 ∧ DivOk i j) fun i j => .int (i.fdiv j)) divI := ops_I (gd := fun i j => .int (i.fdiv j)) (fun i j _ _ => .int _) fun x y P h => by
  unfold divI at h
  split at h
  · exact ⟨_, _, rfl, rfl, h⟩
  · exact h.elim
theorem ops_mod : OpS K (rI (fun _ j => j ≠ 0) fun i j => .int (i.fmod j)) modI := ops_I (gd := fun i j => .int (i.fmod j)) (fun i j _ _ => .int _) fun x y P h => by
  unfold modI at h
  split at h
  · exact ⟨_, _, rfl, rfl, h⟩
  · exact h.elim
theorem opn_cat : OpN K rCat catL := by
  intro dr I H x y v u P p hx hy h Q q
  unfold catL at h
  split at h
  · obtain ⟨a, vs, rfl, ha, r⟩ := hx.lst p.sub
    obtain ⟨b, ws, rfl, hb, s⟩ := hy.lst p.sub
    exact ⟨a, b, vs, ws, rfl, rfl, ha, hb, size_le (by rw [r.len, s.len]; exact h.1), fun l hl => q _ _ _ h.2 (Kp.new p hl) (new_lst p hl (r.append s))⟩
  · exact h.elim
theorem opn_rep : OpN K rRep repL := by
  intro dr I H x y v u P p hx hy h Q q
  unfold repL at h
  split at h
  · obtain ⟨⟨h1, h2, h3⟩, hP⟩ := h
    obtain ⟨a, vs, rfl, ha, r⟩ := hx.lst p.sub
    obtain rfl := hy.int
    exact ⟨a, _, vs, rfl, rfl, ha, h1, h2, size_le (by rw [r.len]; exact h3), fun l hl => q _ _ _ hP (Kp.new p hl) (new_lst p hl (r.rep _))⟩
  · exact h.elim
theorem ops_catT : OpS K (rCatA K) catT := by
  intro dr I H x y v u P p hx hy h Q q
  unfold catT at h
  split at h
  · obtain ⟨a, vs, rfl, ha, r⟩ := hx.tup p.sub
    obtain ⟨b, ws, rfl, hb, s⟩ := hy.tup p.sub
    rename_i xs ys
    have rx : Rp K dr I (.ref a) (.tup xs) := by
      rcases hx with hx | ⟨_, _, _, _, h3⟩
      · exact hx
      · exact h3.elim
    have ry : Rp K dr I (.ref b) (.tup ys) := by
      rcases hy with hy | ⟨_, _, _, _, h3⟩
      · exact hy
      · exact h3.elim
    refine ⟨a, b, vs, ws, rfl, rfl, ha, hb, size_le (by rw [r.len, s.len]; exact h.1), fun e => ?_, fun e e2 => ?_, fun e e2 l hl => ?_⟩
    · subst e
      have hh := r.len
      cases xs with
      | nil => exact q _ _ _ h.2 Kp.refl (rp_at p ry)
      | cons _ _ => simp at hh
    · subst e2
      have hh := s.len
      cases ys with
      | nil => rw [List.append_nil] at h; exact q _ _ _ h.2 Kp.refl (rp_at p rx)
      | cons _ _ => simp at hh
    · exact q _ _ _ h.2 (Kp.new p hl) (rp_new_tup p hl (r.append s))
  · exact h.elim
theorem ops_catS : OpS K (fun x y H Q => ∃ i j, x = .str i ∧ y = .str j ∧ i.length + j.length ≤ sizeLine ∧ Q (.str (i ++ j)) H) catS := by
  intro dr I H x y v u P p hx hy h Q q
  unfold catS at h
  split at h
  · exact ⟨_, _, hx.str, hy.str, size_le h.1, q _ _ H h.2 Kp.refl (.str _)⟩
  · exact h.elim
end
section
variable {xr : XR} {X : Cx} {W : WX} {e a b c : Expr} {es : List Expr} {ie ia ib ic : IE} {it iu : IT} {il : IA} {pos : Pos}
theorem le_add (ha : LO xr X W a ia) (hb : LO xr X W b ib) : LE xr X W (.BinOp a .Add b pos) (eOp addI ia ib) := le_bin op_add ops_add ha hb
theorem le_sub (ha : LO xr X W a ia) (hb : LO xr X W b ib) : LE xr X W (.BinOp a .Sub b pos) (eOp subI ia ib) := le_bin op_sub ops_sub ha hb
theorem le_mul (ha : LO xr X W a ia) (hb : LO xr X W b ib) : LE xr X W (.BinOp a .Mult b pos) (eOp mulI ia ib) := le_bin op_mulK ops_mul ha hb
theorem le_div (ha : LO xr X W a ia) (hb : LO xr X W b ib) : LE xr X W (.BinOp a .FloorDiv b pos) (eOp divI ia ib) := le_bin op_fdivK ops_div ha hb
theorem le_mod (ha : LO xr X W a ia) (hb : LO xr X W b ib) : LE xr X W (.BinOp a .Mod b pos) (eOp modI ia ib) := le_bin op_modN ops_mod ha hb
theorem ln_cat (ha : LO xr X W a ia) (hb : LO xr X W b ib) : LN xr X W (.BinOp a .Add b pos) (eOp catL ia ib) := ln_bin op_cat opn_cat ha hb
theorem ln_rep (ha : LO xr X W a ia) (hb : LO xr X W b ib) : LN xr X W (.BinOp a .Mult b pos) (eOp repL ia ib) := ln_bin op_rep opn_rep ha hb
theorem le_catT (ha : LO xr X W a ia) (hb : LO xr X W b ib) : LE xr X W (.BinOp a .Add b pos) (eOp catT ia ib) := le_bin op_catA ops_catT ha hb
theorem le_catS (ha : LO xr X W a ia) (hb : LO xr X W b ib) : LE xr X W (.BinOp a .Add b pos) (eOp catS ia ib) := le_bin op_add_str ops_catS ha hb
def negI : Dt → (Dt → Prop) → Prop
  | .int a, P => P (.int (-a))
  | _, _ => False
@[simp] theorem negI_r1  {a : Int} {P : (Dt → Prop)} : negI (.int a) P = (P (.int (-a))) := id rfl
theorem le_neg (ha : LO xr X W a ia) : LE xr X W (.UnaryOp .USub a pos) (eUn negI ia) := by
  obtain ⟨_, p, s⟩ := ha
  refine ⟨_, pe_un un_neg p, snd_un (fun dr I H x v P pr hx h Q q => ?_) s⟩
  unfold negI at h
  split at h
  · exact ⟨_, hx.int, q _ _ H h Kp.refl (.int _)⟩
  · exact h.elim

/-! ### comparisons -/
def ltI : Dt → Dt → (Dt → Prop) → Prop
  | .int a, .int b, P => P (.bl (decide (a < b)))
  | _, _, _ => False
@[simp] theorem ltI_r1  {a : Int} {b : Int} {P : (Dt → Prop)} : ltI (.int a) (.int b) P = (P (.bl (decide (a < b)))) := id rfl
def leI : Dt → Dt → (Dt → Prop) → Prop
  | .int a, .int b, P => P (.bl (decide (a ≤ b)))
  | _, _, _ => False
@[simp] theorem leI_r1  {a : Int} {b : Int} {P : (Dt → Prop)} : leI (.int a) (.int b) P = (P (.bl (decide (a ≤ b)))) := id rfl
def gtI : Dt → Dt → (Dt → Prop) → Prop
  | .int a, .int b, P => P (.bl (decide (b < a)))
  | _, _, _ => False
@[simp] theorem gtI_r1  {a : Int} {b : Int} {P : (Dt → Prop)} : gtI (.int a) (.int b) P = (P (.bl (decide (b < a)))) := id rfl
def geI : Dt → Dt → (Dt → Prop) → Prop
  | .int a, .int b, P => P (.bl (decide (b ≤ a)))
  | _, _, _ => False
@[simp] theorem geI_r1  {a : Int} {b : Int} {P : (Dt → Prop)} : geI (.int a) (.int b) P = (P (.bl (decide (b ≤ a)))) := id rfl
def eqD (x y : Dt) (P : Dt → Prop) : Prop := (okD x ∧ okD y) ∧ P (.bl (eqv x y))
def neD (x y : Dt) (P : Dt → Prop) : Prop := (okD x ∧ okD y) ∧ P (.bl (!eqv x y))
def inL : Dt → Dt → (Dt → Prop) → Prop
  | x, .lst ys, P => (okD x ∧ okD (.lst ys)) ∧ P (.bl (ys.any fun y => eqv y x))
  | x, .tup ys, P => (okD x ∧ okD (.tup ys)) ∧ P (.bl (ys.any fun y => eqv y x))
  | _, _, _ => False
@[simp] theorem inL_r1  {x : Dt} {ys : List Dt} {P : (Dt → Prop)} : inL x (.lst ys) P = ((okD x ∧ okD (.lst ys)) ∧ P (.bl (ys.any fun y => eqv y x))) := id rfl
@[simp] theorem inL_r2  {x : Dt} {ys : List Dt} {P : (Dt → Prop)} : inL x (.tup ys) P = ((okD x ∧ okD (.tup ys)) ∧ P (.bl (ys.any fun y => eqv y x))) := id rfl
def niL : Dt → Dt → (Dt → Prop) → Prop
  | x, .lst ys, P => (okD x ∧ okD (.lst ys)) ∧ P (.bl (!ys.any fun y => eqv y x))
  | x, .tup ys, P => (okD x ∧ okD (.tup ys)) ∧ P (.bl (!ys.any fun y => eqv y x))
  | _, _, _ => False
@[simp] theorem niL_r1  {x : Dt} {ys : List Dt} {P : (Dt → Prop)} : niL x (.lst ys) P = ((okD x ∧ okD (.lst ys)) ∧ P (.bl (!ys.any fun y => eqv y x))) := id rfl
@[simp] theorem niL_r2  {x : Dt} {ys : List Dt} {P : (Dt → Prop)} : niL x (.tup ys) P = ((okD x ∧ okD (.tup ys)) ∧ P (.bl (!ys.any fun y => eqv y x))) := id rfl
def isNonD : Dt → Bool
  | .non => true
  | _ => false
section
set_option autoImplicit true
@[simp] theorem isNonD_r1 : isNonD .non = (true) := id rfl
@[simp] theorem isNonD_bl {q : Bool} : isNonD (.bl q) = false := rfl
@[simp] theorem isNonD_int : isNonD (.int i) = false := rfl
@[simp] theorem isNonD_str : isNonD (.str x) = false := rfl
@[simp] theorem isNonD_lst : isNonD (.lst x) = false := rfl
@[simp] theorem isNonD_tup : isNonD (.tup x) = false := rfl
@[simp] theorem isNonD_dic : isNonD (.dic x y) = false := rfl
@[simp] theorem isNonD_dit : isNonD (.dit x y) = false := rfl
@[simp] theorem isNonD_st : isNonD (.st) = false := rfl
end
def isN (x y : Dt) (P : Dt → Prop) : Prop := match y with
  | .non => P (.bl (isNonD x))
  | .bl b => (match x with | .bl a => P (.bl (decide (a = b))) | _ => False)
  | _ => False
def niN (x y : Dt) (P : Dt → Prop) : Prop := match y with
  | .non => P (.bl (!isNonD x))
  | .bl b => (match x with | .bl a => P (.bl (!decide (a = b))) | _ => False)
  | _ => False
def CmpS (X : Cx) (op : CmpOp) (f : Dt → Dt → (Dt → Prop) → Prop) : Prop := ∃ r, OpR X (compareOp op) r ∧ OpS X.K r f
theorem c_lt : CmpS X .Lt ltI := ⟨_, op_lt, ops_I0 (gd := fun i j => .bl (decide (i < j))) (fun i j _ _ => .bl _) fun x y P h => by
  unfold ltI at h
  split at h
  · exact ⟨_, _, rfl, rfl, h⟩
  · exact h.elim⟩
theorem c_le : CmpS X .LtE leI := ⟨_, op_le, ops_I0 (gd := fun i j => .bl (decide (i ≤ j))) (fun i j _ _ => .bl _) fun x y P h => by
  unfold leI at h
  split at h
  · exact ⟨_, _, rfl, rfl, h⟩
  · exact h.elim⟩
theorem c_gt : CmpS X .Gt gtI := ⟨_, op_gt, ops_I0 (gd := fun i j => .bl (decide (j < i))) (fun i j _ _ => .bl _) fun x y P h => by
  unfold gtI at h
  split at h
  · exact ⟨_, _, rfl, rfl, h⟩
  · exact h.elim⟩
theorem c_ge : CmpS X .GtE geI := ⟨_, op_ge, ops_I0 (gd := fun i j => .bl (decide (j ≤ i))) (fun i j _ _ => .bl _) fun x y P h => by
  unfold geI at h
  split at h
  · exact ⟨_, _, rfl, rfl, h⟩
  · exact h.elim⟩
theorem c_eq (hu : X.A.units + 65 < cLine) : CmpS X .Eq eqD := ⟨_, op_eqD (by omega), fun dr I H x y v u P p hx hy h Q q =>
  ⟨_, _, hx.dp p h.1.1, hy.dp p h.1.2, h.1.1, h.1.2, q _ _ H h.2 Kp.refl (.bl _)⟩⟩
theorem c_ne (hu : X.A.units + 65 < cLine) : CmpS X .NotEq neD := ⟨_, op_neD (by omega), fun dr I H x y v u P p hx hy h Q q =>
  ⟨_, _, hx.dp p h.1.1, hy.dp p h.1.2, h.1.1, h.1.2, q _ _ H h.2 Kp.refl (.bl _)⟩⟩
def rInDT (K : Fr) : R2 := fun x y H Q => ∃ d ds, Dp K H x d ∧ Dp K H y (.tuple ds) ∧ SeqAt.shaped d = true ∧ SeqAt.shaped (.tuple ds) = true ∧ Q (.bl (ds.any fun z => PyData.eqv z d)) H
def rNotInDT (K : Fr) : R2 := fun x y H Q => ∃ d ds, Dp K H x d ∧ Dp K H y (.tuple ds) ∧ SeqAt.shaped d = true ∧ SeqAt.shaped (.tuple ds) = true ∧ Q (.bl (!ds.any fun z => PyData.eqv z d)) H
theorem op_inDT (hu : X.A.units + 65 < cLine) : OpR X (compareOp .In) (rInDT X.K) := by
  intro pins s σ H x y v u Q I rx ry h
  obtain ⟨d, ds, hd, he, sd, se, q⟩ := h
  obtain ⟨as, r1⟩ := Dp.reads I d x v hd rx
  obtain ⟨bs, r2⟩ := Dp.reads I (.tuple ds) y u he ry
  exact SeqAt.in_tuple_reads r2 r1 (SeqAt.canLay_of_shaped se) (SeqAt.canLay_of_shaped sd) (room_in_shaped sd hu) ⟨.bl _, H, I, rfl, q⟩
theorem op_notInDT (hu : X.A.units + 65 < cLine) : OpR X (compareOp .NotIn) (rNotInDT X.K) := by
  intro pins s σ H x y v u Q I rx ry h
  obtain ⟨d, ds, hd, he, sd, se, q⟩ := h
  obtain ⟨as, r1⟩ := Dp.reads I d x v hd rx
  obtain ⟨bs, r2⟩ := Dp.reads I (.tuple ds) y u he ry
  exact SeqAt.notIn_tuple_reads r2 r1 (SeqAt.canLay_of_shaped se) (SeqAt.canLay_of_shaped sd) (room_in_shaped sd hu) ⟨.bl _, H, I, rfl, q⟩
theorem any_py {x : Dt} : ∀ ys : List Dt, (pyL ys).any (fun z => PyData.eqv z x.py) = ys.any fun y => eqv y x
  | [] => rfl
  | y :: ys => by rw [pyL, List.any_cons, List.any_cons, any_py ys]; rfl
theorem c_in (hu : X.A.units + 65 < cLine) : CmpS X .In inL := by
  refine ⟨_, OpR.or (op_inD hu) (op_inDT hu), fun dr I H x y v u P p hx hy h Q q => ?_⟩
  unfold inL at h
  split at h
  · obtain ⟨⟨h1, h2⟩, h3⟩ := h
    have e := hy.dp p h2
    have h2' := h2
    unfold okD at h2'
    rw [Dt.py] at e h2'
    exact .inl ⟨_, _, hx.dp p h1, e, h1, h2', q _ _ H h3 Kp.refl (by rw [any_py]; exact .bl _)⟩
  · obtain ⟨⟨h1, h2⟩, h3⟩ := h
    have e := hy.dp p h2
    have h2' := h2
    unfold okD at h2'
    rw [Dt.py] at e h2'
    exact .inr ⟨_, _, hx.dp p h1, e, h1, h2', q _ _ H h3 Kp.refl (by rw [any_py]; exact .bl _)⟩
  · exact h.elim
theorem c_ni (hu : X.A.units + 65 < cLine) : CmpS X .NotIn niL := by
  refine ⟨_, OpR.or (op_notInD hu) (op_notInDT hu), fun dr I H x y v u P p hx hy h Q q => ?_⟩
  unfold niL at h
  split at h
  · obtain ⟨⟨h1, h2⟩, h3⟩ := h
    have e := hy.dp p h2
    have h2' := h2
    unfold okD at h2'
    rw [Dt.py] at e h2'
    exact .inl ⟨_, _, hx.dp p h1, e, h1, h2', q _ _ H h3 Kp.refl (by rw [any_py]; exact .bl _)⟩
  · obtain ⟨⟨h1, h2⟩, h3⟩ := h
    have e := hy.dp p h2
    have h2' := h2
    unfold okD at h2'
    rw [Dt.py] at e h2'
    exact .inr ⟨_, _, hx.dp p h1, e, h1, h2', q _ _ H h3 Kp.refl (by rw [any_py]; exact .bl _)⟩
  · exact h.elim
theorem sh_non_iff {K : Fr} {dr : Dr} {I H : Hp} {v : V} {d : Dt} (h : Sh K dr I H v d) : decide (v = .non) = isNonD d := by
  rcases h with h | ⟨p, rfl, _, _, h⟩
  · cases h <;> simp
  · cases d <;> first | exact h.elim | simp
theorem c_is : CmpS X .Is isN := by
  refine ⟨_, OpR.or op_isN op_isBl, fun dr I H x y v u P p hx hy h Q q => ?_⟩
  unfold isN at h
  split at h
  · exact .inl ⟨hy.non, q _ _ H h Kp.refl (by rw [sh_non_iff hx]; exact .bl _)⟩
  · split at h
    · exact .inr ⟨_, _, hx.bl, hy.bl, q _ _ H h Kp.refl (.bl _)⟩
    · exact h.elim
  · exact h.elim
theorem c_isnot : CmpS X .IsNot niN := by
  refine ⟨_, OpR.or op_notN op_notBl, fun dr I H x y v u P p hx hy h Q q => ?_⟩
  unfold niN at h
  split at h
  · refine .inl ⟨hy.non, q _ _ H h Kp.refl ?_⟩
    rw [sh_non_iff hx]
    exact .bl _
  · split at h
    · exact .inr ⟨_, _, hx.bl, hy.bl, q _ _ H h Kp.refl (.bl _)⟩
    · exact h.elim
  · exact h.elim
theorem le_cmp {op : CmpOp} {f : Dt → Dt → (Dt → Prop) → Prop} (hc : CmpS X op f) (ha : LO xr X W a ia) (hb : LO xr X W b ib) (hm : behindInMarks op b = false := by first | exact nomark _ | rfl) : LE xr X W (.Compare a [op] [b] pos) (eOp f ia ib) :=
  let ⟨_, ho, hs⟩ := hc; let ⟨_, p, s⟩ := ha; let ⟨_, q, t⟩ := hb; ⟨_, pe_cmpR ho p q hm, snd_op hs s t⟩
theorem lt_cmp {op : CmpOp} {f : Dt → Dt → (Dt → Prop) → Prop} (hc : CmpS X op f) (ha : LO xr X W a ia) (hb : LO xr X W b ib) (hm : behindInMarks op b = false := by first | exact nomark _ | rfl) : LT xr X W (.Compare a [op] [b] pos) (bT (eOp f ia ib)) :=
  let ⟨_, ho, hs⟩ := hc; let ⟨_, p, s⟩ := ha; let ⟨_, q, t⟩ := hb; ⟨_, pt_cmpR ho p q hm, sndT_test (snd_op hs s t)⟩
theorem le_chain {op op' : CmpOp} {f g : Dt → Dt → (Dt → Prop) → Prop} (hc : CmpS X op f) (hc' : CmpS X op' g) (ha : LO xr X W a ia) (hb : LO xr X W b ib) (hcc : LO xr X W c ic) (hm : lastMarks [op, op'] [b, c] = false := by with_unfolding_all rfl) :
    LE xr X W (.Compare a [op, op'] [b, c] pos) (eChain f g ia ib ic) := by
  obtain ⟨_, ho, hs⟩ := hc
  obtain ⟨_, ho', hs'⟩ := hc'
  obtain ⟨_, p, s⟩ := ha
  obtain ⟨_, p2, s2⟩ := hb
  obtain ⟨_, p3, s3⟩ := hcc
  exact ⟨_, pe_chain ho ho' p p2 p3 hm, snd_chain hs hs' s s2 s3⟩
theorem lt_chain {op op' : CmpOp} {f g : Dt → Dt → (Dt → Prop) → Prop} (hc : CmpS X op f) (hc' : CmpS X op' g) (ha : LO xr X W a ia) (hb : LO xr X W b ib) (hcc : LO xr X W c ic) (hm : lastMarks [op, op'] [b, c] = false := by with_unfolding_all rfl) :
    LT xr X W (.Compare a [op, op'] [b, c] pos) (bT (eChain f g ia ib ic)) := by
  obtain ⟨_, ho, hs⟩ := hc
  obtain ⟨_, ho', hs'⟩ := hc'
  obtain ⟨_, p, s⟩ := ha
  obtain ⟨_, p2, s2⟩ := hb
  obtain ⟨_, p3, s3⟩ := hcc
  exact ⟨_, pt_chain ho ho' p p2 p3 hm, sndT_test (snd_chain hs hs' s s2 s3)⟩

/-! ### tests, and, or, not, if -/
theorem lt_val (h : LE xr X W e ie) (he : ∀ whole, isTrue e X.env whole = (do let v ← whole; standAt e.pos; holding [v] (truthy v)) := by intro _; rfl) : LT xr X W e (bT ie) := let ⟨_, p, s⟩ := h; ⟨_, pt_val p he, sndT_B s⟩
theorem lt_not (h : LT xr X W e it) : LT xr X W (.UnaryOp .Not e pos) (bNot it) := let ⟨_, p, s⟩ := h; ⟨_, pt_not p, sndT_not s⟩
theorem lw_and1 (h : LT xr X W e it) : LW xr X W (.BoolOp .And [e] pos) it := let ⟨_, p, s⟩ := h; ⟨_, pw_and1 p, s⟩
theorem lw_or1 (h : LT xr X W e it) : LW xr X W (.BoolOp .Or [e] pos) it := let ⟨_, p, s⟩ := h; ⟨_, pw_or1 p, s⟩
theorem lw_and (h : LT xr X W e it) (hr : LW xr X W (.BoolOp .And (b :: es) pos) iu) : LW xr X W (.BoolOp .And (e :: b :: es) pos) (bAnd it iu) := let ⟨_, p, s⟩ := h; let ⟨_, q, t⟩ := hr; ⟨_, pw_and p q, sndT_and s t⟩
theorem lw_or (h : LT xr X W e it) (hr : LW xr X W (.BoolOp .Or (b :: es) pos) iu) : LW xr X W (.BoolOp .Or (e :: b :: es) pos) (bOr it iu) := let ⟨_, p, s⟩ := h; let ⟨_, q, t⟩ := hr; ⟨_, pw_or p q, sndT_or s t⟩
theorem LW.t (h : LW xr X W e it) : LT xr X W e it := let ⟨_, p, s⟩ := h; ⟨_, p.pt, s⟩
theorem le_one {op} (h : LE xr X W e ie) : LE xr X W (.BoolOp op [e] pos) ie := let ⟨_, p, s⟩ := h; ⟨_, pe_one p, s⟩
theorem le_and (h : LE xr X W e ie) (hr : LE xr X W (.BoolOp .And (b :: es) pos) ib) : LE xr X W (.BoolOp .And (e :: b :: es) pos) (eAnd ie ib) := let ⟨_, p, s⟩ := h; let ⟨_, q, t⟩ := hr; ⟨_, pe_and p q, snd_and s t⟩
theorem le_or (h : LE xr X W e ie) (hr : LE xr X W (.BoolOp .Or (b :: es) pos) ib) : LE xr X W (.BoolOp .Or (e :: b :: es) pos) (eOr ie ib) := let ⟨_, p, s⟩ := h; let ⟨_, q, t⟩ := hr; ⟨_, pe_or p q, snd_or s t⟩
theorem le_not (h : LE xr X W e ie) : LE xr X W (.UnaryOp .Not e pos) (eNot ie) := let ⟨_, p, s⟩ := h; ⟨_, pe_not p, snd_not s⟩
theorem le_if (hc : LT xr X W c it) (ha : LE xr X W a ia) (hb : LE xr X W b ib) : LE xr X W (.IfExp c a b pos) (eIf it ia ib) := let ⟨_, p, s⟩ := hc; let ⟨_, p2, s2⟩ := ha; let ⟨_, p3, s3⟩ := hb; ⟨_, pe_ifExp p p2 p3, snd_if s s2 s3⟩
theorem ln_if (hc : LT xr X W c it) (ha : LN xr X W a ia) (hb : LN xr X W b ib) : LN xr X W (.IfExp c a b pos) (eIf it ia ib) := let ⟨_, p, s⟩ := hc; let ⟨_, p2, s2⟩ := ha; let ⟨_, p3, s3⟩ := hb; ⟨_, pe_ifExp p p2 p3, sndN_if s s2 s3⟩
end
end DL

set_option maxRecDepth 100000
/-! DL4: subscripts, slices, built-in calls, calls of defs, comprehensions. -/
namespace DL
open PySem L2 PyProof.Rows

/-! ### subscripts -/
def ixD : Dt → Dt → (Dt → Prop) → Prop
  | .lst xs, .int i, P => ∃ d, atI xs i = some d ∧ P d
  | .tup xs, .int i, P => ∃ d, atI xs i = some d ∧ P d
  | .str x, .int i, P => x.length ≤ 16777216 ∧ ∃ c, atI x.cps.toList i = some c ∧ P (.str ⟨#[c]⟩)
  | _, _, _ => False
section
set_option autoImplicit true
@[simp] theorem ixD_r1 : ixD (.lst xs) (.int i) P = (∃ d, atI xs i = some d ∧ P d) := id rfl
@[simp] theorem ixD_r2 : ixD (.tup xs) (.int i) P = (∃ d, atI xs i = some d ∧ P d) := id rfl
@[simp] theorem ixD_r3 : ixD (.str x) (.int i) P = (x.length ≤ 16777216 ∧ ∃ c, atI x.cps.toList i = some c ∧ P (.str ⟨#[c]⟩)) := id rfl
end
theorem RpL.atI {K : Fr} {dr : Dr} {H : Hp} {vs : List V} {ds : List Dt} {i : Int} {d : Dt} (r : RpL K dr H vs ds) (h : L2.atI ds i = some d) : ∃ v, L2.atI vs i = some v ∧ Rp K dr H v d := by
  unfold L2.atI at h ⊢
  rw [r.len]
  cases e : ixN ds.length i with
  | none => rw [e] at h; cases h
  | some j =>
    rw [e] at h
    exact r.get h
theorem ops_ix {K : Fr} : OpS K (fun x y H Q => rIxL K x y H Q ∨ rIxT K x y H Q ∨ rIxS x y H Q) ixD := by
  intro dr I H x y v u P p hx hy h Q q
  unfold ixD at h
  split at h
  · obtain ⟨d, e, hP⟩ := h
    obtain ⟨a, vs, rfl, ha, r⟩ := hx.lst p.sub
    obtain ⟨w, e2, rw'⟩ := r.atI e
    exact .inl ⟨a, vs, _, w, rfl, hy.int, SqL.of ha, e2, q _ _ H hP Kp.refl (rp_at p rw')⟩
  · obtain ⟨d, e, hP⟩ := h
    obtain ⟨a, vs, rfl, ha, r⟩ := hx.tup p.sub
    obtain ⟨w, e2, rw'⟩ := r.atI e
    exact .inr (.inl ⟨a, vs, _, w, rfl, hy.int, ha, e2, q _ _ H hP Kp.refl (rp_at p rw')⟩)
  · obtain ⟨hz, c, e, hP⟩ := h
    exact .inr (.inr ⟨_, _, c, hx.str, hy.int, size_le hz, e, q _ _ H hP Kp.refl (.str _)⟩)
  · exact h.elim

/-! ### slices -/
def cut {α : Type} (xs : List α) (lo hi : Option Int) : List α := (xs.drop (HT.sIx xs.length 0 lo)).take (HT.sIx xs.length xs.length hi - HT.sIx xs.length 0 lo)
theorem RpL.cut {K : Fr} {dr : Dr} {H : Hp} {vs : List V} {ds : List Dt} {lo hi : Option Int} (r : RpL K dr H vs ds) : RpL K dr H (cutV vs lo hi) (cut ds lo hi) := by
  unfold cutV DL.cut
  rw [r.len]
  exact (r.drop _).take _
def pNo : IP := fun _ P _ => P none
def asI : Dt → (Int → Prop) → Prop
  | .int i, P => P i
  | _, _ => False
@[simp] theorem asI_r1  {i : Int} {P : (Int → Prop)} : asI (.int i) P = (P i) := id rfl
def pAt (ia : IE) : IP := fun env P E => ia env (fun x => asI x fun i => P (some i)) E
section
variable {K : Fr} {xr : XR} {W : WX} {te : TE} {ie : IE} {t1 t2 : TO} {i1 i2 : IP}
theorem isInt {dr : Dr} {H : Hp} {v : V} {d : Dt} {P : Int → Prop} (r : Rp K dr H v d) (h : asI d P) : ∃ b, v = .int b ∧ P b := by
  cases d with
  | int b => cases r; exact ⟨b, rfl, h⟩
  | _ => exact h.elim
theorem sndP_no : SndP K xr W tNoPart pNo := fun dr env σ I H P E p ev hi o Q q => q none H hi Kp.refl
theorem sndP_at (ha : Snd K xr W te ie) : SndP K xr W (tPart te) (pAt ie) := fun dr env σ I H P E p ev hi o Q q =>
  ha dr env σ I H _ E p ev hi o _ fun x v H1 hx k1 r1 => let ⟨b, e, hb⟩ := isInt r1 hx; ⟨b, e, q _ H1 hb k1⟩
def SlS (K : Fr) (r : V → Option Int → Option Int → Hp → VK → Prop) (f : Dt → Option Int → Option Int → (Dt → Prop) → Prop) : Prop := ∀ dr I H x v lo hi P, Pre dr I H → Sh K dr I H v x → f x lo hi P → ∀ Q : VK, (∀ d w H', P d → Kp dr H H' → Rp K dr (ext I H H') w d → Q w H') → r v lo hi H Q
def SlN (K : Fr) (r : V → Option Int → Option Int → Hp → VK → Prop) (f : Dt → Option Int → Option Int → (Dt → Prop) → Prop) : Prop := ∀ dr I H x v lo hi P, Pre dr I H → Sh K dr I H v x → f x lo hi P → ∀ Q : VK, (∀ d w H', P d → Kp dr H H' → New K dr I H H' w d → Q w H') → r v lo hi H Q
def eSl (f : Dt → Option Int → Option Int → (Dt → Prop) → Prop) (ia : IE) (i1 i2 : IP) : IE := fun env P E => ia env (fun x => i1 env (fun lo => i2 env (fun hi => f x lo hi P) E) E) E
theorem sl_three (ha : SndO K xr W te ie) (h1 : SndP K xr W t1 i1) (h2 : SndP K xr W t2 i2) {dr : Dr} {env : List Sl} {σ : L2.St} {I H : Hp} {R : Dt → Option Int → Option Int → Prop} {E : Xc → Prop} (p : Pre dr I H) (ev : EnvOk K dr env σ I H)
    (hi : ie env (fun x => i1 env (fun lo => i2 env (fun hi => R x lo hi) E) E) E) (o : OutE xr W dr σ H E) (Q : V → Option Int → Option Int → Hp → Prop)
    (q : ∀ x v lo hi H', R x lo hi → Kp dr H H' → Pre dr (ext I H H') H' → Sh K dr (ext I H H') H' v x → Q v lo hi H') : te σ H fun v H1 => t1 σ H1 fun lo H2 => t2 σ H2 fun hi H3 => Q v lo hi H3 := by
  refine ha dr env σ I H _ E p ev hi o _ fun x v H1 hx k1 r1 => ?_
  have p1 := p.step k1
  have ev1 := ev.step k1 p
  refine h1 dr env σ _ H1 _ E p1 ev1 hx (o.step k1) _ fun lo H2 hlo k2 => ?_
  have p2 := p1.step k2
  refine h2 dr env σ _ H2 _ E p2 (ev1.step k2 p1) hlo ((o.step k1).step k2) _ fun hi H3 hhi k3 => ?_
  have p3 := p2.step k3
  have r3 := (r1.mono k2 p1).mono k3 p2
  have e1 := p1.ext_ext k2 k3
  have e2 := p.ext_ext k1 (k2.trans k3)
  rw [e1, e2] at r3 p3
  exact q x v lo hi H3 hhi (k1.trans (k2.trans k3)) p3 r3
theorem snd_sl {r : V → Option Int → Option Int → Hp → VK → Prop} {f : Dt → Option Int → Option Int → (Dt → Prop) → Prop} (hr : SlS K r f) (ha : SndO K xr W te ie) (h1 : SndP K xr W t1 i1) (h2 : SndP K xr W t2 i2) : Snd K xr W (tSl r te t1 t2) (eSl f ie i1 i2) := fun dr env σ I H P E p ev hi o Q q =>
  sl_three ha h1 h2 p ev hi o (fun v lo hi H' => r v lo hi H' Q) fun x v lo hi H2 hR k p2 r1 => hr dr _ H2 x v lo hi P p2 r1 hR Q fun d w H3 hP k3 r3 => q d w H3 hP (k.trans k3) (ext_back p k k3 r3)
theorem sndN_sl {r : V → Option Int → Option Int → Hp → VK → Prop} {f : Dt → Option Int → Option Int → (Dt → Prop) → Prop} (hr : SlN K r f) (ha : SndO K xr W te ie) (h1 : SndP K xr W t1 i1) (h2 : SndP K xr W t2 i2) : SndN K xr W (tSl r te t1 t2) (eSl f ie i1 i2) := fun dr env σ I H P E p ev hi o Q q =>
  sl_three ha h1 h2 p ev hi o (fun v lo hi H' => r v lo hi H' Q) fun x v lo hi H2 hR k p2 r1 => hr dr _ H2 x v lo hi P p2 r1 hR Q fun d w H3 hP k3 r3 => q d w H3 hP (k.trans k3) (r3.back p k k3)
def slL : Dt → Option Int → Option Int → (Dt → Prop) → Prop
  | .lst xs, lo, hi, P => P (.lst (cut xs lo hi))
  | _, _, _, _ => False
@[simp] theorem slL_r1  {xs : List Dt} {lo : Option Int} {hi : Option Int} {P : (Dt → Prop)} : slL (.lst xs) lo hi P = (P (.lst (cut xs lo hi))) := id rfl
def slT : Dt → Option Int → Option Int → (Dt → Prop) → Prop
  | .tup xs, lo, hi, P => P (.tup (cut xs lo hi))
  | _, _, _, _ => False
section
set_option autoImplicit true
@[simp] theorem slT_r1 {lo hi : Option Int} : slT (.tup xs) lo hi P = (P (.tup (cut xs lo hi))) := id rfl
end
theorem sln_list : SlN K (rSlL K) slL := by
  intro dr I H x v lo hi P p hx h Q q
  unfold slL at h
  split at h
  · obtain ⟨a, vs, rfl, ha, r⟩ := hx.lst p.sub
    exact ⟨a, vs, rfl, SqL.of ha, fun l hl => q _ _ _ h (Kp.new p hl) (new_lst p hl r.cut)⟩
  · exact h.elim
theorem sls_tup : SlS K (rSlA K) slT := by
  intro dr I H x v lo hi P p hx h Q q
  unfold slT at h
  split at h
  · obtain ⟨a, vs, rfl, ha, r⟩ := hx.tup p.sub
    rename_i xs
    have rx : Rp K dr I (.ref a) (.tup xs) := by
      rcases hx with hx | ⟨_, _, _, _, h3⟩
      · exact hx
      · exact h3.elim
    refine ⟨a, vs, rfl, ha, fun hw => ?_, fun _ l hl => q _ _ _ h (Kp.new p hl) (rp_new_tup p hl r.cut)⟩
    refine q _ _ H h Kp.refl (rp_at p ?_)
    rw [r.len] at hw
    unfold cut
    rw [hw.1, hw.2, List.drop_zero, Nat.sub_zero, List.take_length]
    exact rx
  · exact h.elim
end

/-! ### built-in calls -/
def f1 (f : Dt → (Dt → Prop) → Prop) : List Dt → (Dt → Prop) → Prop
  | [x], P => f x P
  | _, _ => False
def f2 (f : Dt → Dt → (Dt → Prop) → Prop) : List Dt → (Dt → Prop) → Prop
  | [x, y], P => f x y P
  | _, _ => False
theorem shl1 {K : Fr} {dr : Dr} {I H : Hp} {vs : List V} {x : Dt} (h : ShL K dr I H vs [x]) : ∃ v, vs = [v] ∧ Sh K dr I H v x := by
  match vs, h with
  | [v], h => exact ⟨v, rfl, h.1⟩
  | [], h => exact h.elim
  | _ :: _ :: _, h => exact h.2.elim
theorem shl2 {K : Fr} {dr : Dr} {I H : Hp} {vs : List V} {x y : Dt} (h : ShL K dr I H vs [x, y]) : ∃ v u, vs = [v, u] ∧ Sh K dr I H v x ∧ Sh K dr I H u y := by
  match vs, h with
  | [v, u], h => exact ⟨v, u, rfl, h.1, h.2.1⟩
  | [], h => exact h.elim
  | [_], h => exact h.2.elim
  | _ :: _ :: _ :: _, h => exact h.2.2.elim
def lenD : Dt → (Dt → Prop) → Prop
  | .lst xs, P => P (.int xs.length)
  | .tup xs, P => P (.int xs.length)
  | .str x, P => x.length ≤ 16777216 ∧ P (.int x.length)
  | .dic ks _, P => P (.int ks.length)
  | _, _ => False
section
set_option autoImplicit true
@[simp] theorem lenD_r1 : lenD (.lst xs) P = (P (.int xs.length)) := id rfl
@[simp] theorem lenD_r2 : lenD (.tup xs) P = (P (.int xs.length)) := id rfl
@[simp] theorem lenD_r3 : lenD (.str x) P = (x.length ≤ 16777216 ∧ P (.int x.length)) := id rfl
@[simp] theorem lenD_r4 : lenD (.dic ks w1) P = (P (.int ks.length)) := id rfl
end
def absD : Dt → (Dt → Prop) → Prop
  | .int i, P => P (.int (if i < 0 then -i else i))
  | _, _ => False
@[simp] theorem absD_r1  {i : Int} {P : (Dt → Prop)} : absD (.int i) P = (P (.int (if i < 0 then -i else i))) := id rfl
def intD : Dt → (Dt → Prop) → Prop
  | .int i, P => P (.int i)
  | .bl b, P => P (.int (if b then 1 else 0))
  | _, _ => False
@[simp] theorem intD_r1  {i : Int} {P : (Dt → Prop)} : intD (.int i) P = (P (.int i)) := id rfl
@[simp] theorem intD_r2  {b : Bool} {P : (Dt → Prop)} : intD (.bl b) P = (P (.int (if b then 1 else 0))) := id rfl
def strD : Dt → (Dt → Prop) → Prop
  | .int i, P => i.natAbs.log2 < 1920 ∧ P (.str (toString i))
  | _, _ => False
@[simp] theorem strD_r1  {i : Int} {P : (Dt → Prop)} : strD (.int i) P = (i.natAbs.log2 < 1920 ∧ P (.str (toString i))) := id rfl
def tupD : Dt → (Dt → Prop) → Prop
  | .lst xs, P => P (.tup xs)
  | .tup xs, P => P (.tup xs)
  | _, _ => False
section
set_option autoImplicit true
@[simp] theorem tupD_r1 : tupD (.lst xs) P = (P (.tup xs)) := id rfl
@[simp] theorem tupD_r2 : tupD (.tup xs) P = (P (.tup xs)) := id rfl
end
def lstD : Dt → (Dt → Prop) → Prop
  | .lst xs, P => P (.lst xs)
  | .tup xs, P => P (.lst xs)
  | _, _ => False
section
set_option autoImplicit true
@[simp] theorem lstD_r1 : lstD (.lst xs) P = (P (.lst xs)) := id rfl
@[simp] theorem lstD_r2 : lstD (.tup xs) P = (P (.lst xs)) := id rfl
end
def allD : Dt → (Dt → Prop) → Prop
  | .lst xs, P => ∃ bs : List Bool, xs = bs.map Dt.bl ∧ P (.bl (bs.all id))
  | _, _ => False
@[simp] theorem allD_r1  {xs : List Dt} {P : (Dt → Prop)} : allD (.lst xs) P = (∃ bs : List Bool, xs = bs.map Dt.bl ∧ P (.bl (bs.all id))) := id rfl
def anyD : Dt → (Dt → Prop) → Prop
  | .lst xs, P => ∃ bs : List Bool, xs = bs.map Dt.bl ∧ P (.bl (bs.any id))
  | _, _ => False
@[simp] theorem anyD_r1  {xs : List Dt} {P : (Dt → Prop)} : anyD (.lst xs) P = (∃ bs : List Bool, xs = bs.map Dt.bl ∧ P (.bl (bs.any id))) := id rfl
def sumD : Dt → (Dt → Prop) → Prop
  | .lst xs, P => ∃ ns : List Int, xs = ns.map Dt.int ∧ P (.int ns.sum)
  | _, _ => False
@[simp] theorem sumD_r1  {xs : List Dt} {P : (Dt → Prop)} : sumD (.lst xs) P = (∃ ns : List Int, xs = ns.map Dt.int ∧ P (.int ns.sum)) := id rfl
def min2 : Dt → Dt → (Dt → Prop) → Prop
  | .int i, .int j, P => P (.int (if j < i then j else i))
  | _, _, _ => False
@[simp] theorem min2_r1  {i : Int} {j : Int} {P : (Dt → Prop)} : min2 (.int i) (.int j) P = (P (.int (if j < i then j else i))) := id rfl
def max2 : Dt → Dt → (Dt → Prop) → Prop
  | .int i, .int j, P => P (.int (if j > i then j else i))
  | _, _, _ => False
@[simp] theorem max2_r1  {i : Int} {j : Int} {P : (Dt → Prop)} : max2 (.int i) (.int j) P = (P (.int (if j > i then j else i))) := id rfl
section
variable {K : Fr}
theorem RpL.bls {dr : Dr} {H : Hp} : ∀ {bs : List Bool} {vs : List V}, RpL K dr H vs (bs.map Dt.bl) → vs = bs.map V.bl
  | [], _, h => by cases h; rfl
  | b :: bs, _, h => by
    cases h with
    | cons h1 h2 => cases h1; rw [RpL.bls h2]; rfl
theorem RpL.ints {dr : Dr} {H : Hp} : ∀ {bs : List Int} {vs : List V}, RpL K dr H vs (bs.map Dt.int) → vs = bs.map V.int
  | [], _, h => by cases h; rfl
  | b :: bs, _, h => by
    cases h with
    | cons h1 h2 => cases h1; rw [RpL.ints h2]; rfl
theorem cas_len : CaS K (fun xs H Q => (∃ p ys, xs = [.ref p] ∧ (SqL K H p ys ∨ SqT K H p ys) ∧ Q (.int ys.length) H) ∨ (∃ z, xs = [.str z] ∧ z.length ≤ sizeLine ∧ Q (.int z.length) H) ∨ ∃ d kvs, xs = [.ref d] ∧ H d = some (.dK kvs) ∧ Q (.int kvs.length) H) (f1 lenD) := by
  intro dr I H xs vs P p hs h Q q
  match xs, h with
  | [x], h =>
    obtain ⟨v, rfl, hx⟩ := shl1 hs
    replace h : lenD x P := h
    unfold lenD at h
    split at h
    · obtain ⟨a, vs, rfl, ha, r⟩ := hx.lst p.sub
      exact .inl ⟨a, vs, rfl, .inl (SqL.of ha), q _ _ H h Kp.refl (by rw [r.len]; exact .int _)⟩
    · obtain ⟨a, vs, rfl, ha, r⟩ := hx.tup p.sub
      exact .inl ⟨a, vs, rfl, .inr ha, q _ _ H h Kp.refl (by rw [r.len]; exact .int _)⟩
    · obtain rfl := hx.str
      exact .inr (.inl ⟨_, rfl, size_le h.1, q _ _ H h.2 Kp.refl (.int _)⟩)
    · rename_i ks ds
      have hh : ∃ (a : Addr) (vs : List V), v = .ref a ∧ H a = some (.dK (ks.zip vs)) ∧ ks.length = vs.length := by
        rcases hx with hx | ⟨a, rfl, _, _, ws, h1, h2, h3⟩
        · cases hx with
          | dic h1 h2 h3 => exact ⟨_, _, rfl, p.sub _ _ h1, h2⟩
        · exact ⟨a, ws, rfl, h1, h2⟩
      obtain ⟨a, ws, rfl, ha, hl⟩ := hh
      refine .inr (.inr ⟨a, _, rfl, ha, q _ _ H h Kp.refl ?_⟩)
      rw [List.length_zip, ← hl, Nat.min_self]
      exact .int _
    · exact h.elim
theorem cas_abs : CaS K (fun xs H Q => ∃ i, xs = [.int i] ∧ Q (.int (if i < 0 then -i else i)) H) (f1 absD) := by
  intro dr I H xs vs P p hs h Q q
  match xs, h with
  | [x], h =>
    obtain ⟨v, rfl, hx⟩ := shl1 hs
    replace h : absD x P := h
    unfold absD at h
    split at h
    · obtain rfl := hx.int
      exact ⟨_, rfl, q _ _ H h Kp.refl (.int _)⟩
    · exact h.elim
theorem cas_int : CaS K (fun xs H Q => (∃ i, xs = [.int i] ∧ Q (.int i) H) ∨ ∃ k, xs = [.bl k] ∧ Q (.int (if k then 1 else 0)) H) (f1 intD) := by
  intro dr I H xs vs P p hs h Q q
  match xs, h with
  | [x], h =>
    obtain ⟨v, rfl, hx⟩ := shl1 hs
    replace h : intD x P := h
    unfold intD at h
    split at h
    · obtain rfl := hx.int
      exact .inl ⟨_, rfl, q _ _ H h Kp.refl (.int _)⟩
    · obtain rfl := hx.bl
      exact .inr ⟨_, rfl, q _ _ H h Kp.refl (.int _)⟩
    · exact h.elim
theorem cas_str : CaS K (fun xs H Q => ∃ i, xs = [.int i] ∧ i.natAbs.log2 < 1920 ∧ Q (.str (toString i)) H) (f1 strD) := by
  intro dr I H xs vs P p hs h Q q
  match xs, h with
  | [x], h =>
    obtain ⟨v, rfl, hx⟩ := shl1 hs
    replace h : strD x P := h
    unfold strD at h
    split at h
    · obtain rfl := hx.int
      exact ⟨_, rfl, h.1, q _ _ H h.2 Kp.refl (.str _)⟩
    · exact h.elim
theorem cas_tup : CaS K (fun xs H Q => ∃ p ys, xs = [.ref p] ∧ ((SqL K H p ys ∧ ∀ l, H l = none → Q (.ref l) (upd H l (.tup ys))) ∨ (SqT K H p ys ∧ Q (.ref p) H))) (f1 tupD) := by
  intro dr I H xs vs P p hs h Q q
  match xs, h with
  | [x], h =>
    obtain ⟨v, rfl, hx⟩ := shl1 hs
    replace h : tupD x P := h
    unfold tupD at h
    split at h
    · obtain ⟨a, vs, rfl, ha, r⟩ := hx.lst p.sub
      exact ⟨a, vs, rfl, .inl ⟨SqL.of ha, fun l hl => q _ _ _ h (Kp.new p hl) (rp_new_tup p hl r)⟩⟩
    · obtain ⟨a, vs, rfl, ha, r⟩ := hx.tup p.sub
      refine ⟨a, vs, rfl, .inr ⟨ha, q _ _ H h Kp.refl (rp_at p ?_)⟩⟩
      rcases hx with hx | ⟨_, _, _, _, h3⟩
      · exact hx
      · exact h3.elim
    · exact h.elim
theorem can_lst : CaN K (fun xs H Q => ∃ p ys, xs = [.ref p] ∧ (SqL K H p ys ∨ SqT K H p ys) ∧ ∀ l, H l = none → Q (.ref l) (upd H l (.lst ys))) (f1 lstD) := by
  intro dr I H xs vs P p hs h Q q
  match xs, h with
  | [x], h =>
    obtain ⟨v, rfl, hx⟩ := shl1 hs
    replace h : lstD x P := h
    unfold lstD at h
    split at h
    · obtain ⟨a, vs, rfl, ha, r⟩ := hx.lst p.sub
      exact ⟨a, vs, rfl, .inl (SqL.of ha), fun l hl => q _ _ _ h (Kp.new p hl) (new_lst p hl r)⟩
    · obtain ⟨a, vs, rfl, ha, r⟩ := hx.tup p.sub
      exact ⟨a, vs, rfl, .inr ha, fun l hl => q _ _ _ h (Kp.new p hl) (new_lst p hl r)⟩
    · exact h.elim
theorem cas_all : CaS K (rAll K) (f1 allD) := by
  intro dr I H xs vs P p hs h Q q
  match xs, h with
  | [x], h =>
    obtain ⟨v, rfl, hx⟩ := shl1 hs
    replace h : allD x P := h
    unfold allD at h
    split at h
    · obtain ⟨bs, rfl, hP⟩ := h
      obtain ⟨a, vs, rfl, ha, r⟩ := hx.lst p.sub
      obtain rfl := r.bls
      exact ⟨a, bs, rfl, SqL.of ha, q _ _ H hP Kp.refl (.bl _)⟩
    · exact h.elim
theorem cas_any : CaS K (rAny K) (f1 anyD) := by
  intro dr I H xs vs P p hs h Q q
  match xs, h with
  | [x], h =>
    obtain ⟨v, rfl, hx⟩ := shl1 hs
    replace h : anyD x P := h
    unfold anyD at h
    split at h
    · obtain ⟨bs, rfl, hP⟩ := h
      obtain ⟨a, vs, rfl, ha, r⟩ := hx.lst p.sub
      obtain rfl := r.bls
      exact ⟨a, bs, rfl, SqL.of ha, q _ _ H hP Kp.refl (.bl _)⟩
    · exact h.elim
theorem cas_sum : CaS K (rSum K) (f1 sumD) := by
  intro dr I H xs vs P p hs h Q q
  match xs, h with
  | [x], h =>
    obtain ⟨v, rfl, hx⟩ := shl1 hs
    replace h : sumD x P := h
    unfold sumD at h
    split at h
    · obtain ⟨bs, rfl, hP⟩ := h
      obtain ⟨a, vs, rfl, ha, r⟩ := hx.lst p.sub
      obtain rfl := r.ints
      exact ⟨a, bs, rfl, SqL.of ha, q _ _ H hP Kp.refl (.int _)⟩
    · exact h.elim
theorem cas_min2 : CaS K (fun xs H Q => ∃ i j, xs = [.int i, .int j] ∧ Q (.int (if j < i then j else i)) H) (f2 min2) := by
  intro dr I H xs vs P p hs h Q q
  match xs, h with
  | [x, y], h =>
    obtain ⟨v, u, rfl, hx, hy⟩ := shl2 hs
    replace h : min2 x y P := h
    unfold min2 at h
    split at h
    · obtain rfl := hx.int
      obtain rfl := hy.int
      exact ⟨_, _, rfl, q _ _ H h Kp.refl (.int _)⟩
    · exact h.elim
theorem cas_max2 : CaS K (fun xs H Q => ∃ i j, xs = [.int i, .int j] ∧ Q (.int (if j > i then j else i)) H) (f2 max2) := by
  intro dr I H xs vs P p hs h Q q
  match xs, h with
  | [x, y], h =>
    obtain ⟨v, u, rfl, hx, hy⟩ := shl2 hs
    replace h : max2 x y P := h
    unfold max2 at h
    split at h
    · obtain rfl := hx.int
      obtain rfl := hy.int
      exact ⟨_, _, rfl, q _ _ H h Kp.refl (.int _)⟩
    · exact h.elim
end

/-! ### isinstance of a built-in class -/
def tyS : Dt → String
  | .non => "NoneType"
  | .bl _ => "bool"
  | .int _ => "int"
  | .str _ => "str"
  | .lst _ => "list"
  | .tup _ => "tuple"
  | .dic _ _ => "dict"
  | .dit _ _ => "dict"
  | .st => "list"
def isiD (T : String) (x : Dt) (P : Dt → Prop) : Prop := ∃ b, kitB (tyS x) T = some b ∧ P (.bl b)
def eIsi (T : String) (ia : IE) : IE := fun env P E => ia env (fun x => isiD T x P) E
theorem Sh.ty {K : Fr} {dr : Dr} {I H : Hp} {v : V} {d : Dt} (p : Pre dr I H) (h : Sh K dr I H v d) : TyX K H v (.type (tyS d)) := by
  rcases h with h | ⟨a, rfl, _, _, h⟩
  · have h := h.mono p.sub
    cases h with
    | non => exact .base .non
    | bl b => exact .base (.bl b)
    | int b => exact .base (.int b)
    | str b => exact .base (.str b)
    | lst e _ => exact .base (.lst e)
    | tup e _ =>
      rcases e with (e | ⟨o, e⟩) | ⟨o, its, n, e, c, _⟩
      · exact .base (.tup e)
      · exact .fTuple e
      · exact .kTuple e c
    | dic e _ _ => exact .base (.dK e)
    | dit e _ _ => exact .base (.dT e)
    | @st q e => obtain ⟨i, cs, h1, _⟩ := p.dro q e; exact .base (.lst h1)
  · cases d with
    | lst ds => obtain ⟨vs, h1, _⟩ := h; exact .base (.lst h1)
    | dic ks ds => obtain ⟨vs, h1, _⟩ := h; exact .base (.dK h1)
    | dit ks ds => obtain ⟨vs, h1, _⟩ := h; exact .base (.dT h1)
    | _ => exact h.elim
theorem snd_isi {K : Fr} {xr : XR} {W : WX} {ta : TE} {ia : IE} {T : String} (ha : SndO K xr W ta ia) : Snd K xr W (tCB (rIsi K) (tCons ta (tCons (tC (.ty T)) tNil))) (eIsi T ia) := fun dr env σ I H P E p ev hi o Q q =>
  ha dr env σ I H _ E p ev hi o _ fun x v H1 hx k1 r1 => let ⟨b, hb, hP⟩ := hx; ⟨v, .ty T, .type (tyS x), .type T, b, rfl, .ty T, r1.ty (p.step k1), kit_ty hb, q _ _ H1 hP k1 (.bl b)⟩
end DL

set_option maxRecDepth 100000
/-! DL5: links of subscripts and calls; what loops walk; comprehensions. -/
namespace DL
open PySem L2 PyProof.Rows

section
variable {xr : XR} {X : Cx} {W : WX} {e a b c : Expr} {es : List Expr} {ie ia ib ic : IE} {it iu : IT} {il : IA} {i1 i2 : IP} {pos : Pos}
theorem le_ix (ha : LO xr X W a ia) (hb : LO xr X W b ib) (hs : PlainIx b := by exact fun _ _ => rfl) : LE xr X W (.Subscript a b pos) (eOp ixD ia ib) :=
  let ⟨_, p, s⟩ := ha; let ⟨_, q, t⟩ := hb; ⟨_, pe_ix ix_seq p q hs, snd_op ops_ix s t⟩
theorem lp_no : LP xr X W none pNo := ⟨_, po_none, sndP_no⟩
theorem lp_at (h : LE xr X W e ie) : LP xr X W (some e) (pAt ie) := let ⟨_, p, s⟩ := h; ⟨_, po_some p, sndP_at s⟩
theorem ln_slL {lo hi : Option Expr} {p2 : Pos} (ha : LO xr X W a ia) (h1 : LP xr X W lo i1) (h2 : LP xr X W hi i2) : LN xr X W (.Subscript a (.Slice lo hi none p2) pos) (eSl slL ia i1 i2) :=
  let ⟨_, p, s⟩ := ha; let ⟨_, p1, s1⟩ := h1; let ⟨_, p3, s3⟩ := h2; ⟨_, pe_slice sl_list p p1 p3, sndN_sl sln_list s s1 s3⟩
theorem le_slT {lo hi : Option Expr} {p2 : Pos} (ha : LO xr X W a ia) (h1 : LP xr X W lo i1) (h2 : LP xr X W hi i2) : LE xr X W (.Subscript a (.Slice lo hi none p2) pos) (eSl slT ia i1 i2) :=
  let ⟨_, p, s⟩ := ha; let ⟨_, p1, s1⟩ := h1; let ⟨_, p3, s3⟩ := h2; ⟨_, pe_slice sl_tupA p p1 p3, snd_sl sls_tup s s1 s3⟩

/-! ### built-in names called -/
theorem le_fB {x : Str} {p : Pos} {id : String} {r : List V → Hp → VK → Prop} {f : List Dt → (Dt → Prop) → Prop} (hr : CallR X (.builtin id) r) (hs : CaS X.K r f) (hg : Gl X x) (hm : X.mg x = none) (hv : bootBuiltins x = some (.builtin id)) (ha : LAO xr X W (e :: es) il)
    (hn : x ≠ "__name__" := by decide) (hdb : (x == ("__debug__" : Str)) = false := by decide)
    (he : starEach (e :: es) X.env = (false, eval e X.env) :: starEach es X.env := by rfl) (hpl : (backTo pos (starEach es X.env)).any (·.1) = false := by rfl) : LE xr X W (.Call (.Name x p) (e :: es) [] pos) (eCB f il) :=
  let ⟨_, q, s⟩ := ha; ⟨_, pe_callB hr hg hm hv q hn hdb he hpl, snd_cb hs s⟩
theorem le_fT {x : Str} {p : Pos} {id : String} {r : List V → Hp → VK → Prop} {f : List Dt → (Dt → Prop) → Prop} (hr : CallR X (.type id) r) (hs : CaS X.K r f) (hg : Gl X x) (hm : X.mg x = none) (hv : bootBuiltins x = some (.type id)) (ha : LAO xr X W (e :: es) il)
    (hn : x ≠ "__name__" := by decide) (hdb : (x == ("__debug__" : Str)) = false := by decide)
    (he : starEach (e :: es) X.env = (false, eval e X.env) :: starEach es X.env := by rfl) (hpl : (backTo pos (starEach es X.env)).any (·.1) = false := by rfl) : LE xr X W (.Call (.Name x p) (e :: es) [] pos) (eCB f il) :=
  let ⟨_, q, s⟩ := ha; ⟨_, pe_callTy hr hg hm hv q hn hdb he hpl, snd_cb hs s⟩
theorem ln_fT {x : Str} {p : Pos} {id : String} {r : List V → Hp → VK → Prop} {f : List Dt → (Dt → Prop) → Prop} (hr : CallR X (.type id) r) (hs : CaN X.K r f) (hg : Gl X x) (hm : X.mg x = none) (hv : bootBuiltins x = some (.type id)) (ha : LAO xr X W (e :: es) il)
    (hn : x ≠ "__name__" := by decide) (hdb : (x == ("__debug__" : Str)) = false := by decide)
    (he : starEach (e :: es) X.env = (false, eval e X.env) :: starEach es X.env := by rfl) (hpl : (backTo pos (starEach es X.env)).any (·.1) = false := by rfl) : LN xr X W (.Call (.Name x p) (e :: es) [] pos) (eCB f il) :=
  let ⟨_, q, s⟩ := ha; ⟨_, pe_callTy hr hg hm hv q hn hdb he hpl, sndN_cb hs s⟩
section
variable {p : Pos}
theorem le_len (hg : Gl X "len") (hm : X.mg "len" = none) (ha : LO xr X W a ia) (hs : starEach [a] X.env = (false, eval a X.env) :: starEach [] X.env := by rfl) : LE xr X W (.Call (.Name "len" p) [a] [] pos) (eCB (f1 lenD) (aCons ia aNil)) :=
  le_fB (CallR.or call_len_seq (CallR.or call_len_str call_lenD)) cas_len hg hm boot_len (lao_cons ha lao_nil hs) (he := hs)
theorem le_abs (hg : Gl X "abs") (hm : X.mg "abs" = none) (ha : LO xr X W a ia) (hs : starEach [a] X.env = (false, eval a X.env) :: starEach [] X.env := by rfl) : LE xr X W (.Call (.Name "abs" p) [a] [] pos) (eCB (f1 absD) (aCons ia aNil)) :=
  le_fB call_abs cas_abs hg hm (by decide +kernel) (lao_cons ha lao_nil hs) (he := hs)
theorem le_intC (hg : Gl X "int") (hm : X.mg "int" = none) (ha : LO xr X W a ia) (hs : starEach [a] X.env = (false, eval a X.env) :: starEach [] X.env := by rfl) : LE xr X W (.Call (.Name "int" p) [a] [] pos) (eCB (f1 intD) (aCons ia aNil)) :=
  le_fT call_int1 cas_int hg hm (by decide +kernel) (lao_cons ha lao_nil hs) (he := hs)
theorem le_strC (hg : Gl X "str") (hm : X.mg "str" = none) (ha : LO xr X W a ia) (hs : starEach [a] X.env = (false, eval a X.env) :: starEach [] X.env := by rfl) : LE xr X W (.Call (.Name "str" p) [a] [] pos) (eCB (f1 strD) (aCons ia aNil)) :=
  le_fT call_str_int cas_str hg hm (by decide +kernel) (lao_cons ha lao_nil hs) (he := hs)
theorem le_tupC (hg : Gl X "tuple") (hm : X.mg "tuple" = none) (ha : LO xr X W a ia) (hs : starEach [a] X.env = (false, eval a X.env) :: starEach [] X.env := by rfl) : LE xr X W (.Call (.Name "tuple" p) [a] [] pos) (eCB (f1 tupD) (aCons ia aNil)) :=
  le_fT call_tuple_of cas_tup hg hm (by decide +kernel) (lao_cons ha lao_nil hs) (he := hs)
theorem ln_lstC (hg : Gl X "list") (hm : X.mg "list" = none) (ha : LO xr X W a ia) (hs : starEach [a] X.env = (false, eval a X.env) :: starEach [] X.env := by rfl) : LN xr X W (.Call (.Name "list" p) [a] [] pos) (eCB (f1 lstD) (aCons ia aNil)) :=
  ln_fT call_list_of can_lst hg hm (by decide +kernel) (lao_cons ha lao_nil hs) (he := hs)
theorem le_all (hc : X.calm = true) (hg : Gl X "all") (hm : X.mg "all" = none) (ha : LO xr X W a ia) (hs : starEach [a] X.env = (false, eval a X.env) :: starEach [] X.env := by rfl) : LE xr X W (.Call (.Name "all" p) [a] [] pos) (eCB (f1 allD) (aCons ia aNil)) :=
  le_fB (cr_all hc) cas_all hg hm (by decide +kernel) (lao_cons ha lao_nil hs) (he := hs)
theorem le_any (hc : X.calm = true) (hg : Gl X "any") (hm : X.mg "any" = none) (ha : LO xr X W a ia) (hs : starEach [a] X.env = (false, eval a X.env) :: starEach [] X.env := by rfl) : LE xr X W (.Call (.Name "any" p) [a] [] pos) (eCB (f1 anyD) (aCons ia aNil)) :=
  le_fB (cr_any hc) cas_any hg hm (by decide +kernel) (lao_cons ha lao_nil hs) (he := hs)
theorem le_sum (hc : X.calm = true) (hg : Gl X "sum") (hm : X.mg "sum" = none) (ha : LO xr X W a ia) (hs : starEach [a] X.env = (false, eval a X.env) :: starEach [] X.env := by rfl) : LE xr X W (.Call (.Name "sum" p) [a] [] pos) (eCB (f1 sumD) (aCons ia aNil)) :=
  le_fB (cr_sum hc) cas_sum hg hm (by decide +kernel) (lao_cons ha lao_nil hs) (he := hs)
theorem le_min2 (hc : X.calm = true) (hg : Gl X "min") (hm : X.mg "min" = none) (ha : LO xr X W a ia) (hb : LO xr X W b ib) (hs : starEach [a, b] X.env = (false, eval a X.env) :: starEach [b] X.env := by rfl) (hs2 : starEach [b] X.env = (false, eval b X.env) :: starEach [] X.env := by rfl) (hpl : (backTo pos (starEach [b] X.env)).any (·.1) = false := by rfl) : LE xr X W (.Call (.Name "min" p) [a, b] [] pos) (eCB (f2 min2) (aCons ia (aCons ib aNil))) :=
  le_fB (call_min2 hc) cas_min2 hg hm (by decide +kernel) (lao_cons ha (lao_cons hb lao_nil hs2) hs) (he := hs) (hpl := hpl)
theorem le_max2 (hc : X.calm = true) (hg : Gl X "max") (hm : X.mg "max" = none) (ha : LO xr X W a ia) (hb : LO xr X W b ib) (hs : starEach [a, b] X.env = (false, eval a X.env) :: starEach [b] X.env := by rfl) (hs2 : starEach [b] X.env = (false, eval b X.env) :: starEach [] X.env := by rfl) (hpl : (backTo pos (starEach [b] X.env)).any (·.1) = false := by rfl) : LE xr X W (.Call (.Name "max" p) [a, b] [] pos) (eCB (f2 max2) (aCons ia (aCons ib aNil))) :=
  le_fB (call_max2 hc) cas_max2 hg hm (by decide +kernel) (lao_cons ha (lao_cons hb lao_nil hs2) hs) (he := hs) (hpl := hpl)
theorem le_isi {x : Str} {T : String} {p2 : Pos} (hg : Gl X "isinstance") (hm : X.mg "isinstance" = none) (hg2 : Gl X x) (hm2 : X.mg x = none) (hv : bootBuiltins x = some (.type T)) (ha : LO xr X W a ia) (hn : x ≠ "__name__" := by decide) (hdb : (x == ("__debug__" : Str)) = false := by decide)
    (hs : starEach [a, .Name x p2] X.env = (false, eval a X.env) :: starEach [.Name x p2] X.env := by rfl) (hs2 : starEach [.Name x p2] X.env = (false, eval (.Name x p2) X.env) :: starEach [] X.env := by rfl) (hpl : (backTo pos (starEach [.Name x p2] X.env)).any (·.1) = false := by rfl) :
    LE xr X W (.Call (.Name "isinstance" p) [a, .Name x p2] [] pos) (eIsi T ia) := by
  obtain ⟨_, q, s⟩ := ha
  exact ⟨_, pe_callB call_isi hg hm (by decide +kernel) (pa_cons q (pa_cons (pe_bltn (v := .ty T) hg2 hm2 hv (show RelV (.ty T) (.type T) from rfl) hn hdb) pa_nil hs2) hs) (he := hs) (hpl := hpl), snd_isi s⟩
end
end

/-! ### defs called -/
abbrev DSp := List Dt → (Dt → Prop) → (Xc → Prop) → Prop
def liftS (K : Fr) (xr : XR) (sp : DSp) : Sp := fun vs H Q E => ∃ dr I ds P EP, Pre dr I H ∧ RpL K dr I vs ds ∧ sp ds P EP ∧ (∀ x c a H', EP x → Kp dr H H' → xr x c a H' → E c a H') ∧ ∀ d v H', P d → Kp dr H H' → Rp K dr (ext I H H') v d → Q v H'
def eCall (sp : DSp) (il : IA) : IE := fun env P E => il env (fun ds => sp ds P E) E
theorem snd_call {K : Fr} {xr : XR} {W : WX} {sp : DSp} {tl : TA} {il : IA} (hl : SndA K xr W tl il) : Snd K xr W (tCallSD (liftS K xr sp) [] (fun σ c a H => W c a σ H) tl) (eCall sp il) := fun dr env σ I H P E p ev hi o Q q =>
  hl dr env σ I H _ E p ev hi o _ fun ds vs H1 hx k1 r1 => ⟨dr, ext I H H1, ds, P, E, p.step k1, by rw [List.append_nil]; exact r1, hx, fun x c a H' hE k r => o x c a H' hE (k1.trans k) r, fun d v H' hP k r => q d v H' hP (k1.trans k) (ext_back p k1 k r)⟩
section
variable {xr : XR} {X : Cx} {W : WX} {e : Expr} {es : List Expr} {il : IA} {pos p : Pos} {k : Nat} {f : Addr} {fd : FuncData} {ps : List Str} {sp : DSp} {x : Str}
theorem le_call (F : FnOk X.prog X.w X.K X.mg X.base (L2.CX X.prog X.w) k f fd ps (liftS X.K xr sp)) (tk : Takes X W) (hr : Room k X.A) (hg : Gl X x) (hm : X.mg x = some (.ref f)) (hk : PySem.W.keepIn X.K (.ref f) = true) (hb : Binds X.K fd ps [])
    (ha : LA xr X W (e :: es) il) (hdb : (x == ("__debug__" : Str)) = false := by decide) (he : starEach (e :: es) X.env = (false, eval e X.env) :: starEach es X.env := by rfl) (hpl : (backTo pos (starEach es X.env)).any (·.1) = false := by rfl) :
    LE xr X W (.Call (.Name x p) (e :: es) [] pos) (eCall sp il) :=
  let ⟨_, q, s⟩ := ha; ⟨_, pe_callSD F hr hg hm hk hb .nil (fun σ => passAt tk σ) q hdb he hpl, snd_call s⟩
/-- a def called where nothing may leave -/
theorem le_call0 (F : FnOk X.prog X.w X.K X.mg X.base (L2.CX X.prog X.w) k f fd ps (liftS X.K xr sp)) (hr : Room k X.A) (hg : Gl X x) (hm : X.mg x = some (.ref f)) (hk : PySem.W.keepIn X.K (.ref f) = true) (hb : Binds X.K fd ps [])
    (hdb : (x == ("__debug__" : Str)) = false := by decide) : LE xr X W (.Call (.Name x p) [] [] pos) (fun _ P E => sp [] P fun _ => False) := by
  refine ⟨_, pe_call0 F hr hg hm hk hb .nil passL hdb, fun dr env σ I H P E pr ev hi o Q q => ?_⟩
  exact ⟨dr, I, [], P, fun _ => False, pr, .nil, hi, fun _ _ _ _ z => z.elim, fun d v H' hP k r => q d v H' hP k r⟩
end

/-! ### what is walked -/
abbrev II := List Sl → (List Dt → Prop) → (Xc → Prop) → Prop
structure Iter (K : Fr) (dr : Dr) (J : It) (ds : List Dt) (Iv I : Hp) : Prop where
  go : ∀ i H, Same Iv H → i < ds.length → J.go i H
  stop : ∀ i H, Same Iv H → ds.length ≤ i → J.stop i H
  yld : ∀ i H x H' d, Same Iv H → ds[i]? = some d → J.yld i H x H' → Same H H' ∧ ∀ I', Same I I' → Same I' H → Rp K dr (ext I' H H') x d
/-- any operand; clean ones -/
def SndIO (K : Fr) (xr : XR) (W : WX) (wi : TI) (ii : II) : Prop := ∀ dr env σ I H P E, Pre dr I H → EnvOk K dr env σ I H → ii env P E → OutE xr W dr σ H E → ∀ R : It → Hp → Prop, (∀ ds J H' Iv, P ds → Kp dr H H' → Pre dr Iv H' → Iter K dr J ds Iv (ext I H H') → R J H') → wi σ H R
def SndI (K : Fr) (xr : XR) (W : WX) (wi : TI) (ii : II) : Prop := ∀ dr env σ I H P E, Pre dr I H → EnvOk K dr env σ I H → ii env P E → OutE xr W dr σ H E → ∀ R : It → Hp → Prop, (∀ ds J H', P ds → Kp dr H H' → Iter K dr J ds (ext I H H') (ext I H H') → R J H') → wi σ H R
theorem SndI.o {K : Fr} {xr : XR} {W : WX} {wi : TI} {ii : II} (h : SndI K xr W wi ii) : SndIO K xr W wi ii := fun dr env σ I H P E p ev hi o R q => h dr env σ I H P E p ev hi o R fun ds J H' hP k it => q ds J H' _ hP k (p.step k) it
def iSeq (K : Fr) (tl : TE) : TI := fun σ H R => tl σ H fun x H1 => ∃ a, x = .ref a ∧ (((∃ xs, SqL K H1 a xs) ∧ R (Itl K a) H1) ∨ ((∃ xs, SqT K H1 a xs) ∧ R (Itt K a) H1))
theorem pi_seq {X : Cx} {tg l : Expr} {tl : TE} (hl : PE X l tl) : PI X tg l (iSeq X.K tl) := by
  refine ⟨fun pins s σ H R I h => ?_⟩
  refine thn (hl.run pins s σ H _ I h) fun v s1 ⟨x, H1, I1, r1, q1⟩ => ?_
  obtain ⟨a, e, ⟨⟨xs, hq⟩, q⟩ | ⟨⟨xs, hq⟩, q⟩⟩ := q1
  · subst e
    cases r1
    obtain ⟨its, rv, p, hz⟩ := I1.list hq
    refine wpAny_pyIter_list p.isList ?_
    refine ⟨s1.heap.objs.size, [s1.heap.objs.size], _, _, H1, rfl, I1.kept (t' := s1.toks) fun b o e => Heap.get?_push_of_some _ e, turn_list a _, ⟨_, Heap.get?_push_size _ rfl, rfl, rfl⟩, fun b hb => ?_, q⟩
    have e : b = s1.heap.objs.size := by simpa using hb
    subst e
    exact I1.fpOk (Nat.le_refl _) (I1.hok.fresh (Nat.le_refl _))
  · subst e
    cases r1
    obtain ⟨its, rv, p, hz⟩ := I1.tuple hq
    refine wpAny_pyIter_tuple (show s1.heap.IsTuple a its.toArray from p) ?_
    refine ⟨s1.heap.objs.size, [s1.heap.objs.size], _, _, H1, rfl, I1.kept (t' := s1.toks) fun b o e => Heap.get?_push_of_some _ e, turn_tuple a _, ⟨_, Heap.get?_push_size _ rfl, rfl, rfl⟩, fun b hb => ?_, q⟩
    have e : b = s1.heap.objs.size := by simpa using hb
    subst e
    exact I1.fpOk (Nat.le_refl _) (I1.hok.fresh (Nat.le_refl _))
def seqD : Dt → (List Dt → Prop) → Prop
  | .lst xs, P => P xs
  | .tup xs, P => P xs
  | _, _ => False
section
set_option autoImplicit true
@[simp] theorem seqD_r1 : seqD (.lst xs) P = (P xs) := id rfl
@[simp] theorem seqD_r2 : seqD (.tup xs) P = (P xs) := id rfl
end
def iOf (ia : IE) : II := fun env P E => ia env (fun x => seqD x P) E
section
variable {K : Fr} {dr : Dr}
theorem iter_list {a : Addr} {vs : List V} {ds : List Dt} {Iv I : Hp} (h : Iv a = some (.lst vs)) (r : RpL K dr I vs ds) : Iter K dr (Itl K a) ds Iv I where
  go := fun i H s hi => by
    obtain ⟨v, e, _⟩ := r.get (List.getElem?_eq_getElem hi)
    exact ⟨vs, v, SqL.of (s _ _ h), e⟩
  stop := fun i H s hi => ⟨vs, SqL.of (s _ _ h), by rw [r.len]; exact hi⟩
  yld := fun i H x H' d s hd hy => by
    obtain ⟨e, f⟩ := hy
    subst e
    obtain ⟨v, e, q⟩ := r.get hd
    have e2 := f vs (SqL.of (s _ _ h))
    rw [e] at e2
    cases e2
    refine ⟨Same.refl _, fun I' s1 s2 => q.mono fun b o z => ?_⟩
    rw [ext_some (by rw [s2 _ _ (s1 _ _ z)]; simp)]
    exact s1 _ _ z
theorem iter_tup {a : Addr} {vs : List V} {ds : List Dt} {Iv I : Hp} (h : SqT K Iv a vs) (r : RpL K dr I vs ds) : Iter K dr (Itt K a) ds Iv I where
  go := fun i H s hi => by
    obtain ⟨v, e, _⟩ := r.get (List.getElem?_eq_getElem hi)
    exact ⟨vs, v, same_seqT s h, e⟩
  stop := fun i H s hi => ⟨vs, same_seqT s h, by rw [r.len]; exact hi⟩
  yld := fun i H x H' d s hd hy => by
    obtain ⟨e, f⟩ := hy
    subst e
    obtain ⟨v, e, q⟩ := r.get hd
    have e2 := f vs (same_seqT s h)
    rw [e] at e2
    cases e2
    refine ⟨Same.refl _, fun I' s1 s2 => q.mono fun b o z => ?_⟩
    rw [ext_some (by rw [s2 _ _ (s1 _ _ z)]; simp)]
    exact s1 _ _ z
/-- one owned object taken in -/
theorem Pre.take {I H : Hp} {a : Addr} {o : HO} (p : Pre dr I H) (h : H a = some o) (n : ¬ IsDr dr a) : Pre dr (upd I a o) H := by
  refine ⟨fun b u e => ?_, p.dro, fun b i => ?_⟩
  · by_cases hb : b = a
    · subst hb; rw [upd_same] at e; cases e; exact h
    · rw [upd_ne hb] at e; exact p.sub b u e
  · rw [upd_ne (fun (z : b = a) => n (by rw [← z]; exact i))]; exact p.nI b i
theorem sndIO_of {xr : XR} {W : WX} {tl : TE} {ia : IE} (ha : SndO K xr W tl ia) : SndIO K xr W (iSeq K tl) (iOf ia) := fun dr env σ I H P E p ev hi o R q =>
  ha dr env σ I H _ E p ev hi o _ fun x v H1 hx k1 r1 => by
    have p1 := p.step k1
    unfold seqD at hx
    split at hx
    · rcases r1 with r1 | ⟨a, rfl, h1, h2, ws, h3, h4⟩
      · cases r1 with
        | lst e r => exact ⟨_, rfl, .inl ⟨⟨_, SqL.of (p1.sub _ _ e)⟩, q _ _ H1 _ hx k1 p1 (iter_list e r)⟩⟩
      · exact ⟨a, rfl, .inl ⟨⟨_, SqL.of h3⟩, q _ _ H1 _ hx k1 (p1.take h3 h2) (iter_list upd_same h4)⟩⟩
    · rcases r1 with r1 | ⟨a, rfl, h1, h2, h3⟩
      · cases r1 with
        | tup e r => exact ⟨_, rfl, .inr ⟨⟨_, same_seqT p1.sub e⟩, q _ _ H1 _ hx k1 p1 (iter_tup e r)⟩⟩
      · exact h3.elim
    · exact hx.elim
theorem sndI_of {xr : XR} {W : WX} {tl : TE} {ia : IE} (ha : Snd K xr W tl ia) : SndI K xr W (iSeq K tl) (iOf ia) := fun dr env σ I H P E p ev hi o R q =>
  ha dr env σ I H _ E p ev hi o _ fun x v H1 hx k1 r1 => by
    have p1 := p.step k1
    unfold seqD at hx
    split at hx
    · cases r1 with
      | lst e r => exact ⟨_, rfl, .inl ⟨⟨_, SqL.of (p1.sub _ _ e)⟩, q _ _ H1 hx k1 (iter_list e r)⟩⟩
    · cases r1 with
      | tup e r => exact ⟨_, rfl, .inr ⟨⟨_, same_seqT p1.sub e⟩, q _ _ H1 hx k1 (iter_tup e r)⟩⟩
    · exact hx.elim
/-- lo, lo + c, .., n of them -/
def rng (lo c : Int) (n : Nat) : List Dt := (List.range n).map fun (i : Nat) => Dt.int (lo + (i : Int) * c)
theorem rng_len (lo c : Int) (n : Nat) : (rng lo c n).length = n := by unfold rng; rw [List.length_map, List.length_range]
theorem rng_get {lo c : Int} {n i : Nat} {d : Dt} (h : (rng lo c n)[i]? = some d) : i < n ∧ d = .int (lo + (i : Int) * c) := by
  unfold rng at h
  rw [List.getElem?_map] at h
  by_cases hi : i < n
  · rw [List.getElem?_range hi] at h
    exact ⟨hi, (Option.some.inj h).symm⟩
  · rw [List.getElem?_eq_none (by rw [List.length_range]; omega)] at h
    cases h
theorem iter_rng {lo : Int} {n : Nat} {Iv I : Hp} : Iter K dr (Itr lo n) (rng lo 1 n) Iv I where
  go := fun i H _ hi => by rw [rng_len] at hi; exact hi
  stop := fun i H _ hi => by rw [rng_len] at hi; exact hi
  yld := fun i H x H' d _ hd hy => by
    obtain ⟨e, f⟩ := hy
    subst e f
    obtain ⟨_, rfl⟩ := rng_get hd
    refine ⟨Same.refl _, fun I' _ _ => ?_⟩
    rw [Int.mul_one]
    exact .int _
theorem iter_rngC {lo c : Int} {n : Nat} {Iv I : Hp} : Iter K dr (Itc lo c n) (rng lo c n) Iv I where
  go := fun i H _ hi => by rw [rng_len] at hi; exact hi
  stop := fun i H _ hi => by rw [rng_len] at hi; exact hi
  yld := fun i H x H' d _ hd hy => by
    obtain ⟨e, f⟩ := hy
    subst e f
    obtain ⟨_, rfl⟩ := rng_get hd
    exact ⟨Same.refl _, fun I' _ _ => .int _⟩
def g1 (f : Int → Prop) : List Dt → Prop
  | [.int i] => f i
  | _ => False
def g2 (f : Int → Int → Prop) : List Dt → Prop
  | [.int i, .int j] => f i j
  | _ => False
def iRange1 (il : IA) : II := fun env P E => il env (g1 fun j => (-(2 ^ 62) ≤ j ∧ j < 2 ^ 62) ∧ P (rng 0 1 j.toNat)) E
def iRange2 (il : IA) : II := fun env P E => il env (g2 fun i j => (-(2 ^ 62) ≤ i ∧ i < 2 ^ 62 ∧ -(2 ^ 62) ≤ j ∧ j < 2 ^ 62) ∧ P (rng i 1 (j - i).toNat)) E
/-- range(i, j, -1) -/
def g3 (f : Int → Int → Prop) : List Dt → Prop
  | [.int i, .int j, .int k] => k = -1 ∧ f i j
  | _ => False
def iRange3 (il : IA) : II := fun env P E => il env (g3 fun i j => (-(2 ^ 62) ≤ i ∧ i < 2 ^ 62 ∧ -(2 ^ 62) ≤ j ∧ j < 2 ^ 62) ∧ P (rng i (-1) (i - j).toNat)) E
theorem sndI_r1 {xr : XR} {W : WX} {tl : TA} {il : IA} (hl : SndA K xr W tl il) : SndI K xr W (iRng1 tl) (iRange1 il) := fun dr env σ I H P E p ev hi o R q =>
  hl dr env σ I H _ E p ev hi o _ fun ds vs H1 hx k1 r1 => by
    unfold g1 at hx
    split at hx
    · cases r1 with
      | cons a b =>
        cases a; cases b
        exact ⟨_, rfl, hx.1.1, hx.1.2, q _ _ H1 hx.2 k1 iter_rng⟩
    · exact hx.elim
theorem sndI_r2 {xr : XR} {W : WX} {tl : TA} {il : IA} (hl : SndA K xr W tl il) : SndI K xr W (iRng2 tl) (iRange2 il) := fun dr env σ I H P E p ev hi o R q =>
  hl dr env σ I H _ E p ev hi o _ fun ds vs H1 hx k1 r1 => by
    unfold g2 at hx
    split at hx
    · cases r1 with
      | cons a b =>
        cases a
        cases b with
        | cons a b =>
          cases a; cases b
          exact ⟨_, _, rfl, hx.1, q _ _ H1 hx.2 k1 iter_rng⟩
    · exact hx.elim
theorem sndI_r3 {xr : XR} {W : WX} {tl : TA} {il : IA} (hl : SndA K xr W tl il) : SndI K xr W (iRng3 tl) (iRange3 il) := fun dr env σ I H P E p ev hi o R q =>
  hl dr env σ I H _ E p ev hi o _ fun ds vs H1 hx k1 r1 => by
    unfold g3 at hx
    split at hx
    · cases r1 with
      | cons a b =>
        cases a
        cases b with
        | cons a b =>
          cases a
          cases b with
          | cons a b =>
            cases a; cases b
            obtain ⟨rfl, h1, h2⟩ := hx
            exact ⟨_, _, _, _, rfl, RgC.neg h1.1 h1.2.1 h1.2.2.1 h1.2.2.2, q _ _ H1 h2 k1 iter_rngC⟩
    · exact hx.elim
end
def LI (xr : XR) (X : Cx) (W : WX) (tg e : Expr) (ii : II) : Prop := ∃ wi, PI X tg e wi ∧ SndI X.K xr W wi ii
def LIO (xr : XR) (X : Cx) (W : WX) (tg e : Expr) (ii : II) : Prop := ∃ wi, PI X tg e wi ∧ SndIO X.K xr W wi ii
section
variable {xr : XR} {X : Cx} {W : WX} {e a b c tg : Expr} {es : List Expr} {ia : IE} {il : IA} {ii : II} {pos p : Pos}
theorem LI.O (h : LI xr X W tg e ii) : LIO xr X W tg e ii := let ⟨_, p, s⟩ := h; ⟨_, p, s.o⟩
theorem lio_of (h : LO xr X W e ia) : LIO xr X W tg e (iOf ia) := let ⟨_, p, s⟩ := h; ⟨_, pi_seq p, sndIO_of s⟩
theorem li_of (h : LE xr X W e ia) : LI xr X W tg e (iOf ia) := let ⟨_, p, s⟩ := h; ⟨_, pi_seq p, sndI_of s⟩
theorem li_r1 (hg : Gl X "range") (hm : X.mg "range" = none) (ha : LA xr X W [a] il) (hs : starEach [a] X.env = [(false, eval a X.env)] := by rfl) : LI xr X W tg (.Call (.Name "range" p) [a] [] pos) (iRange1 il) :=
  let ⟨_, q, s⟩ := ha; ⟨_, pi_range1 hg hm q hs, sndI_r1 s⟩
theorem li_r2 (hg : Gl X "range") (hm : X.mg "range" = none) (ha : LA xr X W [a, b] il) (hs : starEach [a, b] X.env = [(false, eval a X.env), (false, eval b X.env)] := by rfl) (hs2 : starEach [b] X.env = [(false, eval b X.env)] := by rfl) : LI xr X W tg (.Call (.Name "range" p) [a, b] [] pos) (iRange2 il) :=
  let ⟨_, q, s⟩ := ha; ⟨_, pi_range2 hg hm q hs hs2, sndI_r2 s⟩
theorem li_r3 (hg : Gl X "range") (hm : X.mg "range" = none) (ha : LA xr X W [a, b, c] il) (hs : starEach [a, b, c] X.env = (false, eval a X.env) :: starEach [b, c] X.env := by rfl) (hpl : (backTo pos (starEach [b, c] X.env)).any (·.1) = false := by rfl) : LI xr X W tg (.Call (.Name "range" p) [a, b, c] [] pos) (iRange3 il) :=
  let ⟨_, q, s⟩ := ha; ⟨_, pi_range3 hg hm q hs hpl, sndI_r3 s⟩
end
end DL

set_option maxRecDepth 100000
/-! DL6: targets, comprehensions. -/
namespace DL
open PySem L2 PyProof.Rows

/-! ### slots forgotten -/
theorem wipe_get (σ : L2.St) (j : Nat) : ∀ vs : List Nat, (wipe σ vs)[j]? = if j ∈ vs then σ[j]?.map (fun _ => none) else σ[j]?
  | [] => by simp [wipe]
  | v :: vs => by
    unfold wipe
    rw [List.getElem?_set, wipe_length, wipe_get σ j vs]
    by_cases hv : v = j
    · subst hv
      by_cases hl : v < σ.length
      · simp [hl]
      · simp [hl, List.getElem?_eq_none (Nat.not_lt.mp hl)]
    · have hn : ¬ j = v := fun z => hv z.symm
      simp [hv, hn, List.mem_cons]
theorem wipe_set {σ : L2.St} {i : Nat} {x : Option V} {vs : List Nat} (h : i ∈ vs) : wipe (σ.set i x) vs = wipe σ vs := by
  apply List.ext_getElem?
  intro j
  rw [wipe_get, wipe_get, List.getElem?_set]
  by_cases hj : i = j
  · subst hj
    rw [if_pos h, if_pos h, if_pos rfl]
    by_cases hl : i < σ.length
    · simp [hl]
    · simp [hl]
  · rw [if_neg hj]
theorem wipe_wipe (σ : L2.St) (vs : List Nat) : wipe (wipe σ vs) vs = wipe σ vs := by
  apply List.ext_getElem?
  intro j
  rw [wipe_get, wipe_get]
  by_cases h : j ∈ vs
  · simp only [if_pos h, Option.map_map]; rfl
  · simp [h]
def wipeE : List Sl → List Nat → List Sl
  | e, [] => e
  | e, v :: vs => put (wipeE e vs) v .no
theorem wipeE_length (e : List Sl) : ∀ vs, (wipeE e vs).length = e.length
  | [] => rfl
  | v :: vs => by rw [wipeE, put_length, wipeE_length e vs]
theorem wipeE_sl (e : List Sl) (j : Nat) : ∀ vs, sl (wipeE e vs) j = if j ∈ vs then .no else sl e j
  | [] => by simp [wipeE]
  | v :: vs => by
    rw [wipeE, sl_put, wipeE_sl e j vs, wipeE_length]
    by_cases hv : v = j
    · subst hv
      by_cases hl : v < e.length
      · simp [hl]
      · have : sl e v = .no := Classical.byContradiction fun z => hl (sl_lt z)
        simp [hl, this]
    · have hn : ¬ j = v := fun z => hv z.symm
      simp [hv, hn, List.mem_cons]
section
variable {K : Fr} {dr : Dr} {H H' H1 H2 I I' : Hp} {env : List Sl} {σ : L2.St}
theorem EnvOk.wipe (h : EnvOk K dr env σ I H) (vs : List Nat) : EnvOk K dr (wipeE env vs) (L2.wipe σ vs) I H := by
  refine ⟨by rw [wipe_length, wipeE_length]; exact h.len, fun i hi => ?_, fun i j d e p h1 h2 h3 h4 => ?_⟩
  · rw [wipeE_sl, wipe_get]
    by_cases hv : i ∈ vs
    · rw [if_pos hv, if_pos hv]; trivial
    · rw [if_neg hv, if_neg hv]
      exact h.at_ i (by rw [wipeE_length] at hi; exact hi)
  · rw [wipeE_sl] at h1 h2
    rw [wipe_get] at h3 h4
    by_cases hi : i ∈ vs
    · rw [if_pos hi] at h1; cases h1
    · by_cases hj : j ∈ vs
      · rw [if_pos hj] at h2; cases h2
      · rw [if_neg hi] at h1 h3
        rw [if_neg hj] at h2 h4
        exact h.sep i j d e p h1 h2 h3 h4
theorem EnvOk.put_im (h : EnvOk K dr env σ I H) {i : Nat} {v : V} {d : Dt} (r : Rp K dr I v d) : EnvOk K dr (put env i (.im d)) (σ.set i (some v)) I H := by
  refine ⟨by rw [List.length_set, put_length]; exact h.len, fun j hj => ?_, fun j k d' e p h1 h2 h3 h4 => ?_⟩
  · rw [put_length] at hj
    rw [sl_put, List.getElem?_set]
    by_cases hij : i = j
    · subst hij
      rw [if_pos rfl, if_pos (by rw [h.len]; exact hj), if_pos ⟨rfl, hj⟩]
      exact ⟨v, rfl, r⟩
    · rw [if_neg hij, if_neg (fun z => hij z.1)]
      exact h.at_ j hj
  · rw [sl_put] at h1 h2
    rw [List.getElem?_set] at h3 h4
    by_cases hij : i = j ∧ j < env.length
    · rw [if_pos hij] at h1; cases h1
    · rw [if_neg hij] at h1
      by_cases hik : i = k ∧ k < env.length
      · rw [if_pos hik] at h2; cases h2
      · rw [if_neg hik] at h2
        have l1 : j < env.length := sl_lt (by rw [h1]; simp)
        have l2 : k < env.length := sl_lt (by rw [h2]; simp)
        rw [if_neg (fun z => hij ⟨z, l1⟩)] at h3
        rw [if_neg (fun z => hik ⟨z, l2⟩)] at h4
        exact h.sep j k d' e p h1 h2 h3 h4
theorem EnvOk.put_ow (h : EnvOk K dr env σ I H) {i : Nat} {p : Addr} {d : Dt} (h1 : I p = none) (h2 : ¬ IsDr dr p) (h3 : OwR K dr I H p d) (h4 : ∀ j e, sl env j = .ow e → σ[j]? = some (some (.ref p)) → j = i) : EnvOk K dr (put env i (.ow d)) (σ.set i (some (.ref p))) I H := by
  refine ⟨by rw [List.length_set, put_length]; exact h.len, fun j hj => ?_, fun j k d' e q e1 e2 e3 e4 => ?_⟩
  · rw [put_length] at hj
    rw [sl_put, List.getElem?_set]
    by_cases hij : i = j
    · subst hij
      rw [if_pos rfl, if_pos (by rw [h.len]; exact hj), if_pos ⟨rfl, hj⟩]
      exact ⟨p, rfl, h1, h2, h3⟩
    · rw [if_neg hij, if_neg (fun z => hij z.1)]
      exact h.at_ j hj
  · rw [sl_put] at e1 e2
    rw [List.getElem?_set] at e3 e4
    have l1 : j < env.length := by
      by_cases z : i = j ∧ j < env.length
      · exact z.2
      · rw [if_neg z] at e1; exact sl_lt (by rw [e1]; simp)
    have l2 : k < env.length := by
      by_cases z : i = k ∧ k < env.length
      · exact z.2
      · rw [if_neg z] at e2; exact sl_lt (by rw [e2]; simp)
    by_cases hij : i = j
    · by_cases hik : i = k
      · exact hij.symm.trans hik
      · rw [if_neg (fun z => hik z.1)] at e2
        rw [if_neg hik] at e4
        rw [if_pos hij, if_pos (by rw [h.len, hij]; exact l1)] at e3
        have : p = q := by simpa using e3
        subst this
        exact absurd (h4 k e e2 e4).symm hik
    · rw [if_neg (fun z => hij z.1)] at e1
      rw [if_neg hij] at e3
      by_cases hik : i = k
      · rw [if_pos hik, if_pos (by rw [h.len, hik]; exact l2)] at e4
        have : p = q := by simpa using e4
        subst this
        exact absurd (h4 j d' e1 e3).symm hij
      · rw [if_neg (fun z => hik z.1)] at e2
        rw [if_neg hik] at e4
        exact h.sep j k d' e q e1 e2 e3 e4
/-- behind a new object that is left out -/
theorem EnvOk.hid {p : Addr} (pr : Pre dr I H) (k : Kp dr H H') (hp : H p = none) (h : EnvOk K dr env σ I H) : EnvOk K dr env σ (hid p (ext I H H')) H' := by
  refine ⟨h.len, fun i hi => ?_, h.sep⟩
  have q := h.at_ i hi
  revert q
  cases sl env i with
  | no => intro _; trivial
  | ex a dd wd => exact fun h => ⟨h.1, h.2.1, k.keep dd _ h.2.2 h.2.1⟩
  | im d =>
    rintro ⟨v, e, r⟩
    refine ⟨v, e, r.mono fun a o z => ?_⟩
    have ne : a ≠ p := fun y => by subst y; have := pr.sub _ _ z; rw [hp] at this; cases this
    unfold DL.hid
    rw [if_neg ne]
    exact pr.ext_sub a o z
  | ow d =>
    rintro ⟨q, e, h1, h2, h3⟩
    obtain ⟨o, e2⟩ := h3.some_
    have ne : q ≠ p := fun y => by subst y; rw [hp] at e2; cases e2
    refine ⟨q, e, ?_, h2, h3.mono (fun a o z => ?_) ((k.keep q o e2 h2).trans e2.symm)⟩
    · unfold DL.hid
      rw [if_neg ne, ext_some (by rw [e2]; simp)]
      exact h1
    · have ne : a ≠ p := fun y => by subst y; have := pr.sub _ _ z; rw [hp] at this; cases this
      unfold DL.hid
      rw [if_neg ne]
      exact pr.ext_sub a o z
theorem Pre.hid (pr : Pre dr I H) (k : Kp dr H H') (p : Addr) : Pre dr (hid p (ext I H H')) H' := (pr.step k).less hid_same
end

/-! ### targets that are names, or tuples of such -/
abbrev G := Dt → List Sl → (List Sl → Prop) → Prop
abbrev Gs := List Dt → List Sl → (List Sl → Prop) → Prop
structure Put (K : Fr) (dr : Dr) (ts : List Nat) (env : List Sl) (σ : L2.St) (I H : Hp) (env' : List Sl) (σ' : L2.St) : Prop where
  ok : EnvOk K dr env' σ' I H
  wp : ∀ vs, (∀ t ∈ ts, t ∈ vs) → wipe σ' vs = wipe σ vs
  own : ∀ i d p, sl env' i = .ow d → σ'[i]? = some (some (.ref p)) → sl env i = .ow d ∧ σ[i]? = some (some (.ref p))
def SndG (K : Fr) (tg : TG) (g : G) (ts : List Nat) : Prop := ∀ dr env σ I H v d P, Pre dr I H → EnvOk K dr env σ I H → Rp K dr I v d → g d env P → ∀ Q : L2.St → Hp → Prop, (∀ env' σ', P env' → Put K dr ts env σ I H env' σ' → Q σ' H) → tg v σ H Q
def SndGs (K : Fr) (tg : TGs) (g : Gs) (ts : List Nat) : Prop := ∀ dr env σ I H vs ds P, Pre dr I H → EnvOk K dr env σ I H → RpL K dr I vs ds → g ds env P → ∀ Q : L2.St → Hp → Prop, (∀ env' σ', P env' → Put K dr ts env σ I H env' σ' → Q σ' H) → tg vs σ H Q
def gN (i : Nat) : G := fun d env P => P (put env i (.im d))
def gsNil : Gs
  | [], env, P => P env
  | _, _, _ => False
def gsCons (g : G) (gs : Gs) : Gs
  | d :: ds, env, P => g d env fun env' => gs ds env' P
  | _, _, _ => False
def gT (n : Nat) (gs : Gs) : G
  | .tup ds, env, P => ds.length = n ∧ gs ds env P
  | _, _, _ => False
section
set_option autoImplicit true
@[simp] theorem gT_r1 (n : Nat) (gs : Gs) : gT n gs (.tup ds) env P = (ds.length = n ∧ gs ds env P) := id rfl
end
theorem sndG_name {K : Fr} {i : Nat} : SndG K (gName i) (gN i) [i] := fun dr env σ I H v d P p ev r h Q q => by
  refine q _ _ h ⟨ev.put_im r, fun vs hv => wipe_set (hv i List.mem_cons_self), fun j d' p' h1 h2 => ?_⟩
  rw [sl_put] at h1
  rw [List.getElem?_set] at h2
  by_cases hij : i = j ∧ j < env.length
  · rw [if_pos hij] at h1; cases h1
  · rw [if_neg hij] at h1
    have l1 : j < env.length := sl_lt (by rw [h1]; simp)
    rw [if_neg (fun z => hij ⟨z, l1⟩)] at h2
    exact ⟨h1, h2⟩
theorem sndGs_nil {K : Fr} : SndGs K gNil gsNil [] := fun dr env σ I H vs ds P p ev r h Q q => by
  cases r with
  | nil => exact ⟨rfl, q _ _ h ⟨ev, fun _ _ => rfl, fun _ _ _ h1 h2 => ⟨h1, h2⟩⟩⟩
  | cons _ _ => exact h.elim
theorem sndGs_cons {K : Fr} {tg : TG} {tgs : TGs} {g : G} {gs : Gs} {ts us : List Nat} (hg : SndG K tg g ts) (hs : SndGs K tgs gs us) : SndGs K (gCons tg tgs) (gsCons g gs) (ts ++ us) := fun dr env σ I H vs ds P p ev r h Q q => by
  cases r with
  | nil => exact h.elim
  | cons r1 r2 =>
    refine ⟨_, _, rfl, hg dr env σ I H _ _ _ p ev r1 h _ fun env' σ' h' k => ?_⟩
    refine hs dr env' σ' I H _ _ _ p k.ok r2 h' _ fun env2 σ2 h2 k2 => q _ _ h2 ⟨k2.ok, fun vs hv => ?_, fun i d p' e1 e2 => ?_⟩
    · rw [k2.wp vs fun t ht => hv t (List.mem_append_right _ ht), k.wp vs fun t ht => hv t (List.mem_append_left _ ht)]
    · obtain ⟨a, b⟩ := k2.own i d p' e1 e2
      exact k.own i d p' a b
theorem sndG_tup {K : Fr} {n : Nat} {tgs : TGs} {gs : Gs} {ts : List Nat} (hs : SndGs K tgs gs ts) : SndG K (gTup K n tgs) (gT n gs) ts := fun dr env σ I H v d P p ev r h Q q => by
  cases r with
  | tup e r => exact ⟨_, _, rfl, same_seqT p.sub e, by rw [r.len]; exact h.1, hs dr env σ I H _ _ _ p ev r h.2 Q q⟩
  | _ => exact h.elim
def LG (X : Cx) (tg : Expr) (g : G) (ts : List Nat) : Prop := ∃ t, PG X tg t ∧ SndG X.K t g ts
def LGs (X : Cx) (tg : List Expr) (g : Gs) (ts : List Nat) : Prop := ∃ t, PGs X tg t ∧ SndGs X.K t g ts
section
variable {X : Cx} {e : Expr} {es : List Expr} {g : G} {gs : Gs} {ts us : List Nat} {pos : Pos}
theorem lg_name (i : Nat) {x : Str} (hN : X.N.Nodup) (hi : X.N[i]? = some x := by rfl) (hx : Loc X.env.scope x := by first | exact Or.inl rfl | exact Or.inr rfl) (hf : X.fn x = true ∨ X.env.scope.names.lookup x = some .local := by first | exact .inl rfl | exact .inr rfl | assumption) : LG X (.Name x pos) (gN i) [i] :=
  ⟨_, pg_name hN hi hx hf, sndG_name⟩
theorem lgs_nil : LGs X [] gsNil [] := ⟨_, pgs_nil, sndGs_nil⟩
theorem lgs_cons (h : LG X e g ts) (hs : LGs X es gs us) (ha : (assignEach (e :: es) X.env).map (·.2) = assign e X.env :: (assignEach es X.env).map (·.2) := by rfl) : LGs X (e :: es) (gsCons g gs) (ts ++ us) :=
  let ⟨_, p, s⟩ := h; let ⟨_, q, t⟩ := hs; ⟨_, pgs_cons p q ha, sndGs_cons s t⟩
theorem lg_tup {k n : Nat} (hc : X.calm = true) (hs : LGs X es gs ts) (hn : (assignEach es X.env).length = n := by rfl) (hst : (assignEach es X.env).findIdx? (·.1) = none := by rfl) : LG X (.Tuple es k pos) (gT n gs) ts :=
  let ⟨_, q, t⟩ := hs; ⟨_, pg_tup hc q hn hst, sndG_tup t⟩
end

/-! ### comprehensions -/
def compD (g : G) (it : IT) (ie : IE) (env : List Sl) (P : Dt → Prop) : List Dt → List Dt → Prop
  | [], outs => P (.lst outs)
  | d :: ds, outs => g d env fun env1 => it env1 (fun b => if b = true then ie env1 (fun y => compD g it ie env P ds (outs ++ [y])) (fun _ => False) else compD g it ie env P ds outs) fun _ => False
def nComp (vs : List Nat) (ii : II) (g : G) (it : IT) (ie : IE) : IE := fun env P E => ii env (fun ds => ds.length ≤ 16777216 ∧ compD g it ie (wipeE env vs) P ds []) E
def bYes : IT := fun _ P _ => P true
abbrev WF : WX := fun _ _ _ _ => False
theorem outF {xr : XR} {dr : Dr} {σ : L2.St} {H : Hp} : OutE xr WF dr σ H fun _ => False := fun _ _ _ _ z => z.elim
theorem Kp.of_same {dr : Dr} {H H' : Hp} (s : Same H H') : Kp dr H H' := ⟨fun a o e _ => s a o e, fun q e ⟨i, cs, h1, h2, h3⟩ => ⟨i, cs, s _ _ h1, s _ _ h2, h3⟩⟩
theorem Kp.same {dr : Dr} {H H' I : Hp} (k : Kp dr H H') (p : Pre dr I H) : Same I H' := fun a o e => k.keep a o (p.sub a o e) fun i => by rw [p.nI a i] at e; cases e
theorem sndN_comp {K : Fr} {xr : XR} {W : WX} {wi : TI} {tg : TG} {tt : TT} {te : TE} {vs ts : List Nat} {ii : II} {g : G} {it : IT} {ie : IE} (hi : SndIO K xr W wi ii) (hg : SndG K tg g ts) (hts : ∀ t ∈ ts, t ∈ vs) (ht : SndT K xr WF tt it) (he : Snd K xr WF te ie) :
    SndN K xr W (tLc wi tg tt te vs) (nComp vs ii g it ie) := fun dr env σ I H P E p ev hx o Q q => by
  refine hi dr env σ I H _ E p ev hx o _ fun ds J H1 Iv hd k1 pv itr D hD => ?_
  obtain ⟨hlen, hc⟩ := hd
  have p1 := p.step k1
  have ev1 := ev.step k1 p
  generalize hI1 : ext I H H1 = I1 at p1 ev1 itr
  have kD : Kp dr H1 (upd H1 D (.lst [])) := Kp.new p1 hD
  refine ⟨fun i m H2 => m = ds.length - i ∧ i ≤ ds.length ∧ ∃ acc outs, Kp dr H1 H2 ∧ H2 D = some (.lst acc) ∧ RpL K dr (hid D (ext I1 H1 H2)) acc outs ∧ outs.length ≤ i ∧ compD g it ie (wipeE env vs) P (ds.drop i) outs, ⟨ds.length, by simp, Nat.zero_le _, [], [], kD, upd_same, .nil, Nat.le_refl _, hc⟩, ?_⟩
  rintro i m H2 ⟨rfl, hi', acc, outs, k2, hacc, racc, hol, hc2⟩
  have sv : Same Iv H2 := k2.same pv
  by_cases hlt : i < ds.length
  · refine .inr ⟨itr.go i H2 sv hlt, fun H' => ∃ acc outs, Kp dr H1 H' ∧ H' D = some (.lst acc) ∧ RpL K dr (hid D (ext I1 H1 H')) acc outs ∧ outs.length ≤ i + 1 ∧ compD g it ie (wipeE env vs) P (ds.drop (i + 1)) outs, fun H' h' => ⟨ds.length - (i + 1), by omega, rfl, hlt, h'⟩, fun x H3 hy => ?_⟩
    obtain ⟨s3, rx⟩ := itr.yld i H2 x H3 ds[i] sv (List.getElem?_eq_getElem hlt) hy
    have k3 : Kp dr H2 H3 := Kp.of_same s3
    have k13 := k2.trans k3
    -- the part that never changes, without the new list
    have sub1 : ∀ H', Kp dr H1 H' → Same I1 (hid D (ext I1 H1 H')) := fun H' k a o e => by
      have ne : a ≠ D := fun y => by subst y; have := p1.sub _ _ e; rw [hD] at this; cases this
      unfold hid
      rw [if_neg ne]
      exact p1.ext_sub a o e
    have grow : ∀ H' H'', Kp dr H1 H' → Kp dr H' H'' → Same (hid D (ext I1 H1 H')) (hid D (ext I1 H1 H'')) := fun H' H'' k k' a o e => by
      unfold hid at e ⊢
      by_cases ha : a = D
      · rw [if_pos ha] at e; cases e
      · rw [if_neg ha] at e ⊢
        by_cases h1 : H1 a = none
        · rw [ext_none h1] at e ⊢
          exact k'.keep a o e (p1.notDr h1)
        · rw [ext_some h1] at e ⊢; exact e
    have p3 : Pre dr (hid D (ext I1 H1 H3)) H3 := p1.hid k13 D
    have e3 : EnvOk K dr (wipeE env vs) (wipe σ vs) (hid D (ext I1 H1 H3)) H3 := (ev1.hid p1 k13 hD).wipe vs
    have rx3 : Rp K dr (hid D (ext I1 H1 H3)) x ds[i] := by
      refine (rx (hid D (ext I1 H1 H2)) (sub1 H2 k2) (p1.hid k2 D).sub).mono fun a o e => ?_
      by_cases h2 : H2 a = none
      · rw [ext_none h2] at e
        have ha : a ≠ D := fun y => by subst y; rw [hacc] at h2; cases h2
        have h1 : H1 a = none := k2.none_back p1 h2
        unfold hid
        rw [if_neg ha, ext_none h1]
        exact e
      · rw [ext_some h2] at e
        exact grow H2 H3 k2 k3 a o e
    have hdrop : ds.drop i = ds[i] :: ds.drop (i + 1) := (List.getElem_cons_drop (h := hlt)).symm
    rw [hdrop] at hc2
    refine hg dr _ _ _ H3 x ds[i] _ p3 e3 rx3 hc2 _ fun env1 σ1 h1 pu => ⟨?_, ?_⟩
    · rw [pu.wp vs hts, wipe_wipe]
    · refine ht dr env1 σ1 _ H3 _ _ p3 pu.ok h1 outF _ fun b H4 hb k4 => ?_
      have k14 := k13.trans k4
      have hacc4 : H4 D = some (.lst acc) := k4.keep D _ (k3.keep D _ hacc (p1.notDr hD)) (p1.notDr hD)
      cases b with
      | false =>
        show ∃ acc outs, _
        exact ⟨acc, outs, k14, hacc4, RpL.mono (grow H2 H4 k2 (k3.trans k4)) _ _ racc, by omega, hb⟩
      | true =>
        show te σ1 H4 _
        have p4 := p3.step k4
        refine he dr env1 σ1 _ H4 _ _ p4 (pu.ok.step k4 p3) hb outF _ fun y w H5 hy5 k5 r5 => ?_
        have k15 := k14.trans k5
        have hacc5 : H5 D = some (.lst acc) := k5.keep D _ hacc4 (p1.notDr hD)
        have kU : Kp dr H1 (upd H5 D (.lst (acc ++ [w]))) := by
          refine ⟨fun a o e n => ?_, fun qq e h => ?_⟩
          · rw [upd_ne (ne_of_none e hD)]; exact k15.keep a o e n
          · obtain ⟨i', cs, h1', h2', h3'⟩ := k15.dro qq e h
            have n1 : qq.1 ≠ D := fun z => p1.notDr hD ⟨qq, e, .inl z.symm⟩
            have n2 : qq.2 ≠ D := fun z => p1.notDr hD ⟨qq, e, .inr z.symm⟩
            exact ⟨i', cs, by rw [upd_ne n1]; exact h1', by rw [upd_ne n2]; exact h2', h3'⟩
        have up : Same (hid D (ext I1 H1 H5)) (hid D (ext I1 H1 (upd H5 D (.lst (acc ++ [w]))))) := fun a o e => by
          unfold hid at e ⊢
          by_cases ha : a = D
          · rw [if_pos ha] at e; cases e
          · rw [if_neg ha] at e ⊢
            by_cases h1 : H1 a = none
            · rw [ext_none h1] at e ⊢; rw [upd_ne ha]; exact e
            · rw [ext_some h1] at e ⊢; exact e
        have rw5 : Rp K dr (hid D (ext I1 H1 H5)) w y := by
          refine r5.mono fun a o e => ?_
          by_cases h4 : H4 a = none
          · rw [ext_none h4] at e
            have ha : a ≠ D := fun z => by subst z; rw [hacc4] at h4; cases h4
            have h1 : H1 a = none := k14.none_back p1 h4
            unfold hid
            rw [if_neg ha, ext_none h1]
            exact e
          · rw [ext_some h4] at e
            by_cases h3 : H3 a = none
            · rw [ext_none h3] at e
              have ha : a ≠ D := fun z => by
                subst z
                have := k3.keep a _ hacc (p1.notDr hD)
                rw [h3] at this; cases this
              have h1 : H1 a = none := k13.none_back p1 h3
              unfold hid
              rw [if_neg ha, ext_none h1]
              exact k5.keep a o e (p1.notDr h1)
            · rw [ext_some h3] at e
              exact grow H3 H5 k13 (k4.trans k5) a o e
        have hl := racc.len
        refine ⟨acc, hacc5, Nat.lt_of_lt_of_le (by omega) (size_le hlen), acc ++ [w], outs ++ [y], kU, upd_same, ?_, by rw [List.length_append, List.length_singleton]; omega, hy5⟩
        exact (RpL.mono up _ _ ((RpL.mono (grow H2 H5 k2 ((k3.trans k4).trans k5)) _ _ racc).append (.cons rw5 .nil)))
  · have ei : i = ds.length := by omega
    subst ei
    rw [List.drop_length] at hc2
    refine .inl ⟨itr.stop _ H2 sv (Nat.le_refl _), q _ _ H2 hc2 (k1.trans k2) ⟨D, rfl, k1.none_back p hD, acc, hacc, ?_⟩⟩
    rw [← hI1, p.ext_ext k1 k2] at racc
    exact racc
section
variable {xr : XR} {X : Cx} {W : WX} {elt tg iter : Expr} {ifs : List Expr} {scope : Scope} {own : List (Str × Nat)} {pos : Pos} {ii : II} {g : G} {ts : List Nat} {it : IT} {ie : IE}
def LTs (xr : XR) (X : Cx) (W : WX) (es : List Expr) (it : IT) : Prop := ∃ tt, PTs X es tt ∧ SndT X.K xr W tt it
theorem lts_nil : LTs xr X W [] bYes := ⟨_, pts_nil, fun dr env σ I H P E p ev hi o Q q => q true H hi Kp.refl⟩
theorem lts_one {c : Expr} (h : LT xr X W c it) : LTs xr X W [c] it := let ⟨_, p, s⟩ := h; ⟨_, pts_one p, s⟩
abbrev Blk (X : Cx) (scope : Scope) (P : Cx → Prop) : Prop := ∀ (s : Shared) (H : Hp) (C : Addr) (cl : List (Str × Addr)) (fp : List Addr), P (X.blk s H scope (compEnvC scope cl C X.env) fp)
theorem PE.uni {ι : Type} {F : ι → Cx} {e : Expr} {t : ι → TE} (h : ∀ c, PE (F c) e (t c)) (c : ι) : PE (F c) e (fun σ H Q => ∀ c, t c σ H Q) := ⟨fun pins s σ H Q I hq => (h c).run pins s σ H Q I (hq c)⟩
theorem blk_e {K : Fr} {ι : Type} {F : ι → Cx} {e : Expr} {ie : IE} (hK : ∀ c, (F c).K = K) (h : ∀ c, LE xr (F c) WF e ie) : ∃ te, (∀ c, PE (F c) e te) ∧ Snd K xr WF te ie := by
  have h' : ∀ c, ∃ te, PE (F c) e te ∧ Snd K xr WF te ie := fun c => by
    have z := h c
    unfold LE at z
    rw [hK c] at z
    exact z
  exact ⟨fun σ H Q => ∀ c, (h' c).choose σ H Q, fun c => PE.uni (fun c => (h' c).choose_spec.1) c, fun dr env σ I H P E p ev hi o Q q c => (h' c).choose_spec.2 dr env σ I H P E p ev hi o Q q⟩
theorem blk_t {K : Fr} {ι : Type} {F : ι → Cx} {ifs : List Expr} {it : IT} (hK : ∀ c, (F c).K = K) (h : ∀ c, LTs xr (F c) WF ifs it) : ∃ tt, (∀ c, PTs (F c) ifs tt) ∧ SndT K xr WF tt it := by
  have h' : ∀ c, ∃ te, PTs (F c) ifs te ∧ SndT K xr WF te it := fun c => by
    have z := h c
    unfold LTs at z
    rw [hK c] at z
    exact z
  exact ⟨fun σ H Q => ∀ c, (h' c).choose σ H Q, fun c => ⟨fun pins s σ H Q I hq => ((h' c).choose_spec.1).run pins s σ H Q I (hq c)⟩, fun dr env σ I H P E p ev hi o Q q c => (h' c).choose_spec.2 dr env σ I H P E p ev hi o Q q⟩
theorem blk_g {K : Fr} {ι : Type} {F : ι → Cx} {tg : Expr} {g : G} {ts : List Nat} (hK : ∀ c, (F c).K = K) (h : ∀ c, LG (F c) tg g ts) : ∃ t, (∀ c, PG (F c) tg t) ∧ SndG K t g ts := by
  have h' : ∀ c, ∃ te, PG (F c) tg te ∧ SndG K te g ts := fun c => by
    have z := h c
    unfold LG at z
    rw [hK c] at z
    exact z
  exact ⟨fun v σ H Q => ∀ c, (h' c).choose v σ H Q, fun c => ⟨fun pins s σ H v u Q I r hq => ((h' c).choose_spec.1).run pins s σ H v u Q I r (hq c)⟩, fun dr env σ I H v d P p ev r hi Q q c => (h' c).choose_spec.2 dr env σ I H v d P p ev r hi Q q⟩
theorem ln_comp (hc : X.calm = true) (hN : X.N.Nodup) (hi : LIO xr X W tg iter ii) (ok : BlkOk X.N X.env.scope scope own) (hts : ts = own.map (·.2))
    (hg : Blk X scope fun X' => LG X' tg g ts) (ht : Blk X scope fun X' => LTs xr X' WF ifs it) (he : Blk X scope fun X' => LE xr X' WF elt ie) (hs : ∀ x, foldedSetIterable iter X.env x = pure x := by intro _; rfl) :
    LN xr X W (.ListComp elt [⟨tg, iter, ifs, 0⟩] scope pos) (nComp ts ii g it ie) := by
  obtain ⟨wi, pi, si⟩ := hi
  subst hts
  obtain ⟨t, pg, sg⟩ := blk_g (ι := Shared × Hp × Addr × List (Str × Addr) × List Addr) (K := X.K) (F := fun c => X.blk c.1 c.2.1 scope (compEnvC scope c.2.2.2.1 c.2.2.1 X.env) c.2.2.2.2) (fun _ => rfl) fun c => hg c.1 c.2.1 c.2.2.1 c.2.2.2.1 c.2.2.2.2
  obtain ⟨tt, pt, st⟩ := blk_t (xr := xr) (ι := Shared × Hp × Addr × List (Str × Addr) × List Addr) (K := X.K) (F := fun c => X.blk c.1 c.2.1 scope (compEnvC scope c.2.2.2.1 c.2.2.1 X.env) c.2.2.2.2) (fun _ => rfl) fun c => ht c.1 c.2.1 c.2.2.1 c.2.2.2.1 c.2.2.2.2
  obtain ⟨te, pe, se⟩ := blk_e (xr := xr) (ι := Shared × Hp × Addr × List (Str × Addr) × List Addr) (K := X.K) (F := fun c => X.blk c.1 c.2.1 scope (compEnvC scope c.2.2.2.1 c.2.2.1 X.env) c.2.2.2.2) (fun _ => rfl) fun c => he c.1 c.2.1 c.2.2.1 c.2.2.2.1 c.2.2.2.2
  exact ⟨_, pe_lc hc hN pi ok (fun s H C cl fp => pg (s, H, C, cl, fp)) (fun s H C cl fp => pt (s, H, C, cl, fp)) (fun s H C cl fp => pe (s, H, C, cl, fp)) hs, sndN_comp si sg (fun _ h => h) st se⟩
end
end DL

set_option maxRecDepth 100000
/-! DL7: statements. -/
namespace DL
open PySem L2 PyProof.Rows

/-- what is wanted behind a statement, over plain data -/
structure Po where
  nx : List Sl → Prop
  rt : Dt → Prop
  bk : List Sl → Prop := fun _ => False
  ct : List Sl → Prop := fun _ => False
  ex : Xc → List Sl → Prop := fun _ _ => False
abbrev IS := List Sl → Po → Prop

/-- the state within a def: (J, B) as at its entry, Gh what a loop leans on, I what never changes -/
structure Stt (K : Fr) (dr : Dr) (J B Gh : Hp) (env : List Sl) (σ : L2.St) (I H : Hp) : Prop where
  sub : Same J I
  eq : ∀ a, B a ≠ none → I a = J a
  pre : Pre dr I H
  pre0 : Pre dr J B
  kp : Kp dr B H
  ev : EnvOk K dr env σ I H
  own : ∀ i d p, sl env i = .ow d → σ[i]? = some (some (.ref p)) → B p = none
  gh : Same Gh I
section
variable {K : Fr} {dr : Dr} {J B Gh I H H' : Hp} {env : List Sl} {σ : L2.St}
theorem Stt.step (s : Stt K dr J B Gh env σ I H) (k : Kp dr H H') : Stt K dr J B Gh env σ (ext I H H') H' where
  sub := s.sub.trans s.pre.ext_sub
  eq := fun a h => by
    rw [ext_some fun z => h (s.kp.none_back s.pre0 z)]
    exact s.eq a h
  pre := s.pre.step k
  pre0 := s.pre0
  kp := s.kp.trans k
  ev := s.ev.step k s.pre
  own := s.own
  gh := s.gh.trans s.pre.ext_sub
theorem Stt.hid (s : Stt K dr J B Gh env σ I H) (k : Kp dr H H') {p : Addr} (hp : H p = none) : Stt K dr J B Gh env σ (hid p (ext I H H')) H' := by
  have up : Same I (DL.hid p (ext I H H')) := fun a o e => by
    have ne : a ≠ p := fun y => by subst y; have := s.pre.sub _ _ e; rw [hp] at this; cases this
    unfold DL.hid
    rw [if_neg ne]
    exact s.pre.ext_sub a o e
  refine ⟨s.sub.trans up, fun a h => ?_, s.pre.hid k p, s.pre0, s.kp.trans k, s.ev.hid s.pre k hp, s.own, s.gh.trans up⟩
  have ha : H a ≠ none := fun z => h (s.kp.none_back s.pre0 z)
  have ne : a ≠ p := fun y => by subst y; exact ha hp
  unfold DL.hid
  rw [if_neg ne, ext_some ha]
  exact s.eq a h
/-- what comes out, as the caller sees it -/
theorem Stt.out (s : Stt K dr J B Gh env σ I H) : Same I (ext J B H) := fun a o e => by
  by_cases h : B a = none
  · rw [ext_none h]; exact s.pre.sub a o e
  · rw [ext_some h, ← s.eq a h]; exact e
theorem Stt.weak {Gh' : Hp} (s : Stt K dr J B Gh env σ I H) (h : Same Gh' Gh) : Stt K dr J B Gh' env σ I H := ⟨s.sub, s.eq, s.pre, s.pre0, s.kp, s.ev, s.own, h.trans s.gh⟩
theorem Stt.put {ts : List Nat} {env' : List Sl} {σ' : L2.St} (s : Stt K dr J B Gh env σ I H) (p : Put K dr ts env σ I H env' σ') : Stt K dr J B Gh env' σ' I H :=
  ⟨s.sub, s.eq, s.pre, s.pre0, s.kp, p.ok, fun i d q e1 e2 => let ⟨a, b⟩ := p.own i d q e1 e2; s.own i d q a b, s.gh⟩
/-- a value with its slot's word -/
def Vok (K : Fr) (dr : Dr) (B I H : Hp) (env : List Sl) (σ : L2.St) (v : V) : Sl → Prop
  | .im d => Rp K dr I v d
  | .ow d => ∃ p, v = .ref p ∧ I p = none ∧ ¬ IsDr dr p ∧ B p = none ∧ OwR K dr I H p d ∧ ∀ j e, sl env j = .ow e → σ[j]? ≠ some (some (.ref p))
  | _ => False
theorem Stt.set {i : Nat} {v : V} {s' : Sl} (s : Stt K dr J B Gh env σ I H) (h : Vok K dr B I H env σ v s') : Stt K dr J B Gh (DL.put env i s') (σ.set i (some v)) I H := by
  cases s' with
  | no => exact h.elim
  | ex _ _ _ => exact h.elim
  | im d =>
    have p := sndG_name (K := K) (i := i) dr env σ I H v d (fun e => e = DL.put env i (.im d)) s.pre s.ev h rfl (fun σ' _ => σ' = σ.set i (some v) → Stt K dr J B Gh (DL.put env i (.im d)) (σ.set i (some v)) I H) fun env' σ' e pu e2 => by
      subst e e2
      exact s.put pu
    exact p rfl
  | ow d =>
    obtain ⟨p, rfl, h1, h2, h0, h3, h4⟩ := h
    refine ⟨s.sub, s.eq, s.pre, s.pre0, s.kp, s.ev.put_ow h1 h2 h3 fun j e a b => absurd b (h4 j e a), fun j d' q e1 e2 => ?_, s.gh⟩
    rw [sl_put] at e1
    rw [List.getElem?_set] at e2
    by_cases hij : i = j
    · by_cases hl : j < σ.length
      · rw [if_pos hij, if_pos (by rw [hij]; exact hl)] at e2
        have : p = q := by simpa using e2
        rw [← this]; exact h0
      · rw [if_pos hij, if_neg (by rw [hij]; exact hl)] at e2; cases e2
    · rw [if_neg (fun z => hij z.1)] at e1
      rw [if_neg hij] at e2
      exact s.own j d' q e1 e2
end

/-- a value that is put: clean, or new -/
abbrev IX := List Sl → (Sl → Prop) → (Xc → Prop) → Prop
def SndX (K : Fr) (xr : XR) (W : WX) (te : TE) (ix : IX) : Prop := ∀ dr J B Gh env σ I H P E, Stt K dr J B Gh env σ I H → ix env P E → OutE xr W dr σ H E → ∀ Q : VK, (∀ s v I' H', P s → Kp dr H H' → Same I I' → (∀ a, H a ≠ none → I' a = I a) → Stt K dr J B Gh env σ I' H' → Vok K dr B I' H' env σ v s → (∀ p, v = .ref p → (∃ d, s = .ow d) → H p = none) → Q v H') → te σ H Q
def xE (ie : IE) : IX := fun env P E => ie env (fun d => P (.im d)) E
def xN (ie : IE) : IX := fun env P E => ie env (fun d => P (.ow d)) E
section
variable {K : Fr} {xr : XR} {W : WX} {te ta tb : TE} {ie : IE} {ix iy : IX}
theorem Snd.X (h : Snd K xr W te ie) : SndX K xr W te (xE ie) := fun dr J B Gh env σ I H P E s hi o Q q =>
  h dr env σ I H _ E s.pre s.ev hi o Q fun d v H' hP k r => q _ v _ H' hP k s.pre.ext_sub (fun a h => ext_some h) (s.step k) r fun p _ z => nomatch z
theorem SndN.X (h : SndN K xr W te ie) : SndX K xr W te (xN ie) := fun dr J B Gh env σ I H P E s hi o Q q =>
  h dr env σ I H _ E s.pre s.ev hi o Q fun d v H' hP k r => by
    obtain ⟨p, rfl, hp, r⟩ := r
    have up : Same I (DL.hid p (ext I H H')) := fun a o e => by
      have ne : a ≠ p := fun y => by subst y; have := s.pre.sub _ _ e; rw [hp] at this; cases this
      unfold DL.hid
      rw [if_neg ne]
      exact s.pre.ext_sub a o e
    refine q _ _ _ H' hP k up (fun a h => ?_) (s.hid k hp) ⟨p, rfl, ?_, s.pre.notDr hp, s.kp.none_back s.pre0 hp, r, fun j e a b => ?_⟩ fun p' e _ => by cases e; exact hp
    · have ne : a ≠ p := fun y => by subst y; exact h hp
      unfold DL.hid
      rw [if_neg ne, ext_some h]
    · unfold DL.hid
      rw [if_pos rfl]
    · obtain ⟨p', e1, _, _, h3⟩ := s.ev.ow a
      rw [b] at e1
      cases e1
      obtain ⟨_, e2⟩ := h3.some_
      rw [hp] at e2; cases e2
/-- behind a second value the first one's word stands -/
theorem Vok.stay {dr : Dr} {B I H I' H' : Hp} {env : List Sl} {σ : L2.St} {v : V} {s : Sl} (h : Vok K dr B I H env σ v s) (k : Kp dr H H') (sub : Same I I') (eq : ∀ a, H a ≠ none → I' a = I a) : Vok K dr B I' H' env σ v s := by
  cases s with
  | no => exact h.elim
  | ex _ _ _ => exact h.elim
  | im d => exact Rp.mono sub _ _ h
  | ow d =>
    obtain ⟨p, rfl, h1, h2, h0, h3, h4⟩ := h
    obtain ⟨o, e⟩ := h3.some_
    refine ⟨p, rfl, ?_, h2, h0, h3.mono sub ((k.keep p o e h2).trans e.symm), h4⟩
    rw [eq p (by rw [e]; simp)]
    exact h1
end

/-! ### what a statement's reading keeps to -/
structure OutS (K : Fr) (xr : XR) (W : WX) (dr : Dr) (J B Gh : Hp) (Pp : Po) (D : Ends) : Prop where
  nx : ∀ env σ I H, Pp.nx env → Stt K dr J B Gh env σ I H → D.nx σ H
  bk : ∀ env σ I H, Pp.bk env → Stt K dr J B Gh env σ I H → D.bk σ H
  ct : ∀ env σ I H, Pp.ct env → Stt K dr J B Gh env σ I H → D.ct σ H
  rt : ∀ d v H, Pp.rt d → Kp dr B H → Rp K dr (ext J B H) v d → D.rt v H
  ex : ∀ x c a env σ I H, Pp.ex x env → Stt K dr J B Gh env σ I H → xr x c a H → W c a σ H
def SndS (K : Fr) (xr : XR) (W : WX) (t : TS) (is : IS) : Prop := ∀ dr J B Gh env σ I H Pp D, Stt K dr J B Gh env σ I H → is env Pp → OutS K xr W dr J B Gh Pp D → t D σ H
section
variable {K : Fr} {xr : XR} {W : WX} {te ta tb ti : TE} {ie ia ib : IE} {ix iy : IX} {tc : TT} {it : IT} {t u : TS} {is iu : IS}
theorem OutS.e {dr : Dr} {J B Gh : Hp} {Pp : Po} {D : Ends} {env : List Sl} {σ : L2.St} {I H : Hp} (o : OutS K xr W dr J B Gh Pp D) (s : Stt K dr J B Gh env σ I H) : OutE xr W dr σ H (fun x => Pp.ex x env) := fun x c a H' h k r => o.ex x c a env σ _ H' h (s.step k) r
def sNext : IS := fun env Pp => Pp.nx env
def sBreak : IS := fun env Pp => Pp.bk env
def sCont : IS := fun env Pp => Pp.ct env
def sSeq (is iu : IS) : IS := fun env Pp => is env { Pp with nx := fun env' => iu env' Pp }
def sRet (ie : IE) : IS := fun env Pp => ie env Pp.rt (fun x => Pp.ex x env)
def sRetN : IS := fun _ Pp => Pp.rt .non
def sDrop (ie : IE) : IS := fun env Pp => ie env (fun _ => Pp.nx env) (fun x => Pp.ex x env)
def sIf (it : IT) (is iu : IS) : IS := fun env Pp => it env (fun b => if b = true then is env Pp else iu env Pp) (fun x => Pp.ex x env)
def sSet (i : Nat) (ix : IX) : IS := fun env Pp => ix env (fun s => Pp.nx (put env i s)) (fun x => Pp.ex x env)
def sPar (i j : Nat) (ix iy : IX) : IS := fun env Pp => ix env (fun s => iy env (fun s' => Pp.nx (put (put env i s) j s')) (fun x => Pp.ex x env)) (fun x => Pp.ex x env)
def sNever : IS := fun _ _ => False
/-- an owned object is owned no longer -/
def frz (env : List Sl) (i : Nat) : List Sl := match sl env i with
  | .ow d => put env i (.im d)
  | _ => env
def sFrz (i : Nat) (is : IS) : IS := fun env Pp => is (frz env i) Pp
theorem sndS_next : SndS K xr W tNext sNext := fun dr J B Gh env σ I H Pp D s h o => o.nx _ _ _ _ h s
theorem sndS_break : SndS K xr W tBreak sBreak := fun dr J B Gh env σ I H Pp D s h o => o.bk _ _ _ _ h s
theorem sndS_cont : SndS K xr W tCont sCont := fun dr J B Gh env σ I H Pp D s h o => o.ct _ _ _ _ h s
theorem sndS_never : SndS K xr W tNever sNever := fun dr J B Gh env σ I H Pp D s h o => h.elim
theorem sndS_seq (h1 : SndS K xr W t is) (h2 : SndS K xr W u iu) : SndS K xr W (tSeq t u) (sSeq is iu) := fun dr J B Gh env σ I H Pp D s h o =>
  h1 dr J B Gh env σ I H _ { D with nx := u D } s h ⟨fun env' σ' I' H' hn s' => h2 dr J B Gh env' σ' I' H' Pp D s' hn o, o.bk, o.ct, o.rt, o.ex⟩
theorem sndS_ret (h : Snd K xr W te ie) : SndS K xr W (tRet te) (sRet ie) := fun dr J B Gh env σ I H Pp D s hi o =>
  h dr env σ I H _ _ s.pre s.ev hi (o.e s) _ fun d v H' hP k r => o.rt d v H' hP (s.kp.trans k) (r.mono (s.step k).out)
theorem sndS_retN : SndS K xr W tRetN sRetN := fun dr J B Gh env σ I H Pp D s hi o => o.rt .non .non H hi s.kp .non
theorem sndS_drop (h : Snd K xr W te ie) : SndS K xr W (tDrop te) (sDrop ie) := fun dr J B Gh env σ I H Pp D s hi o =>
  h dr env σ I H _ _ s.pre s.ev hi (o.e s) _ fun d v H' hP k r => o.nx _ _ _ _ hP (s.step k)
theorem sndS_if (hc : SndT K xr W tc it) (h1 : SndS K xr W t is) (h2 : SndS K xr W u iu) : SndS K xr W (tIfS tc t u) (sIf it is iu) := fun dr J B Gh env σ I H Pp D s hi o =>
  hc dr env σ I H _ _ s.pre s.ev hi (o.e s) _ fun b H' hb k => by
    cases b with
    | true => exact h1 dr J B Gh env σ _ H' Pp D (s.step k) hb o
    | false => exact h2 dr J B Gh env σ _ H' Pp D (s.step k) hb o
theorem sndS_set {i : Nat} (h : SndX K xr W te ix) : SndS K xr W (tAsg te (gName i)) (sSet i ix) := fun dr J B Gh env σ I H Pp D s hi o =>
  h dr J B Gh env σ I H _ _ s hi (o.e s) _ fun s' v I' H' hP _ _ _ st vo _ => o.nx _ _ _ _ hP (st.set vo)
theorem sndS_par {i j : Nat} (ha : SndX K xr W ta ix) (hb : SndX K xr W tb iy) : SndS K xr W (tPar i j (tCons ta (tCons tb tNil))) (sPar i j ix iy) := fun dr J B Gh env σ I H Pp D s hi o =>
  ha dr J B Gh env σ I H _ _ s hi (o.e s) _ fun s1 v1 I1 H1 h1 k1 _ _ st1 vo1 nw1 =>
    hb dr J B Gh env σ I1 H1 _ _ st1 h1 (o.e st1) _ fun s2 v2 I2 H2 h2 k2 sub2 eq2 st2 vo2 nw2 => by
      refine ⟨v1, v2, rfl, o.nx _ _ I2 H2 h2 ?_⟩
      have st := st2.set (i := i) (vo1.stay k2 sub2 eq2)
      refine st.set (i := j) ?_
      cases s2 with
      | no => exact vo2.elim
      | ex _ _ _ => exact vo2.elim
      | im d => exact vo2
      | ow d =>
        obtain ⟨p, rfl, a1, a2, a0, a3, a4⟩ := vo2
        refine ⟨p, rfl, a1, a2, a0, a3, fun k e b1 b2 => ?_⟩
        rw [sl_put] at b1
        rw [List.getElem?_set] at b2
        by_cases hik : i = k
        · by_cases hl : i < σ.length
          · rw [if_pos hik, if_pos hl] at b2
            have e1 : v1 = .ref p := by simpa using b2
            have hp := nw2 p rfl ⟨d, rfl⟩
            rw [hik.symm] at b1
            rw [← st2.ev.len] at b1
            rw [if_pos ⟨rfl, hl⟩] at b1
            subst b1
            obtain ⟨p', e2, _, _, _, c3, _⟩ := vo1
            rw [e1] at e2
            cases e2
            obtain ⟨_, e3⟩ := c3.some_
            rw [hp] at e3; cases e3
          · rw [if_pos hik, if_neg hl] at b2; cases b2
        · rw [if_neg (fun z => hik z.1)] at b1
          rw [if_neg hik] at b2
          exact a4 k e b1 b2
theorem Stt.frz {dr : Dr} {J B Gh : Hp} {env : List Sl} {σ : L2.St} {I H : Hp} (s : Stt K dr J B Gh env σ I H) (i : Nat) : ∃ I', Stt K dr J B Gh (frz env i) σ I' H := by
  unfold DL.frz
  split
  · rename_i d e
    obtain ⟨p, e1, h1, h2, h3⟩ := s.ev.ow e
    obtain ⟨o, e2⟩ := h3.some_
    have up : Same I (upd I p o) := fun a u z => by rw [upd_ne (ne_of_none z h1)]; exact z
    have hp : B p = none := s.own i d p e e1
    refine ⟨upd I p o, ⟨s.sub.trans up, fun a ha => ?_, s.pre.take e2 h2, s.pre0, s.kp, ?_, fun j d' q a b => ?_, s.gh.trans up⟩⟩
    · rw [upd_ne (fun (z : a = p) => ha (by rw [z]; exact hp))]
      exact s.eq a ha
    · have li : i < env.length := sl_lt (by rw [e]; simp)
      refine ⟨by rw [put_length]; exact s.ev.len, fun j hj => ?_, fun j k d' e' q a1 a2 a3 a4 => ?_⟩
      · rw [put_length] at hj
        rw [sl_put]
        by_cases hij : i = j
        · rw [if_pos ⟨hij, hj⟩, ← hij, e1]
          exact ⟨_, rfl, h3.rp up (by rw [upd_same]; exact e2.symm)⟩
        · rw [if_neg (fun z => hij z.1)]
          have q := s.ev.at_ j hj
          revert q
          cases hs : sl env j with
          | no => intro _; trivial
          | ex a dd wd => exact fun h => h
          | im d' => rintro ⟨v, ev, r⟩; exact ⟨v, ev, r.mono up⟩
          | ow d' =>
            rintro ⟨q, ev, b1, b2, b3⟩
            have ne : q ≠ p := fun z => by
              subst z
              exact hij (s.ev.sep i j d d' q e hs e1 (join_some ev))
            exact ⟨q, ev, by rw [upd_ne ne]; exact b1, b2, b3.mono up rfl⟩
      · rw [sl_put] at a1 a2
        by_cases hj : i = j ∧ j < env.length
        · rw [if_pos hj] at a1; cases a1
        · by_cases hk : i = k ∧ k < env.length
          · rw [if_pos hk] at a2; cases a2
          · rw [if_neg hj] at a1
            rw [if_neg hk] at a2
            exact s.ev.sep j k d' e' q a1 a2 a3 a4
    · rw [sl_put] at a
      by_cases hj : i = j ∧ j < env.length
      · rw [if_pos hj] at a; cases a
      · rw [if_neg hj] at a
        exact s.own j d' q a b
  · exact ⟨I, s⟩
theorem sndS_frz {i : Nat} (h : SndS K xr W t is) : SndS K xr W t (sFrz i is) := fun dr J B Gh env σ I H Pp D s hi o =>
  let ⟨I', s'⟩ := s.frz i; h dr J B Gh _ σ I' H Pp D s' hi o

/-! ### owned objects changed -/
theorem Stt.write {dr : Dr} {J B Gh : Hp} {env : List Sl} {σ : L2.St} {I H : Hp} {i : Nat} {d d' : Dt} {p : Addr} {o : HO} (s : Stt K dr J B Gh env σ I H) (e : sl env i = .ow d) (e1 : σ[i]? = some (some (.ref p))) (h : OwR K dr I (upd H p o) p d') : Stt K dr J B Gh (DL.put env i (.ow d')) σ I (upd H p o) := by
  obtain ⟨p', e1', h1, h2, h3⟩ := s.ev.ow e
  rw [e1] at e1'
  cases e1'
  have hp : B p = none := s.own i d p e e1
  have li : i < env.length := sl_lt (by rw [e]; simp)
  have n1 : ∀ q, dr = some q → q.1 ≠ p ∧ q.2 ≠ p := fun q eq => ⟨fun z => h2 ⟨q, eq, .inl z.symm⟩, fun z => h2 ⟨q, eq, .inr z.symm⟩⟩
  have dro : ∀ q, dr = some q → DrOk q H → DrOk q (upd H p o) := fun q eq ⟨x, cs, a1, a2, a3⟩ => ⟨x, cs, by rw [upd_ne (n1 q eq).1]; exact a1, by rw [upd_ne (n1 q eq).2]; exact a2, a3⟩
  refine ⟨s.sub, s.eq, ⟨fun a u z => ?_, fun q eq => dro q eq (s.pre.dro q eq), s.pre.nI⟩, s.pre0, ⟨fun a u z n => ?_, fun q eq z => dro q eq (s.kp.dro q eq z)⟩, ⟨by rw [put_length]; exact s.ev.len, fun j hj => ?_, fun j k d1 d2 q a1 a2 a3 a4 => ?_⟩, fun j d1 q a b => ?_, s.gh⟩
  · rw [upd_ne (ne_of_none z h1)]; exact s.pre.sub a u z
  · rw [upd_ne (ne_of_none z hp)]; exact s.kp.keep a u z n
  · rw [put_length] at hj
    rw [sl_put]
    by_cases hij : i = j
    · rw [if_pos ⟨hij, hj⟩, ← hij, e1]
      exact ⟨p, rfl, h1, h2, h⟩
    · rw [if_neg (fun z => hij z.1)]
      have q := s.ev.at_ j hj
      revert q
      cases hs : sl env j with
      | no => intro _; trivial
      | ex a dd wd => exact fun h5 => ⟨h5.1, h5.2.1, by rw [upd_ne (fun z => h3.notXd (z ▸ h5.2.2))]; exact h5.2.2⟩
      | im d' => rintro ⟨v, ev, r⟩; exact ⟨v, ev, r⟩
      | ow d1 =>
        rintro ⟨q, ev, b1, b2, b3⟩
        have ne : q ≠ p := fun z => by
          subst z
          exact hij (s.ev.sep i j d d1 q e hs e1 (join_some ev))
        exact ⟨q, ev, b1, b2, b3.mono (Same.refl _) (upd_ne ne)⟩
  · rw [sl_put] at a1 a2
    by_cases hj : i = j ∧ j < env.length
    · by_cases hk : i = k ∧ k < env.length
      · exact hj.1.symm.trans hk.1
      · rw [if_neg hk] at a2
        have z := s.ev.sep i k d d2 q e a2 (by rw [hj.1]; exact a3) a4
        exact hj.1.symm.trans z
    · rw [if_neg hj] at a1
      by_cases hk : i = k ∧ k < env.length
      · exact (s.ev.sep j i d1 d q a1 e a3 (by rw [hk.1]; exact a4)).trans hk.1
      · rw [if_neg hk] at a2
        exact s.ev.sep j k d1 d2 q a1 a2 a3 a4
  · rw [sl_put] at a
    by_cases hj : i = j ∧ j < env.length
    · rw [← hj.1, e1] at b
      have : p = q := by simpa using b
      rw [← this]; exact hp
    · rw [if_neg hj] at a
      exact s.own j d1 q a b
def owL (env : List Sl) (i : Nat) (P : List Dt → Prop) : Prop := match sl env i with
  | .ow (.lst xs) => P xs
  | _ => False
theorem owL_of {env : List Sl} {i : Nat} {P : List Dt → Prop} (h : owL env i P) : ∃ xs, sl env i = .ow (.lst xs) ∧ P xs := by
  unfold owL at h
  split at h
  · exact ⟨_, by assumption, h⟩
  · exact h.elim
/-- x.append(e) -/
def sApp (i : Nat) (ie : IE) : IS := fun env Pp => owL env i fun xs => xs.length < 16777216 ∧ ie env (fun d => Pp.nx (put env i (.ow (.lst (xs ++ [d]))))) (fun x => Pp.ex x env)
theorem lt_line {n : Nat} (h : n < 16777216) : n < sizeLine := by rw [sizeLine_eq]; exact h
theorem Stt.owLst {dr : Dr} {J B Gh : Hp} {env : List Sl} {σ : L2.St} {I H : Hp} {i : Nat} {xs : List Dt} (s : Stt K dr J B Gh env σ I H) (e : sl env i = .ow (.lst xs)) : ∃ p vs, σ[i]? = some (some (.ref p)) ∧ H p = some (.lst vs) ∧ ¬ IsDr dr p ∧ RpL K dr I vs xs :=
  let ⟨p, e1, _, h2, vs, h3, r⟩ := s.ev.ow e; ⟨p, vs, e1, h3, h2, r⟩
theorem sndS_app {i : Nat} (h : Snd K xr W te ie) : SndS K xr W (tDrop (tBM K "list" rAppend (tVar i) (tCons te tNil))) (sApp i ie) := fun dr J B Gh env σ I H Pp D s hi o => by
  obtain ⟨xs, e, hl, hi⟩ := owL_of hi
  obtain ⟨p, vs, e1, h1, hd, r⟩ := s.owLst e
  refine ⟨_, e1, .inl ⟨rfl, _, SqL.of h1⟩, ?_⟩
  refine h dr env σ I H _ _ s.pre s.ev hi (o.e s) _ fun d v H' hP k rv => ?_
  refine ⟨p, vs, v, rfl, rfl, k.keep p _ h1 hd, lt_line (by rw [r.len]; exact hl), o.nx _ _ _ _ hP ((s.step k).write e e1 ⟨vs ++ [v], upd_same, (RpL.mono s.pre.ext_sub _ _ r).append (.cons rv .nil)⟩)⟩
/-- x.extend(e) -/
def sExt (i : Nat) (ie : IE) : IS := fun env Pp => owL env i fun xs => ie env (fun d => match d with
  | .lst ys => xs.length + ys.length ≤ 16777216 ∧ Pp.nx (put env i (.ow (.lst (xs ++ ys))))
  | _ => False) (fun x => Pp.ex x env)
theorem sndS_ext {i : Nat} (h : Snd K xr W te ie) : SndS K xr W (tDrop (tBM K "list" rExtend (tVar i) (tCons te tNil))) (sExt i ie) := fun dr J B Gh env σ I H Pp D s hi o => by
  obtain ⟨xs, e, hi⟩ := owL_of hi
  obtain ⟨p, vs, e1, h1, hd, r⟩ := s.owLst e
  refine ⟨_, e1, .inl ⟨rfl, _, SqL.of h1⟩, ?_⟩
  refine h dr env σ I H _ _ s.pre s.ev hi (o.e s) _ fun d v H' hP k rv => ?_
  split at hP
  · cases rv with
    | lst e2 r2 =>
      refine ⟨p, _, vs, _, rfl, rfl, k.keep p _ h1 hd, (s.step k).pre.sub _ _ e2, size_le (by rw [r.len, r2.len]; exact hP.1), o.nx _ _ _ _ hP.2 ((s.step k).write e e1 ⟨_, upd_same, (RpL.mono s.pre.ext_sub _ _ r).append r2⟩)⟩
  · exact hP.elim
/-- x = l.pop(e), x = l.pop() -/
def popD (xs : List Dt) (P : Dt → List Dt → Prop) : Dt → Prop
  | .int k => (-(2 ^ 63) ≤ k ∧ k < 2 ^ 63) ∧ ∃ j d, ixN xs.length k = some j ∧ xs[j]? = some d ∧ P d (xs.eraseIdx j)
  | _ => False
def sPopAt (x i : Nat) (ie : IE) : IS := fun env Pp => owL env i fun xs => ie env (fun k => popD xs (fun d ys => Pp.nx (put (put env i (.ow (.lst ys))) x (.im d))) k) (fun x => Pp.ex x env)
theorem sndS_popAt {x i : Nat} (h : Snd K xr W te ie) : SndS K xr W (tAsg (tBM K "list" rPopAt (tVar i) (tCons te tNil)) (gName x)) (sPopAt x i ie) := fun dr J B Gh env σ I H Pp D s hi o => by
  obtain ⟨xs, e, hi⟩ := owL_of hi
  obtain ⟨p, vs, e1, h1, hd, r⟩ := s.owLst e
  refine ⟨_, e1, .inl ⟨rfl, _, SqL.of h1⟩, ?_⟩
  refine h dr env σ I H _ _ s.pre s.ev hi (o.e s) _ fun d v H' hP k rv => ?_
  unfold popD at hP
  split at hP
  · cases rv
    obtain ⟨⟨a1, a2⟩, j, d, hj, hdj, hP⟩ := hP
    obtain ⟨w, hw, rw'⟩ := r.get hdj
    have st := (s.step k).write e e1 (d' := .lst (xs.eraseIdx j)) (o := .lst (vs.eraseIdx j)) ⟨_, upd_same, (RpL.mono s.pre.ext_sub _ _ r).eraseIdx j⟩
    exact ⟨p, vs, _, j, w, rfl, rfl, k.keep p _ h1 hd, a1, a2, by rw [r.len]; exact (ixN_seq hj).1, hw, o.nx _ _ _ _ hP (st.set (s' := .im d) (rw'.mono s.pre.ext_sub))⟩
  · exact hP.elim
/-- x[e] = v -/
def setD (xs : List Dt) (d : Dt) (P : List Dt → Prop) : Dt → Prop
  | .int k => ∃ j, ixN xs.length k = some j ∧ P (xs.set j d)
  | _ => False
def sSetAt (i : Nat) (ib : IE) (ie : IE) : IS := fun env Pp => ie env (fun d => owL env i fun xs => ib env (fun k => setD xs d (fun ys => Pp.nx (put env i (.ow (.lst ys)))) k) (fun x => Pp.ex x env)) (fun x => Pp.ex x env)
theorem sndS_setAt {i : Nat} (hb : Snd K xr W ti ib) (h : Snd K xr W te ie) : SndS K xr W (tAsg te (gSub (tVar i) ti rSetL)) (sSetAt i ib ie) := fun dr J B Gh env σ I H Pp D s hi o => by
  refine h dr env σ I H _ _ s.pre s.ev hi (o.e s) _ fun d v H1 hP k1 rv => ?_
  obtain ⟨xs, e, hi⟩ := owL_of hP
  have s1 := s.step k1
  obtain ⟨p, vs, e1, h1, hd, r⟩ := s1.owLst e
  refine ⟨_, e1, ?_⟩
  refine hb dr env σ _ H1 _ _ s1.pre s1.ev hi (o.e s1) _ fun kk w H2 hP2 k2 rw' => ?_
  unfold setD at hP2
  split at hP2
  · cases rw'
    obtain ⟨j, hj, hP2⟩ := hP2
    refine ⟨p, vs, _, j, rfl, rfl, k2.keep p _ h1 hd, by rw [r.len]; exact hj, o.nx _ _ _ _ hP2 ((s1.step k2).write e e1 ⟨_, upd_same, RpL.set (rv.mono s1.pre.ext_sub) j (RpL.mono s1.pre.ext_sub _ _ r)⟩)⟩
  · exact hP2.elim
/-- x += e of whole numbers -/
def sAug (i : Nat) (f : Int → Int → Int) (ie : IE) : IS := fun env Pp => match sl env i with
  | .im (.int a) => ie env (fun d => asI d fun b => Pp.nx (put env i (.im (.int (f a b))))) (fun x => Pp.ex x env)
  | _ => False
theorem sndS_aug {i : Nat} {f : Int → Int → Int} (h : Snd K xr W te ie) : SndS K xr W (tAug i te (ipI f)) (sAug i f ie) := fun dr J B Gh env σ I H Pp D s hi o => by
  unfold sAug at hi
  split at hi
  · rename_i a e
    obtain ⟨v, e1, r⟩ := s.ev.im e
    cases r
    refine ⟨_, e1, h dr env σ I H _ _ s.pre s.ev hi (o.e s) _ fun d v H' hP k rv => ?_⟩
    obtain ⟨b, rfl, hb⟩ := isInt rv hP
    exact ⟨a, b, rfl, rfl, o.nx _ _ _ _ hb ((s.step k).set (s' := .im (.int (f a b))) (.int _))⟩
  · exact hi.elim

/-! ### targets of any form -/
abbrev IG := Dt → IS
def SndTG (K : Fr) (xr : XR) (W : WX) (tg : TG) (ig : IG) : Prop := ∀ dr J B Gh env σ I H Pp D v d, Stt K dr J B Gh env σ I H → Rp K dr I v d → ig d env Pp → OutS K xr W dr J B Gh Pp D → tg v σ H D.nx
def SndTGs (K : Fr) (xr : XR) (W : WX) (tg : TGs) (ig : List Dt → IS) : Prop := ∀ dr J B Gh env σ I H Pp D vs ds, Stt K dr J B Gh env σ I H → RpL K dr I vs ds → ig ds env Pp → OutS K xr W dr J B Gh Pp D → tg vs σ H D.nx
def tgN (i : Nat) : IG := fun d env Pp => Pp.nx (put env i (.im d))
def tgSub (i : Nat) (ib : IE) : IG := fun d env Pp => owL env i fun xs => ib env (fun k => setD xs d (fun ys => Pp.nx (put env i (.ow (.lst ys)))) k) (fun x => Pp.ex x env)
def tgsNil : List Dt → IS
  | [], env, Pp => Pp.nx env
  | _, _, _ => False
def tgsCons (ig : IG) (igs : List Dt → IS) : List Dt → IS
  | d :: ds, env, Pp => ig d env { Pp with nx := fun env' => igs ds env' Pp }
  | _, _, _ => False
def tgT (n : Nat) (igs : List Dt → IS) : IG
  | .tup ds, env, Pp => ds.length = n ∧ igs ds env Pp
  | _, _, _ => False
section
set_option autoImplicit true
@[simp] theorem tgT_r1 (n : Nat) (igs : List Dt → IS) : tgT n igs (.tup ds) env Pp = (ds.length = n ∧ igs ds env Pp) := id rfl
end
def sAsg (ie : IE) (ig : IG) : IS := fun env Pp => ie env (fun d => ig d env Pp) (fun x => Pp.ex x env)
theorem sndTG_name {i : Nat} : SndTG K xr W (gName i) (tgN i) := fun dr J B Gh env σ I H Pp D v d s r h o => o.nx _ _ _ _ h (s.set (s' := .im d) r)
theorem sndTG_sub {i : Nat} (hb : Snd K xr W ti ib) : SndTG K xr W (gSub (tVar i) ti rSetL) (tgSub i ib) := fun dr J B Gh env σ I H Pp D v d s rv h o => by
  obtain ⟨xs, e, hi⟩ := owL_of h
  obtain ⟨p, vs, e1, h1, hd, r⟩ := s.owLst e
  refine ⟨_, e1, ?_⟩
  refine hb dr env σ _ H _ _ s.pre s.ev hi (o.e s) _ fun kk w H2 hP2 k2 rw' => ?_
  unfold setD at hP2
  split at hP2
  · cases rw'
    obtain ⟨j, hj, hP2⟩ := hP2
    refine ⟨p, vs, _, j, rfl, rfl, k2.keep p _ h1 hd, by rw [r.len]; exact hj, o.nx _ _ _ _ hP2 ((s.step k2).write e e1 ⟨_, upd_same, RpL.set (rv.mono s.pre.ext_sub) j (RpL.mono s.pre.ext_sub _ _ r)⟩)⟩
  · exact hP2.elim
theorem sndTGs_nil : SndTGs K xr W gNil tgsNil := fun dr J B Gh env σ I H Pp D vs ds s r h o => by
  cases r with
  | nil => exact ⟨rfl, o.nx _ _ _ _ h s⟩
  | cons _ _ => exact h.elim
theorem OutS.nxt {dr : Dr} {J B Gh Gh' : Hp} {Pp : Po} {D : Ends} {n : List Sl → Prop} {N : L2.St → Hp → Prop} (o : OutS K xr W dr J B Gh Pp D) (hg : Same Gh Gh') (h : ∀ env σ I H, n env → Stt K dr J B Gh' env σ I H → N σ H) : OutS K xr W dr J B Gh' { Pp with nx := n } { D with nx := N } :=
  ⟨h, fun env σ I H z s => o.bk env σ I H z (s.weak hg), fun env σ I H z s => o.ct env σ I H z (s.weak hg), o.rt, fun x c a env σ I H z s r => o.ex x c a env σ I H z (s.weak hg) r⟩
theorem sndTGs_cons {tg : TG} {tgs : TGs} {ig : IG} {igs : List Dt → IS} (h1 : SndTG K xr W tg ig) (h2 : SndTGs K xr W tgs igs) : SndTGs K xr W (gCons tg tgs) (tgsCons ig igs) := fun dr J B Gh env σ I H Pp D vs ds s r h o => by
  cases r with
  | nil => exact h.elim
  | cons r1 r2 =>
    have s' : Stt K dr J B I env σ I H := ⟨s.sub, s.eq, s.pre, s.pre0, s.kp, s.ev, s.own, Same.refl _⟩
    exact ⟨_, _, rfl, h1 dr J B I env σ I H _ { D with nx := fun σ' H' => tgs _ σ' H' D.nx } _ _ s' r1 h (o.nxt s.gh fun env' σ' I' H' hn s2 => h2 dr J B Gh env' σ' I' H' Pp D _ _ (s2.weak s.gh) (RpL.mono s2.gh _ _ r2) hn o)⟩
theorem sndTG_tup {n : Nat} {tgs : TGs} {igs : List Dt → IS} (h : SndTGs K xr W tgs igs) : SndTG K xr W (gTup K n tgs) (tgT n igs) := fun dr J B Gh env σ I H Pp D v d s r hi o => by
  cases r with
  | tup e r => exact ⟨_, _, rfl, same_seqT s.pre.sub e, by rw [r.len]; exact hi.1, h dr J B Gh env σ I H Pp D _ _ s r hi.2 o⟩
  | _ => exact hi.elim
theorem sndS_asg {tg : TG} {ig : IG} (h : Snd K xr W te ie) (hg : SndTG K xr W tg ig) : SndS K xr W (tAsg te tg) (sAsg ie ig) := fun dr J B Gh env σ I H Pp D s hi o =>
  h dr env σ I H _ _ s.pre s.ev hi (o.e s) _ fun d v H' hP k rv => hg dr J B Gh env σ _ H' Pp D v d (s.step k) rv hP o

/-! ### loops -/
def forD (g : G) (body : IS) (Pp : Po) : List Dt → List Sl → Prop
  | [], env => Pp.nx env
  | d :: ds, env => g d env fun env1 => body env1 { Pp with nx := forD g body Pp ds, ct := forD g body Pp ds, bk := Pp.nx }
def sFor (ii : II) (g : G) (body : IS) : IS := fun env Pp => ii env (fun ds => forD g body Pp ds env) (fun x => Pp.ex x env)
theorem sndS_for {wi : TI} {tg : TG} {ii : II} {g : G} {ts : List Nat} {body : IS} (hi : SndI K xr W wi ii) (hg : SndG K tg g ts) (hb : SndS K xr W t body) : SndS K xr W (tFor wi tg t) (sFor ii g body) := fun dr J B Gh env σ I H Pp D s h o => by
  refine hi dr env σ I H _ _ s.pre s.ev h (o.e s) _ fun ds Jt H1 hd k1 itr => ?_
  have s1 := s.step k1
  generalize ext I H H1 = Iv at s1 itr
  have s1' : Stt K dr J B Iv env σ Iv H1 := ⟨s1.sub, s1.eq, s1.pre, s1.pre0, s1.kp, s1.ev, s1.own, Same.refl _⟩
  refine ⟨fun i m σ' H' => m = ds.length - i ∧ i ≤ ds.length ∧ ∃ env' I', Stt K dr J B Iv env' σ' I' H' ∧ forD g body Pp (ds.drop i) env', ⟨ds.length, by simp, Nat.zero_le _, env, Iv, s1', hd⟩, ?_⟩
  rintro i m σ' H' ⟨rfl, hi', env', I', s', hf⟩
  have sv : Same Iv H' := s'.gh.trans s'.pre.sub
  by_cases hlt : i < ds.length
  · refine .inr ⟨itr.go i H' sv hlt, fun σ2 H2 => ∃ env' I', Stt K dr J B Iv env' σ2 I' H2 ∧ forD g body Pp (ds.drop (i + 1)) env', fun σ2 H2 h2 => ⟨ds.length - (i + 1), by omega, rfl, hlt, h2⟩, fun x H2 hy => ?_⟩
    obtain ⟨s3, rx⟩ := itr.yld i H' x H2 ds[i] sv (List.getElem?_eq_getElem hlt) hy
    have s2 := s'.step (Kp.of_same (dr := dr) s3)
    have rx2 := rx I' s'.gh s'.pre.sub
    have hdrop : ds.drop i = ds[i] :: ds.drop (i + 1) := (List.getElem_cons_drop (h := hlt)).symm
    rw [hdrop] at hf
    refine hg dr env' σ' _ H2 x ds[i] _ s2.pre s2.ev rx2 hf _ fun env1 σ1 h1 pu => ?_
    refine hb dr J B Iv env1 σ1 _ H2 _ _ (s2.put pu) h1 ⟨fun e σ I H z s => ⟨e, I, s, z⟩, fun e σ I H z s => o.nx e σ I H z (s.weak s1.gh), fun e σ I H z s => ⟨e, I, s, z⟩, o.rt, fun x c a e σ I H z s r => o.ex x c a e σ I H z (s.weak s1.gh) r⟩
  · have ei : i = ds.length := by omega
    subst ei
    rw [List.drop_length] at hf
    exact .inl ⟨itr.stop _ H' sv (Nat.le_refl _), o.nx _ _ _ _ hf (s'.weak s1.gh)⟩
def sWhile (it : IT) (body : IS) : IS := fun env Pp => ∃ Wd : Nat → List Sl → Prop, (∃ m, Wd m env) ∧ ∀ m e, Wd m e → it e (fun b => if b = true then body e { Pp with nx := fun e' => ∃ m', m' < m ∧ Wd m' e', ct := fun e' => ∃ m', m' < m ∧ Wd m' e', bk := Pp.nx } else Pp.nx e) (fun x => Pp.ex x e)
theorem sndS_while {body : IS} (hc : SndT K xr W tc it) (hb : SndS K xr W t body) : SndS K xr W (tWhile tc t) (sWhile it body) := fun dr J B Gh env σ I H Pp D s h o => by
  obtain ⟨Wd, ⟨m0, w0⟩, turn⟩ := h
  refine ⟨fun m σ' H' => ∃ env' I', Stt K dr J B Gh env' σ' I' H' ∧ Wd m env', ⟨m0, env, I, s, w0⟩, ?_⟩
  rintro m σ' H' ⟨env', I', s', w'⟩
  refine hc dr env' σ' I' H' _ _ s'.pre s'.ev (turn m env' w') (o.e s') _ fun b H2 hb' k => ?_
  cases b with
  | false => exact o.nx _ _ _ _ hb' (s'.step k)
  | true =>
    refine ⟨fun σ2 H2 => ∃ env2 I2, Stt K dr J B Gh env2 σ2 I2 H2 ∧ ∃ m', m' < m ∧ Wd m' env2, fun σ2 H2 ⟨env2, I2, s2, m', hm, w2⟩ => ⟨m', hm, env2, I2, s2, w2⟩, ?_⟩
    exact hb dr J B Gh env' σ' _ H2 _ _ (s'.step k) hb' ⟨fun e σ I H z s => ⟨e, I, s, z⟩, fun e σ I H z s => o.nx e σ I H z s, fun e σ I H z s => ⟨e, I, s, z⟩, o.rt, o.ex⟩
end
end DL

set_option maxRecDepth 100000
/-! DL8: links of statements, defs. -/
namespace DL
open PySem L2 PyProof.Rows

def LX (xr : XR) (X : Cx) (W : WX) (e : Expr) (ix : IX) : Prop := ∃ te, PE X e te ∧ SndX X.K xr W te ix
def LS (xr : XR) (X : Cx) (W : WX) (st : Stmt) (is : IS) : Prop := ∃ t, PS X st t ∧ SndS X.K xr W t is
def LSs (xr : XR) (X : Cx) (W : WX) (st : List Stmt) (is : IS) : Prop := ∃ t, PSs X st t ∧ SndS X.K xr W t is
def LTG (xr : XR) (X : Cx) (W : WX) (tg : Expr) (ig : IG) : Prop := ∃ t, PG X tg t ∧ SndTG X.K xr W t ig
def LTGs (xr : XR) (X : Cx) (W : WX) (tg : List Expr) (ig : List Dt → IS) : Prop := ∃ t, PGs X tg t ∧ SndTGs X.K xr W t ig

/-! ### a tuple of values, new ones among them, put into names at once -/
def putL : List Sl → List Nat → List Sl → List Sl
  | env, i :: is, s :: ss => putL (put env i s) is ss
  | env, _, _ => env
def setL : L2.St → List Nat → List V → L2.St
  | σ, i :: is, v :: vs => setL (σ.set i (some v)) is vs
  | σ, _, _ => σ
abbrev IXA := List Sl → (List Sl → Prop) → (Xc → Prop) → Prop
def xNil : IXA := fun _ P _ => P []
def xCons (ix : IX) (il : IXA) : IXA := fun env P E => ix env (fun s => il env (fun ss => P (s :: ss)) E) E
def VokL (K : Fr) (dr : Dr) (B I H : Hp) (env : List Sl) (σ : L2.St) : List V → List Sl → Prop
  | [], [] => True
  | v :: vs, s :: ss => Vok K dr B I H env σ v s ∧ VokL K dr B I H env σ vs ss ∧ ∀ p, v = .ref p → (∃ d, s = .ow d) → ∀ (j : Nat) d, ss[j]? = some (.ow d) → vs[j]? ≠ some (.ref p)
  | _, _ => False
def SndXA (K : Fr) (xr : XR) (W : WX) (ta : TA) (ix : IXA) : Prop := ∀ dr J B Gh env σ I H P E, Stt K dr J B Gh env σ I H → ix env P E → OutE xr W dr σ H E → ∀ Q : List V → Hp → Prop, (∀ ss vs I' H', P ss → Kp dr H H' → Same I I' → (∀ a, H a ≠ none → I' a = I a) → Stt K dr J B Gh env σ I' H' → VokL K dr B I' H' env σ vs ss → (∀ (j : Nat) p d, ss[j]? = some (.ow d) → vs[j]? = some (.ref p) → H p = none) → Q vs H') → ta σ H Q
section
variable {K : Fr} {xr : XR} {W : WX} {te : TE} {ta : TA} {ix : IX} {il : IXA}
theorem VokL.len {dr : Dr} {B I H : Hp} {env : List Sl} {σ : L2.St} : ∀ {vs : List V} {ss : List Sl}, VokL K dr B I H env σ vs ss → vs.length = ss.length
  | [], [], _ => rfl
  | _ :: _, _ :: _, h => congrArg (· + 1) (VokL.len h.2.1)
  | [], _ :: _, h => h.elim
  | _ :: _, [], h => h.elim
theorem VokL.stay {dr : Dr} {B I H I' H' : Hp} {env : List Sl} {σ : L2.St} (k : Kp dr H H') (sub : Same I I') (eq : ∀ a, H a ≠ none → I' a = I a) : ∀ {vs : List V} {ss : List Sl}, VokL K dr B I H env σ vs ss → VokL K dr B I' H' env σ vs ss
  | [], [], _ => trivial
  | _ :: _, _ :: _, h => ⟨h.1.stay k sub eq, VokL.stay k sub eq h.2.1, h.2.2⟩
  | [], _ :: _, h => h.elim
  | _ :: _, [], h => h.elim
theorem sndXA_nil : SndXA K xr W tNil xNil := fun dr J B Gh env σ I H P E s hi o Q q => q [] [] I H hi Kp.refl (Same.refl _) (fun _ _ => rfl) s trivial fun j p d z => by simp at z
theorem sndXA_cons (h : SndX K xr W te ix) (hl : SndXA K xr W ta il) : SndXA K xr W (tCons te ta) (xCons ix il) := fun dr J B Gh env σ I H P E s hi o Q q =>
  h dr J B Gh env σ I H _ E s hi o _ fun s1 v1 I1 H1 h1 k1 sub1 eq1 st1 vo1 nw1 =>
    hl dr J B Gh env σ I1 H1 _ E st1 h1 (o.step k1) _ fun ss vs I2 H2 h2 k2 sub2 eq2 st2 vo2 nw2 =>
      q _ _ I2 H2 h2 (k1.trans k2) (sub1.trans sub2) (fun a ha => by rw [eq2 a fun z => ha (k1.none_back s.pre z)]; exact eq1 a ha) st2
        ⟨vo1.stay k2 sub2 eq2, vo2, fun p e ⟨d, es⟩ j d' hj hv => by
          subst es
          obtain ⟨p', e', _, _, _, c3, _⟩ := vo1
          rw [e] at e'
          cases e'
          obtain ⟨_, e3⟩ := c3.some_
          have := nw2 j p d' hj hv
          rw [e3] at this; cases this⟩
        fun j p d hj hv => by
          cases j with
          | zero => exact nw1 p (by simpa using hv) ⟨d, by simpa using hj⟩
          | succ j => exact k1.none_back s.pre (nw2 j p d (by simpa using hj) (by simpa using hv))
theorem Stt.setL {dr : Dr} {J B Gh I H : Hp} : ∀ {is : List Nat} {vs : List V} {ss : List Sl} {env : List Sl} {σ : L2.St}, Stt K dr J B Gh env σ I H → VokL K dr B I H env σ vs ss → Stt K dr J B Gh (DL.putL env is ss) (DL.setL σ is vs) I H
  | [], [], [], _, _, s, _ => s
  | [], _ :: _, _ :: _, _, _, s, _ => s
  | _ :: _, [], [], _, _, s, _ => s
  | _, [], _ :: _, _, _, _, h => h.elim
  | _, _ :: _, [], _, _, _, h => h.elim
  | i :: is, v :: vs, s' :: ss, env, σ, s, h => by
    have s1 := s.set (i := i) h.1
    refine Stt.setL (is := is) s1 ?_
    -- the rest stays apart
    have key : ∀ {vs : List V} {ss : List Sl}, VokL K dr B I H env σ vs ss → (∀ p, v = .ref p → (∃ d, s' = .ow d) → ∀ (j : Nat) d, ss[j]? = some (.ow d) → vs[j]? ≠ some (.ref p)) → VokL K dr B I H (DL.put env i s') (σ.set i (some v)) vs ss := by
      intro vs ss
      induction vs generalizing ss with
      | nil => intro h _; cases ss <;> exact h
      | cons w vs ih =>
        intro h hn
        cases ss with
        | nil => exact h.elim
        | cons t ss =>
          refine ⟨?_, ih h.2.1 fun p e z j d hj => hn p e z (j + 1) d (by simpa using hj) |> fun q r => q (by simpa using r), h.2.2⟩
          have hv := h.1
          cases t with
          | no => exact hv.elim
          | ex _ _ _ => exact hv.elim
          | im d => exact hv
          | ow d =>
            obtain ⟨p, rfl, a1, a2, a0, a3, a4⟩ := hv
            refine ⟨p, rfl, a1, a2, a0, a3, fun k e b1 b2 => ?_⟩
            rw [sl_put] at b1
            rw [List.getElem?_set] at b2
            by_cases hik : i = k
            · by_cases hl : i < σ.length
              · rw [if_pos hik, if_pos hl] at b2
                have e1 : v = .ref p := by simpa using b2
                have hlk : k < env.length := by rw [← hik, ← s.ev.len]; exact hl
                rw [if_pos ⟨hik, hlk⟩] at b1
                exact hn p e1 ⟨e, b1⟩ 0 d rfl rfl
              · rw [if_pos hik, if_neg hl] at b2; cases b2
            · rw [if_neg (fun z => hik z.1)] at b1
              rw [if_neg hik] at b2
              exact a4 k e b1 b2
    exact key h.2.1 h.2.2
/-- the reading of (a, b, ..) = e where e's items go to names -/
def gNames : List Nat → TGs
  | [] => gNil
  | i :: is => gCons (gName i) (gNames is)
theorem gNames_at : ∀ {is : List Nat} {vs : List V} {σ : L2.St} {H : Hp} {Q : L2.St → Hp → Prop}, vs.length = is.length → Q (setL σ is vs) H → gNames is vs σ H Q
  | [], [], _, _, _, _, h => ⟨rfl, h⟩
  | i :: is, v :: vs, σ, H, Q, e, h => ⟨v, vs, rfl, gNames_at (is := is) (by simpa using e) h⟩
def sMany (is : List Nat) (il : IXA) : IS := fun env Pp => il env (fun ss => (ss.length = is.length ∧ ss.length ≤ 16777216) ∧ Pp.nx (putL env is ss)) (fun x => Pp.ex x env)
theorem sndS_many {is : List Nat} {n : Nat} (hn : n = is.length) (h : SndXA K xr W ta il) : SndS K xr W (tAsg (tTup ta) (gTup K n (gNames is))) (sMany is il) := fun dr J B Gh env σ I H Pp D s hi o => by
  refine h dr J B Gh env σ I H _ _ s hi (o.e s) _ fun ss vs I1 H1 hP k1 sub1 eq1 st1 vo1 nw1 => ?_
  have hl := vo1.len
  refine ⟨size_le (by rw [hl]; exact hP.1.2), fun t ht => ?_⟩
  have k2 : Kp dr H1 (upd H1 t (.tup vs)) := Kp.new st1.pre ht
  refine ⟨t, vs, rfl, SqT.of upd_same, by rw [hl, hn]; exact hP.1.1, gNames_at (by rw [hl]; exact hP.1.1) ?_⟩
  have up : Same I1 (hid t (ext I1 H1 (upd H1 t (.tup vs)))) := new_at st1.pre ht
  refine o.nx _ _ _ _ hP.2 (Stt.setL (st1.hid k2 ht) (vo1.stay k2 up fun a ha => ?_))
  have ne : a ≠ t := fun y => by subst y; exact ha ht
  unfold hid
  rw [if_neg ne, ext_some ha]
end
def LXA (xr : XR) (X : Cx) (W : WX) (es : List Expr) (ix : IXA) : Prop := ∃ ta, PA X es ta ∧ SndXA X.K xr W ta ix
def LNm (X : Cx) (es : List Expr) (is : List Nat) : Prop := PGs X es (gNames is)

section
variable {xr : XR} {X : Cx} {W : WX} {e a b c tg : Expr} {es : List Expr} {ie ia ib ic : IE} {ix iy : IX} {it : IT} {il : IA} {xl : IXA} {is iu : IS} {ig : IG} {igs : List Dt → IS} {st : Stmt} {rest p q : List Stmt} {pos : Pos} {ii : II} {g : G} {ts : List Nat}
theorem LE.x (h : LE xr X W e ie) : LX xr X W e (xE ie) := let ⟨_, p, s⟩ := h; ⟨_, p, s.X⟩
theorem LN.x (h : LN xr X W e ie) : LX xr X W e (xN ie) := let ⟨_, p, s⟩ := h; ⟨_, p, s.X⟩
theorem lxa_nil : LXA xr X W [] xNil := ⟨_, pa_nil, sndXA_nil⟩
theorem lxa_cons (h : LX xr X W e ix) (hl : LXA xr X W es xl) (hs : starEach (e :: es) X.env = (false, eval e X.env) :: starEach es X.env := by rfl) : LXA xr X W (e :: es) (xCons ix xl) :=
  let ⟨_, p, s⟩ := h; let ⟨_, pl, sl⟩ := hl; ⟨_, pa_cons p pl hs, sndXA_cons s sl⟩
theorem lnm_nil : LNm X [] [] := pgs_nil
theorem lnm_cons (i : Nat) {x : Str} {js : List Nat} (hN : X.N.Nodup) (hs : LNm X es js) (hi : X.N[i]? = some x := by rfl) (hx : Loc X.env.scope x := by first | exact Or.inl rfl | exact Or.inr rfl) (hf : X.fn x = true ∨ X.env.scope.names.lookup x = some .local := by first | exact .inl rfl | exact .inr rfl | assumption)
    (ha : (assignEach (.Name x pos :: es) X.env).map (·.2) = assign (.Name x pos) X.env :: (assignEach es X.env).map (·.2) := by rfl) : LNm X (.Name x pos :: es) (i :: js) := pgs_cons (pg_name hN hi hx hf) hs ha

/-! ### blocks -/
theorem lss_nil : LSs xr X W [] sNext := ⟨_, pss_nil, sndS_next⟩
theorem lss_cons (h : LS xr X W st is) (hr : LSs xr X W rest iu) : LSs xr X W (st :: rest) (sSeq is iu) := let ⟨_, p, s⟩ := h; let ⟨_, q, t⟩ := hr; ⟨_, pss_cons p q, sndS_seq s t⟩
theorem lss_one (h : LS xr X W st is) : LSs xr X W [st] is := let ⟨_, p, s⟩ := h; ⟨_, pss_one p, s⟩
theorem lss_frz (i : Nat) (h : LSs xr X W rest is) : LSs xr X W rest (sFrz i is) := let ⟨_, p, s⟩ := h; ⟨_, p, sndS_frz s⟩
theorem lss_never : LSs xr X W rest sNever := ⟨_, pss_never, sndS_never⟩
theorem ls_frz (i : Nat) (h : LS xr X W st is) : LS xr X W st (sFrz i is) := let ⟨_, p, s⟩ := h; ⟨_, p, sndS_frz s⟩
theorem ls_never : LS xr X W st sNever := ⟨_, ps_never, sndS_never⟩
theorem ls_pass : LS xr X W (.Pass pos) sNext := ⟨_, ps_pass, sndS_next⟩
theorem ls_break : LS xr X W (.Break pos) sBreak := ⟨_, ps_break, sndS_break⟩
theorem ls_cont : LS xr X W (.Continue pos) sCont := ⟨_, ps_continue, sndS_cont⟩
theorem ls_ret (h : LE xr X W e ie) : LS xr X W (.Return (some e) pos) (sRet ie) := let ⟨_, p, s⟩ := h; ⟨_, ps_ret p, sndS_ret s⟩
theorem ls_retN : LS xr X W (.Return none pos) sRetN := ⟨_, ps_retN, sndS_retN⟩
theorem ls_expr (h : LE xr X W e ie) (hs : swapsWith e none pos.line X.env = pure false := by rfl) : LS xr X W (.Expr e pos) (sDrop ie) := let ⟨_, p, s⟩ := h; ⟨_, ps_expr p hs, sndS_drop s⟩
theorem ls_if (hc : LT xr X W c it) (h1 : LSs xr X W p is) (h2 : LSs xr X W q iu) : LS xr X W (.If c p q pos) (sIf it is iu) := let ⟨_, p1, s1⟩ := hc; let ⟨_, p2, s2⟩ := h1; let ⟨_, p3, s3⟩ := h2; ⟨_, ps_if p1 p2 p3, sndS_if s1 s2 s3⟩

/-! ### assignments -/
theorem ls_set (i : Nat) {x : Str} {pos' : Pos} (hN : X.N.Nodup) (h : LX xr X W e ix) (hi : X.N[i]? = some x := by rfl) (hx : Loc X.env.scope x := by first | exact Or.inl rfl | exact Or.inr rfl) (hs : swapsWith e (some (.Name x pos')) pos.line X.env = pure false := by rfl) (hf : X.fn x = true ∨ X.env.scope.names.lookup x = some .local := by first | exact .inl rfl | exact .inr rfl | assumption) :
    LS xr X W (.Assign [.Name x pos'] e pos) (sSet i ix) := let ⟨_, p, s⟩ := h; ⟨_, ps_set hN hi hx p hs hf, sndS_set s⟩
theorem ls_par (i j : Nat) {x y : Str} {px py pt : Pos} {kt k2 pt2} (hc : X.calm = true) (hN : X.N.Nodup) (hij : i ≠ j) (ha : LX xr X W a ix) (hb : LX xr X W b iy) (hi : X.N[i]? = some x := by rfl) (hj : X.N[j]? = some y := by rfl)
    (hx : X.env.scope.names.lookup x = some .local := by rfl) (hy : X.env.scope.names.lookup y = some .local := by rfl)
    (hw : swappedStores [.Tuple [.Name x px, .Name y py] kt pt] (.Tuple [a, b] k2 pt2) X.env = pure (some [x, y]) := by rfl)
    (hs : swapsWithSole [.Tuple [.Name x px, .Name y py] kt pt] (.Tuple [a, b] k2 pt2) pos.line X.env = pure false := by rfl)
    (hs1 : starEach [a, b] X.env = (false, eval a X.env) :: starEach [b] X.env := by rfl) (hs2 : starEach [b] X.env = (false, eval b X.env) :: starEach [] X.env := by rfl) :
    LS xr X W (.Assign [.Tuple [.Name x px, .Name y py] kt pt] (.Tuple [a, b] k2 pt2) pos) (sPar i j ix iy) :=
  let ⟨_, p, s⟩ := ha; let ⟨_, q, t⟩ := hb; ⟨_, ps_par hc hN hi hj hij hx hy (pa_cons p (pa_cons q pa_nil hs2) hs1) hw hs, sndS_par s t⟩
theorem ltg_name (i : Nat) {x : Str} (hN : X.N.Nodup) (hi : X.N[i]? = some x := by rfl) (hx : Loc X.env.scope x := by first | exact Or.inl rfl | exact Or.inr rfl) (hf : X.fn x = true ∨ X.env.scope.names.lookup x = some .local := by first | exact .inl rfl | exact .inr rfl | assumption) : LTG xr X W (.Name x pos) (tgN i) :=
  ⟨_, pg_name hN hi hx hf, sndTG_name⟩
theorem ltg_sub (i : Nat) {x : Str} {px : Pos} (hb : LE xr X W b ib) (hN : X.N[i]? = some x := by rfl) (hv : Vis X.env.scope x := by first | exact Or.inl rfl | exact Or.inr (Or.inl rfl) | exact Or.inr (Or.inr rfl)) (hd : (x == ("__debug__" : Str)) = false := by decide) (hcd : (x == ("__classdict__" : Str)) = false := by decide)
    (ha : ∀ v, assign (.Subscript (.Name x px) b pos) X.env v = (do
      let ov ← holding [v] (eval (.Name x px) X.env)
      let iv ← holding [v, ov] (eval b X.env)
      standAt pos
      holding [v, ov, iv] (setItem ov iv v)
      release [v, ov, iv] []) := by intro _; rfl) : LTG xr X W (.Subscript (.Name x px) b pos) (tgSub i ib) :=
  let ⟨_, p, s⟩ := hb; ⟨_, pg_sub (pe_var hN hv hd hcd) p set_list ha, sndTG_sub s⟩
theorem ltgs_nil : LTGs xr X W [] tgsNil := ⟨_, pgs_nil, sndTGs_nil⟩
theorem ltgs_cons (h : LTG xr X W e ig) (hs : LTGs xr X W es igs) (ha : (assignEach (e :: es) X.env).map (·.2) = assign e X.env :: (assignEach es X.env).map (·.2) := by rfl) : LTGs xr X W (e :: es) (tgsCons ig igs) :=
  let ⟨_, p, s⟩ := h; let ⟨_, q, t⟩ := hs; ⟨_, pgs_cons p q ha, sndTGs_cons s t⟩
theorem ltg_tup {k n : Nat} (hc : X.calm = true) (hs : LTGs xr X W es igs) (hn : (assignEach es X.env).length = n := by rfl) (hst : (assignEach es X.env).findIdx? (·.1) = none := by rfl) : LTG xr X W (.Tuple es k pos) (tgT n igs) :=
  let ⟨_, q, t⟩ := hs; ⟨_, pg_tup hc q hn hst, sndTG_tup t⟩
theorem ls_asg (h : LE xr X W e ie) (hg : LTG xr X W tg ig) (hs : swapsWithSole [tg] e pos.line X.env = pure false := by rfl) (hw : swappedStores [tg] e X.env = pure none := by rfl) (h1 : (assignEach [tg] X.env).map (·.2) = [assign tg X.env] := by rfl) : LS xr X W (.Assign [tg] e pos) (sAsg ie ig) :=
  let ⟨_, p, s⟩ := h; let ⟨_, q, t⟩ := hg; ⟨_, ps_asg p q hs hw h1, sndS_asg s t⟩
theorem ls_many {js : List Nat} {n k k2 : Nat} {fs : List Expr} {pt p2 : Pos} (hc : X.calm = true) (h : LXA xr X W es xl) (hg : LNm X fs js) (hjs : n = js.length := by rfl) (hn : (assignEach fs X.env).length = n := by rfl) (hst : (assignEach fs X.env).findIdx? (·.1) = none := by rfl)
    (hs : swapsWithSole [.Tuple fs k pt] (.Tuple es k2 p2) pos.line X.env = pure false := by rfl) (hw : swappedStores [.Tuple fs k pt] (.Tuple es k2 p2) X.env = pure none := by rfl) (h1 : (assignEach [.Tuple fs k pt] X.env).map (·.2) = [assign (.Tuple fs k pt) X.env] := by rfl) :
    LS xr X W (.Assign [.Tuple fs k pt] (.Tuple es k2 p2) pos) (sMany js xl) :=
  let ⟨_, p, s⟩ := h; ⟨_, ps_asg (pe_tup p) (pg_tup hc hg hn hst) hs hw h1, sndS_many hjs s⟩
/-- name = [.. for ..] on one line -/
theorem ls_setLc (i : Nat) {y : Str} {py : Pos} {elt iter : Expr} {ifs : List Expr} {scope : Scope} {own : List (Str × Nat)} {spos : Pos} (hc : X.calm = true) (hN : X.N.Nodup) (hi : LIO xr X W tg iter ii) (ok : BlkOk X.N X.env.scope scope own) (hts : ts = own.map (·.2))
    (hg : Blk X scope fun X' => LG X' tg g ts) (ht : Blk X scope fun X' => LTs xr X' WF ifs it) (he : Blk X scope fun X' => LE xr X' WF elt ie) (hy : X.N[i]? = some y := by rfl) (hyl : X.env.scope.names.lookup y = some .local := by rfl)
    (hsw : swapsWith (.ListComp elt [⟨tg, iter, ifs, 0⟩] scope pos) (some (.Name y py)) spos.line X.env = pure true := by exact sw_true rfl rfl rfl (by decide +kernel)) (hs : ∀ x, foldedSetIterable iter X.env x = pure x := by intro _; rfl) :
    LS xr X W (.Assign [.Name y py] (.ListComp elt [⟨tg, iter, ifs, 0⟩] scope pos) spos) (sSet i (xN (nComp ts ii g it ie))) := by
  obtain ⟨wi, pi, si⟩ := hi
  subst hts
  obtain ⟨t, pg, sg⟩ := blk_g (ι := Shared × Hp × Addr × List (Str × Addr) × List Addr) (K := X.K) (F := fun c => X.blk c.1 c.2.1 scope (compEnvC scope c.2.2.2.1 c.2.2.1 X.env) c.2.2.2.2) (fun _ => rfl) fun c => hg c.1 c.2.1 c.2.2.1 c.2.2.2.1 c.2.2.2.2
  obtain ⟨tt, pt, st⟩ := blk_t (xr := xr) (ι := Shared × Hp × Addr × List (Str × Addr) × List Addr) (K := X.K) (F := fun c => X.blk c.1 c.2.1 scope (compEnvC scope c.2.2.2.1 c.2.2.1 X.env) c.2.2.2.2) (fun _ => rfl) fun c => ht c.1 c.2.1 c.2.2.1 c.2.2.2.1 c.2.2.2.2
  obtain ⟨te, pe, se⟩ := blk_e (xr := xr) (ι := Shared × Hp × Addr × List (Str × Addr) × List Addr) (K := X.K) (F := fun c => X.blk c.1 c.2.1 scope (compEnvC scope c.2.2.2.1 c.2.2.1 X.env) c.2.2.2.2) (fun _ => rfl) fun c => he c.1 c.2.1 c.2.2.1 c.2.2.2.1 c.2.2.2.2
  exact ⟨_, ps_setLc hc hN hy hyl hsw pi ok (fun s H C cl fp => pg (s, H, C, cl, fp)) (fun s H C cl fp => pt (s, H, C, cl, fp)) (fun s H C cl fp => pe (s, H, C, cl, fp)) hs, sndS_set (sndN_comp si sg (fun _ h => h) st se).X⟩
/-- the same, read alone -/
theorem ls_setLcE (i : Nat) {y : Str} {py : Pos} {elt iter : Expr} {ifs : List Expr} {scope : Scope} {own : List (Str × Nat)} {spos : Pos} (hc : X.calm = true) (hN : X.N.Nodup) (hi : LIO xr X W tg iter ii) (ok : BlkOk X.N X.env.scope scope own) (hts : ts = own.map (·.2))
    (hg : Blk X scope fun X' => LG X' tg g ts) (ht : Blk X scope fun X' => LTs xr X' WF ifs it) (he : Blk X scope fun X' => LE xr X' WF elt ie) (hy : X.N[i]? = some y := by rfl) (hyl : X.env.scope.names.lookup y = some .local := by rfl)
    (hsw : swapsWith (.ListComp elt [⟨tg, iter, ifs, 0⟩] scope pos) (some (.Name y py)) spos.line X.env = pure true := by exact sw_true rfl rfl rfl (by decide +kernel)) (hs : ∀ x, foldedSetIterable iter X.env x = pure x := by intro _; rfl) :
    LS xr X W (.Assign [.Name y py] (.ListComp elt [⟨tg, iter, ifs, 0⟩] scope pos) spos) (sSet i (xE (nComp ts ii g it ie))) := by
  obtain ⟨wi, pi, si⟩ := hi
  subst hts
  obtain ⟨t, pg, sg⟩ := blk_g (ι := Shared × Hp × Addr × List (Str × Addr) × List Addr) (K := X.K) (F := fun c => X.blk c.1 c.2.1 scope (compEnvC scope c.2.2.2.1 c.2.2.1 X.env) c.2.2.2.2) (fun _ => rfl) fun c => hg c.1 c.2.1 c.2.2.1 c.2.2.2.1 c.2.2.2.2
  obtain ⟨tt, pt, st⟩ := blk_t (xr := xr) (ι := Shared × Hp × Addr × List (Str × Addr) × List Addr) (K := X.K) (F := fun c => X.blk c.1 c.2.1 scope (compEnvC scope c.2.2.2.1 c.2.2.1 X.env) c.2.2.2.2) (fun _ => rfl) fun c => ht c.1 c.2.1 c.2.2.1 c.2.2.2.1 c.2.2.2.2
  obtain ⟨te, pe, se⟩ := blk_e (xr := xr) (ι := Shared × Hp × Addr × List (Str × Addr) × List Addr) (K := X.K) (F := fun c => X.blk c.1 c.2.1 scope (compEnvC scope c.2.2.2.1 c.2.2.1 X.env) c.2.2.2.2) (fun _ => rfl) fun c => he c.1 c.2.1 c.2.2.1 c.2.2.2.1 c.2.2.2.2
  exact ⟨_, ps_setLc hc hN hy hyl hsw pi ok (fun s H C cl fp => pg (s, H, C, cl, fp)) (fun s H C cl fp => pt (s, H, C, cl, fp)) (fun s H C cl fp => pe (s, H, C, cl, fp)) hs, sndS_set (sndN_comp si sg (fun _ h => h) st se).e.X⟩
theorem ls_aug {op : Operator} {f : Int → Int → Int} (i : Nat) {x : Str} {pos' : Pos} (hN : X.N.Nodup) (ho : PIp X op (ipI f)) (h : LE xr X W e ie) (hi : X.N[i]? = some x := by rfl) (hx : Loc X.env.scope x := by first | exact Or.inl rfl | exact Or.inr rfl) (hf : X.fn x = true ∨ X.env.scope.names.lookup x = some .local := by first | exact .inl rfl | exact .inr rfl | assumption) :
    LS xr X W (.AugAssign (.Name x pos') op e pos) (sAug i f ie) := let ⟨_, p, s⟩ := h; ⟨_, ps_aug hN hi hx p ho hf, sndS_aug s⟩

/-! ### methods of lists -/
section
variable {x : Str} {px apos cpos : Pos}
theorem ls_app (i : Nat) (h : LE xr X W e ie) (hN : X.N[i]? = some x := by rfl) (hv : Vis X.env.scope x := by first | exact Or.inl rfl | exact Or.inr (Or.inl rfl) | exact Or.inr (Or.inr rfl)) (hd : (x == ("__debug__" : Str)) = false := by decide) (hcd : (x == ("__classdict__" : Str)) = false := by decide)
    (hbase : attributeBase (.Name x px) "append" X.env (eval (.Name x px) X.env) = eval (.Name x px) X.env := by rfl)
    (hfew : ((backTo cpos (starEach [e] X.env)).all (fun x => !x.1) && (backToKw cpos (keywordEach [] X.env)).all (fun x => x.1.isSome)
      && decide ([e].length + ([] : List Keyword).length + (if ([] : List Keyword).isEmpty then 0 else 1) < 30)) = true := by rfl)
    (hline : (apos.endLine == cpos.line) = true := by rfl) (hs : starEach [e] X.env = (false, eval e X.env) :: starEach [] X.env := by rfl) (hsw : swapsWith (.Call (.Attribute (.Name x px) "append" apos) [e] [] cpos) none pos.line X.env = pure false := by rfl) :
    LS xr X W (.Expr (.Call (.Attribute (.Name x px) "append" apos) [e] [] cpos) pos) (sApp i ie) :=
  let ⟨_, p, s⟩ := h; ⟨_, ps_expr (pe_bm PySem.F.plainAttrs_list PySem.F.slot_list_append PySem.F.type_list_append mt_append (pe_var hN hv hd hcd) (pa_cons p pa_nil hs) hbase hfew hline hs) hsw, sndS_app s⟩
theorem ls_ext (i : Nat) (h : LE xr X W e ie) (hN : X.N[i]? = some x := by rfl) (hv : Vis X.env.scope x := by first | exact Or.inl rfl | exact Or.inr (Or.inl rfl) | exact Or.inr (Or.inr rfl)) (hd : (x == ("__debug__" : Str)) = false := by decide) (hcd : (x == ("__classdict__" : Str)) = false := by decide)
    (hbase : attributeBase (.Name x px) "extend" X.env (eval (.Name x px) X.env) = eval (.Name x px) X.env := by rfl)
    (hfew : ((backTo cpos (starEach [e] X.env)).all (fun x => !x.1) && (backToKw cpos (keywordEach [] X.env)).all (fun x => x.1.isSome)
      && decide ([e].length + ([] : List Keyword).length + (if ([] : List Keyword).isEmpty then 0 else 1) < 30)) = true := by rfl)
    (hline : (apos.endLine == cpos.line) = true := by rfl) (hs : starEach [e] X.env = (false, eval e X.env) :: starEach [] X.env := by rfl) (hsw : swapsWith (.Call (.Attribute (.Name x px) "extend" apos) [e] [] cpos) none pos.line X.env = pure false := by rfl) :
    LS xr X W (.Expr (.Call (.Attribute (.Name x px) "extend" apos) [e] [] cpos) pos) (sExt i ie) :=
  let ⟨_, p, s⟩ := h; ⟨_, ps_expr (pe_bm PySem.F.plainAttrs_list PySem.F.slot_list_extend PySem.F.type_list_extend mt_extend (pe_var hN hv hd hcd) (pa_cons p pa_nil hs) hbase hfew hline hs) hsw, sndS_ext s⟩
theorem ls_popAt (j i : Nat) {y : Str} {py : Pos} (hNd : X.N.Nodup) (h : LE xr X W e ie) (hN : X.N[i]? = some x := by rfl) (hv : Vis X.env.scope x := by first | exact Or.inl rfl | exact Or.inr (Or.inl rfl) | exact Or.inr (Or.inr rfl)) (hd : (x == ("__debug__" : Str)) = false := by decide) (hcd : (x == ("__classdict__" : Str)) = false := by decide)
    (hbase : attributeBase (.Name x px) "pop" X.env (eval (.Name x px) X.env) = eval (.Name x px) X.env := by rfl)
    (hfew : ((backTo cpos (starEach [e] X.env)).all (fun x => !x.1) && (backToKw cpos (keywordEach [] X.env)).all (fun x => x.1.isSome)
      && decide ([e].length + ([] : List Keyword).length + (if ([] : List Keyword).isEmpty then 0 else 1) < 30)) = true := by rfl)
    (hline : (apos.endLine == cpos.line) = true := by rfl) (hs : starEach [e] X.env = (false, eval e X.env) :: starEach [] X.env := by rfl)
    (hj : X.N[j]? = some y := by rfl) (hy : Loc X.env.scope y := by first | exact Or.inl rfl | exact Or.inr rfl) (hsw : swapsWith (.Call (.Attribute (.Name x px) "pop" apos) [e] [] cpos) (some (.Name y py)) pos.line X.env = pure false := by rfl) (hf : X.fn y = true ∨ X.env.scope.names.lookup y = some .local := by first | exact .inl rfl | exact .inr rfl | assumption) :
    LS xr X W (.Assign [.Name y py] (.Call (.Attribute (.Name x px) "pop" apos) [e] [] cpos) pos) (sPopAt j i ie) :=
  let ⟨_, p, s⟩ := h; ⟨_, ps_set hNd hj hy (pe_bm PySem.F.plainAttrs_list PySem.F.slot_list_pop PySem.F.type_list_pop mt_popAt (pe_var hN hv hd hcd) (pa_cons p pa_nil hs) hbase hfew hline hs) hsw hf, sndS_popAt s⟩
theorem ls_setAt (i : Nat) {e1 : Expr} (hb : LE xr X W b ib) (h : LE xr X W e1 ie) (hN : X.N[i]? = some x := by rfl) (hv : Vis X.env.scope x := by first | exact Or.inl rfl | exact Or.inr (Or.inl rfl) | exact Or.inr (Or.inr rfl)) (hd : (x == ("__debug__" : Str)) = false := by decide) (hcd : (x == ("__classdict__" : Str)) = false := by decide)
    (ha : ∀ v, assign (.Subscript (.Name x px) b apos) X.env v = (do
      let ov ← holding [v] (eval (.Name x px) X.env)
      let iv ← holding [v, ov] (eval b X.env)
      standAt apos
      holding [v, ov, iv] (setItem ov iv v)
      release [v, ov, iv] []) := by intro _; rfl)
    (hs : swapsWithSole [.Subscript (.Name x px) b apos] e1 pos.line X.env = pure false := by rfl) (hw : swappedStores [.Subscript (.Name x px) b apos] e1 X.env = pure none := by rfl) (h1 : (assignEach [.Subscript (.Name x px) b apos] X.env).map (·.2) = [assign (.Subscript (.Name x px) b apos) X.env] := by rfl) :
    LS xr X W (.Assign [.Subscript (.Name x px) b apos] e1 pos) (sSetAt i ib ie) :=
  let ⟨_, p, s⟩ := hb; let ⟨_, q, t⟩ := h; ⟨_, ps_asg q (pg_sub (pe_var hN hv hd hcd) p set_list ha) hs hw h1, sndS_setAt s t⟩
end

/-! ### loops -/
theorem ls_for {iter : Expr} {body : List Stmt} (tk : PassesOwn (model X.prog X.w) X.A X.env X.xe) (hc : X.calm = true) (hi : LI xr X W tg iter ii) (hg : LG X tg g ts) (hb : LSs xr X W body is) (hs : ∀ x, foldedSetIterable iter X.env x = pure x := by intro _; rfl) : LS xr X W (.For tg iter body [] pos) (sFor ii g is) :=
  let ⟨_, p, s⟩ := hi; let ⟨_, q, t⟩ := hg; let ⟨_, r, u⟩ := hb; ⟨_, ps_for tk hc p q r hs, sndS_for s t u⟩
theorem ls_while {body : List Stmt} (tk : PassesOwn (model X.prog X.w) X.A X.env X.xe) (hc : LT xr X W c it) (hb : LSs xr X W body is) : LS xr X W (.While c body [] pos) (sWhile it is) :=
  let ⟨_, p, s⟩ := hc; let ⟨_, r, u⟩ := hb; ⟨_, ps_while tk p r, sndS_while s u⟩
end

/-! ### defs -/
/-- the slots at a def's entry -/
def init (n : Nat) (ds : List Dt) : List Sl := ds.map Sl.im ++ List.replicate (n - ds.length) .no
theorem sl_init : ∀ (ds : List Dt) (r : List Sl) (i : Nat), sl (ds.map Sl.im ++ r) i = if h : i < ds.length then .im ds[i] else sl r (i - ds.length)
  | [], r, i => by simp
  | d :: ds, r, 0 => by simp [sl]
  | d :: ds, r, i + 1 => by
    simp only [List.map_cons, List.cons_append, sl, sl_init ds r i, List.length_cons, Nat.succ_lt_succ_iff, List.getElem_cons_succ, Nat.add_sub_add_right]
theorem sl_rep : ∀ (n i : Nat), sl (List.replicate n .no) i = .no
  | 0, _ => rfl
  | n + 1, 0 => rfl
  | n + 1, i + 1 => by rw [List.replicate_succ, sl]; exact sl_rep n i
theorem init_len {n : Nat} {ds : List Dt} (h : ds.length ≤ n) : (init n ds).length = n := by
  unfold init
  rw [List.length_append, List.length_map, List.length_replicate]
  omega
theorem env_init {K : Fr} {dr : Dr} {I H : Hp} {N : List Str} {vs : List V} {ds : List Dt} (r : RpL K dr I vs ds) (h : ds.length ≤ N.length) : EnvOk K dr (init N.length ds) (L2.start N vs) I H := by
  have hl := r.len
  refine ⟨?_, fun i hi => ?_, fun i j d e p h1 _ _ _ => ?_⟩
  · rw [init_len h]
    unfold L2.start
    rw [List.length_append, List.length_map, List.length_replicate]
    omega
  · unfold init
    rw [sl_init]
    by_cases hd : i < ds.length
    · rw [dif_pos hd]
      obtain ⟨v, e, q⟩ := r.get (List.getElem?_eq_getElem hd)
      refine ⟨v, ?_, q⟩
      unfold L2.start
      rw [List.getElem?_append_left (by rw [List.length_map]; omega), List.getElem?_map, e]
      rfl
    · rw [dif_neg hd, sl_rep]; trivial
  · unfold init at h1
    rw [sl_init] at h1
    split at h1
    · cases h1
    · rw [sl_rep] at h1; cases h1
/-- THE RULE for a def -/
theorem fn_ok {P : Program} {w : World} {K : Fr} {mg : Str → Option Value} {base : Heap} {xr : XR} {x qual : Str} {st : Stmt} {f : Addr} {fd : FuncData} {N ps : List Str} {k : Nat} {is : IS} {sp : DSp} (F : Fun K x qual st f fd) (S : FnScope N ps (defScope st))
    (len : ∀ ds P E, sp ds P E → ds.length = ps.length)
    (body : ∀ (cdv : Value) (A : Around) (outer : List Env) (s : Shared) (H : Hp) (E : XK) (W : WX), Room k (A.deeper (envOfC qual (defScope st) s.heap.objs.size f cdv)) → (A.deeper (envOfC qual (defScope st) s.heap.objs.size f cdv)).units + 65 < cLine → Takes (cxOf (L2.CX P w) P w K mg base N qual (defScope st) f cdv A outer s H E) W →
      PassesOwn (model P w) (A.deeper (envOfC qual (defScope st) s.heap.objs.size f cdv)) (envOfC qual (defScope st) s.heap.objs.size f cdv) (cxOf (L2.CX P w) P w K mg base N qual (defScope st) f cdv A outer s H E).xe →
      LSs xr (cxOf (L2.CX P w) P w K mg base N qual (defScope st) f cdv A outer s H E) W (defBody st) is)
    (ok : ∀ ds P E, sp ds P E → is (init N.length ds) { nx := fun _ => P .non, rt := P, ex := fun x _ => E x }) : FnOk P w K mg base (L2.CX P w) (k + 1) f fd ps (liftS K xr sp) := by
  have hpl : ps.length ≤ N.length := by have := congrArg List.length S.pre; rw [List.length_take] at this; omega
  refine F.okX S (fun vs H Q E h => ?_) (fun cdv A outer s H vs Q E hr h => ?_)
  · obtain ⟨dr, I, ds, P, EP, _, r, h, _⟩ := h
    rw [r.len]
    exact len ds P EP h
  · obtain ⟨dr, I, ds, Pd, EP, pre, r, h, hex, hq⟩ := h
    have hl := len ds Pd EP h
    obtain ⟨t, pt, so⟩ := body cdv A outer s H E (fun c a _ H' => E c a H') hr (by have := hr.un; omega) (takes_of rfl rfl rfl rfl) (passes_of rfl)
    refine ⟨t, pt, so dr I H I (init N.length ds) (L2.start N vs) I H _ _ ⟨Same.refl _, fun _ _ => rfl, pre, pre, Kp.refl, env_init r (by omega), fun i d p h1 _ => ?_, Same.refl _⟩ (ok ds Pd EP h) ⟨fun env σ I' H' hn s' => ?_, fun _ _ _ _ z _ => z, fun _ _ _ _ z _ => z, fun d v H' hP k r => hq d v H' hP k r, fun x c a env σ I' H' hE s' r => hex x c a H' hE s'.kp r⟩⟩
    · unfold init at h1
      rw [sl_init] at h1
      split at h1
      · cases h1
      · rw [sl_rep] at h1; cases h1
    · exact hq .non .non H' hn s'.kp .non
end DL

set_option maxRecDepth 100000
/-! DL9: where defs and constants stand; what a draw promises. -/
namespace DL
open PySem L2 PyProof.Rows
structure Dfn (K : Fr) (mg : Str → Option Value) (x : Str) (st : Stmt) where
  f : Addr
  fd : FuncData
  g : mg x = some (.ref f)
  F : Fun K x x st f fd
structure Cst (K : Fr) (mg : Str → Option Value) (x : Str) (d : Dt) where
  v : V
  u : Value
  hm : mg x = some u
  r : RelV v u
  h : ∀ dr I, Rp K dr I v d
/-- a draw: any number from 0 on, less than the bound -/
def sp__law_take : DSp := fun ds P _ => match ds with
  | [.st, .int b] => b < 1073741824 ∧ ∀ r : Int, (b < 2 → r = 0) → (2 ≤ b → 0 ≤ r ∧ r < b) → P (.int r)
  | _ => False
/-- what a law's own state promises: the object that draws, new -/
def spState (K : Fr) : Sp := fun vs H Q _ => ∃ (a : Addr) (ns : List Int), vs = [.ref a] ∧ SqL K H a (ns.map V.int) ∧ ns.length ≤ 63 ∧
  ∀ (p1 p2 : Addr) (cs : List Int) (H' : Hp), Same H H' → p1 ≠ p2 → H' p1 = some (.lst [.int 0, .ref p2]) → H' p2 = some (.lst (cs.map V.int)) → cs ≠ [] → cs.length ≤ 63 → Q (.ref p1) H'
def spLaw (K : Fr) : Sp := fun vs H Q _ => ∃ (a : Addr) (ns : List Int), vs = [.ref a] ∧ SqL K H a (ns.map V.int) ∧ ns.length ≤ 63 ∧ ∀ H', Q (.bl true) H'
def nil0 : Hp := fun _ => none
def env0 (n i : Nat) : List Sl := put (List.replicate n .no) i (.im .st)
theorem Stt.begin {K : Fr} {p1 p2 : Addr} {H : Hp} {σ : L2.St} {n i : Nat} (hlen : σ.length = n) (h : σ[i]? = some (some (.ref p1))) (dro : DrOk (p1, p2) H) : Stt K (some (p1, p2)) nil0 H nil0 (env0 n i) σ nil0 H := by
  have pre : Pre (some (p1, p2)) nil0 H := ⟨fun _ _ e => (nomatch e), fun q e => by cases e; exact dro, fun _ _ => rfl⟩
  refine ⟨Same.refl _, fun _ _ => rfl, pre, pre, Kp.refl, ⟨?_, fun j hj => ?_, fun j k d e p a1 _ _ _ => ?_⟩, fun j d p a1 _ => ?_, Same.refl _⟩
  · unfold env0; rw [put_length, List.length_replicate]; exact hlen
  · unfold env0 at hj ⊢
    rw [put_length, List.length_replicate] at hj
    rw [sl_put, sl_rep, List.length_replicate]
    by_cases hij : i = j
    · rw [if_pos ⟨hij, hj⟩, ← hij, h]
      exact ⟨.ref p1, rfl, .st (q := (p1, p2)) rfl⟩
    · rw [if_neg (fun z => hij z.1)]; trivial
  · unfold env0 at a1
    rw [sl_put, sl_rep] at a1
    split at a1 <;> cases a1
  · unfold env0 at a1
    rw [sl_put, sl_rep] at a1
    split at a1 <;> cases a1
theorem same_new {H : Hp} {p : Addr} {o : HO} (h : H p = none) : Same H (upd H p o) := fun b x e => by
  rw [upd_ne (ne_of_none e h)]
  exact e
theorem cutV_ints (ns : List Int) (lo hi : Option Int) : cutV (ns.map V.int) lo hi = (cut ns lo hi).map V.int := by
  unfold cutV cut
  rw [List.map_take, List.map_drop, List.length_map]
theorem cut_len {α : Type} (xs : List α) (lo hi : Option Int) : (cut xs lo hi).length ≤ xs.length := by
  unfold cut
  rw [List.length_take, List.length_drop]
  omega
end DL

set_option maxRecDepth 100000
/-! DLA: what the top has written, read off the head's part. -/
namespace DL
open PySem L2 PyProof.Rows
def Dfn.of {K : Fr} {h : Heap} {mg : Str → Option Value} {x : Str} {st : Stmt} {f : Addr} {oc kV doc pm cdv ct : Value} {od an : Option Addr} {osl : Array (Option Value)} (X : K.In h) (G : h.Ns mainGlobals mg)
    (a : PySem.W.nsIn K mainGlobals x = some (some (.ref f))) (l : K.lookup f = some ⟨oc, od, .func (PySem.W.fnOf x x (defArgs st) (defBody st) (defScope st) .none kV doc pm an cdv ct), osl⟩) (c : PySem.W.codeIn K cdv x = true) (k : PySem.W.keepIn K (.ref f) = true) : Dfn K mg x st :=
  ⟨f, _, PySem.W.mg_of X G a, fun_mk l c k⟩
theorem rp_ints {K : Fr} {dr : Dr} {I : Hp} : ∀ ns : List Int, RpL K dr I (ns.map V.int) (ns.map Dt.int)
  | [] => .nil
  | n :: ns => .cons (.int n) (rp_ints ns)
/-- a tuple of whole numbers that the top has written -/
def Cst.ints {K : Fr} {h : Heap} {mg : Str → Option Value} {x : Str} {a : Addr} {its : Array Value} {od : Option Addr} {n : Nat} {sl : Array (Option Value)} (X : K.In h) (G : h.Ns mainGlobals mg) (ns : List Int)
    (e : PySem.W.nsIn K mainGlobals x = some (some (.ref a))) (l : K.lookup a = some ⟨.type "tuple", od, .seq its n, sl⟩) (hz : its.size ≤ sizeLine) (v : Vals (ns.map V.int) its.toList) : Cst K mg x (.tup (ns.map Dt.int)) :=
  ⟨.ref a, .ref a, PySem.W.mg_of X G e, rfl, fun _ _ => .tup (.inr ⟨_, _, _, l, rfl, rfl, hz, v⟩) (rp_ints ns)⟩
def Cst.int1 {K : Fr} {h : Heap} {mg : Str → Option Value} {x : Str} {t : Tok} (X : K.In h) (G : h.Ns mainGlobals mg) (i : Int) (e : PySem.W.nsIn K mainGlobals x = some (some (.int i t))) : Cst K mg x (.int i) :=
  ⟨.int i, .int i t, PySem.W.mg_of X G e, ⟨t, rfl⟩, fun _ _ => .int i⟩
theorem no_cx {P : Program} {w : World} {H : Hp} {s : Shared} {e : Value} {s' : Shared} (h : L2.CX P w [] H s (fun _ _ _ => False) e s') : False := by
  obtain ⟨_, _, _, _, _, _, _, _, _, _, _, _, z⟩ := h
  exact z
end DL

set_option maxRecDepth 100000
/-! DLB: tools for the plain laws over the mirrors. -/
namespace DL
open PySem L2
@[simp] theorem sl_c0 {s : Sl} {r : List Sl} : sl (s :: r) 0 = s := id rfl
@[simp] theorem sl_c1 {s : Sl} {r : List Sl} {n : Nat} : sl (s :: r) (n + 1) = sl r n := id rfl
@[simp] theorem put_c0 {s t : Sl} {r : List Sl} : put (s :: r) 0 t = t :: r := id rfl
@[simp] theorem put_c1 {s t : Sl} {r : List Sl} {n : Nat} : put (s :: r) (n + 1) t = s :: put r n t := id rfl
/-- plain data without truth values and dicts, at most k deep -/
def pln : Nat → Dt → Prop
  | _, .non => True
  | _, .int _ => True
  | _, .str x => PyData.strOk x = true
  | k + 1, .lst xs => ∀ x ∈ xs, pln k x
  | k + 1, .tup xs => ∀ x ∈ xs, pln k x
  | _, _ => False
theorem pyAll_ok {k : Nat} {xs : List Dt} (h : ∀ x ∈ xs, x.py.canLay0 = true ∧ x.py.depth ≤ k) : PyData.canLayAll0 (pyL xs) = true ∧ PyData.depthAll (pyL xs) ≤ k := by
  induction xs with
  | nil => exact ⟨rfl, Nat.zero_le _⟩
  | cons x xs ih =>
    have h1 := h x (by simp)
    have h2 := ih fun y hy => h y (by simp [hy])
    rw [pyL]
    refine ⟨?_, ?_⟩
    · simp only [PyData.canLayAll0, h1.1, h2.1, Bool.and_self]
    · simp only [PyData.depthAll]
      exact Nat.max_le.mpr ⟨h1.2, h2.2⟩
theorem pln.lay : ∀ {k : Nat} {d : Dt}, pln k d → d.py.canLay0 = true ∧ d.py.depth ≤ k
  | _, .non, _ => ⟨by simp [Dt.py, PyData.canLay0], by simp [Dt.py, PyData.depth]⟩
  | _, .int _, _ => ⟨by simp [Dt.py, PyData.canLay0], by simp [Dt.py, PyData.depth]⟩
  | 0, .str x, h => ⟨by simpa [Dt.py, PyData.canLay0, pln] using h, by simp [Dt.py, PyData.depth]⟩
  | _ + 1, .str x, h => ⟨by simpa [Dt.py, PyData.canLay0, pln] using h, by simp [Dt.py, PyData.depth]⟩
  | k + 1, .lst xs, h => by
    have := pyAll_ok (k := k) (xs := xs) fun x hx => pln.lay (h x hx)
    simp only [Dt.py, PyData.canLay0, PyData.depth]
    exact ⟨this.1, by omega⟩
  | k + 1, .tup xs, h => by
    have := pyAll_ok (k := k) (xs := xs) fun x hx => pln.lay (h x hx)
    simp only [Dt.py, PyData.canLay0, PyData.depth]
    exact ⟨this.1, by omega⟩
  | 0, .lst _, h => by simp [pln] at h
  | 0, .tup _, h => by simp [pln] at h
  | 0, .bl _, h => by simp [pln] at h
  | _ + 1, .bl _, h => by simp [pln] at h
  | 0, .dic _ _, h => by simp [pln] at h
  | _ + 1, .dic _ _, h => by simp [pln] at h
  | 0, .dit _ _, h => by simp [pln] at h
  | _ + 1, .dit _ _, h => by simp [pln] at h
  | 0, .st, h => by simp [pln] at h
  | _ + 1, .st, h => by simp [pln] at h
theorem pln.ok {k : Nat} {d : Dt} (h : pln k d) (hk : k ≤ 64 := by decide) : okD d := by
  obtain ⟨a, b⟩ := h.lay
  unfold okD SeqAt.shaped
  rw [a, decide_eq_true (Nat.le_trans b hk)]
  rfl
theorem eqvAll_iff {xs ys : List Dt} (h : ∀ x ∈ xs, ∀ y, y ∈ ys → (eqv x y = true ↔ x = y)) : PyData.eqvAll (pyL xs) (pyL ys) = true ↔ xs = ys := by
  induction xs generalizing ys with
  | nil =>
    cases ys with
    | nil => simp [pyL, PyData.eqvAll]
    | cons y ys => simp [pyL, PyData.eqvAll]
  | cons x xs ih =>
    cases ys with
    | nil => simp [pyL, PyData.eqvAll]
    | cons y ys =>
      have h1 := h x (by simp) y (by simp)
      have h2 := ih (ys := ys) fun a ha b hb => h a (by simp [ha]) b (by simp [hb])
      unfold eqv at h1
      simp only [pyL, PyData.eqvAll, Bool.and_eq_true, List.cons.injEq]
      rw [h1, h2]
theorem eqv_iff : ∀ {k : Nat} {x y : Dt}, pln k x → pln k y → (eqv x y = true ↔ x = y) := by
  intro k
  induction k with
  | zero =>
    intro x y hx hy
    cases x <;> cases y <;> simp [pln] at hx hy <;> simp [eqv, Dt.py, PyData.eqv]
  | succ k ih =>
    intro x y hx hy
    cases x <;> cases y <;> simp [pln] at hx hy <;> first
      | (simp [eqv, Dt.py, PyData.eqv]; done)
      | (simp only [eqv, Dt.py, PyData.eqv]
         rw [eqvAll_iff fun a ha b hb => ih (hx a ha) (hy b hb)]
         simp)
theorem eqv_false {k : Nat} {x y : Dt} (hx : pln k x) (hy : pln k y) (h : x ≠ y) : eqv x y = false := by
  cases e : eqv x y with
  | false => rfl
  | true => exact absurd ((eqv_iff hx hy).mp e) h
theorem eqv_self {k : Nat} {x : Dt} (hx : pln k x) : eqv x x = true := (eqv_iff hx hx).mpr rfl
@[simp] theorem pln_int {k : Nat} {i : Int} : pln k (.int i) := by cases k <;> trivial
@[simp] theorem pln_non {k : Nat} : pln k .non := by cases k <;> trivial
theorem pln_str {k : Nat} {x : Str} (h : PyData.strOk x = true) : pln k (.str x) := by cases k <;> exact h
theorem pln.up {k m : Nat} {d : Dt} (h : pln k d) (hk : k ≤ m) : pln m d := by
  induction k generalizing m d with
  | zero => cases d <;> simp [pln] at h <;> cases m <;> simp [pln, h]
  | succ k ih =>
    obtain ⟨m, rfl⟩ : ∃ m', m = m' + 1 := ⟨m - 1, by omega⟩
    cases d <;> simp [pln] at h ⊢
    · exact h
    · exact fun x hx => ih (h x hx) (by omega)
    · exact fun x hx => ih (h x hx) (by omega)
@[simp] theorem okD_int {i : Int} : okD (.int i) := pln.ok (k := 0) pln_int
@[simp] theorem okD_non : okD .non := pln.ok (k := 0) pln_non
@[simp] theorem eqv_int {i j : Int} : eqv (.int i) (.int j) = decide (i = j) := by
  have := eqv_iff (k := 0) (x := .int i) (y := .int j) pln_int pln_int
  by_cases h : i = j
  · rw [decide_eq_true h, this.mpr (by rw [h])]
  · rw [decide_eq_false h]
    exact eqv_false (k := 0) pln_int pln_int fun z => h (by cases z; rfl)
/-! ### loops -/
theorem forD_inv {g : G} {body : IS} {Pp : Po} (I : Nat → List Sl → Prop) {ds : List Dt} {env : List Sl} (h0 : I 0 env)
    (step : ∀ i d e, ds[i]? = some d → I i e → ∀ nx : List Sl → Prop, (∀ e', I (i + 1) e' → nx e') → g d e fun e1 => body e1 { Pp with nx := nx, ct := nx, bk := Pp.nx })
    (done : ∀ e, I ds.length e → Pp.nx e) : forD g body Pp ds env := by
  have key : ∀ (n i : Nat) (e : List Sl), i + n = ds.length → I i e → forD g body Pp (ds.drop i) e := by
    intro n
    induction n with
    | zero =>
      intro i e hi hI
      have : i = ds.length := by omega
      subst this
      rw [List.drop_length]
      exact done e hI
    | succ n ih =>
      intro i e hi hI
      have hlt : i < ds.length := by omega
      have hdrop : ds.drop i = ds[i] :: ds.drop (i + 1) := (List.getElem_cons_drop (h := hlt)).symm
      rw [hdrop]
      exact step i ds[i] e (List.getElem?_eq_getElem hlt) hI _ fun e' he => ih (i + 1) e' (by omega) he
  have := key ds.length 0 env (by omega) h0
  rwa [List.drop_zero] at this
/-! ### comprehensions -/
inductive All2 {α β : Type} (S : α → β → Prop) : List α → List β → Prop
  | nil : All2 S [] []
  | cons {a : α} {b : β} {as : List α} {bs : List β} : S a b → All2 S as bs → All2 S (a :: as) (b :: bs)
theorem All2.len {α β : Type} {S : α → β → Prop} : ∀ {as : List α} {bs : List β}, All2 S as bs → as.length = bs.length
  | _, _, .nil => rfl
  | _, _, .cons _ t => congrArg (· + 1) t.len
theorem All2.get {α β : Type} {S : α → β → Prop} {as : List α} {bs : List β} (h : All2 S as bs) {i : Nat} {b : β} (e : bs[i]? = some b) : ∃ a, as[i]? = some a ∧ S a b := by
  induction h generalizing i with
  | nil => simp at e
  | cons s t ih =>
    cases i with
    | zero => simp at e; subst e; exact ⟨_, rfl, s⟩
    | succ i => simpa using ih (by simpa using e)
theorem All2.mem {α β : Type} {S : α → β → Prop} {as : List α} {bs : List β} (h : All2 S as bs) {b : β} (m : b ∈ bs) : ∃ a, a ∈ as ∧ S a b := by
  obtain ⟨i, hi, e⟩ := List.mem_iff_getElem.mp m
  obtain ⟨a, e1, s⟩ := h.get (i := i) (b := b) (by rw [List.getElem?_eq_getElem hi, e])
  exact ⟨a, List.mem_of_getElem? e1, s⟩
def cStep (g : G) (it : IT) (ie : IE) (env : List Sl) (d : Dt) (Q : Dt → Prop) (R : Prop) : Prop := g d env fun e1 => it e1 (fun b => if b = true then ie e1 Q (fun _ => False) else R) fun _ => False
theorem compD_rel {g : G} {it : IT} {ie : IE} {env : List Sl} {P : Dt → Prop} (S : Dt → Dt → Prop) : ∀ {ds : List Dt} {outs : List Dt},
    (∀ d ∈ ds, ∀ (Q : Dt → Prop) (R : Prop), (∀ y, S d y → Q y) → cStep g it ie env d Q R) → (∀ ys, All2 S ds ys → P (.lst (outs ++ ys))) → compD g it ie env P ds outs
  | [], outs, _, k => by have := k [] .nil; rwa [List.append_nil] at this
  | d :: ds, outs, h, k => h d (by simp) _ _ fun y s => compD_rel S (fun e he => h e (by simp [he])) fun ys a => by have := k (y :: ys) (.cons s a); rwa [List.append_assoc]
theorem compD_fm {g : G} {it : IT} {ie : IE} {env : List Sl} {P : Dt → Prop} (p : Dt → Bool) (f : Dt → Dt) : ∀ {ds : List Dt} {outs : List Dt},
    (∀ d ∈ ds, ∀ (Q : Dt → Prop) (R : Prop), (if p d = true then Q (f d) else R) → cStep g it ie env d Q R) → P (.lst (outs ++ (ds.filter p).map f)) → compD g it ie env P ds outs
  | [], outs, _, k => by show P (.lst outs); simpa using k
  | d :: ds, outs, h, k => h d (by simp) _ _ (by
      cases e : p d with
      | true =>
        simp only [if_true]
        exact compD_fm p f (fun e he => h e (by simp [he])) (by simpa [List.filter_cons, e] using k)
      | false =>
        simp only [Bool.false_eq_true, if_false]
        exact compD_fm p f (fun e he => h e (by simp [he])) (by simpa [List.filter_cons, e] using k))
theorem compD_map {g : G} {it : IT} {ie : IE} {env : List Sl} {P : Dt → Prop} (f : Dt → Dt) {ds : List Dt}
    (h : ∀ d ∈ ds, ∀ (Q : Dt → Prop) (R : Prop), Q (f d) → cStep g it ie env d Q R) (k : P (.lst (ds.map f))) : compD g it ie env P ds [] :=
  compD_fm (fun _ => true) f (fun d hd Q R q => h d hd Q R (by simpa using q)) (by rw [List.filter_eq_self.mpr fun _ _ => rfl]; exact k)
/-- over a list of given things -/
theorem compD_mapG {α : Type} {e : α → Dt} {g : G} {it : IT} {ie : IE} {env : List Sl} {P : Dt → Prop} (f : α → Dt) : ∀ {as : List α} {outs : List Dt},
    (∀ a ∈ as, ∀ (Q : Dt → Prop) (R : Prop), Q (f a) → cStep g it ie env (e a) Q R) → P (.lst (outs ++ as.map f)) → compD g it ie env P (as.map e) outs
  | [], outs, _, k => by show P (.lst outs); simpa using k
  | a :: as, outs, h, k => h a (by simp) _ _ (compD_mapG f (fun b hb => h b (by simp [hb])) (by simpa using k))
theorem compD_fmG {α : Type} {e : α → Dt} {g : G} {it : IT} {ie : IE} {env : List Sl} {P : Dt → Prop} (p : α → Bool) (f : α → Dt) : ∀ {as : List α} {outs : List Dt},
    (∀ a ∈ as, ∀ (Q : Dt → Prop) (R : Prop), (if p a = true then Q (f a) else R) → cStep g it ie env (e a) Q R) → P (.lst (outs ++ (as.filter p).map f)) → compD g it ie env P (as.map e) outs
  | [], outs, _, k => by show P (.lst outs); simpa using k
  | a :: as, outs, h, k => h a (by simp) _ _ (by
      cases q : p a with
      | true =>
        simp only [if_true]
        exact compD_fmG p f (fun e he => h e (by simp [he])) (by simpa [List.filter_cons, q] using k)
      | false =>
        simp only [Bool.false_eq_true, if_false]
        exact compD_fmG p f (fun e he => h e (by simp [he])) (by simpa [List.filter_cons, q] using k))
theorem compD_relG {α β : Type} {e : α → Dt} {o : β → Dt} {g : G} {it : IT} {ie : IE} {env : List Sl} {P : Dt → Prop} (S : α → β → Prop) : ∀ {as : List α} {outs : List Dt},
    (∀ a ∈ as, ∀ (Q : Dt → Prop) (R : Prop), (∀ y, S a y → Q (o y)) → cStep g it ie env (e a) Q R) → (∀ ys, All2 S as ys → P (.lst (outs ++ ys.map o))) → compD g it ie env P (as.map e) outs
  | [], outs, _, k => by have := k [] .nil; rwa [List.map_nil, List.append_nil] at this
  | a :: as, outs, h, k => h a (by simp) _ _ fun y s => compD_relG S (fun b hb => h b (by simp [hb])) fun ys q => by have := k (y :: ys) (.cons s q); rw [List.append_assoc]; exact this
theorem rng0 (n : Nat) : rng 0 1 n = (List.range n).map fun (i : Nat) => Dt.int (i : Int) := by
  unfold rng
  exact List.map_congr_left fun i _ => by rw [Int.zero_add, Int.mul_one]
theorem rng_lo (a : Int) (n : Nat) : rng a 1 n = (List.range n).map fun (i : Nat) => Dt.int (a + (i : Int)) := by
  unfold rng
  exact List.map_congr_left fun i _ => by rw [Int.mul_one]
/-! ### places -/
theorem ixL {xs : List Dt} {i : Nat} {d : Dt} {P : Dt → Prop} (h : xs[i]? = some d) (p : P d) : ixD (.lst xs) (.int (i : Int)) P := ⟨d, atI_nat h, p⟩
theorem ixT {xs : List Dt} {i : Nat} {d : Dt} {P : Dt → Prop} (h : xs[i]? = some d) (p : P d) : ixD (.tup xs) (.int (i : Int)) P := ⟨d, atI_nat h, p⟩
@[simp] theorem atI_natE {α : Type} {xs : List α} {j : Nat} : atI xs (j : Int) = xs[j]? := by
  unfold atI ixN
  rw [if_pos (by omega)]
  by_cases h : j < xs.length
  · rw [if_pos (by omega)]; simp
  · rw [if_neg (by omega), List.getElem?_eq_none (by omega)]; rfl
@[simp] theorem atI_0 {α : Type} {x : α} {xs : List α} : atI (x :: xs) 0 = some x := atI_natE (j := 0)
@[simp] theorem atI_1 {α : Type} {x y : α} {xs : List α} : atI (x :: y :: xs) 1 = some y := atI_natE (j := 1)
@[simp] theorem atI_2 {α : Type} {x y z : α} {xs : List α} : atI (x :: y :: z :: xs) 2 = some z := atI_natE (j := 2)
@[simp] theorem atI_3 {α : Type} {x y z u : α} {xs : List α} : atI (x :: y :: z :: u :: xs) 3 = some u := atI_natE (j := 3)
theorem mulOk {m n : Nat} {a b : Int} (ha : a.natAbs < 2 ^ m) (hb : b.natAbs < 2 ^ n) (h : m + n ≤ 134217728 := by decide) : IntMulOk a b := IntMulOk.of_le (intBits_le_iff.mpr ha) (intBits_le_iff.mpr hb) h
theorem divOk {a b : Int} (h : b.natAbs < 2 ^ 8000) : DivOk a b := by
  refine PyProof.noPylong_of_log2 ?_
  by_cases h0 : b.natAbs = 0
  · rw [h0]; decide
  · have := (Nat.log2_lt h0).mpr h
    omega
end DL

set_option maxRecDepth 100000
set_option maxHeartbeats 2000000
/-! DLX: an own exception over a chain of classes over ValueError, whose __init__ says super().__init__(text) and keeps its word. -/
namespace DLX
open PySem PySem.Spec PySem.W PyProof.Rows L2 NdefX
/-- what the top has written of the class x, its __init__ the def st -/
structure MissF (P : Program) (K : PySem.W.Frag) (mg : Str → Option Value) (x qual : Str) (st : Stmt) (C fI cda cc : Addr) (fd : FuncData) : Prop where
  g : mg x = some (.ref C)
  oex : OexC K C
  ini : findIn K (.ref C) "__init__" = some (some (.ref fI))
  tyI : typeIn K (.ref fI) = some (.type "function")
  fn : ∃ oc od doc pm ct osl, fd = ksFn "__init__" qual (defArgs st) (defBody st) (defScope st) .none .none doc pm none (.ref cda) ct cc ∧ K.lookup fI = some ⟨oc, od, .func fd, osl⟩
  code : codeIn K (.ref cda) qual = true
  file : ∃ ccl cdd vs ccs file tf, K.lookup cda = some ⟨ccl, cdd, .fields vs, ccs⟩ ∧ vs[2]? = some (.str file tf) ∧ ((P.main.file : Str) == file) = true
  cell : ∃ cl cld csl, K.lookup cc = some ⟨cl, cld, .cell (some (.ref C)), csl⟩
  cls : ∃ cd, clsIn K C = some cd
  sub : mroIn K C (.ref C) = some true
  sup : ks_superIn K C C "__init__" = some (some (.builtin "ValueError.__init__"))
  ve : subIn K (.ref C) (.type "ValueError") = some true
  opq : nsIn K cStatics "thirdparty.any" = some none
  wd : findIn K (.ref C) "word" = some none
  bs : mg "super" = none
  top : (P.main.scope.names.lookup ("super" : Str)).isSome = false
  xf : XfC K C
/-- what its __init__ promises -/
def spInit (C : Addr) : Sp := fun vs H Q _ => ∃ (a : Addr) (wd : Str), vs = [.ref a, .str wd] ∧ wd.length ≤ 1000 ∧ H a = some (exo a C none) ∧ ∀ dx, H dx = none → dx ≠ a → Q .non (upd (upd H dx (exd dx [("word", .str wd)])) a (exo a C (some dx)))
section
variable {P : Program} {w : World} {K : PySem.W.Frag} {mg : Str → Option Value} {base : Heap} {x qual : Str} {st : Stmt} {C fI cda cc : Addr} {fd : FuncData} {txt : Str} {j : Nat} {p0 p1 p2 p3 p4 p5 p6 p7 p8 p9 p10 p11 : Pos}
abbrev nf (qual : Str) (st : Stmt) (cda cc : Addr) : NF := ⟨"__init__", qual, defArgs st, defBody st, defScope st, [("__class__", cc)], cda⟩
theorem init_ok (Z : MissF P K mg x qual st C fI cda cc fd) (S : NScope ["self", "word", "__class__"] ["self", "word"] ["__class__"] (defScope st))
    (hb : defBody st = [.Expr (.Call (.Attribute (.Call (.Name "super" p0) [] [] p1) "__init__" p2) [.BinOp (.Constant (.str txt) j p3) .Add (.Name "word" p4) p5] [] p6) p7, .Assign [.Attribute (.Name "self" p8) "word" p9] (.Name "word" p10) p11])
    (hp : ((defArgs st).posonlyargs ++ (defArgs st).args).head?.map (·.arg) = some "self") (hks : (defScope st).names.lookup ("super" : Str) = some .globalImplicit) (hkw : (defScope st).names.lookup ("word" : Str) = some .local) (hlt : txt.length ≤ 1000)
    (hi : ∀ L, interactive (ksEnv qual (defScope st) L fI (.ref cda) cc) = false)
    (hsw : ∀ L, swapsWith (.Call (.Attribute (.Call (.Name "super" p0) [] [] p1) "__init__" p2) [.BinOp (.Constant (.str txt) j p3) .Add (.Name "word" p4) p5] [] p6) none p7.line (ksEnv qual (defScope st) L fI (.ref cda) cc) = pure false)
    (hsa : ∀ L, swapsWith (.Name "word" p10) (some (.Attribute (.Name "self" p8) "word" p9)) p11.line (ksEnv qual (defScope st) L fI (.ref cda) cc) = pure false)
    (pl : Sem Bool)
    (he : ∀ L, eval (.Call (.Attribute (.Call (.Name "super" p0) [] [] p1) "__init__" p2) [.BinOp (.Constant (.str txt) j p3) .Add (.Name "word" p4) p5] [] p6) (ksEnv qual (defScope st) L fI (.ref cda) cc) = (do
      let ov ← attributeBase (.Call (.Name "super" p0) [] [] p1) "__init__" (ksEnv qual (defScope st) L fI (.ref cda) cc) (eval (.Call (.Name "super" p0) [] [] p1) (ksEnv qual (defScope st) L fI (.ref cda) cc))
      standAt p2.atName
      let (f, first) ← holding [ov] (getMethod ov "__init__" pl)
      callWith p6 f first (backTo p6 (starEach [.BinOp (.Constant (.str txt) j p3) .Add (.Name "word" p4) p5] (ksEnv qual (defScope st) L fI (.ref cda) cc))) [])) :
    FnOk P w K mg base (L2.CX P w) 3 fI fd ["self", "word"] (spInit C) := by
  refine ⟨fun vs H Q E h => ?_, fun A outer s H args us vs Q E hr e0 hbd r hsp => ?_⟩
  · obtain ⟨a, wd, rfl, _⟩ := h; rfl
  obtain ⟨a, wd, rfl, hwl, ea, hQ⟩ := hsp
  have hKI : K.In s.heap := e0.mod.kin.keeps fun b o e => (e0.bs b o e).1
  have lim : s.heap.NoLimit := e0.mod.nolimit.keeps fun b o e => (e0.bs b o e).1
  have hK0 : ∀ {b o}, K.lookup b = some o → H b = none := fun {b o} e => (e0.bs b o (e0.mod.kin _ _ e)).2
  obtain ⟨oc, od, doc, pm, ct, osl, rfl, lf⟩ := Z.fn
  obtain ⟨cl, cld, csl, hcell⟩ := Z.cell
  obtain ⟨cdD, hcd⟩ := Z.cls
  obtain ⟨ccl, cdd, cvs, ccs, file, tf, hco, hvs, hfile⟩ := Z.file
  cases r with
  | @cons _ u0 _ us1 r0 r1 =>
  cases r1 with
  | @cons _ u1 _ us2 ru rn =>
  cases rn
  obtain rfl : u0 = .ref a := r0
  obtain ⟨tw, rfl⟩ : ∃ t, u1 = .str wd t := ru
  refine ks_codeAny_call_defAt (fd := ksFn "__init__" qual (defArgs st) (defBody st) (defScope st) .none .none doc pm none (.ref cda) ct cc) (body := defBody st) hr.depth (hKI _ _ lf) rfl lim (codeRec_of hKI Z.code) rfl hbd S.nocell
    (fun y hy => S.par _ (List.of_mem_zip hy).1) (fun h₁ hns kp => ?_) S.co S.gen S.kind
  have cl1 : ∀ (y : Str) (c : Addr), List.lookup y [(("__class__" : Str), cc)] = some c → y = ("__class__" : Str) ∧ c = cc := fun y c e => by
    by_cases h : (y == ("__class__" : Str)) = true
    · rw [List.lookup_cons, h] at e
      exact ⟨eq_of_beq h, (Option.some.inj e).symm⟩
    · rw [List.lookup_cons, Bool.not_eq_true _ |>.mp h] at e
      cases e
  have CA : CellsAt [("__class__", cc)] ["__class__"] [none] s.heap H := by
    refine ⟨rfl, fun y c e => ?_, fun x y c e1 e2 => (cl1 _ _ e1).1.trans (cl1 _ _ e2).1.symm, fun i y e => ?_⟩
    · obtain ⟨_, rfl⟩ := cl1 y c e
      exact ⟨hK0 hcell, _, _, hKI _ _ hcell, rfl⟩
    · cases i with
      | zero =>
        simp at e
        subst e
        exact ⟨cc, rfl, fun v z => by simp at z⟩
      | succ i => simp at e
  have rr : Vals [V.ref a, V.str wd] [Value.ref a, Value.str wd tw] := .cons rfl (.cons ⟨tw, rfl⟩ .nil)
  have I := inv_startN (CX := L2.CX P w) (F := nf qual st cda cc) (f := fI) (E := E) (tk := s.toks + (["self", "word"].zip [Value.ref a, .str wd tw]).length) S hr.hd e0 rfl rr CA hns kp
  have hK1 : K.In h₁ := hKI.keeps kp
  show _root_.PySem.wpAt (model P w) (A.deeper (ksEnv qual (defScope st) s.heap.objs.size fI (.ref cda) cc)) (.func (defBody st) (ksEnv qual (defScope st) s.heap.objs.size fI (.ref cda) cc)) (execs (defBody st) (ksEnv qual (defScope st) s.heap.objs.size fI (.ref cda) cc)) _ _ _
  rw [show execs (defBody st) = execs _ from congrArg execs hb]
  obtain ⟨t1, hx⟩ := exo_at I.hok ea
  refine ks_wpAt_execs_cons (ks_wpAt_Expr_any (ks_wpAt_MethodCall (pl := pl) ?_ (he _)) (hi _) (hsw _))
  obtain ⟨oD, hD1, hD2⟩ : ∃ oD, h₁.get? C = some oD ∧ oD.data = .cls cdD := by
    unfold clsIn at hcd
    split at hcd
    · rename_i c d cd' sl ho
      cases hcd
      exact ⟨_, hK1 _ _ ho, rfl⟩
    · cases hcd
  obtain ⟨ar, har, harn⟩ := Option.map_eq_some_iff.mp hp
  refine ks_wpAt_super_base hks (S.frk _ (by simp)) (by decide) rfl (hK1 _ _ lf) rfl har rfl (hK1 _ _ hco) rfl hvs hfile Z.top ?_
  obtain ⟨mb, hb1, hb2⟩ := e0.mod.blt
  have hbk : ∀ b o, base.get? b = some o → h₁.get? b = some o := fun b o e => kp _ _ (e0.bs b o e).1
  refine ks_loadName_global S.kind hks (Calls.loadGlobal_builtin (e0.mod.glob.keeps hbk) Z.bs (hb1.keeps hbk) ((hb2 _ (by decide)).trans (by first | exact PyProof.Rows.Boot.«super» | rfl)) ⟨rfl, ?_⟩)
  refine wpAny_loadName_free S.kind (S.frk _ (by simp)) rfl ⟨_, hK1 _ _ hcell, rfl⟩ ?_
  have hvs2 : ((["self", "word"] : List Str).zip [Value.ref a, Value.str wd tw]).reverse.lookup ar.arg = some (Value.ref a) := by rw [harn]; rfl
  refine wpAny_loadName_local S.kind (by rw [harn]; exact S.par _ (by simp)) hns hvs2 ?_
  refine ks_wpAny_isType_cls hD1 hD2 ⟨rfl, ?_⟩
  refine ks_wpAny_call_super hD1 hD2 hx rfl (fun c => by simp) (looks_mroIn hK1 Z.sub) (fun h2 e2 k2 => ?_)
  have I2 := I.kept (t' := s.toks + (["self", "word"].zip [Value.ref a, Value.str wd tw]).length) k2
  have hK2 : K.In h2 := hK1.keeps k2
  have J2 : InstAt h2 a ({ cls := .ref C, dict := none, data := .fields #[.ref t1, .none, .none, .none, .bool false, .none] } : Obj) C none := ⟨k2 _ _ hx, rfl, rfl, trivial⟩
  have hsup := Z.sup
  unfold ks_superIn at hsup
  rw [hcd] at hsup
  refine kxs_getMethod kxs_ValueError e2 (looks_opaque hK2 Z.opq) (l₀ := cdD.mro) (fun A Q E s k q => wpAny_bind ((looks_clsIn hK2 hcd) A _ E s k (wpAny_pure q))) rfl hK2 hsup (J2.type.andThen (looks_subIn hK2 Z.ve)) (ks_ne hK2 J2 hcd) (by decide) ?_
  -- the bound __init__, pinned while the text is made
  have nu : H h2.objs.size = none := I2.hok.fresh (Nat.le_refl _)
  have I3 := I2.kept (h' := h2.push (kxs_mw "ValueError.__init__" a)) (t' := s.toks + (["self", "word"].zip [Value.ref a, Value.str wd tw]).length + 1) (fun b o e => Heap.get?_push_of_some _ e)
  have I4 := I3.pins_of (pins' := [(h2.objs.size, kxs_mw "ValueError.__init__" a)]) (fun p hp => by
    rw [List.mem_singleton] at hp
    subst hp
    refine ⟨Heap.get?_push_at rfl rfl, nu, fun z => ?_, fun z => ?_, fun v => by simp⟩
    · obtain ⟨m, ⟨o, es, ep, ho, _⟩, _⟩ := I2.loc
      have := Heap.lt_size ho
      rw [← z] at this
      exact absurd this (Nat.lt_irrefl _)
    · exact I2.nofs (Nat.le_refl _) z)
  have hpv : PE (ncx (L2.CX P w) P w K mg base ["self", "word", "__class__"] (nf qual st cda cc) fI A outer s H E) (.Name "word" p4) (tVar 1) := pe_var (i := 1) (x := "word") rfl (Or.inl hkw) (by decide)
  have hpa := pa_cons (pe_op (pos := p5) op_add_str (pe_str (x := txt) (j := j) (pos := p3)) hpv) (pa_nil (X := ncx (L2.CX P w) P w K mg base ["self", "word", "__class__"] (nf qual st cda cc) fI A outer s H E))
  have run := hpa.run p6 [(h2.objs.size, kxs_mw "ValueError.__init__" a)] _ _ H (fun vs H1 => vs = [V.str (txt ++ wd)] ∧ H1 = H) I4 (by
    refine ⟨.str wd, rfl, txt, wd, rfl, rfl, ?_, rfl, rfl⟩
    rw [sizeLine_eq]; omega)
  have he1 : starEach [.BinOp (.Constant (.str txt) j p3) .Add (.Name "word" p4) p5] (ksEnv qual (defScope st) s.heap.objs.size fI (.ref cda) cc) = [(false, eval (.BinOp (.Constant (.str txt) j p3) .Add (.Name "word" p4) p5) (ksEnv qual (defScope st) s.heap.objs.size fI (.ref cda) cc))] := rfl
  show wpAny _ _ (callWith p6 (.ref h2.objs.size) [] (backTo p6 (starEach _ (ksEnv qual (defScope st) s.heap.objs.size fI (.ref cda) cc))) []) _ _ _
  refine kxs_callWith (i := "ValueError.__init__") (x := a) rfl ?_
  refine Calls.evalArgs_plain (wpAny_mono run (fun us s5 hh => ?_) fun _ _ z => z)
  obtain ⟨vs5, H5, I5, r5, e5, eH⟩ := hh
  subst e5
  rw [eH] at I5
  have hu := (I5.pin (h2.objs.size, kxs_mw "ValueError.__init__" a) (List.mem_append_right _ (by simp))).1
  refine ⟨hu, ?_⟩
  obtain ⟨h5, g5, d5, t5, os5⟩ := s5
  obtain ⟨tx, hx5⟩ := exo_at I5.hok ea
  obtain ⟨nm, q, N, bs, bm, sn, sub, ab, col, dd, k0, k1, k2', k3, k5, hC, hbm⟩ := Z.oex.cls
  have hC5 := I5.kIn _ _ hC
  have hus : us.length ≤ sizeLine := by
    rw [← r5.length, sizeLine_eq]; simp
  refine wpAny_call (codeAny_of_tree ?_)
  show wpAny _ (Around.in1 _) (callAny (.ref h2.objs.size) ⟨us, []⟩) _ _ _
  simp only [callAny]
  refine wpAny_bind (wpAny_load hu ?_)
  simp only [kxs_mw, show (Value.type "method-wrapper" == Value.type "method" || Value.type "method-wrapper" == Value.type "builtin_function_or_method" || Value.type "method-wrapper" == Value.type "method-wrapper") = true by decide, if_true]
  refine KFB.if_so (by decide) ?_
  refine wpAny_bind (check_bound_init F.excBase_ValueError.toExcCallFacts hC5 hx5 rfl ?_)
  refine wpAny_bind (wpAny_pure (wpAny_pure ?_))
  refine ⟨plainId_quiet F.excBase_ValueError.init.plain _, codeAny_builtin F.excBase_ValueError.initEntry ?_⟩
  refine exc_init_tree (cls := .ref C) (t0 := tx) (dv := none) (c2 := .none) (c3 := .none) (b4 := .bool false) hx5 hus fun h6 k6 hx6 _ => ?_
  have J := I5.write (t' := t5) (x := a) (e := a) (o := exo a C none) (by rw [ea]; exact True.intro) (.inl rfl) k6 ⟨_, hx6⟩ (exo_ok hx6)
  have eu : upd H a (exo a C none) = H := by
    funext b
    by_cases hb : b = a
    · rw [hb, upd_same, ea]
    · rw [upd_ne hb]
  rw [eu] at J
  have J0 := J.pins_of (pins' := []) (fun p hp => by simp at hp)
  refine wpAt_of_wpAny ?_
  have ps : PSs (ncx (L2.CX P w) P w K mg base ["self", "word", "__class__"] (nf qual st cda cc) fI A outer s H E) [.Assign [.Attribute (.Name "self" p8) "word" p9] (.Name "word" p10) p11] _ :=
    pss_one (ps_ost (pe_var (i := 0) (x := "self") rfl (Or.inl (S.par _ (by simp))) (by decide)) (pe_var (i := 1) (x := "word") rfl (Or.inl hkw) (by decide)) (hsa _))
  refine wpAny_mono (ps.run [] _ _ H { nx := fun _ H' => Q .non H', rt := Q } J0 ?_) (fun fl s' hs => ?_) fun e s' hs => hs
  · refine ⟨.str wd, rfl, .ref a, rfl, a, C, rfl, Z.oex, Z.wd, .inl ⟨ea, fun dx hd hne => ?_⟩⟩
    exact hQ dx hd hne
  · have fin : ∀ {σ' : L2.St} {H' : Hp} {v : V} {u : Value}, Inv (ncx (L2.CX P w) P w K mg base ["self", "word", "__class__"] (nf qual st cda cc) fI A outer s H E) [] σ' H' s' → L2.RelV v u → Q v H' → CE outer P w H s Q u s' :=
      fun {σ' H' v u} J rv q => ⟨v, H', J.os, J.bare, J.base, J.hok, rv, q⟩
    cases fl with
    | ret u =>
      obtain ⟨v, σ', H', J, rv, q⟩ := hs
      exact fin J rv q
    | next =>
      obtain ⟨σ', H', J, q⟩ := hs
      exact fin (v := V.non) (u := Value.none) J rfl q
    | brk =>
      obtain ⟨_, _, _, q⟩ := hs
      exact False.elim q
    | cont =>
      obtain ⟨_, _, _, q⟩ := hs
      exact False.elim q
end
end DLX

set_option maxRecDepth 100000
set_option maxHeartbeats 1000000
/-! DLY: raising an own exception, catching it. -/
namespace DL
open PySem L2 DLX
/-- the exception x('word') as it flies -/
def XM (C : Addr) (x : Str) : XR := fun e cls d H => ∃ (wd : Str) (dx : Addr), e = (x, [.str wd]) ∧ cls = .ref C ∧ d = some dx ∧ H dx = some (.xd [(("word" : Str), .str wd)])
def sRaise (x : Str) (il : IA) : IS := fun env Pp => il env (fun ds => match ds with
  | [.str wd] => wd.length ≤ 1000 ∧ Pp.ex (x, [.str wd]) env
  | _ => False) (fun x => Pp.ex x env)
section
variable {K : Fr} {xr : XR} {W : WX} {ta : TA} {il : IA}
theorem sndS_raise {C : Addr} {x : Str} (hx : ∀ e c d H, XM C x e c d H → xr e c d H) (ha : SndA K xr W ta il) : SndS K xr W (fun _ σ H => tMkO C (spInit C) [] ta σ H fun cls d H' => W cls d σ H') (sRaise x il) := fun dr J B Gh env σ I H Pp D s h o => by
  refine ha dr env σ I H _ _ s.pre s.ev h (o.e s) _ fun ds vs H1 hd k1 r1 => ?_
  split at hd
  · rename_i wd
    obtain ⟨hl, hE⟩ := hd
    cases r1 with
    | cons r t =>
      cases t
      cases r
      refine ⟨by simp, fun a ha => ⟨a, wd, rfl, hl, upd_same, fun dx hdx hne => ?_⟩⟩
      have h1 : H1 dx = none := by rwa [upd_ne hne] at hdx
      refine ⟨rfl, dx, [("word", .str wd)], upd_same, ?_, h1, ?_⟩
      · rw [upd_ne hne, upd_same]
      · refine o.e s (x, [.str wd]) _ _ _ hE ?_ (hx _ _ _ _ ⟨wd, dx, rfl, rfl, rfl, upd_same⟩)
        have p1 := s.pre.step k1
        have e : upd (del (upd (upd (upd H1 a (exo a C none)) dx (exd dx [("word", .str wd)])) a (exo a C (some dx))) a) dx (.xd [("word", .str wd)]) = upd H1 dx (.xd [("word", .str wd)]) := by
          funext b
          by_cases hb : b = dx
          · subst hb; rw [upd_same, upd_same]
          · rw [upd_ne hb, upd_ne hb]
            by_cases hba : b = a
            · subst hba; rw [del_same, ha]
            · rw [del_ne hba, upd_ne hba, upd_ne hb, upd_ne hba]
        rw [e]
        exact k1.trans (Kp.new p1 h1)
  · exact hd.elim
end
end DL
namespace DL
open PySem L2 DLX
/-- try: .. except x as n: return n.word -/
def sTryW (i : Nat) (is : IS) : IS := fun env Pp => is env { Pp with ex := fun e env' => match e.2 with
  | [.str wd] => i < env'.length ∧ Pp.rt (.str wd)
  | _ => False }
/-- try: .. except x: return d -/
def sTryC (d : Dt) (is : IS) : IS := fun env Pp => is env { Pp with ex := fun _ _ => Pp.rt d }
section
variable {K : Fr} {xr : XR} {W Wout : WX} {is : IS} {tb : WX → TS}
theorem sndS_tryW {C : Addr} {x : Str} {i : Nat} (hx : ∀ e c d H, xr e c d H → XM C x e c d H) (hm : PySem.W.exmOne K (.ref C) (.ref C) = some true) (hb : ∀ W', SndS K xr W' (tb W') is) :
    SndS K xr W (fun D σ H => tb (wAs K (.ref C) i (fun a cls d => tRet (tXf a cls d C "word" (tVar i))) Wout D) D σ H) (sTryW i is) := fun dr J B Gh env σ I H Pp D s h o =>
  hb _ dr J B Gh env σ I H _ D s h ⟨o.nx, o.bk, o.ct, o.rt, fun e c d env' σ' I' H' he s' hr => by
    obtain ⟨wd, dx, rfl, rfl, rfl, hd⟩ := hx _ _ _ _ hr
    obtain ⟨hl, hP⟩ := he
    refine ⟨true, hm, fun _ a ha => ?_, fun z => by cases z⟩
    refine ⟨.ref a, ?_, rfl, rfl, dx, _, .str wd, rfl, hd, rfl, o.rt _ _ _ hP s'.kp (.str wd)⟩
    rw [List.getElem?_set_self (by rw [s'.ev.len]; exact hl)]⟩
theorem sndS_tryC {C : Addr} {x : Str} {v : V} {d0 : Dt} (hx : ∀ e c d H, xr e c d H → XM C x e c d H) (hm : PySem.W.exmOne K (.ref C) (.ref C) = some true) (hv : ∀ dr I, Rp K dr I v d0) (hb : ∀ W', SndS K xr W' (tb W') is) :
    SndS K xr W (fun D σ H => tb (wOnly K (.ref C) (fun _ _ _ => tRet (tC v)) Wout D) D σ H) (sTryC d0 is) := fun dr J B Gh env σ I H Pp D s h o =>
  hb _ dr J B Gh env σ I H _ D s h ⟨o.nx, o.bk, o.ct, o.rt, fun e c d env' σ' I' H' he s' hr => by
    obtain ⟨wd, dx, rfl, rfl, rfl, hd⟩ := hx _ _ _ _ hr
    exact ⟨true, hm, fun _ a ha => o.rt _ _ _ he s'.kp (hv _ _), fun z => by cases z⟩⟩
end
end DL
namespace DL
open PySem L2 DLX
theorem passF {X : Cx} : Passes (L2.CX X.prog X.w) X (fun _ _ _ => False) := by
  intro pins σ H s e s' I c
  obtain ⟨_, _, _, _, _, _, _, _, _, _, _, _, z⟩ := c
  exact z.elim
section
variable {xr : XR} {X : Cx} {W : WX} {C fI cda cc : Addr} {fd : FuncData} {x qual : Str} {st : Stmt} {e : Expr} {es : List Expr} {il : IA} {p pos pos' : Pos} {ds : List Value}
theorem ls_raise (hc : X.calm = true) (tk : Takes X W) (Z : MissF X.prog X.K X.mg x qual st C fI cda cc fd) (F1 : FnOk X.prog X.w X.K X.mg X.base (L2.CX X.prog X.w) 3 fI fd ["self", "word"] (spInit C)) (hr : Room 4 X.A) (hb : Binds X.K fd ["self", "word"] [])
    (hx : ∀ e c d H, XM C x e c d H → xr e c d H) (hg : Gl X x) (ha : LA xr X W (e :: es) il) (hdb : (x == ("__debug__" : Str)) = false := by decide) (he : starEach (e :: es) X.env = (false, eval e X.env) :: starEach es X.env := by rfl) (hpl : (backTo pos (starEach es X.env)).any (·.1) = false := by rfl) :
    LS xr X W (.Raise (some (.Call (.Name x p) (e :: es) [] pos)) none pos') (sRaise x il) := by
  obtain ⟨_, pa, sa⟩ := ha
  exact ⟨_, ps_raise hc tk (pmk_oex Z.oex Z.ini Z.tyI F1 hr hb .nil passF hg Z.g pa hdb he hpl), sndS_raise hx sa⟩
end
end DL
namespace DL
open PySem L2 DLX
section
variable {xr : XR} {X : Cx} {W : WX} {C fI cda cc : Addr} {fd : FuncData} {x qual n : Str} {st : Stmt} {is : IS} {body : List Stmt} {np p1 p2 p3 pos pos' : Pos} {i : Nat}
theorem one_body (hb : ∀ (W' : WX) (pn : List (Addr × Obj)) (xe : Value → Shared → Prop), Takes (X.tr pn xe) W' → PassesOwn (model X.prog X.w) X.A X.env xe → ∃ t, PSs (X.tr pn xe) body t ∧ SndS X.K xr W' t is) :
    ∃ tb : WX → TS, ∀ W' : WX, (∀ (pn : List (Addr × Obj)) (xe : Value → Shared → Prop), Takes (X.tr pn xe) W' → PassesOwn (model X.prog X.w) X.A X.env xe → PSs (X.tr pn xe) body (tb W')) ∧ SndS X.K xr W' (tb W') is := by
  refine ⟨fun W' D σ H => ∀ pn xe (h1 : Takes (X.tr pn xe) W') (h2 : PassesOwn (model X.prog X.w) X.A X.env xe), Classical.choose (hb W' pn xe h1 h2) D σ H, fun W' => ⟨fun pn xe h1 h2 => ⟨fun pins s σ H D I h => ?_⟩, fun dr J B Gh env σ I H Pp D s h o pn xe h1 h2 => ?_⟩⟩
  · exact (Classical.choose_spec (hb W' pn xe h1 h2)).1.run pins s σ H D I (h pn xe h1 h2)
  · exact (Classical.choose_spec (hb W' pn xe h1 h2)).2 dr J B Gh env σ I H Pp D s h o
theorem ls_tryW (i : Nat) (hs : X.stack = X.env :: X.outer) (hf : X.env.frame = some X.env.locals) (hN : X.N.Nodup) (tk : Takes X W) (Z : MissF X.prog X.K X.mg x qual st C fI cda cc fd) (hm : PySem.W.exmOne X.K (.ref C) (.ref C) = some true)
    (hx : ∀ e c d H, xr e c d H → XM C x e c d H) (hg : Gl X x)
    (hb : ∀ (W' : WX) (pn : List (Addr × Obj)) (xe : Value → Shared → Prop), Takes (X.tr pn xe) W' → PassesOwn (model X.prog X.w) X.A X.env xe → ∃ t, PSs (X.tr pn xe) body t ∧ SndS X.K xr W' t is)
    (hi : X.N[i]? = some n := by rfl) (hln : X.env.kindOf n = some .local := by rfl) (hdb : (x == ("__debug__" : Str)) = false := by decide) (hv : Vis X.env.scope n := by first | exact Or.inl rfl | exact Or.inr (Or.inl rfl) | exact Or.inr (Or.inr rfl))
    (hd : (n == ("__debug__" : Str)) = false := by decide) (hcd : (n == ("__classdict__" : Str)) = false := by decide) :
    LS xr X W (.Try body [.ExceptHandler (some (.Name x np)) (some n) [.Return (some (.Attribute (.Name n p1) "word" p2)) p3] pos'] [] [] pos) (sTryW i is) := by
  obtain ⟨tb, htb⟩ := one_body hb
  exact ⟨_, ps_try_as (ts := fun a cls d => tRet (tXf a cls d C "word" (tVar i))) hs hf hN hi hln ⟨hg, hdb, .inl Z.g⟩ tk (fun W' pn xe h1 h2 => (htb W').1 pn xe h1 h2)
    (fun a oe cls d pn hz hfl => pss_one (ps_ret (pe_xf Z.xf Z.wd hz hfl (pe_var hi hv hd hcd)))), sndS_tryW hx hm fun W' => (htb W').2⟩
theorem ls_tryC {v : V} {d0 : Dt} {ce : Expr} (hs : X.stack = X.env :: X.outer) (hf : X.env.frame = some X.env.locals) (tk : Takes X W) (Z : MissF X.prog X.K X.mg x qual st C fI cda cc fd) (hm : PySem.W.exmOne X.K (.ref C) (.ref C) = some true)
    (hx : ∀ e c d H, xr e c d H → XM C x e c d H) (hg : Gl X x) (hv : ∀ dr I, Rp X.K dr I v d0) (hce : ∀ X' : Cx, PE X' ce (tC v))
    (hb : ∀ (W' : WX) (pn : List (Addr × Obj)) (xe : Value → Shared → Prop), Takes (X.tr pn xe) W' → PassesOwn (model X.prog X.w) X.A X.env xe → ∃ t, PSs (X.tr pn xe) body t ∧ SndS X.K xr W' t is)
    (hdb : (x == ("__debug__" : Str)) = false := by decide) :
    LS xr X W (.Try body [.ExceptHandler (some (.Name x np)) none [.Return (some ce) p3] pos'] [] [] pos) (sTryC d0 is) := by
  obtain ⟨tb, htb⟩ := one_body hb
  exact ⟨_, ps_try_only (ts := fun _ _ _ => tRet (tC v)) hs hf ⟨hg, hdb, .inl Z.g⟩ tk (fun W' pn xe h1 h2 => (htb W').1 pn xe h1 h2)
    (fun a oe cls d pn hz hfl => pss_one (ps_ret (hce _))), sndS_tryC hx hm hv fun W' => (htb W').2⟩
end
end DL

set_option maxRecDepth 100000
set_option maxHeartbeats 1000000
/-! DLZ: three names at once; what the top has written of Misstep; defs that call themselves. -/
namespace DL
open PySem L2 DLX PyProof.Rows
def sMany3 (i j l : Nat) (il : IXA) : IS := fun env Pp => il env (fun ss => ss.length = 3 ∧ Pp.nx (putL env [i, j, l] ss)) (fun x => Pp.ex x env)
section
variable {K : Fr} {xr : XR} {W : WX} {ta : TA} {il : IXA} {i j l : Nat}
theorem sndS_many3 (h : SndXA K xr W ta il) : SndS K xr W (tPar3 i j l ta) (sMany3 i j l il) := fun dr J B Gh env σ I H Pp D s hi o => by
  refine h dr J B Gh env σ I H _ _ s hi (o.e s) _ fun ss vs I1 H1 hP k1 sub1 eq1 st1 vo1 nw1 => ?_
  have hl := vo1.len
  rw [hP.1] at hl
  match vs, hl with
  | [u, v, w], _ => exact ⟨u, v, w, rfl, o.nx _ _ _ _ hP.2 (Stt.setL (is := [i, j, l]) st1 vo1)⟩
end
section
variable {xr : XR} {X : Cx} {W : WX} {xl : IXA} {pos : Pos}
theorem ls_par3 (i j l : Nat) {x y z : Str} {a b c : Expr} {px py pz pt : Pos} {kt k2 pt2} (hc : X.calm = true) (hN : X.N.Nodup) (hij : i ≠ j) (hil : i ≠ l) (hjl : j ≠ l) (ha : LXA xr X W [a, b, c] xl)
    (hi : X.N[i]? = some x := by rfl) (hj : X.N[j]? = some y := by rfl) (hl : X.N[l]? = some z := by rfl)
    (hx : X.env.scope.names.lookup x = some .local := by rfl) (hy : X.env.scope.names.lookup y = some .local := by rfl) (hz : X.env.scope.names.lookup z = some .local := by rfl)
    (hw : swappedStores [.Tuple [.Name x px, .Name y py, .Name z pz] kt pt] (.Tuple [a, b, c] k2 pt2) X.env = pure (some [x, y, z]) := by rfl)
    (hs : swapsWithSole [.Tuple [.Name x px, .Name y py, .Name z pz] kt pt] (.Tuple [a, b, c] k2 pt2) pos.line X.env = pure false := by rfl) :
    LS xr X W (.Assign [.Tuple [.Name x px, .Name y py, .Name z pz] kt pt] (.Tuple [a, b, c] k2 pt2) pos) (sMany3 i j l xl) :=
  let ⟨_, p, s⟩ := ha; ⟨_, ps_par3 hc hN hi hj hl hij hil hjl hx hy hz p hw hs, sndS_many3 s⟩
end
/-- an exception of the class Misstep -/
def XR0 (K : Fr) (mg : Str → Option Value) : XR := fun e cls d H => ∃ C : Addr, mg "Misstep" = some (.ref C) ∧ XM C "Misstep" e cls d H
def initOf : Stmt → Stmt
  | .ClassDef _ _ _ (b :: _) _ _ _ _ _ _ _ => b
  | s => s
structure Mis (P : Program) (K : Fr) (mg : Str → Option Value) (st : Stmt) where
  C : Addr
  fI : Addr
  cda : Addr
  cc : Addr
  fd : FuncData
  Z : MissF P K mg "Misstep" "Misstep.__init__" st C fI cda cc fd
  hm : PySem.W.exmOne K (.ref C) (.ref C) = some true
section
variable {P : Program} {K : Fr} {mg : Str → Option Value} {st : Stmt}
theorem Mis.x1 (M : Mis P K mg st) : ∀ e c d H, XM M.C "Misstep" e c d H → XR0 K mg e c d H := fun _ _ _ _ h => ⟨_, M.Z.g, h⟩
theorem Mis.x2 (M : Mis P K mg st) : ∀ e c d H, XR0 K mg e c d H → XM M.C "Misstep" e c d H := fun _ _ _ _ ⟨C, h, z⟩ => by
  rw [M.Z.g] at h
  cases h
  exact z
theorem fn_never {w : World} {base : Heap} {k : Nat} {f : Addr} {fd : FuncData} {ps : List Str} {xr : XR} : FnOk P w K mg base (L2.CX P w) k f fd ps (liftS K xr fun _ _ _ => False) :=
  ⟨fun vs H Q E h => by
    obtain ⟨_, _, _, _, _, _, _, h, _⟩ := h
    exact h.elim, fun A outer s H args us vs Q E hr e0 hbd r hsp => by
    obtain ⟨_, _, _, _, _, _, _, h, _⟩ := hsp
    exact h.elim⟩
end
end DL

set_option maxRecDepth 100000
/-! DLW: what the top has written of Misstep, read off the head's part. -/
namespace DL
open PySem L2 DLX PyProof.Rows
theorem exm_self {K : Fr} {C : Addr} (b : PySem.W.subIn K (.ref C) (.type "BaseException") = some true) (i : PySem.W.isClsIn K C = true) (t : PySem.W.typeIn K (.ref C) = some (.type "type")) (s : PySem.W.subIn K (.ref C) (.ref C) = some true) : PySem.W.exmOne K (.ref C) (.ref C) = some true := by
  unfold PySem.W.exmOne
  rw [b, if_pos (by rfl)]
  unfold PySem.W.kitCls
  have hc : (PySem.W.clsIn K C).isSome = true := i
  simp only [hc, t, Bool.true_and]
  rw [if_pos (by rfl)]
  exact s
def Mis.of {P : Program} {K : Fr} {h : Heap} {mg : Str → Option Value} {st : Stmt} {C fI cda cc : Addr} {nm q : Str} {N : Addr} {bs bm : List Value} {sn : List Str} {sb : List Value} {ab : Bool} {col : Option Bool} {dd : Option Addr} {k0 k1 k2 k3 k5 : Option Value}
    {oc doc pm ct ccl cl : Value} {od cdd cld : Option Addr} {osl ccs csl : Array (Option Value)} {vs : Array Value} {file : Str} {tf : Tok} {cd : ClassData}
    (X : K.In h) (G : h.Ns mainGlobals mg)
    (g : PySem.W.nsIn K mainGlobals "Misstep" = some (some (.ref C)))
    (cls : K.lookup C = some (excClassObj nm q C N bs bm true sn sb ab col dd k0 k1 k2 k3 k5 "ValueError.__new__")) (rv : PySem.HandSPX.refsVE bm = true)
    (sa : PySem.W.findIn K (.ref C) "__setattr__" = some (some (.builtin "object.__setattr__")))
    (exC : PySem.W.subIn K (.ref C) (.type "BaseException") = some true) (tyC : PySem.W.typeIn K (.ref C) = some (.type "type")) (kC : PySem.W.keepIn K (.ref C) = true)
    (ini : PySem.W.findIn K (.ref C) "__init__" = some (some (.ref fI))) (tyI : PySem.W.typeIn K (.ref fI) = some (.type "function"))
    (lf : K.lookup fI = some ⟨oc, od, .func (PySem.W.ksFn "__init__" "Misstep.__init__" (defArgs st) (defBody st) (defScope st) .none .none doc pm none (.ref cda) ct cc), osl⟩)
    (code : PySem.W.codeIn K (.ref cda) "Misstep.__init__" = true)
    (lc : K.lookup cda = some ⟨ccl, cdd, .fields vs, ccs⟩) (v2 : vs[2]? = some (.str file tf)) (hf : ((P.main.file : Str) == file) = true)
    (cell : K.lookup cc = some ⟨cl, cld, .cell (some (.ref C)), csl⟩)
    (clsI : PySem.W.clsIn K C = some cd) (sub : PySem.W.mroIn K C (.ref C) = some true)
    (sup : PySem.W.ks_superIn K C C "__init__" = some (some (.builtin "ValueError.__init__")))
    (ve : PySem.W.subIn K (.ref C) (.type "ValueError") = some true) (opq : PySem.W.nsIn K cStatics "thirdparty.any" = some none) (wd : PySem.W.findIn K (.ref C) "word" = some none)
    (bsu : PySem.W.nsIn K mainGlobals "super" = some none) (top : (P.main.scope.names.lookup ("super" : Str)).isSome = false)
    (ga : PySem.W.findIn K (.ref C) "__getattribute__" = some (some (.builtin "BaseException.__getattribute__"))) (gg : PySem.W.findIn K (.ref C) "__getattr__" = some none) (hdC : PySem.W.hasDictIn K C = true)
    (icl : PySem.W.isClsIn K C = true) (sC : PySem.W.subIn K (.ref C) (.ref C) = some true) : Mis P K mg st :=
  ⟨C, fI, cda, cc, _, ⟨PySem.W.mg_of X G g, ⟨⟨nm, q, N, bs, bm, sn, sb, ab, col, dd, k0, k1, k2, k3, k5, cls, rv⟩, sa, exC, tyC, kC⟩, ini, tyI, ⟨oc, od, doc, pm, ct, osl, rfl, lf⟩, code, ⟨ccl, cdd, vs, ccs, file, tf, lc, v2, hf⟩, ⟨cl, cld, csl, cell⟩, ⟨cd, clsI⟩, sub, sup, ve, opq, wd, PySem.W.mg_none_of X G bsu, top, ⟨ga, gg, exC, hdC⟩⟩, exm_self exC icl tyC sC⟩
end DL

set_option maxRecDepth 100000
/-! DLS: the words' own rows as rules for simp, each proved once (not by unfolding in place: the kernel has then nothing to unfold). -/
namespace DL
open PySem L2
def eV : Sl → (Dt → Prop) → Prop
  | .im d, P => P d
  | _, _ => False
def oV : Sl → (Dt → Prop) → Prop
  | .im d, P => P d
  | .ow d, P => P d
  | _, _ => False
def owV : Sl → (List Dt → Prop) → Prop
  | .ow (.lst xs), P => P xs
  | _, _ => False
def agV : Sl → (Int → Prop) → Prop
  | .im (.int a), P => P a
  | _, _ => False
def fzV (env : List Sl) (i : Nat) : Sl → List Sl
  | .ow d => put env i (.im d)
  | _ => env
def exV : Dt → (List Dt → Prop) → Prop
  | .lst xs, P => P xs
  | _, _ => False
def wdV : List Dt → (Str → Prop) → Prop
  | [.str w], P => P w
  | _, _ => False
section
variable {env : List Sl} {P : Dt → Prop} {PB : Bool → Prop} {PL : List Dt → Prop} {PI : Option Int → Prop} {PS : Sl → Prop} {PSs : List Sl → Prop} {PE : List Sl → Prop} {E : Xc → Prop} {Pp : Po} {d x y : Dt} {ds xs ys : List Dt} {ia ib ic : IE} {it iu : IT} {il : IA} {is js : IS} {ix iy : IX} {xl : IXA} {i j l n : Nat} {ii : II} {g : G} {gs : Gs} {body : IS} {s : Sl} {ss : List Sl} {r : List Sl} {f h : Dt → Dt → (Dt → Prop) → Prop} {ig : IG} {igs : List Dt → IS} {k m : Int} {w : Str} {is' : List Nat} {b c : Bool}
@[simp] theorem eV_im : eV (.im d) P = P d := id rfl
@[simp] theorem oV_im : oV (.im d) P = P d := id rfl
@[simp] theorem oV_ow : oV (.ow d) P = P d := id rfl
@[simp] theorem owV_ow : owV (.ow (.lst xs)) PL = PL xs := id rfl
@[simp] theorem agV_im {PN : Int → Prop} : agV (.im (.int k)) PN = PN k := id rfl
@[simp] theorem fzV_no : fzV env i .no = env := id rfl
@[simp] theorem fzV_im : fzV env i (.im d) = env := id rfl
@[simp] theorem fzV_ow : fzV env i (.ow d) = put env i (.im d) := id rfl
@[simp] theorem exV_l : exV (.lst xs) PL = PL xs := id rfl
@[simp] theorem wdV_l {PW : Str → Prop} : wdV [.str w] PW = PW w := id rfl
@[simp] theorem eVar_e : eVar i env P E = eV (sl env i) P := by unfold eVar eV; cases sl env i <;> rfl
@[simp] theorem oVar_e : oVar i env P E = oV (sl env i) P := by unfold oVar oV; cases sl env i <;> rfl
@[simp] theorem eC_e : eC d env P E = P d := id rfl
@[simp] theorem eOp_e : eOp f ia ib env P E = ia env (fun x => ib env (fun y => f x y P) E) E := id rfl
@[simp] theorem eUn_e {f : Dt → (Dt → Prop) → Prop} : eUn f ia env P E = ia env (fun x => f x P) E := id rfl
@[simp] theorem aNil_e : aNil env PL E = PL [] := id rfl
@[simp] theorem aCons_e : aCons ia il env PL E = ia env (fun x => il env (fun xs => PL (x :: xs)) E) E := id rfl
@[simp] theorem eCB_e {f : List Dt → (Dt → Prop) → Prop} : eCB f il env P E = il env (fun xs => f xs P) E := id rfl
@[simp] theorem eTup_e : eTup il env P E = il env (fun xs => xs.length ≤ 16777216 ∧ P (.tup xs)) E := id rfl
@[simp] theorem eLst_e : eLst il env P E = il env (fun xs => xs.length ≤ 16777216 ∧ P (.lst xs)) E := id rfl
@[simp] theorem bT_e : bT ia env PB E = ia env (fun x => asB x PB) E := id rfl
@[simp] theorem bAnd_e : bAnd it iu env PB E = it env (fun b => if b = true then iu env PB E else PB false) E := id rfl
@[simp] theorem bOr_e : bOr it iu env PB E = it env (fun b => if b = true then PB true else iu env PB E) E := id rfl
@[simp] theorem bNot_e : bNot it env PB E = it env (fun b => PB (!b)) E := id rfl
@[simp] theorem eAnd_e : eAnd ia ib env P E = ia env (fun x => asB x fun b => if b = true then ib env P E else P (.bl false)) E := id rfl
@[simp] theorem eOr_e : eOr ia ib env P E = ia env (fun x => asB x fun b => if b = true then P (.bl true) else ib env P E) E := id rfl
@[simp] theorem eNot_e : eNot ia env P E = ia env (fun x => asB x fun b => P (.bl (!b))) E := id rfl
@[simp] theorem eIf_e : eIf it ia ib env P E = it env (fun b => if b = true then ia env P E else ib env P E) E := id rfl
@[simp] theorem eChain_e : eChain f h ia ib ic env P E = ia env (fun x => ib env (fun y => f x y (fun z => asB z fun b => if b = true then ic env (fun w => h y w P) E else P (.bl false))) E) E := id rfl
@[simp] theorem eqD_e : eqD x y P = ((okD x ∧ okD y) ∧ P (.bl (eqv x y))) := id rfl
@[simp] theorem neD_e : neD x y P = ((okD x ∧ okD y) ∧ P (.bl (!eqv x y))) := id rfl
@[simp] theorem isN_n : isN x .non P = P (.bl (isNonD x)) := id rfl
@[simp] theorem isN_b : isN (.bl b) (.bl c) P = P (.bl (decide (b = c))) := id rfl
@[simp] theorem niN_n : niN x .non P = P (.bl (!isNonD x)) := id rfl
@[simp] theorem niN_b : niN (.bl b) (.bl c) P = P (.bl (!decide (b = c))) := id rfl
@[simp] theorem pNo_e : pNo env PI E = PI none := id rfl
@[simp] theorem pAt_e : pAt ia env PI E = ia env (fun x => asI x fun i => PI (some i)) E := id rfl
@[simp] theorem eSl_e {f : Dt → Option Int → Option Int → (Dt → Prop) → Prop} {i1 i2 : IP} : eSl f ia i1 i2 env P E = ia env (fun x => i1 env (fun lo => i2 env (fun hi => f x lo hi P) E) E) E := id rfl
@[simp] theorem f1_e {f : Dt → (Dt → Prop) → Prop} : f1 f [x] P = f x P := id rfl
@[simp] theorem f2_e : f2 f [x, y] P = f x y P := id rfl
theorem isiD_e {T : String} : isiD T x P = (∃ b, kitB (tyS x) T = some b ∧ P (.bl b)) := id rfl
theorem isiD_v {T : String} {b : Bool} (h : kitB (tyS x) T = some b) : isiD T x P = P (.bl b) := propext ⟨fun ⟨b', h1, h2⟩ => by rw [h] at h1; cases h1; exact h2, fun q => ⟨b, h, q⟩⟩
@[simp] theorem isi_non_tuple : isiD "tuple" .non P = P (.bl false) := isiD_v (show kitB "NoneType" "tuple" = some false by decide +kernel)
@[simp] theorem isi_non_int : isiD "int" .non P = P (.bl false) := isiD_v (show kitB "NoneType" "int" = some false by decide +kernel)
@[simp] theorem isi_non_bool : isiD "bool" .non P = P (.bl false) := isiD_v (show kitB "NoneType" "bool" = some false by decide +kernel)
@[simp] theorem isi_non_str : isiD "str" .non P = P (.bl false) := isiD_v (show kitB "NoneType" "str" = some false by decide +kernel)
@[simp] theorem isi_non_list : isiD "list" .non P = P (.bl false) := isiD_v (show kitB "NoneType" "list" = some false by decide +kernel)
@[simp] theorem isi_non_dict : isiD "dict" .non P = P (.bl false) := isiD_v (show kitB "NoneType" "dict" = some false by decide +kernel)
@[simp] theorem isi_bl_tuple : isiD "tuple" (.bl b) P = P (.bl false) := isiD_v (show kitB "bool" "tuple" = some false by decide +kernel)
@[simp] theorem isi_bl_int : isiD "int" (.bl b) P = P (.bl true) := isiD_v (show kitB "bool" "int" = some true by decide +kernel)
@[simp] theorem isi_bl_bool : isiD "bool" (.bl b) P = P (.bl true) := isiD_v (show kitB "bool" "bool" = some true by decide +kernel)
@[simp] theorem isi_bl_str : isiD "str" (.bl b) P = P (.bl false) := isiD_v (show kitB "bool" "str" = some false by decide +kernel)
@[simp] theorem isi_bl_list : isiD "list" (.bl b) P = P (.bl false) := isiD_v (show kitB "bool" "list" = some false by decide +kernel)
@[simp] theorem isi_bl_dict : isiD "dict" (.bl b) P = P (.bl false) := isiD_v (show kitB "bool" "dict" = some false by decide +kernel)
@[simp] theorem isi_int_tuple : isiD "tuple" (.int k) P = P (.bl false) := isiD_v (show kitB "int" "tuple" = some false by decide +kernel)
@[simp] theorem isi_int_int : isiD "int" (.int k) P = P (.bl true) := isiD_v (show kitB "int" "int" = some true by decide +kernel)
@[simp] theorem isi_int_bool : isiD "bool" (.int k) P = P (.bl false) := isiD_v (show kitB "int" "bool" = some false by decide +kernel)
@[simp] theorem isi_int_str : isiD "str" (.int k) P = P (.bl false) := isiD_v (show kitB "int" "str" = some false by decide +kernel)
@[simp] theorem isi_int_list : isiD "list" (.int k) P = P (.bl false) := isiD_v (show kitB "int" "list" = some false by decide +kernel)
@[simp] theorem isi_int_dict : isiD "dict" (.int k) P = P (.bl false) := isiD_v (show kitB "int" "dict" = some false by decide +kernel)
@[simp] theorem isi_str_tuple : isiD "tuple" (.str w) P = P (.bl false) := isiD_v (show kitB "str" "tuple" = some false by decide +kernel)
@[simp] theorem isi_str_int : isiD "int" (.str w) P = P (.bl false) := isiD_v (show kitB "str" "int" = some false by decide +kernel)
@[simp] theorem isi_str_bool : isiD "bool" (.str w) P = P (.bl false) := isiD_v (show kitB "str" "bool" = some false by decide +kernel)
@[simp] theorem isi_str_str : isiD "str" (.str w) P = P (.bl true) := isiD_v (show kitB "str" "str" = some true by decide +kernel)
@[simp] theorem isi_str_list : isiD "list" (.str w) P = P (.bl false) := isiD_v (show kitB "str" "list" = some false by decide +kernel)
@[simp] theorem isi_str_dict : isiD "dict" (.str w) P = P (.bl false) := isiD_v (show kitB "str" "dict" = some false by decide +kernel)
@[simp] theorem isi_lst_tuple : isiD "tuple" (.lst xs) P = P (.bl false) := isiD_v (show kitB "list" "tuple" = some false by decide +kernel)
@[simp] theorem isi_lst_int : isiD "int" (.lst xs) P = P (.bl false) := isiD_v (show kitB "list" "int" = some false by decide +kernel)
@[simp] theorem isi_lst_bool : isiD "bool" (.lst xs) P = P (.bl false) := isiD_v (show kitB "list" "bool" = some false by decide +kernel)
@[simp] theorem isi_lst_str : isiD "str" (.lst xs) P = P (.bl false) := isiD_v (show kitB "list" "str" = some false by decide +kernel)
@[simp] theorem isi_lst_list : isiD "list" (.lst xs) P = P (.bl true) := isiD_v (show kitB "list" "list" = some true by decide +kernel)
@[simp] theorem isi_lst_dict : isiD "dict" (.lst xs) P = P (.bl false) := isiD_v (show kitB "list" "dict" = some false by decide +kernel)
@[simp] theorem isi_tup_tuple : isiD "tuple" (.tup xs) P = P (.bl true) := isiD_v (show kitB "tuple" "tuple" = some true by decide +kernel)
@[simp] theorem isi_tup_int : isiD "int" (.tup xs) P = P (.bl false) := isiD_v (show kitB "tuple" "int" = some false by decide +kernel)
@[simp] theorem isi_tup_bool : isiD "bool" (.tup xs) P = P (.bl false) := isiD_v (show kitB "tuple" "bool" = some false by decide +kernel)
@[simp] theorem isi_tup_str : isiD "str" (.tup xs) P = P (.bl false) := isiD_v (show kitB "tuple" "str" = some false by decide +kernel)
@[simp] theorem isi_tup_list : isiD "list" (.tup xs) P = P (.bl false) := isiD_v (show kitB "tuple" "list" = some false by decide +kernel)
@[simp] theorem isi_tup_dict : isiD "dict" (.tup xs) P = P (.bl false) := isiD_v (show kitB "tuple" "dict" = some false by decide +kernel)
@[simp] theorem isi_dic_tuple {ks : List Key} : isiD "tuple" (.dic ks xs) P = P (.bl false) := isiD_v (show kitB "dict" "tuple" = some false by decide +kernel)
@[simp] theorem isi_dic_int {ks : List Key} : isiD "int" (.dic ks xs) P = P (.bl false) := isiD_v (show kitB "dict" "int" = some false by decide +kernel)
@[simp] theorem isi_dic_bool {ks : List Key} : isiD "bool" (.dic ks xs) P = P (.bl false) := isiD_v (show kitB "dict" "bool" = some false by decide +kernel)
@[simp] theorem isi_dic_str {ks : List Key} : isiD "str" (.dic ks xs) P = P (.bl false) := isiD_v (show kitB "dict" "str" = some false by decide +kernel)
@[simp] theorem isi_dic_list {ks : List Key} : isiD "list" (.dic ks xs) P = P (.bl false) := isiD_v (show kitB "dict" "list" = some false by decide +kernel)
@[simp] theorem isi_dic_dict {ks : List Key} : isiD "dict" (.dic ks xs) P = P (.bl true) := isiD_v (show kitB "dict" "dict" = some true by decide +kernel)
@[simp] theorem isi_dit_tuple {kt : List (List Key)} : isiD "tuple" (.dit kt xs) P = P (.bl false) := isiD_v (show kitB "dict" "tuple" = some false by decide +kernel)
@[simp] theorem isi_dit_int {kt : List (List Key)} : isiD "int" (.dit kt xs) P = P (.bl false) := isiD_v (show kitB "dict" "int" = some false by decide +kernel)
@[simp] theorem isi_dit_bool {kt : List (List Key)} : isiD "bool" (.dit kt xs) P = P (.bl false) := isiD_v (show kitB "dict" "bool" = some false by decide +kernel)
@[simp] theorem isi_dit_str {kt : List (List Key)} : isiD "str" (.dit kt xs) P = P (.bl false) := isiD_v (show kitB "dict" "str" = some false by decide +kernel)
@[simp] theorem isi_dit_list {kt : List (List Key)} : isiD "list" (.dit kt xs) P = P (.bl false) := isiD_v (show kitB "dict" "list" = some false by decide +kernel)
@[simp] theorem isi_dit_dict {kt : List (List Key)} : isiD "dict" (.dit kt xs) P = P (.bl true) := isiD_v (show kitB "dict" "dict" = some true by decide +kernel)
@[simp] theorem eIsi_e {T : String} : eIsi T ia env P E = ia env (fun x => isiD T x P) E := id rfl
@[simp] theorem eCall_e {sp : DSp} : eCall sp il env P E = il env (fun ds => sp ds P E) E := id rfl
@[simp] theorem iOf_e : iOf ia env PL E = ia env (fun x => seqD x PL) E := id rfl
@[simp] theorem g1_e {f : Int → Prop} : g1 f [.int k] = f k := id rfl
@[simp] theorem g2_e {f : Int → Int → Prop} : g2 f [.int k, .int m] = f k m := id rfl
@[simp] theorem g3_e {f : Int → Int → Prop} {t : Int} : g3 f [.int k, .int m, .int t] = (t = -1 ∧ f k m) := id rfl
@[simp] theorem iRange1_e : iRange1 il env PL E = il env (g1 fun j => (-(2 ^ 62) ≤ j ∧ j < 2 ^ 62) ∧ PL (rng 0 1 j.toNat)) E := id rfl
@[simp] theorem iRange2_e : iRange2 il env PL E = il env (g2 fun i j => (-(2 ^ 62) ≤ i ∧ i < 2 ^ 62 ∧ -(2 ^ 62) ≤ j ∧ j < 2 ^ 62) ∧ PL (rng i 1 (j - i).toNat)) E := id rfl
@[simp] theorem iRange3_e : iRange3 il env PL E = il env (g3 fun i j => (-(2 ^ 62) ≤ i ∧ i < 2 ^ 62 ∧ -(2 ^ 62) ≤ j ∧ j < 2 ^ 62) ∧ PL (rng i (-1) (i - j).toNat)) E := id rfl
@[simp] theorem gN_e : gN i d env PE = PE (put env i (.im d)) := id rfl
@[simp] theorem gsNil_e : gsNil [] env PE = PE env := id rfl
@[simp] theorem gsCons_e : gsCons g gs (d :: ds) env PE = g d env fun env' => gs ds env' PE := id rfl
@[simp] theorem wipeE_n : wipeE env [] = env := id rfl
@[simp] theorem wipeE_c {is : List Nat} : wipeE env (i :: is) = put (wipeE env is) i .no := id rfl
@[simp] theorem nComp_e {vs : List Nat} : nComp vs ii g it ia env P E = ii env (fun ds => ds.length ≤ 16777216 ∧ compD g it ia (wipeE env vs) P ds []) E := id rfl
@[simp] theorem bYes_e : bYes env PB E = PB true := id rfl
@[simp] theorem xE_e : xE ia env PS E = ia env (fun d => PS (.im d)) E := id rfl
@[simp] theorem xN_e : xN ia env PS E = ia env (fun d => PS (.ow d)) E := id rfl
@[simp] theorem sNext_e : sNext env Pp = Pp.nx env := id rfl
@[simp] theorem sBreak_e : sBreak env Pp = Pp.bk env := id rfl
@[simp] theorem sCont_e : sCont env Pp = Pp.ct env := id rfl
@[simp] theorem sSeq_e : sSeq is js env Pp = is env { Pp with nx := fun env' => js env' Pp } := id rfl
@[simp] theorem sRet_e : sRet ia env Pp = ia env Pp.rt (fun x => Pp.ex x env) := id rfl
@[simp] theorem sRetN_e : sRetN env Pp = Pp.rt .non := id rfl
@[simp] theorem sDrop_e : sDrop ia env Pp = ia env (fun _ => Pp.nx env) (fun x => Pp.ex x env) := id rfl
@[simp] theorem sIf_e : sIf it is js env Pp = it env (fun b => if b = true then is env Pp else js env Pp) (fun x => Pp.ex x env) := id rfl
@[simp] theorem sSet_e : sSet i ix env Pp = ix env (fun s => Pp.nx (put env i s)) (fun x => Pp.ex x env) := id rfl
@[simp] theorem sPar_e : sPar i j ix iy env Pp = ix env (fun s => iy env (fun s' => Pp.nx (put (put env i s) j s')) (fun x => Pp.ex x env)) (fun x => Pp.ex x env) := id rfl
@[simp] theorem sNever_e : sNever env Pp = False := id rfl
@[simp] theorem frz_e : frz env i = fzV env i (sl env i) := by unfold frz fzV; cases sl env i <;> rfl
@[simp] theorem sFrz_e : sFrz i is env Pp = is (frz env i) Pp := id rfl
theorem owL_v : owL env i PL = owV (sl env i) PL := by
  unfold owL owV
  cases sl env i with
  | no => rfl
  | ex _ _ _ => rfl
  | im d => rfl
  | ow d => cases d <;> rfl
@[simp] theorem owL_e : owL env i PL = owV (sl env i) PL := owL_v
@[simp] theorem sApp_e : sApp i ia env Pp = owL env i fun xs => xs.length < 16777216 ∧ ia env (fun d => Pp.nx (put env i (.ow (.lst (xs ++ [d]))))) (fun x => Pp.ex x env) := id rfl
theorem sExt_v : sExt i ia env Pp = owL env i fun xs => ia env (fun d => exV d fun ys => xs.length + ys.length ≤ 16777216 ∧ Pp.nx (put env i (.ow (.lst (xs ++ ys))))) (fun x => Pp.ex x env) := by
  unfold sExt
  congr 1
  funext xs
  congr 1
  funext d
  cases d <;> rfl
@[simp] theorem sExt_e : sExt i ia env Pp = owL env i fun xs => ia env (fun d => exV d fun ys => xs.length + ys.length ≤ 16777216 ∧ Pp.nx (put env i (.ow (.lst (xs ++ ys))))) (fun x => Pp.ex x env) := sExt_v
@[simp] theorem popD_e {PQ : Dt → List Dt → Prop} : popD xs PQ (.int k) = ((-(2 ^ 63) ≤ k ∧ k < 2 ^ 63) ∧ ∃ j d, ixN xs.length k = some j ∧ xs[j]? = some d ∧ PQ d (xs.eraseIdx j)) := id rfl
@[simp] theorem sPopAt_e : sPopAt j i ia env Pp = owL env i fun xs => ia env (fun k => popD xs (fun d ys => Pp.nx (put (put env i (.ow (.lst ys))) j (.im d))) k) (fun x => Pp.ex x env) := id rfl
@[simp] theorem setD_e : setD xs d PL (.int k) = (∃ j, ixN xs.length k = some j ∧ PL (xs.set j d)) := id rfl
@[simp] theorem sSetAt_e : sSetAt i ib ia env Pp = ia env (fun d => owL env i fun xs => ib env (fun k => setD xs d (fun ys => Pp.nx (put env i (.ow (.lst ys)))) k) (fun x => Pp.ex x env)) (fun x => Pp.ex x env) := id rfl
@[simp] theorem sAug_e {f : Int → Int → Int} : sAug i f ia env Pp = agV (sl env i) fun a => ia env (fun d => asI d fun b => Pp.nx (put env i (.im (.int (f a b))))) (fun x => Pp.ex x env) := by
  unfold sAug agV
  cases sl env i with
  | no => rfl
  | ex _ _ _ => rfl
  | ow d => rfl
  | im d => cases d <;> rfl
@[simp] theorem tgN_e : tgN i d env Pp = Pp.nx (put env i (.im d)) := id rfl
@[simp] theorem tgSub_e : tgSub i ib d env Pp = owL env i fun xs => ib env (fun k => setD xs d (fun ys => Pp.nx (put env i (.ow (.lst ys)))) k) (fun x => Pp.ex x env) := id rfl
@[simp] theorem tgsNil_e : tgsNil [] env Pp = Pp.nx env := id rfl
@[simp] theorem tgsCons_e : tgsCons ig igs (d :: ds) env Pp = ig d env { Pp with nx := fun env' => igs ds env' Pp } := id rfl
@[simp] theorem sAsg_e : sAsg ia ig env Pp = ia env (fun d => ig d env Pp) (fun x => Pp.ex x env) := id rfl
@[simp] theorem sFor_e : sFor ii g body env Pp = ii env (fun ds => forD g body Pp ds env) (fun x => Pp.ex x env) := id rfl
@[simp] theorem sWhile_e : sWhile it body env Pp = ∃ Wd : Nat → List Sl → Prop, (∃ m, Wd m env) ∧ ∀ m e, Wd m e → it e (fun b => if b = true then body e { Pp with nx := fun e' => ∃ m', m' < m ∧ Wd m' e', ct := fun e' => ∃ m', m' < m ∧ Wd m' e', bk := Pp.nx } else Pp.nx e) (fun x => Pp.ex x e) := id rfl
@[simp] theorem xNil_e : xNil env PSs E = PSs [] := id rfl
@[simp] theorem xCons_e : xCons ix xl env PSs E = ix env (fun s => xl env (fun ss => PSs (s :: ss)) E) E := id rfl
@[simp] theorem putL_n : putL env [] [] = env := id rfl
@[simp] theorem putL_c {is : List Nat} : putL env (i :: is) (s :: ss) = putL (put env i s) is ss := id rfl
@[simp] theorem sMany_e : sMany is' xl env Pp = xl env (fun ss => (ss.length = is'.length ∧ ss.length ≤ 16777216) ∧ Pp.nx (putL env is' ss)) (fun x => Pp.ex x env) := id rfl
@[simp] theorem sMany3_e : sMany3 i j l xl env Pp = xl env (fun ss => ss.length = 3 ∧ Pp.nx (putL env [i, j, l] ss)) (fun x => Pp.ex x env) := id rfl
@[simp] theorem sRaise_e {x : Str} : sRaise x il env Pp = il env (fun ds => wdV ds fun wd => wd.length ≤ 1000 ∧ Pp.ex (x, [.str wd]) env) (fun x => Pp.ex x env) := by
  unfold sRaise
  congr 1
  funext ds
  rcases ds with _ | ⟨d, _ | ⟨d2, t⟩⟩
  · rfl
  · cases d <;> rfl
  · cases d <;> rfl
@[simp] theorem sTryW_e : sTryW i is env Pp = is env { Pp with ex := fun e env' => wdV e.2 fun wd => i < env'.length ∧ Pp.rt (.str wd) } := by
  unfold sTryW
  congr 2
  funext e env'
  obtain ⟨c, ds⟩ := e
  rcases ds with _ | ⟨d, _ | ⟨d2, t⟩⟩
  · rfl
  · cases d <;> rfl
  · cases d <;> rfl
@[simp] theorem sTryC_e : sTryC d is env Pp = is env { Pp with ex := fun _ _ => Pp.rt d } := id rfl
end
end DL

set_option maxRecDepth 100000
set_option maxHeartbeats 1000000
/-! DLP: sums and slices of what may be a number, a text, a tuple or a list; xs[::-1]. -/
namespace DL
open PySem L2
def addD : Dt → Dt → (Dt → Prop) → Prop
  | .int a, .int b, P => P (.int (a + b))
  | .tup xs, .tup ys, P => xs.length + ys.length ≤ 16777216 ∧ P (.tup (xs ++ ys))
  | .lst xs, .lst ys, P => xs.length + ys.length ≤ 16777216 ∧ P (.lst (xs ++ ys))
  | .str xs, .str ys, P => xs.length + ys.length ≤ 16777216 ∧ P (.str (xs ++ ys))
  | _, _, _ => False
def slD : Dt → Option Int → Option Int → (Dt → Prop) → Prop
  | .tup xs, lo, hi, P => P (.tup (cut xs lo hi))
  | .lst xs, lo, hi, P => P (.lst (cut xs lo hi))
  | _, _, _, _ => False
section
variable {xs ys : List Dt} {a b : Int} {s t : Str} {P : Dt → Prop} {lo hi : Option Int}
@[simp] theorem addD_i : addD (.int a) (.int b) P = P (.int (a + b)) := id rfl
@[simp] theorem addD_t : addD (.tup xs) (.tup ys) P = (xs.length + ys.length ≤ 16777216 ∧ P (.tup (xs ++ ys))) := id rfl
@[simp] theorem addD_l : addD (.lst xs) (.lst ys) P = (xs.length + ys.length ≤ 16777216 ∧ P (.lst (xs ++ ys))) := id rfl
@[simp] theorem addD_s : addD (.str s) (.str t) P = (s.length + t.length ≤ 16777216 ∧ P (.str (s ++ t))) := id rfl
@[simp] theorem slD_t : slD (.tup xs) lo hi P = P (.tup (cut xs lo hi)) := id rfl
@[simp] theorem slD_l : slD (.lst xs) lo hi P = P (.lst (cut xs lo hi)) := id rfl
end
section
variable {K : Fr} {r r' : R2} {f f' h : Dt → Dt → (Dt → Prop) → Prop}
theorem opr_or {X : Cx} {o : Value → Value → Sem Value} (h1 : OpR X o r) (h2 : OpR X o r') : OpR X o fun x y H Q => r x y H Q ∨ r' x y H Q := by
  intro pins s σ H x y v u Q I rx ry q
  rcases q with q | q
  · exact h1 pins s σ H x y v u Q I rx ry q
  · exact h2 pins s σ H x y v u Q I rx ry q
theorem ops_or (s1 : OpS K r f) (s2 : OpS K r' f') (hf : ∀ x y P, h x y P → f x y P ∨ f' x y P) : OpS K (fun x y H Q => r x y H Q ∨ r' x y H Q) h := by
  intro dr I H x y v u P p hx hy q Q k
  rcases hf x y P q with q | q
  · exact .inl (s1 dr I H x y v u P p hx hy q Q k)
  · exact .inr (s2 dr I H x y v u P p hx hy q Q k)
theorem OpN.s (s : OpN K r f) : OpS K r f := fun dr I H x y v u P p hx hy q Q k => s dr I H x y v u P p hx hy q Q fun d w H' hP k' n => k d w H' hP k' n.rp
def or3 (f f' h : Dt → Dt → (Dt → Prop) → Prop) : Dt → Dt → (Dt → Prop) → Prop := fun x y P => f x y P ∨ f' x y P ∨ h x y P
end
section
variable {xr : XR} {X : Cx} {W : WX} {a b : Expr} {ia ib : IE} {pos : Pos} {i1 i2 : IP}
theorem le_addD (ha : LO xr X W a ia) (hb : LO xr X W b ib) : LE xr X W (.BinOp a .Add b pos) (eOp addD ia ib) :=
  le_bin (opr_or op_add (opr_or op_catA (opr_or op_add_str op_cat))) (ops_or ops_add (ops_or (h := fun x y P => catT x y P ∨ catS x y P ∨ catL x y P) ops_catT (ops_or (h := fun x y P => catS x y P ∨ catL x y P) ops_catS opn_cat.s fun _ _ _ h => h) fun _ _ _ h => h) fun x y P h => by
    unfold addD at h
    split at h
    · exact .inl h
    · exact .inr (.inl h)
    · exact .inr (.inr (.inr h))
    · exact .inr (.inr (.inl h))
    · exact h.elim) ha hb
theorem sls_any {K : Fr} : SlS K (fun x lo hi H Q => rSlL K x lo hi H Q ∨ rSlA K x lo hi H Q) slD := by
  intro dr I H x v lo hi P p hx h Q q
  unfold slD at h
  split at h
  · exact .inr (sls_tup dr I H _ v _ _ P p hx h Q q)
  · exact .inl (sln_list dr I H _ v _ _ P p hx h Q fun d w H' hP k n => q d w H' hP k n.rp)
  · exact h.elim
theorem le_slD {lo hi : Option Expr} {p2 : Pos} (ha : LO xr X W a ia) (h1 : LP xr X W lo i1) (h2 : LP xr X W hi i2) : LE xr X W (.Subscript a (.Slice lo hi none p2) pos) (eSl slD ia i1 i2) :=
  let ⟨_, p, s⟩ := ha; let ⟨_, p1, s1⟩ := h1; let ⟨_, p2, s2⟩ := h2; ⟨_, pe_slice (SlR.or sl_list sl_tupA) p p1 p2, snd_sl sls_any s s1 s2⟩
end
/-! ### xs[::-1] of a list -/
def revD : Dt → (Dt → Prop) → Prop
  | .lst xs, P => P (.lst xs.reverse)
  | _, _ => False
@[simp] theorem revD_l {xs : List Dt} {P : Dt → Prop} : revD (.lst xs) P = P (.lst xs.reverse) := id rfl
section
variable {xr : XR} {X : Cx} {W : WX} {a : Expr} {ia : IE} {pos : Pos}
theorem ln_rev {k : Nat} {p1 p2 p3 : Pos} (ha : LO xr X W a ia) : LN xr X W (.Subscript a (.Slice none none (some (.UnaryOp .USub (.Constant (.int 1) k p1) p2)) p3) pos) (eUn revD ia) := by
  obtain ⟨_, p, s⟩ := ha
  refine ⟨_, pe_revL p, fun dr env σ I H P E pr ev hi o Q q => ?_⟩
  refine s dr env σ I H _ E pr ev hi o _ fun x v H1 hx k1 r1 => ?_
  have p1 := pr.step k1
  unfold revD at hx
  split at hx
  · obtain ⟨a, vs, rfl, h1, h2⟩ := r1.lst p1.sub
    refine ⟨a, vs, rfl, SqL.of h1, fun l hl => ?_⟩
    have k2 := Kp.new (o := .lst vs.reverse) p1 hl
    exact q _ _ _ hx (k1.trans k2) ((new_lst p1 hl h2.reverse).back pr k1 k2)
  · exact hx.elim
end
end DL

set_option maxRecDepth 100000
set_option maxHeartbeats 1000000
/-! DLH: try: .. except x as n: any suite that reads n.word. -/
namespace DL
open PySem L2 DLX
def exS (a : Addr) (d : Option Addr) : Sl → (Dt → Prop) → Prop
  | .ex a' dd wd, P => a' = a ∧ d = some dd ∧ P (.str wd)
  | _, _ => False
/-- n.word in the suite -/
def eXw (a : Addr) (d : Option Addr) (i : Nat) : IE := fun env P _ => exS a d (sl env i) P
def sTryH (i : Nat) (is : IS) (hs : Addr → Option Addr → IS) : IS := fun env Pp => is env { Pp with ex := fun e env' => match e.2 with
  | [.str wd] => i < env'.length ∧ ∀ a dd, hs a (some dd) (put env' i (.ex a dd wd)) { nx := fun e2 => Pp.nx (put e2 i .no), rt := Pp.rt, bk := fun e2 => Pp.bk (put e2 i .no), ct := fun e2 => Pp.ct (put e2 i .no) }
  | _ => False }
section
variable {K : Fr} {xr : XR} {W Wout : WX} {is : IS} {tb : WX → TS} {dr : Dr} {J B Gh : Hp} {env : List Sl} {σ : L2.St} {I H : Hp} {i : Nat}
theorem snd_xw {C a : Addr} {d : Option Addr} : Snd K xr W (tXf a (.ref C) d C "word" (tVar i)) (eXw a d i) := fun dr env σ I H P E p ev hi o Q q => by
  unfold eXw at hi
  have hlt : sl env i ≠ .no := fun z => by rw [z] at hi; exact hi.elim
  have r := ev.at_ i (sl_lt hlt)
  cases hs : sl env i with
  | ex a' dd wd =>
    rw [hs] at hi r
    obtain ⟨rfl, rfl, hP⟩ := hi
    obtain ⟨e, n, h1⟩ := r
    exact ⟨.ref a', join_some e, rfl, rfl, dd, _, .str wd, rfl, h1, rfl, q _ _ H hP Kp.refl (.str wd)⟩
  | _ => rw [hs] at hi; exact hi.elim
theorem Stt.setO {x : Option V} {s1 : Sl} (s : Stt K dr J B Gh env σ I H) (h : SlR K dr I H x s1) (hn : ∀ d, s1 ≠ .ow d) : Stt K dr J B Gh (DL.put env i s1) (σ.set i x) I H := by
  have get : ∀ {j d} {y : Option (Option V)}, sl (DL.put env i s1) j = .ow d → (σ.set i x)[j]? = y → sl env j = .ow d ∧ σ[j]? = y := fun {j d y} e1 e2 => by
    rw [sl_put] at e1
    by_cases hij : i = j
    · by_cases hl : j < env.length
      · rw [if_pos ⟨hij, hl⟩] at e1; exact (hn d e1).elim
      · rw [if_neg (fun z => hl z.2)] at e1
        exact (hl (sl_lt (by rw [e1]; simp))).elim
    · rw [if_neg (fun z => hij z.1)] at e1
      rw [List.getElem?_set_ne hij] at e2
      exact ⟨e1, e2⟩
  refine ⟨s.sub, s.eq, s.pre, s.pre0, s.kp, ⟨by simpa [put_length] using s.ev.len, fun j hj => ?_, fun j k d e p a1 a2 a3 a4 => ?_⟩, fun j d p a b => ?_, s.gh⟩
  · rw [put_length] at hj
    rw [sl_put]
    by_cases hij : i = j
    · rw [if_pos ⟨hij, hj⟩]
      subst hij
      rw [List.getElem?_set_self (by rw [s.ev.len]; exact hj)]
      exact h
    · rw [if_neg (fun z => hij z.1), List.getElem?_set_ne hij]
      exact s.ev.at_ j hj
  · obtain ⟨b1, b3⟩ := get a1 a3
    obtain ⟨b2, b4⟩ := get a2 a4
    exact s.ev.sep j k d e p b1 b2 b3 b4
  · obtain ⟨b1, b2⟩ := get a b
    exact s.own j d p b1 b2
theorem sndS_tryH {C : Addr} {x : Str} {th : Addr → Option Addr → TS} {hs : Addr → Option Addr → IS} (hx : ∀ e c d H, xr e c d H → XM C x e c d H) (hm : PySem.W.exmOne K (.ref C) (.ref C) = some true) (hb : ∀ W', SndS K xr W' (tb W') is) (hh : ∀ a d, SndS K xr W (th a d) (hs a d)) :
    SndS K xr W (fun D σ H => tb (wAs K (.ref C) i (fun a cls d D σ H => cls = .ref C ∧ th a d D σ H) Wout D) D σ H) (sTryH i is hs) := fun dr J B Gh env σ I H Pp D s h o =>
  hb _ dr J B Gh env σ I H _ D s h ⟨o.nx, o.bk, o.ct, o.rt, fun e c d env' σ' I' H' he s' hr => by
    obtain ⟨wd, dx, rfl, rfl, rfl, hd⟩ := hx _ _ _ _ hr
    obtain ⟨hl, hP⟩ := he
    have nd : ¬ IsDr dr dx := fun ⟨q, e1, e2⟩ => by
      obtain ⟨j, cs, h1, h2, _⟩ := s'.pre.dro q e1
      rcases e2 with rfl | rfl
      · rw [h1] at hd; cases hd
      · rw [h2] at hd; cases hd
    refine ⟨true, hm, fun _ a ha => ⟨rfl, ?_⟩, fun z => by cases z⟩
    exact hh a (some dx) dr J B Gh _ _ I' H' _ _ (s'.setO (i := i) (x := some (.ref a)) (s1 := .ex a dx wd) ⟨rfl, nd, hd⟩ (fun d z => nomatch z)) (hP a dx)
      ⟨fun env2 σ2 I2 H2 hn s2 => o.nx _ _ _ _ hn (s2.setO trivial (fun d z => nomatch z)), fun env2 σ2 I2 H2 hn s2 => o.bk _ _ _ _ hn (s2.setO trivial (fun d z => nomatch z)), fun env2 σ2 I2 H2 hn s2 => o.ct _ _ _ _ hn (s2.setO trivial (fun d z => nomatch z)), o.rt, fun _ _ _ _ _ _ _ z => z.elim⟩⟩
end
section
variable {xr : XR} {X : Cx} {W : WX} {C fI cda cc : Addr} {fd : FuncData} {x qual n : Str} {st : Stmt} {is : IS} {body suite : List Stmt} {b₀ : Stmt} {np p1 p2 p3 pos pos' : Pos}
theorem le_xw (i : Nat) {a : Addr} {oe : Obj} {d : Option Addr} {pn : List (Addr × Obj)} (Z : MissF X.prog X.K X.mg x qual st C fI cda cc fd) (hz : Zc (.ref C) d oe) (hf : ∃ vs, oe.data = .fields vs)
    (hi : X.N[i]? = some n := by rfl) (hv : Vis X.env.scope n := by first | exact Or.inl rfl | exact Or.inr (Or.inl rfl) | exact Or.inr (Or.inr rfl))
    (hd : (n == ("__debug__" : Str)) = false := by decide) (hcd : (n == ("__classdict__" : Str)) = false := by decide) : LE xr (X.suite a ((a, oe) :: pn)) W (.Attribute (.Name n p1) "word" p2) (eXw a d i) :=
  ⟨_, pe_xf Z.xf Z.wd hz hf (pe_var hi hv hd hcd), snd_xw⟩
theorem ls_tryH (i : Nat) {hs' : Addr → Option Addr → IS} (hs : X.stack = X.env :: X.outer) (hf : X.env.frame = some X.env.locals) (hN : X.N.Nodup) (tk : Takes X W) (Z : MissF X.prog X.K X.mg x qual st C fI cda cc fd) (hm : PySem.W.exmOne X.K (.ref C) (.ref C) = some true)
    (hx : ∀ e c d H, xr e c d H → XM C x e c d H) (hg : Gl X x)
    (hb : ∀ (W' : WX) (pn : List (Addr × Obj)) (xe : Value → Shared → Prop), Takes (X.tr pn xe) W' → PassesOwn (model X.prog X.w) X.A X.env xe → ∃ t, PSs (X.tr pn xe) body t ∧ SndS X.K xr W' t is)
    (hh : ∀ (a : Addr) (d : Option Addr) (oe : Obj) (pn : List (Addr × Obj)), Zc (.ref C) d oe → (∃ vs, oe.data = .fields vs) → LSs xr (X.suite a ((a, oe) :: pn)) W (b₀ :: suite) (hs' a d))
    (hi : X.N[i]? = some n := by rfl) (hln : X.env.kindOf n = some .local := by rfl) (hdb : (x == ("__debug__" : Str)) = false := by decide) :
    LS xr X W (.Try body [.ExceptHandler (some (.Name x np)) (some n) (b₀ :: suite) pos'] [] [] pos) (sTryH i is hs') := by
  obtain ⟨tb, htb⟩ := one_body hb
  refine ⟨_, ps_try_as (ts := fun a cls d D σ H => cls = .ref C ∧ ∀ (oe : Obj) (pn : List (Addr × Obj)) (hz : Zc (.ref C) d oe) (hf : ∃ vs, oe.data = .fields vs), Classical.choose (hh a d oe pn hz hf) D σ H) hs hf hN hi hln ⟨hg, hdb, .inl Z.g⟩ tk (fun W' pn xe h1 h2 => (htb W').1 pn xe h1 h2)
    (fun a oe cls d pn hz hfl => ⟨fun pins s σ H D I h => ?_⟩), sndS_tryH hx hm (fun W' => (htb W').2) fun a d dr J B Gh env σ I H Pp D s h o oe pn hz hfl => ?_⟩
  · obtain ⟨rfl, h⟩ := h
    exact (Classical.choose_spec (hh a d oe pn hz hfl)).1.run pins s σ H D I (h oe pn hz hfl)
  · exact (Classical.choose_spec (hh a d oe pn hz hfl)).2 dr J B Gh env σ I H Pp D s h o
end
end DL

set_option maxRecDepth 100000
set_option maxHeartbeats 1000000
/-! DLN: more words: except suites (rules), ranges with a step, list(range(..)), len(set(..)). -/
namespace DL
open PySem L2 DLX PyProof.Rows
section
variable {a dd : Addr} {d : Option Addr} {i : Nat} {wd : Str} {P : Dt → Prop} {E : Xc → Prop} {env : List Sl} {is : IS} {hs : Addr → Option Addr → IS} {Pp : Po}
@[simp] theorem exS_e : exS a (some dd) (.ex a dd wd) P = P (.str wd) := propext ⟨fun h => h.2.2, fun h => ⟨rfl, rfl, h⟩⟩
@[simp] theorem eXw_e : eXw a d i env P E = exS a d (sl env i) P := id rfl
@[simp] theorem sTryH_e : sTryH i is hs env Pp = is env { Pp with ex := fun e env' => wdV e.2 fun wd => i < env'.length ∧ ∀ a dd, hs a (some dd) (put env' i (.ex a dd wd)) { nx := fun e2 => Pp.nx (put e2 i .no), rt := Pp.rt, bk := fun e2 => Pp.bk (put e2 i .no), ct := fun e2 => Pp.ct (put e2 i .no) } } := by
  unfold sTryH
  congr 2
  funext e env'
  obtain ⟨c, ds⟩ := e
  rcases ds with _ | ⟨d, _ | ⟨d2, t⟩⟩
  · rfl
  · cases d <;> rfl
  · cases d <;> rfl
end

/-! ### range(i, j, k), k above 0 -/
def rngN (i j k : Int) : Nat := if i < j then ((j - i - 1) / k + 1).toNat else 0
theorem RgC.pos {i j k : Int} (hk : 0 < k) (hk2 : k < 1073741824) (ha : -(2 ^ 60) ≤ i) (ha' : i < 2 ^ 60) (hb : -(2 ^ 60) ≤ j) (hb' : j < 2 ^ 60) : RgC i j k (rngN i j k) := by
  have hs : Builtin.Range.rangeSize i j k = (rngN i j k : Int) := by
    unfold Builtin.Range.rangeSize rngN
    rw [if_pos hk]
    split
    · have : 0 ≤ (j - i - 1) / k := Int.ediv_nonneg (by omega) (by omega)
      omega
    · rfl
  have hn : (rngN i j k : Int) < 2 ^ 62 := by
    unfold rngN
    split
    · have h0 : 0 ≤ (j - i - 1) / k := Int.ediv_nonneg (by omega) (by omega)
      have h1 : (j - i - 1) / k ≤ j - i - 1 := Int.ediv_le_self _ (by omega)
      omega
    · decide
  refine ⟨by omega, by omega, ?_, hs⟩
  unfold Builtin.Range.small
  rw [hs, if_pos hk]
  simp only [Builtin.Range.rangeFitsLong, Bool.and_eq_true, Bool.or_eq_true, decide_eq_true_eq, beq_iff_eq]
  omega
def g3P (f : Int → Int → Int → Prop) : List Dt → Prop
  | [.int i, .int j, .int k] => (0 < k ∧ k < 1073741824 ∧ -(2 ^ 60) ≤ i ∧ i < 2 ^ 60 ∧ -(2 ^ 60) ≤ j ∧ j < 2 ^ 60) ∧ f i j k
  | _ => False
@[simp] theorem g3P_e {i j k : Int} {f : Int → Int → Int → Prop} : g3P f [.int i, .int j, .int k] = ((0 < k ∧ k < 1073741824 ∧ -(2 ^ 60) ≤ i ∧ i < 2 ^ 60 ∧ -(2 ^ 60) ≤ j ∧ j < 2 ^ 60) ∧ f i j k) := id rfl
def iRangeP (il : IA) : II := fun env P E => il env (g3P fun i j k => P (rng i k (rngN i j k))) E
@[simp] theorem iRangeP_e {il : IA} {env : List Sl} {P : List Dt → Prop} {E : Xc → Prop} : iRangeP il env P E = il env (g3P fun i j k => P (rng i k (rngN i j k))) E := id rfl
theorem sndI_rP {K : Fr} {xr : XR} {W : WX} {tl : TA} {il : IA} (hl : SndA K xr W tl il) : SndI K xr W (iRng3 tl) (iRangeP il) := fun dr env σ I H P E p ev hi o R q =>
  hl dr env σ I H _ E p ev hi o _ fun ds vs H1 hx k1 r1 => by
    unfold g3P at hx
    split at hx
    · cases r1 with
      | cons a b =>
        cases a
        cases b with
        | cons a b =>
          cases a
          cases b with
          | cons a b =>
            cases a; cases b
            obtain ⟨⟨h1, h2, h3, h4, h5, h6⟩, h7⟩ := hx
            exact ⟨_, _, _, _, rfl, RgC.pos h1 h2 h3 h4 h5 h6, q _ _ H1 h7 k1 iter_rngC⟩
    · exact hx.elim
section
variable {xr : XR} {X : Cx} {W : WX} {e a b c tg : Expr} {es : List Expr} {ia ib ic : IE} {il : IA} {ii : II} {pos p p2 pos2 : Pos}
theorem li_rP (hg : Gl X "range") (hm : X.mg "range" = none) (ha : LA xr X W [a, b, c] il) (hs : starEach [a, b, c] X.env = (false, eval a X.env) :: starEach [b, c] X.env := by rfl) (hpl : (backTo pos (starEach [b, c] X.env)).any (·.1) = false := by rfl) : LI xr X W tg (.Call (.Name "range" p) [a, b, c] [] pos) (iRangeP il) :=
  let ⟨_, q, s⟩ := ha; ⟨_, pi_range3 hg hm q hs hpl, sndI_rP s⟩
end

/-! ### list(range(..)) -/
def rgC (i c : Int) (n : Nat) : List V := (List.range n).map fun k => V.int (i + (k : Nat) * c)
theorem vals_rgC {i c : Int} {n : Nat} {acc : Array Value} (h : ItemsOf (fun k v => ∃ t, v = .int (i + k * c) t) acc n) : Vals (rgC i c n) acc.toList := by
  have e : acc.toList.length = n := by rw [Array.length_toList]; exact h.1
  unfold rgC
  rw [← e]
  refine vals_of_get acc.toList _ fun j u hj => ?_
  obtain ⟨t, rfl⟩ := h.2 j u (by rw [← hj, Array.getElem?_toList])
  exact ⟨t, rfl⟩
theorem rpl_rgC {K : Fr} {dr : Dr} {I : Hp} {i c : Int} {n : Nat} : RpL K dr I (rgC i c n) (rng i c n) := by
  unfold rgC rng
  generalize List.range n = l
  induction l with
  | nil => exact .nil
  | cons k l ih => exact .cons (.int _) ih
theorem rpl_rgV {K : Fr} {dr : Dr} {I : Hp} {i j : Int} : RpL K dr I (rgV i j) (rng i 1 (j - i).toNat) := by
  unfold rgV rng
  generalize List.range (j - i).toNat = l
  induction l with
  | nil => exact .nil
  | cons k l ih => exact .cons (by show Rp _ _ _ (V.int _) (Dt.int (_ + _ * 1)); rw [Int.mul_one]; exact .int _) ih
def lrg1 : Dt → (Dt → Prop) → Prop
  | .int n, P => RgOk 0 n ∧ P (.lst (rng 0 1 n.toNat))
  | _, _ => False
def lrg2 : Dt → Dt → (Dt → Prop) → Prop
  | .int i, .int j, P => RgOk i j ∧ P (.lst (rng i 1 (j - i).toNat))
  | _, _, _ => False
@[simp] theorem lrg1_e {n : Int} {P : Dt → Prop} : lrg1 (.int n) P = (RgOk 0 n ∧ P (.lst (rng 0 1 n.toNat))) := id rfl
@[simp] theorem lrg2_e {i j : Int} {P : Dt → Prop} : lrg2 (.int i) (.int j) P = (RgOk i j ∧ P (.lst (rng i 1 (j - i).toNat))) := id rfl
def eLRg3 (il : IA) : IE := fun env P E => il env (g3P fun i j k => rngN i j k ≤ 16777216 ∧ P (.lst (rng i k (rngN i j k)))) E
@[simp] theorem eLRg3_e {il : IA} {env : List Sl} {P : Dt → Prop} {E : Xc → Prop} : eLRg3 il env P E = il env (g3P fun i j k => rngN i j k ≤ 16777216 ∧ P (.lst (rng i k (rngN i j k)))) E := id rfl
section
variable {X : Cx} {e a b c : Expr} {ta : TA} {p pos p2 pos2 : Pos}
def tLRg3 (ta : TA) : TE := fun σ H Q => ta σ H fun vs H1 => ∃ (i j c : Int) (n : Nat), vs = [.int i, .int j, .int c] ∧ RgC i j c n ∧ n ≤ 2 ^ 24 ∧ ∀ q, H1 q = none → Q (.ref q) (upd H1 q (.lst (rgC i c n)))
theorem pe_listRg3 (hc : X.calm = true) (hg : Gl X "list") (hm : X.mg "list" = none) (hg2 : Gl X "range") (hm2 : X.mg "range" = none) (ha : PA X [a, b, c] ta)
    (hs : starEach [a, b, c] X.env = (false, eval a X.env) :: starEach [b, c] X.env := by rfl) (hpl : (backTo pos2 (starEach [b, c] X.env)).any (·.1) = false := by rfl)
    (na : starEach [Expr.Call (.Name "range" p2) [a, b, c] [] pos2] X.env = (false, eval (Expr.Call (.Name "range" p2) [a, b, c] [] pos2) X.env) :: starEach [] X.env := by rfl) :
    PE X (.Call (.Name "list" p) [.Call (.Name "range" p2) [a, b, c] [] pos2] [] pos) (tLRg3 ta) := by
  refine ⟨fun pins s σ H Q I h => ?_⟩
  have he : wpAny (model X.prog X.w) X.A (eval (Expr.Call (.Name "range" p2) [a, b, c] [] pos2) X.env) (fun x s' => ∃ r i j c t u v n H', x = .ref r ∧ IsRange s'.heap r i j c t u v ∧ Inv X pins σ H' s' ∧ RgC i j c n ∧ n ≤ 2 ^ 24 ∧ ∀ q, H' q = none → Q (.ref q) (upd H' q (.lst (rgC i c n)))) X.xe s := by
    refine Call_ (ld_blt I hg2 hm2 boot_range (PyProof.Rows.callWith_type1 (thn (ha.run pos2 pins s σ H _ I h) fun us s1 ⟨vs, H1, I1, r1, q1⟩ => ?_) hs hpl))
    obtain ⟨i, j, k, n, e, ⟨c0, c1, c2, c3⟩, q⟩ := q1
    subst e
    cases r1 with
    | cons r rr =>
      cases rr with
      | cons r' rr =>
        cases rr with
        | cons r'' rr =>
          cases rr
          obtain ⟨t, rfl⟩ := r
          obtain ⟨t', rfl⟩ := r'
          obtain ⟨t'', rfl⟩ := r''
          refine call_range_3 c0 ?_ (.inl (PyProof.noPylong_small c1))
          exact ⟨_, i, j, k, _, _, _, n, H1, rfl, IsRange.new .., I1.kept (t' := s1.toks) fun b o e => Heap.get?_push_of_some _ e, ⟨c0, c1, c2, c3⟩, q⟩
  refine Call_ (ld_blt I hg hm boot_list (PyProof.Rows.callWith_type1 (args_cons (thn he fun x s1 ⟨r, i, j, k, t, u, v, n, H1, ex, hr, I1, ok, hn, q⟩ => args_nil ?_) na) na))
  subst ex
  refine call_list_range (n := n) (I1.ok.hd hc) hr ok.2.2.1 ok.2.2.2 hn fun h' tk acc c' hk e' hi => ?_
  have hl : (rgC i k n).length = n := by unfold rgC; rw [List.length_map, List.length_range]
  refine ⟨.ref s1.heap.objs.size, upd H1 s1.heap.objs.size (.lst (rgC i k n)), I1.laid hk (Nat.le_refl _) (show ObjOk X.prog X.w _ _ _ (.lst (rgC i k n)) from ⟨?_, acc.toList, c', vals_rgC hi, ?_⟩), rfl, q _ (I1.hok.fresh (Nat.le_refl _))⟩
  · rw [hl, sizeLine_eq]; omega
  · rw [Array.toArray_toList]; exact e'
end
section
variable {xr : XR} {X : Cx} {W : WX} {e a b c : Expr} {ia ib : IE} {il : IA} {p pos p2 pos2 : Pos}
theorem ln_lrg1 (hc : X.calm = true) (hg : Gl X "list") (hm : X.mg "list" = none) (hg2 : Gl X "range") (hm2 : X.mg "range" = none) (ha : LE xr X W a ia) (hs : starEach [a] X.env = (false, eval a X.env) :: starEach [] X.env := by rfl)
    (na : starEach [Expr.Call (.Name "range" p2) [a] [] pos2] X.env = (false, eval (Expr.Call (.Name "range" p2) [a] [] pos2) X.env) :: starEach [] X.env := by rfl) :
    LN xr X W (.Call (.Name "list" p) [.Call (.Name "range" p2) [a] [] pos2] [] pos) (eUn lrg1 ia) := by
  obtain ⟨_, q, s⟩ := ha
  refine ⟨_, pe_listRg hc hg hm (prg_1 hg2 hm2 q hs) na, fun dr env σ I H P E pr ev hi o Q q => ?_⟩
  refine s dr env σ I H _ E pr ev hi o _ fun x v H1 hx k1 r1 => ?_
  have p1 := pr.step k1
  unfold lrg1 at hx
  split at hx
  · rename_i n
    cases r1
    refine ⟨_, rfl, hx.1, fun l hl => ?_⟩
    have k2 := Kp.new (o := .lst (rgV 0 n)) p1 hl
    have z := rpl_rgV (K := X.K) (dr := dr) (I := ext I H H1) (i := 0) (j := n)
    simp only [Int.sub_zero] at z
    exact q _ _ _ hx.2 (k1.trans k2) ((new_lst p1 hl z).back pr k1 k2)
  · exact hx.elim
theorem ln_lrg2 (hc : X.calm = true) (hg : Gl X "list") (hm : X.mg "list" = none) (hg2 : Gl X "range") (hm2 : X.mg "range" = none) (ha : LE xr X W a ia) (hb : LE xr X W b ib) (hs : starEach [a, b] X.env = (false, eval a X.env) :: starEach [b] X.env := by rfl)
    (hs2 : starEach [b] X.env = (false, eval b X.env) :: starEach [] X.env := by rfl) (hpl : (backTo pos2 (starEach [b] X.env)).any (·.1) = false := by rfl)
    (na : starEach [Expr.Call (.Name "range" p2) [a, b] [] pos2] X.env = (false, eval (Expr.Call (.Name "range" p2) [a, b] [] pos2) X.env) :: starEach [] X.env := by rfl) :
    LN xr X W (.Call (.Name "list" p) [.Call (.Name "range" p2) [a, b] [] pos2] [] pos) (eOp lrg2 ia ib) := by
  obtain ⟨_, q, s⟩ := ha
  obtain ⟨_, q', s'⟩ := hb
  refine ⟨_, pe_listRg hc hg hm (prg_2 hg2 hm2 q q' hs hs2 hpl) na, fun dr env σ I H P E pr ev hi o Q q => ?_⟩
  refine twoE s s' pr ev hi o (fun v u H2 => ∃ i j, v = .int i ∧ u = .int j ∧ RgOk i j ∧ ∀ q, H2 q = none → Q (.ref q) (upd H2 q (.lst (rgV i j)))) fun x y v u H2 hx k p2 r1 r2 => ?_
  unfold lrg2 at hx
  split at hx
  · rename_i i j
    cases r1
    cases r2
    refine ⟨_, _, rfl, rfl, hx.1, fun l hl => ?_⟩
    have k2 := Kp.new (o := .lst (rgV i j)) p2 hl
    exact q _ _ _ hx.2 (k.trans k2) ((new_lst p2 hl rpl_rgV).back pr k k2)
  · exact hx.elim
theorem ln_lrg3 (hc : X.calm = true) (hg : Gl X "list") (hm : X.mg "list" = none) (hg2 : Gl X "range") (hm2 : X.mg "range" = none) (ha : LA xr X W [a, b, c] il)
    (hs : starEach [a, b, c] X.env = (false, eval a X.env) :: starEach [b, c] X.env := by rfl) (hpl : (backTo pos2 (starEach [b, c] X.env)).any (·.1) = false := by rfl)
    (na : starEach [Expr.Call (.Name "range" p2) [a, b, c] [] pos2] X.env = (false, eval (Expr.Call (.Name "range" p2) [a, b, c] [] pos2) X.env) :: starEach [] X.env := by rfl) :
    LN xr X W (.Call (.Name "list" p) [.Call (.Name "range" p2) [a, b, c] [] pos2] [] pos) (eLRg3 il) := by
  obtain ⟨_, q, s⟩ := ha
  refine ⟨_, pe_listRg3 hc hg hm hg2 hm2 q hs hpl na, fun dr env σ I H P E pr ev hi o Q q => ?_⟩
  refine s dr env σ I H _ E pr ev hi o _ fun ds vs H1 hx k1 r1 => ?_
  have p1 := pr.step k1
  unfold g3P at hx
  split at hx
  · rename_i i j k
    cases r1 with
    | cons a b =>
      cases a
      cases b with
      | cons a b =>
        cases a
        cases b with
        | cons a b =>
          cases a; cases b
          obtain ⟨⟨h1, h2, h3, h4, h5, h6⟩, h7, h8⟩ := hx
          refine ⟨i, j, k, _, rfl, RgC.pos h1 h2 h3 h4 h5 h6, by omega, fun l hl => ?_⟩
          have k2 := Kp.new (o := .lst (rgC i k (rngN i j k))) p1 hl
          exact q _ _ _ h8 (k1.trans k2) ((new_lst p1 hl rpl_rgC).back pr k1 k2)
  · exact hx.elim
end

/-! ### len(set(xs)), xs a list of tuples of ints -/
def itup (ns : List Int) : Dt := .tup (ns.map Dt.int)
def lenSetT : Dt → (Dt → Prop) → Prop
  | .lst xs, P => ∃ rows : List (List Int), xs = rows.map itup ∧ rows.length < 64 ∧ ∀ L : List (List Int), L.Nodup → (∀ x, x ∈ L ↔ x ∈ rows) → P (.int L.length)
  | _, _ => False
@[simp] theorem lenSetT_e {xs : List Dt} {P : Dt → Prop} : lenSetT (.lst xs) P = ∃ rows : List (List Int), xs = rows.map itup ∧ rows.length < 64 ∧ ∀ L : List (List Int), L.Nodup → (∀ x, x ∈ L ↔ x ∈ rows) → P (.int L.length) := id rfl
section
variable {X : Cx} {a : Expr} {ta : TE} {p pos p2 pos2 : Pos}
def tLenSetT (K : PySem.W.Frag) (ta : TE) : TE := fun σ H Q => ta σ H fun x H1 => ∃ (l : Addr) (ks : List (Addr × List Int)), x = V.ref l ∧ SqL K H1 l (ks.map fun p => V.ref p.1) ∧ (∀ p ∈ ks, SqT K H1 p.1 (p.2.map V.int)) ∧ ks.length < 64 ∧
  ∀ L : List (List Int), L.Nodup → (∀ x, x ∈ L ↔ x ∈ ks.map (·.2)) → Q (.int L.length) H1
theorem pe_lenSetT (hc : X.calm = true) (hu : X.A.units + 64 < cLine) (hg : Gl X "len") (hm : X.mg "len" = none) (hg2 : Gl X "set") (hm2 : X.mg "set" = none) (ha : PE X a ta)
    (na : starEach [a] X.env = (false, eval a X.env) :: starEach [] X.env := by rfl) : PE X (.Call (.Name "len" p) [.Call (.Name "set" p2) [a] [] pos2] [] pos) (tLenSetT X.K ta) := by
  refine ⟨fun pins s σ H Q I h => ?_⟩
  refine Call_ (ld_blt I hg hm PySem.boot_len ?_)
  refine PyProof.Rows.callWith_builtin1 (PyProof.Rows.args_cons ?_ rfl) rfl rfl
  refine Call_ (ld_blt I hg2 hm2 PyProof.Rows.boot_set ?_)
  refine PyProof.Rows.callWith_type1 (PyProof.Rows.args_cons (thn (ha.run pins s σ H _ I h) fun v s1 ⟨x, H1, I1, r1, q1⟩ => PyProof.Rows.args_nil ?_) na) na rfl
  obtain ⟨l, ks, rfl, hl, hk, hf, q⟩ := q1
  cases r1
  obtain ⟨its, rv, pl, hz⟩ := I1.list hl
  refine call_set_tups (P := X.prog) (w := X.w) ks (I1.ok.hd hc) pl.isList (by simpa using refs_of_vals rv) (fun p hp => I1.isT (hk p hp)) hf (by omega) fun h' tk L es ep t R g k => ?_
  refine PyProof.Rows.args_nil ?_
  obtain ⟨o, ho, hex, hd⟩ := R.ob
  have I2 : Inv X pins σ H1 { s1 with heap := h', toks := tk } := I1.kept k
  have hsz : es.size = L.length := by
    have h := congrArg List.length R.rows
    unfold rowsOf at h
    rw [Array.length_toList, List.length_map] at h
    exact h
  have hfew := R.few
  have hfit : t.fits es.size = true := SetTR.fits (s := { s1 with heap := h', toks := tk }) R
  refine call_len_set ho hex hd hfit (by rw [hsz] <;> omega) ⟨.int L.length, H1, I2.tok _, ⟨_, by rw [hsz]⟩, ?_⟩
  have hq := q (L.map (·.2)) R.nd fun x => ⟨fun hx => ?_, fun hx => ?_⟩
  · rw [List.length_map] at hq; exact hq
  · obtain ⟨p, hp, rfl⟩ := List.mem_map.mp hx
    exact List.mem_map.mpr ⟨p, List.mem_of_mem_take (g.sub p hp), rfl⟩
  · obtain ⟨p, hp, rfl⟩ := List.mem_map.mp hx
    exact g.all p (by rw [List.take_length]; exact hp)
end
section
variable {K : Fr} {dr : Dr} {H I : Hp}
theorem rpl_itup (s : Same I H) : ∀ {rows : List (List Int)} {vs : List V}, RpL K dr I vs (rows.map itup) → ∃ ks : List (Addr × List Int), vs = ks.map (fun p => V.ref p.1) ∧ ks.map (·.2) = rows ∧ ∀ p ∈ ks, SqT K H p.1 (p.2.map V.int)
  | [], _, h => by cases h; exact ⟨[], rfl, rfl, by simp⟩
  | r :: rows, _, h => by
    cases h with
    | cons h1 h2 =>
      obtain ⟨ks, rfl, e, hk⟩ := rpl_itup s h2
      unfold itup at h1
      cases h1 with
      | @tup a vs _ ha hr =>
        obtain rfl := hr.ints
        refine ⟨(a, r) :: ks, rfl, by simp [e], fun p hp => ?_⟩
        rcases List.mem_cons.mp hp with rfl | hp
        · exact same_seqT s ha
        · exact hk p hp
end
section
variable {xr : XR} {X : Cx} {W : WX} {a : Expr} {ia : IE} {p pos p2 pos2 : Pos}
theorem le_lenSetT (hc : X.calm = true) (hu : X.A.units + 64 < cLine) (hg : Gl X "len") (hm : X.mg "len" = none) (hg2 : Gl X "set") (hm2 : X.mg "set" = none) (ha : LO xr X W a ia)
    (na : starEach [a] X.env = (false, eval a X.env) :: starEach [] X.env := by rfl) : LE xr X W (.Call (.Name "len" p) [.Call (.Name "set" p2) [a] [] pos2] [] pos) (eUn lenSetT ia) := by
  obtain ⟨_, q, s⟩ := ha
  refine ⟨_, pe_lenSetT hc hu hg hm hg2 hm2 q na, fun dr env σ I H P E pr ev hi o Q q => ?_⟩
  refine s dr env σ I H _ E pr ev hi o _ fun x v H1 hx k1 r1 => ?_
  have p1 := pr.step k1
  unfold lenSetT at hx
  split at hx
  · obtain ⟨rows, rfl, hl, hP⟩ := hx
    obtain ⟨l, vs, rfl, h1, h2⟩ := r1.lst p1.sub
    obtain ⟨ks, rfl, e, hk⟩ := rpl_itup p1.sub h2
    refine ⟨l, ks, rfl, SqL.of h1, hk, by rw [← e, List.length_map] at hl; exact hl, fun L h3 h4 => ?_⟩
    exact q _ _ _ (hP L h3 (fun x => by rw [← e]; exact h4 x)) k1 (.int _)
  · exact hx.elim
end
end DL

set_option maxRecDepth 100000
set_option maxHeartbeats 1000000
/-! DLD: dicts whose keys are whole numbers and texts. -/
namespace DL
open PySem L2 DLX PyProof.Rows
/-- what stands at a key -/
def vD {α : Type} : List Key → List α → Key → Option α
  | k :: ks, x :: xs, j => if k = j then some x else vD ks xs j
  | _, _, _ => none
section
variable {α : Type} {k j : Key} {ks : List Key} {x : α} {xs : List α}
@[simp] theorem vD_nil : vD [] xs j = none := rfl
theorem vD_cons : vD (k :: ks) (x :: xs) j = if k = j then some x else vD ks xs j := rfl
@[simp] theorem vD_same : vD (k :: ks) (x :: xs) k = some x := by rw [vD_cons, if_pos rfl]
theorem vD_ne (h : k ≠ j) : vD (k :: ks) (x :: xs) j = vD ks xs j := by rw [vD_cons, if_neg h]
end
/-- in its place, or at the end: the keys, the values -/
def pKs (ks : List Key) (j : Key) : List Key := if (ks.any fun k => decide (k = j)) = true then ks else ks ++ [j]
def pXs {α : Type} : List Key → List α → Key → α → List α
  | k :: ks, x :: xs, j, y => if k = j then y :: xs else x :: pXs ks xs j y
  | _, xs, _, y => xs ++ [y]
def asDic : Dt → (List Key → List Dt → Prop) → Prop
  | .dic ks xs, P => P ks xs
  | _, _ => False
def asKey : Dt → (Key → Prop) → Prop
  | .int i, P => P (.inl i)
  | .str x, P => P (.inr x)
  | _, _ => False
section
variable {ks : List Key} {xs : List Dt} {P : Dt → Prop} {D : List Key → List Dt → Prop} {F : Key → Prop} {i : Int} {x : Str}
@[simp] theorem asDic_e : asDic (.dic ks xs) D = D ks xs := id rfl
@[simp] theorem asKey_i : asKey (.int i) F = F (.inl i) := id rfl
@[simp] theorem asKey_s : asKey (.str x) F = F (.inr x) := id rfl
end
def dixD (d k : Dt) (P : Dt → Prop) : Prop := asDic d fun ks xs => asKey k fun j => ∃ x, vD ks xs j = some x ∧ P x
def dinD (k d : Dt) (P : Dt → Prop) : Prop := asDic d fun ks xs => asKey k fun j => P (.bl (vD ks xs j).isSome)
def dniD (k d : Dt) (P : Dt → Prop) : Prop := asDic d fun ks xs => asKey k fun j => P (.bl (!(vD ks xs j).isSome))
section
variable {d k : Dt} {P : Dt → Prop}
@[simp] theorem dixD_e : dixD d k P = asDic d fun ks xs => asKey k fun j => ∃ x, vD ks xs j = some x ∧ P x := id rfl
@[simp] theorem dinD_e : dinD k d P = asDic d fun ks xs => asKey k fun j => P (.bl (vD ks xs j).isSome) := id rfl
@[simp] theorem dniD_e : dniD k d P = asDic d fun ks xs => asKey k fun j => P (.bl (!(vD ks xs j).isSome)) := id rfl
end
section
variable {K : Fr} {dr : Dr} {I H : Hp} {v u : V}
theorem asDic_of {d : Dt} {D : List Key → List Dt → Prop} (h : asDic d D) : ∃ ks xs, d = .dic ks xs ∧ D ks xs := by
  unfold asDic at h
  split at h
  · exact ⟨_, _, rfl, h⟩
  · exact h.elim
theorem asKey_sh {k : Dt} {F : Key → Prop} (r : Sh K dr I H u k) (h : asKey k F) : ∃ j, u = kV j ∧ F j := by
  unfold asKey at h
  split at h
  · exact ⟨.inl _, r.int, h⟩
  · exact ⟨.inr _, r.str, h⟩
  · exact h.elim
theorem Sh.dic {ks : List Key} {xs : List Dt} (s : Same I H) (h : Sh K dr I H v (.dic ks xs)) : ∃ a vs, v = .ref a ∧ H a = some (.dK (ks.zip vs)) ∧ ks.length = vs.length ∧ RpL K dr I vs xs := by
  rcases h with h | ⟨p, rfl, _, _, vs, h1, h2, h3⟩
  · cases h with
    | dic hs hl ha => exact ⟨_, _, rfl, s _ _ hs, hl, ha⟩
  · exact ⟨p, vs, rfl, h1, h2, h3⟩
theorem valV_cons {k j : Key} {x : V} {r : List (Key × V)} : valV ((k, x) :: r) j = if k = j then some x else valV r j := by
  by_cases h : k = j
  · rw [valV_pos h, if_pos h]
  · rw [valV_neg h, if_neg h]
theorem RpL.val {j : Key} : ∀ {ks : List Key} {vs : List V} {xs : List Dt}, RpL K dr I vs xs → (∀ x, vD ks xs j = some x → ∃ v, valV (ks.zip vs) j = some v ∧ Rp K dr I v x) ∧ (vD ks xs j = none → ks.length = vs.length → valV (ks.zip vs) j = none)
  | [], vs, xs, _ => ⟨fun x h => (nomatch h), fun _ _ => by rw [List.zip_nil_left]; exact valV_nil⟩
  | k :: ks, _, _, .nil => ⟨fun x h => (nomatch h), fun _ h => nomatch h⟩
  | k :: ks, v :: vs, x :: xs, .cons r t => by
    obtain ⟨h1, h2⟩ := RpL.val (j := j) (ks := ks) t
    rw [List.zip_cons_cons, vD_cons, valV_cons]
    by_cases h : k = j
    · rw [if_pos h, if_pos h]
      exact ⟨fun y e => ⟨v, rfl, Option.some.inj e ▸ r⟩, fun e => nomatch e⟩
    · rw [if_neg h, if_neg h]
      exact ⟨h1, fun e l => h2 e (Nat.succ.inj l)⟩
/-- what a dict's reading gives -/
theorem dget_of {ks : List Key} {xs : List Dt} {vs : List V} {a : Addr} {j : Key} (e : H a = some (.dK (ks.zip vs))) (hl : ks.length = vs.length) (r : RpL K dr I vs xs) : ∃ o : Option V, DGet H a (kV j) o ∧ (vD ks xs j = none → o = none) ∧ ∀ x, vD ks xs j = some x → ∃ v, o = some v ∧ Rp K dr I v x :=
  ⟨_, DGet.k e, fun h => (r.val (ks := ks)).2 h hl, fun x h => (r.val (ks := ks)).1 x h⟩
end
/-! ### d[k], k in d -/
def rDGet : R2 := fun x y H Q => ∃ a v, x = .ref a ∧ DGet H a y (some v) ∧ Q v H
def rDIn : R2 := fun y x H Q => ∃ a o, x = .ref a ∧ DGet H a y o ∧ Q (.bl o.isSome) H
def rDNi : R2 := fun y x H Q => ∃ a o, x = .ref a ∧ DGet H a y o ∧ Q (.bl (!o.isSome)) H
theorem ops_dix {K : Fr} : OpS K rDGet dixD := by
  intro dr I H x y v u P p hx hy h Q q
  obtain ⟨ks, xs, rfl, h⟩ := asDic_of h
  obtain ⟨j, rfl, z, e, hP⟩ := asKey_sh hy h
  obtain ⟨a, vs, rfl, ha, hl, r⟩ := hx.dic p.sub
  obtain ⟨o, g, _, g2⟩ := dget_of (j := j) ha hl r
  obtain ⟨w, rfl, rw'⟩ := g2 z e
  exact ⟨a, w, rfl, g, q _ _ H hP Kp.refl (rp_at p rw')⟩
theorem isSome_of {K : Fr} {dr : Dr} {I : Hp} {a : Option Dt} {o : Option V} (h1 : a = none → o = none) (h2 : ∀ x, a = some x → ∃ v, o = some v ∧ Rp K dr I v x) : o.isSome = a.isSome := by
  cases a with
  | none => rw [h1 rfl]; rfl
  | some x => obtain ⟨v, rfl, _⟩ := h2 x rfl; rfl
theorem ops_din {K : Fr} : OpS K rDIn dinD := by
  intro dr I H x y v u P p hx hy h Q q
  obtain ⟨ks, xs, rfl, h⟩ := asDic_of h
  obtain ⟨j, rfl, hP⟩ := asKey_sh hx h
  obtain ⟨a, vs, rfl, ha, hl, r⟩ := hy.dic p.sub
  obtain ⟨o, g, g1, g2⟩ := dget_of (j := j) ha hl r
  refine ⟨a, o, rfl, g, q _ _ H hP Kp.refl ?_⟩
  rw [isSome_of g1 g2]
  exact .bl _
theorem ops_dni {K : Fr} : OpS K rDNi dniD := by
  intro dr I H x y v u P p hx hy h Q q
  obtain ⟨ks, xs, rfl, h⟩ := asDic_of h
  obtain ⟨j, rfl, hP⟩ := asKey_sh hx h
  obtain ⟨a, vs, rfl, ha, hl, r⟩ := hy.dic p.sub
  obtain ⟨o, g, g1, g2⟩ := dget_of (j := j) ha hl r
  refine ⟨a, o, rfl, g, q _ _ H hP Kp.refl ?_⟩
  rw [isSome_of g1 g2]
  exact .bl _
section
variable {xr : XR} {X : Cx} {W : WX} {e a b c f o : Expr} {ia ib ic ie : IE} {pos p apos cpos : Pos}
theorem c_dic (hu : X.A.units + 1 < cLine) : CmpS X .In dinD := ⟨rDIn, fun pins s σ H x y v u Q I rx ry ⟨a, o, ex, g, q⟩ => by
  subst ex
  cases ry
  exact d_in hu I g rx fun s' I' => ⟨.bl _, H, I', rfl, q⟩, ops_din⟩
theorem c_dni (hu : X.A.units + 1 < cLine) : CmpS X .NotIn dniD := ⟨rDNi, fun pins s σ H x y v u Q I rx ry ⟨a, o, ex, g, q⟩ => by
  subst ex
  cases ry
  exact d_notIn hu I g rx fun s' I' => ⟨.bl _, H, I', rfl, q⟩, ops_dni⟩
theorem le_dix (hu : X.A.units + 1 < cLine) (ha : LO xr X W a ia) (hb : LO xr X W b ib) (hs : NoSl b := by intro _ _; rfl) : LE xr X W (.Subscript a b pos) (eOp dixD ia ib) := by
  obtain ⟨_, p, s⟩ := ha
  obtain ⟨_, q, t⟩ := hb
  have z := pe_dget (pos := pos) hu p q hs
  exact ⟨_, z, snd_op (r := rDGet) ops_dix s t⟩
end
/-! ### d.get(k), d.get(k, x) -/
def eGet1 (ia ib : IE) : IE := fun env P E => ia env (fun d => asDic d fun ks xs => ib env (fun k => asKey k fun j => P ((vD ks xs j).getD .non)) E) E
def eGet2 (ia ib ic : IE) : IE := fun env P E => ia env (fun d => asDic d fun ks xs => ib env (fun k => asKey k fun j => ic env (fun z => P ((vD ks xs j).getD z)) E) E) E
section
variable {ia ib ic : IE} {env : List Sl} {P : Dt → Prop} {E : Xc → Prop}
@[simp] theorem eGet1_e : eGet1 ia ib env P E = ia env (fun d => asDic d fun ks xs => ib env (fun k => asKey k fun j => P ((vD ks xs j).getD .non)) E) E := id rfl
@[simp] theorem eGet2_e : eGet2 ia ib ic env P E = ia env (fun d => asDic d fun ks xs => ib env (fun k => asKey k fun j => ic env (fun z => P ((vD ks xs j).getD z)) E) E) E := id rfl
end
theorem Rp.key {K : Fr} {dr : Dr} {I : Hp} {u : V} {k : Dt} {F : Key → Prop} (r : Rp K dr I u k) (h : asKey k F) : ∃ j, u = kV j ∧ F j := asKey_sh (H := I) (I := I) (.inl r) h
theorem kp_dic {K : Fr} {dr : Dr} {I H H1 : Hp} {a : Addr} {u : HO} (p : Pre dr I H) (sh : ∀ q, dr = some q → H q.1 ≠ some u ∧ H q.2 ≠ some u) (e : H a = some u) (k : Kp dr H H1) : H1 a = some u :=
  k.keep a _ e fun ⟨q, e1, e2⟩ => by
    rcases e2 with rfl | rfl
    · exact (sh q e1).1 e
    · exact (sh q e1).2 e
theorem not_draw {dr : Dr} {I H : Hp} {a : Addr} {kvs : List (Key × V)} (p : Pre dr I H) (e : H a = some (.dK kvs)) : ¬ IsDr dr a := fun ⟨q, e1, e2⟩ => by
  obtain ⟨j, cs, h1, h2, _⟩ := p.dro q e1
  rcases e2 with rfl | rfl
  · rw [h1] at e; cases e
  · rw [h2] at e; cases e
section
variable {K : Fr} {xr : XR} {W : WX} {ta tb tc : TE} {ia ib ic : IE}
theorem rp_getD {dr : Dr} {I : Hp} {a : Option Dt} {o : Option V} {z : V} {d : Dt} (h1 : a = none → o = none) (h2 : ∀ x, a = some x → ∃ v, o = some v ∧ Rp K dr I v x) (hz : Rp K dr I z d) : Rp K dr I (o.getD z) (a.getD d) := by
  cases a with
  | none => rw [h1 rfl]; exact hz
  | some x => obtain ⟨v, rfl, r⟩ := h2 x rfl; exact r
theorem snd_get1 (ha : SndO K xr W ta ia) (hb : Snd K xr W tb ib) : Snd K xr W (tDGet1 ta tb) (eGet1 ia ib) := fun dr env σ I H P E p ev hi o Q q => by
  refine ha dr env σ I H _ E p ev hi o _ fun x v H1 hx k1 r1 => ?_
  obtain ⟨ks, xs, rfl, hx⟩ := asDic_of hx
  have p1 := p.step k1
  obtain ⟨a, vs, rfl, h1, hl, r⟩ := r1.dic p1.sub
  have nd := not_draw p1 h1
  refine ⟨a, rfl, .inl ⟨_, .inl h1⟩, ?_⟩
  refine hb dr env σ _ H1 _ E p1 (ev.step k1 p) hx (o.step k1) _ fun y u H2 hy k2 r2 => ?_
  obtain ⟨j, rfl, hP⟩ := r2.key hy
  have r' := RpL.mono (p1.ext_sub (H' := H2)) _ _ r
  rw [p.ext_ext k1 k2] at r'
  obtain ⟨o', g, g1, g2⟩ := dget_of (j := j) (k2.keep a _ h1 nd) hl r'
  exact ⟨o', g, q _ _ H2 hP (k1.trans k2) (rp_getD g1 g2 .non)⟩
theorem snd_get2 (ha : SndO K xr W ta ia) (hb : Snd K xr W tb ib) (hc : Snd K xr W tc ic) : Snd K xr W (tDGet2 ta tb tc) (eGet2 ia ib ic) := fun dr env σ I H P E p ev hi o Q q => by
  refine ha dr env σ I H _ E p ev hi o _ fun x v H1 hx k1 r1 => ?_
  obtain ⟨ks, xs, rfl, hx⟩ := asDic_of hx
  have p1 := p.step k1
  have ev1 := ev.step k1 p
  obtain ⟨a, vs, rfl, h1, hl, r⟩ := r1.dic p1.sub
  have nd := not_draw p1 h1
  refine ⟨a, rfl, .inl ⟨_, .inl h1⟩, ?_⟩
  refine hb dr env σ _ H1 _ E p1 ev1 hx (o.step k1) _ fun y u H2 hy k2 r2 => ?_
  obtain ⟨j, rfl, hP⟩ := r2.key hy
  have p2 := p1.step k2
  refine hc dr env σ _ H2 _ E p2 (ev1.step k2 p1) hP ((o.step k1).step k2) _ fun z w H3 hz k3 r3 => ?_
  have r' := RpL.mono (p2.ext_sub (H' := H3)) _ _ (RpL.mono (p1.ext_sub (H' := H2)) _ _ r)
  have e1 := p1.ext_ext k2 k3
  have e2 := p.ext_ext k1 (k2.trans k3)
  rw [e1, e2] at r' r3
  obtain ⟨o', g, g1, g2⟩ := dget_of (j := j) (k3.keep a _ (k2.keep a _ h1 nd) nd) hl r'
  exact ⟨o', g, q _ _ H3 hz (k1.trans (k2.trans k3)) (rp_getD g1 g2 r3)⟩
end
section
variable {xr : XR} {X : Cx} {W : WX} {e f o : Expr} {ia ib ic : IE} {apos cpos : Pos}
theorem le_get1 (hu : X.A.units + 1 < cLine) (ha : LO xr X W o ia) (hb : LE xr X W e ib) (m1 : attributeBase o "get" X.env (eval o X.env) = eval o X.env := by rfl)
    (m2 : ((backTo cpos (starEach [e] X.env)).all (fun x => !x.1) && (backToKw cpos (keywordEach [] X.env)).all (fun x => x.1.isSome) && decide (([e] : List Expr).length + ([] : List Keyword).length + (if ([] : List Keyword).isEmpty then 0 else 1) < 30)) = true := by rfl)
    (m3 : (apos.endLine == cpos.line) = true := by rfl) (m4 : backTo cpos (starEach [e] X.env) = [(false, eval e X.env)] := by rfl) : LE xr X W (.Call (.Attribute o "get" apos) [e] [] cpos) (eGet1 ia ib) :=
  let ⟨_, p, s⟩ := ha; let ⟨_, q, t⟩ := hb; ⟨_, pe_dget1 hu p q ⟨m1, m2, m3, m4⟩, snd_get1 s t⟩
theorem le_get2 (hu : X.A.units + 1 < cLine) (ha : LO xr X W o ia) (hb : LE xr X W e ib) (hc : LE xr X W f ic) (m1 : attributeBase o "get" X.env (eval o X.env) = eval o X.env := by rfl)
    (m2 : ((backTo cpos (starEach [e, f] X.env)).all (fun x => !x.1) && (backToKw cpos (keywordEach [] X.env)).all (fun x => x.1.isSome) && decide (([e, f] : List Expr).length + ([] : List Keyword).length + (if ([] : List Keyword).isEmpty then 0 else 1) < 30)) = true := by rfl)
    (m3 : (apos.endLine == cpos.line) = true := by rfl) (m4 : backTo cpos (starEach [e, f] X.env) = [(false, eval e X.env), (false, eval f X.env)] := by rfl) : LE xr X W (.Call (.Attribute o "get" apos) [e, f] [] cpos) (eGet2 ia ib ic) :=
  let ⟨_, p, s⟩ := ha; let ⟨_, q, t⟩ := hb; let ⟨_, r, u⟩ := hc; ⟨_, pe_dget2 hu p q r ⟨m1, m2, m3, m4⟩, snd_get2 s t u⟩
end
end DL

set_option maxRecDepth 100000
set_option maxHeartbeats 1000000
/-! DLE: displays of dicts, d[k] = v. -/
namespace DL
open PySem L2 DLX PyProof.Rows
def hasK (ks : List Key) (j : Key) : Bool := ks.any fun k => decide (k = j)
def zM {α : Type} (j : Key) (y : α) : List Key → List α → List α
  | k :: ks, x :: xs => (if k = j then y else x) :: zM j y ks xs
  | _, xs => xs
/-- in its place, or at the end: the keys, the values -/
def kPut (ks : List Key) (j : Key) : List Key := if hasK ks j = true then ks else ks ++ [j]
def xPut {α : Type} (ks : List Key) (xs : List α) (j : Key) (y : α) : List α := if hasK ks j = true then zM j y ks xs else xs ++ [y]
section
variable {α : Type} {j k : Key} {y x : α} {ks : List Key} {xs : List α}
@[simp] theorem hasK_nil : hasK [] j = false := rfl
@[simp] theorem hasK_cons : hasK (k :: ks) j = (decide (k = j) || hasK ks j) := rfl
@[simp] theorem zM_nil : zM j y ([] : List Key) xs = xs := by cases xs <;> rfl
@[simp] theorem zM_cons : zM j y (k :: ks) (x :: xs) = (if k = j then y else x) :: zM j y ks xs := rfl
theorem zM_len : ∀ {ks : List Key} {xs : List α}, (zM j y ks xs).length = xs.length
  | [], xs => by rw [zM_nil]
  | _ :: _, [] => rfl
  | k :: ks, x :: xs => congrArg (· + 1) zM_len
theorem put_len (h : ks.length = xs.length) : (kPut ks j).length = (xPut ks xs j y).length := by
  unfold kPut xPut
  split
  · rw [zM_len, h]
  · simp [h]
theorem kPut_le : (kPut ks j).length ≤ ks.length + 1 := by
  unfold kPut
  split
  · omega
  · simp
end
theorem zM_zip {j : Key} {y : V} : ∀ {ks : List Key} {vs : List V}, ks.length = vs.length → (ks.zip vs).map (fun kv => if kv.1 = j then (kv.1, y) else kv) = ks.zip (zM j y ks vs)
  | [], _, _ => rfl
  | k :: ks, [], h => by cases h
  | k :: ks, v :: vs, h => by
    rw [List.zip_cons_cons, List.map_cons, zM_cons, List.zip_cons_cons, zM_zip (Nat.succ.inj h)]
    by_cases hk : k = j
    · simp [hk]
    · simp [hk]
theorem any_zip {j : Key} : ∀ {ks : List Key} {vs : List V}, ks.length = vs.length → ((ks.zip vs).any fun kv => decide (kv.1 = j)) = hasK ks j
  | [], _, _ => rfl
  | k :: ks, [], h => by cases h
  | k :: ks, v :: vs, h => by rw [List.zip_cons_cons, List.any_cons, hasK_cons, any_zip (Nat.succ.inj h)]
theorem putK_zip {ks : List Key} {vs : List V} {j : Key} {y : V} (h : ks.length = vs.length) : putK (ks.zip vs) j y = (kPut ks j).zip (xPut ks vs j y) := by
  unfold putK kPut xPut
  rw [any_zip h]
  split
  · exact zM_zip h
  · rw [List.zip_append h]; rfl
section
variable {K : Fr} {dr : Dr} {I : Hp}
theorem RpL.zM {j : Key} {v : V} {d : Dt} (r : Rp K dr I v d) : ∀ {ks : List Key} {vs : List V} {xs : List Dt}, RpL K dr I vs xs → RpL K dr I (DL.zM j v ks vs) (DL.zM j d ks xs)
  | [], _, _, h => by rw [zM_nil, zM_nil]; exact h
  | k :: ks, _, _, .nil => .nil
  | k :: ks, _, _, .cons a t => by
    rw [zM_cons, zM_cons]
    refine .cons ?_ (RpL.zM r t)
    split
    · exact r
    · exact a
theorem RpL.xPut {j : Key} {v : V} {d : Dt} {ks : List Key} {vs : List V} {xs : List Dt} (r : Rp K dr I v d) (h : RpL K dr I vs xs) : RpL K dr I (DL.xPut ks vs j v) (DL.xPut ks xs j d) := by
  unfold DL.xPut
  split
  · exact RpL.zM r h
  · exact h.append (.cons r .nil)
end
/-! ### {} -/
def eDNew : IE := fun _ P _ => P (.dic [] [])
@[simp] theorem eDNew_e {env : List Sl} {P : Dt → Prop} {E : Xc → Prop} : eDNew env P E = P (.dic [] []) := id rfl
theorem sndN_dnew {K : Fr} {xr : XR} {W : WX} : SndN K xr W tDNewK eDNew := fun dr env σ I H P E p ev hi o Q q l hl =>
  q _ _ _ hi (Kp.new p hl) ⟨l, rfl, hl, [], upd_same, rfl, .nil⟩
theorem ln_dnew {xr : XR} {X : Cx} {W : WX} {pos : Pos} : LN xr X W (.Dict [] [] pos) eDNew := ⟨_, pe_dnewK, sndN_dnew⟩
/-! ### {k: v, ..} -/
def dPairs : List (IE × IE) → List Sl → (List (Key × Dt) → Prop) → (Xc → Prop) → Prop
  | [], _, P, _ => P []
  | (ik, iv) :: r, env, P, E => ik env (fun k => asKey k fun j => iv env (fun x => dPairs r env (fun ps => P ((j, x) :: ps)) E) E) E
def dMerge : List Key → List Dt → List (Key × Dt) → Dt
  | ks, xs, [] => .dic ks xs
  | ks, xs, (j, x) :: r => dMerge (kPut ks j) (xPut ks xs j x) r
def eDisp (trs : List (IE × IE)) : IE := fun env P E => dPairs trs env (fun ps => ps.length ≤ 15 ∧ P (dMerge [] [] ps)) E
section
variable {ik iv : IE} {r trs : List (IE × IE)} {env : List Sl} {P : Dt → Prop} {PP : List (Key × Dt) → Prop} {E : Xc → Prop} {ks : List Key} {xs : List Dt} {j : Key} {x : Dt} {ps : List (Key × Dt)}
@[simp] theorem dPairs_n : dPairs [] env PP E = PP [] := id rfl
@[simp] theorem dPairs_c : dPairs ((ik, iv) :: r) env PP E = ik env (fun k => asKey k fun j => iv env (fun x => dPairs r env (fun ps => PP ((j, x) :: ps)) E) E) E := id rfl
@[simp] theorem dMerge_n : dMerge ks xs [] = .dic ks xs := rfl
@[simp] theorem dMerge_c : dMerge ks xs ((j, x) :: ps) = dMerge (kPut ks j) (xPut ks xs j x) ps := rfl
@[simp] theorem eDisp_e : eDisp trs env P E = dPairs trs env (fun ps => ps.length ≤ 15 ∧ P (dMerge [] [] ps)) E := id rfl
end
inductive SndPs (K : Fr) (xr : XR) (W : WX) : List (TE × TE) → List (IE × IE) → Prop
  | nil : SndPs K xr W [] []
  | cons {tk tv : TE} {ik iv : IE} {ts : List (TE × TE)} {is : List (IE × IE)} : Snd K xr W tk ik → Snd K xr W tv iv → SndPs K xr W ts is → SndPs K xr W ((tk, tv) :: ts) ((ik, iv) :: is)
section
variable {K : Fr} {xr : XR} {W : WX}
theorem snd_pairs {ts : List (TE × TE)} {is : List (IE × IE)} (h : SndPs K xr W ts is) : ∀ dr env σ I H (P : List (Key × Dt) → Prop) E, Pre dr I H → EnvOk K dr env σ I H → dPairs is env P E → OutE xr W dr σ H E → ∀ Q : List (V × V) → Hp → Prop,
    (∀ ps (kvs : List (Key × V)) H', P ps → Kp dr H H' → kvs.map (·.1) = ps.map (·.1) → RpL K dr (ext I H H') (kvs.map (·.2)) (ps.map (·.2)) → Q (kvs.map fun kv => (kV kv.1, kv.2)) H') → tPairs ts σ H Q := by
  induction h with
  | nil => exact fun dr env σ I H P E p ev hi o Q q => q [] [] H hi Kp.refl rfl .nil
  | cons hk hv _ ih =>
    intro dr env σ I H P E p ev hi o Q q
    refine hk dr env σ I H _ E p ev hi o _ fun k u H1 hx k1 r1 => ?_
    obtain ⟨j, rfl, hx⟩ := r1.key hx
    have p1 := p.step k1
    have ev1 := ev.step k1 p
    refine hv dr env σ _ H1 _ E p1 ev1 hx (o.step k1) _ fun x v H2 hy k2 r2 => ?_
    have p2 := p1.step k2
    refine ih dr env σ _ H2 _ E p2 (ev1.step k2 p1) hy ((o.step k1).step k2) _ fun ps kvs H3 hz k3 e r3 => ?_
    have r2' := r2.mono (p2.ext_sub (H' := H3))
    have e1 := p1.ext_ext k2 k3
    have e2 := p.ext_ext k1 (k2.trans k3)
    rw [e1, e2] at r2' r3
    exact q ((j, x) :: ps) ((j, v) :: kvs) H3 hz (k1.trans (k2.trans k3)) (by rw [List.map_cons, List.map_cons, e]) (.cons r2' r3)
theorem merge_zip : ∀ {kvs : List (Key × V)} {ks : List Key} {vs : List V}, ks.length = vs.length → ∃ ks' vs', mergeK (ks.zip vs) kvs = ks'.zip vs' ∧ ks'.length = vs'.length ∧ ∀ {dr : Dr} {I : Hp} {xs : List Dt} {ps : List (Key × Dt)}, RpL K dr I vs xs → kvs.map (·.1) = ps.map (·.1) → RpL K dr I (kvs.map (·.2)) (ps.map (·.2)) →
    ∃ xs', dMerge ks xs ps = .dic ks' xs' ∧ RpL K dr I vs' xs'
  | [], ks, vs, h => ⟨ks, vs, rfl, h, fun {dr I xs ps} r e _ => by
    cases ps with
    | nil => exact ⟨xs, rfl, r⟩
    | cons _ _ => cases e⟩
  | (j, v) :: kvs, ks, vs, h => by
    obtain ⟨ks', vs', e1, e2, e3⟩ := merge_zip (kvs := kvs) (put_len (j := j) (y := v) h)
    refine ⟨ks', vs', ?_, e2, fun {dr I xs ps} r e rr => ?_⟩
    · rw [← e1, ← putK_zip h]; rfl
    · cases ps with
      | nil => cases e
      | cons p ps =>
        obtain ⟨j', x⟩ := p
        simp only [List.map_cons, List.cons.injEq] at e rr
        obtain ⟨rfl, e⟩ := e
        cases rr with
        | cons r1 r2 => exact e3 (r.xPut r1) e r2
theorem sndN_disp {ts : List (TE × TE)} {is : List (IE × IE)} (h : SndPs K xr W ts is) : SndN K xr W (tDisp ts) (eDisp is) := fun dr env σ I H P E p ev hi o Q q l hl => by
  have k0 := Kp.new (o := .dK []) p hl
  have nd := p.notDr hl
  have p0 : Pre dr (hid l (ext I H (upd H l (.dK [])))) (upd H l (.dK [])) := (p.step k0).less hid_same
  have ev0 := ev.hid p k0 hl
  refine snd_pairs h dr env σ _ _ _ E p0 ev0 hi (o.step k0) _ fun ps kvs H2 hP k e r => ?_
  have h2 : H2 l = some (.dK []) := k.keep l _ upd_same nd
  have hlen : kvs.length = ps.length := by have := congrArg List.length e; simpa using this
  obtain ⟨ks', vs', e1, e2, e3⟩ := merge_zip (K := K) (kvs := kvs) (ks := []) (vs := []) rfl
  obtain ⟨xs', e4, e5⟩ := e3 (xs := []) .nil e r
  refine ⟨h2, kvs, rfl, by rw [hlen]; exact hP.1, ?_⟩
  have e1' : mergeK [] kvs = ks'.zip vs' := e1
  rw [e1']
  rw [e4] at hP
  refine q _ _ _ hP.2 ⟨fun a u ea na => ?_, fun qq eq dk => ?_⟩ ⟨l, rfl, hl, vs', upd_same, e2, RpL.mono (fun a u ea => ?_) _ _ e5⟩
  · have ne : a ≠ l := fun z => by subst z; rw [hl] at ea; cases ea
    rw [upd_ne ne]
    exact k.keep a u (by rw [upd_ne ne]; exact ea) na
  · have n1 : qq.1 ≠ l := fun z => nd ⟨qq, eq, .inl z.symm⟩
    have n2 : qq.2 ≠ l := fun z => nd ⟨qq, eq, .inr z.symm⟩
    obtain ⟨i, cs, a1, a2, a3⟩ := k.dro qq eq (k0.dro qq eq dk)
    exact ⟨i, cs, by rw [upd_ne n1]; exact a1, by rw [upd_ne n2]; exact a2, a3⟩
  · by_cases ha : a = l
    · subst ha
      rw [ext_some (by rw [upd_same]; simp)] at ea
      unfold hid at ea
      rw [if_pos rfl] at ea
      cases ea
    · unfold hid
      rw [if_neg ha]
      by_cases hH : H a = none
      · rw [ext_none (by rw [upd_ne ha]; exact hH)] at ea
        rw [ext_none hH, upd_ne ha]
        exact ea
      · rw [ext_some (by rw [upd_ne ha]; exact hH)] at ea
        unfold hid at ea
        rw [if_neg ha, ext_some hH] at ea
        rw [ext_some hH]
        exact ea
end
def LPs (xr : XR) (X : Cx) (W : WX) (pos : Pos) (keys : List (Option Expr)) (values : List Expr) (is : List (IE × IE)) : Prop := ∃ trs, PPs X pos keys values trs ∧ SndPs X.K xr W trs is
section
variable {xr : XR} {X : Cx} {W : WX} {k v : Expr} {ks : List (Option Expr)} {vs : List Expr} {ik iv : IE} {is : List (IE × IE)} {pos : Pos}
theorem lps_nil : LPs xr X W pos [] [] [] := ⟨_, pps_nil, .nil⟩
theorem lps_cons (hk : LE xr X W k ik) (hv : LE xr X W v iv) (h : LPs xr X W pos ks vs is) : LPs xr X W pos (some k :: ks) (v :: vs) ((ik, iv) :: is) :=
  let ⟨_, p, s⟩ := hk; let ⟨_, q, t⟩ := hv; let ⟨_, r, u⟩ := h; ⟨_, pps_cons p q r, .cons s t u⟩
theorem ln_disp (h : LPs xr X W pos ks vs is) (hall : ks.all (·.isSome) = true := by rfl) (hl : ks.length = vs.length := by rfl) (h0 : ks ≠ [] := by simp) (h15 : ks.length ≤ 15 := by decide) : LN xr X W (.Dict ks vs pos) (eDisp is) :=
  let ⟨_, p, s⟩ := h; ⟨_, pe_disp p hall hl h0 h15, sndN_disp s⟩
end
/-! ### d[k] = v, d owned -/
def owD (env : List Sl) (i : Nat) (P : List Key → List Dt → Prop) : Prop := match sl env i with
  | .ow (.dic ks xs) => P ks xs
  | _ => False
theorem owD_of {env : List Sl} {i : Nat} {P : List Key → List Dt → Prop} (h : owD env i P) : ∃ ks xs, sl env i = .ow (.dic ks xs) ∧ P ks xs := by
  unfold owD at h
  split at h
  · exact ⟨_, _, by assumption, h⟩
  · exact h.elim
def odV : Sl → (List Key → List Dt → Prop) → Prop
  | .ow (.dic ks xs), P => P ks xs
  | _, _ => False
@[simp] theorem odV_e {ks : List Key} {xs : List Dt} {P : List Key → List Dt → Prop} : odV (.ow (.dic ks xs)) P = P ks xs := id rfl
def sDPutI (i : Nat) (ik iv : IE) : IS := fun env Pp => iv env (fun d => owD env i fun ks xs => ik env (fun k => asKey k fun j => ks.length < 16777216 ∧ Pp.nx (put env i (.ow (.dic (kPut ks j) (xPut ks xs j d))))) (fun x => Pp.ex x env)) (fun x => Pp.ex x env)
@[simp] theorem sDPutI_e {i : Nat} {ik iv : IE} {env : List Sl} {Pp : Po} : sDPutI i ik iv env Pp = iv env (fun d => odV (sl env i) fun ks xs => ik env (fun k => asKey k fun j => ks.length < 16777216 ∧ Pp.nx (put env i (.ow (.dic (kPut ks j) (xPut ks xs j d))))) (fun x => Pp.ex x env)) (fun x => Pp.ex x env) := by
  unfold sDPutI owD odV
  congr 1
  funext d
  cases sl env i with
  | ow d => cases d <;> rfl
  | _ => rfl
theorem sndS_dput {K : Fr} {xr : XR} {W : WX} {tk tv : TE} {ik iv : IE} {i : Nat} (hk : Snd K xr W tk ik) (hv : Snd K xr W tv iv) : SndS K xr W (sDPut (tVar i) tk tv) (sDPutI i ik iv) := fun dr J B Gh env σ I H Pp D s hi o => by
  refine hv dr env σ I H _ _ s.pre s.ev hi (o.e s) _ fun d v H1 hP k1 rv => ?_
  obtain ⟨ks, xs, e, hP⟩ := owD_of hP
  have s1 := s.step k1
  obtain ⟨p, e1, hn, hd, vs, h1, hl, r⟩ := s1.ev.ow e
  refine ⟨_, e1, ?_⟩
  refine hk dr env σ _ H1 _ _ s1.pre s1.ev hP (o.e s1) _ fun kk w H2 hP2 k2 rw' => ?_
  obtain ⟨j, rfl, hlt, hP2⟩ := rw'.key hP2
  have h2 := k2.keep p _ h1 hd
  refine ⟨p, _, rfl, DPut.k h2 ?_, ?_⟩
  · rw [List.length_zip, ← hl, Nat.min_self, sizeLine_eq]; omega
  rw [putK_zip hl]
  refine o.nx _ _ _ _ hP2 ((s1.step k2).write e e1 ⟨_, upd_same, put_len hl, ?_⟩)
  exact (RpL.mono s1.pre.ext_sub _ _ r).xPut (rv.mono s1.pre.ext_sub)
section
variable {xr : XR} {X : Cx} {W : WX} {b e1 : Expr} {ib ie : IE} {x : Str} {px apos pos : Pos}
theorem ls_dput (i : Nat) (hu : X.A.units + 1 < cLine) (hb : LE xr X W b ib) (h : LE xr X W e1 ie) (hN : X.N[i]? = some x := by rfl) (hv : Vis X.env.scope x := by first | exact Or.inl rfl | exact Or.inr (Or.inl rfl) | exact Or.inr (Or.inr rfl)) (hd : (x == ("__debug__" : Str)) = false := by decide) (hcd : (x == ("__classdict__" : Str)) = false := by decide)
    (hs : swapsWith e1 (some (.Subscript (.Name x px) b apos)) pos.line X.env = pure false := by rfl) : LS xr X W (.Assign [.Subscript (.Name x px) b apos] e1 pos) (sDPutI i ib ie) :=
  let ⟨_, p, s⟩ := hb; let ⟨_, q, t⟩ := h; ⟨_, ps_dput hu (pe_var hN hv hd hcd) p q hs, sndS_dput s t⟩
end
theorem hu1 {n m : Nat} (h : n + 65 < m) : n + 1 < m := by omega
theorem hu64 {n m : Nat} (h : n + 65 < m) : n + 64 < m := by omega
end DL

set_option maxRecDepth 100000
set_option maxHeartbeats 4000000
namespace KK
open PySem L2 DL DLX
def top (i : Nat) : Stmt := PySem.Challenge.pw_cogwright_k14_whole_hands_and_days.main.body.getD i (.Pass ⟨0, 0, 0, 0⟩)
abbrev s_divisor : Stmt := top 4
abbrev s_part : Stmt := top 5
abbrev s_plus : Stmt := top 6
abbrev s_minus : Stmt := top 7
abbrev s_times : Stmt := top 8
abbrev s_over : Stmt := top 9
abbrev s_is_less : Stmt := top 10
abbrev s_whole_below : Stmt := top 11
abbrev s_rest : Stmt := top 15
abbrev s_stands : Stmt := top 16
abbrev s_gap : Stmt := top 17
abbrev s_meetings : Stmt := top 18
abbrev s_every : Stmt := top 19
abbrev s_round_of : Stmt := top 20
abbrev s_common_below : Stmt := top 21
abbrev s_all_meet : Stmt := top 22
abbrev s_told_time : Stmt := top 23
abbrev s_swapped : Stmt := top 24
abbrev s_speeds_of : Stmt := top 25
abbrev s_later : Stmt := top 26
abbrev s_between : Stmt := top 27
abbrev s_are_wheels : Stmt := top 30
abbrev s_period : Stmt := top 31
abbrev s_stand : Stmt := top 32
abbrev s_joined : Stmt := top 33
abbrev s_inverse : Stmt := top 34
abbrev s_check_goal : Stmt := top 35
abbrev s_first_day : Stmt := top 36
abbrev s_why_never : Stmt := top 37
abbrev s_days_at : Stmt := top 38
abbrev s_leap_days : Stmt := top 39
abbrev s_is_leap : Stmt := top 40
abbrev s_is_rule : Stmt := top 41
abbrev s_days_to : Stmt := top 42
abbrev s_year_of : Stmt := top 43
abbrev s_mean_year : Stmt := top 44
abbrev s__law_state : Stmt := top 46
abbrev s__law_take : Stmt := top 47
abbrev s__law_fr : Stmt := top 49
abbrev s__law_add : Stmt := top 50
abbrev s__law_mul : Stmt := top 51
abbrev s__law_sub : Stmt := top 52
abbrev s__law_less : Stmt := top 54
abbrev s__law_over : Stmt := top 55
abbrev s__law_rest : Stmt := top 56
abbrev s__law_at : Stmt := top 57
abbrev s__law_meet : Stmt := top 58
abbrev s__law_hand : Stmt := top 59
abbrev s__law_word : Stmt := top 60
abbrev s__law_hands_hold : Stmt := top 61
abbrev s__law_days_hold : Stmt := top 62
abbrev s_law : Stmt := top 63
def c_NOUGHT : Dt := (.tup [(.int 0), (.int 1)])
def c_ONE : Dt := (.tup [(.int 1), (.int 1)])
def c_MOST_DAYS : Dt := (.int 100000)
abbrev s_init : Stmt := initOf (top 2)
structure Txt (P : Program) (K : Fr) (mg : Str → Option Value) where
  d_divisor : Dfn K mg "divisor" s_divisor
  d_part : Dfn K mg "part" s_part
  d_plus : Dfn K mg "plus" s_plus
  d_minus : Dfn K mg "minus" s_minus
  d_times : Dfn K mg "times" s_times
  d_over : Dfn K mg "over" s_over
  d_is_less : Dfn K mg "is_less" s_is_less
  d_whole_below : Dfn K mg "whole_below" s_whole_below
  d_rest : Dfn K mg "rest" s_rest
  d_stands : Dfn K mg "stands" s_stands
  d_gap : Dfn K mg "gap" s_gap
  d_meetings : Dfn K mg "meetings" s_meetings
  d_every : Dfn K mg "every" s_every
  d_round_of : Dfn K mg "round_of" s_round_of
  d_common_below : Dfn K mg "common_below" s_common_below
  d_all_meet : Dfn K mg "all_meet" s_all_meet
  d_told_time : Dfn K mg "told_time" s_told_time
  d_swapped : Dfn K mg "swapped" s_swapped
  d_speeds_of : Dfn K mg "speeds_of" s_speeds_of
  d_later : Dfn K mg "later" s_later
  d_between : Dfn K mg "between" s_between
  d_are_wheels : Dfn K mg "are_wheels" s_are_wheels
  d_period : Dfn K mg "period" s_period
  d_stand : Dfn K mg "stand" s_stand
  d_joined : Dfn K mg "joined" s_joined
  d_inverse : Dfn K mg "inverse" s_inverse
  d_check_goal : Dfn K mg "check_goal" s_check_goal
  d_first_day : Dfn K mg "first_day" s_first_day
  d_why_never : Dfn K mg "why_never" s_why_never
  d_days_at : Dfn K mg "days_at" s_days_at
  d_leap_days : Dfn K mg "leap_days" s_leap_days
  d_is_leap : Dfn K mg "is_leap" s_is_leap
  d_is_rule : Dfn K mg "is_rule" s_is_rule
  d_days_to : Dfn K mg "days_to" s_days_to
  d_year_of : Dfn K mg "year_of" s_year_of
  d_mean_year : Dfn K mg "mean_year" s_mean_year
  d__law_state : Dfn K mg "_law_state" s__law_state
  d__law_take : Dfn K mg "_law_take" s__law_take
  d__law_fr : Dfn K mg "_law_fr" s__law_fr
  d__law_add : Dfn K mg "_law_add" s__law_add
  d__law_mul : Dfn K mg "_law_mul" s__law_mul
  d__law_sub : Dfn K mg "_law_sub" s__law_sub
  d__law_less : Dfn K mg "_law_less" s__law_less
  d__law_over : Dfn K mg "_law_over" s__law_over
  d__law_rest : Dfn K mg "_law_rest" s__law_rest
  d__law_at : Dfn K mg "_law_at" s__law_at
  d__law_meet : Dfn K mg "_law_meet" s__law_meet
  d__law_hand : Dfn K mg "_law_hand" s__law_hand
  d__law_word : Dfn K mg "_law_word" s__law_word
  d__law_hands_hold : Dfn K mg "_law_hands_hold" s__law_hands_hold
  d__law_days_hold : Dfn K mg "_law_days_hold" s__law_days_hold
  d_law : Dfn K mg "law" s_law
  c_NOUGHT : Cst K mg "NOUGHT" c_NOUGHT
  c_ONE : Cst K mg "ONE" c_ONE
  c_MOST_DAYS : Cst K mg "MOST_DAYS" c_MOST_DAYS
  b_abs : mg "abs" = none
  b_all : mg "all" = none
  b_any : mg "any" = none
  b_bool : mg "bool" = none
  b_int : mg "int" = none
  b_isinstance : mg "isinstance" = none
  b_len : mg "len" = none
  b_list : mg "list" = none
  b_range : mg "range" = none
  b_set : mg "set" = none
  b_tuple : mg "tuple" = none
  mis : Mis P K mg s_init

abbrev N_divisor : List Str := "one" :: "other" :: []
abbrev p_divisor : List Str := ["one", "other"]
def m_divisor : IS := (sSeq (sPar 0 1 (xE (eCB (f1 absD) (aCons (eVar 0) aNil))) (xE (eCB (f1 absD) (aCons (eVar 1) aNil))))
  (sSeq (sWhile (bT (eOp neD (eVar 1) (eC (.int 0)))) (sPar 0 1 (xE (eVar 1)) (xE (eOp modI (eVar 0) (eVar 1)))))
  (sRet (eVar 0))))
def sp_divisor : DSp := fun ds P E => ds.length = 2 ∧ m_divisor (init 2 ds) { nx := fun _ => P .non, rt := P, ex := fun x _ => E x }

abbrev N_part : List Str := "above" :: "below" :: "common" :: []
abbrev p_part : List Str := ["above", "below"]
def m_part : IS := (sSeq (sIf (bT (eOp ltI (eVar 1) (eC (.int 0)))) (sPar 0 1 (xE (eOp subI (eC (.int 0)) (eVar 0))) (xE (eOp subI (eC (.int 0)) (eVar 1)))) sNext)
  (sSeq (sSet 2 (xE (eCall sp_divisor (aCons (eVar 0) (aCons (eVar 1) aNil)))))
  (sRet (eTup (aCons (eOp divI (eVar 0) (eVar 2)) (aCons (eOp divI (eVar 1) (eVar 2)) aNil))))))
def sp_part : DSp := fun ds P E => ds.length = 2 ∧ m_part (init 3 ds) { nx := fun _ => P .non, rt := P, ex := fun x _ => E x }

abbrev N_plus : List Str := "one" :: "other" :: []
abbrev p_plus : List Str := ["one", "other"]
def m_plus : IS := (sRet (eCall sp_part (aCons (eOp addI (eOp mulI (eOp ixD (eVar 0) (eC (.int 0))) (eOp ixD (eVar 1) (eC (.int 1)))) (eOp mulI (eOp ixD (eVar 1) (eC (.int 0))) (eOp ixD (eVar 0) (eC (.int 1))))) (aCons (eOp mulI (eOp ixD (eVar 0) (eC (.int 1))) (eOp ixD (eVar 1) (eC (.int 1)))) aNil))))
def sp_plus : DSp := fun ds P E => ds.length = 2 ∧ m_plus (init 2 ds) { nx := fun _ => P .non, rt := P, ex := fun x _ => E x }

abbrev N_minus : List Str := "one" :: "other" :: []
abbrev p_minus : List Str := ["one", "other"]
def m_minus : IS := (sRet (eCall sp_part (aCons (eOp subI (eOp mulI (eOp ixD (eVar 0) (eC (.int 0))) (eOp ixD (eVar 1) (eC (.int 1)))) (eOp mulI (eOp ixD (eVar 1) (eC (.int 0))) (eOp ixD (eVar 0) (eC (.int 1))))) (aCons (eOp mulI (eOp ixD (eVar 0) (eC (.int 1))) (eOp ixD (eVar 1) (eC (.int 1)))) aNil))))
def sp_minus : DSp := fun ds P E => ds.length = 2 ∧ m_minus (init 2 ds) { nx := fun _ => P .non, rt := P, ex := fun x _ => E x }

abbrev N_times : List Str := "one" :: "other" :: []
abbrev p_times : List Str := ["one", "other"]
def m_times : IS := (sRet (eCall sp_part (aCons (eOp mulI (eOp ixD (eVar 0) (eC (.int 0))) (eOp ixD (eVar 1) (eC (.int 0)))) (aCons (eOp mulI (eOp ixD (eVar 0) (eC (.int 1))) (eOp ixD (eVar 1) (eC (.int 1)))) aNil))))
def sp_times : DSp := fun ds P E => ds.length = 2 ∧ m_times (init 2 ds) { nx := fun _ => P .non, rt := P, ex := fun x _ => E x }

abbrev N_over : List Str := "one" :: "other" :: []
abbrev p_over : List Str := ["one", "other"]
def m_over : IS := (sRet (eCall sp_part (aCons (eOp mulI (eOp ixD (eVar 0) (eC (.int 0))) (eOp ixD (eVar 1) (eC (.int 1)))) (aCons (eOp mulI (eOp ixD (eVar 0) (eC (.int 1))) (eOp ixD (eVar 1) (eC (.int 0)))) aNil))))
def sp_over : DSp := fun ds P E => ds.length = 2 ∧ m_over (init 2 ds) { nx := fun _ => P .non, rt := P, ex := fun x _ => E x }

abbrev N_is_less : List Str := "one" :: "other" :: []
abbrev p_is_less : List Str := ["one", "other"]
def m_is_less : IS := (sRet (eOp ltI (eOp mulI (eOp ixD (eVar 0) (eC (.int 0))) (eOp ixD (eVar 1) (eC (.int 1)))) (eOp mulI (eOp ixD (eVar 1) (eC (.int 0))) (eOp ixD (eVar 0) (eC (.int 1))))))
def sp_is_less : DSp := fun ds P E => ds.length = 2 ∧ m_is_less (init 2 ds) { nx := fun _ => P .non, rt := P, ex := fun x _ => E x }

abbrev N_whole_below : List Str := "one" :: []
abbrev p_whole_below : List Str := ["one"]
def m_whole_below : IS := (sRet (eOp divI (eOp ixD (eVar 0) (eC (.int 0))) (eOp ixD (eVar 0) (eC (.int 1)))))
def sp_whole_below : DSp := fun ds P E => ds.length = 1 ∧ m_whole_below (init 1 ds) { nx := fun _ => P .non, rt := P, ex := fun x _ => E x }

abbrev N_rest : List Str := "one" :: []
abbrev p_rest : List Str := ["one"]
def m_rest : IS := (sRet (eCall sp_minus (aCons (eVar 0) (aCons (eTup (aCons (eCall sp_whole_below (aCons (eVar 0) aNil)) (aCons (eC (.int 1)) aNil))) aNil))))
def sp_rest : DSp := fun ds P E => ds.length = 1 ∧ m_rest (init 1 ds) { nx := fun _ => P .non, rt := P, ex := fun x _ => E x }

abbrev N_stands : List Str := "hand" :: "time" :: []
abbrev p_stands : List Str := ["hand", "time"]
def m_stands : IS := (sRet (eCall sp_rest (aCons (eCall sp_plus (aCons (eOp ixD (eVar 0) (eC (.int 0))) (aCons (eCall sp_times (aCons (eOp ixD (eVar 0) (eC (.int 1))) (aCons (eVar 1) aNil))) aNil))) aNil)))
def sp_stands : DSp := fun ds P E => ds.length = 2 ∧ m_stands (init 2 ds) { nx := fun _ => P .non, rt := P, ex := fun x _ => E x }

abbrev N_gap : List Str := "one" :: "other" :: "time" :: []
abbrev p_gap : List Str := ["one", "other", "time"]
def m_gap : IS := (sRet (eCall sp_rest (aCons (eCall sp_minus (aCons (eCall sp_stands (aCons (eVar 1) (aCons (eVar 2) aNil))) (aCons (eCall sp_stands (aCons (eVar 0) (aCons (eVar 2) aNil))) aNil))) aNil)))
def sp_gap : DSp := fun ds P E => ds.length = 3 ∧ m_gap (init 3 ds) { nx := fun _ => P .non, rt := P, ex := fun x _ => E x }

abbrev N_meetings : List Str := "one" :: "other" :: "low" :: "high" :: "speed" :: "start" :: "first" :: "last" :: "ends" :: "found" :: "turn" :: "time" :: []
abbrev p_meetings : List Str := ["one", "other", "low", "high"]
def t1_meetings : IS := (sFrz 9 (sRet (eIf (bT (eOp gtI (eOp ixD (eVar 4) (eC (.int 0))) (eC (.int 0)))) (eVar 9) (eUn revD (oVar 9)))))
def t2_meetings : IS := (sSeq (sFor (iRange2 (aCons (eCall sp_whole_below (aCons (eOp ixD (eVar 8) (eC (.int 0))) aNil)) (aCons (eOp addI (eCall sp_whole_below (aCons (eOp ixD (eVar 8) (eC (.int 1))) aNil)) (eC (.int 2))) aNil))) (gN 10) (sSeq (sSet 11 (xE (eCall sp_over (aCons (eCall sp_plus (aCons (eVar 5) (aCons (eTup (aCons (eVar 10) (aCons (eC (.int 1)) aNil))) aNil))) (aCons (eVar 4) aNil)))))
  (sSeq (sIf (bAnd (bNot (bT (eCall sp_is_less (aCons (eVar 11) (aCons (eVar 2) aNil))))) (bT (eCall sp_is_less (aCons (eVar 11) (aCons (eVar 3) aNil))))) (sApp 9 (eVar 11)) sNext)
  (sIf (bT (eOp gtI (eCB (f1 lenD) (aCons (oVar 9) aNil)) (eC (.int 400)))) (sRaise "Misstep" (aCons (eC (.str (PySem.Str.ofString "many"))) aNil)) sNext))))
  t1_meetings)
def t3_meetings : IS := (sSeq (sSet 9 (xN (eLst aNil)))
  t2_meetings)
def t4_meetings : IS := (sSeq (sSet 8 (xE (eIf (bT (eOp gtI (eOp ixD (eVar 4) (eC (.int 0))) (eC (.int 0)))) (eTup (aCons (eVar 6) (aCons (eVar 7) aNil))) (eTup (aCons (eVar 7) (aCons (eVar 6) aNil))))))
  t3_meetings)
def t5_meetings : IS := (sSeq (sSet 7 (xE (eCall sp_minus (aCons (eCall sp_times (aCons (eVar 3) (aCons (eVar 4) aNil))) (aCons (eVar 5) aNil)))))
  t4_meetings)
def t6_meetings : IS := (sSeq (sSet 6 (xE (eCall sp_minus (aCons (eCall sp_times (aCons (eVar 2) (aCons (eVar 4) aNil))) (aCons (eVar 5) aNil)))))
  t5_meetings)
def t7_meetings : IS := (sSeq (sSet 5 (xE (eCall sp_minus (aCons (eOp ixD (eVar 1) (eC (.int 0))) (aCons (eOp ixD (eVar 0) (eC (.int 0))) aNil)))))
  t6_meetings)
def t8_meetings : IS := (sSeq (sIf (bT (eOp eqD (eOp ixD (eVar 4) (eC (.int 0))) (eC (.int 0)))) (sRaise "Misstep" (aCons (eC (.str (PySem.Str.ofString "alike"))) aNil)) sNext)
  t7_meetings)
def m_meetings : IS := (sSeq (sSet 4 (xE (eCall sp_minus (aCons (eOp ixD (eVar 0) (eC (.int 1))) (aCons (eOp ixD (eVar 1) (eC (.int 1))) aNil)))))
  t8_meetings)
def sp_meetings : DSp := fun ds P E => ds.length = 4 ∧ m_meetings (init 12 ds) { nx := fun _ => P .non, rt := P, ex := fun x _ => E x }

abbrev N_every : List Str := "one" :: "other" :: "speed" :: []
abbrev p_every : List Str := ["one", "other"]
def m_every : IS := (sSeq (sSet 2 (xE (eCall sp_minus (aCons (eOp ixD (eVar 0) (eC (.int 1))) (aCons (eOp ixD (eVar 1) (eC (.int 1))) aNil)))))
  (sSeq (sIf (bT (eOp eqD (eOp ixD (eVar 2) (eC (.int 0))) (eC (.int 0)))) (sRaise "Misstep" (aCons (eC (.str (PySem.Str.ofString "alike"))) aNil)) sNext)
  (sRet (eCall sp_over (aCons (eC c_ONE) (aCons (eIf (bT (eOp gtI (eOp ixD (eVar 2) (eC (.int 0))) (eC (.int 0)))) (eVar 2) (eTup (aCons (eOp subI (eC (.int 0)) (eOp ixD (eVar 2) (eC (.int 0)))) (aCons (eOp ixD (eVar 2) (eC (.int 1))) aNil)))) aNil))))))
def sp_every : DSp := fun ds P E => ds.length = 2 ∧ m_every (init 3 ds) { nx := fun _ => P .non, rt := P, ex := fun x _ => E x }

abbrev N_common_below : List Str := "moving" :: "above" :: "found" :: "one" :: []
abbrev p_common_below : List Str := ["moving", "above"]
def m_common_below : IS := (sSeq (sSet 2 (xE (eC (.int 0))))
  (sSeq (sFor (iOf (eVar 0)) (gN 3) (sSet 2 (xE (eCall sp_divisor (aCons (eVar 2) (aCons (eCB (f1 absD) (aCons (eOp mulI (eOp ixD (eVar 3) (eC (.int 0))) (eOp divI (eVar 1) (eOp ixD (eVar 3) (eC (.int 1))))) aNil)) aNil))))))
  (sRet (eVar 2))))
def sp_common_below : DSp := fun ds P E => ds.length = 2 ∧ m_common_below (init 4 ds) { nx := fun _ => P .non, rt := P, ex := fun x _ => E x }

abbrev N_round_of : List Str := "hands" :: "moving" :: "above" :: "one" :: "hand" :: []
abbrev p_round_of : List Str := ["hands"]
def m_round_of : IS := (sSeq (sSet 1 (xE (nComp [4] (iOf (eVar 0)) (gN 4) (bT (eOp neD (eOp ixD (eOp ixD (eVar 4) (eC (.int 1))) (eC (.int 0))) (eC (.int 0)))) (eOp ixD (eVar 4) (eC (.int 1))))))
  (sSeq (sIf (bT (eOp eqD (eVar 1) (eLst aNil))) (sRet (eC .non)) sNext)
  (sSeq (sSet 2 (xE (eC (.int 1))))
  (sSeq (sFor (iOf (eVar 1)) (gN 3) (sSet 2 (xE (eOp divI (eOp mulI (eVar 2) (eOp ixD (eVar 3) (eC (.int 1)))) (eCall sp_divisor (aCons (eVar 2) (aCons (eOp ixD (eVar 3) (eC (.int 1))) aNil)))))))
  (sRet (eCall sp_part (aCons (eVar 2) (aCons (eCall sp_common_below (aCons (eVar 1) (aCons (eVar 2) aNil))) aNil))))))))
def sp_round_of : DSp := fun ds P E => ds.length = 1 ∧ m_round_of (init 5 ds) { nx := fun _ => P .non, rt := P, ex := fun x _ => E x }

abbrev N_all_meet : List Str := "hands" :: "low" :: "high" :: "times_told" :: "time" :: "hand" :: []
abbrev p_all_meet : List Str := ["hands", "low", "high"]
def m_all_meet : IS := (sSeq (sIf (bT (eOp ltI (eCB (f1 lenD) (aCons (eVar 0) aNil)) (eC (.int 2)))) (sRaise "Misstep" (aCons (eC (.str (PySem.Str.ofString "few"))) aNil)) sNext)
  (sSeq (sSet 3 (xE (eCall sp_meetings (aCons (eOp ixD (eVar 0) (eC (.int 0))) (aCons (eOp ixD (eVar 0) (eC (.int 1))) (aCons (eVar 1) (aCons (eVar 2) aNil)))))))
  (sRet (nComp [4] (iOf (eVar 3)) (gN 4) (bT (eOp eqD (eUn lenSetT (nComp [5] (iOf (eVar 0)) (gN 5) bYes (eCall sp_stands (aCons (eVar 5) (aCons (eVar 4) aNil))))) (eC (.int 1)))) (eVar 4)))))
def sp_all_meet : DSp := fun ds P E => ds.length = 3 ∧ m_all_meet (init 6 ds) { nx := fun _ => P .non, rt := P, ex := fun x _ => E x }

abbrev N_told_time : List Str := "hands" :: "places" :: "low" :: "high" :: "moving" :: "first" :: "row" :: "k" :: "time" :: "hand" :: "one" :: []
abbrev p_told_time : List Str := ["hands", "places", "low", "high"]
def m_told_time : IS := (sSeq (sSet 4 (xE (nComp [7] (iRange1 (aCons (eCB (f1 lenD) (aCons (eVar 0) aNil)) aNil)) (gN 7) (bT (eOp neD (eOp ixD (eOp ixD (eOp ixD (eVar 0) (eVar 7)) (eC (.int 1))) (eC (.int 0))) (eC (.int 0)))) (eVar 7))))
  (sSeq (sIf (bT (eOp eqD (eVar 4) (eLst aNil))) (sRaise "Misstep" (aCons (eC (.str (PySem.Str.ofString "still"))) aNil)) sNext)
  (sSeq (sSet 5 (xE (eOp ixD (eVar 4) (eC (.int 0)))))
  (sSeq (sSet 6 (xE (eCall sp_meetings (aCons (eOp ixD (eVar 0) (eVar 5)) (aCons (eTup (aCons (eOp ixD (eVar 1) (eVar 5)) (aCons (eC c_NOUGHT) aNil))) (aCons (eVar 2) (aCons (eVar 3) aNil)))))))
  (sRet (nComp [8] (iOf (eVar 6)) (gN 8) (bT (eOp eqD (nComp [9] (iOf (eVar 0)) (gN 9) bYes (eCall sp_stands (aCons (eVar 9) (aCons (eVar 8) aNil)))) (nComp [10] (iOf (eVar 1)) (gN 10) bYes (eCall sp_rest (aCons (eVar 10) aNil))))) (eVar 8)))))))
def sp_told_time : DSp := fun ds P E => ds.length = 4 ∧ m_told_time (init 11 ds) { nx := fun _ => P .non, rt := P, ex := fun x _ => E x }

abbrev N_swapped : List Str := "one" :: "other" :: "low" :: "high" :: []
abbrev p_swapped : List Str := ["one", "other", "low", "high"]
def m_swapped : IS := (sSeq (sIf (bOr (bT (eOp neD (eVar 0) (eTup (aCons (eC c_NOUGHT) (aCons (eC c_ONE) aNil))))) (bOr (bT (eOp neD (eOp ixD (eVar 1) (eC (.int 0))) (eC c_NOUGHT))) (bT (eOp neD (eOp ixD (eOp ixD (eVar 1) (eC (.int 1))) (eC (.int 1))) (eC (.int 1)))))) (sRaise "Misstep" (aCons (eC (.str (PySem.Str.ofString "hands"))) aNil)) sNext)
  (sRet (eCall sp_meetings (aCons (eTup (aCons (eC c_NOUGHT) (aCons (eCall sp_times (aCons (eOp ixD (eVar 1) (eC (.int 1))) (aCons (eOp ixD (eVar 1) (eC (.int 1))) aNil))) aNil))) (aCons (eVar 0) (aCons (eVar 2) (aCons (eVar 3) aNil)))))))
def sp_swapped : DSp := fun ds P E => ds.length = 4 ∧ m_swapped (init 4 ds) { nx := fun _ => P .non, rt := P, ex := fun x _ => E x }

abbrev N_speeds_of : List Str := "names" :: "told" :: "name" :: []
abbrev p_speeds_of : List Str := ["names", "told"]
def m_speeds_of : IS := (sRet (nComp [2] (iOf (eVar 0)) (gN 2) bYes (eTup (aCons (eC c_NOUGHT) (aCons (eOp dixD (eVar 1) (eVar 2)) aNil)))))
def sp_speeds_of : DSp := fun ds P E => ds.length = 2 ∧ m_speeds_of (init 3 ds) { nx := fun _ => P .non, rt := P, ex := fun x _ => E x }

abbrev N_later : List Str := "hand" :: "time" :: []
abbrev p_later : List Str := ["hand", "time"]
def m_later : IS := (sRet (eTup (aCons (eCall sp_stands (aCons (eVar 0) (aCons (eVar 1) aNil))) (aCons (eOp ixD (eVar 0) (eC (.int 1))) aNil))))
def sp_later : DSp := fun ds P E => ds.length = 2 ∧ m_later (init 2 ds) { nx := fun _ => P .non, rt := P, ex := fun x _ => E x }

abbrev N_between : List Str := "hand" :: "low" :: "high" :: []
abbrev p_between : List Str := ["hand", "low", "high"]
def m_between : IS := (sRet (eCall sp_whole_below (aCons (eCall sp_times (aCons (eOp ixD (eVar 0) (eC (.int 1))) (aCons (eCall sp_minus (aCons (eVar 2) (aCons (eVar 1) aNil))) aNil))) aNil)))
def sp_between : DSp := fun ds P E => ds.length = 3 ∧ m_between (init 3 ds) { nx := fun _ => P .non, rt := P, ex := fun x _ => E x }

abbrev N_are_wheels : List Str := "value" :: "row" :: "one" :: []
abbrev p_are_wheels : List Str := ["value"]
def m_are_wheels : IS := (sSeq (sIf (bNot (bT (eIsi "tuple" (eVar 0)))) (sRet (eC (.bl false))) sNext)
  (sSeq (sFor (iOf (eVar 0)) (gN 1) (sSeq (sIf (bOr (bNot (bT (eIsi "tuple" (eVar 1)))) (bT (eOp neD (eCB (f1 lenD) (aCons (eVar 1) aNil)) (eC (.int 2))))) (sRet (eC (.bl false))) sNext)
  (sSeq (sIf (bNot (bT (eCB (f1 allD) (aCons (nComp [2] (iOf (eVar 1)) (gN 2) bYes (eAnd (eIsi "int" (eVar 2)) (eNot (eIsi "bool" (eVar 2))))) aNil)))) (sRet (eC (.bl false))) sNext)
  (sIf (bOr (bT (eOp ltI (eOp ixD (eVar 1) (eC (.int 0))) (eC (.int 1)))) (bNot (bT (eChain leI ltI (eC (.int 0)) (eOp ixD (eVar 1) (eC (.int 1))) (eOp ixD (eVar 1) (eC (.int 0))))))) (sRet (eC (.bl false))) sNext))))
  (sRet (eC (.bl true)))))
def sp_are_wheels : DSp := fun ds P E => ds.length = 1 ∧ m_are_wheels (init 3 ds) { nx := fun _ => P .non, rt := P, ex := fun x _ => E x }

abbrev N_period : List Str := "wheels" :: "found" :: "length" :: "mark" :: []
abbrev p_period : List Str := ["wheels"]
def m_period : IS := (sSeq (sSet 1 (xE (eC (.int 1))))
  (sSeq (sFor (iOf (eVar 0)) (gT 2 (gsCons (gN 2) (gsCons (gN 3) gsNil))) (sSet 1 (xE (eOp divI (eOp mulI (eVar 1) (eVar 2)) (eCall sp_divisor (aCons (eVar 1) (aCons (eVar 2) aNil)))))))
  (sRet (eVar 1))))
def sp_period : DSp := fun ds P E => ds.length = 1 ∧ m_period (init 4 ds) { nx := fun _ => P .non, rt := P, ex := fun x _ => E x }

abbrev N_stand : List Str := "wheels" :: "day" :: "length" :: "mark" :: []
abbrev p_stand : List Str := ["wheels", "day"]
def m_stand : IS := (sRet (eCB (f1 tupD) (aCons (nComp [2, 3] (iOf (eVar 0)) (gT 2 (gsCons (gN 2) (gsCons (gN 3) gsNil))) bYes (eOp subI (eOp addD (eVar 3) (eVar 1)) (eOp mulI (eOp divI (eOp addD (eVar 3) (eVar 1)) (eVar 2)) (eVar 2)))) aNil)))
def sp_stand : DSp := fun ds P E => ds.length = 2 ∧ m_stand (init 4 ds) { nx := fun _ => P .non, rt := P, ex := fun x _ => E x }

abbrev N_inverse : List Str := "number" :: "length" :: "one" :: "other" :: "first" :: "second" :: "many" :: []
abbrev p_inverse : List Str := ["number", "length"]
def m_inverse : IS := (sSeq (sMany [2, 3, 4, 5] (xCons (xE (eOp subI (eVar 0) (eOp mulI (eOp divI (eVar 0) (eVar 1)) (eVar 1)))) (xCons (xE (eVar 1)) (xCons (xE (eC (.int 1))) (xCons (xE (eC (.int 0))) xNil)))))
  (sSeq (sWhile (bT (eOp neD (eVar 3) (eC (.int 0)))) (sSeq (sSet 6 (xE (eOp divI (eVar 2) (eVar 3))))
  (sSeq (sPar 2 3 (xE (eVar 3)) (xE (eOp subI (eVar 2) (eOp mulI (eVar 6) (eVar 3)))))
  (sPar 4 5 (xE (eVar 5)) (xE (eOp subI (eVar 4) (eOp mulI (eVar 6) (eVar 5))))))))
  (sRet (eOp subI (eVar 4) (eOp mulI (eOp divI (eVar 4) (eVar 1)) (eVar 1))))))
def sp_inverse : DSp := fun ds P E => ds.length = 2 ∧ m_inverse (init 7 ds) { nx := fun _ => P .non, rt := P, ex := fun x _ => E x }

abbrev N_joined : List Str := "one" :: "other" :: "great" :: "length" :: "step" :: "many" :: "day" :: []
abbrev p_joined : List Str := ["one", "other"]
def m_joined : IS := (sSeq (sSet 2 (xE (eCall sp_divisor (aCons (eOp ixD (eVar 0) (eC (.int 0))) (aCons (eOp ixD (eVar 1) (eC (.int 0))) aNil)))))
  (sSeq (sIf (bT (eOp neD (eOp subI (eOp subI (eOp ixD (eVar 1) (eC (.int 1))) (eOp ixD (eVar 0) (eC (.int 1)))) (eOp mulI (eOp divI (eOp subI (eOp ixD (eVar 1) (eC (.int 1))) (eOp ixD (eVar 0) (eC (.int 1)))) (eVar 2)) (eVar 2))) (eC (.int 0)))) (sRet (eC .non)) sNext)
  (sSeq (sSet 3 (xE (eOp mulI (eOp divI (eOp ixD (eVar 0) (eC (.int 0))) (eVar 2)) (eOp ixD (eVar 1) (eC (.int 0))))))
  (sSeq (sSet 4 (xE (eOp divI (eOp ixD (eVar 1) (eC (.int 0))) (eVar 2))))
  (sSeq (sSet 5 (xE (eOp mulI (eOp divI (eOp subI (eOp ixD (eVar 1) (eC (.int 1))) (eOp ixD (eVar 0) (eC (.int 1)))) (eVar 2)) (eCall sp_inverse (aCons (eOp divI (eOp ixD (eVar 0) (eC (.int 0))) (eVar 2)) (aCons (eVar 4) aNil))))))
  (sSeq (sSet 6 (xE (eOp addI (eOp ixD (eVar 0) (eC (.int 1))) (eOp mulI (eOp ixD (eVar 0) (eC (.int 0))) (eOp subI (eVar 5) (eOp mulI (eOp divI (eVar 5) (eVar 4)) (eVar 4)))))))
  (sRet (eTup (aCons (eVar 3) (aCons (eOp subI (eVar 6) (eOp mulI (eOp divI (eVar 6) (eVar 3)) (eVar 3))) aNil))))))))))
def sp_joined : DSp := fun ds P E => ds.length = 2 ∧ m_joined (init 7 ds) { nx := fun _ => P .non, rt := P, ex := fun x _ => E x }

abbrev N_check_goal : List Str := "wheels" :: "goal" :: "k" :: []
abbrev p_check_goal : List Str := ["wheels", "goal"]
def m_check_goal : IS := (sIf (bOr (bT (eOp neD (eCB (f1 lenD) (aCons (eVar 1) aNil)) (eCB (f1 lenD) (aCons (eVar 0) aNil)))) (bT (eCB (f1 anyD) (aCons (nComp [2] (iRange1 (aCons (eCB (f1 lenD) (aCons (eVar 0) aNil)) aNil)) (gN 2) bYes (eNot (eChain leI ltI (eC (.int 0)) (eOp ixD (eVar 1) (eVar 2)) (eOp ixD (eOp ixD (eVar 0) (eVar 2)) (eC (.int 0)))))) aNil)))) (sRaise "Misstep" (aCons (eC (.str (PySem.Str.ofString "goal"))) aNil)) sNext)
def sp_check_goal : DSp := fun ds P E => ds.length = 2 ∧ m_check_goal (init 3 ds) { nx := fun _ => P .non, rt := P, ex := fun x _ => E x }

abbrev N_first_day : List Str := "wheels" :: "goal" :: "found" :: "k" :: "length" :: "mark" :: "told" :: []
abbrev p_first_day : List Str := ["wheels", "goal"]
def m_first_day : IS := (sSeq (sDrop (eCall sp_check_goal (aCons (eVar 0) (aCons (eVar 1) aNil))))
  (sSeq (sSet 2 (xE (eTup (aCons (eC (.int 1)) (aCons (eC (.int 0)) aNil)))))
  (sSeq (sFor (iRange1 (aCons (eCB (f1 lenD) (aCons (eVar 0) aNil)) aNil)) (gN 3) (sSeq (sAsg (eOp ixD (eVar 0) (eVar 3)) (tgT 2 (tgsCons (tgN 4) (tgsCons (tgN 5) tgsNil))))
  (sSeq (sSet 6 (xE (eOp subI (eOp ixD (eVar 1) (eVar 3)) (eVar 5))))
  (sSeq (sSet 2 (xE (eCall sp_joined (aCons (eVar 2) (aCons (eTup (aCons (eVar 4) (aCons (eOp subI (eVar 6) (eOp mulI (eOp divI (eVar 6) (eVar 4)) (eVar 4))) aNil))) aNil)))))
  (sIf (bT (eOp isN (eVar 2) (eC .non))) (sRet (eC .non)) sNext)))))
  (sRet (eOp ixD (eVar 2) (eC (.int 1)))))))
def sp_first_day : DSp := fun ds P E => ds.length = 2 ∧ m_first_day (init 7 ds) { nx := fun _ => P .non, rt := P, ex := fun x _ => E x }

abbrev N_why_never : List Str := "wheels" :: "goal" :: "k" :: "j" :: "great" :: "told" :: []
abbrev p_why_never : List Str := ["wheels", "goal"]
def m_why_never : IS := (sSeq (sDrop (eCall sp_check_goal (aCons (eVar 0) (aCons (eVar 1) aNil))))
  (sSeq (sFor (iRange1 (aCons (eCB (f1 lenD) (aCons (eVar 0) aNil)) aNil)) (gN 2) (sFor (iRange1 (aCons (eVar 2) aNil)) (gN 3) (sSeq (sSet 4 (xE (eCall sp_divisor (aCons (eOp ixD (eOp ixD (eVar 0) (eVar 3)) (eC (.int 0))) (aCons (eOp ixD (eOp ixD (eVar 0) (eVar 2)) (eC (.int 0))) aNil)))))
  (sSeq (sSet 5 (xE (eOp subI (eOp subI (eOp ixD (eVar 1) (eVar 3)) (eOp ixD (eOp ixD (eVar 0) (eVar 3)) (eC (.int 1)))) (eOp subI (eOp ixD (eVar 1) (eVar 2)) (eOp ixD (eOp ixD (eVar 0) (eVar 2)) (eC (.int 1)))))))
  (sIf (bT (eOp neD (eOp subI (eVar 5) (eOp mulI (eOp divI (eVar 5) (eVar 4)) (eVar 4))) (eC (.int 0)))) (sRet (eTup (aCons (eVar 3) (aCons (eVar 2) aNil)))) sNext)))))
  (sRet (eC .non))))
def sp_why_never : DSp := fun ds P E => ds.length = 2 ∧ m_why_never (init 6 ds) { nx := fun _ => P .non, rt := P, ex := fun x _ => E x }

abbrev N_days_at : List Str := "wheels" :: "goal" :: "first" :: "last" :: "start" :: "length" :: "day" :: []
abbrev p_days_at : List Str := ["wheels", "goal", "first", "last"]
def m_days_at : IS := (sSeq (sIf (bT (eOp geI (eOp subI (eVar 3) (eVar 2)) (eC c_MOST_DAYS))) (sRaise "Misstep" (aCons (eC (.str (PySem.Str.ofString "days"))) aNil)) sNext)
  (sSeq (sSet 4 (xE (eCall sp_first_day (aCons (eVar 0) (aCons (eVar 1) aNil)))))
  (sSeq (sIf (bT (eOp isN (eVar 4) (eC .non))) (sRet (eLst aNil)) sNext)
  (sSeq (sSet 5 (xE (eCall sp_period (aCons (eVar 0) aNil))))
  (sSeq (sSet 6 (xE (eOp addI (eVar 4) (eOp mulI (eOp subI (eC (.int 0)) (eOp divI (eOp subI (eVar 4) (eVar 2)) (eVar 5))) (eVar 5)))))
  (sSeq (sSet 6 (xE (eIf (bT (eOp geI (eVar 6) (eVar 2))) (eVar 6) (eOp addI (eVar 6) (eVar 5)))))
  (sRet (eLRg3 (aCons (eVar 6) (aCons (eOp addI (eVar 3) (eC (.int 1))) (aCons (eVar 5) aNil)))))))))))
def sp_days_at : DSp := fun ds P E => ds.length = 4 ∧ m_days_at (init 7 ds) { nx := fun _ => P .non, rt := P, ex := fun x _ => E x }

abbrev N_leap_days : List Str := "rule" :: "years" :: "found" :: "sign" :: "step" :: []
abbrev p_leap_days : List Str := ["rule", "years"]
def m_leap_days : IS := (sSeq (sMany [2, 3] (xCons (xE (eC (.int 0))) (xCons (xE (eC (.int 1))) xNil)))
  (sSeq (sFor (iOf (eVar 0)) (gN 4) (sSeq (sAug 2 (fun i j => i + j) (eOp mulI (eVar 3) (eOp divI (eVar 1) (eVar 4))))
  (sSet 3 (xE (eOp subI (eC (.int 0)) (eVar 3))))))
  (sRet (eVar 2))))
def sp_leap_days : DSp := fun ds P E => ds.length = 2 ∧ m_leap_days (init 5 ds) { nx := fun _ => P .non, rt := P, ex := fun x _ => E x }

abbrev N_is_leap : List Str := "rule" :: "year" :: []
abbrev p_is_leap : List Str := ["rule", "year"]
def m_is_leap : IS := (sRet (eOp eqD (eOp subI (eCall sp_leap_days (aCons (eVar 0) (aCons (eVar 1) aNil))) (eCall sp_leap_days (aCons (eVar 0) (aCons (eOp subI (eVar 1) (eC (.int 1))) aNil)))) (eC (.int 1))))
def sp_is_leap : DSp := fun ds P E => ds.length = 2 ∧ m_is_leap (init 2 ds) { nx := fun _ => P .non, rt := P, ex := fun x _ => E x }

abbrev N_is_rule : List Str := "value" :: "k" :: []
abbrev p_is_rule : List Str := ["value"]
def m_is_rule : IS := (sSeq (sIf (bNot (bT (eIsi "tuple" (eVar 0)))) (sRet (eC (.bl false))) sNext)
  (sSeq (sIf (bNot (bT (eCB (f1 allD) (aCons (nComp [1] (iOf (eVar 0)) (gN 1) bYes (eAnd (eIsi "int" (eVar 1)) (eAnd (eNot (eIsi "bool" (eVar 1))) (eOp gtI (eVar 1) (eC (.int 0)))))) aNil)))) (sRet (eC (.bl false))) sNext)
  (sSeq (sFor (iRange1 (aCons (eOp subI (eCB (f1 lenD) (aCons (eVar 0) aNil)) (eC (.int 1))) aNil)) (gN 1) (sIf (bOr (bT (eOp leI (eOp ixD (eVar 0) (eOp addI (eVar 1) (eC (.int 1)))) (eOp ixD (eVar 0) (eVar 1)))) (bT (eOp neD (eOp subI (eOp ixD (eVar 0) (eOp addI (eVar 1) (eC (.int 1)))) (eOp mulI (eOp divI (eOp ixD (eVar 0) (eOp addI (eVar 1) (eC (.int 1)))) (eOp ixD (eVar 0) (eVar 1))) (eOp ixD (eVar 0) (eVar 1)))) (eC (.int 0))))) (sRet (eC (.bl false))) sNext))
  (sRet (eC (.bl true))))))
def sp_is_rule : DSp := fun ds P E => ds.length = 1 ∧ m_is_rule (init 2 ds) { nx := fun _ => P .non, rt := P, ex := fun x _ => E x }

abbrev N_days_to : List Str := "rule" :: "year" :: []
abbrev p_days_to : List Str := ["rule", "year"]
def m_days_to : IS := (sSeq (sIf (bT (eOp ltI (eVar 1) (eC (.int 1)))) (sRaise "Misstep" (aCons (eC (.str (PySem.Str.ofString "year"))) aNil)) sNext)
  (sRet (eOp addI (eOp mulI (eC (.int 365)) (eOp subI (eVar 1) (eC (.int 1)))) (eCall sp_leap_days (aCons (eVar 0) (aCons (eOp subI (eVar 1) (eC (.int 1))) aNil))))))
def sp_days_to : DSp := fun ds P E => ds.length = 2 ∧ m_days_to (init 2 ds) { nx := fun _ => P .non, rt := P, ex := fun x _ => E x }

abbrev N_year_of : List Str := "rule" :: "day" :: "year" :: []
abbrev p_year_of : List Str := ["rule", "day"]
def m_year_of : IS := (sSeq (sIf (bT (eOp ltI (eVar 1) (eC (.int 0)))) (sRaise "Misstep" (aCons (eC (.str (PySem.Str.ofString "day"))) aNil)) sNext)
  (sSeq (sSet 2 (xE (eOp addI (eOp divI (eVar 1) (eC (.int 366))) (eC (.int 1)))))
  (sSeq (sWhile (bT (eOp leI (eCall sp_days_to (aCons (eVar 0) (aCons (eOp addI (eVar 2) (eC (.int 1))) aNil))) (eVar 1))) (sAug 2 (fun i j => i + j) (eC (.int 1))))
  (sRet (eTup (aCons (eVar 2) (aCons (eOp subI (eVar 1) (eCall sp_days_to (aCons (eVar 0) (aCons (eVar 2) aNil)))) aNil)))))))
def sp_year_of : DSp := fun ds P E => ds.length = 2 ∧ m_year_of (init 3 ds) { nx := fun _ => P .non, rt := P, ex := fun x _ => E x }

abbrev N_mean_year : List Str := "rule" :: "whole" :: "days" :: "great" :: []
abbrev p_mean_year : List Str := ["rule"]
def m_mean_year : IS := (sSeq (sSet 1 (xE (eIf (bT (eOp gtI (eCB (f1 lenD) (aCons (eVar 0) aNil)) (eC (.int 0)))) (eOp ixD (eVar 0) (eUn negI (eC (.int 1)))) (eC (.int 1)))))
  (sSeq (sSet 2 (xE (eOp addI (eOp mulI (eC (.int 365)) (eVar 1)) (eCall sp_leap_days (aCons (eVar 0) (aCons (eVar 1) aNil))))))
  (sSeq (sSet 3 (xE (eCall sp_divisor (aCons (eVar 2) (aCons (eVar 1) aNil)))))
  (sRet (eTup (aCons (eOp divI (eVar 2) (eVar 3)) (aCons (eOp divI (eVar 1) (eVar 3)) aNil)))))))
def sp_mean_year : DSp := fun ds P E => ds.length = 1 ∧ m_mean_year (init 4 ds) { nx := fun _ => P .non, rt := P, ex := fun x _ => E x }

abbrev N__law_fr : List Str := "upper" :: "lower" :: "one" :: "other" :: "turn" :: []
abbrev p__law_fr : List Str := ["upper", "lower"]
def m__law_fr : IS := (sSeq (sIf (bT (eOp ltI (eVar 1) (eC (.int 0)))) (sPar 0 1 (xE (eOp subI (eC (.int 0)) (eVar 0))) (xE (eOp subI (eC (.int 0)) (eVar 1)))) sNext)
  (sSeq (sPar 2 3 (xE (eCB (f1 absD) (aCons (eVar 0) aNil))) (xE (eVar 1)))
  (sSeq (sFor (iRange1 (aCons (eC (.int 4000)) aNil)) (gN 4) (sSeq (sIf (bT (eOp eqD (eVar 3) (eC (.int 0)))) sBreak sNext)
  (sPar 2 3 (xE (eVar 3)) (xE (eOp modI (eCB (f1 intD) (aCons (eVar 2) aNil)) (eVar 3))))))
  (sRet (eTup (aCons (eOp divI (eVar 0) (eVar 2)) (aCons (eOp divI (eVar 1) (eVar 2)) aNil)))))))
def sp__law_fr : DSp := fun ds P E => ds.length = 2 ∧ m__law_fr (init 5 ds) { nx := fun _ => P .non, rt := P, ex := fun x _ => E x }

abbrev N__law_add : List Str := "one" :: "other" :: []
abbrev p__law_add : List Str := ["one", "other"]
def m__law_add : IS := (sRet (eCall sp__law_fr (aCons (eOp addI (eOp mulI (eOp ixD (eVar 0) (eC (.int 0))) (eOp ixD (eVar 1) (eC (.int 1)))) (eOp mulI (eOp ixD (eVar 1) (eC (.int 0))) (eOp ixD (eVar 0) (eC (.int 1))))) (aCons (eOp mulI (eOp ixD (eVar 0) (eC (.int 1))) (eOp ixD (eVar 1) (eC (.int 1)))) aNil))))
def sp__law_add : DSp := fun ds P E => ds.length = 2 ∧ m__law_add (init 2 ds) { nx := fun _ => P .non, rt := P, ex := fun x _ => E x }

abbrev N__law_mul : List Str := "one" :: "other" :: []
abbrev p__law_mul : List Str := ["one", "other"]
def m__law_mul : IS := (sRet (eCall sp__law_fr (aCons (eOp mulI (eOp ixD (eVar 0) (eC (.int 0))) (eOp ixD (eVar 1) (eC (.int 0)))) (aCons (eOp mulI (eOp ixD (eVar 0) (eC (.int 1))) (eOp ixD (eVar 1) (eC (.int 1)))) aNil))))
def sp__law_mul : DSp := fun ds P E => ds.length = 2 ∧ m__law_mul (init 2 ds) { nx := fun _ => P .non, rt := P, ex := fun x _ => E x }

abbrev N__law_sub : List Str := "one" :: "other" :: []
abbrev p__law_sub : List Str := ["one", "other"]
def m__law_sub : IS := (sRet (eCall sp__law_add (aCons (eVar 0) (aCons (eTup (aCons (eOp subI (eC (.int 0)) (eOp ixD (eVar 1) (eC (.int 0)))) (aCons (eOp ixD (eVar 1) (eC (.int 1))) aNil))) aNil))))
def sp__law_sub : DSp := fun ds P E => ds.length = 2 ∧ m__law_sub (init 2 ds) { nx := fun _ => P .non, rt := P, ex := fun x _ => E x }

abbrev N__law_less : List Str := "one" :: "other" :: []
abbrev p__law_less : List Str := ["one", "other"]
def m__law_less : IS := (sRet (eOp ltI (eOp mulI (eOp ixD (eVar 0) (eC (.int 0))) (eOp ixD (eVar 1) (eC (.int 1)))) (eOp mulI (eOp ixD (eVar 1) (eC (.int 0))) (eOp ixD (eVar 0) (eC (.int 1))))))
def sp__law_less : DSp := fun ds P E => ds.length = 2 ∧ m__law_less (init 2 ds) { nx := fun _ => P .non, rt := P, ex := fun x _ => E x }

abbrev N__law_over : List Str := "one" :: "other" :: []
abbrev p__law_over : List Str := ["one", "other"]
def m__law_over : IS := (sRet (eCall sp__law_fr (aCons (eOp mulI (eOp ixD (eVar 0) (eC (.int 0))) (eOp ixD (eVar 1) (eC (.int 1)))) (aCons (eOp mulI (eOp ixD (eVar 0) (eC (.int 1))) (eOp ixD (eVar 1) (eC (.int 0)))) aNil))))
def sp__law_over : DSp := fun ds P E => ds.length = 2 ∧ m__law_over (init 2 ds) { nx := fun _ => P .non, rt := P, ex := fun x _ => E x }

abbrev N__law_rest : List Str := "one" :: []
abbrev p__law_rest : List Str := ["one"]
def m__law_rest : IS := (sRet (eCall sp__law_fr (aCons (eOp subI (eOp ixD (eVar 0) (eC (.int 0))) (eOp mulI (eOp divI (eOp ixD (eVar 0) (eC (.int 0))) (eOp ixD (eVar 0) (eC (.int 1)))) (eOp ixD (eVar 0) (eC (.int 1))))) (aCons (eOp ixD (eVar 0) (eC (.int 1))) aNil))))
def sp__law_rest : DSp := fun ds P E => ds.length = 1 ∧ m__law_rest (init 1 ds) { nx := fun _ => P .non, rt := P, ex := fun x _ => E x }

abbrev N__law_at : List Str := "hand" :: "time" :: []
abbrev p__law_at : List Str := ["hand", "time"]
def m__law_at : IS := (sRet (eCall sp__law_rest (aCons (eCall sp__law_add (aCons (eOp ixD (eVar 0) (eC (.int 0))) (aCons (eCall sp__law_mul (aCons (eOp ixD (eVar 0) (eC (.int 1))) (aCons (eVar 1) aNil))) aNil))) aNil)))
def sp__law_at : DSp := fun ds P E => ds.length = 2 ∧ m__law_at (init 2 ds) { nx := fun _ => P .non, rt := P, ex := fun x _ => E x }

abbrev N__law_meet : List Str := "one" :: "other" :: "low" :: "high" :: "speed" :: "start" :: "found" :: "turn" :: "time" :: []
abbrev p__law_meet : List Str := ["one", "other", "low", "high"]
def m__law_meet : IS := (sSeq (sMany3 4 5 6 (xCons (xE (eCall sp__law_sub (aCons (eOp ixD (eVar 0) (eC (.int 1))) (aCons (eOp ixD (eVar 1) (eC (.int 1))) aNil)))) (xCons (xE (eCall sp__law_sub (aCons (eOp ixD (eVar 1) (eC (.int 0))) (aCons (eOp ixD (eVar 0) (eC (.int 0))) aNil)))) (xCons (xN (eLst aNil)) xNil))))
  (sSeq (sFor (iRange2 (aCons (eUn negI (eC (.int 60))) (aCons (eC (.int 61)) aNil))) (gN 7) (sSeq (sSet 8 (xE (eCall sp__law_over (aCons (eCall sp__law_add (aCons (eVar 5) (aCons (eTup (aCons (eVar 7) (aCons (eC (.int 1)) aNil))) aNil))) (aCons (eVar 4) aNil)))))
  (sIf (bAnd (bNot (bT (eCall sp__law_less (aCons (eVar 8) (aCons (eVar 2) aNil))))) (bT (eCall sp__law_less (aCons (eVar 8) (aCons (eVar 3) aNil))))) (sApp 6 (eVar 8)) sNext)))
  (sFrz 6 (sRet (eIf (bT (eOp gtI (eOp ixD (eVar 4) (eC (.int 0))) (eC (.int 0)))) (eVar 6) (eUn revD (oVar 6)))))))
def sp__law_meet : DSp := fun ds P E => ds.length = 4 ∧ m__law_meet (init 9 ds) { nx := fun _ => P .non, rt := P, ex := fun x _ => E x }

abbrev N__law_hand : List Str := "state" :: []
abbrev p__law_hand : List Str := ["state"]
def m__law_hand : IS := (sRet (eTup (aCons (eCall sp__law_fr (aCons (eCall sp__law_take (aCons (eVar 0) (aCons (eC (.int 5)) aNil))) (aCons (eC (.int 5)) aNil))) (aCons (eCall sp__law_fr (aCons (eOp subI (eCall sp__law_take (aCons (eVar 0) (aCons (eC (.int 7)) aNil))) (eC (.int 3))) (aCons (eOp addI (eC (.int 1)) (eCall sp__law_take (aCons (eVar 0) (aCons (eC (.int 3)) aNil)))) aNil))) aNil))))
def sp__law_hand : DSp := fun ds P E => ds.length = 1 ∧ m__law_hand (init 1 ds) { nx := fun _ => P .non, rt := P, ex := fun x _ => E x }

abbrev N__law_word : List Str := "call" :: "one" :: "error" :: []
abbrev p__law_word : List Str := ["call"]
def m__law_word : IS := (sSeq (sSet 1 (xE (eTup (aCons (eTup (aCons (eC (.int 0)) (aCons (eC (.int 1)) aNil))) (aCons (eTup (aCons (eC (.int 1)) (aCons (eC (.int 1)) aNil))) aNil)))))
  (sTryW 2 (sSeq (sIf (bT (eOp eqD (eVar 0) (eC (.int 0)))) (sDrop (eCall sp_meetings (aCons (eVar 1) (aCons (eVar 1) (aCons (eTup (aCons (eC (.int 0)) (aCons (eC (.int 1)) aNil))) (aCons (eTup (aCons (eC (.int 1)) (aCons (eC (.int 1)) aNil))) aNil)))))) (sIf (bT (eOp eqD (eVar 0) (eC (.int 1)))) (sDrop (eCall sp_meetings (aCons (eVar 1) (aCons (eTup (aCons (eTup (aCons (eC (.int 0)) (aCons (eC (.int 1)) aNil))) (aCons (eTup (aCons (eC (.int 500)) (aCons (eC (.int 1)) aNil))) aNil))) (aCons (eTup (aCons (eC (.int 0)) (aCons (eC (.int 1)) aNil))) (aCons (eTup (aCons (eC (.int 1)) (aCons (eC (.int 1)) aNil))) aNil)))))) (sIf (bT (eOp eqD (eVar 0) (eC (.int 2)))) (sDrop (eCall sp_every (aCons (eVar 1) (aCons (eVar 1) aNil)))) (sIf (bT (eOp eqD (eVar 0) (eC (.int 3)))) (sDrop (eCall sp_all_meet (aCons (eLst (aCons (eVar 1) aNil)) (aCons (eTup (aCons (eC (.int 0)) (aCons (eC (.int 1)) aNil))) (aCons (eTup (aCons (eC (.int 1)) (aCons (eC (.int 1)) aNil))) aNil))))) (sIf (bT (eOp eqD (eVar 0) (eC (.int 4)))) (sDrop (eCall sp_told_time (aCons (eLst (aCons (eTup (aCons (eTup (aCons (eC (.int 0)) (aCons (eC (.int 1)) aNil))) (aCons (eTup (aCons (eC (.int 0)) (aCons (eC (.int 1)) aNil))) aNil))) aNil)) (aCons (eLst (aCons (eTup (aCons (eC (.int 0)) (aCons (eC (.int 1)) aNil))) aNil)) (aCons (eTup (aCons (eC (.int 0)) (aCons (eC (.int 1)) aNil))) (aCons (eTup (aCons (eC (.int 1)) (aCons (eC (.int 1)) aNil))) aNil)))))) (sIf (bT (eOp eqD (eVar 0) (eC (.int 5)))) (sDrop (eCall sp_swapped (aCons (eTup (aCons (eTup (aCons (eC (.int 1)) (aCons (eC (.int 2)) aNil))) (aCons (eTup (aCons (eC (.int 1)) (aCons (eC (.int 1)) aNil))) aNil))) (aCons (eTup (aCons (eTup (aCons (eC (.int 0)) (aCons (eC (.int 1)) aNil))) (aCons (eTup (aCons (eC (.int 12)) (aCons (eC (.int 1)) aNil))) aNil))) (aCons (eTup (aCons (eC (.int 0)) (aCons (eC (.int 1)) aNil))) (aCons (eTup (aCons (eC (.int 1)) (aCons (eC (.int 1)) aNil))) aNil)))))) (sIf (bT (eOp eqD (eVar 0) (eC (.int 6)))) (sDrop (eCall sp_first_day (aCons (eTup (aCons (eTup (aCons (eC (.int 3)) (aCons (eC (.int 0)) aNil))) aNil)) (aCons (eTup (aCons (eC (.int 1)) (aCons (eC (.int 2)) aNil))) aNil)))) (sIf (bT (eOp eqD (eVar 0) (eC (.int 7)))) (sDrop (eCall sp_days_at (aCons (eTup (aCons (eTup (aCons (eC (.int 3)) (aCons (eC (.int 0)) aNil))) aNil)) (aCons (eTup (aCons (eC (.int 1)) aNil)) (aCons (eC (.int 0)) (aCons (eC (.int 100001)) aNil)))))) (sIf (bT (eOp eqD (eVar 0) (eC (.int 8)))) (sDrop (eCall sp_days_to (aCons (eTup (aCons (eC (.int 4)) aNil)) (aCons (eC (.int 0)) aNil)))) (sDrop (eCall sp_year_of (aCons (eTup (aCons (eC (.int 4)) aNil)) (aCons (eUn negI (eC (.int 1))) aNil)))))))))))))
  (sRet (eC (.str (PySem.Str.ofString "")))))))
def sp__law_word : DSp := fun ds P E => ds.length = 1 ∧ m__law_word (init 3 ds) { nx := fun _ => P .non, rt := P, ex := fun x _ => E x }

abbrev N__law_hands_hold : List Str := "state" :: "one" :: "other" :: "third" :: "time" :: "low" :: "high" :: "speed" :: "told" :: "places" :: "due" :: "turn" :: "speeds" :: "many" :: "t" :: "hand" :: "k" :: "part_v" :: []
abbrev p__law_hands_hold : List Str := ["state"]
def t1__law_hands_hold : IS := (sRet (eOp eqD (eCall sp_speeds_of (aCons (eLst (aCons (eC (.str (PySem.Str.ofString "a"))) (aCons (eC (.str (PySem.Str.ofString "b"))) aNil))) (aCons (eDisp (((eC (.str (PySem.Str.ofString "b"))), (eTup (aCons (eC (.int 2)) (aCons (eC (.int 1)) aNil)))) :: (((eC (.str (PySem.Str.ofString "a"))), (eTup (aCons (eC (.int 1)) (aCons (eC (.int 3)) aNil)))) :: []))) aNil))) (eLst (aCons (eTup (aCons (eTup (aCons (eC (.int 0)) (aCons (eC (.int 1)) aNil))) (aCons (eTup (aCons (eC (.int 1)) (aCons (eC (.int 3)) aNil))) aNil))) (aCons (eTup (aCons (eTup (aCons (eC (.int 0)) (aCons (eC (.int 1)) aNil))) (aCons (eTup (aCons (eC (.int 2)) (aCons (eC (.int 1)) aNil))) aNil))) aNil)))))
def t2__law_hands_hold : IS := (sSeq (sIf (bT (eOp neD (eCB (f1 lstD) (aCons (eCall sp_swapped (aCons (eTup (aCons (eTup (aCons (eC (.int 0)) (aCons (eC (.int 1)) aNil))) (aCons (eTup (aCons (eC (.int 1)) (aCons (eC (.int 1)) aNil))) aNil))) (aCons (eTup (aCons (eTup (aCons (eC (.int 0)) (aCons (eC (.int 1)) aNil))) (aCons (eTup (aCons (eVar 13) (aCons (eC (.int 1)) aNil))) aNil))) (aCons (eTup (aCons (eC (.int 0)) (aCons (eC (.int 1)) aNil))) (aCons (eTup (aCons (eC (.int 1)) (aCons (eC (.int 1)) aNil))) aNil))))) aNil)) (nComp [16] (iRange1 (aCons (eOp subI (eOp mulI (eVar 13) (eVar 13)) (eC (.int 1))) aNil)) (gN 16) bYes (eCall sp__law_fr (aCons (eVar 16) (aCons (eOp subI (eOp mulI (eVar 13) (eVar 13)) (eC (.int 1))) aNil)))))) (sRet (eC (.bl false))) sNext)
  t1__law_hands_hold)
def t3__law_hands_hold : IS := (sSeq (sSet 13 (xE (eOp addI (eC (.int 2)) (eCall sp__law_take (aCons (eVar 0) (aCons (eC (.int 6)) aNil))))))
  t2__law_hands_hold)
def t4__law_hands_hold : IS := (sSeq (sIf (bAnd (bT (eOp niN (eVar 11) (eC .non))) (bT (eOp gtI (eCB (f1 lenD) (aCons (nComp [16] (iRange2 (aCons (eC (.int 2)) (aCons (eC (.int 40)) aNil))) (gN 16) (bT (eOp eqD (eCB (f1 lenD) (aCons (nComp [17] (iOf (eVar 12)) (gN 17) (bT (eOp neD (eOp ixD (eCall sp__law_mul (aCons (eVar 17) (aCons (eCall sp__law_mul (aCons (eVar 11) (aCons (eTup (aCons (eC (.int 1)) (aCons (eVar 16) aNil))) aNil))) aNil))) (eC (.int 1))) (eC (.int 1)))) (eC (.int 1))) aNil)) (eC (.int 0)))) (eVar 16)) aNil)) (eC (.int 0))))) (sRet (eC (.bl false))) sNext)
  t3__law_hands_hold)
def t5__law_hands_hold : IS := (sSeq (sIf (bOr (bT (eOp neD (eOp isN (eVar 11) (eC .non)) (eOp eqD (eVar 12) (eOp repL (eLst (aCons (eTup (aCons (eC (.int 0)) (aCons (eC (.int 1)) aNil))) aNil)) (eC (.int 3)))))) (bAnd (bT (eOp niN (eVar 11) (eC .non))) (bOr (bT (eOp leI (eOp ixD (eVar 11) (eC (.int 0))) (eC (.int 0)))) (bT (eOp gtI (eCB (f1 lenD) (aCons (nComp [17] (iOf (eVar 12)) (gN 17) (bT (eOp neD (eOp ixD (eCall sp__law_mul (aCons (eVar 17) (aCons (eVar 11) aNil))) (eC (.int 1))) (eC (.int 1)))) (eC (.int 1))) aNil)) (eC (.int 0))))))) (sRet (eC (.bl false))) sNext)
  t4__law_hands_hold)
def t6__law_hands_hold : IS := (sSeq (sMany [11, 12] (xCons (xE (eCall sp_round_of (aCons (eLst (aCons (eVar 1) (aCons (eVar 2) (aCons (eVar 3) aNil)))) aNil))) (xCons (xE (nComp [15] (iOf (eTup (aCons (eVar 1) (aCons (eVar 2) (aCons (eVar 3) aNil))))) (gN 15) bYes (eOp ixD (eVar 15) (eC (.int 1))))) xNil)))
  t5__law_hands_hold)
def t7__law_hands_hold : IS := (sSeq (sIf (bT (eOp neD (eOp ixD (eOp ixD (eVar 1) (eC (.int 1))) (eC (.int 0))) (eC (.int 0)))) (sSeq (sSet 9 (xE (eLst (aCons (eCall sp__law_at (aCons (eVar 1) (aCons (eVar 4) aNil))) (aCons (eCall sp__law_at (aCons (eVar 2) (aCons (eVar 4) aNil))) aNil)))))
  (sSeq (sSet 10 (xE (nComp [14] (iOf (eCall sp__law_meet (aCons (eVar 1) (aCons (eTup (aCons (eOp ixD (eVar 9) (eC (.int 0))) (aCons (eTup (aCons (eC (.int 0)) (aCons (eC (.int 1)) aNil))) aNil))) (aCons (eVar 5) (aCons (eVar 6) aNil)))))) (gN 14) (bT (eOp eqD (eCall sp__law_at (aCons (eVar 2) (aCons (eVar 14) aNil))) (eOp ixD (eVar 9) (eC (.int 1))))) (eVar 14))))
  (sIf (bOr (bT (eOp neD (eCB (f1 lstD) (aCons (eCall sp_told_time (aCons (eLst (aCons (eVar 1) (aCons (eVar 2) aNil))) (aCons (eVar 9) (aCons (eVar 5) (aCons (eVar 6) aNil))))) aNil)) (eVar 10))) (bAnd (bNot (bT (eCall sp__law_less (aCons (eVar 4) (aCons (eVar 5) aNil))))) (bAnd (bT (eCall sp__law_less (aCons (eVar 4) (aCons (eVar 6) aNil)))) (bT (eOp niL (eVar 4) (eVar 10)))))) (sRet (eC (.bl false))) sNext))) sNext)
  t6__law_hands_hold)
def t8__law_hands_hold : IS := (sSeq (sIf (bT (eOp neD (eOp ixD (eVar 7) (eC (.int 0))) (eC (.int 0)))) (sSeq (sSet 8 (xE (eCall sp_meetings (aCons (eVar 1) (aCons (eVar 2) (aCons (eVar 5) (aCons (eVar 6) aNil)))))))
  (sSeq (sIf (bOr (bT (eOp neD (eCB (f1 lstD) (aCons (eVar 8) aNil)) (eCall sp__law_meet (aCons (eVar 1) (aCons (eVar 2) (aCons (eVar 5) (aCons (eVar 6) aNil))))))) (bT (eOp gtI (eCB (f1 lenD) (aCons (nComp [14] (iOf (eVar 8)) (gN 14) (bT (eOp neD (eCall sp__law_at (aCons (eVar 1) (aCons (eVar 14) aNil))) (eCall sp__law_at (aCons (eVar 2) (aCons (eVar 14) aNil))))) (eVar 14)) aNil)) (eC (.int 0))))) (sRet (eC (.bl false))) sNext)
  (sSeq (sIf (bT (eOp neD (eCall sp_every (aCons (eVar 1) (aCons (eVar 2) aNil))) (eCall sp__law_over (aCons (eTup (aCons (eC (.int 1)) (aCons (eC (.int 1)) aNil))) (aCons (eIf (bT (eOp gtI (eOp ixD (eVar 7) (eC (.int 0))) (eC (.int 0)))) (eVar 7) (eTup (aCons (eOp subI (eC (.int 0)) (eOp ixD (eVar 7) (eC (.int 0)))) (aCons (eOp ixD (eVar 7) (eC (.int 1))) aNil)))) aNil))))) (sRet (eC (.bl false))) sNext)
  (sIf (bT (eOp neD (eCB (f1 lstD) (aCons (eCall sp_all_meet (aCons (eLst (aCons (eVar 1) (aCons (eVar 2) (aCons (eVar 3) aNil)))) (aCons (eVar 5) (aCons (eVar 6) aNil)))) aNil)) (nComp [14] (iOf (eVar 8)) (gN 14) (bT (eOp eqD (eCall sp__law_at (aCons (eVar 3) (aCons (eVar 14) aNil))) (eCall sp__law_at (aCons (eVar 1) (aCons (eVar 14) aNil))))) (eVar 14)))) (sRet (eC (.bl false))) sNext)))) sNext)
  t7__law_hands_hold)
def t9__law_hands_hold : IS := (sSeq (sSet 7 (xE (eCall sp__law_sub (aCons (eOp ixD (eVar 1) (eC (.int 1))) (aCons (eOp ixD (eVar 2) (eC (.int 1))) aNil)))))
  t8__law_hands_hold)
def t10__law_hands_hold : IS := (sSeq (sIf (bOr (bT (eOp neD (eCall sp_stands (aCons (eCall sp_later (aCons (eVar 1) (aCons (eVar 4) aNil))) (aCons (eVar 5) aNil))) (eCall sp__law_at (aCons (eVar 1) (aCons (eCall sp__law_add (aCons (eVar 4) (aCons (eVar 5) aNil))) aNil))))) (bT (eOp neD (eCall sp_between (aCons (eVar 1) (aCons (eVar 5) (aCons (eVar 6) aNil)))) (eOp divI (eOp ixD (eCall sp__law_mul (aCons (eOp ixD (eVar 1) (eC (.int 1))) (aCons (eCall sp__law_sub (aCons (eVar 6) (aCons (eVar 5) aNil))) aNil))) (eC (.int 0))) (eOp ixD (eCall sp__law_mul (aCons (eOp ixD (eVar 1) (eC (.int 1))) (aCons (eCall sp__law_sub (aCons (eVar 6) (aCons (eVar 5) aNil))) aNil))) (eC (.int 1))))))) (sRet (eC (.bl false))) sNext)
  t9__law_hands_hold)
def t11__law_hands_hold : IS := (sSeq (sIf (bOr (bT (eOp neD (eCall sp_stands (aCons (eVar 1) (aCons (eVar 4) aNil))) (eCall sp__law_at (aCons (eVar 1) (aCons (eVar 4) aNil))))) (bOr (bT (eOp neD (eCall sp_rest (aCons (eVar 4) aNil)) (eCall sp__law_rest (aCons (eVar 4) aNil)))) (bT (eOp neD (eCall sp_gap (aCons (eVar 1) (aCons (eVar 2) (aCons (eVar 4) aNil)))) (eCall sp__law_rest (aCons (eCall sp__law_sub (aCons (eCall sp__law_at (aCons (eVar 2) (aCons (eVar 4) aNil))) (aCons (eCall sp__law_at (aCons (eVar 1) (aCons (eVar 4) aNil))) aNil))) aNil)))))) (sRet (eC (.bl false))) sNext)
  t10__law_hands_hold)
def t12__law_hands_hold : IS := (sSeq (sSet 6 (xE (eCall sp__law_add (aCons (eVar 5) (aCons (eCall sp__law_fr (aCons (eCall sp__law_take (aCons (eVar 0) (aCons (eC (.int 6)) aNil))) (aCons (eOp addI (eC (.int 1)) (eCall sp__law_take (aCons (eVar 0) (aCons (eC (.int 2)) aNil)))) aNil))) aNil)))))
  t11__law_hands_hold)
def t13__law_hands_hold : IS := (sSeq (sSet 5 (xE (eCall sp__law_fr (aCons (eOp subI (eCall sp__law_take (aCons (eVar 0) (aCons (eC (.int 6)) aNil))) (eC (.int 2))) (aCons (eOp addI (eC (.int 1)) (eCall sp__law_take (aCons (eVar 0) (aCons (eC (.int 2)) aNil)))) aNil)))))
  t12__law_hands_hold)
def t14__law_hands_hold : IS := (sSeq (sSet 4 (xE (eCall sp__law_fr (aCons (eOp subI (eCall sp__law_take (aCons (eVar 0) (aCons (eC (.int 30)) aNil))) (eC (.int 9))) (aCons (eOp addI (eC (.int 1)) (eCall sp__law_take (aCons (eVar 0) (aCons (eC (.int 4)) aNil)))) aNil)))))
  t13__law_hands_hold)
def m__law_hands_hold : IS := (sSeq (sMany [1, 2, 3] (xCons (xE (eCall sp__law_hand (aCons (eVar 0) aNil))) (xCons (xE (eCall sp__law_hand (aCons (eVar 0) aNil))) (xCons (xE (eCall sp__law_hand (aCons (eVar 0) aNil))) xNil))))
  t14__law_hands_hold)
def sp__law_hands_hold : DSp := fun ds P E => ds.length = 1 ∧ m__law_hands_hold (init 18 ds) { nx := fun _ => P .non, rt := P, ex := fun x _ => E x }

abbrev N__law_days_hold : List Str := "state" :: "wheels" :: "goal" :: "rows" :: "again" :: "day" :: "good" :: "told" :: "one" :: "other" :: "both" :: "due" :: "length" :: "number" :: "rule" :: "leaps" :: "year" :: "many" :: "inside" :: "whole" :: "mean" :: "k" :: "mark" :: "step" :: "j" :: []
abbrev p__law_days_hold : List Str := ["state"]
def t1__law_days_hold : IS := (sRet (eAnd (eOp eqD (eCB (f1 tupD) (aCons (eCall sp_year_of (aCons (eVar 14) (aCons (eOp addI (eCall sp_days_to (aCons (eVar 14) (aCons (eVar 16) aNil))) (eVar 18)) aNil))) aNil)) (eTup (aCons (eVar 16) (aCons (eVar 18) aNil)))) (eOp eqD (eCall sp_mean_year (aCons (eVar 14) aNil)) (eVar 20))))
def t2__law_days_hold : IS := (sSeq (sSet 20 (xE (eCall sp__law_add (aCons (eTup (aCons (eC (.int 365)) (aCons (eC (.int 1)) aNil))) (aCons (eCall sp__law_fr (aCons (eCB (f1 lenD) (aCons (nComp [7] (iOf (eVar 15)) (gN 7) (bT (eOp leI (eVar 7) (eVar 19))) (eVar 7)) aNil)) (aCons (eVar 19) aNil))) aNil)))))
  t1__law_days_hold)
def t3__law_days_hold : IS := (sSeq (sSet 19 (xE (eIf (bT (eOp neD (eVar 14) (eTup aNil))) (eOp ixD (eVar 14) (eUn negI (eC (.int 1)))) (eC (.int 1)))))
  t2__law_days_hold)
def t4__law_days_hold : IS := (sSeq (sSet 18 (xE (eIf (bAnd (bT (eOp inL (eVar 16) (eVar 15))) (bT (eOp eqD (eCall sp__law_take (aCons (eVar 0) (aCons (eC (.int 2)) aNil))) (eC (.int 0))))) (eC (.int 365)) (eCall sp__law_take (aCons (eVar 0) (aCons (eC (.int 365)) aNil))))))
  t3__law_days_hold)
def t5__law_days_hold : IS := (sSeq (sIf (bOr (bT (eOp neD (eCall sp_days_to (aCons (eVar 14) (aCons (eVar 16) aNil))) (eOp addI (eOp mulI (eC (.int 365)) (eOp subI (eVar 16) (eC (.int 1)))) (eCB (f1 lenD) (aCons (nComp [7] (iOf (eVar 15)) (gN 7) (bT (eOp ltI (eVar 7) (eVar 16))) (eVar 7)) aNil))))) (bT (eOp niN (eCall sp_is_rule (aCons (eVar 14) aNil)) (eC (.bl true))))) (sRet (eC (.bl false))) sNext)
  t4__law_days_hold)
def t6__law_days_hold : IS := (sSeq (sIf (bOr (bT (eOp neD (eCall sp_leap_days (aCons (eVar 14) (aCons (eVar 16) aNil))) (eCB (f1 lenD) (aCons (nComp [7] (iOf (eVar 15)) (gN 7) (bT (eOp leI (eVar 7) (eVar 16))) (eVar 7)) aNil)))) (bT (eOp neD (eCall sp_is_leap (aCons (eVar 14) (aCons (eVar 16) aNil))) (eOp inL (eVar 16) (eVar 15))))) (sRet (eC (.bl false))) sNext)
  t5__law_days_hold)
def t7__law_days_hold : IS := (sSeq (sSet 16 (xE (eOp addI (eC (.int 1)) (eCall sp__law_take (aCons (eVar 0) (aCons (eC (.int 890)) aNil))))))
  t6__law_days_hold)
def t8__law_days_hold : IS := (sSeq (sFor (iRange2 (aCons (eC (.int 1)) (aCons (eC (.int 900)) aNil))) (gN 16) (sSeq (sSet 17 (xE (eCB (f1 lenD) (aCons (nComp [23] (iOf (eVar 14)) (gN 23) (bT (eOp eqD (eOp subI (eVar 16) (eOp mulI (eOp divI (eVar 16) (eVar 23)) (eVar 23))) (eC (.int 0)))) (eVar 23)) aNil))))
  (sSet 15 (xE (eIf (bOr (bT (eOp eqD (eVar 17) (eC (.int 1)))) (bT (eOp eqD (eVar 17) (eC (.int 3))))) (eOp catL (eVar 15) (eLst (aCons (eVar 16) aNil))) (eVar 15))))))
  t7__law_days_hold)
def t9__law_days_hold : IS := (sSeq (sSet 15 (xE (eLst aNil)))
  t8__law_days_hold)
def t10__law_days_hold : IS := (sSeq (sSet 14 (xE (eOp ixD (eLst (aCons (eTup (aCons (eC (.int 4)) (aCons (eC (.int 100)) (aCons (eC (.int 400)) aNil)))) (aCons (eTup (aCons (eC (.int 4)) aNil)) (aCons (eTup aNil) (aCons (eTup (aCons (eC (.int 5)) (aCons (eC (.int 10)) aNil))) (aCons (eTup (aCons (eC (.int 3)) (aCons (eC (.int 9)) (aCons (eC (.int 27)) aNil)))) aNil)))))) (eCall sp__law_take (aCons (eVar 0) (aCons (eC (.int 5)) aNil))))))
  t9__law_days_hold)
def t11__law_days_hold : IS := (sSeq (sIf (bOr (bT (eOp neD (eOp subI (eOp mulI (eVar 13) (eCall sp_inverse (aCons (eVar 13) (aCons (eVar 12) aNil)))) (eOp mulI (eOp divI (eOp mulI (eVar 13) (eCall sp_inverse (aCons (eVar 13) (aCons (eVar 12) aNil)))) (eVar 12)) (eVar 12))) (eC (.int 1)))) (bNot (bAnd (bT (eOp leI (eC (.int 0)) (eCall sp_inverse (aCons (eVar 13) (aCons (eVar 12) aNil))))) (bT (eOp ltI (eCall sp_inverse (aCons (eVar 13) (aCons (eVar 12) aNil))) (eVar 12)))))) (sRet (eC (.bl false))) sNext)
  t10__law_days_hold)
def t12__law_days_hold : IS := (sSeq (sSet 13 (xE (eOp ixD (nComp [21] (iRange2 (aCons (eC (.int 1)) (aCons (eVar 12) aNil))) (gN 21) (bT (eOp eqD (eCB (f1 lenD) (aCons (nComp [24] (iRange2 (aCons (eC (.int 2)) (aCons (eOp addI (eVar 21) (eC (.int 1))) aNil))) (gN 24) (bAnd (bT (eOp eqD (eOp subI (eVar 21) (eOp mulI (eOp divI (eVar 21) (eVar 24)) (eVar 24))) (eC (.int 0)))) (bT (eOp eqD (eOp subI (eVar 12) (eOp mulI (eOp divI (eVar 12) (eVar 24)) (eVar 24))) (eC (.int 0))))) (eVar 24)) aNil)) (eC (.int 0)))) (eVar 21)) (eUn negI (eC (.int 1))))))
  t11__law_days_hold)
def t13__law_days_hold : IS := (sSeq (sSet 12 (xE (eOp addI (eC (.int 2)) (eCall sp__law_take (aCons (eVar 0) (aCons (eC (.int 30)) aNil))))))
  t12__law_days_hold)
def t14__law_days_hold : IS := (sSeq (sIf (bT (eOp neD (eCall sp_joined (aCons (eVar 8) (aCons (eVar 9) aNil))) (eVar 11))) (sRet (eC (.bl false))) sNext)
  t13__law_days_hold)
def t15__law_days_hold : IS := (sSeq (sSet 11 (xE (eIf (bT (eOp neD (eVar 10) (eLst aNil))) (eTup (aCons (eOp subI (eOp ixD (eVar 10) (eC (.int 1))) (eOp ixD (eVar 10) (eC (.int 0)))) (aCons (eOp ixD (eVar 10) (eC (.int 0))) aNil))) (eC .non))))
  t14__law_days_hold)
def t16__law_days_hold : IS := (sSeq (sSet 10 (xE (nComp [5] (iRange1 (aCons (eC (.int 200)) aNil)) (gN 5) (bAnd (bT (eOp eqD (eOp subI (eVar 5) (eOp mulI (eOp divI (eVar 5) (eOp ixD (eVar 8) (eC (.int 0)))) (eOp ixD (eVar 8) (eC (.int 0))))) (eOp ixD (eVar 8) (eC (.int 1))))) (bT (eOp eqD (eOp subI (eVar 5) (eOp mulI (eOp divI (eVar 5) (eOp ixD (eVar 9) (eC (.int 0)))) (eOp ixD (eVar 9) (eC (.int 0))))) (eOp ixD (eVar 9) (eC (.int 1)))))) (eVar 5))))
  t15__law_days_hold)
def t17__law_days_hold : IS := (sSeq (sMany [8, 9] (xCons (xE (eTup (aCons (eOp ixD (eVar 8) (eC (.int 0))) (aCons (eCall sp__law_take (aCons (eVar 0) (aCons (eOp ixD (eVar 8) (eC (.int 0))) aNil))) aNil)))) (xCons (xE (eTup (aCons (eOp ixD (eVar 9) (eC (.int 0))) (aCons (eCall sp__law_take (aCons (eVar 0) (aCons (eOp ixD (eVar 9) (eC (.int 0))) aNil))) aNil)))) xNil)))
  t16__law_days_hold)
def t18__law_days_hold : IS := (sSeq (sMany [8, 9] (xCons (xE (eTup (aCons (eOp addI (eC (.int 2)) (eCall sp__law_take (aCons (eVar 0) (aCons (eC (.int 9)) aNil)))) (aCons (eC (.int 0)) aNil)))) (xCons (xE (eTup (aCons (eOp addI (eC (.int 2)) (eCall sp__law_take (aCons (eVar 0) (aCons (eC (.int 9)) aNil)))) (aCons (eC (.int 0)) aNil)))) xNil)))
  t17__law_days_hold)
def t19__law_days_hold : IS := (sSeq (sIf (bOr (bT (eOp neD (eOp isN (eVar 7) (eC .non)) (eOp neD (eVar 6) (eLst aNil)))) (bAnd (bT (eOp niN (eVar 7) (eC .non))) (bT (eOp gtI (eCB (f1 lenD) (aCons (nComp [5] (iRange1 (aCons (eC (.int 1100)) aNil)) (gN 5) (bAnd (bT (eOp eqD (eOp ixD (eOp ixD (eVar 3) (eVar 5)) (eOp ixD (eVar 7) (eC (.int 0)))) (eOp ixD (eVar 2) (eOp ixD (eVar 7) (eC (.int 0)))))) (bT (eOp eqD (eOp ixD (eOp ixD (eVar 3) (eVar 5)) (eOp ixD (eVar 7) (eC (.int 1)))) (eOp ixD (eVar 2) (eOp ixD (eVar 7) (eC (.int 1))))))) (eVar 5)) aNil)) (eC (.int 0)))))) (sRet (eC (.bl false))) sNext)
  t18__law_days_hold)
def t20__law_days_hold : IS := (sSeq (sSet 7 (xE (eCall sp_why_never (aCons (eVar 1) (aCons (eVar 2) aNil)))))
  t19__law_days_hold)
def t21__law_days_hold : IS := (sSeq (sIf (bOr (bT (eOp neD (eCall sp_first_day (aCons (eVar 1) (aCons (eVar 2) aNil))) (eIf (bT (eOp neD (eVar 6) (eLst aNil))) (eOp ixD (eVar 6) (eC (.int 0))) (eC .non)))) (bT (eOp neD (eCB (f1 lstD) (aCons (eCall sp_days_at (aCons (eVar 1) (aCons (eVar 2) (aCons (eC (.int 50)) (aCons (eC (.int 900)) aNil))))) aNil)) (nComp [5] (iOf (eVar 6)) (gN 5) (bAnd (bT (eOp leI (eC (.int 50)) (eVar 5))) (bT (eOp leI (eVar 5) (eC (.int 900))))) (eVar 5))))) (sRet (eC (.bl false))) sNext)
  t20__law_days_hold)
def t22__law_days_hold : IS := (sSeq (sSet 6 (xE (nComp [5] (iRange1 (aCons (eC (.int 1100)) aNil)) (gN 5) (bT (eOp eqD (eOp ixD (eVar 3) (eVar 5)) (eVar 2))) (eVar 5))))
  t21__law_days_hold)
def t23__law_days_hold : IS := (sSeq (sIf (bOr (bT (eOp niN (eCall sp_are_wheels (aCons (eVar 1) aNil)) (eC (.bl true)))) (bOr (bT (eOp neD (eCall sp_period (aCons (eVar 1) aNil)) (eOp ixD (eVar 4) (eC (.int 0))))) (bT (eOp neD (eCall sp_stand (aCons (eVar 1) (aCons (eVar 5) aNil))) (eOp ixD (eVar 3) (eVar 5)))))) (sRet (eC (.bl false))) sNext)
  t22__law_days_hold)
def t24__law_days_hold : IS := (sSeq (sSet 5 (xE (eCall sp__law_take (aCons (eVar 0) (aCons (eC (.int 1000)) aNil)))))
  t23__law_days_hold)
def t25__law_days_hold : IS := (sSeq (sSet 4 (xE (nComp [5] (iRange2 (aCons (eC (.int 1)) (aCons (eC (.int 1100)) aNil))) (gN 5) (bT (eOp eqD (eOp ixD (eVar 3) (eVar 5)) (eOp ixD (eVar 3) (eC (.int 0))))) (eVar 5))))
  t24__law_days_hold)
def t26__law_days_hold : IS := (sSeq (sSet 3 (xE (nComp [5] (iRange1 (aCons (eC (.int 1100)) aNil)) (gN 5) bYes (eCB (f1 tupD) (aCons (nComp [12, 22] (iOf (eVar 1)) (gT 2 (gsCons (gN 12) (gsCons (gN 22) gsNil))) bYes (eOp subI (eOp addD (eVar 22) (eVar 5)) (eOp mulI (eOp divI (eOp addD (eVar 22) (eVar 5)) (eVar 12)) (eVar 12)))) aNil)))))
  t25__law_days_hold)
def t27__law_days_hold : IS := (sSeq (sSet 2 (xE (eCB (f1 tupD) (aCons (nComp [12, 22] (iOf (eVar 1)) (gT 2 (gsCons (gN 12) (gsCons (gN 22) gsNil))) bYes (eCall sp__law_take (aCons (eVar 0) (aCons (eVar 12) aNil)))) aNil))))
  t26__law_days_hold)
def t28__law_days_hold : IS := (sSeq (sSet 1 (xE (eCB (f1 tupD) (aCons (nComp [12, 22] (iOf (eVar 1)) (gT 2 (gsCons (gN 12) (gsCons (gN 22) gsNil))) bYes (eTup (aCons (eVar 12) (aCons (eCall sp__law_take (aCons (eVar 0) (aCons (eVar 12) aNil))) aNil)))) aNil))))
  t27__law_days_hold)
def m__law_days_hold : IS := (sSeq (sSet 1 (xE (eCB (f1 tupD) (aCons (nComp [21] (iRange1 (aCons (eOp addI (eC (.int 1)) (eCall sp__law_take (aCons (eVar 0) (aCons (eC (.int 3)) aNil)))) aNil)) (gN 21) bYes (eTup (aCons (eOp addI (eC (.int 2)) (eCall sp__law_take (aCons (eVar 0) (aCons (eC (.int 9)) aNil)))) (aCons (eC (.int 0)) aNil)))) aNil))))
  t28__law_days_hold)
def sp__law_days_hold : DSp := fun ds P E => ds.length = 1 ∧ m__law_days_hold (init 25 ds) { nx := fun _ => P .non, rt := P, ex := fun x _ => E x }

abbrev N_law : List Str := "script" :: "state" :: "turn" :: "words" :: "ask" :: "told" :: "error" :: "k" :: "value" :: []
abbrev p_law : List Str := ["script"]
abbrev i_law : Nat := 1
abbrev lv_law : Nat := 9
def t1_law : IS := (sRet (eOp eqD (nComp [8] (iOf (eTup (aCons (eTup aNil) (aCons (eTup (aCons (eTup (aCons (eC (.int 3)) (aCons (eC (.int 2)) aNil))) aNil)) (aCons (eTup (aCons (eTup (aCons (eC (.int 3)) (aCons (eC (.int 3)) aNil))) aNil)) (aCons (eTup (aCons (eTup (aCons (eC (.int 0)) (aCons (eC (.int 0)) aNil))) aNil)) (aCons (eTup (aCons (eTup (aCons (eC (.int 3)) aNil)) aNil)) (aCons (eLst (aCons (eTup (aCons (eC (.int 3)) (aCons (eC (.int 1)) aNil))) aNil)) (aCons (eTup (aCons (eTup (aCons (eC (.int 3)) (aCons (eC (.bl true)) aNil))) aNil)) (aCons (eC .non) aNil)))))))))) (gN 8) bYes (eCall sp_are_wheels (aCons (eVar 8) aNil))) (eLst (aCons (eC (.bl true)) (aCons (eC (.bl true)) (aCons (eC (.bl false)) (aCons (eC (.bl false)) (aCons (eC (.bl false)) (aCons (eC (.bl false)) (aCons (eC (.bl false)) (aCons (eC (.bl false)) aNil)))))))))))
def t2_law : IS := (sSeq (sIf (bT (eOp neD (nComp [8] (iOf (eTup (aCons (eTup (aCons (eC (.int 4)) (aCons (eC (.int 6)) aNil))) (aCons (eTup (aCons (eC (.int 4)) (aCons (eC (.int 4)) aNil))) (aCons (eTup (aCons (eC (.int 0)) aNil)) (aCons (eLst (aCons (eC (.int 4)) aNil)) (aCons (eTup (aCons (eC (.bl true)) aNil)) (aCons (eC .non) aNil)))))))) (gN 8) bYes (eCall sp_is_rule (aCons (eVar 8) aNil))) (eOp repL (eLst (aCons (eC (.bl false)) aNil)) (eC (.int 6))))) (sRet (eC (.bl false))) sNext)
  t1_law)
def t3_law : IS := (sSeq (sIf (bT (eOp neD (nComp [7] (iRange1 (aCons (eC (.int 10)) aNil)) (gN 7) bYes (eCall sp__law_word (aCons (eVar 7) aNil))) (eLst (aCons (eC (.str (PySem.Str.ofString "alike"))) (aCons (eC (.str (PySem.Str.ofString "many"))) (aCons (eC (.str (PySem.Str.ofString "alike"))) (aCons (eC (.str (PySem.Str.ofString "few"))) (aCons (eC (.str (PySem.Str.ofString "still"))) (aCons (eC (.str (PySem.Str.ofString "hands"))) (aCons (eC (.str (PySem.Str.ofString "goal"))) (aCons (eC (.str (PySem.Str.ofString "days"))) (aCons (eC (.str (PySem.Str.ofString "year"))) (aCons (eC (.str (PySem.Str.ofString "day"))) aNil))))))))))))) (sRet (eC (.bl false))) sNext)
  t2_law)
def t4_law : IS := (sSeq (sIf (bT (eOp neD (oVar 3) (eLst (aCons (eC (.str (PySem.Str.ofString "days"))) (aCons (eC (.str (PySem.Str.ofString "many"))) aNil))))) (sRet (eC (.bl false))) sNext)
  t3_law)
def t5_law : IS := (sSeq (sFor (iRange1 (aCons (eC (.int 2)) aNil)) (gN 4) (sTryH 6 (sSeq (sSet 5 (xE (eIf (bT (eOp eqD (eVar 4) (eC (.int 0)))) (eCall sp_days_at (aCons (eTup (aCons (eTup (aCons (eC (.int 50000)) (aCons (eC (.int 0)) aNil))) aNil)) (aCons (eTup (aCons (eC (.int 0)) aNil)) (aCons (eC (.int 0)) (aCons (eC (.int 100000)) aNil))))) (eCall sp_meetings (aCons (eTup (aCons (eTup (aCons (eC (.int 0)) (aCons (eC (.int 1)) aNil))) (aCons (eTup (aCons (eC (.int 401)) (aCons (eC (.int 1)) aNil))) aNil))) (aCons (eTup (aCons (eTup (aCons (eC (.int 0)) (aCons (eC (.int 1)) aNil))) (aCons (eTup (aCons (eC (.int 0)) (aCons (eC (.int 1)) aNil))) aNil))) (aCons (eTup (aCons (eC (.int 0)) (aCons (eC (.int 1)) aNil))) (aCons (eTup (aCons (eC (.int 1)) (aCons (eC (.int 1)) aNil))) aNil))))))))
  (sApp 3 (eCB (f1 lenD) (aCons (eVar 5) aNil)))) (fun xa xd => (sApp 3 (eXw xa xd 6)))))
  t4_law)
def t6_law : IS := (sSeq (sSet 3 (xN (eLst aNil)))
  t5_law)
def t7_law : IS := (sSeq (sIf (bOr (bT (eOp neD (eCB (f1 lstD) (aCons (eCall sp_days_at (aCons (eTup (aCons (eTup (aCons (eC (.int 50000)) (aCons (eC (.int 0)) aNil))) aNil)) (aCons (eTup (aCons (eC (.int 0)) aNil)) (aCons (eC (.int 0)) (aCons (eC (.int 99999)) aNil))))) aNil)) (eLst (aCons (eC (.int 0)) (aCons (eC (.int 50000)) aNil))))) (bT (eOp neD (eCB (f1 lenD) (aCons (eCall sp_meetings (aCons (eTup (aCons (eTup (aCons (eC (.int 0)) (aCons (eC (.int 1)) aNil))) (aCons (eTup (aCons (eC (.int 400)) (aCons (eC (.int 1)) aNil))) aNil))) (aCons (eTup (aCons (eTup (aCons (eC (.int 0)) (aCons (eC (.int 1)) aNil))) (aCons (eTup (aCons (eC (.int 0)) (aCons (eC (.int 1)) aNil))) aNil))) (aCons (eTup (aCons (eC (.int 0)) (aCons (eC (.int 1)) aNil))) (aCons (eTup (aCons (eC (.int 1)) (aCons (eC (.int 1)) aNil))) aNil))))) aNil)) (eC (.int 400))))) (sRet (eC (.bl false))) sNext)
  t6_law)
def m_law : IS := (sSeq (sFor (iRange1 (aCons (eC (.int 4)) aNil)) (gN 2) (sIf (bOr (bNot (bT (eCall sp__law_hands_hold (aCons (eVar 1) aNil)))) (bNot (bT (eCall sp__law_days_hold (aCons (eVar 1) aNil))))) (sRet (eC (.bl false))) sNext))
  t7_law)

end KK

set_option maxRecDepth 100000
set_option maxHeartbeats 4000000
namespace KK
open PySem L2 DL DLX
section
variable {P : Program} {w : World} {K : Fr} {mg : Str → Option Value} {base : Heap}
theorem hb_mis (M : Mis P K mg s_init) : Binds K M.fd ["self", "word"] [] := by
  obtain ⟨_, _, _, _, _, _, e, _⟩ := M.Z.fn
  rw [e]
  exact Binds.all fun us hl => match us, hl with | [_, _], _ => rfl
theorem ok_mis (M : Mis P K mg s_init) : FnOk P w K mg base (L2.CX P w) 3 M.fI M.fd ["self", "word"] (spInit M.C) :=
  init_ok M.Z (NdefX.nscope_by (by decide +kernel)) rfl rfl rfl rfl (by decide) (fun _ => rfl) (fun _ => rfl) (fun _ => rfl) _ (fun _ => rfl)
abbrev N__law_take : List Str := ["state", "bound", "cells", "spot", "cell", "mixed"]
abbrev p__law_take : List Str := ["state", "bound"]
theorem sc__law_take : FnScope N__law_take p__law_take (defScope s__law_take) := ⟨rfl, rfl, rfl, by decide +kernel, rfl, by decide +kernel, by decide +kernel⟩
theorem b__law_take (T : Txt P K mg) : Binds K T.d__law_take.fd p__law_take [] := T.d__law_take.F.binds fun _ _ _ _ _ _ us hl => match us, hl with | [_, _], _ => rfl
theorem fmod_in {x b : Int} (h : 2 ≤ b) : 0 ≤ x.fmod b ∧ x.fmod b < b := by
  rw [Int.fmod_eq_emod_of_nonneg x (by omega)]
  exact ⟨Int.emod_nonneg x (by omega), Int.emod_lt_of_pos x (by omega)⟩
theorem ok__law_take (T : Txt P K mg) : FnOk P w K mg base (L2.CX P w) 1 T.d__law_take.f T.d__law_take.fd p__law_take (liftS K (XR0 K mg) sp__law_take) := by
  have key : ∀ {ds : List Dt} {Pd : Dt → Prop} {E : Xc → Prop}, sp__law_take ds Pd E → ∃ b : Int, ds = [.st, .int b] ∧ b < 1073741824 ∧ ∀ r : Int, (b < 2 → r = 0) → (2 ≤ b → 0 ≤ r ∧ r < b) → Pd (.int r) := by
    intro ds Pd E h
    unfold sp__law_take at h
    split at h
    · exact ⟨_, rfl, h⟩
    · exact h.elim
  refine T.d__law_take.F.okX sc__law_take (fun vs H Q E h => ?_) (fun cdv A outer s H vs Q E hr h => ?_)
  · obtain ⟨dr, I, ds, Pd, EP, _, r, h, _⟩ := h
    obtain ⟨b, rfl, _⟩ := key h
    exact r.len
  · obtain ⟨dr, I, ds, Pd, EP, pre, r, h, _, hq⟩ := h
    obtain ⟨b, rfl, hb, hP⟩ := key h
    have nd := sc__law_take.nd
    cases r with
    | cons r1 r2 =>
    cases r1 with
    | @st q hdr =>
    cases r2 with
    | cons r2 r3 =>
    cases r2
    cases r3
    obtain ⟨i, cs, h1, h2, h3, h4, h5⟩ := pre.dro q hdr
    have hl : 0 < cs.length := List.length_pos_iff.mpr h3
    refine ⟨_, pss_cons (ps_if (pt_cmpR op_lt (pv 1) pe_int (nomark _)) (pss_one (ps_ret pe_int)) pss_nil)
      (pss_cons (ps_set (i := 2) nd rfl (Or.inl rfl) (pe_ix ix_list (pv 0) pe_int (fun _ _ => rfl)))
      (pss_cons (ps_set (i := 3) nd rfl (Or.inl rfl) (pe_op op_mod (pe_callTy call_int1 (by rfl) T.b_int (by decide +kernel) (pa_cons (pe_ix ix_list (pv 0) pe_int (fun _ _ => rfl)) pa_nil)) (pe_callB call_len_seq (by rfl) T.b_len PySem.boot_len (pa_cons (pv 2) pa_nil))))
      (pss_cons (ps_set (i := 4) nd rfl (Or.inl rfl) (pe_ix ix_list (pv 2) (pv 3) (fun _ _ => rfl)))
      (pss_cons (ps_if (pt_cmpR op_ge (pv 4) pe_int (nomark _))
        (pss_cons (ps_asg (pe_op op_fdivN (pv 4) (pv 1)) (pg_sub (pv 2) (pv 3) set_list)) (pss_one (ps_ret (pe_op op_modN (pe_callTy call_int1 (by rfl) T.b_int (by decide +kernel) (pa_cons (pv 4) pa_nil)) (pv 1))))) pss_nil)
      (pss_cons (ps_asg (pe_op op_add (pe_ix ix_list (pv 0) pe_int (fun _ _ => rfl)) pe_int) (pg_sub (pv 0) pe_int set_list))
      (pss_cons (ps_set (i := 5) nd rfl (Or.inl rfl) (pe_op op_mod (pe_callTy call_int1 (by rfl) T.b_int (by decide +kernel) (pa_cons (pe_op op_add (pe_op op_mul (pv 4) pe_int) (pe_op op_mul (pe_ix ix_list (pv 0) pe_int (fun _ _ => rfl)) pe_int)) pa_nil)) pe_int))
      (pss_cons (ps_set (i := 5) nd rfl (Or.inl rfl) (pe_op op_mod (pe_callTy call_int1 (by rfl) T.b_int (by decide +kernel) (pa_cons (pe_op op_add (pe_op op_mul (pv 5) pe_int) (pe_op op_mul (pe_ix ix_list (pv 0) pe_int (fun _ _ => rfl)) pe_int)) pa_nil)) pe_int))
      (pss_one (ps_ret (pe_op op_modN (pe_callTy call_int1 (by rfl) T.b_int (by decide +kernel) (pa_cons (pe_op op_fdiv (pv 5) pe_int) pa_nil)) (pv 1))))))))))), ?_⟩
    -- if bound < 2
    refine ⟨_, rfl, _, _, rfl, rfl, _, rfl, ite2 (fun e => ?_) (fun e => ?_)⟩
    · have e' : b < 2 := of_decide_eq_true e
      exact hq (.int 0) _ H (hP 0 (fun _ => rfl) (fun z => absurd z (by omega))) Kp.refl (.int _)
    · have hb2 : 2 ≤ b := by
        have : ¬ b < 2 := fun z => e (decide_eq_true z)
        omega
      have fin : ∀ (x : Int) (H' : Hp), Kp dr H H' → Q (.int (x.fmod b)) H' := fun x H' k => hq (.int _) _ H' (hP _ (fun z => absurd z (by omega)) fun _ => fmod_in hb2) k (.int _)
      -- cells = state[1]; spot = int(state[0]) % len(cells); cell = cells[spot]
      refine ⟨_, rfl, _, _, 1, _, rfl, rfl, SqL.of h1, atI_nat (j := 1) rfl, _, rfl, _, _, 0, _, rfl, rfl, SqL.of h1, atI_nat (j := 0) rfl, .inl ⟨_, rfl, _, rfl, _, _, rfl, .inl (SqL.of h2), _, _, rfl, rfl, (by rw [List.length_map]; omega), ?_⟩⟩
      rw [List.length_map]
      have s0 : 0 ≤ i % (cs.length : Int) := Int.emod_nonneg i (by omega)
      have s1 : i % (cs.length : Int) < cs.length := Int.emod_lt_of_pos i (by omega)
      obtain ⟨j, ej⟩ : ∃ j : Nat, i % (cs.length : Int) = j := ⟨(i % (cs.length : Int)).toNat, by omega⟩
      have ev : V.int (i % (cs.length : Int)) = V.int j := congrArg V.int ej
      have hj : j < cs.length := by omega
      refine ⟨_, rfl, _, rfl, _, _, (j : Int), .int cs[j], rfl, ev, SqL.of h2, atI_nat (j := j) (by rw [List.getElem?_map, List.getElem?_eq_getElem hj]; rfl), _, rfl, _, _, rfl, rfl, _, rfl, ite2 (fun e2 => ?_) (fun e2 => ?_)⟩
      · -- cells[spot] = cell // bound; return int(cell) % bound
        have hk : Kp dr H (upd H q.2 (.lst ((cs.map V.int).set j (.int (cs[j].fdiv b))))) := by
          refine ⟨fun a o z n => ?_, fun q' eq ⟨i', cs', a1, a2, a3, a4, a5⟩ => ?_⟩
          · rw [upd_ne (fun (y : a = q.2) => n ⟨q, hdr, .inr y⟩)]; exact z
          · rw [hdr] at eq
            cases eq
            refine ⟨i', cs.set j (cs[j].fdiv b), by rw [upd_ne a5]; exact a1, by rw [upd_same, List.map_set], fun z => ?_, by rw [List.length_set]; exact h4, a5⟩
            have z2 := congrArg List.length z
            rw [List.length_set, List.length_nil] at z2
            omega
        refine ⟨_, rfl, _, rfl, cs[j], b, rfl, rfl, ⟨by omega, by omega⟩, _, rfl, _, rfl, q.2, cs.map V.int, (j : Int), j, rfl, ev, h2, Evl.ixN_nat (by rw [List.length_map]; exact hj), ?_⟩
        exact ⟨_, rfl, .inl ⟨_, rfl, _, rfl, _, _, rfl, rfl, by omega, fin _ _ hk⟩⟩
      · -- state[0] = state[0] + 1
        have hk : Kp dr H (upd H q.1 (.lst ([V.int i, V.ref q.2].set 0 (.int (i + 1))))) := by
          refine ⟨fun a o z n => ?_, fun q' eq ⟨i', cs', a1, a2, a3, a4, a5⟩ => ?_⟩
          · rw [upd_ne (fun (y : a = q.1) => n ⟨q, hdr, .inl y⟩)]; exact z
          · rw [hdr] at eq
            cases eq
            exact ⟨i + 1, cs', upd_same, by rw [upd_ne a5.symm]; exact a2, a3, a4, a5⟩
        refine ⟨_, rfl, _, _, 0, _, rfl, rfl, SqL.of h1, atI_nat (j := 0) rfl, i, 1, rfl, rfl, _, rfl, q.1, _, 0, 0, rfl, rfl, h1, rfl, ?_⟩
        refine ⟨_, rfl, _, _, rfl, rfl, .inr ⟨by decide, by decide⟩, _, rfl, _, _, 0, _, rfl, rfl, SqL.of upd_same, atI_nat (j := 0) rfl, _, _, rfl, rfl, .inr ⟨by decide, by decide⟩, _, _, rfl, rfl, .inl ⟨_, rfl, _, _, rfl, rfl, (by show (0 : Int) < 2147483647; decide), ?_⟩⟩
        refine ⟨_, rfl, _, _, rfl, rfl, .inr ⟨by decide, by decide⟩, _, rfl, _, _, 0, _, rfl, rfl, SqL.of upd_same, atI_nat (j := 0) rfl, _, _, rfl, rfl, .inr ⟨by decide, by decide⟩, _, _, rfl, rfl, .inl ⟨_, rfl, _, _, rfl, rfl, (by show (0 : Int) < 1000000007; decide), ?_⟩⟩
        exact ⟨_, rfl, _, _, rfl, rfl, ⟨by decide, by decide⟩, .inl ⟨_, rfl, _, rfl, _, _, rfl, rfl, by omega, fin _ _ hk⟩⟩
abbrev N__law_state : List Str := ["script", "cells", "cell"]
abbrev p__law_state : List Str := ["script"]
theorem sc__law_state : FnScope N__law_state p__law_state (defScope s__law_state) := ⟨rfl, rfl, rfl, by decide +kernel, rfl, by decide +kernel, by decide +kernel⟩
theorem b__law_state (T : Txt P K mg) : Binds K T.d__law_state.fd p__law_state [] := T.d__law_state.F.binds fun _ _ _ _ _ _ us hl => match us, hl with | [_], _ => rfl
theorem ok__law_state (T : Txt P K mg) : FnOk P w K mg base (L2.CX P w) 1 T.d__law_state.f T.d__law_state.fd p__law_state (spState K) := by
  refine T.d__law_state.F.okX sc__law_state (fun vs H Q E h => ?_) (fun cdv A outer s H vs Q E hr h => ?_)
  · obtain ⟨a, ns, rfl, _⟩ := h
    rfl
  · obtain ⟨a, ns, rfl, hS, hn, hq⟩ := h
    have nd := sc__law_state.nd
    refine ⟨_, pss_cons (ps_setLc (i := 1) (own := [("cell", 2)]) (g := gName 2) rfl nd rfl rfl (sw_true rfl rfl rfl (by decide +kernel)) (pi_list (pe_slice sl_list (pv 0) po_none (po_some pe_int))) (blkOk_by (own := [("cell", 2)]) (N := N__law_state) (sc := defScope s__law_state) (by decide +kernel))
        (fun _ _ _ _ _ => pg_name (i := 2) nd rfl (Or.inl rfl)) (fun _ _ _ _ _ => pts_nil) (fun _ _ _ _ _ => pe_callB call_abs (by rfl) T.b_abs (by decide +kernel) (pa_cons (pv 2) pa_nil)))
      (pss_cons (ps_if (pt_cmpR op_eq (pe_callB call_len_seq (by rfl) T.b_len PySem.boot_len (pa_cons (pv 1) pa_nil)) pe_int (nomark _)) (pss_one (ps_set (i := 1) nd rfl (Or.inl rfl) (pe_lst (pa_cons pe_int pa_nil)))) pss_nil)
      (pss_one (ps_ret (pe_lst (pa_cons pe_int (pa_cons (pv 1) pa_nil)))))), ?_⟩
    refine ⟨_, rfl, 63, rfl, a, ns.map V.int, rfl, hS, fun p np => ?_⟩
    rw [cutV_ints]
    generalize hms : cut ns none (some 63) = ms
    have hml : ms.length ≤ 63 := by rw [← hms]; exact Nat.le_trans (cut_len ns none (some 63)) hn
    have s1 := same_new (o := .lst (ms.map V.int)) np
    refine ⟨p, rfl, ⟨_, SqL.of upd_same⟩, fun D nD => ?_⟩
    have pD : p ≠ D := ne_of_none upd_same nD
    have nD0 : H D = none := by
      rw [upd_ne pD.symm] at nD
      exact nD
    refine lc_list (K := K) (a := p) (xs := ms.map V.int) (fun i H2 => Same H H2 ∧ H2 p = some (.lst (ms.map V.int)) ∧ H2 D = some (.lst (((ms.take i).map fun i => if i < 0 then -i else i).map V.int)))
      ⟨fun b o e => by rw [upd_ne (ne_of_none e nD0)]; exact s1 b o e, by rw [upd_ne pD]; exact upd_same, by rw [upd_same]; rfl⟩ (fun i H2 _ h => SqL.of h.2.1) (fun i x H2 hx h => ?_) (fun H2 h => ?_)
    · obtain ⟨h1, h2, h3⟩ := h
      rw [List.getElem?_map] at hx
      have hil : i < ms.length := by
        cases e : ms[i]? with
        | none => rw [e] at hx; cases hx
        | some z => exact (List.getElem?_eq_some_iff.mp e).1
      rw [List.getElem?_eq_getElem hil] at hx
      obtain rfl : V.int ms[i] = x := Option.some.inj hx
      refine ⟨by rfl, _, rfl, _, rfl, _, h3, Nat.lt_of_le_of_lt (show _ ≤ 63 from by rw [List.length_map, List.length_map, List.length_take]; omega) (by decide), fun b o e => ?_, by rw [upd_ne pD]; exact h2, ?_⟩
      · rw [upd_ne (ne_of_none e nD0)]; exact h1 b o e
      · rw [upd_same, List.take_add_one, List.getElem?_eq_getElem hil, List.map_append, List.map_append]
        rfl
    · obtain ⟨h1, h2, h3⟩ := h
      rw [List.length_map, List.take_length] at h3
      refine ⟨_, rfl, D, _, rfl, .inl (SqL.of h3), rfl, _, rfl, ite2 (fun e => ?_) (fun e => ?_)⟩
      · refine ⟨by show 1 ≤ sizeLine; decide, fun c nc => ?_⟩
        refine ⟨_, rfl, by show 2 ≤ sizeLine; decide, fun l nl => ?_⟩
        have cl : c ≠ l := ne_of_none upd_same nl
        refine hq l c [0] _ (fun b o e => ?_) cl.symm upd_same (by rw [upd_ne cl, upd_same]; rfl) (by simp) (by simp)
        have e2 := h1 b o e
        rw [upd_ne (ne_of_none (show (upd H2 c _) b = some o from by rw [upd_ne (ne_of_none e2 nc)]; exact e2) nl), upd_ne (ne_of_none e2 nc)]
        exact e2
      · refine ⟨_, rfl, by show 2 ≤ sizeLine; decide, fun l nl => ?_⟩
        have cl : D ≠ l := ne_of_none h3 nl
        refine hq l D (ms.map fun i => if i < 0 then -i else i) _ (fun b o e => ?_) cl.symm upd_same (by rw [upd_ne cl]; exact h3) (fun z => e ?_) (by rw [List.length_map]; exact hml)
        · have e2 := h1 b o e
          rw [upd_ne (ne_of_none e2 nl)]
          exact e2
        · rw [List.map_eq_nil_iff] at z
          subst z
          rfl
theorem sc_divisor : FnScope N_divisor p_divisor (defScope s_divisor) := ⟨rfl, rfl, rfl, by decide +kernel, rfl, by decide +kernel, by decide +kernel⟩
theorem b_divisor (T : Txt P K mg) : Binds K T.d_divisor.fd p_divisor [] := T.d_divisor.F.binds fun _ _ _ _ _ _ us hl => match us, hl with | [_, _], _ => rfl
theorem ok_divisor (T : Txt P K mg) : FnOk P w K mg base (L2.CX P w) 1 T.d_divisor.f T.d_divisor.fd p_divisor (liftS K (XR0 K mg) sp_divisor) := by
  refine fn_ok (is := m_divisor) T.d_divisor.F sc_divisor (fun _ _ _ h => h.1) (fun cdv A outer s H E W hr hu tk po => ?_) fun _ _ _ h => h.2
  have nd := sc_divisor.nd
  exact (lss_cons (ls_par 0 1 rfl nd (by decide) (le_abs (by rfl) T.b_abs (le_var 0).O).x (le_abs (by rfl) T.b_abs (le_var 1).O).x)
      (lss_cons (ls_while po (lt_cmp (c_ne hu) (le_var 1).O (le_int).O) (lss_one (ls_par 0 1 rfl nd (by decide) (le_var 1).x (le_mod (le_var 0).O (le_var 1).O).x)))
      (lss_one (ls_ret (le_var 0)))))

theorem sc_part : FnScope N_part p_part (defScope s_part) := ⟨rfl, rfl, rfl, by decide +kernel, rfl, by decide +kernel, by decide +kernel⟩
theorem b_part (T : Txt P K mg) : Binds K T.d_part.fd p_part [] := T.d_part.F.binds fun _ _ _ _ _ _ us hl => match us, hl with | [_, _], _ => rfl
theorem ok_part (T : Txt P K mg) : FnOk P w K mg base (L2.CX P w) 2 T.d_part.f T.d_part.fd p_part (liftS K (XR0 K mg) sp_part) := by
  refine fn_ok (is := m_part) T.d_part.F sc_part (fun _ _ _ h => h.1) (fun cdv A outer s H E W hr hu tk po => ?_) fun _ _ _ h => h.2
  have nd := sc_part.nd
  exact (lss_cons (ls_if (lt_cmp c_lt (le_var 1).O (le_int).O) (lss_one (ls_par 0 1 rfl nd (by decide) (le_sub (le_int).O (le_var 0).O).x (le_sub (le_int).O (le_var 1).O).x)) lss_nil)
      (lss_cons (ls_set 2 nd (le_call (ok_divisor T) tk (hr.mono (by decide)) (by rfl) T.d_divisor.g T.d_divisor.F.kp (b_divisor T) (la_cons (le_var 0) (la_cons (le_var 1) la_nil))).x)
      (lss_one (ls_ret (le_tup (la_cons (le_div (le_var 0).O (le_var 2).O) (la_cons (le_div (le_var 1).O (le_var 2).O) la_nil)))))))

theorem sc_plus : FnScope N_plus p_plus (defScope s_plus) := ⟨rfl, rfl, rfl, by decide +kernel, rfl, by decide +kernel, by decide +kernel⟩
theorem b_plus (T : Txt P K mg) : Binds K T.d_plus.fd p_plus [] := T.d_plus.F.binds fun _ _ _ _ _ _ us hl => match us, hl with | [_, _], _ => rfl
theorem ok_plus (T : Txt P K mg) : FnOk P w K mg base (L2.CX P w) 3 T.d_plus.f T.d_plus.fd p_plus (liftS K (XR0 K mg) sp_plus) := by
  refine fn_ok (is := m_plus) T.d_plus.F sc_plus (fun _ _ _ h => h.1) (fun cdv A outer s H E W hr hu tk po => ?_) fun _ _ _ h => h.2
  have nd := sc_plus.nd
  exact (lss_one (ls_ret (le_call (ok_part T) tk (hr.mono (by decide)) (by rfl) T.d_part.g T.d_part.F.kp (b_part T) (la_cons (le_add (le_mul (le_ix (le_var 0).O (le_int).O).O (le_ix (le_var 1).O (le_int).O).O).O (le_mul (le_ix (le_var 1).O (le_int).O).O (le_ix (le_var 0).O (le_int).O).O).O) (la_cons (le_mul (le_ix (le_var 0).O (le_int).O).O (le_ix (le_var 1).O (le_int).O).O) la_nil)))))

theorem sc_minus : FnScope N_minus p_minus (defScope s_minus) := ⟨rfl, rfl, rfl, by decide +kernel, rfl, by decide +kernel, by decide +kernel⟩
theorem b_minus (T : Txt P K mg) : Binds K T.d_minus.fd p_minus [] := T.d_minus.F.binds fun _ _ _ _ _ _ us hl => match us, hl with | [_, _], _ => rfl
theorem ok_minus (T : Txt P K mg) : FnOk P w K mg base (L2.CX P w) 3 T.d_minus.f T.d_minus.fd p_minus (liftS K (XR0 K mg) sp_minus) := by
  refine fn_ok (is := m_minus) T.d_minus.F sc_minus (fun _ _ _ h => h.1) (fun cdv A outer s H E W hr hu tk po => ?_) fun _ _ _ h => h.2
  have nd := sc_minus.nd
  exact (lss_one (ls_ret (le_call (ok_part T) tk (hr.mono (by decide)) (by rfl) T.d_part.g T.d_part.F.kp (b_part T) (la_cons (le_sub (le_mul (le_ix (le_var 0).O (le_int).O).O (le_ix (le_var 1).O (le_int).O).O).O (le_mul (le_ix (le_var 1).O (le_int).O).O (le_ix (le_var 0).O (le_int).O).O).O) (la_cons (le_mul (le_ix (le_var 0).O (le_int).O).O (le_ix (le_var 1).O (le_int).O).O) la_nil)))))

theorem sc_times : FnScope N_times p_times (defScope s_times) := ⟨rfl, rfl, rfl, by decide +kernel, rfl, by decide +kernel, by decide +kernel⟩
theorem b_times (T : Txt P K mg) : Binds K T.d_times.fd p_times [] := T.d_times.F.binds fun _ _ _ _ _ _ us hl => match us, hl with | [_, _], _ => rfl
theorem ok_times (T : Txt P K mg) : FnOk P w K mg base (L2.CX P w) 3 T.d_times.f T.d_times.fd p_times (liftS K (XR0 K mg) sp_times) := by
  refine fn_ok (is := m_times) T.d_times.F sc_times (fun _ _ _ h => h.1) (fun cdv A outer s H E W hr hu tk po => ?_) fun _ _ _ h => h.2
  have nd := sc_times.nd
  exact (lss_one (ls_ret (le_call (ok_part T) tk (hr.mono (by decide)) (by rfl) T.d_part.g T.d_part.F.kp (b_part T) (la_cons (le_mul (le_ix (le_var 0).O (le_int).O).O (le_ix (le_var 1).O (le_int).O).O) (la_cons (le_mul (le_ix (le_var 0).O (le_int).O).O (le_ix (le_var 1).O (le_int).O).O) la_nil)))))

theorem sc_over : FnScope N_over p_over (defScope s_over) := ⟨rfl, rfl, rfl, by decide +kernel, rfl, by decide +kernel, by decide +kernel⟩
theorem b_over (T : Txt P K mg) : Binds K T.d_over.fd p_over [] := T.d_over.F.binds fun _ _ _ _ _ _ us hl => match us, hl with | [_, _], _ => rfl
theorem ok_over (T : Txt P K mg) : FnOk P w K mg base (L2.CX P w) 3 T.d_over.f T.d_over.fd p_over (liftS K (XR0 K mg) sp_over) := by
  refine fn_ok (is := m_over) T.d_over.F sc_over (fun _ _ _ h => h.1) (fun cdv A outer s H E W hr hu tk po => ?_) fun _ _ _ h => h.2
  have nd := sc_over.nd
  exact (lss_one (ls_ret (le_call (ok_part T) tk (hr.mono (by decide)) (by rfl) T.d_part.g T.d_part.F.kp (b_part T) (la_cons (le_mul (le_ix (le_var 0).O (le_int).O).O (le_ix (le_var 1).O (le_int).O).O) (la_cons (le_mul (le_ix (le_var 0).O (le_int).O).O (le_ix (le_var 1).O (le_int).O).O) la_nil)))))

theorem sc_is_less : FnScope N_is_less p_is_less (defScope s_is_less) := ⟨rfl, rfl, rfl, by decide +kernel, rfl, by decide +kernel, by decide +kernel⟩
theorem b_is_less (T : Txt P K mg) : Binds K T.d_is_less.fd p_is_less [] := T.d_is_less.F.binds fun _ _ _ _ _ _ us hl => match us, hl with | [_, _], _ => rfl
theorem ok_is_less (T : Txt P K mg) : FnOk P w K mg base (L2.CX P w) 1 T.d_is_less.f T.d_is_less.fd p_is_less (liftS K (XR0 K mg) sp_is_less) := by
  refine fn_ok (is := m_is_less) T.d_is_less.F sc_is_less (fun _ _ _ h => h.1) (fun cdv A outer s H E W hr hu tk po => ?_) fun _ _ _ h => h.2
  have nd := sc_is_less.nd
  exact (lss_one (ls_ret (le_cmp c_lt (le_mul (le_ix (le_var 0).O (le_int).O).O (le_ix (le_var 1).O (le_int).O).O).O (le_mul (le_ix (le_var 1).O (le_int).O).O (le_ix (le_var 0).O (le_int).O).O).O)))

theorem sc_whole_below : FnScope N_whole_below p_whole_below (defScope s_whole_below) := ⟨rfl, rfl, rfl, by decide +kernel, rfl, by decide +kernel, by decide +kernel⟩
theorem b_whole_below (T : Txt P K mg) : Binds K T.d_whole_below.fd p_whole_below [] := T.d_whole_below.F.binds fun _ _ _ _ _ _ us hl => match us, hl with | [_], _ => rfl
theorem ok_whole_below (T : Txt P K mg) : FnOk P w K mg base (L2.CX P w) 1 T.d_whole_below.f T.d_whole_below.fd p_whole_below (liftS K (XR0 K mg) sp_whole_below) := by
  refine fn_ok (is := m_whole_below) T.d_whole_below.F sc_whole_below (fun _ _ _ h => h.1) (fun cdv A outer s H E W hr hu tk po => ?_) fun _ _ _ h => h.2
  have nd := sc_whole_below.nd
  exact (lss_one (ls_ret (le_div (le_ix (le_var 0).O (le_int).O).O (le_ix (le_var 0).O (le_int).O).O)))

theorem sc_rest : FnScope N_rest p_rest (defScope s_rest) := ⟨rfl, rfl, rfl, by decide +kernel, rfl, by decide +kernel, by decide +kernel⟩
theorem b_rest (T : Txt P K mg) : Binds K T.d_rest.fd p_rest [] := T.d_rest.F.binds fun _ _ _ _ _ _ us hl => match us, hl with | [_], _ => rfl
theorem ok_rest (T : Txt P K mg) : FnOk P w K mg base (L2.CX P w) 4 T.d_rest.f T.d_rest.fd p_rest (liftS K (XR0 K mg) sp_rest) := by
  refine fn_ok (is := m_rest) T.d_rest.F sc_rest (fun _ _ _ h => h.1) (fun cdv A outer s H E W hr hu tk po => ?_) fun _ _ _ h => h.2
  have nd := sc_rest.nd
  exact (lss_one (ls_ret (le_call (ok_minus T) tk (hr.mono (by decide)) (by rfl) T.d_minus.g T.d_minus.F.kp (b_minus T) (la_cons (le_var 0) (la_cons (le_tup (la_cons (le_call (ok_whole_below T) tk (hr.mono (by decide)) (by rfl) T.d_whole_below.g T.d_whole_below.F.kp (b_whole_below T) (la_cons (le_var 0) la_nil)) (la_cons le_int la_nil))) la_nil)))))

theorem sc_stands : FnScope N_stands p_stands (defScope s_stands) := ⟨rfl, rfl, rfl, by decide +kernel, rfl, by decide +kernel, by decide +kernel⟩
theorem b_stands (T : Txt P K mg) : Binds K T.d_stands.fd p_stands [] := T.d_stands.F.binds fun _ _ _ _ _ _ us hl => match us, hl with | [_, _], _ => rfl
theorem ok_stands (T : Txt P K mg) : FnOk P w K mg base (L2.CX P w) 5 T.d_stands.f T.d_stands.fd p_stands (liftS K (XR0 K mg) sp_stands) := by
  refine fn_ok (is := m_stands) T.d_stands.F sc_stands (fun _ _ _ h => h.1) (fun cdv A outer s H E W hr hu tk po => ?_) fun _ _ _ h => h.2
  have nd := sc_stands.nd
  exact (lss_one (ls_ret (le_call (ok_rest T) tk (hr.mono (by decide)) (by rfl) T.d_rest.g T.d_rest.F.kp (b_rest T) (la_cons (le_call (ok_plus T) tk (hr.mono (by decide)) (by rfl) T.d_plus.g T.d_plus.F.kp (b_plus T) (la_cons (le_ix (le_var 0).O (le_int).O) (la_cons (le_call (ok_times T) tk (hr.mono (by decide)) (by rfl) T.d_times.g T.d_times.F.kp (b_times T) (la_cons (le_ix (le_var 0).O (le_int).O) (la_cons (le_var 1) la_nil))) la_nil))) la_nil))))

theorem sc_gap : FnScope N_gap p_gap (defScope s_gap) := ⟨rfl, rfl, rfl, by decide +kernel, rfl, by decide +kernel, by decide +kernel⟩
theorem b_gap (T : Txt P K mg) : Binds K T.d_gap.fd p_gap [] := T.d_gap.F.binds fun _ _ _ _ _ _ us hl => match us, hl with | [_, _, _], _ => rfl
theorem ok_gap (T : Txt P K mg) : FnOk P w K mg base (L2.CX P w) 6 T.d_gap.f T.d_gap.fd p_gap (liftS K (XR0 K mg) sp_gap) := by
  refine fn_ok (is := m_gap) T.d_gap.F sc_gap (fun _ _ _ h => h.1) (fun cdv A outer s H E W hr hu tk po => ?_) fun _ _ _ h => h.2
  have nd := sc_gap.nd
  exact (lss_one (ls_ret (le_call (ok_rest T) tk (hr.mono (by decide)) (by rfl) T.d_rest.g T.d_rest.F.kp (b_rest T) (la_cons (le_call (ok_minus T) tk (hr.mono (by decide)) (by rfl) T.d_minus.g T.d_minus.F.kp (b_minus T) (la_cons (le_call (ok_stands T) tk (hr.mono (by decide)) (by rfl) T.d_stands.g T.d_stands.F.kp (b_stands T) (la_cons (le_var 1) (la_cons (le_var 2) la_nil))) (la_cons (le_call (ok_stands T) tk (hr.mono (by decide)) (by rfl) T.d_stands.g T.d_stands.F.kp (b_stands T) (la_cons (le_var 0) (la_cons (le_var 2) la_nil))) la_nil))) la_nil))))

theorem sc_meetings : FnScope N_meetings p_meetings (defScope s_meetings) := ⟨rfl, rfl, rfl, by decide +kernel, rfl, by decide +kernel, by decide +kernel⟩
theorem b_meetings (T : Txt P K mg) : Binds K T.d_meetings.fd p_meetings [] := T.d_meetings.F.binds fun _ _ _ _ _ _ us hl => match us, hl with | [_, _, _, _], _ => rfl
theorem ok_meetings (T : Txt P K mg) : FnOk P w K mg base (L2.CX P w) 5 T.d_meetings.f T.d_meetings.fd p_meetings (liftS K (XR0 K mg) sp_meetings) := by
  refine fn_ok (is := m_meetings) T.d_meetings.F sc_meetings (fun _ _ _ h => h.1) (fun cdv A outer s H E W hr hu tk po => ?_) fun _ _ _ h => h.2
  have nd := sc_meetings.nd
  exact (lss_cons (ls_set 4 nd (le_call (ok_minus T) tk (hr.mono (by decide)) (by rfl) T.d_minus.g T.d_minus.F.kp (b_minus T) (la_cons (le_ix (le_var 0).O (le_int).O) (la_cons (le_ix (le_var 1).O (le_int).O) la_nil))).x)
      (lss_cons (ls_if (lt_cmp (c_eq hu) (le_ix (le_var 4).O (le_int).O).O (le_int).O) (lss_one (ls_raise rfl tk T.mis.Z (ok_mis T.mis) (hr.mono (by decide)) (hb_mis T.mis) T.mis.x1 (by rfl) (la_cons le_str la_nil))) lss_nil)
      (lss_cons (ls_set 5 nd (le_call (ok_minus T) tk (hr.mono (by decide)) (by rfl) T.d_minus.g T.d_minus.F.kp (b_minus T) (la_cons (le_ix (le_var 1).O (le_int).O) (la_cons (le_ix (le_var 0).O (le_int).O) la_nil))).x)
      (lss_cons (ls_set 6 nd (le_call (ok_minus T) tk (hr.mono (by decide)) (by rfl) T.d_minus.g T.d_minus.F.kp (b_minus T) (la_cons (le_call (ok_times T) tk (hr.mono (by decide)) (by rfl) T.d_times.g T.d_times.F.kp (b_times T) (la_cons (le_var 2) (la_cons (le_var 4) la_nil))) (la_cons (le_var 5) la_nil))).x)
      (lss_cons (ls_set 7 nd (le_call (ok_minus T) tk (hr.mono (by decide)) (by rfl) T.d_minus.g T.d_minus.F.kp (b_minus T) (la_cons (le_call (ok_times T) tk (hr.mono (by decide)) (by rfl) T.d_times.g T.d_times.F.kp (b_times T) (la_cons (le_var 3) (la_cons (le_var 4) la_nil))) (la_cons (le_var 5) la_nil))).x)
      (lss_cons (ls_set 8 nd (le_if (lt_cmp c_gt (le_ix (le_var 4).O (le_int).O).O (le_int).O) (le_tup (la_cons (le_var 6) (la_cons (le_var 7) la_nil))) (le_tup (la_cons (le_var 7) (la_cons (le_var 6) la_nil)))).x)
      (lss_cons (ls_set 9 nd (ln_lst la_nil).x)
      (lss_cons (ls_for po rfl (li_r2 (by rfl) T.b_range (la_cons (le_call (ok_whole_below T) tk (hr.mono (by decide)) (by rfl) T.d_whole_below.g T.d_whole_below.F.kp (b_whole_below T) (la_cons (le_ix (le_var 8).O (le_int).O) la_nil)) (la_cons (le_add (le_call (ok_whole_below T) tk (hr.mono (by decide)) (by rfl) T.d_whole_below.g T.d_whole_below.F.kp (b_whole_below T) (la_cons (le_ix (le_var 8).O (le_int).O) la_nil)).O (le_int).O) la_nil))) (lg_name 10 nd) (lss_cons (ls_set 11 nd (le_call (ok_over T) tk (hr.mono (by decide)) (by rfl) T.d_over.g T.d_over.F.kp (b_over T) (la_cons (le_call (ok_plus T) tk (hr.mono (by decide)) (by rfl) T.d_plus.g T.d_plus.F.kp (b_plus T) (la_cons (le_var 5) (la_cons (le_tup (la_cons (le_var 10) (la_cons le_int la_nil))) la_nil))) (la_cons (le_var 4) la_nil))).x)
      (lss_cons (ls_if (lw_and (lt_not (lt_val (le_call (ok_is_less T) tk (hr.mono (by decide)) (by rfl) T.d_is_less.g T.d_is_less.F.kp (b_is_less T) (la_cons (le_var 11) (la_cons (le_var 2) la_nil))))) (lw_and1 (lt_val (le_call (ok_is_less T) tk (hr.mono (by decide)) (by rfl) T.d_is_less.g T.d_is_less.F.kp (b_is_less T) (la_cons (le_var 11) (la_cons (le_var 3) la_nil)))))).t (lss_one (ls_app 9 (le_var 11))) lss_nil)
      (lss_one (ls_if (lt_cmp c_gt (le_len (by rfl) T.b_len (lo_var 9)).O (le_int).O) (lss_one (ls_raise rfl tk T.mis.Z (ok_mis T.mis) (hr.mono (by decide)) (hb_mis T.mis) T.mis.x1 (by rfl) (la_cons le_str la_nil))) lss_nil)))))
      (lss_one (ls_frz 9 (ls_ret (le_if (lt_cmp c_gt (le_ix (le_var 4).O (le_int).O).O (le_int).O) (le_var 9) ((ln_rev (lo_var 9))).E))))))))))))

theorem sc_every : FnScope N_every p_every (defScope s_every) := ⟨rfl, rfl, rfl, by decide +kernel, rfl, by decide +kernel, by decide +kernel⟩
theorem b_every (T : Txt P K mg) : Binds K T.d_every.fd p_every [] := T.d_every.F.binds fun _ _ _ _ _ _ us hl => match us, hl with | [_, _], _ => rfl
theorem ok_every (T : Txt P K mg) : FnOk P w K mg base (L2.CX P w) 5 T.d_every.f T.d_every.fd p_every (liftS K (XR0 K mg) sp_every) := by
  refine fn_ok (is := m_every) T.d_every.F sc_every (fun _ _ _ h => h.1) (fun cdv A outer s H E W hr hu tk po => ?_) fun _ _ _ h => h.2
  have nd := sc_every.nd
  exact (lss_cons (ls_set 2 nd (le_call (ok_minus T) tk (hr.mono (by decide)) (by rfl) T.d_minus.g T.d_minus.F.kp (b_minus T) (la_cons (le_ix (le_var 0).O (le_int).O) (la_cons (le_ix (le_var 1).O (le_int).O) la_nil))).x)
      (lss_cons (ls_if (lt_cmp (c_eq hu) (le_ix (le_var 2).O (le_int).O).O (le_int).O) (lss_one (ls_raise rfl tk T.mis.Z (ok_mis T.mis) (hr.mono (by decide)) (hb_mis T.mis) T.mis.x1 (by rfl) (la_cons le_str la_nil))) lss_nil)
      (lss_one (ls_ret (le_call (ok_over T) tk (hr.mono (by decide)) (by rfl) T.d_over.g T.d_over.F.kp (b_over T) (la_cons (le_glob (by rfl) T.c_ONE.hm T.c_ONE.r T.c_ONE.h) (la_cons (le_if (lt_cmp c_gt (le_ix (le_var 2).O (le_int).O).O (le_int).O) (le_var 2) (le_tup (la_cons (le_sub (le_int).O (le_ix (le_var 2).O (le_int).O).O) (la_cons (le_ix (le_var 2).O (le_int).O) la_nil)))) la_nil)))))))

theorem sc_common_below : FnScope N_common_below p_common_below (defScope s_common_below) := ⟨rfl, rfl, rfl, by decide +kernel, rfl, by decide +kernel, by decide +kernel⟩
theorem b_common_below (T : Txt P K mg) : Binds K T.d_common_below.fd p_common_below [] := T.d_common_below.F.binds fun _ _ _ _ _ _ us hl => match us, hl with | [_, _], _ => rfl
theorem ok_common_below (T : Txt P K mg) : FnOk P w K mg base (L2.CX P w) 2 T.d_common_below.f T.d_common_below.fd p_common_below (liftS K (XR0 K mg) sp_common_below) := by
  refine fn_ok (is := m_common_below) T.d_common_below.F sc_common_below (fun _ _ _ h => h.1) (fun cdv A outer s H E W hr hu tk po => ?_) fun _ _ _ h => h.2
  have nd := sc_common_below.nd
  exact (lss_cons (ls_set 2 nd (le_int).x)
      (lss_cons (ls_for po rfl (li_of (le_var 0)) (lg_name 3 nd) (lss_one (ls_set 2 nd (le_call (ok_divisor T) tk (hr.mono (by decide)) (by rfl) T.d_divisor.g T.d_divisor.F.kp (b_divisor T) (la_cons (le_var 2) (la_cons (le_abs (by rfl) T.b_abs (le_mul (le_ix (le_var 3).O (le_int).O).O (le_div (le_var 1).O (le_ix (le_var 3).O (le_int).O).O).O).O) la_nil))).x)))
      (lss_one (ls_ret (le_var 2)))))

theorem sc_round_of : FnScope N_round_of p_round_of (defScope s_round_of) := ⟨rfl, rfl, rfl, by decide +kernel, rfl, by decide +kernel, by decide +kernel⟩
theorem b_round_of (T : Txt P K mg) : Binds K T.d_round_of.fd p_round_of [] := T.d_round_of.F.binds fun _ _ _ _ _ _ us hl => match us, hl with | [_], _ => rfl
theorem ok_round_of (T : Txt P K mg) : FnOk P w K mg base (L2.CX P w) 3 T.d_round_of.f T.d_round_of.fd p_round_of (liftS K (XR0 K mg) sp_round_of) := by
  refine fn_ok (is := m_round_of) T.d_round_of.F sc_round_of (fun _ _ _ h => h.1) (fun cdv A outer s H E W hr hu tk po => ?_) fun _ _ _ h => h.2
  have nd := sc_round_of.nd
  exact (lss_cons (ls_setLcE 1 (ts := [4]) (own := [("hand", 4)]) rfl nd (lio_of (le_var 0).O) (blkOk_by (own := [("hand", 4)]) (by show blkC N_round_of (defScope s_round_of) _ _ = true; decide +kernel)) rfl (fun _ _ _ _ _ => (lg_name 4 nd)) (fun _ _ _ _ _ => (lts_one (lt_cmp (c_ne hu) (le_ix (le_ix (le_var 4).O (le_int).O).O (le_int).O).O (le_int).O))) (fun _ _ _ _ _ => (le_ix (le_var 4).O (le_int).O)))
      (lss_cons (ls_if (lt_cmp (c_eq hu) (le_var 1).O ((ln_lst la_nil)).E.O) (lss_one (ls_ret le_non)) lss_nil)
      (lss_cons (ls_set 2 nd (le_int).x)
      (lss_cons (ls_for po rfl (li_of (le_var 1)) (lg_name 3 nd) (lss_one (ls_set 2 nd (le_div (le_mul (le_var 2).O (le_ix (le_var 3).O (le_int).O).O).O (le_call (ok_divisor T) tk (hr.mono (by decide)) (by rfl) T.d_divisor.g T.d_divisor.F.kp (b_divisor T) (la_cons (le_var 2) (la_cons (le_ix (le_var 3).O (le_int).O) la_nil))).O).x)))
      (lss_one (ls_ret (le_call (ok_part T) tk (hr.mono (by decide)) (by rfl) T.d_part.g T.d_part.F.kp (b_part T) (la_cons (le_var 2) (la_cons (le_call (ok_common_below T) tk (hr.mono (by decide)) (by rfl) T.d_common_below.g T.d_common_below.F.kp (b_common_below T) (la_cons (le_var 1) (la_cons (le_var 2) la_nil))) la_nil)))))))))

theorem sc_all_meet : FnScope N_all_meet p_all_meet (defScope s_all_meet) := ⟨rfl, rfl, rfl, by decide +kernel, rfl, by decide +kernel, by decide +kernel⟩
theorem b_all_meet (T : Txt P K mg) : Binds K T.d_all_meet.fd p_all_meet [] := T.d_all_meet.F.binds fun _ _ _ _ _ _ us hl => match us, hl with | [_, _, _], _ => rfl
theorem ok_all_meet (T : Txt P K mg) : FnOk P w K mg base (L2.CX P w) 6 T.d_all_meet.f T.d_all_meet.fd p_all_meet (liftS K (XR0 K mg) sp_all_meet) := by
  refine fn_ok (is := m_all_meet) T.d_all_meet.F sc_all_meet (fun _ _ _ h => h.1) (fun cdv A outer s H E W hr hu tk po => ?_) fun _ _ _ h => h.2
  have nd := sc_all_meet.nd
  exact (lss_cons (ls_if (lt_cmp c_lt (le_len (by rfl) T.b_len (le_var 0).O).O (le_int).O) (lss_one (ls_raise rfl tk T.mis.Z (ok_mis T.mis) (hr.mono (by decide)) (hb_mis T.mis) T.mis.x1 (by rfl) (la_cons le_str la_nil))) lss_nil)
      (lss_cons (ls_set 3 nd (le_call (ok_meetings T) tk (hr.mono (by decide)) (by rfl) T.d_meetings.g T.d_meetings.F.kp (b_meetings T) (la_cons (le_ix (le_var 0).O (le_int).O) (la_cons (le_ix (le_var 0).O (le_int).O) (la_cons (le_var 1) (la_cons (le_var 2) la_nil))))).x)
      (lss_one (ls_ret ((ln_comp (ts := [4]) (own := [("time", 4)]) rfl nd (lio_of (le_var 3).O) (blkOk_by (own := [("time", 4)]) (by show blkC N_all_meet (defScope s_all_meet) _ _ = true; decide +kernel)) rfl (fun _ _ _ _ _ => (lg_name 4 nd)) (fun _ _ _ _ _ => (lts_one (lt_cmp (c_eq hu) (le_lenSetT rfl (hu64 hu) (by rfl) T.b_len (by rfl) T.b_set ((ln_comp (ts := [5]) (own := [("hand", 5)]) rfl nd (lio_of (le_var 0).O) (blkOk_by (own := [("hand", 5)]) (by show blkC N_all_meet (relS _ (defScope s_all_meet)) _ _ = true; decide +kernel)) rfl (fun _ _ _ _ _ => (lg_name 5 nd)) (fun _ _ _ _ _ => lts_nil) (fun _ _ _ _ _ => (le_call (ok_stands T) takes0 (hr.mono (by decide)) (by rfl) T.d_stands.g T.d_stands.F.kp (b_stands T) (la_cons (le_var 5) (la_cons (le_var 4) la_nil)))))).E.O).O (le_int).O))) (fun _ _ _ _ _ => (le_var 4)))).E))))

theorem sc_told_time : FnScope N_told_time p_told_time (defScope s_told_time) := ⟨rfl, rfl, rfl, by decide +kernel, rfl, by decide +kernel, by decide +kernel⟩
theorem b_told_time (T : Txt P K mg) : Binds K T.d_told_time.fd p_told_time [] := T.d_told_time.F.binds fun _ _ _ _ _ _ us hl => match us, hl with | [_, _, _, _], _ => rfl
theorem ok_told_time (T : Txt P K mg) : FnOk P w K mg base (L2.CX P w) 6 T.d_told_time.f T.d_told_time.fd p_told_time (liftS K (XR0 K mg) sp_told_time) := by
  refine fn_ok (is := m_told_time) T.d_told_time.F sc_told_time (fun _ _ _ h => h.1) (fun cdv A outer s H E W hr hu tk po => ?_) fun _ _ _ h => h.2
  have nd := sc_told_time.nd
  exact (lss_cons (ls_setLcE 4 (ts := [7]) (own := [("k", 7)]) rfl nd (li_r1 (by rfl) T.b_range (la_cons (le_len (by rfl) T.b_len (le_var 0).O) la_nil)).O (blkOk_by (own := [("k", 7)]) (by show blkC N_told_time (defScope s_told_time) _ _ = true; decide +kernel)) rfl (fun _ _ _ _ _ => (lg_name 7 nd)) (fun _ _ _ _ _ => (lts_one (lt_cmp (c_ne hu) (le_ix (le_ix (le_ix (le_var 0).O (le_var 7).O).O (le_int).O).O (le_int).O).O (le_int).O))) (fun _ _ _ _ _ => (le_var 7)))
      (lss_cons (ls_if (lt_cmp (c_eq hu) (le_var 4).O ((ln_lst la_nil)).E.O) (lss_one (ls_raise rfl tk T.mis.Z (ok_mis T.mis) (hr.mono (by decide)) (hb_mis T.mis) T.mis.x1 (by rfl) (la_cons le_str la_nil))) lss_nil)
      (lss_cons (ls_set 5 nd (le_ix (le_var 4).O (le_int).O).x)
      (lss_cons (ls_set 6 nd (le_call (ok_meetings T) tk (hr.mono (by decide)) (by rfl) T.d_meetings.g T.d_meetings.F.kp (b_meetings T) (la_cons (le_ix (le_var 0).O (le_var 5).O) (la_cons (le_tup (la_cons (le_ix (le_var 1).O (le_var 5).O) (la_cons (le_glob (by rfl) T.c_NOUGHT.hm T.c_NOUGHT.r T.c_NOUGHT.h) la_nil))) (la_cons (le_var 2) (la_cons (le_var 3) la_nil))))).x)
      (lss_one (ls_ret ((ln_comp (ts := [8]) (own := [("time", 8)]) rfl nd (lio_of (le_var 6).O) (blkOk_by (own := [("time", 8)]) (by show blkC N_told_time (defScope s_told_time) _ _ = true; decide +kernel)) rfl (fun _ _ _ _ _ => (lg_name 8 nd)) (fun _ _ _ _ _ => (lts_one (lt_cmp (c_eq hu) ((ln_comp (ts := [9]) (own := [("hand", 9)]) rfl nd (lio_of (le_var 0).O) (blkOk_by (own := [("hand", 9)]) (by show blkC N_told_time (relS _ (defScope s_told_time)) _ _ = true; decide +kernel)) rfl (fun _ _ _ _ _ => (lg_name 9 nd)) (fun _ _ _ _ _ => lts_nil) (fun _ _ _ _ _ => (le_call (ok_stands T) takes0 (hr.mono (by decide)) (by rfl) T.d_stands.g T.d_stands.F.kp (b_stands T) (la_cons (le_var 9) (la_cons (le_var 8) la_nil)))))).E.O ((ln_comp (ts := [10]) (own := [("one", 10)]) rfl nd (lio_of (le_var 1).O) (blkOk_by (own := [("one", 10)]) (by show blkC N_told_time (relS _ (defScope s_told_time)) _ _ = true; decide +kernel)) rfl (fun _ _ _ _ _ => (lg_name 10 nd)) (fun _ _ _ _ _ => lts_nil) (fun _ _ _ _ _ => (le_call (ok_rest T) takes0 (hr.mono (by decide)) (by rfl) T.d_rest.g T.d_rest.F.kp (b_rest T) (la_cons (le_var 10) la_nil))))).E.O))) (fun _ _ _ _ _ => (le_var 8)))).E))))))

theorem sc_swapped : FnScope N_swapped p_swapped (defScope s_swapped) := ⟨rfl, rfl, rfl, by decide +kernel, rfl, by decide +kernel, by decide +kernel⟩
theorem b_swapped (T : Txt P K mg) : Binds K T.d_swapped.fd p_swapped [] := T.d_swapped.F.binds fun _ _ _ _ _ _ us hl => match us, hl with | [_, _, _, _], _ => rfl
theorem ok_swapped (T : Txt P K mg) : FnOk P w K mg base (L2.CX P w) 6 T.d_swapped.f T.d_swapped.fd p_swapped (liftS K (XR0 K mg) sp_swapped) := by
  refine fn_ok (is := m_swapped) T.d_swapped.F sc_swapped (fun _ _ _ h => h.1) (fun cdv A outer s H E W hr hu tk po => ?_) fun _ _ _ h => h.2
  have nd := sc_swapped.nd
  exact (lss_cons (ls_if (lw_or (lt_cmp (c_ne hu) (le_var 0).O (le_tup (la_cons (le_glob (by rfl) T.c_NOUGHT.hm T.c_NOUGHT.r T.c_NOUGHT.h) (la_cons (le_glob (by rfl) T.c_ONE.hm T.c_ONE.r T.c_ONE.h) la_nil))).O) (lw_or (lt_cmp (c_ne hu) (le_ix (le_var 1).O (le_int).O).O (le_glob (by rfl) T.c_NOUGHT.hm T.c_NOUGHT.r T.c_NOUGHT.h).O) (lw_or1 (lt_cmp (c_ne hu) (le_ix (le_ix (le_var 1).O (le_int).O).O (le_int).O).O (le_int).O)))).t (lss_one (ls_raise rfl tk T.mis.Z (ok_mis T.mis) (hr.mono (by decide)) (hb_mis T.mis) T.mis.x1 (by rfl) (la_cons le_str la_nil))) lss_nil)
      (lss_one (ls_ret (le_call (ok_meetings T) tk (hr.mono (by decide)) (by rfl) T.d_meetings.g T.d_meetings.F.kp (b_meetings T) (la_cons (le_tup (la_cons (le_glob (by rfl) T.c_NOUGHT.hm T.c_NOUGHT.r T.c_NOUGHT.h) (la_cons (le_call (ok_times T) tk (hr.mono (by decide)) (by rfl) T.d_times.g T.d_times.F.kp (b_times T) (la_cons (le_ix (le_var 1).O (le_int).O) (la_cons (le_ix (le_var 1).O (le_int).O) la_nil))) la_nil))) (la_cons (le_var 0) (la_cons (le_var 2) (la_cons (le_var 3) la_nil))))))))

theorem sc_speeds_of : FnScope N_speeds_of p_speeds_of (defScope s_speeds_of) := ⟨rfl, rfl, rfl, by decide +kernel, rfl, by decide +kernel, by decide +kernel⟩
theorem b_speeds_of (T : Txt P K mg) : Binds K T.d_speeds_of.fd p_speeds_of [] := T.d_speeds_of.F.binds fun _ _ _ _ _ _ us hl => match us, hl with | [_, _], _ => rfl
theorem ok_speeds_of (T : Txt P K mg) : FnOk P w K mg base (L2.CX P w) 1 T.d_speeds_of.f T.d_speeds_of.fd p_speeds_of (liftS K (XR0 K mg) sp_speeds_of) := by
  refine fn_ok (is := m_speeds_of) T.d_speeds_of.F sc_speeds_of (fun _ _ _ h => h.1) (fun cdv A outer s H E W hr hu tk po => ?_) fun _ _ _ h => h.2
  have nd := sc_speeds_of.nd
  exact (lss_one (ls_ret ((ln_comp (ts := [2]) (own := [("name", 2)]) rfl nd (lio_of (le_var 0).O) (blkOk_by (own := [("name", 2)]) (by show blkC N_speeds_of (defScope s_speeds_of) _ _ = true; decide +kernel)) rfl (fun _ _ _ _ _ => (lg_name 2 nd)) (fun _ _ _ _ _ => lts_nil) (fun _ _ _ _ _ => (le_tup (la_cons (le_glob (by rfl) T.c_NOUGHT.hm T.c_NOUGHT.r T.c_NOUGHT.h) (la_cons (le_dix (hu1 hu) (le_var 1).O (le_var 2).O) la_nil)))))).E))

theorem sc_later : FnScope N_later p_later (defScope s_later) := ⟨rfl, rfl, rfl, by decide +kernel, rfl, by decide +kernel, by decide +kernel⟩
theorem b_later (T : Txt P K mg) : Binds K T.d_later.fd p_later [] := T.d_later.F.binds fun _ _ _ _ _ _ us hl => match us, hl with | [_, _], _ => rfl
theorem ok_later (T : Txt P K mg) : FnOk P w K mg base (L2.CX P w) 6 T.d_later.f T.d_later.fd p_later (liftS K (XR0 K mg) sp_later) := by
  refine fn_ok (is := m_later) T.d_later.F sc_later (fun _ _ _ h => h.1) (fun cdv A outer s H E W hr hu tk po => ?_) fun _ _ _ h => h.2
  have nd := sc_later.nd
  exact (lss_one (ls_ret (le_tup (la_cons (le_call (ok_stands T) tk (hr.mono (by decide)) (by rfl) T.d_stands.g T.d_stands.F.kp (b_stands T) (la_cons (le_var 0) (la_cons (le_var 1) la_nil))) (la_cons (le_ix (le_var 0).O (le_int).O) la_nil)))))

theorem sc_between : FnScope N_between p_between (defScope s_between) := ⟨rfl, rfl, rfl, by decide +kernel, rfl, by decide +kernel, by decide +kernel⟩
theorem b_between (T : Txt P K mg) : Binds K T.d_between.fd p_between [] := T.d_between.F.binds fun _ _ _ _ _ _ us hl => match us, hl with | [_, _, _], _ => rfl
theorem ok_between (T : Txt P K mg) : FnOk P w K mg base (L2.CX P w) 4 T.d_between.f T.d_between.fd p_between (liftS K (XR0 K mg) sp_between) := by
  refine fn_ok (is := m_between) T.d_between.F sc_between (fun _ _ _ h => h.1) (fun cdv A outer s H E W hr hu tk po => ?_) fun _ _ _ h => h.2
  have nd := sc_between.nd
  exact (lss_one (ls_ret (le_call (ok_whole_below T) tk (hr.mono (by decide)) (by rfl) T.d_whole_below.g T.d_whole_below.F.kp (b_whole_below T) (la_cons (le_call (ok_times T) tk (hr.mono (by decide)) (by rfl) T.d_times.g T.d_times.F.kp (b_times T) (la_cons (le_ix (le_var 0).O (le_int).O) (la_cons (le_call (ok_minus T) tk (hr.mono (by decide)) (by rfl) T.d_minus.g T.d_minus.F.kp (b_minus T) (la_cons (le_var 2) (la_cons (le_var 1) la_nil))) la_nil))) la_nil))))

theorem sc_are_wheels : FnScope N_are_wheels p_are_wheels (defScope s_are_wheels) := ⟨rfl, rfl, rfl, by decide +kernel, rfl, by decide +kernel, by decide +kernel⟩
theorem b_are_wheels (T : Txt P K mg) : Binds K T.d_are_wheels.fd p_are_wheels [] := T.d_are_wheels.F.binds fun _ _ _ _ _ _ us hl => match us, hl with | [_], _ => rfl
theorem ok_are_wheels (T : Txt P K mg) : FnOk P w K mg base (L2.CX P w) 1 T.d_are_wheels.f T.d_are_wheels.fd p_are_wheels (liftS K (XR0 K mg) sp_are_wheels) := by
  refine fn_ok (is := m_are_wheels) T.d_are_wheels.F sc_are_wheels (fun _ _ _ h => h.1) (fun cdv A outer s H E W hr hu tk po => ?_) fun _ _ _ h => h.2
  have nd := sc_are_wheels.nd
  exact (lss_cons (ls_if (lt_not (lt_val (le_isi (T := "tuple") (by rfl) T.b_isinstance (by rfl) T.b_tuple (by decide +kernel) (le_var 0).O))) (lss_one (ls_ret le_bl)) lss_nil)
      (lss_cons (ls_for po rfl (li_of (le_var 0)) (lg_name 1 nd) (lss_cons (ls_if (lw_or (lt_not (lt_val (le_isi (T := "tuple") (by rfl) T.b_isinstance (by rfl) T.b_tuple (by decide +kernel) (le_var 1).O))) (lw_or1 (lt_cmp (c_ne hu) (le_len (by rfl) T.b_len (le_var 1).O).O (le_int).O))).t (lss_one (ls_ret le_bl)) lss_nil)
      (lss_cons (ls_if (lt_not (lt_val (le_all rfl (by rfl) T.b_all ((ln_comp (ts := [2]) (own := [("one", 2)]) rfl nd (lio_of (le_var 1).O) (blkOk_by (own := [("one", 2)]) (by show blkC N_are_wheels (defScope s_are_wheels) _ _ = true; decide +kernel)) rfl (fun _ _ _ _ _ => (lg_name 2 nd)) (fun _ _ _ _ _ => lts_nil) (fun _ _ _ _ _ => (le_and (le_isi (T := "int") (by rfl) T.b_isinstance (by rfl) T.b_int (by decide +kernel) (le_var 2).O) (le_one (le_not (le_isi (T := "bool") (by rfl) T.b_isinstance (by rfl) T.b_bool (by decide +kernel) (le_var 2).O))))))).E.O))) (lss_one (ls_ret le_bl)) lss_nil)
      (lss_one (ls_if (lw_or (lt_cmp c_lt (le_ix (le_var 1).O (le_int).O).O (le_int).O) (lw_or1 (lt_not (lt_chain c_le c_lt (le_int).O (le_ix (le_var 1).O (le_int).O).O (le_ix (le_var 1).O (le_int).O).O)))).t (lss_one (ls_ret le_bl)) lss_nil)))))
      (lss_one (ls_ret le_bl))))

theorem sc_period : FnScope N_period p_period (defScope s_period) := ⟨rfl, rfl, rfl, by decide +kernel, rfl, by decide +kernel, by decide +kernel⟩
theorem b_period (T : Txt P K mg) : Binds K T.d_period.fd p_period [] := T.d_period.F.binds fun _ _ _ _ _ _ us hl => match us, hl with | [_], _ => rfl
theorem ok_period (T : Txt P K mg) : FnOk P w K mg base (L2.CX P w) 2 T.d_period.f T.d_period.fd p_period (liftS K (XR0 K mg) sp_period) := by
  refine fn_ok (is := m_period) T.d_period.F sc_period (fun _ _ _ h => h.1) (fun cdv A outer s H E W hr hu tk po => ?_) fun _ _ _ h => h.2
  have nd := sc_period.nd
  exact (lss_cons (ls_set 1 nd (le_int).x)
      (lss_cons (ls_for po rfl (li_of (le_var 0)) (lg_tup (n := 2) rfl (lgs_cons (lg_name 2 nd) (lgs_cons (lg_name 3 nd) lgs_nil))) (lss_one (ls_set 1 nd (le_div (le_mul (le_var 1).O (le_var 2).O).O (le_call (ok_divisor T) tk (hr.mono (by decide)) (by rfl) T.d_divisor.g T.d_divisor.F.kp (b_divisor T) (la_cons (le_var 1) (la_cons (le_var 2) la_nil))).O).x)))
      (lss_one (ls_ret (le_var 1)))))

theorem sc_stand : FnScope N_stand p_stand (defScope s_stand) := ⟨rfl, rfl, rfl, by decide +kernel, rfl, by decide +kernel, by decide +kernel⟩
theorem b_stand (T : Txt P K mg) : Binds K T.d_stand.fd p_stand [] := T.d_stand.F.binds fun _ _ _ _ _ _ us hl => match us, hl with | [_, _], _ => rfl
theorem ok_stand (T : Txt P K mg) : FnOk P w K mg base (L2.CX P w) 1 T.d_stand.f T.d_stand.fd p_stand (liftS K (XR0 K mg) sp_stand) := by
  refine fn_ok (is := m_stand) T.d_stand.F sc_stand (fun _ _ _ h => h.1) (fun cdv A outer s H E W hr hu tk po => ?_) fun _ _ _ h => h.2
  have nd := sc_stand.nd
  exact (lss_one (ls_ret (le_tupC (by rfl) T.b_tuple ((ln_comp (ts := [2, 3]) (own := [("length", 2), ("mark", 3)]) rfl nd (lio_of (le_var 0).O) (blkOk_by (own := [("length", 2), ("mark", 3)]) (by show blkC N_stand (defScope s_stand) _ _ = true; decide +kernel)) rfl (fun _ _ _ _ _ => (lg_tup (n := 2) rfl (lgs_cons (lg_name 2 nd) (lgs_cons (lg_name 3 nd) lgs_nil)))) (fun _ _ _ _ _ => lts_nil) (fun _ _ _ _ _ => (le_sub (le_addD (le_var 3).O (le_var 1).O).O (le_mul (le_div (le_addD (le_var 3).O (le_var 1).O).O (le_var 2).O).O (le_var 2).O).O)))).E.O)))

theorem sc_inverse : FnScope N_inverse p_inverse (defScope s_inverse) := ⟨rfl, rfl, rfl, by decide +kernel, rfl, by decide +kernel, by decide +kernel⟩
theorem b_inverse (T : Txt P K mg) : Binds K T.d_inverse.fd p_inverse [] := T.d_inverse.F.binds fun _ _ _ _ _ _ us hl => match us, hl with | [_, _], _ => rfl
theorem ok_inverse (T : Txt P K mg) : FnOk P w K mg base (L2.CX P w) 1 T.d_inverse.f T.d_inverse.fd p_inverse (liftS K (XR0 K mg) sp_inverse) := by
  refine fn_ok (is := m_inverse) T.d_inverse.F sc_inverse (fun _ _ _ h => h.1) (fun cdv A outer s H E W hr hu tk po => ?_) fun _ _ _ h => h.2
  have nd := sc_inverse.nd
  exact (lss_cons (ls_many rfl (lxa_cons (le_sub (le_var 0).O (le_mul (le_div (le_var 0).O (le_var 1).O).O (le_var 1).O).O).x (lxa_cons (le_var 1).x (lxa_cons (le_int).x (lxa_cons (le_int).x lxa_nil)))) (lnm_cons 2 nd (lnm_cons 3 nd (lnm_cons 4 nd (lnm_cons 5 nd lnm_nil)))))
      (lss_cons (ls_while po (lt_cmp (c_ne hu) (le_var 3).O (le_int).O) (lss_cons (ls_set 6 nd (le_div (le_var 2).O (le_var 3).O).x)
      (lss_cons (ls_par 2 3 rfl nd (by decide) (le_var 3).x (le_sub (le_var 2).O (le_mul (le_var 6).O (le_var 3).O).O).x)
      (lss_one (ls_par 4 5 rfl nd (by decide) (le_var 5).x (le_sub (le_var 4).O (le_mul (le_var 6).O (le_var 5).O).O).x)))))
      (lss_one (ls_ret (le_sub (le_var 4).O (le_mul (le_div (le_var 4).O (le_var 1).O).O (le_var 1).O).O)))))

theorem sc_joined : FnScope N_joined p_joined (defScope s_joined) := ⟨rfl, rfl, rfl, by decide +kernel, rfl, by decide +kernel, by decide +kernel⟩
theorem b_joined (T : Txt P K mg) : Binds K T.d_joined.fd p_joined [] := T.d_joined.F.binds fun _ _ _ _ _ _ us hl => match us, hl with | [_, _], _ => rfl
theorem ok_joined (T : Txt P K mg) : FnOk P w K mg base (L2.CX P w) 2 T.d_joined.f T.d_joined.fd p_joined (liftS K (XR0 K mg) sp_joined) := by
  refine fn_ok (is := m_joined) T.d_joined.F sc_joined (fun _ _ _ h => h.1) (fun cdv A outer s H E W hr hu tk po => ?_) fun _ _ _ h => h.2
  have nd := sc_joined.nd
  exact (lss_cons (ls_set 2 nd (le_call (ok_divisor T) tk (hr.mono (by decide)) (by rfl) T.d_divisor.g T.d_divisor.F.kp (b_divisor T) (la_cons (le_ix (le_var 0).O (le_int).O) (la_cons (le_ix (le_var 1).O (le_int).O) la_nil))).x)
      (lss_cons (ls_if (lt_cmp (c_ne hu) (le_sub (le_sub (le_ix (le_var 1).O (le_int).O).O (le_ix (le_var 0).O (le_int).O).O).O (le_mul (le_div (le_sub (le_ix (le_var 1).O (le_int).O).O (le_ix (le_var 0).O (le_int).O).O).O (le_var 2).O).O (le_var 2).O).O).O (le_int).O) (lss_one (ls_ret le_non)) lss_nil)
      (lss_cons (ls_set 3 nd (le_mul (le_div (le_ix (le_var 0).O (le_int).O).O (le_var 2).O).O (le_ix (le_var 1).O (le_int).O).O).x)
      (lss_cons (ls_set 4 nd (le_div (le_ix (le_var 1).O (le_int).O).O (le_var 2).O).x)
      (lss_cons (ls_set 5 nd (le_mul (le_div (le_sub (le_ix (le_var 1).O (le_int).O).O (le_ix (le_var 0).O (le_int).O).O).O (le_var 2).O).O (le_call (ok_inverse T) tk (hr.mono (by decide)) (by rfl) T.d_inverse.g T.d_inverse.F.kp (b_inverse T) (la_cons (le_div (le_ix (le_var 0).O (le_int).O).O (le_var 2).O) (la_cons (le_var 4) la_nil))).O).x)
      (lss_cons (ls_set 6 nd (le_add (le_ix (le_var 0).O (le_int).O).O (le_mul (le_ix (le_var 0).O (le_int).O).O (le_sub (le_var 5).O (le_mul (le_div (le_var 5).O (le_var 4).O).O (le_var 4).O).O).O).O).x)
      (lss_one (ls_ret (le_tup (la_cons (le_var 3) (la_cons (le_sub (le_var 6).O (le_mul (le_div (le_var 6).O (le_var 3).O).O (le_var 3).O).O) la_nil)))))))))))

theorem sc_check_goal : FnScope N_check_goal p_check_goal (defScope s_check_goal) := ⟨rfl, rfl, rfl, by decide +kernel, rfl, by decide +kernel, by decide +kernel⟩
theorem b_check_goal (T : Txt P K mg) : Binds K T.d_check_goal.fd p_check_goal [] := T.d_check_goal.F.binds fun _ _ _ _ _ _ us hl => match us, hl with | [_, _], _ => rfl
theorem ok_check_goal (T : Txt P K mg) : FnOk P w K mg base (L2.CX P w) 5 T.d_check_goal.f T.d_check_goal.fd p_check_goal (liftS K (XR0 K mg) sp_check_goal) := by
  refine fn_ok (is := m_check_goal) T.d_check_goal.F sc_check_goal (fun _ _ _ h => h.1) (fun cdv A outer s H E W hr hu tk po => ?_) fun _ _ _ h => h.2
  have nd := sc_check_goal.nd
  exact (lss_one (ls_if (lw_or (lt_cmp (c_ne hu) (le_len (by rfl) T.b_len (le_var 1).O).O (le_len (by rfl) T.b_len (le_var 0).O).O) (lw_or1 (lt_val (le_any rfl (by rfl) T.b_any ((ln_comp (ts := [2]) (own := [("k", 2)]) rfl nd (li_r1 (by rfl) T.b_range (la_cons (le_len (by rfl) T.b_len (le_var 0).O) la_nil)).O (blkOk_by (own := [("k", 2)]) (by show blkC N_check_goal (defScope s_check_goal) _ _ = true; decide +kernel)) rfl (fun _ _ _ _ _ => (lg_name 2 nd)) (fun _ _ _ _ _ => lts_nil) (fun _ _ _ _ _ => (le_not (le_chain c_le c_lt (le_int).O (le_ix (le_var 1).O (le_var 2).O).O (le_ix (le_ix (le_var 0).O (le_var 2).O).O (le_int).O).O))))).E.O)))).t (lss_one (ls_raise rfl tk T.mis.Z (ok_mis T.mis) (hr.mono (by decide)) (hb_mis T.mis) T.mis.x1 (by rfl) (la_cons le_str la_nil))) lss_nil))

theorem sc_first_day : FnScope N_first_day p_first_day (defScope s_first_day) := ⟨rfl, rfl, rfl, by decide +kernel, rfl, by decide +kernel, by decide +kernel⟩
theorem b_first_day (T : Txt P K mg) : Binds K T.d_first_day.fd p_first_day [] := T.d_first_day.F.binds fun _ _ _ _ _ _ us hl => match us, hl with | [_, _], _ => rfl
theorem ok_first_day (T : Txt P K mg) : FnOk P w K mg base (L2.CX P w) 6 T.d_first_day.f T.d_first_day.fd p_first_day (liftS K (XR0 K mg) sp_first_day) := by
  refine fn_ok (is := m_first_day) T.d_first_day.F sc_first_day (fun _ _ _ h => h.1) (fun cdv A outer s H E W hr hu tk po => ?_) fun _ _ _ h => h.2
  have nd := sc_first_day.nd
  exact (lss_cons (ls_expr (le_call (ok_check_goal T) tk (hr.mono (by decide)) (by rfl) T.d_check_goal.g T.d_check_goal.F.kp (b_check_goal T) (la_cons (le_var 0) (la_cons (le_var 1) la_nil))))
      (lss_cons (ls_set 2 nd (le_tup (la_cons le_int (la_cons le_int la_nil))).x)
      (lss_cons (ls_for po rfl (li_r1 (by rfl) T.b_range (la_cons (le_len (by rfl) T.b_len (le_var 0).O) la_nil)) (lg_name 3 nd) (lss_cons (ls_asg (le_ix (le_var 0).O (le_var 3).O) (ltg_tup (n := 2) rfl (ltgs_cons (ltg_name 4 nd) (ltgs_cons (ltg_name 5 nd) ltgs_nil))))
      (lss_cons (ls_set 6 nd (le_sub (le_ix (le_var 1).O (le_var 3).O).O (le_var 5).O).x)
      (lss_cons (ls_set 2 nd (le_call (ok_joined T) tk (hr.mono (by decide)) (by rfl) T.d_joined.g T.d_joined.F.kp (b_joined T) (la_cons (le_var 2) (la_cons (le_tup (la_cons (le_var 4) (la_cons (le_sub (le_var 6).O (le_mul (le_div (le_var 6).O (le_var 4).O).O (le_var 4).O).O) la_nil))) la_nil))).x)
      (lss_one (ls_if (lt_cmp c_is (le_var 2).O (le_non).O) (lss_one (ls_ret le_non)) lss_nil))))))
      (lss_one (ls_ret (le_ix (le_var 2).O (le_int).O))))))

theorem sc_why_never : FnScope N_why_never p_why_never (defScope s_why_never) := ⟨rfl, rfl, rfl, by decide +kernel, rfl, by decide +kernel, by decide +kernel⟩
theorem b_why_never (T : Txt P K mg) : Binds K T.d_why_never.fd p_why_never [] := T.d_why_never.F.binds fun _ _ _ _ _ _ us hl => match us, hl with | [_, _], _ => rfl
theorem ok_why_never (T : Txt P K mg) : FnOk P w K mg base (L2.CX P w) 6 T.d_why_never.f T.d_why_never.fd p_why_never (liftS K (XR0 K mg) sp_why_never) := by
  refine fn_ok (is := m_why_never) T.d_why_never.F sc_why_never (fun _ _ _ h => h.1) (fun cdv A outer s H E W hr hu tk po => ?_) fun _ _ _ h => h.2
  have nd := sc_why_never.nd
  exact (lss_cons (ls_expr (le_call (ok_check_goal T) tk (hr.mono (by decide)) (by rfl) T.d_check_goal.g T.d_check_goal.F.kp (b_check_goal T) (la_cons (le_var 0) (la_cons (le_var 1) la_nil))))
      (lss_cons (ls_for po rfl (li_r1 (by rfl) T.b_range (la_cons (le_len (by rfl) T.b_len (le_var 0).O) la_nil)) (lg_name 2 nd) (lss_one (ls_for po rfl (li_r1 (by rfl) T.b_range (la_cons (le_var 2) la_nil)) (lg_name 3 nd) (lss_cons (ls_set 4 nd (le_call (ok_divisor T) tk (hr.mono (by decide)) (by rfl) T.d_divisor.g T.d_divisor.F.kp (b_divisor T) (la_cons (le_ix (le_ix (le_var 0).O (le_var 3).O).O (le_int).O) (la_cons (le_ix (le_ix (le_var 0).O (le_var 2).O).O (le_int).O) la_nil))).x)
      (lss_cons (ls_set 5 nd (le_sub (le_sub (le_ix (le_var 1).O (le_var 3).O).O (le_ix (le_ix (le_var 0).O (le_var 3).O).O (le_int).O).O).O (le_sub (le_ix (le_var 1).O (le_var 2).O).O (le_ix (le_ix (le_var 0).O (le_var 2).O).O (le_int).O).O).O).x)
      (lss_one (ls_if (lt_cmp (c_ne hu) (le_sub (le_var 5).O (le_mul (le_div (le_var 5).O (le_var 4).O).O (le_var 4).O).O).O (le_int).O) (lss_one (ls_ret (le_tup (la_cons (le_var 3) (la_cons (le_var 2) la_nil))))) lss_nil)))))))
      (lss_one (ls_ret le_non))))

theorem sc_days_at : FnScope N_days_at p_days_at (defScope s_days_at) := ⟨rfl, rfl, rfl, by decide +kernel, rfl, by decide +kernel, by decide +kernel⟩
theorem b_days_at (T : Txt P K mg) : Binds K T.d_days_at.fd p_days_at [] := T.d_days_at.F.binds fun _ _ _ _ _ _ us hl => match us, hl with | [_, _, _, _], _ => rfl
theorem ok_days_at (T : Txt P K mg) : FnOk P w K mg base (L2.CX P w) 7 T.d_days_at.f T.d_days_at.fd p_days_at (liftS K (XR0 K mg) sp_days_at) := by
  refine fn_ok (is := m_days_at) T.d_days_at.F sc_days_at (fun _ _ _ h => h.1) (fun cdv A outer s H E W hr hu tk po => ?_) fun _ _ _ h => h.2
  have nd := sc_days_at.nd
  exact (lss_cons (ls_if (lt_cmp c_ge (le_sub (le_var 3).O (le_var 2).O).O (le_glob (by rfl) T.c_MOST_DAYS.hm T.c_MOST_DAYS.r T.c_MOST_DAYS.h).O) (lss_one (ls_raise rfl tk T.mis.Z (ok_mis T.mis) (hr.mono (by decide)) (hb_mis T.mis) T.mis.x1 (by rfl) (la_cons le_str la_nil))) lss_nil)
      (lss_cons (ls_set 4 nd (le_call (ok_first_day T) tk (hr.mono (by decide)) (by rfl) T.d_first_day.g T.d_first_day.F.kp (b_first_day T) (la_cons (le_var 0) (la_cons (le_var 1) la_nil))).x)
      (lss_cons (ls_if (lt_cmp c_is (le_var 4).O (le_non).O) (lss_one (ls_ret ((ln_lst la_nil)).E)) lss_nil)
      (lss_cons (ls_set 5 nd (le_call (ok_period T) tk (hr.mono (by decide)) (by rfl) T.d_period.g T.d_period.F.kp (b_period T) (la_cons (le_var 0) la_nil)).x)
      (lss_cons (ls_set 6 nd (le_add (le_var 4).O (le_mul (le_sub (le_int).O (le_div (le_sub (le_var 4).O (le_var 2).O).O (le_var 5).O).O).O (le_var 5).O).O).x)
      (lss_cons (ls_set 6 nd (le_if (lt_cmp c_ge (le_var 6).O (le_var 2).O) (le_var 6) (le_add (le_var 6).O (le_var 5).O)).x)
      (lss_one (ls_ret ((ln_lrg3 rfl (by rfl) T.b_list (by rfl) T.b_range (la_cons (le_var 6) (la_cons (le_add (le_var 3).O (le_int).O) (la_cons (le_var 5) la_nil))))).E))))))))

theorem sc_leap_days : FnScope N_leap_days p_leap_days (defScope s_leap_days) := ⟨rfl, rfl, rfl, by decide +kernel, rfl, by decide +kernel, by decide +kernel⟩
theorem b_leap_days (T : Txt P K mg) : Binds K T.d_leap_days.fd p_leap_days [] := T.d_leap_days.F.binds fun _ _ _ _ _ _ us hl => match us, hl with | [_, _], _ => rfl
theorem ok_leap_days (T : Txt P K mg) : FnOk P w K mg base (L2.CX P w) 1 T.d_leap_days.f T.d_leap_days.fd p_leap_days (liftS K (XR0 K mg) sp_leap_days) := by
  refine fn_ok (is := m_leap_days) T.d_leap_days.F sc_leap_days (fun _ _ _ h => h.1) (fun cdv A outer s H E W hr hu tk po => ?_) fun _ _ _ h => h.2
  have nd := sc_leap_days.nd
  exact (lss_cons (ls_many rfl (lxa_cons (le_int).x (lxa_cons (le_int).x lxa_nil)) (lnm_cons 2 nd (lnm_cons 3 nd lnm_nil)))
      (lss_cons (ls_for po rfl (li_of (le_var 0)) (lg_name 4 nd) (lss_cons (ls_aug 2 nd ip_add (le_mul (le_var 3).O (le_div (le_var 1).O (le_var 4).O).O))
      (lss_one (ls_set 3 nd (le_sub (le_int).O (le_var 3).O).x))))
      (lss_one (ls_ret (le_var 2)))))

theorem sc_is_leap : FnScope N_is_leap p_is_leap (defScope s_is_leap) := ⟨rfl, rfl, rfl, by decide +kernel, rfl, by decide +kernel, by decide +kernel⟩
theorem b_is_leap (T : Txt P K mg) : Binds K T.d_is_leap.fd p_is_leap [] := T.d_is_leap.F.binds fun _ _ _ _ _ _ us hl => match us, hl with | [_, _], _ => rfl
theorem ok_is_leap (T : Txt P K mg) : FnOk P w K mg base (L2.CX P w) 2 T.d_is_leap.f T.d_is_leap.fd p_is_leap (liftS K (XR0 K mg) sp_is_leap) := by
  refine fn_ok (is := m_is_leap) T.d_is_leap.F sc_is_leap (fun _ _ _ h => h.1) (fun cdv A outer s H E W hr hu tk po => ?_) fun _ _ _ h => h.2
  have nd := sc_is_leap.nd
  exact (lss_one (ls_ret (le_cmp (c_eq hu) (le_sub (le_call (ok_leap_days T) tk (hr.mono (by decide)) (by rfl) T.d_leap_days.g T.d_leap_days.F.kp (b_leap_days T) (la_cons (le_var 0) (la_cons (le_var 1) la_nil))).O (le_call (ok_leap_days T) tk (hr.mono (by decide)) (by rfl) T.d_leap_days.g T.d_leap_days.F.kp (b_leap_days T) (la_cons (le_var 0) (la_cons (le_sub (le_var 1).O (le_int).O) la_nil))).O).O (le_int).O)))

theorem sc_is_rule : FnScope N_is_rule p_is_rule (defScope s_is_rule) := ⟨rfl, rfl, rfl, by decide +kernel, rfl, by decide +kernel, by decide +kernel⟩
theorem b_is_rule (T : Txt P K mg) : Binds K T.d_is_rule.fd p_is_rule [] := T.d_is_rule.F.binds fun _ _ _ _ _ _ us hl => match us, hl with | [_], _ => rfl
theorem ok_is_rule (T : Txt P K mg) : FnOk P w K mg base (L2.CX P w) 1 T.d_is_rule.f T.d_is_rule.fd p_is_rule (liftS K (XR0 K mg) sp_is_rule) := by
  refine fn_ok (is := m_is_rule) T.d_is_rule.F sc_is_rule (fun _ _ _ h => h.1) (fun cdv A outer s H E W hr hu tk po => ?_) fun _ _ _ h => h.2
  have nd := sc_is_rule.nd
  exact (lss_cons (ls_if (lt_not (lt_val (le_isi (T := "tuple") (by rfl) T.b_isinstance (by rfl) T.b_tuple (by decide +kernel) (le_var 0).O))) (lss_one (ls_ret le_bl)) lss_nil)
      (lss_cons (ls_if (lt_not (lt_val (le_all rfl (by rfl) T.b_all ((ln_comp (ts := [1]) (own := [("k", 1)]) rfl nd (lio_of (le_var 0).O) (blkOk_by (own := [("k", 1)]) (by show blkC N_is_rule (defScope s_is_rule) _ _ = true; decide +kernel)) rfl (fun _ _ _ _ _ => (lg_name 1 nd)) (fun _ _ _ _ _ => lts_nil) (fun _ _ _ _ _ => (le_and (le_isi (T := "int") (by rfl) T.b_isinstance (by rfl) T.b_int (by decide +kernel) (le_var 1).O) (le_and (le_not (le_isi (T := "bool") (by rfl) T.b_isinstance (by rfl) T.b_bool (by decide +kernel) (le_var 1).O)) (le_one (le_cmp c_gt (le_var 1).O (le_int).O))))))).E.O))) (lss_one (ls_ret le_bl)) lss_nil)
      (lss_cons (ls_for po rfl (li_r1 (by rfl) T.b_range (la_cons (le_sub (le_len (by rfl) T.b_len (le_var 0).O).O (le_int).O) la_nil)) (lg_name 1 nd) (lss_one (ls_if (lw_or (lt_cmp c_le (le_ix (le_var 0).O (le_add (le_var 1).O (le_int).O).O).O (le_ix (le_var 0).O (le_var 1).O).O) (lw_or1 (lt_cmp (c_ne hu) (le_sub (le_ix (le_var 0).O (le_add (le_var 1).O (le_int).O).O).O (le_mul (le_div (le_ix (le_var 0).O (le_add (le_var 1).O (le_int).O).O).O (le_ix (le_var 0).O (le_var 1).O).O).O (le_ix (le_var 0).O (le_var 1).O).O).O).O (le_int).O))).t (lss_one (ls_ret le_bl)) lss_nil)))
      (lss_one (ls_ret le_bl)))))

theorem sc_days_to : FnScope N_days_to p_days_to (defScope s_days_to) := ⟨rfl, rfl, rfl, by decide +kernel, rfl, by decide +kernel, by decide +kernel⟩
theorem b_days_to (T : Txt P K mg) : Binds K T.d_days_to.fd p_days_to [] := T.d_days_to.F.binds fun _ _ _ _ _ _ us hl => match us, hl with | [_, _], _ => rfl
theorem ok_days_to (T : Txt P K mg) : FnOk P w K mg base (L2.CX P w) 5 T.d_days_to.f T.d_days_to.fd p_days_to (liftS K (XR0 K mg) sp_days_to) := by
  refine fn_ok (is := m_days_to) T.d_days_to.F sc_days_to (fun _ _ _ h => h.1) (fun cdv A outer s H E W hr hu tk po => ?_) fun _ _ _ h => h.2
  have nd := sc_days_to.nd
  exact (lss_cons (ls_if (lt_cmp c_lt (le_var 1).O (le_int).O) (lss_one (ls_raise rfl tk T.mis.Z (ok_mis T.mis) (hr.mono (by decide)) (hb_mis T.mis) T.mis.x1 (by rfl) (la_cons le_str la_nil))) lss_nil)
      (lss_one (ls_ret (le_add (le_mul (le_int).O (le_sub (le_var 1).O (le_int).O).O).O (le_call (ok_leap_days T) tk (hr.mono (by decide)) (by rfl) T.d_leap_days.g T.d_leap_days.F.kp (b_leap_days T) (la_cons (le_var 0) (la_cons (le_sub (le_var 1).O (le_int).O) la_nil))).O))))

theorem sc_year_of : FnScope N_year_of p_year_of (defScope s_year_of) := ⟨rfl, rfl, rfl, by decide +kernel, rfl, by decide +kernel, by decide +kernel⟩
theorem b_year_of (T : Txt P K mg) : Binds K T.d_year_of.fd p_year_of [] := T.d_year_of.F.binds fun _ _ _ _ _ _ us hl => match us, hl with | [_, _], _ => rfl
theorem ok_year_of (T : Txt P K mg) : FnOk P w K mg base (L2.CX P w) 6 T.d_year_of.f T.d_year_of.fd p_year_of (liftS K (XR0 K mg) sp_year_of) := by
  refine fn_ok (is := m_year_of) T.d_year_of.F sc_year_of (fun _ _ _ h => h.1) (fun cdv A outer s H E W hr hu tk po => ?_) fun _ _ _ h => h.2
  have nd := sc_year_of.nd
  exact (lss_cons (ls_if (lt_cmp c_lt (le_var 1).O (le_int).O) (lss_one (ls_raise rfl tk T.mis.Z (ok_mis T.mis) (hr.mono (by decide)) (hb_mis T.mis) T.mis.x1 (by rfl) (la_cons le_str la_nil))) lss_nil)
      (lss_cons (ls_set 2 nd (le_add (le_div (le_var 1).O (le_int).O).O (le_int).O).x)
      (lss_cons (ls_while po (lt_cmp c_le (le_call (ok_days_to T) tk (hr.mono (by decide)) (by rfl) T.d_days_to.g T.d_days_to.F.kp (b_days_to T) (la_cons (le_var 0) (la_cons (le_add (le_var 2).O (le_int).O) la_nil))).O (le_var 1).O) (lss_one (ls_aug 2 nd ip_add le_int)))
      (lss_one (ls_ret (le_tup (la_cons (le_var 2) (la_cons (le_sub (le_var 1).O (le_call (ok_days_to T) tk (hr.mono (by decide)) (by rfl) T.d_days_to.g T.d_days_to.F.kp (b_days_to T) (la_cons (le_var 0) (la_cons (le_var 2) la_nil))).O) la_nil))))))))

theorem sc_mean_year : FnScope N_mean_year p_mean_year (defScope s_mean_year) := ⟨rfl, rfl, rfl, by decide +kernel, rfl, by decide +kernel, by decide +kernel⟩
theorem b_mean_year (T : Txt P K mg) : Binds K T.d_mean_year.fd p_mean_year [] := T.d_mean_year.F.binds fun _ _ _ _ _ _ us hl => match us, hl with | [_], _ => rfl
theorem ok_mean_year (T : Txt P K mg) : FnOk P w K mg base (L2.CX P w) 2 T.d_mean_year.f T.d_mean_year.fd p_mean_year (liftS K (XR0 K mg) sp_mean_year) := by
  refine fn_ok (is := m_mean_year) T.d_mean_year.F sc_mean_year (fun _ _ _ h => h.1) (fun cdv A outer s H E W hr hu tk po => ?_) fun _ _ _ h => h.2
  have nd := sc_mean_year.nd
  exact (lss_cons (ls_set 1 nd (le_if (lt_cmp c_gt (le_len (by rfl) T.b_len (le_var 0).O).O (le_int).O) (le_ix (le_var 0).O (le_neg (le_int).O).O) le_int).x)
      (lss_cons (ls_set 2 nd (le_add (le_mul (le_int).O (le_var 1).O).O (le_call (ok_leap_days T) tk (hr.mono (by decide)) (by rfl) T.d_leap_days.g T.d_leap_days.F.kp (b_leap_days T) (la_cons (le_var 0) (la_cons (le_var 1) la_nil))).O).x)
      (lss_cons (ls_set 3 nd (le_call (ok_divisor T) tk (hr.mono (by decide)) (by rfl) T.d_divisor.g T.d_divisor.F.kp (b_divisor T) (la_cons (le_var 2) (la_cons (le_var 1) la_nil))).x)
      (lss_one (ls_ret (le_tup (la_cons (le_div (le_var 2).O (le_var 3).O) (la_cons (le_div (le_var 1).O (le_var 3).O) la_nil))))))))

theorem sc__law_fr : FnScope N__law_fr p__law_fr (defScope s__law_fr) := ⟨rfl, rfl, rfl, by decide +kernel, rfl, by decide +kernel, by decide +kernel⟩
theorem b__law_fr (T : Txt P K mg) : Binds K T.d__law_fr.fd p__law_fr [] := T.d__law_fr.F.binds fun _ _ _ _ _ _ us hl => match us, hl with | [_, _], _ => rfl
theorem ok__law_fr (T : Txt P K mg) : FnOk P w K mg base (L2.CX P w) 1 T.d__law_fr.f T.d__law_fr.fd p__law_fr (liftS K (XR0 K mg) sp__law_fr) := by
  refine fn_ok (is := m__law_fr) T.d__law_fr.F sc__law_fr (fun _ _ _ h => h.1) (fun cdv A outer s H E W hr hu tk po => ?_) fun _ _ _ h => h.2
  have nd := sc__law_fr.nd
  exact (lss_cons (ls_if (lt_cmp c_lt (le_var 1).O (le_int).O) (lss_one (ls_par 0 1 rfl nd (by decide) (le_sub (le_int).O (le_var 0).O).x (le_sub (le_int).O (le_var 1).O).x)) lss_nil)
      (lss_cons (ls_par 2 3 rfl nd (by decide) (le_abs (by rfl) T.b_abs (le_var 0).O).x (le_var 1).x)
      (lss_cons (ls_for po rfl (li_r1 (by rfl) T.b_range (la_cons le_int la_nil)) (lg_name 4 nd) (lss_cons (ls_if (lt_cmp (c_eq hu) (le_var 3).O (le_int).O) (lss_one ls_break) lss_nil)
      (lss_one (ls_par 2 3 rfl nd (by decide) (le_var 3).x (le_mod (le_intC (by rfl) T.b_int (le_var 2).O).O (le_var 3).O).x))))
      (lss_one (ls_ret (le_tup (la_cons (le_div (le_var 0).O (le_var 2).O) (la_cons (le_div (le_var 1).O (le_var 2).O) la_nil))))))))

theorem sc__law_add : FnScope N__law_add p__law_add (defScope s__law_add) := ⟨rfl, rfl, rfl, by decide +kernel, rfl, by decide +kernel, by decide +kernel⟩
theorem b__law_add (T : Txt P K mg) : Binds K T.d__law_add.fd p__law_add [] := T.d__law_add.F.binds fun _ _ _ _ _ _ us hl => match us, hl with | [_, _], _ => rfl
theorem ok__law_add (T : Txt P K mg) : FnOk P w K mg base (L2.CX P w) 2 T.d__law_add.f T.d__law_add.fd p__law_add (liftS K (XR0 K mg) sp__law_add) := by
  refine fn_ok (is := m__law_add) T.d__law_add.F sc__law_add (fun _ _ _ h => h.1) (fun cdv A outer s H E W hr hu tk po => ?_) fun _ _ _ h => h.2
  have nd := sc__law_add.nd
  exact (lss_one (ls_ret (le_call (ok__law_fr T) tk (hr.mono (by decide)) (by rfl) T.d__law_fr.g T.d__law_fr.F.kp (b__law_fr T) (la_cons (le_add (le_mul (le_ix (le_var 0).O (le_int).O).O (le_ix (le_var 1).O (le_int).O).O).O (le_mul (le_ix (le_var 1).O (le_int).O).O (le_ix (le_var 0).O (le_int).O).O).O) (la_cons (le_mul (le_ix (le_var 0).O (le_int).O).O (le_ix (le_var 1).O (le_int).O).O) la_nil)))))

theorem sc__law_mul : FnScope N__law_mul p__law_mul (defScope s__law_mul) := ⟨rfl, rfl, rfl, by decide +kernel, rfl, by decide +kernel, by decide +kernel⟩
theorem b__law_mul (T : Txt P K mg) : Binds K T.d__law_mul.fd p__law_mul [] := T.d__law_mul.F.binds fun _ _ _ _ _ _ us hl => match us, hl with | [_, _], _ => rfl
theorem ok__law_mul (T : Txt P K mg) : FnOk P w K mg base (L2.CX P w) 2 T.d__law_mul.f T.d__law_mul.fd p__law_mul (liftS K (XR0 K mg) sp__law_mul) := by
  refine fn_ok (is := m__law_mul) T.d__law_mul.F sc__law_mul (fun _ _ _ h => h.1) (fun cdv A outer s H E W hr hu tk po => ?_) fun _ _ _ h => h.2
  have nd := sc__law_mul.nd
  exact (lss_one (ls_ret (le_call (ok__law_fr T) tk (hr.mono (by decide)) (by rfl) T.d__law_fr.g T.d__law_fr.F.kp (b__law_fr T) (la_cons (le_mul (le_ix (le_var 0).O (le_int).O).O (le_ix (le_var 1).O (le_int).O).O) (la_cons (le_mul (le_ix (le_var 0).O (le_int).O).O (le_ix (le_var 1).O (le_int).O).O) la_nil)))))

theorem sc__law_sub : FnScope N__law_sub p__law_sub (defScope s__law_sub) := ⟨rfl, rfl, rfl, by decide +kernel, rfl, by decide +kernel, by decide +kernel⟩
theorem b__law_sub (T : Txt P K mg) : Binds K T.d__law_sub.fd p__law_sub [] := T.d__law_sub.F.binds fun _ _ _ _ _ _ us hl => match us, hl with | [_, _], _ => rfl
theorem ok__law_sub (T : Txt P K mg) : FnOk P w K mg base (L2.CX P w) 3 T.d__law_sub.f T.d__law_sub.fd p__law_sub (liftS K (XR0 K mg) sp__law_sub) := by
  refine fn_ok (is := m__law_sub) T.d__law_sub.F sc__law_sub (fun _ _ _ h => h.1) (fun cdv A outer s H E W hr hu tk po => ?_) fun _ _ _ h => h.2
  have nd := sc__law_sub.nd
  exact (lss_one (ls_ret (le_call (ok__law_add T) tk (hr.mono (by decide)) (by rfl) T.d__law_add.g T.d__law_add.F.kp (b__law_add T) (la_cons (le_var 0) (la_cons (le_tup (la_cons (le_sub (le_int).O (le_ix (le_var 1).O (le_int).O).O) (la_cons (le_ix (le_var 1).O (le_int).O) la_nil))) la_nil)))))

theorem sc__law_less : FnScope N__law_less p__law_less (defScope s__law_less) := ⟨rfl, rfl, rfl, by decide +kernel, rfl, by decide +kernel, by decide +kernel⟩
theorem b__law_less (T : Txt P K mg) : Binds K T.d__law_less.fd p__law_less [] := T.d__law_less.F.binds fun _ _ _ _ _ _ us hl => match us, hl with | [_, _], _ => rfl
theorem ok__law_less (T : Txt P K mg) : FnOk P w K mg base (L2.CX P w) 1 T.d__law_less.f T.d__law_less.fd p__law_less (liftS K (XR0 K mg) sp__law_less) := by
  refine fn_ok (is := m__law_less) T.d__law_less.F sc__law_less (fun _ _ _ h => h.1) (fun cdv A outer s H E W hr hu tk po => ?_) fun _ _ _ h => h.2
  have nd := sc__law_less.nd
  exact (lss_one (ls_ret (le_cmp c_lt (le_mul (le_ix (le_var 0).O (le_int).O).O (le_ix (le_var 1).O (le_int).O).O).O (le_mul (le_ix (le_var 1).O (le_int).O).O (le_ix (le_var 0).O (le_int).O).O).O)))

theorem sc__law_over : FnScope N__law_over p__law_over (defScope s__law_over) := ⟨rfl, rfl, rfl, by decide +kernel, rfl, by decide +kernel, by decide +kernel⟩
theorem b__law_over (T : Txt P K mg) : Binds K T.d__law_over.fd p__law_over [] := T.d__law_over.F.binds fun _ _ _ _ _ _ us hl => match us, hl with | [_, _], _ => rfl
theorem ok__law_over (T : Txt P K mg) : FnOk P w K mg base (L2.CX P w) 2 T.d__law_over.f T.d__law_over.fd p__law_over (liftS K (XR0 K mg) sp__law_over) := by
  refine fn_ok (is := m__law_over) T.d__law_over.F sc__law_over (fun _ _ _ h => h.1) (fun cdv A outer s H E W hr hu tk po => ?_) fun _ _ _ h => h.2
  have nd := sc__law_over.nd
  exact (lss_one (ls_ret (le_call (ok__law_fr T) tk (hr.mono (by decide)) (by rfl) T.d__law_fr.g T.d__law_fr.F.kp (b__law_fr T) (la_cons (le_mul (le_ix (le_var 0).O (le_int).O).O (le_ix (le_var 1).O (le_int).O).O) (la_cons (le_mul (le_ix (le_var 0).O (le_int).O).O (le_ix (le_var 1).O (le_int).O).O) la_nil)))))

theorem sc__law_rest : FnScope N__law_rest p__law_rest (defScope s__law_rest) := ⟨rfl, rfl, rfl, by decide +kernel, rfl, by decide +kernel, by decide +kernel⟩
theorem b__law_rest (T : Txt P K mg) : Binds K T.d__law_rest.fd p__law_rest [] := T.d__law_rest.F.binds fun _ _ _ _ _ _ us hl => match us, hl with | [_], _ => rfl
theorem ok__law_rest (T : Txt P K mg) : FnOk P w K mg base (L2.CX P w) 2 T.d__law_rest.f T.d__law_rest.fd p__law_rest (liftS K (XR0 K mg) sp__law_rest) := by
  refine fn_ok (is := m__law_rest) T.d__law_rest.F sc__law_rest (fun _ _ _ h => h.1) (fun cdv A outer s H E W hr hu tk po => ?_) fun _ _ _ h => h.2
  have nd := sc__law_rest.nd
  exact (lss_one (ls_ret (le_call (ok__law_fr T) tk (hr.mono (by decide)) (by rfl) T.d__law_fr.g T.d__law_fr.F.kp (b__law_fr T) (la_cons (le_sub (le_ix (le_var 0).O (le_int).O).O (le_mul (le_div (le_ix (le_var 0).O (le_int).O).O (le_ix (le_var 0).O (le_int).O).O).O (le_ix (le_var 0).O (le_int).O).O).O) (la_cons (le_ix (le_var 0).O (le_int).O) la_nil)))))

theorem sc__law_at : FnScope N__law_at p__law_at (defScope s__law_at) := ⟨rfl, rfl, rfl, by decide +kernel, rfl, by decide +kernel, by decide +kernel⟩
theorem b__law_at (T : Txt P K mg) : Binds K T.d__law_at.fd p__law_at [] := T.d__law_at.F.binds fun _ _ _ _ _ _ us hl => match us, hl with | [_, _], _ => rfl
theorem ok__law_at (T : Txt P K mg) : FnOk P w K mg base (L2.CX P w) 3 T.d__law_at.f T.d__law_at.fd p__law_at (liftS K (XR0 K mg) sp__law_at) := by
  refine fn_ok (is := m__law_at) T.d__law_at.F sc__law_at (fun _ _ _ h => h.1) (fun cdv A outer s H E W hr hu tk po => ?_) fun _ _ _ h => h.2
  have nd := sc__law_at.nd
  exact (lss_one (ls_ret (le_call (ok__law_rest T) tk (hr.mono (by decide)) (by rfl) T.d__law_rest.g T.d__law_rest.F.kp (b__law_rest T) (la_cons (le_call (ok__law_add T) tk (hr.mono (by decide)) (by rfl) T.d__law_add.g T.d__law_add.F.kp (b__law_add T) (la_cons (le_ix (le_var 0).O (le_int).O) (la_cons (le_call (ok__law_mul T) tk (hr.mono (by decide)) (by rfl) T.d__law_mul.g T.d__law_mul.F.kp (b__law_mul T) (la_cons (le_ix (le_var 0).O (le_int).O) (la_cons (le_var 1) la_nil))) la_nil))) la_nil))))

theorem sc__law_meet : FnScope N__law_meet p__law_meet (defScope s__law_meet) := ⟨rfl, rfl, rfl, by decide +kernel, rfl, by decide +kernel, by decide +kernel⟩
theorem b__law_meet (T : Txt P K mg) : Binds K T.d__law_meet.fd p__law_meet [] := T.d__law_meet.F.binds fun _ _ _ _ _ _ us hl => match us, hl with | [_, _, _, _], _ => rfl
theorem ok__law_meet (T : Txt P K mg) : FnOk P w K mg base (L2.CX P w) 4 T.d__law_meet.f T.d__law_meet.fd p__law_meet (liftS K (XR0 K mg) sp__law_meet) := by
  refine fn_ok (is := m__law_meet) T.d__law_meet.F sc__law_meet (fun _ _ _ h => h.1) (fun cdv A outer s H E W hr hu tk po => ?_) fun _ _ _ h => h.2
  have nd := sc__law_meet.nd
  exact (lss_cons (ls_par3 4 5 6 rfl nd (by decide) (by decide) (by decide) (lxa_cons (le_call (ok__law_sub T) tk (hr.mono (by decide)) (by rfl) T.d__law_sub.g T.d__law_sub.F.kp (b__law_sub T) (la_cons (le_ix (le_var 0).O (le_int).O) (la_cons (le_ix (le_var 1).O (le_int).O) la_nil))).x (lxa_cons (le_call (ok__law_sub T) tk (hr.mono (by decide)) (by rfl) T.d__law_sub.g T.d__law_sub.F.kp (b__law_sub T) (la_cons (le_ix (le_var 1).O (le_int).O) (la_cons (le_ix (le_var 0).O (le_int).O) la_nil))).x (lxa_cons (ln_lst la_nil).x lxa_nil))))
      (lss_cons (ls_for po rfl (li_r2 (by rfl) T.b_range (la_cons (le_neg (le_int).O) (la_cons le_int la_nil))) (lg_name 7 nd) (lss_cons (ls_set 8 nd (le_call (ok__law_over T) tk (hr.mono (by decide)) (by rfl) T.d__law_over.g T.d__law_over.F.kp (b__law_over T) (la_cons (le_call (ok__law_add T) tk (hr.mono (by decide)) (by rfl) T.d__law_add.g T.d__law_add.F.kp (b__law_add T) (la_cons (le_var 5) (la_cons (le_tup (la_cons (le_var 7) (la_cons le_int la_nil))) la_nil))) (la_cons (le_var 4) la_nil))).x)
      (lss_one (ls_if (lw_and (lt_not (lt_val (le_call (ok__law_less T) tk (hr.mono (by decide)) (by rfl) T.d__law_less.g T.d__law_less.F.kp (b__law_less T) (la_cons (le_var 8) (la_cons (le_var 2) la_nil))))) (lw_and1 (lt_val (le_call (ok__law_less T) tk (hr.mono (by decide)) (by rfl) T.d__law_less.g T.d__law_less.F.kp (b__law_less T) (la_cons (le_var 8) (la_cons (le_var 3) la_nil)))))).t (lss_one (ls_app 6 (le_var 8))) lss_nil))))
      (lss_one (ls_frz 6 (ls_ret (le_if (lt_cmp c_gt (le_ix (le_var 4).O (le_int).O).O (le_int).O) (le_var 6) ((ln_rev (lo_var 6))).E))))))

theorem sc__law_hand : FnScope N__law_hand p__law_hand (defScope s__law_hand) := ⟨rfl, rfl, rfl, by decide +kernel, rfl, by decide +kernel, by decide +kernel⟩
theorem b__law_hand (T : Txt P K mg) : Binds K T.d__law_hand.fd p__law_hand [] := T.d__law_hand.F.binds fun _ _ _ _ _ _ us hl => match us, hl with | [_], _ => rfl
theorem ok__law_hand (T : Txt P K mg) : FnOk P w K mg base (L2.CX P w) 2 T.d__law_hand.f T.d__law_hand.fd p__law_hand (liftS K (XR0 K mg) sp__law_hand) := by
  refine fn_ok (is := m__law_hand) T.d__law_hand.F sc__law_hand (fun _ _ _ h => h.1) (fun cdv A outer s H E W hr hu tk po => ?_) fun _ _ _ h => h.2
  have nd := sc__law_hand.nd
  exact (lss_one (ls_ret (le_tup (la_cons (le_call (ok__law_fr T) tk (hr.mono (by decide)) (by rfl) T.d__law_fr.g T.d__law_fr.F.kp (b__law_fr T) (la_cons (le_call (ok__law_take T) tk (hr.mono (by decide)) (by rfl) T.d__law_take.g T.d__law_take.F.kp (b__law_take T) (la_cons (le_var 0) (la_cons le_int la_nil))) (la_cons le_int la_nil))) (la_cons (le_call (ok__law_fr T) tk (hr.mono (by decide)) (by rfl) T.d__law_fr.g T.d__law_fr.F.kp (b__law_fr T) (la_cons (le_sub (le_call (ok__law_take T) tk (hr.mono (by decide)) (by rfl) T.d__law_take.g T.d__law_take.F.kp (b__law_take T) (la_cons (le_var 0) (la_cons le_int la_nil))).O (le_int).O) (la_cons (le_add (le_int).O (le_call (ok__law_take T) tk (hr.mono (by decide)) (by rfl) T.d__law_take.g T.d__law_take.F.kp (b__law_take T) (la_cons (le_var 0) (la_cons le_int la_nil))).O) la_nil))) la_nil)))))

theorem sc__law_word : FnScope N__law_word p__law_word (defScope s__law_word) := ⟨rfl, rfl, rfl, by decide +kernel, rfl, by decide +kernel, by decide +kernel⟩
theorem b__law_word (T : Txt P K mg) : Binds K T.d__law_word.fd p__law_word [] := T.d__law_word.F.binds fun _ _ _ _ _ _ us hl => match us, hl with | [_], _ => rfl
theorem ok__law_word (T : Txt P K mg) : FnOk P w K mg base (L2.CX P w) 8 T.d__law_word.f T.d__law_word.fd p__law_word (liftS K (XR0 K mg) sp__law_word) := by
  refine fn_ok (is := m__law_word) T.d__law_word.F sc__law_word (fun _ _ _ h => h.1) (fun cdv A outer s H E W hr hu tk po => ?_) fun _ _ _ h => h.2
  have nd := sc__law_word.nd
  exact (lss_cons (ls_set 1 nd (le_tup (la_cons (le_tup (la_cons le_int (la_cons le_int la_nil))) (la_cons (le_tup (la_cons le_int (la_cons le_int la_nil))) la_nil))).x)
      (lss_one (ls_tryW 2 rfl rfl nd tk T.mis.Z T.mis.hm T.mis.x2 (by rfl) (fun W' pn xe tk po => (lss_cons (ls_if (lt_cmp (c_eq hu) (le_var 0).O (le_int).O) (lss_one (ls_expr (le_call (ok_meetings T) tk (hr.mono (by decide)) (by rfl) T.d_meetings.g T.d_meetings.F.kp (b_meetings T) (la_cons (le_var 1) (la_cons (le_var 1) (la_cons (le_tup (la_cons le_int (la_cons le_int la_nil))) (la_cons (le_tup (la_cons le_int (la_cons le_int la_nil))) la_nil))))))) (lss_one (ls_if (lt_cmp (c_eq hu) (le_var 0).O (le_int).O) (lss_one (ls_expr (le_call (ok_meetings T) tk (hr.mono (by decide)) (by rfl) T.d_meetings.g T.d_meetings.F.kp (b_meetings T) (la_cons (le_var 1) (la_cons (le_tup (la_cons (le_tup (la_cons le_int (la_cons le_int la_nil))) (la_cons (le_tup (la_cons le_int (la_cons le_int la_nil))) la_nil))) (la_cons (le_tup (la_cons le_int (la_cons le_int la_nil))) (la_cons (le_tup (la_cons le_int (la_cons le_int la_nil))) la_nil))))))) (lss_one (ls_if (lt_cmp (c_eq hu) (le_var 0).O (le_int).O) (lss_one (ls_expr (le_call (ok_every T) tk (hr.mono (by decide)) (by rfl) T.d_every.g T.d_every.F.kp (b_every T) (la_cons (le_var 1) (la_cons (le_var 1) la_nil))))) (lss_one (ls_if (lt_cmp (c_eq hu) (le_var 0).O (le_int).O) (lss_one (ls_expr (le_call (ok_all_meet T) tk (hr.mono (by decide)) (by rfl) T.d_all_meet.g T.d_all_meet.F.kp (b_all_meet T) (la_cons ((ln_lst (la_cons (le_var 1) la_nil))).E (la_cons (le_tup (la_cons le_int (la_cons le_int la_nil))) (la_cons (le_tup (la_cons le_int (la_cons le_int la_nil))) la_nil)))))) (lss_one (ls_if (lt_cmp (c_eq hu) (le_var 0).O (le_int).O) (lss_one (ls_expr (le_call (ok_told_time T) tk (hr.mono (by decide)) (by rfl) T.d_told_time.g T.d_told_time.F.kp (b_told_time T) (la_cons ((ln_lst (la_cons (le_tup (la_cons (le_tup (la_cons le_int (la_cons le_int la_nil))) (la_cons (le_tup (la_cons le_int (la_cons le_int la_nil))) la_nil))) la_nil))).E (la_cons ((ln_lst (la_cons (le_tup (la_cons le_int (la_cons le_int la_nil))) la_nil))).E (la_cons (le_tup (la_cons le_int (la_cons le_int la_nil))) (la_cons (le_tup (la_cons le_int (la_cons le_int la_nil))) la_nil))))))) (lss_one (ls_if (lt_cmp (c_eq hu) (le_var 0).O (le_int).O) (lss_one (ls_expr (le_call (ok_swapped T) tk (hr.mono (by decide)) (by rfl) T.d_swapped.g T.d_swapped.F.kp (b_swapped T) (la_cons (le_tup (la_cons (le_tup (la_cons le_int (la_cons le_int la_nil))) (la_cons (le_tup (la_cons le_int (la_cons le_int la_nil))) la_nil))) (la_cons (le_tup (la_cons (le_tup (la_cons le_int (la_cons le_int la_nil))) (la_cons (le_tup (la_cons le_int (la_cons le_int la_nil))) la_nil))) (la_cons (le_tup (la_cons le_int (la_cons le_int la_nil))) (la_cons (le_tup (la_cons le_int (la_cons le_int la_nil))) la_nil))))))) (lss_one (ls_if (lt_cmp (c_eq hu) (le_var 0).O (le_int).O) (lss_one (ls_expr (le_call (ok_first_day T) tk (hr.mono (by decide)) (by rfl) T.d_first_day.g T.d_first_day.F.kp (b_first_day T) (la_cons (le_tup (la_cons (le_tup (la_cons le_int (la_cons le_int la_nil))) la_nil)) (la_cons (le_tup (la_cons le_int (la_cons le_int la_nil))) la_nil))))) (lss_one (ls_if (lt_cmp (c_eq hu) (le_var 0).O (le_int).O) (lss_one (ls_expr (le_call (ok_days_at T) tk (hr.mono (by decide)) (by rfl) T.d_days_at.g T.d_days_at.F.kp (b_days_at T) (la_cons (le_tup (la_cons (le_tup (la_cons le_int (la_cons le_int la_nil))) la_nil)) (la_cons (le_tup (la_cons le_int la_nil)) (la_cons le_int (la_cons le_int la_nil))))))) (lss_one (ls_if (lt_cmp (c_eq hu) (le_var 0).O (le_int).O) (lss_one (ls_expr (le_call (ok_days_to T) tk (hr.mono (by decide)) (by rfl) T.d_days_to.g T.d_days_to.F.kp (b_days_to T) (la_cons (le_tup (la_cons le_int la_nil)) (la_cons le_int la_nil))))) (lss_one (ls_expr (le_call (ok_year_of T) tk (hr.mono (by decide)) (by rfl) T.d_year_of.g T.d_year_of.F.kp (b_year_of T) (la_cons (le_tup (la_cons le_int la_nil)) (la_cons (le_neg (le_int).O) la_nil))))))))))))))))))))))
      (lss_one (ls_ret le_str)))))))

theorem sc__law_hands_hold : FnScope N__law_hands_hold p__law_hands_hold (defScope s__law_hands_hold) := ⟨rfl, rfl, rfl, by decide +kernel, rfl, by decide +kernel, by decide +kernel⟩
theorem b__law_hands_hold (T : Txt P K mg) : Binds K T.d__law_hands_hold.fd p__law_hands_hold [] := T.d__law_hands_hold.F.binds fun _ _ _ _ _ _ us hl => match us, hl with | [_], _ => rfl
theorem ok__law_hands_hold (T : Txt P K mg) : FnOk P w K mg base (L2.CX P w) 7 T.d__law_hands_hold.f T.d__law_hands_hold.fd p__law_hands_hold (liftS K (XR0 K mg) sp__law_hands_hold) := by
  refine fn_ok (is := m__law_hands_hold) T.d__law_hands_hold.F sc__law_hands_hold (fun _ _ _ h => h.1) (fun cdv A outer s H E W hr hu tk po => ?_) fun _ _ _ h => h.2
  have nd := sc__law_hands_hold.nd
  exact (lss_cons (ls_many rfl (lxa_cons (le_call (ok__law_hand T) tk (hr.mono (by decide)) (by rfl) T.d__law_hand.g T.d__law_hand.F.kp (b__law_hand T) (la_cons (le_var 0) la_nil)).x (lxa_cons (le_call (ok__law_hand T) tk (hr.mono (by decide)) (by rfl) T.d__law_hand.g T.d__law_hand.F.kp (b__law_hand T) (la_cons (le_var 0) la_nil)).x (lxa_cons (le_call (ok__law_hand T) tk (hr.mono (by decide)) (by rfl) T.d__law_hand.g T.d__law_hand.F.kp (b__law_hand T) (la_cons (le_var 0) la_nil)).x lxa_nil))) (lnm_cons 1 nd (lnm_cons 2 nd (lnm_cons 3 nd lnm_nil))))
      (lss_cons (ls_set 4 nd (le_call (ok__law_fr T) tk (hr.mono (by decide)) (by rfl) T.d__law_fr.g T.d__law_fr.F.kp (b__law_fr T) (la_cons (le_sub (le_call (ok__law_take T) tk (hr.mono (by decide)) (by rfl) T.d__law_take.g T.d__law_take.F.kp (b__law_take T) (la_cons (le_var 0) (la_cons le_int la_nil))).O (le_int).O) (la_cons (le_add (le_int).O (le_call (ok__law_take T) tk (hr.mono (by decide)) (by rfl) T.d__law_take.g T.d__law_take.F.kp (b__law_take T) (la_cons (le_var 0) (la_cons le_int la_nil))).O) la_nil))).x)
      (lss_cons (ls_set 5 nd (le_call (ok__law_fr T) tk (hr.mono (by decide)) (by rfl) T.d__law_fr.g T.d__law_fr.F.kp (b__law_fr T) (la_cons (le_sub (le_call (ok__law_take T) tk (hr.mono (by decide)) (by rfl) T.d__law_take.g T.d__law_take.F.kp (b__law_take T) (la_cons (le_var 0) (la_cons le_int la_nil))).O (le_int).O) (la_cons (le_add (le_int).O (le_call (ok__law_take T) tk (hr.mono (by decide)) (by rfl) T.d__law_take.g T.d__law_take.F.kp (b__law_take T) (la_cons (le_var 0) (la_cons le_int la_nil))).O) la_nil))).x)
      (lss_cons (ls_set 6 nd (le_call (ok__law_add T) tk (hr.mono (by decide)) (by rfl) T.d__law_add.g T.d__law_add.F.kp (b__law_add T) (la_cons (le_var 5) (la_cons (le_call (ok__law_fr T) tk (hr.mono (by decide)) (by rfl) T.d__law_fr.g T.d__law_fr.F.kp (b__law_fr T) (la_cons (le_call (ok__law_take T) tk (hr.mono (by decide)) (by rfl) T.d__law_take.g T.d__law_take.F.kp (b__law_take T) (la_cons (le_var 0) (la_cons le_int la_nil))) (la_cons (le_add (le_int).O (le_call (ok__law_take T) tk (hr.mono (by decide)) (by rfl) T.d__law_take.g T.d__law_take.F.kp (b__law_take T) (la_cons (le_var 0) (la_cons le_int la_nil))).O) la_nil))) la_nil))).x)
      (lss_cons (ls_if (lw_or (lt_cmp (c_ne hu) (le_call (ok_stands T) tk (hr.mono (by decide)) (by rfl) T.d_stands.g T.d_stands.F.kp (b_stands T) (la_cons (le_var 1) (la_cons (le_var 4) la_nil))).O (le_call (ok__law_at T) tk (hr.mono (by decide)) (by rfl) T.d__law_at.g T.d__law_at.F.kp (b__law_at T) (la_cons (le_var 1) (la_cons (le_var 4) la_nil))).O) (lw_or (lt_cmp (c_ne hu) (le_call (ok_rest T) tk (hr.mono (by decide)) (by rfl) T.d_rest.g T.d_rest.F.kp (b_rest T) (la_cons (le_var 4) la_nil)).O (le_call (ok__law_rest T) tk (hr.mono (by decide)) (by rfl) T.d__law_rest.g T.d__law_rest.F.kp (b__law_rest T) (la_cons (le_var 4) la_nil)).O) (lw_or1 (lt_cmp (c_ne hu) (le_call (ok_gap T) tk (hr.mono (by decide)) (by rfl) T.d_gap.g T.d_gap.F.kp (b_gap T) (la_cons (le_var 1) (la_cons (le_var 2) (la_cons (le_var 4) la_nil)))).O (le_call (ok__law_rest T) tk (hr.mono (by decide)) (by rfl) T.d__law_rest.g T.d__law_rest.F.kp (b__law_rest T) (la_cons (le_call (ok__law_sub T) tk (hr.mono (by decide)) (by rfl) T.d__law_sub.g T.d__law_sub.F.kp (b__law_sub T) (la_cons (le_call (ok__law_at T) tk (hr.mono (by decide)) (by rfl) T.d__law_at.g T.d__law_at.F.kp (b__law_at T) (la_cons (le_var 2) (la_cons (le_var 4) la_nil))) (la_cons (le_call (ok__law_at T) tk (hr.mono (by decide)) (by rfl) T.d__law_at.g T.d__law_at.F.kp (b__law_at T) (la_cons (le_var 1) (la_cons (le_var 4) la_nil))) la_nil))) la_nil)).O)))).t (lss_one (ls_ret le_bl)) lss_nil)
      (lss_cons (ls_if (lw_or (lt_cmp (c_ne hu) (le_call (ok_stands T) tk (hr.mono (by decide)) (by rfl) T.d_stands.g T.d_stands.F.kp (b_stands T) (la_cons (le_call (ok_later T) tk (hr.mono (by decide)) (by rfl) T.d_later.g T.d_later.F.kp (b_later T) (la_cons (le_var 1) (la_cons (le_var 4) la_nil))) (la_cons (le_var 5) la_nil))).O (le_call (ok__law_at T) tk (hr.mono (by decide)) (by rfl) T.d__law_at.g T.d__law_at.F.kp (b__law_at T) (la_cons (le_var 1) (la_cons (le_call (ok__law_add T) tk (hr.mono (by decide)) (by rfl) T.d__law_add.g T.d__law_add.F.kp (b__law_add T) (la_cons (le_var 4) (la_cons (le_var 5) la_nil))) la_nil))).O) (lw_or1 (lt_cmp (c_ne hu) (le_call (ok_between T) tk (hr.mono (by decide)) (by rfl) T.d_between.g T.d_between.F.kp (b_between T) (la_cons (le_var 1) (la_cons (le_var 5) (la_cons (le_var 6) la_nil)))).O (le_div (le_ix (le_call (ok__law_mul T) tk (hr.mono (by decide)) (by rfl) T.d__law_mul.g T.d__law_mul.F.kp (b__law_mul T) (la_cons (le_ix (le_var 1).O (le_int).O) (la_cons (le_call (ok__law_sub T) tk (hr.mono (by decide)) (by rfl) T.d__law_sub.g T.d__law_sub.F.kp (b__law_sub T) (la_cons (le_var 6) (la_cons (le_var 5) la_nil))) la_nil))).O (le_int).O).O (le_ix (le_call (ok__law_mul T) tk (hr.mono (by decide)) (by rfl) T.d__law_mul.g T.d__law_mul.F.kp (b__law_mul T) (la_cons (le_ix (le_var 1).O (le_int).O) (la_cons (le_call (ok__law_sub T) tk (hr.mono (by decide)) (by rfl) T.d__law_sub.g T.d__law_sub.F.kp (b__law_sub T) (la_cons (le_var 6) (la_cons (le_var 5) la_nil))) la_nil))).O (le_int).O).O).O))).t (lss_one (ls_ret le_bl)) lss_nil)
      (lss_cons (ls_set 7 nd (le_call (ok__law_sub T) tk (hr.mono (by decide)) (by rfl) T.d__law_sub.g T.d__law_sub.F.kp (b__law_sub T) (la_cons (le_ix (le_var 1).O (le_int).O) (la_cons (le_ix (le_var 2).O (le_int).O) la_nil))).x)
      (lss_cons (ls_if (lt_cmp (c_ne hu) (le_ix (le_var 7).O (le_int).O).O (le_int).O) (lss_cons (ls_set 8 nd (le_call (ok_meetings T) tk (hr.mono (by decide)) (by rfl) T.d_meetings.g T.d_meetings.F.kp (b_meetings T) (la_cons (le_var 1) (la_cons (le_var 2) (la_cons (le_var 5) (la_cons (le_var 6) la_nil))))).x)
      (lss_cons (ls_if (lw_or (lt_cmp (c_ne hu) ((ln_lstC (by rfl) T.b_list (le_var 8).O)).E.O (le_call (ok__law_meet T) tk (hr.mono (by decide)) (by rfl) T.d__law_meet.g T.d__law_meet.F.kp (b__law_meet T) (la_cons (le_var 1) (la_cons (le_var 2) (la_cons (le_var 5) (la_cons (le_var 6) la_nil))))).O) (lw_or1 (lt_cmp c_gt (le_len (by rfl) T.b_len ((ln_comp (ts := [14]) (own := [("t", 14)]) rfl nd (lio_of (le_var 8).O) (blkOk_by (own := [("t", 14)]) (by show blkC N__law_hands_hold (defScope s__law_hands_hold) _ _ = true; decide +kernel)) rfl (fun _ _ _ _ _ => (lg_name 14 nd)) (fun _ _ _ _ _ => (lts_one (lt_cmp (c_ne hu) (le_call (ok__law_at T) takes0 (hr.mono (by decide)) (by rfl) T.d__law_at.g T.d__law_at.F.kp (b__law_at T) (la_cons (le_var 1) (la_cons (le_var 14) la_nil))).O (le_call (ok__law_at T) takes0 (hr.mono (by decide)) (by rfl) T.d__law_at.g T.d__law_at.F.kp (b__law_at T) (la_cons (le_var 2) (la_cons (le_var 14) la_nil))).O))) (fun _ _ _ _ _ => (le_var 14)))).E.O).O (le_int).O))).t (lss_one (ls_ret le_bl)) lss_nil)
      (lss_cons (ls_if (lt_cmp (c_ne hu) (le_call (ok_every T) tk (hr.mono (by decide)) (by rfl) T.d_every.g T.d_every.F.kp (b_every T) (la_cons (le_var 1) (la_cons (le_var 2) la_nil))).O (le_call (ok__law_over T) tk (hr.mono (by decide)) (by rfl) T.d__law_over.g T.d__law_over.F.kp (b__law_over T) (la_cons (le_tup (la_cons le_int (la_cons le_int la_nil))) (la_cons (le_if (lt_cmp c_gt (le_ix (le_var 7).O (le_int).O).O (le_int).O) (le_var 7) (le_tup (la_cons (le_sub (le_int).O (le_ix (le_var 7).O (le_int).O).O) (la_cons (le_ix (le_var 7).O (le_int).O) la_nil)))) la_nil))).O) (lss_one (ls_ret le_bl)) lss_nil)
      (lss_one (ls_if (lt_cmp (c_ne hu) ((ln_lstC (by rfl) T.b_list (le_call (ok_all_meet T) tk (hr.mono (by decide)) (by rfl) T.d_all_meet.g T.d_all_meet.F.kp (b_all_meet T) (la_cons ((ln_lst (la_cons (le_var 1) (la_cons (le_var 2) (la_cons (le_var 3) la_nil))))).E (la_cons (le_var 5) (la_cons (le_var 6) la_nil)))).O)).E.O ((ln_comp (ts := [14]) (own := [("t", 14)]) rfl nd (lio_of (le_var 8).O) (blkOk_by (own := [("t", 14)]) (by show blkC N__law_hands_hold (defScope s__law_hands_hold) _ _ = true; decide +kernel)) rfl (fun _ _ _ _ _ => (lg_name 14 nd)) (fun _ _ _ _ _ => (lts_one (lt_cmp (c_eq hu) (le_call (ok__law_at T) takes0 (hr.mono (by decide)) (by rfl) T.d__law_at.g T.d__law_at.F.kp (b__law_at T) (la_cons (le_var 3) (la_cons (le_var 14) la_nil))).O (le_call (ok__law_at T) takes0 (hr.mono (by decide)) (by rfl) T.d__law_at.g T.d__law_at.F.kp (b__law_at T) (la_cons (le_var 1) (la_cons (le_var 14) la_nil))).O))) (fun _ _ _ _ _ => (le_var 14)))).E.O) (lss_one (ls_ret le_bl)) lss_nil))))) lss_nil)
      (lss_cons (ls_if (lt_cmp (c_ne hu) (le_ix (le_ix (le_var 1).O (le_int).O).O (le_int).O).O (le_int).O) (lss_cons (ls_set 9 nd ((ln_lst (la_cons (le_call (ok__law_at T) tk (hr.mono (by decide)) (by rfl) T.d__law_at.g T.d__law_at.F.kp (b__law_at T) (la_cons (le_var 1) (la_cons (le_var 4) la_nil))) (la_cons (le_call (ok__law_at T) tk (hr.mono (by decide)) (by rfl) T.d__law_at.g T.d__law_at.F.kp (b__law_at T) (la_cons (le_var 2) (la_cons (le_var 4) la_nil))) la_nil)))).E.x)
      (lss_cons (ls_setLcE 10 (ts := [14]) (own := [("t", 14)]) rfl nd (lio_of (le_call (ok__law_meet T) tk (hr.mono (by decide)) (by rfl) T.d__law_meet.g T.d__law_meet.F.kp (b__law_meet T) (la_cons (le_var 1) (la_cons (le_tup (la_cons (le_ix (le_var 9).O (le_int).O) (la_cons (le_tup (la_cons le_int (la_cons le_int la_nil))) la_nil))) (la_cons (le_var 5) (la_cons (le_var 6) la_nil))))).O) (blkOk_by (own := [("t", 14)]) (by show blkC N__law_hands_hold (defScope s__law_hands_hold) _ _ = true; decide +kernel)) rfl (fun _ _ _ _ _ => (lg_name 14 nd)) (fun _ _ _ _ _ => (lts_one (lt_cmp (c_eq hu) (le_call (ok__law_at T) takes0 (hr.mono (by decide)) (by rfl) T.d__law_at.g T.d__law_at.F.kp (b__law_at T) (la_cons (le_var 2) (la_cons (le_var 14) la_nil))).O (le_ix (le_var 9).O (le_int).O).O))) (fun _ _ _ _ _ => (le_var 14)))
      (lss_one (ls_if (lw_or (lt_cmp (c_ne hu) ((ln_lstC (by rfl) T.b_list (le_call (ok_told_time T) tk (hr.mono (by decide)) (by rfl) T.d_told_time.g T.d_told_time.F.kp (b_told_time T) (la_cons ((ln_lst (la_cons (le_var 1) (la_cons (le_var 2) la_nil)))).E (la_cons (le_var 9) (la_cons (le_var 5) (la_cons (le_var 6) la_nil))))).O)).E.O (le_var 10).O) (lw_or1 (lw_and (lt_not (lt_val (le_call (ok__law_less T) tk (hr.mono (by decide)) (by rfl) T.d__law_less.g T.d__law_less.F.kp (b__law_less T) (la_cons (le_var 4) (la_cons (le_var 5) la_nil))))) (lw_and (lt_val (le_call (ok__law_less T) tk (hr.mono (by decide)) (by rfl) T.d__law_less.g T.d__law_less.F.kp (b__law_less T) (la_cons (le_var 4) (la_cons (le_var 6) la_nil)))) (lw_and1 (lt_cmp (c_ni hu) (le_var 4).O (le_var 10).O)))).t)).t (lss_one (ls_ret le_bl)) lss_nil)))) lss_nil)
      (lss_cons (ls_many rfl (lxa_cons (le_call (ok_round_of T) tk (hr.mono (by decide)) (by rfl) T.d_round_of.g T.d_round_of.F.kp (b_round_of T) (la_cons ((ln_lst (la_cons (le_var 1) (la_cons (le_var 2) (la_cons (le_var 3) la_nil))))).E la_nil)).x (lxa_cons ((ln_comp (ts := [15]) (own := [("hand", 15)]) rfl nd (lio_of (le_tup (la_cons (le_var 1) (la_cons (le_var 2) (la_cons (le_var 3) la_nil)))).O) (blkOk_by (own := [("hand", 15)]) (by show blkC N__law_hands_hold (defScope s__law_hands_hold) _ _ = true; decide +kernel)) rfl (fun _ _ _ _ _ => (lg_name 15 nd)) (fun _ _ _ _ _ => lts_nil) (fun _ _ _ _ _ => (le_ix (le_var 15).O (le_int).O)))).E.x lxa_nil)) (lnm_cons 11 nd (lnm_cons 12 nd lnm_nil)))
      (lss_cons (ls_if (lw_or (lt_cmp (c_ne hu) (le_cmp c_is (le_var 11).O (le_non).O).O (le_cmp (c_eq hu) (le_var 12).O ((ln_rep ((ln_lst (la_cons (le_tup (la_cons le_int (la_cons le_int la_nil))) la_nil))).E.O (le_int).O)).E.O).O) (lw_or1 (lw_and (lt_cmp c_isnot (le_var 11).O (le_non).O) (lw_and1 (lw_or (lt_cmp c_le (le_ix (le_var 11).O (le_int).O).O (le_int).O) (lw_or1 (lt_cmp c_gt (le_len (by rfl) T.b_len ((ln_comp (ts := [17]) (own := [("part_v", 17)]) rfl nd (lio_of (le_var 12).O) (blkOk_by (own := [("part_v", 17)]) (by show blkC N__law_hands_hold (defScope s__law_hands_hold) _ _ = true; decide +kernel)) rfl (fun _ _ _ _ _ => (lg_name 17 nd)) (fun _ _ _ _ _ => (lts_one (lt_cmp (c_ne hu) (le_ix (le_call (ok__law_mul T) takes0 (hr.mono (by decide)) (by rfl) T.d__law_mul.g T.d__law_mul.F.kp (b__law_mul T) (la_cons (le_var 17) (la_cons (le_var 11) la_nil))).O (le_int).O).O (le_int).O))) (fun _ _ _ _ _ => le_int))).E.O).O (le_int).O))).t)).t)).t (lss_one (ls_ret le_bl)) lss_nil)
      (lss_cons (ls_if (lw_and (lt_cmp c_isnot (le_var 11).O (le_non).O) (lw_and1 (lt_cmp c_gt (le_len (by rfl) T.b_len ((ln_comp (ts := [16]) (own := [("k", 16)]) rfl nd (li_r2 (by rfl) T.b_range (la_cons le_int (la_cons le_int la_nil))).O (blkOk_by (own := [("k", 16)]) (by show blkC N__law_hands_hold (defScope s__law_hands_hold) _ _ = true; decide +kernel)) rfl (fun _ _ _ _ _ => (lg_name 16 nd)) (fun _ _ _ _ _ => (lts_one (lt_cmp (c_eq hu) (le_len (by rfl) T.b_len ((ln_comp (ts := [17]) (own := [("part_v", 17)]) rfl nd (lio_of (le_var 12).O) (blkOk_by (own := [("part_v", 17)]) (by show blkC N__law_hands_hold (relS _ (defScope s__law_hands_hold)) _ _ = true; decide +kernel)) rfl (fun _ _ _ _ _ => (lg_name 17 nd)) (fun _ _ _ _ _ => (lts_one (lt_cmp (c_ne hu) (le_ix (le_call (ok__law_mul T) takes0 (hr.mono (by decide)) (by rfl) T.d__law_mul.g T.d__law_mul.F.kp (b__law_mul T) (la_cons (le_var 17) (la_cons (le_call (ok__law_mul T) takes0 (hr.mono (by decide)) (by rfl) T.d__law_mul.g T.d__law_mul.F.kp (b__law_mul T) (la_cons (le_var 11) (la_cons (le_tup (la_cons le_int (la_cons (le_var 16) la_nil))) la_nil))) la_nil))).O (le_int).O).O (le_int).O))) (fun _ _ _ _ _ => le_int))).E.O).O (le_int).O))) (fun _ _ _ _ _ => (le_var 16)))).E.O).O (le_int).O))).t (lss_one (ls_ret le_bl)) lss_nil)
      (lss_cons (ls_set 13 nd (le_add (le_int).O (le_call (ok__law_take T) tk (hr.mono (by decide)) (by rfl) T.d__law_take.g T.d__law_take.F.kp (b__law_take T) (la_cons (le_var 0) (la_cons le_int la_nil))).O).x)
      (lss_cons (ls_if (lt_cmp (c_ne hu) ((ln_lstC (by rfl) T.b_list (le_call (ok_swapped T) tk (hr.mono (by decide)) (by rfl) T.d_swapped.g T.d_swapped.F.kp (b_swapped T) (la_cons (le_tup (la_cons (le_tup (la_cons le_int (la_cons le_int la_nil))) (la_cons (le_tup (la_cons le_int (la_cons le_int la_nil))) la_nil))) (la_cons (le_tup (la_cons (le_tup (la_cons le_int (la_cons le_int la_nil))) (la_cons (le_tup (la_cons (le_var 13) (la_cons le_int la_nil))) la_nil))) (la_cons (le_tup (la_cons le_int (la_cons le_int la_nil))) (la_cons (le_tup (la_cons le_int (la_cons le_int la_nil))) la_nil))))).O)).E.O ((ln_comp (ts := [16]) (own := [("k", 16)]) rfl nd (li_r1 (by rfl) T.b_range (la_cons (le_sub (le_mul (le_var 13).O (le_var 13).O).O (le_int).O) la_nil)).O (blkOk_by (own := [("k", 16)]) (by show blkC N__law_hands_hold (defScope s__law_hands_hold) _ _ = true; decide +kernel)) rfl (fun _ _ _ _ _ => (lg_name 16 nd)) (fun _ _ _ _ _ => lts_nil) (fun _ _ _ _ _ => (le_call (ok__law_fr T) takes0 (hr.mono (by decide)) (by rfl) T.d__law_fr.g T.d__law_fr.F.kp (b__law_fr T) (la_cons (le_var 16) (la_cons (le_sub (le_mul (le_var 13).O (le_var 13).O).O (le_int).O) la_nil)))))).E.O) (lss_one (ls_ret le_bl)) lss_nil)
      (lss_one (ls_ret (le_cmp (c_eq hu) (le_call (ok_speeds_of T) tk (hr.mono (by decide)) (by rfl) T.d_speeds_of.g T.d_speeds_of.F.kp (b_speeds_of T) (la_cons ((ln_lst (la_cons le_str (la_cons le_str la_nil)))).E (la_cons ((ln_disp (lps_cons le_str (le_tup (la_cons le_int (la_cons le_int la_nil))) (lps_cons le_str (le_tup (la_cons le_int (la_cons le_int la_nil))) lps_nil)))).E la_nil))).O ((ln_lst (la_cons (le_tup (la_cons (le_tup (la_cons le_int (la_cons le_int la_nil))) (la_cons (le_tup (la_cons le_int (la_cons le_int la_nil))) la_nil))) (la_cons (le_tup (la_cons (le_tup (la_cons le_int (la_cons le_int la_nil))) (la_cons (le_tup (la_cons le_int (la_cons le_int la_nil))) la_nil))) la_nil)))).E.O)))))))))))))))))

theorem sc__law_days_hold : FnScope N__law_days_hold p__law_days_hold (defScope s__law_days_hold) := ⟨rfl, rfl, rfl, by decide +kernel, rfl, by decide +kernel, by decide +kernel⟩
theorem b__law_days_hold (T : Txt P K mg) : Binds K T.d__law_days_hold.fd p__law_days_hold [] := T.d__law_days_hold.F.binds fun _ _ _ _ _ _ us hl => match us, hl with | [_], _ => rfl
theorem ok__law_days_hold (T : Txt P K mg) : FnOk P w K mg base (L2.CX P w) 8 T.d__law_days_hold.f T.d__law_days_hold.fd p__law_days_hold (liftS K (XR0 K mg) sp__law_days_hold) := by
  refine fn_ok (is := m__law_days_hold) T.d__law_days_hold.F sc__law_days_hold (fun _ _ _ h => h.1) (fun cdv A outer s H E W hr hu tk po => ?_) fun _ _ _ h => h.2
  have nd := sc__law_days_hold.nd
  exact (lss_cons (ls_set 1 nd (le_tupC (by rfl) T.b_tuple ((ln_comp (ts := [21]) (own := [("k", 21)]) rfl nd (li_r1 (by rfl) T.b_range (la_cons (le_add (le_int).O (le_call (ok__law_take T) tk (hr.mono (by decide)) (by rfl) T.d__law_take.g T.d__law_take.F.kp (b__law_take T) (la_cons (le_var 0) (la_cons le_int la_nil))).O) la_nil)).O (blkOk_by (own := [("k", 21)]) (by show blkC N__law_days_hold (defScope s__law_days_hold) _ _ = true; decide +kernel)) rfl (fun _ _ _ _ _ => (lg_name 21 nd)) (fun _ _ _ _ _ => lts_nil) (fun _ _ _ _ _ => (le_tup (la_cons (le_add (le_int).O (le_call (ok__law_take T) takes0 (hr.mono (by decide)) (by rfl) T.d__law_take.g T.d__law_take.F.kp (b__law_take T) (la_cons (le_var 0) (la_cons le_int la_nil))).O) (la_cons le_int la_nil)))))).E.O).x)
      (lss_cons (ls_set 1 nd (le_tupC (by rfl) T.b_tuple ((ln_comp (ts := [12, 22]) (own := [("length", 12), ("mark", 22)]) rfl nd (lio_of (le_var 1).O) (blkOk_by (own := [("length", 12), ("mark", 22)]) (by show blkC N__law_days_hold (defScope s__law_days_hold) _ _ = true; decide +kernel)) rfl (fun _ _ _ _ _ => (lg_tup (n := 2) rfl (lgs_cons (lg_name 12 nd) (lgs_cons (lg_name 22 nd) lgs_nil)))) (fun _ _ _ _ _ => lts_nil) (fun _ _ _ _ _ => (le_tup (la_cons (le_var 12) (la_cons (le_call (ok__law_take T) takes0 (hr.mono (by decide)) (by rfl) T.d__law_take.g T.d__law_take.F.kp (b__law_take T) (la_cons (le_var 0) (la_cons (le_var 12) la_nil))) la_nil)))))).E.O).x)
      (lss_cons (ls_set 2 nd (le_tupC (by rfl) T.b_tuple ((ln_comp (ts := [12, 22]) (own := [("length", 12), ("mark", 22)]) rfl nd (lio_of (le_var 1).O) (blkOk_by (own := [("length", 12), ("mark", 22)]) (by show blkC N__law_days_hold (defScope s__law_days_hold) _ _ = true; decide +kernel)) rfl (fun _ _ _ _ _ => (lg_tup (n := 2) rfl (lgs_cons (lg_name 12 nd) (lgs_cons (lg_name 22 nd) lgs_nil)))) (fun _ _ _ _ _ => lts_nil) (fun _ _ _ _ _ => (le_call (ok__law_take T) takes0 (hr.mono (by decide)) (by rfl) T.d__law_take.g T.d__law_take.F.kp (b__law_take T) (la_cons (le_var 0) (la_cons (le_var 12) la_nil)))))).E.O).x)
      (lss_cons (ls_set 3 nd ((ln_comp (ts := [5]) (own := [("day", 5)]) rfl nd (li_r1 (by rfl) T.b_range (la_cons le_int la_nil)).O (blkOk_by (own := [("day", 5)]) (by show blkC N__law_days_hold (defScope s__law_days_hold) _ _ = true; decide +kernel)) rfl (fun _ _ _ _ _ => (lg_name 5 nd)) (fun _ _ _ _ _ => lts_nil) (fun _ _ _ _ _ => (le_tupC (by rfl) T.b_tuple ((ln_comp (ts := [12, 22]) (own := [("length", 12), ("mark", 22)]) rfl nd (lio_of (le_var 1).O) (blkOk_by (own := [("length", 12), ("mark", 22)]) (by show blkC N__law_days_hold (relS _ (defScope s__law_days_hold)) _ _ = true; decide +kernel)) rfl (fun _ _ _ _ _ => (lg_tup (n := 2) rfl (lgs_cons (lg_name 12 nd) (lgs_cons (lg_name 22 nd) lgs_nil)))) (fun _ _ _ _ _ => lts_nil) (fun _ _ _ _ _ => (le_sub (le_addD (le_var 22).O (le_var 5).O).O (le_mul (le_div (le_addD (le_var 22).O (le_var 5).O).O (le_var 12).O).O (le_var 12).O).O)))).E.O)))).E.x)
      (lss_cons (ls_setLcE 4 (ts := [5]) (own := [("day", 5)]) rfl nd (li_r2 (by rfl) T.b_range (la_cons le_int (la_cons le_int la_nil))).O (blkOk_by (own := [("day", 5)]) (by show blkC N__law_days_hold (defScope s__law_days_hold) _ _ = true; decide +kernel)) rfl (fun _ _ _ _ _ => (lg_name 5 nd)) (fun _ _ _ _ _ => (lts_one (lt_cmp (c_eq hu) (le_ix (le_var 3).O (le_var 5).O).O (le_ix (le_var 3).O (le_int).O).O))) (fun _ _ _ _ _ => (le_var 5)))
      (lss_cons (ls_set 5 nd (le_call (ok__law_take T) tk (hr.mono (by decide)) (by rfl) T.d__law_take.g T.d__law_take.F.kp (b__law_take T) (la_cons (le_var 0) (la_cons le_int la_nil))).x)
      (lss_cons (ls_if (lw_or (lt_cmp c_isnot (le_call (ok_are_wheels T) tk (hr.mono (by decide)) (by rfl) T.d_are_wheels.g T.d_are_wheels.F.kp (b_are_wheels T) (la_cons (le_var 1) la_nil)).O (le_bl).O) (lw_or (lt_cmp (c_ne hu) (le_call (ok_period T) tk (hr.mono (by decide)) (by rfl) T.d_period.g T.d_period.F.kp (b_period T) (la_cons (le_var 1) la_nil)).O (le_ix (le_var 4).O (le_int).O).O) (lw_or1 (lt_cmp (c_ne hu) (le_call (ok_stand T) tk (hr.mono (by decide)) (by rfl) T.d_stand.g T.d_stand.F.kp (b_stand T) (la_cons (le_var 1) (la_cons (le_var 5) la_nil))).O (le_ix (le_var 3).O (le_var 5).O).O)))).t (lss_one (ls_ret le_bl)) lss_nil)
      (lss_cons (ls_setLcE 6 (ts := [5]) (own := [("day", 5)]) rfl nd (li_r1 (by rfl) T.b_range (la_cons le_int la_nil)).O (blkOk_by (own := [("day", 5)]) (by show blkC N__law_days_hold (defScope s__law_days_hold) _ _ = true; decide +kernel)) rfl (fun _ _ _ _ _ => (lg_name 5 nd)) (fun _ _ _ _ _ => (lts_one (lt_cmp (c_eq hu) (le_ix (le_var 3).O (le_var 5).O).O (le_var 2).O))) (fun _ _ _ _ _ => (le_var 5)))
      (lss_cons (ls_if (lw_or (lt_cmp (c_ne hu) (le_call (ok_first_day T) tk (hr.mono (by decide)) (by rfl) T.d_first_day.g T.d_first_day.F.kp (b_first_day T) (la_cons (le_var 1) (la_cons (le_var 2) la_nil))).O (le_if (lt_cmp (c_ne hu) (le_var 6).O ((ln_lst la_nil)).E.O) (le_ix (le_var 6).O (le_int).O) le_non).O) (lw_or1 (lt_cmp (c_ne hu) ((ln_lstC (by rfl) T.b_list (le_call (ok_days_at T) tk (hr.mono (by decide)) (by rfl) T.d_days_at.g T.d_days_at.F.kp (b_days_at T) (la_cons (le_var 1) (la_cons (le_var 2) (la_cons le_int (la_cons le_int la_nil))))).O)).E.O ((ln_comp (ts := [5]) (own := [("day", 5)]) rfl nd (lio_of (le_var 6).O) (blkOk_by (own := [("day", 5)]) (by show blkC N__law_days_hold (defScope s__law_days_hold) _ _ = true; decide +kernel)) rfl (fun _ _ _ _ _ => (lg_name 5 nd)) (fun _ _ _ _ _ => (lts_one (lw_and (lt_cmp c_le (le_int).O (le_var 5).O) (lw_and1 (lt_cmp c_le (le_var 5).O (le_int).O))).t)) (fun _ _ _ _ _ => (le_var 5)))).E.O))).t (lss_one (ls_ret le_bl)) lss_nil)
      (lss_cons (ls_set 7 nd (le_call (ok_why_never T) tk (hr.mono (by decide)) (by rfl) T.d_why_never.g T.d_why_never.F.kp (b_why_never T) (la_cons (le_var 1) (la_cons (le_var 2) la_nil))).x)
      (lss_cons (ls_if (lw_or (lt_cmp (c_ne hu) (le_cmp c_is (le_var 7).O (le_non).O).O (le_cmp (c_ne hu) (le_var 6).O ((ln_lst la_nil)).E.O).O) (lw_or1 (lw_and (lt_cmp c_isnot (le_var 7).O (le_non).O) (lw_and1 (lt_cmp c_gt (le_len (by rfl) T.b_len ((ln_comp (ts := [5]) (own := [("day", 5)]) rfl nd (li_r1 (by rfl) T.b_range (la_cons le_int la_nil)).O (blkOk_by (own := [("day", 5)]) (by show blkC N__law_days_hold (defScope s__law_days_hold) _ _ = true; decide +kernel)) rfl (fun _ _ _ _ _ => (lg_name 5 nd)) (fun _ _ _ _ _ => (lts_one (lw_and (lt_cmp (c_eq hu) (le_ix (le_ix (le_var 3).O (le_var 5).O).O (le_ix (le_var 7).O (le_int).O).O).O (le_ix (le_var 2).O (le_ix (le_var 7).O (le_int).O).O).O) (lw_and1 (lt_cmp (c_eq hu) (le_ix (le_ix (le_var 3).O (le_var 5).O).O (le_ix (le_var 7).O (le_int).O).O).O (le_ix (le_var 2).O (le_ix (le_var 7).O (le_int).O).O).O))).t)) (fun _ _ _ _ _ => (le_var 5)))).E.O).O (le_int).O))).t)).t (lss_one (ls_ret le_bl)) lss_nil)
      (lss_cons (ls_many rfl (lxa_cons (le_tup (la_cons (le_add (le_int).O (le_call (ok__law_take T) tk (hr.mono (by decide)) (by rfl) T.d__law_take.g T.d__law_take.F.kp (b__law_take T) (la_cons (le_var 0) (la_cons le_int la_nil))).O) (la_cons le_int la_nil))).x (lxa_cons (le_tup (la_cons (le_add (le_int).O (le_call (ok__law_take T) tk (hr.mono (by decide)) (by rfl) T.d__law_take.g T.d__law_take.F.kp (b__law_take T) (la_cons (le_var 0) (la_cons le_int la_nil))).O) (la_cons le_int la_nil))).x lxa_nil)) (lnm_cons 8 nd (lnm_cons 9 nd lnm_nil)))
      (lss_cons (ls_many rfl (lxa_cons (le_tup (la_cons (le_ix (le_var 8).O (le_int).O) (la_cons (le_call (ok__law_take T) tk (hr.mono (by decide)) (by rfl) T.d__law_take.g T.d__law_take.F.kp (b__law_take T) (la_cons (le_var 0) (la_cons (le_ix (le_var 8).O (le_int).O) la_nil))) la_nil))).x (lxa_cons (le_tup (la_cons (le_ix (le_var 9).O (le_int).O) (la_cons (le_call (ok__law_take T) tk (hr.mono (by decide)) (by rfl) T.d__law_take.g T.d__law_take.F.kp (b__law_take T) (la_cons (le_var 0) (la_cons (le_ix (le_var 9).O (le_int).O) la_nil))) la_nil))).x lxa_nil)) (lnm_cons 8 nd (lnm_cons 9 nd lnm_nil)))
      (lss_cons (ls_setLcE 10 (ts := [5]) (own := [("day", 5)]) rfl nd (li_r1 (by rfl) T.b_range (la_cons le_int la_nil)).O (blkOk_by (own := [("day", 5)]) (by show blkC N__law_days_hold (defScope s__law_days_hold) _ _ = true; decide +kernel)) rfl (fun _ _ _ _ _ => (lg_name 5 nd)) (fun _ _ _ _ _ => (lts_one (lw_and (lt_cmp (c_eq hu) (le_sub (le_var 5).O (le_mul (le_div (le_var 5).O (le_ix (le_var 8).O (le_int).O).O).O (le_ix (le_var 8).O (le_int).O).O).O).O (le_ix (le_var 8).O (le_int).O).O) (lw_and1 (lt_cmp (c_eq hu) (le_sub (le_var 5).O (le_mul (le_div (le_var 5).O (le_ix (le_var 9).O (le_int).O).O).O (le_ix (le_var 9).O (le_int).O).O).O).O (le_ix (le_var 9).O (le_int).O).O))).t)) (fun _ _ _ _ _ => (le_var 5)))
      (lss_cons (ls_set 11 nd (le_if (lt_cmp (c_ne hu) (le_var 10).O ((ln_lst la_nil)).E.O) (le_tup (la_cons (le_sub (le_ix (le_var 10).O (le_int).O).O (le_ix (le_var 10).O (le_int).O).O) (la_cons (le_ix (le_var 10).O (le_int).O) la_nil))) le_non).x)
      (lss_cons (ls_if (lt_cmp (c_ne hu) (le_call (ok_joined T) tk (hr.mono (by decide)) (by rfl) T.d_joined.g T.d_joined.F.kp (b_joined T) (la_cons (le_var 8) (la_cons (le_var 9) la_nil))).O (le_var 11).O) (lss_one (ls_ret le_bl)) lss_nil)
      (lss_cons (ls_set 12 nd (le_add (le_int).O (le_call (ok__law_take T) tk (hr.mono (by decide)) (by rfl) T.d__law_take.g T.d__law_take.F.kp (b__law_take T) (la_cons (le_var 0) (la_cons le_int la_nil))).O).x)
      (lss_cons (ls_set 13 nd (le_ix ((ln_comp (ts := [21]) (own := [("k", 21)]) rfl nd (li_r2 (by rfl) T.b_range (la_cons le_int (la_cons (le_var 12) la_nil))).O (blkOk_by (own := [("k", 21)]) (by show blkC N__law_days_hold (defScope s__law_days_hold) _ _ = true; decide +kernel)) rfl (fun _ _ _ _ _ => (lg_name 21 nd)) (fun _ _ _ _ _ => (lts_one (lt_cmp (c_eq hu) (le_len (by rfl) T.b_len ((ln_comp (ts := [24]) (own := [("j", 24)]) rfl nd (li_r2 (by rfl) T.b_range (la_cons le_int (la_cons (le_add (le_var 21).O (le_int).O) la_nil))).O (blkOk_by (own := [("j", 24)]) (by show blkC N__law_days_hold (relS _ (defScope s__law_days_hold)) _ _ = true; decide +kernel)) rfl (fun _ _ _ _ _ => (lg_name 24 nd)) (fun _ _ _ _ _ => (lts_one (lw_and (lt_cmp (c_eq hu) (le_sub (le_var 21).O (le_mul (le_div (le_var 21).O (le_var 24).O).O (le_var 24).O).O).O (le_int).O) (lw_and1 (lt_cmp (c_eq hu) (le_sub (le_var 12).O (le_mul (le_div (le_var 12).O (le_var 24).O).O (le_var 24).O).O).O (le_int).O))).t)) (fun _ _ _ _ _ => (le_var 24)))).E.O).O (le_int).O))) (fun _ _ _ _ _ => (le_var 21)))).E.O (le_neg (le_int).O).O).x)
      (lss_cons (ls_if (lw_or (lt_cmp (c_ne hu) (le_sub (le_mul (le_var 13).O (le_call (ok_inverse T) tk (hr.mono (by decide)) (by rfl) T.d_inverse.g T.d_inverse.F.kp (b_inverse T) (la_cons (le_var 13) (la_cons (le_var 12) la_nil))).O).O (le_mul (le_div (le_mul (le_var 13).O (le_call (ok_inverse T) tk (hr.mono (by decide)) (by rfl) T.d_inverse.g T.d_inverse.F.kp (b_inverse T) (la_cons (le_var 13) (la_cons (le_var 12) la_nil))).O).O (le_var 12).O).O (le_var 12).O).O).O (le_int).O) (lw_or1 (lt_not (lw_and (lt_cmp c_le (le_int).O (le_call (ok_inverse T) tk (hr.mono (by decide)) (by rfl) T.d_inverse.g T.d_inverse.F.kp (b_inverse T) (la_cons (le_var 13) (la_cons (le_var 12) la_nil))).O) (lw_and1 (lt_cmp c_lt (le_call (ok_inverse T) tk (hr.mono (by decide)) (by rfl) T.d_inverse.g T.d_inverse.F.kp (b_inverse T) (la_cons (le_var 13) (la_cons (le_var 12) la_nil))).O (le_var 12).O))).t))).t (lss_one (ls_ret le_bl)) lss_nil)
      (lss_cons (ls_set 14 nd (le_ix ((ln_lst (la_cons (le_tup (la_cons le_int (la_cons le_int (la_cons le_int la_nil)))) (la_cons (le_tup (la_cons le_int la_nil)) (la_cons (le_tup la_nil) (la_cons (le_tup (la_cons le_int (la_cons le_int la_nil))) (la_cons (le_tup (la_cons le_int (la_cons le_int (la_cons le_int la_nil)))) la_nil))))))).E.O (le_call (ok__law_take T) tk (hr.mono (by decide)) (by rfl) T.d__law_take.g T.d__law_take.F.kp (b__law_take T) (la_cons (le_var 0) (la_cons le_int la_nil))).O).x)
      (lss_cons (ls_set 15 nd ((ln_lst la_nil)).E.x)
      (lss_cons (ls_for po rfl (li_r2 (by rfl) T.b_range (la_cons le_int (la_cons le_int la_nil))) (lg_name 16 nd) (lss_cons (ls_set 17 nd (le_len (by rfl) T.b_len ((ln_comp (ts := [23]) (own := [("step", 23)]) rfl nd (lio_of (le_var 14).O) (blkOk_by (own := [("step", 23)]) (by show blkC N__law_days_hold (defScope s__law_days_hold) _ _ = true; decide +kernel)) rfl (fun _ _ _ _ _ => (lg_name 23 nd)) (fun _ _ _ _ _ => (lts_one (lt_cmp (c_eq hu) (le_sub (le_var 16).O (le_mul (le_div (le_var 16).O (le_var 23).O).O (le_var 23).O).O).O (le_int).O))) (fun _ _ _ _ _ => (le_var 23)))).E.O).x)
      (lss_one (ls_set 15 nd (le_if (lw_or (lt_cmp (c_eq hu) (le_var 17).O (le_int).O) (lw_or1 (lt_cmp (c_eq hu) (le_var 17).O (le_int).O))).t ((ln_cat (le_var 15).O ((ln_lst (la_cons (le_var 16) la_nil))).E.O)).E (le_var 15)).x))))
      (lss_cons (ls_set 16 nd (le_add (le_int).O (le_call (ok__law_take T) tk (hr.mono (by decide)) (by rfl) T.d__law_take.g T.d__law_take.F.kp (b__law_take T) (la_cons (le_var 0) (la_cons le_int la_nil))).O).x)
      (lss_cons (ls_if (lw_or (lt_cmp (c_ne hu) (le_call (ok_leap_days T) tk (hr.mono (by decide)) (by rfl) T.d_leap_days.g T.d_leap_days.F.kp (b_leap_days T) (la_cons (le_var 14) (la_cons (le_var 16) la_nil))).O (le_len (by rfl) T.b_len ((ln_comp (ts := [7]) (own := [("told", 7)]) rfl nd (lio_of (le_var 15).O) (blkOk_by (own := [("told", 7)]) (by show blkC N__law_days_hold (defScope s__law_days_hold) _ _ = true; decide +kernel)) rfl (fun _ _ _ _ _ => (lg_name 7 nd)) (fun _ _ _ _ _ => (lts_one (lt_cmp c_le (le_var 7).O (le_var 16).O))) (fun _ _ _ _ _ => (le_var 7)))).E.O).O) (lw_or1 (lt_cmp (c_ne hu) (le_call (ok_is_leap T) tk (hr.mono (by decide)) (by rfl) T.d_is_leap.g T.d_is_leap.F.kp (b_is_leap T) (la_cons (le_var 14) (la_cons (le_var 16) la_nil))).O (le_cmp (c_in hu) (le_var 16).O (le_var 15).O).O))).t (lss_one (ls_ret le_bl)) lss_nil)
      (lss_cons (ls_if (lw_or (lt_cmp (c_ne hu) (le_call (ok_days_to T) tk (hr.mono (by decide)) (by rfl) T.d_days_to.g T.d_days_to.F.kp (b_days_to T) (la_cons (le_var 14) (la_cons (le_var 16) la_nil))).O (le_add (le_mul (le_int).O (le_sub (le_var 16).O (le_int).O).O).O (le_len (by rfl) T.b_len ((ln_comp (ts := [7]) (own := [("told", 7)]) rfl nd (lio_of (le_var 15).O) (blkOk_by (own := [("told", 7)]) (by show blkC N__law_days_hold (defScope s__law_days_hold) _ _ = true; decide +kernel)) rfl (fun _ _ _ _ _ => (lg_name 7 nd)) (fun _ _ _ _ _ => (lts_one (lt_cmp c_lt (le_var 7).O (le_var 16).O))) (fun _ _ _ _ _ => (le_var 7)))).E.O).O).O) (lw_or1 (lt_cmp c_isnot (le_call (ok_is_rule T) tk (hr.mono (by decide)) (by rfl) T.d_is_rule.g T.d_is_rule.F.kp (b_is_rule T) (la_cons (le_var 14) la_nil)).O (le_bl).O))).t (lss_one (ls_ret le_bl)) lss_nil)
      (lss_cons (ls_set 18 nd (le_if (lw_and (lt_cmp (c_in hu) (le_var 16).O (le_var 15).O) (lw_and1 (lt_cmp (c_eq hu) (le_call (ok__law_take T) tk (hr.mono (by decide)) (by rfl) T.d__law_take.g T.d__law_take.F.kp (b__law_take T) (la_cons (le_var 0) (la_cons le_int la_nil))).O (le_int).O))).t le_int (le_call (ok__law_take T) tk (hr.mono (by decide)) (by rfl) T.d__law_take.g T.d__law_take.F.kp (b__law_take T) (la_cons (le_var 0) (la_cons le_int la_nil)))).x)
      (lss_cons (ls_set 19 nd (le_if (lt_cmp (c_ne hu) (le_var 14).O (le_tup la_nil).O) (le_ix (le_var 14).O (le_neg (le_int).O).O) le_int).x)
      (lss_cons (ls_set 20 nd (le_call (ok__law_add T) tk (hr.mono (by decide)) (by rfl) T.d__law_add.g T.d__law_add.F.kp (b__law_add T) (la_cons (le_tup (la_cons le_int (la_cons le_int la_nil))) (la_cons (le_call (ok__law_fr T) tk (hr.mono (by decide)) (by rfl) T.d__law_fr.g T.d__law_fr.F.kp (b__law_fr T) (la_cons (le_len (by rfl) T.b_len ((ln_comp (ts := [7]) (own := [("told", 7)]) rfl nd (lio_of (le_var 15).O) (blkOk_by (own := [("told", 7)]) (by show blkC N__law_days_hold (defScope s__law_days_hold) _ _ = true; decide +kernel)) rfl (fun _ _ _ _ _ => (lg_name 7 nd)) (fun _ _ _ _ _ => (lts_one (lt_cmp c_le (le_var 7).O (le_var 19).O))) (fun _ _ _ _ _ => (le_var 7)))).E.O) (la_cons (le_var 19) la_nil))) la_nil))).x)
      (lss_one (ls_ret (le_and (le_cmp (c_eq hu) (le_tupC (by rfl) T.b_tuple (le_call (ok_year_of T) tk (hr.mono (by decide)) (by rfl) T.d_year_of.g T.d_year_of.F.kp (b_year_of T) (la_cons (le_var 14) (la_cons (le_add (le_call (ok_days_to T) tk (hr.mono (by decide)) (by rfl) T.d_days_to.g T.d_days_to.F.kp (b_days_to T) (la_cons (le_var 14) (la_cons (le_var 16) la_nil))).O (le_var 18).O) la_nil))).O).O (le_tup (la_cons (le_var 16) (la_cons (le_var 18) la_nil))).O) (le_one (le_cmp (c_eq hu) (le_call (ok_mean_year T) tk (hr.mono (by decide)) (by rfl) T.d_mean_year.g T.d_mean_year.F.kp (b_mean_year T) (la_cons (le_var 14) la_nil)).O (le_var 20).O)))))))))))))))))))))))))))))))))

theorem sc_law : FnScope N_law p_law (defScope s_law) := ⟨rfl, rfl, rfl, by decide +kernel, rfl, by decide +kernel, by decide +kernel⟩
theorem rest_law (T : Txt P K mg) (cdv : Value) (A : Around) (outer : List Env) (s : Shared) (H : Hp) (E : XK) (W : WX) (hr : Room 8 (A.deeper (PyProof.Rows.envOfC "law" (defScope s_law) s.heap.objs.size T.d_law.f cdv))) (hu : (A.deeper (PyProof.Rows.envOfC "law" (defScope s_law) s.heap.objs.size T.d_law.f cdv)).units + 65 < cLine)
    (tk : Takes (cxOf (L2.CX P w) P w K mg base N_law "law" (defScope s_law) T.d_law.f cdv A outer s H E) W) (po : PassesOwn (model P w) (A.deeper (PyProof.Rows.envOfC "law" (defScope s_law) s.heap.objs.size T.d_law.f cdv)) (PyProof.Rows.envOfC "law" (defScope s_law) s.heap.objs.size T.d_law.f cdv) (cxOf (L2.CX P w) P w K mg base N_law "law" (defScope s_law) T.d_law.f cdv A outer s H E).xe) :
    LSs (XR0 K mg) (cxOf (L2.CX P w) P w K mg base N_law "law" (defScope s_law) T.d_law.f cdv A outer s H E) W (defBody s_law).tail m_law := by
  have nd := sc_law.nd
  exact (lss_cons (ls_for po rfl (li_r1 (by rfl) T.b_range (la_cons le_int la_nil)) (lg_name 2 nd) (lss_one (ls_if (lw_or (lt_not (lt_val (le_call (ok__law_hands_hold T) tk (hr.mono (by decide)) (by rfl) T.d__law_hands_hold.g T.d__law_hands_hold.F.kp (b__law_hands_hold T) (la_cons (le_var 1) la_nil)))) (lw_or1 (lt_not (lt_val (le_call (ok__law_days_hold T) tk (hr.mono (by decide)) (by rfl) T.d__law_days_hold.g T.d__law_days_hold.F.kp (b__law_days_hold T) (la_cons (le_var 1) la_nil)))))).t (lss_one (ls_ret le_bl)) lss_nil)))
      (lss_cons (ls_if (lw_or (lt_cmp (c_ne hu) ((ln_lstC (by rfl) T.b_list (le_call (ok_days_at T) tk (hr.mono (by decide)) (by rfl) T.d_days_at.g T.d_days_at.F.kp (b_days_at T) (la_cons (le_tup (la_cons (le_tup (la_cons le_int (la_cons le_int la_nil))) la_nil)) (la_cons (le_tup (la_cons le_int la_nil)) (la_cons le_int (la_cons le_int la_nil))))).O)).E.O ((ln_lst (la_cons le_int (la_cons le_int la_nil)))).E.O) (lw_or1 (lt_cmp (c_ne hu) (le_len (by rfl) T.b_len (le_call (ok_meetings T) tk (hr.mono (by decide)) (by rfl) T.d_meetings.g T.d_meetings.F.kp (b_meetings T) (la_cons (le_tup (la_cons (le_tup (la_cons le_int (la_cons le_int la_nil))) (la_cons (le_tup (la_cons le_int (la_cons le_int la_nil))) la_nil))) (la_cons (le_tup (la_cons (le_tup (la_cons le_int (la_cons le_int la_nil))) (la_cons (le_tup (la_cons le_int (la_cons le_int la_nil))) la_nil))) (la_cons (le_tup (la_cons le_int (la_cons le_int la_nil))) (la_cons (le_tup (la_cons le_int (la_cons le_int la_nil))) la_nil))))).O).O (le_int).O))).t (lss_one (ls_ret le_bl)) lss_nil)
      (lss_cons (ls_set 3 nd (ln_lst la_nil).x)
      (lss_cons (ls_for po rfl (li_r1 (by rfl) T.b_range (la_cons le_int la_nil)) (lg_name 4 nd) (lss_one (ls_tryH 6 rfl rfl nd tk T.mis.Z T.mis.hm T.mis.x2 (by rfl) (fun W' pn xe tk po => (lss_cons (ls_set 5 nd (le_if (lt_cmp (c_eq hu) (le_var 4).O (le_int).O) (le_call (ok_days_at T) tk (hr.mono (by decide)) (by rfl) T.d_days_at.g T.d_days_at.F.kp (b_days_at T) (la_cons (le_tup (la_cons (le_tup (la_cons le_int (la_cons le_int la_nil))) la_nil)) (la_cons (le_tup (la_cons le_int la_nil)) (la_cons le_int (la_cons le_int la_nil))))) (le_call (ok_meetings T) tk (hr.mono (by decide)) (by rfl) T.d_meetings.g T.d_meetings.F.kp (b_meetings T) (la_cons (le_tup (la_cons (le_tup (la_cons le_int (la_cons le_int la_nil))) (la_cons (le_tup (la_cons le_int (la_cons le_int la_nil))) la_nil))) (la_cons (le_tup (la_cons (le_tup (la_cons le_int (la_cons le_int la_nil))) (la_cons (le_tup (la_cons le_int (la_cons le_int la_nil))) la_nil))) (la_cons (le_tup (la_cons le_int (la_cons le_int la_nil))) (la_cons (le_tup (la_cons le_int (la_cons le_int la_nil))) la_nil)))))).x)
      (lss_one (ls_app 3 (le_len (by rfl) T.b_len (le_var 5).O))))) (fun xa xd oe pn hz hf => (lss_one (ls_app 3 (le_xw 6 T.mis.Z hz hf)))))))
      (lss_cons (ls_if (lt_cmp (c_ne hu) (lo_var 3) ((ln_lst (la_cons le_str (la_cons le_str la_nil)))).E.O) (lss_one (ls_ret le_bl)) lss_nil)
      (lss_cons (ls_if (lt_cmp (c_ne hu) ((ln_comp (ts := [7]) (own := [("k", 7)]) rfl nd (li_r1 (by rfl) T.b_range (la_cons le_int la_nil)).O (blkOk_by (own := [("k", 7)]) (by show blkC N_law (defScope s_law) _ _ = true; decide +kernel)) rfl (fun _ _ _ _ _ => (lg_name 7 nd)) (fun _ _ _ _ _ => lts_nil) (fun _ _ _ _ _ => (le_call (ok__law_word T) takes0 (hr.mono (by decide)) (by rfl) T.d__law_word.g T.d__law_word.F.kp (b__law_word T) (la_cons (le_var 7) la_nil))))).E.O ((ln_lst (la_cons le_str (la_cons le_str (la_cons le_str (la_cons le_str (la_cons le_str (la_cons le_str (la_cons le_str (la_cons le_str (la_cons le_str (la_cons le_str la_nil)))))))))))).E.O) (lss_one (ls_ret le_bl)) lss_nil)
      (lss_cons (ls_if (lt_cmp (c_ne hu) ((ln_comp (ts := [8]) (own := [("value", 8)]) rfl nd (lio_of (le_tup (la_cons (le_tup (la_cons le_int (la_cons le_int la_nil))) (la_cons (le_tup (la_cons le_int (la_cons le_int la_nil))) (la_cons (le_tup (la_cons le_int la_nil)) (la_cons ((ln_lst (la_cons le_int la_nil))).E (la_cons (le_tup (la_cons le_bl la_nil)) (la_cons le_non la_nil))))))).O) (blkOk_by (own := [("value", 8)]) (by show blkC N_law (defScope s_law) _ _ = true; decide +kernel)) rfl (fun _ _ _ _ _ => (lg_name 8 nd)) (fun _ _ _ _ _ => lts_nil) (fun _ _ _ _ _ => (le_call (ok_is_rule T) takes0 (hr.mono (by decide)) (by rfl) T.d_is_rule.g T.d_is_rule.F.kp (b_is_rule T) (la_cons (le_var 8) la_nil))))).E.O ((ln_rep ((ln_lst (la_cons le_bl la_nil))).E.O (le_int).O)).E.O) (lss_one (ls_ret le_bl)) lss_nil)
      (lss_one (ls_ret (le_cmp (c_eq hu) ((ln_comp (ts := [8]) (own := [("value", 8)]) rfl nd (lio_of (le_tup (la_cons (le_tup la_nil) (la_cons (le_tup (la_cons (le_tup (la_cons le_int (la_cons le_int la_nil))) la_nil)) (la_cons (le_tup (la_cons (le_tup (la_cons le_int (la_cons le_int la_nil))) la_nil)) (la_cons (le_tup (la_cons (le_tup (la_cons le_int (la_cons le_int la_nil))) la_nil)) (la_cons (le_tup (la_cons (le_tup (la_cons le_int la_nil)) la_nil)) (la_cons ((ln_lst (la_cons (le_tup (la_cons le_int (la_cons le_int la_nil))) la_nil))).E (la_cons (le_tup (la_cons (le_tup (la_cons le_int (la_cons le_bl la_nil))) la_nil)) (la_cons le_non la_nil))))))))).O) (blkOk_by (own := [("value", 8)]) (by show blkC N_law (defScope s_law) _ _ = true; decide +kernel)) rfl (fun _ _ _ _ _ => (lg_name 8 nd)) (fun _ _ _ _ _ => lts_nil) (fun _ _ _ _ _ => (le_call (ok_are_wheels T) takes0 (hr.mono (by decide)) (by rfl) T.d_are_wheels.g T.d_are_wheels.F.kp (b_are_wheels T) (la_cons (le_var 8) la_nil))))).E.O ((ln_lst (la_cons le_bl (la_cons le_bl (la_cons le_bl (la_cons le_bl (la_cons le_bl (la_cons le_bl (la_cons le_bl (la_cons le_bl la_nil)))))))))).E.O))))))))))

theorem ok_law (T : Txt P K mg) (holds : m_law (env0 N_law.length i_law) { nx := fun _ => False, rt := fun d => d = .bl true }) : FnOk P w K mg base (L2.CX P w) lv_law T.d_law.f T.d_law.fd p_law (spLaw K) := by
  refine T.d_law.F.okX sc_law (fun vs H Q E h => ?_) (fun cdv A outer s H vs Q E hr h => ?_)
  · obtain ⟨a, ns, rfl, _⟩ := h
    rfl
  · obtain ⟨a, ns, rfl, hS, hn, hq⟩ := h
    obtain ⟨t, pt, so⟩ := rest_law T cdv A outer s H E (fun c a _ H' => E c a H') hr (by have := hr.un; omega) (takes_of rfl rfl rfl rfl) (passes_of rfl)
    refine ⟨_, pss_cons (ps_set (i := i_law) sc_law.nd rfl (by first | exact Or.inl rfl | exact Or.inr rfl) (pe_call (ok__law_state T) (hr.mono (by decide)) (by rfl) T.d__law_state.g T.d__law_state.F.kp (b__law_state T) .nil passL (pa_cons (pv 0) pa_nil))) pt, ?_⟩
    refine ⟨_, rfl, a, ns, rfl, hS, hn, fun p1 p2 cs H1 s1 n12 h1 h2 h3 h4 => ?_⟩
    have dro : DrOk (p1, p2) H1 := ⟨0, cs, h1, h2, h3, h4, n12⟩
    have st := Stt.begin (K := K) (σ := (L2.start N_law [V.ref a]).set i_law (some (.ref p1))) (n := N_law.length) (i := i_law) rfl rfl dro
    exact so _ _ _ _ _ _ _ _ _ _ st holds ⟨fun _ _ _ _ z _ => z.elim, fun _ _ _ _ z _ => z.elim, fun _ _ _ _ z _ => z.elim, fun d v H' e _ r => by subst e; cases r; exact hq H', fun _ _ _ _ _ _ _ z _ _ => z.elim⟩
theorem all_mk {h : Heap} {fa : Addr} (X : K.In h) (G : h.Ns mainGlobals mg) (hfa : mg "law" = some (.ref fa)) (T : Txt P K mg) (holds : m_law (env0 N_law.length i_law) { nx := fun _ => False, rt := fun d => d = .bl true }) :
    ∃ fd : FuncData, (∀ (s : Shared) (v : Value), BindsTo s fd ⟨[v], []⟩ [("script", v)]) ∧ ∀ base : Heap, K.In base → base.Ns mainGlobals mg → FnOk P w K mg base (L2.CX P w) lv_law fa fd ["script"] (spLaw K) := by
  have e := hfa.symm.trans T.d_law.g
  cases e
  obtain ⟨oc, od, kV, doc, pm, an, cdv, ct, osl, q, l, c⟩ := T.d_law.F.ex
  exact ⟨T.d_law.fd, fun s v => by rw [q]; exact .of_eq rfl, fun _ _ _ => ok_law T holds⟩

end
end KK

set_option maxRecDepth 100000
set_option maxHeartbeats 1000000
/-! FQ: parts as core Rat, their sizes by instances; no program in sight. -/
namespace FQ
open PySem L2 DL
def dq (q : Rat) : Dt := .tup [.int q.num, .int (q.den : Int)]
theorem den_pos' (q : Rat) : (0 : Int) < (q.den : Int) := by have := q.den_pos; omega
theorem fmod_nat (x y : Nat) : ((x : Int)).fmod (y : Int) = ((x % y : Nat) : Int) := by
  rw [Int.fmod_eq_emod_of_nonneg _ (by omega)]; rfl
theorem abs_nat (a : Int) : (if a < 0 then -a else a) = ((a.natAbs : Nat) : Int) := by split <;> omega
theorem fdiv_pos {a b : Int} (h : 0 < b) : a.fdiv b = a / b := Int.fdiv_eq_ediv_of_nonneg _ (by omega)
theorem gcd_le {u l : Int} (hl : l ≠ 0) : Int.gcd u l ≤ l.natAbs := Nat.le_of_dvd (Int.natAbs_pos.mpr hl) (Nat.gcd_dvd_right _ _)
theorem gcd_pos {u l : Int} (hl : l ≠ 0) : 0 < Int.gcd u l := Nat.gcd_pos_of_pos_right _ (Int.natAbs_pos.mpr hl)
theorem dq_pos {u l : Int} (hl : 0 < l) : dq (Rat.divInt u l) = .tup [.int (u / (Int.gcd u l : Nat)), .int (l / (Int.gcd u l : Nat))] := by
  unfold dq
  rw [Rat.num_divInt, Rat.den_divInt, if_neg (by omega), Int.sign_eq_one_of_pos hl, Int.one_mul, Int.gcd_comm]
  congr 3
  rw [Int.natCast_ediv]
  congr 2
  omega
theorem divInt_neg2 (u l : Int) : Rat.divInt (0 - u) (0 - l) = Rat.divInt u l := by
  rw [Int.zero_sub, Int.zero_sub, Rat.neg_divInt_neg]
theorem mul_eq (a b : Rat) : a * b = Rat.divInt (a.num * b.num) ((a.den : Int) * (b.den : Int)) := by
  conv => lhs; rw [← Rat.num_divInt_den a, ← Rat.num_divInt_den b]
  rw [Rat.divInt_mul_divInt]
theorem add_eq (a b : Rat) : a + b = Rat.divInt (a.num * (b.den : Int) + b.num * (a.den : Int)) ((a.den : Int) * (b.den : Int)) := by
  conv => lhs; rw [← Rat.num_divInt_den a, ← Rat.num_divInt_den b]
  rw [Rat.divInt_add_divInt _ _ (by have := den_pos' a; omega) (by have := den_pos' b; omega)]
theorem sub_eq (a b : Rat) : a - b = Rat.divInt (a.num * (b.den : Int) - b.num * (a.den : Int)) ((a.den : Int) * (b.den : Int)) := by
  conv => lhs; rw [← Rat.num_divInt_den a, ← Rat.num_divInt_den b]
  rw [Rat.divInt_sub_divInt _ _ (by have := den_pos' a; omega) (by have := den_pos' b; omega)]
theorem div_eq (a b : Rat) : a / b = Rat.divInt (a.num * (b.den : Int)) ((a.den : Int) * b.num) := by
  rw [Rat.div_def, Rat.inv_def]
  conv => lhs; rw [← Rat.num_divInt_den a]
  rw [Rat.divInt_mul_divInt]
theorem num_ne {b : Rat} (h : b ≠ 0) : b.num ≠ 0 := fun z => h (Rat.num_eq_zero.mp z)
theorem dd_ne (a b : Rat) : (a.den : Int) * (b.den : Int) ≠ 0 := by
  have := Int.mul_pos (den_pos' a) (den_pos' b); omega
theorem dq_neg (a : Rat) : dq (-a) = .tup [.int (0 - a.num), .int a.den] := by
  unfold dq
  rw [Rat.neg_num, Rat.neg_den, Int.zero_sub]
theorem dq_negA (a : Rat) : Dt.tup [.int (-a.num), .int a.den] = dq (-a) := by
  unfold dq
  rw [Rat.neg_num, Rat.neg_den]
theorem half_step {x y N : Nat} (h : y < x) (hy : y ≠ 0) (hN : x * y * N < 2 ^ 3960) : x % y < y ∧ y * (x % y) * (2 * N) < 2 ^ 3960 := by
  have h1 := Nat.mod_lt x (Nat.pos_of_ne_zero hy)
  refine ⟨h1, Nat.lt_of_le_of_lt ?_ hN⟩
  have h2 : y + x % y ≤ x := by
    have := Nat.mod_add_div x y
    have h3 : 1 ≤ x / y := (Nat.one_le_div_iff (Nat.pos_of_ne_zero hy)).mpr (by omega)
    have := Nat.mul_le_mul_left y h3
    omega
  have h3 : 2 * (y * (x % y)) ≤ x * y := by
    have a := Nat.mul_le_mul_right y h2
    have b := Nat.mul_le_mul_left y (Nat.le_of_lt h1)
    rw [Nat.add_mul] at a
    have := Nat.mul_comm (x % y) y
    omega
  have e : y * (x % y) * (2 * N) = 2 * (y * (x % y)) * N := by rw [← Nat.mul_assoc, Nat.mul_comm (y * (x % y)) 2]
  rw [e]
  exact Nat.mul_le_mul_right _ h3
/-! ### sizes -/
class Sz (n : outParam Nat) (q : Rat) : Prop where
  nu : q.num.natAbs < 2 ^ n
  de : q.den < 2 ^ n
section
variable {m n : Nat} {a b : Rat}
theorem Sz.d' (h : Sz n a) : ((a.den : Int)).natAbs < 2 ^ n := by simpa using h.de
theorem pw_mul {x y : Nat} (hx : x < 2 ^ m) (hy : y < 2 ^ n) : x * y < 2 ^ (m + n) := by
  rw [Nat.pow_add]
  exact Nat.mul_lt_mul'' hx hy
theorem pw_up {x : Nat} (h : x < 2 ^ m) (k : m ≤ n) : x < 2 ^ n := Nat.lt_of_lt_of_le h (Nat.pow_le_pow_right (by decide) k)
theorem Sz.up (h : Sz m a) (k : m ≤ n) : Sz n a := ⟨pw_up h.nu k, pw_up h.de k⟩
theorem Sz.one (h : Sz n a) : 1 < 2 ^ n := Nat.lt_of_le_of_lt a.den_pos h.de
theorem sz_divInt {u l : Int} (hl : l ≠ 0) (hu : u.natAbs < 2 ^ n) (hd : l.natAbs < 2 ^ n) : Sz n (Rat.divInt u l) := by
  refine ⟨?_, ?_⟩
  · rw [Rat.num_divInt]
    have h1 : l.sign.natAbs ≤ 1 := by
      rcases Int.lt_trichotomy l 0 with h | h | h
      · rw [Int.sign_eq_neg_one_of_neg h]; decide
      · subst h; decide
      · rw [Int.sign_eq_one_of_pos h]; decide
    refine Nat.lt_of_le_of_lt (Nat.le_trans (Int.natAbs_ediv_le_natAbs _ _) ?_) hu
    rw [Int.natAbs_mul]
    exact Nat.le_trans (Nat.mul_le_mul_right _ h1) (by rw [Nat.one_mul]; exact Nat.le_refl _)
  · rw [Rat.den_divInt, if_neg hl]
    exact Nat.lt_of_le_of_lt (Nat.div_le_self _ _) hd
instance sz_add [ha : Sz m a] [hb : Sz n b] : Sz (m + n + 1) (a + b) := by
  rw [add_eq]
  refine sz_divInt (dd_ne a b) ?_ ?_
  · have h1 := pw_mul ha.nu hb.d'
    have h2 := pw_mul hb.nu ha.d'
    rw [Nat.add_comm n m] at h2
    rw [← Int.natAbs_mul] at h1 h2
    rw [Nat.pow_succ]
    omega
  · rw [Int.natAbs_mul]
    exact pw_up (pw_mul ha.d' hb.d') (by omega)
instance sz_neg [ha : Sz m a] : Sz m (-a) := ⟨by rw [Rat.neg_num, Int.natAbs_neg]; exact ha.nu, ha.de⟩
instance sz_sub [ha : Sz m a] [hb : Sz n b] : Sz (m + n + 1) (a - b) := by
  rw [Rat.sub_eq_add_neg]
  exact sz_add
instance sz_mul [ha : Sz m a] [hb : Sz n b] : Sz (m + n) (a * b) := by
  rw [mul_eq]
  refine sz_divInt (dd_ne a b) ?_ ?_
  · rw [Int.natAbs_mul]; exact pw_mul ha.nu hb.nu
  · rw [Int.natAbs_mul]; exact pw_mul ha.d' hb.d'
instance sz_div [ha : Sz m a] [hb : Sz n b] : Sz (m + n) (a / b) := by
  by_cases h0 : b = 0
  · subst h0
    rw [Rat.div_def, Rat.inv_zero, Rat.mul_zero]
    have := ha.one
    exact ⟨Nat.pow_pos (by decide), pw_up this (by omega)⟩
  · rw [div_eq]
    refine sz_divInt (Int.mul_ne_zero (by have := den_pos' a; omega) (num_ne h0)) ?_ ?_
    · rw [Int.natAbs_mul]; exact pw_mul ha.nu hb.d'
    · rw [Int.natAbs_mul]; exact pw_mul ha.d' hb.nu
instance sz_0 : Sz 1 (0 : Rat) := ⟨by decide, by decide⟩
instance sz_1 : Sz 1 (1 : Rat) := ⟨by decide, by decide⟩
instance sz_2 : Sz 2 (2 : Rat) := ⟨by decide, by decide⟩
instance sz_9 : Sz 4 (9 : Rat) := ⟨by decide, by decide⟩
instance sz_99 : Sz 7 (99 : Rat) := ⟨by decide, by decide⟩
theorem mNN (ha : Sz m a) (hb : Sz n b) (h : m + n ≤ 134217728) : IntMulOk a.num b.num := mulOk ha.nu hb.nu h
theorem mND (ha : Sz m a) (hb : Sz n b) (h : m + n ≤ 134217728) : IntMulOk a.num (b.den : Int) := mulOk ha.nu hb.d' h
theorem mDN (ha : Sz m a) (hb : Sz n b) (h : m + n ≤ 134217728) : IntMulOk (a.den : Int) b.num := mulOk ha.d' hb.nu h
theorem mDD (ha : Sz m a) (hb : Sz n b) (h : m + n ≤ 134217728) : IntMulOk (a.den : Int) (b.den : Int) := mulOk ha.d' hb.d' h
theorem Sz.dd {B : Nat} (ha : Sz m a) (hb : Sz n b) (h : m + n ≤ B) : ((a.den : Int) * (b.den : Int)).natAbs < 2 ^ B := by
  rw [Int.natAbs_mul]; exact pw_up (pw_mul ha.d' hb.d') h
theorem Sz.dn {B : Nat} (ha : Sz m a) (hb : Sz n b) (h : m + n ≤ B) : ((a.den : Int) * b.num).natAbs < 2 ^ B := by
  rw [Int.natAbs_mul]; exact pw_up (pw_mul ha.d' hb.nu) h
end
theorem dq_inj {a b : Rat} (h : dq a = dq b) : a = b := by
  unfold dq at h
  simp only [Dt.tup.injEq, List.cons.injEq, Dt.int.injEq, and_true] at h
  exact Rat.ext h.1 (by omega)
theorem pln_dq {k : Nat} {a : Rat} : pln (k + 1) (dq a) := by
  unfold dq
  intro x hx
  simp at hx
  rcases hx with rfl | rfl <;> exact pln_int
@[simp] theorem okD_dq {a : Rat} : okD (dq a) := pln.ok (k := 1) pln_dq
@[simp] theorem eqv_dq {a b : Rat} : eqv (dq a) (dq b) = decide (a = b) := by
  by_cases h : a = b
  · subst h; rw [eqv_self (k := 1) pln_dq]; simp
  · rw [eqv_false (k := 1) pln_dq pln_dq (fun z => h (dq_inj z))]; simp [h]
/-! ### lists -/
class Ln {α : Type} (k : outParam Nat) (l : List α) : Prop where
  le : l.length ≤ k
section
variable {α β : Type} {k m : Nat} {l l' : List α}
instance ln_nil : Ln 0 ([] : List α) := ⟨by simp⟩
instance ln_cons {x : α} [h : Ln k l] : Ln (k + 1) (x :: l) := ⟨by have := h.le; simp; exact this⟩
instance ln_map {f : α → β} [h : Ln k l] : Ln k (l.map f) := ⟨by have := h.le; simpa using this⟩
instance ln_filter {p : α → Bool} [h : Ln k l] : Ln k (l.filter p) := ⟨Nat.le_trans (List.length_filter_le _ _) h.le⟩
instance ln_append [h : Ln k l] [h' : Ln m l'] : Ln (k + m) (l ++ l') := ⟨by have := h.le; have := h'.le; rw [List.length_append]; omega⟩
end
class SzL (n : outParam Nat) (l : List Rat) : Prop where
  all : ∀ q, q ∈ l → Sz n q
def tot (qs : List Rat) : Rat := qs.foldl (· + ·) 0
theorem tot_take {qs : List Rat} {k : Nat} {q : Rat} (h : qs[k]? = some q) : tot (qs.take (k + 1)) = tot (qs.take k) + q := by
  rw [List.take_add_one, h]
  unfold tot
  rw [List.foldl_append]
  rfl
theorem foldl_add (qs : List Rat) (s : Rat) : qs.foldl (· + ·) s = s + tot qs := by
  unfold tot
  induction qs generalizing s with
  | nil => simp [Rat.add_zero]
  | cons q qs ih =>
    rw [List.foldl_cons, List.foldl_cons, ih, ih (0 + q), Rat.zero_add, Rat.add_assoc]
@[simp] theorem tot_nil : tot [] = 0 := rfl
@[simp] theorem tot_cons {q : Rat} {qs : List Rat} : tot (q :: qs) = q + tot qs := by
  show List.foldl _ (0 + q) qs = _
  rw [foldl_add, Rat.zero_add]
@[simp] theorem tot_append {xs ys : List Rat} : tot (xs ++ ys) = tot xs + tot ys := by
  induction xs with
  | nil => simp [Rat.zero_add]
  | cons x xs ih => simp [ih, Rat.add_assoc]
theorem sz_take {n : Nat} {qs : List Rat} (h : SzL n qs) : ∀ k, k ≤ qs.length → Sz (k * (n + 1) + 1) (tot (qs.take k)) := by
  intro k
  induction k with
  | zero => intro _; exact sz_0.up (by omega)
  | succ k ih =>
    intro hk
    have e : qs[k]? = some qs[k] := List.getElem?_eq_getElem (by omega)
    rw [tot_take e]
    have h1 := ih (by omega)
    have h2 := h.all qs[k] (List.getElem_mem _)
    exact (sz_add (a := tot (qs.take k)) (b := qs[k])).up (by rw [Nat.add_mul]; omega)
instance sz_tot {n k : Nat} {qs : List Rat} [h : SzL n qs] [l : Ln k qs] : Sz (k * (n + 1) + 1) (tot qs) := by
  have := sz_take h qs.length (Nat.le_refl _)
  rw [List.take_length] at this
  exact this.up (Nat.add_le_add_right (Nat.mul_le_mul_right _ l.le) _)
/-- x is in l -/
class Mm {α : Type} (x : α) (l : outParam (List α)) : Prop where
  m : x ∈ l
theorem szl_of {α : Type} {n : Nat} {l : List α} {f : α → Rat} (h : ∀ x, [Mm x l] → Sz n (f x)) : SzL n (l.map f) := ⟨fun q hq => by
  obtain ⟨x, hx, rfl⟩ := List.mem_map.mp hq
  have : Mm x l := ⟨hx⟩
  exact h x⟩
instance szl_nil : SzL 1 [] := ⟨fun _ h => by cases h⟩
theorem Sz.l {n : Nat} {l : List Rat} (h : SzL n l) {q : Rat} (m : q ∈ l) : Sz n q := h.all q m
end FQ

set_option maxRecDepth 100000
set_option maxHeartbeats 1000000
namespace KK
open PySem L2 DL FQ
theorem c_divisor {a b : Int} {P : Dt → Prop} {E : Xc → Prop} (h : P (.int (Int.gcd a b))) : sp_divisor [.int a, .int b] P E := by
  refine ⟨rfl, ?_⟩
  show m_divisor [.im (.int a), .im (.int b)] _
  simp only [m_divisor, sSeq, sPar, sWhile, sRet, xE, eCB, f1, absD, aCons, aNil, eVar, sl_c0, sl_c1, bT, eOp, neD, eC, modI, put_c0, put_c1]
  refine ⟨fun m e => ∃ x y : Nat, e = [.im (.int x), .im (.int y)] ∧ Nat.gcd x y = Int.gcd a b ∧ m = y, ⟨b.natAbs, a.natAbs, b.natAbs, ?_, rfl, rfl⟩, ?_⟩
  · rw [abs_nat, abs_nat]
  · rintro m e ⟨x, y, rfl, hg, rfl⟩
    simp
    by_cases h0 : m = 0
    · subst h0
      simp at hg ⊢
      rw [← hg] at h
      exact h
    · simp [h0]
      refine ⟨x % m, Nat.mod_lt _ (by omega), m, ⟨rfl, fmod_nat _ _⟩, ?_⟩
      rw [← hg, Nat.gcd_comm x m, Nat.gcd_rec m x, Nat.gcd_comm]
theorem c_part {u l : Int} {P : Dt → Prop} {E : Xc → Prop} (hl : l ≠ 0) (hz : l.natAbs < 2 ^ 7990) (h : P (dq (Rat.divInt u l))) : sp_part [.int u, .int l] P E := by
  have key : ∀ u l : Int, 0 < l → l.natAbs < 2 ^ 7990 → P (dq (Rat.divInt u l)) → P (.tup [.int (u.fdiv (Int.gcd u l : Nat)), .int (l.fdiv (Int.gcd u l : Nat))]) := fun u l h1 h2 h3 => by
    have hg := gcd_pos (u := u) (l := l) (by omega)
    rw [fdiv_pos (by omega), fdiv_pos (by omega), ← dq_pos h1]
    exact h3
  have ok : ∀ u l a : Int, 0 < l → l.natAbs < 2 ^ 7990 → ((Int.gcd u l : Nat) : Int) ≠ 0 ∧ DivOk a (Int.gcd u l : Nat) := fun u l a h1 h2 => by
    have hg := gcd_pos (u := u) (l := l) (by omega)
    refine ⟨by omega, divOk ?_⟩
    have := gcd_le (u := u) (l := l) (by omega)
    rw [Int.natAbs_natCast]
    exact Nat.lt_of_le_of_lt this (Nat.lt_trans h2 (Nat.pow_lt_pow_right (by decide) (by decide)))
  refine ⟨rfl, ?_⟩
  show m_part [.im (.int u), .im (.int l), .no] _
  simp [m_part]
  by_cases hn : l < 0
  · simp only [hn, if_true]
    refine c_divisor ⟨ok _ _ _ (by omega) (by omega), ok _ _ _ (by omega) (by omega), key _ _ (by omega) (by omega) ?_⟩
    rw [← Int.zero_sub, ← Int.zero_sub, divInt_neg2]
    exact h
  · simp only [hn, if_false]
    exact c_divisor ⟨ok _ _ _ (by omega) hz, ok _ _ _ (by omega) hz, key _ _ (by omega) hz h⟩
theorem c_plus {m n : Nat} {a b : Rat} {P : Dt → Prop} {E : Xc → Prop} [ha : Sz m a] [hb : Sz n b] (h : P (dq (a + b))) (hmn : m + n ≤ 7990 := by decide) : sp_plus [dq a, dq b] P E := by
  refine ⟨rfl, ?_⟩
  show m_plus [.im (dq a), .im (dq b)] _
  simp [m_plus, dq]
  exact ⟨mND ha hb (by omega), mND hb ha (by omega), mDD ha hb (by omega), c_part (dd_ne a b) (ha.dd hb hmn) (by rw [← add_eq]; exact h)⟩
theorem c_minus {m n : Nat} {a b : Rat} {P : Dt → Prop} {E : Xc → Prop} [ha : Sz m a] [hb : Sz n b] (h : P (dq (a - b))) (hmn : m + n ≤ 7990 := by decide) : sp_minus [dq a, dq b] P E := by
  refine ⟨rfl, ?_⟩
  show m_minus [.im (dq a), .im (dq b)] _
  simp [m_minus, dq]
  exact ⟨mND ha hb (by omega), mND hb ha (by omega), mDD ha hb (by omega), c_part (dd_ne a b) (ha.dd hb hmn) (by rw [← sub_eq]; exact h)⟩
theorem c_times {m n : Nat} {a b : Rat} {P : Dt → Prop} {E : Xc → Prop} [ha : Sz m a] [hb : Sz n b] (h : P (dq (a * b))) (hmn : m + n ≤ 7990 := by decide) : sp_times [dq a, dq b] P E := by
  refine ⟨rfl, ?_⟩
  show m_times [.im (dq a), .im (dq b)] _
  simp [m_times, dq]
  exact ⟨mNN ha hb (by omega), mDD ha hb (by omega), c_part (dd_ne a b) (ha.dd hb hmn) (by rw [← mul_eq]; exact h)⟩
theorem c_over {m n : Nat} {a b : Rat} {P : Dt → Prop} {E : Xc → Prop} [ha : Sz m a] [hb : Sz n b] (h0 : b ≠ 0) (h : P (dq (a / b))) (hmn : m + n ≤ 7990 := by decide) : sp_over [dq a, dq b] P E := by
  refine ⟨rfl, ?_⟩
  show m_over [.im (dq a), .im (dq b)] _
  simp [m_over, dq]
  exact ⟨mND ha hb (by omega), mDN ha hb (by omega), c_part (Int.mul_ne_zero (by have := den_pos' a; omega) (num_ne h0)) (ha.dn hb hmn) (by rw [← div_eq]; exact h)⟩
theorem c_is_less {m n : Nat} {a b : Rat} {P : Dt → Prop} {E : Xc → Prop} [ha : Sz m a] [hb : Sz n b] (h : P (.bl (decide (a < b)))) (hmn : m + n ≤ 134217728 := by decide) : sp_is_less [dq a, dq b] P E := by
  refine ⟨rfl, ?_⟩
  show m_is_less [.im (dq a), .im (dq b)] _
  simp [m_is_less, dq]
  exact ⟨mND ha hb hmn, mND hb ha (by omega), by simpa [Rat.lt_iff] using h⟩
theorem c__law_less {m n : Nat} {a b : Rat} {P : Dt → Prop} {E : Xc → Prop} [ha : Sz m a] [hb : Sz n b] (h : P (.bl (decide (a < b)))) (hmn : m + n ≤ 134217728 := by decide) : sp__law_less [dq a, dq b] P E := by
  refine ⟨rfl, ?_⟩
  show m__law_less [.im (dq a), .im (dq b)] _
  simp [m__law_less, dq]
  exact ⟨mND ha hb hmn, mND hb ha (by omega), by simpa [Rat.lt_iff] using h⟩
theorem c__law_fr {u l : Int} {P : Dt → Prop} {E : Xc → Prop} (hl : l ≠ 0) (hz : l.natAbs < 2 ^ 1980) (h : P (dq (Rat.divInt u l))) : sp__law_fr [.int u, .int l] P E := by
  have key : ∀ u l : Int, 0 < l → l.natAbs < 2 ^ 1980 → P (dq (Rat.divInt u l)) →
      sSeq (sPar 2 3 (xE (eCB (f1 absD) (aCons (eVar 0) aNil))) (xE (eVar 1)))
        (sSeq (sFor (iRange1 (aCons (eC (.int 4000)) aNil)) (gN 4) (sSeq (sIf (bT (eOp eqD (eVar 3) (eC (.int 0)))) sBreak sNext)
          (sPar 2 3 (xE (eVar 3)) (xE (eOp modI (eCB (f1 intD) (aCons (eVar 2) aNil)) (eVar 3))))))
        (sRet (eTup (aCons (eOp divI (eVar 0) (eVar 2)) (aCons (eOp divI (eVar 1) (eVar 2)) aNil))))) [.im (.int u), .im (.int l), .no, .no, .no] { nx := fun _ => P .non, rt := P, ex := fun x _ => E x } := fun u l h1 h2 h3 => by
    simp
    have ln : ((l.natAbs : Nat) : Int) = l := by omega
    have hg := gcd_pos (u := u) (l := l) (by omega)
    have dv : ∀ a : Int, ((Int.gcd u l : Nat) : Int) ≠ 0 ∧ DivOk a (Int.gcd u l : Nat) := fun a => by
      refine ⟨by omega, divOk ?_⟩
      have := gcd_le (u := u) (l := l) (by omega)
      rw [Int.natAbs_natCast]
      exact Nat.lt_of_le_of_lt this (Nat.lt_trans h2 (Nat.pow_lt_pow_right (by decide) (by decide)))
    refine forD_inv (fun i e => ∃ (x y : Nat) (t : Sl), e = [.im (.int u), .im (.int l), .im (.int x), .im (.int y), t] ∧ Nat.gcd x y = Int.gcd u l ∧ ((i = 0 ∧ y = l.natAbs) ∨ (1 ≤ i ∧ y < x ∧ x * y * 2 ^ (i - 1) < 2 ^ 3960))) ?_ ?_ ?_
    · exact ⟨u.natAbs, l.natAbs, .no, by rw [abs_nat, ln], rfl, .inl ⟨rfl, rfl⟩⟩
    · rintro i d e - ⟨x, y, t, rfl, hgc, hi⟩ nx hnx
      simp
      by_cases h0 : y = 0
      · subst h0
        rw [Nat.gcd_zero_right] at hgc
        subst hgc
        simp only [Int.natCast_eq_zero, decide_true, if_true]
        refine ⟨⟨by omega, (dv u).2⟩, ⟨by omega, (dv l).2⟩, ?_⟩
        rw [fdiv_pos (by omega), fdiv_pos (by omega), ← dq_pos h1]
        exact h3
      · simp [h0]
        refine hnx _ ⟨y, x % y, .im d, by rw [fmod_nat], ?_, .inr ⟨by omega, ?_⟩⟩
        · rw [← hgc, Nat.gcd_comm x y, Nat.gcd_rec y x, Nat.gcd_comm]
        · rcases hi with ⟨rfl, rfl⟩ | ⟨h4, h5, h6⟩
          · have h7 := Nat.mod_lt x (Nat.pos_of_ne_zero h0)
            refine ⟨h7, ?_⟩
            simp only [Nat.zero_add, Nat.sub_self, Nat.pow_zero, Nat.mul_one]
            have e : (2 : Nat) ^ 3960 = 2 ^ 1980 * 2 ^ 1980 := Nat.pow_add 2 1980 1980
            rw [e]
            exact Nat.mul_lt_mul'' h2 (by omega)
          · have := half_step h5 h0 h6
            refine ⟨this.1, ?_⟩
            have e : (2 : Nat) ^ (i + 1 - 1) = 2 * 2 ^ (i - 1) := by
              obtain ⟨j, rfl⟩ : ∃ j, i = j + 1 := ⟨i - 1, by omega⟩
              simp [Nat.pow_succ, Nat.mul_comm]
            rw [e]
            exact this.2
    · rintro e ⟨x, y, t, rfl, hgc, hi⟩
      have hl4 : (rng 0 1 4000).length = 4000 := by simp [rng]
      rw [hl4] at hi
      have h0 : y = 0 := by
        rcases hi with ⟨h, _⟩ | ⟨_, h5, h6⟩
        · omega
        · refine Classical.byContradiction fun hy => ?_
          have : 1 ≤ x * y := Nat.mul_pos (by omega) (Nat.pos_of_ne_zero hy)
          have h7 := Nat.mul_le_mul_right (2 ^ (4000 - 1)) this
          have h8 : (2 : Nat) ^ 3960 ≤ 2 ^ (4000 - 1) := Nat.pow_le_pow_right (by decide) (by decide)
          omega
      subst h0
      rw [Nat.gcd_zero_right] at hgc
      subst hgc
      simp
      refine ⟨⟨by omega, (dv u).2⟩, ⟨by omega, (dv l).2⟩, ?_⟩
      rw [fdiv_pos (by omega), fdiv_pos (by omega), ← dq_pos h1]
      exact h3
  refine ⟨rfl, ?_⟩
  show m__law_fr [.im (.int u), .im (.int l), .no, .no, .no] _
  unfold m__law_fr
  by_cases hn : l < 0
  · have := key (0 - u) (0 - l) (by omega) (by omega) (by rw [divInt_neg2]; exact h)
    simpa [hn] using this
  · have := key u l (by omega) hz h
    simpa [hn] using this
theorem c__law_add {m n : Nat} {a b : Rat} {P : Dt → Prop} {E : Xc → Prop} [ha : Sz m a] [hb : Sz n b] (h : P (dq (a + b))) (hmn : m + n ≤ 1980 := by decide) : sp__law_add [dq a, dq b] P E := by
  refine ⟨rfl, ?_⟩
  show m__law_add [.im (dq a), .im (dq b)] _
  simp [m__law_add, dq]
  exact ⟨mND ha hb (by omega), mND hb ha (by omega), mDD ha hb (by omega), c__law_fr (dd_ne a b) (ha.dd hb hmn) (by rw [← add_eq]; exact h)⟩
theorem c__law_sub {m n : Nat} {a b : Rat} {P : Dt → Prop} {E : Xc → Prop} [ha : Sz m a] [hb : Sz n b] (h : P (dq (a - b))) (hmn : m + n ≤ 1980 := by decide) : sp__law_sub [dq a, dq b] P E := by
  refine ⟨rfl, ?_⟩
  show m__law_sub [.im (dq a), .im (dq b)] _
  have := c__law_add (P := P) (E := E) (a := a) (b := -b) (by rw [← Rat.sub_eq_add_neg]; exact h) hmn
  rw [dq_neg] at this
  simpa [m__law_sub, dq] using this
theorem c__law_mul {m n : Nat} {a b : Rat} {P : Dt → Prop} {E : Xc → Prop} [ha : Sz m a] [hb : Sz n b] (h : P (dq (a * b))) (hmn : m + n ≤ 1980 := by decide) : sp__law_mul [dq a, dq b] P E := by
  refine ⟨rfl, ?_⟩
  show m__law_mul [.im (dq a), .im (dq b)] _
  simp [m__law_mul, dq]
  exact ⟨mNN ha hb (by omega), mDD ha hb (by omega), c__law_fr (dd_ne a b) (ha.dd hb hmn) (by rw [← mul_eq]; exact h)⟩
theorem c__law_over {m n : Nat} {a b : Rat} {P : Dt → Prop} {E : Xc → Prop} [ha : Sz m a] [hb : Sz n b] (h0 : b ≠ 0) (h : P (dq (a / b))) (hmn : m + n ≤ 1980 := by decide) : sp__law_over [dq a, dq b] P E := by
  refine ⟨rfl, ?_⟩
  show m__law_over [.im (dq a), .im (dq b)] _
  simp [m__law_over, dq]
  exact ⟨mND ha hb (by omega), mDN ha hb (by omega), c__law_fr (Int.mul_ne_zero (by have := den_pos' a; omega) (num_ne h0)) (ha.dn hb hmn) (by rw [← div_eq]; exact h)⟩
theorem c_whole_below {n : Nat} {a : Rat} {P : Dt → Prop} {E : Xc → Prop} [ha : Sz n a] (h : P (.int (a.num / (a.den : Int)))) (hn : n ≤ 7990 := by decide) : sp_whole_below [dq a] P E := by
  refine ⟨rfl, ?_⟩
  show m_whole_below [.im (dq a)] _
  have := den_pos' a
  simp [m_whole_below, dq]
  rw [fdiv_pos this]
  exact ⟨⟨a.den_nz, divOk (pw_up ha.d' (by omega))⟩, h⟩
end KK

set_option maxRecDepth 100000
set_option maxHeartbeats 1000000
/-! FQ2: reading parts, comprehensions over given lists. -/
namespace FQ
open PySem L2 DL
section
variable {q : Rat} {P : Dt → Prop}
@[simp] theorem ixD_dq0 : ixD (dq q) (.int 0) P = P (.int q.num) := by simp [dq]
@[simp] theorem ixD_dq1 : ixD (dq q) (.int 1) P = P (.int (q.den : Int)) := by simp [dq]
@[simp] theorem lenD_dq : lenD (dq q) P = P (.int 2) := by simp [dq]
@[simp] theorem seqD_dq {R : List Dt → Prop} : seqD (dq q) R = R [.int q.num, .int (q.den : Int)] := by simp [dq]
@[simp] theorem isNon_dq : isNonD (dq q) = false := rfl
@[simp] theorem tyS_dq : tyS (dq q) = "tuple" := rfl
@[simp] theorem isi_dq_tuple : isiD "tuple" (dq q) P = P (.bl true) := isi_tup_tuple
@[simp] theorem num_lt0 : q.num < 0 ↔ q < 0 := by
  have := Rat.num_nonneg (q := q)
  rw [← Int.not_le, this, Rat.not_le]
@[simp] theorem num_le0 : q.num ≤ 0 ↔ q ≤ 0 := by
  have h1 : q.num < 0 ↔ q < 0 := num_lt0
  have h2 : q.num = 0 ↔ q = 0 := Rat.num_eq_zero
  grind
@[simp] theorem num_ge0 : 0 ≤ q.num ↔ 0 ≤ q := Rat.num_nonneg
@[simp] theorem num_gt0 : 0 < q.num ↔ 0 < q := by
  have h1 : q.num ≤ 0 ↔ q ≤ 0 := num_le0
  grind
@[simp] theorem num_eq0 : q.num = 0 ↔ q = 0 := Rat.num_eq_zero
end
theorem dq0' : Dt.tup [.int 0, .int 1] = dq 0 := rfl
theorem dq1' : Dt.tup [.int 1, .int 1] = dq 1 := rfl
theorem dqI' (i : Int) : Dt.tup [.int i, .int 1] = dq (i : Rat) := rfl
section
variable {α β : Type} {e : α → Dt} {g : G} {it : IT} {ie : IE} {env : List Sl} {P : Dt → Prop}
theorem compD_E (o : β → Dt) (f : α → β) {as : List α} (h : ∀ a, a ∈ as → ∀ (Q : Dt → Prop) (R : Prop), Q (o (f a)) → cStep g it ie env (e a) Q R) (k : P (.lst ((as.map f).map o))) : compD g it ie env P (as.map e) [] :=
  compD_mapG (fun a => o (f a)) h (by rw [List.map_map] at k; exact k)
theorem compD_FE (o : β → Dt) (f : α → β) (p : α → Bool) {as : List α} (h : ∀ a, a ∈ as → ∀ (Q : Dt → Prop) (R : Prop), (if p a = true then Q (o (f a)) else R) → cStep g it ie env (e a) Q R) (k : P (.lst (((as.filter p).map f).map o))) : compD g it ie env P (as.map e) [] :=
  compD_fmG p (fun a => o (f a)) h (by rw [List.map_map] at k; exact k)
/-- any list that stands to the first as S says -/
theorem compD_RE (o : β → Dt) (S : α → β → Prop) {as : List α} (h : ∀ a, a ∈ as → ∀ (Q : Dt → Prop) (R : Prop), (∀ y, S a y → Q (o y)) → cStep g it ie env (e a) Q R) (k : ∀ ys, All2 S as ys → P (.lst (ys.map o))) : compD g it ie env P (as.map e) [] :=
  compD_relG S h (by simpa using k)
end
theorem init_c {n : Nat} {d : Dt} {ds : List Dt} : init (n + 1) (d :: ds) = .im d :: init n ds := by simp [init]
theorem init_n {n : Nat} : init n [] = List.replicate n .no := by simp [init]
theorem ln_of {α : Type} {k : Nat} {l : List α} [h : Ln k l] (hk : k ≤ 1000 := by decide) : l.length ≤ 16777216 := by have := h.le; omega
end FQ

set_option maxRecDepth 100000
set_option maxHeartbeats 1000000
/-! FQ3: draws, positive quotients, data with truth values. -/
namespace FQ
open PySem L2 DL
theorem tk {b : Int} {P : Dt → Prop} {E : Xc → Prop} (hb : 2 ≤ b := by decide) (h : ∀ r : Int, 0 ≤ r → r < b → P (.int r)) (hb' : b < 1073741824 := by decide) : sp__law_take [.st, .int b] P E :=
  ⟨hb', fun r _ h2 => h r (h2 hb).1 (h2 hb).2⟩
theorem dpos {u l : Int} (hu : 0 < u) (hl : 0 < l) : 0 < Rat.divInt u l := by
  rw [Rat.divInt_eq_div, Rat.div_def]
  exact Rat.mul_pos (Rat.intCast_pos.mpr hu) (Rat.inv_pos.mpr (Rat.intCast_pos.mpr hl))
theorem div_pos {a b : Rat} (ha : 0 < a) (hb : 0 < b) : 0 < a / b := by
  rw [Rat.div_def]
  exact Rat.mul_pos ha (Rat.inv_pos.mpr hb)
/-- plain data with truth values, at most k deep -/
def plB : Nat → Dt → Prop
  | _, .non => True
  | _, .bl _ => True
  | _, .int _ => True
  | _, .str x => PyData.strOk x = true
  | k + 1, .lst xs => ∀ x ∈ xs, plB k x
  | k + 1, .tup xs => ∀ x ∈ xs, plB k x
  | _, _ => False
theorem plB.lay : ∀ {k : Nat} {d : Dt}, plB k d → d.py.canLay0 = true ∧ d.py.depth ≤ k
  | _, .non, _ => ⟨by simp [Dt.py, PyData.canLay0], by simp [Dt.py, PyData.depth]⟩
  | _, .bl _, _ => ⟨by simp [Dt.py, PyData.canLay0], by simp [Dt.py, PyData.depth]⟩
  | _, .int _, _ => ⟨by simp [Dt.py, PyData.canLay0], by simp [Dt.py, PyData.depth]⟩
  | 0, .str x, h => ⟨by simpa [Dt.py, PyData.canLay0, plB] using h, by simp [Dt.py, PyData.depth]⟩
  | _ + 1, .str x, h => ⟨by simpa [Dt.py, PyData.canLay0, plB] using h, by simp [Dt.py, PyData.depth]⟩
  | k + 1, .lst xs, h => by
    have := pyAll_ok (k := k) (xs := xs) fun x hx => plB.lay (h x hx)
    simp only [Dt.py, PyData.canLay0, PyData.depth]
    exact ⟨this.1, by omega⟩
  | k + 1, .tup xs, h => by
    have := pyAll_ok (k := k) (xs := xs) fun x hx => plB.lay (h x hx)
    simp only [Dt.py, PyData.canLay0, PyData.depth]
    exact ⟨this.1, by omega⟩
  | 0, .lst _, h => by simp [plB] at h
  | 0, .tup _, h => by simp [plB] at h
  | 0, .dic _ _, h => by simp [plB] at h
  | _ + 1, .dic _ _, h => by simp [plB] at h
  | 0, .dit _ _, h => by simp [plB] at h
  | _ + 1, .dit _ _, h => by simp [plB] at h
  | 0, .st, h => by simp [plB] at h
  | _ + 1, .st, h => by simp [plB] at h
theorem plB.ok {k : Nat} {d : Dt} (h : plB k d) (hk : k ≤ 64 := by decide) : okD d := by
  obtain ⟨a, b⟩ := h.lay
  unfold okD SeqAt.shaped
  rw [a, decide_eq_true (Nat.le_trans b hk)]
  rfl
theorem eqvAll_self {xs : List Dt} (h : ∀ x ∈ xs, eqv x x = true) : PyData.eqvAll (pyL xs) (pyL xs) = true := by
  induction xs with
  | nil => simp [pyL, PyData.eqvAll]
  | cons x xs ih =>
    have h1 := h x (by simp)
    have h2 := ih fun a ha => h a (by simp [ha])
    unfold eqv at h1
    simp only [pyL, PyData.eqvAll, Bool.and_eq_true]
    exact ⟨h1, h2⟩
theorem eqv_refl : ∀ {k : Nat} {x : Dt}, plB k x → eqv x x = true := by
  intro k
  induction k with
  | zero =>
    intro x hx
    cases x <;> simp [plB] at hx <;> simp [eqv, Dt.py, PyData.eqv]
  | succ k ih =>
    intro x hx
    cases x <;> simp [plB] at hx <;> first
      | (simp [eqv, Dt.py, PyData.eqv]; done)
      | (simp only [eqv, Dt.py, PyData.eqv]
         exact eqvAll_self fun a ha => ih (hx a ha))
theorem plB_dq {k : Nat} {a : Rat} : plB (k + 1) (dq a) := by
  unfold dq
  intro x hx
  simp at hx
  rcases hx with rfl | rfl <;> (cases k <;> trivial)
theorem eqv_tup {xs ys : List Dt} : eqv (.tup xs) (.tup ys) = PyData.eqvAll (pyL xs) (pyL ys) := by simp only [eqv, Dt.py, PyData.eqv]
theorem eqv_lst {xs ys : List Dt} : eqv (.lst xs) (.lst ys) = PyData.eqvAll (pyL xs) (pyL ys) := by simp only [eqv, Dt.py, PyData.eqv]
theorem eqvA_n : PyData.eqvAll (pyL []) (pyL []) = true := by simp [pyL, PyData.eqvAll]
theorem eqvA_c {x y : Dt} {xs ys : List Dt} : PyData.eqvAll (pyL (x :: xs)) (pyL (y :: ys)) = (eqv x y && PyData.eqvAll (pyL xs) (pyL ys)) := by simp only [pyL, PyData.eqvAll, eqv]
theorem strOk_of (s : String) : PyData.strOk (PySem.Str.ofString s) = true := by
  rw [PySem.Str.ofString_eq_toList]
  unfold PyData.strOk
  simp only [← Array.all_toList, List.all_eq_true]
  intro c hc
  obtain ⟨d, _, rfl⟩ := List.mem_map.mp hc
  have := d.valid
  unfold UInt32.isValidChar Nat.isValidChar at this
  exact decide_eq_true (by show d.val.toNat < _; omega)
@[simp] theorem okD_s (s : String) : okD (.str (PySem.Str.ofString s)) := plB.ok (k := 0) (strOk_of s)
@[simp] theorem eqv_s (s : String) : eqv (.str (PySem.Str.ofString s)) (.str (PySem.Str.ofString s)) = true := eqv_refl (k := 0) (strOk_of s)
@[simp] theorem okD_bl (b : Bool) : okD (.bl b) := plB.ok (k := 0) trivial
theorem plB_1 {a : Dt} {k : Nat} (ha : plB k a) : plB (k + 1) (.tup [a]) := fun x hx => by
  simp at hx
  subst hx
  exact ha
theorem plB_2 {a b : Dt} {k : Nat} (ha : plB k a) (hb : plB k b) : plB (k + 1) (.tup [a, b]) := fun x hx => by
  simp at hx
  rcases hx with rfl | rfl
  · exact ha
  · exact hb
@[simp] theorem okD_qq (a b : Rat) : okD (.tup [dq a, dq b]) := (plB_2 (plB_dq (k := 0)) (plB_dq (k := 0))).ok
@[simp] theorem okD_qb (a : Rat) (b : Bool) : okD (.tup [dq a, .bl b]) := (plB_2 (plB_dq (k := 0)) (show plB 1 (.bl b) from trivial)).ok
@[simp] theorem eqv_qq (a b c d : Rat) : eqv (.tup [dq a, dq b]) (.tup [dq c, dq d]) = (decide (a = c) && decide (b = d)) := by
  rw [eqv_tup, eqvA_c, eqvA_c, eqvA_n, eqv_dq, eqv_dq, Bool.and_true]
theorem eqv_str_dq {x : Str} {a : Rat} : eqv (dq a) (.str x) = false := by simp [eqv, dq, Dt.py, PyData.eqv]
end FQ

set_option maxHeartbeats 1000000
/-! M16: lines between points, in plain Lean. -/
namespace CM
/-- straight on [u, v] -/
def Aff (f : Rat → Rat) (u v : Rat) : Prop := ∃ α β : Rat, ∀ s, u ≤ s → s ≤ v → f s = α + β * s
theorem Aff.sub {f : Rat → Rat} {u v u' v' : Rat} (h : Aff f u v) (h1 : u ≤ u') (h2 : v' ≤ v) : Aff f u' v' :=
  let ⟨α, β, e⟩ := h; ⟨α, β, fun s a b => e s (by grind) (by grind)⟩
theorem Aff.congr {f g : Rat → Rat} {u v : Rat} (h : Aff f u v) (e : ∀ s, u ≤ s → s ≤ v → g s = f s) : Aff g u v :=
  let ⟨α, β, k⟩ := h; ⟨α, β, fun s a b => by rw [e s a b, k s a b]⟩
theorem Aff.add {f g : Rat → Rat} {u v : Rat} (h : Aff f u v) (k : Aff g u v) : Aff (fun s => f s + g s) u v :=
  let ⟨α, β, e⟩ := h; let ⟨γ, δ, e'⟩ := k; ⟨α + γ, β + δ, fun s a b => by dsimp only; rw [e s a b, e' s a b]; grind⟩
theorem Aff.mul {f : Rat → Rat} {u v : Rat} (c : Rat) (h : Aff f u v) : Aff (fun s => c * f s) u v :=
  let ⟨α, β, e⟩ := h; ⟨c * α, c * β, fun s a b => by dsimp only; rw [e s a b]; grind⟩
theorem Aff.comp {f : Rat → Rat} (m b : Rat) {u' v' : Rat} (hm : 0 ≤ m) (h : Aff f (m * u' + b) (m * v' + b)) : Aff (fun s => f (m * s + b)) u' v' :=
  let ⟨α, β, e⟩ := h; ⟨α + β * b, β * m, fun s a c => by
    dsimp only
    rw [e (m * s + b) (by have := Rat.mul_le_mul_of_nonneg_left a hm; grind) (by have := Rat.mul_le_mul_of_nonneg_left c hm; grind)]
    grind⟩
theorem div_eq_of {a b c : Rat} (h : b ≠ 0) (e : a = c * b) : a / b = c := by
  rw [e, Rat.mul_div_cancel h]
/-- between -/
theorem Aff.mid {f : Rat → Rat} {u v s : Rat} (h : Aff f u v) (hu : u ≤ s) (hv : s ≤ v) (huv : u < v) : f u + (s - u) / (v - u) * (f v - f u) = f s := by
  obtain ⟨α, β, e⟩ := h
  rw [e s hu hv, e u (by grind) (by grind), e v (by grind) (by grind)]
  have h1 : α + β * v - (α + β * u) = β * (v - u) := by grind
  rw [h1]
  have h2 := Rat.div_mul_cancel (a := s - u) (b := v - u) (by grind)
  generalize (s - u) / (v - u) = q at *
  grind
theorem Aff.glue {f : Rat → Rat} {u x v p n : Rat} (h1 : Aff f u x) (h2 : Aff f x v) (h3 : Aff f p n) (a : u < x) (b : x < v) (c : p < x) (d : x < n) : Aff f u v := by
  obtain ⟨α, β, e⟩ := h1
  obtain ⟨γ, δ, e'⟩ := h2
  obtain ⟨ε, ζ, e''⟩ := h3
  -- the same line on either side
  have key1 : β = ζ := by
    obtain ⟨y, y1, y2, y3⟩ : ∃ y, u ≤ y ∧ p ≤ y ∧ y < x := ⟨if u < p then p else u, by grind⟩
    have a1 := e y (by grind) (by grind)
    have a2 := e x (by grind) (by grind)
    have a3 := e'' y (by grind) (by grind)
    have a4 := e'' x (by grind) (by grind)
    have : (β - ζ) * (x - y) = 0 := by grind
    grind
  have key2 : δ = ζ := by
    obtain ⟨y, y1, y2, y3⟩ : ∃ y, y ≤ v ∧ y ≤ n ∧ x < y := ⟨if v < n then v else n, by grind⟩
    have a1 := e' y (by grind) (by grind)
    have a2 := e' x (by grind) (by grind)
    have a3 := e'' y (by grind) (by grind)
    have a4 := e'' x (by grind) (by grind)
    have : (δ - ζ) * (y - x) = 0 := by grind
    grind
  refine ⟨α, β, fun s hs hv => ?_⟩
  by_cases hx : s ≤ x
  · exact e s hs hx
  · have a1 := e x (by grind) (by grind)
    have a2 := e' x (by grind) (by grind)
    have a3 := e' s (by grind) (by grind)
    grind
/-- straight between neighbours -/
def Chain (f : Rat → Rat) : List Rat → Prop
  | u :: v :: t => u < v ∧ Aff f u v ∧ Chain f (v :: t)
  | _ => True
abbrev Asc (xs : List Rat) : Prop := xs.Pairwise (· < ·)
theorem Chain.asc {f : Rat → Rat} : ∀ {xs : List Rat}, Chain f xs → Asc xs
  | [], _ => .nil
  | [x], _ => List.pairwise_singleton _ _
  | u :: v :: t, h => by
    have ih := Chain.asc h.2.2
    refine List.pairwise_cons.mpr ⟨fun a ha => ?_, ih⟩
    rcases List.mem_cons.mp ha with rfl | ha
    · exact h.1
    · have := (List.pairwise_cons.mp ih).1 a ha
      have := h.1
      grind
theorem Chain.congr {f g : Rat → Rat} : ∀ {xs : List Rat}, Chain f xs → (∀ s, (∃ x ∈ xs, x ≤ s) → g s = f s) → Chain g xs
  | [], _, _ => trivial
  | [x], _, _ => trivial
  | u :: v :: t, h, e => ⟨h.1, h.2.1.congr fun s a b => e s ⟨u, by simp, a⟩, Chain.congr h.2.2 fun s ⟨x, hx, hs⟩ => e s ⟨x, by simp [hx], hs⟩⟩
theorem chain_of {f : Rat → Rat} : ∀ {xs : List Rat}, Asc xs → (∀ u v, u ∈ xs → v ∈ xs → u < v → (∀ x ∈ xs, ¬ (u < x ∧ x < v)) → Aff f u v) → Chain f xs
  | [], _, _ => trivial
  | [x], _, _ => trivial
  | u :: v :: t, h, k => by
    obtain ⟨h1, h2⟩ := List.pairwise_cons.mp h
    obtain ⟨h3, h4⟩ := List.pairwise_cons.mp h2
    have huv := h1 v (by simp)
    refine ⟨huv, k u v (by simp) (by simp) huv fun x hx => ?_, chain_of h2 fun a b ha hb hab hn => k a b (by simp [ha]) (by simp [hb]) hab fun x hx => ?_⟩
    · rcases List.mem_cons.mp hx with rfl | hx
      · grind
      · rcases List.mem_cons.mp hx with rfl | hx
        · grind
        · have := h3 x hx
          grind
    · rcases List.mem_cons.mp hx with rfl | hx
      · have := h1 a ha
        grind
      · exact hn x hx
/-- where nothing that bends stands between -/
theorem Chain.aff {f : Rat → Rat} {l : Rat} : ∀ {xs : List Rat} {u v : Rat}, Chain f (xs ++ [l]) → (∃ x, (xs ++ [l]).head? = some x ∧ x ≤ u) → u < v → v ≤ l →
    (∀ x ∈ xs, u < x → x < v → ∃ p n, p < x ∧ x < n ∧ Aff f p n) → Aff f u v
  | [], u, v, _, ⟨x, hx, hu⟩, huv, hv, _ => by
    simp at hx
    grind
  | [y], u, v, h, ⟨x, hx, hu⟩, huv, hv, _ => by
    simp at hx
    subst hx
    exact h.2.1.sub hu hv
  | y :: z :: t, u, v, h, ⟨x, hx, hu⟩, huv, hv, sm => by
    simp at hx
    subst hx
    have h0 : Chain f ((z :: t) ++ [l]) := h.2.2
    by_cases h1 : v ≤ z
    · exact h.2.1.sub hu h1
    · by_cases h2 : z ≤ u
      · exact Chain.aff h0 ⟨z, by simp, h2⟩ huv hv fun x hx => sm x (by simp [hx])
      · obtain ⟨p, n, a, b, c⟩ := sm z (by simp) (by grind) (by grind)
        have i1 := h.2.1.sub hu (Rat.le_refl (a := z))
        have i2 := Chain.aff (u := z) (v := v) h0 ⟨z, by simp, Rat.le_refl⟩ (by grind) hv fun x hx h3 h4 => sm x (by simp [hx]) (by grind) h4
        exact i1.glue i2 c (by grind) (by grind) a b
/-- points -/
abbrev LL := List (Rat × Rat)
def pts (f : Rat → Rat) (xs : List Rat) : LL := xs.map fun x => (x, f x)
def seg : LL → Rat → Option Rat
  | (a, l) :: (b, h) :: t, s => if a ≤ s ∧ s < b then some (l + (s - a) / (b - a) * (h - l)) else seg ((b, h) :: t) s
  | _, _ => none
theorem seg_interp {f : Rat → Rat} {l s : Rat} : ∀ {xs : List Rat}, Chain f (xs ++ [l]) → (∃ x, (xs ++ [l]).head? = some x ∧ x ≤ s) → s < l → seg (pts f (xs ++ [l])) s = some (f s)
  | [], _, ⟨x, hx, hu⟩, hs => by simp at hx; grind
  | [y], h, ⟨x, hx, hu⟩, hs => by
    simp at hx
    subst hx
    show (if y ≤ s ∧ s < l then _ else _) = _
    rw [if_pos ⟨hu, hs⟩]
    exact congrArg some (h.2.1.mid hu (by grind) h.1)
  | y :: z :: t, h, ⟨x, hx, hu⟩, hs => by
    simp at hx
    subst hx
    show (if y ≤ s ∧ s < z then _ else seg (pts f ((z :: t) ++ [l])) s) = _
    by_cases h1 : s < z
    · rw [if_pos ⟨hu, h1⟩]
      exact congrArg some (h.2.1.mid hu (by grind) h.1)
    · rw [if_neg (by grind)]
      exact seg_interp h.2.2 ⟨z, by simp, by grind⟩ hs
/-- the heights of a row of points, d behind it -/
def fval (r : LL) (d s : Rat) : Rat := (seg r s).getD d
theorem fval_pts {d : Rat} : ∀ {r : LL} {a : Rat}, Asc ((r ++ [(a, d)]).map (·.1)) → r ++ [(a, d)] = pts (fval (r ++ [(a, d)]) d) ((r ++ [(a, d)]).map (·.1)) ∧ Chain (fval (r ++ [(a, d)]) d) ((r ++ [(a, d)]).map (·.1))
  | [], a, _ => ⟨rfl, trivial⟩
  | [(x, l)], a, h => by
    have hx : x < a := by simpa using h
    have e1 : fval [(x, l), (a, d)] d x = l := by
      unfold fval seg
      rw [if_pos ⟨Rat.le_refl, hx⟩]
      simp
      have : x - x = 0 := by grind
      rw [this, Rat.div_def, Rat.zero_mul]
      grind
    have e2 : fval [(x, l), (a, d)] d a = d := by
      unfold fval seg
      rw [if_neg (by grind)]
      rfl
    refine ⟨by simp [pts, e1, e2], hx, ⟨l - (d - l) / (a - x) * x, (d - l) / (a - x), fun s h1 h2 => ?_⟩, trivial⟩
    have q := Rat.div_mul_cancel (a := d - l) (b := a - x) (by grind)
    by_cases hs : s < a
    · show fval [(x, l), (a, d)] d s = _
      unfold fval seg
      rw [if_pos ⟨h1, hs⟩]
      simp
      rw [Rat.div_def, Rat.div_def] at *
      generalize (a - x)⁻¹ = i at *
      grind
    · have : s = a := by grind
      subst this
      show fval [(x, l), (s, d)] d s = _
      rw [e2]
      generalize (d - l) / (s - x) = m at *
      grind
  | (x, l) :: (b, h) :: t, a, hA => by
    obtain ⟨h1, h2⟩ := List.pairwise_cons.mp (show Asc (x :: ((b, h) :: t ++ [(a, d)]).map (·.1)) from hA)
    obtain ⟨i1, i2⟩ := fval_pts (r := (b, h) :: t) h2
    have hxb : x < b := h1 b (by simp)
    have tl : ∀ s, b ≤ s → fval ((x, l) :: ((b, h) :: t ++ [(a, d)])) d s = fval ((b, h) :: t ++ [(a, d)]) d s := fun s hs => by
      show (seg ((x, l) :: (b, h) :: (t ++ [(a, d)])) s).getD d = _
      unfold seg
      rw [if_neg (by grind)]
      rfl
    have hb : fval ((b, h) :: t ++ [(a, d)]) d b = h := by
      have := congrArg List.head? i1
      simp [pts] at this
      exact this.symm
    have hd : ∀ s, x ≤ s → s < b → fval ((x, l) :: ((b, h) :: t ++ [(a, d)])) d s = l + (s - x) / (b - x) * (h - l) := fun s k1 k2 => by
      show (seg ((x, l) :: (b, h) :: (t ++ [(a, d)])) s).getD d = _
      unfold seg
      rw [if_pos ⟨k1, k2⟩]
      rfl
    have mem : ∀ y ∈ ((b, h) :: t ++ [(a, d)]).map (·.1), b ≤ y := fun y hy => by
      have : y = b ∨ y ∈ (t ++ [(a, d)]).map (·.1) := by simpa using hy
      rcases this with rfl | hy
      · exact Rat.le_refl
      · have := (List.pairwise_cons.mp (show Asc (b :: (t ++ [(a, d)]).map (·.1)) from h2)).1 y hy
        grind
    refine ⟨?_, hxb, ?_, i2.congr fun s ⟨y, hy, hs⟩ => tl s (by have := mem y hy; grind)⟩
    · show (x, l) :: ((b, h) :: t ++ [(a, d)]) = (x, _) :: pts _ _
      have e0 : fval ((x, l) :: ((b, h) :: t ++ [(a, d)])) d x = l := by
        rw [hd x Rat.le_refl hxb]
        have : x - x = 0 := by grind
        rw [this, Rat.div_def, Rat.zero_mul]
        grind
      have e1 : pts (fval ((x, l) :: ((b, h) :: t ++ [(a, d)])) d) (((b, h) :: t ++ [(a, d)]).map (·.1)) = pts (fval ((b, h) :: t ++ [(a, d)]) d) (((b, h) :: t ++ [(a, d)]).map (·.1)) := by
        unfold pts
        apply List.map_congr_left
        intro y hy
        rw [tl y (mem y hy)]
      have e2 := e1.trans i1.symm
      show _ = (x, fval ((x, l) :: ((b, h) :: t ++ [(a, d)])) d x) :: pts (fval ((x, l) :: ((b, h) :: t ++ [(a, d)])) d) (((b, h) :: t ++ [(a, d)]).map (·.1))
      rw [e0, e2]
    · refine ⟨l - (h - l) / (b - x) * x, (h - l) / (b - x), fun s k1 k2 => ?_⟩
      have q := Rat.div_mul_cancel (a := h - l) (b := b - x) (by grind)
      show fval ((x, l) :: ((b, h) :: t ++ [(a, d)])) d s = _
      by_cases hs : s < b
      · rw [hd s k1 hs]
        rw [Rat.div_def, Rat.div_def] at *
        generalize (b - x)⁻¹ = i at *
        grind
      · have : s = b := by grind
        subst this
        rw [tl s Rat.le_refl, hb]
        generalize (h - l) / (s - x) = m at *
        grind
theorem asc_ext : ∀ {xs ys : List Rat}, Asc xs → Asc ys → (∀ x, x ∈ xs ↔ x ∈ ys) → xs = ys
  | [], [], _, _, _ => rfl
  | [], y :: ys, _, _, h => by have := (h y).mpr (by simp); simp at this
  | x :: xs, [], _, _, h => by have := (h x).mp (by simp); simp at this
  | x :: xs, y :: ys, hx, hy, h => by
    obtain ⟨h1, h2⟩ := List.pairwise_cons.mp hx
    obtain ⟨h3, h4⟩ := List.pairwise_cons.mp hy
    have e : x = y := by
      have a := (h x).mp (by simp)
      have b := (h y).mpr (by simp)
      rcases List.mem_cons.mp a with e | a
      · exact e
      · rcases List.mem_cons.mp b with e | b
        · exact e.symm
        · have := h3 x a
          have := h1 y b
          grind
    subst e
    rw [asc_ext h2 h4 fun z => ?_]
    have := h z
    simp at this
    constructor
    · intro hz
      rcases this.mp (.inr hz) with rfl | k
      · have := h1 z hz
        grind
      · exact k
    · intro hz
      rcases this.mpr (.inr hz) with rfl | k
      · have := h3 z hz
        grind
      · exact k
end CM

set_option maxHeartbeats 1000000
/-! M16b: cams as functions with places. -/
namespace CM
open FQ
def flo (q : Rat) : Int := q.num / (q.den : Int)
def fr (q : Rat) : Rat := q - (flo q : Rat)
theorem fr_eq (q : Rat) : fr q = Rat.divInt (q.num % (q.den : Int)) q.den := by
  unfold fr flo
  have h := q.den_nz
  have e : q.num % (q.den : Int) = q.num - (q.num / (q.den : Int)) * (q.den : Int) := by
    have := Int.emod_add_mul_ediv q.num q.den
    rw [Int.mul_comm] at this
    omega
  rw [e]
  conv => lhs; rw [← Rat.num_divInt_den q]
  have e2 : ((q.num / (q.den : Int) : Int) : Rat) = Rat.divInt (q.num / (q.den : Int)) 1 := by rw [Rat.divInt_eq_div]; simp [Rat.div_def]; grind
  rw [Rat.num_divInt_den q, e2]
  conv => lhs; lhs; rw [← Rat.num_divInt_den q]
  rw [Rat.divInt_sub_divInt _ _ (by omega) (by decide)]
  simp
theorem fr_nn (q : Rat) : 0 ≤ fr q := by
  rw [fr_eq]
  exact Rat.divInt_nonneg (Int.emod_nonneg _ (by have := q.den_nz; omega)) (by omega)
theorem fr_lt (q : Rat) : fr q < 1 := by
  rw [fr_eq, Rat.divInt_eq_div]
  have hd : (0 : Rat) < ((q.den : Int) : Rat) := Rat.intCast_pos.mpr (den_pos' q)
  rw [Rat.div_lt_iff hd, Rat.one_mul]
  exact Rat.intCast_lt_intCast.mpr (Int.emod_lt_of_pos _ (den_pos' q))
theorem int_lt_one {m : Int} (h1 : (-1 : Rat) < (m : Rat)) (h2 : (m : Rat) < 1) : m = 0 := by
  have a : (-1 : Int) < m := by
    have : ((-1 : Int) : Rat) < (m : Rat) := by simpa using h1
    exact Rat.intCast_lt_intCast.mp this
  have b : m < 1 := by
    have : (m : Rat) < ((1 : Int) : Rat) := by simpa using h2
    exact Rat.intCast_lt_intCast.mp this
  omega
theorem fr_uniq {q s : Rat} (m : Int) (h0 : 0 ≤ s) (h1 : s < 1) (e : q = s + (m : Rat)) : fr q = s := by
  have a := fr_nn q
  have b := fr_lt q
  have hm : flo q - m = 0 := by
    refine int_lt_one ?_ ?_
    · have : ((flo q - m : Int) : Rat) = s - fr q := by unfold fr; rw [Rat.intCast_sub]; grind
      rw [this]; grind
    · have : ((flo q - m : Int) : Rat) = s - fr q := by unfold fr; rw [Rat.intCast_sub]; grind
      rw [this]; grind
  have : flo q = m := by omega
  unfold fr
  rw [this, e]
  grind
theorem fr_self {q : Rat} (h0 : 0 ≤ q) (h1 : q < 1) : fr q = q := fr_uniq 0 h0 h1 (by simp; grind)
theorem fr_int (q : Rat) : q = fr q + (flo q : Rat) := by unfold fr; grind
theorem sz_fr {n : Nat} {q : Rat} (h : Sz n q) : Sz n (fr q) := by
  rw [fr_eq]
  have := den_pos' q
  refine sz_divInt (by omega) ?_ h.d'
  have h1 := Int.emod_nonneg q.num (b := q.den) (by omega)
  have h2 := Int.emod_lt_of_pos q.num this
  have h3 := h.d'
  omega
theorem head0 : ∀ {U : List Rat}, Asc U → (0 : Rat) ∈ U → (∀ x ∈ U, 0 ≤ x) → U.head? = some 0
  | [], _, h, _ => by cases h
  | u :: t, ha, h, hn => by
    rcases List.mem_cons.mp h with e | h
    · rw [← e]; rfl
    · have := (List.pairwise_cons.mp ha).1 0 h
      have := hn u (by simp)
      grind
structure Cam (f : Rat → Rat) (S : List Rat) : Prop where
  hd : S.head? = some 0
  lt : ∀ x ∈ S, x < 1
  ch : Chain f (S ++ [1])
  per : f 1 = f 0
theorem asc_app {U : List Rat} (h : Asc U) (k : ∀ x ∈ U, x < 1) : Asc (U ++ [1]) := List.pairwise_append.mpr ⟨h, List.pairwise_singleton _ _, fun a ha b hb => by rw [List.mem_singleton.mp hb]; exact k a ha⟩
section
variable {f g : Rat → Rat} {S T U : List Rat}
theorem Cam.asc (c : Cam f S) : Asc S := (List.pairwise_append.mp c.ch.asc).1
theorem Cam.mem0 (c : Cam f S) : (0 : Rat) ∈ S := List.mem_of_mem_head? c.hd
theorem Cam.nn (c : Cam f S) : ∀ x ∈ S, 0 ≤ x := fun x hx => by
  match S, c.hd, c.asc, hx with
  | u :: t, h, ha, hx =>
    simp at h
    subst h
    rcases List.mem_cons.mp hx with rfl | hx
    · exact Rat.le_refl
    · have := (List.pairwise_cons.mp ha).1 x hx
      grind
theorem Cam.hd1 (c : Cam f S) {u : Rat} (h : 0 ≤ u) : ∃ x, (S ++ [1]).head? = some x ∧ x ≤ u := ⟨0, by have := c.hd; cases S <;> simp_all, h⟩
theorem Cam.aff (c : Cam f S) {u v : Rat} (h0 : 0 ≤ u) (huv : u < v) (h1 : v ≤ 1) (n : ∀ x ∈ S, ¬ (u < x ∧ x < v)) : Aff f u v :=
  c.ch.aff (c.hd1 h0) huv h1 fun x hx a b => (n x hx ⟨a, b⟩).elim
theorem Cam.val (c : Cam f S) {s : Rat} (h0 : 0 ≤ s) (h1 : s < 1) : seg (pts f (S ++ [1])) s = some (f s) := seg_interp c.ch (c.hd1 h0) h1
theorem cam_of (ha : Asc U) (h0 : (0 : Rat) ∈ U) (hr : ∀ x ∈ U, 0 ≤ x ∧ x < 1) (p : f 1 = f 0) (k : ∀ u v, 0 ≤ u → u < v → v ≤ 1 → (∀ x ∈ U, ¬ (u < x ∧ x < v)) → Aff f u v) : Cam f U := by
  refine ⟨head0 ha h0 fun x hx => (hr x hx).1, fun x hx => (hr x hx).2, chain_of (asc_app ha fun x hx => (hr x hx).2) fun u v hu hv huv n => ?_, p⟩
  have hu0 : 0 ≤ u := by
    rcases List.mem_append.mp hu with hu | hu
    · exact (hr u hu).1
    · rw [List.mem_singleton.mp hu]; grind
  have hv1 : v ≤ 1 := by
    rcases List.mem_append.mp hv with hv | hv
    · have := (hr v hv).2; grind
    · rw [List.mem_singleton.mp hv]; exact Rat.le_refl
  exact k u v hu0 huv hv1 fun x hx => n x (List.mem_append_left _ hx)
theorem Cam.refine (c : Cam f S) (ha : Asc U) (hr : ∀ x ∈ U, 0 ≤ x ∧ x < 1) (hs : ∀ x ∈ S, x ∈ U) : Cam f U :=
  cam_of ha (hs 0 c.mem0) hr c.per fun u v h0 huv h1 n => c.aff h0 huv h1 fun x hx => n x (hs x hx)
theorem Cam.add (c : Cam f S) (d : Cam g S) : Cam (fun x => f x + g x) S :=
  cam_of c.asc c.mem0 (fun x hx => ⟨c.nn x hx, c.lt x hx⟩) (by rw [c.per, d.per]) fun u v h0 huv h1 n => (c.aff h0 huv h1 n).add (d.aff h0 huv h1 n)
theorem Cam.mul (b : Rat) (c : Cam f S) : Cam (fun x => b * f x) S :=
  cam_of c.asc c.mem0 (fun x hx => ⟨c.nn x hx, c.lt x hx⟩) (by rw [c.per]) fun u v h0 huv h1 n => (c.aff h0 huv h1 n).mul b
theorem Cam.comp (c : Cam f S) {m b : Rat} (hm : 0 < m) (ha : Asc U) (h0 : (0 : Rat) ∈ U) (hr : ∀ x ∈ U, 0 ≤ x ∧ x < 1) (hp : fr (m * 1 + b) = fr (m * 0 + b))
    (hU : ∀ x ∈ S, ∀ y, 0 < y → y < 1 → (∃ k : Int, m * y + b = x + (k : Rat)) → y ∈ U) : Cam (fun x => f (fr (m * x + b))) U := by
  refine cam_of ha h0 hr (by rw [hp]) fun u v hu0 huv hv1 n => ?_
  have e := fr_int (m * u + b)
  have f1 := fr_nn (m * u + b)
  have f2 := fr_lt (m * u + b)
  generalize hk : flo (m * u + b) = k at *
  generalize fr (m * u + b) = w at *
  -- the end stays within the same turn
  have inv : ∀ t, ∃ y, m * y = t := fun t => ⟨t / m, by
    have := Rat.div_mul_cancel (a := t) (b := m) (by grind)
    rw [Rat.mul_comm]
    exact this⟩
  have mono : ∀ {y z : Rat}, m * y < m * z → y < z := fun {y z} h => (Rat.mul_lt_mul_left hm).mp h
  have hv : m * v + b - (k : Rat) ≤ 1 := by
    refine Classical.byContradiction fun z => ?_
    obtain ⟨y, hy⟩ := inv ((k : Rat) + 1 - b)
    have y1 : u < y := mono (by grind)
    have y2 : y < v := mono (by grind)
    refine n y (hU 0 c.mem0 y (by grind) (by grind) ⟨k + 1, by rw [Rat.intCast_add]; simp; grind⟩) ⟨y1, y2⟩
  have lift : ∀ s, u ≤ s → s ≤ v → f (fr (m * s + b)) = f (m * s + (b - (k : Rat))) := fun s s1 s2 => by
    have a1 := Rat.mul_le_mul_of_nonneg_left s1 (Rat.le_of_lt hm)
    have a2 := Rat.mul_le_mul_of_nonneg_left s2 (Rat.le_of_lt hm)
    by_cases h : m * s + (b - (k : Rat)) < 1
    · rw [fr_uniq k (s := m * s + (b - (k : Rat))) (by grind) h (by grind)]
    · have e1 : m * s + (b - (k : Rat)) = 1 := by grind
      rw [e1, fr_uniq (k + 1) (s := 0) Rat.le_refl (by grind) (by rw [Rat.intCast_add]; simp; grind), c.per]
  have muv := (Rat.mul_lt_mul_left hm).mpr huv
  refine Aff.congr (Aff.comp m (b - (k : Rat)) (Rat.le_of_lt hm) (c.aff (u := m * u + (b - (k : Rat))) (v := m * v + (b - (k : Rat))) (by grind) (by grind) (by grind) fun x hx hxx => ?_)) lift
  obtain ⟨y, hy⟩ := inv (x + (k : Rat) - b)
  have y1 : u < y := mono (by grind)
  have y2 : y < v := mono (by grind)
  exact n y (hU x hx y (by grind) (by grind) ⟨k, by grind⟩) ⟨y1, y2⟩
end
end CM

set_option maxRecDepth 100000
set_option maxHeartbeats 1000000
namespace KK
open PySem L2 DL FQ CM
abbrev mst (w : String) : Xc := ("Misstep", [.str (PySem.Str.ofString w)])
def dh (s v : Rat) : Dt := .tup [dq s, dq v]
/-- the times, ascending, from lo on and below hi, at which s + k = t * v for a whole k -/
structure IsMeet (v s lo hi : Rat) (L : List Rat) : Prop where
  asc : Asc L
  mem : ∀ t, t ∈ L ↔ lo ≤ t ∧ t < hi ∧ ∃ k : Int, t = (s + (k : Rat)) / v
theorem IsMeet.uniq {v s lo hi : Rat} {L L' : List Rat} (h : IsMeet v s lo hi L) (h' : IsMeet v s lo hi L') : L = L' := asc_ext h.asc h'.asc fun x => (h.mem x).trans (h'.mem x).symm
theorem flo_le (q : Rat) : ((flo q : Int) : Rat) ≤ q := by have := fr_int q; have := fr_nn q; grind
theorem lt_flo (q : Rat) : q < ((flo q : Int) : Rat) + 1 := by have := fr_int q; have := fr_lt q; grind
theorem flo_le_of {q : Rat} {k : Int} (h : q ≤ (k : Rat)) : flo q ≤ k := by
  have := flo_le q
  exact Rat.intCast_le_intCast.mp (by grind)
theorem le_flo_of {q : Rat} {k : Int} (h : (k : Rat) ≤ q) : k ≤ flo q := by
  have := lt_flo q
  have h2 : (k : Rat) < ((flo q + 1 : Int) : Rat) := by rw [Rat.intCast_add]; grind
  have := Rat.intCast_lt_intCast.mp h2
  omega
def tmK (v s : Rat) (k : Int) : Rat := (s + (k : Rat)) / v
def hitK (v s lo hi : Rat) (k : Int) : Bool := !decide (tmK v s k < lo) && decide (tmK v s k < hi)
def iRun (a : Int) (n : Nat) : List Int := (List.range n).map fun i : Nat => a + (i : Int)
def hitL (v s lo hi : Rat) (ks : List Int) : List Rat := (ks.filter (hitK v s lo hi)).map (tmK v s)
theorem div_lt_div {a b v : Rat} (h : 0 < v) (l : a < b) : a / v < b / v := by
  rw [Rat.div_def, Rat.div_def]
  exact Rat.mul_lt_mul_of_pos_right l (Rat.inv_pos.mpr h)
theorem tm_pos {v s : Rat} (h : 0 < v) {j k : Int} (l : j < k) : tmK v s j < tmK v s k := by
  have := Rat.intCast_lt_intCast.mpr l
  unfold tmK
  exact div_lt_div h (by grind)
theorem tm_neg {v s : Rat} (h : v < 0) {j k : Int} (l : j < k) : tmK v s k < tmK v s j := by
  have := Rat.intCast_lt_intCast.mpr l
  unfold tmK
  have e : ∀ x : Rat, x / v = (-x) / (-v) := fun x => by grind
  rw [e, e (s + (j : Rat))]
  exact div_lt_div (by grind) (by grind)
theorem iRun_asc {a : Int} {n : Nat} : (iRun a n).Pairwise (· < ·) := by
  unfold iRun
  rw [List.pairwise_map]
  exact List.pairwise_lt_range.imp fun h => by omega
theorem mem_iRun {a k : Int} {n : Nat} : k ∈ iRun a n ↔ a ≤ k ∧ k < a + (n : Int) := by
  unfold iRun
  rw [List.mem_map]
  constructor
  · rintro ⟨i, hi, rfl⟩
    have := List.mem_range.mp hi
    omega
  · rintro ⟨h1, h2⟩
    exact ⟨(k - a).toNat, List.mem_range.mpr (by omega), by omega⟩
theorem mem_hitL {v s lo hi t : Rat} {ks : List Int} : t ∈ hitL v s lo hi ks ↔ ∃ k, k ∈ ks ∧ lo ≤ t ∧ t < hi ∧ t = tmK v s k := by
  unfold hitL hitK
  rw [List.mem_map]
  constructor
  · rintro ⟨k, hk, rfl⟩
    obtain ⟨h1, h2⟩ := List.mem_filter.mp hk
    simp at h2
    exact ⟨k, h1, by grind, h2.2, rfl⟩
  · rintro ⟨k, hk, h1, h2, rfl⟩
    refine ⟨k, List.mem_filter.mpr ⟨hk, ?_⟩, rfl⟩
    simp
    exact ⟨by grind, h2⟩
theorem hitL_pos {v s lo hi : Rat} (h : 0 < v) {a : Int} {n : Nat} (c : ∀ k : Int, lo ≤ tmK v s k → tmK v s k < hi → a ≤ k ∧ k < a + (n : Int)) : IsMeet v s lo hi (hitL v s lo hi (iRun a n)) := by
  refine ⟨?_, fun t => ?_⟩
  · unfold hitL
    show List.Pairwise _ _
    rw [List.pairwise_map]
    exact (iRun_asc.filter _).imp fun h2 => tm_pos h h2
  · rw [mem_hitL]
    constructor
    · rintro ⟨k, _, h1, h2, e⟩; exact ⟨h1, h2, k, e⟩
    · rintro ⟨h1, h2, k, rfl⟩; exact ⟨k, mem_iRun.mpr (c k h1 h2), h1, h2, rfl⟩
theorem hitL_neg {v s lo hi : Rat} (h : v < 0) {a : Int} {n : Nat} (c : ∀ k : Int, lo ≤ tmK v s k → tmK v s k < hi → a ≤ k ∧ k < a + (n : Int)) : IsMeet v s lo hi (hitL v s lo hi (iRun a n)).reverse := by
  refine ⟨?_, fun t => ?_⟩
  · unfold hitL
    show List.Pairwise _ _
    rw [List.pairwise_reverse, List.pairwise_map]
    exact (iRun_asc.filter _).imp fun h2 => tm_neg h h2
  · rw [List.mem_reverse, mem_hitL]
    constructor
    · rintro ⟨k, _, h1, h2, e⟩; exact ⟨h1, h2, k, e⟩
    · rintro ⟨h1, h2, k, rfl⟩; exact ⟨k, mem_iRun.mpr (c k h1 h2), h1, h2, rfl⟩
theorem tm_mul {v s : Rat} (h : v ≠ 0) (k : Int) : tmK v s k * v = s + (k : Rat) := by unfold tmK; grind
theorem in_pos {v s lo hi : Rat} (h : 0 < v) {k : Int} (h1 : lo ≤ tmK v s k) (h2 : tmK v s k < hi) : flo (lo * v - s) ≤ k ∧ k < flo (hi * v - s) + 2 := by
  have e := tm_mul (v := v) (s := s) (by grind) k
  have a1 := Rat.mul_le_mul_of_nonneg_right h1 (Rat.le_of_lt h)
  have a2 := Rat.mul_lt_mul_of_pos_right h2 h
  refine ⟨flo_le_of (by grind), ?_⟩
  have := le_flo_of (q := hi * v - s) (k := k) (by grind)
  omega
theorem in_neg {v s lo hi : Rat} (h : v < 0) {k : Int} (h1 : lo ≤ tmK v s k) (h2 : tmK v s k < hi) : flo (hi * v - s) ≤ k ∧ k < flo (lo * v - s) + 2 := by
  have e := tm_mul (v := v) (s := s) (by grind) k
  have h' : 0 < -v := by grind
  have a1 := Rat.mul_le_mul_of_nonneg_right h1 (Rat.le_of_lt h')
  have a2 := Rat.mul_lt_mul_of_pos_right h2 h'
  refine ⟨flo_le_of (by grind), ?_⟩
  have := le_flo_of (q := lo * v - s) (k := k) (by grind)
  omega
end KK

set_option maxRecDepth 100000
set_option maxHeartbeats 1000000
namespace KK
open PySem L2 DL FQ CM
section
variable {P : Dt → Prop} {E : Xc → Prop} {a b c d e j : Nat} {q s v t s1 v1 s2 v2 lo hi : Rat}
theorem sz_flo (h : Sz j q) : Sz j ((flo q : Int) : Rat) := by
  refine ⟨?_, ?_⟩
  · show (flo q).natAbs < _
    refine Nat.lt_of_le_of_lt ?_ h.nu
    exact Int.natAbs_ediv_le_natAbs _ _
  · show 1 < _
    exact h.one
theorem c_rest [h : Sz j q] (hP : P (dq (fr q))) (hz : j + j ≤ 7990 := by decide) : sp_rest [dq q] P E := by
  refine ⟨rfl, ?_⟩
  show m_rest [.im (dq q)] _
  simp [m_rest]
  refine c_whole_below ?_ (by omega)
  have := sz_flo h
  show sp_minus [dq q, dq ((flo q : Int) : Rat)] _ _
  exact c_minus hP hz
theorem c__law_rest [h : Sz j q] (hP : P (dq (fr q))) (hz : j + j + j ≤ 1980 := by decide) : sp__law_rest [dq q] P E := by
  refine ⟨rfl, ?_⟩
  show m__law_rest [.im (dq q)] _
  have hd := den_pos' q
  simp [m__law_rest]
  rw [fdiv_pos hd]
  refine ⟨⟨q.den_nz, divOk (pw_up h.d' (by omega))⟩, ?_, ?_⟩
  · refine mulOk (m := j) (n := j) ?_ h.d' (by omega)
    exact Nat.lt_of_le_of_lt (Int.natAbs_ediv_le_natAbs _ _) h.nu
  · refine c__law_fr (by omega) (pw_up h.d' (by omega)) ?_
    have e : q.num - q.num / (q.den : Int) * (q.den : Int) = q.num % (q.den : Int) := by
      have := Int.emod_add_mul_ediv q.num q.den
      rw [Int.mul_comm] at this
      omega
    rw [e, ← fr_eq]
    exact hP
/-- where a hand stands -/
def atH (s v t : Rat) : Rat := fr (s + v * t)
theorem sz_at [hs : Sz a s] [hv : Sz b v] [ht : Sz c t] : Sz (a + (b + c) + 1) (atH s v t) := sz_fr inferInstance
theorem c_stands [hs : Sz a s] [hv : Sz b v] [ht : Sz c t] (hP : P (dq (atH s v t))) (hz : a + b + c ≤ 3990 := by decide) : sp_stands [dh s v, dq t] P E := by
  refine ⟨rfl, ?_⟩
  show m_stands [.im (dh s v), .im (dq t)] _
  simp [m_stands, dh]
  refine c_times ?_ (by omega)
  refine c_plus ?_ (by omega)
  exact c_rest hP (by omega)
theorem c__law_at [hs : Sz a s] [hv : Sz b v] [ht : Sz c t] (hP : P (dq (atH s v t))) (hz : a + b + c ≤ 650 := by decide) : sp__law_at [dh s v, dq t] P E := by
  refine ⟨rfl, ?_⟩
  show m__law_at [.im (dh s v), .im (dq t)] _
  simp [m__law_at, dh]
  refine c__law_mul ?_ (by omega)
  refine c__law_add ?_ (by omega)
  exact c__law_rest hP (by omega)
theorem c_gap [h1 : Sz a s1] [h2 : Sz a v1] [h3 : Sz a s2] [h4 : Sz a v2] [ht : Sz c t] (hP : P (dq (fr (atH s2 v2 t - atH s1 v1 t)))) (hz : a + a + c ≤ 900 := by decide) : sp_gap [dh s1 v1, dh s2 v2, dq t] P E := by
  refine ⟨rfl, ?_⟩
  show m_gap [.im (dh s1 v1), .im (dh s2 v2), .im (dq t)] _
  simp [m_gap]
  refine c_stands ?_ (by omega)
  refine c_stands ?_ (by omega)
  have z1 := sz_at (s := s1) (v := v1) (t := t)
  have z2 := sz_at (s := s2) (v := v2) (t := t)
  refine c_minus ?_ (by omega)
  exact c_rest hP (by omega)
theorem tk_succ {α : Type} {l : List α} {i : Nat} {x : α} (h : l[i]? = some x) : l.take (i + 1) = l.take i ++ [x] := by rw [List.take_add_one, h]; rfl
theorem hitL_app {ks : List Int} {k : Int} : hitL v s lo hi (ks ++ [k]) = hitL v s lo hi ks ++ (if hitK v s lo hi k = true then [tmK v s k] else []) := by
  unfold hitL
  rw [List.filter_append, List.map_append]
  congr 1
  by_cases h : hitK v s lo hi k = true
  · simp [h]
  · simp [h]
theorem iRun_get {a : Int} {n i : Nat} (h : i < n) : (iRun a n)[i]? = some (a + (i : Int)) := by
  unfold iRun
  rw [List.getElem?_map, List.getElem?_range h]
  rfl
theorem iRun_len {a : Int} {n : Nat} : (iRun a n).length = n := by simp [iRun]
theorem hitL_pre {ks : List Int} {i : Nat} : (hitL v s lo hi (ks.take i)).length ≤ (hitL v s lo hi ks).length := by
  unfold hitL
  rw [List.length_map, List.length_map]
  exact ((List.take_sublist i ks).filter _).length_le
theorem sz_k {k : Int} (h : -20000 ≤ k ∧ k ≤ 20000) : Sz 15 (k : Rat) := ⟨by show k.natAbs < _; omega, by show 1 < _; decide⟩
theorem flo_bd {q : Rat} (h : -10000 ≤ q ∧ q ≤ 10000) : -10001 ≤ flo q ∧ flo q ≤ 10000 := by
  have h1 := lt_flo q
  have h2 := flo_le q
  have e1 : ((-10001 : Int) : Rat) < ((flo q : Int) : Rat) + 0 := by
    show (-10001 : Rat) < _
    grind
  have e2 : ((flo q : Int) : Rat) ≤ ((10000 : Int) : Rat) := by
    show _ ≤ (10000 : Rat)
    grind
  have := Rat.intCast_le_intCast.mp e2
  rw [Rat.add_zero] at e1
  have := Rat.intCast_lt_intCast.mp e1
  omega
end
end KK

set_option maxRecDepth 100000
set_option maxHeartbeats 1000000
namespace KK
open PySem L2 DL FQ CM
section
variable {P : Dt → Prop} {E : Xc → Prop} {a b c d e j : Nat} {q s v t s1 v1 s2 v2 lo hi : Rat}
/-- the loop, from a on, n turns -/
theorem meet_loop {a : Int} {n : Nat} (hv : v ≠ 0) (zv : Sz 40 v) (zs : Sz 40 s) (zl : Sz 40 lo) (zh : Sz 40 hi) (ha : -10001 ≤ a) (hn : a + (n : Int) ≤ 10002) {x0 x1 x6 x7 x8 x10 x11 : Sl} {o : Po}
    (hx : ∀ c env, o.ex c env = E c)
    (k1 : (hitL v s lo hi (iRun a n)).length ≤ 400 → ∀ x10 x11, o.nx [x0, x1, .im (dq lo), .im (dq hi), .im (dq v), .im (dq s), x6, x7, x8, .ow (.lst ((hitL v s lo hi (iRun a n)).map dq)), x10, x11])
    (k2 : 400 < (hitL v s lo hi (iRun a n)).length → E (mst "many")) :
    forD (gN 10) (sSeq (sSet 11 (xE (eCall sp_over (aCons (eCall sp_plus (aCons (eVar 5) (aCons (eTup (aCons (eVar 10) (aCons (eC (.int 1)) aNil))) aNil))) (aCons (eVar 4) aNil)))))
  (sSeq (sIf (bAnd (bNot (bT (eCall sp_is_less (aCons (eVar 11) (aCons (eVar 2) aNil))))) (bT (eCall sp_is_less (aCons (eVar 11) (aCons (eVar 3) aNil))))) (sApp 9 (eVar 11)) sNext)
  (sIf (bT (eOp gtI (eCB (f1 lenD) (aCons (oVar 9) aNil)) (eC (.int 400)))) (sRaise "Misstep" (aCons (eC (.str (PySem.Str.ofString "many"))) aNil)) sNext))) o ((iRun a n).map Dt.int)
    [x0, x1, .im (dq lo), .im (dq hi), .im (dq v), .im (dq s), x6, x7, x8, .ow (.lst []), x10, x11] := by
  refine forD_inv (fun i e => ∃ x10 x11, e = [x0, x1, .im (dq lo), .im (dq hi), .im (dq v), .im (dq s), x6, x7, x8, .ow (.lst ((hitL v s lo hi ((iRun a n).take i)).map dq)), x10, x11] ∧ (hitL v s lo hi ((iRun a n).take i)).length ≤ 400) ⟨_, _, rfl, by simp [hitL]⟩ ?_ ?_
  · rintro i d e hd ⟨x10, x11, rfl, hle⟩ nx hnx
    have hi' : i < n := by
      have := (List.getElem?_eq_some_iff.mp hd).1
      simpa [iRun_len] using this
    have hk := iRun_get (a := a) hi'
    rw [List.getElem?_map, hk] at hd
    obtain rfl : Dt.int (a + (i : Int)) = d := by simpa using hd
    have ht := tk_succ hk
    have happ := hitL_app (v := v) (s := s) (lo := lo) (hi := hi) (ks := (iRun a n).take i) (k := a + (i : Int))
    rw [← ht] at happ
    have hpre := hitL_pre (v := v) (s := s) (lo := lo) (hi := hi) (ks := iRun a n) (i := i + 1)
    have szk := sz_k (k := a + (i : Int)) (by omega)
    generalize a + (i : Int) = k at *
    simp
    rw [dqI']
    refine c_plus ?_
    refine c_over hv ?_
    show _
    have et : (s + (k : Rat)) / v = tmK v s k := rfl
    rw [et]
    have szt : Sz 96 (tmK v s k) := (inferInstance : Sz _ ((s + (k : Rat)) / v))
    refine c_is_less ?_
    unfold hitK at happ
    have fin : ∀ x11, (hitL v s lo hi ((iRun a n).take (i + 1))).length ≤ 400 → nx [x0, x1, .im (dq lo), .im (dq hi), .im (dq v), .im (dq s), x6, x7, x8, .ow (.lst ((hitL v s lo hi ((iRun a n).take (i + 1))).map dq)), .im (.int k), x11] := fun x11 h4 => hnx _ ⟨_, _, rfl, h4⟩
    by_cases h1 : tmK v s k < lo
    · simp [h1] at happ ⊢
      rw [happ] at fin
      have : ¬ 400 < ((hitL v s lo hi ((iRun a n).take i)).length : Int) := by omega
      simp [this]
      exact fin _ hle
    · simp [h1] at happ ⊢
      refine c_is_less ?_
      by_cases h2 : tmK v s k < hi
      · simp [h2] at happ ⊢
        rw [happ] at fin hpre
        refine ⟨by omega, ?_⟩
        by_cases h3 : 400 < ((hitL v s lo hi ((iRun a n).take i)).length : Int) + 1
        · simp [h3, hx]
          refine ⟨by decide, ?_⟩
          exact k2 (by simp at hpre; omega)
        · simp [h3]
          have := fin (.im (dq (tmK v s k))) (by simp; omega)
          simpa using this
      · simp [h2] at happ ⊢
        rw [happ] at fin
        have : ¬ 400 < ((hitL v s lo hi ((iRun a n).take i)).length : Int) := by omega
        simp [this]
        exact fin _ hle
  · rintro e ⟨x10, x11, rfl, hle⟩
    have hl : ((iRun a n).map Dt.int).length = (iRun a n).length := by simp
    rw [hl, List.take_length] at hle ⊢
    exact k1 hle _ _
theorem rng_iRun {a : Int} {n : Nat} : rng a 1 n = (iRun a n).map Dt.int := by
  unfold rng iRun
  rw [List.map_map]
  apply List.map_congr_left
  intro i _
  simp
theorem c_meetings [z1 : Sz 16 s1] [z2 : Sz 16 v1] [z3 : Sz 16 s2] [z4 : Sz 16 v2] [z5 : Sz 16 lo] [z6 : Sz 16 hi] (hv : v1 - v2 ≠ 0) (b1 : -10000 ≤ lo * (v1 - v2) - (s2 - s1) ∧ lo * (v1 - v2) - (s2 - s1) ≤ 10000) (b2 : -10000 ≤ hi * (v1 - v2) - (s2 - s1) ∧ hi * (v1 - v2) - (s2 - s1) ≤ 10000)
    (h : ∀ L, IsMeet (v1 - v2) (s2 - s1) lo hi L → (L.length ≤ 400 → P (.lst (L.map dq))) ∧ (400 < L.length → E (mst "many"))) : sp_meetings [dh s1 v1, dh s2 v2, dq lo, dq hi] P E := by
  refine ⟨rfl, ?_⟩
  simp only [init_c, init_n, List.replicate]
  simp [m_meetings, dh]
  refine c_minus ?_
  have zv : Sz 33 (v1 - v2) := inferInstance
  generalize hV : v1 - v2 = v at *
  have nv : ¬ v.num = 0 := fun z => hv (Rat.num_eq_zero.mp z)
  simp [t8_meetings, nv]
  simp [t7_meetings]
  refine c_minus ?_
  have zs : Sz 33 (s2 - s1) := inferInstance
  generalize hS : s2 - s1 = s at *
  simp [t6_meetings]
  refine c_times ?_
  refine c_minus ?_
  simp [t5_meetings]
  refine c_times ?_
  refine c_minus ?_
  have f1 := flo_bd b1
  have f2 := flo_bd b2
  have y1 : Sz 83 (lo * v - s) := inferInstance
  have y2 : Sz 83 (hi * v - s) := inferInstance
  have szv : Sz 40 v := zv.up (by omega)
  have szs : Sz 40 s := zs.up (by omega)
  have szl : Sz 40 lo := z5.up (by omega)
  have szh : Sz 40 hi := z6.up (by omega)
  have tail : ∀ (L : List Rat) (x0 x1 x2 x3 x5 x6 x7 x8 x10 x11 : Sl), (0 < v → P (.lst (L.map dq))) → (v < 0 → P (.lst (L.reverse.map dq))) → t1_meetings [x0, x1, x2, x3, .im (dq v), x5, x6, x7, x8, .ow (.lst (L.map dq)), x10, x11] { nx := fun _ => P .non, rt := P, ex := fun x _ => E x } := fun L x0 x1 x2 x3 x5 x6 x7 x8 x10 x11 p1 p2 => by
    simp [t1_meetings, fzV]
    by_cases hp : 0 < v
    · simp [hp]; exact p1 hp
    · simp [hp]
      rw [← List.map_reverse]
      exact p2 (by grind)
  by_cases hp : 0 < v
  · simp [t4_meetings, hp]
    simp [t3_meetings]
    simp [t2_meetings]
    refine c_whole_below ?_
    refine c_whole_below ?_
    simp
    show (_ ∧ _) ∧ _
    have e1 : (lo * v - s).num / ((lo * v - s).den : Int) = flo (lo * v - s) := rfl
    have e2 : (hi * v - s).num / ((hi * v - s).den : Int) = flo (hi * v - s) := rfl
    rw [e1, e2]
    have hit : ∀ k : Int, lo ≤ tmK v s k → tmK v s k < hi → flo (lo * v - s) ≤ k ∧ k < flo (lo * v - s) + (((flo (hi * v - s) + 2 - flo (lo * v - s)).toNat : Nat) : Int) := fun k h1 h2 => by
      have := in_pos hp h1 h2
      omega
    have hm := hitL_pos hp hit
    obtain ⟨q1, q2⟩ := h _ hm
    generalize flo (lo * v - s) = a at *
    generalize flo (hi * v - s) = b at *
    refine ⟨by omega, ?_⟩
    rw [rng_iRun]
    by_cases hab : a ≤ b + 2
    · exact meet_loop hv szv szs szl szh (by omega) (by omega) (fun _ _ => rfl) (fun h4 x10 x11 => tail _ _ _ _ _ _ _ _ _ _ _ (fun _ => q1 h4) (fun z => by grind)) q2
    · have e0 : (b + 2 - a).toNat = 0 := by omega
      rw [e0] at q1 q2 ⊢
      exact tail [] _ _ _ _ _ _ _ _ _ _ (fun _ => q1 (by simp [hitL, iRun])) (fun z => by grind)
  · have hn : v < 0 := by grind
    simp [t4_meetings, hp]
    simp [t3_meetings]
    simp [t2_meetings]
    refine c_whole_below ?_
    refine c_whole_below ?_
    simp
    show (_ ∧ _) ∧ _
    have e1 : (lo * v - s).num / ((lo * v - s).den : Int) = flo (lo * v - s) := rfl
    have e2 : (hi * v - s).num / ((hi * v - s).den : Int) = flo (hi * v - s) := rfl
    rw [e1, e2]
    have hit : ∀ k : Int, lo ≤ tmK v s k → tmK v s k < hi → flo (hi * v - s) ≤ k ∧ k < flo (hi * v - s) + (((flo (lo * v - s) + 2 - flo (hi * v - s)).toNat : Nat) : Int) := fun k h1 h2 => by
      have := in_neg hn h1 h2
      omega
    have hm := hitL_neg hn hit
    obtain ⟨q1, q2⟩ := h _ hm
    rw [List.length_reverse] at q1 q2
    generalize flo (lo * v - s) = b at *
    generalize flo (hi * v - s) = a at *
    refine ⟨by omega, ?_⟩
    rw [rng_iRun]
    by_cases hab : a ≤ b + 2
    · exact meet_loop hv szv szs szl szh (by omega) (by omega) (fun _ _ => rfl) (fun h4 x10 x11 => tail _ _ _ _ _ _ _ _ _ _ _ (fun z => by grind) (fun _ => q1 h4)) q2
    · have e0 : (b + 2 - a).toNat = 0 := by omega
      rw [e0] at q1 q2 ⊢
      exact tail [] _ _ _ _ _ _ _ _ _ _ (fun z => by grind) (fun _ => by simpa [hitL, iRun] using q1 (by simp [hitL, iRun]))
theorem c_meet_alike [z2 : Sz 16 v1] (h : E (mst "alike")) : sp_meetings [dh s1 v1, dh s2 v1, dq lo, dq hi] P E := by
  refine ⟨rfl, ?_⟩
  simp only [init_c, init_n, List.replicate]
  simp [m_meetings, dh]
  refine c_minus ?_
  have e : v1 - v1 = 0 := by grind
  simp [t8_meetings, e]
  exact ⟨by decide, h⟩
end
end KK

set_option maxRecDepth 100000
set_option maxHeartbeats 1000000
namespace KK
open PySem L2 DL FQ CM
section
variable {P : Dt → Prop} {E : Xc → Prop} {a b c d e j : Nat} {q s v t s1 v1 s2 v2 lo hi : Rat}
theorem meet_sz (hv : v ≠ 0) [zv : Sz 33 v] [zs : Sz 33 s] (b1 : -10000 ≤ lo * v - s ∧ lo * v - s ≤ 10000) (b2 : -10000 ≤ hi * v - s ∧ hi * v - s ≤ 10000) {L : List Rat} (m : IsMeet v s lo hi L) : ∀ t ∈ L, Sz 96 t := fun t ht => by
  obtain ⟨h1, h2, k, rfl⟩ := (m.mem t).mp ht
  have f1 := flo_bd b1
  have f2 := flo_bd b2
  have hk : -20000 ≤ k ∧ k ≤ 20000 := by
    by_cases hp : 0 < v
    · have := in_pos hp h1 h2; omega
    · have := in_neg (by grind) h1 h2; omega
  have := sz_k hk
  exact Sz.up (inferInstance : Sz _ ((s + (k : Rat)) / v)) (by omega)
theorem law_loop {a : Int} {n : Nat} (hv : v ≠ 0) (zv : Sz 40 v) (zs : Sz 40 s) (zl : Sz 40 lo) (zh : Sz 40 hi) (ha : -10001 ≤ a) (hn : a + (n : Int) ≤ 10002) {x0 x1 x7 x8 : Sl} {o : Po}
    (k1 : ∀ x7 x8, o.nx [x0, x1, .im (dq lo), .im (dq hi), .im (dq v), .im (dq s), .ow (.lst ((hitL v s lo hi (iRun a n)).map dq)), x7, x8]) :
    forD (gN 7) (sSeq (sSet 8 (xE (eCall sp__law_over (aCons (eCall sp__law_add (aCons (eVar 5) (aCons (eTup (aCons (eVar 7) (aCons (eC (.int 1)) aNil))) aNil))) (aCons (eVar 4) aNil)))))
  (sIf (bAnd (bNot (bT (eCall sp__law_less (aCons (eVar 8) (aCons (eVar 2) aNil))))) (bT (eCall sp__law_less (aCons (eVar 8) (aCons (eVar 3) aNil))))) (sApp 6 (eVar 8)) sNext)) o ((iRun a n).map Dt.int)
    [x0, x1, .im (dq lo), .im (dq hi), .im (dq v), .im (dq s), .ow (.lst []), x7, x8] := by
  refine forD_inv (fun i e => ∃ x7 x8, e = [x0, x1, .im (dq lo), .im (dq hi), .im (dq v), .im (dq s), .ow (.lst ((hitL v s lo hi ((iRun a n).take i)).map dq)), x7, x8]) ⟨_, _, rfl⟩ ?_ ?_
  · rintro i d e hd ⟨x7, x8, rfl⟩ nx hnx
    have hi' : i < n := by
      have := (List.getElem?_eq_some_iff.mp hd).1
      simpa [iRun_len] using this
    have hk := iRun_get (a := a) hi'
    rw [List.getElem?_map, hk] at hd
    obtain rfl : Dt.int (a + (i : Int)) = d := by simpa using hd
    have ht := tk_succ hk
    have happ := hitL_app (v := v) (s := s) (lo := lo) (hi := hi) (ks := (iRun a n).take i) (k := a + (i : Int))
    rw [← ht] at happ
    have hlen : (hitL v s lo hi ((iRun a n).take i)).length ≤ 20003 := by
      unfold hitL
      rw [List.length_map]
      refine Nat.le_trans (List.length_filter_le _ _) ?_
      simp [iRun_len]
      omega
    have szk := sz_k (k := a + (i : Int)) (by omega)
    generalize a + (i : Int) = k at *
    simp
    rw [dqI']
    refine c__law_add ?_
    refine c__law_over hv ?_
    have et : (s + (k : Rat)) / v = tmK v s k := rfl
    rw [et]
    have szt : Sz 96 (tmK v s k) := (inferInstance : Sz _ ((s + (k : Rat)) / v))
    refine c__law_less ?_
    unfold hitK at happ
    have fin : ∀ x8, nx [x0, x1, .im (dq lo), .im (dq hi), .im (dq v), .im (dq s), .ow (.lst ((hitL v s lo hi ((iRun a n).take (i + 1))).map dq)), .im (.int k), x8] := fun x8 => hnx _ ⟨_, _, rfl⟩
    by_cases h1 : tmK v s k < lo
    · simp [h1] at happ ⊢
      rw [happ] at fin
      exact fin _
    · simp [h1] at happ ⊢
      refine c__law_less ?_
      by_cases h2 : tmK v s k < hi
      · simp [h2] at happ ⊢
        rw [happ] at fin
        refine ⟨by omega, ?_⟩
        have := fin (.im (dq (tmK v s k)))
        simpa using this
      · simp [h2] at happ ⊢
        rw [happ] at fin
        exact fin _
  · rintro e ⟨x7, x8, rfl⟩
    have hl : ((iRun a n).map Dt.int).length = (iRun a n).length := by simp
    rw [hl, List.take_length]
    exact k1 _ _
theorem c__law_meet [z1 : Sz 16 s1] [z2 : Sz 16 v1] [z3 : Sz 16 s2] [z4 : Sz 16 v2] [z5 : Sz 16 lo] [z6 : Sz 16 hi] (hv : v1 - v2 ≠ 0) (b1 : -60 ≤ lo * (v1 - v2) - (s2 - s1) ∧ lo * (v1 - v2) - (s2 - s1) ≤ 60) (b2 : -60 ≤ hi * (v1 - v2) - (s2 - s1) ∧ hi * (v1 - v2) - (s2 - s1) ≤ 60)
    (h : ∀ L, IsMeet (v1 - v2) (s2 - s1) lo hi L → P (.lst (L.map dq))) : sp__law_meet [dh s1 v1, dh s2 v2, dq lo, dq hi] P E := by
  refine ⟨rfl, ?_⟩
  simp only [init_c, init_n, List.replicate]
  simp [m__law_meet, dh]
  refine c__law_sub ?_
  refine c__law_sub ?_
  have zv : Sz 33 (v1 - v2) := inferInstance
  have zs : Sz 33 (s2 - s1) := inferInstance
  generalize hV : v1 - v2 = v at *
  generalize hS : s2 - s1 = s at *
  have szv : Sz 40 v := zv.up (by omega)
  have szs : Sz 40 s := zs.up (by omega)
  have szl : Sz 40 lo := z5.up (by omega)
  have szh : Sz 40 hi := z6.up (by omega)
  have hit : ∀ k : Int, lo ≤ tmK v s k → tmK v s k < hi → -60 ≤ k ∧ k < -60 + ((121 : Nat) : Int) := fun k h1 h2 => by
    have e := tm_mul (v := v) (s := s) hv k
    have g1 : (-60 : Rat) ≤ (k : Rat) ∧ (k : Rat) ≤ 60 := by
      by_cases hp : 0 < v
      · have a1 := Rat.mul_le_mul_of_nonneg_right h1 (Rat.le_of_lt hp)
        have a2 := Rat.mul_lt_mul_of_pos_right h2 hp
        constructor <;> grind
      · have hn : 0 < -v := by grind
        have a1 := Rat.mul_le_mul_of_nonneg_right h1 (Rat.le_of_lt hn)
        have a2 := Rat.mul_lt_mul_of_pos_right h2 hn
        constructor <;> grind
    have i1 : ((-60 : Int) : Rat) ≤ (k : Rat) := g1.1
    have i2 : (k : Rat) ≤ ((60 : Int) : Rat) := g1.2
    have := Rat.intCast_le_intCast.mp i1
    have := Rat.intCast_le_intCast.mp i2
    omega
  rw [show rng (-60) 1 121 = (iRun (-60) 121).map Dt.int from rng_iRun]
  refine law_loop hv szv szs szl szh (by omega) (by omega) fun x7 x8 => ?_
  simp [fzV]
  by_cases hp : 0 < v
  · simp [hp]
    exact h _ (hitL_pos hp hit)
  · simp [hp]
    rw [← List.map_reverse]
    exact h _ (hitL_neg (by grind) hit)
theorem c_every [z2 : Sz 16 v1] [z4 : Sz 16 v2] (hv : v1 - v2 ≠ 0) (h : P (dq (1 / (if 0 < v1 - v2 then v1 - v2 else -(v1 - v2))))) : sp_every [dh s1 v1, dh s2 v2] P E := by
  refine ⟨rfl, ?_⟩
  simp only [init_c, init_n, List.replicate]
  simp [m_every, dh]
  refine c_minus ?_
  have nv : ¬ (v1 - v2).num = 0 := fun z => hv (Rat.num_eq_zero.mp z)
  simp [nv, c_ONE, dq1']
  by_cases hp : 0 < v1 - v2
  · simp [hp] at h ⊢
    exact c_over hv h
  · simp [hp] at h ⊢
    rw [dq_negA]
    exact c_over (by grind) h
theorem c_every_x [z2 : Sz 16 v1] (h : E (mst "alike")) : sp_every [dh s1 v1, dh s2 v1] P E := by
  refine ⟨rfl, ?_⟩
  simp only [init_c, init_n, List.replicate]
  simp [m_every, dh]
  refine c_minus ?_
  have e : v1 - v1 = 0 := by grind
  simp [e]
  exact ⟨by decide, h⟩
theorem c_later [hs : Sz 16 s] [hv : Sz 16 v] [ht : Sz 16 t] (h : P (dh (atH s v t) v)) : sp_later [dh s v, dq t] P E := by
  refine ⟨rfl, ?_⟩
  simp only [init_c, init_n, List.replicate]
  simp [m_later]
  refine c_stands ?_
  simp [dh]
  exact h
theorem c_between [hv : Sz 16 v] [h1 : Sz 16 lo] [h2 : Sz 16 hi] (h : P (.int (flo (v * (hi - lo))))) : sp_between [dh s v, dq lo, dq hi] P E := by
  refine ⟨rfl, ?_⟩
  simp only [init_c, init_n, List.replicate]
  simp [m_between, dh]
  refine c_minus ?_
  refine c_times ?_
  exact c_whole_below h
theorem c_fr {u l : Int} {n : Nat} (hl : 0 < l) (hu : u.natAbs < 2 ^ n) (hn : l.natAbs < 2 ^ n) (hz : n ≤ 1980) (h : ∀ q, q = Rat.divInt u l → Sz n q → P (dq q)) : sp__law_fr [.int u, .int l] P E :=
  c__law_fr (by omega) (pw_up hn hz) (h _ rfl (sz_divInt (by omega) hu hn))
theorem divInt_mul {a b : Int} (hb : b ≠ 0) : Rat.divInt a b * (b : Rat) = (a : Rat) := by
  have : (b : Rat) ≠ 0 := fun z => hb (Rat.intCast_inj.mp z)
  rw [Rat.divInt_eq_div]
  grind
/-- a quotient by what is at least 1 is not greater -/
theorem bd_of {x w B : Rat} (hw : 1 ≤ w) (hB : 0 ≤ B) (h1 : -B ≤ x * w) (h2 : x * w ≤ B) : -B ≤ x ∧ x ≤ B := by
  constructor
  · by_cases hx : x < 0
    · have := Rat.mul_le_mul_of_nonneg_right hw (c := -x) (by grind)
      grind
    · grind
  · by_cases hx : 0 < x
    · have := Rat.mul_le_mul_of_nonneg_right hw (c := x) (by grind)
      grind
    · grind
theorem c__law_hand (h : ∀ s v, Sz 3 s → Sz 3 v → 0 ≤ s → s < 1 → -3 ≤ v → v ≤ 3 → P (dh s v)) : sp__law_hand [.st] P E := by
  refine ⟨rfl, ?_⟩
  simp only [init_c, init_n, List.replicate]
  simp [m__law_hand]
  refine tk (h := fun r r0 r1 => ?_)
  refine c_fr (n := 3) (by omega) (by omega) (by omega) (by decide) fun s e1 zs => ?_
  refine tk (h := fun u u0 u1 => ?_)
  simp
  refine tk (h := fun w w0 w1 => ?_)
  simp
  refine c_fr (n := 3) (by omega) (by omega) (by omega) (by decide) fun v e2 zv => ?_
  have hs : s * 5 = (r : Rat) := by rw [e1]; exact divInt_mul (by decide)
  have hv : v * ((1 + w : Int) : Rat) = ((u - 3 : Int) : Rat) := by rw [e2]; exact divInt_mul (by omega)
  have r0' : ((0 : Int) : Rat) ≤ (r : Rat) := Rat.intCast_le_intCast.mpr r0
  have r1' : (r : Rat) ≤ ((4 : Int) : Rat) := Rat.intCast_le_intCast.mpr (by omega)
  have u0' : ((-3 : Int) : Rat) ≤ ((u - 3 : Int) : Rat) := Rat.intCast_le_intCast.mpr (by omega)
  have u1' : ((u - 3 : Int) : Rat) ≤ ((3 : Int) : Rat) := Rat.intCast_le_intCast.mpr (by omega)
  have w1' : ((1 : Int) : Rat) ≤ ((1 + w : Int) : Rat) := Rat.intCast_le_intCast.mpr (by omega)
  have c0 : ((0 : Int) : Rat) = 0 := rfl
  have c4 : ((4 : Int) : Rat) = 4 := rfl
  have c3 : ((-3 : Int) : Rat) = -3 := rfl
  have c3' : ((3 : Int) : Rat) = 3 := rfl
  have c1 : ((1 : Int) : Rat) = 1 := rfl
  rw [c0] at r0'
  rw [c4] at r1'
  rw [c3] at u0'
  rw [c3'] at u1'
  rw [c1] at w1'
  have hb := bd_of (x := v) (w := ((1 + w : Int) : Rat)) (B := 3) w1' (by grind) (by grind) (by grind)
  exact h s v zs zv (by grind) (by grind) hb.1 hb.2
end
end KK

set_option maxRecDepth 100000
set_option maxHeartbeats 1000000
namespace KK
open PySem L2 DL FQ CM
section
variable {P : Dt → Prop} {E : Xc → Prop} {a b c d e j : Nat} {q s v t s1 v1 s2 v2 s3 v3 p1 p2 lo hi : Rat}
theorem rng2 : rng 0 1 2 = [.int 0, .int 1] := rfl
theorem l_eqv {x y x' y' : Rat} : eqv (.lst [dq x, dq y]) (.lst [dq x', dq y']) = (decide (x = x') && decide (y = y')) := by
  rw [eqv_lst, eqvA_c, eqvA_c, eqvA_n]
  simp
theorem okD_l2 {x y : Rat} : okD (.lst [dq x, dq y]) := (show pln 2 (.lst _) from fun z hz => by
  rcases List.mem_cons.mp hz with rfl | hz
  · exact pln_dq
  · rw [List.mem_singleton.mp hz]; exact pln_dq).ok
theorem okD_i1 {x : Int} : okD (.lst [.int x]) := (show pln 1 (.lst _) from fun z hz => by rw [List.mem_singleton.mp hz]; trivial).ok
theorem okD_i2 {x y : Int} : okD (.lst [.int x, .int y]) := (show pln 1 (.lst _) from fun z hz => by
  rcases List.mem_cons.mp hz with rfl | hz
  · trivial
  · rw [List.mem_singleton.mp hz]; trivial).ok
theorem okD_e : okD (.lst []) := (show pln 1 (.lst _) from fun z hz => by cases hz).ok
theorem c_told_time [z1 : Sz 16 s1] [z2 : Sz 16 v1] [z3 : Sz 16 s2] [z4 : Sz 16 v2] [z7 : Sz 16 p1] [z8 : Sz 16 p2] [z5 : Sz 16 lo] [z6 : Sz 16 hi] (hv : v1 ≠ 0) (b1 : -10000 ≤ lo * (v1 - 0) - (p1 - s1) ∧ lo * (v1 - 0) - (p1 - s1) ≤ 10000) (b2 : -10000 ≤ hi * (v1 - 0) - (p1 - s1) ∧ hi * (v1 - 0) - (p1 - s1) ≤ 10000)
    (h : ∀ L, IsMeet (v1 - 0) (p1 - s1) lo hi L → L.length ≤ 400 ∧ P (.lst ((L.filter fun t => decide (atH s1 v1 t = fr p1) && decide (atH s2 v2 t = fr p2)).map dq))) : sp_told_time [.lst [dh s1 v1, dh s2 v2], .lst [dq p1, dq p2], dq lo, dq hi] P E := by
  refine ⟨rfl, ?_⟩
  simp only [init_c, init_n, List.replicate]
  have nv : ¬ v1.num = 0 := fun z => hv (Rat.num_eq_zero.mp z)
  have hv0 : v1 - 0 ≠ 0 := by grind
  have z0 : Sz 16 (0 : Rat) := sz_0.up (by omega)
  have e1 : atI [dh s1 v1, dh s2 v2] 0 = some (dh s1 v1) := rfl
  have e2 : atI [dh s1 v1, dh s2 v2] 1 = some (dh s2 v2) := rfl
  have e3 : atI [dq p1, dq p2] 0 = some (dq p1) := rfl
  have e4 : atI [Dt.int 0] 0 = some (Dt.int 0) := rfl
  have e5 : atI [Dt.int 0, Dt.int 1] 0 = some (Dt.int 0) := rfl
  have f1 : ixD (dh s1 v1) (.int 1) = fun P => P (dq v1) := by funext P; simp [dh]
  have f2 : ixD (dh s2 v2) (.int 1) = fun P => P (dq v2) := by funext P; simp [dh]
  have g1 : eqv (.lst [.int 0]) (.lst []) = false := rfl
  have g2 : eqv (.lst [.int 0, .int 1]) (.lst []) = false := rfl
  have fin : ∀ (x3 x6 : Sl), sp_meetings [dh s1 v1, .tup [dq p1, dq 0], dq lo, dq hi] (fun d => seqD d fun xs => xs.length ≤ 16777216 ∧ compD (gN 8) (bT (eOp eqD (nComp [9] (iOf (eVar 0)) (gN 9) bYes (eCall sp_stands (aCons (eVar 9) (aCons (eVar 8) aNil)))) (nComp [10] (iOf (eVar 1)) (gN 10) bYes (eCall sp_rest (aCons (eVar 10) aNil))))) (eVar 8)
      [.im (.lst [dh s1 v1, dh s2 v2]), .im (.lst [dq p1, dq p2]), .im (dq lo), .im (dq hi), x3, .im (.int 0), .im d, x6, .no, .no, .no] P xs []) E := fun x3 x6 => by
    refine c_meetings hv0 b1 b2 fun L hL => ?_
    obtain ⟨h400, hP⟩ := h L hL
    refine ⟨fun _ => ?_, fun z => by omega⟩
    have hsz := meet_sz hv0 b1 b2 hL
    simp
    refine ⟨by omega, compD_FE dq id (fun t => decide (atH s1 v1 t = fr p1) && decide (atH s2 v2 t = fr p2)) (fun t ht Q R hQ => ?_) (by simpa using hP)⟩
    have zt := hsz t ht
    unfold cStep
    simp [compD]
    refine c_stands ?_
    refine c_stands ?_
    refine c_rest ?_
    refine c_rest ?_
    simp [okD_l2, l_eqv]
    simpa using hQ
  by_cases h2 : v2 = 0
  · have n2 : v2.num = 0 := by rw [h2]; rfl
    simp [m_told_time, rng2, compD, e1, e2, e3, e4, f1, f2, g1, okD_i1, okD_e, nv, n2, c_NOUGHT, dq0']
    exact fin _ _
  · have n2 : ¬ v2.num = 0 := fun z => h2 (Rat.num_eq_zero.mp z)
    simp [m_told_time, rng2, compD, e1, e2, e3, e5, f1, f2, g2, okD_i2, okD_e, nv, n2, c_NOUGHT, dq0']
    exact fin _ _
end
end KK

set_option maxRecDepth 100000
set_option maxHeartbeats 1000000
namespace KK
open PySem L2 DL FQ CM
section
variable {P : Dt → Prop} {E : Xc → Prop} {a b c d e j : Nat} {q s v t s1 v1 s2 v2 s3 v3 p1 p2 lo hi : Rat}
theorem set3 {α : Type} {x y z : α} {L : List α} (hn : L.Nodup) (h : ∀ u, u ∈ L ↔ u ∈ [x, y, z]) : L.length = 1 ↔ x = y ∧ y = z := by
  constructor
  · intro hl
    match L, hl with
    | [u], _ =>
      have a1 := (h x).mpr (by simp)
      have a2 := (h y).mpr (by simp)
      have a3 := (h z).mpr (by simp)
      simp at a1 a2 a3
      exact ⟨a1.trans a2.symm, a2.trans a3.symm⟩
  · rintro ⟨rfl, rfl⟩
    match L, hn, h with
    | [], _, h => have := (h x).mpr (by simp); cases this
    | [u], _, _ => rfl
    | u :: w :: r, hn, h =>
      have a1 := (h u).mp (by simp)
      have a2 := (h w).mp (by simp)
      simp at a1 a2
      subst a1
      subst a2
      simp at hn
theorem dq_row (x : Rat) : dq x = itup [x.num, (x.den : Int)] := rfl
theorem row_inj {x y : Rat} : ([x.num, (x.den : Int)] = [y.num, (y.den : Int)]) ↔ x = y := by
  constructor
  · intro h
    refine dq_inj ?_
    rw [dq_row, dq_row, h]
  · rintro rfl; rfl
theorem c_all_meet [z1 : Sz 16 s1] [z2 : Sz 16 v1] [z3 : Sz 16 s2] [z4 : Sz 16 v2] [z7 : Sz 16 s3] [z8 : Sz 16 v3] [z5 : Sz 16 lo] [z6 : Sz 16 hi] (hv : v1 - v2 ≠ 0) (b1 : -10000 ≤ lo * (v1 - v2) - (s2 - s1) ∧ lo * (v1 - v2) - (s2 - s1) ≤ 10000) (b2 : -10000 ≤ hi * (v1 - v2) - (s2 - s1) ∧ hi * (v1 - v2) - (s2 - s1) ≤ 10000)
    (h : ∀ L, IsMeet (v1 - v2) (s2 - s1) lo hi L → L.length ≤ 400 ∧ P (.lst ((L.filter fun t => decide (atH s1 v1 t = atH s2 v2 t) && decide (atH s2 v2 t = atH s3 v3 t)).map dq))) : sp_all_meet [.lst [dh s1 v1, dh s2 v2, dh s3 v3], dq lo, dq hi] P E := by
  refine ⟨rfl, ?_⟩
  simp only [init_c, init_n, List.replicate]
  have e1 : atI [dh s1 v1, dh s2 v2, dh s3 v3] 0 = some (dh s1 v1) := rfl
  have e2 : atI [dh s1 v1, dh s2 v2, dh s3 v3] 1 = some (dh s2 v2) := rfl
  simp [m_all_meet, e1, e2]
  refine c_meetings hv b1 b2 fun L hL => ?_
  obtain ⟨h400, hP⟩ := h L hL
  refine ⟨fun _ => ?_, fun z => by omega⟩
  have hsz := meet_sz hv b1 b2 hL
  simp
  refine ⟨by omega, compD_FE dq id (fun t => decide (atH s1 v1 t = atH s2 v2 t) && decide (atH s2 v2 t = atH s3 v3 t)) (fun t ht Q R hQ => ?_) (by simpa using hP)⟩
  have zt := hsz t ht
  unfold cStep
  simp [compD]
  refine c_stands ?_
  refine c_stands ?_
  refine c_stands ?_
  generalize hx : atH s1 v1 t = x at *
  generalize hy : atH s2 v2 t = y at *
  generalize hz : atH s3 v3 t = z at *
  refine ⟨[[x.num, (x.den : Int)], [y.num, (y.den : Int)], [z.num, (z.den : Int)]], rfl, by simp, fun L hn hL => ?_⟩
  have h3 := set3 hn hL
  rw [row_inj, row_inj] at h3
  by_cases hc : x = y ∧ y = z
  · have hl := h3.mpr hc
    simp [hl]
    simpa [hc.1, hc.2] using hQ
  · have hl : ¬ ((L.length : Int) = 1) := fun w => hc (h3.mp (by omega))
    simp [hl]
    simp at hQ
    rw [if_neg hc] at hQ
    exact hQ
theorem isMeet_frac {n : Nat} (hn : 0 < n) {v s : Rat} (hv : v = ((n : Int) : Rat) ∨ v = -((n : Int) : Rat)) (hs : s = 0) : IsMeet v s 0 1 ((List.range n).map fun k : Nat => ((k : Int) : Rat) / ((n : Int) : Rat)) := by
  have hn' : (0 : Rat) < ((n : Int) : Rat) := Rat.intCast_pos.mpr (by omega)
  subst hs
  refine ⟨?_, fun t => ?_⟩
  · show List.Pairwise _ _
    rw [List.pairwise_map]
    exact List.pairwise_lt_range.imp fun h => div_lt_div hn' (Rat.intCast_lt_intCast.mpr (by omega))
  · rw [List.mem_map]
    constructor
    · rintro ⟨k, hk, rfl⟩
      have hk := List.mem_range.mp hk
      have h0 : (0 : Rat) ≤ ((k : Int) : Rat) := Rat.intCast_nonneg.mpr (by omega)
      have h1 : ((k : Int) : Rat) < ((n : Int) : Rat) := Rat.intCast_lt_intCast.mpr (by omega)
      refine ⟨?_, ?_, ?_⟩
      · rw [Rat.div_def]; exact Rat.mul_nonneg h0 (Rat.le_of_lt (Rat.inv_pos.mpr hn'))
      · have := div_lt_div hn' h1
        rwa [show ((n : Int) : Rat) / ((n : Int) : Rat) = 1 by grind] at this
      · rcases hv with rfl | rfl
        · exact ⟨k, by grind⟩
        · refine ⟨-(k : Int), ?_⟩
          rw [Rat.intCast_neg]
          grind
    · rintro ⟨h0, h1, k, rfl⟩
      obtain ⟨m, hm⟩ : ∃ m : Int, ((0 : Rat) + (k : Rat)) / v = (m : Rat) / ((n : Int) : Rat) := by
        rcases hv with rfl | rfl
        · exact ⟨k, by grind⟩
        · refine ⟨-k, ?_⟩
          rw [Rat.intCast_neg]
          grind
      rw [hm] at h0 h1 ⊢
      have e : (m : Rat) / ((n : Int) : Rat) * ((n : Int) : Rat) = (m : Rat) := by grind
      have g0 := Rat.mul_nonneg h0 (Rat.le_of_lt hn')
      have g1 := Rat.mul_lt_mul_of_pos_right h1 hn'
      rw [e] at g0 g1
      rw [Rat.one_mul] at g1
      have i0 := Rat.intCast_nonneg.mp g0
      have i1 := Rat.intCast_lt_intCast.mp g1
      exact ⟨m.toNat, List.mem_range.mpr (by omega), by rw [Int.toNat_of_nonneg i0]⟩
theorem c_swapped {m : Nat} (hm : 2 ≤ m) (hm8 : m < 16) (h : P (.lst (((List.range (m * m - 1)).map fun k : Nat => ((k : Int) : Rat) / ((m * m - 1 : Nat) : Int)).map dq))) : sp_swapped [dh 0 1, dh 0 ((m : Int) : Rat), dq 0, dq 1] P E := by
  refine ⟨rfl, ?_⟩
  simp only [init_c, init_n, List.replicate]
  have hmm : 4 ≤ m * m := Nat.mul_le_mul hm hm
  have hm2 : m * m ≤ 225 := Nat.mul_le_mul (show m ≤ 15 by omega) (show m ≤ 15 by omega)
  have zm : Sz 4 ((m : Int) : Rat) := ⟨by show (m : Int).natAbs < _; omega, by show 1 < _; decide⟩
  have z0 : Sz 16 (0 : Rat) := sz_0.up (by omega)
  have z1 : Sz 16 (1 : Rat) := sz_1.up (by omega)
  have zmm : Sz 16 (((m : Int) : Rat) * ((m : Int) : Rat)) := Sz.up (inferInstance : Sz _ (((m : Int) : Rat) * ((m : Int) : Rat))) (by omega)
  have ev : ((m : Int) : Rat) * ((m : Int) : Rat) - 1 = (((m * m - 1 : Nat) : Int) : Rat) := by
    rw [Int.ofNat_sub (by omega), Rat.intCast_sub, Int.natCast_mul, Rat.intCast_mul]
    rfl
  have hpos : (0 : Rat) < (((m * m - 1 : Nat) : Int) : Rat) := Rat.intCast_pos.mpr (by omega)
  have hle : (((m * m - 1 : Nat) : Int) : Rat) ≤ ((224 : Int) : Rat) := Rat.intCast_le_intCast.mpr (by omega)
  have e224 : ((224 : Int) : Rat) = 224 := rfl
  simp [m_swapped, dh, c_NOUGHT, c_ONE, dq0', dq1']
  refine c_times ?_
  have hM := isMeet_frac (n := m * m - 1) (by omega) (v := ((m : Int) : Rat) * ((m : Int) : Rat) - 1) (s := 0 - 0) (.inl ev) (by grind)
  refine c_meetings (s1 := 0) (s2 := 0) (v2 := 1) (by rw [ev]; grind) (by rw [ev]; constructor <;> grind) (by rw [ev]; constructor <;> grind) fun L hL => ?_
  rw [hL.uniq hM]
  exact ⟨fun _ => h, fun z => by simp at z; omega⟩
theorem c_swapped_x (h : E (mst "hands")) : sp_swapped [dh (1 / 2) 1, dh 0 12, dq 0, dq 1] P E := by
  refine ⟨rfl, ?_⟩
  simp only [init_c, init_n, List.replicate]
  simp [m_swapped, dh, c_NOUGHT, c_ONE, dq0', dq1', show ¬ (1 / 2 : Rat) = 0 by grind]
  exact ⟨by decide, h⟩
end
end KK

set_option maxRecDepth 100000
set_option maxHeartbeats 1000000
namespace KK
open PySem L2 DL FQ CM
def lcmL (vs : List Rat) : Nat := vs.foldl (fun a v => Nat.lcm a v.den) 1
def mI (A : Nat) (v : Rat) : Int := v.num * ((A / v.den : Nat) : Int)
def gcdL (A : Nat) (vs : List Rat) : Nat := vs.foldl (fun g v => Nat.gcd g (mI A v).natAbs) 0
theorem lcm_fold : ∀ (vs : List Rat) (a : Nat), a ∣ vs.foldl (fun a v => Nat.lcm a v.den) a ∧ ∀ v ∈ vs, v.den ∣ vs.foldl (fun a v => Nat.lcm a v.den) a
  | [], a => ⟨Nat.dvd_refl a, by simp⟩
  | w :: vs, a => by
    obtain ⟨h1, h2⟩ := lcm_fold vs (Nat.lcm a w.den)
    refine ⟨Nat.dvd_trans (Nat.dvd_lcm_left a w.den) h1, fun v hv => ?_⟩
    rcases List.mem_cons.mp hv with rfl | hv
    · exact Nat.dvd_trans (Nat.dvd_lcm_right a _) h1
    · exact h2 v hv
theorem lcm_pos : ∀ (vs : List Rat) (a : Nat), 0 < a → 0 < vs.foldl (fun a v => Nat.lcm a v.den) a
  | [], a, h => h
  | w :: vs, a, h => lcm_pos vs _ (Nat.lcm_pos h w.den_pos)
theorem gcd_fold {A : Nat} : ∀ (vs : List Rat) (g d : Nat), d ∣ vs.foldl (fun g v => Nat.gcd g (mI A v).natAbs) g ↔ d ∣ g ∧ ∀ v ∈ vs, d ∣ (mI A v).natAbs
  | [], g, d => by simp
  | w :: vs, g, d => by
    rw [List.foldl_cons, gcd_fold vs, Nat.dvd_gcd_iff, and_assoc]
    simp
theorem den_one_int (m : Int) : ((m : Rat)).den = 1 := rfl
theorem den_one {x : Rat} : x.den = 1 ↔ ∃ m : Int, x = (m : Rat) := by
  constructor
  · intro h
    exact ⟨x.num, Rat.ext rfl h⟩
  · rintro ⟨m, rfl⟩; rfl
structure IsRound (vs : List Rat) (T : Rat) : Prop where
  pos : 0 < T
  int : ∀ v ∈ vs, (v * T).den = 1
  min : ∀ k : Int, 2 ≤ k → ∃ v ∈ vs, (v * (T * (1 / (k : Rat)))).den ≠ 1
theorem mI_eq {A : Nat} {v : Rat} (h : v.den ∣ A) : v * ((A : Int) : Rat) = (mI A v : Rat) := by
  obtain ⟨c, rfl⟩ := h
  unfold mI
  rw [Nat.mul_div_cancel_left c v.den_pos, Rat.intCast_mul, Int.natCast_mul, Rat.intCast_mul]
  have e : v * (((v.den : Nat) : Int) : Rat) = (v.num : Rat) := by
    have := divInt_mul (a := v.num) (b := (v.den : Int)) (by have := v.den_nz; omega)
    rwa [Rat.num_divInt_den] at this
  rw [← Rat.mul_assoc, e]
theorem round_ok {vs mv : List Rat} (hm : mv = vs.filter fun v => !decide (v.num = 0)) (hne : mv ≠ []) : 0 < gcdL (lcmL mv) mv ∧ IsRound vs (Rat.divInt ((lcmL mv : Nat) : Int) ((gcdL (lcmL mv) mv : Nat) : Int)) := by
  have hA := lcm_pos mv 1 (by omega)
  have hd : ∀ v ∈ mv, v.den ∣ lcmL mv := (lcm_fold mv 1).2
  replace hA : 0 < lcmL mv := hA
  generalize lcmL mv = A at *
  have hg : ∀ d, d ∣ gcdL A mv ↔ ∀ v ∈ mv, d ∣ (mI A v).natAbs := fun d => by
    have := gcd_fold (A := A) mv 0 d
    unfold gcdL
    simpa using this
  have hmv : ∀ v ∈ mv, v.num ≠ 0 := fun v hv => by
    rw [hm] at hv
    simpa using (List.mem_filter.mp hv).2
  have hG : 0 < gcdL A mv := by
    rcases Nat.eq_zero_or_pos (gcdL A mv) with h0 | h0
    · obtain ⟨v, hv⟩ := List.exists_mem_of_ne_nil mv hne
      have := (hg 0).mp (by rw [h0]; exact Nat.dvd_refl 0) v hv
      have h3 : (mI A v).natAbs = 0 := Nat.eq_zero_of_zero_dvd this
      obtain ⟨c, hc⟩ := hd v hv
      have hcp : 0 < c := by
        rcases Nat.eq_zero_or_pos c with z | z
        · rw [z, Nat.mul_zero] at hc; omega
        · exact z
      unfold mI at h3
      rw [hc, Nat.mul_div_cancel_left c v.den_pos, Int.natAbs_mul] at h3
      rcases Nat.mul_eq_zero.mp h3 with z | z
      · exact absurd (Int.natAbs_eq_zero.mp z) (hmv v hv)
      · have : c = 0 := by simpa using z
        omega
    · exact h0
  refine ⟨hG, ?_⟩
  have hAr : (0 : Rat) < ((A : Int) : Rat) := Rat.intCast_pos.mpr (by omega)
  have hGr : (0 : Rat) < ((gcdL A mv : Int) : Rat) := Rat.intCast_pos.mpr (by omega)
  rw [Rat.divInt_eq_div]
  have hT : 0 < ((A : Int) : Rat) / ((gcdL A mv : Int) : Rat) := by
    rw [Rat.div_def]; exact Rat.mul_pos hAr (Rat.inv_pos.mpr hGr)
  refine ⟨hT, fun v hv => ?_, fun k hk => ?_⟩
  · by_cases h0 : v.num = 0
    · have : v = 0 := Rat.num_eq_zero.mp h0
      subst this
      rw [Rat.zero_mul]; rfl
    · have hv' : v ∈ mv := by rw [hm]; exact List.mem_filter.mpr ⟨hv, by simpa using h0⟩
      obtain ⟨c, hc⟩ := (hg (gcdL A mv)).mp (Nat.dvd_refl _) v hv'
      obtain ⟨z, hz⟩ : ((gcdL A mv : Nat) : Int) ∣ mI A v := Int.ofNat_dvd_left.mpr ⟨c, hc⟩
      refine den_one.mpr ⟨z, ?_⟩
      have e := mI_eq (hd v hv')
      rw [hz, Rat.intCast_mul] at e
      grind
  · refine Classical.byContradiction fun hn => ?_
    have hall : ∀ v ∈ mv, (gcdL A mv * k.toNat) ∣ (mI A v).natAbs := fun v hv => by
      have hvs : v ∈ vs := by rw [hm] at hv; exact (List.mem_filter.mp hv).1
      have hden : (v * (((A : Int) : Rat) / ((gcdL A mv : Int) : Rat) * (1 / (k : Rat)))).den = 1 := Classical.byContradiction fun z => hn ⟨v, hvs, z⟩
      obtain ⟨z, hz⟩ := den_one.mp hden
      have e := mI_eq (hd v hv)
      have hk0 : (k : Rat) ≠ 0 := fun z => by
        have := Rat.intCast_inj.mp (show ((k : Int) : Rat) = ((0 : Int) : Rat) from z)
        omega
      have e2 : (mI A v : Rat) = (((gcdL A mv : Int) * k * z : Int) : Rat) := by
        rw [← e, Rat.intCast_mul, Rat.intCast_mul, ← hz]
        grind
      have e3 := Rat.intCast_inj.mp e2
      rw [e3, Int.natAbs_mul, Int.natAbs_mul]
      refine ⟨z.natAbs, ?_⟩
      congr 1
      congr 1
      omega
    have := (hg _).mpr hall
    obtain ⟨c, hc⟩ := this
    have h2 : 2 ≤ k.toNat := by omega
    have hc0 : 0 < c := by
      rcases Nat.eq_zero_or_pos c with z | z
      · rw [z, Nat.mul_zero] at hc; omega
      · exact z
    have : gcdL A mv * 2 ≤ gcdL A mv * k.toNat * c := by
      rw [Nat.mul_assoc]
      exact Nat.mul_le_mul_left _ (Nat.le_trans h2 (Nat.le_mul_of_pos_right _ hc0))
    omega
end KK

set_option maxRecDepth 100000
set_option maxHeartbeats 1000000
namespace KK
open PySem L2 DL FQ CM
theorem okD_qs {r : List Rat} : okD (.lst (r.map dq)) := (show pln 2 (.lst _) from fun x hx => by
  obtain ⟨y, _, rfl⟩ := List.mem_map.mp hx
  exact pln_dq).ok
theorem eqv_nil {r : List Rat} : eqv (.lst (r.map dq)) (.lst []) = decide (r = []) := by
  cases r with
  | nil => rfl
  | cons x r => rfl
theorem lcm_le {vs : List Rat} (h : ∀ v ∈ vs, v.den < 8) : ∀ a, vs.foldl (fun a v => Nat.lcm a v.den) a ≤ a * 8 ^ vs.length := by
  induction vs with
  | nil => intro a; simp
  | cons w vs ih =>
    intro a
    rw [List.foldl_cons]
    refine Nat.le_trans (ih (fun v hv => h v (List.mem_cons_of_mem _ hv)) _) ?_
    have h1 : Nat.lcm a w.den ≤ a * w.den := by
      unfold Nat.lcm
      exact Nat.div_le_self _ _
    have h2 : a * w.den ≤ a * 8 := Nat.mul_le_mul_left _ (by have := h w List.mem_cons_self; omega)
    have h3 : Nat.lcm a w.den * 8 ^ vs.length ≤ a * 8 * 8 ^ vs.length := Nat.mul_le_mul_right _ (Nat.le_trans h1 h2)
    rw [List.length_cons, Nat.pow_succ, Nat.mul_comm (8 ^ vs.length) 8, ← Nat.mul_assoc]
    exact h3
section
variable {P : Dt → Prop} {E : Xc → Prop} {vs : List Rat}
theorem sz8 {v : Rat} (h : Sz 3 v) : v.den < 8 ∧ v.num.natAbs < 8 := ⟨h.de, h.nu⟩
theorem c_common_below {A : Nat} (hA : A ≤ 512) (hs : ∀ v ∈ vs, Sz 3 v) (hl : vs.length ≤ 3) (h : P (.int ((gcdL A vs : Nat) : Int))) : sp_common_below [.lst (vs.map dq), .int (A : Int)] P E := by
  refine ⟨rfl, ?_⟩
  simp only [init_c, init_n, List.replicate]
  simp [m_common_below]
  refine forD_inv (fun i e => ∃ x3, e = [.im (.lst (vs.map dq)), .im (.int (A : Int)), .im (.int ((gcdL A (vs.take i) : Nat) : Int)), x3]) ⟨_, rfl⟩ ?_ ?_
  · rintro i d e hd ⟨x3, rfl⟩ nx hnx
    rw [List.getElem?_map] at hd
    obtain ⟨v, hv, rfl⟩ := Option.map_eq_some_iff.mp hd
    have sv := hs v (List.mem_of_getElem? hv)
    obtain ⟨d8, n8⟩ := sz8 sv
    have ht := tk_succ hv
    have hdv : A / v.den ≤ 512 := Nat.le_trans (Nat.div_le_self _ _) hA
    have e1 : ((A : Int)).fdiv ((v.den : Nat) : Int) = ((A / v.den : Nat) : Int) := by
      rw [fdiv_pos (den_pos' v)]; rfl
    simp
    rw [e1]
    refine ⟨⟨v.den_nz, divOk (Nat.lt_trans (show (v.den : Int).natAbs < 2 ^ 3 from d8) (Nat.pow_lt_pow_right (by decide) (by decide)))⟩, mulOk (m := 3) (n := 10) n8 (by rw [Int.natAbs_natCast]; omega), ?_⟩
    rw [abs_nat]
    refine c_divisor ?_
    rw [Int.gcd_natCast_natCast]
    have key : Nat.gcd (gcdL A (vs.take i)) (v.num * ((A / v.den : Nat) : Int)).natAbs = gcdL A (vs.take (i + 1)) := by
      rw [ht]
      unfold gcdL
      rw [List.foldl_append]
      rfl
    rw [key]
    exact hnx _ ⟨_, rfl⟩
  · rintro e ⟨x3, rfl⟩
    have : (vs.map dq).length = vs.length := by simp
    rw [this, List.take_length]
    simp
    exact h
theorem c_round_of {hs : List (Rat × Rat)} (hz : ∀ h ∈ hs, Sz 3 h.2) (hl : hs.length ≤ 3) (h0 : (∀ h ∈ hs, h.2 = 0) → P .non) (h1 : (¬ ∀ h ∈ hs, h.2 = 0) → ∀ T, IsRound (hs.map (·.2)) T → Sz 12 T → P (dq T)) : sp_round_of [.lst (hs.map fun h => dh h.1 h.2)] P E := by
  refine ⟨rfl, ?_⟩
  simp only [init_c, init_n, List.replicate]
  simp [m_round_of]
  refine ⟨by omega, compD_FE dq (·.2) (fun h => !decide (h.2.num = 0)) (fun h hh Q R hQ => ?_) ?_⟩
  · unfold cStep
    simp [dh]
    simpa using hQ
  have em : (hs.filter fun h => !decide (h.2.num = 0)).map (·.2) = (hs.map (·.2)).filter fun v => !decide (v.num = 0) := by
    rw [List.filter_map]; rfl
  rw [em]
  have hmz : ∀ v ∈ (hs.map (·.2)).filter (fun v => !decide (v.num = 0)), Sz 3 v := fun v hv => by
    obtain ⟨h, hh, rfl⟩ := List.mem_map.mp (List.mem_filter.mp hv).1
    exact hz h hh
  have hml : ((hs.map (·.2)).filter (fun v => !decide (v.num = 0))).length ≤ 3 := Nat.le_trans (List.length_filter_le _ _) (by simpa using hl)
  have hme : (hs.map (·.2)).filter (fun v => !decide (v.num = 0)) = [] ↔ ∀ h ∈ hs, h.2 = 0 := by
    rw [List.filter_eq_nil_iff]
    constructor
    · intro h x hx
      have := h x.2 (List.mem_map_of_mem hx)
      simpa using this
    · intro h v hv
      obtain ⟨x, hx, rfl⟩ := List.mem_map.mp hv
      simp [h x hx]
  generalize hmv : (hs.map (·.2)).filter (fun v => !decide (v.num = 0)) = mv at *
  simp [okD_qs, okD_e, eqv_nil]
  by_cases hn : mv = []
  · simp [hn]
    exact h0 (hme.mp hn)
  · simp only [hn, if_false]
    obtain ⟨hG, hR⟩ := round_ok hmv.symm hn
    have hb : ∀ vs : List Rat, (∀ v ∈ vs, Sz 3 v) → vs.length ≤ 3 → lcmL vs ≤ 512 := fun vs hv hl => by
      have := lcm_le (fun v hx => (sz8 (hv v hx)).1) 1
      unfold lcmL
      have h8 : 8 ^ vs.length ≤ 8 ^ 3 := Nat.pow_le_pow_right (by decide) hl
      omega
    refine forD_inv (fun i e => ∃ x3, e = [.im (.lst (hs.map fun h => dh h.1 h.2)), .im (.lst (mv.map dq)), .im (.int ((lcmL (mv.take i) : Nat) : Int)), x3, .no]) ⟨_, rfl⟩ ?_ ?_
    · rintro i d e hd ⟨x3, rfl⟩ nx hnx
      rw [List.getElem?_map] at hd
      obtain ⟨v, hv, rfl⟩ := Option.map_eq_some_iff.mp hd
      have sv := hmz v (List.mem_of_getElem? hv)
      obtain ⟨d8, n8⟩ := sz8 sv
      have ht := tk_succ hv
      have hAi := hb (mv.take i) (fun v hx => hmz v (List.mem_of_mem_take hx)) (by rw [List.length_take]; omega)
      simp
      refine ⟨mulOk (m := 10) (n := 3) (by rw [Int.natAbs_natCast]; omega) d8, ?_⟩
      refine c_divisor ?_
      rw [Int.gcd_natCast_natCast]
      have hgp : 0 < Nat.gcd (lcmL (mv.take i)) v.den := Nat.gcd_pos_of_pos_right _ v.den_pos
      have hgl : Nat.gcd (lcmL (mv.take i)) v.den ≤ v.den := Nat.gcd_le_right _ v.den_pos
      simp
      refine ⟨⟨by omega, divOk (Nat.lt_of_le_of_lt (show (((Nat.gcd (lcmL (mv.take i)) v.den : Nat)) : Int).natAbs ≤ 8 by omega) (Nat.lt_of_lt_of_le (by decide : 8 < 2 ^ 4) (Nat.pow_le_pow_right (by decide) (by decide))))⟩, ?_⟩
      have key : ((lcmL (mv.take i) : Nat) * (v.den : Nat) : Int).fdiv ((Nat.gcd (lcmL (mv.take i)) v.den : Nat) : Int) = ((lcmL (mv.take (i + 1)) : Nat) : Int) := by
        rw [fdiv_pos (by omega), ht]
        unfold lcmL
        rw [List.foldl_append]
        rfl
      rw [key]
      exact hnx _ ⟨_, rfl⟩
    · rintro e ⟨x3, rfl⟩
      have hlen : (mv.map dq).length = mv.length := by simp
      rw [hlen, List.take_length]
      have hA := hb mv hmz hml
      simp
      refine c_common_below hA hmz hml ?_
      obtain ⟨v, hv⟩ := List.exists_mem_of_ne_nil mv hn
      have hgd := ((gcd_fold (A := lcmL mv) mv 0 (gcdL (lcmL mv) mv)).mp (Nat.dvd_refl _)).2 v hv
      have hmI : (mI (lcmL mv) v).natAbs < 4096 := by
        unfold mI
        rw [Int.natAbs_mul]
        have a1 := (sz8 (hmz v hv)).2
        have a2 : (((lcmL mv / v.den : Nat) : Int)).natAbs ≤ 512 := Nat.le_trans (show lcmL mv / v.den ≤ lcmL mv from Nat.div_le_self _ _) hA
        have := Nat.mul_le_mul (show v.num.natAbs ≤ 7 by omega) a2
        omega
      have hm0 : 0 < (mI (lcmL mv) v).natAbs := by
        rcases Nat.eq_zero_or_pos (mI (lcmL mv) v).natAbs with z | z
        · exfalso
          have hdv := (lcm_fold mv 1).2 v hv
          have e := mI_eq (A := lcmL mv) hdv
          rw [Int.natAbs_eq_zero.mp z] at e
          have hpos := lcm_pos mv 1 (by omega)
          have hpr : (0 : Rat) < ((lcmL mv : Int) : Rat) := Rat.intCast_pos.mpr (by unfold lcmL; omega)
          have hv0 : v ≠ 0 := fun z => by
            subst z
            rw [← hmv] at hv
            simpa using (List.mem_filter.mp hv).2
          have e0 : ((0 : Int) : Rat) = 0 := rfl
          rw [e0] at e
          rcases Rat.mul_eq_zero.mp e with z | z
          · exact hv0 z
          · rw [z] at hpr; exact absurd hpr (by grind)
        · exact z
      have hGle := Nat.le_of_dvd hm0 hgd
      refine c_part (by omega) (Nat.lt_of_le_of_lt (show (((gcdL (lcmL mv) mv : Nat) : Int)).natAbs ≤ 4096 by omega) (Nat.lt_of_lt_of_le (by decide : 4096 < 2 ^ 13) (Nat.pow_le_pow_right (by decide) (by decide)))) ?_
      refine h1 (fun z => hn (hme.mpr z)) _ hR (sz_divInt (by omega) ?_ ?_)
      · show ((lcmL mv : Nat) : Int).natAbs < _; omega
      · show ((gcdL (lcmL mv) mv : Nat) : Int).natAbs < _; omega
end
end KK

set_option maxRecDepth 100000
set_option maxHeartbeats 1000000
namespace KK
open PySem L2 DL FQ CM
section
variable {P : Dt → Prop} {E : Xc → Prop} {p1 v1 p2 v2 p3 v3 t lo hi : Rat} {s1 s2 s3 s4 s5 s6 s7 s8 s9 s10 s11 s12 s13 s14 s15 s16 s17 : Sl}
structure Hd (s v : Rat) : Prop where
  zs : Sz 3 s
  zv : Sz 3 v
  s0 : 0 ≤ s
  s1 : s < 1
  v0 : -3 ≤ v
  v1 : v ≤ 3
structure Sp (lo hi : Rat) : Prop where
  zl : Sz 3 lo
  zh : Sz 7 hi
  l0 : -2 ≤ lo
  l1 : lo ≤ 3
  h0 : lo ≤ hi
  h1 : hi ≤ 8
@[simp] theorem ixD_dh0 {s v : Rat} {P : Dt → Prop} : ixD (dh s v) (.int 0) P = P (dq s) := by simp [dh]
@[simp] theorem ixD_dh1 {s v : Rat} {P : Dt → Prop} : ixD (dh s v) (.int 1) P = P (dq v) := by simp [dh]
theorem fr_fr (p q : Rat) : fr (fr p + q) = fr (p + q) := by
  have e1 := fr_int p
  have e2 := fr_int (p + q)
  refine fr_uniq (flo (p + q) - flo p) (fr_nn _) (fr_lt _) ?_
  rw [Rat.intCast_sub]
  grind
theorem bd1 {x w A B : Rat} (hw : 1 ≤ w) (hB : 0 ≤ B) (hA : 0 ≤ A) (h1 : -A ≤ x * w) (h2 : x * w ≤ B) : -A ≤ x ∧ x ≤ B := by
  constructor
  · by_cases hx : x < 0
    · have := Rat.mul_le_mul_of_nonneg_right hw (c := -x) (by grind)
      grind
    · grind
  · by_cases hx : 0 < x
    · have := Rat.mul_le_mul_of_nonneg_right hw (c := x) (by grind)
      grind
    · grind
theorem dr_bd {u w a b : Int} {q : Rat} (e : q = Rat.divInt u w) (hw : 1 ≤ w) (ha : -a ≤ u) (hb : u ≤ b) (h0 : 0 ≤ a) (h1 : 0 ≤ b) : -(a : Rat) ≤ q ∧ q ≤ (b : Rat) := by
  have hq : q * (w : Rat) = (u : Rat) := by rw [e]; exact divInt_mul (by omega)
  have w1 : ((1 : Int) : Rat) ≤ (w : Rat) := Rat.intCast_le_intCast.mpr hw
  have a1 : ((-a : Int) : Rat) ≤ (u : Rat) := Rat.intCast_le_intCast.mpr ha
  have b1 : (u : Rat) ≤ (b : Rat) := Rat.intCast_le_intCast.mpr hb
  rw [Rat.intCast_neg] at a1
  exact bd1 w1 (Rat.intCast_nonneg.mpr h1) (Rat.intCast_nonneg.mpr h0) (by rw [hq]; exact a1) (by rw [hq]; exact b1)
theorem hh1 (k : ∀ p1 v1 p2 v2 p3 v3 t lo hi, Hd p1 v1 → Hd p2 v2 → Hd p3 v3 → Sz 5 t → Sp lo hi → t11__law_hands_hold [.im .st, .im (dh p1 v1), .im (dh p2 v2), .im (dh p3 v3), .im (dq t), .im (dq lo), .im (dq hi), s7, s8, s9, s10, s11, s12, s13, s14, s15, s16, s17] { nx := fun _ => P .non, rt := P, ex := fun x _ => E x }) : m__law_hands_hold [.im .st, s1, s2, s3, s4, s5, s6, s7, s8, s9, s10, s11, s12, s13, s14, s15, s16, s17] { nx := fun _ => P .non, rt := P, ex := fun x _ => E x } := by
  simp [m__law_hands_hold]
  refine c__law_hand fun p1 v1 a1 a2 a3 a4 a5 a6 => ?_
  refine c__law_hand fun p2 v2 b1 b2 b3 b4 b5 b6 => ?_
  refine c__law_hand fun p3 v3 c1 c2 c3 c4 c5 c6 => ?_
  simp [t14__law_hands_hold]
  refine tk (h := fun r r0 r1 => ?_)
  try simp
  refine tk (h := fun r' r0' r1' => ?_)
  try simp
  refine c_fr (n := 5) (by omega) (by omega) (by omega) (by decide) fun t _ zt => ?_
  simp [t13__law_hands_hold]
  refine tk (h := fun u u0 u1 => ?_)
  try simp
  refine tk (h := fun u' u0' u1' => ?_)
  try simp
  refine c_fr (n := 3) (by omega) (by omega) (by omega) (by decide) fun lo el zl => ?_
  have bl := dr_bd (a := 2) (b := 3) el (by omega) (by omega) (by omega) (by omega) (by omega)
  simp [t12__law_hands_hold]
  refine tk (h := fun w w0 w1 => ?_)
  try simp
  refine tk (h := fun w' w0' w1' => ?_)
  try simp
  refine c_fr (n := 3) (by omega) (by omega) (by omega) (by decide) fun g eg zg => ?_
  have bg := dr_bd (a := 0) (b := 5) eg (by omega) (by omega) (by omega) (by omega) (by omega)
  refine c__law_add ?_
  have i2 : ((2 : Int) : Rat) = 2 := rfl
  have i3 : ((3 : Int) : Rat) = 3 := rfl
  have i0 : ((0 : Int) : Rat) = 0 := rfl
  have i5 : ((5 : Int) : Rat) = 5 := rfl
  rw [i2, i3] at bl
  rw [i0, i5] at bg
  exact k p1 v1 p2 v2 p3 v3 t lo (lo + g) ⟨a1, a2, a3, a4, a5, a6⟩ ⟨b1, b2, b3, b4, b5, b6⟩ ⟨c1, c2, c3, c4, c5, c6⟩ zt ⟨zl, sz_add (m := 3) (n := 3), bl.1, bl.2, by grind, by grind⟩
theorem hh2 (a : Hd p1 v1) (b : Hd p2 v2) (zt : Sz 5 t) (w : Sp lo hi) (k : t8__law_hands_hold [.im .st, .im (dh p1 v1), .im (dh p2 v2), .im (dh p3 v3), .im (dq t), .im (dq lo), .im (dq hi), .im (dq (v1 - v2)), s8, s9, s10, s11, s12, s13, s14, s15, s16, s17] { nx := fun _ => P .non, rt := P, ex := fun x _ => E x }) : t11__law_hands_hold [.im .st, .im (dh p1 v1), .im (dh p2 v2), .im (dh p3 v3), .im (dq t), .im (dq lo), .im (dq hi), s7, s8, s9, s10, s11, s12, s13, s14, s15, s16, s17] { nx := fun _ => P .non, rt := P, ex := fun x _ => E x } := by
  have z1 : Sz 16 p1 := a.zs.up (by omega)
  have z2 : Sz 16 v1 := a.zv.up (by omega)
  have z3 : Sz 16 p2 := b.zs.up (by omega)
  have z4 : Sz 16 v2 := b.zv.up (by omega)
  have z5 : Sz 16 lo := w.zl.up (by omega)
  have z6 : Sz 16 hi := w.zh.up (by omega)
  have z7 : Sz 16 t := zt.up (by omega)
  simp [t11__law_hands_hold]
  refine c_stands ?_
  refine c__law_at ?_
  simp
  refine c_rest ?_
  refine c__law_rest ?_
  simp
  refine c_gap ?_
  refine c__law_at ?_
  refine c__law_at ?_
  have y1 := sz_at (s := p1) (v := v1) (t := t)
  have y2 := sz_at (s := p2) (v := v2) (t := t)
  refine c__law_sub ?_
  refine c__law_rest ?_
  simp
  simp [t10__law_hands_hold]
  refine c_later ?_
  refine c_stands ?_
  refine c__law_add ?_
  refine c__law_at ?_
  have e : atH (atH p1 v1 t) v1 lo = atH p1 v1 (t + lo) := by
    unfold atH
    rw [fr_fr]
    congr 1
    grind
  rw [e]
  simp
  refine c_between ?_
  simp
  refine c__law_sub ?_
  refine c__law_mul ?_
  simp
  refine c__law_sub ?_
  refine c__law_mul ?_
  have zq : Sz 60 (v1 * (hi - lo)) := Sz.up (inferInstance : Sz _ (v1 * (hi - lo))) (by omega)
  have ef : (v1 * (hi - lo)).num.fdiv ((v1 * (hi - lo)).den : Int) = flo (v1 * (hi - lo)) := fdiv_pos (den_pos' _)
  simp [ef]
  refine ⟨⟨Rat.den_nz _, divOk (pw_up zq.d' (by omega))⟩, ?_⟩
  simp [t9__law_hands_hold]
  refine c__law_sub ?_
  exact k
end
end KK

set_option maxRecDepth 100000
set_option maxHeartbeats 1000000
namespace KK
open PySem L2 DL FQ CM
section
variable {P : Dt → Prop} {E : Xc → Prop} {p1 v1 p2 v2 p3 v3 t lo hi : Rat} {s1 s2 s3 s4 s5 s6 s7 s8 s9 s10 s11 s12 s13 s14 s15 s16 s17 : Sl}
theorem compD_none {α : Type} {e : α → Dt} {g : G} {it : IT} {ie : IE} {env : List Sl} {P : Dt → Prop} {as : List α} (h : ∀ a, a ∈ as → ∀ (Q : Dt → Prop) (R : Prop), R → cStep g it ie env (e a) Q R) (k : P (.lst [])) : compD g it ie env P (as.map e) [] :=
  compD_FE dq (fun _ => 0) (fun _ => false) (fun a ha Q R q => h a ha Q R (by simpa using q)) (by rw [List.filter_eq_nil_iff.mpr (by simp)]; exact k)
theorem eqv_qs {r : List Rat} : eqv (.lst (r.map dq)) (.lst (r.map dq)) = true := eqv_self (show pln 2 (.lst _) from fun x hx => by
  obtain ⟨y, _, rfl⟩ := List.mem_map.mp hx
  exact pln_dq)
theorem mul_bd {x y A B : Rat} (hA : 0 ≤ A) (hx : -A ≤ x ∧ x ≤ A) (hy : -B ≤ y ∧ y ≤ B) : -(A * B) ≤ x * y ∧ x * y ≤ A * B := by
  have hB : 0 ≤ B := by grind
  by_cases h : 0 ≤ y
  · have a1 := Rat.mul_le_mul_of_nonneg_right hx.1 h
    have a2 := Rat.mul_le_mul_of_nonneg_right hx.2 h
    have a3 := Rat.mul_le_mul_of_nonneg_left hy.2 hA
    constructor <;> grind
  · have h' : 0 ≤ -y := by grind
    have a1 := Rat.mul_le_mul_of_nonneg_right hx.1 h'
    have a2 := Rat.mul_le_mul_of_nonneg_right hx.2 h'
    have a3 := Rat.mul_le_mul_of_nonneg_left (show -y ≤ B by grind) hA
    constructor <;> grind
/-- times and shifts are within 60 -/
theorem bd60 {x v s : Rat} (hx : -8 ≤ x ∧ x ≤ 8) (hv : -6 ≤ v ∧ v ≤ 6) (hs : -1 ≤ s ∧ s ≤ 1) : -60 ≤ x * v - s ∧ x * v - s ≤ 60 := by
  have := mul_bd (A := 8) (B := 6) (by grind) hx hv
  constructor <;> grind
theorem meet_len {v s lo hi : Rat} {L : List Rat} (hv : v ≠ 0) (b1 : -60 ≤ lo * v - s ∧ lo * v - s ≤ 60) (b2 : -60 ≤ hi * v - s ∧ hi * v - s ≤ 60) (h : IsMeet v s lo hi L) : L.length ≤ 400 := by
  have hit : ∀ k : Int, lo ≤ tmK v s k → tmK v s k < hi → -61 ≤ k ∧ k < -61 + ((130 : Nat) : Int) := fun k h1 h2 => by
    have f1 : ∀ q : Rat, -60 ≤ q ∧ q ≤ 60 → -61 ≤ flo q ∧ flo q ≤ 60 := fun q h => by
      have h1 := lt_flo q
      have h2 := flo_le q
      have e1 : ((-61 : Int) : Rat) < ((flo q : Int) : Rat) := by show (-61 : Rat) < _; grind
      have e2 : ((flo q : Int) : Rat) ≤ ((60 : Int) : Rat) := by show _ ≤ (60 : Rat); grind
      have := Rat.intCast_le_intCast.mp e2
      have := Rat.intCast_lt_intCast.mp e1
      omega
    have g1 := f1 _ b1
    have g2 := f1 _ b2
    by_cases hp : 0 < v
    · have := in_pos hp h1 h2; omega
    · have := in_neg (by grind) h1 h2; omega
  have hl : (hitL v s lo hi (iRun (-61) 130)).length ≤ 130 := by
    unfold hitL
    rw [List.length_map]
    exact Nat.le_trans (List.length_filter_le _ _) (by rw [iRun_len]; omega)
  by_cases hp : 0 < v
  · rw [h.uniq (hitL_pos hp hit)]; omega
  · rw [h.uniq (hitL_neg (by grind) hit), List.length_reverse]; omega
theorem up60 {x : Rat} (h : -60 ≤ x ∧ x ≤ 60) : -10000 ≤ x ∧ x ≤ 10000 := by constructor <;> grind
/-- two hands meet where they stand alike -/
theorem meet_at {p1 v1 p2 v2 lo hi t : Rat} {L : List Rat} (hv : v1 - v2 ≠ 0) (h : IsMeet (v1 - v2) (p2 - p1) lo hi L) (ht : t ∈ L) : atH p1 v1 t = atH p2 v2 t := by
  obtain ⟨_, _, k, e⟩ := (h.mem t).mp ht
  have e2 : t * (v1 - v2) = p2 - p1 + (k : Rat) := by rw [e]; grind
  unfold atH
  refine fr_uniq (k + flo (p2 + v2 * t)) (fr_nn _) (fr_lt _) ?_
  have := fr_int (p2 + v2 * t)
  rw [Rat.intCast_add]
  grind
theorem hh3 (a : Hd p1 v1) (b : Hd p2 v2) (c : Hd p3 v3) (w : Sp lo hi) (k : ∀ x8, t7__law_hands_hold [.im .st, .im (dh p1 v1), .im (dh p2 v2), .im (dh p3 v3), .im (dq t), .im (dq lo), .im (dq hi), .im (dq (v1 - v2)), x8, s9, s10, s11, s12, s13, s14, s15, s16, s17] { nx := fun _ => P .non, rt := P, ex := fun x _ => E x }) : t8__law_hands_hold [.im .st, .im (dh p1 v1), .im (dh p2 v2), .im (dh p3 v3), .im (dq t), .im (dq lo), .im (dq hi), .im (dq (v1 - v2)), s8, s9, s10, s11, s12, s13, s14, s15, s16, s17] { nx := fun _ => P .non, rt := P, ex := fun x _ => E x } := by
  have z1 : Sz 16 p1 := a.zs.up (by omega)
  have z2 : Sz 16 v1 := a.zv.up (by omega)
  have z3 : Sz 16 p2 := b.zs.up (by omega)
  have z4 : Sz 16 v2 := b.zv.up (by omega)
  have z5 : Sz 16 lo := w.zl.up (by omega)
  have z6 : Sz 16 hi := w.zh.up (by omega)
  have z7 : Sz 16 p3 := c.zs.up (by omega)
  have z8 : Sz 16 v3 := c.zv.up (by omega)
  have bv : -6 ≤ v1 - v2 ∧ v1 - v2 ≤ 6 := by have := a.v0; have := a.v1; have := b.v0; have := b.v1; constructor <;> grind
  have bs : -1 ≤ p2 - p1 ∧ p2 - p1 ≤ 1 := by have := a.s0; have := a.s1; have := b.s0; have := b.s1; constructor <;> grind
  have c1 := bd60 (x := lo) (by have := w.l0; have := w.l1; constructor <;> grind) bv bs
  have c2 := bd60 (x := hi) (by have := w.l0; have := w.h0; have := w.h1; constructor <;> grind) bv bs
  simp [t8__law_hands_hold]
  by_cases hv : v1 - v2 = 0
  · rw [if_pos hv]
    exact k _
  · rw [if_neg hv]
    refine c_meetings hv (up60 c1) (up60 c2) fun L hL => ?_
    have hlen := meet_len hv c1 c2 hL
    refine ⟨fun _ => ?_, fun z => by omega⟩
    have hsz := meet_sz hv (up60 c1) (up60 c2) hL
    simp
    refine c__law_meet hv c1 c2 fun L' hL' => ?_
    rw [hL'.uniq hL]
    simp [okD_qs, eqv_qs]
    refine ⟨by omega, compD_none (fun t ht Q R hQ => ?_) ?_⟩
    · have zt := hsz t ht
      unfold cStep
      simp
      refine c__law_at ?_
      refine c__law_at ?_
      rw [meet_at hv hL ht]
      simpa using hQ
    simp
    refine c_every hv ?_
    have zv : Sz 33 (v1 - v2) := inferInstance
    have fin : sp_all_meet [.lst [dh p1 v1, dh p2 v2, dh p3 v3], dq lo, dq hi] (fun x => lstD x fun x => L.length ≤ 16777216 ∧ compD (gN 14) (bT (eOp eqD (eCall sp__law_at (aCons (eVar 3) (aCons (eVar 14) aNil))) (eCall sp__law_at (aCons (eVar 1) (aCons (eVar 14) aNil))))) (eVar 14)
        [.im .st, .im (dh p1 v1), .im (dh p2 v2), .im (dh p3 v3), .im (dq t), .im (dq lo), .im (dq hi), .im (dq (v1 - v2)), .im (.lst (L.map dq)), s9, s10, s11, s12, s13, .no, s15, s16, s17] (fun y => (okD x ∧ okD y) ∧ if eqv x y = true then t7__law_hands_hold [.im .st, .im (dh p1 v1), .im (dh p2 v2), .im (dh p3 v3), .im (dq t), .im (dq lo), .im (dq hi), .im (dq (v1 - v2)), .im (.lst (L.map dq)), s9, s10, s11, s12, s13, s14, s15, s16, s17] { nx := fun _ => P .non, rt := P, ex := fun x _ => E x } else P (.bl false)) (L.map dq) []) E := by
      refine c_all_meet hv (up60 c1) (up60 c2) fun L' hL' => ?_
      rw [hL'.uniq hL]
      refine ⟨hlen, ?_⟩
      simp
      refine ⟨by omega, compD_FE dq id (fun t => decide (atH p3 v3 t = atH p1 v1 t)) (fun t ht Q R hQ => ?_) ?_⟩
      · have zt := hsz t ht
        unfold cStep
        simp
        refine c__law_at ?_
        refine c__law_at ?_
        simpa using hQ
      · have e : (L.filter fun t => decide (atH p1 v1 t = atH p2 v2 t) && decide (atH p2 v2 t = atH p3 v3 t)) = L.filter fun t => decide (atH p3 v3 t = atH p1 v1 t) := by
          apply List.filter_congr
          intro t ht
          rw [meet_at hv hL ht]
          by_cases h : atH p2 v2 t = atH p3 v3 t
          · simp [h]
          · have h' : ¬ atH p3 v3 t = atH p2 v2 t := fun z => h z.symm
            simp [h, h']
        rw [e]
        simp only [List.map_id]
        simp [okD_qs, eqv_qs]
        exact k _
    by_cases hp : 0 < v1 - v2
    · simp [hp]
      rw [dq1']
      refine c__law_over hv ?_
      simp
      exact fin
    · simp [hp]
      rw [dq1', dq_negA]
      refine c__law_over (by grind) ?_
      simp
      exact fin
end
end KK

set_option maxRecDepth 100000
set_option maxHeartbeats 1000000
namespace KK
open PySem L2 DL FQ CM
section
variable {P : Dt → Prop} {E : Xc → Prop} {p1 v1 p2 v2 p3 v3 t lo hi : Rat} {s1 s2 s3 s4 s5 s6 s7 s8 s9 s10 s11 s12 s13 s14 s15 s16 s17 : Sl}
theorem any_mem {r : List Rat} {q : Rat} : ((r.map dq).any fun y => eqv y (dq q)) = decide (q ∈ r) := by
  induction r with
  | nil => simp
  | cons x r ih =>
    rw [List.map_cons, List.any_cons, ih, eqv_dq]
    by_cases h : x = q
    · subst h; simp
    · have h' : ¬ q = x := fun z => h z.symm
      simp [h, h']
theorem hh4 (a : Hd p1 v1) (b : Hd p2 v2) (zt : Sz 5 t) (w : Sp lo hi) {s8 : Sl} (k : ∀ x9 x10, t6__law_hands_hold [.im .st, .im (dh p1 v1), .im (dh p2 v2), .im (dh p3 v3), .im (dq t), .im (dq lo), .im (dq hi), .im (dq (v1 - v2)), s8, x9, x10, s11, s12, s13, s14, s15, s16, s17] { nx := fun _ => P .non, rt := P, ex := fun x _ => E x }) : t7__law_hands_hold [.im .st, .im (dh p1 v1), .im (dh p2 v2), .im (dh p3 v3), .im (dq t), .im (dq lo), .im (dq hi), .im (dq (v1 - v2)), s8, s9, s10, s11, s12, s13, s14, s15, s16, s17] { nx := fun _ => P .non, rt := P, ex := fun x _ => E x } := by
  have z1 : Sz 16 p1 := a.zs.up (by omega)
  have z2 : Sz 16 v1 := a.zv.up (by omega)
  have z3 : Sz 16 p2 := b.zs.up (by omega)
  have z4 : Sz 16 v2 := b.zv.up (by omega)
  have z5 : Sz 16 lo := w.zl.up (by omega)
  have z6 : Sz 16 hi := w.zh.up (by omega)
  have z0 : Sz 16 (0 : Rat) := sz_0.up (by omega)
  have y1 : Sz 16 (atH p1 v1 t) := (sz_at (hs := a.zs) (hv := a.zv) (ht := zt)).up (by omega)
  have y2 : Sz 16 (atH p2 v2 t) := (sz_at (hs := b.zs) (hv := b.zv) (ht := zt)).up (by omega)
  have q1 : fr (atH p1 v1 t) = atH p1 v1 t := fr_self (fr_nn _) (fr_lt _)
  have q2 : fr (atH p2 v2 t) = atH p2 v2 t := fr_self (fr_nn _) (fr_lt _)
  have hP1 : atH p1 v1 t = fr (p1 + v1 * t) := rfl
  have hn1 := fr_nn (p1 + v1 * t)
  have hn2 := fr_lt (p1 + v1 * t)
  have hn3 := fr_int (p1 + v1 * t)
  rw [← hP1] at hn1 hn2 hn3
  have bv : -6 ≤ v1 - 0 ∧ v1 - 0 ≤ 6 := by have := a.v0; have := a.v1; constructor <;> grind
  have bs : -1 ≤ atH p1 v1 t - p1 ∧ atH p1 v1 t - p1 ≤ 1 := by have := a.s0; have := a.s1; constructor <;> grind
  have c1 := bd60 (x := lo) (by have := w.l0; have := w.l1; constructor <;> grind) bv bs
  have c2 := bd60 (x := hi) (by have := w.l0; have := w.h0; have := w.h1; constructor <;> grind) bv bs
  simp [t7__law_hands_hold]
  by_cases h0 : v1 = 0
  · rw [if_pos h0]
    exact k _ _
  · rw [if_neg h0]
    have hv : v1 - 0 ≠ 0 := by grind
    refine c__law_at ?_
    refine c__law_at ?_
    generalize atH p1 v1 t = P1 at *
    generalize hP2 : atH p2 v2 t = P2 at *
    have e1 : atI [dq P1, dq P2] 0 = some (dq P1) := rfl
    have e2 : atI [dq P1, dq P2] 1 = some (dq P2) := rfl
    simp [e1, dq0']
    show sp__law_meet [dh p1 v1, dh P1 0, dq lo, dq hi] _ _
    refine c__law_meet hv c1 c2 fun L hL => ?_
    have hlen := meet_len hv c1 c2 hL
    have hsz := meet_sz hv (up60 c1) (up60 c2) hL
    simp
    refine ⟨by omega, compD_FE dq id (fun u => decide (atH p2 v2 u = P2)) (fun u hu Q R hQ => ?_) ?_⟩
    · have zu := hsz u hu
      unfold cStep
      simp [e2]
      refine c__law_at ?_
      simpa using hQ
    simp only [List.map_id]
    have hfl := List.length_filter_le (fun u => decide (atH p2 v2 u = P2)) L
    generalize hD : L.filter (fun u => decide (atH p2 v2 u = P2)) = D at *
    simp
    refine c_told_time h0 (up60 c1) (up60 c2) fun L' hL' => ?_
    rw [hL'.uniq hL]
    refine ⟨hlen, ?_⟩
    have eD : (L.filter fun u => decide (atH p1 v1 u = fr P1) && decide (atH p2 v2 u = fr P2)) = D := by
      rw [← hD]
      apply List.filter_congr
      intro u hu
      have hm := meet_at hv hL hu
      have : atH P1 0 u = fr P1 := by unfold atH; congr 1; grind
      rw [hm, this, q2]
      simp
    rw [eD]
    simp [okD_qs, eqv_qs]
    have z7 : Sz 16 t := zt.up (by omega)
    refine c__law_less ?_
    by_cases g1 : t < lo
    · simp [g1]
      exact k _ _
    · simp [g1]
      refine c__law_less ?_
      by_cases g2 : t < hi
      · have htL : t ∈ L := (hL.mem t).mpr ⟨by grind, g2, flo (p1 + v1 * t), by grind⟩
        have htD : t ∈ D := by rw [← hD]; exact List.mem_filter.mpr ⟨htL, by simp [hP2]⟩
        simp [g2, okD_qs, any_mem, htD]
        rw [if_neg (fun z => z t htD rfl)]
        exact k _ _
      · simp [g2]
        exact k _ _
end
end KK

set_option maxRecDepth 100000
set_option maxHeartbeats 1000000
namespace KK
open PySem L2 DL FQ CM
section
variable {P : Dt → Prop} {E : Xc → Prop} {p1 v1 p2 v2 p3 v3 t lo hi : Rat} {s1 s2 s3 s4 s5 s6 s7 s8 s9 s10 s11 s12 s13 s14 s15 s16 s17 : Sl}
def l3 (v1 v2 v3 : Rat) : Dt := .lst [dq v1, dq v2, dq v3]
theorem okD_l3 : okD (l3 v1 v2 v3) := okD_qs (r := [v1, v2, v3])
theorem eqv_l3 {a b c : Rat} : eqv (l3 v1 v2 v3) (l3 a b c) = (decide (v1 = a) && (decide (v2 = b) && decide (v3 = c))) := by
  unfold l3
  rw [eqv_lst, eqvA_c, eqvA_c, eqvA_c, eqvA_n]
  simp
theorem dq_inv {k : Nat} (hk : 0 < k) : Dt.tup [.int 1, .int (k : Int)] = dq (1 / ((k : Int) : Rat)) := by
  have e := dq_pos (u := 1) (l := (k : Int)) (by omega)
  rw [Rat.divInt_eq_div] at e
  have g : Int.gcd 1 (k : Int) = 1 := by simp
  rw [g] at e
  simpa using e.symm
theorem hh5 (a : Hd p1 v1) (b : Hd p2 v2) (c : Hd p3 v3) {s8 s9 s10 : Sl} (k : ∀ x11 x12, t3__law_hands_hold [.im .st, .im (dh p1 v1), .im (dh p2 v2), .im (dh p3 v3), .im (dq t), .im (dq lo), .im (dq hi), .im (dq (v1 - v2)), s8, s9, s10, x11, x12, s13, s14, s15, s16, s17] { nx := fun _ => P .non, rt := P, ex := fun x _ => E x }) : t6__law_hands_hold [.im .st, .im (dh p1 v1), .im (dh p2 v2), .im (dh p3 v3), .im (dq t), .im (dq lo), .im (dq hi), .im (dq (v1 - v2)), s8, s9, s10, s11, s12, s13, s14, s15, s16, s17] { nx := fun _ => P .non, rt := P, ex := fun x _ => E x } := by
  have z1 := a.zv
  have z2 := b.zv
  have z3 := c.zv
  have eS : (Dt.lst [dh p1 v1, dh p2 v2, dh p3 v3]) = .lst ([(p1, v1), (p2, v2), (p3, v3)].map fun h => dh h.1 h.2) := rfl
  have rep : (List.replicate 3 [Dt.tup [.int 0, .int 1]]).flatten = [dq 0, dq 0, dq 0] := rfl
  have fz : (.lst [.tup [.int 0, .int 1], .tup [.int 0, .int 1], .tup [.int 0, .int 1]] : Dt) = l3 0 0 0 := rfl
  have bb : ∀ x y : Bool, eqv (.bl x) (.bl y) = (x == y) := by decide +kernel
  have fv : (.lst [dq v1, dq v2, dq v3] : Dt) = l3 v1 v2 v3 := rfl
  simp [t6__law_hands_hold]
  rw [eS]
  refine c_round_of (by rintro h hh; simp at hh; rcases hh with rfl | rfl | rfl <;> assumption) (by simp) (fun h0 => ?_) (fun h0 T hT zT => ?_)
  · have e1 : v1 = 0 := h0 (p1, v1) (by simp)
    have e2 : v2 = 0 := h0 (p2, v2) (by simp)
    have e3 : v3 = 0 := h0 (p3, v3) (by simp)
    simp [compD]
    simp [t5__law_hands_hold, fz, fv, bb, okD_l3, eqv_l3]
    rw [if_pos ⟨e1, e2, e3⟩]
    simp [t4__law_hands_hold]
    exact k _ _
  · simp [compD]
    have hne : ¬ (v1 = 0 ∧ v2 = 0 ∧ v3 = 0) := fun z => h0 (by rintro h hh; simp at hh; rcases hh with rfl | rfl | rfl; exact z.1; exact z.2.1; exact z.2.2)
    simp [t5__law_hands_hold, fz, fv, bb, okD_l3, eqv_l3, hne]
    have hTp : ¬ T ≤ 0 := by have := hT.pos; grind
    have hi : ∀ v ∈ [v1, v2, v3], (v * T).den = 1 := fun v hv => hT.int v (by simpa using hv)
    have hz : ∀ v ∈ [v1, v2, v3], Sz 3 v := fun v hv => by
      simp at hv
      rcases hv with rfl | rfl | rfl <;> assumption
    have el : l3 v1 v2 v3 = .lst ([v1, v2, v3].map dq) := rfl
    have sq : ∀ R : List Dt → Prop, seqD (l3 v1 v2 v3) R = R ([v1, v2, v3].map dq) := fun R => rfl
    rw [if_pos (fun x y z => hne ⟨x, y, z⟩), if_neg hTp]
    simp only [sq]
    refine ⟨by simp, compD_none (fun v hv Q R hQ => ?_) ?_⟩
    · have zv := hz v hv
      unfold cStep
      simp
      refine c__law_mul ?_
      have := hi v hv
      simp [this]
      exact hQ
    simp
    simp [t4__law_hands_hold]
    refine ⟨by simp [rng], ?_⟩
    unfold rng
    refine compD_none (fun j hj Q R hQ => ?_) ?_
    · have hj := List.mem_range.mp hj
      obtain ⟨K, hK⟩ : ∃ K, K = j + 2 := ⟨_, rfl⟩
      have ek : (2 : Int) + (j : Int) * 1 = (K : Int) := by omega
      rw [ek]
      obtain ⟨v, hv, hne'⟩ := hT.min (K : Int) (by omega)
      replace hv : v ∈ [v1, v2, v3] := by simpa using hv
      have zk : Sz 7 (1 / ((K : Int) : Rat)) := by
        have h1 : Sz 6 ((K : Int) : Rat) := ⟨by rw [show (((K : Int) : Rat)).num = (K : Int) from rfl, Int.natAbs_natCast]; omega, by show 1 < _; decide⟩
        exact sz_div (m := 1) (n := 6)
      have dk := dq_inv (k := K) (by omega)
      generalize (1 / ((K : Int) : Rat)) = q at *
      unfold cStep
      simp only [eOp_e, eCB_e, aCons_e, aNil_e, nComp_e, iOf_e, eVar_e, gN_e, sl_c0, sl_c1, eV_im, sq, put_c0, put_c1, bT_e, eC_e]
      refine ⟨by simp, compD_FE (fun _ : Unit => Dt.int 1) (fun _ => ()) (fun v => !decide ((v * (T * q)).den = 1)) (fun v hv Q R hQ => ?_) ?_⟩
      · have zv := hz v hv
        unfold cStep
        simp
        rw [dk]
        refine c__law_mul ?_
        refine c__law_mul ?_
        by_cases g : (v * (T * q)).den = 1
        · simp [g] at hQ ⊢
          exact hQ
        · have g' : ¬ (((v * (T * q)).den : Int) = 1) := by omega
          simp [g] at hQ
          simp [g, g']
          exact hQ
      · have hl : 0 < ([v1, v2, v3].filter fun v => !decide ((v * (T * q)).den = 1)).length := List.length_pos_iff_exists_mem.mpr ⟨v, List.mem_filter.mpr ⟨hv, by simpa using hne'⟩⟩
        generalize [v1, v2, v3].filter (fun v => !decide ((v * (T * q)).den = 1)) = F at *
        have hl' : ¬ ((F.length : Int) = 0) := by omega
        have hl2 : ¬ F = [] := fun z => by subst z; simp at hl
        simp [f1, hl2]
        exact hQ
    · simp
      exact k _ _
end
end KK

set_option maxRecDepth 100000
set_option maxHeartbeats 1000000
namespace KK
open PySem L2 DL FQ CM
section
variable {P : Dt → Prop} {E : Xc → Prop} {p1 v1 p2 v2 p3 v3 t lo hi : Rat} {s1 s2 s3 s4 s5 s6 s7 s8 s9 s10 s11 s12 s13 s14 s15 s16 s17 : Sl}
def ab : Dt := .dic [.inr (Str.ofString "b"), .inr (Str.ofString "a")] [.tup [.int 2, .int 1], .tup [.int 1, .int 3]]
theorem hh6 (k : P (.bl true)) : t3__law_hands_hold [.im .st, s1, s2, s3, s4, s5, s6, s7, s8, s9, s10, s11, s12, s13, s14, s15, s16, s17] { nx := fun _ => P .non, rt := P, ex := fun x _ => E x } := by
  simp [t3__law_hands_hold]
  refine tk (h := fun u u0 u1 => ?_)
  obtain ⟨m0, rfl⟩ : ∃ m : Nat, u = (m : Int) := ⟨u.toNat, by omega⟩
  simp
  obtain ⟨m, hm⟩ : ∃ m, m = m0 + 2 := ⟨_, rfl⟩
  have em : (2 : Int) + (m0 : Int) = (m : Int) := by omega
  rw [em]
  have hm2 : 2 ≤ m := by omega
  have hm8 : m < 8 := by omega
  have hmm : 4 ≤ m * m := Nat.mul_le_mul hm2 hm2
  have hmm2 : m * m ≤ 49 := Nat.mul_le_mul (show m ≤ 7 by omega) (show m ≤ 7 by omega)
  have eM : (m : Int) * (m : Int) - 1 = ((m * m - 1 : Nat) : Int) := by rw [Int.ofNat_sub (by omega), Int.natCast_mul]; rfl
  simp [t2__law_hands_hold]
  rw [dq0', dq1', dqI']
  show sp_swapped [dh 0 1, dh 0 ((m : Int) : Rat), dq 0, dq 1] _ _
  refine c_swapped hm2 (by omega) ?_
  simp
  refine ⟨mulOk (m := 3) (n := 3) (by rw [Int.natAbs_natCast]; omega) (by rw [Int.natAbs_natCast]; omega), ?_⟩
  rw [eM]
  have eN : ((m : Int) * (m : Int)).toNat - 1 = m * m - 1 := by
    rw [← Int.natCast_mul, Int.toNat_natCast]
  rw [eN, ← List.map_map]
  have hmul : IntMulOk (m : Int) (m : Int) := mulOk (m := 3) (n := 3) (by rw [Int.natAbs_natCast]; omega) (by rw [Int.natAbs_natCast]; omega)
  generalize hM : m * m - 1 = M at *
  refine ⟨by omega, by simp [rng]; omega, ?_⟩
  rw [rng0]
  refine compD_E dq (fun k : Nat => ((k : Int) : Rat) / ((M : Int) : Rat)) (fun i hi Q R hQ => ?_) ?_
  · have hi := List.mem_range.mp hi
    unfold cStep
    simp
    refine ⟨hmul, ?_⟩
    rw [eM]
    refine c_fr (n := 6) (by omega) (by rw [Int.natAbs_natCast]; omega) (by rw [Int.natAbs_natCast]; omega) (by decide) fun q e _ => ?_
    rw [e, Rat.divInt_eq_div]
    exact hQ
  · simp only [okD_qs, eqv_qs]
    simp [t1__law_hands_hold]
    refine ⟨rfl, ?_⟩
    simp only [init_c, init_n, List.replicate]
    have ed : Dt.dic (kPut (kPut [] (Sum.inr (Str.ofString "b"))) (Sum.inr (Str.ofString "a"))) (xPut (kPut [] (Sum.inr (Str.ofString "b"))) (xPut [] [] (Sum.inr (Str.ofString "b")) (Dt.tup [Dt.int 2, Dt.int 1])) (Sum.inr (Str.ofString "a")) (Dt.tup [Dt.int 1, Dt.int 3])) = ab := rfl
    rw [ed]
    have l1 : vD [.inr (Str.ofString "b"), .inr (Str.ofString "a")] [Dt.tup [.int 2, .int 1], .tup [.int 1, .int 3]] (.inr (Str.ofString "a")) = some (.tup [.int 1, .int 3]) := rfl
    have l2 : vD [.inr (Str.ofString "b"), .inr (Str.ofString "a")] [Dt.tup [.int 2, .int 1], .tup [.int 1, .int 3]] (.inr (Str.ofString "b")) = some (.tup [.int 2, .int 1]) := rfl
    simp [m_speeds_of, compD, c_NOUGHT, ab, l1, l2]
    have ok : okD (Dt.lst [Dt.tup [Dt.tup [Dt.int 0, Dt.int 1], Dt.tup [Dt.int 1, Dt.int 3]], Dt.tup [Dt.tup [Dt.int 0, Dt.int 1], Dt.tup [Dt.int 2, Dt.int 1]]]) := by unfold okD; decide +kernel
    have ev : eqv (Dt.lst [Dt.tup [Dt.tup [Dt.int 0, Dt.int 1], Dt.tup [Dt.int 1, Dt.int 3]], Dt.tup [Dt.tup [Dt.int 0, Dt.int 1], Dt.tup [Dt.int 2, Dt.int 1]]]) (Dt.lst [Dt.tup [Dt.tup [Dt.int 0, Dt.int 1], Dt.tup [Dt.int 1, Dt.int 3]], Dt.tup [Dt.tup [Dt.int 0, Dt.int 1], Dt.tup [Dt.int 2, Dt.int 1]]]) = true := by decide +kernel
    simp [ok, ev]
    exact k
end
end KK

set_option maxRecDepth 100000
set_option maxHeartbeats 1000000
namespace KK
open PySem L2 DL FQ CM
section
variable {P : Dt → Prop} {E : Xc → Prop} {p1 v1 p2 v2 p3 v3 t lo hi : Rat} {s1 s2 s3 s4 s5 s6 s7 s8 s9 s10 s11 s12 s13 s14 s15 s16 s17 : Sl}
theorem c__law_hands_hold (k : P (.bl true)) : sp__law_hands_hold [.st] P E := by
  refine ⟨rfl, ?_⟩
  simp only [init_c, init_n, List.replicate]
  refine hh1 fun p1 v1 p2 v2 p3 v3 t lo hi a b c zt w => ?_
  refine hh2 a b zt w ?_
  refine hh3 a b c w fun x8 => ?_
  refine hh4 a b zt w fun x9 x10 => ?_
  refine hh5 a b c fun x11 x12 => ?_
  exact hh6 k
end
end KK

set_option maxHeartbeats 1000000
/-! M14: wheels of days, in plain Lean. -/
namespace CM
theorem asc_extI : ∀ {xs ys : List Int}, xs.Pairwise (· < ·) → ys.Pairwise (· < ·) → (∀ x, x ∈ xs ↔ x ∈ ys) → xs = ys
  | [], [], _, _, _ => rfl
  | [], y :: ys, _, _, h => by have := (h y).mpr (by simp); simp at this
  | x :: xs, [], _, _, h => by have := (h x).mp (by simp); simp at this
  | x :: xs, y :: ys, hx, hy, h => by
    obtain ⟨h1, h2⟩ := List.pairwise_cons.mp hx
    obtain ⟨h3, h4⟩ := List.pairwise_cons.mp hy
    have e : x = y := by
      have a := (h x).mp (by simp)
      have b := (h y).mpr (by simp)
      rcases List.mem_cons.mp a with e | a
      · exact e
      · rcases List.mem_cons.mp b with e | b
        · exact e.symm
        · have := h1 _ b; have := h3 _ a; omega
    subst e
    have := asc_extI h2 h4 fun z => by
      have hz := h z
      simp only [List.mem_cons] at hz
      constructor
      · intro q
        have := h1 _ q
        rcases hz.mp (.inr q) with e | e
        · omega
        · exact e
      · intro q
        have := h3 _ q
        rcases hz.mpr (.inr q) with e | e
        · omega
        · exact e
    rw [this]
/-- the first of an ascending list -/
theorem asc_head {xs : List Int} {d : Int} (h : xs.Pairwise (· < ·)) (m : d ∈ xs) (l : ∀ y ∈ xs, d ≤ y) : xs[0]? = some d := by
  cases xs with
  | nil => simp at m
  | cons x t =>
    rcases List.mem_cons.mp m with e | e
    · simp [e]
    · have := (List.pairwise_cons.mp h).1 _ e
      have := l x (by simp)
      omega
theorem asc_snd {xs : List Int} {d e : Int} (h : xs.Pairwise (· < ·)) (m : d ∈ xs) (l : ∀ y ∈ xs, d ≤ y) (m2 : e ∈ xs) (ne : e ≠ d) (l2 : ∀ y ∈ xs, y = d ∨ e ≤ y) : xs[1]? = some e := by
  cases xs with
  | nil => simp at m
  | cons x t =>
    have hx : x = d := by
      have := asc_head h m l
      simpa using this
    subst hx
    obtain ⟨p, q⟩ := List.pairwise_cons.mp h
    have me : e ∈ t := by
      rcases List.mem_cons.mp m2 with z | z
      · exact absurd z ne
      · exact z
    have := asc_head q me fun y hy => by
      rcases l2 y (by simp [hy]) with z | z
      · have := p y hy; omega
      · exact z
    simpa using this
/-! ### rows of wheels (length, mark) -/
abbrev Wh := List (Int × Int)
def rowI (W : Wh) (x : Int) : List Int := W.map fun w => (w.2 + x) % w.1
def lcmI (a b : Int) : Int := ((Int.lcm a b : Nat) : Int)
def lcmW : Wh → Int → Int
  | [], L => L
  | w :: W, L => lcmW W (lcmI L w.1)
theorem lcm_dvd_iff {a b x : Int} : lcmI a b ∣ x ↔ a ∣ x ∧ b ∣ x := by
  constructor
  · intro h
    exact ⟨Int.dvd_trans (Int.dvd_lcm_left a b) h, Int.dvd_trans (Int.dvd_lcm_right a b) h⟩
  · intro h
    exact Int.coe_lcm_dvd h.1 h.2
theorem lcm_pos' {a b : Int} (ha : 0 < a) (hb : 0 < b) : 0 < lcmI a b := by
  have := Int.lcm_pos (m := a) (n := b) (by omega) (by omega)
  unfold lcmI; omega
theorem lcmI_le {a b : Int} (ha : 0 < a) (hb : 0 < b) : lcmI a b ≤ a * b := by
  refine Int.le_of_dvd (Int.mul_pos ha hb) (lcm_dvd_iff.mpr ⟨Int.dvd_mul_right _ _, Int.dvd_mul_left _ _⟩)
theorem lcmI_ge {a b : Int} (ha : 0 < a) (hb : 0 < b) : a ≤ lcmI a b ∧ b ≤ lcmI a b := by
  have := lcm_pos' ha hb
  exact ⟨Int.le_of_dvd this (lcm_dvd_iff.mp (Int.dvd_refl _)).1, Int.le_of_dvd this (lcm_dvd_iff.mp (Int.dvd_refl _)).2⟩
theorem emod_eq_iff {x y l : Int} : x % l = y % l ↔ l ∣ x - y := Int.emod_eq_emod_iff_emod_sub_eq_zero.trans Int.dvd_iff_emod_eq_zero.symm
theorem row_iff {W : Wh} {x y : Int} : ∀ {L : Int}, (L ∣ x - y ∧ rowI W x = rowI W y) ↔ lcmW W L ∣ x - y := by
  induction W with
  | nil => intro L; simp [rowI, lcmW]
  | cons w W ih =>
    intro L
    show (_ ∧ (_ :: rowI W x) = _ :: rowI W y) ↔ lcmW W (lcmI L w.1) ∣ x - y
    rw [← ih, lcm_dvd_iff, List.cons.injEq, emod_eq_iff]
    have e : w.2 + x - (w.2 + y) = x - y := by omega
    rw [e]
    constructor
    · rintro ⟨a, b, c⟩; exact ⟨⟨a, b⟩, c⟩
    · rintro ⟨⟨a, b⟩, c⟩; exact ⟨a, b, c⟩
theorem row_eq {W : Wh} {x y : Int} : rowI W x = rowI W y ↔ lcmW W 1 ∣ x - y := by
  rw [← row_iff]
  exact ⟨fun h => ⟨Int.one_dvd _, h⟩, fun h => h.2⟩
theorem lcmW_pos {W : Wh} : ∀ {L : Int}, 0 < L → (∀ w ∈ W, 0 < w.1) → 0 < lcmW W L := by
  induction W with
  | nil => intro L h _; exact h
  | cons w W ih =>
    intro L h hW
    exact ih (lcm_pos' h (hW w (by simp))) fun v hv => hW v (by simp [hv])
theorem lcmW_le {W : Wh} {B : Int} (hB : 0 < B) : ∀ {L : Int}, 0 < L → (∀ w ∈ W, 0 < w.1 ∧ w.1 ≤ B) → lcmW W L ≤ L * B ^ W.length := by
  induction W with
  | nil => intro L h _; simp [lcmW]
  | cons w W ih =>
    intro L h hW
    have h1 := hW w (by simp)
    have h2 := ih (lcm_pos' h h1.1) fun v hv => hW v (by simp [hv])
    have h3 := lcmI_le h h1.1
    have h4 : L * w.1 ≤ L * B := Int.mul_le_mul_of_nonneg_left h1.2 (by omega)
    have h5 : (0 : Int) ≤ B ^ W.length := Int.le_of_lt (Int.pow_pos hB)
    have h6 := Int.mul_le_mul_of_nonneg_right (Int.le_trans h3 h4) h5
    show lcmW W (lcmI L w.1) ≤ _
    rw [List.length_cons, Int.pow_succ', ← Int.mul_assoc]
    exact Int.le_trans h2 h6
theorem lcmW_append {W V : Wh} : ∀ {L : Int}, lcmW (W ++ V) L = lcmW V (lcmW W L) := by
  induction W with
  | nil => intro L; rfl
  | cons w W ih => intro L; exact ih
/-! ### two places at once -/
theorem gcd_posI {a b : Int} (ha : 0 < a) : 0 < Int.gcd a b := by
  have := Int.gcd_pos_of_ne_zero_left (a := a) b (by omega); omega
/-- what joined tells -/
theorem join_ok {l1 d1 l2 d2 q inv g a s t : Int} (h1 : 0 < l1) (h2 : 0 < l2) (hg : 0 < g) (e1 : l1 = a * g) (e2 : l2 = s * g) (eq : d2 - d1 = q * g) (ei : inv * a = 1 + t * s) (r1 : 0 ≤ d1 ∧ d1 < l1) (r2 : 0 ≤ d2 ∧ d2 < l2) :
    let m := q * inv
    let x := d1 + l1 * (m % s)
    (x % (a * l2)) % l1 = d1 ∧ (x % (a * l2)) % l2 = d2 := by
  intro m x
  have hx : x % l1 = d1 := by
    show (d1 + l1 * _) % l1 = d1
    rw [Int.add_mul_emod_self_left]
    exact Int.emod_eq_of_lt r1.1 r1.2
  have hy : x % l2 = d2 := by
    have em : m % s = m - s * (m / s) := by have := Int.mul_ediv_add_emod m s; omega
    have : x = d2 + l2 * (q * t - a * (m / s)) := by
      show d1 + l1 * (m % s) = _
      rw [em]
      generalize m / s = u
      show d1 + l1 * (q * inv - s * u) = _
      have f1 : l1 * (q * inv - s * u) = q * g * (inv * a) - l2 * (a * u) := by rw [e1, e2]; grind
      rw [f1, ei, ← eq]
      have f2 : q * g * (t * s) = l2 * (q * t) := by rw [e2]; grind
      grind
    rw [this, Int.add_mul_emod_self_left]
    exact Int.emod_eq_of_lt r2.1 r2.2
  have dv1 : l1 ∣ a * l2 := ⟨s, by rw [e1, e2]; grind⟩
  have dv2 : l2 ∣ a * l2 := ⟨a, by grind⟩
  rw [Int.emod_emod_of_dvd _ dv1, Int.emod_emod_of_dvd _ dv2]
  exact ⟨hx, hy⟩
theorem lcm_as {a b g : Int} (ha : 0 < a) (hb : 0 < b) (e : g = ((Int.gcd a b : Nat) : Int)) : a / g * b = lcmI a b := by
  have hg : 0 < g := by have := gcd_posI (b := b) ha; omega
  have d1 : g ∣ a := by rw [e]; exact Int.gcd_dvd_left a b
  obtain ⟨k, hk⟩ := d1
  have e1 : a / g = k := by rw [hk, Int.mul_ediv_cancel_left _ (by omega)]
  rw [e1]
  have h := Int.gcd_mul_lcm a b
  have h' : g * lcmI a b = a * b := by
    rw [e]
    unfold lcmI
    have : ((Int.gcd a b * Int.lcm a b : Nat) : Int) = ((a.natAbs * b.natAbs : Nat) : Int) := by rw [h]
    rw [Int.natCast_mul, Int.natCast_mul, Int.natAbs_of_nonneg (by omega), Int.natAbs_of_nonneg (by omega)] at this
    exact this
  have : g * (k * b) = g * lcmI a b := by
    rw [h', ← Int.mul_assoc, ← hk]
  exact Int.eq_of_mul_eq_mul_left (by omega) this
/-- no day stands at both -/
theorem join_no {l1 d1 l2 d2 x : Int} (e1 : x % l1 = d1) (e2 : x % l2 = d2) : ((Int.gcd l1 l2 : Nat) : Int) ∣ d2 - d1 := by
  have a1 : l1 ∣ x - d1 := by rw [← e1]; exact Int.dvd_self_sub_emod
  have a2 : l2 ∣ x - d2 := by rw [← e2]; exact Int.dvd_self_sub_emod
  have b1 := Int.dvd_trans (Int.gcd_dvd_left l1 l2) a1
  have b2 := Int.dvd_trans (Int.gcd_dvd_right l1 l2) a2
  have := Int.dvd_sub b1 b2
  have e : x - d1 - (x - d2) = d2 - d1 := by omega
  rwa [e] at this
end CM
namespace CM
/-! ### three lengths up to ten -/
theorem gcd_lcm10 : ∀ a, a < 11 → ∀ b, b < 11 → ∀ c, c < 11 → (Nat.gcd (Nat.lcm a b) c = Nat.lcm (Nat.gcd a c) (Nat.gcd b c)) := by decide +kernel
theorem gl10 {a b c : Int} (ha : 0 ≤ a ∧ a ≤ 10) (hb : 0 ≤ b ∧ b ≤ 10) (hc : 0 ≤ c ∧ c ≤ 10) : ((Int.gcd (lcmI a b) c : Nat) : Int) = lcmI ((Int.gcd a c : Nat) : Int) ((Int.gcd b c : Nat) : Int) := by
  obtain ⟨x, rfl⟩ := Int.eq_ofNat_of_zero_le ha.1
  obtain ⟨y, rfl⟩ := Int.eq_ofNat_of_zero_le hb.1
  obtain ⟨z, rfl⟩ := Int.eq_ofNat_of_zero_le hc.1
  have := gcd_lcm10 x (by omega) y (by omega) z (by omega)
  unfold lcmI Int.lcm Int.gcd
  simp only [Int.natAbs_natCast]
  rw [this]
theorem lcm_1 {a : Int} (h : 0 < a) : lcmI 1 a = a := by
  obtain ⟨x, rfl⟩ := Int.eq_ofNat_of_zero_le (show 0 ≤ a by omega)
  unfold lcmI Int.lcm
  simp
/-- the place g of a wheel, as a rest -/
theorem place_iff {l m g x : Int} (h : 0 ≤ g ∧ g < l) : (m + x) % l = g ↔ x % l = (g - m) % l := by
  have e : g % l = g := Int.emod_eq_of_lt h.1 h.2
  have q : (m + x) % l = g ↔ (m + x) % l = g % l := by rw [e]
  rw [q, emod_eq_iff, emod_eq_iff]
  have : m + x - g = x - (g - m) := by omega
  rw [this]
abbrev Pair (a b : Int × Int) (g h : Int) : Prop := ((Int.gcd a.1 b.1 : Nat) : Int) ∣ (g - a.2) - (h - b.2)
/-- where a day stands at both, the pair fits -/
theorem pair_of {a b : Int × Int} {g h x : Int} (h1 : (a.2 + x) % a.1 = g) (h2 : (b.2 + x) % b.1 = h) : Pair a b g h := by
  have a1 : a.1 ∣ a.2 + x - g := by rw [← h1]; exact Int.dvd_self_sub_emod
  have a2 : b.1 ∣ b.2 + x - h := by rw [← h2]; exact Int.dvd_self_sub_emod
  have b1 := Int.dvd_trans (Int.gcd_dvd_left a.1 b.1) a1
  have b2 := Int.dvd_trans (Int.gcd_dvd_right a.1 b.1) a2
  have := Int.dvd_sub b2 b1
  have e : b.2 + x - h - (a.2 + x - g) = (g - a.2) - (h - b.2) := by omega
  rwa [e] at this
/-- where the going stops, a pair does not fit -/
theorem no_pair {W : Wh} {G : List Int} {k : Nat} {w : Int × Int} {g d : Int} (hl : W.length ≤ 3) (hW : ∀ w ∈ W, 0 < w.1 ∧ w.1 ≤ 10) (hw : W[k]? = some w) (hg : G[k]? = some g) (hr : rowI (W.take k) d = G.take k)
    (hn : ¬ ((Int.gcd (lcmW (W.take k) 1) w.1 : Nat) : Int) ∣ (g - w.2) - d) : ∃ j v h, j < k ∧ W[j]? = some v ∧ G[j]? = some h ∧ ¬ Pair v w h g := by
  have key : ∀ (v : Int × Int) (h : Int), (v.2 + d) % v.1 = h → Pair v w h g → ((Int.gcd v.1 w.1 : Nat) : Int) ∣ (g - w.2) - d := fun v h e p => by
    have a1 : v.1 ∣ v.2 + d - h := by rw [← e]; exact Int.dvd_self_sub_emod
    have b1 := Int.dvd_trans (Int.gcd_dvd_left v.1 w.1) a1
    have := Int.dvd_add p b1
    have e : h - v.2 - (g - w.2) + (v.2 + d - h) = -((g - w.2) - d) := by omega
    rw [e] at this
    exact Int.dvd_neg.mp this
  have w0 := hW w (List.mem_of_getElem? hw)
  match W, k with
  | [], _ => simp at hw
  | a :: W', 0 =>
    exfalso
    apply hn
    simp [lcmW]
  | [a], k + 1 => simp at hw
  | a :: b :: W', 1 =>
    have eb : b = w := by simpa using hw
    subst eb
    cases G with
    | nil => simp at hg
    | cons h G' =>
      have er : (a.2 + d) % a.1 = h := by simpa [rowI] using hr
      refine ⟨0, a, h, by omega, by simp, by simp, fun p => hn ?_⟩
      have := key a h er p
      have a0 := hW a (by simp)
      simpa [lcmW, lcm_1 a0.1] using this
  | [a, b], k + 2 => simp at hw
  | a :: b :: c :: W', 2 =>
    have eb : c = w := by simpa using hw
    subst eb
    have a0 := hW a (by simp)
    have b0 := hW b (by simp)
    match G with
    | [] => simp at hg
    | [h] => simp at hg
    | h :: h' :: G' =>
      have er : (a.2 + d) % a.1 = h ∧ (b.2 + d) % b.1 = h' := by simpa [rowI] using hr
      refine Classical.byContradiction fun hno => hn ?_
      have pa : Pair a c h g := Classical.byContradiction fun z => hno ⟨0, a, h, by omega, by simp, by simp, z⟩
      have pb : Pair b c h' g := Classical.byContradiction fun z => hno ⟨1, b, h', by omega, by simp, by simp, z⟩
      have k1 := key a h er.1 pa
      have k2 := key b h' er.2 pb
      show ((Int.gcd (lcmI (lcmI 1 a.1) b.1) c.1 : Nat) : Int) ∣ _
      rw [lcm_1 a0.1, gl10 (by omega) (by omega) (by omega)]
      exact lcm_dvd_iff.mpr ⟨k1, k2⟩
  | [a, b, c], k + 3 => simp at hw
  | _ :: _ :: _ :: _ :: _, k + 3 => simp at hl
end CM

set_option maxRecDepth 100000
set_option maxHeartbeats 1000000
namespace KK
open PySem L2 DL FQ CM
section
variable {P : Dt → Prop} {E : Xc → Prop}
theorem fd_mod {x l : Int} (h : 0 < l) : x - x.fdiv l * l = x % l := by
  rw [fdiv_pos h]
  have := Int.mul_ediv_add_emod x l
  rw [Int.mul_comm l] at this
  omega
theorem dk {a b : Int} (h : 0 < b) (h2 : b < 1152921504606846976) : b ≠ 0 ∧ DivOk a b :=
  ⟨by omega, divOk (Nat.lt_of_lt_of_le (show b.natAbs < 2 ^ 60 by omega) (Nat.pow_le_pow_right (by decide) (by decide)))⟩
theorem mk {a b : Int} (h : a.natAbs < 1152921504606846976) (h2 : b.natAbs < 1152921504606846976) : IntMulOk a b := mulOk (m := 60) (n := 60) h h2
theorem dv_bd {x l : Int} (h : 0 < l) (hx : 0 ≤ x) : 0 ≤ x / l ∧ x / l ≤ x := ⟨Int.ediv_nonneg hx (by omega), Int.ediv_le_self _ hx⟩
theorem abs_le_mul {x : Nat} {a L : Int} (h : (x : Int) * a ≤ L) (ha : 1 ≤ a) : (x : Int) ≤ L := by
  have := Int.mul_le_mul_of_nonneg_left ha (show (0 : Int) ≤ (x : Int) by omega)
  omega
def InvI (n l : Int) (m : Nat) (e : List Sl) : Prop := ∃ one other first second x6, e = [.im (.int n), .im (.int l), .im (.int one), .im (.int other), .im (.int first), .im (.int second), x6] ∧ 0 ≤ one ∧ one ≤ l ∧ 0 ≤ other ∧ other ≤ l ∧ m = other.toNat ∧ (first.natAbs : Int) * other + (second.natAbs : Int) * one ≤ l ∧ (first.natAbs : Int) ≤ l ∧ (second.natAbs : Int) ≤ l ∧ Int.gcd one other = Int.gcd n l ∧ (∃ t, first * n = one + t * l) ∧ (∃ t, second * n = other + t * l)
theorem c_inverse {n l : Int} (hl : 0 < l) (hl2 : l < 1125899906842624) (hn : 0 ≤ n) (hn2 : n < 1125899906842624) (h : ∀ r t, 0 ≤ r → r < l → r * n = ((Int.gcd n l : Nat) : Int) + t * l → P (.int r)) : sp_inverse [.int n, .int l] P E := by
  refine ⟨rfl, ?_⟩
  simp only [init_c, init_n, List.replicate]
  simp [m_inverse]
  have d0 := dv_bd hl hn
  refine ⟨dk hl (by omega), by rw [fdiv_pos hl]; exact mk (by omega) (by omega), ?_⟩
  rw [fd_mod hl]
  have m0 := Int.emod_nonneg n (show l ≠ 0 by omega)
  have m1 := Int.emod_lt_of_pos n hl
  refine ⟨InvI n l,
    ⟨_, n % l, l, 1, 0, .no, rfl, m0, by omega, by omega, by omega, rfl, by simp, by simp; omega, by simp; omega, ?_, ⟨n / l, ?_⟩, ⟨-1, by omega⟩⟩, ?_⟩
  · rw [Int.gcd_comm, Int.gcd_comm n l]; unfold Int.gcd; rw [Int.natAbs_emod_of_nonneg hn, Nat.gcd_comm, ← Nat.gcd_rec]
  · have := Int.mul_ediv_add_emod n l
    rw [Int.mul_comm l] at this
    omega
  · rintro m e ⟨one, other, first, second, x6, rfl, h1, h2, h3, h4, rfl, h5, h6, h7, hg, ⟨t1, ht1⟩, ⟨t2, ht2⟩⟩
    simp
    by_cases h0 : other = 0
    · subst h0
      simp
      refine ⟨dk hl (by omega), ?_, ?_⟩
      · rw [fdiv_pos hl]
        refine mk ?_ (by omega)
        have := Int.natAbs_ediv_le_natAbs first l
        omega
      · rw [fd_mod hl]
        have e1 : one = ((Int.gcd n l : Nat) : Int) := by
          rw [← hg, Int.gcd_zero_right]; omega
        refine h _ (t1 - first / l * n) (Int.emod_nonneg _ (by omega)) (Int.emod_lt_of_pos _ hl) ?_
        have := Int.mul_ediv_add_emod first l
        have e2 : first % l = first - l * (first / l) := by omega
        rw [e2, ← e1]
        generalize first / l = u
        grind
    · simp [h0]
      have hp : 0 < other := by omega
      rw [fdiv_pos hp]
      have dv := dv_bd hp h1
      have em := Int.mul_ediv_add_emod one other
      have r0 := Int.emod_nonneg one h0
      have r1 := Int.emod_lt_of_pos one hp
      have hk : one - one / other * other = one % other := by rw [Int.mul_comm]; omega
      generalize hkk : one / other = k at *
      refine ⟨(dk hp (by omega)).2, mk (by omega) (by omega), mk (by omega) (by omega), ?_⟩
      rw [hk]
      have s1 : ((first - k * second).natAbs : Int) ≤ (first.natAbs : Int) + k * (second.natAbs : Int) := by
        have a := Int.natAbs_sub_le first (k * second)
        rw [Int.natAbs_mul] at a
        have : ((k.natAbs * second.natAbs : Nat) : Int) = k * (second.natAbs : Int) := by rw [Int.natCast_mul, Int.natAbs_of_nonneg dv.1]
        omega
      have s2 := Int.mul_le_mul_of_nonneg_right s1 (show 0 ≤ other by omega)
      have s3 : (second.natAbs : Int) * (one % other) + ((first - k * second).natAbs : Int) * other ≤ l := by
        have e : one = other * k + one % other := by omega
        rw [e] at h5
        generalize one % other = r at *
        generalize (second.natAbs : Int) = y at *
        generalize (first.natAbs : Int) = x at *
        have : y * (other * k + r) = y * r + k * y * other := by grind
        have : (x + k * y) * other = x * other + k * y * other := by grind
        omega
      have s4 : (0 : Int) ≤ (second.natAbs : Int) * (one % other) := Int.mul_nonneg (by omega) r0
      refine ⟨(one % other).toNat, by omega, _, _, _, _, _, rfl, h3, h4, r0, by omega, rfl, s3, h7, abs_le_mul (a := other) (by omega) (by omega), ?_, ⟨t2, ht2⟩, ⟨t1 - k * t2, ?_⟩⟩
      · rw [← hg, Int.gcd_comm one other, ← Int.gcd_sub_mul_right_right other one k, hk]
      · have e : one % other = one - k * other := by rw [Int.mul_comm]; omega
        rw [e]
        grind
end
end KK

set_option maxRecDepth 100000
set_option maxHeartbeats 1000000
namespace KK
open PySem L2 DL FQ CM
section
variable {P : Dt → Prop} {E : Xc → Prop}
def dw (w : Int × Int) : Dt := .tup [.int w.1, .int w.2]
theorem gcd_I {a b : Int} (ha : 0 < a) : 0 < ((Int.gcd a b : Nat) : Int) ∧ ((Int.gcd a b : Nat) : Int) ≤ a := by
  have := gcd_posI (b := b) ha
  have := Nat.le_of_dvd (Int.natAbs_pos.mpr (show a ≠ 0 by omega)) (Int.gcd_dvd_natAbs_left a b)
  omega
theorem div_ex {a g : Int} (hg : 0 < g) (h : g ∣ a) : a = a / g * g := by
  rw [Int.mul_comm]; exact (Int.mul_ediv_cancel' h).symm
theorem c_joined {l1 d1 l2 d2 : Int} (h1 : 0 < l1) (h2 : 0 < l2) (b1 : l1 < 17179869185) (b2 : l2 < 131073) (r1 : 0 ≤ d1 ∧ d1 < l1) (r2 : 0 ≤ d2 ∧ d2 < l2)
    (no : ¬ ((Int.gcd l1 l2 : Nat) : Int) ∣ d2 - d1 → P .non)
    (yes : ∀ d, 0 ≤ d → d < lcmI l1 l2 → d % l1 = d1 → d % l2 = d2 → P (.tup [.int (lcmI l1 l2), .int d])) : sp_joined [.tup [.int l1, .int d1], .tup [.int l2, .int d2]] P E := by
  refine ⟨rfl, ?_⟩
  simp only [init_c, init_n, List.replicate]
  simp [m_joined]
  have hcop : Int.gcd l1 l2 ≠ 0 := by have := gcd_posI (b := l2) h1; omega
  have g1 := gcd_I (b := l2) h1
  have g2 := gcd_I (b := l1) h2
  rw [Int.gcd_comm] at g2
  refine c_divisor ?_
  simp
  have glcm := lcm_as h1 h2 rfl
  have dv1 : ((Int.gcd l1 l2 : Nat) : Int) ∣ l1 := Int.gcd_dvd_left l1 l2
  have dv2 : ((Int.gcd l1 l2 : Nat) : Int) ∣ l2 := Int.gcd_dvd_right l1 l2
  have hcp : Int.gcd (l1 / ((Int.gcd l1 l2 : Nat) : Int)) (l2 / ((Int.gcd l1 l2 : Nat) : Int)) = 1 := by
    rw [Int.gcd_ediv (Int.gcd_dvd_left l1 l2) (Int.gcd_dvd_right l1 l2)]
    simp
    exact Nat.div_self (by omega)
  generalize hg : ((Int.gcd l1 l2 : Nat) : Int) = g at *
  have q0 : (d2 - d1) / g * g ≤ d2 - d1 := by
    have := Int.mul_ediv_add_emod (d2 - d1) g
    have := Int.emod_nonneg (d2 - d1) (show g ≠ 0 by omega)
    have := Int.emod_lt_of_pos (d2 - d1) g1.1
    rw [Int.mul_comm]
    omega
  have qb : ((d2 - d1) / g).natAbs ≤ (d2 - d1).natAbs := Int.natAbs_ediv_le_natAbs _ _
  refine ⟨⟨by omega, (dk g1.1 (by omega)).2⟩, by rw [fdiv_pos g1.1]; exact mk (by omega) (by omega), ?_⟩
  rw [fd_mod g1.1]
  by_cases hd : (d2 - d1) % g = 0
  · simp [hd]
    have hdv : g ∣ d2 - d1 := Int.dvd_of_emod_eq_zero hd
    have a1 := div_ex g1.1 dv1
    have a2 := div_ex g1.1 dv2
    have a3 := div_ex g1.1 hdv
    have v1 := dv_bd g1.1 (show 0 ≤ l1 by omega)
    have v2 := dv_bd g1.1 (show 0 ≤ l2 by omega)
    have L0 := lcm_pos' h1 h2
    have L1 := lcmI_le h1 h2
    have L2 : lcmI l1 l2 < 1152921504606846976 := by
      have h3 : l1 * l2 ≤ 17179869184 * l2 := Int.mul_le_mul_of_nonneg_right (by omega) (by omega)
      have : (17179869184 : Int) * l2 ≤ 17179869184 * 131073 := Int.mul_le_mul_of_nonneg_left (by omega) (by omega)
      omega
    rw [fdiv_pos g1.1, fdiv_pos g1.1, fdiv_pos g1.1]
    have dg : ∀ a, (l1 = 0 → ¬l2 = 0) ∧ DivOk a g := fun a => ⟨by omega, (dk g1.1 (by omega)).2⟩
    refine ⟨dg _, mk (by omega) (by omega), dg _, dg _, dg _, ?_⟩
    have s0 : 0 < l2 / g := Int.ediv_pos_of_pos_of_dvd h2 (by omega) dv2
    refine c_inverse s0 (by omega) v1.1 (by omega) fun r t i0 i1 hr => ?_
    rw [hcp] at hr
    have key := join_ok (t := t) h1 h2 g1.1 a1 a2 a3 (by rw [hr]; rfl) r1 r2
    simp only at key
    rw [glcm] at key ⊢
    generalize (d2 - d1) / g = q at *
    generalize l2 / g = s at *
    have hm : (q * r).natAbs < 1152921504606846976 := by
      rw [Int.natAbs_mul]
      have : q.natAbs * r.natAbs ≤ 17179869184 * r.natAbs := Nat.mul_le_mul_right _ (by omega)
      omega
    refine ⟨mk (by omega) (by omega), dk s0 (by omega), ?_, ?_⟩
    · rw [fdiv_pos s0]
      refine mk ?_ (by omega)
      have := Int.natAbs_ediv_le_natAbs (q * r) s
      omega
    · simp only [subI_r1, mulI_r1, addI_r1, divI_r1]
      rw [fd_mod s0]
      have m0 := Int.emod_nonneg (q * r) (show s ≠ 0 by omega)
      have m1 := Int.emod_lt_of_pos (q * r) s0
      refine ⟨mk (by omega) (by omega), dk L0 (by omega), ?_, ?_⟩
      · rw [fdiv_pos L0]
        refine mk ?_ (by omega)
        refine Nat.lt_of_le_of_lt (Int.natAbs_ediv_le_natAbs _ _) ?_
        have h3 : l1 * (q * r % s) ≤ 17179869184 * (q * r % s) := Int.mul_le_mul_of_nonneg_right (by omega) (by omega)
        have h4 : 0 ≤ l1 * (q * r % s) := Int.mul_nonneg (by omega) (by omega)
        omega
      · try simp only [subI_r1, mulI_r1, addI_r1, divI_r1]
        rw [fd_mod L0]
        exact yes _ (Int.emod_nonneg _ (by omega)) (Int.emod_lt_of_pos _ L0) key.1 key.2
  · simp [hd]
    exact no fun z => hd (Int.emod_eq_zero_of_dvd z)
end
end KK

set_option maxRecDepth 100000
set_option maxHeartbeats 1000000
namespace KK
open PySem L2 DL FQ CM
section
variable {P : Dt → Prop} {E : Xc → Prop} {W : Wh} {G : List Int}
structure Who (W : Wh) : Prop where
  len : W.length ≤ 3
  rg : ∀ w ∈ W, 0 < w.1 ∧ w.1 ≤ 131072
theorem Who.take (h : Who W) (i : Nat) : Who (W.take i) := ⟨by rw [List.length_take]; have := h.len; omega, fun w hw => h.rg w (List.mem_of_mem_take hw)⟩
theorem Who.lcm (h : Who W) : 0 < lcmW W 1 ∧ lcmW W 1 ≤ 131072 ^ W.length := by
  refine ⟨lcmW_pos (by omega) fun w hw => (h.rg w hw).1, ?_⟩
  have := lcmW_le (B := 131072) (by omega) (L := 1) (by omega) h.rg
  rwa [Int.one_mul] at this
theorem Who.lcm2 (h : Who W) {k : Nat} (hk : k < W.length) : 0 < lcmW (W.take k) 1 ∧ lcmW (W.take k) 1 < 17179869185 := by
  have h1 := (h.take k).lcm
  refine ⟨h1.1, Int.lt_of_le_of_lt h1.2 ?_⟩
  have := h.len
  rw [List.length_take]
  have : min k W.length = 0 ∨ min k W.length = 1 ∨ min k W.length = 2 := by omega
  rcases this with e | e | e <;> rw [e] <;> decide
theorem Who.lcm3 (h : Who W) : lcmW W 1 < 1152921504606846976 := by
  refine Int.lt_of_le_of_lt h.lcm.2 ?_
  have := h.len
  have : W.length = 0 ∨ W.length = 1 ∨ W.length = 2 ∨ W.length = 3 := by omega
  rcases this with e | e | e | e <;> rw [e] <;> decide
theorem lcm_div {a b : Int} (ha : 0 < a) (hb : 0 < b) : a * b / ((Int.gcd a b : Nat) : Int) = lcmI a b := by
  have hg := gcd_I (b := b) ha
  rw [← lcm_as ha hb rfl, Int.mul_ediv_assoc']
  exact Int.gcd_dvd_left a b
theorem tk_at {α : Type} {xs : List α} {i : Nat} {x : α} (h : xs[i]? = some x) : xs.take (i + 1) = xs.take i ++ [x] := by
  rw [List.take_add_one, h]; rfl
theorem lcmW_at {i : Nat} {w : Int × Int} (h : W[i]? = some w) : lcmW (W.take (i + 1)) 1 = lcmI (lcmW (W.take i) 1) w.1 := by
  rw [tk_at h, lcmW_append]; rfl
theorem map_at {α : Type} {f : α → Dt} {xs : List α} {i : Nat} {d : Dt} (h : (xs.map f)[i]? = some d) : ∃ x, xs[i]? = some x ∧ d = f x := by
  rw [List.getElem?_map] at h
  cases e : xs[i]? with
  | none => rw [e] at h; cases h
  | some x => rw [e] at h; exact ⟨x, rfl, by simpa using h.symm⟩
theorem lt_of_at {α : Type} {xs : List α} {i : Nat} {x : α} (h : xs[i]? = some x) : i < xs.length := (List.getElem?_eq_some_iff.mp h).1
theorem c_period (hW : Who W) (h : P (.int (lcmW W 1))) : sp_period [.tup (W.map dw)] P E := by
  refine ⟨rfl, ?_⟩
  simp only [init_c, init_n, List.replicate]
  simp [m_period]
  refine forD_inv (fun i e => ∃ x2 x3, e = [.im (.tup (W.map dw)), .im (.int (lcmW (W.take i) 1)), x2, x3]) ⟨_, _, rfl⟩ ?_ ?_
  · rintro i d e hd ⟨x2, x3, rfl⟩ nx hnx
    obtain ⟨w, hw, rfl⟩ := map_at hd
    simp [dw]
    have h0 := hW.rg w (List.mem_of_getElem? hw)
    have h1 := hW.lcm2 (lt_of_at hw)
    refine ⟨mk (by omega) (by omega), ?_⟩
    refine c_divisor ?_
    have hg := gcd_I (b := w.1) h1.1
    refine ⟨dk hg.1 (by omega), ?_⟩
    rw [fdiv_pos hg.1, lcm_div h1.1 h0.1, ← lcmW_at hw]
    exact hnx _ ⟨_, _, rfl⟩
  · rintro e ⟨x2, x3, rfl⟩
    rw [List.length_map, List.take_length]
    simpa using h
theorem c_stand {x : Int} (hW : Who W) (hm : ∀ w ∈ W, 0 ≤ w.2 ∧ w.2 < w.1) (hx : 0 ≤ x ∧ x < 1048576) (h : P (itup (rowI W x))) : sp_stand [.tup (W.map dw), .int x] P E := by
  refine ⟨rfl, ?_⟩
  simp only [init_c, init_n, List.replicate]
  have hl := hW.len
  simp [m_stand]
  refine ⟨by omega, ?_⟩
  refine compD_E Dt.int (fun w => (w.2 + x) % w.1) (fun w hw Q R hQ => ?_) ?_
  · unfold cStep
    have h0 := hW.rg w hw
    have h1 := hm w hw
    simp [dw]
    refine ⟨dk h0.1 (by omega), ?_, ?_⟩
    · rw [fdiv_pos h0.1]
      exact mk (Nat.lt_of_le_of_lt (Int.natAbs_ediv_le_natAbs _ _) (by omega)) (by omega)
    · rw [fd_mod h0.1]; exact hQ
  · simpa [itup, rowI] using h
/-- a goal that fits -/
structure Gok (W : Wh) (G : List Int) : Prop where
  len : G.length = W.length
  rg : ∀ (i : Nat) (w : Int × Int) (g : Int), W[i]? = some w → G[i]? = some g → 0 ≤ g ∧ g < w.1
theorem c_check_goal (hW : Who W) (hG : Gok W G) (h : P .non) : sp_check_goal [.tup (W.map dw), itup G] P E := by
  refine ⟨rfl, ?_⟩
  simp only [init_c, init_n, List.replicate]
  have hl := hW.len
  have el := hG.len
  simp [m_check_goal, itup, el]
  refine ⟨by omega, by simp [rng]; omega, ?_⟩
  rw [rng0]
  refine compD_E Dt.bl (fun _ => false) (fun i hi Q R hQ => ?_) ?_
  · unfold cStep
    have hi := List.mem_range.mp hi
    have e1 : W[i]? = some W[i] := List.getElem?_eq_getElem hi
    have e2 : G[i]? = some (G[i]'(by omega)) := List.getElem?_eq_getElem (by omega)
    have := hG.rg i _ _ e1 e2
    generalize W[i] = w at *
    generalize G[i]'(by omega) = g at *
    simp [e1, e2, dw, this.1, this.2]
    exact hQ
  · simp
    refine ⟨(List.range W.length).map fun _ => false, by rw [List.map_map], ?_⟩
    simp
    exact h
end
end KK

set_option maxRecDepth 100000
set_option maxHeartbeats 1000000
namespace KK
open PySem L2 DL FQ CM
section
variable {P : Dt → Prop} {E : Xc → Prop} {W : Wh} {G : List Int}
theorem row_snoc {i : Nat} {w : Int × Int} {x : Int} (h : W[i]? = some w) : rowI (W.take (i + 1)) x = rowI (W.take i) x ++ [(w.2 + x) % w.1] := by
  rw [tk_at h]; simp [rowI]
/-- where first_day stops -/
def Stop (W : Wh) (G : List Int) : Prop := ∃ (k : Nat) (w : Int × Int) (g d : Int), W[k]? = some w ∧ G[k]? = some g ∧ rowI (W.take k) d = G.take k ∧ ¬ ((Int.gcd (lcmW (W.take k) 1) w.1 : Nat) : Int) ∣ (g - w.2) - d
theorem Stop.no (h : Stop W G) (hG : Gok W G) (x : Int) : rowI W x ≠ G := by
  obtain ⟨k, w, g, d, hw, hg, hr, hn⟩ := h
  intro e
  apply hn
  have er : rowI (W.take k) x = G.take k := by
    rw [← e]; unfold rowI; rw [List.map_take]
  have h1 : rowI (W.take k) x = rowI (W.take k) d := by rw [er, hr]
  rw [row_eq] at h1
  have h2 : (w.2 + x) % w.1 = g := by
    rw [← e] at hg
    unfold rowI at hg
    rw [List.getElem?_map, hw] at hg
    simpa using hg
  have a2 : w.1 ∣ w.2 + x - g := by rw [← h2]; exact Int.dvd_self_sub_emod
  have b1 := Int.dvd_trans (Int.gcd_dvd_left (lcmW (W.take k) 1) w.1) h1
  have b2 := Int.dvd_trans (Int.gcd_dvd_right (lcmW (W.take k) 1) w.1) a2
  have := Int.dvd_sub b1 b2
  have e : x - d - (w.2 + x - g) = g - w.2 - d := by omega
  rwa [e] at this
theorem c_first_day (hW : Who W) (hm : ∀ w ∈ W, 0 ≤ w.2 ∧ w.2 < w.1) (hG : Gok W G) (yes : ∀ d, 0 ≤ d → d < lcmW W 1 → rowI W d = G → P (.int d)) (no : Stop W G → P .non) : sp_first_day [.tup (W.map dw), itup G] P E := by
  refine ⟨rfl, ?_⟩
  simp only [init_c, init_n, List.replicate]
  simp [m_first_day]
  refine c_check_goal hW hG ?_
  have hl := hW.len
  refine ⟨by omega, ?_⟩
  rw [rng0]
  refine forD_inv (fun i e => ∃ d x3 x4 x5 x6, e = [.im (.tup (W.map dw)), .im (itup G), .im (.tup [.int (lcmW (W.take i) 1), .int d]), x3, x4, x5, x6] ∧ 0 ≤ d ∧ d < lcmW (W.take i) 1 ∧ rowI (W.take i) d = G.take i) ⟨0, _, _, _, _, rfl, by omega, by simp [lcmW], by simp [rowI]⟩ ?_ ?_
  · rintro i dd e hd ⟨d, x3, x4, x5, x6, rfl, d0, d1, hr⟩ nx hnx
    obtain ⟨j, hj, rfl⟩ := map_at hd
    have hij := lt_of_at hj
    simp at hij
    have : j = i := by
      rw [List.getElem?_range hij] at hj
      simpa using hj.symm
    subst this
    have e1 : W[j]? = some W[j] := List.getElem?_eq_getElem hij
    have e2 : G[j]? = some (G[j]'(by rw [hG.len]; exact hij)) := List.getElem?_eq_getElem _
    have hg := hG.rg j _ _ e1 e2
    generalize W[j] = w at *
    generalize G[j]'_ = g at *
    have h0 := hW.rg w (List.mem_of_getElem? e1)
    have h1 := hm w (List.mem_of_getElem? e1)
    have hL := hW.lcm2 hij
    simp [e1, e2, dw, itup]
    refine ⟨dk h0.1 (by omega), ?_, ?_⟩
    · rw [fdiv_pos h0.1]
      exact mk (Nat.lt_of_le_of_lt (Int.natAbs_ediv_le_natAbs _ _) (by omega)) (by omega)
    · rw [fd_mod h0.1]
      have m0 := Int.emod_nonneg (g - w.2) (show w.1 ≠ 0 by omega)
      have m1 := Int.emod_lt_of_pos (g - w.2) h0.1
      refine c_joined hL.1 h0.1 (by omega) (by omega) ⟨d0, d1⟩ ⟨m0, m1⟩ (fun hn => ?_) fun d' c0 c1 c2 c3 => ?_
      · simp
        refine no ⟨j, w, g, d, e1, e2, hr, fun z => hn ?_⟩
        have a1 : w.1 ∣ (g - w.2) - (g - w.2) % w.1 := Int.dvd_self_sub_emod
        have b1 := Int.dvd_trans (Int.gcd_dvd_right (lcmW (W.take j) 1) w.1) a1
        have := Int.dvd_sub z b1
        have e : g - w.2 - d - (g - w.2 - (g - w.2) % w.1) = (g - w.2) % w.1 - d := by omega
        rwa [e] at this
      · simp
        rw [← lcmW_at e1] at c1 ⊢
        refine hnx _ ⟨d', _, _, _, _, rfl, c0, c1, ?_⟩
        rw [row_snoc e1, tk_at e2]
        have f1 : rowI (W.take j) d' = rowI (W.take j) d := by
          rw [row_eq]
          have : d' % lcmW (W.take j) 1 = d % lcmW (W.take j) 1 := by rw [c2, Int.emod_eq_of_lt d0 d1]
          exact emod_eq_iff.mp this
        rw [f1, hr, (place_iff hg).mpr c3]
  · rintro e ⟨d, x3, x4, x5, x6, rfl, d0, d1, hr⟩
    rw [List.length_map, List.length_range] at *
    rw [List.take_length] at d1 hr ⊢
    simp
    rw [List.take_of_length_le (by rw [hG.len]; omega)] at hr
    exact yes d d0 d1 hr
theorem c_why_never (hW : Who W) (hm : ∀ w ∈ W, 0 ≤ w.2 ∧ w.2 < w.1) (hG : Gok W G) (none' : (∀ (j k : Nat) v w h g, j < k → W[j]? = some v → W[k]? = some w → G[j]? = some h → G[k]? = some g → Pair v w h g) → P .non)
    (some' : ∀ (j k : Nat) v w h g, j < k → W[j]? = some v → W[k]? = some w → G[j]? = some h → G[k]? = some g → ¬ Pair v w h g → P (.tup [.int j, .int k])) : sp_why_never [.tup (W.map dw), itup G] P E := by
  refine ⟨rfl, ?_⟩
  simp only [init_c, init_n, List.replicate]
  simp [m_why_never]
  refine c_check_goal hW hG ?_
  have hl := hW.len
  refine ⟨by omega, ?_⟩
  rw [rng0]
  have rg : ∀ {n i : Nat} {d : Dt}, ((List.range n).map fun i : Nat => Dt.int (i : Int))[i]? = some d → i < n ∧ d = .int (i : Int) := fun {n i d} h => by
    obtain ⟨j, hj, rfl⟩ := map_at h
    have hij := lt_of_at hj
    simp at hij
    rw [List.getElem?_range hij] at hj
    exact ⟨hij, by rw [show j = i by simpa using hj.symm]⟩
  refine forD_inv (fun i e => ∃ x2 x3 x4 x5, e = [.im (.tup (W.map dw)), .im (itup G), x2, x3, x4, x5] ∧ ∀ (j k : Nat) v w h g, k < i → j < k → W[j]? = some v → W[k]? = some w → G[j]? = some h → G[k]? = some g → Pair v w h g) ⟨_, _, _, _, rfl, fun j k _ _ _ _ hk => by omega⟩ ?_ ?_
  · rintro k dd e hd ⟨x2, x3, x4, x5, rfl, hp⟩ nx hnx
    obtain ⟨hk, rfl⟩ := rg hd
    simp
    refine ⟨by omega, ?_⟩
    rw [rng0]
    refine forD_inv (fun i e => ∃ x3 x4 x5, e = [.im (.tup (W.map dw)), .im (itup G), .im (.int k), x3, x4, x5] ∧ ∀ (j : Nat) v w h g, j < i → W[j]? = some v → W[k]? = some w → G[j]? = some h → G[k]? = some g → Pair v w h g) ⟨_, _, _, rfl, fun j _ _ _ _ hk => by omega⟩ ?_ ?_
    · rintro j dd e hd ⟨x3, x4, x5, rfl, hq⟩ nx hnx
      obtain ⟨hj, rfl⟩ := rg hd
      have hj' : j < W.length := by omega
      have e1 : W[j]? = some W[j] := List.getElem?_eq_getElem hj'
      have e2 : G[j]? = some (G[j]'(by rw [hG.len]; exact hj')) := List.getElem?_eq_getElem _
      have e3 : W[k]? = some W[k] := List.getElem?_eq_getElem hk
      have e4 : G[k]? = some (G[k]'(by rw [hG.len]; exact hk)) := List.getElem?_eq_getElem _
      have hg := hG.rg j _ _ e1 e2
      have hg2 := hG.rg k _ _ e3 e4
      generalize W[j] = v at *
      generalize G[j]'_ = h at *
      generalize W[k] = w at *
      generalize G[k]'_ = g at *
      have h0 := hW.rg v (List.mem_of_getElem? e1)
      have h1 := hm v (List.mem_of_getElem? e1)
      have h2 := hW.rg w (List.mem_of_getElem? e3)
      have h3 := hm w (List.mem_of_getElem? e3)
      simp [e1, e2, e3, e4, dw, itup]
      refine c_divisor ?_
      have hgg := gcd_I (b := w.1) h0.1
      simp [e1, e2, e3, e4, dw, itup]
      have dg : ∀ a, (v.1 = 0 → ¬w.1 = 0) ∧ DivOk a ((Int.gcd v.1 w.1 : Nat) : Int) := fun a => ⟨by omega, (dk hgg.1 (by omega)).2⟩
      refine ⟨dg _, ?_, ?_⟩
      · rw [fdiv_pos hgg.1]
        exact mk (Nat.lt_of_le_of_lt (Int.natAbs_ediv_le_natAbs _ _) (by omega)) (by omega)
      · rw [fd_mod hgg.1]
        by_cases hz : (h - v.2 - (g - w.2)) % ((Int.gcd v.1 w.1 : Nat) : Int) = 0
        · simp [hz]
          refine hnx _ ⟨_, _, _, rfl, fun j' v' w' h' g' hj' a1 a2 a3 a4 => ?_⟩
          by_cases hjj : j' < j
          · exact hq j' v' w' h' g' hjj a1 a2 a3 a4
          · have : j' = j := by omega
            subst this
            rw [e1] at a1; rw [e3] at a2; rw [e2] at a3; rw [e4] at a4
            cases a1; cases a2; cases a3; cases a4
            exact Int.dvd_of_emod_eq_zero hz
        · simp [hz]
          exact some' j k v w h g hj e1 e3 e2 e4 fun z => hz (Int.emod_eq_zero_of_dvd z)
    · rintro e ⟨x3, x4, x5, rfl, hq⟩
      refine hnx _ ⟨_, _, _, _, rfl, fun j' k' v' w' h' g' hk' hj' a1 a2 a3 a4 => ?_⟩
      by_cases hkk : k' < k
      · exact hp j' k' v' w' h' g' hkk hj' a1 a2 a3 a4
      · have : k' = k := by omega
        subst this
        exact hq j' v' w' h' g' (by simpa using hj') a1 a2 a3 a4
  · rintro e ⟨x2, x3, x4, x5, rfl, hp⟩
    simp
    refine none' fun j k v w h g hjk a1 a2 a3 a4 => ?_
    have hk := lt_of_at a2
    exact hp j k v w h g (by simpa using hk) hjk a1 a2 a3 a4
end
end KK

set_option maxRecDepth 100000
set_option maxHeartbeats 1000000
namespace KK
open PySem L2 DL FQ CM
section
variable {P : Dt → Prop} {E : Xc → Prop} {W : Wh} {G R : List Int}
def stepL (a k : Int) (n : Nat) : List Int := (List.range n).map fun i : Nat => a + (i : Int) * k
theorem rng_step {a k : Int} {n : Nat} : rng a k n = (stepL a k n).map Dt.int := by
  unfold rng stepL; rw [List.map_map]; rfl
theorem stepL_asc {a k : Int} (hk : 0 < k) {n : Nat} : (stepL a k n).Pairwise (· < ·) := by
  unfold stepL
  rw [List.pairwise_map]
  exact List.pairwise_lt_range.imp fun {i j} h => by
    have : (i : Int) * k < (j : Int) * k := Int.mul_lt_mul_of_pos_right (by omega) hk
    omega
theorem mem_stepL {a b k x : Int} (hk : 0 < k) : x ∈ stepL a k (rngN a (b + 1) k) ↔ a ≤ x ∧ x ≤ b ∧ k ∣ x - a := by
  unfold stepL rngN
  rw [List.mem_map]
  have e0 : b + 1 - a - 1 = b - a := by omega
  rw [e0]
  constructor
  · rintro ⟨i, hi, rfl⟩
    have hi := List.mem_range.mp hi
    split at hi
    · rename_i hab
      have h1 : 0 ≤ (b - a) / k := Int.ediv_nonneg (by omega) (by omega)
      have h2 : (i : Int) ≤ (b - a) / k := by omega
      have h3 := Int.mul_le_mul_of_nonneg_right h2 (show 0 ≤ k by omega)
      have h4 := Int.ediv_mul_le (b - a) (show k ≠ 0 by omega)
      have h5 : 0 ≤ (i : Int) * k := Int.mul_nonneg (by omega) (by omega)
      exact ⟨by omega, by omega, ⟨i, by rw [Int.mul_comm]; omega⟩⟩
    · omega
  · rintro ⟨h1, h2, c, hc⟩
    have hc0 : 0 ≤ c := by
      refine Classical.byContradiction fun z => ?_
      have : k * c ≤ k * (-1) := Int.mul_le_mul_of_nonneg_left (by omega) (by omega)
      omega
    have hcb : c ≤ (b - a) / k := by
      rw [Int.le_ediv_iff_mul_le hk, Int.mul_comm]; omega
    refine ⟨c.toNat, List.mem_range.mpr ?_, ?_⟩
    · rw [if_pos (by omega)]; omega
    · rw [Int.toNat_of_nonneg hc0, Int.mul_comm]; omega
theorem rngN_le {a b k : Int} (hk : 0 < k) : (rngN a b k : Int) ≤ (if a < b then b - a else 0) := by
  unfold rngN
  split
  · have := Int.ediv_le_self k (show 0 ≤ b - a - 1 by omega)
    have := Int.ediv_nonneg (show 0 ≤ b - a - 1 by omega) (show 0 ≤ k by omega)
    omega
  · simp
theorem c_days_at {a b : Int} (hW : Who W) (hm : ∀ w ∈ W, 0 ≤ w.2 ∧ w.2 < w.1) (hG : Gok W G) (hL : lcmW W 1 < 1073741824) (ha : 0 ≤ a ∧ a < 1048576) (hb : 0 ≤ b ∧ b < 1048576) (hab : b - a < 100000)
    (h : ∀ L : List Int, L.Pairwise (· < ·) → (∀ x, x ∈ L ↔ a ≤ x ∧ x ≤ b ∧ rowI W x = G) → P (.lst (L.map Dt.int))) : sp_days_at [.tup (W.map dw), itup G, .int a, .int b] P E := by
  refine ⟨rfl, ?_⟩
  simp only [init_c, init_n, List.replicate]
  have hn : ¬ 100000 ≤ b - a := by omega
  simp [m_days_at, c_MOST_DAYS, hn]
  have l0 := hW.lcm.1
  refine c_first_day hW hm hG (fun d d0 d1 hd => ?_) fun hs => ?_
  · simp
    refine c_period hW ?_
    refine ⟨dk l0 (by omega), ?_, ?_⟩
    · rw [fdiv_pos l0]
      refine mk ?_ (by omega)
      have := Int.natAbs_ediv_le_natAbs (d - a) (lcmW W 1)
      omega
    · rw [fdiv_pos l0]
      have m0 := Int.emod_nonneg (d - a) (show lcmW W 1 ≠ 0 by omega)
      have m1 := Int.emod_lt_of_pos (d - a) l0
      have md := Int.mul_ediv_add_emod (d - a) (lcmW W 1)
      have ed : d + (0 - (d - a) / lcmW W 1) * lcmW W 1 = a + (d - a) % lcmW W 1 := by
        rw [Int.sub_mul, Int.mul_comm ((d - a) / lcmW W 1)]; omega
      have sd : lcmW W 1 ∣ (a + (d - a) % lcmW W 1) - d := ⟨-((d - a) / lcmW W 1), by rw [Int.mul_neg]; omega⟩
      simp only [subI_r1, addI_r1, mulI_r1, geI_r1] at *
      simp at ed ⊢
      rw [ed]
      generalize (d - a) % lcmW W 1 = r at *
      have : a ≤ a + r := by omega
      simp [this]
      refine ⟨⟨l0, hL, by omega, by omega, by omega, by omega⟩, ?_, ?_⟩
      · have := rngN_le (a := a + r) (b := b + 1) l0
        split at this <;> omega
      · rw [rng_step]
        refine h _ (stepL_asc l0) fun x => ?_
        rw [mem_stepL l0, ← hd, row_eq]
        constructor
        · rintro ⟨h1, h2, h3⟩
          refine ⟨by omega, h2, ?_⟩
          have := Int.dvd_add h3 sd
          have e : x - (a + r) + (a + r - d) = x - d := by omega
          rwa [e] at this
        · rintro ⟨h1, h2, h3⟩
          have h4 := Int.dvd_sub h3 sd
          have e : x - d - (a + r - d) = x - (a + r) := by omega
          rw [e] at h4
          refine ⟨?_, h2, h4⟩
          obtain ⟨c, hc⟩ := h4
          refine Classical.byContradiction fun z => ?_
          have hc1 : c ≤ -1 := by
            refine Classical.byContradiction fun z2 => ?_
            have : 0 ≤ lcmW W 1 * c := Int.mul_nonneg (by omega) (by omega)
            omega
          have : lcmW W 1 * c ≤ lcmW W 1 * (-1) := Int.mul_le_mul_of_nonneg_left hc1 (by omega)
          omega
  · simp
    refine h [] List.Pairwise.nil fun x => ?_
    have := hs.no hG x
    simp [this]
end
end KK

set_option maxRecDepth 100000
set_option maxHeartbeats 1000000
namespace KK
open PySem L2 DL FQ CM
section
variable {P : Dt → Prop} {E : Xc → Prop} {W : Wh} {G R : List Int}
def lp : List Int → Int → Int → Int
  | [], _, _ => 0
  | a :: R, y, s => s * (y / a) + lp R y (-s)
structure Rp1 (R : List Int) : Prop where
  len : R.length ≤ 3
  rg : ∀ a ∈ R, 0 < a ∧ a ≤ 1000
theorem lp_bd {y : Int} (hy : 0 ≤ y) : ∀ {R : List Int} {s : Int}, (∀ a ∈ R, 0 < a) → (s = 1 ∨ s = -1) → (lp R y s).natAbs ≤ R.length * y.natAbs
  | [], _, _, _ => by simp [lp]
  | a :: R, s, h, hs => by
    have ih := lp_bd (R := R) (s := -s) hy (fun b hb => h b (by simp [hb])) (by omega)
    have := dv_bd (h a (by simp)) hy
    simp only [lp, List.length_cons, Nat.add_mul, Nat.one_mul]
    rcases hs with rfl | rfl
    · omega
    · omega
theorem c_leap_days {y : Int} (hR : Rp1 R) (hy : 0 ≤ y ∧ y < 1048576) (h : P (.int (lp R y 1))) : sp_leap_days [itup R, .int y] P E := by
  refine ⟨rfl, ?_⟩
  simp only [init_c, init_n, List.replicate]
  simp [m_leap_days, itup]
  refine forD_inv (fun i e => ∃ f s x4, e = [.im (.tup (R.map Dt.int)), .im (.int y), .im (.int f), .im (.int s), x4] ∧ (s = 1 ∨ s = -1) ∧ f + lp (R.drop i) y s = lp R y 1) ⟨0, 1, _, rfl, .inl rfl, by simp⟩ ?_ ?_
  · rintro i d e hd ⟨f, s, x4, rfl, hs, hf⟩ nx hnx
    obtain ⟨a, ha, rfl⟩ := map_at hd
    have h0 := hR.rg a (List.mem_of_getElem? ha)
    have hi := lt_of_at ha
    have ed : R.drop i = a :: R.drop (i + 1) := by
      rw [← List.getElem_cons_drop (h := hi)]
      rw [List.getElem?_eq_getElem hi] at ha
      cases ha; rfl
    rw [ed] at hf
    simp only [lp] at hf
    simp
    have dv := dv_bd h0.1 hy.1
    refine ⟨(dk h0.1 (by omega)), ?_, ?_⟩
    · rw [fdiv_pos h0.1]; exact mk (by omega) (by omega)
    · rw [fdiv_pos h0.1]
      exact hnx _ ⟨_, _, _, rfl, by omega, by omega⟩
  · rintro e ⟨f, s, x4, rfl, hs, hf⟩
    rw [List.length_map, List.drop_length] at hf
    simp [lp] at hf ⊢
    rw [hf]; exact h
theorem c_is_leap {y : Int} (hR : Rp1 R) (hy : 1 ≤ y ∧ y < 1048576) (h : P (.bl (decide (lp R y 1 - lp R (y - 1) 1 = 1)))) : sp_is_leap [itup R, .int y] P E := by
  refine ⟨rfl, ?_⟩
  simp only [init_c, init_n, List.replicate]
  simp [m_is_leap]
  refine c_leap_days hR (by omega) ?_
  refine c_leap_days hR (by omega) ?_
  simpa using h
def dT (R : List Int) (y : Int) : Int := 365 * (y - 1) + lp R (y - 1) 1
theorem c_days_to {y : Int} (hR : Rp1 R) (hy : 1 ≤ y ∧ y < 1048576) (h : P (.int (dT R y))) : sp_days_to [itup R, .int y] P E := by
  refine ⟨rfl, ?_⟩
  simp only [init_c, init_n, List.replicate]
  have : ¬ y < 1 := by omega
  simp [m_days_to, this]
  refine ⟨mk (by omega) (by omega), ?_⟩
  refine c_leap_days hR (by omega) ?_
  exact h
def YrI (R : List Int) (d y : Int) (m : Nat) (e : List Sl) : Prop := ∃ z, e = [.im (itup R), .im (.int d), .im (.int z)] ∧ 1 ≤ z ∧ z ≤ y ∧ m = (y - z).toNat
theorem c_year_of {y d : Int} (hR : Rp1 R) (hd : 0 ≤ d ∧ d < 1048576) (hy : d / 366 + 1 ≤ y ∧ y < 10000) (mono : ∀ a b, 1 ≤ a → a ≤ b → dT R a ≤ dT R b) (e1 : dT R y ≤ d) (e2 : d < dT R (y + 1)) (h : P (.tup [.int y, .int (d - dT R y)])) : sp_year_of [itup R, .int d] P E := by
  refine ⟨rfl, ?_⟩
  simp only [init_c, init_n, List.replicate]
  have : ¬ d < 0 := by omega
  have e3 : d.fdiv 366 = d / 366 := fdiv_pos (by decide)
  simp [m_year_of, this, e3]
  refine ⟨(dk (by omega) (by omega)).2, ?_⟩
  have dn : 0 ≤ d / 366 := by omega
  refine ⟨YrI R d y, ⟨_, _, rfl, by omega, hy.1, rfl⟩, ?_⟩
  rintro m e ⟨z, rfl, z1, z2, rfl⟩
  simp
  refine c_days_to hR (by omega) ?_
  by_cases hz : z < y
  · have := mono (z + 1) y (by omega) (by omega)
    have hle : dT R (z + 1) ≤ d := by omega
    simp [hle]
    exact ⟨(y - (z + 1)).toNat, by omega, z + 1, rfl, by omega, by omega, rfl⟩
  · have : z = y := by omega
    subst this
    have hle : ¬ dT R (z + 1) ≤ d := by omega
    simp [hle]
    exact c_days_to hR (by omega) (by simpa using h)
def whl (R : List Int) : Int := R.getLast?.getD 1
theorem whl_bd (hR : Rp1 R) : 0 < whl R ∧ whl R ≤ 1000 := by
  unfold whl
  cases e : R.getLast? with
  | none => simp
  | some a => simpa using hR.rg a (List.mem_of_getLast? e)
theorem atI_last {α : Type} {xs : List α} : atI xs (-1) = xs.getLast? := by
  unfold atI ixN
  simp
  rw [List.getLast?_eq_getElem?]
  cases xs with
  | nil => rfl
  | cons x t =>
    simp
    rw [if_pos (by omega)]
    simp
    have : (-1 + ((t.length : Int) + 1)).toNat = t.length := by omega
    rw [this]; simp
theorem last_it {P : Dt → Prop} {xs : List Dt} (h : xs ≠ []) (k : ∀ d, xs.getLast? = some d → P d) : ixD (.tup xs) (.int (-1)) P := by
  refine ⟨xs.getLast h, ?_, k _ (List.getLast?_eq_some_getLast h)⟩
  rw [atI_last]; exact List.getLast?_eq_some_getLast h
theorem c_mean_year (hR : Rp1 R) (h : P (dq (Rat.divInt (365 * whl R + lp R (whl R) 1) (whl R)))) : sp_mean_year [itup R] P E := by
  refine ⟨rfl, ?_⟩
  simp only [init_c, init_n, List.replicate]
  have w := whl_bd hR
  have k : ∀ x2 x3, (sSeq (sSet 2 (xE (eOp addI (eOp mulI (eC (.int 365)) (eVar 1)) (eCall sp_leap_days (aCons (eVar 0) (aCons (eVar 1) aNil))))))
  (sSeq (sSet 3 (xE (eCall sp_divisor (aCons (eVar 2) (aCons (eVar 1) aNil)))))
  (sRet (eTup (aCons (eOp divI (eVar 2) (eVar 3)) (aCons (eOp divI (eVar 1) (eVar 3)) aNil)))))) [.im (itup R), .im (.int (whl R)), x2, x3] { nx := fun _ => P .non, rt := P, ex := fun x _ => E x } := fun x2 x3 => by
    simp
    refine ⟨mk (by omega) (by omega), ?_⟩
    refine c_leap_days hR (by omega) ?_
    simp only [addI_r1]
    generalize 365 * whl R + lp R (whl R) 1 = D at h
    refine c_divisor ?_
    have hg := gcd_I (b := D) w.1
    rw [Int.gcd_comm] at hg
    have dg := fun a => dk (a := a) hg.1 (by omega)
    simp at dg ⊢
    refine ⟨dg _, dg _, ?_⟩
    rw [fdiv_pos hg.1, fdiv_pos hg.1, ← dq_pos w.1]
    exact h
  by_cases hn : R = []
  · subst hn
    have := k .no .no
    simp [m_mean_year, itup, whl] at this ⊢
    exact this
  · have h0 : 0 < R.length := List.length_pos_iff.mpr hn
    have : (0 : Int) < (R.length : Int) := by omega
    simp [m_mean_year, itup]
    rw [if_pos h0]
    obtain ⟨a, e⟩ : ∃ a, R.getLast? = some a := ⟨_, List.getLast?_eq_some_getLast hn⟩
    have ew : whl R = a := by simp [whl, e]
    refine ⟨.int a, by rw [atI_last, List.getLast?_map, e]; rfl, ?_⟩
    have := k .no .no
    rw [ew] at this
    simpa [itup] using this
end
end KK

set_option maxRecDepth 100000
set_option maxHeartbeats 1000000
namespace KK
open PySem L2 DL FQ CM
section
variable {P : Dt → Prop} {E : Xc → Prop} {W : Wh} {G R : List Int} {s1 s2 s3 s4 s5 s6 s7 s8 s9 s10 s11 s12 s13 s14 s15 s16 s17 s18 s19 s20 s21 s22 s23 s24 : Sl}
theorem c_are_wheels (hm : ∀ w ∈ W, 0 < w.1 ∧ 0 ≤ w.2 ∧ w.2 < w.1) (h : P (.bl true)) : sp_are_wheels [.tup (W.map dw)] P E := by
  refine ⟨rfl, ?_⟩
  simp only [init_c, init_n, List.replicate]
  simp [m_are_wheels]
  refine forD_inv (fun i e => ∃ x1 x2, e = [.im (.tup (W.map dw)), x1, x2]) ⟨_, _, rfl⟩ ?_ ?_
  · rintro i d e hd ⟨x1, x2, rfl⟩ nx hnx
    obtain ⟨w, hw, rfl⟩ := map_at hd
    obtain ⟨h0, h1, h2⟩ := hm w (List.mem_of_getElem? hw)
    simp [dw, compD]
    refine ⟨[true, true], rfl, ?_⟩
    have : ¬ w.1 < 1 := by omega
    simp [this, h1, h2]
    exact hnx _ ⟨_, _, rfl⟩
  · rintro e ⟨x1, x2, rfl⟩
    simpa using h
/-- the wheels of the law -/
structure Wl (W : Wh) : Prop where
  len : 1 ≤ W.length ∧ W.length ≤ 3
  rg : ∀ w ∈ W, 2 ≤ w.1 ∧ w.1 ≤ 10 ∧ 0 ≤ w.2 ∧ w.2 < w.1
theorem Wl.o (h : Wl W) : Who W := ⟨h.len.2, fun w hw => by have := h.rg w hw; omega⟩
theorem Wl.m (h : Wl W) : ∀ w ∈ W, 0 ≤ w.2 ∧ w.2 < w.1 := fun w hw => by have := h.rg w hw; omega
theorem Wl.lcm (h : Wl W) : 0 < lcmW W 1 ∧ lcmW W 1 ≤ 1000 := by
  refine ⟨h.o.lcm.1, ?_⟩
  have := lcmW_le (B := 10) (by omega) (L := 1) (W := W) (by omega) fun w hw => by have := h.rg w hw; omega
  refine Int.le_trans this ?_
  have := h.len
  have : W.length = 1 ∨ W.length = 2 ∨ W.length = 3 := by omega
  rcases this with e | e | e <;> rw [e] <;> decide
theorem all2_map {α β γ : Type} {S : α → β → Prop} {f : β → γ} {g : α → γ} {as : List α} {bs : List β} (h : All2 S as bs) (e : ∀ a b, S a b → f b = g a) : bs.map f = as.map g := by
  induction h with
  | nil => rfl
  | cons s t ih => simp [e _ _ s, ih]
theorem dd1 (k : ∀ (W : Wh) (G : List Int), Wl W → Gok W G → t26__law_days_hold [.im .st, .im (.tup (W.map dw)), .im (itup G), s3, s4, s5, s6, s7, s8, s9, s10, s11, s12, s13, s14, s15, s16, s17, s18, s19, s20, s21, s22, s23, s24] { nx := fun _ => P .non, rt := P, ex := fun x _ => E x }) : m__law_days_hold [.im .st, s1, s2, s3, s4, s5, s6, s7, s8, s9, s10, s11, s12, s13, s14, s15, s16, s17, s18, s19, s20, s21, s22, s23, s24] { nx := fun _ => P .non, rt := P, ex := fun x _ => E x } := by
  simp [m__law_days_hold]
  refine tk (h := fun r r0 r1 => ?_)
  obtain ⟨n, rfl⟩ : ∃ m : Nat, r = (m : Int) := ⟨r.toNat, by omega⟩
  have en : (1 + (n : Int)) = ((n + 1 : Nat) : Int) := by omega
  simp only [addI_r1, g1_e]
  rw [en]
  refine ⟨by omega, by simp [rng]; omega, ?_⟩
  rw [rng0]
  refine compD_RE dw (fun _ w => 2 ≤ w.1 ∧ w.1 ≤ 10 ∧ w.2 = 0) (fun i hi Q T q => ?_) fun V hV => ?_
  · unfold cStep
    simp
    refine tk (h := fun u u0 u1 => ?_)
    simp
    exact q (2 + u, 0) ⟨by show 2 ≤ 2 + u; omega, by show 2 + u ≤ 10; omega, rfl⟩
  have lV := hV.len
  rw [Int.toNat_natCast, List.length_range] at lV
  have rV : ∀ w ∈ V, 2 ≤ w.1 ∧ w.1 ≤ 10 ∧ w.2 = 0 := fun w hw => by
    obtain ⟨a, _, s⟩ := hV.mem hw
    exact s
  simp
  simp [t28__law_days_hold]
  refine ⟨by omega, ?_⟩
  refine compD_RE dw (fun v w => w.1 = v.1 ∧ 0 ≤ w.2 ∧ w.2 < v.1) (fun v hv Q T q => ?_) fun W hW => ?_
  · have := rV v hv
    unfold cStep
    simp [dw]
    refine tk (by omega) (h := fun u u0 u1 => ?_) (by omega)
    exact q (v.1, u) ⟨rfl, u0, u1⟩
  have lW := hW.len
  have rW : ∀ w ∈ W, 2 ≤ w.1 ∧ w.1 ≤ 10 ∧ 0 ≤ w.2 ∧ w.2 < w.1 := fun w hw => by
    obtain ⟨a, ha, s⟩ := hW.mem hw
    have := rV a ha
    omega
  simp [t27__law_days_hold]
  refine ⟨by omega, ?_⟩
  refine compD_RE Dt.int (fun v g => 0 ≤ g ∧ g < v.1) (fun v hv Q T q => ?_) fun G hG => ?_
  · have := rW v hv
    unfold cStep
    simp [dw]
    refine tk (by omega) (h := fun u u0 u1 => ?_) (by omega)
    exact q u ⟨u0, u1⟩
  simp
  have lG := hG.len
  refine k W G ⟨by omega, rW⟩ ⟨by omega, fun i w g hw hg => ?_⟩
  obtain ⟨a, ha, s⟩ := hG.get hg
  rw [hw] at ha
  cases ha
  exact s
def rowsD (W : Wh) : Dt := .lst ((List.range 1100).map fun i : Nat => itup (rowI W (i : Int)))
def againL (W : Wh) : List Int := (iRun 1 1099).filter fun x => decide (rowI W x = rowI W 0)
def goodL (W : Wh) (G : List Int) : List Int := (iRun 0 1100).filter fun x => decide (rowI W x = G)
@[simp] theorem okD_itup (l : List Int) : okD (itup l) := pln.ok (k := 1) fun x hx => by
  obtain ⟨i, _, rfl⟩ := List.mem_map.mp hx
  exact pln_int
theorem itup_inj {l l' : List Int} : itup l = itup l' ↔ l = l' := by
  unfold itup
  constructor
  · intro h
    have h : l.map Dt.int = l'.map Dt.int := by simpa using h
    exact (List.map_inj_right fun a b e => by cases e; rfl).mp h
  · rintro rfl; rfl
@[simp] theorem eqv_itup (l l' : List Int) : eqv (itup l) (itup l') = decide (l = l') := by
  have pl : ∀ l : List Int, pln 1 (itup l) := fun l x hx => by
    obtain ⟨i, _, rfl⟩ := List.mem_map.mp hx
    exact pln_int
  have := eqv_iff (pl l) (pl l')
  rw [itup_inj] at this
  by_cases h : l = l'
  · rw [decide_eq_true h, this.mpr h]
  · rw [decide_eq_false h]
    exact eqv_false (pl l) (pl l') fun z => h (itup_inj.mp z)
theorem rows_at {x : Int} (h0 : 0 ≤ x) (h1 : x < 1100) {Q : Dt → Prop} (q : Q (itup (rowI W x))) : ixD (rowsD W) (.int x) Q := by
  obtain ⟨n, rfl⟩ : ∃ m : Nat, x = (m : Int) := ⟨x.toNat, by omega⟩
  unfold rowsD
  refine ixL (d := itup (rowI W (n : Int))) ?_ q
  rw [List.getElem?_map, List.getElem?_range (by omega)]
  rfl
theorem dd2 (hW : Wl W) (k : t24__law_days_hold [.im .st, .im (.tup (W.map dw)), .im (itup G), .im (rowsD W), .im (.lst ((againL W).map Dt.int)), s5, s6, s7, s8, s9, s10, s11, s12, s13, s14, s15, s16, s17, s18, s19, s20, s21, s22, s23, s24] { nx := fun _ => P .non, rt := P, ex := fun x _ => E x }) : t26__law_days_hold [.im .st, .im (.tup (W.map dw)), .im (itup G), s3, s4, s5, s6, s7, s8, s9, s10, s11, s12, s13, s14, s15, s16, s17, s18, s19, s20, s21, s22, s23, s24] { nx := fun _ => P .non, rt := P, ex := fun x _ => E x } := by
  simp [t26__law_days_hold]
  have hl := hW.len
  rw [rng0]
  refine ⟨by simp, ?_⟩
  refine compD_E itup (fun i : Nat => rowI W (i : Int)) (fun i hi Q T hQ => ?_) ?_
  · have hi := List.mem_range.mp hi
    unfold cStep
    simp
    refine ⟨by omega, ?_⟩
    refine compD_E Dt.int (fun w => (w.2 + (i : Int)) % w.1) (fun w hw Q' T' hQ' => ?_) ?_
    · unfold cStep
      have h0 := hW.rg w hw
      have hi : i < 1100 := by simpa using hi
      simp [dw]
      refine ⟨dk (by omega) (by omega), ?_, ?_⟩
      · rw [fdiv_pos (by omega)]
        exact mk (Nat.lt_of_le_of_lt (Int.natAbs_ediv_le_natAbs _ _) (by omega)) (by omega)
      · rw [fd_mod (by omega)]; exact hQ'
    · simpa [itup, rowI] using hQ
  · have e : Dt.lst (List.map itup (List.map (fun i : Nat => rowI W (i : Int)) (List.range 1100))) = rowsD W := by unfold rowsD; rw [List.map_map]; rfl
    simp only [Int.reduceToNat] at *
    rw [e]
    simp [t25__law_days_hold]
    refine ⟨by simp [rng], ?_⟩
    rw [show rng 1 1 1099 = (iRun 1 1099).map Dt.int from rng_iRun]
    refine compD_FE Dt.int id (fun x => decide (rowI W x = rowI W 0)) (fun x hx Q T hQ => ?_) ?_
    · have hx := mem_iRun.mp hx
      unfold cStep
      simp
      refine rows_at (by omega) (by omega) ?_
      refine rows_at (by omega) (by omega) ?_
      simp
      simpa using hQ
    · simpa [againL] using k
end
end KK

set_option maxRecDepth 100000
set_option maxHeartbeats 1000000
namespace KK
open PySem L2 DL FQ CM
section
variable {P : Dt → Prop} {E : Xc → Prop} {W : Wh} {G R : List Int} {s1 s2 s3 s4 s5 s6 s7 s8 s9 s10 s11 s12 s13 s14 s15 s16 s17 s18 s19 s20 s21 s22 s23 s24 : Sl}
theorem filter_asc {a : Int} {n : Nat} {p : Int → Bool} : ((iRun a n).filter p).Pairwise (· < ·) := iRun_asc.filter _
theorem dvd_abs {L x : Int} (hL : 0 < L) (h : L ∣ x) (h1 : -L < x) (h2 : x < L) : x = 0 := by
  obtain ⟨c, rfl⟩ := h
  have : c = 0 := by
    refine Classical.byContradiction fun z => ?_
    rcases (by omega : c ≤ -1 ∨ 1 ≤ c) with q | q
    · have := Int.mul_le_mul_of_nonneg_left q (show 0 ≤ L by omega); omega
    · have := Int.mul_le_mul_of_nonneg_left q (show 0 ≤ L by omega); omega
  rw [this, Int.mul_zero]
theorem again_0 (hW : Wl W) : (againL W)[0]? = some (lcmW W 1) := by
  have hl := hW.lcm
  refine asc_head filter_asc ?_ fun y hy => ?_
  · refine List.mem_filter.mpr ⟨mem_iRun.mpr (by omega), decide_eq_true ?_⟩
    rw [row_eq, Int.sub_zero]
    exact Int.dvd_refl _
  · obtain ⟨h1, h2⟩ := List.mem_filter.mp hy
    have h1 := mem_iRun.mp h1
    have h2 := of_decide_eq_true h2
    rw [row_eq, Int.sub_zero] at h2
    exact Int.le_of_dvd (by omega) h2
theorem good_0 (hW : Wl W) {d : Int} (d0 : 0 ≤ d) (d1 : d < lcmW W 1) (hd : rowI W d = G) : (goodL W G)[0]? = some d := by
  have hl := hW.lcm
  refine asc_head filter_asc ?_ fun y hy => ?_
  · exact List.mem_filter.mpr ⟨mem_iRun.mpr (by omega), decide_eq_true hd⟩
  · obtain ⟨h1, h2⟩ := List.mem_filter.mp hy
    have h1 := mem_iRun.mp h1
    have h2 := of_decide_eq_true h2
    rw [← hd, row_eq] at h2
    refine Classical.byContradiction fun z => ?_
    have := dvd_abs hl.1 h2 (by omega) (by omega)
    omega
theorem good_no (hG : Gok W G) (h : Stop W G) : goodL W G = [] := by
  unfold goodL
  rw [List.filter_eq_nil_iff]
  intro x _
  simp [h.no hG x]
theorem dd3 (hW : Wl W) (k : ∀ x5, t22__law_days_hold [.im .st, .im (.tup (W.map dw)), .im (itup G), .im (rowsD W), .im (.lst ((againL W).map Dt.int)), x5, s6, s7, s8, s9, s10, s11, s12, s13, s14, s15, s16, s17, s18, s19, s20, s21, s22, s23, s24] { nx := fun _ => P .non, rt := P, ex := fun x _ => E x }) : t24__law_days_hold [.im .st, .im (.tup (W.map dw)), .im (itup G), .im (rowsD W), .im (.lst ((againL W).map Dt.int)), s5, s6, s7, s8, s9, s10, s11, s12, s13, s14, s15, s16, s17, s18, s19, s20, s21, s22, s23, s24] { nx := fun _ => P .non, rt := P, ex := fun x _ => E x } := by
  simp [t24__law_days_hold]
  refine tk (h := fun r r0 r1 => ?_)
  simp [t23__law_days_hold]
  refine c_are_wheels (fun w hw => by have := hW.rg w hw; omega) ?_
  simp
  refine c_period hW.o ?_
  refine ⟨.int (lcmW W 1), by rw [show (0 : Int) = ((0 : Nat) : Int) from rfl, atI_natE, List.getElem?_map, again_0 hW]; rfl, ?_⟩
  simp
  refine c_stand hW.o hW.m (by omega) ?_
  refine rows_at (by omega) (by omega) ?_
  simp
  exact k _
theorem c_first_dayN {Q : Dt → Prop} (hW : Wl W) (hG : Gok W G) (yes : ∀ d, (goodL W G)[0]? = some d → Q (.int d)) (no : goodL W G = [] → Stop W G → Q .non) : sp_first_day [.tup (W.map dw), itup G] Q E :=
  c_first_day hW.o hW.m hG (fun d d0 d1 hd => yes d (good_0 hW d0 d1 hd)) fun h => no (good_no hG h) h
@[simp] theorem eqv_ne_nil {l : List Int} : eqv (.lst (l.map Dt.int)) (.lst []) = decide (l = []) := by
  rw [eqv_lst]
  cases l with
  | nil => simp [pyL, PyData.eqvAll]
  | cons x t => simp [pyL, PyData.eqvAll]
@[simp] theorem okD_nil : okD (.lst []) := pln.ok (k := 1) fun x hx => by cases hx
@[simp] theorem eqv_lnil : eqv (.lst []) (.lst []) = true := eqv_self (k := 1) fun x hx => by cases hx
@[simp] theorem eqv_bl (a b : Bool) : eqv (.bl a) (.bl b) = decide (a = b) := by
  unfold eqv; simp only [Dt.py, PyData.eqv]; cases a <;> cases b <;> rfl
@[simp] theorem okD_ilst (l : List Int) : okD (.lst (l.map Dt.int)) := pln.ok (k := 1) fun x hx => by
  obtain ⟨i, _, rfl⟩ := List.mem_map.mp hx
  exact pln_int
@[simp] theorem eqv_ilst (l l' : List Int) : eqv (.lst (l.map Dt.int)) (.lst (l'.map Dt.int)) = decide (l = l') := by
  have := eqv_itup l l'
  unfold itup at this
  rw [eqv_tup] at this
  rw [eqv_lst, this]
theorem dd4 (hW : Wl W) (hG : Gok W G) (k : ∀ x6 x7, t18__law_days_hold [.im .st, .im (.tup (W.map dw)), .im (itup G), .im (rowsD W), s4, s5, x6, x7, s8, s9, s10, s11, s12, s13, s14, s15, s16, s17, s18, s19, s20, s21, s22, s23, s24] { nx := fun _ => P .non, rt := P, ex := fun x _ => E x }) : t22__law_days_hold [.im .st, .im (.tup (W.map dw)), .im (itup G), .im (rowsD W), s4, s5, s6, s7, s8, s9, s10, s11, s12, s13, s14, s15, s16, s17, s18, s19, s20, s21, s22, s23, s24] { nx := fun _ => P .non, rt := P, ex := fun x _ => E x } := by
  simp [t22__law_days_hold]
  have hl := hW.len
  refine ⟨by simp [rng], ?_⟩
  rw [show rng 0 1 1100 = (iRun 0 1100).map Dt.int from rng_iRun]
  refine compD_FE Dt.int id (fun x => decide (rowI W x = G)) (fun x hx Q T hQ => ?_) ?_
  · have hx := mem_iRun.mp hx
    unfold cStep
    simp
    refine rows_at (by omega) (by omega) ?_
    simp
    simpa using hQ
  · have e : List.map Dt.int (List.map id ((iRun 0 1100).filter fun x => decide (rowI W x = G))) = (goodL W G).map Dt.int := by simp [goodL]
    rw [e]
    simp [t21__law_days_hold]
    have gl : (goodL W G).length ≤ 1100 := by
      unfold goodL
      exact Nat.le_trans (List.length_filter_le _ _) (by simp [iRun])
    have hg0 : ∀ {i : Nat} {v : Int × Int} {x : Int}, W[i]? = some v → (rowI W x)[i]? = some ((v.2 + x) % v.1) := fun {i v x} a => by
      unfold rowI
      rw [List.getElem?_map, a]; rfl
    have tail : ∀ x7, (goodL W G = [] → Stop W G) → t20__law_days_hold [.im .st, .im (.tup (W.map dw)), .im (itup G), .im (rowsD W), s4, s5, .im (.lst ((goodL W G).map Dt.int)), x7, s8, s9, s10, s11, s12, s13, s14, s15, s16, s17, s18, s19, s20, s21, s22, s23, s24] { nx := fun _ => P .non, rt := P, ex := fun x _ => E x } := fun x7 hst => by
      simp [t20__law_days_hold]
      refine c_why_never hW.o hW.m hG (fun hp => ?_) fun i j v w g h hij hv hw hg hh hn => ?_
      · have gn : goodL W G ≠ [] := fun z => by
          obtain ⟨kk, w, g, d, e1, e2, e3, e4⟩ := hst z
          obtain ⟨j, v, h, hj, a1, a2, a3⟩ := no_pair hW.len.2 (fun w hw => by have := hW.rg w hw; omega) e1 e2 e3 e4
          exact a3 (hp j kk v w h g hj a1 e1 a2 e2)
        simp [t19__law_days_hold, gn]
        exact k _ _
      · have no : ∀ x, rowI W x ≠ G := fun x hx => by
          have q : ∀ {i : Nat} {v : Int × Int} {g : Int}, W[i]? = some v → G[i]? = some g → (v.2 + x) % v.1 = g := fun {i v g} a b => by
            rw [← hx, hg0 a] at b
            simpa using b
          exact hn (pair_of (q hv hg) (q hw hh))
        have gn : goodL W G = [] := by
          unfold goodL
          rw [List.filter_eq_nil_iff]
          intro x _ hx
          exact no x (of_decide_eq_true hx)
        simp [t19__law_days_hold, gn]
        refine ⟨by simp [rng], ?_⟩
        rw [show rng 0 1 1100 = (iRun 0 1100).map Dt.int from rng_iRun]
        refine compD_FE Dt.int id (fun x => false) (fun x hx Q T hQ => ?_) ?_
        · have hx := mem_iRun.mp hx
          unfold cStep
          simp at hQ
          simp
          refine rows_at (by omega) (by omega) ?_
          simp [itup, hg0 hv, hg]
          by_cases hc : (v.2 + x) % v.1 = g
          · simp [hc]
            refine rows_at (by omega) (by omega) ?_
            simp [itup, hg0 hw, hh]
            have hc2 : (w.2 + x) % w.1 ≠ h := fun z => hn (pair_of hc z)
            simp [hc2]
            exact hQ
          · simp [hc]
            exact hQ
        · simp
          exact k _ _
    have fin : ∀ y : Dt, okD y → eqv y y = true → (goodL W G = [] → Stop W G) → True := fun _ _ _ _ => trivial
    have days : (goodL W G = [] → Stop W G) → sp_days_at [.tup (W.map dw), itup G, .int 50, .int 900] (fun x => lstD x fun x => (goodL W G).length ≤ 16777216 ∧
                      compD (gN 5)
                        (bAnd (bT (eOp leI (eC (Dt.int 50)) (eVar 5))) (bT (eOp leI (eVar 5) (eC (Dt.int 900)))))
                        (eVar 5)
                        [.im .st, .im (.tup (W.map dw)), .im (itup G), .im (rowsD W), s4, .no, .im (.lst ((goodL W G).map Dt.int)), s7, s8, s9, s10, s11, s12, s13, s14, s15, s16, s17, s18, s19, s20, s21, s22, s23, s24]
                        (fun y =>
                          (okD x ∧ okD y) ∧
                            if eqv x y = true then
                              t20__law_days_hold [.im .st, .im (.tup (W.map dw)), .im (itup G), .im (rowsD W), s4, s5, .im (.lst ((goodL W G).map Dt.int)), s7, s8, s9, s10, s11, s12, s13, s14, s15, s16, s17, s18, s19, s20, s21, s22, s23, s24] { nx := fun _ => P .non, rt := P, ex := fun x _ => E x }
                            else P (Dt.bl false))
                        (List.map Dt.int (goodL W G)) []) (fun x => E x) := fun hst => by
      have hl := hW.lcm
      refine c_days_at hW.o hW.m hG (by omega) (by omega) (by omega) (by omega) fun L hL mL => ?_
      simp
      refine ⟨by omega, ?_⟩
      refine compD_FE Dt.int id (fun x => decide (50 ≤ x) && decide (x ≤ 900)) (fun x hx Q T hQ => ?_) ?_
      · unfold cStep
        simp at hQ ⊢
        by_cases hc : 50 ≤ x
        · simpa [hc] using hQ
        · simpa [hc] using hQ
      · have eL : L = (goodL W G).filter fun x => decide (50 ≤ x) && decide (x ≤ 900) := by
          refine asc_extI hL (filter_asc.filter _) fun x => ?_
          rw [mL]
          unfold goodL
          rw [List.mem_filter, List.mem_filter, mem_iRun]
          simp
          constructor
          · rintro ⟨a, b, c⟩; exact ⟨⟨by omega, c⟩, a, b⟩
          · rintro ⟨⟨_, c⟩, a, b⟩; exact ⟨a, b, c⟩
        simp [← eL]
        exact tail _ hst
    refine c_first_dayN hW hG (fun d hd => ?_) fun hn hs => ?_
    · have gn : goodL W G ≠ [] := fun z => by rw [z] at hd; cases hd
      simp [gn]
      refine ⟨.int d, by rw [show (0 : Int) = ((0 : Nat) : Int) from rfl, atI_natE, List.getElem?_map, hd]; rfl, ?_⟩
      simp
      exact days fun z => absurd z gn
    · have := days fun _ => hs
      simp [hn] at this ⊢
      exact this
end
end KK

set_option maxRecDepth 100000
set_option maxHeartbeats 1000000
namespace KK
open PySem L2 DL FQ CM
section
variable {P : Dt → Prop} {E : Xc → Prop} {W : Wh} {G R : List Int} {s1 s2 s3 s4 s5 s6 s7 s8 s9 s10 s11 s12 s13 s14 s15 s16 s17 s18 s19 s20 s21 s22 s23 s24 : Sl}
theorem eqv_two {a b c d : Int} : eqv (.tup [.int a, .int b]) (.tup [.int c, .int d]) = (decide (a = c) && decide (b = d)) := by
  rw [eqv_tup, eqvA_c, eqvA_c, eqvA_n, eqv_int, eqv_int, Bool.and_true]
theorem okD_two {a b : Int} : okD (.tup [.int a, .int b]) := okD_itup [a, b]
def bothL (l1 m1 l2 m2 : Int) : List Int := (iRun 0 200).filter fun x => decide (x % l1 = m1) && decide (x % l2 = m2)
theorem both_mem {l1 m1 l2 m2 x : Int} : x ∈ bothL l1 m1 l2 m2 ↔ (0 ≤ x ∧ x < 200) ∧ x % l1 = m1 ∧ x % l2 = m2 := by
  unfold bothL
  rw [List.mem_filter, mem_iRun]
  simp
theorem bez (a b : Nat) : ∃ x y : Int, x * (a : Int) + y * (b : Int) = ((Nat.gcd a b : Nat) : Int) := by
  induction a, b using Nat.gcd.induction with
  | H0 n => exact ⟨0, 1, by simp⟩
  | H1 m n hm ih =>
    obtain ⟨x, y, e⟩ := ih
    refine ⟨y - x * ((n / m : Nat) : Int), x, ?_⟩
    rw [Nat.gcd_rec, ← e]
    have : ((n % m : Nat) : Int) = (n : Int) - (m : Int) * ((n / m : Nat) : Int) := by
      have := Nat.mod_add_div n m
      have h2 : ((n % m + m * (n / m) : Nat) : Int) = (n : Int) := by rw [this]
      rw [Int.natCast_add, Int.natCast_mul] at h2
      omega
    rw [this]
    grind
theorem both_ex {l1 m1 l2 m2 : Int} (a1 : 0 < l1) (a2 : 0 < l2) (r1 : 0 ≤ m1 ∧ m1 < l1) (r2 : 0 ≤ m2 ∧ m2 < l2) (h : ((Int.gcd l1 l2 : Nat) : Int) ∣ m2 - m1) : ∃ d, 0 ≤ d ∧ d < lcmI l1 l2 ∧ d % l1 = m1 ∧ d % l2 = m2 := by
  obtain ⟨q, hq⟩ := h
  obtain ⟨x, y, e⟩ := bez l1.natAbs l2.natAbs
  rw [Int.natAbs_of_nonneg (by omega), Int.natAbs_of_nonneg (by omega)] at e
  have eg : ((Nat.gcd l1.natAbs l2.natAbs : Nat) : Int) = ((Int.gcd l1 l2 : Nat) : Int) := rfl
  rw [eg] at e
  rw [← e] at hq
  have L0 := lcm_pos' a1 a2
  have dv := lcm_dvd_iff.mp (Int.dvd_refl (lcmI l1 l2))
  refine ⟨(m1 + l1 * (x * q)) % lcmI l1 l2, Int.emod_nonneg _ (by omega), Int.emod_lt_of_pos _ L0, ?_, ?_⟩
  · rw [Int.emod_emod_of_dvd _ dv.1, Int.add_mul_emod_self_left, Int.emod_eq_of_lt r1.1 r1.2]
  · rw [Int.emod_emod_of_dvd _ dv.2]
    have : m1 + l1 * (x * q) = m2 + l2 * (-(y * q)) := by grind
    rw [this, Int.add_mul_emod_self_left, Int.emod_eq_of_lt r2.1 r2.2]
theorem dd5 (k : ∀ x8 x9 x10 x11, t13__law_days_hold [.im .st, s1, s2, s3, s4, s5, s6, s7, x8, x9, x10, x11, s12, s13, s14, s15, s16, s17, s18, s19, s20, s21, s22, s23, s24] { nx := fun _ => P .non, rt := P, ex := fun x _ => E x }) : t18__law_days_hold [.im .st, s1, s2, s3, s4, s5, s6, s7, s8, s9, s10, s11, s12, s13, s14, s15, s16, s17, s18, s19, s20, s21, s22, s23, s24] { nx := fun _ => P .non, rt := P, ex := fun x _ => E x } := by
  simp [t18__law_days_hold]
  refine tk (h := fun r r0 r1 => ?_)
  try simp
  refine tk (h := fun r' r0' r1' => ?_)
  obtain ⟨l1, e1⟩ : ∃ l1, l1 = 2 + r := ⟨_, rfl⟩
  obtain ⟨l2, e2⟩ : ∃ l2, l2 = 2 + r' := ⟨_, rfl⟩
  simp [t17__law_days_hold]
  rw [← e1, ← e2]
  refine tk (by omega) (h := fun m1 m10 m11 => ?_) (by omega)
  try simp
  refine tk (by omega) (h := fun m2 m20 m21 => ?_) (by omega)
  simp [t16__law_days_hold]
  refine ⟨by simp [rng], ?_⟩
  rw [show rng 0 1 200 = (iRun 0 200).map Dt.int from rng_iRun]
  refine compD_FE Dt.int id (fun x => decide (x % l1 = m1) && decide (x % l2 = m2)) (fun x hx Q T hQ => ?_) ?_
  · have hx := mem_iRun.mp hx
    unfold cStep
    simp at hQ
    simp
    have a1 : 0 < l1 := by omega
    have a2 : 0 < l2 := by omega
    have dd : ∀ l : Int, 0 < l → l < 100 → (¬ l = 0 ∧ DivOk x l) ∧ IntMulOk (x.fdiv l) l := fun l h h2 => by
      refine ⟨dk h (by omega), ?_⟩
      rw [fdiv_pos h]
      exact mk (Nat.lt_of_le_of_lt (Int.natAbs_ediv_le_natAbs _ _) (by omega)) (by omega)
    rw [fd_mod a1, fd_mod a2]
    refine ⟨(dd l1 a1 (by omega)).1, (dd l1 a1 (by omega)).2, ?_⟩
    by_cases hc : x % l1 = m1
    · simp [hc] at hQ ⊢
      exact ⟨(dd l2 a2 (by omega)).1, (dd l2 a2 (by omega)).2, hQ⟩
    · simp [hc] at hQ ⊢
      exact hQ
  · have e : List.map Dt.int (List.map id ((iRun 0 200).filter fun x => decide (x % l1 = m1) && decide (x % l2 = m2))) = (bothL l1 m1 l2 m2).map Dt.int := by simp [bothL]
    rw [e]
    have a1 : 0 < l1 := by omega
    have a2 : 0 < l2 := by omega
    by_cases hn : ((Int.gcd l1 l2 : Nat) : Int) ∣ m2 - m1
    · -- there are days
      have L0 := lcm_pos' a1 a2
      have L1 : lcmI l1 l2 ≤ 100 := by
        have := lcmI_le a1 a2
        have : l1 * l2 ≤ l1 * 10 := Int.mul_le_mul_of_nonneg_left (by omega) (by omega)
        omega
      have due : ∀ d, 0 ≤ d → d < lcmI l1 l2 → d % l1 = m1 → d % l2 = m2 → (bothL l1 m1 l2 m2)[0]? = some d ∧ (bothL l1 m1 l2 m2)[1]? = some (d + lcmI l1 l2) := fun d d0 d1 d2 d3 => by
        have mm : ∀ x, x ∈ bothL l1 m1 l2 m2 ↔ (0 ≤ x ∧ x < 200) ∧ lcmI l1 l2 ∣ x - d := fun x => by
          rw [both_mem, lcm_dvd_iff, ← emod_eq_iff, ← emod_eq_iff, d2, d3]
        have low : ∀ y ∈ bothL l1 m1 l2 m2, d ≤ y := fun y hy => by
          obtain ⟨h1, h2⟩ := (mm y).mp hy
          refine Classical.byContradiction fun z => ?_
          have := dvd_abs L0 h2 (by omega) (by omega)
          omega
        have m1' : d ∈ bothL l1 m1 l2 m2 := (mm d).mpr ⟨by omega, by rw [Int.sub_self]; exact Int.dvd_zero _⟩
        refine ⟨asc_head filter_asc m1' low, asc_snd filter_asc m1' low ((mm _).mpr ⟨by omega, ⟨1, by omega⟩⟩) (by omega) fun y hy => ?_⟩
        obtain ⟨h1, h2⟩ := (mm y).mp hy
        have := low y hy
        by_cases hy : y = d
        · exact .inl hy
        · refine .inr (Classical.byContradiction fun z => ?_)
          have := dvd_abs L0 h2 (by omega) (by omega)
          omega
      obtain ⟨d, d0, d1, d2, d3⟩ := both_ex a1 a2 ⟨m10, m11⟩ ⟨m20, m21⟩ hn
      obtain ⟨w0, w1⟩ := due d d0 d1 d2 d3
      have nb : bothL l1 m1 l2 m2 ≠ [] := fun z => by rw [z] at w0; cases w0
      simp [t15__law_days_hold, nb]
      refine ⟨.int (d + lcmI l1 l2), by rw [show (1 : Int) = ((1 : Nat) : Int) from rfl, atI_natE, List.getElem?_map, w1]; rfl, .int d, by rw [show (0 : Int) = ((0 : Nat) : Int) from rfl, atI_natE, List.getElem?_map, w0]; rfl, ?_⟩
      simp
      refine ⟨.int d, by rw [show (0 : Int) = ((0 : Nat) : Int) from rfl, atI_natE, List.getElem?_map, w0]; rfl, ?_⟩
      simp [t14__law_days_hold]
      refine c_joined a1 a2 (by omega) (by omega) ⟨m10, m11⟩ ⟨m20, m21⟩ (fun z => absurd hn z) fun d' d0' d1' d2' d3' => ?_
      have ed : d' = d := by
        have := (due d' d0' d1' d2' d3').1
        rw [w0] at this
        cases this; rfl
      subst ed
      simp [okD_two, eqv_two]
      have : d' + lcmI l1 l2 - d' = lcmI l1 l2 := by omega
      simp [this]
      exact k _ _ _ _
    · have hb : bothL l1 m1 l2 m2 = [] := by
        refine List.eq_nil_iff_forall_not_mem.mpr fun x hx => ?_
        have := (both_mem.mp hx).2
        exact hn (join_no this.1 this.2)
      simp [t15__law_days_hold, hb]
      simp [t14__law_days_hold]
      refine c_joined a1 a2 (by omega) (by omega) ⟨m10, m11⟩ ⟨m20, m21⟩ (fun _ => ?_) fun d d0 d1 d2 d3 => ?_
      · simp
        exact k _ _ _ _
      · exact absurd (join_no d2 d3) hn
end
end KK

set_option maxRecDepth 100000
set_option maxHeartbeats 1000000
namespace KK
open PySem L2 DL FQ CM
section
variable {P : Dt → Prop} {E : Xc → Prop} {W : Wh} {G R : List Int} {s1 s2 s3 s4 s5 s6 s7 s8 s9 s10 s11 s12 s13 s14 s15 s16 s17 s18 s19 s20 s21 s22 s23 s24 : Sl}
def coL (l k : Int) : List Int := (iRun 2 (k + 1 - 2).toNat).filter fun j => decide (k % j = 0) && decide (l % j = 0)
def numL (l : Int) : List Int := (iRun 1 (l - 1).toNat).filter fun k => decide (((coL l k).length : Int) = 0)
theorem num_gcd {l k : Int} (hl : 2 ≤ l) (h : k ∈ numL l) : 1 ≤ k ∧ k < l ∧ Int.gcd k l = 1 := by
  obtain ⟨h1, h2⟩ := List.mem_filter.mp h
  have h1 := mem_iRun.mp h1
  have h2 := of_decide_eq_true h2
  have h3 : coL l k = [] := List.eq_nil_of_length_eq_zero (by omega)
  refine ⟨by omega, by omega, ?_⟩
  refine Classical.byContradiction fun z => ?_
  have hg := gcd_I (b := l) (show 0 < k by omega)
  have : ((Int.gcd k l : Nat) : Int) ∈ coL l k := by
    refine List.mem_filter.mpr ⟨mem_iRun.mpr (by omega), ?_⟩
    have d1 := Int.emod_eq_zero_of_dvd (Int.gcd_dvd_left k l)
    have d2 := Int.emod_eq_zero_of_dvd (Int.gcd_dvd_right k l)
    simp [d1, d2]
  rw [h3] at this
  cases this
theorem num_last {l : Int} (hl : 2 ≤ l) : ∃ k, (numL l).getLast? = some k ∧ 1 ≤ k ∧ k < l ∧ Int.gcd k l = 1 := by
  have m1 : (1 : Int) ∈ numL l := by
    refine List.mem_filter.mpr ⟨mem_iRun.mpr (by omega), decide_eq_true ?_⟩
    simp [coL, iRun]
  cases e : (numL l).getLast? with
  | none => rw [List.getLast?_eq_none_iff] at e; rw [e] at m1; cases m1
  | some k => exact ⟨k, rfl, num_gcd hl (List.mem_of_getLast? e)⟩
theorem inv_same {n l r r' t t' : Int} (hl : 0 < l) (hg : Int.gcd n l = 1) (e : r * n = 1 + t * l) (e' : r' * n = 1 + t' * l) (r0 : 0 ≤ r ∧ r < l) (r1 : 0 ≤ r' ∧ r' < l) : r' = r := by
  have h2 : l ∣ r' - r := ⟨r * (t' - t) - t * (r' - r), by grind⟩
  have := dvd_abs hl h2 (by omega) (by omega)
  omega
theorem dd6 (k : ∀ x12 x13, t10__law_days_hold [.im .st, s1, s2, s3, s4, s5, s6, s7, s8, s9, s10, s11, x12, x13, s14, s15, s16, s17, s18, s19, s20, s21, s22, s23, s24] { nx := fun _ => P .non, rt := P, ex := fun x _ => E x }) : t13__law_days_hold [.im .st, s1, s2, s3, s4, s5, s6, s7, s8, s9, s10, s11, s12, s13, s14, s15, s16, s17, s18, s19, s20, s21, s22, s23, s24] { nx := fun _ => P .non, rt := P, ex := fun x _ => E x } := by
  simp [t13__law_days_hold]
  refine tk (h := fun r r0 r1 => ?_)
  obtain ⟨l, e1⟩ : ∃ l, l = 2 + r := ⟨_, rfl⟩
  simp [t12__law_days_hold]
  rw [← e1]
  refine ⟨by omega, by simp [rng]; omega, ?_⟩
  rw [show l.toNat - 1 = (l - 1).toNat by omega]
  rw [show rng 1 1 (l - 1).toNat = (iRun 1 (l - 1).toNat).map Dt.int from rng_iRun]
  refine compD_FE Dt.int id (fun k => decide (((coL l k).length : Int) = 0)) (fun k hk Q T hQ => ?_) ?_
  · have hk := mem_iRun.mp hk
    unfold cStep
    simp only [gN_e, put_c0, put_c1, bT_e, eOp_e, nComp_e, iRange2_e, aCons_e, eC_e, eVar_e, sl_c0, sl_c1, eV_im, addI_r1, aNil_e, g2_e, eCB_e, f1_e, wipeE_n, wipeE_c]
    refine ⟨by omega, by simp [rng]; omega, ?_⟩
    rw [show rng 2 1 (k + 1 - 2).toNat = (iRun 2 (k + 1 - 2).toNat).map Dt.int from rng_iRun]
    refine compD_FE Dt.int id (fun j => decide (k % j = 0) && decide (l % j = 0)) (fun j hj Q T hQ => ?_) ?_
    · have hj := mem_iRun.mp hj
      unfold cStep
      have j0 : 0 < j := by omega
      have dd : ∀ x : Int, 0 ≤ x → x < 100 → (¬ j = 0 ∧ DivOk x j) ∧ IntMulOk (x.fdiv j) j := fun x h h2 => by
        refine ⟨dk j0 (by omega), ?_⟩
        rw [fdiv_pos j0]
        exact mk (Nat.lt_of_le_of_lt (Int.natAbs_ediv_le_natAbs _ _) (by omega)) (by omega)
      simp
      rw [fd_mod j0, fd_mod j0]
      refine ⟨(dd k (by omega) (by omega)).1, (dd k (by omega) (by omega)).2, ?_⟩
      by_cases hc : k % j = 0
      · simp [hc] at hQ ⊢
        exact ⟨(dd l (by omega) (by omega)).1, (dd l (by omega) (by omega)).2, hQ⟩
      · simp [hc] at hQ ⊢
        exact hQ
    · rw [List.map_id]
      show lenD (.lst ((coL l k).map Dt.int)) _
      simp at hQ ⊢
      exact hQ
  · rw [List.map_id]
    show ixD (.lst ((numL l).map Dt.int)) _ _
    obtain ⟨n, en, n1, n2, ng⟩ := num_last (l := l) (by omega)
    simp
    refine ⟨.int n, by rw [atI_last, List.getLast?_map, en]; rfl, ?_⟩
    simp [t11__law_days_hold]
    have inv : ∀ {Q : Dt → Prop}, (∀ r t, 0 ≤ r → r < l → r * n = 1 + t * l → Q (.int r)) → sp_inverse [.int n, .int l] Q (fun x => E x) := fun h => c_inverse (by omega) (by omega) (by omega) (by omega) fun r t a b c => h r t a b (by rw [c, ng]; rfl)
    refine inv fun v t v0 v1 ev => ?_
    have u : ∀ {v' t' : Int}, 0 ≤ v' → v' < l → v' * n = 1 + t' * l → v' = v := fun a b c => inv_same (by omega) ng ev c ⟨v0, v1⟩ ⟨a, b⟩
    have b1 : (n * v).natAbs < 100000 := by
      rw [Int.natAbs_mul]
      have : n.natAbs * v.natAbs ≤ 100 * v.natAbs := Nat.mul_le_mul_right _ (by omega)
      omega
    simp
    refine ⟨mk (by omega) (by omega), ?_⟩
    refine inv fun v' t' a b c => ?_
    obtain rfl := u a b c
    have hm : (n * v') % l = 1 := by
      rw [Int.mul_comm, ev, Int.add_mul_emod_self_right]
      exact Int.emod_eq_of_lt (by omega) (by omega)
    simp
    refine ⟨mk (by omega) (by omega), dk (by omega) (by omega), ?_, ?_⟩
    · rw [fdiv_pos (by omega)]
      refine mk (Nat.lt_of_le_of_lt (Int.natAbs_ediv_le_natAbs _ _) (by omega)) (by omega)
    · rw [fd_mod (by omega), hm]
      simp
      refine inv fun v2 t2 a2 b2 c2 => ?_
      obtain rfl := u a2 b2 c2
      simp [a2]
      refine inv fun v3 t3 a3 b3 c3 => ?_
      obtain rfl := u a3 b3 c3
      simp [b3]
      exact k _ _
end
end KK

set_option maxRecDepth 100000
set_option maxHeartbeats 1000000
namespace KK
open PySem L2 DL FQ CM
section
variable {P : Dt → Prop} {E : Xc → Prop} {W : Wh} {G R : List Int} {s1 s2 s3 s4 s5 s6 s7 s8 s9 s10 s11 s12 s13 s14 s15 s16 s17 s18 s19 s20 s21 s22 s23 s24 : Sl}
def cntR (R : List Int) (y : Int) : Nat := (R.filter fun a => decide (y % a = 0)).length
def isLp (R : List Int) (y : Int) : Bool := decide ((cntR R y : Int) = 1) || decide ((cntR R y : Int) = 3)
structure Ru (R : List Int) : Prop where
  o : Rp1 R
  st : ∀ y, 1 ≤ y → lp R y 1 - lp R (y - 1) 1 = if isLp R y = true then 1 else 0
  up : ∀ (i : Nat) (a b : Int), R[i]? = some a → R[i + 1]? = some b → a < b ∧ b % a = 0
theorem lp_0 : ∀ {R : List Int} {s : Int}, lp R 0 s = 0
  | [], _ => rfl
  | a :: R, s => by simp [lp, lp_0 (R := R)]
theorem ru_1 : Ru [4, 100, 400] := ⟨⟨by decide, by decide⟩, fun y hy => by
  have e : cntR [4, 100, 400] y = (if y % 4 = 0 then 1 else 0) + (if y % 100 = 0 then 1 else 0) + (if y % 400 = 0 then 1 else 0) := by
    unfold cntR
    simp only [List.filter_cons, List.filter_nil]
    repeat' split
    all_goals simp_all
  have d : isLp [4, 100, 400] y = true ↔ (y % 4 = 0 ∧ (y % 100 ≠ 0 ∨ y % 400 = 0)) := by
    unfold isLp
    rw [e]
    simp only [Bool.or_eq_true, decide_eq_true_eq]
    split <;> split <;> split <;> omega
  simp only [lp]
  by_cases h : isLp [4, 100, 400] y = true
  · rw [if_pos h]; rw [d] at h; omega
  · rw [if_neg h]; rw [d] at h; omega, fun i a b h1 h2 => by
  match i with
  | 0 => simp at h1 h2; subst h1 h2; decide
  | 1 => simp at h1 h2; subst h1 h2; decide
  | i + 2 => simp at h2⟩
theorem ru_2 : Ru [4] := ⟨⟨by decide, by decide⟩, fun y hy => by
  have e : cntR [4] y = (if y % 4 = 0 then 1 else 0) := by
    unfold cntR
    simp only [List.filter_cons, List.filter_nil]
    repeat' split
    all_goals simp_all
  have d : isLp [4] y = true ↔ (y % 4 = 0) := by
    unfold isLp
    rw [e]
    simp only [Bool.or_eq_true, decide_eq_true_eq]
    split <;> omega
  simp only [lp]
  by_cases h : isLp [4] y = true
  · rw [if_pos h]; rw [d] at h; omega
  · rw [if_neg h]; rw [d] at h; omega, fun i a b h1 h2 => by simp at h2⟩
theorem ru_3 : Ru [] := ⟨⟨by decide, by simp⟩, fun y hy => by simp [lp, isLp, cntR], fun i a b h1 h2 => by simp at h2⟩
theorem ru_4 : Ru [5, 10] := ⟨⟨by decide, by decide⟩, fun y hy => by
  have e : cntR [5, 10] y = (if y % 5 = 0 then 1 else 0) + (if y % 10 = 0 then 1 else 0) := by
    unfold cntR
    simp only [List.filter_cons, List.filter_nil]
    repeat' split
    all_goals simp_all
  have d : isLp [5, 10] y = true ↔ (y % 5 = 0 ∧ y % 10 ≠ 0) := by
    unfold isLp
    rw [e]
    simp only [Bool.or_eq_true, decide_eq_true_eq]
    split <;> split <;> omega
  simp only [lp]
  by_cases h : isLp [5, 10] y = true
  · rw [if_pos h]; rw [d] at h; omega
  · rw [if_neg h]; rw [d] at h; omega, fun i a b h1 h2 => by
  match i with
  | 0 => simp at h1 h2; subst h1 h2; decide
  | i + 1 => simp at h2⟩
theorem ru_5 : Ru [3, 9, 27] := ⟨⟨by decide, by decide⟩, fun y hy => by
  have e : cntR [3, 9, 27] y = (if y % 3 = 0 then 1 else 0) + (if y % 9 = 0 then 1 else 0) + (if y % 27 = 0 then 1 else 0) := by
    unfold cntR
    simp only [List.filter_cons, List.filter_nil]
    repeat' split
    all_goals simp_all
  have d : isLp [3, 9, 27] y = true ↔ (y % 3 = 0 ∧ (y % 9 ≠ 0 ∨ y % 27 = 0)) := by
    unfold isLp
    rw [e]
    simp only [Bool.or_eq_true, decide_eq_true_eq]
    split <;> split <;> split <;> omega
  simp only [lp]
  by_cases h : isLp [3, 9, 27] y = true
  · rw [if_pos h]; rw [d] at h; omega
  · rw [if_neg h]; rw [d] at h; omega, fun i a b h1 h2 => by
  match i with
  | 0 => simp at h1 h2; subst h1 h2; decide
  | 1 => simp at h1 h2; subst h1 h2; decide
  | i + 2 => simp at h2⟩
theorem iRun_succ {a : Int} {n : Nat} : iRun a (n + 1) = iRun a n ++ [a + (n : Int)] := by
  unfold iRun; rw [List.range_succ, List.map_append]; rfl
/-- the leap years up to N -/
def lpL (R : List Int) (N : Nat) : List Int := (iRun 1 N).filter (isLp R)
theorem lpL_cnt (h : Ru R) : ∀ {N n : Nat}, n ≤ N → ((lpL R N).filter fun x => decide (x ≤ (n : Int))).length = lp R (n : Int) 1
  | 0, n, hn => by
    have : n = 0 := by omega
    subst this
    simp [lpL, iRun, lp_0]
  | N + 1, n, hn => by
    have e : lpL R (N + 1) = lpL R N ++ (if isLp R (1 + (N : Int)) = true then [1 + (N : Int)] else []) := by
      unfold lpL
      rw [iRun_succ, List.filter_append]
      simp [List.filter_cons]
    by_cases hc : n = N + 1
    · subst hc
      have h1 := lpL_cnt h (N := N) (n := N) (by omega)
      have h2 := h.st (1 + (N : Int)) (by omega)
      have e2 : (lpL R N).filter (fun x => decide (x ≤ ((N + 1 : Nat) : Int))) = (lpL R N).filter fun x => decide (x ≤ (N : Int)) := by
        refine List.filter_congr fun x hx => ?_
        have := mem_iRun.mp (List.mem_filter.mp hx).1
        have a1 : x ≤ ((N + 1 : Nat) : Int) := by omega
        have a2 : x ≤ (N : Int) := by omega
        simp [a1, a2]
        omega
      rw [e, List.filter_append, List.length_append, e2, Int.natCast_add, h1]
      have e3 : (1 : Int) + (N : Int) - 1 = (N : Int) := by omega
      rw [e3] at h2
      have e4 : ((N + 1 : Nat) : Int) = 1 + (N : Int) := by omega
      rw [e4]
      by_cases hl : isLp R (1 + (N : Int)) = true
      · simp only [hl, if_true] at h2 ⊢
        simp
        omega
      · simp only [hl, if_false] at h2 ⊢
        simp
        simp at h2
        omega
    · have h1 := lpL_cnt h (N := N) (n := n) (by omega)
      rw [e, List.filter_append, List.length_append, Int.natCast_add, h1]
      have : ¬ (1 + (N : Int)) ≤ (n : Int) := by omega
      split <;> simp [this]
theorem lp_bd1 (h : Ru R) : ∀ n : Nat, 0 ≤ lp R (n : Int) 1 ∧ lp R (n : Int) 1 ≤ (n : Int)
  | 0 => by simp [lp_0]
  | n + 1 => by
    have h1 := lp_bd1 h n
    have h2 := h.st ((n + 1 : Nat) : Int) (by omega)
    have e : ((n + 1 : Nat) : Int) - 1 = (n : Int) := by omega
    rw [e] at h2
    split at h2 <;> omega
theorem dT_mono (h : Ru R) (a b : Int) (ha : 1 ≤ a) (hab : a ≤ b) : dT R a ≤ dT R b := by
  obtain ⟨n, rfl⟩ : ∃ n : Nat, b = a + (n : Int) := ⟨(b - a).toNat, by omega⟩
  clear hab
  induction n with
  | zero => simp
  | succ n ih =>
    have h2 := h.st (a + (n : Int)) (by omega)
    unfold dT at *
    have e : a + ((n + 1 : Nat) : Int) - 1 = a + (n : Int) := by omega
    rw [e]
    split at h2 <;> omega
theorem c_is_rule (h : Ru R) (k : P (.bl true)) : sp_is_rule [itup R] P E := by
  refine ⟨rfl, ?_⟩
  simp only [init_c, init_n, List.replicate]
  have hl := h.o.len
  simp [m_is_rule, itup]
  refine ⟨by omega, ?_⟩
  refine compD_E Dt.bl (fun _ => true) (fun a ha Q T q => ?_) ?_
  · have := h.o.rg a ha
    unfold cStep
    simp [this.1]
    exact q
  · simp
    refine ⟨R.map fun _ => true, by rw [List.map_map], ?_⟩
    have : (R.map fun _ => true).all id = true := by simp
    simp [this]
    refine ⟨by omega, ?_⟩
    rw [rng0]
    refine forD_inv (fun i e => ∃ x1, e = [.im (.tup (R.map Dt.int)), x1]) ⟨_, rfl⟩ ?_ ?_
    · rintro i d e hd ⟨x1, rfl⟩ nx hnx
      obtain ⟨j, hj, rfl⟩ := map_at hd
      have hij := lt_of_at hj
      simp at hij
      rw [List.getElem?_range (by simpa using hij)] at hj
      obtain rfl : i = j := by simpa using hj
      have e1 : R[i]? = some R[i] := List.getElem?_eq_getElem (by omega)
      have e2 : R[i + 1]? = some R[i + 1] := List.getElem?_eq_getElem (by omega)
      have hu := h.up i _ _ e1 e2
      have r1 := h.o.rg _ (List.mem_of_getElem? e1)
      have r2 := h.o.rg _ (List.mem_of_getElem? e2)
      generalize R[i] = a at *
      generalize R[i + 1] = b at *
      have ei : (i : Int) + 1 = ((i + 1 : Nat) : Int) := by omega
      simp only [gN_e, sIf_e, bOr, bT_e, eOp_e, eVar_e, sl_c0, sl_c1, eV_im, eC_e, addI_r1, put_c0, put_c1, ei]
      have q1 : (R.map Dt.int)[i]? = some (.int a) := by rw [List.getElem?_map, e1]; rfl
      have q2 : (R.map Dt.int)[i + 1]? = some (.int b) := by rw [List.getElem?_map, e2]; rfl
      refine ixT q2 ?_
      refine ixT q1 ?_
      have : ¬ b ≤ a := by omega
      simp [this, q1, q2]
      refine ixT q2 ?_
      refine ixT q2 ?_
      have a0 : a ≠ 0 := by omega
      simp [a0]
      refine ⟨(dk r1.1 (by omega)).2, ?_, ?_⟩
      · rw [fdiv_pos r1.1]
        exact mk (Nat.lt_of_le_of_lt (Int.natAbs_ediv_le_natAbs _ _) (by omega)) (by omega)
      · rw [fd_mod r1.1, hu.2]
        simp
        exact hnx _ ⟨_, rfl⟩
    · rintro e ⟨x1, rfl⟩
      simpa using k
end
end KK

set_option maxRecDepth 100000
set_option maxHeartbeats 1000000
namespace KK
open PySem L2 DL FQ CM
section
variable {P : Dt → Prop} {E : Xc → Prop} {W : Wh} {G R : List Int} {s1 s2 s3 s4 s5 s6 s7 s8 s9 s10 s11 s12 s13 s14 s15 s16 s17 s18 s19 s20 s21 s22 s23 s24 : Sl}
theorem ee1 (k : ∀ R, Ru R → whl R ≤ 400 → t9__law_days_hold [.im .st, s1, s2, s3, s4, s5, s6, s7, s8, s9, s10, s11, s12, s13, .im (itup R), s15, s16, s17, s18, s19, s20, s21, s22, s23, s24] { nx := fun _ => P .non, rt := P, ex := fun x _ => E x }) : t10__law_days_hold [.im .st, s1, s2, s3, s4, s5, s6, s7, s8, s9, s10, s11, s12, s13, s14, s15, s16, s17, s18, s19, s20, s21, s22, s23, s24] { nx := fun _ => P .non, rt := P, ex := fun x _ => E x } := by
  simp [t10__law_days_hold]
  refine tk (h := fun r r0 r1 => ?_)
  have h := k _ ru_1 (by decide)
  have h2 := k _ ru_2 (by decide)
  have h3 := k _ ru_3 (by decide)
  have h4 := k _ ru_4 (by decide)
  have h5 := k _ ru_5 (by decide)
  simp only [itup, List.map_cons, List.map_nil] at h h2 h3 h4 h5
  rcases (by omega : r = 0 ∨ r = 1 ∨ r = 2 ∨ r = 3 ∨ r = 4) with rfl | rfl | rfl | rfl | rfl
  · simpa using h
  · simpa using h2
  · simpa using h3
  · simpa using h4
  · refine ⟨_, atI_natE (j := 4), ?_⟩
    simpa using h5
theorem ee2 (hR : Ru R) (k : ∀ x16 x17, t7__law_days_hold [.im .st, s1, s2, s3, s4, s5, s6, s7, s8, s9, s10, s11, s12, s13, .im (itup R), .im (.lst ((lpL R 899).map Dt.int)), x16, x17, s18, s19, s20, s21, s22, s23, s24] { nx := fun _ => P .non, rt := P, ex := fun x _ => E x }) : t9__law_days_hold [.im .st, s1, s2, s3, s4, s5, s6, s7, s8, s9, s10, s11, s12, s13, .im (itup R), s15, s16, s17, s18, s19, s20, s21, s22, s23, s24] { nx := fun _ => P .non, rt := P, ex := fun x _ => E x } := by
  simp [t9__law_days_hold]
  simp [t8__law_days_hold]
  rw [show rng 1 1 899 = (iRun 1 899).map Dt.int from rng_iRun]
  refine forD_inv (fun i e => ∃ x16 x17, e = [.im .st, s1, s2, s3, s4, s5, s6, s7, s8, s9, s10, s11, s12, s13, .im (itup R), .im (.lst ((lpL R i).map Dt.int)), x16, x17, s18, s19, s20, s21, s22, s23, s24]) ⟨_, _, rfl⟩ ?_ ?_
  · rintro i d e hd ⟨x16, x17, rfl⟩ nx hnx
    have hi := lt_of_at hd
    simp [iRun_len] at hi
    have hk := iRun_get (a := 1) (n := 899) hi
    rw [List.getElem?_map, hk] at hd
    obtain rfl : Dt.int (1 + (i : Int)) = d := by simpa using hd
    have es : lpL R (i + 1) = lpL R i ++ (if isLp R (1 + (i : Int)) = true then [1 + (i : Int)] else []) := by
      unfold lpL
      rw [iRun_succ, List.filter_append]
      simp [List.filter_cons]
    have hnx' := fun x16 x17 => hnx _ ⟨x16, x17, rfl⟩
    rw [es] at hnx'
    have hll : (lpL R i).length ≤ 899 := by
      unfold lpL
      exact Nat.le_trans (List.length_filter_le _ _) (by simp [iRun_len]; omega)
    have hl := hR.o.len
    generalize hy : 1 + (i : Int) = y at *
    simp [itup]
    refine ⟨by omega, ?_⟩
    refine compD_FE Dt.int id (fun a => decide (y % a = 0)) (fun a ha Q T q => ?_) ?_
    · have r1 := hR.o.rg a ha
      unfold cStep
      simp
      rw [fd_mod r1.1]
      refine ⟨dk r1.1 (by omega), ?_, ?_⟩
      · rw [fdiv_pos r1.1]
        exact mk (Nat.lt_of_le_of_lt (Int.natAbs_ediv_le_natAbs _ _) (by omega)) (by omega)
      · simpa using q
    · rw [List.map_id]
      have ec : (((R.filter fun a => decide (y % a = 0)).map Dt.int).length : Int) = (cntR R y : Int) := by simp [cntR]
      simp only [lenD_r1, ec, itup] at hnx' ⊢
      unfold isLp at hnx'
      generalize (cntR R y : Int) = c at *
      by_cases c1 : c = 1
      · simp [c1] at hnx' ⊢
        refine ⟨by omega, ?_⟩
        exact hnx' _ _
      · by_cases c3 : c = 3
        · simp [c3] at hnx' ⊢
          refine ⟨by omega, ?_⟩
          exact hnx' _ _
        · simp [c1, c3] at hnx' ⊢
          exact hnx' _ _
  · rintro e ⟨x16, x17, rfl⟩
    have : ((iRun 1 899).map Dt.int).length = 899 := by simp [iRun_len]
    rw [this]
    exact k _ _
theorem cnt_le (hR : Ru R) {y : Int} (h0 : 0 ≤ y) (h1 : y ≤ 899) : (((lpL R 899).filter fun x => decide (x ≤ y)).length : Int) = lp R y 1 := by
  obtain ⟨n, rfl⟩ : ∃ m : Nat, y = (m : Int) := ⟨y.toNat, by omega⟩
  exact lpL_cnt hR (by omega)
theorem cnt_lt (hR : Ru R) {y : Int} (h0 : 1 ≤ y) (h1 : y ≤ 899) : (((lpL R 899).filter fun x => decide (x < y)).length : Int) = lp R (y - 1) 1 := by
  rw [← cnt_le hR (by omega) (by omega)]
  congr 2
  refine List.filter_congr fun x hx => ?_
  have : x < y ↔ x ≤ y - 1 := by omega
  simp [this]
theorem in_leaps {y : Int} (h0 : 1 ≤ y) (h1 : y ≤ 899) : (((lpL R 899).map Dt.int).any fun z => eqv z (.int y)) = isLp R y := by
  rw [Bool.eq_iff_iff, List.any_eq_true]
  constructor
  · rintro ⟨z, hz, he⟩
    obtain ⟨x, hx, rfl⟩ := List.mem_map.mp hz
    rw [eqv_int] at he
    have he := of_decide_eq_true he
    subst he
    exact (List.mem_filter.mp hx).2
  · intro h
    refine ⟨.int y, List.mem_map.mpr ⟨y, List.mem_filter.mpr ⟨mem_iRun.mpr (by omega), h⟩, rfl⟩, by simp⟩
theorem lpL_len : (lpL R 899).length ≤ 899 := by
  unfold lpL
  exact Nat.le_trans (List.length_filter_le _ _) (by simp [iRun_len])
theorem comp_le {y : Int} {env : List Sl} {Q : Dt → Prop} {j : Nat} (hj : ∀ x, sl (put env 7 (.im x)) j = .im (.int y)) (he : ∀ x, sl (put env 7 (.im x)) 7 = .im x) (h : Q (.lst (((lpL R 899).filter fun x => decide (x ≤ y)).map Dt.int))) : compD (gN 7) (bT (eOp leI (eVar 7) (eVar j))) (eVar 7) env Q ((lpL R 899).map Dt.int) [] := by
  refine compD_FE Dt.int id (fun x => decide (x ≤ y)) (fun x hx Q T q => ?_) (by rw [List.map_id]; exact h)
  unfold cStep
  simp only [gN_e, bT_e, eOp_e, eVar_e, hj, he, eV_im, leI_r1, asB_r1]
  simpa using q
theorem ee3 (hR : Ru R) (k : ∀ y, 1 ≤ y → y ≤ 890 → t4__law_days_hold [.im .st, s1, s2, s3, s4, s5, s6, s7, s8, s9, s10, s11, s12, s13, .im (itup R), .im (.lst ((lpL R 899).map Dt.int)), .im (.int y), s17, s18, s19, s20, s21, s22, s23, s24] { nx := fun _ => P .non, rt := P, ex := fun x _ => E x }) : t7__law_days_hold [.im .st, s1, s2, s3, s4, s5, s6, s7, s8, s9, s10, s11, s12, s13, .im (itup R), .im (.lst ((lpL R 899).map Dt.int)), s16, s17, s18, s19, s20, s21, s22, s23, s24] { nx := fun _ => P .non, rt := P, ex := fun x _ => E x } := by
  simp [t7__law_days_hold]
  refine tk (h := fun r r0 r1 => ?_)
  obtain ⟨y, hy⟩ : ∃ y, y = 1 + r := ⟨_, rfl⟩
  have hll := lpL_len (R := R)
  simp only [addI_r1, ← hy]
  have k := k y (by omega) (by omega)
  simp [t6__law_days_hold]
  refine c_leap_days hR.o (by omega) ?_
  refine ⟨by omega, ?_⟩
  refine comp_le (y := y) (fun x => by simp) (fun x => by simp) ?_
  have hst := hR.st y (by omega)
  simp [cnt_le hR (y := y) (by omega) (by omega)]
  refine c_is_leap hR.o (by omega) ?_
  rw [← List.any_map, in_leaps (by omega) (by omega), hst]
  have e1 : decide ((if isLp R y = true then (1 : Int) else 0) = 1) = isLp R y := by cases isLp R y <;> simp
  rw [e1]
  simp
  simp [t5__law_days_hold]
  refine c_days_to hR.o (by omega) ?_
  refine ⟨mk (by omega) (by omega), by omega, ?_⟩
  refine compD_FE Dt.int id (fun x => decide (x < y)) (fun x hx Q T q => ?_) ?_
  · unfold cStep
    simpa using q
  · rw [List.map_id]
    simp only [lenD_r1, List.length_map, cnt_lt hR (y := y) (by omega) (by omega), dT, addI_r1]
    simp
    refine c_is_rule hR ?_
    simp
    exact k
theorem dq_fr (a b : Int) : (365 : Rat) + Rat.divInt a b = 365 + Rat.divInt a b := rfl
theorem divInt_add {a b c : Int} (hb : b ≠ 0) : (c : Rat) + Rat.divInt a b = Rat.divInt (c * b + a) b := by
  have : (b : Rat) ≠ 0 := fun z => hb (Rat.intCast_inj.mp z)
  rw [Rat.divInt_eq_div, Rat.divInt_eq_div, Rat.intCast_add, Rat.intCast_mul]
  grind
theorem ee4 (hR : Ru R) (hw : whl R ≤ 400) {y : Int} (y1 : 1 ≤ y) (y2 : y ≤ 890) (k : P (.bl true)) : t4__law_days_hold [.im .st, s1, s2, s3, s4, s5, s6, s7, s8, s9, s10, s11, s12, s13, .im (itup R), .im (.lst ((lpL R 899).map Dt.int)), .im (.int y), s17, s18, s19, s20, s21, s22, s23, s24] { nx := fun _ => P .non, rt := P, ex := fun x _ => E x } := by
  have hll := lpL_len (R := R)
  have w0 := whl_bd hR.o
  have last : ∀ ins : Int, 0 ≤ ins → (ins ≤ 364 ∨ (ins = 365 ∧ isLp R y = true)) → t3__law_days_hold [.im .st, s1, s2, s3, s4, s5, s6, s7, s8, s9, s10, s11, s12, s13, .im (itup R), .im (.lst ((lpL R 899).map Dt.int)), .im (.int y), s17, .im (.int ins), s19, s20, s21, s22, s23, s24] { nx := fun _ => P .non, rt := P, ex := fun x _ => E x } := fun ins i0 i1 => by
    have t2 : t2__law_days_hold [.im .st, s1, s2, s3, s4, s5, s6, s7, s8, s9, s10, s11, s12, s13, .im (itup R), .im (.lst ((lpL R 899).map Dt.int)), .im (.int y), s17, .im (.int ins), .im (.int (whl R)), s20, s21, s22, s23, s24] { nx := fun _ => P .non, rt := P, ex := fun x _ => E x } := by
      simp [t2__law_days_hold]
      refine ⟨by omega, ?_⟩
      refine comp_le (y := whl R) (fun x => by simp) (fun x => by simp) ?_
      have hc := cnt_le hR (y := whl R) (by omega) (by omega)
      simp [hc]
      obtain ⟨n, hn⟩ : ∃ n : Nat, whl R = (n : Int) := ⟨(whl R).toNat, by omega⟩
      have hb := lp_bd1 hR n
      rw [← hn] at hb
      refine c_fr (n := 10) w0.1 (by omega) (by omega) (by decide) fun q eq zq => ?_
      have e365 : Dt.tup [.int 365, .int 1] = dq ((365 : Int) : Rat) := dqI' 365
      have z365 : Sz 9 ((365 : Int) : Rat) := ⟨by decide, by decide⟩
      rw [e365]
      refine c__law_add ?_
      rw [eq, divInt_add (by omega)]
      simp [t1__law_days_hold]
      have hst := hR.st y y1
      obtain ⟨m, hm⟩ : ∃ m : Nat, y - 1 = (m : Int) := ⟨(y - 1).toNat, by omega⟩
      have hb2 := lp_bd1 hR m
      rw [← hm] at hb2
      refine c_days_to hR.o (by omega) ?_
      have e2 : dT R (y + 1) = 365 * y + lp R y 1 := by unfold dT; rw [show y + 1 - 1 = y by omega]
      have e1 : dT R y = 365 * (y - 1) + lp R (y - 1) 1 := rfl
      simp
      refine c_year_of (y := y) hR.o (by omega) (by omega) (dT_mono hR) (by omega) ?_ ?_
      · rw [e2]
        rcases i1 with i1 | ⟨i1, i2⟩
        · split at hst <;> omega
        · rw [if_pos i2] at hst; omega
      · have e3 : dT R y + ins - dT R y = ins := by omega
        rw [e3]
        simp [okD_two, eqv_two]
        refine c_mean_year hR.o ?_
        simp
        exact k
    by_cases hn : R = []
    · subst hn
      simp [whl, itup] at t2
      have ok0 : okD (.tup []) := okD_itup []
      have ev : eqv (.tup []) (.tup []) = true := by rw [eqv_tup]; exact eqvA_n
      simp [t3__law_days_hold, itup, ok0, ev]
      exact t2
    · have ok0 : okD (.tup []) := okD_itup []
      have ev : eqv (itup R) (.tup []) = false := by
        have := eqv_itup R []
        rw [decide_eq_false hn] at this
        exact this
      simp [t3__law_days_hold, ok0, ev]
      obtain ⟨a, e⟩ : ∃ a, R.getLast? = some a := ⟨_, List.getLast?_eq_some_getLast hn⟩
      have ew : whl R = a := by simp [whl, e]
      rw [ew] at t2
      unfold itup at t2 ⊢
      exact ⟨.int a, by rw [atI_last, List.getLast?_map, e]; rfl, t2⟩
  have hin := in_leaps (R := R) (y := y) (by omega) (by omega)
  simp [t4__law_days_hold]
  have dr : sp__law_take [Dt.st, Dt.int 365] (fun d => t3__law_days_hold [.im .st, s1, s2, s3, s4, s5, s6, s7, s8, s9, s10, s11, s12, s13, .im (itup R), .im (.lst ((lpL R 899).map Dt.int)), .im (.int y), s17, .im d, s19, s20, s21, s22, s23, s24] { nx := fun _ => P .non, rt := P, ex := fun x _ => E x }) (fun x => E x) :=
    tk (h := fun v v0 v1 => last v v0 (.inl (by omega)))
  by_cases hm : y ∈ lpL R 899
  · have hl : isLp R y = true := (List.mem_filter.mp hm).2
    simp [hm]
    refine tk (h := fun u u0 u1 => ?_)
    by_cases hu : u = 0
    · simp [hu]
      exact last 365 (by omega) (.inr ⟨rfl, hl⟩)
    · simp [hu]
      exact dr
  · simp [hm]
    exact dr
theorem c__law_days_hold (k : P (.bl true)) : sp__law_days_hold [.st] P E := by
  refine ⟨rfl, ?_⟩
  simp only [init_c, init_n, List.replicate]
  refine dd1 fun W G hW hG => ?_
  refine dd2 hW ?_
  refine dd3 hW fun x5 => ?_
  refine dd4 hW hG fun x6 x7 => ?_
  refine dd5 fun x8 x9 x10 x11 => ?_
  refine dd6 fun x12 x13 => ?_
  refine ee1 fun R hR hw => ?_
  refine ee2 hR fun x16 x17 => ?_
  refine ee3 hR fun y y1 y2 => ?_
  exact ee4 hR hw y1 y2 k
end
end KK

set_option maxRecDepth 100000
set_option maxHeartbeats 1000000
namespace KK
open PySem L2 DL FQ CM
section
variable {P : Dt → Prop} {E : Xc → Prop}
instance sz_400 : Sz 9 (400 : Rat) := ⟨by decide, by decide⟩
instance sz_401 : Sz 9 (401 : Rat) := ⟨by decide, by decide⟩
instance sz_500 : Sz 9 (500 : Rat) := ⟨by decide, by decide⟩
theorem up16 {q : Rat} {n : Nat} (h : Sz n q) (hn : n ≤ 16 := by decide) : Sz 16 q := h.up hn
theorem c_many {s1 v1 s2 v2 : Rat} {n : Nat} (z1 : Sz 16 v1) (z2 : Sz 16 v2) (e1 : s1 = 0) (e2 : s2 = 0) (hn : 0 < n) (hb : n ≤ 10000) (hv : v1 - v2 = ((n : Int) : Rat) ∨ v1 - v2 = -((n : Int) : Rat)) (h1 : n ≤ 400 → ∀ L : List Rat, L.length = n → P (.lst (L.map dq))) (h2 : 400 < n → E (mst "many")) : sp_meetings [dh s1 v1, dh s2 v2, dq 0, dq 1] P E := by
  subst e1 e2
  have hM := isMeet_frac (n := n) hn (v := v1 - v2) (s := 0 - 0) hv (by grind)
  have y0 : Sz 16 (0 : Rat) := up16 sz_0
  have y1 : Sz 16 (1 : Rat) := up16 sz_1
  have hN : (1 : Rat) ≤ ((n : Int) : Rat) := by
    have := Rat.intCast_le_intCast.mpr (show (1 : Int) ≤ (n : Int) by omega)
    simpa using this
  have hN2 : ((n : Int) : Rat) ≤ 10000 := by
    have := Rat.intCast_le_intCast.mpr (show (n : Int) ≤ 10000 by omega)
    simpa using this
  refine c_meetings (by grind) (by constructor <;> grind) (by constructor <;> grind) fun L hL => ?_
  rw [hL.uniq hM]
  refine ⟨fun h => h1 (by simpa using h) _ (by simp), fun h => h2 (by simpa using h)⟩
theorem tq (a b : Int) (hb : 0 < b) (h : Int.gcd a b = 1) : Dt.tup [.int a, .int b] = dq (Rat.divInt a b) := by
  rw [dq_pos hb, h]; simp
theorem c_word0 (h : P (.str (PySem.Str.ofString "alike"))) : sp__law_word [.int 0] P E := by
  refine ⟨rfl, ?_⟩
  simp only [init_c, init_n, List.replicate]
  simp [m__law_word, dq0', dq1']
  have : Sz 16 (1 : Rat) := up16 sz_1
  refine c_meet_alike ?_
  simpa using h
theorem c_word1 (h : P (.str (PySem.Str.ofString "many"))) : sp__law_word [.int 1] P E := by
  refine ⟨rfl, ?_⟩
  simp only [init_c, init_n, List.replicate]
  simp [m__law_word, dq0', dq1', dqI']
  refine c_many (n := 499) (up16 sz_1) (up16 sz_500) rfl rfl (by omega) (by omega) (.inr ?_) (fun z => by omega) fun _ => ?_
  · show (1 : Rat) - 500 = -499
    grind
  · simpa using h
theorem c_word2 (h : P (.str (PySem.Str.ofString "alike"))) : sp__law_word [.int 2] P E := by
  refine ⟨rfl, ?_⟩
  simp only [init_c, init_n, List.replicate]
  simp [m__law_word, dq0', dq1']
  have : Sz 16 (1 : Rat) := up16 sz_1
  refine c_every_x ?_
  simpa using h
theorem c_word3 (h : P (.str (PySem.Str.ofString "few"))) : sp__law_word [.int 3] P E := by
  refine ⟨rfl, ?_⟩
  simp only [init_c, init_n, List.replicate]
  simp [m__law_word]
  refine ⟨rfl, ?_⟩
  simp only [init_c, init_n, List.replicate]
  simp [m_all_meet]
  exact ⟨by decide, h⟩
theorem c_word4 (h : P (.str (PySem.Str.ofString "still"))) : sp__law_word [.int 4] P E := by
  refine ⟨rfl, ?_⟩
  simp only [init_c, init_n, List.replicate]
  simp [m__law_word]
  refine ⟨rfl, ?_⟩
  simp only [init_c, init_n, List.replicate]
  have r1 : rng 0 1 1 = [.int 0] := rfl
  simp [m_told_time, r1, compD]
  exact ⟨by decide, h⟩
theorem c_word5 (h : P (.str (PySem.Str.ofString "hands"))) : sp__law_word [.int 5] P E := by
  refine ⟨rfl, ?_⟩
  simp only [init_c, init_n, List.replicate]
  have e : Dt.tup [.int 1, .int 2] = dq (1 / 2) := by rw [tq 1 2 (by decide) (by decide), Rat.divInt_eq_div]; rfl
  simp [m__law_word, dq0', dq1', dqI', e]
  refine c_swapped_x ?_
  simpa using h
theorem c_word6 (h : P (.str (PySem.Str.ofString "goal"))) : sp__law_word [.int 6] P E := by
  refine ⟨rfl, ?_⟩
  simp only [init_c, init_n, List.replicate]
  simp [m__law_word]
  refine ⟨rfl, ?_⟩
  simp only [init_c, init_n, List.replicate]
  simp [m_first_day]
  refine ⟨rfl, ?_⟩
  simp only [init_c, init_n, List.replicate]
  simp [m_check_goal]
  exact ⟨by decide, h⟩
theorem c_word7 (h : P (.str (PySem.Str.ofString "days"))) : sp__law_word [.int 7] P E := by
  refine ⟨rfl, ?_⟩
  simp only [init_c, init_n, List.replicate]
  simp [m__law_word]
  refine ⟨rfl, ?_⟩
  simp only [init_c, init_n, List.replicate]
  simp [m_days_at, c_MOST_DAYS]
  exact ⟨by decide, h⟩
theorem c_word8 (h : P (.str (PySem.Str.ofString "year"))) : sp__law_word [.int 8] P E := by
  refine ⟨rfl, ?_⟩
  simp only [init_c, init_n, List.replicate]
  simp [m__law_word]
  refine ⟨rfl, ?_⟩
  simp only [init_c, init_n, List.replicate]
  simp [m_days_to]
  exact ⟨by decide, h⟩
theorem c_word9 (h : P (.str (PySem.Str.ofString "day"))) : sp__law_word [.int 9] P E := by
  refine ⟨rfl, ?_⟩
  simp only [init_c, init_n, List.replicate]
  simp [m__law_word]
  refine ⟨rfl, ?_⟩
  simp only [init_c, init_n, List.replicate]
  simp [m_year_of]
  exact ⟨by decide, h⟩
end
end KK

set_option maxRecDepth 100000
set_option maxHeartbeats 1000000
namespace KK
open PySem L2 DL FQ CM
section
variable {P : Dt → Prop} {E : Xc → Prop}
theorem rng10 : rng 0 1 10 = [.int 0, .int 1, .int 2, .int 3, .int 4, .int 5, .int 6, .int 7, .int 8, .int 9] := rfl
theorem okD_strs (l : List String) : okD (.lst (l.map fun s => .str (PySem.Str.ofString s))) := (show plB 1 (.lst _) from fun x hx => by
  obtain ⟨s, _, rfl⟩ := List.mem_map.mp hx
  exact strOk_of s).ok
theorem w50 : Who [(50000, 0)] := ⟨by decide, by decide⟩
theorem g50 : Gok [(50000, 0)] [0] := ⟨rfl, fun i w g h1 h2 => by
  match i with
  | 0 => simp at h1 h2; subst h1 h2; decide
  | i + 1 => simp at h1⟩
theorem days50 {x : Int} : (0 ≤ x ∧ x ≤ 99999 ∧ rowI [(50000, 0)] x = [0]) ↔ x ∈ [(0 : Int), 50000] := by
  have e : rowI [(50000, 0)] x = [0] ↔ x % 50000 = 0 := by simp [rowI]
  rw [e]
  simp
  omega
theorem c_rule_f {a : Dt} (h : P (.bl false)) (ha : a ∈ [Dt.tup [.int 4, .int 6], .tup [.int 4, .int 4], .tup [.int 0], .lst [.int 4], .tup [.bl true], .non]) : sp_is_rule [a] P E := by
  refine ⟨rfl, ?_⟩
  simp only [init_c, init_n, List.replicate]
  have r1 : rng 0 1 1 = [.int 0] := rfl
  simp at ha
  rcases ha with rfl | rfl | rfl | rfl | rfl | rfl
  · simp [m_is_rule, compD]
    refine ⟨[true, true], rfl, ?_⟩
    simp [r1, forD]
    exact ⟨(dk (by decide) (by decide)).2, mulOk (m := 5) (n := 5) (by decide) (by decide), h⟩
  · simp [m_is_rule, compD]
    refine ⟨[true, true], rfl, ?_⟩
    simp [r1, forD]
    exact h
  · simp [m_is_rule, compD]
    refine ⟨[false], rfl, ?_⟩
    simp
    exact h
  · simp [m_is_rule]
    exact h
  · simp [m_is_rule, compD]
    refine ⟨[false], rfl, ?_⟩
    simp
    exact h
  · simp [m_is_rule]
    exact h
theorem c_wh_t {a : Dt} (h : P (.bl true)) (ha : a ∈ [Dt.tup [], .tup [.tup [.int 3, .int 2]]]) : sp_are_wheels [a] P E := by
  simp at ha
  rcases ha with rfl | rfl
  · exact c_are_wheels (W := []) (by simp) h
  · exact c_are_wheels (W := [(3, 2)]) (by simp) h
theorem c_wh_f {a : Dt} (h : P (.bl false)) (ha : a ∈ [Dt.tup [.tup [.int 3, .int 3]], .tup [.tup [.int 0, .int 0]], .tup [.tup [.int 3]], .lst [.tup [.int 3, .int 1]], .tup [.tup [.int 3, .bl true]], .non]) : sp_are_wheels [a] P E := by
  refine ⟨rfl, ?_⟩
  simp only [init_c, init_n, List.replicate]
  simp at ha
  rcases ha with rfl | rfl | rfl | rfl | rfl | rfl
  · simp [m_are_wheels, forD, compD]
    exact ⟨⟨[true, true], rfl⟩, h⟩
  · simp [m_are_wheels, forD, compD]
    exact ⟨⟨[true, true], rfl⟩, h⟩
  · simp [m_are_wheels, forD]
    exact h
  · simp [m_are_wheels]
    exact h
  · simp [m_are_wheels, forD, compD]
    refine ⟨[true, false], rfl, ?_⟩
    simp
    exact h
  · simp [m_are_wheels]
    exact h
def Shp (e : List Sl) : Prop := ∃ s0 s2 s3 s4 s5 s6 s7 s8, e = [s0, .im .st, s2, s3, s4, s5, s6, s7, s8]
theorem rng_2 : rng 0 1 2 = [.int 0, .int 1] := rfl
theorem days_x {x4 : Dt} (h : E (mst "days")) : sp_days_at [.tup [.tup [.int 50000, .int 0]], .tup [.int 0], .int 0, .int 100000] P E := by
  refine ⟨rfl, ?_⟩
  simp only [init_c, init_n, List.replicate]
  simp [m_days_at, c_MOST_DAYS]
  exact ⟨by decide, h⟩
theorem ee9 {s0 s2 s3 s4 s5 s6 s7 s8 : Sl} : t3_law [s0, .im .st, s2, s3, s4, s5, s6, s7, s8] { nx := fun _ => False, rt := fun d => d = .bl true } := by
  have ok := okD_strs ["alike", "many", "alike", "few", "still", "hands", "goal", "days", "year", "day"]
  simp at ok
  simp [t3_law, rng10, compD]
  refine c_word0 ?_
  refine c_word1 ?_
  refine c_word2 ?_
  refine c_word3 ?_
  refine c_word4 ?_
  refine c_word5 ?_
  refine c_word6 ?_
  refine c_word7 ?_
  refine c_word8 ?_
  refine c_word9 ?_
  simp [eqv_lst, eqvA_c, eqvA_n]
  refine ⟨ok, ?_⟩
  simp [t2_law, compD]
  refine c_rule_f ?_ (by simp)
  refine c_rule_f ?_ (by simp)
  refine c_rule_f ?_ (by simp)
  refine c_rule_f ?_ (by simp)
  refine c_rule_f ?_ (by simp)
  refine c_rule_f ?_ (by simp)
  have okb : ∀ l : List Bool, okD (.lst (l.map Dt.bl)) := fun l => (show plB 1 (.lst _) from fun x hx => by
    obtain ⟨s, _, rfl⟩ := List.mem_map.mp hx
    trivial).ok
  have ok6 := okb [false, false, false, false, false, false]
  have ok8 := okb [true, true, false, false, false, false, false, false]
  simp only [List.map_cons, List.map_nil] at ok6 ok8
  have r6 : (List.replicate 6 [Dt.bl false]).flatten = [.bl false, .bl false, .bl false, .bl false, .bl false, .bl false] := rfl
  simp [r6, ok6, eqv_lst, eqvA_c, eqvA_n]
  simp [t1_law, compD]
  refine c_wh_t ?_ (by simp)
  refine c_wh_t ?_ (by simp)
  refine c_wh_f ?_ (by simp)
  refine c_wh_f ?_ (by simp)
  refine c_wh_f ?_ (by simp)
  refine c_wh_f ?_ (by simp)
  refine c_wh_f ?_ (by simp)
  refine c_wh_f ?_ (by simp)
  simp [ok8, eqv_lst, eqvA_c, eqvA_n]
theorem ee10 {s0 s2 s3 s4 s5 s6 s7 s8 : Sl} : t7_law [s0, .im .st, s2, s3, s4, s5, s6, s7, s8] { nx := fun _ => False, rt := fun d => d = .bl true } := by
  simp [t7_law]
  refine c_days_at (W := [(50000, 0)]) (G := [0]) w50 (by simp) g50 (by decide) (by decide) (by decide) (by decide) fun L hL mL => ?_
  have eL : L = [0, 50000] := asc_extI hL (by decide) fun x => (mL x).trans days50
  subst eL
  have e1 := eqv_ilst [0, 50000] [0, 50000]
  have e2 := okD_ilst [0, 50000]
  simp at e1 e2
  simp [e1, e2, dq0', dq1', dqI']
  refine c_many (n := 400) (up16 sz_400) (up16 sz_0) rfl rfl (by omega) (by omega) (.inl ?_) (fun _ L hl => ?_) fun z => by omega
  · show (400 : Rat) - 0 = 400
    grind
  · simp [hl]
    simp [t6_law]
    simp [t5_law, rng_2, forD]
    refine days_x (x4 := .non) ?_
    simp [dq0', dq1', dqI']
    refine c_many (n := 401) (up16 sz_401) (up16 sz_0) rfl rfl (by omega) (by omega) (.inl ?_) (fun z => by omega) fun _ => ?_
    · show (401 : Rat) - 0 = 401
      grind
    · simp
      have ok := okD_strs ["days", "many"]
      simp at ok
      simp [t4_law, eqv_lst, eqvA_c, eqvA_n, ok]
      exact ee9
theorem holds : m_law (env0 N_law.length i_law) { nx := fun _ => False, rt := fun d => d = .bl true } := by
  have e0 : env0 N_law.length i_law = [.no, .im .st, .no, .no, .no, .no, .no, .no, .no] := rfl
  rw [e0]
  simp only [m_law, sSeq_e, sFor_e, iRange1_e, aCons_e, aNil_e, eC_e, g1_e]
  refine ⟨by decide, ?_⟩
  refine forD_inv (fun _ e => Shp e) ⟨_, _, _, _, _, _, _, _, rfl⟩ ?_ ?_
  · rintro i d e - ⟨s0, s2, s3, s4, s5, s6, s7, s8, rfl⟩ nx hnx
    simp
    refine c__law_hands_hold ?_
    simp
    refine c__law_days_hold ?_
    simp
    exact hnx _ ⟨_, _, _, _, _, _, _, _, rfl⟩
  · rintro e ⟨s0, s2, s3, s4, s5, s6, s7, s8, rfl⟩
    exact ee10
end
end KK

open PySem PySem.W PyProof.Rows
set_option maxRecDepth 100000 in
set_option maxHeartbeats 0 in
theorem PySem.Challenge.cw_cogwright_k14_whole_hands_and_days_holds : PySem.Challenge.rw_cogwright_k14_whole_hands_and_days.Holds := by
  w_on; o_law; k_head; (case hw => w_witness2)
  k_fill
  refine L2.walk_of (l := PySem.Challenge.rw_cogwright_k14_whole_hands_and_days) (n := 63) (k := KK.lv_law) (x := "script") (CX := fun w => L2.CX PySem.Challenge.pw_cogwright_k14_whole_hands_and_days w) (sp := fun w => DL.spLaw _) rfl (by decide) rfl ⟨rfl, by decide, by decide⟩ (fun w h Y => PySem.W.kIn_of Y) ?F (fun _ _ a ns hl _ hS => ⟨a, ns, rfl, hS, hl, fun _ => rfl⟩) (fun _ _ _ _ _ z => DL.no_cx z)
  case F =>
    intro w mg fa h KX G hmg
    refine' KK.all_mk KX G hmg ⟨?d_divisor, ?d_part, ?d_plus, ?d_minus, ?d_times, ?d_over, ?d_is_less, ?d_whole_below, ?d_rest, ?d_stands, ?d_gap, ?d_meetings, ?d_every, ?d_round_of, ?d_common_below, ?d_all_meet, ?d_told_time, ?d_swapped, ?d_speeds_of, ?d_later, ?d_between, ?d_are_wheels, ?d_period, ?d_stand, ?d_joined, ?d_inverse, ?d_check_goal, ?d_first_day, ?d_why_never, ?d_days_at, ?d_leap_days, ?d_is_leap, ?d_is_rule, ?d_days_to, ?d_year_of, ?d_mean_year, ?d__law_state, ?d__law_take, ?d__law_fr, ?d__law_add, ?d__law_mul, ?d__law_sub, ?d__law_less, ?d__law_over, ?d__law_rest, ?d__law_at, ?d__law_meet, ?d__law_hand, ?d__law_word, ?d__law_hands_hold, ?d__law_days_hold, ?d_law, ?c_NOUGHT, ?c_ONE, ?c_MOST_DAYS, ?b_abs, ?b_all, ?b_any, ?b_bool, ?b_int, ?b_isinstance, ?b_len, ?b_list, ?b_range, ?b_set, ?b_tuple, ?mis⟩ KK.holds
    (case d_divisor => refine' DL.Dfn.of KX G ?a ?l ?c ?k; (case a => k_is); (case l => k_is); (case c => k_is); (case k => k_is))
    (case d_part => refine' DL.Dfn.of KX G ?a ?l ?c ?k; (case a => k_is); (case l => k_is); (case c => k_is); (case k => k_is))
    (case d_plus => refine' DL.Dfn.of KX G ?a ?l ?c ?k; (case a => k_is); (case l => k_is); (case c => k_is); (case k => k_is))
    (case d_minus => refine' DL.Dfn.of KX G ?a ?l ?c ?k; (case a => k_is); (case l => k_is); (case c => k_is); (case k => k_is))
    (case d_times => refine' DL.Dfn.of KX G ?a ?l ?c ?k; (case a => k_is); (case l => k_is); (case c => k_is); (case k => k_is))
    (case d_over => refine' DL.Dfn.of KX G ?a ?l ?c ?k; (case a => k_is); (case l => k_is); (case c => k_is); (case k => k_is))
    (case d_is_less => refine' DL.Dfn.of KX G ?a ?l ?c ?k; (case a => k_is); (case l => k_is); (case c => k_is); (case k => k_is))
    (case d_whole_below => refine' DL.Dfn.of KX G ?a ?l ?c ?k; (case a => k_is); (case l => k_is); (case c => k_is); (case k => k_is))
    (case d_rest => refine' DL.Dfn.of KX G ?a ?l ?c ?k; (case a => k_is); (case l => k_is); (case c => k_is); (case k => k_is))
    (case d_stands => refine' DL.Dfn.of KX G ?a ?l ?c ?k; (case a => k_is); (case l => k_is); (case c => k_is); (case k => k_is))
    (case d_gap => refine' DL.Dfn.of KX G ?a ?l ?c ?k; (case a => k_is); (case l => k_is); (case c => k_is); (case k => k_is))
    (case d_meetings => refine' DL.Dfn.of KX G ?a ?l ?c ?k; (case a => k_is); (case l => k_is); (case c => k_is); (case k => k_is))
    (case d_every => refine' DL.Dfn.of KX G ?a ?l ?c ?k; (case a => k_is); (case l => k_is); (case c => k_is); (case k => k_is))
    (case d_round_of => refine' DL.Dfn.of KX G ?a ?l ?c ?k; (case a => k_is); (case l => k_is); (case c => k_is); (case k => k_is))
    (case d_common_below => refine' DL.Dfn.of KX G ?a ?l ?c ?k; (case a => k_is); (case l => k_is); (case c => k_is); (case k => k_is))
    (case d_all_meet => refine' DL.Dfn.of KX G ?a ?l ?c ?k; (case a => k_is); (case l => k_is); (case c => k_is); (case k => k_is))
    (case d_told_time => refine' DL.Dfn.of KX G ?a ?l ?c ?k; (case a => k_is); (case l => k_is); (case c => k_is); (case k => k_is))
    (case d_swapped => refine' DL.Dfn.of KX G ?a ?l ?c ?k; (case a => k_is); (case l => k_is); (case c => k_is); (case k => k_is))
    (case d_speeds_of => refine' DL.Dfn.of KX G ?a ?l ?c ?k; (case a => k_is); (case l => k_is); (case c => k_is); (case k => k_is))
    (case d_later => refine' DL.Dfn.of KX G ?a ?l ?c ?k; (case a => k_is); (case l => k_is); (case c => k_is); (case k => k_is))
    (case d_between => refine' DL.Dfn.of KX G ?a ?l ?c ?k; (case a => k_is); (case l => k_is); (case c => k_is); (case k => k_is))
    (case d_are_wheels => refine' DL.Dfn.of KX G ?a ?l ?c ?k; (case a => k_is); (case l => k_is); (case c => k_is); (case k => k_is))
    (case d_period => refine' DL.Dfn.of KX G ?a ?l ?c ?k; (case a => k_is); (case l => k_is); (case c => k_is); (case k => k_is))
    (case d_stand => refine' DL.Dfn.of KX G ?a ?l ?c ?k; (case a => k_is); (case l => k_is); (case c => k_is); (case k => k_is))
    (case d_joined => refine' DL.Dfn.of KX G ?a ?l ?c ?k; (case a => k_is); (case l => k_is); (case c => k_is); (case k => k_is))
    (case d_inverse => refine' DL.Dfn.of KX G ?a ?l ?c ?k; (case a => k_is); (case l => k_is); (case c => k_is); (case k => k_is))
    (case d_check_goal => refine' DL.Dfn.of KX G ?a ?l ?c ?k; (case a => k_is); (case l => k_is); (case c => k_is); (case k => k_is))
    (case d_first_day => refine' DL.Dfn.of KX G ?a ?l ?c ?k; (case a => k_is); (case l => k_is); (case c => k_is); (case k => k_is))
    (case d_why_never => refine' DL.Dfn.of KX G ?a ?l ?c ?k; (case a => k_is); (case l => k_is); (case c => k_is); (case k => k_is))
    (case d_days_at => refine' DL.Dfn.of KX G ?a ?l ?c ?k; (case a => k_is); (case l => k_is); (case c => k_is); (case k => k_is))
    (case d_leap_days => refine' DL.Dfn.of KX G ?a ?l ?c ?k; (case a => k_is); (case l => k_is); (case c => k_is); (case k => k_is))
    (case d_is_leap => refine' DL.Dfn.of KX G ?a ?l ?c ?k; (case a => k_is); (case l => k_is); (case c => k_is); (case k => k_is))
    (case d_is_rule => refine' DL.Dfn.of KX G ?a ?l ?c ?k; (case a => k_is); (case l => k_is); (case c => k_is); (case k => k_is))
    (case d_days_to => refine' DL.Dfn.of KX G ?a ?l ?c ?k; (case a => k_is); (case l => k_is); (case c => k_is); (case k => k_is))
    (case d_year_of => refine' DL.Dfn.of KX G ?a ?l ?c ?k; (case a => k_is); (case l => k_is); (case c => k_is); (case k => k_is))
    (case d_mean_year => refine' DL.Dfn.of KX G ?a ?l ?c ?k; (case a => k_is); (case l => k_is); (case c => k_is); (case k => k_is))
    (case d__law_state => refine' DL.Dfn.of KX G ?a ?l ?c ?k; (case a => k_is); (case l => k_is); (case c => k_is); (case k => k_is))
    (case d__law_take => refine' DL.Dfn.of KX G ?a ?l ?c ?k; (case a => k_is); (case l => k_is); (case c => k_is); (case k => k_is))
    (case d__law_fr => refine' DL.Dfn.of KX G ?a ?l ?c ?k; (case a => k_is); (case l => k_is); (case c => k_is); (case k => k_is))
    (case d__law_add => refine' DL.Dfn.of KX G ?a ?l ?c ?k; (case a => k_is); (case l => k_is); (case c => k_is); (case k => k_is))
    (case d__law_mul => refine' DL.Dfn.of KX G ?a ?l ?c ?k; (case a => k_is); (case l => k_is); (case c => k_is); (case k => k_is))
    (case d__law_sub => refine' DL.Dfn.of KX G ?a ?l ?c ?k; (case a => k_is); (case l => k_is); (case c => k_is); (case k => k_is))
    (case d__law_less => refine' DL.Dfn.of KX G ?a ?l ?c ?k; (case a => k_is); (case l => k_is); (case c => k_is); (case k => k_is))
    (case d__law_over => refine' DL.Dfn.of KX G ?a ?l ?c ?k; (case a => k_is); (case l => k_is); (case c => k_is); (case k => k_is))
    (case d__law_rest => refine' DL.Dfn.of KX G ?a ?l ?c ?k; (case a => k_is); (case l => k_is); (case c => k_is); (case k => k_is))
    (case d__law_at => refine' DL.Dfn.of KX G ?a ?l ?c ?k; (case a => k_is); (case l => k_is); (case c => k_is); (case k => k_is))
    (case d__law_meet => refine' DL.Dfn.of KX G ?a ?l ?c ?k; (case a => k_is); (case l => k_is); (case c => k_is); (case k => k_is))
    (case d__law_hand => refine' DL.Dfn.of KX G ?a ?l ?c ?k; (case a => k_is); (case l => k_is); (case c => k_is); (case k => k_is))
    (case d__law_word => refine' DL.Dfn.of KX G ?a ?l ?c ?k; (case a => k_is); (case l => k_is); (case c => k_is); (case k => k_is))
    (case d__law_hands_hold => refine' DL.Dfn.of KX G ?a ?l ?c ?k; (case a => k_is); (case l => k_is); (case c => k_is); (case k => k_is))
    (case d__law_days_hold => refine' DL.Dfn.of KX G ?a ?l ?c ?k; (case a => k_is); (case l => k_is); (case c => k_is); (case k => k_is))
    (case d_law => refine' DL.Dfn.of KX G ?a ?l ?c ?k; (case a => k_is); (case l => k_is); (case c => k_is); (case k => k_is))
    (case c_NOUGHT => refine' DL.Cst.ints KX G [0, 1] ?e ?l ?z ?v; (case e => k_is); (case l => k_is); (case z => decide); (case v => exact .cons ⟨_, rfl⟩ (.cons ⟨_, rfl⟩ (.nil))))
    (case c_ONE => refine' DL.Cst.ints KX G [1, 1] ?e ?l ?z ?v; (case e => k_is); (case l => k_is); (case z => decide); (case v => exact .cons ⟨_, rfl⟩ (.cons ⟨_, rfl⟩ (.nil))))
    (case c_MOST_DAYS => refine' DL.Cst.int1 KX G 100000 ?e; (case e => k_is))
    (case b_abs => refine' PySem.W.mg_none_of KX G ?a; (case a => k_is))
    (case b_all => refine' PySem.W.mg_none_of KX G ?a; (case a => k_is))
    (case b_any => refine' PySem.W.mg_none_of KX G ?a; (case a => k_is))
    (case b_bool => refine' PySem.W.mg_none_of KX G ?a; (case a => k_is))
    (case b_int => refine' PySem.W.mg_none_of KX G ?a; (case a => k_is))
    (case b_isinstance => refine' PySem.W.mg_none_of KX G ?a; (case a => k_is))
    (case b_len => refine' PySem.W.mg_none_of KX G ?a; (case a => k_is))
    (case b_list => refine' PySem.W.mg_none_of KX G ?a; (case a => k_is))
    (case b_range => refine' PySem.W.mg_none_of KX G ?a; (case a => k_is))
    (case b_set => refine' PySem.W.mg_none_of KX G ?a; (case a => k_is))
    (case b_tuple => refine' PySem.W.mg_none_of KX G ?a; (case a => k_is))
    (case mis => refine' DL.Mis.of KX G ?g ?cls ?rv ?sa ?exC ?tyC ?kC ?ini ?tyI ?lf ?code ?lc ?v2 ?hf ?cell ?clsI ?sub ?sup ?ve ?opq ?wd ?bsu ?top ?ga ?gg ?hdC ?icl ?sC; (case g => k_is); (case cls => k_is); (case rv => decide +kernel); (case sa => k_is); (case exC => k_is); (case tyC => k_is); (case kC => k_is); (case ini => k_is); (case tyI => k_is); (case lf => k_is); (case code => k_is); (case lc => k_is); (case v2 => rfl); (case hf => first | rfl | decide +kernel); (case cell => k_is); (case clsI => k_is); (case sub => k_is); (case sup => ks_is); (case ve => k_is); (case opq => k_is); (case wd => k_is); (case bsu => k_is); (case top => first | rfl | decide +kernel); (case ga => k_is); (case gg => k_is); (case hdC => k_is); (case icl => k_is); (case sC => first | rfl | k_is))


