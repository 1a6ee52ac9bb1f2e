import PyProof.Rows.All
import Wide.All
import OpenK.AllK
import Wide.FinOn
import HandS.ForMost
import HandS.Exc
import HandS.CallSlots
import HandS.TryOnly
import HandS.Deep
import HandS.IsInst
import HandS.Style
import HandS.Conv
import HandS.TupAny
import HandS.Wide
import HandS.WordsExc
import HandS.ExcOwn
import KE.IntBitsLaws
import HandS.Evl
import PySem.Challenge.RW_cogwright_k01_whole_parts_and_equations
set_option Elab.async false
set_option linter.all false
set_option maxRecDepth 100000
/-! DL1: plain data, how it lies in the abstract heap, environments of slots. -/
namespace DL
open PySem L2
theorem same_seqT {K : PySem.W.Frag} {H H' : Hp} {a : Addr} {xs : List V} (e : Same H H') (h : SqT K H a xs) : SqT K H' a xs := by
  rcases h with (h | ⟨o, h⟩) | h
  · exact .inl (.inl (e _ _ h))
  · exact .inl (.inr ⟨o, e _ _ h⟩)
  · exact .inr h

abbrev Fr := PySem.W.Frag

/-- plain data -/
inductive Dt where
  | non
  | bl (b : Bool)
  | int (i : Int)
  | str (x : Str)
  | lst (xs : List Dt)
  | tup (xs : List Dt)
  | dic (ks : List Key) (xs : List Dt)
  | dit (ks : List (List Key)) (xs : List Dt)
  | st

/-- the address of the one object that draws, and of its cells -/
abbrev Dr := Option (Addr × Addr)

mutual
inductive Rp (K : Fr) (dr : Dr) (H : Hp) : V → Dt → Prop
  | non : Rp K dr H .non .non
  | bl (b : Bool) : Rp K dr H (.bl b) (.bl b)
  | int (i : Int) : Rp K dr H (.int i) (.int i)
  | str (x : Str) : Rp K dr H (.str x) (.str x)
  | lst {a : Addr} {vs : List V} {ds : List Dt} : H a = some (.lst vs) → RpL K dr H vs ds → Rp K dr H (.ref a) (.lst ds)
  | tup {a : Addr} {vs : List V} {ds : List Dt} : SqT K H a vs → RpL K dr H vs ds → Rp K dr H (.ref a) (.tup ds)
  | dic {a : Addr} {ks : List Key} {vs : List V} {ds : List Dt} : H a = some (.dK (ks.zip vs)) → ks.length = vs.length → RpL K dr H vs ds → Rp K dr H (.ref a) (.dic ks ds)
  | dit {a : Addr} {ks : List (List Key)} {vs : List V} {ds : List Dt} : H a = some (.dT (ks.zip vs)) → ks.length = vs.length → RpL K dr H vs ds → Rp K dr H (.ref a) (.dit ks ds)
  | st {q : Addr × Addr} : dr = some q → Rp K dr H (.ref q.1) .st
inductive RpL (K : Fr) (dr : Dr) (H : Hp) : List V → List Dt → Prop
  | nil : RpL K dr H [] []
  | cons {v : V} {vs : List V} {d : Dt} {ds : List Dt} : Rp K dr H v d → RpL K dr H vs ds → RpL K dr H (v :: vs) (d :: ds)
end

section
variable {K : Fr} {dr : Dr} {H H' H1 H2 I I' : Hp}
mutual
theorem Rp.mono (s : Same H H') : ∀ (d : Dt) (v : V), Rp K dr H v d → Rp K dr H' v d
  | .non, _, h => by cases h; exact .non
  | .bl b, _, h => by cases h; exact .bl b
  | .int i, _, h => by cases h; exact .int i
  | .str x, _, h => by cases h; exact .str x
  | .lst ds, _, h => by
    cases h with
    | lst hs ha => exact .lst (s _ _ hs) (RpL.mono s ds _ ha)
  | .tup ds, _, h => by
    cases h with
    | tup hs ha => exact .tup (same_seqT s hs) (RpL.mono s ds _ ha)
  | .dic ks ds, _, h => by
    cases h with
    | dic hs hl ha => exact .dic (s _ _ hs) hl (RpL.mono s ds _ ha)
  | .dit ks ds, _, h => by
    cases h with
    | dit hs hl ha => exact .dit (s _ _ hs) hl (RpL.mono s ds _ ha)
  | .st, _, h => by
    cases h with
    | st e => exact .st e
theorem RpL.mono (s : Same H H') : ∀ (ds : List Dt) (vs : List V), RpL K dr H vs ds → RpL K dr H' vs ds
  | [], _, h => by cases h; exact .nil
  | d :: ds, _, h => by
    cases h with
    | cons h1 h2 => exact .cons (Rp.mono s d _ h1) (RpL.mono s ds _ h2)
end
theorem RpL.len : ∀ {vs : List V} {ds : List Dt}, RpL K dr H vs ds → vs.length = ds.length
  | _, _, .nil => rfl
  | _, _, .cons _ t => congrArg (· + 1) (RpL.len t)
theorem RpL.get : ∀ {vs : List V} {ds : List Dt} {i : Nat} {d : Dt}, RpL K dr H vs ds → ds[i]? = some d → ∃ v, vs[i]? = some v ∧ Rp K dr H v d
  | _, _, _, _, .nil, e => by simp at e
  | _, _, 0, _, .cons r _, e => by simp at e; subst e; exact ⟨_, rfl, r⟩
  | _, _, i + 1, d, .cons _ t, e => by
    obtain ⟨v, h1, h2⟩ := RpL.get (i := i) (d := d) t (by simpa using e)
    exact ⟨v, by simpa using h1, h2⟩
theorem RpL.getV : ∀ {vs : List V} {ds : List Dt} {i : Nat} {v : V}, RpL K dr H vs ds → vs[i]? = some v → ∃ d, ds[i]? = some d ∧ Rp K dr H v d
  | _, _, _, _, .nil, e => by simp at e
  | _, _, 0, _, .cons r _, e => by simp at e; subst e; exact ⟨_, rfl, r⟩
  | _, _, i + 1, d, .cons _ t, e => by
    obtain ⟨v, h1, h2⟩ := RpL.getV (i := i) (v := d) t (by simpa using e)
    exact ⟨v, by simpa using h1, h2⟩
theorem RpL.append : ∀ {vs ws : List V} {ds es : List Dt}, RpL K dr H vs ds → RpL K dr H ws es → RpL K dr H (vs ++ ws) (ds ++ es)
  | _, _, _, _, .nil, s => s
  | _, _, _, _, .cons r t, s => .cons r (RpL.append t s)
theorem RpL.take : ∀ {vs : List V} {ds : List Dt} (n : Nat), RpL K dr H vs ds → RpL K dr H (vs.take n) (ds.take n)
  | _, _, 0, _ => .nil
  | _, _, _ + 1, .nil => .nil
  | _, _, n + 1, .cons r t => .cons r (RpL.take n t)
theorem RpL.drop : ∀ {vs : List V} {ds : List Dt} (n : Nat), RpL K dr H vs ds → RpL K dr H (vs.drop n) (ds.drop n)
  | _, _, 0, r => r
  | _, _, _ + 1, .nil => .nil
  | _, _, n + 1, .cons _ t => RpL.drop n t
theorem RpL.set {v : V} {d : Dt} (r : Rp K dr H v d) : ∀ {vs : List V} {ds : List Dt} (i : Nat), RpL K dr H vs ds → RpL K dr H (vs.set i v) (ds.set i d)
  | _, _, _, .nil => .nil
  | _, _, 0, .cons _ t => .cons r t
  | _, _, i + 1, .cons q t => .cons q (RpL.set r i t)
theorem RpL.eraseIdx : ∀ {vs : List V} {ds : List Dt} (i : Nat), RpL K dr H vs ds → RpL K dr H (vs.eraseIdx i) (ds.eraseIdx i)
  | _, _, _, .nil => .nil
  | _, _, 0, .cons _ t => t
  | _, _, i + 1, .cons r t => .cons r (RpL.eraseIdx i t)
theorem RpL.reverse {vs : List V} {ds : List Dt} (h : RpL K dr H vs ds) : RpL K dr H vs.reverse ds.reverse := by
  induction vs generalizing ds with
  | nil => cases h; exact .nil
  | cons v vs ih =>
    cases h with
    | cons r t => rw [List.reverse_cons, List.reverse_cons]; exact (ih t).append (.cons r .nil)
theorem RpL.rep {vs : List V} {ds : List Dt} (h : RpL K dr H vs ds) : ∀ k : Nat, RpL K dr H (List.replicate k vs).flatten (List.replicate k ds).flatten
  | 0 => .nil
  | k + 1 => by
    rw [List.replicate_succ, List.replicate_succ, List.flatten_cons, List.flatten_cons]
    exact h.append (RpL.rep h k)
theorem RpL.one {v : V} {d : Dt} (h : Rp K dr H v d) : RpL K dr H [v] [d] := .cons h .nil

/-! ### the object that draws -/
def IsDr (dr : Dr) (a : Addr) : Prop := ∃ q, dr = some q ∧ (a = q.1 ∨ a = q.2)
def DrOk (q : Addr × Addr) (H : Hp) : Prop := ∃ (i : Int) (cs : List Int), H q.1 = some (.lst [.int i, .ref q.2]) ∧ H q.2 = some (.lst (cs.map V.int)) ∧ cs ≠ [] ∧ cs.length ≤ 63 ∧ q.1 ≠ q.2
theorem DrOk.some_ (h : ∀ q, dr = some q → DrOk q H) {a : Addr} (i : IsDr dr a) : H a ≠ none := by
  obtain ⟨q, e, r⟩ := i
  obtain ⟨_, _, h1, h2, _⟩ := h q e
  rcases r with rfl | rfl
  · rw [h1]; simp
  · rw [h2]; simp
structure Kp (dr : Dr) (H H' : Hp) : Prop where
  keep : ∀ a o, H a = some o → ¬ IsDr dr a → H' a = some o
  dro : ∀ q, dr = some q → DrOk q H → DrOk q H'
theorem Kp.refl : Kp dr H H := ⟨fun _ _ e _ => e, fun _ _ h => h⟩
theorem Kp.trans (a : Kp dr H H1) (b : Kp dr H1 H2) : Kp dr H H2 := ⟨fun c o e n => b.keep c o (a.keep c o e n) n, fun q e h => b.dro q e (a.dro q e h)⟩
/-- the part that never changes -/
structure Pre (dr : Dr) (I H : Hp) : Prop where
  sub : Same I H
  dro : ∀ q, dr = some q → DrOk q H
  nI : ∀ a, IsDr dr a → I a = none
theorem Pre.notDr (p : Pre dr I H) {a : Addr} (h : H a = none) : ¬ IsDr dr a := fun i => DrOk.some_ p.dro i h
theorem Kp.new {a : Addr} {o : HO} (p : Pre dr I H) (h : H a = none) : Kp dr H (upd H a o) := by
  refine ⟨fun b u e _ => by rw [upd_ne (ne_of_none e h)]; exact e, fun q e ⟨i, cs, h1, h2, h3⟩ => ⟨i, cs, ?_, ?_, h3⟩⟩
  · rw [upd_ne (ne_of_none h1 h)]; exact h1
  · rw [upd_ne (ne_of_none h2 h)]; exact h2
theorem Kp.none_back (k : Kp dr H H') (p : Pre dr I H) {a : Addr} (h : H' a = none) : H a = none := by
  cases e : H a with
  | none => rfl
  | some o =>
    by_cases i : IsDr dr a
    · exact absurd h (DrOk.some_ (fun q e => k.dro q e (p.dro q e)) i)
    · rw [k.keep a o e i] at h; cases h
/-- what never changes, with what is new -/
def ext (I H H' : Hp) : Hp := fun a => match H a with
  | none => H' a
  | some _ => I a
theorem ext_none {a : Addr} (h : H a = none) : ext I H H' a = H' a := by unfold ext; rw [h]
theorem ext_some {a : Addr} (h : H a ≠ none) : ext I H H' a = I a := by
  unfold ext
  cases e : H a with
  | none => exact absurd e h
  | some o => rfl
theorem Pre.ext_sub (p : Pre dr I H) : Same I (ext I H H') := fun a o e => by
  rw [ext_some (by rw [p.sub a o e]; simp)]; exact e
theorem Pre.step (p : Pre dr I H) (k : Kp dr H H') : Pre dr (ext I H H') H' := by
  refine ⟨fun a o e => ?_, fun q e => k.dro q e (p.dro q e), fun a i => ?_⟩
  · by_cases h : H a = none
    · rw [ext_none h] at e; exact e
    · rw [ext_some h] at e
      refine k.keep a o (p.sub a o e) fun i => ?_
      rw [p.nI a i] at e; cases e
  · rw [ext_some (DrOk.some_ p.dro i)]; exact p.nI a i
theorem Pre.ext_ext (p : Pre dr I H) (k : Kp dr H H1) (k2 : Kp dr H1 H2) : ext (ext I H H1) H1 H2 = ext I H H2 := by
  funext a
  by_cases h : H a = none
  · rw [ext_none h]
    by_cases h1 : H1 a = none
    · rw [ext_none h1]
    · rw [ext_some h1, ext_none h]
      cases e : H1 a with
      | none => exact absurd e h1
      | some o => exact (k2.keep a o e (p.notDr h)).symm
  · have h1 : H1 a ≠ none := fun z => h (k.none_back p z)
    rw [ext_some h, ext_some h1, ext_some h]
theorem ext_refl (p : Pre dr I H) : Same (ext I H H) I → True := fun _ => trivial
theorem Pre.ext_same (p : Pre dr I H) : ext I H H = I := by
  funext a
  by_cases h : H a = none
  · rw [ext_none h, h]
    cases e : I a with
    | none => rfl
    | some o => rw [p.sub a o e] at h; cases h
  · rw [ext_some h]
theorem Pre.less (p : Pre dr I H) (s : Same I' I) : Pre dr I' H := ⟨fun a o e => p.sub a o (s a o e), p.dro, fun a i => by
  cases e : I' a with
  | none => rfl
  | some o => have := s a o e; rw [p.nI a i] at this; cases this⟩
theorem ext_mono (s : Same I I') (p : Pre dr I' H) : Same (ext I H H') (ext I' H H') := fun a o e => by
  by_cases h : H a = none
  · rw [ext_none h] at e ⊢; exact e
  · rw [ext_some h] at e ⊢; exact s a o e

/-! ### owned objects -/
def OwR (K : Fr) (dr : Dr) (I H : Hp) (p : Addr) : Dt → Prop
  | .lst ds => ∃ vs, H p = some (.lst vs) ∧ RpL K dr I vs ds
  | .dic ks ds => ∃ vs, H p = some (.dK (ks.zip vs)) ∧ ks.length = vs.length ∧ RpL K dr I vs ds
  | .dit ks ds => ∃ vs, H p = some (.dT (ks.zip vs)) ∧ ks.length = vs.length ∧ RpL K dr I vs ds
  | _ => False
theorem OwR.mono {p : Addr} {d : Dt} (s : Same I I') (e : H' p = H p) (h : OwR K dr I H p d) : OwR K dr I' H' p d := by
  cases d with
  | lst ds => obtain ⟨vs, h1, h2⟩ := h; exact ⟨vs, e.trans h1, RpL.mono s _ _ h2⟩
  | dic ks ds => obtain ⟨vs, h1, h3, h2⟩ := h; exact ⟨vs, e.trans h1, h3, RpL.mono s _ _ h2⟩
  | dit ks ds => obtain ⟨vs, h1, h3, h2⟩ := h; exact ⟨vs, e.trans h1, h3, RpL.mono s _ _ h2⟩
  | _ => exact h.elim
theorem OwR.some_ {p : Addr} {d : Dt} (h : OwR K dr I H p d) : ∃ o, H p = some o := by
  cases d with
  | lst ds => obtain ⟨vs, h1, h2⟩ := h; exact ⟨_, h1⟩
  | dic ks ds => obtain ⟨vs, h1, h3, h2⟩ := h; exact ⟨_, h1⟩
  | dit ks ds => obtain ⟨vs, h1, h3, h2⟩ := h; exact ⟨_, h1⟩
  | _ => exact h.elim
/-- an owned object, taken into what never changes -/
theorem OwR.rp {p : Addr} {d : Dt} (s : Same I I') (e : I' p = H p) (h : OwR K dr I H p d) : Rp K dr I' (.ref p) d := by
  cases d with
  | lst ds => obtain ⟨vs, h1, h2⟩ := h; exact .lst (e.trans h1) (RpL.mono s _ _ h2)
  | dic ks ds => obtain ⟨vs, h1, h3, h2⟩ := h; exact .dic (e.trans h1) h3 (RpL.mono s _ _ h2)
  | dit ks ds => obtain ⟨vs, h1, h3, h2⟩ := h; exact .dit (e.trans h1) h3 (RpL.mono s _ _ h2)
  | _ => exact h.elim
/-- an operand: clean, or an owned object -/
def Sh (K : Fr) (dr : Dr) (I H : Hp) (v : V) (d : Dt) : Prop := Rp K dr I v d ∨ ∃ p, v = .ref p ∧ I p = none ∧ ¬ IsDr dr p ∧ OwR K dr I H p d
theorem Sh.lst {v : V} {ds : List Dt} (s : Same I H) (h : Sh K dr I H v (.lst ds)) : ∃ a vs, v = .ref a ∧ H a = some (.lst vs) ∧ RpL K dr I vs ds := by
  rcases h with h | ⟨p, rfl, _, _, vs, h1, h2⟩
  · cases h with
    | lst hs ha => exact ⟨_, _, rfl, s _ _ hs, ha⟩
  · exact ⟨p, vs, rfl, h1, h2⟩
theorem Sh.tup {v : V} {ds : List Dt} (s : Same I H) (h : Sh K dr I H v (.tup ds)) : ∃ a vs, v = .ref a ∧ SqT K H a vs ∧ RpL K dr I vs ds := by
  rcases h with h | ⟨p, rfl, _, _, h⟩
  · cases h with
    | tup hs ha => exact ⟨_, _, rfl, same_seqT s hs, ha⟩
  · exact h.elim
theorem Rp.sh {v : V} {d : Dt} (h : Rp K dr I v d) : Sh K dr I H v d := .inl h
theorem Sh.mono {v : V} {d : Dt} (k : Kp dr H H') (p : Pre dr I H) (h : Sh K dr I H v d) : Sh K dr (ext I H H') H' v d := by
  rcases h with h | ⟨q, rfl, h1, h2, h3⟩
  · exact .inl (h.mono p.ext_sub)
  · obtain ⟨o, e⟩ := h3.some_
    refine .inr ⟨q, rfl, ?_, h2, h3.mono p.ext_sub ((k.keep q o e h2).trans e.symm)⟩
    rw [ext_some (by rw [e]; simp)]; exact h1
end

/-! ### environments -/
inductive Sl where
  | no
  | im (d : Dt)
  | ow (d : Dt)
def sl : List Sl → Nat → Sl
  | [], _ => .no
  | s :: _, 0 => s
  | _ :: r, n + 1 => sl r n
def put : List Sl → Nat → Sl → List Sl
  | [], _, _ => []
  | _ :: r, 0, s => s :: r
  | t :: r, n + 1, s => t :: put r n s
theorem put_length : ∀ (e : List Sl) (i : Nat) (s : Sl), (put e i s).length = e.length
  | [], _, _ => rfl
  | _ :: _, 0, _ => rfl
  | _ :: r, n + 1, s => congrArg (· + 1) (put_length r n s)
theorem sl_put : ∀ (e : List Sl) (i j : Nat) (s : Sl), sl (put e i s) j = if i = j ∧ j < e.length then s else sl e j
  | [], _, _, _ => by simp [put, sl]
  | _ :: _, 0, 0, _ => by simp [put, sl]
  | _ :: _, 0, j + 1, _ => by simp [put, sl]
  | _ :: _, i + 1, 0, _ => by simp [put, sl]
  | _ :: r, i + 1, j + 1, s => by
    simp only [put, sl, sl_put r i j s, List.length_cons]
    by_cases h : i = j
    · subst h; simp
    · simp [h]
theorem sl_lt : ∀ {e : List Sl} {i : Nat}, sl e i ≠ .no → i < e.length
  | [], _, h => absurd rfl h
  | _ :: _, 0, _ => Nat.succ_pos _
  | _ :: r, n + 1, h => Nat.succ_lt_succ (sl_lt (e := r) h)
def SlR (K : Fr) (dr : Dr) (I H : Hp) (x : Option V) : Sl → Prop
  | .no => True
  | .im d => ∃ v, x = some v ∧ Rp K dr I v d
  | .ow d => ∃ p, x = some (.ref p) ∧ I p = none ∧ ¬ IsDr dr p ∧ OwR K dr I H p d
structure EnvOk (K : Fr) (dr : Dr) (env : List Sl) (σ : L2.St) (I H : Hp) : Prop where
  len : σ.length = env.length
  at_ : ∀ i, i < env.length → SlR K dr I H (σ[i]?.join) (sl env i)
  sep : ∀ i j d e p, sl env i = .ow d → sl env j = .ow e → σ[i]? = some (some (.ref p)) → σ[j]? = some (some (.ref p)) → i = j
section
variable {K : Fr} {dr : Dr} {H H' H1 H2 I I' : Hp} {env : List Sl} {σ : L2.St}
theorem SlR.step {x : Option V} {s : Sl} (k : Kp dr H H') (p : Pre dr I H) (h : SlR K dr I H x s) : SlR K dr (ext I H H') H' x s := by
  cases s with
  | no => trivial
  | im d => obtain ⟨v, e, r⟩ := h; exact ⟨v, e, r.mono p.ext_sub⟩
  | ow d =>
    obtain ⟨q, e, h1, h2, h3⟩ := h
    obtain ⟨o, e2⟩ := h3.some_
    refine ⟨q, e, ?_, h2, h3.mono p.ext_sub ((k.keep q o e2 h2).trans e2.symm)⟩
    rw [ext_some (by rw [e2]; simp)]; exact h1
theorem EnvOk.step (k : Kp dr H H') (p : Pre dr I H) (h : EnvOk K dr env σ I H) : EnvOk K dr env σ (ext I H H') H' :=
  ⟨h.len, fun i hi => (h.at_ i hi).step k p, h.sep⟩
theorem join_some {x : Option (Option V)} {v : V} (h : x.join = some v) : x = some (some v) := by
  cases x with
  | none => cases h
  | some y => exact congrArg some h
theorem EnvOk.im {i : Nat} {d : Dt} (h : EnvOk K dr env σ I H) (e : sl env i = .im d) : ∃ v, σ[i]? = some (some v) ∧ Rp K dr I v d := by
  have hi : i < env.length := sl_lt (by rw [e]; simp)
  have q := h.at_ i hi
  rw [e] at q
  obtain ⟨v, e1, r⟩ := q
  exact ⟨v, join_some e1, r⟩
theorem EnvOk.ow {i : Nat} {d : Dt} (h : EnvOk K dr env σ I H) (e : sl env i = .ow d) : ∃ p, σ[i]? = some (some (.ref p)) ∧ I p = none ∧ ¬ IsDr dr p ∧ OwR K dr I H p d := by
  have hi : i < env.length := sl_lt (by rw [e]; simp)
  have q := h.at_ i hi
  rw [e] at q
  obtain ⟨v, e1, r⟩ := q
  exact ⟨v, join_some e1, r⟩
end
end DL

set_option maxRecDepth 100000
/-! DL2: mirrors of expressions as predicate transformers over plain data, and what it is that a reading keeps to one. -/
namespace DL
open PySem L2

/-- an exception: its class's name, its fields -/
abbrev Xc := Str × List Dt
abbrev XR := Xc → Value → Option Addr → Hp → Prop
abbrev IE := List Sl → (Dt → Prop) → (Xc → Prop) → Prop
abbrev IT := List Sl → (Bool → Prop) → (Xc → Prop) → Prop
abbrev IA := List Sl → (List Dt → Prop) → (Xc → Prop) → Prop
abbrev IP := List Sl → (Option Int → Prop) → (Xc → Prop) → Prop

def OutE (xr : XR) (W : WX) (dr : Dr) (σ : L2.St) (H : Hp) (E : Xc → Prop) : Prop := ∀ x c a H', E x → Kp dr H H' → xr x c a H' → W c a σ H'
theorem OutE.step {xr : XR} {W : WX} {dr : Dr} {σ : L2.St} {H H' : Hp} {E : Xc → Prop} (o : OutE xr W dr σ H E) (k : Kp dr H H') : OutE xr W dr σ H' E := fun x c a H2 e k2 r => o x c a H2 e (k.trans k2) r

section
variable (K : Fr) (xr : XR) (W : WX)
def Snd (te : TE) (ie : IE) : Prop := ∀ dr env σ I H P E, Pre dr I H → EnvOk K dr env σ I H → ie env P E → OutE xr W dr σ H E → ∀ Q : VK, (∀ d v H', P d → Kp dr H H' → Rp K dr (ext I H H') v d → Q v H') → te σ H Q
def SndO (te : TE) (ie : IE) : Prop := ∀ dr env σ I H P E, Pre dr I H → EnvOk K dr env σ I H → ie env P E → OutE xr W dr σ H E → ∀ Q : VK, (∀ d v H', P d → Kp dr H H' → Sh K dr (ext I H H') H' v d → Q v H') → te σ H Q
/-- all but one -/
def hid (p : Addr) (J : Hp) : Hp := fun a => if a = p then none else J a
def New (dr : Dr) (I H H' : Hp) (v : V) (d : Dt) : Prop := ∃ p, v = .ref p ∧ H p = none ∧ OwR K dr (hid p (ext I H H')) H' p d
def SndN (te : TE) (ie : IE) : Prop := ∀ dr env σ I H P E, Pre dr I H → EnvOk K dr env σ I H → ie env P E → OutE xr W dr σ H E → ∀ Q : VK, (∀ d v H', P d → Kp dr H H' → New K dr I H H' v d → Q v H') → te σ H Q
def SndT (tt : TT) (it : IT) : Prop := ∀ dr env σ I H P E, Pre dr I H → EnvOk K dr env σ I H → it env P E → OutE xr W dr σ H E → ∀ Q : Bool → Hp → Prop, (∀ b H', P b → Kp dr H H' → Q b H') → tt σ H Q
def SndA (ta : TA) (ia : IA) : Prop := ∀ dr env σ I H P E, Pre dr I H → EnvOk K dr env σ I H → ia env P E → OutE xr W dr σ H E → ∀ Q : List V → Hp → Prop, (∀ ds vs H', P ds → Kp dr H H' → RpL K dr (ext I H H') vs ds → Q vs H') → ta σ H Q
def SndP (tp : TO) (ip : IP) : Prop := ∀ dr env σ I H P E, Pre dr I H → EnvOk K dr env σ I H → ip env P E → OutE xr W dr σ H E → ∀ Q : Option Int → Hp → Prop, (∀ o H', P o → Kp dr H H' → Q o H') → tp σ H Q
end

section
variable {K : Fr} {xr : XR} {W : WX} {te ta tb tc : TE} {ie ia ib ic : IE} {tt tu : TT} {it iu : IT} {tl : TA} {il : IA}
theorem hid_same {p : Addr} {J : Hp} : Same (hid p J) J := fun a o e => by
  unfold hid at e
  split at e
  · cases e
  · exact e
theorem Snd.o (h : Snd K xr W te ie) : SndO K xr W te ie := fun dr env σ I H P E p ev hi o Q q => h dr env σ I H P E p ev hi o Q fun d v H' hp k r => q d v H' hp k r.sh
theorem New.rp {dr : Dr} {I H H' : Hp} {v : V} {d : Dt} (h : New K dr I H H' v d) : Rp K dr (ext I H H') v d := by
  obtain ⟨p, rfl, hn, r⟩ := h
  exact r.rp hid_same (ext_none hn)
theorem SndN.e (h : SndN K xr W te ie) : Snd K xr W te ie := fun dr env σ I H P E p ev hi o Q q => h dr env σ I H P E p ev hi o Q fun d v H' hp k r => q d v H' hp k r.rp
/-- two operands -/
theorem two (ha : SndO K xr W ta ia) (hb : SndO K xr W tb ib) {dr : Dr} {env : List Sl} {σ : L2.St} {I H : Hp} {R : Dt → Dt → Prop} {E : Xc → Prop} (p : Pre dr I H) (ev : EnvOk K dr env σ I H)
    (hi : ia env (fun x => ib env (fun y => R x y) E) E) (o : OutE xr W dr σ H E) (Q : V → V → Hp → Prop)
    (q : ∀ x y v u H', R x y → Kp dr H H' → Pre dr (ext I H H') H' → Sh K dr (ext I H H') H' v x → Sh K dr (ext I H H') H' u y → Q v u H') : ta σ H fun v H1 => tb σ H1 fun u H2 => Q v u H2 := by
  refine ha dr env σ I H _ E p ev hi o _ fun x v H1 hx k1 r1 => ?_
  have p1 := p.step k1
  refine hb dr env σ _ H1 _ E p1 (ev.step k1 p) hx (o.step k1) _ fun y u H2 hy k2 r2 => ?_
  have e := p.ext_ext k1 k2
  have p2 := p1.step k2
  have r1' := r1.mono k2 p1
  rw [e] at r2 p2 r1'
  exact q x y v u H2 hy (k1.trans k2) p2 r1' r2
/-- clean ones -/
theorem twoE (ha : Snd K xr W ta ia) (hb : Snd K xr W tb ib) {dr : Dr} {env : List Sl} {σ : L2.St} {I H : Hp} {R : Dt → Dt → Prop} {E : Xc → Prop} (p : Pre dr I H) (ev : EnvOk K dr env σ I H)
    (hi : ia env (fun x => ib env (fun y => R x y) E) E) (o : OutE xr W dr σ H E) (Q : V → V → Hp → Prop)
    (q : ∀ x y v u H', R x y → Kp dr H H' → Pre dr (ext I H H') H' → Rp K dr (ext I H H') v x → Rp K dr (ext I H H') u y → Q v u H') : ta σ H fun v H1 => tb σ H1 fun u H2 => Q v u H2 := by
  refine ha dr env σ I H _ E p ev hi o _ fun x v H1 hx k1 r1 => ?_
  have p1 := p.step k1
  refine hb dr env σ _ H1 _ E p1 (ev.step k1 p) hx (o.step k1) _ fun y u H2 hy k2 r2 => ?_
  have e := p.ext_ext k1 k2
  have p2 := p1.step k2
  have r1' := r1.mono (p1.ext_sub (H' := H2))
  rw [e] at r2 p2 r1'
  exact q x y v u H2 hy (k1.trans k2) p2 r1' r2

/-! ### names, constants -/
@[simp] def eVar (i : Nat) : IE := fun env P _ => match sl env i with
  | .im d => P d
  | _ => False
@[simp] def oVar (i : Nat) : IE := fun env P _ => match sl env i with
  | .im d => P d
  | .ow d => P d
  | .no => False
@[simp] def eC (d : Dt) : IE := fun _ P _ => P d
theorem snd_var {i : Nat} : Snd K xr W (tVar i) (eVar i) := fun dr env σ I H P E p ev hi o Q q => by
  unfold eVar at hi
  split at hi
  · rename_i d e
    obtain ⟨v, h1, r⟩ := ev.im e
    refine ⟨v, h1, q d v H hi Kp.refl ?_⟩
    rw [p.ext_same]; exact r
  · exact hi.elim
theorem sndO_var {i : Nat} : SndO K xr W (tVar i) (oVar i) := fun dr env σ I H P E p ev hi o Q q => by
  unfold oVar at hi
  split at hi
  · rename_i d e
    obtain ⟨v, h1, r⟩ := ev.im e
    refine ⟨v, h1, q d v H hi Kp.refl (.inl ?_)⟩
    rw [p.ext_same]; exact r
  · rename_i d e
    obtain ⟨pp, h1, h2, h3, h4⟩ := ev.ow e
    refine ⟨_, h1, q d _ H hi Kp.refl ?_⟩
    rw [p.ext_same]
    exact .inr ⟨pp, rfl, h2, h3, h4⟩
  · exact hi.elim
theorem snd_c {v : V} {d : Dt} (h : ∀ dr I, Rp K dr I v d) : Snd K xr W (tC v) (eC d) := fun dr env σ I H P E p ev hi o Q q => q d v H hi Kp.refl (h _ _)

/-! ### operations by values -/
def OpS (K : Fr) (r : R2) (f : Dt → Dt → (Dt → Prop) → Prop) : Prop := ∀ dr I H x y v u P, Pre dr I H → Sh K dr I H v x → Sh K dr I H u y → f x y P → ∀ Q : VK, (∀ d w H', P d → Kp dr H H' → Rp K dr (ext I H H') w d → Q w H') → r v u H Q
def OpN (K : Fr) (r : R2) (f : Dt → Dt → (Dt → Prop) → Prop) : Prop := ∀ dr I H x y v u P, Pre dr I H → Sh K dr I H v x → Sh K dr I H u y → f x y P → ∀ Q : VK, (∀ d w H', P d → Kp dr H H' → New K dr I H H' w d → Q w H') → r v u H Q
@[simp] def eOp (f : Dt → Dt → (Dt → Prop) → Prop) (ia ib : IE) : IE := fun env P E => ia env (fun x => ib env (fun y => f x y P) E) E
theorem snd_op {r : R2} {f : Dt → Dt → (Dt → Prop) → Prop} (hr : OpS K r f) (ha : SndO K xr W ta ia) (hb : SndO K xr W tb ib) : Snd K xr W (tOp r ta tb) (eOp f ia ib) := fun dr env σ I H P E p ev hi o Q q =>
  two ha hb p ev hi o (fun v u H2 => r v u H2 Q) fun x y v u H2 hR k p2 r1 r2 => hr dr _ H2 x y v u P p2 r1 r2 hR Q fun d w H3 hP k3 r3 => q d w H3 hP (k.trans k3) (by rw [p.ext_ext k k3] at r3; exact r3)
theorem New.back {dr : Dr} {I H H1 H2 : Hp} {v : V} {d : Dt} (p : Pre dr I H) (k : Kp dr H H1) (k2 : Kp dr H1 H2) (h : New K dr (ext I H H1) H1 H2 v d) : New K dr I H H2 v d := by
  obtain ⟨a, rfl, hn, r⟩ := h
  refine ⟨a, rfl, k.none_back p hn, ?_⟩
  rw [p.ext_ext k k2] at r; exact r
theorem sndN_op {r : R2} {f : Dt → Dt → (Dt → Prop) → Prop} (hr : OpN K r f) (ha : SndO K xr W ta ia) (hb : SndO K xr W tb ib) : SndN K xr W (tOp r ta tb) (eOp f ia ib) := fun dr env σ I H P E p ev hi o Q q =>
  two ha hb p ev hi o (fun v u H2 => r v u H2 Q) fun x y v u H2 hR k p2 r1 r2 => hr dr _ H2 x y v u P p2 r1 r2 hR Q fun d w H3 hP k3 r3 => q d w H3 hP (k.trans k3) (r3.back p k k3)
/-- one operand -/
def UnS (K : Fr) (r : V → Hp → VK → Prop) (f : Dt → (Dt → Prop) → Prop) : Prop := ∀ dr I H x v P, Pre dr I H → Sh K dr I H v x → f x P → ∀ Q : VK, (∀ d w H', P d → Kp dr H H' → Rp K dr (ext I H H') w d → Q w H') → r v H Q
@[simp] def eUn (f : Dt → (Dt → Prop) → Prop) (ia : IE) : IE := fun env P E => ia env (fun x => f x P) E
theorem snd_un {r : V → Hp → VK → Prop} {f : Dt → (Dt → Prop) → Prop} (hr : UnS K r f) (ha : SndO K xr W ta ia) : Snd K xr W (tUn r ta) (eUn f ia) := fun dr env σ I H P E p ev hi o Q q =>
  ha dr env σ I H _ E p ev hi o _ fun x v H1 hx k1 r1 => hr dr _ H1 x v P (p.step k1) r1 hx Q fun d w H3 hP k3 r3 => q d w H3 hP (k1.trans k3) (by rw [p.ext_ext k1 k3] at r3; exact r3)

/-! ### lists of arguments -/
@[simp] def aNil : IA := fun _ P _ => P []
@[simp] def aCons (ia : IE) (il : IA) : IA := fun env P E => ia env (fun x => il env (fun xs => P (x :: xs)) E) E
theorem sndA_nil : SndA K xr W tNil aNil := fun dr env σ I H P E p ev hi o Q q => q [] [] H hi Kp.refl .nil
theorem sndA_cons (ha : Snd K xr W ta ia) (hl : SndA K xr W tl il) : SndA K xr W (tCons ta tl) (aCons ia il) := fun dr env σ I H P E p ev hi o Q q => by
  refine ha dr env σ I H _ E p ev hi o _ fun x v H1 hx k1 r1 => ?_
  have p1 := p.step k1
  refine hl dr env σ _ H1 _ E p1 (ev.step k1 p) hx (o.step k1) _ fun ys us H2 hy k2 r2 => ?_
  have r1' := r1.mono (p1.ext_sub (H' := H2))
  rw [p.ext_ext k1 k2] at r2 r1'
  exact q _ _ H2 hy (k1.trans k2) (.cons r1' r2)
/-- operands (owned ones too) -/
def ShL (K : Fr) (dr : Dr) (I H : Hp) : List V → List Dt → Prop
  | [], [] => True
  | v :: vs, d :: ds => Sh K dr I H v d ∧ ShL K dr I H vs ds
  | _, _ => False
theorem ShL.mono {dr : Dr} {I H H' : Hp} (k : Kp dr H H') (p : Pre dr I H) : ∀ {vs : List V} {ds : List Dt}, ShL K dr I H vs ds → ShL K dr (ext I H H') H' vs ds
  | [], [], _ => trivial
  | _ :: _, _ :: _, h => ⟨h.1.mono k p, ShL.mono k p h.2⟩
  | [], _ :: _, h => h.elim
  | _ :: _, [], h => h.elim
def SndAO (K : Fr) (xr : XR) (W : WX) (ta : TA) (ia : IA) : Prop := ∀ dr env σ I H P E, Pre dr I H → EnvOk K dr env σ I H → ia env P E → OutE xr W dr σ H E → ∀ Q : List V → Hp → Prop, (∀ ds vs H', P ds → Kp dr H H' → ShL K dr (ext I H H') H' vs ds → Q vs H') → ta σ H Q
theorem sndAO_nil : SndAO K xr W tNil aNil := fun dr env σ I H P E p ev hi o Q q => q [] [] H hi Kp.refl trivial
theorem sndAO_cons (ha : SndO K xr W ta ia) (hl : SndAO K xr W tl il) : SndAO K xr W (tCons ta tl) (aCons ia il) := fun dr env σ I H P E p ev hi o Q q => by
  refine ha dr env σ I H _ E p ev hi o _ fun x v H1 hx k1 r1 => ?_
  have p1 := p.step k1
  refine hl dr env σ _ H1 _ E p1 (ev.step k1 p) hx (o.step k1) _ fun ys us H2 hy k2 r2 => ?_
  have r1' := r1.mono k2 p1
  rw [p.ext_ext k1 k2] at r2 r1'
  exact q _ _ H2 hy (k1.trans k2) ⟨r1', r2⟩
/-- a built-in's call -/
def CaS (K : Fr) (r : List V → Hp → VK → Prop) (f : List Dt → (Dt → Prop) → Prop) : Prop := ∀ dr I H xs vs P, Pre dr I H → ShL K dr I H vs xs → f xs P → ∀ Q : VK, (∀ d w H', P d → Kp dr H H' → Rp K dr (ext I H H') w d → Q w H') → r vs H Q
def CaN (K : Fr) (r : List V → Hp → VK → Prop) (f : List Dt → (Dt → Prop) → Prop) : Prop := ∀ dr I H xs vs P, Pre dr I H → ShL K dr I H vs xs → f xs P → ∀ Q : VK, (∀ d w H', P d → Kp dr H H' → New K dr I H H' w d → Q w H') → r vs H Q
@[simp] def eCB (f : List Dt → (Dt → Prop) → Prop) (il : IA) : IE := fun env P E => il env (fun xs => f xs P) E
theorem snd_cb {r : List V → Hp → VK → Prop} {f : List Dt → (Dt → Prop) → Prop} (hr : CaS K r f) (hl : SndAO K xr W tl il) : Snd K xr W (tCB r tl) (eCB f il) := fun dr env σ I H P E p ev hi o Q q =>
  hl dr env σ I H _ E p ev hi o _ fun x v H1 hx k1 r1 => hr dr _ H1 x v P (p.step k1) r1 hx Q fun d w H3 hP k3 r3 => q d w H3 hP (k1.trans k3) (by rw [p.ext_ext k1 k3] at r3; exact r3)
theorem sndN_cb {r : List V → Hp → VK → Prop} {f : List Dt → (Dt → Prop) → Prop} (hr : CaN K r f) (hl : SndAO K xr W tl il) : SndN K xr W (tCB r tl) (eCB f il) := fun dr env σ I H P E p ev hi o Q q =>
  hl dr env σ I H _ E p ev hi o _ fun x v H1 hx k1 r1 => hr dr _ H1 x v P (p.step k1) r1 hx Q fun d w H3 hP k3 r3 => q d w H3 hP (k1.trans k3) (r3.back p k1 k3)

/-! ### new tuples, new lists -/
theorem new_at {dr : Dr} {I H : Hp} {p : Addr} {o : HO} (pr : Pre dr I H) (hp : H p = none) : Same I (hid p (ext I H (upd H p o))) := fun a u e => by
  have ne : a ≠ p := fun z => by subst z; have := pr.sub _ _ e; rw [hp] at this; cases this
  unfold hid
  rw [if_neg ne]
  exact pr.ext_sub a u e
@[simp] def eTup (il : IA) : IE := fun env P E => il env (fun xs => xs.length ≤ 16777216 ∧ P (.tup xs)) E
@[simp] def eLst (il : IA) : IE := fun env P E => il env (fun xs => xs.length ≤ 16777216 ∧ P (.lst xs)) E
theorem size_le {n : Nat} (h : n ≤ 16777216) : n ≤ sizeLine := by rw [sizeLine_eq]; exact h
theorem rp_new_tup {dr : Dr} {I H : Hp} {p : Addr} {vs : List V} {ds : List Dt} (pr : Pre dr I H) (hp : H p = none) (r : RpL K dr I vs ds) : Rp K dr (ext I H (upd H p (.tup vs))) (.ref p) (.tup ds) :=
  .tup (SqT.of (by rw [ext_none hp]; exact upd_same)) (RpL.mono pr.ext_sub _ _ r)
theorem new_lst {dr : Dr} {I H : Hp} {p : Addr} {vs : List V} {ds : List Dt} (pr : Pre dr I H) (hp : H p = none) (r : RpL K dr I vs ds) : New K dr I H (upd H p (.lst vs)) (.ref p) (.lst ds) :=
  ⟨p, rfl, hp, vs, upd_same, RpL.mono (new_at pr hp) _ _ r⟩
theorem snd_tup (hl : SndA K xr W tl il) : Snd K xr W (tTup tl) (eTup il) := fun dr env σ I H P E p ev hi o Q q =>
  hl dr env σ I H _ E p ev hi o _ fun xs vs H1 hx k1 r1 => ⟨size_le (by rw [r1.len]; exact hx.1), fun a ha => by
    have p1 := p.step k1
    have k2 := Kp.new (o := .tup vs) p1 ha
    have z := rp_new_tup p1 ha r1
    rw [p.ext_ext k1 k2] at z
    exact q _ _ _ hx.2 (k1.trans k2) z⟩
theorem sndN_lst (hl : SndA K xr W tl il) : SndN K xr W (tLst tl) (eLst il) := fun dr env σ I H P E p ev hi o Q q =>
  hl dr env σ I H _ E p ev hi o _ fun xs vs H1 hx k1 r1 => ⟨size_le (by rw [r1.len]; exact hx.1), fun a ha => by
    have p1 := p.step k1
    have k2 := Kp.new (o := .lst vs) p1 ha
    exact q _ _ _ hx.2 (k1.trans k2) ((new_lst p1 ha r1).back p k1 k2)⟩

/-! ### tests -/
@[simp] def asB : Dt → (Bool → Prop) → Prop
  | .bl b, P => P b
  | _, _ => False
@[simp] def bT (ia : IE) : IT := fun env P E => ia env (fun x => asB x P) E
@[simp] def bAnd (it iu : IT) : IT := fun env P E => it env (fun b => if b = true then iu env P E else P false) E
@[simp] def bOr (it iu : IT) : IT := fun env P E => it env (fun b => if b = true then P true else iu env P E) E
@[simp] def bNot (it : IT) : IT := fun env P E => it env (fun b => P (!b)) E
theorem isBl {dr : Dr} {H : Hp} {v : V} {d : Dt} {P : Bool → Prop} (r : Rp K dr H v d) (h : asB d P) : ∃ b, v = .bl b ∧ P b := by
  cases d with
  | bl b => cases r; exact ⟨b, rfl, h⟩
  | _ => exact h.elim
theorem sndT_B (ha : Snd K xr W ta ia) : SndT K xr W (tB ta) (bT ia) := fun dr env σ I H P E p ev hi o Q q =>
  ha dr env σ I H _ E p ev hi o _ fun x v H1 hx k1 r1 => let ⟨b, e, hb⟩ := isBl r1 hx; ⟨b, e, q b H1 hb k1⟩
theorem sndT_test (ha : Snd K xr W ta ia) : SndT K xr W (tTest ta) (bT ia) := fun dr env σ I H P E p ev hi o Q q =>
  ha dr env σ I H _ E p ev hi o _ fun x v H1 hx k1 r1 => let ⟨b, e, hb⟩ := isBl r1 hx; ⟨b, e, q b H1 hb k1⟩
theorem sndT_and (ht : SndT K xr W tt it) (hu : SndT K xr W tu iu) : SndT K xr W (tAnd tt tu) (bAnd it iu) := fun dr env σ I H P E p ev hi o Q q =>
  ht dr env σ I H _ E p ev hi o _ fun b H1 hb k1 => by
    cases b with
    | true => exact hu dr env σ _ H1 P E (p.step k1) (ev.step k1 p) hb (o.step k1) Q fun b' H2 hb' k2 => q b' H2 hb' (k1.trans k2)
    | false => exact q false H1 hb k1
theorem sndT_or (ht : SndT K xr W tt it) (hu : SndT K xr W tu iu) : SndT K xr W (tOr tt tu) (bOr it iu) := fun dr env σ I H P E p ev hi o Q q =>
  ht dr env σ I H _ E p ev hi o _ fun b H1 hb k1 => by
    cases b with
    | false => exact hu dr env σ _ H1 P E (p.step k1) (ev.step k1 p) hb (o.step k1) Q fun b' H2 hb' k2 => q b' H2 hb' (k1.trans k2)
    | true => exact q true H1 hb k1
theorem sndT_not (ht : SndT K xr W tt it) : SndT K xr W (tNot tt) (bNot it) := fun dr env σ I H P E p ev hi o Q q =>
  ht dr env σ I H _ E p ev hi o _ fun b H1 hb k1 => q _ H1 hb k1
@[simp] def eAnd (ia ib : IE) : IE := fun env P E => ia env (fun x => asB x fun b => if b = true then ib env P E else P (.bl false)) E
@[simp] def eOr (ia ib : IE) : IE := fun env P E => ia env (fun x => asB x fun b => if b = true then P (.bl true) else ib env P E) E
@[simp] def eNot (ia : IE) : IE := fun env P E => ia env (fun x => asB x fun b => P (.bl (!b))) E
theorem ext_back {dr : Dr} {I H H1 H2 : Hp} {v : V} {d : Dt} (p : Pre dr I H) (k : Kp dr H H1) (k2 : Kp dr H1 H2) (h : Rp K dr (ext (ext I H H1) H1 H2) v d) : Rp K dr (ext I H H2) v d := by
  rw [p.ext_ext k k2] at h; exact h
theorem snd_and (ha : Snd K xr W ta ia) (hb : Snd K xr W tb ib) : Snd K xr W (tAndV ta tb) (eAnd ia ib) := fun dr env σ I H P E p ev hi o Q q =>
  ha dr env σ I H _ E p ev hi o _ fun x v H1 hx k1 r1 => by
    obtain ⟨b, e, hb'⟩ := isBl (P := fun b => if b = true then ib env P E else P (.bl false)) r1 hx
    refine ⟨b, e, ?_⟩
    cases b with
    | true => exact hb dr env σ _ H1 P E (p.step k1) (ev.step k1 p) hb' (o.step k1) Q fun d w H2 hd k2 r2 => q d w H2 hd (k1.trans k2) (ext_back p k1 k2 r2)
    | false => exact q _ _ H1 hb' k1 (.bl false)
theorem snd_or (ha : Snd K xr W ta ia) (hb : Snd K xr W tb ib) : Snd K xr W (tOrV ta tb) (eOr ia ib) := fun dr env σ I H P E p ev hi o Q q =>
  ha dr env σ I H _ E p ev hi o _ fun x v H1 hx k1 r1 => by
    obtain ⟨b, e, hb'⟩ := isBl (P := fun b => if b = true then P (.bl true) else ib env P E) r1 hx
    refine ⟨b, e, ?_⟩
    cases b with
    | false => exact hb dr env σ _ H1 P E (p.step k1) (ev.step k1 p) hb' (o.step k1) Q fun d w H2 hd k2 r2 => q d w H2 hd (k1.trans k2) (ext_back p k1 k2 r2)
    | true => exact q _ _ H1 hb' k1 (.bl true)
theorem snd_not (ha : Snd K xr W ta ia) : Snd K xr W (tNotV ta) (eNot ia) := fun dr env σ I H P E p ev hi o Q q =>
  ha dr env σ I H _ E p ev hi o _ fun x v H1 hx k1 r1 => by
    obtain ⟨b, e, hb'⟩ := isBl (P := fun b => P (.bl (!b))) r1 hx
    exact ⟨b, e, q _ _ H1 hb' k1 (.bl _)⟩
@[simp] def eIf (it : IT) (ia ib : IE) : IE := fun env P E => it env (fun b => if b = true then ia env P E else ib env P E) E
theorem snd_if (ht : SndT K xr W tt it) (ha : Snd K xr W ta ia) (hb : Snd K xr W tb ib) : Snd K xr W (tIf tt ta tb) (eIf it ia ib) := fun dr env σ I H P E p ev hi o Q q =>
  ht dr env σ I H _ E p ev hi o _ fun b H1 hx k1 => by
    cases b with
    | true => exact ha dr env σ _ H1 P E (p.step k1) (ev.step k1 p) hx (o.step k1) Q fun d w H2 hd k2 r2 => q d w H2 hd (k1.trans k2) (ext_back p k1 k2 r2)
    | false => exact hb dr env σ _ H1 P E (p.step k1) (ev.step k1 p) hx (o.step k1) Q fun d w H2 hd k2 r2 => q d w H2 hd (k1.trans k2) (ext_back p k1 k2 r2)
theorem sndN_if (ht : SndT K xr W tt it) (ha : SndN K xr W ta ia) (hb : SndN K xr W tb ib) : SndN K xr W (tIf tt ta tb) (eIf it ia ib) := fun dr env σ I H P E p ev hi o Q q =>
  ht dr env σ I H _ E p ev hi o _ fun b H1 hx k1 => by
    cases b with
    | true => exact ha dr env σ _ H1 P E (p.step k1) (ev.step k1 p) hx (o.step k1) Q fun d w H2 hd k2 r2 => q d w H2 hd (k1.trans k2) (r2.back p k1 k2)
    | false => exact hb dr env σ _ H1 P E (p.step k1) (ev.step k1 p) hx (o.step k1) Q fun d w H2 hd k2 r2 => q d w H2 hd (k1.trans k2) (r2.back p k1 k2)
/-- a op1 b op2 c -/
@[simp] def eChain (f g : Dt → Dt → (Dt → Prop) → Prop) (ia ib ic : IE) : IE := fun env P E => ia env (fun x => ib env (fun y => f x y (fun z => asB z fun b => if b = true then ic env (fun w => g y w P) E else P (.bl false))) E) E
theorem snd_chain {r r' : R2} {f g : Dt → Dt → (Dt → Prop) → Prop} (hr : OpS K r f) (hr' : OpS K r' g) (ha : SndO K xr W ta ia) (hb : SndO K xr W tb ib) (hc : SndO K xr W tc ic) : Snd K xr W (tChain r r' ta tb tc) (eChain f g ia ib ic) := fun dr env σ I H P E p ev hi o Q q =>
  two ha hb p ev hi o _ fun x y v u H2 hR k p2 r1 r2 => hr dr _ H2 x y v u _ p2 r1 r2 hR _ fun d w H3 hP k3 r3 => by
    obtain ⟨b, e, hb'⟩ := isBl (P := fun b => if b = true then ic env (fun w => g y w P) E else P (.bl false)) r3 hP
    refine ⟨b, e, ?_⟩
    have k' := k.trans k3
    cases b with
    | false => exact q _ _ H3 hb' k' (.bl false)
    | true =>
      refine hc dr env σ _ H3 _ E (p2.step k3) ((ev.step k p).step k3 p2) hb' (o.step k') _ fun z t H4 hz k4 r4 => ?_
      refine hr' dr _ H4 y z u t P ((p2.step k3).step k4) ((r2.mono k3 p2).mono k4 (p2.step k3)) r4 hz Q fun d' w' H5 hd k5 r5 => ?_
      refine q d' w' H5 hd ((k'.trans k4).trans k5) ?_
      have e1 := ext_back (p2.step k3) k4 k5 r5
      have e2 := ext_back p2 k3 (k4.trans k5) e1
      exact ext_back p k (k3.trans (k4.trans k5)) e2
end
end DL

set_option maxRecDepth 100000
/-! DL3: the operations of the language over plain data, each with its rule. -/
namespace DL
open PySem L2 PyProof.Rows

/-! ### as the library's data -/
mutual
def Dt.py : Dt → PyData
  | .non => .none
  | .bl b => .bool b
  | .int i => .int i
  | .str x => .str x
  | .lst xs => .list (pyL xs)
  | .tup xs => .tuple (pyL xs)
  | .dic _ _ => .dict []
  | .dit _ _ => .dict []
  | .st => .dict []
def pyL : List Dt → List PyData
  | [] => []
  | d :: ds => d.py :: pyL ds
end
theorem pyL_map (ds : List Dt) : pyL ds = ds.map Dt.py := by
  induction ds with
  | nil => rfl
  | cons d ds ih => rw [pyL, List.map_cons, ih]
section
variable {K : Fr} {dr : Dr} {H : Hp}
mutual
theorem Rp.dp : ∀ (d : Dt) (v : V), Rp K dr H v d → d.py.canLay0 = true → Dp K H v d.py
  | .non, _, h, _ => by cases h; rw [Dt.py]; exact .non
  | .bl b, _, h, _ => by cases h; rw [Dt.py]; exact .bl b
  | .int i, _, h, _ => by cases h; rw [Dt.py]; exact .int i
  | .str x, _, h, _ => by cases h; rw [Dt.py]; exact .str x
  | .lst ds, _, h, c => by
    cases h with
    | lst hs ha =>
      rw [Dt.py] at c ⊢
      exact .lst (SqL.of hs) (RpL.dp ds _ ha (by simpa [PyData.canLay0] using c))
  | .tup ds, _, h, c => by
    cases h with
    | tup hs ha =>
      rw [Dt.py] at c ⊢
      exact .tup hs (RpL.dp ds _ ha (by simpa [PyData.canLay0] using c))
  | .dic ks ds, _, _, c => by rw [Dt.py] at c; simp [PyData.canLay0] at c
  | .dit ks ds, _, _, c => by rw [Dt.py] at c; simp [PyData.canLay0] at c
  | .st, _, _, c => by rw [Dt.py] at c; simp [PyData.canLay0] at c
theorem RpL.dp : ∀ (ds : List Dt) (vs : List V), RpL K dr H vs ds → PyData.canLayAll0 (pyL ds) = true → DpAll K H vs (pyL ds)
  | [], _, h, _ => by cases h; rw [pyL]; exact .nil
  | d :: ds, _, h, c => by
    cases h with
    | cons h1 h2 =>
      rw [pyL] at c ⊢
      have c' : d.py.canLay0 = true ∧ PyData.canLayAll0 (pyL ds) = true := by simpa [PyData.canLayAll0] using c
      exact .cons (Rp.dp d _ h1 c'.1) (RpL.dp ds _ h2 c'.2)
end
end
/-- data that may be compared: no dict within, at most 64 deep -/
def okD (d : Dt) : Prop := SeqAt.shaped d.py = true
theorem okD.lay {d : Dt} (h : okD d) : d.py.canLay0 = true := SeqAt.canLay_of_shaped h
def eqv (x y : Dt) : Bool := PyData.eqv x.py y.py
theorem Sh.dp {K : Fr} {dr : Dr} {I H : Hp} {v : V} {d : Dt} (p : Pre dr I H) (h : Sh K dr I H v d) (c : okD d) : Dp K H v d.py := by
  rcases h with h | ⟨q, rfl, _, _, h3⟩
  · exact (h.mono p.sub).dp _ _ c.lay
  · cases d with
    | lst ds => obtain ⟨vs, h1, h2⟩ := h3; exact (Rp.lst h1 (RpL.mono p.sub _ _ h2)).dp _ _ c.lay
    | _ => first | exact h3.elim | (have := c.lay; rw [Dt.py] at this; simp [PyData.canLay0] at this)

/-! ### links: an expression, its mirror -/
def LE (xr : XR) (X : Cx) (W : WX) (e : Expr) (ie : IE) : Prop := ∃ te, PE X e te ∧ Snd X.K xr W te ie
def LO (xr : XR) (X : Cx) (W : WX) (e : Expr) (ie : IE) : Prop := ∃ te, PE X e te ∧ SndO X.K xr W te ie
def LN (xr : XR) (X : Cx) (W : WX) (e : Expr) (ie : IE) : Prop := ∃ te, PE X e te ∧ SndN X.K xr W te ie
def LT (xr : XR) (X : Cx) (W : WX) (e : Expr) (it : IT) : Prop := ∃ tt, PT X e tt ∧ SndT X.K xr W tt it
def LW (xr : XR) (X : Cx) (W : WX) (e : Expr) (it : IT) : Prop := ∃ tt, PW X e tt ∧ SndT X.K xr W tt it
def LA (xr : XR) (X : Cx) (W : WX) (es : List Expr) (ia : IA) : Prop := ∃ ta, PA X es ta ∧ SndA X.K xr W ta ia
def LAO (xr : XR) (X : Cx) (W : WX) (es : List Expr) (ia : IA) : Prop := ∃ ta, PA X es ta ∧ SndAO X.K xr W ta ia
def LP (xr : XR) (X : Cx) (W : WX) (e : Option Expr) (ip : IP) : Prop := ∃ tp, PO X e tp ∧ SndP X.K xr W tp ip

section
variable {xr : XR} {X : Cx} {W : WX} {e a b c : Expr} {es : List Expr} {ie ia ib ic : IE} {it iu : IT} {il : IA} {pos : Pos}
theorem LE.O (h : LE xr X W e ie) : LO xr X W e ie := let ⟨t, p, s⟩ := h; ⟨t, p, s.o⟩
theorem LN.E (h : LN xr X W e ie) : LE xr X W e ie := let ⟨t, p, s⟩ := h; ⟨t, p, s.e⟩
theorem LN.O (h : LN xr X W e ie) : LO xr X W e ie := h.E.O

/-! ### names, constants -/
theorem le_var (i : Nat) {x : Str} (hN : X.N[i]? = some x := by rfl) (hv : Vis X.env.scope x := by first | exact Or.inl rfl | exact Or.inr (Or.inl rfl) | exact Or.inr (Or.inr rfl)) (hd : (x == ("__debug__" : Str)) = false := by decide)
    (hcd : (x == ("__classdict__" : Str)) = false := by decide) : LE xr X W (.Name x pos) (eVar i) := ⟨_, pe_var hN hv hd hcd, snd_var⟩
theorem lo_var (i : Nat) {x : Str} (hN : X.N[i]? = some x := by rfl) (hv : Vis X.env.scope x := by first | exact Or.inl rfl | exact Or.inr (Or.inl rfl) | exact Or.inr (Or.inr rfl)) (hd : (x == ("__debug__" : Str)) = false := by decide)
    (hcd : (x == ("__classdict__" : Str)) = false := by decide) : LO xr X W (.Name x pos) (oVar i) := ⟨_, pe_var hN hv hd hcd, sndO_var⟩
theorem le_int {i : Int} {j} : LE xr X W (.Constant (.int i) j pos) (eC (.int i)) := ⟨_, pe_int, snd_c fun _ _ => .int i⟩
theorem le_bl {i : Bool} {j} : LE xr X W (.Constant (.bool i) j pos) (eC (.bl i)) := ⟨_, pe_bl, snd_c fun _ _ => .bl i⟩
theorem le_non {j} : LE xr X W (.Constant .none j pos) (eC .non) := ⟨_, pe_non, snd_c fun _ _ => .non⟩
theorem le_str {i : Str} {j} : LE xr X W (.Constant (.str i) j pos) (eC (.str i)) := ⟨_, pe_str, snd_c fun _ _ => .str i⟩
theorem le_glob {x : Str} {v : V} {u : Value} {d : Dt} (hg : Gl X x) (hm : X.mg x = some u) (r : RelV v u) (h : ∀ dr I, Rp X.K dr I v d) (hd : (x == ("__debug__" : Str)) = false := by decide) : LE xr X W (.Name x pos) (eC d) := ⟨_, pe_glob hg hm r hd, snd_c h⟩

/-! ### lists of arguments, tuples, lists -/
theorem la_nil : LA xr X W [] aNil := ⟨_, pa_nil, sndA_nil⟩
theorem la_cons (h : LE xr X W e ie) (hl : LA xr X W es il) (hs : starEach (e :: es) X.env = (false, eval e X.env) :: starEach es X.env := by rfl) : LA xr X W (e :: es) (aCons ie il) :=
  let ⟨_, p, s⟩ := h; let ⟨_, pl, sl⟩ := hl; ⟨_, pa_cons p pl hs, sndA_cons s sl⟩
theorem lao_nil : LAO xr X W [] aNil := ⟨_, pa_nil, sndAO_nil⟩
theorem lao_cons (h : LO xr X W e ie) (hl : LAO xr X W es il) (hs : starEach (e :: es) X.env = (false, eval e X.env) :: starEach es X.env := by rfl) : LAO xr X W (e :: es) (aCons ie il) :=
  let ⟨_, p, s⟩ := h; let ⟨_, pl, sl⟩ := hl; ⟨_, pa_cons p pl hs, sndAO_cons s sl⟩
theorem le_tup {k} (h : LA xr X W es il) : LE xr X W (.Tuple es k pos) (eTup il) := let ⟨_, p, s⟩ := h; ⟨_, pe_tup p, snd_tup s⟩
theorem ln_lst (h : LA xr X W es il) : LN xr X W (.List es pos) (eLst il) := let ⟨_, p, s⟩ := h; ⟨_, pe_lst p, sndN_lst s⟩

/-! ### arithmetic -/
theorem OpR.or {f : Value → Value → Sem Value} {r r' : R2} (h : OpR X f r) (h' : OpR X f r') : OpR X f (fun x y H Q => r x y H Q ∨ r' x y H Q) := by
  intro pins s σ H x y v u Q I rx ry q
  rcases q with q | q
  · exact h pins s σ H x y v u Q I rx ry q
  · exact h' pins s σ H x y v u Q I rx ry q
theorem le_bin {op : Operator} {r : R2} {f : Dt → Dt → (Dt → Prop) → Prop} (ho : OpR X (binaryOp op) r) (hs : OpS X.K r f) (ha : LO xr X W a ia) (hb : LO xr X W b ib) : LE xr X W (.BinOp a op b pos) (eOp f ia ib) :=
  let ⟨_, p, s⟩ := ha; let ⟨_, q, t⟩ := hb; ⟨_, pe_op ho p q, snd_op hs s t⟩
theorem ln_bin {op : Operator} {r : R2} {f : Dt → Dt → (Dt → Prop) → Prop} (ho : OpR X (binaryOp op) r) (hs : OpN X.K r f) (ha : LO xr X W a ia) (hb : LO xr X W b ib) : LN xr X W (.BinOp a op b pos) (eOp f ia ib) :=
  let ⟨_, p, s⟩ := ha; let ⟨_, q, t⟩ := hb; ⟨_, pe_op ho p q, sndN_op hs s t⟩
end
section
variable {K : Fr} {dr : Dr} {I H : Hp} {v u : V} {i j : Int}
theorem Sh.int (h : Sh K dr I H v (.int i)) : v = .int i := by
  rcases h with h | ⟨_, _, _, _, h⟩
  · cases h; rfl
  · exact h.elim
theorem Sh.bl {i : Bool} (h : Sh K dr I H v (.bl i)) : v = .bl i := by
  rcases h with h | ⟨_, _, _, _, h⟩
  · cases h; rfl
  · exact h.elim
theorem Sh.str {i : Str} (h : Sh K dr I H v (.str i)) : v = .str i := by
  rcases h with h | ⟨_, _, _, _, h⟩
  · cases h; rfl
  · exact h.elim
theorem Sh.non (h : Sh K dr I H v .non) : v = .non := by
  rcases h with h | ⟨_, _, _, _, h⟩
  · cases h; rfl
  · exact h.elim
theorem rp_at {w : V} {d : Dt} (p : Pre dr I H) (h : Rp K dr I w d) : Rp K dr (ext I H H) w d := by rw [p.ext_same]; exact h
end
theorem op_mulK {X : Cx} : OpR X (binaryOp .Mult) (rI IntMulOk fun i j => .int (i * j)) := opI fun _ _ _ _ _ _ _ hc q => mul_int q hc
def DivOk (i j : Int) : Prop := Builtin.divisionGoesByPylong i j = false
theorem op_fdivK {X : Cx} : OpR X (binaryOp .FloorDiv) (rI (fun i j => j ≠ 0 ∧ DivOk i j) fun i j => .int (i.fdiv j)) := opI fun i j _ _ _ _ _ hc q => floordiv_int hc.1 q (.inl hc.2)
theorem rep_ok {K : Fr} : OpN K rRep (fun x y P => match x, y with
    | .lst xs, .int k => (-(2 ^ 63) ≤ k ∧ k < 2 ^ 63 ∧ xs.length * k.toNat ≤ 16777216) ∧ P (.lst (List.replicate k.toNat xs).flatten)
    | _, _ => False) := by
  intro dr I H x y v u P p hx hy hf Q q
  split at hf
  · rename_i xs k
    obtain ⟨⟨h1, h2, h3⟩, hP⟩ := hf
    obtain ⟨a, vs, rfl, ha, r⟩ := hx.lst p.sub
    obtain rfl := hy.int
    exact ⟨a, k, vs, rfl, rfl, ha, h1, h2, size_le (by rw [r.len]; exact h3), fun l hl => q _ _ _ hP (Kp.new p hl) (new_lst p hl (r.rep _))⟩
  · exact hf.elim

/-- + of two ints -/
@[simp] def addI : Dt → Dt → (Dt → Prop) → Prop
  | .int a, .int b, P => P (.int (a + b))
  | _, _, _ => False
@[simp] def subI : Dt → Dt → (Dt → Prop) → Prop
  | .int a, .int b, P => P (.int (a - b))
  | _, _, _ => False
@[simp] def mulI : Dt → Dt → (Dt → Prop) → Prop
  | .int a, .int b, P => IntMulOk a b ∧ P (.int (a * b))
  | _, _, _ => False
@[simp] def divI : Dt → Dt → (Dt → Prop) → Prop
  | .int a, .int b, P => (b ≠ 0 ∧ DivOk a b) ∧ P (.int (a.fdiv b))
  | _, _, _ => False
@[simp] def modI : Dt → Dt → (Dt → Prop) → Prop
  | .int a, .int b, P => b ≠ 0 ∧ P (.int (a.fmod b))
  | _, _, _ => False
@[simp] def catL : Dt → Dt → (Dt → Prop) → Prop
  | .lst xs, .lst ys, P => xs.length + ys.length ≤ 16777216 ∧ P (.lst (xs ++ ys))
  | _, _, _ => False
@[simp] def catT : Dt → Dt → (Dt → Prop) → Prop
  | .tup xs, .tup ys, P => xs.length + ys.length ≤ 16777216 ∧ P (.tup (xs ++ ys))
  | _, _, _ => False
@[simp] def catS : Dt → Dt → (Dt → Prop) → Prop
  | .str xs, .str ys, P => xs.length + ys.length ≤ 16777216 ∧ P (.str (xs ++ ys))
  | _, _, _ => False
@[simp] def repL : Dt → Dt → (Dt → Prop) → Prop
  | .lst xs, .int k, P => (-(2 ^ 63) ≤ k ∧ k < 2 ^ 63 ∧ xs.length * k.toNat ≤ 16777216) ∧ P (.lst (List.replicate k.toNat xs).flatten)
  | _, _, _ => False
section
variable {K : Fr}
theorem ops_I0 {g : Int → Int → V} {gd : Int → Int → Dt} {f : Dt → Dt → (Dt → Prop) → Prop} (hg : ∀ i j dr I, Rp K dr I (g i j) (gd i j)) (hf : ∀ x y P, f x y P → ∃ i j, x = .int i ∧ y = .int j ∧ P (gd i j)) : OpS K (rI0 g) f := by
  intro dr I H x y v u P p hx hy h Q q
  obtain ⟨i, j, rfl, rfl, hP⟩ := hf x y P h
  exact ⟨i, j, hx.int, hy.int, q _ _ H hP Kp.refl (rp_at p (hg i j _ _))⟩
theorem ops_I {C : Int → Int → Prop} {g : Int → Int → V} {gd : Int → Int → Dt} {f : Dt → Dt → (Dt → Prop) → Prop} (hg : ∀ i j dr I, Rp K dr I (g i j) (gd i j)) (hf : ∀ x y P, f x y P → ∃ i j, x = .int i ∧ y = .int j ∧ C i j ∧ P (gd i j)) : OpS K (rI C g) f := by
  intro dr I H x y v u P p hx hy h Q q
  obtain ⟨i, j, rfl, rfl, hC, hP⟩ := hf x y P h
  exact ⟨i, j, hx.int, hy.int, hC, q _ _ H hP Kp.refl (rp_at p (hg i j _ _))⟩
theorem ops_add : OpS K (rI0 fun i j => .int (i + j)) addI := ops_I0 (gd := fun i j => .int (i + j)) (fun i j _ _ => .int _) fun x y P h => by
  unfold addI at h
  split at h
  · exact ⟨_, _, rfl, rfl, h⟩
  · exact h.elim
theorem ops_sub : OpS K (rI0 fun i j => .int (i - j)) subI := ops_I0 (gd := fun i j => .int (i - j)) (fun i j _ _ => .int _) fun x y P h => by
  unfold subI at h
  split at h
  · exact ⟨_, _, rfl, rfl, h⟩
  · exact h.elim
theorem ops_mul : OpS K (rI IntMulOk fun i j => .int (i * j)) mulI := ops_I (gd := fun i j => .int (i * j)) (fun i j _ _ => .int _) fun x y P h => by
  unfold mulI at h
  split at h
  · exact ⟨_, _, rfl, rfl, h⟩
  · exact h.elim
theorem ops_div : OpS K (rI (fun i j => j ≠ 0 ∧ DivOk i j) fun i j => .int (i.fdiv j)) divI := ops_I (gd := fun i j => .int (i.fdiv j)) (fun i j _ _ => .int _) fun x y P h => by
  unfold divI at h
  split at h
  · exact ⟨_, _, rfl, rfl, h⟩
  · exact h.elim
theorem ops_mod : OpS K (rI (fun _ j => j ≠ 0) fun i j => .int (i.fmod j)) modI := ops_I (gd := fun i j => .int (i.fmod j)) (fun i j _ _ => .int _) fun x y P h => by
  unfold modI at h
  split at h
  · exact ⟨_, _, rfl, rfl, h⟩
  · exact h.elim
theorem opn_cat : OpN K rCat catL := by
  intro dr I H x y v u P p hx hy h Q q
  unfold catL at h
  split at h
  · obtain ⟨a, vs, rfl, ha, r⟩ := hx.lst p.sub
    obtain ⟨b, ws, rfl, hb, s⟩ := hy.lst p.sub
    exact ⟨a, b, vs, ws, rfl, rfl, ha, hb, size_le (by rw [r.len, s.len]; exact h.1), fun l hl => q _ _ _ h.2 (Kp.new p hl) (new_lst p hl (r.append s))⟩
  · exact h.elim
theorem opn_rep : OpN K rRep repL := by
  intro dr I H x y v u P p hx hy h Q q
  unfold repL at h
  split at h
  · obtain ⟨⟨h1, h2, h3⟩, hP⟩ := h
    obtain ⟨a, vs, rfl, ha, r⟩ := hx.lst p.sub
    obtain rfl := hy.int
    exact ⟨a, _, vs, rfl, rfl, ha, h1, h2, size_le (by rw [r.len]; exact h3), fun l hl => q _ _ _ hP (Kp.new p hl) (new_lst p hl (r.rep _))⟩
  · exact h.elim
theorem ops_catT : OpS K (rCatA K) catT := by
  intro dr I H x y v u P p hx hy h Q q
  unfold catT at h
  split at h
  · obtain ⟨a, vs, rfl, ha, r⟩ := hx.tup p.sub
    obtain ⟨b, ws, rfl, hb, s⟩ := hy.tup p.sub
    rename_i xs ys
    have rx : Rp K dr I (.ref a) (.tup xs) := by
      rcases hx with hx | ⟨_, _, _, _, h3⟩
      · exact hx
      · exact h3.elim
    have ry : Rp K dr I (.ref b) (.tup ys) := by
      rcases hy with hy | ⟨_, _, _, _, h3⟩
      · exact hy
      · exact h3.elim
    refine ⟨a, b, vs, ws, rfl, rfl, ha, hb, size_le (by rw [r.len, s.len]; exact h.1), fun e => ?_, fun e e2 => ?_, fun e e2 l hl => ?_⟩
    · subst e
      have hh := r.len
      cases xs with
      | nil => exact q _ _ _ h.2 Kp.refl (rp_at p ry)
      | cons _ _ => simp at hh
    · subst e2
      have hh := s.len
      cases ys with
      | nil => rw [List.append_nil] at h; exact q _ _ _ h.2 Kp.refl (rp_at p rx)
      | cons _ _ => simp at hh
    · exact q _ _ _ h.2 (Kp.new p hl) (rp_new_tup p hl (r.append s))
  · exact h.elim
theorem ops_catS : OpS K (fun x y H Q => ∃ i j, x = .str i ∧ y = .str j ∧ i.length + j.length ≤ sizeLine ∧ Q (.str (i ++ j)) H) catS := by
  intro dr I H x y v u P p hx hy h Q q
  unfold catS at h
  split at h
  · exact ⟨_, _, hx.str, hy.str, size_le h.1, q _ _ H h.2 Kp.refl (.str _)⟩
  · exact h.elim
end
section
variable {xr : XR} {X : Cx} {W : WX} {e a b c : Expr} {es : List Expr} {ie ia ib ic : IE} {it iu : IT} {il : IA} {pos : Pos}
theorem le_add (ha : LO xr X W a ia) (hb : LO xr X W b ib) : LE xr X W (.BinOp a .Add b pos) (eOp addI ia ib) := le_bin op_add ops_add ha hb
theorem le_sub (ha : LO xr X W a ia) (hb : LO xr X W b ib) : LE xr X W (.BinOp a .Sub b pos) (eOp subI ia ib) := le_bin op_sub ops_sub ha hb
theorem le_mul (ha : LO xr X W a ia) (hb : LO xr X W b ib) : LE xr X W (.BinOp a .Mult b pos) (eOp mulI ia ib) := le_bin op_mulK ops_mul ha hb
theorem le_div (ha : LO xr X W a ia) (hb : LO xr X W b ib) : LE xr X W (.BinOp a .FloorDiv b pos) (eOp divI ia ib) := le_bin op_fdivK ops_div ha hb
theorem le_mod (ha : LO xr X W a ia) (hb : LO xr X W b ib) : LE xr X W (.BinOp a .Mod b pos) (eOp modI ia ib) := le_bin op_modN ops_mod ha hb
theorem ln_cat (ha : LO xr X W a ia) (hb : LO xr X W b ib) : LN xr X W (.BinOp a .Add b pos) (eOp catL ia ib) := ln_bin op_cat opn_cat ha hb
theorem ln_rep (ha : LO xr X W a ia) (hb : LO xr X W b ib) : LN xr X W (.BinOp a .Mult b pos) (eOp repL ia ib) := ln_bin op_rep opn_rep ha hb
theorem le_catT (ha : LO xr X W a ia) (hb : LO xr X W b ib) : LE xr X W (.BinOp a .Add b pos) (eOp catT ia ib) := le_bin op_catA ops_catT ha hb
theorem le_catS (ha : LO xr X W a ia) (hb : LO xr X W b ib) : LE xr X W (.BinOp a .Add b pos) (eOp catS ia ib) := le_bin op_add_str ops_catS ha hb
@[simp] def negI : Dt → (Dt → Prop) → Prop
  | .int a, P => P (.int (-a))
  | _, _ => False
theorem le_neg (ha : LO xr X W a ia) : LE xr X W (.UnaryOp .USub a pos) (eUn negI ia) := by
  obtain ⟨_, p, s⟩ := ha
  refine ⟨_, pe_un un_neg p, snd_un (fun dr I H x v P pr hx h Q q => ?_) s⟩
  unfold negI at h
  split at h
  · exact ⟨_, hx.int, q _ _ H h Kp.refl (.int _)⟩
  · exact h.elim

/-! ### comparisons -/
@[simp] def ltI : Dt → Dt → (Dt → Prop) → Prop
  | .int a, .int b, P => P (.bl (decide (a < b)))
  | _, _, _ => False
@[simp] def leI : Dt → Dt → (Dt → Prop) → Prop
  | .int a, .int b, P => P (.bl (decide (a ≤ b)))
  | _, _, _ => False
@[simp] def gtI : Dt → Dt → (Dt → Prop) → Prop
  | .int a, .int b, P => P (.bl (decide (b < a)))
  | _, _, _ => False
@[simp] def geI : Dt → Dt → (Dt → Prop) → Prop
  | .int a, .int b, P => P (.bl (decide (b ≤ a)))
  | _, _, _ => False
@[simp] def eqD (x y : Dt) (P : Dt → Prop) : Prop := (okD x ∧ okD y) ∧ P (.bl (eqv x y))
@[simp] def neD (x y : Dt) (P : Dt → Prop) : Prop := (okD x ∧ okD y) ∧ P (.bl (!eqv x y))
@[simp] def inL : Dt → Dt → (Dt → Prop) → Prop
  | x, .lst ys, P => (okD x ∧ okD (.lst ys)) ∧ P (.bl (ys.any fun y => eqv y x))
  | x, .tup ys, P => (okD x ∧ okD (.tup ys)) ∧ P (.bl (ys.any fun y => eqv y x))
  | _, _, _ => False
@[simp] def niL : Dt → Dt → (Dt → Prop) → Prop
  | x, .lst ys, P => (okD x ∧ okD (.lst ys)) ∧ P (.bl (!ys.any fun y => eqv y x))
  | x, .tup ys, P => (okD x ∧ okD (.tup ys)) ∧ P (.bl (!ys.any fun y => eqv y x))
  | _, _, _ => False
@[simp] def isNonD : Dt → Bool
  | .non => true
  | _ => false
@[simp] def isN (x y : Dt) (P : Dt → Prop) : Prop := match y with
  | .non => P (.bl (isNonD x))
  | .bl b => (match x with | .bl a => P (.bl (decide (a = b))) | _ => False)
  | _ => False
@[simp] def niN (x y : Dt) (P : Dt → Prop) : Prop := match y with
  | .non => P (.bl (!isNonD x))
  | .bl b => (match x with | .bl a => P (.bl (!decide (a = b))) | _ => False)
  | _ => False
def CmpS (X : Cx) (op : CmpOp) (f : Dt → Dt → (Dt → Prop) → Prop) : Prop := ∃ r, OpR X (compareOp op) r ∧ OpS X.K r f
theorem c_lt : CmpS X .Lt ltI := ⟨_, op_lt, ops_I0 (gd := fun i j => .bl (decide (i < j))) (fun i j _ _ => .bl _) fun x y P h => by
  unfold ltI at h
  split at h
  · exact ⟨_, _, rfl, rfl, h⟩
  · exact h.elim⟩
theorem c_le : CmpS X .LtE leI := ⟨_, op_le, ops_I0 (gd := fun i j => .bl (decide (i ≤ j))) (fun i j _ _ => .bl _) fun x y P h => by
  unfold leI at h
  split at h
  · exact ⟨_, _, rfl, rfl, h⟩
  · exact h.elim⟩
theorem c_gt : CmpS X .Gt gtI := ⟨_, op_gt, ops_I0 (gd := fun i j => .bl (decide (j < i))) (fun i j _ _ => .bl _) fun x y P h => by
  unfold gtI at h
  split at h
  · exact ⟨_, _, rfl, rfl, h⟩
  · exact h.elim⟩
theorem c_ge : CmpS X .GtE geI := ⟨_, op_ge, ops_I0 (gd := fun i j => .bl (decide (j ≤ i))) (fun i j _ _ => .bl _) fun x y P h => by
  unfold geI at h
  split at h
  · exact ⟨_, _, rfl, rfl, h⟩
  · exact h.elim⟩
theorem c_eq (hu : X.A.units + 65 < cLine) : CmpS X .Eq eqD := ⟨_, op_eqD (by omega), fun dr I H x y v u P p hx hy h Q q =>
  ⟨_, _, hx.dp p h.1.1, hy.dp p h.1.2, h.1.1, h.1.2, q _ _ H h.2 Kp.refl (.bl _)⟩⟩
theorem c_ne (hu : X.A.units + 65 < cLine) : CmpS X .NotEq neD := ⟨_, op_neD (by omega), fun dr I H x y v u P p hx hy h Q q =>
  ⟨_, _, hx.dp p h.1.1, hy.dp p h.1.2, h.1.1, h.1.2, q _ _ H h.2 Kp.refl (.bl _)⟩⟩
def rInDT (K : Fr) : R2 := fun x y H Q => ∃ d ds, Dp K H x d ∧ Dp K H y (.tuple ds) ∧ SeqAt.shaped d = true ∧ SeqAt.shaped (.tuple ds) = true ∧ Q (.bl (ds.any fun z => PyData.eqv z d)) H
def rNotInDT (K : Fr) : R2 := fun x y H Q => ∃ d ds, Dp K H x d ∧ Dp K H y (.tuple ds) ∧ SeqAt.shaped d = true ∧ SeqAt.shaped (.tuple ds) = true ∧ Q (.bl (!ds.any fun z => PyData.eqv z d)) H
theorem op_inDT (hu : X.A.units + 65 < cLine) : OpR X (compareOp .In) (rInDT X.K) := by
  intro pins s σ H x y v u Q I rx ry h
  obtain ⟨d, ds, hd, he, sd, se, q⟩ := h
  obtain ⟨as, r1⟩ := Dp.reads I d x v hd rx
  obtain ⟨bs, r2⟩ := Dp.reads I (.tuple ds) y u he ry
  exact SeqAt.in_tuple_reads r2 r1 (SeqAt.canLay_of_shaped se) (SeqAt.canLay_of_shaped sd) (room_in_shaped sd hu) ⟨.bl _, H, I, rfl, q⟩
theorem op_notInDT (hu : X.A.units + 65 < cLine) : OpR X (compareOp .NotIn) (rNotInDT X.K) := by
  intro pins s σ H x y v u Q I rx ry h
  obtain ⟨d, ds, hd, he, sd, se, q⟩ := h
  obtain ⟨as, r1⟩ := Dp.reads I d x v hd rx
  obtain ⟨bs, r2⟩ := Dp.reads I (.tuple ds) y u he ry
  exact SeqAt.notIn_tuple_reads r2 r1 (SeqAt.canLay_of_shaped se) (SeqAt.canLay_of_shaped sd) (room_in_shaped sd hu) ⟨.bl _, H, I, rfl, q⟩
theorem any_py {x : Dt} : ∀ ys : List Dt, (pyL ys).any (fun z => PyData.eqv z x.py) = ys.any fun y => eqv y x
  | [] => rfl
  | y :: ys => by rw [pyL, List.any_cons, List.any_cons, any_py ys]; rfl
theorem c_in (hu : X.A.units + 65 < cLine) : CmpS X .In inL := by
  refine ⟨_, OpR.or (op_inD hu) (op_inDT hu), fun dr I H x y v u P p hx hy h Q q => ?_⟩
  unfold inL at h
  split at h
  · obtain ⟨⟨h1, h2⟩, h3⟩ := h
    have e := hy.dp p h2
    have h2' := h2
    unfold okD at h2'
    rw [Dt.py] at e h2'
    exact .inl ⟨_, _, hx.dp p h1, e, h1, h2', q _ _ H h3 Kp.refl (by rw [any_py]; exact .bl _)⟩
  · obtain ⟨⟨h1, h2⟩, h3⟩ := h
    have e := hy.dp p h2
    have h2' := h2
    unfold okD at h2'
    rw [Dt.py] at e h2'
    exact .inr ⟨_, _, hx.dp p h1, e, h1, h2', q _ _ H h3 Kp.refl (by rw [any_py]; exact .bl _)⟩
  · exact h.elim
theorem c_ni (hu : X.A.units + 65 < cLine) : CmpS X .NotIn niL := by
  refine ⟨_, OpR.or (op_notInD hu) (op_notInDT hu), fun dr I H x y v u P p hx hy h Q q => ?_⟩
  unfold niL at h
  split at h
  · obtain ⟨⟨h1, h2⟩, h3⟩ := h
    have e := hy.dp p h2
    have h2' := h2
    unfold okD at h2'
    rw [Dt.py] at e h2'
    exact .inl ⟨_, _, hx.dp p h1, e, h1, h2', q _ _ H h3 Kp.refl (by rw [any_py]; exact .bl _)⟩
  · obtain ⟨⟨h1, h2⟩, h3⟩ := h
    have e := hy.dp p h2
    have h2' := h2
    unfold okD at h2'
    rw [Dt.py] at e h2'
    exact .inr ⟨_, _, hx.dp p h1, e, h1, h2', q _ _ H h3 Kp.refl (by rw [any_py]; exact .bl _)⟩
  · exact h.elim
theorem sh_non_iff {K : Fr} {dr : Dr} {I H : Hp} {v : V} {d : Dt} (h : Sh K dr I H v d) : decide (v = .non) = isNonD d := by
  rcases h with h | ⟨p, rfl, _, _, h⟩
  · cases h <;> simp
  · cases d <;> first | exact h.elim | simp
theorem c_is : CmpS X .Is isN := by
  refine ⟨_, OpR.or op_isN op_isBl, fun dr I H x y v u P p hx hy h Q q => ?_⟩
  unfold isN at h
  split at h
  · exact .inl ⟨hy.non, q _ _ H h Kp.refl (by rw [sh_non_iff hx]; exact .bl _)⟩
  · split at h
    · exact .inr ⟨_, _, hx.bl, hy.bl, q _ _ H h Kp.refl (.bl _)⟩
    · exact h.elim
  · exact h.elim
theorem c_isnot : CmpS X .IsNot niN := by
  refine ⟨_, OpR.or op_notN op_notBl, fun dr I H x y v u P p hx hy h Q q => ?_⟩
  unfold niN at h
  split at h
  · refine .inl ⟨hy.non, q _ _ H h Kp.refl ?_⟩
    rw [sh_non_iff hx]
    exact .bl _
  · split at h
    · exact .inr ⟨_, _, hx.bl, hy.bl, q _ _ H h Kp.refl (.bl _)⟩
    · exact h.elim
  · exact h.elim
theorem le_cmp {op : CmpOp} {f : Dt → Dt → (Dt → Prop) → Prop} (hc : CmpS X op f) (ha : LO xr X W a ia) (hb : LO xr X W b ib) (hm : behindInMarks op b = false := by first | exact nomark _ | rfl) : LE xr X W (.Compare a [op] [b] pos) (eOp f ia ib) :=
  let ⟨_, ho, hs⟩ := hc; let ⟨_, p, s⟩ := ha; let ⟨_, q, t⟩ := hb; ⟨_, pe_cmpR ho p q hm, snd_op hs s t⟩
theorem lt_cmp {op : CmpOp} {f : Dt → Dt → (Dt → Prop) → Prop} (hc : CmpS X op f) (ha : LO xr X W a ia) (hb : LO xr X W b ib) (hm : behindInMarks op b = false := by first | exact nomark _ | rfl) : LT xr X W (.Compare a [op] [b] pos) (bT (eOp f ia ib)) :=
  let ⟨_, ho, hs⟩ := hc; let ⟨_, p, s⟩ := ha; let ⟨_, q, t⟩ := hb; ⟨_, pt_cmpR ho p q hm, sndT_test (snd_op hs s t)⟩
theorem le_chain {op op' : CmpOp} {f g : Dt → Dt → (Dt → Prop) → Prop} (hc : CmpS X op f) (hc' : CmpS X op' g) (ha : LO xr X W a ia) (hb : LO xr X W b ib) (hcc : LO xr X W c ic) (hm : lastMarks [op, op'] [b, c] = false := by with_unfolding_all rfl) :
    LE xr X W (.Compare a [op, op'] [b, c] pos) (eChain f g ia ib ic) := by
  obtain ⟨_, ho, hs⟩ := hc
  obtain ⟨_, ho', hs'⟩ := hc'
  obtain ⟨_, p, s⟩ := ha
  obtain ⟨_, p2, s2⟩ := hb
  obtain ⟨_, p3, s3⟩ := hcc
  exact ⟨_, pe_chain ho ho' p p2 p3 hm, snd_chain hs hs' s s2 s3⟩
theorem lt_chain {op op' : CmpOp} {f g : Dt → Dt → (Dt → Prop) → Prop} (hc : CmpS X op f) (hc' : CmpS X op' g) (ha : LO xr X W a ia) (hb : LO xr X W b ib) (hcc : LO xr X W c ic) (hm : lastMarks [op, op'] [b, c] = false := by with_unfolding_all rfl) :
    LT xr X W (.Compare a [op, op'] [b, c] pos) (bT (eChain f g ia ib ic)) := by
  obtain ⟨_, ho, hs⟩ := hc
  obtain ⟨_, ho', hs'⟩ := hc'
  obtain ⟨_, p, s⟩ := ha
  obtain ⟨_, p2, s2⟩ := hb
  obtain ⟨_, p3, s3⟩ := hcc
  exact ⟨_, pt_chain ho ho' p p2 p3 hm, sndT_test (snd_chain hs hs' s s2 s3)⟩

/-! ### tests, and, or, not, if -/
theorem lt_val (h : LE xr X W e ie) (he : ∀ whole, isTrue e X.env whole = (do let v ← whole; standAt e.pos; holding [v] (truthy v)) := by intro _; rfl) : LT xr X W e (bT ie) := let ⟨_, p, s⟩ := h; ⟨_, pt_val p he, sndT_B s⟩
theorem lt_not (h : LT xr X W e it) : LT xr X W (.UnaryOp .Not e pos) (bNot it) := let ⟨_, p, s⟩ := h; ⟨_, pt_not p, sndT_not s⟩
theorem lw_and1 (h : LT xr X W e it) : LW xr X W (.BoolOp .And [e] pos) it := let ⟨_, p, s⟩ := h; ⟨_, pw_and1 p, s⟩
theorem lw_or1 (h : LT xr X W e it) : LW xr X W (.BoolOp .Or [e] pos) it := let ⟨_, p, s⟩ := h; ⟨_, pw_or1 p, s⟩
theorem lw_and (h : LT xr X W e it) (hr : LW xr X W (.BoolOp .And (b :: es) pos) iu) : LW xr X W (.BoolOp .And (e :: b :: es) pos) (bAnd it iu) := let ⟨_, p, s⟩ := h; let ⟨_, q, t⟩ := hr; ⟨_, pw_and p q, sndT_and s t⟩
theorem lw_or (h : LT xr X W e it) (hr : LW xr X W (.BoolOp .Or (b :: es) pos) iu) : LW xr X W (.BoolOp .Or (e :: b :: es) pos) (bOr it iu) := let ⟨_, p, s⟩ := h; let ⟨_, q, t⟩ := hr; ⟨_, pw_or p q, sndT_or s t⟩
theorem LW.t (h : LW xr X W e it) : LT xr X W e it := let ⟨_, p, s⟩ := h; ⟨_, p.pt, s⟩
theorem le_one {op} (h : LE xr X W e ie) : LE xr X W (.BoolOp op [e] pos) ie := let ⟨_, p, s⟩ := h; ⟨_, pe_one p, s⟩
theorem le_and (h : LE xr X W e ie) (hr : LE xr X W (.BoolOp .And (b :: es) pos) ib) : LE xr X W (.BoolOp .And (e :: b :: es) pos) (eAnd ie ib) := let ⟨_, p, s⟩ := h; let ⟨_, q, t⟩ := hr; ⟨_, pe_and p q, snd_and s t⟩
theorem le_or (h : LE xr X W e ie) (hr : LE xr X W (.BoolOp .Or (b :: es) pos) ib) : LE xr X W (.BoolOp .Or (e :: b :: es) pos) (eOr ie ib) := let ⟨_, p, s⟩ := h; let ⟨_, q, t⟩ := hr; ⟨_, pe_or p q, snd_or s t⟩
theorem le_not (h : LE xr X W e ie) : LE xr X W (.UnaryOp .Not e pos) (eNot ie) := let ⟨_, p, s⟩ := h; ⟨_, pe_not p, snd_not s⟩
theorem le_if (hc : LT xr X W c it) (ha : LE xr X W a ia) (hb : LE xr X W b ib) : LE xr X W (.IfExp c a b pos) (eIf it ia ib) := let ⟨_, p, s⟩ := hc; let ⟨_, p2, s2⟩ := ha; let ⟨_, p3, s3⟩ := hb; ⟨_, pe_ifExp p p2 p3, snd_if s s2 s3⟩
theorem ln_if (hc : LT xr X W c it) (ha : LN xr X W a ia) (hb : LN xr X W b ib) : LN xr X W (.IfExp c a b pos) (eIf it ia ib) := let ⟨_, p, s⟩ := hc; let ⟨_, p2, s2⟩ := ha; let ⟨_, p3, s3⟩ := hb; ⟨_, pe_ifExp p p2 p3, sndN_if s s2 s3⟩
end
end DL

set_option maxRecDepth 100000
/-! DL4: subscripts, slices, built-in calls, calls of defs, comprehensions. -/
namespace DL
open PySem L2 PyProof.Rows

/-! ### subscripts -/
@[simp] def ixD : Dt → Dt → (Dt → Prop) → Prop
  | .lst xs, .int i, P => ∃ d, atI xs i = some d ∧ P d
  | .tup xs, .int i, P => ∃ d, atI xs i = some d ∧ P d
  | .str x, .int i, P => x.length ≤ 16777216 ∧ ∃ c, atI x.cps.toList i = some c ∧ P (.str ⟨#[c]⟩)
  | _, _, _ => False
theorem RpL.atI {K : Fr} {dr : Dr} {H : Hp} {vs : List V} {ds : List Dt} {i : Int} {d : Dt} (r : RpL K dr H vs ds) (h : L2.atI ds i = some d) : ∃ v, L2.atI vs i = some v ∧ Rp K dr H v d := by
  unfold L2.atI at h ⊢
  rw [r.len]
  cases e : ixN ds.length i with
  | none => rw [e] at h; cases h
  | some j =>
    rw [e] at h
    exact r.get h
theorem ops_ix {K : Fr} : OpS K (fun x y H Q => rIxL K x y H Q ∨ rIxT K x y H Q ∨ rIxS x y H Q) ixD := by
  intro dr I H x y v u P p hx hy h Q q
  unfold ixD at h
  split at h
  · obtain ⟨d, e, hP⟩ := h
    obtain ⟨a, vs, rfl, ha, r⟩ := hx.lst p.sub
    obtain ⟨w, e2, rw'⟩ := r.atI e
    exact .inl ⟨a, vs, _, w, rfl, hy.int, SqL.of ha, e2, q _ _ H hP Kp.refl (rp_at p rw')⟩
  · obtain ⟨d, e, hP⟩ := h
    obtain ⟨a, vs, rfl, ha, r⟩ := hx.tup p.sub
    obtain ⟨w, e2, rw'⟩ := r.atI e
    exact .inr (.inl ⟨a, vs, _, w, rfl, hy.int, ha, e2, q _ _ H hP Kp.refl (rp_at p rw')⟩)
  · obtain ⟨hz, c, e, hP⟩ := h
    exact .inr (.inr ⟨_, _, c, hx.str, hy.int, size_le hz, e, q _ _ H hP Kp.refl (.str _)⟩)
  · exact h.elim

/-! ### slices -/
def cut {α : Type} (xs : List α) (lo hi : Option Int) : List α := (xs.drop (HT.sIx xs.length 0 lo)).take (HT.sIx xs.length xs.length hi - HT.sIx xs.length 0 lo)
theorem RpL.cut {K : Fr} {dr : Dr} {H : Hp} {vs : List V} {ds : List Dt} {lo hi : Option Int} (r : RpL K dr H vs ds) : RpL K dr H (cutV vs lo hi) (cut ds lo hi) := by
  unfold cutV DL.cut
  rw [r.len]
  exact (r.drop _).take _
@[simp] def pNo : IP := fun _ P _ => P none
@[simp] def asI : Dt → (Int → Prop) → Prop
  | .int i, P => P i
  | _, _ => False
@[simp] def pAt (ia : IE) : IP := fun env P E => ia env (fun x => asI x fun i => P (some i)) E
section
variable {K : Fr} {xr : XR} {W : WX} {te : TE} {ie : IE} {t1 t2 : TO} {i1 i2 : IP}
theorem isInt {dr : Dr} {H : Hp} {v : V} {d : Dt} {P : Int → Prop} (r : Rp K dr H v d) (h : asI d P) : ∃ b, v = .int b ∧ P b := by
  cases d with
  | int b => cases r; exact ⟨b, rfl, h⟩
  | _ => exact h.elim
theorem sndP_no : SndP K xr W tNoPart pNo := fun dr env σ I H P E p ev hi o Q q => q none H hi Kp.refl
theorem sndP_at (ha : Snd K xr W te ie) : SndP K xr W (tPart te) (pAt ie) := fun dr env σ I H P E p ev hi o Q q =>
  ha dr env σ I H _ E p ev hi o _ fun x v H1 hx k1 r1 => let ⟨b, e, hb⟩ := isInt r1 hx; ⟨b, e, q _ H1 hb k1⟩
def SlS (K : Fr) (r : V → Option Int → Option Int → Hp → VK → Prop) (f : Dt → Option Int → Option Int → (Dt → Prop) → Prop) : Prop := ∀ dr I H x v lo hi P, Pre dr I H → Sh K dr I H v x → f x lo hi P → ∀ Q : VK, (∀ d w H', P d → Kp dr H H' → Rp K dr (ext I H H') w d → Q w H') → r v lo hi H Q
def SlN (K : Fr) (r : V → Option Int → Option Int → Hp → VK → Prop) (f : Dt → Option Int → Option Int → (Dt → Prop) → Prop) : Prop := ∀ dr I H x v lo hi P, Pre dr I H → Sh K dr I H v x → f x lo hi P → ∀ Q : VK, (∀ d w H', P d → Kp dr H H' → New K dr I H H' w d → Q w H') → r v lo hi H Q
@[simp] def eSl (f : Dt → Option Int → Option Int → (Dt → Prop) → Prop) (ia : IE) (i1 i2 : IP) : IE := fun env P E => ia env (fun x => i1 env (fun lo => i2 env (fun hi => f x lo hi P) E) E) E
theorem sl_three (ha : SndO K xr W te ie) (h1 : SndP K xr W t1 i1) (h2 : SndP K xr W t2 i2) {dr : Dr} {env : List Sl} {σ : L2.St} {I H : Hp} {R : Dt → Option Int → Option Int → Prop} {E : Xc → Prop} (p : Pre dr I H) (ev : EnvOk K dr env σ I H)
    (hi : ie env (fun x => i1 env (fun lo => i2 env (fun hi => R x lo hi) E) E) E) (o : OutE xr W dr σ H E) (Q : V → Option Int → Option Int → Hp → Prop)
    (q : ∀ x v lo hi H', R x lo hi → Kp dr H H' → Pre dr (ext I H H') H' → Sh K dr (ext I H H') H' v x → Q v lo hi H') : te σ H fun v H1 => t1 σ H1 fun lo H2 => t2 σ H2 fun hi H3 => Q v lo hi H3 := by
  refine ha dr env σ I H _ E p ev hi o _ fun x v H1 hx k1 r1 => ?_
  have p1 := p.step k1
  have ev1 := ev.step k1 p
  refine h1 dr env σ _ H1 _ E p1 ev1 hx (o.step k1) _ fun lo H2 hlo k2 => ?_
  have p2 := p1.step k2
  refine h2 dr env σ _ H2 _ E p2 (ev1.step k2 p1) hlo ((o.step k1).step k2) _ fun hi H3 hhi k3 => ?_
  have p3 := p2.step k3
  have r3 := (r1.mono k2 p1).mono k3 p2
  have e1 := p1.ext_ext k2 k3
  have e2 := p.ext_ext k1 (k2.trans k3)
  rw [e1, e2] at r3 p3
  exact q x v lo hi H3 hhi (k1.trans (k2.trans k3)) p3 r3
theorem snd_sl {r : V → Option Int → Option Int → Hp → VK → Prop} {f : Dt → Option Int → Option Int → (Dt → Prop) → Prop} (hr : SlS K r f) (ha : SndO K xr W te ie) (h1 : SndP K xr W t1 i1) (h2 : SndP K xr W t2 i2) : Snd K xr W (tSl r te t1 t2) (eSl f ie i1 i2) := fun dr env σ I H P E p ev hi o Q q =>
  sl_three ha h1 h2 p ev hi o (fun v lo hi H' => r v lo hi H' Q) fun x v lo hi H2 hR k p2 r1 => hr dr _ H2 x v lo hi P p2 r1 hR Q fun d w H3 hP k3 r3 => q d w H3 hP (k.trans k3) (ext_back p k k3 r3)
theorem sndN_sl {r : V → Option Int → Option Int → Hp → VK → Prop} {f : Dt → Option Int → Option Int → (Dt → Prop) → Prop} (hr : SlN K r f) (ha : SndO K xr W te ie) (h1 : SndP K xr W t1 i1) (h2 : SndP K xr W t2 i2) : SndN K xr W (tSl r te t1 t2) (eSl f ie i1 i2) := fun dr env σ I H P E p ev hi o Q q =>
  sl_three ha h1 h2 p ev hi o (fun v lo hi H' => r v lo hi H' Q) fun x v lo hi H2 hR k p2 r1 => hr dr _ H2 x v lo hi P p2 r1 hR Q fun d w H3 hP k3 r3 => q d w H3 hP (k.trans k3) (r3.back p k k3)
@[simp] def slL : Dt → Option Int → Option Int → (Dt → Prop) → Prop
  | .lst xs, lo, hi, P => P (.lst (cut xs lo hi))
  | _, _, _, _ => False
@[simp] def slT : Dt → Option Int → Option Int → (Dt → Prop) → Prop
  | .tup xs, lo, hi, P => P (.tup (cut xs lo hi))
  | _, _, _, _ => False
theorem sln_list : SlN K (rSlL K) slL := by
  intro dr I H x v lo hi P p hx h Q q
  unfold slL at h
  split at h
  · obtain ⟨a, vs, rfl, ha, r⟩ := hx.lst p.sub
    exact ⟨a, vs, rfl, SqL.of ha, fun l hl => q _ _ _ h (Kp.new p hl) (new_lst p hl r.cut)⟩
  · exact h.elim
theorem sls_tup : SlS K (rSlA K) slT := by
  intro dr I H x v lo hi P p hx h Q q
  unfold slT at h
  split at h
  · obtain ⟨a, vs, rfl, ha, r⟩ := hx.tup p.sub
    rename_i xs
    have rx : Rp K dr I (.ref a) (.tup xs) := by
      rcases hx with hx | ⟨_, _, _, _, h3⟩
      · exact hx
      · exact h3.elim
    refine ⟨a, vs, rfl, ha, fun hw => ?_, fun _ l hl => q _ _ _ h (Kp.new p hl) (rp_new_tup p hl r.cut)⟩
    refine q _ _ H h Kp.refl (rp_at p ?_)
    rw [r.len] at hw
    unfold cut
    rw [hw.1, hw.2, List.drop_zero, Nat.sub_zero, List.take_length]
    exact rx
  · exact h.elim
end

/-! ### built-in calls -/
@[simp] def f1 (f : Dt → (Dt → Prop) → Prop) : List Dt → (Dt → Prop) → Prop
  | [x], P => f x P
  | _, _ => False
@[simp] def f2 (f : Dt → Dt → (Dt → Prop) → Prop) : List Dt → (Dt → Prop) → Prop
  | [x, y], P => f x y P
  | _, _ => False
theorem shl1 {K : Fr} {dr : Dr} {I H : Hp} {vs : List V} {x : Dt} (h : ShL K dr I H vs [x]) : ∃ v, vs = [v] ∧ Sh K dr I H v x := by
  match vs, h with
  | [v], h => exact ⟨v, rfl, h.1⟩
  | [], h => exact h.elim
  | _ :: _ :: _, h => exact h.2.elim
theorem shl2 {K : Fr} {dr : Dr} {I H : Hp} {vs : List V} {x y : Dt} (h : ShL K dr I H vs [x, y]) : ∃ v u, vs = [v, u] ∧ Sh K dr I H v x ∧ Sh K dr I H u y := by
  match vs, h with
  | [v, u], h => exact ⟨v, u, rfl, h.1, h.2.1⟩
  | [], h => exact h.elim
  | [_], h => exact h.2.elim
  | _ :: _ :: _ :: _, h => exact h.2.2.elim
@[simp] def lenD : Dt → (Dt → Prop) → Prop
  | .lst xs, P => P (.int xs.length)
  | .tup xs, P => P (.int xs.length)
  | .str x, P => x.length ≤ 16777216 ∧ P (.int x.length)
  | .dic ks _, P => P (.int ks.length)
  | _, _ => False
@[simp] def absD : Dt → (Dt → Prop) → Prop
  | .int i, P => P (.int (if i < 0 then -i else i))
  | _, _ => False
@[simp] def intD : Dt → (Dt → Prop) → Prop
  | .int i, P => P (.int i)
  | .bl b, P => P (.int (if b then 1 else 0))
  | _, _ => False
@[simp] def strD : Dt → (Dt → Prop) → Prop
  | .int i, P => i.natAbs.log2 < 1920 ∧ P (.str (toString i))
  | _, _ => False
@[simp] def tupD : Dt → (Dt → Prop) → Prop
  | .lst xs, P => P (.tup xs)
  | .tup xs, P => P (.tup xs)
  | _, _ => False
@[simp] def lstD : Dt → (Dt → Prop) → Prop
  | .lst xs, P => P (.lst xs)
  | .tup xs, P => P (.lst xs)
  | _, _ => False
@[simp] def allD : Dt → (Dt → Prop) → Prop
  | .lst xs, P => ∃ bs : List Bool, xs = bs.map Dt.bl ∧ P (.bl (bs.all id))
  | _, _ => False
@[simp] def anyD : Dt → (Dt → Prop) → Prop
  | .lst xs, P => ∃ bs : List Bool, xs = bs.map Dt.bl ∧ P (.bl (bs.any id))
  | _, _ => False
@[simp] def sumD : Dt → (Dt → Prop) → Prop
  | .lst xs, P => ∃ ns : List Int, xs = ns.map Dt.int ∧ P (.int ns.sum)
  | _, _ => False
@[simp] def min2 : Dt → Dt → (Dt → Prop) → Prop
  | .int i, .int j, P => P (.int (if j < i then j else i))
  | _, _, _ => False
@[simp] def max2 : Dt → Dt → (Dt → Prop) → Prop
  | .int i, .int j, P => P (.int (if j > i then j else i))
  | _, _, _ => False
section
variable {K : Fr}
theorem RpL.bls {dr : Dr} {H : Hp} : ∀ {bs : List Bool} {vs : List V}, RpL K dr H vs (bs.map Dt.bl) → vs = bs.map V.bl
  | [], _, h => by cases h; rfl
  | b :: bs, _, h => by
    cases h with
    | cons h1 h2 => cases h1; rw [RpL.bls h2]; rfl
theorem RpL.ints {dr : Dr} {H : Hp} : ∀ {bs : List Int} {vs : List V}, RpL K dr H vs (bs.map Dt.int) → vs = bs.map V.int
  | [], _, h => by cases h; rfl
  | b :: bs, _, h => by
    cases h with
    | cons h1 h2 => cases h1; rw [RpL.ints h2]; rfl
theorem cas_len : CaS K (fun xs H Q => (∃ p ys, xs = [.ref p] ∧ (SqL K H p ys ∨ SqT K H p ys) ∧ Q (.int ys.length) H) ∨ (∃ z, xs = [.str z] ∧ z.length ≤ sizeLine ∧ Q (.int z.length) H) ∨ ∃ d kvs, xs = [.ref d] ∧ H d = some (.dK kvs) ∧ Q (.int kvs.length) H) (f1 lenD) := by
  intro dr I H xs vs P p hs h Q q
  match xs, h with
  | [x], h =>
    obtain ⟨v, rfl, hx⟩ := shl1 hs
    replace h : lenD x P := h
    unfold lenD at h
    split at h
    · obtain ⟨a, vs, rfl, ha, r⟩ := hx.lst p.sub
      exact .inl ⟨a, vs, rfl, .inl (SqL.of ha), q _ _ H h Kp.refl (by rw [r.len]; exact .int _)⟩
    · obtain ⟨a, vs, rfl, ha, r⟩ := hx.tup p.sub
      exact .inl ⟨a, vs, rfl, .inr ha, q _ _ H h Kp.refl (by rw [r.len]; exact .int _)⟩
    · obtain rfl := hx.str
      exact .inr (.inl ⟨_, rfl, size_le h.1, q _ _ H h.2 Kp.refl (.int _)⟩)
    · rename_i ks ds
      have hh : ∃ (a : Addr) (vs : List V), v = .ref a ∧ H a = some (.dK (ks.zip vs)) ∧ ks.length = vs.length := by
        rcases hx with hx | ⟨a, rfl, _, _, ws, h1, h2, h3⟩
        · cases hx with
          | dic h1 h2 h3 => exact ⟨_, _, rfl, p.sub _ _ h1, h2⟩
        · exact ⟨a, ws, rfl, h1, h2⟩
      obtain ⟨a, ws, rfl, ha, hl⟩ := hh
      refine .inr (.inr ⟨a, _, rfl, ha, q _ _ H h Kp.refl ?_⟩)
      rw [List.length_zip, ← hl, Nat.min_self]
      exact .int _
    · exact h.elim
theorem cas_abs : CaS K (fun xs H Q => ∃ i, xs = [.int i] ∧ Q (.int (if i < 0 then -i else i)) H) (f1 absD) := by
  intro dr I H xs vs P p hs h Q q
  match xs, h with
  | [x], h =>
    obtain ⟨v, rfl, hx⟩ := shl1 hs
    replace h : absD x P := h
    unfold absD at h
    split at h
    · obtain rfl := hx.int
      exact ⟨_, rfl, q _ _ H h Kp.refl (.int _)⟩
    · exact h.elim
theorem cas_int : CaS K (fun xs H Q => (∃ i, xs = [.int i] ∧ Q (.int i) H) ∨ ∃ k, xs = [.bl k] ∧ Q (.int (if k then 1 else 0)) H) (f1 intD) := by
  intro dr I H xs vs P p hs h Q q
  match xs, h with
  | [x], h =>
    obtain ⟨v, rfl, hx⟩ := shl1 hs
    replace h : intD x P := h
    unfold intD at h
    split at h
    · obtain rfl := hx.int
      exact .inl ⟨_, rfl, q _ _ H h Kp.refl (.int _)⟩
    · obtain rfl := hx.bl
      exact .inr ⟨_, rfl, q _ _ H h Kp.refl (.int _)⟩
    · exact h.elim
theorem cas_str : CaS K (fun xs H Q => ∃ i, xs = [.int i] ∧ i.natAbs.log2 < 1920 ∧ Q (.str (toString i)) H) (f1 strD) := by
  intro dr I H xs vs P p hs h Q q
  match xs, h with
  | [x], h =>
    obtain ⟨v, rfl, hx⟩ := shl1 hs
    replace h : strD x P := h
    unfold strD at h
    split at h
    · obtain rfl := hx.int
      exact ⟨_, rfl, h.1, q _ _ H h.2 Kp.refl (.str _)⟩
    · exact h.elim
theorem cas_tup : CaS K (fun xs H Q => ∃ p ys, xs = [.ref p] ∧ ((SqL K H p ys ∧ ∀ l, H l = none → Q (.ref l) (upd H l (.tup ys))) ∨ (SqT K H p ys ∧ Q (.ref p) H))) (f1 tupD) := by
  intro dr I H xs vs P p hs h Q q
  match xs, h with
  | [x], h =>
    obtain ⟨v, rfl, hx⟩ := shl1 hs
    replace h : tupD x P := h
    unfold tupD at h
    split at h
    · obtain ⟨a, vs, rfl, ha, r⟩ := hx.lst p.sub
      exact ⟨a, vs, rfl, .inl ⟨SqL.of ha, fun l hl => q _ _ _ h (Kp.new p hl) (rp_new_tup p hl r)⟩⟩
    · obtain ⟨a, vs, rfl, ha, r⟩ := hx.tup p.sub
      refine ⟨a, vs, rfl, .inr ⟨ha, q _ _ H h Kp.refl (rp_at p ?_)⟩⟩
      rcases hx with hx | ⟨_, _, _, _, h3⟩
      · exact hx
      · exact h3.elim
    · exact h.elim
theorem can_lst : CaN K (fun xs H Q => ∃ p ys, xs = [.ref p] ∧ (SqL K H p ys ∨ SqT K H p ys) ∧ ∀ l, H l = none → Q (.ref l) (upd H l (.lst ys))) (f1 lstD) := by
  intro dr I H xs vs P p hs h Q q
  match xs, h with
  | [x], h =>
    obtain ⟨v, rfl, hx⟩ := shl1 hs
    replace h : lstD x P := h
    unfold lstD at h
    split at h
    · obtain ⟨a, vs, rfl, ha, r⟩ := hx.lst p.sub
      exact ⟨a, vs, rfl, .inl (SqL.of ha), fun l hl => q _ _ _ h (Kp.new p hl) (new_lst p hl r)⟩
    · obtain ⟨a, vs, rfl, ha, r⟩ := hx.tup p.sub
      exact ⟨a, vs, rfl, .inr ha, fun l hl => q _ _ _ h (Kp.new p hl) (new_lst p hl r)⟩
    · exact h.elim
theorem cas_all : CaS K (rAll K) (f1 allD) := by
  intro dr I H xs vs P p hs h Q q
  match xs, h with
  | [x], h =>
    obtain ⟨v, rfl, hx⟩ := shl1 hs
    replace h : allD x P := h
    unfold allD at h
    split at h
    · obtain ⟨bs, rfl, hP⟩ := h
      obtain ⟨a, vs, rfl, ha, r⟩ := hx.lst p.sub
      obtain rfl := r.bls
      exact ⟨a, bs, rfl, SqL.of ha, q _ _ H hP Kp.refl (.bl _)⟩
    · exact h.elim
theorem cas_any : CaS K (rAny K) (f1 anyD) := by
  intro dr I H xs vs P p hs h Q q
  match xs, h with
  | [x], h =>
    obtain ⟨v, rfl, hx⟩ := shl1 hs
    replace h : anyD x P := h
    unfold anyD at h
    split at h
    · obtain ⟨bs, rfl, hP⟩ := h
      obtain ⟨a, vs, rfl, ha, r⟩ := hx.lst p.sub
      obtain rfl := r.bls
      exact ⟨a, bs, rfl, SqL.of ha, q _ _ H hP Kp.refl (.bl _)⟩
    · exact h.elim
theorem cas_sum : CaS K (rSum K) (f1 sumD) := by
  intro dr I H xs vs P p hs h Q q
  match xs, h with
  | [x], h =>
    obtain ⟨v, rfl, hx⟩ := shl1 hs
    replace h : sumD x P := h
    unfold sumD at h
    split at h
    · obtain ⟨bs, rfl, hP⟩ := h
      obtain ⟨a, vs, rfl, ha, r⟩ := hx.lst p.sub
      obtain rfl := r.ints
      exact ⟨a, bs, rfl, SqL.of ha, q _ _ H hP Kp.refl (.int _)⟩
    · exact h.elim
theorem cas_min2 : CaS K (fun xs H Q => ∃ i j, xs = [.int i, .int j] ∧ Q (.int (if j < i then j else i)) H) (f2 min2) := by
  intro dr I H xs vs P p hs h Q q
  match xs, h with
  | [x, y], h =>
    obtain ⟨v, u, rfl, hx, hy⟩ := shl2 hs
    replace h : min2 x y P := h
    unfold min2 at h
    split at h
    · obtain rfl := hx.int
      obtain rfl := hy.int
      exact ⟨_, _, rfl, q _ _ H h Kp.refl (.int _)⟩
    · exact h.elim
theorem cas_max2 : CaS K (fun xs H Q => ∃ i j, xs = [.int i, .int j] ∧ Q (.int (if j > i then j else i)) H) (f2 max2) := by
  intro dr I H xs vs P p hs h Q q
  match xs, h with
  | [x, y], h =>
    obtain ⟨v, u, rfl, hx, hy⟩ := shl2 hs
    replace h : max2 x y P := h
    unfold max2 at h
    split at h
    · obtain rfl := hx.int
      obtain rfl := hy.int
      exact ⟨_, _, rfl, q _ _ H h Kp.refl (.int _)⟩
    · exact h.elim
end

/-! ### isinstance of a built-in class -/
def tyS : Dt → String
  | .non => "NoneType"
  | .bl _ => "bool"
  | .int _ => "int"
  | .str _ => "str"
  | .lst _ => "list"
  | .tup _ => "tuple"
  | .dic _ _ => "dict"
  | .dit _ _ => "dict"
  | .st => "list"
@[simp] def isiD (T : String) (x : Dt) (P : Dt → Prop) : Prop := ∃ b, kitB (tyS x) T = some b ∧ P (.bl b)
@[simp] def eIsi (T : String) (ia : IE) : IE := fun env P E => ia env (fun x => isiD T x P) E
theorem Sh.ty {K : Fr} {dr : Dr} {I H : Hp} {v : V} {d : Dt} (p : Pre dr I H) (h : Sh K dr I H v d) : TyX K H v (.type (tyS d)) := by
  rcases h with h | ⟨a, rfl, _, _, h⟩
  · have h := h.mono p.sub
    cases h with
    | non => exact .base .non
    | bl b => exact .base (.bl b)
    | int b => exact .base (.int b)
    | str b => exact .base (.str b)
    | lst e _ => exact .base (.lst e)
    | tup e _ =>
      rcases e with (e | ⟨o, e⟩) | ⟨o, its, n, e, c, _⟩
      · exact .base (.tup e)
      · exact .fTuple e
      · exact .kTuple e c
    | dic e _ _ => exact .base (.dK e)
    | dit e _ _ => exact .base (.dT e)
    | @st q e => obtain ⟨i, cs, h1, _⟩ := p.dro q e; exact .base (.lst h1)
  · cases d with
    | lst ds => obtain ⟨vs, h1, _⟩ := h; exact .base (.lst h1)
    | dic ks ds => obtain ⟨vs, h1, _⟩ := h; exact .base (.dK h1)
    | dit ks ds => obtain ⟨vs, h1, _⟩ := h; exact .base (.dT h1)
    | _ => exact h.elim
theorem snd_isi {K : Fr} {xr : XR} {W : WX} {ta : TE} {ia : IE} {T : String} (ha : SndO K xr W ta ia) : Snd K xr W (tCB (rIsi K) (tCons ta (tCons (tC (.ty T)) tNil))) (eIsi T ia) := fun dr env σ I H P E p ev hi o Q q =>
  ha dr env σ I H _ E p ev hi o _ fun x v H1 hx k1 r1 => let ⟨b, hb, hP⟩ := hx; ⟨v, .ty T, .type (tyS x), .type T, b, rfl, .ty T, r1.ty (p.step k1), kit_ty hb, q _ _ H1 hP k1 (.bl b)⟩
end DL

set_option maxRecDepth 100000
/-! DL5: links of subscripts and calls; what loops walk; comprehensions. -/
namespace DL
open PySem L2 PyProof.Rows

section
variable {xr : XR} {X : Cx} {W : WX} {e a b c : Expr} {es : List Expr} {ie ia ib ic : IE} {it iu : IT} {il : IA} {i1 i2 : IP} {pos : Pos}
theorem le_ix (ha : LO xr X W a ia) (hb : LO xr X W b ib) (hs : PlainIx b := by exact fun _ _ => rfl) : LE xr X W (.Subscript a b pos) (eOp ixD ia ib) :=
  let ⟨_, p, s⟩ := ha; let ⟨_, q, t⟩ := hb; ⟨_, pe_ix ix_seq p q hs, snd_op ops_ix s t⟩
theorem lp_no : LP xr X W none pNo := ⟨_, po_none, sndP_no⟩
theorem lp_at (h : LE xr X W e ie) : LP xr X W (some e) (pAt ie) := let ⟨_, p, s⟩ := h; ⟨_, po_some p, sndP_at s⟩
theorem ln_slL {lo hi : Option Expr} {p2 : Pos} (ha : LO xr X W a ia) (h1 : LP xr X W lo i1) (h2 : LP xr X W hi i2) : LN xr X W (.Subscript a (.Slice lo hi none p2) pos) (eSl slL ia i1 i2) :=
  let ⟨_, p, s⟩ := ha; let ⟨_, p1, s1⟩ := h1; let ⟨_, p3, s3⟩ := h2; ⟨_, pe_slice sl_list p p1 p3, sndN_sl sln_list s s1 s3⟩
theorem le_slT {lo hi : Option Expr} {p2 : Pos} (ha : LO xr X W a ia) (h1 : LP xr X W lo i1) (h2 : LP xr X W hi i2) : LE xr X W (.Subscript a (.Slice lo hi none p2) pos) (eSl slT ia i1 i2) :=
  let ⟨_, p, s⟩ := ha; let ⟨_, p1, s1⟩ := h1; let ⟨_, p3, s3⟩ := h2; ⟨_, pe_slice sl_tupA p p1 p3, snd_sl sls_tup s s1 s3⟩

/-! ### built-in names called -/
theorem le_fB {x : Str} {p : Pos} {id : String} {r : List V → Hp → VK → Prop} {f : List Dt → (Dt → Prop) → Prop} (hr : CallR X (.builtin id) r) (hs : CaS X.K r f) (hg : Gl X x) (hm : X.mg x = none) (hv : bootBuiltins x = some (.builtin id)) (ha : LAO xr X W (e :: es) il)
    (hn : x ≠ "__name__" := by decide) (hdb : (x == ("__debug__" : Str)) = false := by decide)
    (he : starEach (e :: es) X.env = (false, eval e X.env) :: starEach es X.env := by rfl) (hpl : (backTo pos (starEach es X.env)).any (·.1) = false := by rfl) : LE xr X W (.Call (.Name x p) (e :: es) [] pos) (eCB f il) :=
  let ⟨_, q, s⟩ := ha; ⟨_, pe_callB hr hg hm hv q hn hdb he hpl, snd_cb hs s⟩
theorem le_fT {x : Str} {p : Pos} {id : String} {r : List V → Hp → VK → Prop} {f : List Dt → (Dt → Prop) → Prop} (hr : CallR X (.type id) r) (hs : CaS X.K r f) (hg : Gl X x) (hm : X.mg x = none) (hv : bootBuiltins x = some (.type id)) (ha : LAO xr X W (e :: es) il)
    (hn : x ≠ "__name__" := by decide) (hdb : (x == ("__debug__" : Str)) = false := by decide)
    (he : starEach (e :: es) X.env = (false, eval e X.env) :: starEach es X.env := by rfl) (hpl : (backTo pos (starEach es X.env)).any (·.1) = false := by rfl) : LE xr X W (.Call (.Name x p) (e :: es) [] pos) (eCB f il) :=
  let ⟨_, q, s⟩ := ha; ⟨_, pe_callTy hr hg hm hv q hn hdb he hpl, snd_cb hs s⟩
theorem ln_fT {x : Str} {p : Pos} {id : String} {r : List V → Hp → VK → Prop} {f : List Dt → (Dt → Prop) → Prop} (hr : CallR X (.type id) r) (hs : CaN X.K r f) (hg : Gl X x) (hm : X.mg x = none) (hv : bootBuiltins x = some (.type id)) (ha : LAO xr X W (e :: es) il)
    (hn : x ≠ "__name__" := by decide) (hdb : (x == ("__debug__" : Str)) = false := by decide)
    (he : starEach (e :: es) X.env = (false, eval e X.env) :: starEach es X.env := by rfl) (hpl : (backTo pos (starEach es X.env)).any (·.1) = false := by rfl) : LN xr X W (.Call (.Name x p) (e :: es) [] pos) (eCB f il) :=
  let ⟨_, q, s⟩ := ha; ⟨_, pe_callTy hr hg hm hv q hn hdb he hpl, sndN_cb hs s⟩
section
variable {p : Pos}
theorem le_len (hg : Gl X "len") (hm : X.mg "len" = none) (ha : LO xr X W a ia) (hs : starEach [a] X.env = (false, eval a X.env) :: starEach [] X.env := by rfl) : LE xr X W (.Call (.Name "len" p) [a] [] pos) (eCB (f1 lenD) (aCons ia aNil)) :=
  le_fB (CallR.or call_len_seq (CallR.or call_len_str call_lenD)) cas_len hg hm boot_len (lao_cons ha lao_nil hs) (he := hs)
theorem le_abs (hg : Gl X "abs") (hm : X.mg "abs" = none) (ha : LO xr X W a ia) (hs : starEach [a] X.env = (false, eval a X.env) :: starEach [] X.env := by rfl) : LE xr X W (.Call (.Name "abs" p) [a] [] pos) (eCB (f1 absD) (aCons ia aNil)) :=
  le_fB call_abs cas_abs hg hm (by decide +kernel) (lao_cons ha lao_nil hs) (he := hs)
theorem le_intC (hg : Gl X "int") (hm : X.mg "int" = none) (ha : LO xr X W a ia) (hs : starEach [a] X.env = (false, eval a X.env) :: starEach [] X.env := by rfl) : LE xr X W (.Call (.Name "int" p) [a] [] pos) (eCB (f1 intD) (aCons ia aNil)) :=
  le_fT call_int1 cas_int hg hm (by decide +kernel) (lao_cons ha lao_nil hs) (he := hs)
theorem le_strC (hg : Gl X "str") (hm : X.mg "str" = none) (ha : LO xr X W a ia) (hs : starEach [a] X.env = (false, eval a X.env) :: starEach [] X.env := by rfl) : LE xr X W (.Call (.Name "str" p) [a] [] pos) (eCB (f1 strD) (aCons ia aNil)) :=
  le_fT call_str_int cas_str hg hm (by decide +kernel) (lao_cons ha lao_nil hs) (he := hs)
theorem le_tupC (hg : Gl X "tuple") (hm : X.mg "tuple" = none) (ha : LO xr X W a ia) (hs : starEach [a] X.env = (false, eval a X.env) :: starEach [] X.env := by rfl) : LE xr X W (.Call (.Name "tuple" p) [a] [] pos) (eCB (f1 tupD) (aCons ia aNil)) :=
  le_fT call_tuple_of cas_tup hg hm (by decide +kernel) (lao_cons ha lao_nil hs) (he := hs)
theorem ln_lstC (hg : Gl X "list") (hm : X.mg "list" = none) (ha : LO xr X W a ia) (hs : starEach [a] X.env = (false, eval a X.env) :: starEach [] X.env := by rfl) : LN xr X W (.Call (.Name "list" p) [a] [] pos) (eCB (f1 lstD) (aCons ia aNil)) :=
  ln_fT call_list_of can_lst hg hm (by decide +kernel) (lao_cons ha lao_nil hs) (he := hs)
theorem le_all (hc : X.calm = true) (hg : Gl X "all") (hm : X.mg "all" = none) (ha : LO xr X W a ia) (hs : starEach [a] X.env = (false, eval a X.env) :: starEach [] X.env := by rfl) : LE xr X W (.Call (.Name "all" p) [a] [] pos) (eCB (f1 allD) (aCons ia aNil)) :=
  le_fB (cr_all hc) cas_all hg hm (by decide +kernel) (lao_cons ha lao_nil hs) (he := hs)
theorem le_any (hc : X.calm = true) (hg : Gl X "any") (hm : X.mg "any" = none) (ha : LO xr X W a ia) (hs : starEach [a] X.env = (false, eval a X.env) :: starEach [] X.env := by rfl) : LE xr X W (.Call (.Name "any" p) [a] [] pos) (eCB (f1 anyD) (aCons ia aNil)) :=
  le_fB (cr_any hc) cas_any hg hm (by decide +kernel) (lao_cons ha lao_nil hs) (he := hs)
theorem le_sum (hc : X.calm = true) (hg : Gl X "sum") (hm : X.mg "sum" = none) (ha : LO xr X W a ia) (hs : starEach [a] X.env = (false, eval a X.env) :: starEach [] X.env := by rfl) : LE xr X W (.Call (.Name "sum" p) [a] [] pos) (eCB (f1 sumD) (aCons ia aNil)) :=
  le_fB (cr_sum hc) cas_sum hg hm (by decide +kernel) (lao_cons ha lao_nil hs) (he := hs)
theorem le_min2 (hc : X.calm = true) (hg : Gl X "min") (hm : X.mg "min" = none) (ha : LO xr X W a ia) (hb : LO xr X W b ib) (hs : starEach [a, b] X.env = (false, eval a X.env) :: starEach [b] X.env := by rfl) (hs2 : starEach [b] X.env = (false, eval b X.env) :: starEach [] X.env := by rfl) (hpl : (backTo pos (starEach [b] X.env)).any (·.1) = false := by rfl) : LE xr X W (.Call (.Name "min" p) [a, b] [] pos) (eCB (f2 min2) (aCons ia (aCons ib aNil))) :=
  le_fB (call_min2 hc) cas_min2 hg hm (by decide +kernel) (lao_cons ha (lao_cons hb lao_nil hs2) hs) (he := hs) (hpl := hpl)
theorem le_max2 (hc : X.calm = true) (hg : Gl X "max") (hm : X.mg "max" = none) (ha : LO xr X W a ia) (hb : LO xr X W b ib) (hs : starEach [a, b] X.env = (false, eval a X.env) :: starEach [b] X.env := by rfl) (hs2 : starEach [b] X.env = (false, eval b X.env) :: starEach [] X.env := by rfl) (hpl : (backTo pos (starEach [b] X.env)).any (·.1) = false := by rfl) : LE xr X W (.Call (.Name "max" p) [a, b] [] pos) (eCB (f2 max2) (aCons ia (aCons ib aNil))) :=
  le_fB (call_max2 hc) cas_max2 hg hm (by decide +kernel) (lao_cons ha (lao_cons hb lao_nil hs2) hs) (he := hs) (hpl := hpl)
theorem le_isi {x : Str} {T : String} {p2 : Pos} (hg : Gl X "isinstance") (hm : X.mg "isinstance" = none) (hg2 : Gl X x) (hm2 : X.mg x = none) (hv : bootBuiltins x = some (.type T)) (ha : LO xr X W a ia) (hn : x ≠ "__name__" := by decide) (hdb : (x == ("__debug__" : Str)) = false := by decide)
    (hs : starEach [a, .Name x p2] X.env = (false, eval a X.env) :: starEach [.Name x p2] X.env := by rfl) (hs2 : starEach [.Name x p2] X.env = (false, eval (.Name x p2) X.env) :: starEach [] X.env := by rfl) (hpl : (backTo pos (starEach [.Name x p2] X.env)).any (·.1) = false := by rfl) :
    LE xr X W (.Call (.Name "isinstance" p) [a, .Name x p2] [] pos) (eIsi T ia) := by
  obtain ⟨_, q, s⟩ := ha
  exact ⟨_, pe_callB call_isi hg hm (by decide +kernel) (pa_cons q (pa_cons (pe_bltn (v := .ty T) hg2 hm2 hv (show RelV (.ty T) (.type T) from rfl) hn hdb) pa_nil hs2) hs) (he := hs) (hpl := hpl), snd_isi s⟩
end
end

/-! ### defs called -/
abbrev DSp := List Dt → (Dt → Prop) → (Xc → Prop) → Prop
def liftS (K : Fr) (xr : XR) (sp : DSp) : Sp := fun vs H Q E => ∃ dr I ds P EP, Pre dr I H ∧ RpL K dr I vs ds ∧ sp ds P EP ∧ (∀ x c a H', EP x → Kp dr H H' → xr x c a H' → E c a H') ∧ ∀ d v H', P d → Kp dr H H' → Rp K dr (ext I H H') v d → Q v H'
@[simp] def eCall (sp : DSp) (il : IA) : IE := fun env P E => il env (fun ds => sp ds P E) E
theorem snd_call {K : Fr} {xr : XR} {W : WX} {sp : DSp} {tl : TA} {il : IA} (hl : SndA K xr W tl il) : Snd K xr W (tCallSD (liftS K xr sp) [] (fun σ c a H => W c a σ H) tl) (eCall sp il) := fun dr env σ I H P E p ev hi o Q q =>
  hl dr env σ I H _ E p ev hi o _ fun ds vs H1 hx k1 r1 => ⟨dr, ext I H H1, ds, P, E, p.step k1, by rw [List.append_nil]; exact r1, hx, fun x c a H' hE k r => o x c a H' hE (k1.trans k) r, fun d v H' hP k r => q d v H' hP (k1.trans k) (ext_back p k1 k r)⟩
section
variable {xr : XR} {X : Cx} {W : WX} {e : Expr} {es : List Expr} {il : IA} {pos p : Pos} {k : Nat} {f : Addr} {fd : FuncData} {ps : List Str} {sp : DSp} {x : Str}
theorem le_call (F : FnOk X.prog X.w X.K X.mg X.base (L2.CX X.prog X.w) k f fd ps (liftS X.K xr sp)) (tk : Takes X W) (hr : Room k X.A) (hg : Gl X x) (hm : X.mg x = some (.ref f)) (hk : PySem.W.keepIn X.K (.ref f) = true) (hb : Binds X.K fd ps [])
    (ha : LA xr X W (e :: es) il) (hdb : (x == ("__debug__" : Str)) = false := by decide) (he : starEach (e :: es) X.env = (false, eval e X.env) :: starEach es X.env := by rfl) (hpl : (backTo pos (starEach es X.env)).any (·.1) = false := by rfl) :
    LE xr X W (.Call (.Name x p) (e :: es) [] pos) (eCall sp il) :=
  let ⟨_, q, s⟩ := ha; ⟨_, pe_callSD F hr hg hm hk hb .nil (fun σ => passAt tk σ) q hdb he hpl, snd_call s⟩
/-- a def called where nothing may leave -/
theorem le_call0 (F : FnOk X.prog X.w X.K X.mg X.base (L2.CX X.prog X.w) k f fd ps (liftS X.K xr sp)) (hr : Room k X.A) (hg : Gl X x) (hm : X.mg x = some (.ref f)) (hk : PySem.W.keepIn X.K (.ref f) = true) (hb : Binds X.K fd ps [])
    (hdb : (x == ("__debug__" : Str)) = false := by decide) : LE xr X W (.Call (.Name x p) [] [] pos) (fun _ P E => sp [] P fun _ => False) := by
  refine ⟨_, pe_call0 F hr hg hm hk hb .nil passL hdb, fun dr env σ I H P E pr ev hi o Q q => ?_⟩
  exact ⟨dr, I, [], P, fun _ => False, pr, .nil, hi, fun _ _ _ _ z => z.elim, fun d v H' hP k r => q d v H' hP k r⟩
end

/-! ### what is walked -/
abbrev II := List Sl → (List Dt → Prop) → (Xc → Prop) → Prop
structure Iter (K : Fr) (dr : Dr) (J : It) (ds : List Dt) (Iv I : Hp) : Prop where
  go : ∀ i H, Same Iv H → i < ds.length → J.go i H
  stop : ∀ i H, Same Iv H → ds.length ≤ i → J.stop i H
  yld : ∀ i H x H' d, Same Iv H → ds[i]? = some d → J.yld i H x H' → Same H H' ∧ ∀ I', Same I I' → Same I' H → Rp K dr (ext I' H H') x d
/-- any operand; clean ones -/
def SndIO (K : Fr) (xr : XR) (W : WX) (wi : TI) (ii : II) : Prop := ∀ dr env σ I H P E, Pre dr I H → EnvOk K dr env σ I H → ii env P E → OutE xr W dr σ H E → ∀ R : It → Hp → Prop, (∀ ds J H' Iv, P ds → Kp dr H H' → Pre dr Iv H' → Iter K dr J ds Iv (ext I H H') → R J H') → wi σ H R
def SndI (K : Fr) (xr : XR) (W : WX) (wi : TI) (ii : II) : Prop := ∀ dr env σ I H P E, Pre dr I H → EnvOk K dr env σ I H → ii env P E → OutE xr W dr σ H E → ∀ R : It → Hp → Prop, (∀ ds J H', P ds → Kp dr H H' → Iter K dr J ds (ext I H H') (ext I H H') → R J H') → wi σ H R
theorem SndI.o {K : Fr} {xr : XR} {W : WX} {wi : TI} {ii : II} (h : SndI K xr W wi ii) : SndIO K xr W wi ii := fun dr env σ I H P E p ev hi o R q => h dr env σ I H P E p ev hi o R fun ds J H' hP k it => q ds J H' _ hP k (p.step k) it
def iSeq (K : Fr) (tl : TE) : TI := fun σ H R => tl σ H fun x H1 => ∃ a, x = .ref a ∧ (((∃ xs, SqL K H1 a xs) ∧ R (Itl K a) H1) ∨ ((∃ xs, SqT K H1 a xs) ∧ R (Itt K a) H1))
theorem pi_seq {X : Cx} {tg l : Expr} {tl : TE} (hl : PE X l tl) : PI X tg l (iSeq X.K tl) := by
  refine ⟨fun pins s σ H R I h => ?_⟩
  refine thn (hl.run pins s σ H _ I h) fun v s1 ⟨x, H1, I1, r1, q1⟩ => ?_
  obtain ⟨a, e, ⟨⟨xs, hq⟩, q⟩ | ⟨⟨xs, hq⟩, q⟩⟩ := q1
  · subst e
    cases r1
    obtain ⟨its, rv, p, hz⟩ := I1.list hq
    refine wpAny_pyIter_list p.isList ?_
    refine ⟨s1.heap.objs.size, [s1.heap.objs.size], _, _, H1, rfl, I1.kept (t' := s1.toks) fun b o e => Heap.get?_push_of_some _ e, turn_list a _, ⟨_, Heap.get?_push_size _ rfl, rfl, rfl⟩, fun b hb => ?_, q⟩
    have e : b = s1.heap.objs.size := by simpa using hb
    subst e
    exact I1.fpOk (Nat.le_refl _) (I1.hok.fresh (Nat.le_refl _))
  · subst e
    cases r1
    obtain ⟨its, rv, p, hz⟩ := I1.tuple hq
    refine wpAny_pyIter_tuple (show s1.heap.IsTuple a its.toArray from p) ?_
    refine ⟨s1.heap.objs.size, [s1.heap.objs.size], _, _, H1, rfl, I1.kept (t' := s1.toks) fun b o e => Heap.get?_push_of_some _ e, turn_tuple a _, ⟨_, Heap.get?_push_size _ rfl, rfl, rfl⟩, fun b hb => ?_, q⟩
    have e : b = s1.heap.objs.size := by simpa using hb
    subst e
    exact I1.fpOk (Nat.le_refl _) (I1.hok.fresh (Nat.le_refl _))
@[simp] def seqD : Dt → (List Dt → Prop) → Prop
  | .lst xs, P => P xs
  | .tup xs, P => P xs
  | _, _ => False
@[simp] def iOf (ia : IE) : II := fun env P E => ia env (fun x => seqD x P) E
section
variable {K : Fr} {dr : Dr}
theorem iter_list {a : Addr} {vs : List V} {ds : List Dt} {Iv I : Hp} (h : Iv a = some (.lst vs)) (r : RpL K dr I vs ds) : Iter K dr (Itl K a) ds Iv I where
  go := fun i H s hi => by
    obtain ⟨v, e, _⟩ := r.get (List.getElem?_eq_getElem hi)
    exact ⟨vs, v, SqL.of (s _ _ h), e⟩
  stop := fun i H s hi => ⟨vs, SqL.of (s _ _ h), by rw [r.len]; exact hi⟩
  yld := fun i H x H' d s hd hy => by
    obtain ⟨e, f⟩ := hy
    subst e
    obtain ⟨v, e, q⟩ := r.get hd
    have e2 := f vs (SqL.of (s _ _ h))
    rw [e] at e2
    cases e2
    refine ⟨Same.refl _, fun I' s1 s2 => q.mono fun b o z => ?_⟩
    rw [ext_some (by rw [s2 _ _ (s1 _ _ z)]; simp)]
    exact s1 _ _ z
theorem iter_tup {a : Addr} {vs : List V} {ds : List Dt} {Iv I : Hp} (h : SqT K Iv a vs) (r : RpL K dr I vs ds) : Iter K dr (Itt K a) ds Iv I where
  go := fun i H s hi => by
    obtain ⟨v, e, _⟩ := r.get (List.getElem?_eq_getElem hi)
    exact ⟨vs, v, same_seqT s h, e⟩
  stop := fun i H s hi => ⟨vs, same_seqT s h, by rw [r.len]; exact hi⟩
  yld := fun i H x H' d s hd hy => by
    obtain ⟨e, f⟩ := hy
    subst e
    obtain ⟨v, e, q⟩ := r.get hd
    have e2 := f vs (same_seqT s h)
    rw [e] at e2
    cases e2
    refine ⟨Same.refl _, fun I' s1 s2 => q.mono fun b o z => ?_⟩
    rw [ext_some (by rw [s2 _ _ (s1 _ _ z)]; simp)]
    exact s1 _ _ z
/-- one owned object taken in -/
theorem Pre.take {I H : Hp} {a : Addr} {o : HO} (p : Pre dr I H) (h : H a = some o) (n : ¬ IsDr dr a) : Pre dr (upd I a o) H := by
  refine ⟨fun b u e => ?_, p.dro, fun b i => ?_⟩
  · by_cases hb : b = a
    · subst hb; rw [upd_same] at e; cases e; exact h
    · rw [upd_ne hb] at e; exact p.sub b u e
  · rw [upd_ne (fun (z : b = a) => n (by rw [← z]; exact i))]; exact p.nI b i
theorem sndIO_of {xr : XR} {W : WX} {tl : TE} {ia : IE} (ha : SndO K xr W tl ia) : SndIO K xr W (iSeq K tl) (iOf ia) := fun dr env σ I H P E p ev hi o R q =>
  ha dr env σ I H _ E p ev hi o _ fun x v H1 hx k1 r1 => by
    have p1 := p.step k1
    unfold seqD at hx
    split at hx
    · rcases r1 with r1 | ⟨a, rfl, h1, h2, ws, h3, h4⟩
      · cases r1 with
        | lst e r => exact ⟨_, rfl, .inl ⟨⟨_, SqL.of (p1.sub _ _ e)⟩, q _ _ H1 _ hx k1 p1 (iter_list e r)⟩⟩
      · exact ⟨a, rfl, .inl ⟨⟨_, SqL.of h3⟩, q _ _ H1 _ hx k1 (p1.take h3 h2) (iter_list upd_same h4)⟩⟩
    · rcases r1 with r1 | ⟨a, rfl, h1, h2, h3⟩
      · cases r1 with
        | tup e r => exact ⟨_, rfl, .inr ⟨⟨_, same_seqT p1.sub e⟩, q _ _ H1 _ hx k1 p1 (iter_tup e r)⟩⟩
      · exact h3.elim
    · exact hx.elim
theorem sndI_of {xr : XR} {W : WX} {tl : TE} {ia : IE} (ha : Snd K xr W tl ia) : SndI K xr W (iSeq K tl) (iOf ia) := fun dr env σ I H P E p ev hi o R q =>
  ha dr env σ I H _ E p ev hi o _ fun x v H1 hx k1 r1 => by
    have p1 := p.step k1
    unfold seqD at hx
    split at hx
    · cases r1 with
      | lst e r => exact ⟨_, rfl, .inl ⟨⟨_, SqL.of (p1.sub _ _ e)⟩, q _ _ H1 hx k1 (iter_list e r)⟩⟩
    · cases r1 with
      | tup e r => exact ⟨_, rfl, .inr ⟨⟨_, same_seqT p1.sub e⟩, q _ _ H1 hx k1 (iter_tup e r)⟩⟩
    · exact hx.elim
/-- lo, lo + c, .., n of them -/
def rng (lo c : Int) (n : Nat) : List Dt := (List.range n).map fun (i : Nat) => Dt.int (lo + (i : Int) * c)
theorem rng_len (lo c : Int) (n : Nat) : (rng lo c n).length = n := by unfold rng; rw [List.length_map, List.length_range]
theorem rng_get {lo c : Int} {n i : Nat} {d : Dt} (h : (rng lo c n)[i]? = some d) : i < n ∧ d = .int (lo + (i : Int) * c) := by
  unfold rng at h
  rw [List.getElem?_map] at h
  by_cases hi : i < n
  · rw [List.getElem?_range hi] at h
    exact ⟨hi, (Option.some.inj h).symm⟩
  · rw [List.getElem?_eq_none (by rw [List.length_range]; omega)] at h
    cases h
theorem iter_rng {lo : Int} {n : Nat} {Iv I : Hp} : Iter K dr (Itr lo n) (rng lo 1 n) Iv I where
  go := fun i H _ hi => by rw [rng_len] at hi; exact hi
  stop := fun i H _ hi => by rw [rng_len] at hi; exact hi
  yld := fun i H x H' d _ hd hy => by
    obtain ⟨e, f⟩ := hy
    subst e f
    obtain ⟨_, rfl⟩ := rng_get hd
    refine ⟨Same.refl _, fun I' _ _ => ?_⟩
    rw [Int.mul_one]
    exact .int _
theorem iter_rngC {lo c : Int} {n : Nat} {Iv I : Hp} : Iter K dr (Itc lo c n) (rng lo c n) Iv I where
  go := fun i H _ hi => by rw [rng_len] at hi; exact hi
  stop := fun i H _ hi => by rw [rng_len] at hi; exact hi
  yld := fun i H x H' d _ hd hy => by
    obtain ⟨e, f⟩ := hy
    subst e f
    obtain ⟨_, rfl⟩ := rng_get hd
    exact ⟨Same.refl _, fun I' _ _ => .int _⟩
@[simp] def g1 (f : Int → Prop) : List Dt → Prop
  | [.int i] => f i
  | _ => False
@[simp] def g2 (f : Int → Int → Prop) : List Dt → Prop
  | [.int i, .int j] => f i j
  | _ => False
@[simp] def iRange1 (il : IA) : II := fun env P E => il env (g1 fun j => (-(2 ^ 62) ≤ j ∧ j < 2 ^ 62) ∧ P (rng 0 1 j.toNat)) E
@[simp] def iRange2 (il : IA) : II := fun env P E => il env (g2 fun i j => (-(2 ^ 62) ≤ i ∧ i < 2 ^ 62 ∧ -(2 ^ 62) ≤ j ∧ j < 2 ^ 62) ∧ P (rng i 1 (j - i).toNat)) E
/-- range(i, j, -1) -/
@[simp] def g3 (f : Int → Int → Prop) : List Dt → Prop
  | [.int i, .int j, .int k] => k = -1 ∧ f i j
  | _ => False
@[simp] def iRange3 (il : IA) : II := fun env P E => il env (g3 fun i j => (-(2 ^ 62) ≤ i ∧ i < 2 ^ 62 ∧ -(2 ^ 62) ≤ j ∧ j < 2 ^ 62) ∧ P (rng i (-1) (i - j).toNat)) E
theorem sndI_r1 {xr : XR} {W : WX} {tl : TA} {il : IA} (hl : SndA K xr W tl il) : SndI K xr W (iRng1 tl) (iRange1 il) := fun dr env σ I H P E p ev hi o R q =>
  hl dr env σ I H _ E p ev hi o _ fun ds vs H1 hx k1 r1 => by
    unfold g1 at hx
    split at hx
    · cases r1 with
      | cons a b =>
        cases a; cases b
        exact ⟨_, rfl, hx.1.1, hx.1.2, q _ _ H1 hx.2 k1 iter_rng⟩
    · exact hx.elim
theorem sndI_r2 {xr : XR} {W : WX} {tl : TA} {il : IA} (hl : SndA K xr W tl il) : SndI K xr W (iRng2 tl) (iRange2 il) := fun dr env σ I H P E p ev hi o R q =>
  hl dr env σ I H _ E p ev hi o _ fun ds vs H1 hx k1 r1 => by
    unfold g2 at hx
    split at hx
    · cases r1 with
      | cons a b =>
        cases a
        cases b with
        | cons a b =>
          cases a; cases b
          exact ⟨_, _, rfl, hx.1, q _ _ H1 hx.2 k1 iter_rng⟩
    · exact hx.elim
theorem sndI_r3 {xr : XR} {W : WX} {tl : TA} {il : IA} (hl : SndA K xr W tl il) : SndI K xr W (iRng3 tl) (iRange3 il) := fun dr env σ I H P E p ev hi o R q =>
  hl dr env σ I H _ E p ev hi o _ fun ds vs H1 hx k1 r1 => by
    unfold g3 at hx
    split at hx
    · cases r1 with
      | cons a b =>
        cases a
        cases b with
        | cons a b =>
          cases a
          cases b with
          | cons a b =>
            cases a; cases b
            obtain ⟨rfl, h1, h2⟩ := hx
            exact ⟨_, _, _, _, rfl, RgC.neg h1.1 h1.2.1 h1.2.2.1 h1.2.2.2, q _ _ H1 h2 k1 iter_rngC⟩
    · exact hx.elim
end
def LI (xr : XR) (X : Cx) (W : WX) (tg e : Expr) (ii : II) : Prop := ∃ wi, PI X tg e wi ∧ SndI X.K xr W wi ii
def LIO (xr : XR) (X : Cx) (W : WX) (tg e : Expr) (ii : II) : Prop := ∃ wi, PI X tg e wi ∧ SndIO X.K xr W wi ii
section
variable {xr : XR} {X : Cx} {W : WX} {e a b c tg : Expr} {es : List Expr} {ia : IE} {il : IA} {ii : II} {pos p : Pos}
theorem LI.O (h : LI xr X W tg e ii) : LIO xr X W tg e ii := let ⟨_, p, s⟩ := h; ⟨_, p, s.o⟩
theorem lio_of (h : LO xr X W e ia) : LIO xr X W tg e (iOf ia) := let ⟨_, p, s⟩ := h; ⟨_, pi_seq p, sndIO_of s⟩
theorem li_of (h : LE xr X W e ia) : LI xr X W tg e (iOf ia) := let ⟨_, p, s⟩ := h; ⟨_, pi_seq p, sndI_of s⟩
theorem li_r1 (hg : Gl X "range") (hm : X.mg "range" = none) (ha : LA xr X W [a] il) (hs : starEach [a] X.env = [(false, eval a X.env)] := by rfl) : LI xr X W tg (.Call (.Name "range" p) [a] [] pos) (iRange1 il) :=
  let ⟨_, q, s⟩ := ha; ⟨_, pi_range1 hg hm q hs, sndI_r1 s⟩
theorem li_r2 (hg : Gl X "range") (hm : X.mg "range" = none) (ha : LA xr X W [a, b] il) (hs : starEach [a, b] X.env = [(false, eval a X.env), (false, eval b X.env)] := by rfl) (hs2 : starEach [b] X.env = [(false, eval b X.env)] := by rfl) : LI xr X W tg (.Call (.Name "range" p) [a, b] [] pos) (iRange2 il) :=
  let ⟨_, q, s⟩ := ha; ⟨_, pi_range2 hg hm q hs hs2, sndI_r2 s⟩
theorem li_r3 (hg : Gl X "range") (hm : X.mg "range" = none) (ha : LA xr X W [a, b, c] il) (hs : starEach [a, b, c] X.env = (false, eval a X.env) :: starEach [b, c] X.env := by rfl) (hpl : (backTo pos (starEach [b, c] X.env)).any (·.1) = false := by rfl) : LI xr X W tg (.Call (.Name "range" p) [a, b, c] [] pos) (iRange3 il) :=
  let ⟨_, q, s⟩ := ha; ⟨_, pi_range3 hg hm q hs hpl, sndI_r3 s⟩
end
end DL

set_option maxRecDepth 100000
/-! DL6: targets, comprehensions. -/
namespace DL
open PySem L2 PyProof.Rows

/-! ### slots forgotten -/
theorem wipe_get (σ : L2.St) (j : Nat) : ∀ vs : List Nat, (wipe σ vs)[j]? = if j ∈ vs then σ[j]?.map (fun _ => none) else σ[j]?
  | [] => by simp [wipe]
  | v :: vs => by
    unfold wipe
    rw [List.getElem?_set, wipe_length, wipe_get σ j vs]
    by_cases hv : v = j
    · subst hv
      by_cases hl : v < σ.length
      · simp [hl]
      · simp [hl, List.getElem?_eq_none (Nat.not_lt.mp hl)]
    · have hn : ¬ j = v := fun z => hv z.symm
      simp [hv, hn, List.mem_cons]
theorem wipe_set {σ : L2.St} {i : Nat} {x : Option V} {vs : List Nat} (h : i ∈ vs) : wipe (σ.set i x) vs = wipe σ vs := by
  apply List.ext_getElem?
  intro j
  rw [wipe_get, wipe_get, List.getElem?_set]
  by_cases hj : i = j
  · subst hj
    rw [if_pos h, if_pos h, if_pos rfl]
    by_cases hl : i < σ.length
    · simp [hl]
    · simp [hl]
  · rw [if_neg hj]
theorem wipe_wipe (σ : L2.St) (vs : List Nat) : wipe (wipe σ vs) vs = wipe σ vs := by
  apply List.ext_getElem?
  intro j
  rw [wipe_get, wipe_get]
  by_cases h : j ∈ vs
  · simp only [if_pos h, Option.map_map]; rfl
  · simp [h]
def wipeE : List Sl → List Nat → List Sl
  | e, [] => e
  | e, v :: vs => put (wipeE e vs) v .no
theorem wipeE_length (e : List Sl) : ∀ vs, (wipeE e vs).length = e.length
  | [] => rfl
  | v :: vs => by rw [wipeE, put_length, wipeE_length e vs]
theorem wipeE_sl (e : List Sl) (j : Nat) : ∀ vs, sl (wipeE e vs) j = if j ∈ vs then .no else sl e j
  | [] => by simp [wipeE]
  | v :: vs => by
    rw [wipeE, sl_put, wipeE_sl e j vs, wipeE_length]
    by_cases hv : v = j
    · subst hv
      by_cases hl : v < e.length
      · simp [hl]
      · have : sl e v = .no := Classical.byContradiction fun z => hl (sl_lt z)
        simp [hl, this]
    · have hn : ¬ j = v := fun z => hv z.symm
      simp [hv, hn, List.mem_cons]
section
variable {K : Fr} {dr : Dr} {H H' H1 H2 I I' : Hp} {env : List Sl} {σ : L2.St}
theorem EnvOk.wipe (h : EnvOk K dr env σ I H) (vs : List Nat) : EnvOk K dr (wipeE env vs) (L2.wipe σ vs) I H := by
  refine ⟨by rw [wipe_length, wipeE_length]; exact h.len, fun i hi => ?_, fun i j d e p h1 h2 h3 h4 => ?_⟩
  · rw [wipeE_sl, wipe_get]
    by_cases hv : i ∈ vs
    · rw [if_pos hv, if_pos hv]; trivial
    · rw [if_neg hv, if_neg hv]
      exact h.at_ i (by rw [wipeE_length] at hi; exact hi)
  · rw [wipeE_sl] at h1 h2
    rw [wipe_get] at h3 h4
    by_cases hi : i ∈ vs
    · rw [if_pos hi] at h1; cases h1
    · by_cases hj : j ∈ vs
      · rw [if_pos hj] at h2; cases h2
      · rw [if_neg hi] at h1 h3
        rw [if_neg hj] at h2 h4
        exact h.sep i j d e p h1 h2 h3 h4
theorem EnvOk.put_im (h : EnvOk K dr env σ I H) {i : Nat} {v : V} {d : Dt} (r : Rp K dr I v d) : EnvOk K dr (put env i (.im d)) (σ.set i (some v)) I H := by
  refine ⟨by rw [List.length_set, put_length]; exact h.len, fun j hj => ?_, fun j k d' e p h1 h2 h3 h4 => ?_⟩
  · rw [put_length] at hj
    rw [sl_put, List.getElem?_set]
    by_cases hij : i = j
    · subst hij
      rw [if_pos rfl, if_pos (by rw [h.len]; exact hj), if_pos ⟨rfl, hj⟩]
      exact ⟨v, rfl, r⟩
    · rw [if_neg hij, if_neg (fun z => hij z.1)]
      exact h.at_ j hj
  · rw [sl_put] at h1 h2
    rw [List.getElem?_set] at h3 h4
    by_cases hij : i = j ∧ j < env.length
    · rw [if_pos hij] at h1; cases h1
    · rw [if_neg hij] at h1
      by_cases hik : i = k ∧ k < env.length
      · rw [if_pos hik] at h2; cases h2
      · rw [if_neg hik] at h2
        have l1 : j < env.length := sl_lt (by rw [h1]; simp)
        have l2 : k < env.length := sl_lt (by rw [h2]; simp)
        rw [if_neg (fun z => hij ⟨z, l1⟩)] at h3
        rw [if_neg (fun z => hik ⟨z, l2⟩)] at h4
        exact h.sep j k d' e p h1 h2 h3 h4
theorem EnvOk.put_ow (h : EnvOk K dr env σ I H) {i : Nat} {p : Addr} {d : Dt} (h1 : I p = none) (h2 : ¬ IsDr dr p) (h3 : OwR K dr I H p d) (h4 : ∀ j e, sl env j = .ow e → σ[j]? = some (some (.ref p)) → j = i) : EnvOk K dr (put env i (.ow d)) (σ.set i (some (.ref p))) I H := by
  refine ⟨by rw [List.length_set, put_length]; exact h.len, fun j hj => ?_, fun j k d' e q e1 e2 e3 e4 => ?_⟩
  · rw [put_length] at hj
    rw [sl_put, List.getElem?_set]
    by_cases hij : i = j
    · subst hij
      rw [if_pos rfl, if_pos (by rw [h.len]; exact hj), if_pos ⟨rfl, hj⟩]
      exact ⟨p, rfl, h1, h2, h3⟩
    · rw [if_neg hij, if_neg (fun z => hij z.1)]
      exact h.at_ j hj
  · rw [sl_put] at e1 e2
    rw [List.getElem?_set] at e3 e4
    have l1 : j < env.length := by
      by_cases z : i = j ∧ j < env.length
      · exact z.2
      · rw [if_neg z] at e1; exact sl_lt (by rw [e1]; simp)
    have l2 : k < env.length := by
      by_cases z : i = k ∧ k < env.length
      · exact z.2
      · rw [if_neg z] at e2; exact sl_lt (by rw [e2]; simp)
    by_cases hij : i = j
    · by_cases hik : i = k
      · exact hij.symm.trans hik
      · rw [if_neg (fun z => hik z.1)] at e2
        rw [if_neg hik] at e4
        rw [if_pos hij, if_pos (by rw [h.len, hij]; exact l1)] at e3
        have : p = q := by simpa using e3
        subst this
        exact absurd (h4 k e e2 e4).symm hik
    · rw [if_neg (fun z => hij z.1)] at e1
      rw [if_neg hij] at e3
      by_cases hik : i = k
      · rw [if_pos hik, if_pos (by rw [h.len, hik]; exact l2)] at e4
        have : p = q := by simpa using e4
        subst this
        exact absurd (h4 j d' e1 e3).symm hij
      · rw [if_neg (fun z => hik z.1)] at e2
        rw [if_neg hik] at e4
        exact h.sep j k d' e q e1 e2 e3 e4
/-- behind a new object that is left out -/
theorem EnvOk.hid {p : Addr} (pr : Pre dr I H) (k : Kp dr H H') (hp : H p = none) (h : EnvOk K dr env σ I H) : EnvOk K dr env σ (hid p (ext I H H')) H' := by
  refine ⟨h.len, fun i hi => ?_, h.sep⟩
  have q := h.at_ i hi
  revert q
  cases sl env i with
  | no => intro _; trivial
  | im d =>
    rintro ⟨v, e, r⟩
    refine ⟨v, e, r.mono fun a o z => ?_⟩
    have ne : a ≠ p := fun y => by subst y; have := pr.sub _ _ z; rw [hp] at this; cases this
    unfold DL.hid
    rw [if_neg ne]
    exact pr.ext_sub a o z
  | ow d =>
    rintro ⟨q, e, h1, h2, h3⟩
    obtain ⟨o, e2⟩ := h3.some_
    have ne : q ≠ p := fun y => by subst y; rw [hp] at e2; cases e2
    refine ⟨q, e, ?_, h2, h3.mono (fun a o z => ?_) ((k.keep q o e2 h2).trans e2.symm)⟩
    · unfold DL.hid
      rw [if_neg ne, ext_some (by rw [e2]; simp)]
      exact h1
    · have ne : a ≠ p := fun y => by subst y; have := pr.sub _ _ z; rw [hp] at this; cases this
      unfold DL.hid
      rw [if_neg ne]
      exact pr.ext_sub a o z
theorem Pre.hid (pr : Pre dr I H) (k : Kp dr H H') (p : Addr) : Pre dr (hid p (ext I H H')) H' := (pr.step k).less hid_same
end

/-! ### targets that are names, or tuples of such -/
abbrev G := Dt → List Sl → (List Sl → Prop) → Prop
abbrev Gs := List Dt → List Sl → (List Sl → Prop) → Prop
structure Put (K : Fr) (dr : Dr) (ts : List Nat) (env : List Sl) (σ : L2.St) (I H : Hp) (env' : List Sl) (σ' : L2.St) : Prop where
  ok : EnvOk K dr env' σ' I H
  wp : ∀ vs, (∀ t ∈ ts, t ∈ vs) → wipe σ' vs = wipe σ vs
  own : ∀ i d p, sl env' i = .ow d → σ'[i]? = some (some (.ref p)) → sl env i = .ow d ∧ σ[i]? = some (some (.ref p))
def SndG (K : Fr) (tg : TG) (g : G) (ts : List Nat) : Prop := ∀ dr env σ I H v d P, Pre dr I H → EnvOk K dr env σ I H → Rp K dr I v d → g d env P → ∀ Q : L2.St → Hp → Prop, (∀ env' σ', P env' → Put K dr ts env σ I H env' σ' → Q σ' H) → tg v σ H Q
def SndGs (K : Fr) (tg : TGs) (g : Gs) (ts : List Nat) : Prop := ∀ dr env σ I H vs ds P, Pre dr I H → EnvOk K dr env σ I H → RpL K dr I vs ds → g ds env P → ∀ Q : L2.St → Hp → Prop, (∀ env' σ', P env' → Put K dr ts env σ I H env' σ' → Q σ' H) → tg vs σ H Q
@[simp] def gN (i : Nat) : G := fun d env P => P (put env i (.im d))
@[simp] def gsNil : Gs
  | [], env, P => P env
  | _, _, _ => False
@[simp] def gsCons (g : G) (gs : Gs) : Gs
  | d :: ds, env, P => g d env fun env' => gs ds env' P
  | _, _, _ => False
@[simp] def gT (n : Nat) (gs : Gs) : G
  | .tup ds, env, P => ds.length = n ∧ gs ds env P
  | _, _, _ => False
theorem sndG_name {K : Fr} {i : Nat} : SndG K (gName i) (gN i) [i] := fun dr env σ I H v d P p ev r h Q q => by
  refine q _ _ h ⟨ev.put_im r, fun vs hv => wipe_set (hv i List.mem_cons_self), fun j d' p' h1 h2 => ?_⟩
  rw [sl_put] at h1
  rw [List.getElem?_set] at h2
  by_cases hij : i = j ∧ j < env.length
  · rw [if_pos hij] at h1; cases h1
  · rw [if_neg hij] at h1
    have l1 : j < env.length := sl_lt (by rw [h1]; simp)
    rw [if_neg (fun z => hij ⟨z, l1⟩)] at h2
    exact ⟨h1, h2⟩
theorem sndGs_nil {K : Fr} : SndGs K gNil gsNil [] := fun dr env σ I H vs ds P p ev r h Q q => by
  cases r with
  | nil => exact ⟨rfl, q _ _ h ⟨ev, fun _ _ => rfl, fun _ _ _ h1 h2 => ⟨h1, h2⟩⟩⟩
  | cons _ _ => exact h.elim
theorem sndGs_cons {K : Fr} {tg : TG} {tgs : TGs} {g : G} {gs : Gs} {ts us : List Nat} (hg : SndG K tg g ts) (hs : SndGs K tgs gs us) : SndGs K (gCons tg tgs) (gsCons g gs) (ts ++ us) := fun dr env σ I H vs ds P p ev r h Q q => by
  cases r with
  | nil => exact h.elim
  | cons r1 r2 =>
    refine ⟨_, _, rfl, hg dr env σ I H _ _ _ p ev r1 h _ fun env' σ' h' k => ?_⟩
    refine hs dr env' σ' I H _ _ _ p k.ok r2 h' _ fun env2 σ2 h2 k2 => q _ _ h2 ⟨k2.ok, fun vs hv => ?_, fun i d p' e1 e2 => ?_⟩
    · rw [k2.wp vs fun t ht => hv t (List.mem_append_right _ ht), k.wp vs fun t ht => hv t (List.mem_append_left _ ht)]
    · obtain ⟨a, b⟩ := k2.own i d p' e1 e2
      exact k.own i d p' a b
theorem sndG_tup {K : Fr} {n : Nat} {tgs : TGs} {gs : Gs} {ts : List Nat} (hs : SndGs K tgs gs ts) : SndG K (gTup K n tgs) (gT n gs) ts := fun dr env σ I H v d P p ev r h Q q => by
  cases r with
  | tup e r => exact ⟨_, _, rfl, same_seqT p.sub e, by rw [r.len]; exact h.1, hs dr env σ I H _ _ _ p ev r h.2 Q q⟩
  | _ => exact h.elim
def LG (X : Cx) (tg : Expr) (g : G) (ts : List Nat) : Prop := ∃ t, PG X tg t ∧ SndG X.K t g ts
def LGs (X : Cx) (tg : List Expr) (g : Gs) (ts : List Nat) : Prop := ∃ t, PGs X tg t ∧ SndGs X.K t g ts
section
variable {X : Cx} {e : Expr} {es : List Expr} {g : G} {gs : Gs} {ts us : List Nat} {pos : Pos}
theorem lg_name (i : Nat) {x : Str} (hN : X.N.Nodup) (hi : X.N[i]? = some x := by rfl) (hx : Loc X.env.scope x := by first | exact Or.inl rfl | exact Or.inr rfl) (hf : X.fn x = true ∨ X.env.scope.names.lookup x = some .local := by first | exact .inl rfl | exact .inr rfl | assumption) : LG X (.Name x pos) (gN i) [i] :=
  ⟨_, pg_name hN hi hx hf, sndG_name⟩
theorem lgs_nil : LGs X [] gsNil [] := ⟨_, pgs_nil, sndGs_nil⟩
theorem lgs_cons (h : LG X e g ts) (hs : LGs X es gs us) (ha : (assignEach (e :: es) X.env).map (·.2) = assign e X.env :: (assignEach es X.env).map (·.2) := by rfl) : LGs X (e :: es) (gsCons g gs) (ts ++ us) :=
  let ⟨_, p, s⟩ := h; let ⟨_, q, t⟩ := hs; ⟨_, pgs_cons p q ha, sndGs_cons s t⟩
theorem lg_tup {k n : Nat} (hc : X.calm = true) (hs : LGs X es gs ts) (hn : (assignEach es X.env).length = n := by rfl) (hst : (assignEach es X.env).findIdx? (·.1) = none := by rfl) : LG X (.Tuple es k pos) (gT n gs) ts :=
  let ⟨_, q, t⟩ := hs; ⟨_, pg_tup hc q hn hst, sndG_tup t⟩
end

/-! ### comprehensions -/
def compD (g : G) (it : IT) (ie : IE) (env : List Sl) (P : Dt → Prop) : List Dt → List Dt → Prop
  | [], outs => P (.lst outs)
  | d :: ds, outs => g d env fun env1 => it env1 (fun b => if b = true then ie env1 (fun y => compD g it ie env P ds (outs ++ [y])) (fun _ => False) else compD g it ie env P ds outs) fun _ => False
@[simp] def nComp (vs : List Nat) (ii : II) (g : G) (it : IT) (ie : IE) : IE := fun env P E => ii env (fun ds => ds.length ≤ 16777216 ∧ compD g it ie (wipeE env vs) P ds []) E
@[simp] def bYes : IT := fun _ P _ => P true
abbrev WF : WX := fun _ _ _ _ => False
theorem outF {xr : XR} {dr : Dr} {σ : L2.St} {H : Hp} : OutE xr WF dr σ H fun _ => False := fun _ _ _ _ z => z.elim
theorem Kp.of_same {dr : Dr} {H H' : Hp} (s : Same H H') : Kp dr H H' := ⟨fun a o e _ => s a o e, fun q e ⟨i, cs, h1, h2, h3⟩ => ⟨i, cs, s _ _ h1, s _ _ h2, h3⟩⟩
theorem Kp.same {dr : Dr} {H H' I : Hp} (k : Kp dr H H') (p : Pre dr I H) : Same I H' := fun a o e => k.keep a o (p.sub a o e) fun i => by rw [p.nI a i] at e; cases e
theorem sndN_comp {K : Fr} {xr : XR} {W : WX} {wi : TI} {tg : TG} {tt : TT} {te : TE} {vs ts : List Nat} {ii : II} {g : G} {it : IT} {ie : IE} (hi : SndIO K xr W wi ii) (hg : SndG K tg g ts) (hts : ∀ t ∈ ts, t ∈ vs) (ht : SndT K xr WF tt it) (he : Snd K xr WF te ie) :
    SndN K xr W (tLc wi tg tt te vs) (nComp vs ii g it ie) := fun dr env σ I H P E p ev hx o Q q => by
  refine hi dr env σ I H _ E p ev hx o _ fun ds J H1 Iv hd k1 pv itr D hD => ?_
  obtain ⟨hlen, hc⟩ := hd
  have p1 := p.step k1
  have ev1 := ev.step k1 p
  generalize hI1 : ext I H H1 = I1 at p1 ev1 itr
  have kD : Kp dr H1 (upd H1 D (.lst [])) := Kp.new p1 hD
  refine ⟨fun i m H2 => m = ds.length - i ∧ i ≤ ds.length ∧ ∃ acc outs, Kp dr H1 H2 ∧ H2 D = some (.lst acc) ∧ RpL K dr (hid D (ext I1 H1 H2)) acc outs ∧ outs.length ≤ i ∧ compD g it ie (wipeE env vs) P (ds.drop i) outs, ⟨ds.length, by simp, Nat.zero_le _, [], [], kD, upd_same, .nil, Nat.le_refl _, hc⟩, ?_⟩
  rintro i m H2 ⟨rfl, hi', acc, outs, k2, hacc, racc, hol, hc2⟩
  have sv : Same Iv H2 := k2.same pv
  by_cases hlt : i < ds.length
  · refine .inr ⟨itr.go i H2 sv hlt, fun H' => ∃ acc outs, Kp dr H1 H' ∧ H' D = some (.lst acc) ∧ RpL K dr (hid D (ext I1 H1 H')) acc outs ∧ outs.length ≤ i + 1 ∧ compD g it ie (wipeE env vs) P (ds.drop (i + 1)) outs, fun H' h' => ⟨ds.length - (i + 1), by omega, rfl, hlt, h'⟩, fun x H3 hy => ?_⟩
    obtain ⟨s3, rx⟩ := itr.yld i H2 x H3 ds[i] sv (List.getElem?_eq_getElem hlt) hy
    have k3 : Kp dr H2 H3 := Kp.of_same s3
    have k13 := k2.trans k3
    -- the part that never changes, without the new list
    have sub1 : ∀ H', Kp dr H1 H' → Same I1 (hid D (ext I1 H1 H')) := fun H' k a o e => by
      have ne : a ≠ D := fun y => by subst y; have := p1.sub _ _ e; rw [hD] at this; cases this
      unfold hid
      rw [if_neg ne]
      exact p1.ext_sub a o e
    have grow : ∀ H' H'', Kp dr H1 H' → Kp dr H' H'' → Same (hid D (ext I1 H1 H')) (hid D (ext I1 H1 H'')) := fun H' H'' k k' a o e => by
      unfold hid at e ⊢
      by_cases ha : a = D
      · rw [if_pos ha] at e; cases e
      · rw [if_neg ha] at e ⊢
        by_cases h1 : H1 a = none
        · rw [ext_none h1] at e ⊢
          exact k'.keep a o e (p1.notDr h1)
        · rw [ext_some h1] at e ⊢; exact e
    have p3 : Pre dr (hid D (ext I1 H1 H3)) H3 := p1.hid k13 D
    have e3 : EnvOk K dr (wipeE env vs) (wipe σ vs) (hid D (ext I1 H1 H3)) H3 := (ev1.hid p1 k13 hD).wipe vs
    have rx3 : Rp K dr (hid D (ext I1 H1 H3)) x ds[i] := by
      refine (rx (hid D (ext I1 H1 H2)) (sub1 H2 k2) (p1.hid k2 D).sub).mono fun a o e => ?_
      by_cases h2 : H2 a = none
      · rw [ext_none h2] at e
        have ha : a ≠ D := fun y => by subst y; rw [hacc] at h2; cases h2
        have h1 : H1 a = none := k2.none_back p1 h2
        unfold hid
        rw [if_neg ha, ext_none h1]
        exact e
      · rw [ext_some h2] at e
        exact grow H2 H3 k2 k3 a o e
    have hdrop : ds.drop i = ds[i] :: ds.drop (i + 1) := (List.getElem_cons_drop (h := hlt)).symm
    rw [hdrop] at hc2
    refine hg dr _ _ _ H3 x ds[i] _ p3 e3 rx3 hc2 _ fun env1 σ1 h1 pu => ⟨?_, ?_⟩
    · rw [pu.wp vs hts, wipe_wipe]
    · refine ht dr env1 σ1 _ H3 _ _ p3 pu.ok h1 outF _ fun b H4 hb k4 => ?_
      have k14 := k13.trans k4
      have hacc4 : H4 D = some (.lst acc) := k4.keep D _ (k3.keep D _ hacc (p1.notDr hD)) (p1.notDr hD)
      cases b with
      | false =>
        show ∃ acc outs, _
        exact ⟨acc, outs, k14, hacc4, RpL.mono (grow H2 H4 k2 (k3.trans k4)) _ _ racc, by omega, hb⟩
      | true =>
        show te σ1 H4 _
        have p4 := p3.step k4
        refine he dr env1 σ1 _ H4 _ _ p4 (pu.ok.step k4 p3) hb outF _ fun y w H5 hy5 k5 r5 => ?_
        have k15 := k14.trans k5
        have hacc5 : H5 D = some (.lst acc) := k5.keep D _ hacc4 (p1.notDr hD)
        have kU : Kp dr H1 (upd H5 D (.lst (acc ++ [w]))) := by
          refine ⟨fun a o e n => ?_, fun qq e h => ?_⟩
          · rw [upd_ne (ne_of_none e hD)]; exact k15.keep a o e n
          · obtain ⟨i', cs, h1', h2', h3'⟩ := k15.dro qq e h
            have n1 : qq.1 ≠ D := fun z => p1.notDr hD ⟨qq, e, .inl z.symm⟩
            have n2 : qq.2 ≠ D := fun z => p1.notDr hD ⟨qq, e, .inr z.symm⟩
            exact ⟨i', cs, by rw [upd_ne n1]; exact h1', by rw [upd_ne n2]; exact h2', h3'⟩
        have up : Same (hid D (ext I1 H1 H5)) (hid D (ext I1 H1 (upd H5 D (.lst (acc ++ [w]))))) := fun a o e => by
          unfold hid at e ⊢
          by_cases ha : a = D
          · rw [if_pos ha] at e; cases e
          · rw [if_neg ha] at e ⊢
            by_cases h1 : H1 a = none
            · rw [ext_none h1] at e ⊢; rw [upd_ne ha]; exact e
            · rw [ext_some h1] at e ⊢; exact e
        have rw5 : Rp K dr (hid D (ext I1 H1 H5)) w y := by
          refine r5.mono fun a o e => ?_
          by_cases h4 : H4 a = none
          · rw [ext_none h4] at e
            have ha : a ≠ D := fun z => by subst z; rw [hacc4] at h4; cases h4
            have h1 : H1 a = none := k14.none_back p1 h4
            unfold hid
            rw [if_neg ha, ext_none h1]
            exact e
          · rw [ext_some h4] at e
            by_cases h3 : H3 a = none
            · rw [ext_none h3] at e
              have ha : a ≠ D := fun z => by
                subst z
                have := k3.keep a _ hacc (p1.notDr hD)
                rw [h3] at this; cases this
              have h1 : H1 a = none := k13.none_back p1 h3
              unfold hid
              rw [if_neg ha, ext_none h1]
              exact k5.keep a o e (p1.notDr h1)
            · rw [ext_some h3] at e
              exact grow H3 H5 k13 (k4.trans k5) a o e
        have hl := racc.len
        refine ⟨acc, hacc5, Nat.lt_of_lt_of_le (by omega) (size_le hlen), acc ++ [w], outs ++ [y], kU, upd_same, ?_, by rw [List.length_append, List.length_singleton]; omega, hy5⟩
        exact (RpL.mono up _ _ ((RpL.mono (grow H2 H5 k2 ((k3.trans k4).trans k5)) _ _ racc).append (.cons rw5 .nil)))
  · have ei : i = ds.length := by omega
    subst ei
    rw [List.drop_length] at hc2
    refine .inl ⟨itr.stop _ H2 sv (Nat.le_refl _), q _ _ H2 hc2 (k1.trans k2) ⟨D, rfl, k1.none_back p hD, acc, hacc, ?_⟩⟩
    rw [← hI1, p.ext_ext k1 k2] at racc
    exact racc
section
variable {xr : XR} {X : Cx} {W : WX} {elt tg iter : Expr} {ifs : List Expr} {scope : Scope} {own : List (Str × Nat)} {pos : Pos} {ii : II} {g : G} {ts : List Nat} {it : IT} {ie : IE}
def LTs (xr : XR) (X : Cx) (W : WX) (es : List Expr) (it : IT) : Prop := ∃ tt, PTs X es tt ∧ SndT X.K xr W tt it
theorem lts_nil : LTs xr X W [] bYes := ⟨_, pts_nil, fun dr env σ I H P E p ev hi o Q q => q true H hi Kp.refl⟩
theorem lts_one {c : Expr} (h : LT xr X W c it) : LTs xr X W [c] it := let ⟨_, p, s⟩ := h; ⟨_, pts_one p, s⟩
abbrev Blk (X : Cx) (scope : Scope) (P : Cx → Prop) : Prop := ∀ (s : Shared) (H : Hp) (C : Addr) (cl : List (Str × Addr)) (fp : List Addr), P (X.blk s H scope (compEnvC scope cl C X.env) fp)
theorem PE.uni {ι : Type} {F : ι → Cx} {e : Expr} {t : ι → TE} (h : ∀ c, PE (F c) e (t c)) (c : ι) : PE (F c) e (fun σ H Q => ∀ c, t c σ H Q) := ⟨fun pins s σ H Q I hq => (h c).run pins s σ H Q I (hq c)⟩
theorem blk_e {K : Fr} {ι : Type} {F : ι → Cx} {e : Expr} {ie : IE} (hK : ∀ c, (F c).K = K) (h : ∀ c, LE xr (F c) WF e ie) : ∃ te, (∀ c, PE (F c) e te) ∧ Snd K xr WF te ie := by
  have h' : ∀ c, ∃ te, PE (F c) e te ∧ Snd K xr WF te ie := fun c => by
    have z := h c
    unfold LE at z
    rw [hK c] at z
    exact z
  exact ⟨fun σ H Q => ∀ c, (h' c).choose σ H Q, fun c => PE.uni (fun c => (h' c).choose_spec.1) c, fun dr env σ I H P E p ev hi o Q q c => (h' c).choose_spec.2 dr env σ I H P E p ev hi o Q q⟩
theorem blk_t {K : Fr} {ι : Type} {F : ι → Cx} {ifs : List Expr} {it : IT} (hK : ∀ c, (F c).K = K) (h : ∀ c, LTs xr (F c) WF ifs it) : ∃ tt, (∀ c, PTs (F c) ifs tt) ∧ SndT K xr WF tt it := by
  have h' : ∀ c, ∃ te, PTs (F c) ifs te ∧ SndT K xr WF te it := fun c => by
    have z := h c
    unfold LTs at z
    rw [hK c] at z
    exact z
  exact ⟨fun σ H Q => ∀ c, (h' c).choose σ H Q, fun c => ⟨fun pins s σ H Q I hq => ((h' c).choose_spec.1).run pins s σ H Q I (hq c)⟩, fun dr env σ I H P E p ev hi o Q q c => (h' c).choose_spec.2 dr env σ I H P E p ev hi o Q q⟩
theorem blk_g {K : Fr} {ι : Type} {F : ι → Cx} {tg : Expr} {g : G} {ts : List Nat} (hK : ∀ c, (F c).K = K) (h : ∀ c, LG (F c) tg g ts) : ∃ t, (∀ c, PG (F c) tg t) ∧ SndG K t g ts := by
  have h' : ∀ c, ∃ te, PG (F c) tg te ∧ SndG K te g ts := fun c => by
    have z := h c
    unfold LG at z
    rw [hK c] at z
    exact z
  exact ⟨fun v σ H Q => ∀ c, (h' c).choose v σ H Q, fun c => ⟨fun pins s σ H v u Q I r hq => ((h' c).choose_spec.1).run pins s σ H v u Q I r (hq c)⟩, fun dr env σ I H v d P p ev r hi Q q c => (h' c).choose_spec.2 dr env σ I H v d P p ev r hi Q q⟩
theorem ln_comp (hc : X.calm = true) (hN : X.N.Nodup) (hi : LIO xr X W tg iter ii) (ok : BlkOk X.N X.env.scope scope own) (hts : ts = own.map (·.2))
    (hg : Blk X scope fun X' => LG X' tg g ts) (ht : Blk X scope fun X' => LTs xr X' WF ifs it) (he : Blk X scope fun X' => LE xr X' WF elt ie) (hs : ∀ x, foldedSetIterable iter X.env x = pure x := by intro _; rfl) :
    LN xr X W (.ListComp elt [⟨tg, iter, ifs, 0⟩] scope pos) (nComp ts ii g it ie) := by
  obtain ⟨wi, pi, si⟩ := hi
  subst hts
  obtain ⟨t, pg, sg⟩ := blk_g (ι := Shared × Hp × Addr × List (Str × Addr) × List Addr) (K := X.K) (F := fun c => X.blk c.1 c.2.1 scope (compEnvC scope c.2.2.2.1 c.2.2.1 X.env) c.2.2.2.2) (fun _ => rfl) fun c => hg c.1 c.2.1 c.2.2.1 c.2.2.2.1 c.2.2.2.2
  obtain ⟨tt, pt, st⟩ := blk_t (xr := xr) (ι := Shared × Hp × Addr × List (Str × Addr) × List Addr) (K := X.K) (F := fun c => X.blk c.1 c.2.1 scope (compEnvC scope c.2.2.2.1 c.2.2.1 X.env) c.2.2.2.2) (fun _ => rfl) fun c => ht c.1 c.2.1 c.2.2.1 c.2.2.2.1 c.2.2.2.2
  obtain ⟨te, pe, se⟩ := blk_e (xr := xr) (ι := Shared × Hp × Addr × List (Str × Addr) × List Addr) (K := X.K) (F := fun c => X.blk c.1 c.2.1 scope (compEnvC scope c.2.2.2.1 c.2.2.1 X.env) c.2.2.2.2) (fun _ => rfl) fun c => he c.1 c.2.1 c.2.2.1 c.2.2.2.1 c.2.2.2.2
  exact ⟨_, pe_lc hc hN pi ok (fun s H C cl fp => pg (s, H, C, cl, fp)) (fun s H C cl fp => pt (s, H, C, cl, fp)) (fun s H C cl fp => pe (s, H, C, cl, fp)) hs, sndN_comp si sg (fun _ h => h) st se⟩
end
end DL

set_option maxRecDepth 100000
/-! DL7: statements. -/
namespace DL
open PySem L2 PyProof.Rows

/-- what is wanted behind a statement, over plain data -/
structure Po where
  nx : List Sl → Prop
  rt : Dt → Prop
  bk : List Sl → Prop := fun _ => False
  ct : List Sl → Prop := fun _ => False
  ex : Xc → Prop := fun _ => False
abbrev IS := List Sl → Po → Prop

/-- the state within a def: (J, B) as at its entry, Gh what a loop leans on, I what never changes -/
structure Stt (K : Fr) (dr : Dr) (J B Gh : Hp) (env : List Sl) (σ : L2.St) (I H : Hp) : Prop where
  sub : Same J I
  eq : ∀ a, B a ≠ none → I a = J a
  pre : Pre dr I H
  pre0 : Pre dr J B
  kp : Kp dr B H
  ev : EnvOk K dr env σ I H
  own : ∀ i d p, sl env i = .ow d → σ[i]? = some (some (.ref p)) → B p = none
  gh : Same Gh I
section
variable {K : Fr} {dr : Dr} {J B Gh I H H' : Hp} {env : List Sl} {σ : L2.St}
theorem Stt.step (s : Stt K dr J B Gh env σ I H) (k : Kp dr H H') : Stt K dr J B Gh env σ (ext I H H') H' where
  sub := s.sub.trans s.pre.ext_sub
  eq := fun a h => by
    rw [ext_some fun z => h (s.kp.none_back s.pre0 z)]
    exact s.eq a h
  pre := s.pre.step k
  pre0 := s.pre0
  kp := s.kp.trans k
  ev := s.ev.step k s.pre
  own := s.own
  gh := s.gh.trans s.pre.ext_sub
theorem Stt.hid (s : Stt K dr J B Gh env σ I H) (k : Kp dr H H') {p : Addr} (hp : H p = none) : Stt K dr J B Gh env σ (hid p (ext I H H')) H' := by
  have up : Same I (DL.hid p (ext I H H')) := fun a o e => by
    have ne : a ≠ p := fun y => by subst y; have := s.pre.sub _ _ e; rw [hp] at this; cases this
    unfold DL.hid
    rw [if_neg ne]
    exact s.pre.ext_sub a o e
  refine ⟨s.sub.trans up, fun a h => ?_, s.pre.hid k p, s.pre0, s.kp.trans k, s.ev.hid s.pre k hp, s.own, s.gh.trans up⟩
  have ha : H a ≠ none := fun z => h (s.kp.none_back s.pre0 z)
  have ne : a ≠ p := fun y => by subst y; exact ha hp
  unfold DL.hid
  rw [if_neg ne, ext_some ha]
  exact s.eq a h
/-- what comes out, as the caller sees it -/
theorem Stt.out (s : Stt K dr J B Gh env σ I H) : Same I (ext J B H) := fun a o e => by
  by_cases h : B a = none
  · rw [ext_none h]; exact s.pre.sub a o e
  · rw [ext_some h, ← s.eq a h]; exact e
theorem Stt.weak {Gh' : Hp} (s : Stt K dr J B Gh env σ I H) (h : Same Gh' Gh) : Stt K dr J B Gh' env σ I H := ⟨s.sub, s.eq, s.pre, s.pre0, s.kp, s.ev, s.own, h.trans s.gh⟩
theorem Stt.put {ts : List Nat} {env' : List Sl} {σ' : L2.St} (s : Stt K dr J B Gh env σ I H) (p : Put K dr ts env σ I H env' σ') : Stt K dr J B Gh env' σ' I H :=
  ⟨s.sub, s.eq, s.pre, s.pre0, s.kp, p.ok, fun i d q e1 e2 => let ⟨a, b⟩ := p.own i d q e1 e2; s.own i d q a b, s.gh⟩
/-- a value with its slot's word -/
def Vok (K : Fr) (dr : Dr) (B I H : Hp) (env : List Sl) (σ : L2.St) (v : V) : Sl → Prop
  | .im d => Rp K dr I v d
  | .ow d => ∃ p, v = .ref p ∧ I p = none ∧ ¬ IsDr dr p ∧ B p = none ∧ OwR K dr I H p d ∧ ∀ j e, sl env j = .ow e → σ[j]? ≠ some (some (.ref p))
  | .no => False
theorem Stt.set {i : Nat} {v : V} {s' : Sl} (s : Stt K dr J B Gh env σ I H) (h : Vok K dr B I H env σ v s') : Stt K dr J B Gh (DL.put env i s') (σ.set i (some v)) I H := by
  cases s' with
  | no => exact h.elim
  | im d =>
    have p := sndG_name (K := K) (i := i) dr env σ I H v d (fun e => e = DL.put env i (.im d)) s.pre s.ev h rfl (fun σ' _ => σ' = σ.set i (some v) → Stt K dr J B Gh (DL.put env i (.im d)) (σ.set i (some v)) I H) fun env' σ' e pu e2 => by
      subst e e2
      exact s.put pu
    exact p rfl
  | ow d =>
    obtain ⟨p, rfl, h1, h2, h0, h3, h4⟩ := h
    refine ⟨s.sub, s.eq, s.pre, s.pre0, s.kp, s.ev.put_ow h1 h2 h3 fun j e a b => absurd b (h4 j e a), fun j d' q e1 e2 => ?_, s.gh⟩
    rw [sl_put] at e1
    rw [List.getElem?_set] at e2
    by_cases hij : i = j
    · by_cases hl : j < σ.length
      · rw [if_pos hij, if_pos (by rw [hij]; exact hl)] at e2
        have : p = q := by simpa using e2
        rw [← this]; exact h0
      · rw [if_pos hij, if_neg (by rw [hij]; exact hl)] at e2; cases e2
    · rw [if_neg (fun z => hij z.1)] at e1
      rw [if_neg hij] at e2
      exact s.own j d' q e1 e2
end

/-- a value that is put: clean, or new -/
abbrev IX := List Sl → (Sl → Prop) → (Xc → Prop) → Prop
def SndX (K : Fr) (xr : XR) (W : WX) (te : TE) (ix : IX) : Prop := ∀ dr J B Gh env σ I H P E, Stt K dr J B Gh env σ I H → ix env P E → OutE xr W dr σ H E → ∀ Q : VK, (∀ s v I' H', P s → Kp dr H H' → Same I I' → (∀ a, H a ≠ none → I' a = I a) → Stt K dr J B Gh env σ I' H' → Vok K dr B I' H' env σ v s → (∀ p, v = .ref p → (∃ d, s = .ow d) → H p = none) → Q v H') → te σ H Q
@[simp] def xE (ie : IE) : IX := fun env P E => ie env (fun d => P (.im d)) E
@[simp] def xN (ie : IE) : IX := fun env P E => ie env (fun d => P (.ow d)) E
section
variable {K : Fr} {xr : XR} {W : WX} {te ta tb : TE} {ie : IE} {ix iy : IX}
theorem Snd.X (h : Snd K xr W te ie) : SndX K xr W te (xE ie) := fun dr J B Gh env σ I H P E s hi o Q q =>
  h dr env σ I H _ E s.pre s.ev hi o Q fun d v H' hP k r => q _ v _ H' hP k s.pre.ext_sub (fun a h => ext_some h) (s.step k) r fun p _ z => nomatch z
theorem SndN.X (h : SndN K xr W te ie) : SndX K xr W te (xN ie) := fun dr J B Gh env σ I H P E s hi o Q q =>
  h dr env σ I H _ E s.pre s.ev hi o Q fun d v H' hP k r => by
    obtain ⟨p, rfl, hp, r⟩ := r
    have up : Same I (DL.hid p (ext I H H')) := fun a o e => by
      have ne : a ≠ p := fun y => by subst y; have := s.pre.sub _ _ e; rw [hp] at this; cases this
      unfold DL.hid
      rw [if_neg ne]
      exact s.pre.ext_sub a o e
    refine q _ _ _ H' hP k up (fun a h => ?_) (s.hid k hp) ⟨p, rfl, ?_, s.pre.notDr hp, s.kp.none_back s.pre0 hp, r, fun j e a b => ?_⟩ fun p' e _ => by cases e; exact hp
    · have ne : a ≠ p := fun y => by subst y; exact h hp
      unfold DL.hid
      rw [if_neg ne, ext_some h]
    · unfold DL.hid
      rw [if_pos rfl]
    · obtain ⟨p', e1, _, _, h3⟩ := s.ev.ow a
      rw [b] at e1
      cases e1
      obtain ⟨_, e2⟩ := h3.some_
      rw [hp] at e2; cases e2
/-- behind a second value the first one's word stands -/
theorem Vok.stay {dr : Dr} {B I H I' H' : Hp} {env : List Sl} {σ : L2.St} {v : V} {s : Sl} (h : Vok K dr B I H env σ v s) (k : Kp dr H H') (sub : Same I I') (eq : ∀ a, H a ≠ none → I' a = I a) : Vok K dr B I' H' env σ v s := by
  cases s with
  | no => exact h.elim
  | im d => exact Rp.mono sub _ _ h
  | ow d =>
    obtain ⟨p, rfl, h1, h2, h0, h3, h4⟩ := h
    obtain ⟨o, e⟩ := h3.some_
    refine ⟨p, rfl, ?_, h2, h0, h3.mono sub ((k.keep p o e h2).trans e.symm), h4⟩
    rw [eq p (by rw [e]; simp)]
    exact h1
end

/-! ### what a statement's reading keeps to -/
structure OutS (K : Fr) (xr : XR) (W : WX) (dr : Dr) (J B Gh : Hp) (Pp : Po) (D : Ends) : Prop where
  nx : ∀ env σ I H, Pp.nx env → Stt K dr J B Gh env σ I H → D.nx σ H
  bk : ∀ env σ I H, Pp.bk env → Stt K dr J B Gh env σ I H → D.bk σ H
  ct : ∀ env σ I H, Pp.ct env → Stt K dr J B Gh env σ I H → D.ct σ H
  rt : ∀ d v H, Pp.rt d → Kp dr B H → Rp K dr (ext J B H) v d → D.rt v H
  ex : ∀ x c a σ H, Pp.ex x → Kp dr B H → xr x c a H → W c a σ H
def SndS (K : Fr) (xr : XR) (W : WX) (t : TS) (is : IS) : Prop := ∀ dr J B Gh env σ I H Pp D, Stt K dr J B Gh env σ I H → is env Pp → OutS K xr W dr J B Gh Pp D → t D σ H
section
variable {K : Fr} {xr : XR} {W : WX} {te ta tb ti : TE} {ie ia ib : IE} {ix iy : IX} {tc : TT} {it : IT} {t u : TS} {is iu : IS}
theorem OutS.e {dr : Dr} {J B Gh : Hp} {Pp : Po} {D : Ends} {env : List Sl} {σ : L2.St} {I H : Hp} (o : OutS K xr W dr J B Gh Pp D) (s : Stt K dr J B Gh env σ I H) : OutE xr W dr σ H Pp.ex := fun x c a H' h k r => o.ex x c a σ H' h (s.kp.trans k) r
@[simp] def sNext : IS := fun env Pp => Pp.nx env
@[simp] def sBreak : IS := fun env Pp => Pp.bk env
@[simp] def sCont : IS := fun env Pp => Pp.ct env
@[simp] def sSeq (is iu : IS) : IS := fun env Pp => is env { Pp with nx := fun env' => iu env' Pp }
@[simp] def sRet (ie : IE) : IS := fun env Pp => ie env Pp.rt Pp.ex
@[simp] def sRetN : IS := fun _ Pp => Pp.rt .non
@[simp] def sDrop (ie : IE) : IS := fun env Pp => ie env (fun _ => Pp.nx env) Pp.ex
@[simp] def sIf (it : IT) (is iu : IS) : IS := fun env Pp => it env (fun b => if b = true then is env Pp else iu env Pp) Pp.ex
@[simp] def sSet (i : Nat) (ix : IX) : IS := fun env Pp => ix env (fun s => Pp.nx (put env i s)) Pp.ex
@[simp] def sPar (i j : Nat) (ix iy : IX) : IS := fun env Pp => ix env (fun s => iy env (fun s' => Pp.nx (put (put env i s) j s')) Pp.ex) Pp.ex
@[simp] def sNever : IS := fun _ _ => False
/-- an owned object is owned no longer -/
def frz (env : List Sl) (i : Nat) : List Sl := match sl env i with
  | .ow d => put env i (.im d)
  | _ => env
@[simp] def sFrz (i : Nat) (is : IS) : IS := fun env Pp => is (frz env i) Pp
theorem sndS_next : SndS K xr W tNext sNext := fun dr J B Gh env σ I H Pp D s h o => o.nx _ _ _ _ h s
theorem sndS_break : SndS K xr W tBreak sBreak := fun dr J B Gh env σ I H Pp D s h o => o.bk _ _ _ _ h s
theorem sndS_cont : SndS K xr W tCont sCont := fun dr J B Gh env σ I H Pp D s h o => o.ct _ _ _ _ h s
theorem sndS_never : SndS K xr W tNever sNever := fun dr J B Gh env σ I H Pp D s h o => h.elim
theorem sndS_seq (h1 : SndS K xr W t is) (h2 : SndS K xr W u iu) : SndS K xr W (tSeq t u) (sSeq is iu) := fun dr J B Gh env σ I H Pp D s h o =>
  h1 dr J B Gh env σ I H _ { D with nx := u D } s h ⟨fun env' σ' I' H' hn s' => h2 dr J B Gh env' σ' I' H' Pp D s' hn o, o.bk, o.ct, o.rt, o.ex⟩
theorem sndS_ret (h : Snd K xr W te ie) : SndS K xr W (tRet te) (sRet ie) := fun dr J B Gh env σ I H Pp D s hi o =>
  h dr env σ I H _ _ s.pre s.ev hi (o.e s) _ fun d v H' hP k r => o.rt d v H' hP (s.kp.trans k) (r.mono (s.step k).out)
theorem sndS_retN : SndS K xr W tRetN sRetN := fun dr J B Gh env σ I H Pp D s hi o => o.rt .non .non H hi s.kp .non
theorem sndS_drop (h : Snd K xr W te ie) : SndS K xr W (tDrop te) (sDrop ie) := fun dr J B Gh env σ I H Pp D s hi o =>
  h dr env σ I H _ _ s.pre s.ev hi (o.e s) _ fun d v H' hP k r => o.nx _ _ _ _ hP (s.step k)
theorem sndS_if (hc : SndT K xr W tc it) (h1 : SndS K xr W t is) (h2 : SndS K xr W u iu) : SndS K xr W (tIfS tc t u) (sIf it is iu) := fun dr J B Gh env σ I H Pp D s hi o =>
  hc dr env σ I H _ _ s.pre s.ev hi (o.e s) _ fun b H' hb k => by
    cases b with
    | true => exact h1 dr J B Gh env σ _ H' Pp D (s.step k) hb o
    | false => exact h2 dr J B Gh env σ _ H' Pp D (s.step k) hb o
theorem sndS_set {i : Nat} (h : SndX K xr W te ix) : SndS K xr W (tAsg te (gName i)) (sSet i ix) := fun dr J B Gh env σ I H Pp D s hi o =>
  h dr J B Gh env σ I H _ _ s hi (o.e s) _ fun s' v I' H' hP _ _ _ st vo _ => o.nx _ _ _ _ hP (st.set vo)
theorem sndS_par {i j : Nat} (ha : SndX K xr W ta ix) (hb : SndX K xr W tb iy) : SndS K xr W (tPar i j (tCons ta (tCons tb tNil))) (sPar i j ix iy) := fun dr J B Gh env σ I H Pp D s hi o =>
  ha dr J B Gh env σ I H _ _ s hi (o.e s) _ fun s1 v1 I1 H1 h1 k1 _ _ st1 vo1 nw1 =>
    hb dr J B Gh env σ I1 H1 _ _ st1 h1 (o.e st1) _ fun s2 v2 I2 H2 h2 k2 sub2 eq2 st2 vo2 nw2 => by
      refine ⟨v1, v2, rfl, o.nx _ _ I2 H2 h2 ?_⟩
      have st := st2.set (i := i) (vo1.stay k2 sub2 eq2)
      refine st.set (i := j) ?_
      cases s2 with
      | no => exact vo2.elim
      | im d => exact vo2
      | ow d =>
        obtain ⟨p, rfl, a1, a2, a0, a3, a4⟩ := vo2
        refine ⟨p, rfl, a1, a2, a0, a3, fun k e b1 b2 => ?_⟩
        rw [sl_put] at b1
        rw [List.getElem?_set] at b2
        by_cases hik : i = k
        · by_cases hl : i < σ.length
          · rw [if_pos hik, if_pos hl] at b2
            have e1 : v1 = .ref p := by simpa using b2
            have hp := nw2 p rfl ⟨d, rfl⟩
            rw [hik.symm] at b1
            rw [← st2.ev.len] at b1
            rw [if_pos ⟨rfl, hl⟩] at b1
            subst b1
            obtain ⟨p', e2, _, _, _, c3, _⟩ := vo1
            rw [e1] at e2
            cases e2
            obtain ⟨_, e3⟩ := c3.some_
            rw [hp] at e3; cases e3
          · rw [if_pos hik, if_neg hl] at b2; cases b2
        · rw [if_neg (fun z => hik z.1)] at b1
          rw [if_neg hik] at b2
          exact a4 k e b1 b2
theorem Stt.frz {dr : Dr} {J B Gh : Hp} {env : List Sl} {σ : L2.St} {I H : Hp} (s : Stt K dr J B Gh env σ I H) (i : Nat) : ∃ I', Stt K dr J B Gh (frz env i) σ I' H := by
  unfold DL.frz
  split
  · rename_i d e
    obtain ⟨p, e1, h1, h2, h3⟩ := s.ev.ow e
    obtain ⟨o, e2⟩ := h3.some_
    have up : Same I (upd I p o) := fun a u z => by rw [upd_ne (ne_of_none z h1)]; exact z
    have hp : B p = none := s.own i d p e e1
    refine ⟨upd I p o, ⟨s.sub.trans up, fun a ha => ?_, s.pre.take e2 h2, s.pre0, s.kp, ?_, fun j d' q a b => ?_, s.gh.trans up⟩⟩
    · rw [upd_ne (fun (z : a = p) => ha (by rw [z]; exact hp))]
      exact s.eq a ha
    · have li : i < env.length := sl_lt (by rw [e]; simp)
      refine ⟨by rw [put_length]; exact s.ev.len, fun j hj => ?_, fun j k d' e' q a1 a2 a3 a4 => ?_⟩
      · rw [put_length] at hj
        rw [sl_put]
        by_cases hij : i = j
        · rw [if_pos ⟨hij, hj⟩, ← hij, e1]
          exact ⟨_, rfl, h3.rp up (by rw [upd_same]; exact e2.symm)⟩
        · rw [if_neg (fun z => hij z.1)]
          have q := s.ev.at_ j hj
          revert q
          cases hs : sl env j with
          | no => intro _; trivial
          | im d' => rintro ⟨v, ev, r⟩; exact ⟨v, ev, r.mono up⟩
          | ow d' =>
            rintro ⟨q, ev, b1, b2, b3⟩
            have ne : q ≠ p := fun z => by
              subst z
              exact hij (s.ev.sep i j d d' q e hs e1 (join_some ev))
            exact ⟨q, ev, by rw [upd_ne ne]; exact b1, b2, b3.mono up rfl⟩
      · rw [sl_put] at a1 a2
        by_cases hj : i = j ∧ j < env.length
        · rw [if_pos hj] at a1; cases a1
        · by_cases hk : i = k ∧ k < env.length
          · rw [if_pos hk] at a2; cases a2
          · rw [if_neg hj] at a1
            rw [if_neg hk] at a2
            exact s.ev.sep j k d' e' q a1 a2 a3 a4
    · rw [sl_put] at a
      by_cases hj : i = j ∧ j < env.length
      · rw [if_pos hj] at a; cases a
      · rw [if_neg hj] at a
        exact s.own j d' q a b
  · exact ⟨I, s⟩
theorem sndS_frz {i : Nat} (h : SndS K xr W t is) : SndS K xr W t (sFrz i is) := fun dr J B Gh env σ I H Pp D s hi o =>
  let ⟨I', s'⟩ := s.frz i; h dr J B Gh _ σ I' H Pp D s' hi o

/-! ### owned objects changed -/
theorem Stt.write {dr : Dr} {J B Gh : Hp} {env : List Sl} {σ : L2.St} {I H : Hp} {i : Nat} {d d' : Dt} {p : Addr} {o : HO} (s : Stt K dr J B Gh env σ I H) (e : sl env i = .ow d) (e1 : σ[i]? = some (some (.ref p))) (h : OwR K dr I (upd H p o) p d') : Stt K dr J B Gh (DL.put env i (.ow d')) σ I (upd H p o) := by
  obtain ⟨p', e1', h1, h2, h3⟩ := s.ev.ow e
  rw [e1] at e1'
  cases e1'
  have hp : B p = none := s.own i d p e e1
  have li : i < env.length := sl_lt (by rw [e]; simp)
  have n1 : ∀ q, dr = some q → q.1 ≠ p ∧ q.2 ≠ p := fun q eq => ⟨fun z => h2 ⟨q, eq, .inl z.symm⟩, fun z => h2 ⟨q, eq, .inr z.symm⟩⟩
  have dro : ∀ q, dr = some q → DrOk q H → DrOk q (upd H p o) := fun q eq ⟨x, cs, a1, a2, a3⟩ => ⟨x, cs, by rw [upd_ne (n1 q eq).1]; exact a1, by rw [upd_ne (n1 q eq).2]; exact a2, a3⟩
  refine ⟨s.sub, s.eq, ⟨fun a u z => ?_, fun q eq => dro q eq (s.pre.dro q eq), s.pre.nI⟩, s.pre0, ⟨fun a u z n => ?_, fun q eq z => dro q eq (s.kp.dro q eq z)⟩, ⟨by rw [put_length]; exact s.ev.len, fun j hj => ?_, fun j k d1 d2 q a1 a2 a3 a4 => ?_⟩, fun j d1 q a b => ?_, s.gh⟩
  · rw [upd_ne (ne_of_none z h1)]; exact s.pre.sub a u z
  · rw [upd_ne (ne_of_none z hp)]; exact s.kp.keep a u z n
  · rw [put_length] at hj
    rw [sl_put]
    by_cases hij : i = j
    · rw [if_pos ⟨hij, hj⟩, ← hij, e1]
      exact ⟨p, rfl, h1, h2, h⟩
    · rw [if_neg (fun z => hij z.1)]
      have q := s.ev.at_ j hj
      revert q
      cases hs : sl env j with
      | no => intro _; trivial
      | im d' => rintro ⟨v, ev, r⟩; exact ⟨v, ev, r⟩
      | ow d1 =>
        rintro ⟨q, ev, b1, b2, b3⟩
        have ne : q ≠ p := fun z => by
          subst z
          exact hij (s.ev.sep i j d d1 q e hs e1 (join_some ev))
        exact ⟨q, ev, b1, b2, b3.mono (Same.refl _) (upd_ne ne)⟩
  · rw [sl_put] at a1 a2
    by_cases hj : i = j ∧ j < env.length
    · by_cases hk : i = k ∧ k < env.length
      · exact hj.1.symm.trans hk.1
      · rw [if_neg hk] at a2
        have z := s.ev.sep i k d d2 q e a2 (by rw [hj.1]; exact a3) a4
        exact hj.1.symm.trans z
    · rw [if_neg hj] at a1
      by_cases hk : i = k ∧ k < env.length
      · exact (s.ev.sep j i d1 d q a1 e a3 (by rw [hk.1]; exact a4)).trans hk.1
      · rw [if_neg hk] at a2
        exact s.ev.sep j k d1 d2 q a1 a2 a3 a4
  · rw [sl_put] at a
    by_cases hj : i = j ∧ j < env.length
    · rw [← hj.1, e1] at b
      have : p = q := by simpa using b
      rw [← this]; exact hp
    · rw [if_neg hj] at a
      exact s.own j d1 q a b
@[simp] def owL (env : List Sl) (i : Nat) (P : List Dt → Prop) : Prop := match sl env i with
  | .ow (.lst xs) => P xs
  | _ => False
theorem owL_of {env : List Sl} {i : Nat} {P : List Dt → Prop} (h : owL env i P) : ∃ xs, sl env i = .ow (.lst xs) ∧ P xs := by
  unfold owL at h
  split at h
  · exact ⟨_, by assumption, h⟩
  · exact h.elim
/-- x.append(e) -/
@[simp] def sApp (i : Nat) (ie : IE) : IS := fun env Pp => owL env i fun xs => xs.length < 16777216 ∧ ie env (fun d => Pp.nx (put env i (.ow (.lst (xs ++ [d]))))) Pp.ex
theorem lt_line {n : Nat} (h : n < 16777216) : n < sizeLine := by rw [sizeLine_eq]; exact h
theorem Stt.owLst {dr : Dr} {J B Gh : Hp} {env : List Sl} {σ : L2.St} {I H : Hp} {i : Nat} {xs : List Dt} (s : Stt K dr J B Gh env σ I H) (e : sl env i = .ow (.lst xs)) : ∃ p vs, σ[i]? = some (some (.ref p)) ∧ H p = some (.lst vs) ∧ ¬ IsDr dr p ∧ RpL K dr I vs xs :=
  let ⟨p, e1, _, h2, vs, h3, r⟩ := s.ev.ow e; ⟨p, vs, e1, h3, h2, r⟩
theorem sndS_app {i : Nat} (h : Snd K xr W te ie) : SndS K xr W (tDrop (tBM K "list" rAppend (tVar i) (tCons te tNil))) (sApp i ie) := fun dr J B Gh env σ I H Pp D s hi o => by
  obtain ⟨xs, e, hl, hi⟩ := owL_of hi
  obtain ⟨p, vs, e1, h1, hd, r⟩ := s.owLst e
  refine ⟨_, e1, .inl ⟨rfl, _, SqL.of h1⟩, ?_⟩
  refine h dr env σ I H _ _ s.pre s.ev hi (o.e s) _ fun d v H' hP k rv => ?_
  refine ⟨p, vs, v, rfl, rfl, k.keep p _ h1 hd, lt_line (by rw [r.len]; exact hl), o.nx _ _ _ _ hP ((s.step k).write e e1 ⟨vs ++ [v], upd_same, (RpL.mono s.pre.ext_sub _ _ r).append (.cons rv .nil)⟩)⟩
/-- x.extend(e) -/
@[simp] def sExt (i : Nat) (ie : IE) : IS := fun env Pp => owL env i fun xs => ie env (fun d => match d with
  | .lst ys => xs.length + ys.length ≤ 16777216 ∧ Pp.nx (put env i (.ow (.lst (xs ++ ys))))
  | _ => False) Pp.ex
theorem sndS_ext {i : Nat} (h : Snd K xr W te ie) : SndS K xr W (tDrop (tBM K "list" rExtend (tVar i) (tCons te tNil))) (sExt i ie) := fun dr J B Gh env σ I H Pp D s hi o => by
  obtain ⟨xs, e, hi⟩ := owL_of hi
  obtain ⟨p, vs, e1, h1, hd, r⟩ := s.owLst e
  refine ⟨_, e1, .inl ⟨rfl, _, SqL.of h1⟩, ?_⟩
  refine h dr env σ I H _ _ s.pre s.ev hi (o.e s) _ fun d v H' hP k rv => ?_
  split at hP
  · cases rv with
    | lst e2 r2 =>
      refine ⟨p, _, vs, _, rfl, rfl, k.keep p _ h1 hd, (s.step k).pre.sub _ _ e2, size_le (by rw [r.len, r2.len]; exact hP.1), o.nx _ _ _ _ hP.2 ((s.step k).write e e1 ⟨_, upd_same, (RpL.mono s.pre.ext_sub _ _ r).append r2⟩)⟩
  · exact hP.elim
/-- x = l.pop(e), x = l.pop() -/
@[simp] def popD (xs : List Dt) (P : Dt → List Dt → Prop) : Dt → Prop
  | .int k => (-(2 ^ 63) ≤ k ∧ k < 2 ^ 63) ∧ ∃ j d, ixN xs.length k = some j ∧ xs[j]? = some d ∧ P d (xs.eraseIdx j)
  | _ => False
@[simp] def sPopAt (x i : Nat) (ie : IE) : IS := fun env Pp => owL env i fun xs => ie env (fun k => popD xs (fun d ys => Pp.nx (put (put env i (.ow (.lst ys))) x (.im d))) k) Pp.ex
theorem sndS_popAt {x i : Nat} (h : Snd K xr W te ie) : SndS K xr W (tAsg (tBM K "list" rPopAt (tVar i) (tCons te tNil)) (gName x)) (sPopAt x i ie) := fun dr J B Gh env σ I H Pp D s hi o => by
  obtain ⟨xs, e, hi⟩ := owL_of hi
  obtain ⟨p, vs, e1, h1, hd, r⟩ := s.owLst e
  refine ⟨_, e1, .inl ⟨rfl, _, SqL.of h1⟩, ?_⟩
  refine h dr env σ I H _ _ s.pre s.ev hi (o.e s) _ fun d v H' hP k rv => ?_
  unfold popD at hP
  split at hP
  · cases rv
    obtain ⟨⟨a1, a2⟩, j, d, hj, hdj, hP⟩ := hP
    obtain ⟨w, hw, rw'⟩ := r.get hdj
    have st := (s.step k).write e e1 (d' := .lst (xs.eraseIdx j)) (o := .lst (vs.eraseIdx j)) ⟨_, upd_same, (RpL.mono s.pre.ext_sub _ _ r).eraseIdx j⟩
    exact ⟨p, vs, _, j, w, rfl, rfl, k.keep p _ h1 hd, a1, a2, by rw [r.len]; exact (ixN_seq hj).1, hw, o.nx _ _ _ _ hP (st.set (s' := .im d) (rw'.mono s.pre.ext_sub))⟩
  · exact hP.elim
/-- x[e] = v -/
@[simp] def setD (xs : List Dt) (d : Dt) (P : List Dt → Prop) : Dt → Prop
  | .int k => ∃ j, ixN xs.length k = some j ∧ P (xs.set j d)
  | _ => False
@[simp] def sSetAt (i : Nat) (ib : IE) (ie : IE) : IS := fun env Pp => ie env (fun d => owL env i fun xs => ib env (fun k => setD xs d (fun ys => Pp.nx (put env i (.ow (.lst ys)))) k) Pp.ex) Pp.ex
theorem sndS_setAt {i : Nat} (hb : Snd K xr W ti ib) (h : Snd K xr W te ie) : SndS K xr W (tAsg te (gSub (tVar i) ti rSetL)) (sSetAt i ib ie) := fun dr J B Gh env σ I H Pp D s hi o => by
  refine h dr env σ I H _ _ s.pre s.ev hi (o.e s) _ fun d v H1 hP k1 rv => ?_
  obtain ⟨xs, e, hi⟩ := owL_of hP
  have s1 := s.step k1
  obtain ⟨p, vs, e1, h1, hd, r⟩ := s1.owLst e
  refine ⟨_, e1, ?_⟩
  refine hb dr env σ _ H1 _ _ s1.pre s1.ev hi (o.e s1) _ fun kk w H2 hP2 k2 rw' => ?_
  unfold setD at hP2
  split at hP2
  · cases rw'
    obtain ⟨j, hj, hP2⟩ := hP2
    refine ⟨p, vs, _, j, rfl, rfl, k2.keep p _ h1 hd, by rw [r.len]; exact hj, o.nx _ _ _ _ hP2 ((s1.step k2).write e e1 ⟨_, upd_same, RpL.set (rv.mono s1.pre.ext_sub) j (RpL.mono s1.pre.ext_sub _ _ r)⟩)⟩
  · exact hP2.elim
/-- x += e of whole numbers -/
@[simp] def sAug (i : Nat) (f : Int → Int → Int) (ie : IE) : IS := fun env Pp => match sl env i with
  | .im (.int a) => ie env (fun d => asI d fun b => Pp.nx (put env i (.im (.int (f a b))))) Pp.ex
  | _ => False
theorem sndS_aug {i : Nat} {f : Int → Int → Int} (h : Snd K xr W te ie) : SndS K xr W (tAug i te (ipI f)) (sAug i f ie) := fun dr J B Gh env σ I H Pp D s hi o => by
  unfold sAug at hi
  split at hi
  · rename_i a e
    obtain ⟨v, e1, r⟩ := s.ev.im e
    cases r
    refine ⟨_, e1, h dr env σ I H _ _ s.pre s.ev hi (o.e s) _ fun d v H' hP k rv => ?_⟩
    obtain ⟨b, rfl, hb⟩ := isInt rv hP
    exact ⟨a, b, rfl, rfl, o.nx _ _ _ _ hb ((s.step k).set (s' := .im (.int (f a b))) (.int _))⟩
  · exact hi.elim

/-! ### targets of any form -/
abbrev IG := Dt → IS
def SndTG (K : Fr) (xr : XR) (W : WX) (tg : TG) (ig : IG) : Prop := ∀ dr J B Gh env σ I H Pp D v d, Stt K dr J B Gh env σ I H → Rp K dr I v d → ig d env Pp → OutS K xr W dr J B Gh Pp D → tg v σ H D.nx
def SndTGs (K : Fr) (xr : XR) (W : WX) (tg : TGs) (ig : List Dt → IS) : Prop := ∀ dr J B Gh env σ I H Pp D vs ds, Stt K dr J B Gh env σ I H → RpL K dr I vs ds → ig ds env Pp → OutS K xr W dr J B Gh Pp D → tg vs σ H D.nx
@[simp] def tgN (i : Nat) : IG := fun d env Pp => Pp.nx (put env i (.im d))
@[simp] def tgSub (i : Nat) (ib : IE) : IG := fun d env Pp => owL env i fun xs => ib env (fun k => setD xs d (fun ys => Pp.nx (put env i (.ow (.lst ys)))) k) Pp.ex
@[simp] def tgsNil : List Dt → IS
  | [], env, Pp => Pp.nx env
  | _, _, _ => False
@[simp] def tgsCons (ig : IG) (igs : List Dt → IS) : List Dt → IS
  | d :: ds, env, Pp => ig d env { Pp with nx := fun env' => igs ds env' Pp }
  | _, _, _ => False
@[simp] def tgT (n : Nat) (igs : List Dt → IS) : IG
  | .tup ds, env, Pp => ds.length = n ∧ igs ds env Pp
  | _, _, _ => False
@[simp] def sAsg (ie : IE) (ig : IG) : IS := fun env Pp => ie env (fun d => ig d env Pp) Pp.ex
theorem sndTG_name {i : Nat} : SndTG K xr W (gName i) (tgN i) := fun dr J B Gh env σ I H Pp D v d s r h o => o.nx _ _ _ _ h (s.set (s' := .im d) r)
theorem sndTG_sub {i : Nat} (hb : Snd K xr W ti ib) : SndTG K xr W (gSub (tVar i) ti rSetL) (tgSub i ib) := fun dr J B Gh env σ I H Pp D v d s rv h o => by
  obtain ⟨xs, e, hi⟩ := owL_of h
  obtain ⟨p, vs, e1, h1, hd, r⟩ := s.owLst e
  refine ⟨_, e1, ?_⟩
  refine hb dr env σ _ H _ _ s.pre s.ev hi (o.e s) _ fun kk w H2 hP2 k2 rw' => ?_
  unfold setD at hP2
  split at hP2
  · cases rw'
    obtain ⟨j, hj, hP2⟩ := hP2
    refine ⟨p, vs, _, j, rfl, rfl, k2.keep p _ h1 hd, by rw [r.len]; exact hj, o.nx _ _ _ _ hP2 ((s.step k2).write e e1 ⟨_, upd_same, RpL.set (rv.mono s.pre.ext_sub) j (RpL.mono s.pre.ext_sub _ _ r)⟩)⟩
  · exact hP2.elim
theorem sndTGs_nil : SndTGs K xr W gNil tgsNil := fun dr J B Gh env σ I H Pp D vs ds s r h o => by
  cases r with
  | nil => exact ⟨rfl, o.nx _ _ _ _ h s⟩
  | cons _ _ => exact h.elim
theorem OutS.nxt {dr : Dr} {J B Gh Gh' : Hp} {Pp : Po} {D : Ends} {n : List Sl → Prop} {N : L2.St → Hp → Prop} (o : OutS K xr W dr J B Gh Pp D) (hg : Same Gh Gh') (h : ∀ env σ I H, n env → Stt K dr J B Gh' env σ I H → N σ H) : OutS K xr W dr J B Gh' { Pp with nx := n } { D with nx := N } :=
  ⟨h, fun env σ I H z s => o.bk env σ I H z (s.weak hg), fun env σ I H z s => o.ct env σ I H z (s.weak hg), o.rt, o.ex⟩
theorem sndTGs_cons {tg : TG} {tgs : TGs} {ig : IG} {igs : List Dt → IS} (h1 : SndTG K xr W tg ig) (h2 : SndTGs K xr W tgs igs) : SndTGs K xr W (gCons tg tgs) (tgsCons ig igs) := fun dr J B Gh env σ I H Pp D vs ds s r h o => by
  cases r with
  | nil => exact h.elim
  | cons r1 r2 =>
    have s' : Stt K dr J B I env σ I H := ⟨s.sub, s.eq, s.pre, s.pre0, s.kp, s.ev, s.own, Same.refl _⟩
    exact ⟨_, _, rfl, h1 dr J B I env σ I H _ { D with nx := fun σ' H' => tgs _ σ' H' D.nx } _ _ s' r1 h (o.nxt s.gh fun env' σ' I' H' hn s2 => h2 dr J B Gh env' σ' I' H' Pp D _ _ (s2.weak s.gh) (RpL.mono s2.gh _ _ r2) hn o)⟩
theorem sndTG_tup {n : Nat} {tgs : TGs} {igs : List Dt → IS} (h : SndTGs K xr W tgs igs) : SndTG K xr W (gTup K n tgs) (tgT n igs) := fun dr J B Gh env σ I H Pp D v d s r hi o => by
  cases r with
  | tup e r => exact ⟨_, _, rfl, same_seqT s.pre.sub e, by rw [r.len]; exact hi.1, h dr J B Gh env σ I H Pp D _ _ s r hi.2 o⟩
  | _ => exact hi.elim
theorem sndS_asg {tg : TG} {ig : IG} (h : Snd K xr W te ie) (hg : SndTG K xr W tg ig) : SndS K xr W (tAsg te tg) (sAsg ie ig) := fun dr J B Gh env σ I H Pp D s hi o =>
  h dr env σ I H _ _ s.pre s.ev hi (o.e s) _ fun d v H' hP k rv => hg dr J B Gh env σ _ H' Pp D v d (s.step k) rv hP o

/-! ### loops -/
def forD (g : G) (body : IS) (Pp : Po) : List Dt → List Sl → Prop
  | [], env => Pp.nx env
  | d :: ds, env => g d env fun env1 => body env1 { Pp with nx := forD g body Pp ds, ct := forD g body Pp ds, bk := Pp.nx }
@[simp] def sFor (ii : II) (g : G) (body : IS) : IS := fun env Pp => ii env (fun ds => forD g body Pp ds env) Pp.ex
theorem sndS_for {wi : TI} {tg : TG} {ii : II} {g : G} {ts : List Nat} {body : IS} (hi : SndI K xr W wi ii) (hg : SndG K tg g ts) (hb : SndS K xr W t body) : SndS K xr W (tFor wi tg t) (sFor ii g body) := fun dr J B Gh env σ I H Pp D s h o => by
  refine hi dr env σ I H _ _ s.pre s.ev h (o.e s) _ fun ds Jt H1 hd k1 itr => ?_
  have s1 := s.step k1
  generalize ext I H H1 = Iv at s1 itr
  have s1' : Stt K dr J B Iv env σ Iv H1 := ⟨s1.sub, s1.eq, s1.pre, s1.pre0, s1.kp, s1.ev, s1.own, Same.refl _⟩
  refine ⟨fun i m σ' H' => m = ds.length - i ∧ i ≤ ds.length ∧ ∃ env' I', Stt K dr J B Iv env' σ' I' H' ∧ forD g body Pp (ds.drop i) env', ⟨ds.length, by simp, Nat.zero_le _, env, Iv, s1', hd⟩, ?_⟩
  rintro i m σ' H' ⟨rfl, hi', env', I', s', hf⟩
  have sv : Same Iv H' := s'.gh.trans s'.pre.sub
  by_cases hlt : i < ds.length
  · refine .inr ⟨itr.go i H' sv hlt, fun σ2 H2 => ∃ env' I', Stt K dr J B Iv env' σ2 I' H2 ∧ forD g body Pp (ds.drop (i + 1)) env', fun σ2 H2 h2 => ⟨ds.length - (i + 1), by omega, rfl, hlt, h2⟩, fun x H2 hy => ?_⟩
    obtain ⟨s3, rx⟩ := itr.yld i H' x H2 ds[i] sv (List.getElem?_eq_getElem hlt) hy
    have s2 := s'.step (Kp.of_same (dr := dr) s3)
    have rx2 := rx I' s'.gh s'.pre.sub
    have hdrop : ds.drop i = ds[i] :: ds.drop (i + 1) := (List.getElem_cons_drop (h := hlt)).symm
    rw [hdrop] at hf
    refine hg dr env' σ' _ H2 x ds[i] _ s2.pre s2.ev rx2 hf _ fun env1 σ1 h1 pu => ?_
    refine hb dr J B Iv env1 σ1 _ H2 _ _ (s2.put pu) h1 ⟨fun e σ I H z s => ⟨e, I, s, z⟩, fun e σ I H z s => o.nx e σ I H z (s.weak s1.gh), fun e σ I H z s => ⟨e, I, s, z⟩, o.rt, o.ex⟩
  · have ei : i = ds.length := by omega
    subst ei
    rw [List.drop_length] at hf
    exact .inl ⟨itr.stop _ H' sv (Nat.le_refl _), o.nx _ _ _ _ hf (s'.weak s1.gh)⟩
@[simp] def sWhile (it : IT) (body : IS) : IS := fun env Pp => ∃ Wd : Nat → List Sl → Prop, (∃ m, Wd m env) ∧ ∀ m e, Wd m e → it e (fun b => if b = true then body e { Pp with nx := fun e' => ∃ m', m' < m ∧ Wd m' e', ct := fun e' => ∃ m', m' < m ∧ Wd m' e', bk := Pp.nx } else Pp.nx e) Pp.ex
theorem sndS_while {body : IS} (hc : SndT K xr W tc it) (hb : SndS K xr W t body) : SndS K xr W (tWhile tc t) (sWhile it body) := fun dr J B Gh env σ I H Pp D s h o => by
  obtain ⟨Wd, ⟨m0, w0⟩, turn⟩ := h
  refine ⟨fun m σ' H' => ∃ env' I', Stt K dr J B Gh env' σ' I' H' ∧ Wd m env', ⟨m0, env, I, s, w0⟩, ?_⟩
  rintro m σ' H' ⟨env', I', s', w'⟩
  refine hc dr env' σ' I' H' _ _ s'.pre s'.ev (turn m env' w') (o.e s') _ fun b H2 hb' k => ?_
  cases b with
  | false => exact o.nx _ _ _ _ hb' (s'.step k)
  | true =>
    refine ⟨fun σ2 H2 => ∃ env2 I2, Stt K dr J B Gh env2 σ2 I2 H2 ∧ ∃ m', m' < m ∧ Wd m' env2, fun σ2 H2 ⟨env2, I2, s2, m', hm, w2⟩ => ⟨m', hm, env2, I2, s2, w2⟩, ?_⟩
    exact hb dr J B Gh env' σ' _ H2 _ _ (s'.step k) hb' ⟨fun e σ I H z s => ⟨e, I, s, z⟩, fun e σ I H z s => o.nx e σ I H z s, fun e σ I H z s => ⟨e, I, s, z⟩, o.rt, o.ex⟩
end
end DL

set_option maxRecDepth 100000
/-! DL8: links of statements, defs. -/
namespace DL
open PySem L2 PyProof.Rows

def LX (xr : XR) (X : Cx) (W : WX) (e : Expr) (ix : IX) : Prop := ∃ te, PE X e te ∧ SndX X.K xr W te ix
def LS (xr : XR) (X : Cx) (W : WX) (st : Stmt) (is : IS) : Prop := ∃ t, PS X st t ∧ SndS X.K xr W t is
def LSs (xr : XR) (X : Cx) (W : WX) (st : List Stmt) (is : IS) : Prop := ∃ t, PSs X st t ∧ SndS X.K xr W t is
def LTG (xr : XR) (X : Cx) (W : WX) (tg : Expr) (ig : IG) : Prop := ∃ t, PG X tg t ∧ SndTG X.K xr W t ig
def LTGs (xr : XR) (X : Cx) (W : WX) (tg : List Expr) (ig : List Dt → IS) : Prop := ∃ t, PGs X tg t ∧ SndTGs X.K xr W t ig

/-! ### a tuple of values, new ones among them, put into names at once -/
def putL : List Sl → List Nat → List Sl → List Sl
  | env, i :: is, s :: ss => putL (put env i s) is ss
  | env, _, _ => env
def setL : L2.St → List Nat → List V → L2.St
  | σ, i :: is, v :: vs => setL (σ.set i (some v)) is vs
  | σ, _, _ => σ
abbrev IXA := List Sl → (List Sl → Prop) → (Xc → Prop) → Prop
@[simp] def xNil : IXA := fun _ P _ => P []
@[simp] def xCons (ix : IX) (il : IXA) : IXA := fun env P E => ix env (fun s => il env (fun ss => P (s :: ss)) E) E
def VokL (K : Fr) (dr : Dr) (B I H : Hp) (env : List Sl) (σ : L2.St) : List V → List Sl → Prop
  | [], [] => True
  | v :: vs, s :: ss => Vok K dr B I H env σ v s ∧ VokL K dr B I H env σ vs ss ∧ ∀ p, v = .ref p → (∃ d, s = .ow d) → ∀ (j : Nat) d, ss[j]? = some (.ow d) → vs[j]? ≠ some (.ref p)
  | _, _ => False
def SndXA (K : Fr) (xr : XR) (W : WX) (ta : TA) (ix : IXA) : Prop := ∀ dr J B Gh env σ I H P E, Stt K dr J B Gh env σ I H → ix env P E → OutE xr W dr σ H E → ∀ Q : List V → Hp → Prop, (∀ ss vs I' H', P ss → Kp dr H H' → Same I I' → (∀ a, H a ≠ none → I' a = I a) → Stt K dr J B Gh env σ I' H' → VokL K dr B I' H' env σ vs ss → (∀ (j : Nat) p d, ss[j]? = some (.ow d) → vs[j]? = some (.ref p) → H p = none) → Q vs H') → ta σ H Q
section
variable {K : Fr} {xr : XR} {W : WX} {te : TE} {ta : TA} {ix : IX} {il : IXA}
theorem VokL.len {dr : Dr} {B I H : Hp} {env : List Sl} {σ : L2.St} : ∀ {vs : List V} {ss : List Sl}, VokL K dr B I H env σ vs ss → vs.length = ss.length
  | [], [], _ => rfl
  | _ :: _, _ :: _, h => congrArg (· + 1) (VokL.len h.2.1)
  | [], _ :: _, h => h.elim
  | _ :: _, [], h => h.elim
theorem VokL.stay {dr : Dr} {B I H I' H' : Hp} {env : List Sl} {σ : L2.St} (k : Kp dr H H') (sub : Same I I') (eq : ∀ a, H a ≠ none → I' a = I a) : ∀ {vs : List V} {ss : List Sl}, VokL K dr B I H env σ vs ss → VokL K dr B I' H' env σ vs ss
  | [], [], _ => trivial
  | _ :: _, _ :: _, h => ⟨h.1.stay k sub eq, VokL.stay k sub eq h.2.1, h.2.2⟩
  | [], _ :: _, h => h.elim
  | _ :: _, [], h => h.elim
theorem sndXA_nil : SndXA K xr W tNil xNil := fun dr J B Gh env σ I H P E s hi o Q q => q [] [] I H hi Kp.refl (Same.refl _) (fun _ _ => rfl) s trivial fun j p d z => by simp at z
theorem sndXA_cons (h : SndX K xr W te ix) (hl : SndXA K xr W ta il) : SndXA K xr W (tCons te ta) (xCons ix il) := fun dr J B Gh env σ I H P E s hi o Q q =>
  h dr J B Gh env σ I H _ E s hi o _ fun s1 v1 I1 H1 h1 k1 sub1 eq1 st1 vo1 nw1 =>
    hl dr J B Gh env σ I1 H1 _ E st1 h1 (o.step k1) _ fun ss vs I2 H2 h2 k2 sub2 eq2 st2 vo2 nw2 =>
      q _ _ I2 H2 h2 (k1.trans k2) (sub1.trans sub2) (fun a ha => by rw [eq2 a fun z => ha (k1.none_back s.pre z)]; exact eq1 a ha) st2
        ⟨vo1.stay k2 sub2 eq2, vo2, fun p e ⟨d, es⟩ j d' hj hv => by
          subst es
          obtain ⟨p', e', _, _, _, c3, _⟩ := vo1
          rw [e] at e'
          cases e'
          obtain ⟨_, e3⟩ := c3.some_
          have := nw2 j p d' hj hv
          rw [e3] at this; cases this⟩
        fun j p d hj hv => by
          cases j with
          | zero => exact nw1 p (by simpa using hv) ⟨d, by simpa using hj⟩
          | succ j => exact k1.none_back s.pre (nw2 j p d (by simpa using hj) (by simpa using hv))
theorem Stt.setL {dr : Dr} {J B Gh I H : Hp} : ∀ {is : List Nat} {vs : List V} {ss : List Sl} {env : List Sl} {σ : L2.St}, Stt K dr J B Gh env σ I H → VokL K dr B I H env σ vs ss → Stt K dr J B Gh (DL.putL env is ss) (DL.setL σ is vs) I H
  | [], [], [], _, _, s, _ => s
  | [], _ :: _, _ :: _, _, _, s, _ => s
  | _ :: _, [], [], _, _, s, _ => s
  | _, [], _ :: _, _, _, _, h => h.elim
  | _, _ :: _, [], _, _, _, h => h.elim
  | i :: is, v :: vs, s' :: ss, env, σ, s, h => by
    have s1 := s.set (i := i) h.1
    refine Stt.setL (is := is) s1 ?_
    -- the rest stays apart
    have key : ∀ {vs : List V} {ss : List Sl}, VokL K dr B I H env σ vs ss → (∀ p, v = .ref p → (∃ d, s' = .ow d) → ∀ (j : Nat) d, ss[j]? = some (.ow d) → vs[j]? ≠ some (.ref p)) → VokL K dr B I H (DL.put env i s') (σ.set i (some v)) vs ss := by
      intro vs ss
      induction vs generalizing ss with
      | nil => intro h _; cases ss <;> exact h
      | cons w vs ih =>
        intro h hn
        cases ss with
        | nil => exact h.elim
        | cons t ss =>
          refine ⟨?_, ih h.2.1 fun p e z j d hj => hn p e z (j + 1) d (by simpa using hj) |> fun q r => q (by simpa using r), h.2.2⟩
          have hv := h.1
          cases t with
          | no => exact hv.elim
          | im d => exact hv
          | ow d =>
            obtain ⟨p, rfl, a1, a2, a0, a3, a4⟩ := hv
            refine ⟨p, rfl, a1, a2, a0, a3, fun k e b1 b2 => ?_⟩
            rw [sl_put] at b1
            rw [List.getElem?_set] at b2
            by_cases hik : i = k
            · by_cases hl : i < σ.length
              · rw [if_pos hik, if_pos hl] at b2
                have e1 : v = .ref p := by simpa using b2
                have hlk : k < env.length := by rw [← hik, ← s.ev.len]; exact hl
                rw [if_pos ⟨hik, hlk⟩] at b1
                exact hn p e1 ⟨e, b1⟩ 0 d rfl rfl
              · rw [if_pos hik, if_neg hl] at b2; cases b2
            · rw [if_neg (fun z => hik z.1)] at b1
              rw [if_neg hik] at b2
              exact a4 k e b1 b2
    exact key h.2.1 h.2.2
/-- the reading of (a, b, ..) = e where e's items go to names -/
def gNames : List Nat → TGs
  | [] => gNil
  | i :: is => gCons (gName i) (gNames is)
theorem gNames_at : ∀ {is : List Nat} {vs : List V} {σ : L2.St} {H : Hp} {Q : L2.St → Hp → Prop}, vs.length = is.length → Q (setL σ is vs) H → gNames is vs σ H Q
  | [], [], _, _, _, _, h => ⟨rfl, h⟩
  | i :: is, v :: vs, σ, H, Q, e, h => ⟨v, vs, rfl, gNames_at (is := is) (by simpa using e) h⟩
@[simp] def sMany (is : List Nat) (il : IXA) : IS := fun env Pp => il env (fun ss => (ss.length = is.length ∧ ss.length ≤ 16777216) ∧ Pp.nx (putL env is ss)) Pp.ex
theorem sndS_many {is : List Nat} {n : Nat} (hn : n = is.length) (h : SndXA K xr W ta il) : SndS K xr W (tAsg (tTup ta) (gTup K n (gNames is))) (sMany is il) := fun dr J B Gh env σ I H Pp D s hi o => by
  refine h dr J B Gh env σ I H _ _ s hi (o.e s) _ fun ss vs I1 H1 hP k1 sub1 eq1 st1 vo1 nw1 => ?_
  have hl := vo1.len
  refine ⟨size_le (by rw [hl]; exact hP.1.2), fun t ht => ?_⟩
  have k2 : Kp dr H1 (upd H1 t (.tup vs)) := Kp.new st1.pre ht
  refine ⟨t, vs, rfl, SqT.of upd_same, by rw [hl, hn]; exact hP.1.1, gNames_at (by rw [hl]; exact hP.1.1) ?_⟩
  have up : Same I1 (hid t (ext I1 H1 (upd H1 t (.tup vs)))) := new_at st1.pre ht
  refine o.nx _ _ _ _ hP.2 (Stt.setL (st1.hid k2 ht) (vo1.stay k2 up fun a ha => ?_))
  have ne : a ≠ t := fun y => by subst y; exact ha ht
  unfold hid
  rw [if_neg ne, ext_some ha]
end
def LXA (xr : XR) (X : Cx) (W : WX) (es : List Expr) (ix : IXA) : Prop := ∃ ta, PA X es ta ∧ SndXA X.K xr W ta ix
def LNm (X : Cx) (es : List Expr) (is : List Nat) : Prop := PGs X es (gNames is)

section
variable {xr : XR} {X : Cx} {W : WX} {e a b c tg : Expr} {es : List Expr} {ie ia ib ic : IE} {ix iy : IX} {it : IT} {il : IA} {xl : IXA} {is iu : IS} {ig : IG} {igs : List Dt → IS} {st : Stmt} {rest p q : List Stmt} {pos : Pos} {ii : II} {g : G} {ts : List Nat}
theorem LE.x (h : LE xr X W e ie) : LX xr X W e (xE ie) := let ⟨_, p, s⟩ := h; ⟨_, p, s.X⟩
theorem LN.x (h : LN xr X W e ie) : LX xr X W e (xN ie) := let ⟨_, p, s⟩ := h; ⟨_, p, s.X⟩
theorem lxa_nil : LXA xr X W [] xNil := ⟨_, pa_nil, sndXA_nil⟩
theorem lxa_cons (h : LX xr X W e ix) (hl : LXA xr X W es xl) (hs : starEach (e :: es) X.env = (false, eval e X.env) :: starEach es X.env := by rfl) : LXA xr X W (e :: es) (xCons ix xl) :=
  let ⟨_, p, s⟩ := h; let ⟨_, pl, sl⟩ := hl; ⟨_, pa_cons p pl hs, sndXA_cons s sl⟩
theorem lnm_nil : LNm X [] [] := pgs_nil
theorem lnm_cons (i : Nat) {x : Str} {js : List Nat} (hN : X.N.Nodup) (hs : LNm X es js) (hi : X.N[i]? = some x := by rfl) (hx : Loc X.env.scope x := by first | exact Or.inl rfl | exact Or.inr rfl) (hf : X.fn x = true ∨ X.env.scope.names.lookup x = some .local := by first | exact .inl rfl | exact .inr rfl | assumption)
    (ha : (assignEach (.Name x pos :: es) X.env).map (·.2) = assign (.Name x pos) X.env :: (assignEach es X.env).map (·.2) := by rfl) : LNm X (.Name x pos :: es) (i :: js) := pgs_cons (pg_name hN hi hx hf) hs ha

/-! ### blocks -/
theorem lss_nil : LSs xr X W [] sNext := ⟨_, pss_nil, sndS_next⟩
theorem lss_cons (h : LS xr X W st is) (hr : LSs xr X W rest iu) : LSs xr X W (st :: rest) (sSeq is iu) := let ⟨_, p, s⟩ := h; let ⟨_, q, t⟩ := hr; ⟨_, pss_cons p q, sndS_seq s t⟩
theorem lss_one (h : LS xr X W st is) : LSs xr X W [st] is := let ⟨_, p, s⟩ := h; ⟨_, pss_one p, s⟩
theorem lss_frz (i : Nat) (h : LSs xr X W rest is) : LSs xr X W rest (sFrz i is) := let ⟨_, p, s⟩ := h; ⟨_, p, sndS_frz s⟩
theorem lss_never : LSs xr X W rest sNever := ⟨_, pss_never, sndS_never⟩
theorem ls_frz (i : Nat) (h : LS xr X W st is) : LS xr X W st (sFrz i is) := let ⟨_, p, s⟩ := h; ⟨_, p, sndS_frz s⟩
theorem ls_never : LS xr X W st sNever := ⟨_, ps_never, sndS_never⟩
theorem ls_pass : LS xr X W (.Pass pos) sNext := ⟨_, ps_pass, sndS_next⟩
theorem ls_break : LS xr X W (.Break pos) sBreak := ⟨_, ps_break, sndS_break⟩
theorem ls_cont : LS xr X W (.Continue pos) sCont := ⟨_, ps_continue, sndS_cont⟩
theorem ls_ret (h : LE xr X W e ie) : LS xr X W (.Return (some e) pos) (sRet ie) := let ⟨_, p, s⟩ := h; ⟨_, ps_ret p, sndS_ret s⟩
theorem ls_retN : LS xr X W (.Return none pos) sRetN := ⟨_, ps_retN, sndS_retN⟩
theorem ls_expr (h : LE xr X W e ie) (hs : swapsWith e none pos.line X.env = pure false := by rfl) : LS xr X W (.Expr e pos) (sDrop ie) := let ⟨_, p, s⟩ := h; ⟨_, ps_expr p hs, sndS_drop s⟩
theorem ls_if (hc : LT xr X W c it) (h1 : LSs xr X W p is) (h2 : LSs xr X W q iu) : LS xr X W (.If c p q pos) (sIf it is iu) := let ⟨_, p1, s1⟩ := hc; let ⟨_, p2, s2⟩ := h1; let ⟨_, p3, s3⟩ := h2; ⟨_, ps_if p1 p2 p3, sndS_if s1 s2 s3⟩

/-! ### assignments -/
theorem ls_set (i : Nat) {x : Str} {pos' : Pos} (hN : X.N.Nodup) (h : LX xr X W e ix) (hi : X.N[i]? = some x := by rfl) (hx : Loc X.env.scope x := by first | exact Or.inl rfl | exact Or.inr rfl) (hs : swapsWith e (some (.Name x pos')) pos.line X.env = pure false := by rfl) (hf : X.fn x = true ∨ X.env.scope.names.lookup x = some .local := by first | exact .inl rfl | exact .inr rfl | assumption) :
    LS xr X W (.Assign [.Name x pos'] e pos) (sSet i ix) := let ⟨_, p, s⟩ := h; ⟨_, ps_set hN hi hx p hs hf, sndS_set s⟩
theorem ls_par (i j : Nat) {x y : Str} {px py pt : Pos} {kt k2 pt2} (hc : X.calm = true) (hN : X.N.Nodup) (hij : i ≠ j) (ha : LX xr X W a ix) (hb : LX xr X W b iy) (hi : X.N[i]? = some x := by rfl) (hj : X.N[j]? = some y := by rfl)
    (hx : X.env.scope.names.lookup x = some .local := by rfl) (hy : X.env.scope.names.lookup y = some .local := by rfl)
    (hw : swappedStores [.Tuple [.Name x px, .Name y py] kt pt] (.Tuple [a, b] k2 pt2) X.env = pure (some [x, y]) := by rfl)
    (hs : swapsWithSole [.Tuple [.Name x px, .Name y py] kt pt] (.Tuple [a, b] k2 pt2) pos.line X.env = pure false := by rfl)
    (hs1 : starEach [a, b] X.env = (false, eval a X.env) :: starEach [b] X.env := by rfl) (hs2 : starEach [b] X.env = (false, eval b X.env) :: starEach [] X.env := by rfl) :
    LS xr X W (.Assign [.Tuple [.Name x px, .Name y py] kt pt] (.Tuple [a, b] k2 pt2) pos) (sPar i j ix iy) :=
  let ⟨_, p, s⟩ := ha; let ⟨_, q, t⟩ := hb; ⟨_, ps_par hc hN hi hj hij hx hy (pa_cons p (pa_cons q pa_nil hs2) hs1) hw hs, sndS_par s t⟩
theorem ltg_name (i : Nat) {x : Str} (hN : X.N.Nodup) (hi : X.N[i]? = some x := by rfl) (hx : Loc X.env.scope x := by first | exact Or.inl rfl | exact Or.inr rfl) (hf : X.fn x = true ∨ X.env.scope.names.lookup x = some .local := by first | exact .inl rfl | exact .inr rfl | assumption) : LTG xr X W (.Name x pos) (tgN i) :=
  ⟨_, pg_name hN hi hx hf, sndTG_name⟩
theorem ltg_sub (i : Nat) {x : Str} {px : Pos} (hb : LE xr X W b ib) (hN : X.N[i]? = some x := by rfl) (hv : Vis X.env.scope x := by first | exact Or.inl rfl | exact Or.inr (Or.inl rfl) | exact Or.inr (Or.inr rfl)) (hd : (x == ("__debug__" : Str)) = false := by decide) (hcd : (x == ("__classdict__" : Str)) = false := by decide)
    (ha : ∀ v, assign (.Subscript (.Name x px) b pos) X.env v = (do
      let ov ← holding [v] (eval (.Name x px) X.env)
      let iv ← holding [v, ov] (eval b X.env)
      standAt pos
      holding [v, ov, iv] (setItem ov iv v)
      release [v, ov, iv] []) := by intro _; rfl) : LTG xr X W (.Subscript (.Name x px) b pos) (tgSub i ib) :=
  let ⟨_, p, s⟩ := hb; ⟨_, pg_sub (pe_var hN hv hd hcd) p set_list ha, sndTG_sub s⟩
theorem ltgs_nil : LTGs xr X W [] tgsNil := ⟨_, pgs_nil, sndTGs_nil⟩
theorem ltgs_cons (h : LTG xr X W e ig) (hs : LTGs xr X W es igs) (ha : (assignEach (e :: es) X.env).map (·.2) = assign e X.env :: (assignEach es X.env).map (·.2) := by rfl) : LTGs xr X W (e :: es) (tgsCons ig igs) :=
  let ⟨_, p, s⟩ := h; let ⟨_, q, t⟩ := hs; ⟨_, pgs_cons p q ha, sndTGs_cons s t⟩
theorem ltg_tup {k n : Nat} (hc : X.calm = true) (hs : LTGs xr X W es igs) (hn : (assignEach es X.env).length = n := by rfl) (hst : (assignEach es X.env).findIdx? (·.1) = none := by rfl) : LTG xr X W (.Tuple es k pos) (tgT n igs) :=
  let ⟨_, q, t⟩ := hs; ⟨_, pg_tup hc q hn hst, sndTG_tup t⟩
theorem ls_asg (h : LE xr X W e ie) (hg : LTG xr X W tg ig) (hs : swapsWithSole [tg] e pos.line X.env = pure false := by rfl) (hw : swappedStores [tg] e X.env = pure none := by rfl) (h1 : (assignEach [tg] X.env).map (·.2) = [assign tg X.env] := by rfl) : LS xr X W (.Assign [tg] e pos) (sAsg ie ig) :=
  let ⟨_, p, s⟩ := h; let ⟨_, q, t⟩ := hg; ⟨_, ps_asg p q hs hw h1, sndS_asg s t⟩
theorem ls_many {js : List Nat} {n k k2 : Nat} {fs : List Expr} {pt p2 : Pos} (hc : X.calm = true) (h : LXA xr X W es xl) (hg : LNm X fs js) (hjs : n = js.length := by rfl) (hn : (assignEach fs X.env).length = n := by rfl) (hst : (assignEach fs X.env).findIdx? (·.1) = none := by rfl)
    (hs : swapsWithSole [.Tuple fs k pt] (.Tuple es k2 p2) pos.line X.env = pure false := by rfl) (hw : swappedStores [.Tuple fs k pt] (.Tuple es k2 p2) X.env = pure none := by rfl) (h1 : (assignEach [.Tuple fs k pt] X.env).map (·.2) = [assign (.Tuple fs k pt) X.env] := by rfl) :
    LS xr X W (.Assign [.Tuple fs k pt] (.Tuple es k2 p2) pos) (sMany js xl) :=
  let ⟨_, p, s⟩ := h; ⟨_, ps_asg (pe_tup p) (pg_tup hc hg hn hst) hs hw h1, sndS_many hjs s⟩
/-- name = [.. for ..] on one line -/
theorem ls_setLc (i : Nat) {y : Str} {py : Pos} {elt iter : Expr} {ifs : List Expr} {scope : Scope} {own : List (Str × Nat)} {spos : Pos} (hc : X.calm = true) (hN : X.N.Nodup) (hi : LIO xr X W tg iter ii) (ok : BlkOk X.N X.env.scope scope own) (hts : ts = own.map (·.2))
    (hg : Blk X scope fun X' => LG X' tg g ts) (ht : Blk X scope fun X' => LTs xr X' WF ifs it) (he : Blk X scope fun X' => LE xr X' WF elt ie) (hy : X.N[i]? = some y := by rfl) (hyl : X.env.scope.names.lookup y = some .local := by rfl)
    (hsw : swapsWith (.ListComp elt [⟨tg, iter, ifs, 0⟩] scope pos) (some (.Name y py)) spos.line X.env = pure true := by exact sw_true rfl rfl rfl (by decide +kernel)) (hs : ∀ x, foldedSetIterable iter X.env x = pure x := by intro _; rfl) :
    LS xr X W (.Assign [.Name y py] (.ListComp elt [⟨tg, iter, ifs, 0⟩] scope pos) spos) (sSet i (xN (nComp ts ii g it ie))) := by
  obtain ⟨wi, pi, si⟩ := hi
  subst hts
  obtain ⟨t, pg, sg⟩ := blk_g (ι := Shared × Hp × Addr × List (Str × Addr) × List Addr) (K := X.K) (F := fun c => X.blk c.1 c.2.1 scope (compEnvC scope c.2.2.2.1 c.2.2.1 X.env) c.2.2.2.2) (fun _ => rfl) fun c => hg c.1 c.2.1 c.2.2.1 c.2.2.2.1 c.2.2.2.2
  obtain ⟨tt, pt, st⟩ := blk_t (xr := xr) (ι := Shared × Hp × Addr × List (Str × Addr) × List Addr) (K := X.K) (F := fun c => X.blk c.1 c.2.1 scope (compEnvC scope c.2.2.2.1 c.2.2.1 X.env) c.2.2.2.2) (fun _ => rfl) fun c => ht c.1 c.2.1 c.2.2.1 c.2.2.2.1 c.2.2.2.2
  obtain ⟨te, pe, se⟩ := blk_e (xr := xr) (ι := Shared × Hp × Addr × List (Str × Addr) × List Addr) (K := X.K) (F := fun c => X.blk c.1 c.2.1 scope (compEnvC scope c.2.2.2.1 c.2.2.1 X.env) c.2.2.2.2) (fun _ => rfl) fun c => he c.1 c.2.1 c.2.2.1 c.2.2.2.1 c.2.2.2.2
  exact ⟨_, ps_setLc hc hN hy hyl hsw pi ok (fun s H C cl fp => pg (s, H, C, cl, fp)) (fun s H C cl fp => pt (s, H, C, cl, fp)) (fun s H C cl fp => pe (s, H, C, cl, fp)) hs, sndS_set (sndN_comp si sg (fun _ h => h) st se).X⟩
/-- the same, read alone -/
theorem ls_setLcE (i : Nat) {y : Str} {py : Pos} {elt iter : Expr} {ifs : List Expr} {scope : Scope} {own : List (Str × Nat)} {spos : Pos} (hc : X.calm = true) (hN : X.N.Nodup) (hi : LIO xr X W tg iter ii) (ok : BlkOk X.N X.env.scope scope own) (hts : ts = own.map (·.2))
    (hg : Blk X scope fun X' => LG X' tg g ts) (ht : Blk X scope fun X' => LTs xr X' WF ifs it) (he : Blk X scope fun X' => LE xr X' WF elt ie) (hy : X.N[i]? = some y := by rfl) (hyl : X.env.scope.names.lookup y = some .local := by rfl)
    (hsw : swapsWith (.ListComp elt [⟨tg, iter, ifs, 0⟩] scope pos) (some (.Name y py)) spos.line X.env = pure true := by exact sw_true rfl rfl rfl (by decide +kernel)) (hs : ∀ x, foldedSetIterable iter X.env x = pure x := by intro _; rfl) :
    LS xr X W (.Assign [.Name y py] (.ListComp elt [⟨tg, iter, ifs, 0⟩] scope pos) spos) (sSet i (xE (nComp ts ii g it ie))) := by
  obtain ⟨wi, pi, si⟩ := hi
  subst hts
  obtain ⟨t, pg, sg⟩ := blk_g (ι := Shared × Hp × Addr × List (Str × Addr) × List Addr) (K := X.K) (F := fun c => X.blk c.1 c.2.1 scope (compEnvC scope c.2.2.2.1 c.2.2.1 X.env) c.2.2.2.2) (fun _ => rfl) fun c => hg c.1 c.2.1 c.2.2.1 c.2.2.2.1 c.2.2.2.2
  obtain ⟨tt, pt, st⟩ := blk_t (xr := xr) (ι := Shared × Hp × Addr × List (Str × Addr) × List Addr) (K := X.K) (F := fun c => X.blk c.1 c.2.1 scope (compEnvC scope c.2.2.2.1 c.2.2.1 X.env) c.2.2.2.2) (fun _ => rfl) fun c => ht c.1 c.2.1 c.2.2.1 c.2.2.2.1 c.2.2.2.2
  obtain ⟨te, pe, se⟩ := blk_e (xr := xr) (ι := Shared × Hp × Addr × List (Str × Addr) × List Addr) (K := X.K) (F := fun c => X.blk c.1 c.2.1 scope (compEnvC scope c.2.2.2.1 c.2.2.1 X.env) c.2.2.2.2) (fun _ => rfl) fun c => he c.1 c.2.1 c.2.2.1 c.2.2.2.1 c.2.2.2.2
  exact ⟨_, ps_setLc hc hN hy hyl hsw pi ok (fun s H C cl fp => pg (s, H, C, cl, fp)) (fun s H C cl fp => pt (s, H, C, cl, fp)) (fun s H C cl fp => pe (s, H, C, cl, fp)) hs, sndS_set (sndN_comp si sg (fun _ h => h) st se).e.X⟩
theorem ls_aug {op : Operator} {f : Int → Int → Int} (i : Nat) {x : Str} {pos' : Pos} (hN : X.N.Nodup) (ho : PIp X op (ipI f)) (h : LE xr X W e ie) (hi : X.N[i]? = some x := by rfl) (hx : Loc X.env.scope x := by first | exact Or.inl rfl | exact Or.inr rfl) (hf : X.fn x = true ∨ X.env.scope.names.lookup x = some .local := by first | exact .inl rfl | exact .inr rfl | assumption) :
    LS xr X W (.AugAssign (.Name x pos') op e pos) (sAug i f ie) := let ⟨_, p, s⟩ := h; ⟨_, ps_aug hN hi hx p ho hf, sndS_aug s⟩

/-! ### methods of lists -/
section
variable {x : Str} {px apos cpos : Pos}
theorem ls_app (i : Nat) (h : LE xr X W e ie) (hN : X.N[i]? = some x := by rfl) (hv : Vis X.env.scope x := by first | exact Or.inl rfl | exact Or.inr (Or.inl rfl) | exact Or.inr (Or.inr rfl)) (hd : (x == ("__debug__" : Str)) = false := by decide) (hcd : (x == ("__classdict__" : Str)) = false := by decide)
    (hbase : attributeBase (.Name x px) "append" X.env (eval (.Name x px) X.env) = eval (.Name x px) X.env := by rfl)
    (hfew : ((backTo cpos (starEach [e] X.env)).all (fun x => !x.1) && (backToKw cpos (keywordEach [] X.env)).all (fun x => x.1.isSome)
      && decide ([e].length + ([] : List Keyword).length + (if ([] : List Keyword).isEmpty then 0 else 1) < 30)) = true := by rfl)
    (hline : (apos.endLine == cpos.line) = true := by rfl) (hs : starEach [e] X.env = (false, eval e X.env) :: starEach [] X.env := by rfl) (hsw : swapsWith (.Call (.Attribute (.Name x px) "append" apos) [e] [] cpos) none pos.line X.env = pure false := by rfl) :
    LS xr X W (.Expr (.Call (.Attribute (.Name x px) "append" apos) [e] [] cpos) pos) (sApp i ie) :=
  let ⟨_, p, s⟩ := h; ⟨_, ps_expr (pe_bm PySem.F.plainAttrs_list PySem.F.slot_list_append PySem.F.type_list_append mt_append (pe_var hN hv hd hcd) (pa_cons p pa_nil hs) hbase hfew hline hs) hsw, sndS_app s⟩
theorem ls_ext (i : Nat) (h : LE xr X W e ie) (hN : X.N[i]? = some x := by rfl) (hv : Vis X.env.scope x := by first | exact Or.inl rfl | exact Or.inr (Or.inl rfl) | exact Or.inr (Or.inr rfl)) (hd : (x == ("__debug__" : Str)) = false := by decide) (hcd : (x == ("__classdict__" : Str)) = false := by decide)
    (hbase : attributeBase (.Name x px) "extend" X.env (eval (.Name x px) X.env) = eval (.Name x px) X.env := by rfl)
    (hfew : ((backTo cpos (starEach [e] X.env)).all (fun x => !x.1) && (backToKw cpos (keywordEach [] X.env)).all (fun x => x.1.isSome)
      && decide ([e].length + ([] : List Keyword).length + (if ([] : List Keyword).isEmpty then 0 else 1) < 30)) = true := by rfl)
    (hline : (apos.endLine == cpos.line) = true := by rfl) (hs : starEach [e] X.env = (false, eval e X.env) :: starEach [] X.env := by rfl) (hsw : swapsWith (.Call (.Attribute (.Name x px) "extend" apos) [e] [] cpos) none pos.line X.env = pure false := by rfl) :
    LS xr X W (.Expr (.Call (.Attribute (.Name x px) "extend" apos) [e] [] cpos) pos) (sExt i ie) :=
  let ⟨_, p, s⟩ := h; ⟨_, ps_expr (pe_bm PySem.F.plainAttrs_list PySem.F.slot_list_extend PySem.F.type_list_extend mt_extend (pe_var hN hv hd hcd) (pa_cons p pa_nil hs) hbase hfew hline hs) hsw, sndS_ext s⟩
theorem ls_popAt (j i : Nat) {y : Str} {py : Pos} (hNd : X.N.Nodup) (h : LE xr X W e ie) (hN : X.N[i]? = some x := by rfl) (hv : Vis X.env.scope x := by first | exact Or.inl rfl | exact Or.inr (Or.inl rfl) | exact Or.inr (Or.inr rfl)) (hd : (x == ("__debug__" : Str)) = false := by decide) (hcd : (x == ("__classdict__" : Str)) = false := by decide)
    (hbase : attributeBase (.Name x px) "pop" X.env (eval (.Name x px) X.env) = eval (.Name x px) X.env := by rfl)
    (hfew : ((backTo cpos (starEach [e] X.env)).all (fun x => !x.1) && (backToKw cpos (keywordEach [] X.env)).all (fun x => x.1.isSome)
      && decide ([e].length + ([] : List Keyword).length + (if ([] : List Keyword).isEmpty then 0 else 1) < 30)) = true := by rfl)
    (hline : (apos.endLine == cpos.line) = true := by rfl) (hs : starEach [e] X.env = (false, eval e X.env) :: starEach [] X.env := by rfl)
    (hj : X.N[j]? = some y := by rfl) (hy : Loc X.env.scope y := by first | exact Or.inl rfl | exact Or.inr rfl) (hsw : swapsWith (.Call (.Attribute (.Name x px) "pop" apos) [e] [] cpos) (some (.Name y py)) pos.line X.env = pure false := by rfl) (hf : X.fn y = true ∨ X.env.scope.names.lookup y = some .local := by first | exact .inl rfl | exact .inr rfl | assumption) :
    LS xr X W (.Assign [.Name y py] (.Call (.Attribute (.Name x px) "pop" apos) [e] [] cpos) pos) (sPopAt j i ie) :=
  let ⟨_, p, s⟩ := h; ⟨_, ps_set hNd hj hy (pe_bm PySem.F.plainAttrs_list PySem.F.slot_list_pop PySem.F.type_list_pop mt_popAt (pe_var hN hv hd hcd) (pa_cons p pa_nil hs) hbase hfew hline hs) hsw hf, sndS_popAt s⟩
theorem ls_setAt (i : Nat) {e1 : Expr} (hb : LE xr X W b ib) (h : LE xr X W e1 ie) (hN : X.N[i]? = some x := by rfl) (hv : Vis X.env.scope x := by first | exact Or.inl rfl | exact Or.inr (Or.inl rfl) | exact Or.inr (Or.inr rfl)) (hd : (x == ("__debug__" : Str)) = false := by decide) (hcd : (x == ("__classdict__" : Str)) = false := by decide)
    (ha : ∀ v, assign (.Subscript (.Name x px) b apos) X.env v = (do
      let ov ← holding [v] (eval (.Name x px) X.env)
      let iv ← holding [v, ov] (eval b X.env)
      standAt apos
      holding [v, ov, iv] (setItem ov iv v)
      release [v, ov, iv] []) := by intro _; rfl)
    (hs : swapsWithSole [.Subscript (.Name x px) b apos] e1 pos.line X.env = pure false := by rfl) (hw : swappedStores [.Subscript (.Name x px) b apos] e1 X.env = pure none := by rfl) (h1 : (assignEach [.Subscript (.Name x px) b apos] X.env).map (·.2) = [assign (.Subscript (.Name x px) b apos) X.env] := by rfl) :
    LS xr X W (.Assign [.Subscript (.Name x px) b apos] e1 pos) (sSetAt i ib ie) :=
  let ⟨_, p, s⟩ := hb; let ⟨_, q, t⟩ := h; ⟨_, ps_asg q (pg_sub (pe_var hN hv hd hcd) p set_list ha) hs hw h1, sndS_setAt s t⟩
end

/-! ### loops -/
theorem ls_for {iter : Expr} {body : List Stmt} (tk : PassesOwn (model X.prog X.w) X.A X.env X.xe) (hc : X.calm = true) (hi : LI xr X W tg iter ii) (hg : LG X tg g ts) (hb : LSs xr X W body is) (hs : ∀ x, foldedSetIterable iter X.env x = pure x := by intro _; rfl) : LS xr X W (.For tg iter body [] pos) (sFor ii g is) :=
  let ⟨_, p, s⟩ := hi; let ⟨_, q, t⟩ := hg; let ⟨_, r, u⟩ := hb; ⟨_, ps_for tk hc p q r hs, sndS_for s t u⟩
theorem ls_while {body : List Stmt} (tk : PassesOwn (model X.prog X.w) X.A X.env X.xe) (hc : LT xr X W c it) (hb : LSs xr X W body is) : LS xr X W (.While c body [] pos) (sWhile it is) :=
  let ⟨_, p, s⟩ := hc; let ⟨_, r, u⟩ := hb; ⟨_, ps_while tk p r, sndS_while s u⟩
end

/-! ### defs -/
/-- the slots at a def's entry -/
def init (n : Nat) (ds : List Dt) : List Sl := ds.map Sl.im ++ List.replicate (n - ds.length) .no
theorem sl_init : ∀ (ds : List Dt) (r : List Sl) (i : Nat), sl (ds.map Sl.im ++ r) i = if h : i < ds.length then .im ds[i] else sl r (i - ds.length)
  | [], r, i => by simp
  | d :: ds, r, 0 => by simp [sl]
  | d :: ds, r, i + 1 => by
    simp only [List.map_cons, List.cons_append, sl, sl_init ds r i, List.length_cons, Nat.succ_lt_succ_iff, List.getElem_cons_succ, Nat.add_sub_add_right]
theorem sl_rep : ∀ (n i : Nat), sl (List.replicate n .no) i = .no
  | 0, _ => rfl
  | n + 1, 0 => rfl
  | n + 1, i + 1 => by rw [List.replicate_succ, sl]; exact sl_rep n i
theorem init_len {n : Nat} {ds : List Dt} (h : ds.length ≤ n) : (init n ds).length = n := by
  unfold init
  rw [List.length_append, List.length_map, List.length_replicate]
  omega
theorem env_init {K : Fr} {dr : Dr} {I H : Hp} {N : List Str} {vs : List V} {ds : List Dt} (r : RpL K dr I vs ds) (h : ds.length ≤ N.length) : EnvOk K dr (init N.length ds) (L2.start N vs) I H := by
  have hl := r.len
  refine ⟨?_, fun i hi => ?_, fun i j d e p h1 _ _ _ => ?_⟩
  · rw [init_len h]
    unfold L2.start
    rw [List.length_append, List.length_map, List.length_replicate]
    omega
  · unfold init
    rw [sl_init]
    by_cases hd : i < ds.length
    · rw [dif_pos hd]
      obtain ⟨v, e, q⟩ := r.get (List.getElem?_eq_getElem hd)
      refine ⟨v, ?_, q⟩
      unfold L2.start
      rw [List.getElem?_append_left (by rw [List.length_map]; omega), List.getElem?_map, e]
      rfl
    · rw [dif_neg hd, sl_rep]; trivial
  · unfold init at h1
    rw [sl_init] at h1
    split at h1
    · cases h1
    · rw [sl_rep] at h1; cases h1
/-- THE RULE for a def -/
theorem fn_ok {P : Program} {w : World} {K : Fr} {mg : Str → Option Value} {base : Heap} {xr : XR} {x qual : Str} {st : Stmt} {f : Addr} {fd : FuncData} {N ps : List Str} {k : Nat} {is : IS} {sp : DSp} (F : Fun K x qual st f fd) (S : FnScope N ps (defScope st))
    (len : ∀ ds P E, sp ds P E → ds.length = ps.length)
    (body : ∀ (cdv : Value) (A : Around) (outer : List Env) (s : Shared) (H : Hp) (E : XK) (W : WX), Room k (A.deeper (envOfC qual (defScope st) s.heap.objs.size f cdv)) → (A.deeper (envOfC qual (defScope st) s.heap.objs.size f cdv)).units + 65 < cLine → Takes (cxOf (L2.CX P w) P w K mg base N qual (defScope st) f cdv A outer s H E) W →
      PassesOwn (model P w) (A.deeper (envOfC qual (defScope st) s.heap.objs.size f cdv)) (envOfC qual (defScope st) s.heap.objs.size f cdv) (cxOf (L2.CX P w) P w K mg base N qual (defScope st) f cdv A outer s H E).xe →
      LSs xr (cxOf (L2.CX P w) P w K mg base N qual (defScope st) f cdv A outer s H E) W (defBody st) is)
    (ok : ∀ ds P E, sp ds P E → is (init N.length ds) { nx := fun _ => P .non, rt := P, ex := E }) : FnOk P w K mg base (L2.CX P w) (k + 1) f fd ps (liftS K xr sp) := by
  have hpl : ps.length ≤ N.length := by have := congrArg List.length S.pre; rw [List.length_take] at this; omega
  refine F.okX S (fun vs H Q E h => ?_) (fun cdv A outer s H vs Q E hr h => ?_)
  · obtain ⟨dr, I, ds, P, EP, _, r, h, _⟩ := h
    rw [r.len]
    exact len ds P EP h
  · obtain ⟨dr, I, ds, Pd, EP, pre, r, h, hex, hq⟩ := h
    have hl := len ds Pd EP h
    obtain ⟨t, pt, so⟩ := body cdv A outer s H E (fun c a _ H' => E c a H') hr (by have := hr.un; omega) (takes_of rfl rfl rfl rfl) (passes_of rfl)
    refine ⟨t, pt, so dr I H I (init N.length ds) (L2.start N vs) I H _ _ ⟨Same.refl _, fun _ _ => rfl, pre, pre, Kp.refl, env_init r (by omega), fun i d p h1 _ => ?_, Same.refl _⟩ (ok ds Pd EP h) ⟨fun env σ I' H' hn s' => ?_, fun _ _ _ _ z _ => z, fun _ _ _ _ z _ => z, fun d v H' hP k r => hq d v H' hP k r, fun x c a σ H' hE k r => hex x c a H' hE k r⟩⟩
    · unfold init at h1
      rw [sl_init] at h1
      split at h1
      · cases h1
      · rw [sl_rep] at h1; cases h1
    · exact hq .non .non H' hn s'.kp .non
end DL

set_option maxRecDepth 100000
/-! DL9: where defs and constants stand; what a draw promises. -/
namespace DL
open PySem L2 PyProof.Rows
structure Dfn (K : Fr) (mg : Str → Option Value) (x : Str) (st : Stmt) where
  f : Addr
  fd : FuncData
  g : mg x = some (.ref f)
  F : Fun K x x st f fd
structure Cst (K : Fr) (mg : Str → Option Value) (x : Str) (d : Dt) where
  v : V
  u : Value
  hm : mg x = some u
  r : RelV v u
  h : ∀ dr I, Rp K dr I v d
/-- a draw: any number from 0 on, less than the bound -/
def sp__law_take : DSp := fun ds P _ => match ds with
  | [.st, .int b] => b < 1073741824 ∧ ∀ r : Int, (b < 2 → r = 0) → (2 ≤ b → 0 ≤ r ∧ r < b) → P (.int r)
  | _ => False
/-- what a law's own state promises: the object that draws, new -/
def spState (K : Fr) : Sp := fun vs H Q _ => ∃ (a : Addr) (ns : List Int), vs = [.ref a] ∧ SqL K H a (ns.map V.int) ∧ ns.length ≤ 63 ∧
  ∀ (p1 p2 : Addr) (cs : List Int) (H' : Hp), Same H H' → p1 ≠ p2 → H' p1 = some (.lst [.int 0, .ref p2]) → H' p2 = some (.lst (cs.map V.int)) → cs ≠ [] → cs.length ≤ 63 → Q (.ref p1) H'
def spLaw (K : Fr) : Sp := fun vs H Q _ => ∃ (a : Addr) (ns : List Int), vs = [.ref a] ∧ SqL K H a (ns.map V.int) ∧ ns.length ≤ 63 ∧ ∀ H', Q (.bl true) H'
def nil0 : Hp := fun _ => none
def env0 (n i : Nat) : List Sl := put (List.replicate n .no) i (.im .st)
theorem Stt.begin {K : Fr} {p1 p2 : Addr} {H : Hp} {σ : L2.St} {n i : Nat} (hlen : σ.length = n) (h : σ[i]? = some (some (.ref p1))) (dro : DrOk (p1, p2) H) : Stt K (some (p1, p2)) nil0 H nil0 (env0 n i) σ nil0 H := by
  have pre : Pre (some (p1, p2)) nil0 H := ⟨fun _ _ e => (nomatch e), fun q e => by cases e; exact dro, fun _ _ => rfl⟩
  refine ⟨Same.refl _, fun _ _ => rfl, pre, pre, Kp.refl, ⟨?_, fun j hj => ?_, fun j k d e p a1 _ _ _ => ?_⟩, fun j d p a1 _ => ?_, Same.refl _⟩
  · unfold env0; rw [put_length, List.length_replicate]; exact hlen
  · unfold env0 at hj ⊢
    rw [put_length, List.length_replicate] at hj
    rw [sl_put, sl_rep, List.length_replicate]
    by_cases hij : i = j
    · rw [if_pos ⟨hij, hj⟩, ← hij, h]
      exact ⟨.ref p1, rfl, .st (q := (p1, p2)) rfl⟩
    · rw [if_neg (fun z => hij z.1)]; trivial
  · unfold env0 at a1
    rw [sl_put, sl_rep] at a1
    split at a1 <;> cases a1
  · unfold env0 at a1
    rw [sl_put, sl_rep] at a1
    split at a1 <;> cases a1
theorem same_new {H : Hp} {p : Addr} {o : HO} (h : H p = none) : Same H (upd H p o) := fun b x e => by
  rw [upd_ne (ne_of_none e h)]
  exact e
theorem cutV_ints (ns : List Int) (lo hi : Option Int) : cutV (ns.map V.int) lo hi = (cut ns lo hi).map V.int := by
  unfold cutV cut
  rw [List.map_take, List.map_drop, List.length_map]
theorem cut_len {α : Type} (xs : List α) (lo hi : Option Int) : (cut xs lo hi).length ≤ xs.length := by
  unfold cut
  rw [List.length_take, List.length_drop]
  omega
end DL

set_option maxRecDepth 100000
/-! DLA: what the top has written, read off the head's part. -/
namespace DL
open PySem L2 PyProof.Rows
def Dfn.of {K : Fr} {h : Heap} {mg : Str → Option Value} {x : Str} {st : Stmt} {f : Addr} {oc kV doc pm cdv ct : Value} {od an : Option Addr} {osl : Array (Option Value)} (X : K.In h) (G : h.Ns mainGlobals mg)
    (a : PySem.W.nsIn K mainGlobals x = some (some (.ref f))) (l : K.lookup f = some ⟨oc, od, .func (PySem.W.fnOf x x (defArgs st) (defBody st) (defScope st) .none kV doc pm an cdv ct), osl⟩) (c : PySem.W.codeIn K cdv x = true) (k : PySem.W.keepIn K (.ref f) = true) : Dfn K mg x st :=
  ⟨f, _, PySem.W.mg_of X G a, fun_mk l c k⟩
theorem rp_ints {K : Fr} {dr : Dr} {I : Hp} : ∀ ns : List Int, RpL K dr I (ns.map V.int) (ns.map Dt.int)
  | [] => .nil
  | n :: ns => .cons (.int n) (rp_ints ns)
/-- a tuple of whole numbers that the top has written -/
def Cst.ints {K : Fr} {h : Heap} {mg : Str → Option Value} {x : Str} {a : Addr} {its : Array Value} {od : Option Addr} {n : Nat} {sl : Array (Option Value)} (X : K.In h) (G : h.Ns mainGlobals mg) (ns : List Int)
    (e : PySem.W.nsIn K mainGlobals x = some (some (.ref a))) (l : K.lookup a = some ⟨.type "tuple", od, .seq its n, sl⟩) (hz : its.size ≤ sizeLine) (v : Vals (ns.map V.int) its.toList) : Cst K mg x (.tup (ns.map Dt.int)) :=
  ⟨.ref a, .ref a, PySem.W.mg_of X G e, rfl, fun _ _ => .tup (.inr ⟨_, _, _, l, rfl, rfl, hz, v⟩) (rp_ints ns)⟩
theorem no_cx {P : Program} {w : World} {H : Hp} {s : Shared} {e : Value} {s' : Shared} (h : L2.CX P w [] H s (fun _ _ _ => False) e s') : False := by
  obtain ⟨_, _, _, _, _, _, _, _, _, _, _, _, z⟩ := h
  exact z
end DL

set_option maxRecDepth 100000
/-! DLB: tools for the plain laws over the mirrors. -/
namespace DL
open PySem L2
@[simp] theorem sl_c0 {s : Sl} {r : List Sl} : sl (s :: r) 0 = s := rfl
@[simp] theorem sl_c1 {s : Sl} {r : List Sl} {n : Nat} : sl (s :: r) (n + 1) = sl r n := rfl
@[simp] theorem put_c0 {s t : Sl} {r : List Sl} : put (s :: r) 0 t = t :: r := rfl
@[simp] theorem put_c1 {s t : Sl} {r : List Sl} {n : Nat} : put (s :: r) (n + 1) t = s :: put r n t := rfl
/-- plain data without truth values and dicts, at most k deep -/
def pln : Nat → Dt → Prop
  | _, .non => True
  | _, .int _ => True
  | _, .str x => PyData.strOk x = true
  | k + 1, .lst xs => ∀ x ∈ xs, pln k x
  | k + 1, .tup xs => ∀ x ∈ xs, pln k x
  | _, _ => False
theorem pyAll_ok {k : Nat} {xs : List Dt} (h : ∀ x ∈ xs, x.py.canLay0 = true ∧ x.py.depth ≤ k) : PyData.canLayAll0 (pyL xs) = true ∧ PyData.depthAll (pyL xs) ≤ k := by
  induction xs with
  | nil => exact ⟨rfl, Nat.zero_le _⟩
  | cons x xs ih =>
    have h1 := h x (by simp)
    have h2 := ih fun y hy => h y (by simp [hy])
    rw [pyL]
    refine ⟨?_, ?_⟩
    · simp only [PyData.canLayAll0, h1.1, h2.1, Bool.and_self]
    · simp only [PyData.depthAll]
      exact Nat.max_le.mpr ⟨h1.2, h2.2⟩
theorem pln.lay : ∀ {k : Nat} {d : Dt}, pln k d → d.py.canLay0 = true ∧ d.py.depth ≤ k
  | _, .non, _ => ⟨by simp [Dt.py, PyData.canLay0], by simp [Dt.py, PyData.depth]⟩
  | _, .int _, _ => ⟨by simp [Dt.py, PyData.canLay0], by simp [Dt.py, PyData.depth]⟩
  | 0, .str x, h => ⟨by simpa [Dt.py, PyData.canLay0, pln] using h, by simp [Dt.py, PyData.depth]⟩
  | _ + 1, .str x, h => ⟨by simpa [Dt.py, PyData.canLay0, pln] using h, by simp [Dt.py, PyData.depth]⟩
  | k + 1, .lst xs, h => by
    have := pyAll_ok (k := k) (xs := xs) fun x hx => pln.lay (h x hx)
    simp only [Dt.py, PyData.canLay0, PyData.depth]
    exact ⟨this.1, by omega⟩
  | k + 1, .tup xs, h => by
    have := pyAll_ok (k := k) (xs := xs) fun x hx => pln.lay (h x hx)
    simp only [Dt.py, PyData.canLay0, PyData.depth]
    exact ⟨this.1, by omega⟩
  | 0, .lst _, h => by simp [pln] at h
  | 0, .tup _, h => by simp [pln] at h
  | 0, .bl _, h => by simp [pln] at h
  | _ + 1, .bl _, h => by simp [pln] at h
  | 0, .dic _ _, h => by simp [pln] at h
  | _ + 1, .dic _ _, h => by simp [pln] at h
  | 0, .dit _ _, h => by simp [pln] at h
  | _ + 1, .dit _ _, h => by simp [pln] at h
  | 0, .st, h => by simp [pln] at h
  | _ + 1, .st, h => by simp [pln] at h
theorem pln.ok {k : Nat} {d : Dt} (h : pln k d) (hk : k ≤ 64 := by decide) : okD d := by
  obtain ⟨a, b⟩ := h.lay
  unfold okD SeqAt.shaped
  rw [a, decide_eq_true (Nat.le_trans b hk)]
  rfl
theorem eqvAll_iff {xs ys : List Dt} (h : ∀ x ∈ xs, ∀ y, y ∈ ys → (eqv x y = true ↔ x = y)) : PyData.eqvAll (pyL xs) (pyL ys) = true ↔ xs = ys := by
  induction xs generalizing ys with
  | nil =>
    cases ys with
    | nil => simp [pyL, PyData.eqvAll]
    | cons y ys => simp [pyL, PyData.eqvAll]
  | cons x xs ih =>
    cases ys with
    | nil => simp [pyL, PyData.eqvAll]
    | cons y ys =>
      have h1 := h x (by simp) y (by simp)
      have h2 := ih (ys := ys) fun a ha b hb => h a (by simp [ha]) b (by simp [hb])
      unfold eqv at h1
      simp only [pyL, PyData.eqvAll, Bool.and_eq_true, List.cons.injEq]
      rw [h1, h2]
theorem eqv_iff : ∀ {k : Nat} {x y : Dt}, pln k x → pln k y → (eqv x y = true ↔ x = y) := by
  intro k
  induction k with
  | zero =>
    intro x y hx hy
    cases x <;> cases y <;> simp [pln] at hx hy <;> simp [eqv, Dt.py, PyData.eqv]
  | succ k ih =>
    intro x y hx hy
    cases x <;> cases y <;> simp [pln] at hx hy <;> first
      | (simp [eqv, Dt.py, PyData.eqv]; done)
      | (simp only [eqv, Dt.py, PyData.eqv]
         rw [eqvAll_iff fun a ha b hb => ih (hx a ha) (hy b hb)]
         simp)
theorem eqv_false {k : Nat} {x y : Dt} (hx : pln k x) (hy : pln k y) (h : x ≠ y) : eqv x y = false := by
  cases e : eqv x y with
  | false => rfl
  | true => exact absurd ((eqv_iff hx hy).mp e) h
theorem eqv_self {k : Nat} {x : Dt} (hx : pln k x) : eqv x x = true := (eqv_iff hx hx).mpr rfl
@[simp] theorem pln_int {k : Nat} {i : Int} : pln k (.int i) := by cases k <;> trivial
@[simp] theorem pln_non {k : Nat} : pln k .non := by cases k <;> trivial
theorem pln_str {k : Nat} {x : Str} (h : PyData.strOk x = true) : pln k (.str x) := by cases k <;> exact h
theorem pln.up {k m : Nat} {d : Dt} (h : pln k d) (hk : k ≤ m) : pln m d := by
  induction k generalizing m d with
  | zero => cases d <;> simp [pln] at h <;> cases m <;> simp [pln, h]
  | succ k ih =>
    obtain ⟨m, rfl⟩ : ∃ m', m = m' + 1 := ⟨m - 1, by omega⟩
    cases d <;> simp [pln] at h ⊢
    · exact h
    · exact fun x hx => ih (h x hx) (by omega)
    · exact fun x hx => ih (h x hx) (by omega)
@[simp] theorem okD_int {i : Int} : okD (.int i) := pln.ok (k := 0) pln_int
@[simp] theorem okD_non : okD .non := pln.ok (k := 0) pln_non
@[simp] theorem eqv_int {i j : Int} : eqv (.int i) (.int j) = decide (i = j) := by
  have := eqv_iff (k := 0) (x := .int i) (y := .int j) pln_int pln_int
  by_cases h : i = j
  · rw [decide_eq_true h, this.mpr (by rw [h])]
  · rw [decide_eq_false h]
    exact eqv_false (k := 0) pln_int pln_int fun z => h (by cases z; rfl)
/-! ### loops -/
theorem forD_inv {g : G} {body : IS} {Pp : Po} (I : Nat → List Sl → Prop) {ds : List Dt} {env : List Sl} (h0 : I 0 env)
    (step : ∀ i d e, ds[i]? = some d → I i e → ∀ nx : List Sl → Prop, (∀ e', I (i + 1) e' → nx e') → g d e fun e1 => body e1 { Pp with nx := nx, ct := nx, bk := Pp.nx })
    (done : ∀ e, I ds.length e → Pp.nx e) : forD g body Pp ds env := by
  have key : ∀ (n i : Nat) (e : List Sl), i + n = ds.length → I i e → forD g body Pp (ds.drop i) e := by
    intro n
    induction n with
    | zero =>
      intro i e hi hI
      have : i = ds.length := by omega
      subst this
      rw [List.drop_length]
      exact done e hI
    | succ n ih =>
      intro i e hi hI
      have hlt : i < ds.length := by omega
      have hdrop : ds.drop i = ds[i] :: ds.drop (i + 1) := (List.getElem_cons_drop (h := hlt)).symm
      rw [hdrop]
      exact step i ds[i] e (List.getElem?_eq_getElem hlt) hI _ fun e' he => ih (i + 1) e' (by omega) he
  have := key ds.length 0 env (by omega) h0
  rwa [List.drop_zero] at this
/-! ### comprehensions -/
inductive All2 {α β : Type} (S : α → β → Prop) : List α → List β → Prop
  | nil : All2 S [] []
  | cons {a : α} {b : β} {as : List α} {bs : List β} : S a b → All2 S as bs → All2 S (a :: as) (b :: bs)
theorem All2.len {α β : Type} {S : α → β → Prop} : ∀ {as : List α} {bs : List β}, All2 S as bs → as.length = bs.length
  | _, _, .nil => rfl
  | _, _, .cons _ t => congrArg (· + 1) t.len
theorem All2.get {α β : Type} {S : α → β → Prop} {as : List α} {bs : List β} (h : All2 S as bs) {i : Nat} {b : β} (e : bs[i]? = some b) : ∃ a, as[i]? = some a ∧ S a b := by
  induction h generalizing i with
  | nil => simp at e
  | cons s t ih =>
    cases i with
    | zero => simp at e; subst e; exact ⟨_, rfl, s⟩
    | succ i => simpa using ih (by simpa using e)
theorem All2.mem {α β : Type} {S : α → β → Prop} {as : List α} {bs : List β} (h : All2 S as bs) {b : β} (m : b ∈ bs) : ∃ a, a ∈ as ∧ S a b := by
  obtain ⟨i, hi, e⟩ := List.mem_iff_getElem.mp m
  obtain ⟨a, e1, s⟩ := h.get (i := i) (b := b) (by rw [List.getElem?_eq_getElem hi, e])
  exact ⟨a, List.mem_of_getElem? e1, s⟩
def cStep (g : G) (it : IT) (ie : IE) (env : List Sl) (d : Dt) (Q : Dt → Prop) (R : Prop) : Prop := g d env fun e1 => it e1 (fun b => if b = true then ie e1 Q (fun _ => False) else R) fun _ => False
theorem compD_rel {g : G} {it : IT} {ie : IE} {env : List Sl} {P : Dt → Prop} (S : Dt → Dt → Prop) : ∀ {ds : List Dt} {outs : List Dt},
    (∀ d ∈ ds, ∀ (Q : Dt → Prop) (R : Prop), (∀ y, S d y → Q y) → cStep g it ie env d Q R) → (∀ ys, All2 S ds ys → P (.lst (outs ++ ys))) → compD g it ie env P ds outs
  | [], outs, _, k => by have := k [] .nil; rwa [List.append_nil] at this
  | d :: ds, outs, h, k => h d (by simp) _ _ fun y s => compD_rel S (fun e he => h e (by simp [he])) fun ys a => by have := k (y :: ys) (.cons s a); rwa [List.append_assoc]
theorem compD_fm {g : G} {it : IT} {ie : IE} {env : List Sl} {P : Dt → Prop} (p : Dt → Bool) (f : Dt → Dt) : ∀ {ds : List Dt} {outs : List Dt},
    (∀ d ∈ ds, ∀ (Q : Dt → Prop) (R : Prop), (if p d = true then Q (f d) else R) → cStep g it ie env d Q R) → P (.lst (outs ++ (ds.filter p).map f)) → compD g it ie env P ds outs
  | [], outs, _, k => by show P (.lst outs); simpa using k
  | d :: ds, outs, h, k => h d (by simp) _ _ (by
      cases e : p d with
      | true =>
        simp only [if_true]
        exact compD_fm p f (fun e he => h e (by simp [he])) (by simpa [List.filter_cons, e] using k)
      | false =>
        simp only [Bool.false_eq_true, if_false]
        exact compD_fm p f (fun e he => h e (by simp [he])) (by simpa [List.filter_cons, e] using k))
theorem compD_map {g : G} {it : IT} {ie : IE} {env : List Sl} {P : Dt → Prop} (f : Dt → Dt) {ds : List Dt}
    (h : ∀ d ∈ ds, ∀ (Q : Dt → Prop) (R : Prop), Q (f d) → cStep g it ie env d Q R) (k : P (.lst (ds.map f))) : compD g it ie env P ds [] :=
  compD_fm (fun _ => true) f (fun d hd Q R q => h d hd Q R (by simpa using q)) (by rw [List.filter_eq_self.mpr fun _ _ => rfl]; exact k)
/-- over a list of given things -/
theorem compD_mapG {α : Type} {e : α → Dt} {g : G} {it : IT} {ie : IE} {env : List Sl} {P : Dt → Prop} (f : α → Dt) : ∀ {as : List α} {outs : List Dt},
    (∀ a ∈ as, ∀ (Q : Dt → Prop) (R : Prop), Q (f a) → cStep g it ie env (e a) Q R) → P (.lst (outs ++ as.map f)) → compD g it ie env P (as.map e) outs
  | [], outs, _, k => by show P (.lst outs); simpa using k
  | a :: as, outs, h, k => h a (by simp) _ _ (compD_mapG f (fun b hb => h b (by simp [hb])) (by simpa using k))
theorem compD_fmG {α : Type} {e : α → Dt} {g : G} {it : IT} {ie : IE} {env : List Sl} {P : Dt → Prop} (p : α → Bool) (f : α → Dt) : ∀ {as : List α} {outs : List Dt},
    (∀ a ∈ as, ∀ (Q : Dt → Prop) (R : Prop), (if p a = true then Q (f a) else R) → cStep g it ie env (e a) Q R) → P (.lst (outs ++ (as.filter p).map f)) → compD g it ie env P (as.map e) outs
  | [], outs, _, k => by show P (.lst outs); simpa using k
  | a :: as, outs, h, k => h a (by simp) _ _ (by
      cases q : p a with
      | true =>
        simp only [if_true]
        exact compD_fmG p f (fun e he => h e (by simp [he])) (by simpa [List.filter_cons, q] using k)
      | false =>
        simp only [Bool.false_eq_true, if_false]
        exact compD_fmG p f (fun e he => h e (by simp [he])) (by simpa [List.filter_cons, q] using k))
theorem compD_relG {α β : Type} {e : α → Dt} {o : β → Dt} {g : G} {it : IT} {ie : IE} {env : List Sl} {P : Dt → Prop} (S : α → β → Prop) : ∀ {as : List α} {outs : List Dt},
    (∀ a ∈ as, ∀ (Q : Dt → Prop) (R : Prop), (∀ y, S a y → Q (o y)) → cStep g it ie env (e a) Q R) → (∀ ys, All2 S as ys → P (.lst (outs ++ ys.map o))) → compD g it ie env P (as.map e) outs
  | [], outs, _, k => by have := k [] .nil; rwa [List.map_nil, List.append_nil] at this
  | a :: as, outs, h, k => h a (by simp) _ _ fun y s => compD_relG S (fun b hb => h b (by simp [hb])) fun ys q => by have := k (y :: ys) (.cons s q); rw [List.append_assoc]; exact this
theorem compD_a2 {α : Type} {S : Dt → α → Prop} {g : G} {it : IT} {ie : IE} {env : List Sl} {P : Dt → Prop} (f : α → Dt) : ∀ {ds : List Dt} {as : List α} {outs : List Dt}, All2 S ds as →
    (∀ x a, a ∈ as → S x a → ∀ (Q : Dt → Prop) (R : Prop), Q (f a) → cStep g it ie env x Q R) → P (.lst (outs ++ as.map f)) → compD g it ie env P ds outs
  | _, _, outs, .nil, _, k => by show P (.lst outs); simpa using k
  | _, _, outs, .cons s t, h, k => h _ _ (by simp) s _ _ (compD_a2 f t (fun x a m => h x a (by simp [m])) (by simpa using k))
theorem rng0 (n : Nat) : rng 0 1 n = (List.range n).map fun (i : Nat) => Dt.int (i : Int) := by
  unfold rng
  exact List.map_congr_left fun i _ => by rw [Int.zero_add, Int.mul_one]
theorem rng_lo (a : Int) (n : Nat) : rng a 1 n = (List.range n).map fun (i : Nat) => Dt.int (a + (i : Int)) := by
  unfold rng
  exact List.map_congr_left fun i _ => by rw [Int.mul_one]
/-! ### places -/
theorem ixL {xs : List Dt} {i : Nat} {d : Dt} {P : Dt → Prop} (h : xs[i]? = some d) (p : P d) : ixD (.lst xs) (.int (i : Int)) P := ⟨d, atI_nat h, p⟩
theorem ixT {xs : List Dt} {i : Nat} {d : Dt} {P : Dt → Prop} (h : xs[i]? = some d) (p : P d) : ixD (.tup xs) (.int (i : Int)) P := ⟨d, atI_nat h, p⟩
@[simp] theorem atI_natE {α : Type} {xs : List α} {j : Nat} : atI xs (j : Int) = xs[j]? := by
  unfold atI ixN
  rw [if_pos (by omega)]
  by_cases h : j < xs.length
  · rw [if_pos (by omega)]; simp
  · rw [if_neg (by omega), List.getElem?_eq_none (by omega)]; rfl
@[simp] theorem atI_0 {α : Type} {x : α} {xs : List α} : atI (x :: xs) 0 = some x := atI_natE (j := 0)
@[simp] theorem atI_1 {α : Type} {x y : α} {xs : List α} : atI (x :: y :: xs) 1 = some y := atI_natE (j := 1)
@[simp] theorem atI_2 {α : Type} {x y z : α} {xs : List α} : atI (x :: y :: z :: xs) 2 = some z := atI_natE (j := 2)
@[simp] theorem atI_3 {α : Type} {x y z u : α} {xs : List α} : atI (x :: y :: z :: u :: xs) 3 = some u := atI_natE (j := 3)
theorem mulOk {m n : Nat} {a b : Int} (ha : a.natAbs < 2 ^ m) (hb : b.natAbs < 2 ^ n) (h : m + n ≤ 134217728 := by decide) : IntMulOk a b := IntMulOk.of_le (intBits_le_iff.mpr ha) (intBits_le_iff.mpr hb) h
theorem divOk {a b : Int} (h : b.natAbs < 2 ^ 8000) : DivOk a b := by
  refine PyProof.noPylong_of_log2 ?_
  by_cases h0 : b.natAbs = 0
  · rw [h0]; decide
  · have := (Nat.log2_lt h0).mpr h
    omega
end DL

/-! M1: rows put out, without any program: what a reduced table tells. -/
namespace MX
abbrev Vc := Nat → Rat
def sm : Nat → Vc → Rat
  | 0, _ => 0
  | n + 1, f => sm n f + f n
theorem sm_congr {n : Nat} {f h : Vc} (e : ∀ j, j < n → f j = h j) : sm n f = sm n h := by
  induction n with
  | zero => rfl
  | succ n ih =>
    unfold sm
    rw [ih fun j hj => e j (by omega), e n (by omega)]
theorem sm_zero {n : Nat} {f : Vc} (e : ∀ j, j < n → f j = 0) : sm n f = 0 := by
  induction n with
  | zero => rfl
  | succ n ih =>
    unfold sm
    rw [ih fun j hj => e j (by omega), e n (by omega)]
    grind
theorem sm_lin {n : Nat} (a b : Rat) (f h : Vc) : sm n (fun j => a * f j + b * h j) = a * sm n f + b * sm n h := by
  induction n with
  | zero => unfold sm; grind
  | succ n ih =>
    unfold sm
    rw [ih]
    grind
theorem sm_mul {n : Nat} (a : Rat) (f : Vc) : sm n (fun j => a * f j) = a * sm n f := by
  have h := sm_lin (n := n) a 0 f f
  have e : sm n (fun j => a * f j + 0 * f j) = sm n (fun j => a * f j) := sm_congr fun j _ => by grind
  rw [← e, h]
  grind
theorem sm_one {n a : Nat} {f : Vc} (ha : a < n) (e : ∀ j, j < n → j ≠ a → f j = 0) : sm n f = f a := by
  induction n with
  | zero => omega
  | succ n ih =>
    unfold sm
    by_cases h : a = n
    · subst h
      rw [sm_zero fun j hj => e j (by omega) (by omega)]
      grind
    · rw [ih (by omega) fun j hj hn => e j (by omega) hn, e n (by omega) (by omega)]
      grind
theorem sm_two {n a b : Nat} {f : Vc} (ha : a < n) (hb : b < n) (hab : a ≠ b) (e : ∀ j, j < n → j ≠ a → j ≠ b → f j = 0) : sm n f = f a + f b := by
  induction n with
  | zero => omega
  | succ n ih =>
    unfold sm
    by_cases h : a = n
    · subst h
      rw [sm_one (a := b) (by omega) fun j hj hn => e j (by omega) (by omega) hn]
      grind
    · by_cases h2 : b = n
      · subst h2
        rw [sm_one (a := a) (by omega) fun j hj hn => e j (by omega) hn (by omega)]
      · rw [ih (by omega) (by omega) fun j hj h3 h4 => e j (by omega) h3 h4, e n (by omega) (by omega) (by omega)]
        grind
theorem sm_swap {n m : Nat} (f : Nat → Nat → Rat) : sm n (fun i => sm m (fun j => f i j)) = sm m (fun j => sm n (fun i => f i j)) := by
  induction n with
  | zero =>
    show (0 : Rat) = sm m fun _ => 0
    exact (sm_zero fun _ _ => rfl).symm
  | succ n ih =>
    have e : sm m (fun j => sm (n + 1) (fun i => f i j)) = sm m (fun j => 1 * sm n (fun i => f i j) + 1 * f n j) := sm_congr fun j _ => by show sm n _ + _ = _; grind
    rw [e, sm_lin, ← ih]
    show sm n _ + _ = _
    grind
def dt (n : Nat) (r x : Vc) : Rat := sm n fun j => r j * x j
theorem dt_lin {n : Nat} (a b : Rat) (r s x : Vc) : dt n (fun j => a * r j + b * s j) x = a * dt n r x + b * dt n s x := by
  unfold dt
  rw [← sm_lin]
  exact sm_congr fun j _ => by grind
theorem dt_linR {n : Nat} (a b : Rat) (r x y : Vc) : dt n r (fun j => a * x j + b * y j) = a * dt n r x + b * dt n r y := by
  unfold dt
  rw [← sm_lin]
  exact sm_congr fun j _ => by grind
def g (r : List Rat) : Vc := fun j => r.getD j 0
def at2 (A : List (List Rat)) (k j : Nat) : Rat := g (A.getD k []) j
def Nul (n : Nat) (A : List (List Rat)) (x : Vc) : Prop := ∀ r ∈ A, dt n (g r) x = 0
theorem Nul.lin {n : Nat} {A : List (List Rat)} {x y : Vc} (a b : Rat) (hx : Nul n A x) (hy : Nul n A y) : Nul n A fun j => a * x j + b * y j := fun r hr => by
  rw [dt_linR, hx r hr, hy r hr]
  grind
theorem nul_app {n : Nat} {A B : List (List Rat)} {x : Vc} : Nul n (A ++ B) x ↔ Nul n A x ∧ Nul n B x := by
  unfold Nul
  constructor
  · intro h
    exact ⟨fun r hr => h r (List.mem_append_left _ hr), fun r hr => h r (List.mem_append_right _ hr)⟩
  · intro h r hr
    rcases List.mem_append.mp hr with z | z
    · exact h.1 r z
    · exact h.2 r z
/-- a reduced table -/
structure RR (n : Nat) (A : List (List Rat)) (L : List Nat) : Prop where
  len : A.length = L.length
  lt : ∀ l ∈ L, l < n
  sorted : L.Pairwise (· < ·)
  one : ∀ k l, L[k]? = some l → at2 A k l = 1
  off : ∀ i k l, L[k]? = some l → i ≠ k → at2 A i l = 0
  low : ∀ k l c, L[k]? = some l → c < l → at2 A k c = 0
theorem mem_at {A : List (List Rat)} {r : List Rat} (h : r ∈ A) : ∃ k, k < A.length ∧ A.getD k [] = r := by
  obtain ⟨k, hk, e⟩ := List.mem_iff_getElem.mp h
  exact ⟨k, hk, by rw [List.getD_eq_getElem?_getD, List.getElem?_eq_getElem hk]; exact e⟩
theorem at_mem {A : List (List Rat)} {k : Nat} (h : k < A.length) : A.getD k [] ∈ A := by
  rw [List.getD_eq_getElem?_getD, List.getElem?_eq_getElem h]
  exact List.getElem_mem h
theorem idx_get {L : List Nat} {j : Nat} (h : j ∈ L) : L[L.idxOf j]? = some j := by
  have := List.idxOf_lt_length_of_mem h
  rw [List.getElem?_eq_getElem this]
  simp
def way (A : List (List Rat)) (L : List Nat) (c : Nat) : Vc := fun j => if j = c then 1 else if j ∈ L then - at2 A (L.idxOf j) c else 0
theorem way_self {A : List (List Rat)} {L : List Nat} {c : Nat} : way A L c c = 1 := by simp [way]
theorem way_free {A : List (List Rat)} {L : List Nat} {c j : Nat} (h : j ∉ L) (hc : j ≠ c) : way A L c j = 0 := by simp [way, h, hc]
theorem pw_nodup {L : List Nat} (h : L.Pairwise (· < ·)) {i k l : Nat} (hi : L[i]? = some l) (hk : L[k]? = some l) : i = k := by
  rw [List.pairwise_iff_getElem] at h
  obtain ⟨h1, e1⟩ := List.getElem?_eq_some_iff.mp hi
  obtain ⟨h2, e2⟩ := List.getElem?_eq_some_iff.mp hk
  rcases Nat.lt_trichotomy i k with z | z | z
  · have := h i k h1 h2 z; omega
  · exact z
  · have := h k i h2 h1 z; omega
section
variable {n : Nat} {A B : List (List Rat)} {L L' : List Nat}
theorem way_lead {c : Nat} (h : RR n A L) {k l : Nat} (hk : L[k]? = some l) (hc : l ≠ c) : way A L c l = - at2 A k c := by
  have m : l ∈ L := List.mem_of_getElem? hk
  have : L.idxOf l = k := pw_nodup h.sorted (idx_get m) hk
  simp [way, m, hc, this]
theorem RR.mem_lt (h : RR n A L) {k l : Nat} (hk : L[k]? = some l) : l < n := h.lt l (List.mem_of_getElem? hk)
theorem way_nul (h : RR n A L) {c : Nat} (hc : c < n) (hn : c ∉ L) : Nul n A (way A L c) := fun r hr => by
  obtain ⟨k, hk, e⟩ := mem_at hr
  subst e
  have hk' : k < L.length := by rw [← h.len]; exact hk
  have gl : L[k]? = some L[k] := List.getElem?_eq_getElem hk'
  have hl : L[k] < n := h.mem_lt gl
  have hlc : L[k] ≠ c := fun z => hn (z ▸ List.getElem_mem hk')
  show sm n _ = 0
  rw [sm_two (a := c) (b := L[k]) hc hl (Ne.symm hlc) fun j hj h1 h2 => ?_]
  · rw [way_self, way_lead h gl hlc]
    have := h.one k _ gl
    unfold at2 at this
    rw [this]
    unfold at2
    grind
  · by_cases hm : j ∈ L
    · have gi := idx_get hm
      have : at2 A k j = 0 := h.off k _ j gi fun z => h2 (by rw [← z] at gi; rw [gl] at gi; exact (Option.some.inj gi).symm)
      unfold at2 at this
      rw [this]
      grind
    · rw [way_free hm h1]
      grind
theorem way_above (h : RR n A L) {c j : Nat} (hj : c < j) : way A L c j = 0 := by
  by_cases hm : j ∈ L
  · rw [way_lead h (idx_get hm) (by omega), h.low _ _ c (idx_get hm) hj]
    grind
  · exact way_free hm (by omega)
theorem row_zero (h : RR n A L) {k l : Nat} (gl : L[k]? = some l) {x : Vc} (hx : Nul n A x) (z : ∀ j, j < n → j ≠ l → at2 A k j * x j = 0) : x l = 0 := by
  have hk : k < A.length := by rw [h.len]; exact (List.getElem?_eq_some_iff.mp gl).1
  have e : sm n (fun j => at2 A k j * x j) = 0 := hx _ (at_mem hk)
  rw [sm_one (a := l) (h.mem_lt gl) fun j hj hn => z j hj hn] at e
  rw [h.one k l gl] at e
  grind
theorem nul_zero (h : RR n A L) {x : Vc} (hx : Nul n A x) (z : ∀ j, j < n → j ∉ L → x j = 0) : ∀ j, j < n → x j = 0 := fun j hj => by
  by_cases hm : j ∈ L
  · refine row_zero h (idx_get hm) hx fun i hi hn => ?_
    by_cases hi2 : i ∈ L
    · have := h.off (L.idxOf j) (L.idxOf i) i (idx_get hi2) fun z => hn (by
        have a := idx_get hm
        have b := idx_get hi2
        rw [z, b] at a
        exact Option.some.inj a)
      rw [this]; grind
    · rw [z i hi hi2]; grind
  · exact z j hj hm
theorem lead_of (h : RR n A L) {c : Nat} (hm : c ∈ L) {x : Vc} (hx : Nul n A x) (z : ∀ j, c < j → j < n → x j = 0) : x c = 0 := by
  refine row_zero h (idx_get hm) hx fun j hj hn => ?_
  rcases Nat.lt_or_gt_of_ne hn with q | q
  · rw [h.low _ _ j (idx_get hm) q]; grind
  · rw [z j q hj]; grind
theorem leads_sub (h : RR n A L) (h' : RR n B L') (s : ∀ x, Nul n B x → Nul n A x) : ∀ c ∈ L, c ∈ L' := fun c hc => by
  by_cases hm : c ∈ L'
  · exact hm
  · have := lead_of h hc (s _ (way_nul h' (h.lt c hc) hm)) fun j h1 _ => way_above h' h1
    rw [way_self] at this
    grind
end
theorem sorted_sub {L L' : List Nat} (h : L.Pairwise (· < ·)) (h' : L'.Pairwise (· < ·)) (s : ∀ c ∈ L, c ∈ L') : L.Sublist L' := by
  induction L' generalizing L with
  | nil =>
    cases L with
    | nil => exact .slnil
    | cons a l => exact absurd (s a (by simp)) (by simp)
  | cons b l' ih =>
    cases L with
    | nil => exact List.nil_sublist _
    | cons a l =>
      rw [List.pairwise_cons] at h h'
      by_cases e : a = b
      · subst e
        refine .cons₂ _ (ih h.2 h'.2 fun c hc => ?_)
        have := h.1 c hc
        rcases List.mem_cons.mp (s c (by simp [hc])) with z | z
        · omega
        · exact z
      · refine .cons _ (ih (List.pairwise_cons.mpr h) h'.2 fun c hc => ?_)
        rcases List.mem_cons.mp (s c hc) with z | z
        · subst z
          rcases List.mem_cons.mp (s a (by simp)) with q | q
          · exact absurd q e
          · have h1 := h'.1 a q
            rcases List.mem_cons.mp hc with w | w
            · exact absurd w.symm e
            · have := h.1 _ w; omega
        · exact z
theorem sorted_eq {L L' : List Nat} (h : L.Pairwise (· < ·)) (h' : L'.Pairwise (· < ·)) (s : ∀ c ∈ L, c ∈ L') (hl : L.length = L'.length) : L = L' := (sorted_sub h h' s).eq_of_length hl
theorem sorted_eq2 {L L' : List Nat} (h : L.Pairwise (· < ·)) (h' : L'.Pairwise (· < ·)) (s : ∀ c ∈ L, c ∈ L') (s' : ∀ c ∈ L', c ∈ L) : L = L' := (sorted_sub h h' s).eq_of_length (Nat.le_antisymm (sorted_sub h h' s).length_le (sorted_sub h' h s').length_le)
theorem range_sorted (n : Nat) : (List.range n).Pairwise (· < ·) := List.pairwise_lt_range
section
variable {n : Nat} {A B : List (List Rat)} {L L' : List Nat}
theorem rows_eq (h : RR n A L) (h' : RR n B L) (s : ∀ x, Nul n B x → Nul n A x) {k j : Nat} (hk : k < L.length) (hj : j < n) : at2 A k j = at2 B k j := by
  have gl : L[k]? = some L[k] := List.getElem?_eq_getElem hk
  by_cases hm : j ∈ L
  · by_cases e : L.idxOf j = k
    · have a := idx_get hm
      rw [e] at a
      rw [h.one k j a, h'.one k j a]
    · rw [h.off k _ j (idx_get hm) (Ne.symm e), h'.off k _ j (idx_get hm) (Ne.symm e)]
  · have w1 := way_nul h hj hm
    have w2 := s _ (way_nul h' hj hm)
    have hlj : L[k] ≠ j := fun z => hm (z ▸ List.getElem_mem hk)
    have := nul_zero h (w1.lin 1 (-1) w2) (fun i hi hn => by
      by_cases e : i = j
      · subst e; rw [way_self, way_self]; grind
      · rw [way_free hn e, way_free hn e]; grind) L[k] (h.mem_lt gl)
    rw [way_lead h gl hlj, way_lead h' gl hlj] at this
    grind
theorem leads_eq (h : RR n A L) (h' : RR n B L') (s : ∀ x, Nul n B x ↔ Nul n A x) : L = L' :=
  sorted_eq2 h.sorted h'.sorted (leads_sub h h' fun x => (s x).mp) (leads_sub h' h fun x => (s x).mpr)
theorem table_eq (h : RR n A L) (h' : RR n B L) (s : ∀ x, Nul n B x → Nul n A x) (wA : ∀ r ∈ A, r.length = n) (wB : ∀ r ∈ B, r.length = n) : A = B := by
  refine List.ext_getElem (by rw [h.len, h'.len]) fun k h1 h2 => ?_
  refine List.ext_getElem (by rw [wA _ (List.getElem_mem h1), wB _ (List.getElem_mem h2)]) fun j h3 h4 => ?_
  have := rows_eq h h' s (k := k) (j := j) (by rw [← h.len]; exact h1) (by rw [← wA _ (List.getElem_mem h1)]; exact h3)
  unfold at2 at this
  simp only [List.getD_eq_getElem?_getD, List.getElem?_eq_getElem h1, List.getElem?_eq_getElem h2, Option.getD_some, g, List.getElem?_eq_getElem h3, List.getElem?_eq_getElem h4] at this
  exact this
theorem rank_le (h : RR n A L) : L.length ≤ n := by
  have := (sorted_sub h.sorted (range_sorted n) fun c hc => List.mem_range.mpr (h.lt c hc)).length_le
  rwa [List.length_range] at this
theorem free_of (h : RR n A L) (hl : L.length < n) : ∃ c, c < n ∧ c ∉ L := by
  refine Classical.byContradiction fun z => ?_
  have := (sorted_sub (range_sorted n) h.sorted fun c hc => Classical.byContradiction fun q => z ⟨c, List.mem_range.mp hc, q⟩).length_le
  rw [List.length_range] at this
  omega
end
end MX

/-! M2: how rows are put out, and what it keeps. -/
namespace MX
def Spn (W : Nat) (M : List (List Rat)) (u : Vc) : Prop := ∃ y : Vc, ∀ j, j < W → u j = sm M.length fun i => y i * at2 M i j
theorem Spn.lin {W : Nat} {M : List (List Rat)} {u v : Vc} (a b : Rat) (hu : Spn W M u) (hv : Spn W M v) : Spn W M fun j => a * u j + b * v j := by
  obtain ⟨y, e⟩ := hu
  obtain ⟨z, f⟩ := hv
  refine ⟨fun i => a * y i + b * z i, fun j hj => ?_⟩
  show a * u j + b * v j = _
  rw [e j hj, f j hj, ← sm_lin]
  exact sm_congr fun i _ => by grind
theorem Spn.base {W : Nat} {M : List (List Rat)} {r : List Rat} (h : r ∈ M) : Spn W M (g r) := by
  obtain ⟨k, hk, e⟩ := mem_at h
  refine ⟨fun i => if i = k then 1 else 0, fun j _ => ?_⟩
  rw [sm_one (a := k) hk fun i _ hn => by simp [hn]]
  simp only [if_true]
  unfold at2
  rw [e]
  grind
theorem Spn.congr {W : Nat} {M : List (List Rat)} {u v : Vc} (h : Spn W M u) (e : ∀ j, j < W → v j = u j) : Spn W M v := by
  obtain ⟨y, f⟩ := h
  exact ⟨y, fun j hj => by rw [e j hj, f j hj]⟩
theorem g_ge {r : List Rat} {j : Nat} (h : r.length ≤ j) : g r j = 0 := by simp [g, List.getD_eq_getElem?_getD, List.getElem?_eq_none h]
/-- what is divided by its leading one -/
def nrm (q : List Rat) (c : Nat) : List Rat := q.map fun x => x / g q c
def upd (p : List Rat) (c : Nat) (r : List Rat) : List Rat := (List.range r.length).map fun j => g r j - g r c * g p j
theorem nrm_len (q : List Rat) (c : Nat) : (nrm q c).length = q.length := by simp [nrm]
theorem upd_len (p : List Rat) (c : Nat) (r : List Rat) : (upd p c r).length = r.length := by simp [upd]
theorem g_nrm (q : List Rat) (c j : Nat) : g (nrm q c) j = g q j / g q c := by
  by_cases h : j < q.length
  · simp [g, nrm, List.getD_eq_getElem?_getD, List.getElem?_eq_getElem, h]
  · rw [g_ge (by rw [nrm_len]; omega), g_ge (r := q) (by omega)]
    grind
theorem g_upd {p r : List Rat} (c : Nat) (hl : p.length = r.length) (j : Nat) : g (upd p c r) j = g r j - g r c * g p j := by
  by_cases h : j < r.length
  · simp [g, upd, List.getD_eq_getElem?_getD, h]
  · rw [g_ge (by rw [upd_len]; omega), g_ge (r := r) (by omega), g_ge (r := p) (by omega)]
    grind
def ScV (d X : Nat) (r : List Rat) : Prop := ∀ j, ∃ m : Int, g r j * (d : Rat) = (m : Rat) ∧ m.natAbs ≤ X
def bnd (X : Nat) : Nat → Nat
  | 0 => X
  | k + 1 => 2 * (bnd X k * bnd X k)
structure Inv (n W c : Nat) (X : Nat) (M T R : List (List Rat)) (L : List Nat) : Prop where
  nW : n ≤ W
  cn : c ≤ n
  len : T.length = L.length
  wT : ∀ r ∈ T, r.length = W
  wR : ∀ r ∈ R, r.length = W
  lt : ∀ l ∈ L, l < c
  sorted : L.Pairwise (· < ·)
  one : ∀ k l, L[k]? = some l → at2 T k l = 1
  off : ∀ i k l, L[k]? = some l → i ≠ k → at2 T i l = 0
  low : ∀ k l j, L[k]? = some l → j < l → at2 T k j = 0
  rz : ∀ r ∈ R, ∀ j, j < c → g r j = 0
  nul : ∀ x, (Nul W T x ∧ Nul W R x) ↔ Nul W M x
  sp : ∀ r, r ∈ T ∨ r ∈ R → Spn W M (g r)
  tot : T.length + R.length = M.length
  sc : 0 < X → ∃ d : Nat, 0 < d ∧ d ≤ bnd X L.length ∧ ∀ r, r ∈ T ∨ r ∈ R → ScV d (bnd X L.length) r
theorem Inv.start {n W X : Nat} {M : List (List Rat)} (nW : n ≤ W) (w : ∀ r ∈ M, r.length = W) (sc : 0 < X → ∃ d : Nat, 0 < d ∧ d ≤ X ∧ ∀ r ∈ M, ScV d X r) : Inv n W 0 X M [] M [] := by
  refine ⟨nW, Nat.zero_le _, rfl, by simp, w, by simp, .nil, by simp, by simp, by simp, fun r _ j hj => by omega, fun x => by simp [Nul], fun r h => ?_, by simp, fun hx => ?_⟩
  · rcases h with h | h
    · simp at h
    · exact .base h
  · obtain ⟨d, h1, h2, h3⟩ := sc hx
    exact ⟨d, h1, h2, fun r h => by
      rcases h with h | h
      · simp at h
      · exact h3 r h⟩
theorem Inv.skip {n W c X : Nat} {M T R : List (List Rat)} {L : List Nat} (I : Inv n W c X M T R L) (hc : c < n) (z : ∀ r ∈ R, g r c = 0) : Inv n W (c + 1) X M T R L :=
  { I with
    cn := hc
    lt := fun l hl => by have := I.lt l hl; omega
    rz := fun r hr j hj => by
      by_cases e : j = c
      · subst e; exact z r hr
      · exact I.rz r hr j (by omega) }
theorem at2_app {T : List (List Rat)} {p : List Rat} {f : List Rat → List Rat} (k j : Nat) : at2 (T.map f ++ [p]) k j = if k < T.length then g (f (T.getD k [])) j else if k = T.length then g p j else 0 := by
  unfold at2
  by_cases h : k < T.length
  · simp [List.getD_eq_getElem?_getD, h, List.getElem?_append_left]
  · rw [if_neg h]
    by_cases e : k = T.length
    · subst e
      simp [List.getD_eq_getElem?_getD]
    · rw [if_neg e]
      have : (T.map f ++ [p]).getD k [] = [] := by
        rw [List.getD_eq_getElem?_getD, List.getElem?_eq_none (by simp; omega)]
        rfl
      rw [this]
      exact g_ge (by simp)
theorem get_app {L : List Nat} {c k l : Nat} (h : (L ++ [c])[k]? = some l) : L[k]? = some l ∨ (k = L.length ∧ l = c) := by
  rcases Nat.lt_trichotomy k L.length with z | z | z
  · exact .inl (by rwa [List.getElem?_append_left z] at h)
  · subst z
    right
    simp at h
    exact ⟨rfl, h.symm⟩
  · rw [List.getElem?_eq_none (by simp; omega)] at h
    cases h
theorem dt_upd {W c : Nat} {p r : List Rat} (hl : p.length = r.length) (x : Vc) : dt W (g (upd p c r)) x = dt W (g r) x - g r c * dt W (g p) x := by
  have : dt W (g (upd p c r)) x = dt W (fun j => 1 * g r j + (- g r c) * g p j) x := by
    unfold dt
    exact sm_congr fun j _ => by rw [g_upd c hl]; grind
  rw [this, dt_lin]
  grind
theorem dt_nrm {W c : Nat} {q : List Rat} (x : Vc) : dt W (g (nrm q c)) x = dt W (g q) x / g q c := by
  have : dt W (g (nrm q c)) x = dt W (fun j => (1 / g q c) * g q j + 0 * g q j) x := by
    unfold dt
    exact sm_congr fun j _ => by rw [g_nrm]; grind
  rw [this, dt_lin]
  grind
theorem natAbs_mul_le {a b X Y : Nat} (h : a ≤ X) (k : b ≤ Y) : a * b ≤ X * Y := Nat.mul_le_mul h k
theorem sg (P : Int) : ((P.natAbs : Nat) : Int) = P.sign * P := by
  rcases Int.lt_trichotomy P 0 with z | z | z
  · rw [Int.sign_eq_neg_one_of_neg z]; omega
  · subst z; rfl
  · rw [Int.sign_eq_one_of_pos z]; omega
theorem sc_step {d X c : Nat} {q : List Rat} (hd : 0 < d) (hX : d ≤ X) (hq : ScV d X q) (h0 : g q c ≠ 0) : ∃ d' : Nat, 0 < d' ∧ d' ≤ 2 * (X * X) ∧ ScV d' (2 * (X * X)) (nrm q c) ∧ (∀ r, r.length = q.length → ScV d X r → ScV d' (2 * (X * X)) (upd (nrm q c) c r)) ∧ ∀ r, ScV d X r → ∀ j, ∃ m : Int, (g r c * g (nrm q c) j) * (d' : Rat) = (m : Rat) ∧ m.natAbs ≤ 2 * (X * X) := by
  obtain ⟨P, eP, bP⟩ := hq c
  have hdr : (d : Rat) ≠ 0 := by
    intro z
    have : d = 0 := by exact_mod_cast z
    omega
  have hP : P ≠ 0 := fun z => by
    subst z
    have : g q c = 0 := by
      have e : g q c * (d : Rat) = 0 := by rw [eP]; rfl
      grind
    exact h0 this
  have hs : ((P.natAbs : Nat) : Rat) = (P.sign : Rat) * (P : Rat) := by
    have := sg P
    exact_mod_cast this
  have ab1 : ∀ m : Int, (P.sign * m).natAbs ≤ m.natAbs := fun m => by
    rw [Int.natAbs_mul]
    have : P.sign.natAbs ≤ 1 := by
      rcases Int.lt_trichotomy P 0 with z | z | z
      · rw [Int.sign_eq_neg_one_of_neg z]; decide
      · exact absurd z hP
      · rw [Int.sign_eq_one_of_pos z]; decide
    calc P.sign.natAbs * m.natAbs ≤ 1 * m.natAbs := Nat.mul_le_mul_right _ this
      _ = m.natAbs := Nat.one_mul _
  have key : ((d * P.natAbs : Nat) : Rat) = (d : Rat) * ((P.sign : Rat) * (P : Rat)) := by
    rw [← hs]; push_cast; rfl
  refine ⟨d * P.natAbs, Nat.mul_pos hd (Int.natAbs_pos.mpr hP), ?_, fun j => ?_, fun r hl hr j => ?_, fun r hr j => ?_⟩
  · have := natAbs_mul_le hX bP
    omega
  · obtain ⟨m, em, bm⟩ := hq j
    refine ⟨P.sign * (m * d), ?_, ?_⟩
    · rw [g_nrm, key]
      push_cast
      rw [← em, ← eP]
      grind
    · refine Nat.le_trans (ab1 _) ?_
      rw [Int.natAbs_mul]
      have := natAbs_mul_le bm (show (d : Int).natAbs ≤ X by simpa using hX)
      omega
  · obtain ⟨m, em, bm⟩ := hq j
    obtain ⟨a, ea, ba⟩ := hr j
    obtain ⟨b, eb, bb⟩ := hr c
    refine ⟨P.sign * (a * P - b * m), ?_, ?_⟩
    · rw [g_upd c (by rw [nrm_len, hl]), g_nrm, key]
      push_cast
      rw [← em, ← eP, ← ea, ← eb]
      grind
    · refine Nat.le_trans (ab1 _) ?_
      have h1 := natAbs_mul_le ba bP
      have h2 := natAbs_mul_le bb bm
      rw [← Int.natAbs_mul] at h1 h2
      omega
  · obtain ⟨m, em, bm⟩ := hq j
    obtain ⟨b, eb, bb⟩ := hr c
    refine ⟨P.sign * (b * m), ?_, ?_⟩
    · rw [g_nrm, key]
      push_cast
      rw [← em, ← eP, ← eb]
      grind
    · refine Nat.le_trans (ab1 _) ?_
      have h2 := natAbs_mul_le bb bm
      rw [← Int.natAbs_mul] at h2
      omega
theorem Inv.step {n W c X : Nat} {M T R R' : List (List Rat)} {L : List Nat} {q : List Rat} (I : Inv n W c X M T R L) (hc : c < n) (hp : R.Perm (q :: R')) (h0 : g q c ≠ 0) :
    Inv n W (c + 1) X M (T.map (upd (nrm q c) c) ++ [nrm q c]) (R'.map (upd (nrm q c) c)) (L ++ [c]) := by
  have mq : q ∈ R := hp.mem_iff.mpr (by simp)
  have mR : ∀ r ∈ R', r ∈ R := fun r h => hp.mem_iff.mpr (by simp [h])
  have wq := I.wR q mq
  have wp : (nrm q c).length = W := by rw [nrm_len, wq]
  have pz : ∀ j, j < c → g (nrm q c) j = 0 := fun j hj => by rw [g_nrm, I.rz q mq j hj]; grind
  have p1 : g (nrm q c) c = 1 := by rw [g_nrm]; grind
  have gT : ∀ r ∈ T, ∀ j, g (upd (nrm q c) c r) j = g r j - g r c * g (nrm q c) j := fun r hr j => g_upd c (by rw [wp, I.wT r hr]) j
  have gR : ∀ r ∈ R', ∀ j, g (upd (nrm q c) c r) j = g r j - g r c * g (nrm q c) j := fun r hr j => g_upd c (by rw [wp, I.wR r (mR r hr)]) j
  have aT : ∀ k j, k < T.length → g (upd (nrm q c) c (T.getD k [])) j = at2 T k j - at2 T k c * g (nrm q c) j := fun k j hk => gT _ (at_mem hk) j
  have l1 : ∀ k l, L[k]? = some l → k < T.length := fun k l h => by rw [I.len]; exact (List.getElem?_eq_some_iff.mp h).1
  have lc : ∀ k l, L[k]? = some l → l < c := fun k l h => I.lt l (List.mem_of_getElem? h)
  refine ⟨I.nW, hc, by simp [I.len], ?_, ?_, ?_, ?_, ?_, ?_, ?_, ?_, ?_, ?_, ?_, ?_⟩
  · intro r hr
    rcases List.mem_append.mp hr with z | z
    · obtain ⟨s, hs, rfl⟩ := List.mem_map.mp z
      rw [upd_len, I.wT s hs]
    · rw [List.mem_singleton] at z
      rw [z, wp]
  · intro r hr
    obtain ⟨s, hs, rfl⟩ := List.mem_map.mp hr
    rw [upd_len, I.wR s (mR s hs)]
  · intro l hl
    rcases List.mem_append.mp hl with z | z
    · have := I.lt l z; omega
    · rw [List.mem_singleton] at z; omega
  · rw [List.pairwise_append]
    exact ⟨I.sorted, List.pairwise_singleton _ _, fun a ha b hb => by rw [List.mem_singleton] at hb; rw [hb]; exact I.lt a ha⟩
  · intro k l h
    rw [at2_app]
    rcases get_app h with z | ⟨rfl, rfl⟩
    · rw [if_pos (l1 k l z), aT k l (l1 k l z), I.one k l z, pz l (lc k l z)]
      grind
    · rw [if_neg (by rw [I.len]; omega), if_pos I.len.symm, p1]
  · intro i k l h hik
    rw [at2_app]
    rcases get_app h with z | ⟨rfl, rfl⟩
    · by_cases hi : i < T.length
      · rw [if_pos hi, aT i l hi, I.off i k l z hik, pz l (lc k l z)]
        grind
      · rw [if_neg hi]
        split
        · exact pz l (lc k l z)
        · rfl
    · by_cases hi : i < T.length
      · rw [if_pos hi, aT i l hi, p1]
        grind
      · rw [if_neg hi, if_neg (by rw [I.len]; exact hik)]
  · intro k l j h hj
    rw [at2_app]
    rcases get_app h with z | ⟨rfl, rfl⟩
    · rw [if_pos (l1 k l z), aT k j (l1 k l z), I.low k l j z hj, pz j (by have := lc k l z; omega)]
      grind
    · rw [if_neg (by rw [I.len]; omega), if_pos I.len.symm]
      exact pz j hj
  · intro r hr j hj
    obtain ⟨s, hs, rfl⟩ := List.mem_map.mp hr
    rw [gR s hs]
    by_cases e : j = c
    · subst e; rw [p1]; grind
    · rw [I.rz s (mR s hs) j (by omega), pz j (by omega)]; grind
  · intro x
    rw [← I.nul x]
    have eT : ∀ r ∈ T, dt W (g (upd (nrm q c) c r)) x = dt W (g r) x - g r c * dt W (g (nrm q c)) x := fun r hr => dt_upd (by rw [wp, I.wT r hr]) x
    have eR : ∀ r ∈ R', dt W (g (upd (nrm q c) c r)) x = dt W (g r) x - g r c * dt W (g (nrm q c)) x := fun r hr => dt_upd (by rw [wp, I.wR r (mR r hr)]) x
    have eq := dt_nrm (W := W) (c := c) (q := q) x
    constructor
    · rintro ⟨h1, h2⟩
      rw [nul_app] at h1
      have hpz : dt W (g (nrm q c)) x = 0 := h1.2 _ (by simp)
      have hqz : dt W (g q) x = 0 := by rw [hpz] at eq; grind
      refine ⟨fun r hr => ?_, fun r hr => ?_⟩
      · have := h1.1 _ (List.mem_map_of_mem hr)
        rw [eT r hr, hpz] at this; grind
      · rcases List.mem_cons.mp (hp.mem_iff.mp hr) with z | z
        · rw [z, hqz]
        · have := h2 _ (List.mem_map_of_mem z)
          rw [eR r z, hpz] at this; grind
    · rintro ⟨h1, h2⟩
      have hpz : dt W (g (nrm q c)) x = 0 := by rw [eq, h2 q mq]; grind
      rw [nul_app]
      refine ⟨⟨fun r hr => ?_, fun r hr => ?_⟩, fun r hr => ?_⟩
      · obtain ⟨s, hs, rfl⟩ := List.mem_map.mp hr
        rw [eT s hs, hpz, h1 s hs]; grind
      · rw [List.mem_singleton] at hr
        rw [hr, hpz]
      · obtain ⟨s, hs, rfl⟩ := List.mem_map.mp hr
        rw [eR s hs, hpz, h2 s (mR s hs)]; grind
  · have sq := I.sp q (.inr mq)
    have spp : Spn W M (g (nrm q c)) := (sq.lin (1 / g q c) 0 sq).congr fun j _ => by rw [g_nrm]; grind
    have su : ∀ s, s.length = W → Spn W M (g s) → Spn W M (g (upd (nrm q c) c s)) := fun s hw hs => (hs.lin 1 (- g s c) spp).congr fun j _ => by rw [g_upd c (by rw [wp, hw])]; grind
    intro r hr
    rcases hr with hr | hr
    · rcases List.mem_append.mp hr with z | z
      · obtain ⟨s, hs, rfl⟩ := List.mem_map.mp z
        exact su s (I.wT s hs) (I.sp s (.inl hs))
      · rw [List.mem_singleton] at z
        rw [z]; exact spp
    · obtain ⟨s, hs, rfl⟩ := List.mem_map.mp hr
      exact su s (I.wR s (mR s hs)) (I.sp s (.inr (mR s hs)))
  · have := hp.length_eq
    have t := I.tot
    simp only [List.length_append, List.length_map, List.length_cons, List.length_nil] at this ⊢
    omega
  · intro hx
    obtain ⟨d, h1, h2, h3⟩ := I.sc hx
    obtain ⟨d', k1, k2, k3, k4, _⟩ := sc_step h1 h2 (h3 q (.inr mq)) h0
    rw [List.length_append, List.length_singleton]
    refine ⟨d', k1, k2, fun r hr => ?_⟩
    rcases hr with hr | hr
    · rcases List.mem_append.mp hr with z | z
      · obtain ⟨s, hs, rfl⟩ := List.mem_map.mp z
        exact k4 s (by rw [I.wT s hs, wq]) (h3 s (.inl hs))
      · rw [List.mem_singleton] at z
        rw [z]; exact k3
    · obtain ⟨s, hs, rfl⟩ := List.mem_map.mp hr
      exact k4 s (by rw [I.wR s (mR s hs), wq]) (h3 s (.inr (mR s hs)))
/-- what stands between: the shares that are put off -/
theorem Inv.mid {n W c X : Nat} {M T R : List (List Rat)} {L : List Nat} {q : List Rat} (I : Inv n W c X M T R L) (hX : 0 < X) (mq : q ∈ R) (h0 : g q c ≠ 0) :
    ∃ d : Nat, 0 < d ∧ d ≤ bnd X (L.length + 1) ∧ ScV d (bnd X (L.length + 1)) (nrm q c) ∧ ∀ r, r ∈ T ∨ r ∈ R → ∀ j, ∃ m : Int, (g r c * g (nrm q c) j) * (d : Rat) = (m : Rat) ∧ m.natAbs ≤ bnd X (L.length + 1) := by
  obtain ⟨d, h1, h2, h3⟩ := I.sc hX
  obtain ⟨d', k1, k2, k3, k4, k5⟩ := sc_step h1 h2 (h3 q (.inr mq)) h0
  exact ⟨d', k1, k2, k3, fun r hr j => k5 r (h3 r hr) j⟩
end MX

/-! M3: what follows: one table for one space, points, ways, rows made of rows. -/
namespace MX
section
variable {n W X X' : Nat} {M T R T' R' : List (List Rat)} {L L' : List Nat}
theorem Inv.ext_ (M : List (List Rat)) (nW : n ≤ W) (w : ∀ r ∈ M, r.length = W) : ∀ c, c ≤ n → ∃ T R L, Inv n W c 0 M T R L := by
  intro c
  induction c with
  | zero => exact fun _ => ⟨_, _, _, Inv.start nW w fun z => by omega⟩
  | succ c ih =>
    intro hc
    obtain ⟨T, R, L, I⟩ := ih (by omega)
    by_cases h : ∃ q ∈ R, g q c ≠ 0
    · obtain ⟨q, hq, h0⟩ := h
      exact ⟨_, _, _, I.step (by omega) (List.perm_cons_erase hq) h0⟩
    · exact ⟨_, _, _, I.skip (by omega) fun r hr => Classical.byContradiction fun z => h ⟨r, hr, z⟩⟩
theorem Inv.exX {M : List (List Rat)} (nW : n ≤ W) (w : ∀ r ∈ M, r.length = W) (sc : ∃ d : Nat, 0 < d ∧ d ≤ X ∧ ∀ r ∈ M, ScV d X r) : ∃ T R L, Inv n W n X M T R L := by
  have key : ∀ c, c ≤ n → ∃ T R L, Inv n W c X M T R L := by
    intro c
    induction c with
    | zero => exact fun _ => ⟨_, _, _, Inv.start nW w fun _ => sc⟩
    | succ c ih =>
      intro hc
      obtain ⟨T, R, L, I⟩ := ih (by omega)
      by_cases h : ∃ q ∈ R, g q c ≠ 0
      · obtain ⟨q, hq, h0⟩ := h
        exact ⟨_, _, _, I.step (by omega) (List.perm_cons_erase hq) h0⟩
      · exact ⟨_, _, _, I.skip (by omega) fun r hr => Classical.byContradiction fun z => h ⟨r, hr, z⟩⟩
  exact key n (Nat.le_refl _)
theorem Inv.rr (I : Inv n W n X M T R L) : RR n T L := ⟨I.len, I.lt, I.sorted, I.one, I.off, I.low⟩
theorem Inv.nulR (I : Inv n W n X M T R L) {x : Vc} (hx : ∀ j, n ≤ j → j < W → ∀ r ∈ R, g r j * x j = 0) : Nul W R x := fun r hr => sm_zero fun j hj => by
  by_cases h : j < n
  · rw [I.rz r hr j h]; grind
  · exact hx j (by omega) hj r hr
theorem Inv.nul0 (I : Inv n n n X M T R L) (x : Vc) : Nul n T x ↔ Nul n M x := by
  rw [← I.nul x]
  exact ⟨fun h => ⟨h, I.nulR fun j h1 h2 => by omega⟩, fun h => h.1⟩
/-- two ways, one table -/
theorem Inv.uniq (I : Inv n n n X M T R L) (J : Inv n n n X' M T' R' L') : T = T' ∧ L = L' := by
  have e : L = L' := leads_eq I.rr J.rr fun x => by rw [I.nul0, J.nul0]
  subst e
  exact ⟨table_eq I.rr J.rr (fun x h => (I.nul0 x).mpr ((J.nul0 x).mp h)) I.wT J.wT, rfl⟩
theorem rank_zero (I : Inv n W n X M T R L) : L.length ≤ M.length := by
  have := I.tot; have := I.len; omega
/-- rows with goals behind -/
def aug (n : Nat) (M : List (List Rat)) (b : Vc) : List (List Rat) := (List.range M.length).map fun i => M.getD i [] ++ [b i]
theorem g_snoc {r : List Rat} {z : Rat} {j : Nat} (hl : r.length = n) : g (r ++ [z]) j = if j < n then g r j else if j = n then z else 0 := by
  subst hl
  by_cases h : j < r.length
  · simp [g, List.getD_eq_getElem?_getD, h, List.getElem?_append_left]
  · rw [if_neg h]
    by_cases e : j = r.length
    · subst e; simp [g, List.getD_eq_getElem?_getD]
    · rw [if_neg e, g_ge (by simp; omega)]
theorem dt_snoc {r : List Rat} {z : Rat} (hl : r.length = n) (x : Vc) : dt (n + 1) (g (r ++ [z])) x = dt n (g r) x + z * x n := by
  unfold dt
  show sm n _ + g (r ++ [z]) n * x n = _
  rw [sm_congr (n := n) (h := fun j => g r j * x j) fun j hj => by rw [g_snoc hl, if_pos hj], g_snoc hl, if_neg (by omega), if_pos rfl]
theorem mem_aug {b : Vc} {r : List Rat} : r ∈ aug n M b ↔ ∃ i, i < M.length ∧ r = M.getD i [] ++ [b i] := by
  unfold aug
  simp only [List.mem_map, List.mem_range]
  exact ⟨fun ⟨i, h, e⟩ => ⟨i, h, e.symm⟩, fun ⟨i, h, e⟩ => ⟨i, h, e.symm⟩⟩
theorem aug_len {b : Vc} (w : ∀ r ∈ M, r.length = n) : ∀ r ∈ aug n M b, r.length = n + 1 := fun r hr => by
  obtain ⟨i, hi, rfl⟩ := mem_aug.mp hr
  rw [List.length_append, List.length_singleton, w _ (at_mem hi)]
theorem nul_aug {b x : Vc} (w : ∀ r ∈ M, r.length = n) : Nul (n + 1) (aug n M b) x ↔ ∀ i, i < M.length → dt n (g (M.getD i [])) x + b i * x n = 0 := by
  constructor
  · intro h i hi
    rw [← dt_snoc (w _ (at_mem hi))]
    exact h _ (mem_aug.mpr ⟨i, hi, rfl⟩)
  · intro h r hr
    obtain ⟨i, hi, rfl⟩ := mem_aug.mp hr
    rw [dt_snoc (w _ (at_mem hi))]
    exact h i hi
theorem dt_cut {r : List Rat} (x : Vc) : dt (n + 1) (g r) (fun j => if j = n then 0 else x j) = dt n (g r) x := by
  unfold dt
  show sm n _ + _ = _
  rw [sm_congr (n := n) (h := fun j => g r j * x j) fun j hj => by simp [show j ≠ n by omega]]
  simp
  grind
/-- the leads of the rows alone -/
theorem Inv.aug_leads {b : Vc} (w : ∀ r ∈ M, r.length = n) (I : Inv n (n + 1) n X (aug n M b) T R L) (J : Inv n n n X' M T' R' L') : L = L' := by
  refine leads_eq I.rr J.rr fun x => ?_
  rw [J.nul0 x]
  have h1 := I.nul (fun j => if j = n then 0 else x j)
  rw [nul_aug w] at h1
  have hR : Nul (n + 1) R (fun j => if j = n then 0 else x j) := I.nulR fun j a b r hr => by rw [if_pos (by omega)]; grind
  constructor
  · intro h r hr
    rw [← dt_cut]
    refine (h1.mpr fun i hi => ?_).1 r hr
    have := dt_cut (r := M.getD i []) (n := n) x
    have e : dt n (g (M.getD i [])) (fun j => if j = n then 0 else x j) = dt n (g (M.getD i [])) x := by
      unfold dt
      exact sm_congr fun j hj => by simp [show j ≠ n by omega]
    rw [e, h _ (at_mem hi)]
    simp
    grind
  · intro h r hr
    have h2 := h1.mp ⟨fun r hr => by rw [dt_cut]; exact h r hr, hR⟩
    obtain ⟨i, hi, rfl⟩ := mem_at hr
    have := h2 i hi
    have e : dt n (g (M.getD i [])) (fun j => if j = n then 0 else x j) = dt n (g (M.getD i [])) x := by
      unfold dt
      exact sm_congr fun j hj => by simp [show j ≠ n by omega]
    rw [e] at this
    simp at this
    grind
/-- the point that the table tells -/
def pnt (T : List (List Rat)) (L : List Nat) (n : Nat) : Vc := fun j => if j ∈ L then at2 T (L.idxOf j) n else 0
theorem Inv.rr1 (I : Inv n (n + 1) n X M T R L) : RR (n + 1) T L := ⟨I.len, fun l h => by have := I.lt l h; omega, I.sorted, I.one, I.off, I.low⟩
theorem Inv.not_n (I : Inv n W n X M T R L) : n ∉ L := fun h => by have := I.lt n h; omega
theorem Inv.way_n {b : Vc} (w : ∀ r ∈ M, r.length = n) (I : Inv n (n + 1) n X (aug n M b) T R L) (z : ∀ r ∈ R, g r n = 0) : Nul (n + 1) (aug n M b) (way T L n) := by
  refine (I.nul _).mp ⟨way_nul I.rr1 (by omega) I.not_n, I.nulR fun j h1 h2 r hr => ?_⟩
  have : j = n := by omega
  subst this
  rw [z r hr]; grind
theorem Inv.point {b : Vc} (w : ∀ r ∈ M, r.length = n) (I : Inv n (n + 1) n X (aug n M b) T R L) (z : ∀ r ∈ R, g r n = 0) : ∀ i, i < M.length → dt n (g (M.getD i [])) (pnt T L n) = b i := fun i hi => by
  have h := (nul_aug w).mp (I.way_n w z) i hi
  rw [way_self] at h
  have e : dt n (g (M.getD i [])) (way T L n) = dt n (g (M.getD i [])) (fun j => (-1) * pnt T L n j + 0 * pnt T L n j) := by
    unfold dt
    refine sm_congr fun j hj => ?_
    by_cases hm : j ∈ L
    · rw [way_lead I.rr1 (idx_get hm) (by omega)]
      simp [pnt, hm]
      grind
    · rw [way_free hm (by omega)]
      simp [pnt, hm]
      grind
  rw [e, dt_linR] at h
  grind
/-- no point: numbers that tell why -/
theorem Inv.none_ {b : Vc} (w : ∀ r ∈ M, r.length = n) (I : Inv n (n + 1) n X (aug n M b) T R L) {r : List Rat} (hr : r ∈ R) (z : g r n ≠ 0) : ∃ y : Vc, (∀ j, j < n → sm M.length (fun i => y i * at2 M i j) = 0) ∧ sm M.length (fun i => y i * b i) ≠ 0 := by
  obtain ⟨y, hy⟩ := I.sp r (.inr hr)
  have el : (aug n M b).length = M.length := by simp [aug]
  have ea : ∀ i, i < M.length → (aug n M b).getD i [] = M.getD i [] ++ [b i] := fun i hi => by simp [aug, List.getD_eq_getElem?_getD, hi]
  rw [el] at hy
  refine ⟨y, fun j hj => ?_, fun q => z ?_⟩
  · rw [← I.rz r hr j hj, hy j (by omega)]
    refine sm_congr fun i hi => ?_
    unfold at2
    rw [ea i hi, g_snoc (w _ (at_mem hi)), if_pos hj]
  · rw [hy n (by omega), ← q]
    refine sm_congr fun i hi => ?_
    unfold at2
    rw [ea i hi, g_snoc (w _ (at_mem hi)), if_neg (by omega), if_pos rfl]
theorem none_not {b x y : Vc} (h : ∀ i, i < M.length → dt n (g (M.getD i [])) x = b i) (h1 : ∀ j, j < n → sm M.length (fun i => y i * at2 M i j) = 0) : sm M.length (fun i => y i * b i) = 0 := by
  have e : sm M.length (fun i => y i * b i) = sm M.length (fun i => sm n fun j => (y i * at2 M i j) * x j) := sm_congr fun i hi => by
    rw [← h i hi]
    unfold dt
    rw [← sm_mul]
    exact sm_congr fun j _ => by unfold at2; grind
  rw [e, sm_swap]
  refine sm_zero fun j hj => ?_
  have : sm M.length (fun i => y i * at2 M i j * x j) = sm M.length (fun i => x j * (y i * at2 M i j)) := sm_congr fun i _ => by grind
  rw [this, sm_mul, h1 j hj]
  grind
/-- the whole table leads in the goals' column just where there is no point -/
theorem Inv.ends {b : Vc} (w : ∀ r ∈ M, r.length = n) (I : Inv n (n + 1) n X (aug n M b) T R L) (J : Inv (n + 1) (n + 1) (n + 1) X' (aug n M b) T' R' L') : n ∈ L' ↔ ∃ r ∈ R, g r n ≠ 0 := by
  constructor
  · intro hm
    refine Classical.byContradiction fun q => ?_
    have z : ∀ r ∈ R, g r n = 0 := fun r hr => Classical.byContradiction fun k => q ⟨r, hr, k⟩
    have := lead_of J.rr hm ((J.nul0 _).mpr (I.way_n w z)) fun j h1 h2 => by omega
    rw [way_self] at this
    grind
  · rintro ⟨r, hr, z⟩
    refine Classical.byContradiction fun q => ?_
    obtain ⟨y, h1, h2⟩ := I.none_ w hr z
    have h3 := (nul_aug w).mp ((J.nul0 _).mp (way_nul J.rr (by omega) q))
    refine h2 (none_not (x := fun j => (-1) * way T' L' n j + 0 * way T' L' n j) (n := n) (fun i hi => ?_) h1)
    rw [dt_linR]
    have := h3 i hi
    rw [way_self] at this
    grind
/-- rows with one more: no more leads just where the one is made of them -/
theorem nul_snoc {M : List (List Rat)} {r : List Rat} {x : Vc} : Nul n (M ++ [r]) x ↔ Nul n M x ∧ dt n (g r) x = 0 := by
  rw [nul_app]
  simp [Nul]
theorem Inv.same_rank {goal : List Rat} (I : Inv n n n X M T R L) (J : Inv n n n X' (M ++ [goal]) T' R' L') : L'.length = L.length ↔ ∀ x, Nul n M x → dt n (g goal) x = 0 := by
  have s : ∀ x, Nul n T' x → Nul n T x := fun x h => (I.nul0 x).mpr (nul_snoc.mp ((J.nul0 x).mp h)).1
  constructor
  · intro e x hx
    have el : L = L' := sorted_eq I.sorted J.sorted (leads_sub I.rr J.rr s) e.symm
    subst el
    have : Nul n T' x := fun r hr => by
      obtain ⟨k, hk, rfl⟩ := mem_at hr
      have h1 := (I.nul0 x).mpr hx
      have hk' : k < L.length := by rw [← J.len]; exact hk
      rw [← h1 _ (at_mem (A := T) (k := k) (by rw [I.len]; exact hk'))]
      unfold dt
      exact sm_congr fun j hj => by
        have := rows_eq I.rr J.rr s hk' hj
        unfold at2 at this
        rw [this]
    exact (nul_snoc.mp ((J.nul0 x).mp this)).2
  · intro h
    have : L' = L := leads_eq J.rr I.rr fun x => by
      rw [I.nul0, J.nul0, nul_snoc]
      exact ⟨fun a => ⟨a, h x a⟩, fun a => a.1⟩
    rw [this]
/-- more unknowns than rows -/
theorem some_nul (f : Nat → Nat → Rat) {a b : Nat} (h : a < b) : ∃ z : Vc, (∃ i, i < b ∧ z i ≠ 0) ∧ ∀ k, k < a → sm b (fun i => f k i * z i) = 0 := by
  obtain ⟨T, R, L, I⟩ := Inv.ext_ (n := b) (W := b) ((List.range a).map fun k => (List.range b).map fun i => f k i) (Nat.le_refl _) (by simp) b (Nat.le_refl _)
  have hl : L.length < b := by
    have := rank_zero I
    simp at this
    omega
  obtain ⟨c, hc, hm⟩ := free_of I.rr hl
  refine ⟨way T L c, ⟨c, hc, by rw [way_self]; grind⟩, fun k hk => ?_⟩
  have := (I.nul0 _).mp (way_nul I.rr hc hm) ((List.range b).map fun i => f k i) (List.mem_map.mpr ⟨k, List.mem_range.mpr hk, rfl⟩)
  unfold dt at this
  rw [← this]
  exact sm_congr fun i hi => by simp [g, List.getD_eq_getElem?_getD, hi]
/-! ### ways -/
def frees (n : Nat) (L : List Nat) : List Nat := (List.range n).filter fun c => !L.contains c
def wayL (T : List (List Rat)) (L : List Nat) (n c : Nat) : List Rat := (List.range n).map (way T L c)
def waysL (T : List (List Rat)) (L : List Nat) (n : Nat) : List (List Rat) := (frees n L).map (wayL T L n)
theorem mem_frees {c : Nat} : c ∈ frees n L ↔ c < n ∧ c ∉ L := by simp [frees]
theorem cnt_sub : ∀ (L : List Nat) (S : List Nat), L.Pairwise (· < ·) → S.Pairwise (· < ·) → (∀ c ∈ L, c ∈ S) → (S.filter fun c => !L.contains c).length + L.length = S.length := by
  intro L S hL hS hs
  have h1 : L = S.filter fun c => L.contains c := sorted_eq2 hL (hS.filter _) (fun c hc => by simp [hc, hs c hc]) fun c hc => by simp at hc; exact hc.2
  have h2 : ∀ S : List Nat, (S.filter fun c => !L.contains c).length + (S.filter fun c => L.contains c).length = S.length := by
    intro S
    induction S with
    | nil => rfl
    | cons a s ih =>
      rw [List.filter_cons, List.filter_cons]
      cases L.contains a <;> simp at ih ⊢ <;> omega
  have h3 := h2 S
  rw [← h1] at h3
  exact h3
theorem frees_len (I : RR n T L) : (frees n L).length + L.length = n := by
  have := cnt_sub L (List.range n) I.sorted (range_sorted n) fun c hc => List.mem_range.mpr (I.lt c hc)
  rwa [List.length_range] at this
theorem g_wayL {c j : Nat} (hj : j < n) : g (wayL T L n c) j = way T L c j := by simp [wayL, g, List.getD_eq_getElem?_getD, hj]
theorem dt_comm (r x : Vc) : dt n r x = dt n x r := sm_congr fun j _ => by grind
theorem dt_wayL {c : Nat} (x : Vc) : dt n (g (wayL T L n c)) x = dt n x (way T L c) := by
  rw [dt_comm]
  exact sm_congr fun j hj => by rw [g_wayL hj]
theorem ways_len : ∀ r ∈ waysL T L n, r.length = n := fun r hr => by
  obtain ⟨c, _, rfl⟩ := List.mem_map.mp hr
  simp [wayL]
theorem ways_keep (I : Inv n n n X M T R L) {v : List Rat} (hv : v ∈ waysL T L n) {r : List Rat} (hr : r ∈ M) : dt n (g r) (g v) = 0 := by
  obtain ⟨c, hc, rfl⟩ := List.mem_map.mp hv
  have hc := mem_frees.mp hc
  have := (I.nul0 _).mp (way_nul I.rr hc.1 hc.2) r hr
  rw [← this]
  exact sm_congr fun j hj => by rw [g_wayL hj]
/-- ways are apart -/
theorem ways_apart (h : RR n T L) {x : Vc} (hx : Nul n (waysL T L n) x) (z : ∀ l ∈ L, x l = 0) : ∀ j, j < n → x j = 0 := fun j hj => by
  by_cases hm : j ∈ L
  · exact z j hm
  · have := hx _ (List.mem_map_of_mem (mem_frees.mpr ⟨hj, hm⟩))
    rw [dt_wayL] at this
    unfold dt at this
    rw [sm_one (a := j) hj fun i hi hn => ?_, way_self] at this
    · grind
    · by_cases hl : i ∈ L
      · rw [z i hl]; grind
      · rw [way_free hl hn]; grind
theorem sm_lt_zero {a b : Nat} {f : Vc} (h : a ≤ b) (z : ∀ j, a ≤ j → j < b → f j = 0) : sm b f = sm a f := by
  induction b with
  | zero => have : a = 0 := by omega
            rw [this]
  | succ b ih =>
    by_cases e : a = b + 1
    · rw [e]
    · show sm b f + f b = _
      rw [ih (by omega) (fun j h1 h2 => z j h1 (by omega)), z b (by omega) (by omega)]
      grind
theorem nul_sum {A : List (List Rat)} (f : Nat → Vc) (z : Vc) : ∀ b, (∀ i, i < b → Nul n A (f i)) → Nul n A fun j => sm b fun i => z i * f i j := by
  intro b
  induction b with
  | zero => exact fun _ r _ => sm_zero fun j _ => by show _ * (0 : Rat) = 0; grind
  | succ b ih =>
    intro h
    have h1 := ih fun i hi => h i (by omega)
    have h2 := h b (by omega)
    intro r hr
    have := (h1.lin 1 (z b) h2) r hr
    rw [← this]
    unfold dt
    exact sm_congr fun j _ => by show _ * (sm b _ + _) = _; grind
theorem ways_rank (h : RR n T L) (J : Inv n n n X' (waysL T L n) T' R' L') : L'.length = (waysL T L n).length := by
  have le := rank_zero J
  refine Classical.byContradiction fun q => ?_
  have hl : (waysL T L n).length = (frees n L).length := by simp [waysL]
  have f1 := frees_len h
  have f2 := frees_len J.rr
  have lt : L.length < (frees n L').length := by omega
  obtain ⟨z, ⟨i0, hi0, z0⟩, hz⟩ := some_nul (fun k i => way T' L' ((frees n L').getD i 0) (L.getD k 0)) lt
  have fm : ∀ i, i < (frees n L').length → (frees n L').getD i 0 < n ∧ (frees n L').getD i 0 ∉ L' := fun i hi => by
    rw [List.getD_eq_getElem?_getD, List.getElem?_eq_getElem hi]
    exact mem_frees.mp (List.getElem_mem hi)
  have hN := nul_sum (n := n) (A := waysL T L n) (fun i => way T' L' ((frees n L').getD i 0)) z (frees n L').length fun i hi => (J.nul0 _).mp (way_nul J.rr (fm i hi).1 (fm i hi).2)
  have hA := ways_apart h hN (fun l hl => by
    obtain ⟨k, hk, e⟩ := List.mem_iff_getElem.mp hl
    have := hz k hk
    rw [← this]
    refine sm_congr fun i _ => ?_
    have : L.getD k 0 = l := by rw [List.getD_eq_getElem?_getD, List.getElem?_eq_getElem hk, e]; rfl
    rw [this]
    grind) ((frees n L').getD i0 0) (fm i0 hi0).1
  rw [sm_one (a := i0) hi0 fun i hi hn => ?_, way_self] at hA
  · exact z0 (by grind)
  · rw [way_free (fm i0 hi0).2 fun e => hn ?_]
    · grind
    · have p : (frees n L').Pairwise (· < ·) := (range_sorted n).filter _
      refine pw_nodup p (l := (frees n L').getD i 0) ?_ ?_
      · rw [List.getD_eq_getElem?_getD, List.getElem?_eq_getElem hi]; rfl
      · rw [← e, List.getD_eq_getElem?_getD, List.getElem?_eq_getElem hi0]; rfl
end
end MX

set_option maxRecDepth 100000
set_option maxHeartbeats 4000000
namespace KK
open PySem L2 DL
abbrev XR0 (K : Fr) (mg : Str → Option Value) : XR := fun _ _ _ _ => False
def top (i : Nat) : Stmt := PySem.Challenge.pw_cogwright_k01_whole_parts_and_equations.main.body.getD i (.Pass ⟨0, 0, 0, 0⟩)
abbrev s_divisor : Stmt := top 1
abbrev s_part : Stmt := top 2
abbrev s_is_part : Stmt := top 3
abbrev s_are_parts : Stmt := top 4
abbrev s_plus : Stmt := top 5
abbrev s_minus : Stmt := top 6
abbrev s_times : Stmt := top 7
abbrev s_over : Stmt := top 8
abbrev s_negative : Stmt := top 9
abbrev s_is_less : Stmt := top 10
abbrev s_least : Stmt := top 11
abbrev s_most : Stmt := top 12
abbrev s_total : Stmt := top 13
abbrev s_dot : Stmt := top 14
abbrev s_text_of : Stmt := top 15
abbrev s_whole_below : Stmt := top 16
abbrev s_power : Stmt := top 17
abbrev s_reduced : Stmt := top 21
abbrev s_rank : Stmt := top 22
abbrev s_ways : Stmt := top 23
abbrev s_point : Stmt := top 24
abbrev s_made_of : Stmt := top 25
abbrev s_summed : Stmt := top 26
abbrev s_is_nought : Stmt := top 27
abbrev s_same_space : Stmt := top 28
abbrev s_rank_of : Stmt := top 29
abbrev s__law_state : Stmt := top 31
abbrev s__law_take : Stmt := top 32
abbrev s__law_fr : Stmt := top 34
abbrev s__law_add : Stmt := top 35
abbrev s__law_mul : Stmt := top 36
abbrev s__law_sub : Stmt := top 37
abbrev s__law_sum : Stmt := top 38
abbrev s__law_less : Stmt := top 39
abbrev s__law_over : Stmt := top 40
abbrev s__law_dot : Stmt := top 41
abbrev s__law_turn : Stmt := top 42
abbrev s__law_put_out : Stmt := top 43
abbrev s__law_rank : Stmt := top 44
abbrev s__law_ways : Stmt := top 45
abbrev s__law_keeps : Stmt := top 46
abbrev s__law_summed : Stmt := top 47
abbrev s__law_are_ways : Stmt := top 48
abbrev s__law_drawn : Stmt := top 49
abbrev s__law_parts_hold : Stmt := top 50
abbrev s__law_tables_hold : Stmt := top 51
abbrev s_law : Stmt := top 52
def c_NOUGHT : Dt := (.tup [(.int 0), (.int 1)])
def c_ONE : Dt := (.tup [(.int 1), (.int 1)])
structure Txt (K : Fr) (mg : Str → Option Value) where
  d_divisor : Dfn K mg "divisor" s_divisor
  d_part : Dfn K mg "part" s_part
  d_is_part : Dfn K mg "is_part" s_is_part
  d_are_parts : Dfn K mg "are_parts" s_are_parts
  d_plus : Dfn K mg "plus" s_plus
  d_minus : Dfn K mg "minus" s_minus
  d_times : Dfn K mg "times" s_times
  d_over : Dfn K mg "over" s_over
  d_negative : Dfn K mg "negative" s_negative
  d_is_less : Dfn K mg "is_less" s_is_less
  d_least : Dfn K mg "least" s_least
  d_most : Dfn K mg "most" s_most
  d_total : Dfn K mg "total" s_total
  d_dot : Dfn K mg "dot" s_dot
  d_text_of : Dfn K mg "text_of" s_text_of
  d_whole_below : Dfn K mg "whole_below" s_whole_below
  d_power : Dfn K mg "power" s_power
  d_reduced : Dfn K mg "reduced" s_reduced
  d_rank : Dfn K mg "rank" s_rank
  d_ways : Dfn K mg "ways" s_ways
  d_point : Dfn K mg "point" s_point
  d_made_of : Dfn K mg "made_of" s_made_of
  d_summed : Dfn K mg "summed" s_summed
  d_is_nought : Dfn K mg "is_nought" s_is_nought
  d_same_space : Dfn K mg "same_space" s_same_space
  d_rank_of : Dfn K mg "rank_of" s_rank_of
  d__law_state : Dfn K mg "_law_state" s__law_state
  d__law_take : Dfn K mg "_law_take" s__law_take
  d__law_fr : Dfn K mg "_law_fr" s__law_fr
  d__law_add : Dfn K mg "_law_add" s__law_add
  d__law_mul : Dfn K mg "_law_mul" s__law_mul
  d__law_sub : Dfn K mg "_law_sub" s__law_sub
  d__law_sum : Dfn K mg "_law_sum" s__law_sum
  d__law_less : Dfn K mg "_law_less" s__law_less
  d__law_over : Dfn K mg "_law_over" s__law_over
  d__law_dot : Dfn K mg "_law_dot" s__law_dot
  d__law_turn : Dfn K mg "_law_turn" s__law_turn
  d__law_put_out : Dfn K mg "_law_put_out" s__law_put_out
  d__law_rank : Dfn K mg "_law_rank" s__law_rank
  d__law_ways : Dfn K mg "_law_ways" s__law_ways
  d__law_keeps : Dfn K mg "_law_keeps" s__law_keeps
  d__law_summed : Dfn K mg "_law_summed" s__law_summed
  d__law_are_ways : Dfn K mg "_law_are_ways" s__law_are_ways
  d__law_drawn : Dfn K mg "_law_drawn" s__law_drawn
  d__law_parts_hold : Dfn K mg "_law_parts_hold" s__law_parts_hold
  d__law_tables_hold : Dfn K mg "_law_tables_hold" s__law_tables_hold
  d_law : Dfn K mg "law" s_law
  c_NOUGHT : Cst K mg "NOUGHT" c_NOUGHT
  c_ONE : Cst K mg "ONE" c_ONE
  b_abs : mg "abs" = none
  b_all : mg "all" = none
  b_any : mg "any" = none
  b_bool : mg "bool" = none
  b_int : mg "int" = none
  b_isinstance : mg "isinstance" = none
  b_len : mg "len" = none
  b_list : mg "list" = none
  b_range : mg "range" = none
  b_str : mg "str" = none
  b_tuple : mg "tuple" = none

abbrev N_divisor : List Str := ["one", "other"]
abbrev p_divisor : List Str := ["one", "other"]
def m_divisor : IS := (sSeq (sPar 0 1 (xE (eCB (f1 absD) (aCons (eVar 0) aNil))) (xE (eCB (f1 absD) (aCons (eVar 1) aNil))))
  (sSeq (sWhile (bT (eOp neD (eVar 1) (eC (.int 0)))) (sPar 0 1 (xE (eVar 1)) (xE (eOp modI (eVar 0) (eVar 1)))))
  (sRet (eVar 0))))
def sp_divisor : DSp := fun ds P E => ds.length = 2 ∧ m_divisor (init 2 ds) { nx := fun _ => P .non, rt := P, ex := E }

abbrev N_part : List Str := ["above", "below", "common"]
abbrev p_part : List Str := ["above", "below"]
def m_part : IS := (sSeq (sIf (bT (eOp ltI (eVar 1) (eC (.int 0)))) (sPar 0 1 (xE (eOp subI (eC (.int 0)) (eVar 0))) (xE (eOp subI (eC (.int 0)) (eVar 1)))) sNext)
  (sSeq (sSet 2 (xE (eCall sp_divisor (aCons (eVar 0) (aCons (eVar 1) aNil)))))
  (sRet (eTup (aCons (eOp divI (eVar 0) (eVar 2)) (aCons (eOp divI (eVar 1) (eVar 2)) aNil))))))
def sp_part : DSp := fun ds P E => ds.length = 2 ∧ m_part (init 3 ds) { nx := fun _ => P .non, rt := P, ex := E }

abbrev N_is_part : List Str := ["value", "number"]
abbrev p_is_part : List Str := ["value"]
def m_is_part : IS := (sSeq (sIf (bOr (bNot (bT (eIsi "tuple" (eVar 0)))) (bT (eOp neD (eCB (f1 lenD) (aCons (eVar 0) aNil)) (eC (.int 2))))) (sRet (eC (.bl false))) sNext)
  (sSeq (sIf (bNot (bT (eCB (f1 allD) (aCons (nComp [1] (iOf (eVar 0)) (gN 1) bYes (eAnd (eIsi "int" (eVar 1)) (eNot (eIsi "bool" (eVar 1))))) aNil)))) (sRet (eC (.bl false))) sNext)
  (sRet (eAnd (eOp geI (eOp ixD (eVar 0) (eC (.int 1))) (eC (.int 1))) (eOp eqD (eCall sp_divisor (aCons (eOp ixD (eVar 0) (eC (.int 0))) (aCons (eOp ixD (eVar 0) (eC (.int 1))) aNil))) (eC (.int 1)))))))
def sp_is_part : DSp := fun ds P E => ds.length = 1 ∧ m_is_part (init 2 ds) { nx := fun _ => P .non, rt := P, ex := E }

abbrev N_are_parts : List Str := ["value", "many", "one"]
abbrev p_are_parts : List Str := ["value", "many"]
def m_are_parts : IS := (sRet (eAnd (eIsi "tuple" (eVar 0)) (eAnd (eOp eqD (eCB (f1 lenD) (aCons (eVar 0) aNil)) (eVar 1)) (eCB (f1 allD) (aCons (nComp [2] (iOf (eVar 0)) (gN 2) bYes (eCall sp_is_part (aCons (eVar 2) aNil))) aNil)))))
def sp_are_parts : DSp := fun ds P E => ds.length = 2 ∧ m_are_parts (init 3 ds) { nx := fun _ => P .non, rt := P, ex := E }

abbrev N_plus : List Str := ["one", "other"]
abbrev p_plus : List Str := ["one", "other"]
def m_plus : IS := (sRet (eCall sp_part (aCons (eOp addI (eOp mulI (eOp ixD (eVar 0) (eC (.int 0))) (eOp ixD (eVar 1) (eC (.int 1)))) (eOp mulI (eOp ixD (eVar 1) (eC (.int 0))) (eOp ixD (eVar 0) (eC (.int 1))))) (aCons (eOp mulI (eOp ixD (eVar 0) (eC (.int 1))) (eOp ixD (eVar 1) (eC (.int 1)))) aNil))))
def sp_plus : DSp := fun ds P E => ds.length = 2 ∧ m_plus (init 2 ds) { nx := fun _ => P .non, rt := P, ex := E }

abbrev N_minus : List Str := ["one", "other"]
abbrev p_minus : List Str := ["one", "other"]
def m_minus : IS := (sRet (eCall sp_part (aCons (eOp subI (eOp mulI (eOp ixD (eVar 0) (eC (.int 0))) (eOp ixD (eVar 1) (eC (.int 1)))) (eOp mulI (eOp ixD (eVar 1) (eC (.int 0))) (eOp ixD (eVar 0) (eC (.int 1))))) (aCons (eOp mulI (eOp ixD (eVar 0) (eC (.int 1))) (eOp ixD (eVar 1) (eC (.int 1)))) aNil))))
def sp_minus : DSp := fun ds P E => ds.length = 2 ∧ m_minus (init 2 ds) { nx := fun _ => P .non, rt := P, ex := E }

abbrev N_times : List Str := ["one", "other"]
abbrev p_times : List Str := ["one", "other"]
def m_times : IS := (sRet (eCall sp_part (aCons (eOp mulI (eOp ixD (eVar 0) (eC (.int 0))) (eOp ixD (eVar 1) (eC (.int 0)))) (aCons (eOp mulI (eOp ixD (eVar 0) (eC (.int 1))) (eOp ixD (eVar 1) (eC (.int 1)))) aNil))))
def sp_times : DSp := fun ds P E => ds.length = 2 ∧ m_times (init 2 ds) { nx := fun _ => P .non, rt := P, ex := E }

abbrev N_over : List Str := ["one", "other"]
abbrev p_over : List Str := ["one", "other"]
def m_over : IS := (sRet (eCall sp_part (aCons (eOp mulI (eOp ixD (eVar 0) (eC (.int 0))) (eOp ixD (eVar 1) (eC (.int 1)))) (aCons (eOp mulI (eOp ixD (eVar 0) (eC (.int 1))) (eOp ixD (eVar 1) (eC (.int 0)))) aNil))))
def sp_over : DSp := fun ds P E => ds.length = 2 ∧ m_over (init 2 ds) { nx := fun _ => P .non, rt := P, ex := E }

abbrev N_negative : List Str := ["one"]
abbrev p_negative : List Str := ["one"]
def m_negative : IS := (sRet (eTup (aCons (eOp subI (eC (.int 0)) (eOp ixD (eVar 0) (eC (.int 0)))) (aCons (eOp ixD (eVar 0) (eC (.int 1))) aNil))))
def sp_negative : DSp := fun ds P E => ds.length = 1 ∧ m_negative (init 1 ds) { nx := fun _ => P .non, rt := P, ex := E }

abbrev N_is_less : List Str := ["one", "other"]
abbrev p_is_less : List Str := ["one", "other"]
def m_is_less : IS := (sRet (eOp ltI (eOp mulI (eOp ixD (eVar 0) (eC (.int 0))) (eOp ixD (eVar 1) (eC (.int 1)))) (eOp mulI (eOp ixD (eVar 1) (eC (.int 0))) (eOp ixD (eVar 0) (eC (.int 1))))))
def sp_is_less : DSp := fun ds P E => ds.length = 2 ∧ m_is_less (init 2 ds) { nx := fun _ => P .non, rt := P, ex := E }

abbrev N_least : List Str := ["row", "found", "one"]
abbrev p_least : List Str := ["row"]
def m_least : IS := (sSeq (sSet 1 (xE (eC .non)))
  (sSeq (sFor (iOf (eVar 0)) (gN 2) (sSet 1 (xE (eIf (bOr (bT (eOp isN (eVar 1) (eC .non))) (bT (eCall sp_is_less (aCons (eVar 2) (aCons (eVar 1) aNil))))) (eVar 2) (eVar 1)))))
  (sRet (eVar 1))))
def sp_least : DSp := fun ds P E => ds.length = 1 ∧ m_least (init 3 ds) { nx := fun _ => P .non, rt := P, ex := E }

abbrev N_most : List Str := ["row", "found", "one"]
abbrev p_most : List Str := ["row"]
def m_most : IS := (sSeq (sSet 1 (xE (eC .non)))
  (sSeq (sFor (iOf (eVar 0)) (gN 2) (sSet 1 (xE (eIf (bOr (bT (eOp isN (eVar 1) (eC .non))) (bT (eCall sp_is_less (aCons (eVar 1) (aCons (eVar 2) aNil))))) (eVar 2) (eVar 1)))))
  (sRet (eVar 1))))
def sp_most : DSp := fun ds P E => ds.length = 1 ∧ m_most (init 3 ds) { nx := fun _ => P .non, rt := P, ex := E }

abbrev N_total : List Str := ["row", "found", "one"]
abbrev p_total : List Str := ["row"]
def m_total : IS := (sSeq (sSet 1 (xE (eTup (aCons (eC (.int 0)) (aCons (eC (.int 1)) aNil)))))
  (sSeq (sFor (iOf (eVar 0)) (gN 2) (sSet 1 (xE (eCall sp_plus (aCons (eVar 1) (aCons (eVar 2) aNil))))))
  (sRet (eVar 1))))
def sp_total : DSp := fun ds P E => ds.length = 1 ∧ m_total (init 3 ds) { nx := fun _ => P .non, rt := P, ex := E }

abbrev N_dot : List Str := ["one", "other", "k"]
abbrev p_dot : List Str := ["one", "other"]
def m_dot : IS := (sRet (eCall sp_total (aCons (nComp [2] (iRange1 (aCons (eCB (f1 lenD) (aCons (eVar 0) aNil)) aNil)) (gN 2) bYes (eCall sp_times (aCons (eOp ixD (eVar 0) (eVar 2)) (aCons (eOp ixD (eVar 1) (eVar 2)) aNil)))) aNil)))
def sp_dot : DSp := fun ds P E => ds.length = 2 ∧ m_dot (init 3 ds) { nx := fun _ => P .non, rt := P, ex := E }

abbrev N_text_of : List Str := ["one"]
abbrev p_text_of : List Str := ["one"]
def m_text_of : IS := (sRet (eIf (bT (eOp eqD (eOp ixD (eVar 0) (eC (.int 1))) (eC (.int 1)))) (eCB (f1 strD) (aCons (eOp ixD (eVar 0) (eC (.int 0))) aNil)) (eOp catS (eOp catS (eCB (f1 strD) (aCons (eOp ixD (eVar 0) (eC (.int 0))) aNil)) (eC (.str (PySem.Str.ofString "/")))) (eCB (f1 strD) (aCons (eOp ixD (eVar 0) (eC (.int 1))) aNil)))))
def sp_text_of : DSp := fun ds P E => ds.length = 1 ∧ m_text_of (init 1 ds) { nx := fun _ => P .non, rt := P, ex := E }

abbrev N_whole_below : List Str := ["one"]
abbrev p_whole_below : List Str := ["one"]
def m_whole_below : IS := (sRet (eOp divI (eOp ixD (eVar 0) (eC (.int 0))) (eOp ixD (eVar 0) (eC (.int 1)))))
def sp_whole_below : DSp := fun ds P E => ds.length = 1 ∧ m_whole_below (init 1 ds) { nx := fun _ => P .non, rt := P, ex := E }

abbrev N_power : List Str := ["one", "many", "found", "turn"]
abbrev p_power : List Str := ["one", "many"]
def m_power : IS := (sSeq (sSet 2 (xE (eTup (aCons (eC (.int 1)) (aCons (eC (.int 1)) aNil)))))
  (sSeq (sFor (iRange1 (aCons (eVar 1) aNil)) (gN 3) (sSet 2 (xE (eCall sp_times (aCons (eVar 2) (aCons (eVar 0) aNil))))))
  (sRet (eVar 2))))
def sp_power : DSp := fun ds P E => ds.length = 2 ∧ m_power (init 4 ds) { nx := fun _ => P .non, rt := P, ex := E }

abbrev N_reduced : List Str := ["rows", "wide", "lines", "leads", "column", "ready", "spot", "k", "factor", "row", "one", "c"]
abbrev p_reduced : List Str := ["rows", "wide"]
def m_reduced : IS := (sSeq (sMany [2, 3] (xCons (xN (nComp [9] (iOf (eVar 0)) (gN 9) bYes (eCB (f1 lstD) (aCons (eVar 9) aNil)))) (xCons (xN (eLst aNil)) xNil)))
  (sSeq (sFor (iRange1 (aCons (eVar 1) aNil)) (gN 4) (sSeq (sSet 5 (xE (nComp [7] (iRange2 (aCons (eCB (f1 lenD) (aCons (oVar 3) aNil)) (aCons (eCB (f1 lenD) (aCons (oVar 2) aNil)) aNil))) (gN 7) (bT (eOp neD (eOp ixD (eOp ixD (eOp ixD (oVar 2) (eVar 7)) (eVar 4)) (eC (.int 0))) (eC (.int 0)))) (eVar 7))))
  (sIf (bT (eOp gtI (eCB (f1 lenD) (aCons (eVar 5) aNil)) (eC (.int 0)))) (sSeq (sSet 6 (xE (eCB (f1 lenD) (aCons (oVar 3) aNil))))
  (sSeq (sAsg (eTup (aCons (eOp ixD (oVar 2) (eOp ixD (eVar 5) (eC (.int 0)))) (aCons (eOp ixD (oVar 2) (eVar 6)) aNil))) (tgT 2 (tgsCons (tgSub 2 (eVar 6)) (tgsCons (tgSub 2 (eOp ixD (eVar 5) (eC (.int 0)))) tgsNil))))
  (sSeq (sSetAt 2 (eVar 6) (nComp [10] (iOf (eOp ixD (oVar 2) (eVar 6))) (gN 10) bYes (eCall sp_over (aCons (eVar 10) (aCons (eOp ixD (eOp ixD (oVar 2) (eVar 6)) (eVar 4)) aNil)))))
  (sSeq (sFor (iRange1 (aCons (eCB (f1 lenD) (aCons (oVar 2) aNil)) aNil)) (gN 7) (sIf (bAnd (bT (eOp neD (eVar 7) (eVar 6))) (bT (eOp neD (eOp ixD (eOp ixD (eOp ixD (oVar 2) (eVar 7)) (eVar 4)) (eC (.int 0))) (eC (.int 0))))) (sSeq (sSet 8 (xE (eOp ixD (eOp ixD (oVar 2) (eVar 7)) (eVar 4))))
  (sSetAt 2 (eVar 7) (nComp [11] (iRange1 (aCons (eCB (f1 lenD) (aCons (eOp ixD (oVar 2) (eVar 7)) aNil)) aNil)) (gN 11) bYes (eCall sp_minus (aCons (eOp ixD (eOp ixD (oVar 2) (eVar 7)) (eVar 11)) (aCons (eCall sp_times (aCons (eVar 8) (aCons (eOp ixD (eOp ixD (oVar 2) (eVar 6)) (eVar 11)) aNil))) aNil)))))) sNext))
  (sApp 3 (eVar 4)))))) sNext)))
  (sFrz 2 (sFrz 3 (sRet (eTup (aCons (eVar 2) (aCons (eVar 3) aNil))))))))
def sp_reduced : DSp := fun ds P E => ds.length = 2 ∧ m_reduced (init 12 ds) { nx := fun _ => P .non, rt := P, ex := E }

abbrev N_rank : List Str := ["rows"]
abbrev p_rank : List Str := ["rows"]
def m_rank : IS := (sRet (eIf (bT (eOp gtI (eCB (f1 lenD) (aCons (eVar 0) aNil)) (eC (.int 0)))) (eCB (f1 lenD) (aCons (eOp ixD (eCall sp_reduced (aCons (eVar 0) (aCons (eCB (f1 lenD) (aCons (eOp ixD (eVar 0) (eC (.int 0))) aNil)) aNil))) (eC (.int 1))) aNil)) (eC (.int 0))))
def sp_rank : DSp := fun ds P E => ds.length = 1 ∧ m_rank (init 1 ds) { nx := fun _ => P .non, rt := P, ex := E }

abbrev N_ways : List Str := ["rows", "wide", "lines", "leads", "found", "column", "row", "k"]
abbrev p_ways : List Str := ["rows", "wide"]
def m_ways : IS := (sSeq (sAsg (eCall sp_reduced (aCons (eVar 0) (aCons (eVar 1) aNil))) (tgT 2 (tgsCons (tgN 2) (tgsCons (tgN 3) tgsNil))))
  (sSeq (sSet 4 (xN (eLst aNil)))
  (sSeq (sFor (iRange1 (aCons (eVar 1) aNil)) (gN 5) (sIf (bT (eOp niL (eVar 5) (eVar 3))) (sSeq (sSet 6 (xN (eOp repL (eLst (aCons (eC c_NOUGHT) aNil)) (eVar 1))))
  (sSeq (sSetAt 6 (eVar 5) (eC c_ONE))
  (sSeq (sFor (iRange1 (aCons (eCB (f1 lenD) (aCons (eVar 3) aNil)) aNil)) (gN 7) (sSetAt 6 (eOp ixD (eVar 3) (eVar 7)) (eCall sp_negative (aCons (eOp ixD (eOp ixD (eVar 2) (eVar 7)) (eVar 5)) aNil))))
  (sApp 4 (eCB (f1 tupD) (aCons (oVar 6) aNil)))))) sNext))
  (sFrz 4 (sRet (eVar 4))))))
def sp_ways : DSp := fun ds P E => ds.length = 2 ∧ m_ways (init 8 ds) { nx := fun _ => P .non, rt := P, ex := E }

abbrev N_point : List Str := ["rows", "goals", "wide", "lines", "leads", "found", "k", "line"]
abbrev p_point : List Str := ["rows", "goals", "wide"]
def m_point : IS := (sSeq (sAsg (eCall sp_reduced (aCons (nComp [6] (iRange1 (aCons (eCB (f1 lenD) (aCons (eVar 0) aNil)) aNil)) (gN 6) bYes (eOp catL (eCB (f1 lstD) (aCons (eOp ixD (eVar 0) (eVar 6)) aNil)) (eLst (aCons (eOp ixD (eVar 1) (eVar 6)) aNil)))) (aCons (eVar 2) aNil))) (tgT 2 (tgsCons (tgN 3) (tgsCons (tgN 4) tgsNil))))
  (sSeq (sIf (bT (eCB (f1 anyD) (aCons (nComp [7] (iOf (eSl slL (eVar 3) (pAt (eCB (f1 lenD) (aCons (eVar 4) aNil))) pNo)) (gN 7) bYes (eOp neD (eOp ixD (eOp ixD (eVar 7) (eVar 2)) (eC (.int 0))) (eC (.int 0)))) aNil))) (sRet (eC .non)) sNext)
  (sSeq (sSet 5 (xN (eOp repL (eLst (aCons (eC c_NOUGHT) aNil)) (eVar 2))))
  (sSeq (sFor (iRange1 (aCons (eCB (f1 lenD) (aCons (eVar 4) aNil)) aNil)) (gN 6) (sSetAt 5 (eOp ixD (eVar 4) (eVar 6)) (eOp ixD (eOp ixD (eVar 3) (eVar 6)) (eVar 2))))
  (sRet (eCB (f1 tupD) (aCons (oVar 5) aNil)))))))
def sp_point : DSp := fun ds P E => ds.length = 3 ∧ m_point (init 8 ds) { nx := fun _ => P .non, rt := P, ex := E }

abbrev N_made_of : List Str := ["rows", "goal", "columns", "c", "row"]
abbrev p_made_of : List Str := ["rows", "goal"]
def m_made_of : IS := (sSeq (sSet 2 (xE (nComp [3] (iRange1 (aCons (eCB (f1 lenD) (aCons (eVar 1) aNil)) aNil)) (gN 3) bYes (nComp [4] (iOf (eVar 0)) (gN 4) bYes (eOp ixD (eVar 4) (eVar 3))))))
  (sRet (eCall sp_point (aCons (eVar 2) (aCons (eCB (f1 lstD) (aCons (eVar 1) aNil)) (aCons (eCB (f1 lenD) (aCons (eVar 0) aNil)) aNil))))))
def sp_made_of : DSp := fun ds P E => ds.length = 2 ∧ m_made_of (init 5 ds) { nx := fun _ => P .non, rt := P, ex := E }

abbrev N_summed : List Str := ["rows", "shares", "wide", "c", "row"]
abbrev p_summed : List Str := ["rows", "shares", "wide"]
def m_summed : IS := (sRet (eCB (f1 tupD) (aCons (nComp [3] (iRange1 (aCons (eVar 2) aNil)) (gN 3) bYes (eCall sp_dot (aCons (eVar 1) (aCons (nComp [4] (iOf (eVar 0)) (gN 4) bYes (eOp ixD (eVar 4) (eVar 3))) aNil)))) aNil)))
def sp_summed : DSp := fun ds P E => ds.length = 3 ∧ m_summed (init 5 ds) { nx := fun _ => P .non, rt := P, ex := E }

abbrev N_is_nought : List Str := ["row", "one"]
abbrev p_is_nought : List Str := ["row"]
def m_is_nought : IS := (sRet (eNot (eCB (f1 anyD) (aCons (nComp [1] (iOf (eVar 0)) (gN 1) bYes (eOp neD (eOp ixD (eVar 1) (eC (.int 0))) (eC (.int 0)))) aNil))))
def sp_is_nought : DSp := fun ds P E => ds.length = 1 ∧ m_is_nought (init 2 ds) { nx := fun _ => P .non, rt := P, ex := E }

abbrev N_rank_of : List Str := ["rows", "wide"]
abbrev p_rank_of : List Str := ["rows", "wide"]
def m_rank_of : IS := (sRet (eCB (f1 lenD) (aCons (eOp ixD (eCall sp_reduced (aCons (eVar 0) (aCons (eVar 1) aNil))) (eC (.int 1))) aNil)))
def sp_rank_of : DSp := fun ds P E => ds.length = 2 ∧ m_rank_of (init 2 ds) { nx := fun _ => P .non, rt := P, ex := E }

abbrev N_same_space : List Str := ["rows", "others", "wide", "whole"]
abbrev p_same_space : List Str := ["rows", "others", "wide"]
def m_same_space : IS := (sSeq (sSet 3 (xE (eCall sp_rank_of (aCons (eOp catL (eCB (f1 lstD) (aCons (eVar 0) aNil)) (eCB (f1 lstD) (aCons (eVar 1) aNil))) (aCons (eVar 2) aNil)))))
  (sRet (eAnd (eOp eqD (eVar 3) (eCall sp_rank_of (aCons (eVar 0) (aCons (eVar 2) aNil)))) (eOp eqD (eVar 3) (eCall sp_rank_of (aCons (eVar 1) (aCons (eVar 2) aNil)))))))
def sp_same_space : DSp := fun ds P E => ds.length = 3 ∧ m_same_space (init 4 ds) { nx := fun _ => P .non, rt := P, ex := E }

abbrev N__law_fr : List Str := ["upper", "lower", "one", "other", "turn"]
abbrev p__law_fr : List Str := ["upper", "lower"]
def m__law_fr : IS := (sSeq (sIf (bT (eOp ltI (eVar 1) (eC (.int 0)))) (sPar 0 1 (xE (eOp subI (eC (.int 0)) (eVar 0))) (xE (eOp subI (eC (.int 0)) (eVar 1)))) sNext)
  (sSeq (sPar 2 3 (xE (eCB (f1 absD) (aCons (eVar 0) aNil))) (xE (eVar 1)))
  (sSeq (sFor (iRange1 (aCons (eC (.int 4000)) aNil)) (gN 4) (sSeq (sIf (bT (eOp eqD (eVar 3) (eC (.int 0)))) sBreak sNext)
  (sPar 2 3 (xE (eVar 3)) (xE (eOp modI (eCB (f1 intD) (aCons (eVar 2) aNil)) (eVar 3))))))
  (sRet (eTup (aCons (eOp divI (eVar 0) (eVar 2)) (aCons (eOp divI (eVar 1) (eVar 2)) aNil)))))))
def sp__law_fr : DSp := fun ds P E => ds.length = 2 ∧ m__law_fr (init 5 ds) { nx := fun _ => P .non, rt := P, ex := E }

abbrev N__law_add : List Str := ["one", "other"]
abbrev p__law_add : List Str := ["one", "other"]
def m__law_add : IS := (sRet (eCall sp__law_fr (aCons (eOp addI (eOp mulI (eOp ixD (eVar 0) (eC (.int 0))) (eOp ixD (eVar 1) (eC (.int 1)))) (eOp mulI (eOp ixD (eVar 1) (eC (.int 0))) (eOp ixD (eVar 0) (eC (.int 1))))) (aCons (eOp mulI (eOp ixD (eVar 0) (eC (.int 1))) (eOp ixD (eVar 1) (eC (.int 1)))) aNil))))
def sp__law_add : DSp := fun ds P E => ds.length = 2 ∧ m__law_add (init 2 ds) { nx := fun _ => P .non, rt := P, ex := E }

abbrev N__law_mul : List Str := ["one", "other"]
abbrev p__law_mul : List Str := ["one", "other"]
def m__law_mul : IS := (sRet (eCall sp__law_fr (aCons (eOp mulI (eOp ixD (eVar 0) (eC (.int 0))) (eOp ixD (eVar 1) (eC (.int 0)))) (aCons (eOp mulI (eOp ixD (eVar 0) (eC (.int 1))) (eOp ixD (eVar 1) (eC (.int 1)))) aNil))))
def sp__law_mul : DSp := fun ds P E => ds.length = 2 ∧ m__law_mul (init 2 ds) { nx := fun _ => P .non, rt := P, ex := E }

abbrev N__law_sub : List Str := ["one", "other"]
abbrev p__law_sub : List Str := ["one", "other"]
def m__law_sub : IS := (sRet (eCall sp__law_add (aCons (eVar 0) (aCons (eTup (aCons (eOp subI (eC (.int 0)) (eOp ixD (eVar 1) (eC (.int 0)))) (aCons (eOp ixD (eVar 1) (eC (.int 1))) aNil))) aNil))))
def sp__law_sub : DSp := fun ds P E => ds.length = 2 ∧ m__law_sub (init 2 ds) { nx := fun _ => P .non, rt := P, ex := E }

abbrev N__law_sum : List Str := ["row", "found", "one"]
abbrev p__law_sum : List Str := ["row"]
def m__law_sum : IS := (sSeq (sSet 1 (xE (eTup (aCons (eC (.int 0)) (aCons (eC (.int 1)) aNil)))))
  (sSeq (sFor (iOf (eVar 0)) (gN 2) (sSet 1 (xE (eCall sp__law_add (aCons (eVar 1) (aCons (eVar 2) aNil))))))
  (sRet (eVar 1))))
def sp__law_sum : DSp := fun ds P E => ds.length = 1 ∧ m__law_sum (init 3 ds) { nx := fun _ => P .non, rt := P, ex := E }

abbrev N__law_less : List Str := ["one", "other"]
abbrev p__law_less : List Str := ["one", "other"]
def m__law_less : IS := (sRet (eOp ltI (eOp mulI (eOp ixD (eVar 0) (eC (.int 0))) (eOp ixD (eVar 1) (eC (.int 1)))) (eOp mulI (eOp ixD (eVar 1) (eC (.int 0))) (eOp ixD (eVar 0) (eC (.int 1))))))
def sp__law_less : DSp := fun ds P E => ds.length = 2 ∧ m__law_less (init 2 ds) { nx := fun _ => P .non, rt := P, ex := E }

abbrev N__law_over : List Str := ["one", "other"]
abbrev p__law_over : List Str := ["one", "other"]
def m__law_over : IS := (sRet (eCall sp__law_fr (aCons (eOp mulI (eOp ixD (eVar 0) (eC (.int 0))) (eOp ixD (eVar 1) (eC (.int 1)))) (aCons (eOp mulI (eOp ixD (eVar 0) (eC (.int 1))) (eOp ixD (eVar 1) (eC (.int 0)))) aNil))))
def sp__law_over : DSp := fun ds P E => ds.length = 2 ∧ m__law_over (init 2 ds) { nx := fun _ => P .non, rt := P, ex := E }

abbrev N__law_dot : List Str := ["one", "other", "k"]
abbrev p__law_dot : List Str := ["one", "other"]
def m__law_dot : IS := (sRet (eCall sp__law_sum (aCons (nComp [2] (iRange1 (aCons (eCB (f1 lenD) (aCons (eVar 0) aNil)) aNil)) (gN 2) bYes (eCall sp__law_mul (aCons (eOp ixD (eVar 0) (eVar 2)) (aCons (eOp ixD (eVar 1) (eVar 2)) aNil)))) aNil)))
def sp__law_dot : DSp := fun ds P E => ds.length = 2 ∧ m__law_dot (init 3 ds) { nx := fun _ => P .non, rt := P, ex := E }

abbrev N__law_turn : List Str := ["one"]
abbrev p__law_turn : List Str := ["one"]
def m__law_turn : IS := (sRet (eTup (aCons (eOp subI (eC (.int 0)) (eOp ixD (eVar 0) (eC (.int 0)))) (aCons (eOp ixD (eVar 0) (eC (.int 1))) aNil))))
def sp__law_turn : DSp := fun ds P E => ds.length = 1 ∧ m__law_turn (init 1 ds) { nx := fun _ => P .non, rt := P, ex := E }

abbrev N__law_put_out : List Str := ["rows", "wide", "lines", "leads", "column", "spot", "ready", "first", "row", "k", "one", "c"]
abbrev p__law_put_out : List Str := ["rows", "wide"]
def m__law_put_out : IS := (sSeq (sMany [2, 3] (xCons (xN (nComp [8] (iOf (eVar 0)) (gN 8) bYes (eCB (f1 lstD) (aCons (eVar 8) aNil)))) (xCons (xN (eLst aNil)) xNil)))
  (sSeq (sFor (iRange1 (aCons (eVar 1) aNil)) (gN 4) (sSeq (sSet 5 (xE (eCB (f1 lenD) (aCons (oVar 3) aNil))))
  (sSeq (sSet 6 (xE (nComp [9] (iRange2 (aCons (eVar 5) (aCons (eCB (f1 lenD) (aCons (oVar 2) aNil)) aNil))) (gN 9) (bT (eOp neD (eOp ixD (eOp ixD (eOp ixD (oVar 2) (eVar 9)) (eVar 4)) (eC (.int 0))) (eC (.int 0)))) (eVar 9))))
  (sIf (bT (eOp neD (eVar 6) (eLst aNil))) (sSeq (sPopAt 7 2 (eOp ixD (eVar 6) (eC (.int 0))))
  (sSeq (sSet 7 (xE (nComp [10] (iOf (eVar 7)) (gN 10) bYes (eCall sp__law_over (aCons (eVar 10) (aCons (eOp ixD (eVar 7) (eVar 4)) aNil))))))
  (sSeq (sSet 2 (xN (nComp [8] (iOf (oVar 2)) (gN 8) bYes (nComp [11] (iRange1 (aCons (eCB (f1 lenD) (aCons (eVar 8) aNil)) aNil)) (gN 11) bYes (eCall sp__law_sub (aCons (eOp ixD (eVar 8) (eVar 11)) (aCons (eCall sp__law_mul (aCons (eOp ixD (eVar 8) (eVar 4)) (aCons (eOp ixD (eVar 7) (eVar 11)) aNil))) aNil)))))))
  (sSeq (sSet 2 (xN (eOp catL (eOp catL (eSl slL (oVar 2) pNo (pAt (eVar 5))) (eLst (aCons (eVar 7) aNil))) (eSl slL (oVar 2) (pAt (eVar 5)) pNo))))
  (sApp 3 (eVar 4)))))) sNext))))
  (sFrz 2 (sFrz 3 (sRet (eTup (aCons (eVar 2) (aCons (eVar 3) aNil))))))))
def sp__law_put_out : DSp := fun ds P E => ds.length = 2 ∧ m__law_put_out (init 12 ds) { nx := fun _ => P .non, rt := P, ex := E }

abbrev N__law_rank : List Str := ["rows", "wide"]
abbrev p__law_rank : List Str := ["rows", "wide"]
def m__law_rank : IS := (sRet (eCB (f1 lenD) (aCons (eOp ixD (eCall sp__law_put_out (aCons (eVar 0) (aCons (eVar 1) aNil))) (eC (.int 1))) aNil)))
def sp__law_rank : DSp := fun ds P E => ds.length = 2 ∧ m__law_rank (init 2 ds) { nx := fun _ => P .non, rt := P, ex := E }

abbrev N__law_ways : List Str := ["rows", "wide", "lines", "leads", "found", "column", "row", "k", "c"]
abbrev p__law_ways : List Str := ["rows", "wide"]
def m__law_ways : IS := (sSeq (sAsg (eCall sp__law_put_out (aCons (eVar 0) (aCons (eVar 1) aNil))) (tgT 2 (tgsCons (tgN 2) (tgsCons (tgN 3) tgsNil))))
  (sSeq (sSet 4 (xN (eLst aNil)))
  (sSeq (sFor (iOf (nComp [8] (iRange1 (aCons (eVar 1) aNil)) (gN 8) (bT (eOp niL (eVar 8) (eVar 3))) (eVar 8))) (gN 5) (sSeq (sSet 6 (xN (nComp [8] (iRange1 (aCons (eVar 1) aNil)) (gN 8) bYes (eIf (bT (eOp eqD (eVar 8) (eVar 5))) (eTup (aCons (eC (.int 1)) (aCons (eC (.int 1)) aNil))) (eTup (aCons (eC (.int 0)) (aCons (eC (.int 1)) aNil)))))))
  (sSeq (sFor (iRange1 (aCons (eCB (f1 lenD) (aCons (eVar 3) aNil)) aNil)) (gN 7) (sSetAt 6 (eOp ixD (eVar 3) (eVar 7)) (eCall sp__law_turn (aCons (eOp ixD (eOp ixD (eVar 2) (eVar 7)) (eVar 5)) aNil))))
  (sApp 4 (eCB (f1 tupD) (aCons (oVar 6) aNil))))))
  (sFrz 4 (sRet (eVar 4))))))
def sp__law_ways : DSp := fun ds P E => ds.length = 2 ∧ m__law_ways (init 9 ds) { nx := fun _ => P .non, rt := P, ex := E }

abbrev N__law_keeps : List Str := ["rows", "told", "row"]
abbrev p__law_keeps : List Str := ["rows", "told"]
def m__law_keeps : IS := (sRet (eOp eqD (eCB (f1 lenD) (aCons (nComp [2] (iOf (eVar 0)) (gN 2) (bT (eOp neD (eOp ixD (eCall sp__law_dot (aCons (eVar 2) (aCons (eVar 1) aNil))) (eC (.int 0))) (eC (.int 0)))) (eVar 2)) aNil)) (eC (.int 0))))
def sp__law_keeps : DSp := fun ds P E => ds.length = 2 ∧ m__law_keeps (init 3 ds) { nx := fun _ => P .non, rt := P, ex := E }

abbrev N__law_summed : List Str := ["rows", "shares", "wide", "c", "k"]
abbrev p__law_summed : List Str := ["rows", "shares", "wide"]
def m__law_summed : IS := (sRet (eCB (f1 tupD) (aCons (nComp [3] (iRange1 (aCons (eVar 2) aNil)) (gN 3) bYes (eCall sp__law_sum (aCons (nComp [4] (iRange1 (aCons (eCB (f1 lenD) (aCons (eVar 0) aNil)) aNil)) (gN 4) bYes (eCall sp__law_mul (aCons (eOp ixD (eVar 1) (eVar 4)) (aCons (eOp ixD (eOp ixD (eVar 0) (eVar 4)) (eVar 3)) aNil)))) aNil))) aNil)))
def sp__law_summed : DSp := fun ds P E => ds.length = 3 ∧ m__law_summed (init 5 ds) { nx := fun _ => P .non, rt := P, ex := E }

abbrev N__law_are_ways : List Str := ["rows", "told", "wide", "one"]
abbrev p__law_are_ways : List Str := ["rows", "told", "wide"]
def m__law_are_ways : IS := (sSeq (sIf (bOr (bT (eOp neD (eCB (f1 lenD) (aCons (eVar 1) aNil)) (eOp subI (eVar 2) (eCall sp__law_rank (aCons (eVar 0) (aCons (eVar 2) aNil)))))) (bT (eOp gtI (eCB (f1 lenD) (aCons (nComp [3] (iOf (eVar 1)) (gN 3) (bOr (bT (eOp neD (eCB (f1 lenD) (aCons (eVar 3) aNil)) (eVar 2))) (bNot (bT (eCall sp__law_keeps (aCons (eVar 0) (aCons (eVar 3) aNil)))))) (eVar 3)) aNil)) (eC (.int 0))))) (sRet (eC (.bl false))) sNext)
  (sRet (eOp eqD (eCall sp__law_rank (aCons (eCB (f1 lstD) (aCons (eVar 1) aNil)) (aCons (eVar 2) aNil))) (eCB (f1 lenD) (aCons (eVar 1) aNil)))))
def sp__law_are_ways : DSp := fun ds P E => ds.length = 3 ∧ m__law_are_ways (init 4 ds) { nx := fun _ => P .non, rt := P, ex := E }

abbrev N__law_drawn : List Str := ["state", "wide"]
abbrev p__law_drawn : List Str := ["state", "wide"]
def m__law_drawn : IS := (sRet (eCall sp__law_fr (aCons (eOp subI (eCall sp__law_take (aCons (eVar 0) (aCons (eOp addI (eOp mulI (eC (.int 2)) (eVar 1)) (eC (.int 1))) aNil))) (eVar 1)) (aCons (eOp addI (eC (.int 1)) (eCall sp__law_take (aCons (eVar 0) (aCons (eC (.int 3)) aNil)))) aNil))))
def sp__law_drawn : DSp := fun ds P E => ds.length = 2 ∧ m__law_drawn (init 2 ds) { nx := fun _ => P .non, rt := P, ex := E }

abbrev N__law_parts_hold : List Str := ["state", "one", "other", "a", "b", "great", "row", "low", "high", "many", "told", "k", "floor", "n"]
abbrev p__law_parts_hold : List Str := ["state"]
def m__law_parts_hold : IS := (sSeq (sPar 1 2 (xE (eCall sp__law_drawn (aCons (eVar 0) (aCons (eC (.int 9)) aNil)))) (xE (eCall sp__law_drawn (aCons (eVar 0) (aCons (eC (.int 9)) aNil)))))
  (sSeq (sMany [3, 4] (xCons (xE (eOp subI (eCall sp__law_take (aCons (eVar 0) (aCons (eC (.int 60)) aNil))) (eC (.int 30)))) (xCons (xE (eOp addI (eC (.int 1)) (eCall sp__law_take (aCons (eVar 0) (aCons (eC (.int 30)) aNil))))) xNil)))
  (sSeq (sIf (bOr (bT (eOp neD (eCall sp_part (aCons (eVar 3) (aCons (eOp subI (eC (.int 0)) (eVar 4)) aNil))) (eCall sp__law_fr (aCons (eVar 3) (aCons (eOp subI (eC (.int 0)) (eVar 4)) aNil))))) (bOr (bT (eOp neD (eCall sp_plus (aCons (eVar 1) (aCons (eVar 2) aNil))) (eCall sp__law_add (aCons (eVar 1) (aCons (eVar 2) aNil))))) (bOr (bT (eOp neD (eCall sp_minus (aCons (eVar 1) (aCons (eVar 2) aNil))) (eCall sp__law_sub (aCons (eVar 1) (aCons (eVar 2) aNil))))) (bT (eOp neD (eCall sp_times (aCons (eVar 1) (aCons (eVar 2) aNil))) (eCall sp__law_mul (aCons (eVar 1) (aCons (eVar 2) aNil)))))))) (sRet (eC (.bl false))) sNext)
  (sSeq (sIf (bAnd (bT (eOp neD (eOp ixD (eVar 2) (eC (.int 0))) (eC (.int 0)))) (bT (eOp neD (eCall sp_over (aCons (eVar 1) (aCons (eVar 2) aNil))) (eCall sp__law_over (aCons (eVar 1) (aCons (eVar 2) aNil)))))) (sRet (eC (.bl false))) sNext)
  (sSeq (sSet 5 (xE (eCall sp_divisor (aCons (eVar 3) (aCons (eVar 4) aNil)))))
  (sSeq (sIf (bOr (bT (eOp ltI (eVar 5) (eC (.int 1)))) (bT (eOp gtI (eCB (f1 lenD) (aCons (nComp [11] (iRange2 (aCons (eC (.int 1)) (aCons (eC (.int 31)) aNil))) (gN 11) (bT (eOp neD (eAnd (eOp eqD (eOp modI (eCB (f1 intD) (aCons (eCB (f1 absD) (aCons (eVar 3) aNil)) aNil)) (eVar 11)) (eC (.int 0))) (eOp eqD (eOp modI (eCB (f1 intD) (aCons (eVar 4) aNil)) (eVar 11)) (eC (.int 0)))) (eOp eqD (eOp modI (eCB (f1 intD) (aCons (eVar 5) aNil)) (eVar 11)) (eC (.int 0))))) (eVar 11)) aNil)) (eC (.int 0))))) (sRet (eC (.bl false))) sNext)
  (sSeq (sSet 6 (xE (nComp [11] (iRange1 (aCons (eCall sp__law_take (aCons (eVar 0) (aCons (eC (.int 5)) aNil))) aNil)) (gN 11) bYes (eCall sp__law_drawn (aCons (eVar 0) (aCons (eC (.int 5)) aNil))))))
  (sSeq (sMany [7, 8] (xCons (xE (eCall sp_least (aCons (eVar 6) aNil))) (xCons (xE (eCall sp_most (aCons (eVar 6) aNil))) xNil)))
  (sSeq (sIf (bOr (bT (eOp neD (eOp eqD (eVar 6) (eLst aNil)) (eOp isN (eVar 7) (eC .non)))) (bOr (bT (eOp neD (eOp eqD (eVar 6) (eLst aNil)) (eOp isN (eVar 8) (eC .non)))) (bOr (bT (eOp neD (eCall sp_total (aCons (eVar 6) aNil)) (eCall sp__law_sum (aCons (eVar 6) aNil)))) (bT (eOp neD (eCall sp_dot (aCons (eVar 6) (aCons (eVar 6) aNil))) (eCall sp__law_dot (aCons (eVar 6) (aCons (eVar 6) aNil)))))))) (sRet (eC (.bl false))) sNext)
  (sSeq (sIf (bAnd (bT (eOp neD (eVar 6) (eLst aNil))) (bOr (bT (eOp niL (eVar 7) (eVar 6))) (bOr (bT (eOp niL (eVar 8) (eVar 6))) (bT (eOp gtI (eCB (f1 lenD) (aCons (nComp [13] (iOf (eVar 6)) (gN 13) (bOr (bT (eCall sp__law_less (aCons (eVar 13) (aCons (eVar 7) aNil)))) (bT (eCall sp__law_less (aCons (eVar 8) (aCons (eVar 13) aNil))))) (eVar 13)) aNil)) (eC (.int 0))))))) (sRet (eC (.bl false))) sNext)
  (sSeq (sPar 9 10 (xE (eCall sp__law_take (aCons (eVar 0) (aCons (eC (.int 5)) aNil)))) (xE (eTup (aCons (eC (.int 1)) (aCons (eC (.int 1)) aNil)))))
  (sSeq (sFor (iRange1 (aCons (eVar 9) aNil)) (gN 11) (sSet 10 (xE (eCall sp__law_mul (aCons (eVar 10) (aCons (eVar 1) aNil))))))
  (sSeq (sSet 12 (xE (eCall sp_whole_below (aCons (eVar 1) aNil))))
  (sSeq (sIf (bOr (bT (eOp neD (eCall sp_power (aCons (eVar 1) (aCons (eVar 9) aNil))) (eVar 10))) (bOr (bT (eCall sp__law_less (aCons (eVar 1) (aCons (eTup (aCons (eVar 12) (aCons (eC (.int 1)) aNil))) aNil)))) (bOr (bNot (bT (eCall sp__law_less (aCons (eVar 1) (aCons (eTup (aCons (eOp addI (eVar 12) (eC (.int 1))) (aCons (eC (.int 1)) aNil))) aNil))))) (bT (eOp neD (eCall sp_negative (aCons (eVar 1) aNil)) (eCall sp__law_turn (aCons (eVar 1) aNil))))))) (sRet (eC (.bl false))) sNext)
  (sRet (eAnd (eOp eqD (eCall sp_is_less (aCons (eVar 1) (aCons (eVar 2) aNil))) (eCall sp__law_less (aCons (eVar 1) (aCons (eVar 2) aNil)))) (eOp eqD (eCall sp_text_of (aCons (eVar 1) aNil)) (eIf (bT (eOp eqD (eOp ixD (eVar 1) (eC (.int 1))) (eC (.int 1)))) (eCB (f1 strD) (aCons (eOp ixD (eVar 1) (eC (.int 0))) aNil)) (eOp catS (eOp catS (eCB (f1 strD) (aCons (eOp ixD (eVar 1) (eC (.int 0))) aNil)) (eC (.str (PySem.Str.ofString "/")))) (eCB (f1 strD) (aCons (eOp ixD (eVar 1) (eC (.int 1))) aNil)))))))))))))))))))))
def sp__law_parts_hold : DSp := fun ds P E => ds.length = 1 ∧ m__law_parts_hold (init 14 ds) { nx := fun _ => P .non, rt := P, ex := E }

abbrev N__law_tables_hold : List Str := ["state", "wide", "many", "rows", "lines", "leads", "due", "spots", "told", "goals", "shares", "full", "ends", "here", "goal", "made", "can", "others", "whole", "k", "row", "c", "line", "one"]
abbrev p__law_tables_hold : List Str := ["state"]
def m__law_tables_hold : IS := (sSeq (sMany [1, 2] (xCons (xE (eOp addI (eC (.int 1)) (eCall sp__law_take (aCons (eVar 0) (aCons (eC (.int 4)) aNil))))) (xCons (xE (eCall sp__law_take (aCons (eVar 0) (aCons (eC (.int 5)) aNil)))) xNil)))
  (sSeq (sSet 3 (xN (nComp [19] (iRange1 (aCons (eVar 2) aNil)) (gN 19) bYes (eCB (f1 tupD) (aCons (nComp [21] (iRange1 (aCons (eVar 1) aNil)) (gN 21) bYes (eCall sp__law_drawn (aCons (eVar 0) (aCons (eC (.int 3)) aNil)))) aNil)))))
  (sSeq (sIf (bAnd (bT (eOp gtI (eVar 2) (eC (.int 1)))) (bT (eOp eqD (eCall sp__law_take (aCons (eVar 0) (aCons (eC (.int 2)) aNil))) (eC (.int 0))))) (sSetAt 3 (eUn negI (eC (.int 1))) (eCB (f1 tupD) (aCons (nComp [21] (iRange1 (aCons (eVar 1) aNil)) (gN 21) bYes (eCall sp__law_mul (aCons (eOp ixD (eOp ixD (oVar 3) (eC (.int 0))) (eVar 21)) (aCons (eTup (aCons (eC (.int 2)) (aCons (eC (.int 1)) aNil))) aNil)))) aNil))) sNext)
  (sSeq (sFrz 3 (sAsg (eCall sp_reduced (aCons (eVar 3) (aCons (eVar 1) aNil))) (tgT 2 (tgsCons (tgN 4) (tgsCons (tgN 5) tgsNil)))))
  (sSeq (sFrz 3 (sAsg (eCall sp__law_put_out (aCons (eVar 3) (aCons (eVar 1) aNil))) (tgT 2 (tgsCons (tgN 6) (tgsCons (tgN 7) tgsNil)))))
  (sSeq (sFrz 3 (sIf (bOr (bT (eOp neD (eCB (f1 lstD) (aCons (eVar 5) aNil)) (eVar 7))) (bOr (bT (eOp neD (nComp [22] (iOf (eSl slL (eVar 4) pNo (pAt (eCB (f1 lenD) (aCons (eVar 5) aNil))))) (gN 22) bYes (eCB (f1 lstD) (aCons (eVar 22) aNil))) (eSl slL (eVar 6) pNo (pAt (eCB (f1 lenD) (aCons (eVar 7) aNil)))))) (bOr (bT (eOp neD (eCall sp_rank_of (aCons (eVar 3) (aCons (eVar 1) aNil))) (eCB (f1 lenD) (aCons (eVar 7) aNil)))) (bAnd (bT (eOp neD (oVar 3) (eLst aNil))) (bT (eOp neD (eCall sp_rank (aCons (eVar 3) aNil)) (eCB (f1 lenD) (aCons (eVar 7) aNil)))))))) (sRet (eC (.bl false))) sNext))
  (sSeq (sFrz 3 (sSet 8 (xE (eCall sp_ways (aCons (eVar 3) (aCons (eVar 1) aNil))))))
  (sSeq (sFrz 3 (sIf (bOr (bT (eOp neD (nComp [23] (iOf (eVar 8)) (gN 23) bYes (eCB (f1 tupD) (aCons (eVar 23) aNil))) (eCall sp__law_ways (aCons (eVar 3) (aCons (eVar 1) aNil))))) (bNot (bT (eCall sp__law_are_ways (aCons (eVar 3) (aCons (eVar 8) (aCons (eVar 1) aNil))))))) (sRet (eC (.bl false))) sNext))
  (sSeq (sSet 9 (xE (nComp [20] (iOf (oVar 3)) (gN 20) bYes (eCall sp__law_drawn (aCons (eVar 0) (aCons (eC (.int 3)) aNil))))))
  (sSeq (sIf (bAnd (bT (eOp gtI (eVar 2) (eC (.int 1)))) (bT (eOp eqD (eCall sp__law_take (aCons (eVar 0) (aCons (eC (.int 2)) aNil))) (eC (.int 0))))) (sSeq (sSet 10 (xE (eCB (f1 tupD) (aCons (nComp [21] (iRange1 (aCons (eVar 1) aNil)) (gN 21) bYes (eCall sp__law_drawn (aCons (eVar 0) (aCons (eC (.int 3)) aNil)))) aNil))))
  (sSet 9 (xE (nComp [20] (iOf (oVar 3)) (gN 20) bYes (eCall sp__law_dot (aCons (eVar 20) (aCons (eVar 10) aNil))))))) sNext)
  (sSeq (sAsg (eCall sp__law_put_out (aCons (nComp [19] (iRange1 (aCons (eVar 2) aNil)) (gN 19) bYes (eOp catL (eCB (f1 lstD) (aCons (eOp ixD (oVar 3) (eVar 19)) aNil)) (eLst (aCons (eOp ixD (eVar 9) (eVar 19)) aNil)))) (aCons (eOp addI (eVar 1) (eC (.int 1))) aNil))) (tgT 2 (tgsCons (tgN 11) (tgsCons (tgN 12) tgsNil))))
  (sSeq (sFrz 3 (sSet 13 (xE (eCall sp_point (aCons (eVar 3) (aCons (eVar 9) (aCons (eVar 1) aNil)))))))
  (sSeq (sIf (bOr (bT (eOp neD (eOp isN (eVar 13) (eC .non)) (eOp inL (eVar 1) (eVar 12)))) (bAnd (bT (eOp niN (eVar 13) (eC .non))) (bT (eOp neD (nComp [20] (iOf (oVar 3)) (gN 20) bYes (eCall sp__law_dot (aCons (eVar 20) (aCons (eVar 13) aNil)))) (eVar 9))))) (sRet (eC (.bl false))) sNext)
  (sSeq (sIf (bAnd (bT (eOp niN (eVar 13) (eC .non))) (bT (eOp gtI (eCB (f1 lenD) (aCons (nComp [21] (iRange1 (aCons (eVar 1) aNil)) (gN 21) (bAnd (bT (eOp niL (eVar 21) (eVar 7))) (bT (eOp neD (eOp ixD (eVar 13) (eVar 21)) (eTup (aCons (eC (.int 0)) (aCons (eC (.int 1)) aNil)))))) (eVar 21)) aNil)) (eC (.int 0))))) (sRet (eC (.bl false))) sNext)
  (sSeq (sSet 14 (xE (eCB (f1 tupD) (aCons (nComp [21] (iRange1 (aCons (eVar 1) aNil)) (gN 21) bYes (eCall sp__law_drawn (aCons (eVar 0) (aCons (eC (.int 3)) aNil)))) aNil))))
  (sSeq (sIf (bT (eOp eqD (eCall sp__law_take (aCons (eVar 0) (aCons (eC (.int 2)) aNil))) (eC (.int 0)))) (sFrz 3 (sSet 14 (xE (eCall sp__law_summed (aCons (eVar 3) (aCons (nComp [20] (iOf (oVar 3)) (gN 20) bYes (eCall sp__law_drawn (aCons (eVar 0) (aCons (eC (.int 2)) aNil)))) (aCons (eVar 1) aNil))))))) sNext)
  (sSeq (sFrz 3 (sPar 15 16 (xE (eCall sp_made_of (aCons (eVar 3) (aCons (eVar 14) aNil)))) (xE (eOp eqD (eCall sp__law_rank (aCons (eOp catL (oVar 3) (eLst (aCons (eVar 14) aNil))) (aCons (eVar 1) aNil))) (eCB (f1 lenD) (aCons (eVar 7) aNil))))))
  (sSeq (sFrz 3 (sIf (bOr (bT (eOp neD (eOp niN (eVar 15) (eC .non)) (eVar 16))) (bAnd (bT (eOp niN (eVar 15) (eC .non))) (bOr (bT (eOp neD (eCB (f1 lenD) (aCons (eVar 15) aNil)) (eVar 2))) (bT (eOp neD (eCall sp__law_summed (aCons (eVar 3) (aCons (eVar 15) (aCons (eVar 1) aNil)))) (eVar 14)))))) (sRet (eC (.bl false))) sNext))
  (sSeq (sSet 10 (xE (nComp [20] (iOf (oVar 3)) (gN 20) bYes (eCall sp__law_drawn (aCons (eVar 0) (aCons (eC (.int 2)) aNil))))))
  (sSeq (sSet 17 (xE (eIf (bT (eOp eqD (eCall sp__law_take (aCons (eVar 0) (aCons (eC (.int 2)) aNil))) (eC (.int 0)))) (nComp [19] (iRange1 (aCons (eCall sp__law_take (aCons (eVar 0) (aCons (eC (.int 3)) aNil))) aNil)) (gN 19) bYes (eCB (f1 tupD) (aCons (nComp [21] (iRange1 (aCons (eVar 1) aNil)) (gN 21) bYes (eCall sp__law_drawn (aCons (eVar 0) (aCons (eC (.int 3)) aNil)))) aNil))) (nComp [22] (iOf (eSl slL (eVar 6) pNo (pAt (eCB (f1 lenD) (aCons (eVar 7) aNil))))) (gN 22) bYes (eCB (f1 tupD) (aCons (eVar 22) aNil))))))
  (sSeq (sSet 18 (xE (eCall sp__law_rank (aCons (eOp catL (oVar 3) (eVar 17)) (aCons (eVar 1) aNil)))))
  (sSeq (sFrz 3 (sIf (bOr (bT (eOp neD (eCall sp_same_space (aCons (eVar 3) (aCons (eVar 17) (aCons (eVar 1) aNil)))) (eAnd (eOp eqD (eVar 18) (eCB (f1 lenD) (aCons (eVar 7) aNil))) (eOp eqD (eVar 18) (eCall sp__law_rank (aCons (eVar 17) (aCons (eVar 1) aNil))))))) (bT (eOp neD (eCall sp_summed (aCons (eVar 3) (aCons (eVar 10) (aCons (eVar 1) aNil)))) (eCall sp__law_summed (aCons (eVar 3) (aCons (eVar 10) (aCons (eVar 1) aNil))))))) (sRet (eC (.bl false))) sNext))
  (sRet (eOp eqD (eCall sp_is_nought (aCons (eVar 14) aNil)) (eOp eqD (eCB (f1 lenD) (aCons (nComp [23] (iOf (eVar 14)) (gN 23) (bT (eOp neD (eOp ixD (eVar 23) (eC (.int 0))) (eC (.int 0)))) (eVar 23)) aNil)) (eC (.int 0)))))))))))))))))))))))))))
def sp__law_tables_hold : DSp := fun ds P E => ds.length = 1 ∧ m__law_tables_hold (init 24 ds) { nx := fun _ => P .non, rt := P, ex := E }

abbrev N_law : List Str := ["script", "state", "turn", "value"]
abbrev p_law : List Str := ["script"]
abbrev i_law : Nat := 1
abbrev lv_law : Nat := 8
def m_law : IS := (sSeq (sFor (iRange1 (aCons (eC (.int 5)) aNil)) (gN 2) (sIf (bOr (bNot (bT (eCall sp__law_parts_hold (aCons (eVar 1) aNil)))) (bNot (bT (eCall sp__law_tables_hold (aCons (eVar 1) aNil))))) (sRet (eC (.bl false))) sNext))
  (sSeq (sIf (bT (eOp neD (nComp [3] (iOf (eTup (aCons (eTup (aCons (eC (.int 0)) (aCons (eC (.int 1)) aNil))) (aCons (eTup (aCons (eC (.int 0)) (aCons (eC (.int 2)) aNil))) (aCons (eTup (aCons (eC (.int 1)) (aCons (eUn negI (eC (.int 2))) aNil))) (aCons (eLst (aCons (eC (.int 1)) (aCons (eC (.int 2)) aNil))) (aCons (eTup (aCons (eUn negI (eC (.int 3))) (aCons (eC (.int 2)) aNil))) (aCons (eTup (aCons (eC (.bl true)) (aCons (eC (.int 1)) aNil))) aNil)))))))) (gN 3) bYes (eCall sp_is_part (aCons (eVar 3) aNil))) (eLst (aCons (eC (.bl true)) (aCons (eC (.bl false)) (aCons (eC (.bl false)) (aCons (eC (.bl false)) (aCons (eC (.bl true)) (aCons (eC (.bl false)) aNil))))))))) (sRet (eC (.bl false))) sNext)
  (sRet (eAnd (eOp isN (eCall sp_are_parts (aCons (eTup (aCons (eTup (aCons (eC (.int 1)) (aCons (eC (.int 2)) aNil))) aNil)) (aCons (eC (.int 1)) aNil))) (eC (.bl true))) (eAnd (eOp isN (eCall sp_are_parts (aCons (eLst (aCons (eTup (aCons (eC (.int 1)) (aCons (eC (.int 2)) aNil))) aNil)) (aCons (eC (.int 1)) aNil))) (eC (.bl false))) (eAnd (eOp isN (eCall sp_are_parts (aCons (eTup (aCons (eTup (aCons (eC (.int 1)) (aCons (eC (.int 2)) aNil))) aNil)) (aCons (eC (.int 2)) aNil))) (eC (.bl false))) (eOp eqD (eCall sp_rank (aCons (eLst aNil) aNil)) (eC (.int 0)))))))))

end KK

set_option maxRecDepth 100000
set_option maxHeartbeats 4000000
namespace KK
open PySem L2 DL
section
variable {P : Program} {w : World} {K : Fr} {mg : Str → Option Value} {base : Heap}
abbrev N__law_take : List Str := ["state", "bound", "cells", "spot", "cell", "mixed"]
abbrev p__law_take : List Str := ["state", "bound"]
theorem sc__law_take : FnScope N__law_take p__law_take (defScope s__law_take) := ⟨rfl, rfl, rfl, by decide +kernel, rfl, by decide +kernel, by decide +kernel⟩
theorem b__law_take (T : Txt K mg) : Binds K T.d__law_take.fd p__law_take [] := T.d__law_take.F.binds fun _ _ _ _ _ _ us hl => match us, hl with | [_, _], _ => rfl
theorem fmod_in {x b : Int} (h : 2 ≤ b) : 0 ≤ x.fmod b ∧ x.fmod b < b := by
  rw [Int.fmod_eq_emod_of_nonneg x (by omega)]
  exact ⟨Int.emod_nonneg x (by omega), Int.emod_lt_of_pos x (by omega)⟩
theorem ok__law_take (T : Txt K mg) : FnOk P w K mg base (L2.CX P w) 1 T.d__law_take.f T.d__law_take.fd p__law_take (liftS K (XR0 K mg) sp__law_take) := by
  have key : ∀ {ds : List Dt} {Pd : Dt → Prop} {E : Xc → Prop}, sp__law_take ds Pd E → ∃ b : Int, ds = [.st, .int b] ∧ b < 1073741824 ∧ ∀ r : Int, (b < 2 → r = 0) → (2 ≤ b → 0 ≤ r ∧ r < b) → Pd (.int r) := by
    intro ds Pd E h
    unfold sp__law_take at h
    split at h
    · exact ⟨_, rfl, h⟩
    · exact h.elim
  refine T.d__law_take.F.okX sc__law_take (fun vs H Q E h => ?_) (fun cdv A outer s H vs Q E hr h => ?_)
  · obtain ⟨dr, I, ds, Pd, EP, _, r, h, _⟩ := h
    obtain ⟨b, rfl, _⟩ := key h
    exact r.len
  · obtain ⟨dr, I, ds, Pd, EP, pre, r, h, _, hq⟩ := h
    obtain ⟨b, rfl, hb, hP⟩ := key h
    have nd := sc__law_take.nd
    cases r with
    | cons r1 r2 =>
    cases r1 with
    | @st q hdr =>
    cases r2 with
    | cons r2 r3 =>
    cases r2
    cases r3
    obtain ⟨i, cs, h1, h2, h3, h4, h5⟩ := pre.dro q hdr
    have hl : 0 < cs.length := List.length_pos_iff.mpr h3
    refine ⟨_, pss_cons (ps_if (pt_cmpR op_lt (pv 1) pe_int (nomark _)) (pss_one (ps_ret pe_int)) pss_nil)
      (pss_cons (ps_set (i := 2) nd rfl (Or.inl rfl) (pe_ix ix_list (pv 0) pe_int (fun _ _ => rfl)))
      (pss_cons (ps_set (i := 3) nd rfl (Or.inl rfl) (pe_op op_mod (pe_callTy call_int1 (by rfl) T.b_int (by decide +kernel) (pa_cons (pe_ix ix_list (pv 0) pe_int (fun _ _ => rfl)) pa_nil)) (pe_callB call_len_seq (by rfl) T.b_len PySem.boot_len (pa_cons (pv 2) pa_nil))))
      (pss_cons (ps_set (i := 4) nd rfl (Or.inl rfl) (pe_ix ix_list (pv 2) (pv 3) (fun _ _ => rfl)))
      (pss_cons (ps_if (pt_cmpR op_ge (pv 4) pe_int (nomark _))
        (pss_cons (ps_asg (pe_op op_fdivN (pv 4) (pv 1)) (pg_sub (pv 2) (pv 3) set_list)) (pss_one (ps_ret (pe_op op_modN (pe_callTy call_int1 (by rfl) T.b_int (by decide +kernel) (pa_cons (pv 4) pa_nil)) (pv 1))))) pss_nil)
      (pss_cons (ps_asg (pe_op op_add (pe_ix ix_list (pv 0) pe_int (fun _ _ => rfl)) pe_int) (pg_sub (pv 0) pe_int set_list))
      (pss_cons (ps_set (i := 5) nd rfl (Or.inl rfl) (pe_op op_mod (pe_callTy call_int1 (by rfl) T.b_int (by decide +kernel) (pa_cons (pe_op op_add (pe_op op_mul (pv 4) pe_int) (pe_op op_mul (pe_ix ix_list (pv 0) pe_int (fun _ _ => rfl)) pe_int)) pa_nil)) pe_int))
      (pss_cons (ps_set (i := 5) nd rfl (Or.inl rfl) (pe_op op_mod (pe_callTy call_int1 (by rfl) T.b_int (by decide +kernel) (pa_cons (pe_op op_add (pe_op op_mul (pv 5) pe_int) (pe_op op_mul (pe_ix ix_list (pv 0) pe_int (fun _ _ => rfl)) pe_int)) pa_nil)) pe_int))
      (pss_one (ps_ret (pe_op op_modN (pe_callTy call_int1 (by rfl) T.b_int (by decide +kernel) (pa_cons (pe_op op_fdiv (pv 5) pe_int) pa_nil)) (pv 1))))))))))), ?_⟩
    -- if bound < 2
    refine ⟨_, rfl, _, _, rfl, rfl, _, rfl, ite2 (fun e => ?_) (fun e => ?_)⟩
    · have e' : b < 2 := of_decide_eq_true e
      exact hq (.int 0) _ H (hP 0 (fun _ => rfl) (fun z => absurd z (by omega))) Kp.refl (.int _)
    · have hb2 : 2 ≤ b := by
        have : ¬ b < 2 := fun z => e (decide_eq_true z)
        omega
      have fin : ∀ (x : Int) (H' : Hp), Kp dr H H' → Q (.int (x.fmod b)) H' := fun x H' k => hq (.int _) _ H' (hP _ (fun z => absurd z (by omega)) fun _ => fmod_in hb2) k (.int _)
      -- cells = state[1]; spot = int(state[0]) % len(cells); cell = cells[spot]
      refine ⟨_, rfl, _, _, 1, _, rfl, rfl, SqL.of h1, atI_nat (j := 1) rfl, _, rfl, _, _, 0, _, rfl, rfl, SqL.of h1, atI_nat (j := 0) rfl, .inl ⟨_, rfl, _, rfl, _, _, rfl, .inl (SqL.of h2), _, _, rfl, rfl, (by rw [List.length_map]; omega), ?_⟩⟩
      rw [List.length_map]
      have s0 : 0 ≤ i % (cs.length : Int) := Int.emod_nonneg i (by omega)
      have s1 : i % (cs.length : Int) < cs.length := Int.emod_lt_of_pos i (by omega)
      obtain ⟨j, ej⟩ : ∃ j : Nat, i % (cs.length : Int) = j := ⟨(i % (cs.length : Int)).toNat, by omega⟩
      have ev : V.int (i % (cs.length : Int)) = V.int j := congrArg V.int ej
      have hj : j < cs.length := by omega
      refine ⟨_, rfl, _, rfl, _, _, (j : Int), .int cs[j], rfl, ev, SqL.of h2, atI_nat (j := j) (by rw [List.getElem?_map, List.getElem?_eq_getElem hj]; rfl), _, rfl, _, _, rfl, rfl, _, rfl, ite2 (fun e2 => ?_) (fun e2 => ?_)⟩
      · -- cells[spot] = cell // bound; return int(cell) % bound
        have hk : Kp dr H (upd H q.2 (.lst ((cs.map V.int).set j (.int (cs[j].fdiv b))))) := by
          refine ⟨fun a o z n => ?_, fun q' eq ⟨i', cs', a1, a2, a3, a4, a5⟩ => ?_⟩
          · rw [upd_ne (fun (y : a = q.2) => n ⟨q, hdr, .inr y⟩)]; exact z
          · rw [hdr] at eq
            cases eq
            refine ⟨i', cs.set j (cs[j].fdiv b), by rw [upd_ne a5]; exact a1, by rw [upd_same, List.map_set], fun z => ?_, by rw [List.length_set]; exact h4, a5⟩
            have z2 := congrArg List.length z
            rw [List.length_set, List.length_nil] at z2
            omega
        refine ⟨_, rfl, _, rfl, cs[j], b, rfl, rfl, ⟨by omega, by omega⟩, _, rfl, _, rfl, q.2, cs.map V.int, (j : Int), j, rfl, ev, h2, Evl.ixN_nat (by rw [List.length_map]; exact hj), ?_⟩
        exact ⟨_, rfl, .inl ⟨_, rfl, _, rfl, _, _, rfl, rfl, by omega, fin _ _ hk⟩⟩
      · -- state[0] = state[0] + 1
        have hk : Kp dr H (upd H q.1 (.lst ([V.int i, V.ref q.2].set 0 (.int (i + 1))))) := by
          refine ⟨fun a o z n => ?_, fun q' eq ⟨i', cs', a1, a2, a3, a4, a5⟩ => ?_⟩
          · rw [upd_ne (fun (y : a = q.1) => n ⟨q, hdr, .inl y⟩)]; exact z
          · rw [hdr] at eq
            cases eq
            exact ⟨i + 1, cs', upd_same, by rw [upd_ne a5.symm]; exact a2, a3, a4, a5⟩
        refine ⟨_, rfl, _, _, 0, _, rfl, rfl, SqL.of h1, atI_nat (j := 0) rfl, i, 1, rfl, rfl, _, rfl, q.1, _, 0, 0, rfl, rfl, h1, rfl, ?_⟩
        refine ⟨_, rfl, _, _, rfl, rfl, .inr ⟨by decide, by decide⟩, _, rfl, _, _, 0, _, rfl, rfl, SqL.of upd_same, atI_nat (j := 0) rfl, _, _, rfl, rfl, .inr ⟨by decide, by decide⟩, _, _, rfl, rfl, .inl ⟨_, rfl, _, _, rfl, rfl, (by show (0 : Int) < 2147483647; decide), ?_⟩⟩
        refine ⟨_, rfl, _, _, rfl, rfl, .inr ⟨by decide, by decide⟩, _, rfl, _, _, 0, _, rfl, rfl, SqL.of upd_same, atI_nat (j := 0) rfl, _, _, rfl, rfl, .inr ⟨by decide, by decide⟩, _, _, rfl, rfl, .inl ⟨_, rfl, _, _, rfl, rfl, (by show (0 : Int) < 1000000007; decide), ?_⟩⟩
        exact ⟨_, rfl, _, _, rfl, rfl, ⟨by decide, by decide⟩, .inl ⟨_, rfl, _, rfl, _, _, rfl, rfl, by omega, fin _ _ hk⟩⟩
abbrev N__law_state : List Str := ["script", "cells", "cell"]
abbrev p__law_state : List Str := ["script"]
theorem sc__law_state : FnScope N__law_state p__law_state (defScope s__law_state) := ⟨rfl, rfl, rfl, by decide +kernel, rfl, by decide +kernel, by decide +kernel⟩
theorem b__law_state (T : Txt K mg) : Binds K T.d__law_state.fd p__law_state [] := T.d__law_state.F.binds fun _ _ _ _ _ _ us hl => match us, hl with | [_], _ => rfl
theorem ok__law_state (T : Txt K mg) : FnOk P w K mg base (L2.CX P w) 1 T.d__law_state.f T.d__law_state.fd p__law_state (spState K) := by
  refine T.d__law_state.F.okX sc__law_state (fun vs H Q E h => ?_) (fun cdv A outer s H vs Q E hr h => ?_)
  · obtain ⟨a, ns, rfl, _⟩ := h
    rfl
  · obtain ⟨a, ns, rfl, hS, hn, hq⟩ := h
    have nd := sc__law_state.nd
    refine ⟨_, pss_cons (ps_setLc (i := 1) (own := [("cell", 2)]) (g := gName 2) rfl nd rfl rfl (sw_true rfl rfl rfl (by decide +kernel)) (pi_list (pe_slice sl_list (pv 0) po_none (po_some pe_int))) (blkOk_by (own := [("cell", 2)]) (N := N__law_state) (sc := defScope s__law_state) (by decide +kernel))
        (fun _ _ _ _ _ => pg_name (i := 2) nd rfl (Or.inl rfl)) (fun _ _ _ _ _ => pts_nil) (fun _ _ _ _ _ => pe_callB call_abs (by rfl) T.b_abs (by decide +kernel) (pa_cons (pv 2) pa_nil)))
      (pss_cons (ps_if (pt_cmpR op_eq (pe_callB call_len_seq (by rfl) T.b_len PySem.boot_len (pa_cons (pv 1) pa_nil)) pe_int (nomark _)) (pss_one (ps_set (i := 1) nd rfl (Or.inl rfl) (pe_lst (pa_cons pe_int pa_nil)))) pss_nil)
      (pss_one (ps_ret (pe_lst (pa_cons pe_int (pa_cons (pv 1) pa_nil)))))), ?_⟩
    refine ⟨_, rfl, 63, rfl, a, ns.map V.int, rfl, hS, fun p np => ?_⟩
    rw [cutV_ints]
    generalize hms : cut ns none (some 63) = ms
    have hml : ms.length ≤ 63 := by rw [← hms]; exact Nat.le_trans (cut_len ns none (some 63)) hn
    have s1 := same_new (o := .lst (ms.map V.int)) np
    refine ⟨p, rfl, ⟨_, SqL.of upd_same⟩, fun D nD => ?_⟩
    have pD : p ≠ D := ne_of_none upd_same nD
    have nD0 : H D = none := by
      rw [upd_ne pD.symm] at nD
      exact nD
    refine lc_list (K := K) (a := p) (xs := ms.map V.int) (fun i H2 => Same H H2 ∧ H2 p = some (.lst (ms.map V.int)) ∧ H2 D = some (.lst (((ms.take i).map fun i => if i < 0 then -i else i).map V.int)))
      ⟨fun b o e => by rw [upd_ne (ne_of_none e nD0)]; exact s1 b o e, by rw [upd_ne pD]; exact upd_same, by rw [upd_same]; rfl⟩ (fun i H2 _ h => SqL.of h.2.1) (fun i x H2 hx h => ?_) (fun H2 h => ?_)
    · obtain ⟨h1, h2, h3⟩ := h
      rw [List.getElem?_map] at hx
      have hil : i < ms.length := by
        cases e : ms[i]? with
        | none => rw [e] at hx; cases hx
        | some z => exact (List.getElem?_eq_some_iff.mp e).1
      rw [List.getElem?_eq_getElem hil] at hx
      obtain rfl : V.int ms[i] = x := Option.some.inj hx
      refine ⟨by rfl, _, rfl, _, rfl, _, h3, Nat.lt_of_le_of_lt (show _ ≤ 63 from by rw [List.length_map, List.length_map, List.length_take]; omega) (by decide), fun b o e => ?_, by rw [upd_ne pD]; exact h2, ?_⟩
      · rw [upd_ne (ne_of_none e nD0)]; exact h1 b o e
      · rw [upd_same, List.take_add_one, List.getElem?_eq_getElem hil, List.map_append, List.map_append]
        rfl
    · obtain ⟨h1, h2, h3⟩ := h
      rw [List.length_map, List.take_length] at h3
      refine ⟨_, rfl, D, _, rfl, .inl (SqL.of h3), rfl, _, rfl, ite2 (fun e => ?_) (fun e => ?_)⟩
      · refine ⟨by show 1 ≤ sizeLine; decide, fun c nc => ?_⟩
        refine ⟨_, rfl, by show 2 ≤ sizeLine; decide, fun l nl => ?_⟩
        have cl : c ≠ l := ne_of_none upd_same nl
        refine hq l c [0] _ (fun b o e => ?_) cl.symm upd_same (by rw [upd_ne cl, upd_same]; rfl) (by simp) (by simp)
        have e2 := h1 b o e
        rw [upd_ne (ne_of_none (show (upd H2 c _) b = some o from by rw [upd_ne (ne_of_none e2 nc)]; exact e2) nl), upd_ne (ne_of_none e2 nc)]
        exact e2
      · refine ⟨_, rfl, by show 2 ≤ sizeLine; decide, fun l nl => ?_⟩
        have cl : D ≠ l := ne_of_none h3 nl
        refine hq l D (ms.map fun i => if i < 0 then -i else i) _ (fun b o e => ?_) cl.symm upd_same (by rw [upd_ne cl]; exact h3) (fun z => e ?_) (by rw [List.length_map]; exact hml)
        · have e2 := h1 b o e
          rw [upd_ne (ne_of_none e2 nl)]
          exact e2
        · rw [List.map_eq_nil_iff] at z
          subst z
          rfl
theorem sc_divisor : FnScope N_divisor p_divisor (defScope s_divisor) := ⟨rfl, rfl, rfl, by decide +kernel, rfl, by decide +kernel, by decide +kernel⟩
theorem b_divisor (T : Txt K mg) : Binds K T.d_divisor.fd p_divisor [] := T.d_divisor.F.binds fun _ _ _ _ _ _ us hl => match us, hl with | [_, _], _ => rfl
theorem ok_divisor (T : Txt K mg) : FnOk P w K mg base (L2.CX P w) 1 T.d_divisor.f T.d_divisor.fd p_divisor (liftS K (XR0 K mg) sp_divisor) := by
  refine fn_ok (is := m_divisor) T.d_divisor.F sc_divisor (fun _ _ _ h => h.1) (fun cdv A outer s H E W hr hu tk po => ?_) fun _ _ _ h => h.2
  have nd := sc_divisor.nd
  exact (lss_cons (ls_par 0 1 rfl nd (by decide) (le_abs (by rfl) T.b_abs (le_var 0).O).x (le_abs (by rfl) T.b_abs (le_var 1).O).x)
      (lss_cons (ls_while po (lt_cmp (c_ne hu) (le_var 1).O (le_int).O) (lss_one (ls_par 0 1 rfl nd (by decide) (le_var 1).x (le_mod (le_var 0).O (le_var 1).O).x)))
      (lss_one (ls_ret (le_var 0)))))

theorem sc_part : FnScope N_part p_part (defScope s_part) := ⟨rfl, rfl, rfl, by decide +kernel, rfl, by decide +kernel, by decide +kernel⟩
theorem b_part (T : Txt K mg) : Binds K T.d_part.fd p_part [] := T.d_part.F.binds fun _ _ _ _ _ _ us hl => match us, hl with | [_, _], _ => rfl
theorem ok_part (T : Txt K mg) : FnOk P w K mg base (L2.CX P w) 2 T.d_part.f T.d_part.fd p_part (liftS K (XR0 K mg) sp_part) := by
  refine fn_ok (is := m_part) T.d_part.F sc_part (fun _ _ _ h => h.1) (fun cdv A outer s H E W hr hu tk po => ?_) fun _ _ _ h => h.2
  have nd := sc_part.nd
  exact (lss_cons (ls_if (lt_cmp c_lt (le_var 1).O (le_int).O) (lss_one (ls_par 0 1 rfl nd (by decide) (le_sub (le_int).O (le_var 0).O).x (le_sub (le_int).O (le_var 1).O).x)) lss_nil)
      (lss_cons (ls_set 2 nd (le_call (ok_divisor T) tk (hr.mono (by decide)) (by rfl) T.d_divisor.g T.d_divisor.F.kp (b_divisor T) (la_cons (le_var 0) (la_cons (le_var 1) la_nil))).x)
      (lss_one (ls_ret (le_tup (la_cons (le_div (le_var 0).O (le_var 2).O) (la_cons (le_div (le_var 1).O (le_var 2).O) la_nil)))))))

theorem sc_is_part : FnScope N_is_part p_is_part (defScope s_is_part) := ⟨rfl, rfl, rfl, by decide +kernel, rfl, by decide +kernel, by decide +kernel⟩
theorem b_is_part (T : Txt K mg) : Binds K T.d_is_part.fd p_is_part [] := T.d_is_part.F.binds fun _ _ _ _ _ _ us hl => match us, hl with | [_], _ => rfl
theorem ok_is_part (T : Txt K mg) : FnOk P w K mg base (L2.CX P w) 2 T.d_is_part.f T.d_is_part.fd p_is_part (liftS K (XR0 K mg) sp_is_part) := by
  refine fn_ok (is := m_is_part) T.d_is_part.F sc_is_part (fun _ _ _ h => h.1) (fun cdv A outer s H E W hr hu tk po => ?_) fun _ _ _ h => h.2
  have nd := sc_is_part.nd
  exact (lss_cons (ls_if (lw_or (lt_not (lt_val (le_isi (T := "tuple") (by rfl) T.b_isinstance (by rfl) T.b_tuple (by decide +kernel) (le_var 0).O))) (lw_or1 (lt_cmp (c_ne hu) (le_len (by rfl) T.b_len (le_var 0).O).O (le_int).O))).t (lss_one (ls_ret le_bl)) lss_nil)
      (lss_cons (ls_if (lt_not (lt_val (le_all rfl (by rfl) T.b_all ((ln_comp (ts := [1]) (own := [("number", 1)]) rfl nd (lio_of (le_var 0).O) (blkOk_by (own := [("number", 1)]) (by show blkC N_is_part (defScope s_is_part) _ _ = true; decide +kernel)) rfl (fun _ _ _ _ _ => (lg_name 1 nd)) (fun _ _ _ _ _ => lts_nil) (fun _ _ _ _ _ => (le_and (le_isi (T := "int") (by rfl) T.b_isinstance (by rfl) T.b_int (by decide +kernel) (le_var 1).O) (le_one (le_not (le_isi (T := "bool") (by rfl) T.b_isinstance (by rfl) T.b_bool (by decide +kernel) (le_var 1).O))))))).E.O))) (lss_one (ls_ret le_bl)) lss_nil)
      (lss_one (ls_ret (le_and (le_cmp c_ge (le_ix (le_var 0).O (le_int).O).O (le_int).O) (le_one (le_cmp (c_eq hu) (le_call (ok_divisor T) tk (hr.mono (by decide)) (by rfl) T.d_divisor.g T.d_divisor.F.kp (b_divisor T) (la_cons (le_ix (le_var 0).O (le_int).O) (la_cons (le_ix (le_var 0).O (le_int).O) la_nil))).O (le_int).O)))))))

theorem sc_are_parts : FnScope N_are_parts p_are_parts (defScope s_are_parts) := ⟨rfl, rfl, rfl, by decide +kernel, rfl, by decide +kernel, by decide +kernel⟩
theorem b_are_parts (T : Txt K mg) : Binds K T.d_are_parts.fd p_are_parts [] := T.d_are_parts.F.binds fun _ _ _ _ _ _ us hl => match us, hl with | [_, _], _ => rfl
theorem ok_are_parts (T : Txt K mg) : FnOk P w K mg base (L2.CX P w) 3 T.d_are_parts.f T.d_are_parts.fd p_are_parts (liftS K (XR0 K mg) sp_are_parts) := by
  refine fn_ok (is := m_are_parts) T.d_are_parts.F sc_are_parts (fun _ _ _ h => h.1) (fun cdv A outer s H E W hr hu tk po => ?_) fun _ _ _ h => h.2
  have nd := sc_are_parts.nd
  exact (lss_one (ls_ret (le_and (le_isi (T := "tuple") (by rfl) T.b_isinstance (by rfl) T.b_tuple (by decide +kernel) (le_var 0).O) (le_and (le_cmp (c_eq hu) (le_len (by rfl) T.b_len (le_var 0).O).O (le_var 1).O) (le_one (le_all rfl (by rfl) T.b_all ((ln_comp (ts := [2]) (own := [("one", 2)]) rfl nd (lio_of (le_var 0).O) (blkOk_by (own := [("one", 2)]) (by show blkC N_are_parts (defScope s_are_parts) _ _ = true; decide +kernel)) rfl (fun _ _ _ _ _ => (lg_name 2 nd)) (fun _ _ _ _ _ => lts_nil) (fun _ _ _ _ _ => (le_call (ok_is_part T) takes0 (hr.mono (by decide)) (by rfl) T.d_is_part.g T.d_is_part.F.kp (b_is_part T) (la_cons (le_var 2) la_nil))))).E.O))))))

theorem sc_plus : FnScope N_plus p_plus (defScope s_plus) := ⟨rfl, rfl, rfl, by decide +kernel, rfl, by decide +kernel, by decide +kernel⟩
theorem b_plus (T : Txt K mg) : Binds K T.d_plus.fd p_plus [] := T.d_plus.F.binds fun _ _ _ _ _ _ us hl => match us, hl with | [_, _], _ => rfl
theorem ok_plus (T : Txt K mg) : FnOk P w K mg base (L2.CX P w) 3 T.d_plus.f T.d_plus.fd p_plus (liftS K (XR0 K mg) sp_plus) := by
  refine fn_ok (is := m_plus) T.d_plus.F sc_plus (fun _ _ _ h => h.1) (fun cdv A outer s H E W hr hu tk po => ?_) fun _ _ _ h => h.2
  have nd := sc_plus.nd
  exact (lss_one (ls_ret (le_call (ok_part T) tk (hr.mono (by decide)) (by rfl) T.d_part.g T.d_part.F.kp (b_part T) (la_cons (le_add (le_mul (le_ix (le_var 0).O (le_int).O).O (le_ix (le_var 1).O (le_int).O).O).O (le_mul (le_ix (le_var 1).O (le_int).O).O (le_ix (le_var 0).O (le_int).O).O).O) (la_cons (le_mul (le_ix (le_var 0).O (le_int).O).O (le_ix (le_var 1).O (le_int).O).O) la_nil)))))

theorem sc_minus : FnScope N_minus p_minus (defScope s_minus) := ⟨rfl, rfl, rfl, by decide +kernel, rfl, by decide +kernel, by decide +kernel⟩
theorem b_minus (T : Txt K mg) : Binds K T.d_minus.fd p_minus [] := T.d_minus.F.binds fun _ _ _ _ _ _ us hl => match us, hl with | [_, _], _ => rfl
theorem ok_minus (T : Txt K mg) : FnOk P w K mg base (L2.CX P w) 3 T.d_minus.f T.d_minus.fd p_minus (liftS K (XR0 K mg) sp_minus) := by
  refine fn_ok (is := m_minus) T.d_minus.F sc_minus (fun _ _ _ h => h.1) (fun cdv A outer s H E W hr hu tk po => ?_) fun _ _ _ h => h.2
  have nd := sc_minus.nd
  exact (lss_one (ls_ret (le_call (ok_part T) tk (hr.mono (by decide)) (by rfl) T.d_part.g T.d_part.F.kp (b_part T) (la_cons (le_sub (le_mul (le_ix (le_var 0).O (le_int).O).O (le_ix (le_var 1).O (le_int).O).O).O (le_mul (le_ix (le_var 1).O (le_int).O).O (le_ix (le_var 0).O (le_int).O).O).O) (la_cons (le_mul (le_ix (le_var 0).O (le_int).O).O (le_ix (le_var 1).O (le_int).O).O) la_nil)))))

theorem sc_times : FnScope N_times p_times (defScope s_times) := ⟨rfl, rfl, rfl, by decide +kernel, rfl, by decide +kernel, by decide +kernel⟩
theorem b_times (T : Txt K mg) : Binds K T.d_times.fd p_times [] := T.d_times.F.binds fun _ _ _ _ _ _ us hl => match us, hl with | [_, _], _ => rfl
theorem ok_times (T : Txt K mg) : FnOk P w K mg base (L2.CX P w) 3 T.d_times.f T.d_times.fd p_times (liftS K (XR0 K mg) sp_times) := by
  refine fn_ok (is := m_times) T.d_times.F sc_times (fun _ _ _ h => h.1) (fun cdv A outer s H E W hr hu tk po => ?_) fun _ _ _ h => h.2
  have nd := sc_times.nd
  exact (lss_one (ls_ret (le_call (ok_part T) tk (hr.mono (by decide)) (by rfl) T.d_part.g T.d_part.F.kp (b_part T) (la_cons (le_mul (le_ix (le_var 0).O (le_int).O).O (le_ix (le_var 1).O (le_int).O).O) (la_cons (le_mul (le_ix (le_var 0).O (le_int).O).O (le_ix (le_var 1).O (le_int).O).O) la_nil)))))

theorem sc_over : FnScope N_over p_over (defScope s_over) := ⟨rfl, rfl, rfl, by decide +kernel, rfl, by decide +kernel, by decide +kernel⟩
theorem b_over (T : Txt K mg) : Binds K T.d_over.fd p_over [] := T.d_over.F.binds fun _ _ _ _ _ _ us hl => match us, hl with | [_, _], _ => rfl
theorem ok_over (T : Txt K mg) : FnOk P w K mg base (L2.CX P w) 3 T.d_over.f T.d_over.fd p_over (liftS K (XR0 K mg) sp_over) := by
  refine fn_ok (is := m_over) T.d_over.F sc_over (fun _ _ _ h => h.1) (fun cdv A outer s H E W hr hu tk po => ?_) fun _ _ _ h => h.2
  have nd := sc_over.nd
  exact (lss_one (ls_ret (le_call (ok_part T) tk (hr.mono (by decide)) (by rfl) T.d_part.g T.d_part.F.kp (b_part T) (la_cons (le_mul (le_ix (le_var 0).O (le_int).O).O (le_ix (le_var 1).O (le_int).O).O) (la_cons (le_mul (le_ix (le_var 0).O (le_int).O).O (le_ix (le_var 1).O (le_int).O).O) la_nil)))))

theorem sc_negative : FnScope N_negative p_negative (defScope s_negative) := ⟨rfl, rfl, rfl, by decide +kernel, rfl, by decide +kernel, by decide +kernel⟩
theorem b_negative (T : Txt K mg) : Binds K T.d_negative.fd p_negative [] := T.d_negative.F.binds fun _ _ _ _ _ _ us hl => match us, hl with | [_], _ => rfl
theorem ok_negative (T : Txt K mg) : FnOk P w K mg base (L2.CX P w) 1 T.d_negative.f T.d_negative.fd p_negative (liftS K (XR0 K mg) sp_negative) := by
  refine fn_ok (is := m_negative) T.d_negative.F sc_negative (fun _ _ _ h => h.1) (fun cdv A outer s H E W hr hu tk po => ?_) fun _ _ _ h => h.2
  have nd := sc_negative.nd
  exact (lss_one (ls_ret (le_tup (la_cons (le_sub (le_int).O (le_ix (le_var 0).O (le_int).O).O) (la_cons (le_ix (le_var 0).O (le_int).O) la_nil)))))

theorem sc_is_less : FnScope N_is_less p_is_less (defScope s_is_less) := ⟨rfl, rfl, rfl, by decide +kernel, rfl, by decide +kernel, by decide +kernel⟩
theorem b_is_less (T : Txt K mg) : Binds K T.d_is_less.fd p_is_less [] := T.d_is_less.F.binds fun _ _ _ _ _ _ us hl => match us, hl with | [_, _], _ => rfl
theorem ok_is_less (T : Txt K mg) : FnOk P w K mg base (L2.CX P w) 1 T.d_is_less.f T.d_is_less.fd p_is_less (liftS K (XR0 K mg) sp_is_less) := by
  refine fn_ok (is := m_is_less) T.d_is_less.F sc_is_less (fun _ _ _ h => h.1) (fun cdv A outer s H E W hr hu tk po => ?_) fun _ _ _ h => h.2
  have nd := sc_is_less.nd
  exact (lss_one (ls_ret (le_cmp c_lt (le_mul (le_ix (le_var 0).O (le_int).O).O (le_ix (le_var 1).O (le_int).O).O).O (le_mul (le_ix (le_var 1).O (le_int).O).O (le_ix (le_var 0).O (le_int).O).O).O)))

theorem sc_least : FnScope N_least p_least (defScope s_least) := ⟨rfl, rfl, rfl, by decide +kernel, rfl, by decide +kernel, by decide +kernel⟩
theorem b_least (T : Txt K mg) : Binds K T.d_least.fd p_least [] := T.d_least.F.binds fun _ _ _ _ _ _ us hl => match us, hl with | [_], _ => rfl
theorem ok_least (T : Txt K mg) : FnOk P w K mg base (L2.CX P w) 2 T.d_least.f T.d_least.fd p_least (liftS K (XR0 K mg) sp_least) := by
  refine fn_ok (is := m_least) T.d_least.F sc_least (fun _ _ _ h => h.1) (fun cdv A outer s H E W hr hu tk po => ?_) fun _ _ _ h => h.2
  have nd := sc_least.nd
  exact (lss_cons (ls_set 1 nd (le_non).x)
      (lss_cons (ls_for po rfl (li_of (le_var 0)) (lg_name 2 nd) (lss_one (ls_set 1 nd (le_if (lw_or (lt_cmp c_is (le_var 1).O (le_non).O) (lw_or1 (lt_val (le_call (ok_is_less T) tk (hr.mono (by decide)) (by rfl) T.d_is_less.g T.d_is_less.F.kp (b_is_less T) (la_cons (le_var 2) (la_cons (le_var 1) la_nil)))))).t (le_var 2) (le_var 1)).x)))
      (lss_one (ls_ret (le_var 1)))))

theorem sc_most : FnScope N_most p_most (defScope s_most) := ⟨rfl, rfl, rfl, by decide +kernel, rfl, by decide +kernel, by decide +kernel⟩
theorem b_most (T : Txt K mg) : Binds K T.d_most.fd p_most [] := T.d_most.F.binds fun _ _ _ _ _ _ us hl => match us, hl with | [_], _ => rfl
theorem ok_most (T : Txt K mg) : FnOk P w K mg base (L2.CX P w) 2 T.d_most.f T.d_most.fd p_most (liftS K (XR0 K mg) sp_most) := by
  refine fn_ok (is := m_most) T.d_most.F sc_most (fun _ _ _ h => h.1) (fun cdv A outer s H E W hr hu tk po => ?_) fun _ _ _ h => h.2
  have nd := sc_most.nd
  exact (lss_cons (ls_set 1 nd (le_non).x)
      (lss_cons (ls_for po rfl (li_of (le_var 0)) (lg_name 2 nd) (lss_one (ls_set 1 nd (le_if (lw_or (lt_cmp c_is (le_var 1).O (le_non).O) (lw_or1 (lt_val (le_call (ok_is_less T) tk (hr.mono (by decide)) (by rfl) T.d_is_less.g T.d_is_less.F.kp (b_is_less T) (la_cons (le_var 1) (la_cons (le_var 2) la_nil)))))).t (le_var 2) (le_var 1)).x)))
      (lss_one (ls_ret (le_var 1)))))

theorem sc_total : FnScope N_total p_total (defScope s_total) := ⟨rfl, rfl, rfl, by decide +kernel, rfl, by decide +kernel, by decide +kernel⟩
theorem b_total (T : Txt K mg) : Binds K T.d_total.fd p_total [] := T.d_total.F.binds fun _ _ _ _ _ _ us hl => match us, hl with | [_], _ => rfl
theorem ok_total (T : Txt K mg) : FnOk P w K mg base (L2.CX P w) 4 T.d_total.f T.d_total.fd p_total (liftS K (XR0 K mg) sp_total) := by
  refine fn_ok (is := m_total) T.d_total.F sc_total (fun _ _ _ h => h.1) (fun cdv A outer s H E W hr hu tk po => ?_) fun _ _ _ h => h.2
  have nd := sc_total.nd
  exact (lss_cons (ls_set 1 nd (le_tup (la_cons le_int (la_cons le_int la_nil))).x)
      (lss_cons (ls_for po rfl (li_of (le_var 0)) (lg_name 2 nd) (lss_one (ls_set 1 nd (le_call (ok_plus T) tk (hr.mono (by decide)) (by rfl) T.d_plus.g T.d_plus.F.kp (b_plus T) (la_cons (le_var 1) (la_cons (le_var 2) la_nil))).x)))
      (lss_one (ls_ret (le_var 1)))))

theorem sc_dot : FnScope N_dot p_dot (defScope s_dot) := ⟨rfl, rfl, rfl, by decide +kernel, rfl, by decide +kernel, by decide +kernel⟩
theorem b_dot (T : Txt K mg) : Binds K T.d_dot.fd p_dot [] := T.d_dot.F.binds fun _ _ _ _ _ _ us hl => match us, hl with | [_, _], _ => rfl
theorem ok_dot (T : Txt K mg) : FnOk P w K mg base (L2.CX P w) 5 T.d_dot.f T.d_dot.fd p_dot (liftS K (XR0 K mg) sp_dot) := by
  refine fn_ok (is := m_dot) T.d_dot.F sc_dot (fun _ _ _ h => h.1) (fun cdv A outer s H E W hr hu tk po => ?_) fun _ _ _ h => h.2
  have nd := sc_dot.nd
  exact (lss_one (ls_ret (le_call (ok_total T) tk (hr.mono (by decide)) (by rfl) T.d_total.g T.d_total.F.kp (b_total T) (la_cons ((ln_comp (ts := [2]) (own := [("k", 2)]) rfl nd (li_r1 (by rfl) T.b_range (la_cons (le_len (by rfl) T.b_len (le_var 0).O) la_nil)).O (blkOk_by (own := [("k", 2)]) (by show blkC N_dot (defScope s_dot) _ _ = true; decide +kernel)) rfl (fun _ _ _ _ _ => (lg_name 2 nd)) (fun _ _ _ _ _ => lts_nil) (fun _ _ _ _ _ => (le_call (ok_times T) takes0 (hr.mono (by decide)) (by rfl) T.d_times.g T.d_times.F.kp (b_times T) (la_cons (le_ix (le_var 0).O (le_var 2).O) (la_cons (le_ix (le_var 1).O (le_var 2).O) la_nil)))))).E la_nil))))

theorem sc_text_of : FnScope N_text_of p_text_of (defScope s_text_of) := ⟨rfl, rfl, rfl, by decide +kernel, rfl, by decide +kernel, by decide +kernel⟩
theorem b_text_of (T : Txt K mg) : Binds K T.d_text_of.fd p_text_of [] := T.d_text_of.F.binds fun _ _ _ _ _ _ us hl => match us, hl with | [_], _ => rfl
theorem ok_text_of (T : Txt K mg) : FnOk P w K mg base (L2.CX P w) 1 T.d_text_of.f T.d_text_of.fd p_text_of (liftS K (XR0 K mg) sp_text_of) := by
  refine fn_ok (is := m_text_of) T.d_text_of.F sc_text_of (fun _ _ _ h => h.1) (fun cdv A outer s H E W hr hu tk po => ?_) fun _ _ _ h => h.2
  have nd := sc_text_of.nd
  exact (lss_one (ls_ret (le_if (lt_cmp (c_eq hu) (le_ix (le_var 0).O (le_int).O).O (le_int).O) (le_strC (by rfl) T.b_str (le_ix (le_var 0).O (le_int).O).O) (le_catS (le_catS (le_strC (by rfl) T.b_str (le_ix (le_var 0).O (le_int).O).O).O (le_str).O).O (le_strC (by rfl) T.b_str (le_ix (le_var 0).O (le_int).O).O).O))))

theorem sc_whole_below : FnScope N_whole_below p_whole_below (defScope s_whole_below) := ⟨rfl, rfl, rfl, by decide +kernel, rfl, by decide +kernel, by decide +kernel⟩
theorem b_whole_below (T : Txt K mg) : Binds K T.d_whole_below.fd p_whole_below [] := T.d_whole_below.F.binds fun _ _ _ _ _ _ us hl => match us, hl with | [_], _ => rfl
theorem ok_whole_below (T : Txt K mg) : FnOk P w K mg base (L2.CX P w) 1 T.d_whole_below.f T.d_whole_below.fd p_whole_below (liftS K (XR0 K mg) sp_whole_below) := by
  refine fn_ok (is := m_whole_below) T.d_whole_below.F sc_whole_below (fun _ _ _ h => h.1) (fun cdv A outer s H E W hr hu tk po => ?_) fun _ _ _ h => h.2
  have nd := sc_whole_below.nd
  exact (lss_one (ls_ret (le_div (le_ix (le_var 0).O (le_int).O).O (le_ix (le_var 0).O (le_int).O).O)))

theorem sc_power : FnScope N_power p_power (defScope s_power) := ⟨rfl, rfl, rfl, by decide +kernel, rfl, by decide +kernel, by decide +kernel⟩
theorem b_power (T : Txt K mg) : Binds K T.d_power.fd p_power [] := T.d_power.F.binds fun _ _ _ _ _ _ us hl => match us, hl with | [_, _], _ => rfl
theorem ok_power (T : Txt K mg) : FnOk P w K mg base (L2.CX P w) 4 T.d_power.f T.d_power.fd p_power (liftS K (XR0 K mg) sp_power) := by
  refine fn_ok (is := m_power) T.d_power.F sc_power (fun _ _ _ h => h.1) (fun cdv A outer s H E W hr hu tk po => ?_) fun _ _ _ h => h.2
  have nd := sc_power.nd
  exact (lss_cons (ls_set 2 nd (le_tup (la_cons le_int (la_cons le_int la_nil))).x)
      (lss_cons (ls_for po rfl (li_r1 (by rfl) T.b_range (la_cons (le_var 1) la_nil)) (lg_name 3 nd) (lss_one (ls_set 2 nd (le_call (ok_times T) tk (hr.mono (by decide)) (by rfl) T.d_times.g T.d_times.F.kp (b_times T) (la_cons (le_var 2) (la_cons (le_var 0) la_nil))).x)))
      (lss_one (ls_ret (le_var 2)))))

theorem sc_reduced : FnScope N_reduced p_reduced (defScope s_reduced) := ⟨rfl, rfl, rfl, by decide +kernel, rfl, by decide +kernel, by decide +kernel⟩
theorem b_reduced (T : Txt K mg) : Binds K T.d_reduced.fd p_reduced [] := T.d_reduced.F.binds fun _ _ _ _ _ _ us hl => match us, hl with | [_, _], _ => rfl
theorem ok_reduced (T : Txt K mg) : FnOk P w K mg base (L2.CX P w) 4 T.d_reduced.f T.d_reduced.fd p_reduced (liftS K (XR0 K mg) sp_reduced) := by
  refine fn_ok (is := m_reduced) T.d_reduced.F sc_reduced (fun _ _ _ h => h.1) (fun cdv A outer s H E W hr hu tk po => ?_) fun _ _ _ h => h.2
  have nd := sc_reduced.nd
  exact (lss_cons (ls_many rfl (lxa_cons (ln_comp (ts := [9]) (own := [("row", 9)]) rfl nd (lio_of (le_var 0).O) (blkOk_by (own := [("row", 9)]) (by show blkC N_reduced (defScope s_reduced) _ _ = true; decide +kernel)) rfl (fun _ _ _ _ _ => (lg_name 9 nd)) (fun _ _ _ _ _ => lts_nil) (fun _ _ _ _ _ => ((ln_lstC (by rfl) T.b_list (le_var 9).O)).E)).x (lxa_cons (ln_lst la_nil).x lxa_nil)) (lnm_cons 2 nd (lnm_cons 3 nd lnm_nil)))
      (lss_cons (ls_for po rfl (li_r1 (by rfl) T.b_range (la_cons (le_var 1) la_nil)) (lg_name 4 nd) (lss_cons (ls_setLcE 5 (ts := [7]) (own := [("k", 7)]) rfl nd (li_r2 (by rfl) T.b_range (la_cons (le_len (by rfl) T.b_len (lo_var 3)) (la_cons (le_len (by rfl) T.b_len (lo_var 2)) la_nil))).O (blkOk_by (own := [("k", 7)]) (by show blkC N_reduced (defScope s_reduced) _ _ = true; decide +kernel)) rfl (fun _ _ _ _ _ => (lg_name 7 nd)) (fun _ _ _ _ _ => (lts_one (lt_cmp (c_ne hu) (le_ix (le_ix (le_ix (lo_var 2) (le_var 7).O).O (le_var 4).O).O (le_int).O).O (le_int).O))) (fun _ _ _ _ _ => (le_var 7)))
      (lss_one (ls_if (lt_cmp c_gt (le_len (by rfl) T.b_len (le_var 5).O).O (le_int).O) (lss_cons (ls_set 6 nd (le_len (by rfl) T.b_len (lo_var 3)).x)
      (lss_cons (ls_asg (le_tup (la_cons (le_ix (lo_var 2) (le_ix (le_var 5).O (le_int).O).O) (la_cons (le_ix (lo_var 2) (le_var 6).O) la_nil))) (ltg_tup (n := 2) rfl (ltgs_cons (ltg_sub 2 (le_var 6)) (ltgs_cons (ltg_sub 2 (le_ix (le_var 5).O (le_int).O)) ltgs_nil))))
      (lss_cons (ls_setAt 2 (le_var 6) ((ln_comp (ts := [10]) (own := [("one", 10)]) rfl nd (lio_of (le_ix (lo_var 2) (le_var 6).O).O) (blkOk_by (own := [("one", 10)]) (by show blkC N_reduced (defScope s_reduced) _ _ = true; decide +kernel)) rfl (fun _ _ _ _ _ => (lg_name 10 nd)) (fun _ _ _ _ _ => lts_nil) (fun _ _ _ _ _ => (le_call (ok_over T) takes0 (hr.mono (by decide)) (by rfl) T.d_over.g T.d_over.F.kp (b_over T) (la_cons (le_var 10) (la_cons (le_ix (le_ix (lo_var 2) (le_var 6).O).O (le_var 4).O) la_nil)))))).E)
      (lss_cons (ls_for po rfl (li_r1 (by rfl) T.b_range (la_cons (le_len (by rfl) T.b_len (lo_var 2)) la_nil)) (lg_name 7 nd) (lss_one (ls_if (lw_and (lt_cmp (c_ne hu) (le_var 7).O (le_var 6).O) (lw_and1 (lt_cmp (c_ne hu) (le_ix (le_ix (le_ix (lo_var 2) (le_var 7).O).O (le_var 4).O).O (le_int).O).O (le_int).O))).t (lss_cons (ls_set 8 nd (le_ix (le_ix (lo_var 2) (le_var 7).O).O (le_var 4).O).x)
      (lss_one (ls_setAt 2 (le_var 7) ((ln_comp (ts := [11]) (own := [("c", 11)]) rfl nd (li_r1 (by rfl) T.b_range (la_cons (le_len (by rfl) T.b_len (le_ix (lo_var 2) (le_var 7).O).O) la_nil)).O (blkOk_by (own := [("c", 11)]) (by show blkC N_reduced (defScope s_reduced) _ _ = true; decide +kernel)) rfl (fun _ _ _ _ _ => (lg_name 11 nd)) (fun _ _ _ _ _ => lts_nil) (fun _ _ _ _ _ => (le_call (ok_minus T) takes0 (hr.mono (by decide)) (by rfl) T.d_minus.g T.d_minus.F.kp (b_minus T) (la_cons (le_ix (le_ix (lo_var 2) (le_var 7).O).O (le_var 11).O) (la_cons (le_call (ok_times T) takes0 (hr.mono (by decide)) (by rfl) T.d_times.g T.d_times.F.kp (b_times T) (la_cons (le_var 8) (la_cons (le_ix (le_ix (lo_var 2) (le_var 6).O).O (le_var 11).O) la_nil))) la_nil)))))).E))) lss_nil)))
      (lss_one (ls_app 3 (le_var 4))))))) lss_nil))))
      (lss_one (ls_frz 2 (ls_frz 3 (ls_ret (le_tup (la_cons (le_var 2) (la_cons (le_var 3) la_nil)))))))))

theorem sc_rank : FnScope N_rank p_rank (defScope s_rank) := ⟨rfl, rfl, rfl, by decide +kernel, rfl, by decide +kernel, by decide +kernel⟩
theorem b_rank (T : Txt K mg) : Binds K T.d_rank.fd p_rank [] := T.d_rank.F.binds fun _ _ _ _ _ _ us hl => match us, hl with | [_], _ => rfl
theorem ok_rank (T : Txt K mg) : FnOk P w K mg base (L2.CX P w) 5 T.d_rank.f T.d_rank.fd p_rank (liftS K (XR0 K mg) sp_rank) := by
  refine fn_ok (is := m_rank) T.d_rank.F sc_rank (fun _ _ _ h => h.1) (fun cdv A outer s H E W hr hu tk po => ?_) fun _ _ _ h => h.2
  have nd := sc_rank.nd
  exact (lss_one (ls_ret (le_if (lt_cmp c_gt (le_len (by rfl) T.b_len (le_var 0).O).O (le_int).O) (le_len (by rfl) T.b_len (le_ix (le_call (ok_reduced T) tk (hr.mono (by decide)) (by rfl) T.d_reduced.g T.d_reduced.F.kp (b_reduced T) (la_cons (le_var 0) (la_cons (le_len (by rfl) T.b_len (le_ix (le_var 0).O (le_int).O).O) la_nil))).O (le_int).O).O) le_int)))

theorem sc_ways : FnScope N_ways p_ways (defScope s_ways) := ⟨rfl, rfl, rfl, by decide +kernel, rfl, by decide +kernel, by decide +kernel⟩
theorem b_ways (T : Txt K mg) : Binds K T.d_ways.fd p_ways [] := T.d_ways.F.binds fun _ _ _ _ _ _ us hl => match us, hl with | [_, _], _ => rfl
theorem ok_ways (T : Txt K mg) : FnOk P w K mg base (L2.CX P w) 5 T.d_ways.f T.d_ways.fd p_ways (liftS K (XR0 K mg) sp_ways) := by
  refine fn_ok (is := m_ways) T.d_ways.F sc_ways (fun _ _ _ h => h.1) (fun cdv A outer s H E W hr hu tk po => ?_) fun _ _ _ h => h.2
  have nd := sc_ways.nd
  exact (lss_cons (ls_asg (le_call (ok_reduced T) tk (hr.mono (by decide)) (by rfl) T.d_reduced.g T.d_reduced.F.kp (b_reduced T) (la_cons (le_var 0) (la_cons (le_var 1) la_nil))) (ltg_tup (n := 2) rfl (ltgs_cons (ltg_name 2 nd) (ltgs_cons (ltg_name 3 nd) ltgs_nil))))
      (lss_cons (ls_set 4 nd (ln_lst la_nil).x)
      (lss_cons (ls_for po rfl (li_r1 (by rfl) T.b_range (la_cons (le_var 1) la_nil)) (lg_name 5 nd) (lss_one (ls_if (lt_cmp (c_ni hu) (le_var 5).O (le_var 3).O) (lss_cons (ls_set 6 nd (ln_rep ((ln_lst (la_cons (le_glob (by rfl) T.c_NOUGHT.hm T.c_NOUGHT.r T.c_NOUGHT.h) la_nil))).E.O (le_var 1).O).x)
      (lss_cons (ls_setAt 6 (le_var 5) (le_glob (by rfl) T.c_ONE.hm T.c_ONE.r T.c_ONE.h))
      (lss_cons (ls_for po rfl (li_r1 (by rfl) T.b_range (la_cons (le_len (by rfl) T.b_len (le_var 3).O) la_nil)) (lg_name 7 nd) (lss_one (ls_setAt 6 (le_ix (le_var 3).O (le_var 7).O) (le_call (ok_negative T) tk (hr.mono (by decide)) (by rfl) T.d_negative.g T.d_negative.F.kp (b_negative T) (la_cons (le_ix (le_ix (le_var 2).O (le_var 7).O).O (le_var 5).O) la_nil)))))
      (lss_one (ls_app 4 (le_tupC (by rfl) T.b_tuple (lo_var 6))))))) lss_nil)))
      (lss_one (ls_frz 4 (ls_ret (le_var 4)))))))

theorem sc_point : FnScope N_point p_point (defScope s_point) := ⟨rfl, rfl, rfl, by decide +kernel, rfl, by decide +kernel, by decide +kernel⟩
theorem b_point (T : Txt K mg) : Binds K T.d_point.fd p_point [] := T.d_point.F.binds fun _ _ _ _ _ _ us hl => match us, hl with | [_, _, _], _ => rfl
theorem ok_point (T : Txt K mg) : FnOk P w K mg base (L2.CX P w) 5 T.d_point.f T.d_point.fd p_point (liftS K (XR0 K mg) sp_point) := by
  refine fn_ok (is := m_point) T.d_point.F sc_point (fun _ _ _ h => h.1) (fun cdv A outer s H E W hr hu tk po => ?_) fun _ _ _ h => h.2
  have nd := sc_point.nd
  exact (lss_cons (ls_asg (le_call (ok_reduced T) tk (hr.mono (by decide)) (by rfl) T.d_reduced.g T.d_reduced.F.kp (b_reduced T) (la_cons ((ln_comp (ts := [6]) (own := [("k", 6)]) rfl nd (li_r1 (by rfl) T.b_range (la_cons (le_len (by rfl) T.b_len (le_var 0).O) la_nil)).O (blkOk_by (own := [("k", 6)]) (by show blkC N_point (defScope s_point) _ _ = true; decide +kernel)) rfl (fun _ _ _ _ _ => (lg_name 6 nd)) (fun _ _ _ _ _ => lts_nil) (fun _ _ _ _ _ => ((ln_cat ((ln_lstC (by rfl) T.b_list (le_ix (le_var 0).O (le_var 6).O).O)).E.O ((ln_lst (la_cons (le_ix (le_var 1).O (le_var 6).O) la_nil))).E.O)).E))).E (la_cons (le_var 2) la_nil))) (ltg_tup (n := 2) rfl (ltgs_cons (ltg_name 3 nd) (ltgs_cons (ltg_name 4 nd) ltgs_nil))))
      (lss_cons (ls_if (lt_val (le_any rfl (by rfl) T.b_any ((ln_comp (ts := [7]) (own := [("line", 7)]) rfl nd (lio_of ((ln_slL (le_var 3).O (lp_at (le_len (by rfl) T.b_len (le_var 4).O)) lp_no)).E.O) (blkOk_by (own := [("line", 7)]) (by show blkC N_point (defScope s_point) _ _ = true; decide +kernel)) rfl (fun _ _ _ _ _ => (lg_name 7 nd)) (fun _ _ _ _ _ => lts_nil) (fun _ _ _ _ _ => (le_cmp (c_ne hu) (le_ix (le_ix (le_var 7).O (le_var 2).O).O (le_int).O).O (le_int).O)))).E.O)) (lss_one (ls_ret le_non)) lss_nil)
      (lss_cons (ls_set 5 nd (ln_rep ((ln_lst (la_cons (le_glob (by rfl) T.c_NOUGHT.hm T.c_NOUGHT.r T.c_NOUGHT.h) la_nil))).E.O (le_var 2).O).x)
      (lss_cons (ls_for po rfl (li_r1 (by rfl) T.b_range (la_cons (le_len (by rfl) T.b_len (le_var 4).O) la_nil)) (lg_name 6 nd) (lss_one (ls_setAt 5 (le_ix (le_var 4).O (le_var 6).O) (le_ix (le_ix (le_var 3).O (le_var 6).O).O (le_var 2).O))))
      (lss_one (ls_ret (le_tupC (by rfl) T.b_tuple (lo_var 5))))))))

theorem sc_made_of : FnScope N_made_of p_made_of (defScope s_made_of) := ⟨rfl, rfl, rfl, by decide +kernel, rfl, by decide +kernel, by decide +kernel⟩
theorem b_made_of (T : Txt K mg) : Binds K T.d_made_of.fd p_made_of [] := T.d_made_of.F.binds fun _ _ _ _ _ _ us hl => match us, hl with | [_, _], _ => rfl
theorem ok_made_of (T : Txt K mg) : FnOk P w K mg base (L2.CX P w) 6 T.d_made_of.f T.d_made_of.fd p_made_of (liftS K (XR0 K mg) sp_made_of) := by
  refine fn_ok (is := m_made_of) T.d_made_of.F sc_made_of (fun _ _ _ h => h.1) (fun cdv A outer s H E W hr hu tk po => ?_) fun _ _ _ h => h.2
  have nd := sc_made_of.nd
  exact (lss_cons (ls_setLcE 2 (ts := [3]) (own := [("c", 3)]) rfl nd (li_r1 (by rfl) T.b_range (la_cons (le_len (by rfl) T.b_len (le_var 1).O) la_nil)).O (blkOk_by (own := [("c", 3)]) (by show blkC N_made_of (defScope s_made_of) _ _ = true; decide +kernel)) rfl (fun _ _ _ _ _ => (lg_name 3 nd)) (fun _ _ _ _ _ => lts_nil) (fun _ _ _ _ _ => ((ln_comp (ts := [4]) (own := [("row", 4)]) rfl nd (lio_of (le_var 0).O) (blkOk_by (own := [("row", 4)]) (by show blkC N_made_of (relS _ (defScope s_made_of)) _ _ = true; decide +kernel)) rfl (fun _ _ _ _ _ => (lg_name 4 nd)) (fun _ _ _ _ _ => lts_nil) (fun _ _ _ _ _ => (le_ix (le_var 4).O (le_var 3).O)))).E))
      (lss_one (ls_ret (le_call (ok_point T) tk (hr.mono (by decide)) (by rfl) T.d_point.g T.d_point.F.kp (b_point T) (la_cons (le_var 2) (la_cons ((ln_lstC (by rfl) T.b_list (le_var 1).O)).E (la_cons (le_len (by rfl) T.b_len (le_var 0).O) la_nil)))))))

theorem sc_summed : FnScope N_summed p_summed (defScope s_summed) := ⟨rfl, rfl, rfl, by decide +kernel, rfl, by decide +kernel, by decide +kernel⟩
theorem b_summed (T : Txt K mg) : Binds K T.d_summed.fd p_summed [] := T.d_summed.F.binds fun _ _ _ _ _ _ us hl => match us, hl with | [_, _, _], _ => rfl
theorem ok_summed (T : Txt K mg) : FnOk P w K mg base (L2.CX P w) 6 T.d_summed.f T.d_summed.fd p_summed (liftS K (XR0 K mg) sp_summed) := by
  refine fn_ok (is := m_summed) T.d_summed.F sc_summed (fun _ _ _ h => h.1) (fun cdv A outer s H E W hr hu tk po => ?_) fun _ _ _ h => h.2
  have nd := sc_summed.nd
  exact (lss_one (ls_ret (le_tupC (by rfl) T.b_tuple ((ln_comp (ts := [3]) (own := [("c", 3)]) rfl nd (li_r1 (by rfl) T.b_range (la_cons (le_var 2) la_nil)).O (blkOk_by (own := [("c", 3)]) (by show blkC N_summed (defScope s_summed) _ _ = true; decide +kernel)) rfl (fun _ _ _ _ _ => (lg_name 3 nd)) (fun _ _ _ _ _ => lts_nil) (fun _ _ _ _ _ => (le_call (ok_dot T) takes0 (hr.mono (by decide)) (by rfl) T.d_dot.g T.d_dot.F.kp (b_dot T) (la_cons (le_var 1) (la_cons ((ln_comp (ts := [4]) (own := [("row", 4)]) rfl nd (lio_of (le_var 0).O) (blkOk_by (own := [("row", 4)]) (by show blkC N_summed (relS _ (defScope s_summed)) _ _ = true; decide +kernel)) rfl (fun _ _ _ _ _ => (lg_name 4 nd)) (fun _ _ _ _ _ => lts_nil) (fun _ _ _ _ _ => (le_ix (le_var 4).O (le_var 3).O)))).E la_nil)))))).E.O)))

theorem sc_is_nought : FnScope N_is_nought p_is_nought (defScope s_is_nought) := ⟨rfl, rfl, rfl, by decide +kernel, rfl, by decide +kernel, by decide +kernel⟩
theorem b_is_nought (T : Txt K mg) : Binds K T.d_is_nought.fd p_is_nought [] := T.d_is_nought.F.binds fun _ _ _ _ _ _ us hl => match us, hl with | [_], _ => rfl
theorem ok_is_nought (T : Txt K mg) : FnOk P w K mg base (L2.CX P w) 1 T.d_is_nought.f T.d_is_nought.fd p_is_nought (liftS K (XR0 K mg) sp_is_nought) := by
  refine fn_ok (is := m_is_nought) T.d_is_nought.F sc_is_nought (fun _ _ _ h => h.1) (fun cdv A outer s H E W hr hu tk po => ?_) fun _ _ _ h => h.2
  have nd := sc_is_nought.nd
  exact (lss_one (ls_ret (le_not (le_any rfl (by rfl) T.b_any ((ln_comp (ts := [1]) (own := [("one", 1)]) rfl nd (lio_of (le_var 0).O) (blkOk_by (own := [("one", 1)]) (by show blkC N_is_nought (defScope s_is_nought) _ _ = true; decide +kernel)) rfl (fun _ _ _ _ _ => (lg_name 1 nd)) (fun _ _ _ _ _ => lts_nil) (fun _ _ _ _ _ => (le_cmp (c_ne hu) (le_ix (le_var 1).O (le_int).O).O (le_int).O)))).E.O))))

theorem sc_rank_of : FnScope N_rank_of p_rank_of (defScope s_rank_of) := ⟨rfl, rfl, rfl, by decide +kernel, rfl, by decide +kernel, by decide +kernel⟩
theorem b_rank_of (T : Txt K mg) : Binds K T.d_rank_of.fd p_rank_of [] := T.d_rank_of.F.binds fun _ _ _ _ _ _ us hl => match us, hl with | [_, _], _ => rfl
theorem ok_rank_of (T : Txt K mg) : FnOk P w K mg base (L2.CX P w) 5 T.d_rank_of.f T.d_rank_of.fd p_rank_of (liftS K (XR0 K mg) sp_rank_of) := by
  refine fn_ok (is := m_rank_of) T.d_rank_of.F sc_rank_of (fun _ _ _ h => h.1) (fun cdv A outer s H E W hr hu tk po => ?_) fun _ _ _ h => h.2
  have nd := sc_rank_of.nd
  exact (lss_one (ls_ret (le_len (by rfl) T.b_len (le_ix (le_call (ok_reduced T) tk (hr.mono (by decide)) (by rfl) T.d_reduced.g T.d_reduced.F.kp (b_reduced T) (la_cons (le_var 0) (la_cons (le_var 1) la_nil))).O (le_int).O).O)))

theorem sc_same_space : FnScope N_same_space p_same_space (defScope s_same_space) := ⟨rfl, rfl, rfl, by decide +kernel, rfl, by decide +kernel, by decide +kernel⟩
theorem b_same_space (T : Txt K mg) : Binds K T.d_same_space.fd p_same_space [] := T.d_same_space.F.binds fun _ _ _ _ _ _ us hl => match us, hl with | [_, _, _], _ => rfl
theorem ok_same_space (T : Txt K mg) : FnOk P w K mg base (L2.CX P w) 6 T.d_same_space.f T.d_same_space.fd p_same_space (liftS K (XR0 K mg) sp_same_space) := by
  refine fn_ok (is := m_same_space) T.d_same_space.F sc_same_space (fun _ _ _ h => h.1) (fun cdv A outer s H E W hr hu tk po => ?_) fun _ _ _ h => h.2
  have nd := sc_same_space.nd
  exact (lss_cons (ls_set 3 nd (le_call (ok_rank_of T) tk (hr.mono (by decide)) (by rfl) T.d_rank_of.g T.d_rank_of.F.kp (b_rank_of T) (la_cons ((ln_cat ((ln_lstC (by rfl) T.b_list (le_var 0).O)).E.O ((ln_lstC (by rfl) T.b_list (le_var 1).O)).E.O)).E (la_cons (le_var 2) la_nil))).x)
      (lss_one (ls_ret (le_and (le_cmp (c_eq hu) (le_var 3).O (le_call (ok_rank_of T) tk (hr.mono (by decide)) (by rfl) T.d_rank_of.g T.d_rank_of.F.kp (b_rank_of T) (la_cons (le_var 0) (la_cons (le_var 2) la_nil))).O) (le_one (le_cmp (c_eq hu) (le_var 3).O (le_call (ok_rank_of T) tk (hr.mono (by decide)) (by rfl) T.d_rank_of.g T.d_rank_of.F.kp (b_rank_of T) (la_cons (le_var 1) (la_cons (le_var 2) la_nil))).O))))))

theorem sc__law_fr : FnScope N__law_fr p__law_fr (defScope s__law_fr) := ⟨rfl, rfl, rfl, by decide +kernel, rfl, by decide +kernel, by decide +kernel⟩
theorem b__law_fr (T : Txt K mg) : Binds K T.d__law_fr.fd p__law_fr [] := T.d__law_fr.F.binds fun _ _ _ _ _ _ us hl => match us, hl with | [_, _], _ => rfl
theorem ok__law_fr (T : Txt K mg) : FnOk P w K mg base (L2.CX P w) 1 T.d__law_fr.f T.d__law_fr.fd p__law_fr (liftS K (XR0 K mg) sp__law_fr) := by
  refine fn_ok (is := m__law_fr) T.d__law_fr.F sc__law_fr (fun _ _ _ h => h.1) (fun cdv A outer s H E W hr hu tk po => ?_) fun _ _ _ h => h.2
  have nd := sc__law_fr.nd
  exact (lss_cons (ls_if (lt_cmp c_lt (le_var 1).O (le_int).O) (lss_one (ls_par 0 1 rfl nd (by decide) (le_sub (le_int).O (le_var 0).O).x (le_sub (le_int).O (le_var 1).O).x)) lss_nil)
      (lss_cons (ls_par 2 3 rfl nd (by decide) (le_abs (by rfl) T.b_abs (le_var 0).O).x (le_var 1).x)
      (lss_cons (ls_for po rfl (li_r1 (by rfl) T.b_range (la_cons le_int la_nil)) (lg_name 4 nd) (lss_cons (ls_if (lt_cmp (c_eq hu) (le_var 3).O (le_int).O) (lss_one ls_break) lss_nil)
      (lss_one (ls_par 2 3 rfl nd (by decide) (le_var 3).x (le_mod (le_intC (by rfl) T.b_int (le_var 2).O).O (le_var 3).O).x))))
      (lss_one (ls_ret (le_tup (la_cons (le_div (le_var 0).O (le_var 2).O) (la_cons (le_div (le_var 1).O (le_var 2).O) la_nil))))))))

theorem sc__law_add : FnScope N__law_add p__law_add (defScope s__law_add) := ⟨rfl, rfl, rfl, by decide +kernel, rfl, by decide +kernel, by decide +kernel⟩
theorem b__law_add (T : Txt K mg) : Binds K T.d__law_add.fd p__law_add [] := T.d__law_add.F.binds fun _ _ _ _ _ _ us hl => match us, hl with | [_, _], _ => rfl
theorem ok__law_add (T : Txt K mg) : FnOk P w K mg base (L2.CX P w) 2 T.d__law_add.f T.d__law_add.fd p__law_add (liftS K (XR0 K mg) sp__law_add) := by
  refine fn_ok (is := m__law_add) T.d__law_add.F sc__law_add (fun _ _ _ h => h.1) (fun cdv A outer s H E W hr hu tk po => ?_) fun _ _ _ h => h.2
  have nd := sc__law_add.nd
  exact (lss_one (ls_ret (le_call (ok__law_fr T) tk (hr.mono (by decide)) (by rfl) T.d__law_fr.g T.d__law_fr.F.kp (b__law_fr T) (la_cons (le_add (le_mul (le_ix (le_var 0).O (le_int).O).O (le_ix (le_var 1).O (le_int).O).O).O (le_mul (le_ix (le_var 1).O (le_int).O).O (le_ix (le_var 0).O (le_int).O).O).O) (la_cons (le_mul (le_ix (le_var 0).O (le_int).O).O (le_ix (le_var 1).O (le_int).O).O) la_nil)))))

theorem sc__law_mul : FnScope N__law_mul p__law_mul (defScope s__law_mul) := ⟨rfl, rfl, rfl, by decide +kernel, rfl, by decide +kernel, by decide +kernel⟩
theorem b__law_mul (T : Txt K mg) : Binds K T.d__law_mul.fd p__law_mul [] := T.d__law_mul.F.binds fun _ _ _ _ _ _ us hl => match us, hl with | [_, _], _ => rfl
theorem ok__law_mul (T : Txt K mg) : FnOk P w K mg base (L2.CX P w) 2 T.d__law_mul.f T.d__law_mul.fd p__law_mul (liftS K (XR0 K mg) sp__law_mul) := by
  refine fn_ok (is := m__law_mul) T.d__law_mul.F sc__law_mul (fun _ _ _ h => h.1) (fun cdv A outer s H E W hr hu tk po => ?_) fun _ _ _ h => h.2
  have nd := sc__law_mul.nd
  exact (lss_one (ls_ret (le_call (ok__law_fr T) tk (hr.mono (by decide)) (by rfl) T.d__law_fr.g T.d__law_fr.F.kp (b__law_fr T) (la_cons (le_mul (le_ix (le_var 0).O (le_int).O).O (le_ix (le_var 1).O (le_int).O).O) (la_cons (le_mul (le_ix (le_var 0).O (le_int).O).O (le_ix (le_var 1).O (le_int).O).O) la_nil)))))

theorem sc__law_sub : FnScope N__law_sub p__law_sub (defScope s__law_sub) := ⟨rfl, rfl, rfl, by decide +kernel, rfl, by decide +kernel, by decide +kernel⟩
theorem b__law_sub (T : Txt K mg) : Binds K T.d__law_sub.fd p__law_sub [] := T.d__law_sub.F.binds fun _ _ _ _ _ _ us hl => match us, hl with | [_, _], _ => rfl
theorem ok__law_sub (T : Txt K mg) : FnOk P w K mg base (L2.CX P w) 3 T.d__law_sub.f T.d__law_sub.fd p__law_sub (liftS K (XR0 K mg) sp__law_sub) := by
  refine fn_ok (is := m__law_sub) T.d__law_sub.F sc__law_sub (fun _ _ _ h => h.1) (fun cdv A outer s H E W hr hu tk po => ?_) fun _ _ _ h => h.2
  have nd := sc__law_sub.nd
  exact (lss_one (ls_ret (le_call (ok__law_add T) tk (hr.mono (by decide)) (by rfl) T.d__law_add.g T.d__law_add.F.kp (b__law_add T) (la_cons (le_var 0) (la_cons (le_tup (la_cons (le_sub (le_int).O (le_ix (le_var 1).O (le_int).O).O) (la_cons (le_ix (le_var 1).O (le_int).O) la_nil))) la_nil)))))

theorem sc__law_sum : FnScope N__law_sum p__law_sum (defScope s__law_sum) := ⟨rfl, rfl, rfl, by decide +kernel, rfl, by decide +kernel, by decide +kernel⟩
theorem b__law_sum (T : Txt K mg) : Binds K T.d__law_sum.fd p__law_sum [] := T.d__law_sum.F.binds fun _ _ _ _ _ _ us hl => match us, hl with | [_], _ => rfl
theorem ok__law_sum (T : Txt K mg) : FnOk P w K mg base (L2.CX P w) 3 T.d__law_sum.f T.d__law_sum.fd p__law_sum (liftS K (XR0 K mg) sp__law_sum) := by
  refine fn_ok (is := m__law_sum) T.d__law_sum.F sc__law_sum (fun _ _ _ h => h.1) (fun cdv A outer s H E W hr hu tk po => ?_) fun _ _ _ h => h.2
  have nd := sc__law_sum.nd
  exact (lss_cons (ls_set 1 nd (le_tup (la_cons le_int (la_cons le_int la_nil))).x)
      (lss_cons (ls_for po rfl (li_of (le_var 0)) (lg_name 2 nd) (lss_one (ls_set 1 nd (le_call (ok__law_add T) tk (hr.mono (by decide)) (by rfl) T.d__law_add.g T.d__law_add.F.kp (b__law_add T) (la_cons (le_var 1) (la_cons (le_var 2) la_nil))).x)))
      (lss_one (ls_ret (le_var 1)))))

theorem sc__law_less : FnScope N__law_less p__law_less (defScope s__law_less) := ⟨rfl, rfl, rfl, by decide +kernel, rfl, by decide +kernel, by decide +kernel⟩
theorem b__law_less (T : Txt K mg) : Binds K T.d__law_less.fd p__law_less [] := T.d__law_less.F.binds fun _ _ _ _ _ _ us hl => match us, hl with | [_, _], _ => rfl
theorem ok__law_less (T : Txt K mg) : FnOk P w K mg base (L2.CX P w) 1 T.d__law_less.f T.d__law_less.fd p__law_less (liftS K (XR0 K mg) sp__law_less) := by
  refine fn_ok (is := m__law_less) T.d__law_less.F sc__law_less (fun _ _ _ h => h.1) (fun cdv A outer s H E W hr hu tk po => ?_) fun _ _ _ h => h.2
  have nd := sc__law_less.nd
  exact (lss_one (ls_ret (le_cmp c_lt (le_mul (le_ix (le_var 0).O (le_int).O).O (le_ix (le_var 1).O (le_int).O).O).O (le_mul (le_ix (le_var 1).O (le_int).O).O (le_ix (le_var 0).O (le_int).O).O).O)))

theorem sc__law_over : FnScope N__law_over p__law_over (defScope s__law_over) := ⟨rfl, rfl, rfl, by decide +kernel, rfl, by decide +kernel, by decide +kernel⟩
theorem b__law_over (T : Txt K mg) : Binds K T.d__law_over.fd p__law_over [] := T.d__law_over.F.binds fun _ _ _ _ _ _ us hl => match us, hl with | [_, _], _ => rfl
theorem ok__law_over (T : Txt K mg) : FnOk P w K mg base (L2.CX P w) 2 T.d__law_over.f T.d__law_over.fd p__law_over (liftS K (XR0 K mg) sp__law_over) := by
  refine fn_ok (is := m__law_over) T.d__law_over.F sc__law_over (fun _ _ _ h => h.1) (fun cdv A outer s H E W hr hu tk po => ?_) fun _ _ _ h => h.2
  have nd := sc__law_over.nd
  exact (lss_one (ls_ret (le_call (ok__law_fr T) tk (hr.mono (by decide)) (by rfl) T.d__law_fr.g T.d__law_fr.F.kp (b__law_fr T) (la_cons (le_mul (le_ix (le_var 0).O (le_int).O).O (le_ix (le_var 1).O (le_int).O).O) (la_cons (le_mul (le_ix (le_var 0).O (le_int).O).O (le_ix (le_var 1).O (le_int).O).O) la_nil)))))

theorem sc__law_dot : FnScope N__law_dot p__law_dot (defScope s__law_dot) := ⟨rfl, rfl, rfl, by decide +kernel, rfl, by decide +kernel, by decide +kernel⟩
theorem b__law_dot (T : Txt K mg) : Binds K T.d__law_dot.fd p__law_dot [] := T.d__law_dot.F.binds fun _ _ _ _ _ _ us hl => match us, hl with | [_, _], _ => rfl
theorem ok__law_dot (T : Txt K mg) : FnOk P w K mg base (L2.CX P w) 4 T.d__law_dot.f T.d__law_dot.fd p__law_dot (liftS K (XR0 K mg) sp__law_dot) := by
  refine fn_ok (is := m__law_dot) T.d__law_dot.F sc__law_dot (fun _ _ _ h => h.1) (fun cdv A outer s H E W hr hu tk po => ?_) fun _ _ _ h => h.2
  have nd := sc__law_dot.nd
  exact (lss_one (ls_ret (le_call (ok__law_sum T) tk (hr.mono (by decide)) (by rfl) T.d__law_sum.g T.d__law_sum.F.kp (b__law_sum T) (la_cons ((ln_comp (ts := [2]) (own := [("k", 2)]) rfl nd (li_r1 (by rfl) T.b_range (la_cons (le_len (by rfl) T.b_len (le_var 0).O) la_nil)).O (blkOk_by (own := [("k", 2)]) (by show blkC N__law_dot (defScope s__law_dot) _ _ = true; decide +kernel)) rfl (fun _ _ _ _ _ => (lg_name 2 nd)) (fun _ _ _ _ _ => lts_nil) (fun _ _ _ _ _ => (le_call (ok__law_mul T) takes0 (hr.mono (by decide)) (by rfl) T.d__law_mul.g T.d__law_mul.F.kp (b__law_mul T) (la_cons (le_ix (le_var 0).O (le_var 2).O) (la_cons (le_ix (le_var 1).O (le_var 2).O) la_nil)))))).E la_nil))))

theorem sc__law_turn : FnScope N__law_turn p__law_turn (defScope s__law_turn) := ⟨rfl, rfl, rfl, by decide +kernel, rfl, by decide +kernel, by decide +kernel⟩
theorem b__law_turn (T : Txt K mg) : Binds K T.d__law_turn.fd p__law_turn [] := T.d__law_turn.F.binds fun _ _ _ _ _ _ us hl => match us, hl with | [_], _ => rfl
theorem ok__law_turn (T : Txt K mg) : FnOk P w K mg base (L2.CX P w) 1 T.d__law_turn.f T.d__law_turn.fd p__law_turn (liftS K (XR0 K mg) sp__law_turn) := by
  refine fn_ok (is := m__law_turn) T.d__law_turn.F sc__law_turn (fun _ _ _ h => h.1) (fun cdv A outer s H E W hr hu tk po => ?_) fun _ _ _ h => h.2
  have nd := sc__law_turn.nd
  exact (lss_one (ls_ret (le_tup (la_cons (le_sub (le_int).O (le_ix (le_var 0).O (le_int).O).O) (la_cons (le_ix (le_var 0).O (le_int).O) la_nil)))))

theorem sc__law_put_out : FnScope N__law_put_out p__law_put_out (defScope s__law_put_out) := ⟨rfl, rfl, rfl, by decide +kernel, rfl, by decide +kernel, by decide +kernel⟩
theorem b__law_put_out (T : Txt K mg) : Binds K T.d__law_put_out.fd p__law_put_out [] := T.d__law_put_out.F.binds fun _ _ _ _ _ _ us hl => match us, hl with | [_, _], _ => rfl
theorem ok__law_put_out (T : Txt K mg) : FnOk P w K mg base (L2.CX P w) 4 T.d__law_put_out.f T.d__law_put_out.fd p__law_put_out (liftS K (XR0 K mg) sp__law_put_out) := by
  refine fn_ok (is := m__law_put_out) T.d__law_put_out.F sc__law_put_out (fun _ _ _ h => h.1) (fun cdv A outer s H E W hr hu tk po => ?_) fun _ _ _ h => h.2
  have nd := sc__law_put_out.nd
  exact (lss_cons (ls_many rfl (lxa_cons (ln_comp (ts := [8]) (own := [("row", 8)]) rfl nd (lio_of (le_var 0).O) (blkOk_by (own := [("row", 8)]) (by show blkC N__law_put_out (defScope s__law_put_out) _ _ = true; decide +kernel)) rfl (fun _ _ _ _ _ => (lg_name 8 nd)) (fun _ _ _ _ _ => lts_nil) (fun _ _ _ _ _ => ((ln_lstC (by rfl) T.b_list (le_var 8).O)).E)).x (lxa_cons (ln_lst la_nil).x lxa_nil)) (lnm_cons 2 nd (lnm_cons 3 nd lnm_nil)))
      (lss_cons (ls_for po rfl (li_r1 (by rfl) T.b_range (la_cons (le_var 1) la_nil)) (lg_name 4 nd) (lss_cons (ls_set 5 nd (le_len (by rfl) T.b_len (lo_var 3)).x)
      (lss_cons (ls_setLcE 6 (ts := [9]) (own := [("k", 9)]) rfl nd (li_r2 (by rfl) T.b_range (la_cons (le_var 5) (la_cons (le_len (by rfl) T.b_len (lo_var 2)) la_nil))).O (blkOk_by (own := [("k", 9)]) (by show blkC N__law_put_out (defScope s__law_put_out) _ _ = true; decide +kernel)) rfl (fun _ _ _ _ _ => (lg_name 9 nd)) (fun _ _ _ _ _ => (lts_one (lt_cmp (c_ne hu) (le_ix (le_ix (le_ix (lo_var 2) (le_var 9).O).O (le_var 4).O).O (le_int).O).O (le_int).O))) (fun _ _ _ _ _ => (le_var 9)))
      (lss_one (ls_if (lt_cmp (c_ne hu) (le_var 6).O ((ln_lst la_nil)).E.O) (lss_cons (ls_popAt 7 2 nd (le_ix (le_var 6).O (le_int).O))
      (lss_cons (ls_set 7 nd ((ln_comp (ts := [10]) (own := [("one", 10)]) rfl nd (lio_of (le_var 7).O) (blkOk_by (own := [("one", 10)]) (by show blkC N__law_put_out (defScope s__law_put_out) _ _ = true; decide +kernel)) rfl (fun _ _ _ _ _ => (lg_name 10 nd)) (fun _ _ _ _ _ => lts_nil) (fun _ _ _ _ _ => (le_call (ok__law_over T) takes0 (hr.mono (by decide)) (by rfl) T.d__law_over.g T.d__law_over.F.kp (b__law_over T) (la_cons (le_var 10) (la_cons (le_ix (le_var 7).O (le_var 4).O) la_nil)))))).E.x)
      (lss_cons (ls_set 2 nd (ln_comp (ts := [8]) (own := [("row", 8)]) rfl nd (lio_of (lo_var 2)) (blkOk_by (own := [("row", 8)]) (by show blkC N__law_put_out (defScope s__law_put_out) _ _ = true; decide +kernel)) rfl (fun _ _ _ _ _ => (lg_name 8 nd)) (fun _ _ _ _ _ => lts_nil) (fun _ _ _ _ _ => ((ln_comp (ts := [11]) (own := [("c", 11)]) rfl nd (li_r1 (by rfl) T.b_range (la_cons (le_len (by rfl) T.b_len (le_var 8).O) la_nil)).O (blkOk_by (own := [("c", 11)]) (by show blkC N__law_put_out (relS _ (defScope s__law_put_out)) _ _ = true; decide +kernel)) rfl (fun _ _ _ _ _ => (lg_name 11 nd)) (fun _ _ _ _ _ => lts_nil) (fun _ _ _ _ _ => (le_call (ok__law_sub T) takes0 (hr.mono (by decide)) (by rfl) T.d__law_sub.g T.d__law_sub.F.kp (b__law_sub T) (la_cons (le_ix (le_var 8).O (le_var 11).O) (la_cons (le_call (ok__law_mul T) takes0 (hr.mono (by decide)) (by rfl) T.d__law_mul.g T.d__law_mul.F.kp (b__law_mul T) (la_cons (le_ix (le_var 8).O (le_var 4).O) (la_cons (le_ix (le_var 7).O (le_var 11).O) la_nil))) la_nil)))))).E)).x)
      (lss_cons (ls_set 2 nd (ln_cat ((ln_cat ((ln_slL (lo_var 2) lp_no (lp_at (le_var 5)))).E.O ((ln_lst (la_cons (le_var 7) la_nil))).E.O)).E.O ((ln_slL (lo_var 2) (lp_at (le_var 5)) lp_no)).E.O).x)
      (lss_one (ls_app 3 (le_var 4))))))) lss_nil)))))
      (lss_one (ls_frz 2 (ls_frz 3 (ls_ret (le_tup (la_cons (le_var 2) (la_cons (le_var 3) la_nil)))))))))

theorem sc__law_rank : FnScope N__law_rank p__law_rank (defScope s__law_rank) := ⟨rfl, rfl, rfl, by decide +kernel, rfl, by decide +kernel, by decide +kernel⟩
theorem b__law_rank (T : Txt K mg) : Binds K T.d__law_rank.fd p__law_rank [] := T.d__law_rank.F.binds fun _ _ _ _ _ _ us hl => match us, hl with | [_, _], _ => rfl
theorem ok__law_rank (T : Txt K mg) : FnOk P w K mg base (L2.CX P w) 5 T.d__law_rank.f T.d__law_rank.fd p__law_rank (liftS K (XR0 K mg) sp__law_rank) := by
  refine fn_ok (is := m__law_rank) T.d__law_rank.F sc__law_rank (fun _ _ _ h => h.1) (fun cdv A outer s H E W hr hu tk po => ?_) fun _ _ _ h => h.2
  have nd := sc__law_rank.nd
  exact (lss_one (ls_ret (le_len (by rfl) T.b_len (le_ix (le_call (ok__law_put_out T) tk (hr.mono (by decide)) (by rfl) T.d__law_put_out.g T.d__law_put_out.F.kp (b__law_put_out T) (la_cons (le_var 0) (la_cons (le_var 1) la_nil))).O (le_int).O).O)))

theorem sc__law_ways : FnScope N__law_ways p__law_ways (defScope s__law_ways) := ⟨rfl, rfl, rfl, by decide +kernel, rfl, by decide +kernel, by decide +kernel⟩
theorem b__law_ways (T : Txt K mg) : Binds K T.d__law_ways.fd p__law_ways [] := T.d__law_ways.F.binds fun _ _ _ _ _ _ us hl => match us, hl with | [_, _], _ => rfl
theorem ok__law_ways (T : Txt K mg) : FnOk P w K mg base (L2.CX P w) 5 T.d__law_ways.f T.d__law_ways.fd p__law_ways (liftS K (XR0 K mg) sp__law_ways) := by
  refine fn_ok (is := m__law_ways) T.d__law_ways.F sc__law_ways (fun _ _ _ h => h.1) (fun cdv A outer s H E W hr hu tk po => ?_) fun _ _ _ h => h.2
  have nd := sc__law_ways.nd
  exact (lss_cons (ls_asg (le_call (ok__law_put_out T) tk (hr.mono (by decide)) (by rfl) T.d__law_put_out.g T.d__law_put_out.F.kp (b__law_put_out T) (la_cons (le_var 0) (la_cons (le_var 1) la_nil))) (ltg_tup (n := 2) rfl (ltgs_cons (ltg_name 2 nd) (ltgs_cons (ltg_name 3 nd) ltgs_nil))))
      (lss_cons (ls_set 4 nd (ln_lst la_nil).x)
      (lss_cons (ls_for po rfl (li_of ((ln_comp (ts := [8]) (own := [("c", 8)]) rfl nd (li_r1 (by rfl) T.b_range (la_cons (le_var 1) la_nil)).O (blkOk_by (own := [("c", 8)]) (by show blkC N__law_ways (defScope s__law_ways) _ _ = true; decide +kernel)) rfl (fun _ _ _ _ _ => (lg_name 8 nd)) (fun _ _ _ _ _ => (lts_one (lt_cmp (c_ni hu) (le_var 8).O (le_var 3).O))) (fun _ _ _ _ _ => (le_var 8)))).E) (lg_name 5 nd) (lss_cons (ls_setLc 6 (ts := [8]) (own := [("c", 8)]) rfl nd (li_r1 (by rfl) T.b_range (la_cons (le_var 1) la_nil)).O (blkOk_by (own := [("c", 8)]) (by show blkC N__law_ways (defScope s__law_ways) _ _ = true; decide +kernel)) rfl (fun _ _ _ _ _ => (lg_name 8 nd)) (fun _ _ _ _ _ => lts_nil) (fun _ _ _ _ _ => (le_if (lt_cmp (c_eq hu) (le_var 8).O (le_var 5).O) (le_tup (la_cons le_int (la_cons le_int la_nil))) (le_tup (la_cons le_int (la_cons le_int la_nil))))))
      (lss_cons (ls_for po rfl (li_r1 (by rfl) T.b_range (la_cons (le_len (by rfl) T.b_len (le_var 3).O) la_nil)) (lg_name 7 nd) (lss_one (ls_setAt 6 (le_ix (le_var 3).O (le_var 7).O) (le_call (ok__law_turn T) tk (hr.mono (by decide)) (by rfl) T.d__law_turn.g T.d__law_turn.F.kp (b__law_turn T) (la_cons (le_ix (le_ix (le_var 2).O (le_var 7).O).O (le_var 5).O) la_nil)))))
      (lss_one (ls_app 4 (le_tupC (by rfl) T.b_tuple (lo_var 6)))))))
      (lss_one (ls_frz 4 (ls_ret (le_var 4)))))))

theorem sc__law_keeps : FnScope N__law_keeps p__law_keeps (defScope s__law_keeps) := ⟨rfl, rfl, rfl, by decide +kernel, rfl, by decide +kernel, by decide +kernel⟩
theorem b__law_keeps (T : Txt K mg) : Binds K T.d__law_keeps.fd p__law_keeps [] := T.d__law_keeps.F.binds fun _ _ _ _ _ _ us hl => match us, hl with | [_, _], _ => rfl
theorem ok__law_keeps (T : Txt K mg) : FnOk P w K mg base (L2.CX P w) 5 T.d__law_keeps.f T.d__law_keeps.fd p__law_keeps (liftS K (XR0 K mg) sp__law_keeps) := by
  refine fn_ok (is := m__law_keeps) T.d__law_keeps.F sc__law_keeps (fun _ _ _ h => h.1) (fun cdv A outer s H E W hr hu tk po => ?_) fun _ _ _ h => h.2
  have nd := sc__law_keeps.nd
  exact (lss_one (ls_ret (le_cmp (c_eq hu) (le_len (by rfl) T.b_len ((ln_comp (ts := [2]) (own := [("row", 2)]) rfl nd (lio_of (le_var 0).O) (blkOk_by (own := [("row", 2)]) (by show blkC N__law_keeps (defScope s__law_keeps) _ _ = true; decide +kernel)) rfl (fun _ _ _ _ _ => (lg_name 2 nd)) (fun _ _ _ _ _ => (lts_one (lt_cmp (c_ne hu) (le_ix (le_call (ok__law_dot T) takes0 (hr.mono (by decide)) (by rfl) T.d__law_dot.g T.d__law_dot.F.kp (b__law_dot T) (la_cons (le_var 2) (la_cons (le_var 1) la_nil))).O (le_int).O).O (le_int).O))) (fun _ _ _ _ _ => (le_var 2)))).E.O).O (le_int).O)))

theorem sc__law_summed : FnScope N__law_summed p__law_summed (defScope s__law_summed) := ⟨rfl, rfl, rfl, by decide +kernel, rfl, by decide +kernel, by decide +kernel⟩
theorem b__law_summed (T : Txt K mg) : Binds K T.d__law_summed.fd p__law_summed [] := T.d__law_summed.F.binds fun _ _ _ _ _ _ us hl => match us, hl with | [_, _, _], _ => rfl
theorem ok__law_summed (T : Txt K mg) : FnOk P w K mg base (L2.CX P w) 4 T.d__law_summed.f T.d__law_summed.fd p__law_summed (liftS K (XR0 K mg) sp__law_summed) := by
  refine fn_ok (is := m__law_summed) T.d__law_summed.F sc__law_summed (fun _ _ _ h => h.1) (fun cdv A outer s H E W hr hu tk po => ?_) fun _ _ _ h => h.2
  have nd := sc__law_summed.nd
  exact (lss_one (ls_ret (le_tupC (by rfl) T.b_tuple ((ln_comp (ts := [3]) (own := [("c", 3)]) rfl nd (li_r1 (by rfl) T.b_range (la_cons (le_var 2) la_nil)).O (blkOk_by (own := [("c", 3)]) (by show blkC N__law_summed (defScope s__law_summed) _ _ = true; decide +kernel)) rfl (fun _ _ _ _ _ => (lg_name 3 nd)) (fun _ _ _ _ _ => lts_nil) (fun _ _ _ _ _ => (le_call (ok__law_sum T) takes0 (hr.mono (by decide)) (by rfl) T.d__law_sum.g T.d__law_sum.F.kp (b__law_sum T) (la_cons ((ln_comp (ts := [4]) (own := [("k", 4)]) rfl nd (li_r1 (by rfl) T.b_range (la_cons (le_len (by rfl) T.b_len (le_var 0).O) la_nil)).O (blkOk_by (own := [("k", 4)]) (by show blkC N__law_summed (relS _ (defScope s__law_summed)) _ _ = true; decide +kernel)) rfl (fun _ _ _ _ _ => (lg_name 4 nd)) (fun _ _ _ _ _ => lts_nil) (fun _ _ _ _ _ => (le_call (ok__law_mul T) takes0 (hr.mono (by decide)) (by rfl) T.d__law_mul.g T.d__law_mul.F.kp (b__law_mul T) (la_cons (le_ix (le_var 1).O (le_var 4).O) (la_cons (le_ix (le_ix (le_var 0).O (le_var 4).O).O (le_var 3).O) la_nil)))))).E la_nil))))).E.O)))

theorem sc__law_are_ways : FnScope N__law_are_ways p__law_are_ways (defScope s__law_are_ways) := ⟨rfl, rfl, rfl, by decide +kernel, rfl, by decide +kernel, by decide +kernel⟩
theorem b__law_are_ways (T : Txt K mg) : Binds K T.d__law_are_ways.fd p__law_are_ways [] := T.d__law_are_ways.F.binds fun _ _ _ _ _ _ us hl => match us, hl with | [_, _, _], _ => rfl
theorem ok__law_are_ways (T : Txt K mg) : FnOk P w K mg base (L2.CX P w) 6 T.d__law_are_ways.f T.d__law_are_ways.fd p__law_are_ways (liftS K (XR0 K mg) sp__law_are_ways) := by
  refine fn_ok (is := m__law_are_ways) T.d__law_are_ways.F sc__law_are_ways (fun _ _ _ h => h.1) (fun cdv A outer s H E W hr hu tk po => ?_) fun _ _ _ h => h.2
  have nd := sc__law_are_ways.nd
  exact (lss_cons (ls_if (lw_or (lt_cmp (c_ne hu) (le_len (by rfl) T.b_len (le_var 1).O).O (le_sub (le_var 2).O (le_call (ok__law_rank T) tk (hr.mono (by decide)) (by rfl) T.d__law_rank.g T.d__law_rank.F.kp (b__law_rank T) (la_cons (le_var 0) (la_cons (le_var 2) la_nil))).O).O) (lw_or1 (lt_cmp c_gt (le_len (by rfl) T.b_len ((ln_comp (ts := [3]) (own := [("one", 3)]) rfl nd (lio_of (le_var 1).O) (blkOk_by (own := [("one", 3)]) (by show blkC N__law_are_ways (defScope s__law_are_ways) _ _ = true; decide +kernel)) rfl (fun _ _ _ _ _ => (lg_name 3 nd)) (fun _ _ _ _ _ => (lts_one (lw_or (lt_cmp (c_ne hu) (le_len (by rfl) T.b_len (le_var 3).O).O (le_var 2).O) (lw_or1 (lt_not (lt_val (le_call (ok__law_keeps T) takes0 (hr.mono (by decide)) (by rfl) T.d__law_keeps.g T.d__law_keeps.F.kp (b__law_keeps T) (la_cons (le_var 0) (la_cons (le_var 3) la_nil))))))).t)) (fun _ _ _ _ _ => (le_var 3)))).E.O).O (le_int).O))).t (lss_one (ls_ret le_bl)) lss_nil)
      (lss_one (ls_ret (le_cmp (c_eq hu) (le_call (ok__law_rank T) tk (hr.mono (by decide)) (by rfl) T.d__law_rank.g T.d__law_rank.F.kp (b__law_rank T) (la_cons ((ln_lstC (by rfl) T.b_list (le_var 1).O)).E (la_cons (le_var 2) la_nil))).O (le_len (by rfl) T.b_len (le_var 1).O).O))))

theorem sc__law_drawn : FnScope N__law_drawn p__law_drawn (defScope s__law_drawn) := ⟨rfl, rfl, rfl, by decide +kernel, rfl, by decide +kernel, by decide +kernel⟩
theorem b__law_drawn (T : Txt K mg) : Binds K T.d__law_drawn.fd p__law_drawn [] := T.d__law_drawn.F.binds fun _ _ _ _ _ _ us hl => match us, hl with | [_, _], _ => rfl
theorem ok__law_drawn (T : Txt K mg) : FnOk P w K mg base (L2.CX P w) 2 T.d__law_drawn.f T.d__law_drawn.fd p__law_drawn (liftS K (XR0 K mg) sp__law_drawn) := by
  refine fn_ok (is := m__law_drawn) T.d__law_drawn.F sc__law_drawn (fun _ _ _ h => h.1) (fun cdv A outer s H E W hr hu tk po => ?_) fun _ _ _ h => h.2
  have nd := sc__law_drawn.nd
  exact (lss_one (ls_ret (le_call (ok__law_fr T) tk (hr.mono (by decide)) (by rfl) T.d__law_fr.g T.d__law_fr.F.kp (b__law_fr T) (la_cons (le_sub (le_call (ok__law_take T) tk (hr.mono (by decide)) (by rfl) T.d__law_take.g T.d__law_take.F.kp (b__law_take T) (la_cons (le_var 0) (la_cons (le_add (le_mul (le_int).O (le_var 1).O).O (le_int).O) la_nil))).O (le_var 1).O) (la_cons (le_add (le_int).O (le_call (ok__law_take T) tk (hr.mono (by decide)) (by rfl) T.d__law_take.g T.d__law_take.F.kp (b__law_take T) (la_cons (le_var 0) (la_cons le_int la_nil))).O) la_nil)))))

theorem sc__law_parts_hold : FnScope N__law_parts_hold p__law_parts_hold (defScope s__law_parts_hold) := ⟨rfl, rfl, rfl, by decide +kernel, rfl, by decide +kernel, by decide +kernel⟩
theorem b__law_parts_hold (T : Txt K mg) : Binds K T.d__law_parts_hold.fd p__law_parts_hold [] := T.d__law_parts_hold.F.binds fun _ _ _ _ _ _ us hl => match us, hl with | [_], _ => rfl
theorem ok__law_parts_hold (T : Txt K mg) : FnOk P w K mg base (L2.CX P w) 6 T.d__law_parts_hold.f T.d__law_parts_hold.fd p__law_parts_hold (liftS K (XR0 K mg) sp__law_parts_hold) := by
  refine fn_ok (is := m__law_parts_hold) T.d__law_parts_hold.F sc__law_parts_hold (fun _ _ _ h => h.1) (fun cdv A outer s H E W hr hu tk po => ?_) fun _ _ _ h => h.2
  have nd := sc__law_parts_hold.nd
  exact (lss_cons (ls_par 1 2 rfl nd (by decide) (le_call (ok__law_drawn T) tk (hr.mono (by decide)) (by rfl) T.d__law_drawn.g T.d__law_drawn.F.kp (b__law_drawn T) (la_cons (le_var 0) (la_cons le_int la_nil))).x (le_call (ok__law_drawn T) tk (hr.mono (by decide)) (by rfl) T.d__law_drawn.g T.d__law_drawn.F.kp (b__law_drawn T) (la_cons (le_var 0) (la_cons le_int la_nil))).x)
      (lss_cons (ls_many rfl (lxa_cons (le_sub (le_call (ok__law_take T) tk (hr.mono (by decide)) (by rfl) T.d__law_take.g T.d__law_take.F.kp (b__law_take T) (la_cons (le_var 0) (la_cons le_int la_nil))).O (le_int).O).x (lxa_cons (le_add (le_int).O (le_call (ok__law_take T) tk (hr.mono (by decide)) (by rfl) T.d__law_take.g T.d__law_take.F.kp (b__law_take T) (la_cons (le_var 0) (la_cons le_int la_nil))).O).x lxa_nil)) (lnm_cons 3 nd (lnm_cons 4 nd lnm_nil)))
      (lss_cons (ls_if (lw_or (lt_cmp (c_ne hu) (le_call (ok_part T) tk (hr.mono (by decide)) (by rfl) T.d_part.g T.d_part.F.kp (b_part T) (la_cons (le_var 3) (la_cons (le_sub (le_int).O (le_var 4).O) la_nil))).O (le_call (ok__law_fr T) tk (hr.mono (by decide)) (by rfl) T.d__law_fr.g T.d__law_fr.F.kp (b__law_fr T) (la_cons (le_var 3) (la_cons (le_sub (le_int).O (le_var 4).O) la_nil))).O) (lw_or (lt_cmp (c_ne hu) (le_call (ok_plus T) tk (hr.mono (by decide)) (by rfl) T.d_plus.g T.d_plus.F.kp (b_plus T) (la_cons (le_var 1) (la_cons (le_var 2) la_nil))).O (le_call (ok__law_add T) tk (hr.mono (by decide)) (by rfl) T.d__law_add.g T.d__law_add.F.kp (b__law_add T) (la_cons (le_var 1) (la_cons (le_var 2) la_nil))).O) (lw_or (lt_cmp (c_ne hu) (le_call (ok_minus T) tk (hr.mono (by decide)) (by rfl) T.d_minus.g T.d_minus.F.kp (b_minus T) (la_cons (le_var 1) (la_cons (le_var 2) la_nil))).O (le_call (ok__law_sub T) tk (hr.mono (by decide)) (by rfl) T.d__law_sub.g T.d__law_sub.F.kp (b__law_sub T) (la_cons (le_var 1) (la_cons (le_var 2) la_nil))).O) (lw_or1 (lt_cmp (c_ne hu) (le_call (ok_times T) tk (hr.mono (by decide)) (by rfl) T.d_times.g T.d_times.F.kp (b_times T) (la_cons (le_var 1) (la_cons (le_var 2) la_nil))).O (le_call (ok__law_mul T) tk (hr.mono (by decide)) (by rfl) T.d__law_mul.g T.d__law_mul.F.kp (b__law_mul T) (la_cons (le_var 1) (la_cons (le_var 2) la_nil))).O))))).t (lss_one (ls_ret le_bl)) lss_nil)
      (lss_cons (ls_if (lw_and (lt_cmp (c_ne hu) (le_ix (le_var 2).O (le_int).O).O (le_int).O) (lw_and1 (lt_cmp (c_ne hu) (le_call (ok_over T) tk (hr.mono (by decide)) (by rfl) T.d_over.g T.d_over.F.kp (b_over T) (la_cons (le_var 1) (la_cons (le_var 2) la_nil))).O (le_call (ok__law_over T) tk (hr.mono (by decide)) (by rfl) T.d__law_over.g T.d__law_over.F.kp (b__law_over T) (la_cons (le_var 1) (la_cons (le_var 2) la_nil))).O))).t (lss_one (ls_ret le_bl)) lss_nil)
      (lss_cons (ls_set 5 nd (le_call (ok_divisor T) tk (hr.mono (by decide)) (by rfl) T.d_divisor.g T.d_divisor.F.kp (b_divisor T) (la_cons (le_var 3) (la_cons (le_var 4) la_nil))).x)
      (lss_cons (ls_if (lw_or (lt_cmp c_lt (le_var 5).O (le_int).O) (lw_or1 (lt_cmp c_gt (le_len (by rfl) T.b_len ((ln_comp (ts := [11]) (own := [("k", 11)]) rfl nd (li_r2 (by rfl) T.b_range (la_cons le_int (la_cons le_int la_nil))).O (blkOk_by (own := [("k", 11)]) (by show blkC N__law_parts_hold (defScope s__law_parts_hold) _ _ = true; decide +kernel)) rfl (fun _ _ _ _ _ => (lg_name 11 nd)) (fun _ _ _ _ _ => (lts_one (lt_cmp (c_ne hu) (le_and (le_cmp (c_eq hu) (le_mod (le_intC (by rfl) T.b_int (le_abs (by rfl) T.b_abs (le_var 3).O).O).O (le_var 11).O).O (le_int).O) (le_one (le_cmp (c_eq hu) (le_mod (le_intC (by rfl) T.b_int (le_var 4).O).O (le_var 11).O).O (le_int).O))).O (le_cmp (c_eq hu) (le_mod (le_intC (by rfl) T.b_int (le_var 5).O).O (le_var 11).O).O (le_int).O).O))) (fun _ _ _ _ _ => (le_var 11)))).E.O).O (le_int).O))).t (lss_one (ls_ret le_bl)) lss_nil)
      (lss_cons (ls_setLcE 6 (ts := [11]) (own := [("k", 11)]) rfl nd (li_r1 (by rfl) T.b_range (la_cons (le_call (ok__law_take T) tk (hr.mono (by decide)) (by rfl) T.d__law_take.g T.d__law_take.F.kp (b__law_take T) (la_cons (le_var 0) (la_cons le_int la_nil))) la_nil)).O (blkOk_by (own := [("k", 11)]) (by show blkC N__law_parts_hold (defScope s__law_parts_hold) _ _ = true; decide +kernel)) rfl (fun _ _ _ _ _ => (lg_name 11 nd)) (fun _ _ _ _ _ => lts_nil) (fun _ _ _ _ _ => (le_call (ok__law_drawn T) takes0 (hr.mono (by decide)) (by rfl) T.d__law_drawn.g T.d__law_drawn.F.kp (b__law_drawn T) (la_cons (le_var 0) (la_cons le_int la_nil)))))
      (lss_cons (ls_many rfl (lxa_cons (le_call (ok_least T) tk (hr.mono (by decide)) (by rfl) T.d_least.g T.d_least.F.kp (b_least T) (la_cons (le_var 6) la_nil)).x (lxa_cons (le_call (ok_most T) tk (hr.mono (by decide)) (by rfl) T.d_most.g T.d_most.F.kp (b_most T) (la_cons (le_var 6) la_nil)).x lxa_nil)) (lnm_cons 7 nd (lnm_cons 8 nd lnm_nil)))
      (lss_cons (ls_if (lw_or (lt_cmp (c_ne hu) (le_cmp (c_eq hu) (le_var 6).O ((ln_lst la_nil)).E.O).O (le_cmp c_is (le_var 7).O (le_non).O).O) (lw_or (lt_cmp (c_ne hu) (le_cmp (c_eq hu) (le_var 6).O ((ln_lst la_nil)).E.O).O (le_cmp c_is (le_var 8).O (le_non).O).O) (lw_or (lt_cmp (c_ne hu) (le_call (ok_total T) tk (hr.mono (by decide)) (by rfl) T.d_total.g T.d_total.F.kp (b_total T) (la_cons (le_var 6) la_nil)).O (le_call (ok__law_sum T) tk (hr.mono (by decide)) (by rfl) T.d__law_sum.g T.d__law_sum.F.kp (b__law_sum T) (la_cons (le_var 6) la_nil)).O) (lw_or1 (lt_cmp (c_ne hu) (le_call (ok_dot T) tk (hr.mono (by decide)) (by rfl) T.d_dot.g T.d_dot.F.kp (b_dot T) (la_cons (le_var 6) (la_cons (le_var 6) la_nil))).O (le_call (ok__law_dot T) tk (hr.mono (by decide)) (by rfl) T.d__law_dot.g T.d__law_dot.F.kp (b__law_dot T) (la_cons (le_var 6) (la_cons (le_var 6) la_nil))).O))))).t (lss_one (ls_ret le_bl)) lss_nil)
      (lss_cons (ls_if (lw_and (lt_cmp (c_ne hu) (le_var 6).O ((ln_lst la_nil)).E.O) (lw_and1 (lw_or (lt_cmp (c_ni hu) (le_var 7).O (le_var 6).O) (lw_or (lt_cmp (c_ni hu) (le_var 8).O (le_var 6).O) (lw_or1 (lt_cmp c_gt (le_len (by rfl) T.b_len ((ln_comp (ts := [13]) (own := [("n", 13)]) rfl nd (lio_of (le_var 6).O) (blkOk_by (own := [("n", 13)]) (by show blkC N__law_parts_hold (defScope s__law_parts_hold) _ _ = true; decide +kernel)) rfl (fun _ _ _ _ _ => (lg_name 13 nd)) (fun _ _ _ _ _ => (lts_one (lw_or (lt_val (le_call (ok__law_less T) takes0 (hr.mono (by decide)) (by rfl) T.d__law_less.g T.d__law_less.F.kp (b__law_less T) (la_cons (le_var 13) (la_cons (le_var 7) la_nil)))) (lw_or1 (lt_val (le_call (ok__law_less T) takes0 (hr.mono (by decide)) (by rfl) T.d__law_less.g T.d__law_less.F.kp (b__law_less T) (la_cons (le_var 8) (la_cons (le_var 13) la_nil)))))).t)) (fun _ _ _ _ _ => (le_var 13)))).E.O).O (le_int).O)))).t)).t (lss_one (ls_ret le_bl)) lss_nil)
      (lss_cons (ls_par 9 10 rfl nd (by decide) (le_call (ok__law_take T) tk (hr.mono (by decide)) (by rfl) T.d__law_take.g T.d__law_take.F.kp (b__law_take T) (la_cons (le_var 0) (la_cons le_int la_nil))).x (le_tup (la_cons le_int (la_cons le_int la_nil))).x)
      (lss_cons (ls_for po rfl (li_r1 (by rfl) T.b_range (la_cons (le_var 9) la_nil)) (lg_name 11 nd) (lss_one (ls_set 10 nd (le_call (ok__law_mul T) tk (hr.mono (by decide)) (by rfl) T.d__law_mul.g T.d__law_mul.F.kp (b__law_mul T) (la_cons (le_var 10) (la_cons (le_var 1) la_nil))).x)))
      (lss_cons (ls_set 12 nd (le_call (ok_whole_below T) tk (hr.mono (by decide)) (by rfl) T.d_whole_below.g T.d_whole_below.F.kp (b_whole_below T) (la_cons (le_var 1) la_nil)).x)
      (lss_cons (ls_if (lw_or (lt_cmp (c_ne hu) (le_call (ok_power T) tk (hr.mono (by decide)) (by rfl) T.d_power.g T.d_power.F.kp (b_power T) (la_cons (le_var 1) (la_cons (le_var 9) la_nil))).O (le_var 10).O) (lw_or (lt_val (le_call (ok__law_less T) tk (hr.mono (by decide)) (by rfl) T.d__law_less.g T.d__law_less.F.kp (b__law_less T) (la_cons (le_var 1) (la_cons (le_tup (la_cons (le_var 12) (la_cons le_int la_nil))) la_nil)))) (lw_or (lt_not (lt_val (le_call (ok__law_less T) tk (hr.mono (by decide)) (by rfl) T.d__law_less.g T.d__law_less.F.kp (b__law_less T) (la_cons (le_var 1) (la_cons (le_tup (la_cons (le_add (le_var 12).O (le_int).O) (la_cons le_int la_nil))) la_nil))))) (lw_or1 (lt_cmp (c_ne hu) (le_call (ok_negative T) tk (hr.mono (by decide)) (by rfl) T.d_negative.g T.d_negative.F.kp (b_negative T) (la_cons (le_var 1) la_nil)).O (le_call (ok__law_turn T) tk (hr.mono (by decide)) (by rfl) T.d__law_turn.g T.d__law_turn.F.kp (b__law_turn T) (la_cons (le_var 1) la_nil)).O))))).t (lss_one (ls_ret le_bl)) lss_nil)
      (lss_one (ls_ret (le_and (le_cmp (c_eq hu) (le_call (ok_is_less T) tk (hr.mono (by decide)) (by rfl) T.d_is_less.g T.d_is_less.F.kp (b_is_less T) (la_cons (le_var 1) (la_cons (le_var 2) la_nil))).O (le_call (ok__law_less T) tk (hr.mono (by decide)) (by rfl) T.d__law_less.g T.d__law_less.F.kp (b__law_less T) (la_cons (le_var 1) (la_cons (le_var 2) la_nil))).O) (le_one (le_cmp (c_eq hu) (le_call (ok_text_of T) tk (hr.mono (by decide)) (by rfl) T.d_text_of.g T.d_text_of.F.kp (b_text_of T) (la_cons (le_var 1) la_nil)).O (le_if (lt_cmp (c_eq hu) (le_ix (le_var 1).O (le_int).O).O (le_int).O) (le_strC (by rfl) T.b_str (le_ix (le_var 1).O (le_int).O).O) (le_catS (le_catS (le_strC (by rfl) T.b_str (le_ix (le_var 1).O (le_int).O).O).O (le_str).O).O (le_strC (by rfl) T.b_str (le_ix (le_var 1).O (le_int).O).O).O)).O)))))))))))))))))))

theorem sc__law_tables_hold : FnScope N__law_tables_hold p__law_tables_hold (defScope s__law_tables_hold) := ⟨rfl, rfl, rfl, by decide +kernel, rfl, by decide +kernel, by decide +kernel⟩
theorem b__law_tables_hold (T : Txt K mg) : Binds K T.d__law_tables_hold.fd p__law_tables_hold [] := T.d__law_tables_hold.F.binds fun _ _ _ _ _ _ us hl => match us, hl with | [_], _ => rfl
theorem ok__law_tables_hold (T : Txt K mg) : FnOk P w K mg base (L2.CX P w) 7 T.d__law_tables_hold.f T.d__law_tables_hold.fd p__law_tables_hold (liftS K (XR0 K mg) sp__law_tables_hold) := by
  refine fn_ok (is := m__law_tables_hold) T.d__law_tables_hold.F sc__law_tables_hold (fun _ _ _ h => h.1) (fun cdv A outer s H E W hr hu tk po => ?_) fun _ _ _ h => h.2
  have nd := sc__law_tables_hold.nd
  exact (lss_cons (ls_many rfl (lxa_cons (le_add (le_int).O (le_call (ok__law_take T) tk (hr.mono (by decide)) (by rfl) T.d__law_take.g T.d__law_take.F.kp (b__law_take T) (la_cons (le_var 0) (la_cons le_int la_nil))).O).x (lxa_cons (le_call (ok__law_take T) tk (hr.mono (by decide)) (by rfl) T.d__law_take.g T.d__law_take.F.kp (b__law_take T) (la_cons (le_var 0) (la_cons le_int la_nil))).x lxa_nil)) (lnm_cons 1 nd (lnm_cons 2 nd lnm_nil)))
      (lss_cons (ls_set 3 nd (ln_comp (ts := [19]) (own := [("k", 19)]) rfl nd (li_r1 (by rfl) T.b_range (la_cons (le_var 2) la_nil)).O (blkOk_by (own := [("k", 19)]) (by show blkC N__law_tables_hold (defScope s__law_tables_hold) _ _ = true; decide +kernel)) rfl (fun _ _ _ _ _ => (lg_name 19 nd)) (fun _ _ _ _ _ => lts_nil) (fun _ _ _ _ _ => (le_tupC (by rfl) T.b_tuple ((ln_comp (ts := [21]) (own := [("c", 21)]) rfl nd (li_r1 (by rfl) T.b_range (la_cons (le_var 1) la_nil)).O (blkOk_by (own := [("c", 21)]) (by show blkC N__law_tables_hold (relS _ (defScope s__law_tables_hold)) _ _ = true; decide +kernel)) rfl (fun _ _ _ _ _ => (lg_name 21 nd)) (fun _ _ _ _ _ => lts_nil) (fun _ _ _ _ _ => (le_call (ok__law_drawn T) takes0 (hr.mono (by decide)) (by rfl) T.d__law_drawn.g T.d__law_drawn.F.kp (b__law_drawn T) (la_cons (le_var 0) (la_cons le_int la_nil)))))).E.O))).x)
      (lss_cons (ls_if (lw_and (lt_cmp c_gt (le_var 2).O (le_int).O) (lw_and1 (lt_cmp (c_eq hu) (le_call (ok__law_take T) tk (hr.mono (by decide)) (by rfl) T.d__law_take.g T.d__law_take.F.kp (b__law_take T) (la_cons (le_var 0) (la_cons le_int la_nil))).O (le_int).O))).t (lss_one (ls_setAt 3 (le_neg (le_int).O) (le_tupC (by rfl) T.b_tuple ((ln_comp (ts := [21]) (own := [("c", 21)]) rfl nd (li_r1 (by rfl) T.b_range (la_cons (le_var 1) la_nil)).O (blkOk_by (own := [("c", 21)]) (by show blkC N__law_tables_hold (defScope s__law_tables_hold) _ _ = true; decide +kernel)) rfl (fun _ _ _ _ _ => (lg_name 21 nd)) (fun _ _ _ _ _ => lts_nil) (fun _ _ _ _ _ => (le_call (ok__law_mul T) takes0 (hr.mono (by decide)) (by rfl) T.d__law_mul.g T.d__law_mul.F.kp (b__law_mul T) (la_cons (le_ix (le_ix (lo_var 3) (le_int).O).O (le_var 21).O) (la_cons (le_tup (la_cons le_int (la_cons le_int la_nil))) la_nil)))))).E.O))) lss_nil)
      (lss_cons (ls_frz 3 (ls_asg (le_call (ok_reduced T) tk (hr.mono (by decide)) (by rfl) T.d_reduced.g T.d_reduced.F.kp (b_reduced T) (la_cons (le_var 3) (la_cons (le_var 1) la_nil))) (ltg_tup (n := 2) rfl (ltgs_cons (ltg_name 4 nd) (ltgs_cons (ltg_name 5 nd) ltgs_nil)))))
      (lss_cons (ls_frz 3 (ls_asg (le_call (ok__law_put_out T) tk (hr.mono (by decide)) (by rfl) T.d__law_put_out.g T.d__law_put_out.F.kp (b__law_put_out T) (la_cons (le_var 3) (la_cons (le_var 1) la_nil))) (ltg_tup (n := 2) rfl (ltgs_cons (ltg_name 6 nd) (ltgs_cons (ltg_name 7 nd) ltgs_nil)))))
      (lss_cons (ls_frz 3 (ls_if (lw_or (lt_cmp (c_ne hu) ((ln_lstC (by rfl) T.b_list (le_var 5).O)).E.O (le_var 7).O) (lw_or (lt_cmp (c_ne hu) ((ln_comp (ts := [22]) (own := [("line", 22)]) rfl nd (lio_of ((ln_slL (le_var 4).O lp_no (lp_at (le_len (by rfl) T.b_len (le_var 5).O)))).E.O) (blkOk_by (own := [("line", 22)]) (by show blkC N__law_tables_hold (defScope s__law_tables_hold) _ _ = true; decide +kernel)) rfl (fun _ _ _ _ _ => (lg_name 22 nd)) (fun _ _ _ _ _ => lts_nil) (fun _ _ _ _ _ => ((ln_lstC (by rfl) T.b_list (le_var 22).O)).E))).E.O ((ln_slL (le_var 6).O lp_no (lp_at (le_len (by rfl) T.b_len (le_var 7).O)))).E.O) (lw_or (lt_cmp (c_ne hu) (le_call (ok_rank_of T) tk (hr.mono (by decide)) (by rfl) T.d_rank_of.g T.d_rank_of.F.kp (b_rank_of T) (la_cons (le_var 3) (la_cons (le_var 1) la_nil))).O (le_len (by rfl) T.b_len (le_var 7).O).O) (lw_or1 (lw_and (lt_cmp (c_ne hu) (lo_var 3) ((ln_lst la_nil)).E.O) (lw_and1 (lt_cmp (c_ne hu) (le_call (ok_rank T) tk (hr.mono (by decide)) (by rfl) T.d_rank.g T.d_rank.F.kp (b_rank T) (la_cons (le_var 3) la_nil)).O (le_len (by rfl) T.b_len (le_var 7).O).O))).t)))).t (lss_one (ls_ret le_bl)) lss_nil))
      (lss_cons (ls_frz 3 (ls_set 8 nd (le_call (ok_ways T) tk (hr.mono (by decide)) (by rfl) T.d_ways.g T.d_ways.F.kp (b_ways T) (la_cons (le_var 3) (la_cons (le_var 1) la_nil))).x))
      (lss_cons (ls_frz 3 (ls_if (lw_or (lt_cmp (c_ne hu) ((ln_comp (ts := [23]) (own := [("one", 23)]) rfl nd (lio_of (le_var 8).O) (blkOk_by (own := [("one", 23)]) (by show blkC N__law_tables_hold (defScope s__law_tables_hold) _ _ = true; decide +kernel)) rfl (fun _ _ _ _ _ => (lg_name 23 nd)) (fun _ _ _ _ _ => lts_nil) (fun _ _ _ _ _ => (le_tupC (by rfl) T.b_tuple (le_var 23).O)))).E.O (le_call (ok__law_ways T) tk (hr.mono (by decide)) (by rfl) T.d__law_ways.g T.d__law_ways.F.kp (b__law_ways T) (la_cons (le_var 3) (la_cons (le_var 1) la_nil))).O) (lw_or1 (lt_not (lt_val (le_call (ok__law_are_ways T) tk (hr.mono (by decide)) (by rfl) T.d__law_are_ways.g T.d__law_are_ways.F.kp (b__law_are_ways T) (la_cons (le_var 3) (la_cons (le_var 8) (la_cons (le_var 1) la_nil)))))))).t (lss_one (ls_ret le_bl)) lss_nil))
      (lss_cons (ls_set 9 nd ((ln_comp (ts := [20]) (own := [("row", 20)]) rfl nd (lio_of (lo_var 3)) (blkOk_by (own := [("row", 20)]) (by show blkC N__law_tables_hold (defScope s__law_tables_hold) _ _ = true; decide +kernel)) rfl (fun _ _ _ _ _ => (lg_name 20 nd)) (fun _ _ _ _ _ => lts_nil) (fun _ _ _ _ _ => (le_call (ok__law_drawn T) takes0 (hr.mono (by decide)) (by rfl) T.d__law_drawn.g T.d__law_drawn.F.kp (b__law_drawn T) (la_cons (le_var 0) (la_cons le_int la_nil)))))).E.x)
      (lss_cons (ls_if (lw_and (lt_cmp c_gt (le_var 2).O (le_int).O) (lw_and1 (lt_cmp (c_eq hu) (le_call (ok__law_take T) tk (hr.mono (by decide)) (by rfl) T.d__law_take.g T.d__law_take.F.kp (b__law_take T) (la_cons (le_var 0) (la_cons le_int la_nil))).O (le_int).O))).t (lss_cons (ls_set 10 nd (le_tupC (by rfl) T.b_tuple ((ln_comp (ts := [21]) (own := [("c", 21)]) rfl nd (li_r1 (by rfl) T.b_range (la_cons (le_var 1) la_nil)).O (blkOk_by (own := [("c", 21)]) (by show blkC N__law_tables_hold (defScope s__law_tables_hold) _ _ = true; decide +kernel)) rfl (fun _ _ _ _ _ => (lg_name 21 nd)) (fun _ _ _ _ _ => lts_nil) (fun _ _ _ _ _ => (le_call (ok__law_drawn T) takes0 (hr.mono (by decide)) (by rfl) T.d__law_drawn.g T.d__law_drawn.F.kp (b__law_drawn T) (la_cons (le_var 0) (la_cons le_int la_nil)))))).E.O).x)
      (lss_one (ls_set 9 nd ((ln_comp (ts := [20]) (own := [("row", 20)]) rfl nd (lio_of (lo_var 3)) (blkOk_by (own := [("row", 20)]) (by show blkC N__law_tables_hold (defScope s__law_tables_hold) _ _ = true; decide +kernel)) rfl (fun _ _ _ _ _ => (lg_name 20 nd)) (fun _ _ _ _ _ => lts_nil) (fun _ _ _ _ _ => (le_call (ok__law_dot T) takes0 (hr.mono (by decide)) (by rfl) T.d__law_dot.g T.d__law_dot.F.kp (b__law_dot T) (la_cons (le_var 20) (la_cons (le_var 10) la_nil)))))).E.x))) lss_nil)
      (lss_cons (ls_asg (le_call (ok__law_put_out T) tk (hr.mono (by decide)) (by rfl) T.d__law_put_out.g T.d__law_put_out.F.kp (b__law_put_out T) (la_cons ((ln_comp (ts := [19]) (own := [("k", 19)]) rfl nd (li_r1 (by rfl) T.b_range (la_cons (le_var 2) la_nil)).O (blkOk_by (own := [("k", 19)]) (by show blkC N__law_tables_hold (defScope s__law_tables_hold) _ _ = true; decide +kernel)) rfl (fun _ _ _ _ _ => (lg_name 19 nd)) (fun _ _ _ _ _ => lts_nil) (fun _ _ _ _ _ => ((ln_cat ((ln_lstC (by rfl) T.b_list (le_ix (lo_var 3) (le_var 19).O).O)).E.O ((ln_lst (la_cons (le_ix (le_var 9).O (le_var 19).O) la_nil))).E.O)).E))).E (la_cons (le_add (le_var 1).O (le_int).O) la_nil))) (ltg_tup (n := 2) rfl (ltgs_cons (ltg_name 11 nd) (ltgs_cons (ltg_name 12 nd) ltgs_nil))))
      (lss_cons (ls_frz 3 (ls_set 13 nd (le_call (ok_point T) tk (hr.mono (by decide)) (by rfl) T.d_point.g T.d_point.F.kp (b_point T) (la_cons (le_var 3) (la_cons (le_var 9) (la_cons (le_var 1) la_nil)))).x))
      (lss_cons (ls_if (lw_or (lt_cmp (c_ne hu) (le_cmp c_is (le_var 13).O (le_non).O).O (le_cmp (c_in hu) (le_var 1).O (le_var 12).O).O) (lw_or1 (lw_and (lt_cmp c_isnot (le_var 13).O (le_non).O) (lw_and1 (lt_cmp (c_ne hu) ((ln_comp (ts := [20]) (own := [("row", 20)]) rfl nd (lio_of (lo_var 3)) (blkOk_by (own := [("row", 20)]) (by show blkC N__law_tables_hold (defScope s__law_tables_hold) _ _ = true; decide +kernel)) rfl (fun _ _ _ _ _ => (lg_name 20 nd)) (fun _ _ _ _ _ => lts_nil) (fun _ _ _ _ _ => (le_call (ok__law_dot T) takes0 (hr.mono (by decide)) (by rfl) T.d__law_dot.g T.d__law_dot.F.kp (b__law_dot T) (la_cons (le_var 20) (la_cons (le_var 13) la_nil)))))).E.O (le_var 9).O))).t)).t (lss_one (ls_ret le_bl)) lss_nil)
      (lss_cons (ls_if (lw_and (lt_cmp c_isnot (le_var 13).O (le_non).O) (lw_and1 (lt_cmp c_gt (le_len (by rfl) T.b_len ((ln_comp (ts := [21]) (own := [("c", 21)]) rfl nd (li_r1 (by rfl) T.b_range (la_cons (le_var 1) la_nil)).O (blkOk_by (own := [("c", 21)]) (by show blkC N__law_tables_hold (defScope s__law_tables_hold) _ _ = true; decide +kernel)) rfl (fun _ _ _ _ _ => (lg_name 21 nd)) (fun _ _ _ _ _ => (lts_one (lw_and (lt_cmp (c_ni hu) (le_var 21).O (le_var 7).O) (lw_and1 (lt_cmp (c_ne hu) (le_ix (le_var 13).O (le_var 21).O).O (le_tup (la_cons le_int (la_cons le_int la_nil))).O))).t)) (fun _ _ _ _ _ => (le_var 21)))).E.O).O (le_int).O))).t (lss_one (ls_ret le_bl)) lss_nil)
      (lss_cons (ls_set 14 nd (le_tupC (by rfl) T.b_tuple ((ln_comp (ts := [21]) (own := [("c", 21)]) rfl nd (li_r1 (by rfl) T.b_range (la_cons (le_var 1) la_nil)).O (blkOk_by (own := [("c", 21)]) (by show blkC N__law_tables_hold (defScope s__law_tables_hold) _ _ = true; decide +kernel)) rfl (fun _ _ _ _ _ => (lg_name 21 nd)) (fun _ _ _ _ _ => lts_nil) (fun _ _ _ _ _ => (le_call (ok__law_drawn T) takes0 (hr.mono (by decide)) (by rfl) T.d__law_drawn.g T.d__law_drawn.F.kp (b__law_drawn T) (la_cons (le_var 0) (la_cons le_int la_nil)))))).E.O).x)
      (lss_cons (ls_if (lt_cmp (c_eq hu) (le_call (ok__law_take T) tk (hr.mono (by decide)) (by rfl) T.d__law_take.g T.d__law_take.F.kp (b__law_take T) (la_cons (le_var 0) (la_cons le_int la_nil))).O (le_int).O) (lss_one (ls_frz 3 (ls_set 14 nd (le_call (ok__law_summed T) tk (hr.mono (by decide)) (by rfl) T.d__law_summed.g T.d__law_summed.F.kp (b__law_summed T) (la_cons (le_var 3) (la_cons ((ln_comp (ts := [20]) (own := [("row", 20)]) rfl nd (lio_of (lo_var 3)) (blkOk_by (own := [("row", 20)]) (by show blkC N__law_tables_hold (defScope s__law_tables_hold) _ _ = true; decide +kernel)) rfl (fun _ _ _ _ _ => (lg_name 20 nd)) (fun _ _ _ _ _ => lts_nil) (fun _ _ _ _ _ => (le_call (ok__law_drawn T) takes0 (hr.mono (by decide)) (by rfl) T.d__law_drawn.g T.d__law_drawn.F.kp (b__law_drawn T) (la_cons (le_var 0) (la_cons le_int la_nil)))))).E (la_cons (le_var 1) la_nil)))).x))) lss_nil)
      (lss_cons (ls_frz 3 (ls_par 15 16 rfl nd (by decide) (le_call (ok_made_of T) tk (hr.mono (by decide)) (by rfl) T.d_made_of.g T.d_made_of.F.kp (b_made_of T) (la_cons (le_var 3) (la_cons (le_var 14) la_nil))).x (le_cmp (c_eq hu) (le_call (ok__law_rank T) tk (hr.mono (by decide)) (by rfl) T.d__law_rank.g T.d__law_rank.F.kp (b__law_rank T) (la_cons ((ln_cat (lo_var 3) ((ln_lst (la_cons (le_var 14) la_nil))).E.O)).E (la_cons (le_var 1) la_nil))).O (le_len (by rfl) T.b_len (le_var 7).O).O).x))
      (lss_cons (ls_frz 3 (ls_if (lw_or (lt_cmp (c_ne hu) (le_cmp c_isnot (le_var 15).O (le_non).O).O (le_var 16).O) (lw_or1 (lw_and (lt_cmp c_isnot (le_var 15).O (le_non).O) (lw_and1 (lw_or (lt_cmp (c_ne hu) (le_len (by rfl) T.b_len (le_var 15).O).O (le_var 2).O) (lw_or1 (lt_cmp (c_ne hu) (le_call (ok__law_summed T) tk (hr.mono (by decide)) (by rfl) T.d__law_summed.g T.d__law_summed.F.kp (b__law_summed T) (la_cons (le_var 3) (la_cons (le_var 15) (la_cons (le_var 1) la_nil)))).O (le_var 14).O))).t)).t)).t (lss_one (ls_ret le_bl)) lss_nil))
      (lss_cons (ls_set 10 nd ((ln_comp (ts := [20]) (own := [("row", 20)]) rfl nd (lio_of (lo_var 3)) (blkOk_by (own := [("row", 20)]) (by show blkC N__law_tables_hold (defScope s__law_tables_hold) _ _ = true; decide +kernel)) rfl (fun _ _ _ _ _ => (lg_name 20 nd)) (fun _ _ _ _ _ => lts_nil) (fun _ _ _ _ _ => (le_call (ok__law_drawn T) takes0 (hr.mono (by decide)) (by rfl) T.d__law_drawn.g T.d__law_drawn.F.kp (b__law_drawn T) (la_cons (le_var 0) (la_cons le_int la_nil)))))).E.x)
      (lss_cons (ls_set 17 nd (le_if (lt_cmp (c_eq hu) (le_call (ok__law_take T) tk (hr.mono (by decide)) (by rfl) T.d__law_take.g T.d__law_take.F.kp (b__law_take T) (la_cons (le_var 0) (la_cons le_int la_nil))).O (le_int).O) ((ln_comp (ts := [19]) (own := [("k", 19)]) rfl nd (li_r1 (by rfl) T.b_range (la_cons (le_call (ok__law_take T) tk (hr.mono (by decide)) (by rfl) T.d__law_take.g T.d__law_take.F.kp (b__law_take T) (la_cons (le_var 0) (la_cons le_int la_nil))) la_nil)).O (blkOk_by (own := [("k", 19)]) (by show blkC N__law_tables_hold (defScope s__law_tables_hold) _ _ = true; decide +kernel)) rfl (fun _ _ _ _ _ => (lg_name 19 nd)) (fun _ _ _ _ _ => lts_nil) (fun _ _ _ _ _ => (le_tupC (by rfl) T.b_tuple ((ln_comp (ts := [21]) (own := [("c", 21)]) rfl nd (li_r1 (by rfl) T.b_range (la_cons (le_var 1) la_nil)).O (blkOk_by (own := [("c", 21)]) (by show blkC N__law_tables_hold (relS _ (defScope s__law_tables_hold)) _ _ = true; decide +kernel)) rfl (fun _ _ _ _ _ => (lg_name 21 nd)) (fun _ _ _ _ _ => lts_nil) (fun _ _ _ _ _ => (le_call (ok__law_drawn T) takes0 (hr.mono (by decide)) (by rfl) T.d__law_drawn.g T.d__law_drawn.F.kp (b__law_drawn T) (la_cons (le_var 0) (la_cons le_int la_nil)))))).E.O)))).E ((ln_comp (ts := [22]) (own := [("line", 22)]) rfl nd (lio_of ((ln_slL (le_var 6).O lp_no (lp_at (le_len (by rfl) T.b_len (le_var 7).O)))).E.O) (blkOk_by (own := [("line", 22)]) (by show blkC N__law_tables_hold (defScope s__law_tables_hold) _ _ = true; decide +kernel)) rfl (fun _ _ _ _ _ => (lg_name 22 nd)) (fun _ _ _ _ _ => lts_nil) (fun _ _ _ _ _ => (le_tupC (by rfl) T.b_tuple (le_var 22).O)))).E).x)
      (lss_cons (ls_set 18 nd (le_call (ok__law_rank T) tk (hr.mono (by decide)) (by rfl) T.d__law_rank.g T.d__law_rank.F.kp (b__law_rank T) (la_cons ((ln_cat (lo_var 3) (le_var 17).O)).E (la_cons (le_var 1) la_nil))).x)
      (lss_cons (ls_frz 3 (ls_if (lw_or (lt_cmp (c_ne hu) (le_call (ok_same_space T) tk (hr.mono (by decide)) (by rfl) T.d_same_space.g T.d_same_space.F.kp (b_same_space T) (la_cons (le_var 3) (la_cons (le_var 17) (la_cons (le_var 1) la_nil)))).O (le_and (le_cmp (c_eq hu) (le_var 18).O (le_len (by rfl) T.b_len (le_var 7).O).O) (le_one (le_cmp (c_eq hu) (le_var 18).O (le_call (ok__law_rank T) tk (hr.mono (by decide)) (by rfl) T.d__law_rank.g T.d__law_rank.F.kp (b__law_rank T) (la_cons (le_var 17) (la_cons (le_var 1) la_nil))).O))).O) (lw_or1 (lt_cmp (c_ne hu) (le_call (ok_summed T) tk (hr.mono (by decide)) (by rfl) T.d_summed.g T.d_summed.F.kp (b_summed T) (la_cons (le_var 3) (la_cons (le_var 10) (la_cons (le_var 1) la_nil)))).O (le_call (ok__law_summed T) tk (hr.mono (by decide)) (by rfl) T.d__law_summed.g T.d__law_summed.F.kp (b__law_summed T) (la_cons (le_var 3) (la_cons (le_var 10) (la_cons (le_var 1) la_nil)))).O))).t (lss_one (ls_ret le_bl)) lss_nil))
      (lss_one (ls_ret (le_cmp (c_eq hu) (le_call (ok_is_nought T) tk (hr.mono (by decide)) (by rfl) T.d_is_nought.g T.d_is_nought.F.kp (b_is_nought T) (la_cons (le_var 14) la_nil)).O (le_cmp (c_eq hu) (le_len (by rfl) T.b_len ((ln_comp (ts := [23]) (own := [("one", 23)]) rfl nd (lio_of (le_var 14).O) (blkOk_by (own := [("one", 23)]) (by show blkC N__law_tables_hold (defScope s__law_tables_hold) _ _ = true; decide +kernel)) rfl (fun _ _ _ _ _ => (lg_name 23 nd)) (fun _ _ _ _ _ => (lts_one (lt_cmp (c_ne hu) (le_ix (le_var 23).O (le_int).O).O (le_int).O))) (fun _ _ _ _ _ => (le_var 23)))).E.O).O (le_int).O).O)))))))))))))))))))))))))

theorem sc_law : FnScope N_law p_law (defScope s_law) := ⟨rfl, rfl, rfl, by decide +kernel, rfl, by decide +kernel, by decide +kernel⟩
theorem rest_law (T : Txt K mg) (cdv : Value) (A : Around) (outer : List Env) (s : Shared) (H : Hp) (E : XK) (W : WX) (hr : Room 7 (A.deeper (PyProof.Rows.envOfC "law" (defScope s_law) s.heap.objs.size T.d_law.f cdv))) (hu : (A.deeper (PyProof.Rows.envOfC "law" (defScope s_law) s.heap.objs.size T.d_law.f cdv)).units + 65 < cLine)
    (tk : Takes (cxOf (L2.CX P w) P w K mg base N_law "law" (defScope s_law) T.d_law.f cdv A outer s H E) W) (po : PassesOwn (model P w) (A.deeper (PyProof.Rows.envOfC "law" (defScope s_law) s.heap.objs.size T.d_law.f cdv)) (PyProof.Rows.envOfC "law" (defScope s_law) s.heap.objs.size T.d_law.f cdv) (cxOf (L2.CX P w) P w K mg base N_law "law" (defScope s_law) T.d_law.f cdv A outer s H E).xe) :
    LSs (XR0 K mg) (cxOf (L2.CX P w) P w K mg base N_law "law" (defScope s_law) T.d_law.f cdv A outer s H E) W (defBody s_law).tail m_law := by
  have nd := sc_law.nd
  exact (lss_cons (ls_for po rfl (li_r1 (by rfl) T.b_range (la_cons le_int la_nil)) (lg_name 2 nd) (lss_one (ls_if (lw_or (lt_not (lt_val (le_call (ok__law_parts_hold T) tk (hr.mono (by decide)) (by rfl) T.d__law_parts_hold.g T.d__law_parts_hold.F.kp (b__law_parts_hold T) (la_cons (le_var 1) la_nil)))) (lw_or1 (lt_not (lt_val (le_call (ok__law_tables_hold T) tk (hr.mono (by decide)) (by rfl) T.d__law_tables_hold.g T.d__law_tables_hold.F.kp (b__law_tables_hold T) (la_cons (le_var 1) la_nil)))))).t (lss_one (ls_ret le_bl)) lss_nil)))
      (lss_cons (ls_if (lt_cmp (c_ne hu) ((ln_comp (ts := [3]) (own := [("value", 3)]) rfl nd (lio_of (le_tup (la_cons (le_tup (la_cons le_int (la_cons le_int la_nil))) (la_cons (le_tup (la_cons le_int (la_cons le_int la_nil))) (la_cons (le_tup (la_cons le_int (la_cons (le_neg (le_int).O) la_nil))) (la_cons ((ln_lst (la_cons le_int (la_cons le_int la_nil)))).E (la_cons (le_tup (la_cons (le_neg (le_int).O) (la_cons le_int la_nil))) (la_cons (le_tup (la_cons le_bl (la_cons le_int la_nil))) la_nil))))))).O) (blkOk_by (own := [("value", 3)]) (by show blkC N_law (defScope s_law) _ _ = true; decide +kernel)) rfl (fun _ _ _ _ _ => (lg_name 3 nd)) (fun _ _ _ _ _ => lts_nil) (fun _ _ _ _ _ => (le_call (ok_is_part T) takes0 (hr.mono (by decide)) (by rfl) T.d_is_part.g T.d_is_part.F.kp (b_is_part T) (la_cons (le_var 3) la_nil))))).E.O ((ln_lst (la_cons le_bl (la_cons le_bl (la_cons le_bl (la_cons le_bl (la_cons le_bl (la_cons le_bl la_nil)))))))).E.O) (lss_one (ls_ret le_bl)) lss_nil)
      (lss_one (ls_ret (le_and (le_cmp c_is (le_call (ok_are_parts T) tk (hr.mono (by decide)) (by rfl) T.d_are_parts.g T.d_are_parts.F.kp (b_are_parts T) (la_cons (le_tup (la_cons (le_tup (la_cons le_int (la_cons le_int la_nil))) la_nil)) (la_cons le_int la_nil))).O (le_bl).O) (le_and (le_cmp c_is (le_call (ok_are_parts T) tk (hr.mono (by decide)) (by rfl) T.d_are_parts.g T.d_are_parts.F.kp (b_are_parts T) (la_cons ((ln_lst (la_cons (le_tup (la_cons le_int (la_cons le_int la_nil))) la_nil))).E (la_cons le_int la_nil))).O (le_bl).O) (le_and (le_cmp c_is (le_call (ok_are_parts T) tk (hr.mono (by decide)) (by rfl) T.d_are_parts.g T.d_are_parts.F.kp (b_are_parts T) (la_cons (le_tup (la_cons (le_tup (la_cons le_int (la_cons le_int la_nil))) la_nil)) (la_cons le_int la_nil))).O (le_bl).O) (le_one (le_cmp (c_eq hu) (le_call (ok_rank T) tk (hr.mono (by decide)) (by rfl) T.d_rank.g T.d_rank.F.kp (b_rank T) (la_cons ((ln_lst la_nil)).E la_nil)).O (le_int).O)))))))))

theorem ok_law (T : Txt K mg) (holds : m_law (env0 N_law.length i_law) { nx := fun _ => False, rt := fun d => d = .bl true }) : FnOk P w K mg base (L2.CX P w) lv_law T.d_law.f T.d_law.fd p_law (spLaw K) := by
  refine T.d_law.F.okX sc_law (fun vs H Q E h => ?_) (fun cdv A outer s H vs Q E hr h => ?_)
  · obtain ⟨a, ns, rfl, _⟩ := h
    rfl
  · obtain ⟨a, ns, rfl, hS, hn, hq⟩ := h
    obtain ⟨t, pt, so⟩ := rest_law T cdv A outer s H E (fun c a _ H' => E c a H') hr (by have := hr.un; omega) (takes_of rfl rfl rfl rfl) (passes_of rfl)
    refine ⟨_, pss_cons (ps_set (i := i_law) sc_law.nd rfl (by first | exact Or.inl rfl | exact Or.inr rfl) (pe_call (ok__law_state T) (hr.mono (by decide)) (by rfl) T.d__law_state.g T.d__law_state.F.kp (b__law_state T) .nil passL (pa_cons (pv 0) pa_nil))) pt, ?_⟩
    refine ⟨_, rfl, a, ns, rfl, hS, hn, fun p1 p2 cs H1 s1 n12 h1 h2 h3 h4 => ?_⟩
    have dro : DrOk (p1, p2) H1 := ⟨0, cs, h1, h2, h3, h4, n12⟩
    have st := Stt.begin (K := K) (σ := (L2.start N_law [V.ref a]).set i_law (some (.ref p1))) (n := N_law.length) (i := i_law) rfl rfl dro
    exact so _ _ _ _ _ _ _ _ _ _ st holds ⟨fun _ _ _ _ z _ => z.elim, fun _ _ _ _ z _ => z.elim, fun _ _ _ _ z _ => z.elim, fun d v H' e _ r => by subst e; cases r; exact hq H', fun _ _ _ _ _ z _ _ => z.elim⟩
theorem all_mk {h : Heap} {fa : Addr} (X : K.In h) (G : h.Ns mainGlobals mg) (hfa : mg "law" = some (.ref fa)) (T : Txt K mg) (holds : m_law (env0 N_law.length i_law) { nx := fun _ => False, rt := fun d => d = .bl true }) :
    ∃ fd : FuncData, (∀ (s : Shared) (v : Value), BindsTo s fd ⟨[v], []⟩ [("script", v)]) ∧ ∀ base : Heap, K.In base → base.Ns mainGlobals mg → FnOk P w K mg base (L2.CX P w) lv_law fa fd ["script"] (spLaw K) := by
  have e := hfa.symm.trans T.d_law.g
  cases e
  obtain ⟨oc, od, kV, doc, pm, an, cdv, ct, osl, q, l, c⟩ := T.d_law.F.ex
  exact ⟨T.d_law.fd, fun s v => by rw [q]; exact .of_eq rfl, fun _ _ _ => ok_law T holds⟩

end
end KK

set_option maxRecDepth 100000
set_option maxHeartbeats 1000000
namespace KK
open PySem L2 DL MX
/-! parts as the law's numbers -/
def dq (q : Rat) : Dt := .tup [.int q.num, .int (q.den : Int)]
structure Sm (q : Rat) : Prop where
  n : q.num.natAbs < 2 ^ 990
  d : q.den < 2 ^ 990
theorem pw1 : (2 : Nat) ^ 990 * 2 ^ 990 = 2 ^ 1980 := (Nat.pow_add 2 990 990).symm
theorem Sm.d' {q : Rat} (h : Sm q) : ((q.den : Int)).natAbs < 2 ^ 990 := by simpa using h.d
theorem Sm.dd {a b : Rat} (h : Sm a) (k : Sm b) : ((a.den : Int) * (b.den : Int)).natAbs < 2 ^ 1980 := by
  rw [Int.natAbs_mul, ← pw1]
  exact Nat.mul_lt_mul'' h.d' k.d'
theorem Sm.dn {a b : Rat} (h : Sm a) (k : Sm b) : ((a.den : Int) * b.num).natAbs < 2 ^ 1980 := by
  rw [Int.natAbs_mul, ← pw1]
  exact Nat.mul_lt_mul'' h.d' k.n
theorem den_pos' (q : Rat) : (0 : Int) < (q.den : Int) := by have := q.den_pos; omega
theorem fmod_nat (x y : Nat) : ((x : Int)).fmod (y : Int) = ((x % y : Nat) : Int) := by
  rw [Int.fmod_eq_emod_of_nonneg _ (by omega)]; rfl
theorem abs_nat (a : Int) : (if a < 0 then -a else a) = ((a.natAbs : Nat) : Int) := by split <;> omega
theorem c_divisor {a b : Int} {P : Dt → Prop} {E : Xc → Prop} (h : P (.int (Int.gcd a b))) : sp_divisor [.int a, .int b] P E := by
  refine ⟨rfl, ?_⟩
  show m_divisor [.im (.int a), .im (.int b)] _
  simp only [m_divisor, sSeq, sPar, sWhile, sRet, xE, eCB, f1, absD, aCons, aNil, eVar, sl_c0, sl_c1, bT, eOp, neD, eC, modI, put_c0, put_c1]
  refine ⟨fun m e => ∃ x y : Nat, e = [.im (.int x), .im (.int y)] ∧ Nat.gcd x y = Int.gcd a b ∧ m = y, ⟨b.natAbs, a.natAbs, b.natAbs, ?_, rfl, rfl⟩, ?_⟩
  · rw [abs_nat, abs_nat]
  · rintro m e ⟨x, y, rfl, hg, rfl⟩
    simp
    by_cases h0 : m = 0
    · subst h0
      simp at hg ⊢
      rw [← hg] at h
      exact h
    · simp [h0]
      refine ⟨x % m, Nat.mod_lt _ (by omega), m, ⟨rfl, fmod_nat _ _⟩, ?_⟩
      rw [← hg, Nat.gcd_comm x m, Nat.gcd_rec m x, Nat.gcd_comm]
theorem fdiv_pos {a b : Int} (h : 0 < b) : a.fdiv b = a / b := Int.fdiv_eq_ediv_of_nonneg _ (by omega)
theorem gcd_le {u l : Int} (hl : l ≠ 0) : Int.gcd u l ≤ l.natAbs := Nat.le_of_dvd (Int.natAbs_pos.mpr hl) (Nat.gcd_dvd_right _ _)
theorem gcd_pos {u l : Int} (hl : l ≠ 0) : 0 < Int.gcd u l := Nat.gcd_pos_of_pos_right _ (Int.natAbs_pos.mpr hl)
theorem dq_pos {u l : Int} (hl : 0 < l) : dq (Rat.divInt u l) = .tup [.int (u / (Int.gcd u l : Nat)), .int (l / (Int.gcd u l : Nat))] := by
  unfold dq
  rw [Rat.num_divInt, Rat.den_divInt, if_neg (by omega), Int.sign_eq_one_of_pos hl, Int.one_mul, Int.gcd_comm]
  congr 3
  rw [Int.natCast_ediv]
  congr 2
  omega
theorem divInt_neg2 (u l : Int) : Rat.divInt (0 - u) (0 - l) = Rat.divInt u l := by
  rw [Int.zero_sub, Int.zero_sub, Rat.neg_divInt_neg]
theorem c_part {u l : Int} {P : Dt → Prop} {E : Xc → Prop} (hl : l ≠ 0) (hz : l.natAbs < 2 ^ 1980) (h : P (dq (Rat.divInt u l))) : sp_part [.int u, .int l] P E := by
  have key : ∀ u l : Int, 0 < l → l.natAbs < 2 ^ 1980 → P (dq (Rat.divInt u l)) → P (.tup [.int (u.fdiv (Int.gcd u l : Nat)), .int (l.fdiv (Int.gcd u l : Nat))]) := fun u l h1 h2 h3 => by
    have hg := gcd_pos (u := u) (l := l) (by omega)
    rw [fdiv_pos (by omega), fdiv_pos (by omega), ← dq_pos h1]
    exact h3
  have ok : ∀ u l a : Int, 0 < l → l.natAbs < 2 ^ 1980 → ((Int.gcd u l : Nat) : Int) ≠ 0 ∧ DivOk a (Int.gcd u l : Nat) := fun u l a h1 h2 => by
    have hg := gcd_pos (u := u) (l := l) (by omega)
    refine ⟨by omega, divOk ?_⟩
    have := gcd_le (u := u) (l := l) (by omega)
    rw [Int.natAbs_natCast]
    exact Nat.lt_of_le_of_lt this (Nat.lt_trans h2 (Nat.pow_lt_pow_right (by decide) (by decide)))
  refine ⟨rfl, ?_⟩
  show m_part [.im (.int u), .im (.int l), .no] _
  simp [m_part]
  by_cases hn : l < 0
  · simp only [hn, if_true]
    refine c_divisor ⟨ok _ _ _ (by omega) (by omega), ok _ _ _ (by omega) (by omega), key _ _ (by omega) (by omega) ?_⟩
    rw [← Int.zero_sub, ← Int.zero_sub, divInt_neg2]
    exact h
  · simp only [hn, if_false]
    exact c_divisor ⟨ok _ _ _ (by omega) hz, ok _ _ _ (by omega) hz, key _ _ (by omega) hz h⟩
theorem mul_eq (a b : Rat) : a * b = Rat.divInt (a.num * b.num) ((a.den : Int) * (b.den : Int)) := by
  conv => lhs; rw [← Rat.num_divInt_den a, ← Rat.num_divInt_den b]
  rw [Rat.divInt_mul_divInt]
theorem add_eq (a b : Rat) : a + b = Rat.divInt (a.num * (b.den : Int) + b.num * (a.den : Int)) ((a.den : Int) * (b.den : Int)) := by
  conv => lhs; rw [← Rat.num_divInt_den a, ← Rat.num_divInt_den b]
  rw [Rat.divInt_add_divInt _ _ (by have := den_pos' a; omega) (by have := den_pos' b; omega)]
theorem sub_eq (a b : Rat) : a - b = Rat.divInt (a.num * (b.den : Int) - b.num * (a.den : Int)) ((a.den : Int) * (b.den : Int)) := by
  conv => lhs; rw [← Rat.num_divInt_den a, ← Rat.num_divInt_den b]
  rw [Rat.divInt_sub_divInt _ _ (by have := den_pos' a; omega) (by have := den_pos' b; omega)]
theorem div_eq (a b : Rat) : a / b = Rat.divInt (a.num * (b.den : Int)) ((a.den : Int) * b.num) := by
  rw [Rat.div_def, Rat.inv_def]
  conv => lhs; rw [← Rat.num_divInt_den a]
  rw [Rat.divInt_mul_divInt]
theorem num_ne {b : Rat} (h : b ≠ 0) : b.num ≠ 0 := fun z => h (Rat.num_eq_zero.mp z)
theorem dd_ne (a b : Rat) : (a.den : Int) * (b.den : Int) ≠ 0 := by
  have := Int.mul_pos (den_pos' a) (den_pos' b); omega
section
variable {a b : Rat} {P : Dt → Prop} {E : Xc → Prop}
theorem mNN (ha : Sm a) (hb : Sm b) : IntMulOk a.num b.num := mulOk ha.n hb.n
theorem mND (ha : Sm a) (hb : Sm b) : IntMulOk a.num (b.den : Int) := mulOk ha.n hb.d'
theorem mDN (ha : Sm a) (hb : Sm b) : IntMulOk (a.den : Int) b.num := mulOk ha.d' hb.n
theorem mDD (ha : Sm a) (hb : Sm b) : IntMulOk (a.den : Int) (b.den : Int) := mulOk ha.d' hb.d'
theorem c_plus (ha : Sm a) (hb : Sm b) (h : P (dq (a + b))) : sp_plus [dq a, dq b] P E := by
  refine ⟨rfl, ?_⟩
  show m_plus [.im (dq a), .im (dq b)] _
  simp [m_plus, dq]
  exact ⟨mND ha hb, mND hb ha, mDD ha hb, c_part (dd_ne a b) (ha.dd hb) (by rw [← add_eq]; exact h)⟩
theorem c_minus (ha : Sm a) (hb : Sm b) (h : P (dq (a - b))) : sp_minus [dq a, dq b] P E := by
  refine ⟨rfl, ?_⟩
  show m_minus [.im (dq a), .im (dq b)] _
  simp [m_minus, dq]
  exact ⟨mND ha hb, mND hb ha, mDD ha hb, c_part (dd_ne a b) (ha.dd hb) (by rw [← sub_eq]; exact h)⟩
theorem c_times (ha : Sm a) (hb : Sm b) (h : P (dq (a * b))) : sp_times [dq a, dq b] P E := by
  refine ⟨rfl, ?_⟩
  show m_times [.im (dq a), .im (dq b)] _
  simp [m_times, dq]
  exact ⟨mNN ha hb, mDD ha hb, c_part (dd_ne a b) (ha.dd hb) (by rw [← mul_eq]; exact h)⟩
theorem c_over (ha : Sm a) (hb : Sm b) (h0 : b ≠ 0) (h : P (dq (a / b))) : sp_over [dq a, dq b] P E := by
  refine ⟨rfl, ?_⟩
  show m_over [.im (dq a), .im (dq b)] _
  simp [m_over, dq]
  exact ⟨mND ha hb, mDN ha hb, c_part (Int.mul_ne_zero (by have := den_pos' a; omega) (num_ne h0)) (ha.dn hb) (by rw [← div_eq]; exact h)⟩
theorem dq_neg (a : Rat) : dq (-a) = .tup [.int (0 - a.num), .int a.den] := by
  unfold dq
  rw [Rat.neg_num, Rat.neg_den, Int.zero_sub]
theorem c_negative (h : P (dq (-a))) : sp_negative [dq a] P E := by
  refine ⟨rfl, ?_⟩
  show m_negative [.im (dq a)] _
  rw [dq_neg] at h
  simpa [m_negative, dq] using h
theorem c__law_turn (h : P (dq (-a))) : sp__law_turn [dq a] P E := by
  refine ⟨rfl, ?_⟩
  show m__law_turn [.im (dq a)] _
  rw [dq_neg] at h
  simpa [m__law_turn, dq] using h
theorem c_is_less (ha : Sm a) (hb : Sm b) (h : P (.bl (decide (a < b)))) : sp_is_less [dq a, dq b] P E := by
  refine ⟨rfl, ?_⟩
  show m_is_less [.im (dq a), .im (dq b)] _
  simp [m_is_less, dq]
  exact ⟨mND ha hb, mND hb ha, by simpa [Rat.lt_iff] using h⟩
theorem c__law_less (ha : Sm a) (hb : Sm b) (h : P (.bl (decide (a < b)))) : sp__law_less [dq a, dq b] P E := by
  refine ⟨rfl, ?_⟩
  show m__law_less [.im (dq a), .im (dq b)] _
  simp [m__law_less, dq]
  exact ⟨mND ha hb, mND hb ha, by simpa [Rat.lt_iff] using h⟩
end
end KK

set_option maxRecDepth 100000
set_option maxHeartbeats 1000000
namespace KK
open PySem L2 DL MX
theorem half_step {x y N : Nat} (h : y < x) (hy : y ≠ 0) (hN : x * y * N < 2 ^ 3960) : x % y < y ∧ y * (x % y) * (2 * N) < 2 ^ 3960 := by
  have h1 := Nat.mod_lt x (Nat.pos_of_ne_zero hy)
  refine ⟨h1, Nat.lt_of_le_of_lt ?_ hN⟩
  have h2 : y + x % y ≤ x := by
    have := Nat.mod_add_div x y
    have h3 : 1 ≤ x / y := (Nat.one_le_div_iff (Nat.pos_of_ne_zero hy)).mpr (by omega)
    have := Nat.mul_le_mul_left y h3
    omega
  have h3 : 2 * (y * (x % y)) ≤ x * y := by
    have a := Nat.mul_le_mul_right y h2
    have b := Nat.mul_le_mul_left y (Nat.le_of_lt h1)
    rw [Nat.add_mul] at a
    have := Nat.mul_comm (x % y) y
    omega
  have e : y * (x % y) * (2 * N) = 2 * (y * (x % y)) * N := by rw [← Nat.mul_assoc, Nat.mul_comm (y * (x % y)) 2]
  rw [e]
  exact Nat.mul_le_mul_right _ h3
theorem c__law_fr {u l : Int} {P : Dt → Prop} {E : Xc → Prop} (hl : l ≠ 0) (hz : l.natAbs < 2 ^ 1980) (h : P (dq (Rat.divInt u l))) : sp__law_fr [.int u, .int l] P E := by
  have key : ∀ u l : Int, 0 < l → l.natAbs < 2 ^ 1980 → P (dq (Rat.divInt u l)) →
      sSeq (sPar 2 3 (xE (eCB (f1 absD) (aCons (eVar 0) aNil))) (xE (eVar 1)))
        (sSeq (sFor (iRange1 (aCons (eC (.int 4000)) aNil)) (gN 4) (sSeq (sIf (bT (eOp eqD (eVar 3) (eC (.int 0)))) sBreak sNext)
          (sPar 2 3 (xE (eVar 3)) (xE (eOp modI (eCB (f1 intD) (aCons (eVar 2) aNil)) (eVar 3))))))
        (sRet (eTup (aCons (eOp divI (eVar 0) (eVar 2)) (aCons (eOp divI (eVar 1) (eVar 2)) aNil))))) [.im (.int u), .im (.int l), .no, .no, .no] { nx := fun _ => P .non, rt := P, ex := E } := fun u l h1 h2 h3 => by
    simp
    have ln : ((l.natAbs : Nat) : Int) = l := by omega
    have hg := gcd_pos (u := u) (l := l) (by omega)
    have dv : ∀ a : Int, ((Int.gcd u l : Nat) : Int) ≠ 0 ∧ DivOk a (Int.gcd u l : Nat) := fun a => by
      refine ⟨by omega, divOk ?_⟩
      have := gcd_le (u := u) (l := l) (by omega)
      rw [Int.natAbs_natCast]
      exact Nat.lt_of_le_of_lt this (Nat.lt_trans h2 (Nat.pow_lt_pow_right (by decide) (by decide)))
    refine forD_inv (fun i e => ∃ (x y : Nat) (t : Sl), e = [.im (.int u), .im (.int l), .im (.int x), .im (.int y), t] ∧ Nat.gcd x y = Int.gcd u l ∧ ((i = 0 ∧ y = l.natAbs) ∨ (1 ≤ i ∧ y < x ∧ x * y * 2 ^ (i - 1) < 2 ^ 3960))) ?_ ?_ ?_
    · exact ⟨u.natAbs, l.natAbs, .no, by rw [abs_nat, ln], rfl, .inl ⟨rfl, rfl⟩⟩
    · rintro i d e - ⟨x, y, t, rfl, hgc, hi⟩ nx hnx
      simp
      by_cases h0 : y = 0
      · subst h0
        rw [Nat.gcd_zero_right] at hgc
        subst hgc
        simp only [Int.natCast_eq_zero, decide_true, if_true]
        refine ⟨⟨by omega, (dv u).2⟩, ⟨by omega, (dv l).2⟩, ?_⟩
        rw [fdiv_pos (by omega), fdiv_pos (by omega), ← dq_pos h1]
        exact h3
      · simp [h0]
        refine hnx _ ⟨y, x % y, .im d, by rw [fmod_nat], ?_, .inr ⟨by omega, ?_⟩⟩
        · rw [← hgc, Nat.gcd_comm x y, Nat.gcd_rec y x, Nat.gcd_comm]
        · rcases hi with ⟨rfl, rfl⟩ | ⟨h4, h5, h6⟩
          · have h7 := Nat.mod_lt x (Nat.pos_of_ne_zero h0)
            refine ⟨h7, ?_⟩
            simp only [Nat.zero_add, Nat.sub_self, Nat.pow_zero, Nat.mul_one]
            have e : (2 : Nat) ^ 3960 = 2 ^ 1980 * 2 ^ 1980 := Nat.pow_add 2 1980 1980
            rw [e]
            exact Nat.mul_lt_mul'' h2 (by omega)
          · have := half_step h5 h0 h6
            refine ⟨this.1, ?_⟩
            have e : (2 : Nat) ^ (i + 1 - 1) = 2 * 2 ^ (i - 1) := by
              obtain ⟨j, rfl⟩ : ∃ j, i = j + 1 := ⟨i - 1, by omega⟩
              simp [Nat.pow_succ, Nat.mul_comm]
            rw [e]
            exact this.2
    · rintro e ⟨x, y, t, rfl, hgc, hi⟩
      have hl4 : (rng 0 1 4000).length = 4000 := by simp [rng]
      rw [hl4] at hi
      have h0 : y = 0 := by
        rcases hi with ⟨h, _⟩ | ⟨_, h5, h6⟩
        · omega
        · refine Classical.byContradiction fun hy => ?_
          have : 1 ≤ x * y := Nat.mul_pos (by omega) (Nat.pos_of_ne_zero hy)
          have h7 := Nat.mul_le_mul_right (2 ^ (4000 - 1)) this
          have h8 : (2 : Nat) ^ 3960 ≤ 2 ^ (4000 - 1) := Nat.pow_le_pow_right (by decide) (by decide)
          omega
      subst h0
      rw [Nat.gcd_zero_right] at hgc
      subst hgc
      simp
      refine ⟨⟨by omega, (dv u).2⟩, ⟨by omega, (dv l).2⟩, ?_⟩
      rw [fdiv_pos (by omega), fdiv_pos (by omega), ← dq_pos h1]
      exact h3
  refine ⟨rfl, ?_⟩
  show m__law_fr [.im (.int u), .im (.int l), .no, .no, .no] _
  unfold m__law_fr
  by_cases hn : l < 0
  · have := key (0 - u) (0 - l) (by omega) (by omega) (by rw [divInt_neg2]; exact h)
    simpa [hn] using this
  · have := key u l (by omega) hz h
    simpa [hn] using this
end KK

set_option maxRecDepth 100000
set_option maxHeartbeats 1000000
namespace KK
open PySem L2 DL MX
def Sq (d : Dt) (xs : List Dt) : Prop := d = .lst xs ∨ d = .tup xs
abbrev dqs (r : List Rat) : List Dt := r.map dq
def tot (qs : List Rat) : Rat := qs.foldl (· + ·) 0
theorem dq0 : dq 0 = .tup [.int 0, .int 1] := rfl
theorem dq1 : dq 1 = .tup [.int 1, .int 1] := rfl
theorem dqi (i : Int) : dq (i : Rat) = .tup [.int i, .int 1] := rfl
theorem tot_take {qs : List Rat} {k : Nat} {q : Rat} (h : qs[k]? = some q) : tot (qs.take (k + 1)) = tot (qs.take k) + q := by
  rw [List.take_add_one, h]
  unfold tot
  rw [List.foldl_append]
  rfl
theorem pw_up {a b n : Nat} (h : n < 2 ^ a) (k : a ≤ b) : n < 2 ^ b := Nat.lt_of_lt_of_le h (Nat.pow_le_pow_right (by decide) k)
theorem smN {q : Rat} (hn : q.num.natAbs < 2 ^ 900) (hd : q.den < 2 ^ 900) : Sm q := ⟨pw_up hn (by decide), pw_up hd (by decide)⟩
/-! numbers over one divisor -/
def S1 (d X : Nat) (q : Rat) : Prop := ∃ m : Int, q * (d : Rat) = (m : Rat) ∧ m.natAbs ≤ X
theorem S1.eq {d X : Nat} {q : Rat} (hd : 0 < d) (h : S1 d X q) : ∃ m : Int, q = Rat.divInt m d ∧ m.natAbs ≤ X := by
  obtain ⟨m, e, b⟩ := h
  refine ⟨m, ?_, b⟩
  have : (d : Rat) ≠ 0 := by intro z; have : d = 0 := by exact_mod_cast z
                             omega
  rw [Rat.divInt_eq_div, ← e]
  push_cast
  grind
theorem S1.num {d X : Nat} {q : Rat} (hd : 0 < d) (h : S1 d X q) : q.num.natAbs ≤ X ∧ q.den ≤ d := by
  obtain ⟨m, e, b⟩ := h.eq hd
  subst e
  have hz : (d : Int) ≠ 0 := by omega
  refine ⟨?_, ?_⟩
  · rw [Rat.num_divInt, Int.sign_eq_one_of_pos (by omega), Int.one_mul]
    exact Nat.le_trans (Int.natAbs_ediv_le_natAbs _ _) b
  · rw [Rat.den_divInt, if_neg hz]
    simpa using Nat.div_le_self _ _
theorem S1.sm {d X : Nat} {q : Rat} (h : S1 d X q) (hd : 0 < d) (h1 : d < 2 ^ 990) (h2 : X < 2 ^ 990) : Sm q :=
  ⟨Nat.lt_of_le_of_lt (h.num hd).1 h2, Nat.lt_of_le_of_lt (h.num hd).2 h1⟩
theorem S1.add {d X Y : Nat} {a b : Rat} (h : S1 d X a) (k : S1 d Y b) : S1 d (X + Y) (a + b) := by
  obtain ⟨m, e, u⟩ := h
  obtain ⟨n, f, v⟩ := k
  refine ⟨m + n, ?_, by omega⟩
  push_cast
  rw [← e, ← f]
  grind
theorem S1.mul {d e X Y : Nat} {a b : Rat} (h : S1 d X a) (k : S1 e Y b) : S1 (d * e) (X * Y) (a * b) := by
  obtain ⟨m, p, u⟩ := h
  obtain ⟨n, q, v⟩ := k
  refine ⟨m * n, ?_, ?_⟩
  · push_cast
    rw [← p, ← q]
    grind
  · rw [Int.natAbs_mul]
    exact Nat.mul_le_mul u v
theorem S1.up {d X Y : Nat} {a : Rat} (h : S1 d X a) (k : X ≤ Y) : S1 d Y a := let ⟨m, e, u⟩ := h; ⟨m, e, Nat.le_trans u k⟩
theorem S1.scale {d e X : Nat} {a : Rat} (h : S1 d X a) : S1 (d * e) (X * e) a := by
  obtain ⟨m, p, u⟩ := h
  refine ⟨m * e, ?_, ?_⟩
  · push_cast
    rw [← p]
    grind
  · rw [Int.natAbs_mul]
    exact Nat.mul_le_mul u (by simp)
theorem S1.zero {d X : Nat} : S1 d X 0 := ⟨0, by simp, by simp⟩
theorem S1.tot {d X : Nat} : ∀ {qs : List Rat}, (∀ q ∈ qs, S1 d X q) → ∀ k, k ≤ qs.length → S1 d (k * X) (tot (qs.take k)) := by
  intro qs h k
  induction k with
  | zero => intro _; exact S1.zero
  | succ k ih =>
    intro hk
    have e : qs[k]? = some qs[k] := List.getElem?_eq_getElem (by omega)
    rw [tot_take e, Nat.succ_mul]
    exact (ih (by omega)).add (h _ (List.getElem_mem _))
structure Sums (qs : List Rat) : Prop where
  p : ∀ k, k ≤ qs.length → Sm (tot (qs.take k))
  q : ∀ q ∈ qs, Sm q
theorem Sums.of {d X : Nat} {qs : List Rat} (hd : 0 < d) (h1 : d < 2 ^ 990) (hX : X < 2 ^ 990) (h2 : qs.length * X < 2 ^ 990) (h : ∀ q ∈ qs, S1 d X q) : Sums qs :=
  ⟨fun k hk => (S1.tot h k hk).sm hd h1 (Nat.lt_of_le_of_lt (Nat.mul_le_mul_right _ hk) h2), fun q hq => (h q hq).sm hd h1 hX⟩
section
variable {a b : Rat} {P : Dt → Prop} {E : Xc → Prop} {d d' : Dt}
theorem c__law_add (ha : Sm a) (hb : Sm b) (h : P (dq (a + b))) : sp__law_add [dq a, dq b] P E := by
  refine ⟨rfl, ?_⟩
  show m__law_add [.im (dq a), .im (dq b)] _
  simp [m__law_add, dq]
  exact ⟨mND ha hb, mND hb ha, mDD ha hb, c__law_fr (dd_ne a b) (ha.dd hb) (by rw [← add_eq]; exact h)⟩
theorem Sm.neg (h : Sm a) : Sm (-a) := ⟨by rw [Rat.neg_num, Int.natAbs_neg]; exact h.n, h.d⟩
theorem c__law_sub (ha : Sm a) (hb : Sm b) (h : P (dq (a - b))) : sp__law_sub [dq a, dq b] P E := by
  refine ⟨rfl, ?_⟩
  show m__law_sub [.im (dq a), .im (dq b)] _
  have := c__law_add (P := P) (E := E) ha hb.neg (by rw [← Rat.sub_eq_add_neg]; exact h)
  rw [dq_neg] at this
  simpa [m__law_sub, dq] using this
theorem c__law_mul (ha : Sm a) (hb : Sm b) (h : P (dq (a * b))) : sp__law_mul [dq a, dq b] P E := by
  refine ⟨rfl, ?_⟩
  show m__law_mul [.im (dq a), .im (dq b)] _
  simp [m__law_mul, dq]
  exact ⟨mNN ha hb, mDD ha hb, c__law_fr (dd_ne a b) (ha.dd hb) (by rw [← mul_eq]; exact h)⟩
theorem c__law_over (ha : Sm a) (hb : Sm b) (h0 : b ≠ 0) (h : P (dq (a / b))) : sp__law_over [dq a, dq b] P E := by
  refine ⟨rfl, ?_⟩
  show m__law_over [.im (dq a), .im (dq b)] _
  simp [m__law_over, dq]
  exact ⟨mND ha hb, mDN ha hb, c__law_fr (Int.mul_ne_zero (by have := den_pos' a; omega) (num_ne h0)) (ha.dn hb) (by rw [← div_eq]; exact h)⟩
theorem Sq.seq {xs : List Dt} (h : Sq d xs) {R : List Dt → Prop} (r : R xs) : seqD d R := by rcases h with rfl | rfl <;> exact r
theorem Sq.len {xs : List Dt} (h : Sq d xs) {R : Dt → Prop} (r : R (.int xs.length)) : lenD d R := by rcases h with rfl | rfl <;> exact r
theorem Sq.ix {xs : List Dt} (h : Sq d xs) {R : Dt → Prop} {i : Nat} {x : Dt} (e : xs[i]? = some x) (r : R x) : ixD d (.int (i : Int)) R := by rcases h with rfl | rfl <;> exact ⟨x, atI_nat e, r⟩
theorem Sq.lst {xs : List Dt} (h : Sq d xs) {R : Dt → Prop} (r : R (.lst xs)) : lstD d R := by rcases h with rfl | rfl <;> exact r
theorem Sq.tup {xs : List Dt} (h : Sq d xs) {R : Dt → Prop} (r : R (.tup xs)) : tupD d R := by rcases h with rfl | rfl <;> exact r
theorem get_dqs {r : List Rat} {k : Nat} (h : k < r.length) : (dqs r)[k]? = some (dq (g r k)) := by simp [dqs, g, List.getD_eq_getElem?_getD, h]
theorem Sq.ixg {r : List Rat} (h : Sq d (dqs r)) {R : Dt → Prop} {k : Nat} (hk : k < r.length) (q : R (dq (g r k))) : ixD d (.int (k : Int)) R := h.ix (get_dqs hk) q
theorem c_total {qs : List Rat} (hd : Sq d (dqs qs)) (s : Sums qs) (h : P (dq (tot qs))) : sp_total [d] P E := by
  refine ⟨rfl, ?_⟩
  show m_total [.im d, .no, .no] _
  simp [m_total]
  refine hd.seq (forD_inv (fun i e => ∃ t, e = [.im d, .im (dq (tot (qs.take i))), t]) ⟨.no, rfl⟩ ?_ ?_)
  · rintro i x e hx ⟨t, rfl⟩ nx hnx
    obtain ⟨q, hq, rfl⟩ : ∃ q, qs[i]? = some q ∧ dq q = x := by simpa using hx
    have hi : i < qs.length := (List.getElem?_eq_some_iff.mp hq).1
    simp
    exact c_plus (s.p i (by omega)) (s.q q (List.mem_of_getElem? hq)) (hnx _ ⟨_, by rw [tot_take hq]⟩)
  · rintro e ⟨t, rfl⟩
    simp
    exact h
theorem c__law_sum {qs : List Rat} (hd : Sq d (dqs qs)) (s : Sums qs) (h : P (dq (tot qs))) : sp__law_sum [d] P E := by
  refine ⟨rfl, ?_⟩
  show m__law_sum [.im d, .no, .no] _
  simp [m__law_sum]
  refine hd.seq (forD_inv (fun i e => ∃ t, e = [.im d, .im (dq (tot (qs.take i))), t]) ⟨.no, rfl⟩ ?_ ?_)
  · rintro i x e hx ⟨t, rfl⟩ nx hnx
    obtain ⟨q, hq, rfl⟩ : ∃ q, qs[i]? = some q ∧ dq q = x := by simpa using hx
    have hi : i < qs.length := (List.getElem?_eq_some_iff.mp hq).1
    simp
    exact c__law_add (s.p i (by omega)) (s.q q (List.mem_of_getElem? hq)) (hnx _ ⟨_, by rw [tot_take hq]⟩)
  · rintro e ⟨t, rfl⟩
    simp
    exact h
theorem tot_range (n : Nat) (f : Nat → Rat) : tot ((List.range n).map f) = sm n f := by
  unfold tot
  induction n with
  | zero => rfl
  | succ n ih => rw [List.range_succ, List.map_append, List.foldl_append, ih]; rfl
/-- what two rows' sum of products asks -/
structure Dots (r s : List Rat) : Prop where
  len : r.length ≤ s.length
  big : r.length ≤ 16777216
  ra : ∀ k, k < r.length → Sm (g r k)
  sa : ∀ k, k < r.length → Sm (g s k)
  t : Sums ((List.range r.length).map fun k => g r k * g s k)
theorem c_dot {r s : List Rat} (hd : Sq d (dqs r)) (hd' : Sq d' (dqs s)) (D : Dots r s) (h : P (dq (dt r.length (g r) (g s)))) : sp_dot [d, d'] P E := by
  refine ⟨rfl, ?_⟩
  show m_dot [.im d, .im d', .no] _
  have b := D.big
  simp [m_dot]
  refine hd.len ?_
  simp
  refine ⟨by omega, by simp [rng]; omega, ?_⟩
  rw [rng0, ← List.nil_append (List.map _ _)]
  refine compD_mapG (fun k => dq (g r k * g s k)) (fun k hk Q R q => ?_) ?_
  · have hk := List.mem_range.mp hk
    have := D.len
    unfold cStep
    simp
    exact hd.ixg hk (hd'.ixg (by omega) (c_times (D.ra k hk) (D.sa k hk) q))
  · refine c_total (qs := (List.range r.length).map fun k => g r k * g s k) (.inl (by simp [dqs])) D.t ?_
    rw [tot_range]
    exact h
theorem c__law_dot {r s : List Rat} (hd : Sq d (dqs r)) (hd' : Sq d' (dqs s)) (D : Dots r s) (h : P (dq (dt r.length (g r) (g s)))) : sp__law_dot [d, d'] P E := by
  refine ⟨rfl, ?_⟩
  show m__law_dot [.im d, .im d', .no] _
  have b := D.big
  simp [m__law_dot]
  refine hd.len ?_
  simp
  refine ⟨by omega, by simp [rng]; omega, ?_⟩
  rw [rng0]
  refine compD_mapG (fun k => dq (g r k * g s k)) (fun k hk Q R q => ?_) ?_
  · have hk := List.mem_range.mp hk
    have := D.len
    unfold cStep
    simp
    exact hd.ixg hk (hd'.ixg (by omega) (c__law_mul (D.ra k hk) (D.sa k hk) q))
  · refine c__law_sum (qs := (List.range r.length).map fun k => g r k * g s k) (.inl (by simp [dqs])) D.t ?_
    rw [tot_range]
    exact h
end
end KK

set_option maxRecDepth 100000
set_option maxHeartbeats 1000000
namespace KK
open PySem L2 DL MX
theorem strOk_of (s : String) : PyData.strOk (PySem.Str.ofString s) = true := by
  rw [PySem.Str.ofString_eq_toList]
  unfold PyData.strOk
  simp only [← Array.all_toList, List.all_eq_true]
  intro c hc
  obtain ⟨d, _, rfl⟩ := List.mem_map.mp hc
  have := d.valid
  unfold UInt32.isValidChar Nat.isValidChar at this
  exact decide_eq_true (by show d.val.toNat < _; omega)
theorem strOk_app {x y : PySem.Str} (hx : PyData.strOk x = true) (hy : PyData.strOk y = true) : PyData.strOk (x ++ y) = true := by
  unfold PyData.strOk at hx hy ⊢
  show (x.cps ++ y.cps).all _ = true
  rw [Array.all_append, hx, hy]; rfl
section
variable {a b : Rat} {P : Dt → Prop} {E : Xc → Prop} {d d' : Dt}
def tx (q : Rat) : PySem.Str := if q.den = 1 then PySem.Str.ofString (toString q.num) else PySem.Str.ofString (toString q.num) ++ PySem.Str.ofString "/" ++ PySem.Str.ofString (toString (q.den : Int))
theorem len_num {i : Int} (h : i.natAbs < 1024) : (PySem.Str.ofString (toString i)).length ≤ 11 := by
  have e := int_text_length_le (a := i) (k := 10) (by decide) (by
    by_cases h0 : i.natAbs = 0
    · rw [h0]; decide
    · exact (Nat.log2_lt h0).mpr h)
  rw [ofString_length]; exact e
theorem log_num {i : Int} (h : i.natAbs < 1024) : i.natAbs.log2 < 1920 := by
  by_cases h0 : i.natAbs = 0
  · rw [h0]; decide
  · have := (Nat.log2_lt h0).mpr (show i.natAbs < 2 ^ 10 from h)
    omega
theorem tx_ok (q : Rat) : pln 0 (.str (tx q)) := by
  refine pln_str ?_
  unfold tx
  split
  · exact strOk_of _
  · exact strOk_app (strOk_app (strOk_of _) (strOk_of _)) (strOk_of _)
theorem len_app (x y : PySem.Str) : (x ++ y).length = x.length + y.length := by
  show (x.cps ++ y.cps).size = _
  rw [Array.size_append]; rfl
theorem t_text {env : List Sl} {i : Nat} (he : sl env i = .im (dq a)) (hn : a.num.natAbs < 1024) (hd : a.den < 1024) (h : P (.str (tx a))) : (eIf (bT (eOp eqD (eOp ixD (eVar i) (eC (.int 1))) (eC (.int 1)))) (eCB (f1 strD) (aCons (eOp ixD (eVar i) (eC (.int 0))) aNil)) (eOp catS (eOp catS (eCB (f1 strD) (aCons (eOp ixD (eVar i) (eC (.int 0))) aNil)) (eC (.str (PySem.Str.ofString "/")))) (eCB (f1 strD) (aCons (eOp ixD (eVar i) (eC (.int 1))) aNil)))) env P E := by
  simp [he, dq]
  have hd' : ((a.den : Int)).natAbs < 1024 := by simpa using hd
  unfold tx at h
  by_cases h1 : a.den = 1
  · rw [if_pos h1] at h
    simp [h1]
    exact ⟨log_num hn, h⟩
  · rw [if_neg h1] at h
    have : (a.den : Int) ≠ 1 := by omega
    simp [this]
    have l1 : (PySem.Str.ofString (Int.repr a.num)).length ≤ 11 := len_num hn
    have l2 : (PySem.Str.ofString (Int.repr (a.den : Int))).length ≤ 11 := len_num hd'
    have l3 : (PySem.Str.ofString "/").length = 1 := by rw [ofString_length]; rfl
    rw [len_app]
    exact ⟨log_num hn, by omega, log_num hd', by omega, h⟩
theorem c_text_of (hn : a.num.natAbs < 1024) (hd : a.den < 1024) (h : P (.str (tx a))) : sp_text_of [dq a] P E := by
  refine ⟨rfl, ?_⟩
  show m_text_of [.im (dq a)] _
  exact t_text rfl hn hd h
theorem c_whole_below (ha : Sm a) (h : P (.int (a.num / a.den))) : sp_whole_below [dq a] P E := by
  refine ⟨rfl, ?_⟩
  show m_whole_below [.im (dq a)] _
  simp [m_whole_below, dq]
  have := den_pos' a
  refine ⟨⟨a.den_nz, divOk (Nat.lt_trans ha.d' (Nat.pow_lt_pow_right (by decide) (by decide)))⟩, ?_⟩
  rw [fdiv_pos (den_pos' a)]
  exact h
def pws (q : Rat) : Nat → Rat
  | 0 => 1
  | n + 1 => pws q n * q
theorem S1.pws {d X : Nat} {q : Rat} (h : S1 d X q) : ∀ n, S1 (d ^ n) (X ^ n) (pws q n)
  | 0 => ⟨1, by simp [KK.pws], by simp⟩
  | n + 1 => by
    rw [Nat.pow_succ, Nat.pow_succ]
    exact (S1.pws h n).mul h
theorem c_power {n : Nat} (hn : n ≤ 1000) (ha : Sm a) (hs : ∀ k, k < n → Sm (pws a k)) (h : P (dq (pws a n))) : sp_power [dq a, .int (n : Int)] P E := by
  refine ⟨rfl, ?_⟩
  show m_power [.im (dq a), .im (.int n), .no, .no] _
  simp [m_power]
  refine ⟨by omega, ?_⟩
  refine forD_inv (fun i e => ∃ t, e = [.im (dq a), .im (.int n), .im (dq (pws a i)), t]) ⟨.no, rfl⟩ ?_ ?_
  · rintro i x e hx ⟨t, rfl⟩ nx hnx
    have hi : i < n := by
      have := (List.getElem?_eq_some_iff.mp hx).1
      simpa [rng] using this
    simp
    exact c_times (hs i hi) ha (hnx _ ⟨_, rfl⟩)
  · rintro e ⟨t, rfl⟩
    simp [rng]
    exact h
theorem get_rng {n i : Nat} {x : Dt} (h : (rng 0 1 n)[i]? = some x) : i < n ∧ x = .int (i : Int) := by
  rw [rng0] at h
  have := (List.getElem?_eq_some_iff.mp h).1
  simp at this
  simp [this] at h
  exact ⟨this, h.symm⟩
theorem rng_len (n : Nat) (a c : Int) : (rng a c n).length = n := by simp [rng]
theorem c_least {qs : List Rat} (hd : Sq d (dqs qs)) (s : ∀ q ∈ qs, Sm q) (h0 : qs = [] → P .non) (h1 : ∀ m, m ∈ qs → (∀ q ∈ qs, ¬ q < m) → P (dq m)) : sp_least [d] P E := by
  refine ⟨rfl, ?_⟩
  show m_least [.im d, .no, .no] _
  simp [m_least]
  refine hd.seq (forD_inv (fun i e => ∃ v t, e = [.im d, .im v, t] ∧ ((i = 0 ∧ v = .non) ∨ ∃ m, m ∈ qs.take i ∧ (∀ q ∈ qs.take i, ¬ q < m) ∧ v = dq m)) ⟨.non, .no, rfl, .inl ⟨rfl, rfl⟩⟩ ?_ ?_)
  · rintro i x e hx ⟨v, t, rfl, hv⟩ nx hnx
    obtain ⟨q, hq, rfl⟩ : ∃ q, qs[i]? = some q ∧ dq q = x := by simpa using hx
    have ht : qs.take (i + 1) = qs.take i ++ [q] := by rw [List.take_add_one, hq]; rfl
    have mq : q ∈ qs := List.mem_of_getElem? hq
    rcases hv with ⟨rfl, rfl⟩ | ⟨m, hm, hle, rfl⟩
    · simp
      exact hnx _ ⟨_, _, rfl, .inr ⟨q, by simp [ht], by simp [ht], rfl⟩⟩
    · have : isNonD (dq m) = false := rfl
      simp [this]
      refine c_is_less (s q mq) (s m (List.mem_of_mem_take hm)) ?_
      by_cases hl : q < m
      · simp [hl]
        refine hnx _ ⟨_, _, rfl, .inr ⟨q, by simp [ht], ?_, rfl⟩⟩
        intro r hr
        rw [ht, List.mem_append, List.mem_singleton] at hr
        rcases hr with hr | rfl
        · have := hle r hr; grind
        · grind
      · simp [hl]
        refine hnx _ ⟨_, _, rfl, .inr ⟨m, by simp [ht, hm], ?_, rfl⟩⟩
        intro r hr
        rw [ht, List.mem_append, List.mem_singleton] at hr
        rcases hr with hr | rfl
        · exact hle r hr
        · exact hl
  · rintro e ⟨v, t, rfl, hv⟩
    rw [dqs, List.length_map, List.take_length] at hv
    simp
    rcases hv with ⟨h2, rfl⟩ | ⟨m, hm, hle, rfl⟩
    · exact h0 (List.length_eq_zero_iff.mp h2)
    · exact h1 m hm hle
theorem c_most {qs : List Rat} (hd : Sq d (dqs qs)) (s : ∀ q ∈ qs, Sm q) (h0 : qs = [] → P .non) (h1 : ∀ m, m ∈ qs → (∀ q ∈ qs, ¬ m < q) → P (dq m)) : sp_most [d] P E := by
  refine ⟨rfl, ?_⟩
  show m_most [.im d, .no, .no] _
  simp [m_most]
  refine hd.seq (forD_inv (fun i e => ∃ v t, e = [.im d, .im v, t] ∧ ((i = 0 ∧ v = .non) ∨ ∃ m, m ∈ qs.take i ∧ (∀ q ∈ qs.take i, ¬ m < q) ∧ v = dq m)) ⟨.non, .no, rfl, .inl ⟨rfl, rfl⟩⟩ ?_ ?_)
  · rintro i x e hx ⟨v, t, rfl, hv⟩ nx hnx
    obtain ⟨q, hq, rfl⟩ : ∃ q, qs[i]? = some q ∧ dq q = x := by simpa using hx
    have ht : qs.take (i + 1) = qs.take i ++ [q] := by rw [List.take_add_one, hq]; rfl
    have mq : q ∈ qs := List.mem_of_getElem? hq
    rcases hv with ⟨rfl, rfl⟩ | ⟨m, hm, hle, rfl⟩
    · simp
      exact hnx _ ⟨_, _, rfl, .inr ⟨q, by simp [ht], by simp [ht], rfl⟩⟩
    · have : isNonD (dq m) = false := rfl
      simp [this]
      refine c_is_less (s m (List.mem_of_mem_take hm)) (s q mq) ?_
      by_cases hl : m < q
      · simp [hl]
        refine hnx _ ⟨_, _, rfl, .inr ⟨q, by simp [ht], ?_, rfl⟩⟩
        intro r hr
        rw [ht, List.mem_append, List.mem_singleton] at hr
        rcases hr with hr | rfl
        · have := hle r hr; grind
        · grind
      · simp [hl]
        refine hnx _ ⟨_, _, rfl, .inr ⟨m, by simp [ht, hm], ?_, rfl⟩⟩
        intro r hr
        rw [ht, List.mem_append, List.mem_singleton] at hr
        rcases hr with hr | rfl
        · exact hle r hr
        · exact hl
  · rintro e ⟨v, t, rfl, hv⟩
    rw [dqs, List.length_map, List.take_length] at hv
    simp
    rcases hv with ⟨h2, rfl⟩ | ⟨m, hm, hle, rfl⟩
    · exact h0 (List.length_eq_zero_iff.mp h2)
    · exact h1 m hm hle
/-- numbers drawn: sixths -/
theorem c__law_drawn {w : Nat} (hw : w ≤ 1000) (h : ∀ q, S1 6 (6 * w) q → P (dq q)) : sp__law_drawn [.st, .int (w : Int)] P E := by
  refine ⟨rfl, ?_⟩
  show m__law_drawn [.im .st, .im (.int w)] _
  simp [m__law_drawn, sp__law_take]
  refine ⟨mulOk (m := 8) (n := 16) (by decide) (by simp; omega), by omega, fun t h1 h2 => ?_⟩
  intro s hs1 hs2
  have ht : t.natAbs ≤ 2 * w ∧ 0 ≤ t := by
    by_cases h3 : (2 : Int) * w + 1 < 2
    · have := h1 h3; subst this; simp
    · have := h2 (by omega); omega
  refine c__law_fr (by omega) (by
    have : (1 + s).natAbs < 2 ^ 2 := by omega
    exact Nat.lt_of_lt_of_le this (Nat.pow_le_pow_right (by decide) (by decide))) (h _ ?_)
  have hcase : s = 0 ∨ s = 1 ∨ s = 2 := by omega
  rcases hcase with rfl | rfl | rfl
  · refine ⟨(t - w) * 6, ?_, by rw [Int.natAbs_mul]; show _ * 6 ≤ _; omega⟩
    rw [Rat.divInt_eq_div]; push_cast; grind
  · refine ⟨(t - w) * 3, ?_, by rw [Int.natAbs_mul]; show _ * 3 ≤ _; omega⟩
    rw [Rat.divInt_eq_div]; push_cast; grind
  · refine ⟨(t - w) * 2, ?_, by rw [Int.natAbs_mul]; show _ * 2 ≤ _; omega⟩
    rw [Rat.divInt_eq_div]; push_cast; grind
end
end KK

set_option maxRecDepth 100000
set_option maxHeartbeats 1000000
namespace KK
open PySem L2 DL MX
def dR (r : List Rat) : Dt := .lst (dqs r)
def dM (A : List (List Rat)) : Dt := .lst (A.map dR)
def dL (L : List Nat) : Dt := .lst (L.map fun (n : Nat) => .int (n : Int))
abbrev Rws (ds : List Dt) (M : List (List Rat)) : Prop := All2 (fun x r => Sq x (dqs r)) ds M
def Mt (d : Dt) (M : List (List Rat)) : Prop := ∃ ds, Sq d ds ∧ Rws ds M
/-- what putting out asks of a table -/
structure Tab (n W X : Nat) (M : List (List Rat)) : Prop where
  nW : n ≤ W
  w : ∀ r ∈ M, r.length = W
  W0 : W ≤ 1000
  m0 : M.length ≤ 1000
  X0 : 0 < X
  sc : ∃ d : Nat, 0 < d ∧ d ≤ X ∧ ∀ r ∈ M, ScV d X r
  bd : ∀ k, k ≤ n → bnd X k < 2 ^ 900
section
variable {n W X c : Nat} {M T R T' R' : List (List Rat)} {L L' : List Nat} {P : Dt → Prop} {E : Xc → Prop} {d d' : Dt}
theorem _root_.MX.Inv.len_le (I : Inv n W c X M T R L) : L.length ≤ n := Nat.le_trans (sorted_sub I.sorted (range_sorted n) fun l hl => List.mem_range.mpr (Nat.lt_of_lt_of_le (I.lt l hl) I.cn)).length_le (by rw [List.length_range]; exact Nat.le_refl _)
theorem _root_.MX.Inv.lt_len (I : Inv n W c X M T R L) (hc : c < n) : L.length < n := by
  have := (sorted_sub I.sorted (range_sorted c) fun l hl => List.mem_range.mpr (I.lt l hl)).length_le
  rw [List.length_range] at this
  omega
theorem up900 {a : Nat} (h : a < 2 ^ 900) : a < 2 ^ 990 := pw_up h (by decide)
theorem _root_.MX.Inv.small (I : Inv n W c X M T R L) (B : Tab n W X M) {r : List Rat} (hr : r ∈ T ∨ r ∈ R) (j : Nat) : Sm (g r j) := by
  obtain ⟨d, h1, h2, h3⟩ := I.sc B.X0
  have b := B.bd _ I.len_le
  exact S1.sm (h3 r hr j) h1 (up900 (Nat.lt_of_le_of_lt h2 b)) (up900 b)
theorem _root_.MX.Inv.smallP (I : Inv n W c X M T R L) (B : Tab n W X M) (hc : c < n) {q : List Rat} (mq : q ∈ R) (h0 : g q c ≠ 0) (j : Nat) : Sm (g (nrm q c) j) := by
  obtain ⟨d, h1, h2, h3, _⟩ := I.mid B.X0 mq h0
  have b := B.bd (L.length + 1) (I.lt_len hc)
  exact S1.sm (h3 j) h1 (up900 (Nat.lt_of_le_of_lt h2 b)) (up900 b)
theorem _root_.MX.Inv.smallM (I : Inv n W c X M T R L) (B : Tab n W X M) (hc : c < n) {q : List Rat} (mq : q ∈ R) (h0 : g q c ≠ 0) {r : List Rat} (hr : r ∈ T ∨ r ∈ R) (j : Nat) : Sm (g r c * g (nrm q c) j) := by
  obtain ⟨d, h1, h2, _, h3⟩ := I.mid B.X0 mq h0
  have b := B.bd (L.length + 1) (I.lt_len hc)
  exact S1.sm (h3 r hr j) h1 (up900 (Nat.lt_of_le_of_lt h2 b)) (up900 b)
theorem _root_.MX.Inv.wid (I : Inv n W c X M T R L) {r : List Rat} (hr : r ∈ T ∨ r ∈ R) : r.length = W := by
  rcases hr with h | h
  · exact I.wT r h
  · exact I.wR r h
theorem num_zero {q : Rat} : (q.num = 0) ↔ q = 0 := Rat.num_eq_zero
theorem mem_g {r : List Rat} {q : Rat} (h : q ∈ r) : ∃ j, j < r.length ∧ g r j = q := by
  obtain ⟨j, hj, e⟩ := List.mem_iff_getElem.mp h
  exact ⟨j, hj, by simp [g, List.getD_eq_getElem?_getD, hj, e]⟩
theorem sq_row (r : List Rat) : Sq (dR r) (dqs r) := .inl rfl
theorem get_dM {A : List (List Rat)} {i : Nat} (h : i < A.length) : (A.map dR)[i]? = some (dR (A.getD i [])) := by simp [List.getD_eq_getElem?_getD, h]
theorem mem_getD {A : List (List Rat)} {i : Nat} (h : i < A.length) : A.getD i [] ∈ A := at_mem h
theorem getD_app2 {A B : List (List Rat)} {i : Nat} : (A ++ B).getD (A.length + i) [] = B.getD i [] := by simp [List.getD_eq_getElem?_getD, List.getElem?_append_right]
theorem get_g {r : List Rat} {k : Nat} (h : k < r.length) : r[k]? = some (g r k) := by simp [g, List.getD_eq_getElem?_getD, h]
theorem perm_erase : ∀ {R : List (List Rat)} {i : Nat}, i < R.length → R.Perm (R.getD i [] :: R.eraseIdx i)
  | [], _, h => by simp at h
  | r :: R, 0, _ => by simp
  | r :: R, i + 1, h => by
    have := perm_erase (R := R) (i := i) (by simpa using h)
    refine (this.cons r).trans ?_
    rw [List.getD_cons_succ, List.eraseIdx_cons_succ]
    exact .swap _ _ _
theorem erase_map {α β : Type} {f : α → β} : ∀ {xs : List α} {i : Nat}, (xs.map f).eraseIdx i = (xs.eraseIdx i).map f
  | [], _ => by simp
  | x :: xs, 0 => rfl
  | x :: xs, i + 1 => by simp [erase_map (xs := xs) (i := i)]
theorem cut_take {α : Type} {xs : List α} {k : Nat} (h : k ≤ xs.length) : cut xs none (some (k : Int)) = xs.take k := by
  unfold cut
  rw [HT.sIx_nat, HT.sIx_none, List.drop_zero, Nat.sub_zero, Nat.min_eq_left h]
theorem cut_drop {α : Type} {xs : List α} {k : Nat} (h : k ≤ xs.length) : cut xs (some (k : Int)) none = xs.drop k := by
  unfold cut
  rw [HT.sIx_nat, HT.sIx_none, Nat.min_eq_left h, ← List.length_drop, List.take_length]
theorem c__law_put_out (hd : Mt d M) (B : Tab n W X M) (h : ∀ T R L, Inv n W n X M T R L → P (.tup [dM (T ++ R), dL L])) : sp__law_put_out [d, .int (n : Int)] P E := by
  obtain ⟨ds, hs, ha⟩ := hd
  have hW := B.W0
  have hm := B.m0
  have hn := B.nW
  refine ⟨rfl, ?_⟩
  show m__law_put_out [.im d, .im (.int n), .no, .no, .no, .no, .no, .no, .no, .no, .no, .no] _
  unfold m__law_put_out
  simp only [sSeq, sMany, xCons, xN, nComp, iOf, eVar, sl_c0, sl_c1]
  refine hs.seq ⟨by have := ha.len; omega, compD_a2 dR ha (fun x a _ s Q R q => ?_) ?_⟩
  · unfold cStep
    simp
    exact s.lst q
  simp
  refine ⟨by omega, ?_⟩
  refine forD_inv (fun c e => ∃ T R L x4 x5 x6 x7 x8 x9 x10 x11, Inv n W c X M T R L ∧ e = [.im d, .im (.int n), .ow (dM (T ++ R)), .ow (dL L), x4, x5, x6, x7, x8, x9, x10, x11]) ?_ ?_ ?_
  · exact ⟨[], M, [], _, _, _, _, _, _, _, _, Inv.start B.nW B.w fun _ => B.sc, rfl⟩
  · rintro c x e hx ⟨T, R, L, x4, x5, x6, x7, x8, x9, x10, x11, I, rfl⟩ nx hnx
    obtain ⟨hc, rfl⟩ := get_rng hx
    have hTL := I.len
    have htot := I.tot
    have hc' : c < n := by omega
    have hRn : ((((T ++ R).map dR).length : Int) - ((L.map fun (n : Nat) => Dt.int (n : Int)).length : Int)).toNat = R.length := by simp; omega
    simp [dM, dL, -List.map_append]
    simp only [List.length_map, List.length_append] at hRn
    refine ⟨by omega, by rw [rng_len]; omega, ?_⟩
    rw [show ((T.length : Int) + (R.length : Int)).toNat - L.length = R.length by omega, rng_lo]
    refine compD_fmG (fun i => decide (g (R.getD i []) c ≠ 0)) (fun i => Dt.int ((L.length : Int) + (i : Int))) (fun i hi Q K q => ?_) ?_
    · have hi := List.mem_range.mp hi
      unfold cStep
      simp [wipeE, -List.map_append, -List.getD_eq_getElem?_getD]
      rw [show ((L.length : Int) + (i : Int)) = ((T.length + i : Nat) : Int) by omega] at q ⊢
      have e1 : ((T ++ R).map dR)[T.length + i]? = some (dR (R.getD i [])) := by
        rw [get_dM (by rw [List.length_append]; omega), getD_app2]
      have w1 := I.wR _ (mem_getD hi)
      refine ixL e1 (ixL (get_dqs (by omega)) ?_)
      by_cases h0 : g (R.getD i []) c = 0
      · rw [if_neg (by rw [decide_eq_true_iff]; exact fun z => z h0)] at q
        simp [dq, h0, -List.getD_eq_getElem?_getD]
        exact q
      · rw [if_pos (decide_eq_true h0)] at q
        have h1 := num_ne h0
        simp [dq, h1, -List.getD_eq_getElem?_getD]
        exact q
    rw [List.nil_append]
    generalize hF : (List.range R.length).filter (fun i => decide (g (R.getD i []) c ≠ 0)) = F
    have pF : pln 1 (.lst (F.map fun (i : Nat) => Dt.int ((L.length : Int) + (i : Int)))) := fun x hx => by
      obtain ⟨i, _, rfl⟩ := List.mem_map.mp hx
      exact pln_int
    have p0 : pln 1 (.lst []) := fun x hx => by simp at hx
    refine ⟨⟨pF.ok, p0.ok⟩, ?_⟩
    cases F with
    | nil =>
      rw [List.map_nil, eqv_self p0, if_pos rfl]
      refine hnx _ ⟨T, R, L, _, _, _, _, _, _, _, _, I.skip hc' fun r hr => ?_, rfl⟩
      obtain ⟨i, hi, rfl⟩ := mem_at hr
      refine Classical.byContradiction fun z => ?_
      have : i ∈ ([] : List Nat) := by rw [← hF]; exact List.mem_filter.mpr ⟨List.mem_range.mpr hi, by simpa using z⟩
      simp at this
    | cons i0 rest =>
      have m0 : i0 ∈ (List.range R.length).filter (fun i => decide (g (R.getD i []) c ≠ 0)) := by rw [hF]; simp
      obtain ⟨hi0, h0⟩ := List.mem_filter.mp m0
      have hi0 := List.mem_range.mp hi0
      have h0 : g (R.getD i0 []) c ≠ 0 := by simpa using h0
      rw [eqv_false pF p0 (by simp), if_neg (by simp)]
      simp [-List.map_append]
      have hq : (T ++ R)[T.length + i0]? = some (R.getD i0 []) := by
        rw [List.getElem?_append_right (by omega), List.getD_eq_getElem?_getD]
        simp [hi0]
      generalize hqd : R.getD i0 [] = q at *
      have mq : q ∈ R := by rw [← hqd]; exact mem_getD hi0
      have wq := I.wR q mq
      have st := I.step hc' (R' := R.eraseIdx i0) (q := q) (by
        rw [← hqd]
        exact perm_erase hi0) h0
      have er : ((T ++ R).map dR).eraseIdx (T.length + i0) = (T ++ R.eraseIdx i0).map dR := by
        rw [erase_map, List.eraseIdx_append_of_length_le (by omega)]
        simp
      refine ⟨by omega, T.length + i0, ?_, _, ⟨_, hq, rfl⟩, ?_⟩
      · unfold ixN
        rw [if_pos (by omega), if_pos (by omega)]
        congr 1
        omega
      rw [er]
      simp only [dR]
      refine ⟨by simp; omega, compD_mapG (fun x => dq (x / g q c)) (fun x hx Q K k => ?_) ?_⟩
      · obtain ⟨j, hj, rfl⟩ := mem_g hx
        unfold cStep
        simp [wipeE, -List.map_append, -List.getD_eq_getElem?_getD]
        exact ⟨_, ⟨_, get_g (by omega), rfl⟩, c__law_over (I.small B (.inr mq) j) (I.small B (.inr mq) c) h0 k⟩
      have hE : R.length = (R.eraseIdx i0).length + 1 := by rw [List.length_eraseIdx_of_lt hi0]; omega
      have ep : ([] ++ q.map fun x => dq (x / g q c)) = dqs (nrm q c) := by simp [nrm, dqs]
      rw [ep]
      have wp : (nrm q c).length = W := by rw [nrm_len, wq]
      refine ⟨by simp; omega, compD_mapG (fun r => dR (upd (nrm q c) c r)) (fun r hr Q K k => ?_) ?_⟩
      · have hr' : r ∈ T ∨ r ∈ R := by
          rcases List.mem_append.mp hr with z | z
          · exact .inl z
          · exact .inr (List.mem_of_mem_eraseIdx z)
        have wr := I.wid hr'
        unfold cStep
        simp [wipeE, -List.map_append, -List.getD_eq_getElem?_getD, dR]
        refine ⟨by omega, by rw [rng_len]; omega, ?_⟩
        rw [rng0]
        refine compD_mapG (fun j => dq (g r j - g r c * g (nrm q c) j)) (fun j hj Q2 K2 k2 => ?_) ?_
        · have hj := List.mem_range.mp hj
          unfold cStep
          simp [wipeE, -List.map_append, -List.getD_eq_getElem?_getD]
          exact ⟨_, ⟨_, get_g (by omega), rfl⟩, _, ⟨_, get_g (by omega), rfl⟩, _, ⟨_, get_g (by omega), rfl⟩,
            c__law_mul (I.small B hr' c) (I.smallP B hc' mq h0 j) (c__law_sub (I.small B hr' j) (I.smallM B hc' mq h0 hr' j) k2)⟩
        · have : dqs (upd (nrm q c) c r) = (List.range r.length).map fun j => dq (g r j - g r c * g (nrm q c) j) := by simp [dqs, MX.upd]
          rw [List.nil_append, ← this]
          exact k
      · have e1 : ([] ++ (T ++ R.eraseIdx i0).map fun r => dR (MX.upd (nrm q c) c r)) = (T.map (MX.upd (nrm q c) c) ++ (R.eraseIdx i0).map (MX.upd (nrm q c) c)).map dR := by simp [Function.comp_def]
        rw [e1]
        have e2 : L.length = (T.map (MX.upd (nrm q c) c)).length := by simp [I.len]
        have e3 : L.length ≤ ((T.map (MX.upd (nrm q c) c) ++ (R.eraseIdx i0).map (MX.upd (nrm q c) c)).map dR).length := by simp; omega
        simp only [cut_take e3, cut_drop e3]
        rw [← List.map_take, ← List.map_drop, e2, List.take_left, List.drop_left]
        have f1 : Dt.lst (List.map dR (T.map (MX.upd (nrm q c) c)) ++ [Dt.lst (dqs (nrm q c))] ++ List.map dR ((R.eraseIdx i0).map (MX.upd (nrm q c) c))) = dM ((T.map (MX.upd (nrm q c) c) ++ [nrm q c]) ++ (R.eraseIdx i0).map (MX.upd (nrm q c) c)) := by simp [dM, dR]
        have f2 : Dt.lst (L.map (fun (n : Nat) => Dt.int (n : Int)) ++ [Dt.int (c : Int)]) = dL (L ++ [c]) := by simp [dL]
        rw [f1, f2]
        exact ⟨by simp; omega, by simp; omega, by simp; omega, hnx _ ⟨_, _, _, _, _, _, _, _, _, _, _, st, rfl⟩⟩
  · rintro e ⟨T, R, L, x4, x5, x6, x7, x8, x9, x10, x11, I, rfl⟩
    rw [rng_len] at I
    simp [frz]
    exact h T R L I
end
end KK

set_option maxRecDepth 100000
set_option maxHeartbeats 2000000
namespace KK
open PySem L2 DL MX
section
variable {n W X c : Nat} {M T R T' R' : List (List Rat)} {L L' : List Nat} {P : Dt → Prop} {E : Xc → Prop} {d d' : Dt}
theorem ixN_nat {n j : Nat} (h : j < n) : ixN n (j : Int) = some j := by
  unfold ixN
  rw [if_pos (by omega), if_pos (by omega)]; simp
theorem swap_rest (s : List Rat) : ∀ {Rt : List (List Rat)} {j : Nat}, j < Rt.length → (s :: Rt).Perm (Rt.getD j [] :: Rt.set j s)
  | [], _, h => by simp at h
  | a :: t, 0, _ => by simp; exact .swap _ _ _
  | a :: t, j + 1, h => by
    have := swap_rest s (Rt := t) (j := j) (by simpa using h)
    rw [List.getD_cons_succ, List.set_cons_succ]
    exact (List.Perm.swap a s t).trans ((this.cons a).trans (.swap _ _ _))
theorem swap_perm {i0 : Nat} (h : i0 < R.length) : ∃ R', ((T ++ R).set T.length (R.getD i0 [])).set (T.length + i0) (R.getD 0 []) = T ++ R.getD i0 [] :: R' ∧ R.Perm (R.getD i0 [] :: R') := by
  match R, h with
  | s :: Rt, h =>
    match i0, h with
    | 0, _ => exact ⟨Rt, by simp, .refl _⟩
    | j + 1, h =>
      refine ⟨Rt.set j s, by simp [List.set_append_right], ?_⟩
      have hj : j < Rt.length := by simpa using h
      rw [List.getD_cons_succ]
      exact swap_rest s hj
def mix (B : List (List Rat)) (sp : Nat) (F : List Rat → List Rat) (k : Nat) : List (List Rat) := (List.range B.length).map fun i => if i < k ∧ i ≠ sp then F (B.getD i []) else B.getD i []
theorem mix_len (B : List (List Rat)) (sp : Nat) (F : List Rat → List Rat) (k : Nat) : (mix B sp F k).length = B.length := by simp [mix]
theorem mix_get {B : List (List Rat)} {sp : Nat} {F : List Rat → List Rat} {k i : Nat} (h : i < B.length) : (mix B sp F k)[i]? = some (if i < k ∧ i ≠ sp then F (B.getD i []) else B.getD i []) := by simp [mix, h]
theorem mix_0 {B : List (List Rat)} {sp : Nat} {F : List Rat → List Rat} : mix B sp F 0 = B := by
  refine List.ext_getElem? fun i => ?_
  by_cases h : i < B.length
  · rw [mix_get h]; simp [h]
  · rw [List.getElem?_eq_none (by rw [mix_len]; omega), List.getElem?_eq_none (by omega)]
theorem mix_set {B : List (List Rat)} {sp : Nat} {F : List Rat → List Rat} {k : Nat} (h : k < B.length) (hk : k ≠ sp) : (mix B sp F k).set k (F (B.getD k [])) = mix B sp F (k + 1) := by
  refine List.ext_getElem? fun i => ?_
  by_cases h : i < B.length
  · rw [mix_get h, List.getElem?_set]
    by_cases e : k = i
    · subst e
      rw [if_pos rfl, if_pos (by rw [mix_len]; omega), if_pos ⟨by omega, hk⟩]
    · rw [if_neg e, mix_get h]
      by_cases q : i < k ∧ i ≠ sp
      · rw [if_pos q, if_pos ⟨by omega, q.2⟩]
      · rw [if_neg q, if_neg fun z => q ⟨by omega, z.2⟩]
  · rw [List.getElem?_eq_none (by rw [List.length_set, mix_len]; omega), List.getElem?_eq_none (by rw [mix_len]; omega)]
theorem mix_skip {B : List (List Rat)} {sp : Nat} {F : List Rat → List Rat} {k : Nat} (hk : k = sp ∨ F (B.getD k []) = B.getD k []) : mix B sp F (k + 1) = mix B sp F k := by
  refine List.ext_getElem? fun i => ?_
  by_cases h : i < B.length
  · rw [mix_get h, mix_get h]
    by_cases e : k = i
    · subst e
      rcases hk with rfl | hk
      · simp
      · rw [hk]; simp
    · by_cases q : i < k ∧ i ≠ sp
      · rw [if_pos q, if_pos ⟨by omega, q.2⟩]
      · rw [if_neg q, if_neg fun z => q ⟨by omega, z.2⟩]
  · rw [List.getElem?_eq_none (by rw [mix_len]; omega), List.getElem?_eq_none (by rw [mix_len]; omega)]
theorem mix_end {p : List Rat} {F : List Rat → List Rat} : mix (T ++ p :: R) T.length F (T ++ p :: R).length = (T.map F ++ [p]) ++ R.map F := by
  refine List.ext_getElem? fun i => ?_
  by_cases h : i < (T ++ p :: R).length
  · rw [mix_get h]
    rcases Nat.lt_trichotomy i T.length with z | z | z
    · rw [if_pos ⟨h, by omega⟩]
      simp [List.getElem?_append_left, z]
    · subst z
      rw [if_neg fun q => q.2 rfl]
      simp [List.getElem?_append_right]
    · rw [if_pos ⟨h, by omega⟩]
      obtain ⟨j, rfl⟩ : ∃ j, i = T.length + 1 + j := ⟨i - T.length - 1, by omega⟩
      have hj : j < R.length := by simp at h; omega
      rw [List.getElem?_append_right (by simp), List.getD_eq_getElem?_getD, List.getElem?_append_right (by omega)]
      simp [hj, show T.length + 1 + j - T.length = j + 1 by omega]
  · rw [List.getElem?_eq_none (by rw [mix_len]; omega), List.getElem?_eq_none (by simp at h ⊢; omega)]
theorem upd_zero {p r : List Rat} (h : g r c = 0) : MX.upd p c r = r := by
  refine List.ext_getElem? fun i => ?_
  by_cases hi : i < r.length
  · rw [get_g (by rw [upd_len]; exact hi), get_g hi]
    congr 1
    simp [MX.upd, g, List.getD_eq_getElem?_getD, hi]
    have h : r[c]?.getD 0 = 0 := by simpa [g, List.getD_eq_getElem?_getD] using h
    rw [h]
    grind
  · rw [List.getElem?_eq_none (by rw [upd_len]; omega), List.getElem?_eq_none (by omega)]
theorem c_reduced (hd : Mt d M) (B : Tab n W X M) (h : ∀ T R L, Inv n W n X M T R L → P (.tup [dM (T ++ R), dL L])) : sp_reduced [d, .int (n : Int)] P E := by
  obtain ⟨ds, hs, ha⟩ := hd
  have hW := B.W0
  have hm := B.m0
  have hn := B.nW
  refine ⟨rfl, ?_⟩
  show m_reduced [.im d, .im (.int n), .no, .no, .no, .no, .no, .no, .no, .no, .no, .no] _
  unfold m_reduced
  simp only [sSeq, sMany, xCons, xN, nComp, iOf, eVar, sl_c0, sl_c1]
  refine hs.seq ⟨by have := ha.len; omega, compD_a2 dR ha (fun x a _ s Q R q => ?_) ?_⟩
  · unfold cStep
    simp
    exact s.lst q
  simp
  refine ⟨by omega, ?_⟩
  refine forD_inv (fun c e => ∃ T R L x4 x5 x6 x7 x8 x9 x10 x11, Inv n W c X M T R L ∧ e = [.im d, .im (.int n), .ow (dM (T ++ R)), .ow (dL L), x4, x5, x6, x7, x8, x9, x10, x11]) ?_ ?_ ?_
  · exact ⟨[], M, [], _, _, _, _, _, _, _, _, Inv.start B.nW B.w fun _ => B.sc, rfl⟩
  · rintro c x e hx ⟨T, R, L, x4, x5, x6, x7, x8, x9, x10, x11, I, rfl⟩ nx hnx
    obtain ⟨hc, rfl⟩ := get_rng hx
    have hTL := I.len
    have htot := I.tot
    have hc' : c < n := by omega
    simp [dM, dL, -List.map_append]
    refine ⟨by omega, by rw [rng_len]; omega, ?_⟩
    rw [show ((T.length : Int) + (R.length : Int)).toNat - L.length = R.length by omega, rng_lo]
    refine compD_fmG (fun i => decide (g (R.getD i []) c ≠ 0)) (fun i => Dt.int ((L.length : Int) + (i : Int))) (fun i hi Q K q => ?_) ?_
    · have hi := List.mem_range.mp hi
      unfold cStep
      simp [wipeE, -List.map_append, -List.getD_eq_getElem?_getD]
      rw [show ((L.length : Int) + (i : Int)) = ((T.length + i : Nat) : Int) by omega] at q ⊢
      have e1 : ((T ++ R).map dR)[T.length + i]? = some (dR (R.getD i [])) := by
        rw [get_dM (by rw [List.length_append]; omega), getD_app2]
      have w1 := I.wR _ (mem_getD hi)
      refine ixL e1 (ixL (get_dqs (by omega)) ?_)
      by_cases h0 : g (R.getD i []) c = 0
      · rw [if_neg (by rw [decide_eq_true_iff]; exact fun z => z h0)] at q
        simp [dq, h0, -List.getD_eq_getElem?_getD]
        exact q
      · rw [if_pos (decide_eq_true h0)] at q
        have h1 := num_ne h0
        simp [dq, h1, -List.getD_eq_getElem?_getD]
        exact q
    rw [List.nil_append]
    generalize hF : (List.range R.length).filter (fun i => decide (g (R.getD i []) c ≠ 0)) = F
    cases F with
    | nil =>
      simp [-List.map_append]
      refine hnx _ ⟨T, R, L, _, _, _, _, _, _, _, _, I.skip hc' fun r hr => ?_, rfl⟩
      obtain ⟨i, hi, rfl⟩ := mem_at hr
      refine Classical.byContradiction fun z => ?_
      have : i ∈ ([] : List Nat) := by rw [← hF]; exact List.mem_filter.mpr ⟨List.mem_range.mpr hi, decide_eq_true z⟩
      simp at this
    | cons i0 rest =>
      have m0 : i0 ∈ (List.range R.length).filter (fun i => decide (g (R.getD i []) c ≠ 0)) := by rw [hF]; simp
      obtain ⟨hi0, h0⟩ := List.mem_filter.mp m0
      have hi0 := List.mem_range.mp hi0
      have h0 : g (R.getD i0 []) c ≠ 0 := of_decide_eq_true h0
      have hpos : (0 : Int) < (rest.length : Int) + 1 := by omega
      simp [-List.map_append, -List.getD_eq_getElem?_getD, hpos]
      obtain ⟨S, eS, pS⟩ := swap_perm (T := T) hi0
      have hs0 : (T ++ R)[L.length]? = some (R.getD 0 []) := by
        rw [List.getElem?_append_right (by omega), List.getD_eq_getElem?_getD, hTL, Nat.sub_self]
        simp [show 0 < R.length by omega]
      have hq : (T ++ R)[T.length + i0]? = some (R.getD i0 []) := by
        rw [List.getElem?_append_right (by omega), List.getD_eq_getElem?_getD]
        simp [hi0]
      generalize hqd : R.getD i0 [] = q at *
      have mq : q ∈ R := by rw [← hqd]; exact mem_getD hi0
      have wq := I.wR q mq
      have st := I.step hc' (R' := S) (q := q) pS h0
      have mS : ∀ r ∈ S, r ∈ R := fun r hr => pS.mem_iff.mpr (by simp [hr])
      have lS : R.length = S.length + 1 := pS.length_eq
      have wp : (nrm q c).length = W := by rw [nrm_len, wq]
      refine ⟨dR q, ?_, dR (R.getD 0 []), ⟨_, hs0, rfl⟩, T.length, by rw [← hTL]; exact ixN_nat (by omega), T.length + i0, ?_, dR q, ?_⟩
      · rw [show ((L.length : Int) + (i0 : Int)) = ((T.length + i0 : Nat) : Int) by omega, atI_natE, List.getElem?_map, hq]
        rfl
      · rw [show ((L.length : Int) + (i0 : Int)) = ((T.length + i0 : Nat) : Int) by omega]
        exact ixN_nat (by omega)
      rw [← List.map_set, ← List.map_set, eS]
      refine ⟨by rw [List.getElem?_map, List.getElem?_append_right (by omega), hTL, Nat.sub_self]; rfl, ?_⟩
      simp only [dR]
      refine ⟨by simp; omega, compD_mapG (fun x => dq (x / g q c)) (fun x hx Q K k => ?_) ?_⟩
      · obtain ⟨j, hj, rfl⟩ := mem_g hx
        unfold cStep
        simp [wipeE, -List.map_append, -List.getD_eq_getElem?_getD]
        refine ⟨dR q, ⟨q, ?_, rfl⟩, ?_⟩
        · rw [List.getElem?_append_right (by omega), ← hTL, Nat.sub_self]; rfl
        · exact ixL (get_dqs (by omega)) (c_over (I.small B (.inr mq) j) (I.small B (.inr mq) c) h0 k)
      have ep : ([] ++ q.map fun x => dq (x / g q c)) = dqs (nrm q c) := by simp [nrm, dqs]
      rw [ep]
      refine ⟨T.length, by rw [← hTL]; exact ixN_nat (by omega), ⟨by omega, by omega⟩, ?_⟩
      have eB : ((T ++ q :: S).map dR).set T.length (Dt.lst (dqs (nrm q c))) = (T ++ nrm q c :: S).map dR := by
        rw [show Dt.lst (dqs (nrm q c)) = dR (nrm q c) from rfl, ← List.map_set]
        simp [List.set_append_right]
      rw [eB]
      have lB : (T ++ nrm q c :: S).length = T.length + R.length := by simp; omega
      rw [show ((T.length : Int) + (R.length : Int)).toNat = (T ++ nrm q c :: S).length by omega]
      refine forD_inv (fun k e => ∃ x7 x8 x9 x10 x11, e = [.im d, .im (.int n), .ow (.lst ((mix (T ++ nrm q c :: S) T.length (MX.upd (nrm q c) c) k).map dR)), .ow (.lst (L.map fun (n : Nat) => Dt.int (n : Int))), .im (.int c), .im (Dt.lst (Dt.int ((L.length : Int) + (i0 : Int)) :: rest.map fun (i : Nat) => Dt.int ((L.length : Int) + (i : Int)))), .im (.int L.length), x7, x8, x9, x10, x11]) ⟨x7, x8, x9, x10, x11, by rw [mix_0]⟩ ?_ ?_
      · rintro k x e hx ⟨x7, x8, x9, x10, x11, rfl⟩ nx2 hnx2
        have hk : k < (T ++ nrm q c :: S).length := by simpa using (List.getElem?_eq_some_iff.mp hx).1
        obtain rfl : x = .int (k : Int) := by
          rw [List.getElem?_map, List.getElem?_range hk] at hx
          exact (Option.some.inj hx).symm
        generalize hBr : (T ++ nrm q c :: S).getD k [] = r at *
        have gk : ∀ (i : Nat), (mix (T ++ nrm q c :: S) T.length (MX.upd (nrm q c) c) k)[k]? = some r := fun _ => by
          rw [mix_get hk, if_neg (by omega), hBr]
        have gs : (mix (T ++ nrm q c :: S) T.length (MX.upd (nrm q c) c) k)[L.length]? = some (nrm q c) := by
          rw [← hTL, mix_get (by omega), if_neg (by omega)]
          congr 1
          simp
        have key := gk 0
        by_cases hks : k = T.length
        · have : (k : Int) = (L.length : Int) := by omega
          simp [this]
          exact hnx2 _ ⟨_, _, _, _, _, by rw [mix_skip (.inl hks)]⟩
        · have hne : ¬ ((k : Int) = (L.length : Int)) := by omega
          have hr : r ∈ T ∨ r ∈ R := by
            by_cases hlt : k < T.length
            · left
              rw [← hBr, List.getD_eq_getElem?_getD, List.getElem?_append_left hlt, List.getElem?_eq_getElem hlt]
              exact List.getElem_mem hlt
            · right
              refine mS r ?_
              obtain ⟨j, rfl⟩ : ∃ j, k = T.length + 1 + j := ⟨k - T.length - 1, by omega⟩
              have hj : j < S.length := by omega
              rw [← hBr, List.getD_eq_getElem?_getD, List.getElem?_append_right (by omega), show T.length + 1 + j - T.length = j + 1 by omega, List.getElem?_cons_succ, List.getElem?_eq_getElem hj]
              exact List.getElem_mem hj
          have wr := I.wid hr
          simp [hne, key, gs, dR, -List.getD_eq_getElem?_getD]
          refine ⟨_, ⟨_, get_g (by omega), rfl⟩, ?_⟩
          by_cases hz : g r c = 0
          · rw [hz, dq0]
            simp
            exact hnx2 _ ⟨_, _, _, _, _, by rw [mix_skip (.inr (by rw [hBr]; exact upd_zero hz))]⟩
          · have hz1 := num_ne hz
            simp [dq, hz1, -List.getD_eq_getElem?_getD]
            refine ⟨_, ⟨_, get_g (by omega), rfl⟩, by omega, by rw [rng_len]; omega, ?_⟩
            rw [rng0]
            refine compD_mapG (fun j => dq (g r j - g r c * g (nrm q c) j)) (fun j hj Q2 K2 k2 => ?_) ?_
            · have hj := List.mem_range.mp hj
              unfold cStep
              simp [wipeE, -List.map_append, -List.getD_eq_getElem?_getD, key, gs, dR]
              exact ⟨_, ⟨_, get_g (by omega), rfl⟩, _, ⟨_, get_g (by omega), rfl⟩,
                c_times (I.small B hr c) (I.smallP B hc' mq h0 j) (c_minus (I.small B hr j) (I.smallM B hc' mq h0 hr j) k2)⟩
            · have e3 : Dt.lst ([] ++ (List.range r.length).map fun j => dq (g r j - g r c * g (nrm q c) j)) = dR (MX.upd (nrm q c) c r) := by simp [dR, dqs, MX.upd]
              rw [e3]
              simp only [mix_len] at *
              refine ⟨k, ixN_nat (by omega), ?_⟩
              have e4 := mix_set (B := T ++ nrm q c :: S) (F := MX.upd (nrm q c) c) hk hks
              rw [hBr] at e4
              rw [← List.map_set, e4]
              exact hnx2 _ ⟨_, _, _, _, _, rfl⟩
      · rintro e ⟨x7, x8, x9, x10, x11, rfl⟩
        rw [List.length_map, List.length_range, mix_end]
        simp only [sl_c0, sl_c1, put_c0, put_c1]
        refine ⟨by simp; omega, ?_⟩
        have f2 : Dt.lst (L.map (fun (n : Nat) => Dt.int (n : Int)) ++ [Dt.int (c : Int)]) = dL (L ++ [c]) := by simp [dL]
        rw [f2]
        exact hnx _ ⟨_, _, _, _, _, _, _, _, _, _, _, st, rfl⟩
  · rintro e ⟨T, R, L, x4, x5, x6, x7, x8, x9, x10, x11, I, rfl⟩
    rw [rng_len] at I
    simp [frz]
    exact h T R L I
end
end KK

set_option maxRecDepth 100000
set_option maxHeartbeats 2000000
namespace KK
open PySem L2 DL MX
section
variable {n W X X' c : Nat} {M T R T' R' : List (List Rat)} {L L' : List Nat} {P : Dt → Prop} {E : Xc → Prop} {d d' : Dt}
theorem c_rank_of (hd : Mt d M) (B : Tab n W X M) (h : ∀ T R L, Inv n W n X M T R L → P (.int (L.length : Int))) : sp_rank_of [d, .int (n : Int)] P E := by
  refine ⟨rfl, ?_⟩
  show m_rank_of [.im d, .im (.int n)] _
  simp [m_rank_of]
  refine c_reduced hd B fun T R L I => ?_
  simp [dL]
  exact h T R L I
theorem c__law_rank (hd : Mt d M) (B : Tab n W X M) (h : ∀ T R L, Inv n W n X M T R L → P (.int (L.length : Int))) : sp__law_rank [d, .int (n : Int)] P E := by
  refine ⟨rfl, ?_⟩
  show m__law_rank [.im d, .im (.int n)] _
  simp [m__law_rank]
  refine c__law_put_out hd B fun T R L I => ?_
  simp [dL]
  exact h T R L I
theorem c_rank {ds : List Dt} (hd : Rws ds M) (B : Tab n n X M) (h0 : M = [] → P (.int 0)) (h : M ≠ [] → ∀ T R L, Inv n n n X M T R L → P (.int (L.length : Int))) : sp_rank [.lst ds] P E := by
  refine ⟨rfl, ?_⟩
  show m_rank [.im (.lst ds)] _
  cases hd with
  | nil =>
    simp [m_rank]
    exact h0 rfl
  | @cons x r ds M s t =>
    have hl : (0 : Int) < (ds.length : Int) + 1 := by omega
    simp [m_rank, hl]
    refine s.len ?_
    rw [show (dqs r).length = n by simp [dqs]; exact B.w r (by simp)]
    refine c_reduced ⟨_, .inl rfl, .cons s t⟩ B fun T R L I => ?_
    simp [dL]
    exact h (by simp) T R L I
/-! ways -/
def wk (T : List (List Rat)) (S L : List Nat) (c : Nat) : Nat → Rat := fun j => if j = c then 1 else if j ∈ S then - at2 T (L.idxOf j) c else 0
theorem wk_all : wk T L L c = way T L c := rfl
theorem set_range {α : Type} {n l : Nat} {f : Nat → α} {v : α} : ((List.range n).map f).set l v = (List.range n).map fun j => if j = l then v else f j := by
  refine List.ext_getElem? fun i => ?_
  by_cases h : i < n
  · rw [List.getElem?_set]
    by_cases e : l = i
    · subst e; simp [h]
    · rw [if_neg e]; simp [h, Ne.symm e]
  · rw [List.getElem?_eq_none (by simp; omega), List.getElem?_eq_none (by simp; omega)]
theorem wk_set (p : L.Pairwise (· < ·)) {k l : Nat} (hk : L[k]? = some l) (hc : c ∉ L) : ((List.range n).map fun j => dq (wk T (L.take k) L c j)).set l (dq (- at2 T k c)) = (List.range n).map fun j => dq (wk T (L.take (k + 1)) L c j) := by
  rw [set_range]
  refine List.map_congr_left fun j _ => ?_
  have hm : l ∈ L := List.mem_of_getElem? hk
  have e : L.take (k + 1) = L.take k ++ [l] := by rw [List.take_add_one, hk]; rfl
  by_cases hj : j = l
  · subst hj
    have h1 : L.idxOf j = k := pw_nodup p (idx_get hm) hk
    have h2 : j ≠ c := fun z => hc (z ▸ hm)
    rw [if_pos rfl]
    simp [wk, h2, e, h1]
  · rw [if_neg hj]
    simp [wk, e, hj]
theorem any_lead {L : List Nat} {c : Nat} : ((L.map fun (n : Nat) => Dt.int (n : Int)).any fun y => eqv y (.int (c : Int))) = L.contains c := by
  induction L with
  | nil => rfl
  | cons a l ih =>
    rw [List.map_cons, List.any_cons, ih, List.contains_cons]
    rw [eqv_int]
    by_cases h : a = c
    · subst h; simp
    · have h1 : ¬ ((a : Int) = (c : Int)) := by omega
      have h2 : ¬ c = a := fun z => h z.symm
      simp [h1, h2]
theorem pln_L {L : List Nat} : pln 1 (.lst (L.map fun (n : Nat) => Dt.int (n : Int))) := fun x hx => by
  obtain ⟨i, _, rfl⟩ := List.mem_map.mp hx
  exact pln_int
def dT (r : List Rat) : Dt := .tup (dqs r)
theorem at2_get (hk : k < T.length) {c : Nat} (hc : c < n) (w : ∀ r ∈ T, r.length = n) : ((T ++ R).map dR)[k]? = some (dR (T.getD k [])) ∧ (dqs (T.getD k []))[c]? = some (dq (at2 T k c)) := by
  refine ⟨?_, get_dqs (by rw [w _ (at_mem hk)]; exact hc)⟩
  rw [get_dM (by rw [List.length_append]; omega)]
  simp [List.getElem?_append_left hk, List.getD_eq_getElem?_getD, hk]
def fw (T : List (List Rat)) (L : List Nat) (n c : Nat) : List Dt := (((List.range c).filter fun c => !L.contains c).map (wayL T L n)).map dT
theorem fw_skip (h : c ∈ L) : fw T L n (c + 1) = fw T L n c := by
  unfold fw
  rw [List.range_succ, List.filter_append]
  simp [h]
theorem fw_add (h : c ∉ L) : fw T L n (c + 1) = fw T L n c ++ [dT (wayL T L n c)] := by
  unfold fw
  rw [List.range_succ, List.filter_append, List.map_append, List.map_append]
  simp [h]
theorem fw_all : fw T L n n = (waysL T L n).map dT := rfl
theorem fw_len : (fw T L n c).length ≤ c := by
  unfold fw
  rw [List.length_map, List.length_map]
  exact Nat.le_trans (List.length_filter_le _ _) (by rw [List.length_range]; exact Nat.le_refl _)
theorem dT_way {c : Nat} : dT (wayL T L n c) = .tup ((List.range n).map fun j => dq (wk T L L c j)) := by
  unfold dT wayL dqs
  rw [List.map_map]
  rfl
theorem wk_0 {c : Nat} (hc : c < n) : ((List.range n).map fun j => dq (wk T (L.take 0) L c j)) = (List.replicate n (dq 0)).set c (dq 1) := by
  refine List.ext_getElem? fun i => ?_
  by_cases h : i < n
  · rw [List.getElem?_set]
    by_cases e : c = i
    · subst e; simp [h, wk]
    · rw [if_neg e]; simp [h, wk, Ne.symm e]
  · rw [List.getElem?_eq_none (by simp; omega), List.getElem?_eq_none (by simp; omega)]
theorem rep_flat {α : Type} (n : Nat) (x : α) : (List.replicate n [x]).flatten = List.replicate n x := by
  induction n with
  | zero => rfl
  | succ n ih => rw [List.replicate_succ, List.flatten_cons, ih]; rfl
theorem c_ways (hd : Mt d M) (B : Tab n n X M) (h : ∀ T R L, Inv n n n X M T R L → P (.lst ((waysL T L n).map dT))) : sp_ways [d, .int (n : Int)] P E := by
  have hW := B.W0
  refine ⟨rfl, ?_⟩
  show m_ways [.im d, .im (.int n), .no, .no, .no, .no, .no, .no] _
  simp [m_ways]
  refine c_reduced hd B fun T R L I => ?_
  have keyA : ∀ k, k < L.length → ((T ++ R).map dR)[k]? = some (dR (T.getD k [])) := fun k hk => (at2_get (n := n) (c := 0) (by rw [I.len]; exact hk) (by
    have := I.len_le; omega) I.wT).1
  have keyB : ∀ k, k < L.length → ∀ c, c < n → (dqs (T.getD k []))[c]? = some (dq (at2 T k c)) := fun k hk c hc => (at2_get (R := R) (by rw [I.len]; exact hk) hc I.wT).2
  unfold dM dL
  generalize (T ++ R).map dR = A at *
  simp
  refine ⟨by omega, ?_⟩
  rw [rng0]
  refine forD_inv (fun c e => ∃ x5 x6 x7, e = [.im d, .im (.int n), .im (.lst A), .im (.lst (L.map fun (n : Nat) => Dt.int (n : Int))), .ow (.lst (fw T L n c)), x5, x6, x7]) ⟨_, _, _, rfl⟩ ?_ ?_
  · rintro c x e hx ⟨x5, x6, x7, rfl⟩ nx hnx
    obtain ⟨hc, rfl⟩ := get_rng (by rw [rng0]; exact hx)
    have hcn : c < n := by omega
    simp only [sSeq, sIf, bT, eOp, niL, gN, sl_c0, sl_c1, put_c0, put_c1, eVar, sNext]
    refine ⟨⟨okD_int, pln_L.ok⟩, ?_⟩
    rw [any_lead]
    simp only [asB]
    by_cases hm : c ∈ L
    · rw [fw_skip hm] at hnx
      simp [hm]
      exact hnx _ ⟨_, _, _, rfl⟩
    · rw [fw_add hm] at hnx
      simp [hm]
      refine ⟨⟨by omega, by omega⟩, c, ixN_nat hcn, by have := I.len_le; omega, ?_⟩
      rw [show c_NOUGHT = dq 0 from rfl, show c_ONE = dq 1 from rfl, ← wk_0 (T := T) (L := L) hcn, rng0]
      refine forD_inv (fun k e => ∃ x7, e = [.im d, .im (.int n), .im (.lst A), .im (.lst (L.map fun (n : Nat) => Dt.int (n : Int))), .ow (.lst (fw T L n c)), .im (.int c), .ow (.lst ((List.range n).map fun j => dq (wk T (L.take k) L c j))), x7]) ⟨_, rfl⟩ ?_ ?_
      · rintro k x e hx ⟨x7, rfl⟩ nx2 hnx2
        obtain ⟨hk, rfl⟩ := get_rng (by rw [rng0]; exact hx)
        have gl : L[k]? = some L[k] := List.getElem?_eq_getElem hk
        have hl : L[k] < n := I.rr.mem_lt gl
        have st := wk_set (n := n) (T := T) I.sorted gl hm
        simp [-List.getD_eq_getElem?_getD, -List.getElem?_map, keyA k hk, dR, keyB k hk c hcn]
        refine c_negative ?_
        refine ⟨.int L[k], by rw [List.getElem?_map, gl]; rfl, L[k], ixN_nat hl, ?_⟩
        rw [st]
        exact hnx2 _ ⟨_, rfl⟩
      · rintro e ⟨x7, rfl⟩
        rw [List.length_map, List.length_range, List.take_length]
        simp
        refine ⟨by have := fw_len (T := T) (L := L) (n := n) (c := c); omega, ?_⟩
        rw [← dT_way]
        exact hnx _ ⟨_, _, _, rfl⟩
  · rintro e ⟨x5, x6, x7, rfl⟩
    rw [List.length_map, List.length_range, fw_all]
    simp [frz]
    have := h T R L I
    simpa using this
end
end KK

set_option maxRecDepth 100000
set_option maxHeartbeats 2000000
namespace KK
open PySem L2 DL MX
section
variable {n W X X' c : Nat} {M T R T' R' : List (List Rat)} {L L' : List Nat} {P : Dt → Prop} {E : Xc → Prop} {d d' : Dt}
theorem mapR_one {n c : Nat} : ((List.range n).map fun (j : Nat) => if (j : Int) = (c : Int) then dq 1 else dq 0) = (List.range n).map fun j => dq (wk T (L.take 0) L c j) := by
  refine List.map_congr_left fun j _ => ?_
  by_cases h : j = c
  · subst h; simp [wk]
  · have : ¬ ((j : Int) = (c : Int)) := by omega
    simp [wk, h, this]
theorem c__law_ways (hd : Mt d M) (B : Tab n n X M) (h : ∀ T R L, Inv n n n X M T R L → P (.lst ((waysL T L n).map dT))) : sp__law_ways [d, .int (n : Int)] P E := by
  have hW := B.W0
  refine ⟨rfl, ?_⟩
  show m__law_ways [.im d, .im (.int n), .no, .no, .no, .no, .no, .no, .no] _
  simp [m__law_ways]
  refine c__law_put_out hd B fun T R L I => ?_
  have keyA : ∀ k, k < L.length → ((T ++ R).map dR)[k]? = some (dR (T.getD k [])) := fun k hk => (at2_get (n := n) (c := 0) (by rw [I.len]; exact hk) (by
    have := I.len_le; omega) I.wT).1
  have keyB : ∀ k, k < L.length → ∀ c, c < n → (dqs (T.getD k []))[c]? = some (dq (at2 T k c)) := fun k hk c hc => (at2_get (R := R) (by rw [I.len]; exact hk) hc I.wT).2
  unfold dM dL
  generalize (T ++ R).map dR = A at *
  simp
  refine ⟨by omega, by rw [rng_len]; omega, ?_⟩
  rw [rng0]
  refine compD_fmG (fun c => !L.contains c) (fun (c : Nat) => Dt.int (c : Int)) (fun i hi Q K q => ?_) ?_
  · unfold cStep
    simp only [gN, bT, eOp, niL, eVar, wipeE, sl_c0, sl_c1, put_c0, put_c1, asB]
    refine ⟨⟨okD_int, pln_L.ok⟩, ?_⟩
    rw [any_lead]
    exact q
  rw [List.nil_append]
  rw [show (List.range n).filter (fun c => !L.contains c) = frees n L from rfl]
  dsimp only
  have hfl : (frees n L).length ≤ 1000 := by have := frees_len I.rr; omega
  refine forD_inv (fun i e => ∃ x5 x6 x7 x8, e = [.im d, .im (.int n), .im (.lst A), .im (.lst (L.map fun (n : Nat) => Dt.int (n : Int))), .ow (.lst ((((frees n L).take i).map (wayL T L n)).map dT)), x5, x6, x7, x8]) ⟨_, _, _, _, rfl⟩ ?_ ?_
  · rintro i x e hx ⟨x5, x6, x7, x8, rfl⟩ nx hnx
    obtain ⟨c, gc, rfl⟩ : ∃ c, (frees n L)[i]? = some c ∧ Dt.int (c : Int) = x := by simpa using hx
    have mc := mem_frees.mp (List.mem_of_getElem? gc)
    have hi : i < (frees n L).length := (List.getElem?_eq_some_iff.mp gc).1
    have et : (((frees n L).take (i + 1)).map (wayL T L n)).map dT = (((frees n L).take i).map (wayL T L n)).map dT ++ [dT (wayL T L n c)] := by
      rw [List.take_add_one, gc]; simp
    rw [et] at hnx
    generalize hG : (((frees n L).take i).map (wayL T L n)).map dT = G at *
    have lG : G.length ≤ 1000 := by rw [← hG]; simp; omega
    obtain ⟨hcn, hm⟩ := mc
    simp
    refine ⟨by omega, by rw [rng_len]; omega, ?_⟩
    rw [rng0]
    refine compD_mapG (fun (j : Nat) => if (j : Int) = (c : Int) then dq 1 else dq 0) (fun j hj Q K q => ?_) ?_
    · unfold cStep
      simp [wipeE]
      by_cases h : (j : Int) = (c : Int)
      · rw [if_pos h] at q
        simp [h]; exact q
      · rw [if_neg h] at q
        simp [h]; exact q
    rw [List.nil_append, mapR_one (T := T) (L := L)]
    refine ⟨by have := I.len_le; omega, ?_⟩
    skip
    refine forD_inv (fun k e => ∃ x7, e = [.im d, .im (.int n), .im (.lst A), .im (.lst (L.map fun (n : Nat) => Dt.int (n : Int))), .ow (.lst G), .im (.int c), .ow (.lst ((List.range n).map fun j => dq (wk T (L.take k) L c j))), x7, x8]) ⟨_, rfl⟩ ?_ ?_
    · rintro k x e hx ⟨x7, rfl⟩ nx2 hnx2
      obtain ⟨hk, rfl⟩ := get_rng (by rw [rng0]; exact hx)
      have gl : L[k]? = some L[k] := List.getElem?_eq_getElem hk
      have hl : L[k] < n := I.rr.mem_lt gl
      have st := wk_set (n := n) (T := T) I.sorted gl hm
      simp [-List.getD_eq_getElem?_getD, -List.getElem?_map, keyA k hk, dR, keyB k hk c hcn]
      refine c__law_turn ?_
      refine ⟨.int L[k], by rw [List.getElem?_map, gl]; rfl, L[k], ixN_nat hl, ?_⟩
      rw [st]
      exact hnx2 _ ⟨_, rfl⟩
    · rintro e ⟨x7, rfl⟩
      rw [List.length_map, List.length_range, List.take_length]
      simp
      refine ⟨by omega, ?_⟩
      rw [← dT_way]
      exact hnx _ ⟨_, _, _, _, rfl⟩
  · rintro e ⟨x5, x6, x7, x8, rfl⟩
    rw [List.length_map, List.take_length]
    simp [frz]
    have := h T R L I
    simpa [waysL] using this
/-! points -/
def pk (T : List (List Rat)) (S L : List Nat) (n : Nat) : Nat → Rat := fun j => if j ∈ S then at2 T (L.idxOf j) n else 0
theorem pk_all : pk T L L n = pnt T L n := rfl
theorem pk_set (p : L.Pairwise (· < ·)) {k l : Nat} (hk : L[k]? = some l) : ((List.range n).map fun j => dq (pk T (L.take k) L n j)).set l (dq (at2 T k n)) = (List.range n).map fun j => dq (pk T (L.take (k + 1)) L n j) := by
  rw [set_range]
  refine List.map_congr_left fun j _ => ?_
  have hm : l ∈ L := List.mem_of_getElem? hk
  have e : L.take (k + 1) = L.take k ++ [l] := by rw [List.take_add_one, hk]; rfl
  by_cases hj : j = l
  · subst hj
    have h1 : L.idxOf j = k := pw_nodup p (idx_get hm) hk
    rw [if_pos rfl]
    simp [pk, e, h1]
  · rw [if_neg hj]
    simp [pk, e, hj]
theorem pk_0 : ((List.range n).map fun j => dq (pk T (L.take 0) L n j)) = List.replicate n (dq 0) := by
  refine List.ext_getElem? fun i => ?_
  by_cases h : i < n
  · simp [h, pk]
  · rw [List.getElem?_eq_none (by simp; omega), List.getElem?_eq_none (by simp; omega)]
theorem Rws.ix {ds : List Dt} (ha : Rws ds M) {k : Nat} (hk : k < M.length) : ∃ x, ds[k]? = some x ∧ Sq x (dqs (M.getD k [])) := by
  have hl := ha.len
  obtain ⟨a, e, s⟩ := ha.get (i := k) (b := M.getD k []) (by simp [List.getD_eq_getElem?_getD, hk])
  exact ⟨a, e, s⟩
theorem Mt.len (hd : Mt d M) {Q : Dt → Prop} (q : Q (.int M.length)) : lenD d Q := by
  obtain ⟨ds, hs, ha⟩ := hd
  exact hs.len (by rw [ha.len]; exact q)
theorem Mt.ix (hd : Mt d M) {k : Nat} (hk : k < M.length) {Q : Dt → Prop} (q : ∀ x, Sq x (dqs (M.getD k [])) → Q x) : ixD d (.int (k : Int)) Q := by
  obtain ⟨ds, hs, ha⟩ := hd
  obtain ⟨x, e, s⟩ := Rws.ix ha hk
  exact hs.ix e (q x s)
theorem mt_dM : Mt (dM M) M := by
  refine ⟨_, .inl rfl, ?_⟩
  induction M with
  | nil => exact .nil
  | cons r M ih => exact .cons (.inl rfl) ih
theorem mt_dT : Rws (M.map dT) M := by
  induction M with
  | nil => exact .nil
  | cons r M ih => exact .cons (.inr rfl) ih
theorem mt_mapR {α : Type} {f : α → List Rat} {as : List α} : Mt (.lst (as.map fun a => dR (f a))) (as.map f) := by
  have := mt_dM (M := as.map f)
  unfold dM at this
  rwa [List.map_map] at this
theorem c_point {b : List Rat} (hd : Mt d M) (hg : Sq d' (dqs b)) (hb : M.length ≤ b.length) (B : Tab n (n + 1) X (aug n M (g b)))
    (h0 : ∀ T R L, Inv n (n + 1) n X (aug n M (g b)) T R L → (∃ r ∈ R, g r n ≠ 0) → P .non)
    (h1 : ∀ T R L, Inv n (n + 1) n X (aug n M (g b)) T R L → (∀ r ∈ R, g r n = 0) → P (.tup ((List.range n).map fun j => dq (pnt T L n j)))) : sp_point [d, d', .int (n : Int)] P E := by
  have hW := B.W0
  have hm := B.m0
  have hal : (aug n M (g b)).length = M.length := by simp [aug]
  refine ⟨rfl, ?_⟩
  show m_point [.im d, .im d', .im (.int n), .no, .no, .no, .no, .no] _
  simp [m_point]
  refine hd.len ?_
  simp
  refine ⟨by omega, by rw [rng_len]; omega, ?_⟩
  rw [rng0]
  refine compD_mapG (fun k => dR (M.getD k [] ++ [g b k])) (fun k hk Q K q => ?_) ?_
  · have hk := List.mem_range.mp hk
    unfold cStep
    simp [wipeE]
    refine hd.ix hk fun x sx => sx.lst ?_
    refine hg.ixg (by omega) ?_
    refine ⟨by have := B.w (M.getD k [] ++ [g b k]) (mem_aug.mpr ⟨k, hk, rfl⟩); simp at this ⊢; omega, ?_⟩
    simpa [dR] using q
  rw [List.nil_append]
  refine c_reduced (M := aug n M (g b)) mt_mapR B fun T R L I => ?_
  have keyA : ∀ k, k < L.length → ((T ++ R).map dR)[k]? = some (dR (T.getD k [])) := fun k hk => by
    have hk' : k < T.length := by rw [I.len]; exact hk
    rw [get_dM (by rw [List.length_append]; omega), List.getD_eq_getElem?_getD, List.getElem?_append_left hk', ← List.getD_eq_getElem?_getD]
  have keyB : ∀ k, k < L.length → (dqs (T.getD k []))[n]? = some (dq (at2 T k n)) := fun k hk => get_dqs (by
    have hk' : k < T.length := by rw [I.len]; exact hk
    rw [I.wT _ (at_mem hk')]; omega)
  have keyC : cut ((T ++ R).map dR) (some (L.length : Int)) none = R.map dR := by
    rw [cut_drop (by simp; have := I.len; omega), ← I.len, ← List.map_drop, List.drop_left]
  have lA : ((T ++ R).map dR).length ≤ 1000 := by
    have := I.tot
    simp; omega
  have lR : R.length ≤ 1000 := by have := I.tot; omega
  unfold dM dL
  generalize (T ++ R).map dR = A at *
  simp [keyC]
  refine ⟨by omega, ?_⟩
  refine compD_mapG (fun r => Dt.bl (decide (g r n ≠ 0))) (fun r hr Q K q => ?_) ?_
  · unfold cStep
    have wr := I.wR r hr
    simp [wipeE, dR]
    refine ⟨_, ⟨_, get_g (by omega), rfl⟩, ?_⟩
    simp [dq]
    simpa using q
  refine ⟨R.map fun r => decide (g r n ≠ 0), by simp, ?_⟩
  dsimp only [asB]
  by_cases hz : ∃ r ∈ R, g r n ≠ 0
  · rw [if_pos (by simpa using hz)]
    exact h0 T R L I hz
  · rw [if_neg (by simpa using hz)]
    have hz' : ∀ r ∈ R, g r n = 0 := fun r hr => Classical.byContradiction fun z => hz ⟨r, hr, z⟩
    have ln := I.len_le
    refine ⟨⟨by omega, by omega⟩, by omega, ?_⟩
    rw [show c_NOUGHT = dq 0 from rfl, ← pk_0 (T := T) (L := L), rng0]
    refine forD_inv (fun k e => ∃ x6 x7, e = [.im d, .im d', .im (.int n), .im (.lst A), .im (.lst (L.map fun (n : Nat) => Dt.int (n : Int))), .ow (.lst ((List.range n).map fun j => dq (pk T (L.take k) L n j))), x6, x7]) ⟨_, _, rfl⟩ ?_ ?_
    · rintro k x e hx ⟨x6, x7, rfl⟩ nx2 hnx2
      obtain ⟨hk, rfl⟩ := get_rng (by rw [rng0]; exact hx)
      have gl : L[k]? = some L[k] := List.getElem?_eq_getElem hk
      have hl : L[k] < n := I.rr.mem_lt gl
      have st := pk_set (n := n) (T := T) I.sorted gl
      simp [-List.getD_eq_getElem?_getD, -List.getElem?_map, keyA k hk, dR, keyB k hk]
      refine ⟨.int L[k], by rw [List.getElem?_map, gl]; rfl, L[k], ixN_nat hl, ?_⟩
      rw [st]
      exact hnx2 _ ⟨_, _, rfl⟩
    · rintro e ⟨x6, x7, rfl⟩
      rw [List.length_map, List.length_range, List.take_length, pk_all]
      simp
      exact h1 T R L I hz'
end
end KK

set_option maxRecDepth 100000
set_option maxHeartbeats 2000000
namespace KK
open PySem L2 DL MX
@[simp] theorem okD_bl {b : Bool} : okD (.bl b) := by unfold okD; cases b <;> rfl
@[simp] theorem eqv_bl {a b : Bool} : eqv (.bl a) (.bl b) = (a == b) := by
  simp [eqv, Dt.py, PyData.eqv]
theorem compD_none {α : Type} {S : Dt → α → Prop} {g : G} {it : IT} {ie : IE} {env : List Sl} {P : Dt → Prop} : ∀ {ds : List Dt} {as : List α} {outs : List Dt}, All2 S ds as →
    (∀ x a, a ∈ as → S x a → ∀ (Q : Dt → Prop) (R : Prop), R → cStep g it ie env x Q R) → P (.lst outs) → compD g it ie env P ds outs
  | _, _, outs, .nil, _, k => k
  | _, _, outs, .cons s t, h, k => h _ _ (by simp) s _ _ (compD_none t (fun x a m => h x a (by simp [m])) k)
section
variable {n W X X' X1 X2 X3 c : Nat} {M M' T R T' R' : List (List Rat)} {L L' : List Nat} {P : Dt → Prop} {E : Xc → Prop} {d d' : Dt}
def trn (W : Nat) (M : List (List Rat)) : List (List Rat) := (List.range W).map fun c => M.map fun r => g r c
theorem trn_len : (trn W M).length = W := by simp [trn]
theorem trn_get {c : Nat} (h : c < W) : (trn W M).getD c [] = M.map fun r => g r c := by simp [trn, List.getD_eq_getElem?_getD, h]
theorem g_col {c k : Nat} : g (M.map fun r => g r c) k = at2 M k c := by
  unfold at2
  by_cases h : k < M.length
  · simp [g, List.getD_eq_getElem?_getD, h]
  · rw [g_ge (by simp; omega)]
    simp [List.getD_eq_getElem?_getD, List.getElem?_eq_none (show M.length ≤ k by omega)]
    exact (g_ge (by simp)).symm
theorem at2_trn {c k : Nat} (h : c < W) : at2 (trn W M) c k = at2 M k c := by
  conv => lhs; unfold at2
  rw [trn_get h, g_col]
theorem Mt.seqA (hd : Mt d M) {Q : List Dt → Prop} (q : ∀ ds, Rws ds M → Q ds) : seqD d Q := by
  obtain ⟨ds, hs, ha⟩ := hd
  exact hs.seq (q ds ha)
theorem c_made_of {gl : List Rat} (hd : Mt d M) (hg : Sq d' (dqs gl)) (hw : ∀ r ∈ M, gl.length ≤ r.length) (hl : M.length ≤ 1000) (B : Tab M.length (M.length + 1) X (aug M.length (trn gl.length M) (g gl)))
    (h0 : ∀ T R L, Inv M.length (M.length + 1) M.length X (aug M.length (trn gl.length M) (g gl)) T R L → (∃ r ∈ R, g r M.length ≠ 0) → P .non)
    (h1 : ∀ T R L, Inv M.length (M.length + 1) M.length X (aug M.length (trn gl.length M) (g gl)) T R L → (∀ r ∈ R, g r M.length = 0) → P (.tup ((List.range M.length).map fun j => dq (pnt T L M.length j)))) : sp_made_of [d, d'] P E := by
  have hm := B.m0
  have hal : (aug M.length (trn gl.length M) (g gl)).length = gl.length := by simp [aug, trn]
  refine ⟨rfl, ?_⟩
  show m_made_of [.im d, .im d', .no, .no, .no] _
  simp [m_made_of]
  refine hg.len ?_
  simp
  refine ⟨by omega, by rw [rng_len]; omega, ?_⟩
  rw [rng0]
  refine compD_mapG (fun c => dR (M.map fun r => g r c)) (fun c hc Q K q => ?_) ?_
  · have hc := List.mem_range.mp hc
    unfold cStep
    simp [wipeE]
    refine hd.seqA fun ds ha => ⟨by rw [ha.len]; omega, ?_⟩
    refine compD_a2 (fun r => dq (g r c)) ha (fun x r mr s Q2 R2 q2 => ?_) ?_
    · unfold cStep
      simp [wipeE]
      exact s.ixg (by have := hw r mr; omega) q2
    · have : Dt.lst ([] ++ M.map fun r => dq (g r c)) = dR (M.map fun r => g r c) := by simp [dR, Function.comp_def]
      rw [this]
      exact q
  rw [List.nil_append]
  refine hg.lst (hd.len ?_)
  exact c_point (M := trn gl.length M) mt_mapR (.inl rfl) (by rw [trn_len]; exact Nat.le_refl _) B h0 h1
theorem c_summed {s : List Rat} (hd : Mt d M) (hg : Sq d' (dqs s)) (hs : s.length = M.length) (hw : ∀ r ∈ M, n ≤ r.length) (hn : n ≤ 1000) (hl : M.length ≤ 1000) (D : ∀ c, c < n → Dots s (M.map fun r => g r c))
    (h : P (.tup ((List.range n).map fun c => dq (dt M.length (g s) fun k => at2 M k c)))) : sp_summed [d, d', .int (n : Int)] P E := by
  refine ⟨rfl, ?_⟩
  show m_summed [.im d, .im d', .im (.int n), .no, .no] _
  simp [m_summed]
  refine ⟨by omega, by rw [rng_len]; omega, ?_⟩
  rw [rng0]
  refine compD_mapG (fun c => dq (dt M.length (g s) fun k => at2 M k c)) (fun c hc Q K q => ?_) ?_
  · have hc := List.mem_range.mp hc
    unfold cStep
    simp [wipeE]
    refine hd.seqA fun ds ha => ⟨by rw [ha.len]; omega, ?_⟩
    refine compD_a2 (fun r => dq (g r c)) ha (fun x r mr s Q2 R2 q2 => ?_) ?_
    · unfold cStep
      simp [wipeE]
      exact s.ixg (by have := hw r mr; omega) q2
    · refine c_dot hg (s := M.map fun r => g r c) (.inl (by simp [Function.comp_def])) (D c hc) ?_
      rw [hs]
      have : g (M.map fun r => g r c) = fun k => at2 M k c := funext fun k => g_col
      rw [this]
      exact q
  · exact h
theorem c__law_summed {s : List Rat} (hd : Mt d M) (hg : Sq d' (dqs s)) (hs : s.length = M.length) (hw : ∀ r ∈ M, n ≤ r.length) (hn : n ≤ 1000) (hl : M.length ≤ 1000) (D : ∀ c, c < n → Dots s (M.map fun r => g r c))
    (h : P (.tup ((List.range n).map fun c => dq (dt M.length (g s) fun k => at2 M k c)))) : sp__law_summed [d, d', .int (n : Int)] P E := by
  refine ⟨rfl, ?_⟩
  show m__law_summed [.im d, .im d', .im (.int n), .no, .no] _
  simp [m__law_summed]
  refine ⟨by omega, by rw [rng_len]; omega, ?_⟩
  rw [rng0]
  refine compD_mapG (fun c => dq (dt M.length (g s) fun k => at2 M k c)) (fun c hc Q K q => ?_) ?_
  · have hc := List.mem_range.mp hc
    have D := D c hc
    unfold cStep
    simp [wipeE]
    refine hd.len ?_
    simp
    refine ⟨by omega, by rw [rng_len]; omega, ?_⟩
    rw [rng0]
    refine compD_mapG (fun k => dq (g s k * at2 M k c)) (fun k hk Q2 R2 q2 => ?_) ?_
    · have hk := List.mem_range.mp hk
      unfold cStep
      simp [wipeE]
      refine hg.ixg (by omega) (hd.ix hk fun x sx => sx.ixg (by have := hw _ (at_mem hk); omega) ?_)
      have e : g (M.getD k []) c = at2 M k c := rfl
      rw [e]
      exact c__law_mul (D.ra k (by omega)) (by have := D.sa k (by omega); rwa [g_col] at this) q2
    · refine c__law_sum (qs := (List.range M.length).map fun k => g s k * at2 M k c) (.inl (by simp [dqs])) ?_ ?_
      · have := D.t
        rw [hs] at this
        have e : ((List.range M.length).map fun k => g s k * g (M.map fun r => g r c) k) = (List.range M.length).map fun k => g s k * at2 M k c := List.map_congr_left fun k _ => by rw [g_col]
        rwa [e] at this
      · rw [tot_range]
        exact q
  · exact h
theorem c_is_nought {qs : List Rat} (hd : Sq d (dqs qs)) (hl : qs.length ≤ 1000) (h : P (.bl (!qs.any fun q => decide (q ≠ 0)))) : sp_is_nought [d] P E := by
  refine ⟨rfl, ?_⟩
  show m_is_nought [.im d, .no] _
  simp only [m_is_nought, sRet, eNot, eCB, aCons, aNil, nComp, iOf, eVar, sl_c0]
  refine hd.seq ⟨by simp; omega, ?_⟩
  refine compD_mapG (fun q => Dt.bl (decide (q ≠ 0))) (fun q hq Q K k => ?_) ?_
  · unfold cStep
    simp [wipeE, dq]
    simpa using k
  · simp only [List.nil_append, f1, anyD]
    refine ⟨qs.map fun q => decide (q ≠ 0), by simp, ?_⟩
    simp only [List.any_map]
    exact h
theorem _root_.MX.Inv.any (B : Tab n W X M) : ∃ T R L, Inv n W n X M T R L := MX.Inv.exX B.nW B.w B.sc
theorem mt_app {ds ds' : List Dt} (h : Rws ds M) (h' : Rws ds' M') : Rws (ds ++ ds') (M ++ M') := by
  induction h with
  | nil => exact h'
  | cons s t ih => exact .cons s ih
theorem c_same_space (hd : Mt d M) (hd' : Mt d' M') (B1 : Tab n n X1 (M ++ M')) (B2 : Tab n n X2 M) (B3 : Tab n n X3 M')
    (h : ∀ T1 R1 L1 T2 R2 L2 T3 R3 L3, Inv n n n X1 (M ++ M') T1 R1 L1 → Inv n n n X2 M T2 R2 L2 → Inv n n n X3 M' T3 R3 L3 → P (.bl (decide ((L1.length : Int) = (L2.length : Int)) && decide ((L1.length : Int) = (L3.length : Int))))) : sp_same_space [d, d', .int (n : Int)] P E := by
  have m1 := B1.m0
  obtain ⟨ds, hs, ha⟩ := hd
  obtain ⟨ds', hs', ha'⟩ := hd'
  refine ⟨rfl, ?_⟩
  show m_same_space [.im d, .im d', .im (.int n), .no] _
  simp [m_same_space]
  refine hs.lst (hs'.lst ?_)
  refine ⟨by rw [List.length_append] at m1; have := ha.len; have := ha'.len; omega, ?_⟩
  refine c_rank_of (M := M ++ M') ⟨_, .inl rfl, mt_app ha ha'⟩ B1 fun T1 R1 L1 I1 => ?_
  simp
  refine c_rank_of (M := M) ⟨ds, hs, ha⟩ B2 fun T2 R2 L2 I2 => ?_
  simp
  by_cases e : (L1.length : Int) = (L2.length : Int)
  · rw [if_pos e]
    refine c_rank_of (M := M') ⟨ds', hs', ha'⟩ B3 fun T3 R3 L3 I3 => ?_
    have := h _ _ _ _ _ _ _ _ _ I1 I2 I3
    rw [decide_eq_true e, Bool.true_and] at this
    simpa using this
  · rw [if_neg e]
    obtain ⟨T3, R3, L3, I3⟩ : ∃ T3 R3 L3, Inv n n n X3 M' T3 R3 L3 := Inv.any B3
    have := h _ _ _ _ _ _ _ _ _ I1 I2 I3
    rw [decide_eq_false e, Bool.false_and] at this
    exact this
theorem c__law_keeps {v : List Rat} (hd : Mt d M) (hv : Sq d' (dqs v)) (hl : M.length ≤ 1000) (D : ∀ r ∈ M, Dots r v) (z : ∀ r ∈ M, dt r.length (g r) (g v) = 0) (h : P (.bl true)) : sp__law_keeps [d, d'] P E := by
  refine ⟨rfl, ?_⟩
  show m__law_keeps [.im d, .im d', .no] _
  simp [m__law_keeps]
  refine hd.seqA fun ds ha => ⟨by rw [ha.len]; omega, ?_⟩
  refine compD_none ha (fun x r mr s Q R q => ?_) ?_
  · unfold cStep
    simp [wipeE]
    refine c__law_dot s hv (D r mr) ?_
    rw [z r mr, dq0]
    simp
    exact q
  · simp
    exact h
theorem c__law_are_ways (hd : Mt d M) (B : Tab n n X M) (I : Inv n n n X' M T R L) (B2 : Tab n n X2 (waysL T L n)) (D : ∀ r ∈ M, ∀ v ∈ waysL T L n, Dots r v) (h : P (.bl true)) : sp__law_are_ways [d, .lst ((waysL T L n).map dT), .int (n : Int)] P E := by
  have fl := frees_len I.rr
  have wl : (waysL T L n).length = (frees n L).length := by simp [waysL]
  have hW := B.W0
  refine ⟨rfl, ?_⟩
  show m__law_are_ways [.im d, .im (.lst ((waysL T L n).map dT)), .im (.int n), .no] _
  simp [m__law_are_ways]
  refine c__law_rank hd B fun T' R' L' J => ?_
  obtain ⟨_, rfl⟩ := I.uniq J
  have : ((waysL T L n).length : Int) = (n : Int) - (L.length : Int) := by omega
  simp [this]
  refine ⟨by omega, ?_⟩
  refine compD_none (mt_dT (M := waysL T L n)) (fun x v mv s Q R q => ?_) ?_
  · unfold cStep
    have lv := ways_len v mv
    simp [wipeE]
    refine s.len ?_
    simp [lv]
    refine c__law_keeps hd s B.m0 (fun r hr => D r hr v mv) (fun r hr => ?_) ?_
    · rw [B.w r hr]
      exact ways_keep I mv hr
    · simp
      exact q
  · simp
    refine c__law_rank ⟨_, .inl rfl, mt_dT⟩ B2 fun T2 R2 L2 J2 => ?_
    rw [ways_rank I.rr J2, this]
    simp
    exact h
end
end KK

set_option maxRecDepth 100000
set_option maxHeartbeats 2000000
namespace KK
open PySem L2 DL MX
theorem c_take {b : Int} {P : Dt → Prop} {E : Xc → Prop} (hb : 2 ≤ b) (hb2 : b < 1073741824) (h : ∀ r : Nat, (r : Int) < b → P (.int (r : Int))) : sp__law_take [.st, .int b] P E := by
  refine ⟨hb2, fun r h1 h2 => ?_⟩
  have h3 := h2 hb
  have := h r.toNat (by omega)
  rwa [show ((r.toNat : Nat) : Int) = r by omega] at this
theorem pln_dq {k : Nat} (hk : 1 ≤ k) (q : Rat) : pln k (dq q) := by
  obtain ⟨k, rfl⟩ : ∃ m, k = m + 1 := ⟨k - 1, by omega⟩
  intro x hx
  simp [dq] at hx
  rcases hx with rfl | rfl <;> exact pln_int
@[simp] theorem okD_dq {q : Rat} : okD (dq q) := (pln_dq (k := 1) (by decide) q).ok
@[simp] theorem eqv_dq_self {q : Rat} : eqv (dq q) (dq q) = true := eqv_self (pln_dq (k := 1) (by decide) q)
theorem dq_inj {a b : Rat} (h : dq a = dq b) : a = b := by
  simp [dq] at h
  exact Rat.ext h.1 (by have := h.2; omega)
theorem eqv_dq {a b : Rat} : eqv (dq a) (dq b) = decide (a = b) := by
  by_cases h : a = b
  · subst h; simp
  · rw [decide_eq_false h]
    exact eqv_false (pln_dq (k := 1) (by decide) a) (pln_dq (k := 1) (by decide) b) fun z => h (dq_inj z)
theorem pln_dqs {k : Nat} (hk : 1 ≤ k) (r : List Rat) : pln (k + 1) (.lst (dqs r)) := fun x hx => by
  obtain ⟨q, _, rfl⟩ := List.mem_map.mp hx
  exact pln_dq hk q
theorem pln_dT {k : Nat} (hk : 1 ≤ k) (r : List Rat) : pln (k + 1) (dT r) := fun x hx => by
  obtain ⟨q, _, rfl⟩ := List.mem_map.mp hx
  exact pln_dq hk q
theorem smD {q : Rat} {X : Nat} (h : S1 6 X q) (hX : X < 2 ^ 100 := by decide) : Sm q := h.sm (by decide) (by decide) (pw_up hX (by decide))
section
variable {P : Dt → Prop} {E : Xc → Prop}
theorem dvd_same {a b : Int} {k : Nat} (hk : k ≠ 0) : (((a.natAbs : Nat) : Int).fmod (k : Int) = 0 ∧ b.fmod (k : Int) = 0) ↔ ((Int.gcd a b : Nat) : Int).fmod (k : Int) = 0 := by
  have hk' : (0 : Int) ≤ (k : Int) := by omega
  rw [Int.fmod_eq_emod_of_nonneg _ hk', Int.fmod_eq_emod_of_nonneg _ hk', Int.fmod_eq_emod_of_nonneg _ hk']
  have h1 : (((a.natAbs : Nat) : Int) % (k : Int) = 0) ↔ k ∣ a.natAbs := by
    rw [← Int.natCast_dvd_natCast]
    exact ⟨Int.dvd_of_emod_eq_zero, Int.emod_eq_zero_of_dvd⟩
  have h2 : (b % (k : Int) = 0) ↔ k ∣ b.natAbs := by
    rw [← Int.ofNat_dvd_left]
    exact ⟨Int.dvd_of_emod_eq_zero, Int.emod_eq_zero_of_dvd⟩
  have h3 : (((Int.gcd a b : Nat) : Int) % (k : Int) = 0) ↔ k ∣ Int.gcd a b := by
    rw [← Int.natCast_dvd_natCast]
    exact ⟨Int.dvd_of_emod_eq_zero, Int.emod_eq_zero_of_dvd⟩
  rw [h1, h2, h3]
  exact (Nat.dvd_gcd_iff).symm
def LoOk (lt : Rat → Rat → Prop) (qs : List Rat) (lo : Dt) : Prop := (qs = [] ∧ lo = .non) ∨ ∃ m, m ∈ qs ∧ (∀ q ∈ qs, ¬ lt q m) ∧ lo = dq m
theorem c_least' {qs : List Rat} (s : ∀ q ∈ qs, Sm q) (h : ∀ lo, LoOk (fun q m => q < m) qs lo → P lo) : sp_least [.lst (dqs qs)] P E :=
  c_least (.inl rfl) s (fun e => h _ (.inl ⟨e, rfl⟩)) fun m a b => h _ (.inr ⟨m, a, b, rfl⟩)
theorem c_most' {qs : List Rat} (s : ∀ q ∈ qs, Sm q) (h : ∀ lo, LoOk (fun q m => m < q) qs lo → P lo) : sp_most [.lst (dqs qs)] P E :=
  c_most (.inl rfl) s (fun e => h _ (.inl ⟨e, rfl⟩)) fun m a b => h _ (.inr ⟨m, a, b, rfl⟩)
theorem LoOk.non {lt : Rat → Rat → Prop} {qs : List Rat} {lo : Dt} (h : LoOk lt qs lo) : isNonD lo = decide (qs = []) := by
  rcases h with ⟨rfl, rfl⟩ | ⟨m, hm, _, rfl⟩
  · rfl
  · have : qs ≠ [] := fun z => by subst z; simp at hm
    rw [decide_eq_false this]
    rfl
theorem eqv_nil {qs : List Rat} : eqv (.lst (dqs qs)) (.lst []) = decide (qs = []) := by
  by_cases h : qs = []
  · subst h; rfl
  · rw [decide_eq_false h]
    exact eqv_false (k := 2) (pln_dqs (by decide) qs) (fun x hx => by simp at hx) (by simpa [dqs] using h)
theorem any_dq {qs : List Rat} {m : Rat} (h : m ∈ qs) : ((dqs qs).any fun y => eqv y (dq m)) = true := by
  rw [List.any_eq_true]
  exact ⟨dq m, List.mem_map_of_mem h, eqv_dq_self⟩
theorem okD_dqs {qs : List Rat} : okD (.lst (dqs qs)) := (pln_dqs (k := 1) (by decide) qs).ok
theorem okD_nil : okD (.lst []) := (pln_dqs (k := 1) (by decide) []).ok
theorem c__law_parts_hold (h : P (.bl true)) : sp__law_parts_hold [.st] P E := by
  refine ⟨rfl, ?_⟩
  show m__law_parts_hold [.im .st, .no, .no, .no, .no, .no, .no, .no, .no, .no, .no, .no, .no, .no] _
  unfold m__law_parts_hold
  simp only [sSeq, sPar, xE, eCall, aCons, aNil, eVar, eC, sl_c0, sl_c1, put_c0, put_c1]
  refine c__law_drawn (w := 9) (by decide) fun one h1 => c__law_drawn (w := 9) (by decide) fun other h2 => ?_
  have s1 := smD h1
  have s2 := smD h2
  simp only [sMany, xCons, xNil, xE, eOp, eCall, aCons, aNil, eVar, eC, sl_c0, sl_c1, put_c0, put_c1, subI, addI, putL]
  refine c_take (by decide) (by decide) fun a ha => c_take (by decide) (by decide) fun b hb => ?_
  simp only [subI, addI]
  refine ⟨⟨rfl, by simp⟩, ?_⟩
  generalize hA : (a : Int) - 30 = A
  generalize hB : (1 : Int) + (b : Int) = B
  have lB : (0 - B).natAbs < 2 ^ 1980 := Nat.lt_of_lt_of_le (show (0 - B).natAbs < 2 ^ 5 by omega) (Nat.pow_le_pow_right (by decide) (by decide))
  simp only [putL, sIf, bOr, bT, eOp, neD, eCall, aCons, aNil, eVar, eC, subI, sl_c0, sl_c1, put_c0, put_c1, asB]
  refine c_part (by omega) lB (c__law_fr (by omega) lB ⟨⟨okD_dq, okD_dq⟩, ?_⟩)
  simp only [eqv_dq_self, Bool.not_true, Bool.false_eq_true, if_false, asB]
  refine c_plus s1 s2 (c__law_add s1 s2 ⟨⟨okD_dq, okD_dq⟩, ?_⟩)
  simp only [eqv_dq_self, Bool.not_true, Bool.false_eq_true, if_false, asB]
  refine c_minus s1 s2 (c__law_sub s1 s2 ⟨⟨okD_dq, okD_dq⟩, ?_⟩)
  simp only [eqv_dq_self, Bool.not_true, Bool.false_eq_true, if_false, asB]
  refine c_times s1 s2 (c__law_mul s1 s2 ⟨⟨okD_dq, okD_dq⟩, ?_⟩)
  simp only [eqv_dq_self, Bool.not_true, Bool.false_eq_true, if_false, asB, sNext]
  -- a quotient
  have ov : ∀ K : Prop, K → bAnd (bT (eOp neD (eOp ixD (eVar 2) (eC (.int 0))) (eC (.int 0)))) (bT (eOp neD (eCall sp_over (aCons (eVar 1) (aCons (eVar 2) aNil))) (eCall sp__law_over (aCons (eVar 1) (aCons (eVar 2) aNil))))) [.im .st, .im (dq one), .im (dq other), .im (.int A), .im (.int B), .no, .no, .no, .no, .no, .no, .no, .no, .no] (fun b => if b = true then P (.bl false) else K) E := by
    intro K k
    simp only [bAnd, bT, eOp, eVar, eC, sl_c0, sl_c1, eCall, aCons, aNil]
    by_cases h0 : other = 0
    · subst h0
      simp [dq0]; exact k
    · have := num_ne h0
      simp [dq, this]
      refine c_over s1 s2 h0 (c__law_over s1 s2 h0 ⟨⟨okD_dq, okD_dq⟩, ?_⟩)
      simp; exact k
  refine ov _ ?_
  -- the divisor
  simp only [sSet, xE, eCall, aCons, aNil, eVar, sl_c0, sl_c1]
  refine c_divisor ?_
  simp only [put_c0, put_c1]
  have gpos := gcd_pos (u := A) (l := B) (by omega)
  simp only [bOr, bT, eOp, ltI, eVar, eC, sl_c0, sl_c1, asB]
  rw [if_neg (by simp; omega)]
  simp only [eCB, aCons, aNil, nComp, iRange2, eC, g2]
  refine ⟨by decide, by decide, ?_⟩
  rw [rng_lo]
  refine compD_fmG (fun _ => false) (fun (i : Nat) => Dt.int (1 + (i : Int))) (fun i hi Q K q => ?_) ?_
  · rw [if_neg (by simp)] at q
    have hi := List.mem_range.mp hi
    have hk : (1 + i) ≠ 0 := by omega
    have dv := dvd_same (a := A) (b := B) hk
    unfold cStep
    simp [wipeE, abs_nat]
    rw [show ((1 : Int) + (i : Int)) = ((1 + i : Nat) : Int) by omega]
    generalize ((A.natAbs : Nat) : Int).fmod ((1 + i : Nat) : Int) = x at *
    generalize B.fmod ((1 + i : Nat) : Int) = y at *
    generalize ((Int.gcd A B : Nat) : Int).fmod ((1 + i : Nat) : Int) = z at *
    have hne : ¬ (((1 + i : Nat) : Int) = 0) := by omega
    refine ⟨hne, ?_⟩
    by_cases hx : x = 0
    · by_cases hy : y = 0
      · have hz := dv.mp ⟨hx, hy⟩
        simp [hx, hy, hz]; exact ⟨by omega, q⟩
      · have hz : z ≠ 0 := fun z => hy (dv.mpr z).2
        simp [hx, hy, hz]; exact ⟨by omega, q⟩
    · have hz : z ≠ 0 := fun z => hx (dv.mpr z).1
      simp [hx, hz]; exact ⟨by omega, q⟩
  have hff : ∀ l : List Nat, l.filter (fun _ => false) = [] := fun l => List.filter_eq_nil_iff.mpr (by simp)
  simp only [hff, List.map_nil, List.append_nil, f1, lenD, gtI, asB, List.length_nil]
  rw [if_neg (by simp)]
  -- a row
  simp only [iRange1, eCall, aCons, aNil, eVar, eC, sl_c0, sl_c1]
  refine c_take (by decide) (by decide) fun m hm => ?_
  simp only [g1, Int.toNat_natCast]
  refine ⟨by omega, by rw [rng_len]; omega, ?_⟩
  rw [rng0]
  refine compD_relG (o := dq) (fun _ q => S1 6 30 q) (fun k hk Q R q => ?_) fun qs hqs => ?_
  · unfold cStep
    simp only [gN, bYes, if_true, eCall, aCons, aNil, eVar, eC, wipeE, sl_c0, sl_c1, put_c0, put_c1]
    exact c__law_drawn (w := 5) (by decide) q
  rw [List.nil_append]
  have lq : qs.length ≤ 4 := by have := hqs.len; rw [List.length_range] at this; omega
  have sq : ∀ q ∈ qs, S1 6 30 q := fun q hq => let ⟨_, _, s⟩ := hqs.mem hq; s
  have smq : ∀ q ∈ qs, Sm q := fun q hq => smD (sq q hq)
  have sums : Sums qs := .of (d := 6) (X := 30) (by decide) (by decide) (by decide) (Nat.lt_of_le_of_lt (Nat.mul_le_mul_right 30 lq) (by decide)) sq
  have gq : ∀ k, k < qs.length → g qs k ∈ qs := fun k hk => by simp [g, List.getD_eq_getElem?_getD, hk]
  have dots : Dots qs qs := ⟨Nat.le_refl _, by omega, fun k hk => smq _ (gq k hk), fun k hk => smq _ (gq k hk), .of (d := 36) (X := 900) (by decide) (by decide) (by decide) (by
    rw [List.length_map, List.length_range]
    exact Nat.lt_of_le_of_lt (Nat.mul_le_mul_right 900 lq) (by decide)) fun q hq => by
      obtain ⟨k, hk, rfl⟩ := List.mem_map.mp hq
      have hk := List.mem_range.mp hk
      exact (sq _ (gq k hk)).mul (sq _ (gq k hk))⟩
  refine c_least' smq fun lo hlo => c_most' smq fun hi hhi => ⟨⟨rfl, by simp⟩, ?_⟩
  have n1 := hlo.non
  have n2 := hhi.non
  simp only [putL, bOr, bT, eOp, eqD, neD, isN, eLst, aNil, eVar, eC, sl_c0, sl_c1, put_c0, put_c1, asB, n1, n2, eqv_nil, eqv_bl, beq_self_eq_true, Bool.not_true, Bool.false_eq_true, if_false, eCall, aCons]
  refine ⟨by decide, ⟨okD_dqs, okD_nil⟩, ⟨okD_bl, okD_bl⟩, by decide, ⟨okD_dqs, okD_nil⟩, ⟨okD_bl, okD_bl⟩, ?_⟩
  refine c_total (.inl rfl) sums (c__law_sum (.inl rfl) sums ⟨⟨okD_dq, okD_dq⟩, ?_⟩)
  simp only [eqv_dq_self, Bool.not_true, Bool.false_eq_true, if_false]
  refine c_dot (.inl rfl) (.inl rfl) dots (c__law_dot (.inl rfl) (.inl rfl) dots ⟨⟨okD_dq, okD_dq⟩, ?_⟩)
  simp only [eqv_dq_self, Bool.not_true, Bool.false_eq_true, if_false]
  -- the least and the most
  simp only [bAnd, bOr, bT, eOp, neD, niL, eLst, aNil, eVar, sl_c0, sl_c1, asB, eqv_nil]
  refine ⟨by decide, ⟨okD_dqs, okD_nil⟩, ?_⟩
  have cont : ∀ K : Prop, K → (if (!decide (qs = [])) = true then
      bOr (bT (eOp niL (eVar 7) (eVar 6))) (bOr (bT (eOp niL (eVar 8) (eVar 6))) (bT (eOp gtI (eCB (f1 lenD) (aCons (nComp [13] (iOf (eVar 6)) (gN 13) (bOr (bT (eCall sp__law_less (aCons (eVar 13) (aCons (eVar 7) aNil)))) (bT (eCall sp__law_less (aCons (eVar 8) (aCons (eVar 13) aNil))))) (eVar 13)) aNil)) (eC (.int 0)))))
        [.im .st, .im (dq one), .im (dq other), .im (.int A), .im (.int B), .im (.int (Int.gcd A B)), .im (.lst (dqs qs)), .im lo, .im hi, .no, .no, .no, .no, .no] (fun b => if b = true then P (.bl false) else K) E else K) := by
    intro K k
    by_cases hq0 : qs = []
    · simp [hq0]; exact k
    · rw [if_pos (by simp [hq0])]
      rcases hlo with ⟨z, _⟩ | ⟨lo, ml, hl, rfl⟩
      · exact absurd z hq0
      rcases hhi with ⟨z, _⟩ | ⟨hi, mh, hh, rfl⟩
      · exact absurd z hq0
      simp only [bOr, bT, eOp, niL, eVar, sl_c0, sl_c1, asB, any_dq ml, any_dq mh, Bool.not_true, Bool.false_eq_true, if_false]
      refine ⟨⟨okD_dq, okD_dqs⟩, ⟨okD_dq, okD_dqs⟩, ?_⟩
      simp only [eCB, aCons, aNil, nComp, iOf, seqD, eVar, sl_c0, sl_c1]
      refine ⟨by simp; omega, ?_⟩
      refine compD_fmG (e := dq) (fun _ => false) dq (fun q hq Q K2 k2 => ?_) ?_
      · rw [if_neg (by simp)] at k2
        unfold cStep
        simp [wipeE]
        refine c__law_less (smq q hq) (smq lo ml) ?_
        simp [hl q hq]
        refine c__law_less (smq hi mh) (smq q hq) ?_
        simp [hh q hq]
        exact k2
      · simp [hff]
        exact k
  refine cont _ ?_
  -- a power
  refine c_take (by decide) (by decide) fun m2 hm2 => ?_
  have p1 : ∀ k, k ≤ 4 → Sm (pws one k) := fun k hk => (h1.pws k).sm (Nat.pow_pos (by decide)) (Nat.lt_of_le_of_lt (Nat.pow_le_pow_right (by decide) hk) (by decide)) (Nat.lt_of_le_of_lt (Nat.pow_le_pow_right (by decide) hk) (by decide))
  simp only [eTup, eC, aCons, aNil, sFor, iRange1, eVar, sl_c0, sl_c1, g1, Int.toNat_natCast]
  refine ⟨by simp, ?_⟩
  rw [rng0]
  refine ⟨by omega, ?_⟩
  refine forD_inv (fun i e => ∃ t, e = [.im .st, .im (dq one), .im (dq other), .im (.int A), .im (.int B), .im (.int (Int.gcd A B)), .im (.lst (dqs qs)), .im lo, .im hi, .im (.int m2), .im (dq (pws one i)), t, .no, .no]) ⟨.no, rfl⟩ ?_ ?_
  · rintro i x e hx ⟨t, rfl⟩ nx hnx
    have hi := (get_rng (by rw [rng0]; exact hx)).1
    simp
    exact c__law_mul (p1 i (by omega)) s1 (hnx _ ⟨_, rfl⟩)
  · rintro e ⟨t, rfl⟩
    rw [List.length_map, List.length_range]
    simp only [sl_c0, sl_c1]
    refine c_whole_below s1 ?_
    simp only [put_c0, put_c1, sl_c0, sl_c1]
    refine c_power (by omega) s1 (fun k hk => p1 k (by omega)) ⟨⟨okD_dq, okD_dq⟩, ?_⟩
    simp only [eqv_dq_self, Bool.not_true, Bool.false_eq_true, if_false]
    have nd := h1.num (by decide)
    have dp := den_pos' one
    have f1 := Int.ediv_mul_le one.num (b := (one.den : Int)) (by omega)
    have f2 := Int.lt_ediv_add_one_mul_self one.num dp
    have fa : (one.num / (one.den : Int)).natAbs ≤ one.num.natAbs := Int.natAbs_ediv_le_natAbs _ _
    generalize hF : one.num / (one.den : Int) = F at *
    have smI : ∀ i : Int, i.natAbs ≤ 1000 → Sm (i : Rat) := fun i hi => ⟨Nat.lt_of_le_of_lt hi (by decide), by show 1 < _; decide⟩
    have l1 : ¬ one < ((F : Int) : Rat) := by
      rw [Rat.lt_iff]
      show ¬ (one.num * 1 < F * (one.den : Int))
      omega
    have l2 : one < ((F + 1 : Int) : Rat) := by
      rw [Rat.lt_iff]
      show one.num * 1 < (F + 1) * (one.den : Int)
      omega
    refine ⟨by simp, ?_⟩
    rw [← dqi]
    refine c__law_less s1 (smI F (by omega)) ?_
    simp only [l1, decide_false, Bool.false_eq_true, if_false]
    refine ⟨by simp, ?_⟩
    rw [← dqi]
    refine c__law_less s1 (smI (F + 1) (by omega)) ?_
    simp only [l2, decide_true, if_true, Bool.not_true, Bool.false_eq_true, if_false]
    refine c_negative (c__law_turn ⟨⟨okD_dq, okD_dq⟩, ?_⟩)
    simp only [eqv_dq_self, Bool.not_true, Bool.false_eq_true, if_false]
    simp only [sRet, eAnd, eOp, eqD, eCall, aCons, aNil, eVar, sl_c0, sl_c1]
    refine c_is_less s1 s2 (c__law_less s1 s2 ⟨⟨okD_bl, okD_bl⟩, ?_⟩)
    simp only [eqv_bl, beq_self_eq_true, asB, if_true]
    refine c_text_of (by omega) (by omega) ?_
    refine t_text (i := 1) (a := one) rfl (by omega) (by omega) ⟨⟨(tx_ok one).ok, (tx_ok one).ok⟩, ?_⟩
    rw [eqv_self (tx_ok one)]
    exact h
end
end KK

set_option maxRecDepth 100000
set_option maxHeartbeats 2000000
namespace KK
open PySem L2 DL MX
/-! the statements of _law_tables_hold, each by itself -/
def u1 : IS := (sMany [1, 2] (xCons (xE (eOp addI (eC (.int 1)) (eCall sp__law_take (aCons (eVar 0) (aCons (eC (.int 4)) aNil))))) (xCons (xE (eCall sp__law_take (aCons (eVar 0) (aCons (eC (.int 5)) aNil)))) xNil)))
def u2 : IS := (sSet 3 (xN (nComp [19] (iRange1 (aCons (eVar 2) aNil)) (gN 19) bYes (eCB (f1 tupD) (aCons (nComp [21] (iRange1 (aCons (eVar 1) aNil)) (gN 21) bYes (eCall sp__law_drawn (aCons (eVar 0) (aCons (eC (.int 3)) aNil)))) aNil)))))
def u3 : IS := (sIf (bAnd (bT (eOp gtI (eVar 2) (eC (.int 1)))) (bT (eOp eqD (eCall sp__law_take (aCons (eVar 0) (aCons (eC (.int 2)) aNil))) (eC (.int 0))))) (sSetAt 3 (eUn negI (eC (.int 1))) (eCB (f1 tupD) (aCons (nComp [21] (iRange1 (aCons (eVar 1) aNil)) (gN 21) bYes (eCall sp__law_mul (aCons (eOp ixD (eOp ixD (oVar 3) (eC (.int 0))) (eVar 21)) (aCons (eTup (aCons (eC (.int 2)) (aCons (eC (.int 1)) aNil))) aNil)))) aNil))) sNext)
def u4 : IS := (sFrz 3 (sAsg (eCall sp_reduced (aCons (eVar 3) (aCons (eVar 1) aNil))) (tgT 2 (tgsCons (tgN 4) (tgsCons (tgN 5) tgsNil)))))
def u5 : IS := (sFrz 3 (sAsg (eCall sp__law_put_out (aCons (eVar 3) (aCons (eVar 1) aNil))) (tgT 2 (tgsCons (tgN 6) (tgsCons (tgN 7) tgsNil)))))
def u6 : IS := (sFrz 3 (sIf (bOr (bT (eOp neD (eCB (f1 lstD) (aCons (eVar 5) aNil)) (eVar 7))) (bOr (bT (eOp neD (nComp [22] (iOf (eSl slL (eVar 4) pNo (pAt (eCB (f1 lenD) (aCons (eVar 5) aNil))))) (gN 22) bYes (eCB (f1 lstD) (aCons (eVar 22) aNil))) (eSl slL (eVar 6) pNo (pAt (eCB (f1 lenD) (aCons (eVar 7) aNil)))))) (bOr (bT (eOp neD (eCall sp_rank_of (aCons (eVar 3) (aCons (eVar 1) aNil))) (eCB (f1 lenD) (aCons (eVar 7) aNil)))) (bAnd (bT (eOp neD (oVar 3) (eLst aNil))) (bT (eOp neD (eCall sp_rank (aCons (eVar 3) aNil)) (eCB (f1 lenD) (aCons (eVar 7) aNil)))))))) (sRet (eC (.bl false))) sNext))
def u7 : IS := (sFrz 3 (sSet 8 (xE (eCall sp_ways (aCons (eVar 3) (aCons (eVar 1) aNil))))))
def u8 : IS := (sFrz 3 (sIf (bOr (bT (eOp neD (nComp [23] (iOf (eVar 8)) (gN 23) bYes (eCB (f1 tupD) (aCons (eVar 23) aNil))) (eCall sp__law_ways (aCons (eVar 3) (aCons (eVar 1) aNil))))) (bNot (bT (eCall sp__law_are_ways (aCons (eVar 3) (aCons (eVar 8) (aCons (eVar 1) aNil))))))) (sRet (eC (.bl false))) sNext))
def u9 : IS := (sSet 9 (xE (nComp [20] (iOf (oVar 3)) (gN 20) bYes (eCall sp__law_drawn (aCons (eVar 0) (aCons (eC (.int 3)) aNil))))))
def u10 : IS := (sIf (bAnd (bT (eOp gtI (eVar 2) (eC (.int 1)))) (bT (eOp eqD (eCall sp__law_take (aCons (eVar 0) (aCons (eC (.int 2)) aNil))) (eC (.int 0))))) (sSeq (sSet 10 (xE (eCB (f1 tupD) (aCons (nComp [21] (iRange1 (aCons (eVar 1) aNil)) (gN 21) bYes (eCall sp__law_drawn (aCons (eVar 0) (aCons (eC (.int 3)) aNil)))) aNil)))) (sSet 9 (xE (nComp [20] (iOf (oVar 3)) (gN 20) bYes (eCall sp__law_dot (aCons (eVar 20) (aCons (eVar 10) aNil))))))) sNext)
def u11 : IS := (sAsg (eCall sp__law_put_out (aCons (nComp [19] (iRange1 (aCons (eVar 2) aNil)) (gN 19) bYes (eOp catL (eCB (f1 lstD) (aCons (eOp ixD (oVar 3) (eVar 19)) aNil)) (eLst (aCons (eOp ixD (eVar 9) (eVar 19)) aNil)))) (aCons (eOp addI (eVar 1) (eC (.int 1))) aNil))) (tgT 2 (tgsCons (tgN 11) (tgsCons (tgN 12) tgsNil))))
def u12 : IS := (sFrz 3 (sSet 13 (xE (eCall sp_point (aCons (eVar 3) (aCons (eVar 9) (aCons (eVar 1) aNil)))))))
def u13 : IS := (sIf (bOr (bT (eOp neD (eOp isN (eVar 13) (eC .non)) (eOp inL (eVar 1) (eVar 12)))) (bAnd (bT (eOp niN (eVar 13) (eC .non))) (bT (eOp neD (nComp [20] (iOf (oVar 3)) (gN 20) bYes (eCall sp__law_dot (aCons (eVar 20) (aCons (eVar 13) aNil)))) (eVar 9))))) (sRet (eC (.bl false))) sNext)
def u14 : IS := (sIf (bAnd (bT (eOp niN (eVar 13) (eC .non))) (bT (eOp gtI (eCB (f1 lenD) (aCons (nComp [21] (iRange1 (aCons (eVar 1) aNil)) (gN 21) (bAnd (bT (eOp niL (eVar 21) (eVar 7))) (bT (eOp neD (eOp ixD (eVar 13) (eVar 21)) (eTup (aCons (eC (.int 0)) (aCons (eC (.int 1)) aNil)))))) (eVar 21)) aNil)) (eC (.int 0))))) (sRet (eC (.bl false))) sNext)
def u15 : IS := (sSet 14 (xE (eCB (f1 tupD) (aCons (nComp [21] (iRange1 (aCons (eVar 1) aNil)) (gN 21) bYes (eCall sp__law_drawn (aCons (eVar 0) (aCons (eC (.int 3)) aNil)))) aNil))))
def u16 : IS := (sIf (bT (eOp eqD (eCall sp__law_take (aCons (eVar 0) (aCons (eC (.int 2)) aNil))) (eC (.int 0)))) (sFrz 3 (sSet 14 (xE (eCall sp__law_summed (aCons (eVar 3) (aCons (nComp [20] (iOf (oVar 3)) (gN 20) bYes (eCall sp__law_drawn (aCons (eVar 0) (aCons (eC (.int 2)) aNil)))) (aCons (eVar 1) aNil))))))) sNext)
def u17 : IS := (sFrz 3 (sPar 15 16 (xE (eCall sp_made_of (aCons (eVar 3) (aCons (eVar 14) aNil)))) (xE (eOp eqD (eCall sp__law_rank (aCons (eOp catL (oVar 3) (eLst (aCons (eVar 14) aNil))) (aCons (eVar 1) aNil))) (eCB (f1 lenD) (aCons (eVar 7) aNil))))))
def u18 : IS := (sFrz 3 (sIf (bOr (bT (eOp neD (eOp niN (eVar 15) (eC .non)) (eVar 16))) (bAnd (bT (eOp niN (eVar 15) (eC .non))) (bOr (bT (eOp neD (eCB (f1 lenD) (aCons (eVar 15) aNil)) (eVar 2))) (bT (eOp neD (eCall sp__law_summed (aCons (eVar 3) (aCons (eVar 15) (aCons (eVar 1) aNil)))) (eVar 14)))))) (sRet (eC (.bl false))) sNext))
def u19 : IS := (sSet 10 (xE (nComp [20] (iOf (oVar 3)) (gN 20) bYes (eCall sp__law_drawn (aCons (eVar 0) (aCons (eC (.int 2)) aNil))))))
def u20 : IS := (sSet 17 (xE (eIf (bT (eOp eqD (eCall sp__law_take (aCons (eVar 0) (aCons (eC (.int 2)) aNil))) (eC (.int 0)))) (nComp [19] (iRange1 (aCons (eCall sp__law_take (aCons (eVar 0) (aCons (eC (.int 3)) aNil))) aNil)) (gN 19) bYes (eCB (f1 tupD) (aCons (nComp [21] (iRange1 (aCons (eVar 1) aNil)) (gN 21) bYes (eCall sp__law_drawn (aCons (eVar 0) (aCons (eC (.int 3)) aNil)))) aNil))) (nComp [22] (iOf (eSl slL (eVar 6) pNo (pAt (eCB (f1 lenD) (aCons (eVar 7) aNil))))) (gN 22) bYes (eCB (f1 tupD) (aCons (eVar 22) aNil))))))
def u21 : IS := (sSet 18 (xE (eCall sp__law_rank (aCons (eOp catL (oVar 3) (eVar 17)) (aCons (eVar 1) aNil)))))
def u22 : IS := (sFrz 3 (sIf (bOr (bT (eOp neD (eCall sp_same_space (aCons (eVar 3) (aCons (eVar 17) (aCons (eVar 1) aNil)))) (eAnd (eOp eqD (eVar 18) (eCB (f1 lenD) (aCons (eVar 7) aNil))) (eOp eqD (eVar 18) (eCall sp__law_rank (aCons (eVar 17) (aCons (eVar 1) aNil))))))) (bT (eOp neD (eCall sp_summed (aCons (eVar 3) (aCons (eVar 10) (aCons (eVar 1) aNil)))) (eCall sp__law_summed (aCons (eVar 3) (aCons (eVar 10) (aCons (eVar 1) aNil))))))) (sRet (eC (.bl false))) sNext))
def u23 : IS := (sRet (eOp eqD (eCall sp_is_nought (aCons (eVar 14) aNil)) (eOp eqD (eCB (f1 lenD) (aCons (nComp [23] (iOf (eVar 14)) (gN 23) (bT (eOp neD (eOp ixD (eVar 23) (eC (.int 0))) (eC (.int 0)))) (eVar 23)) aNil)) (eC (.int 0)))))
def v23 : IS := u23
def v22 : IS := sSeq u22 v23
def v21 : IS := sSeq u21 v22
def v20 : IS := sSeq u20 v21
def v19 : IS := sSeq u19 v20
def v18 : IS := sSeq u18 v19
def v17 : IS := sSeq u17 v18
def v16 : IS := sSeq u16 v17
def v15 : IS := sSeq u15 v16
def v14 : IS := sSeq u14 v15
def v13 : IS := sSeq u13 v14
def v12 : IS := sSeq u12 v13
def v11 : IS := sSeq u11 v12
def v10 : IS := sSeq u10 v11
def v9 : IS := sSeq u9 v10
def v8 : IS := sSeq u8 v9
def v7 : IS := sSeq u7 v8
def v6 : IS := sSeq u6 v7
def v5 : IS := sSeq u5 v6
def v4 : IS := sSeq u4 v5
def v3 : IS := sSeq u3 v4
def v2 : IS := sSeq u2 v3
def v1 : IS := sSeq u1 v2
theorem m_tab : m__law_tables_hold = v1 := rfl

def ex (a : Nat) : Nat → Nat
  | 0 => a
  | k + 1 => 2 * ex a k + 1
theorem bnd_ex {X a : Nat} (h : X ≤ 2 ^ a) : ∀ k, bnd X k ≤ 2 ^ ex a k
  | 0 => h
  | k + 1 => by
    have := bnd_ex h k
    have e : (2 : Nat) ^ ex a (k + 1) = 2 * (2 ^ ex a k * 2 ^ ex a k) := by
      show 2 ^ (2 * ex a k + 1) = _
      rw [Nat.pow_succ, Nat.two_mul, Nat.pow_add, Nat.mul_comm]
    rw [e]
    exact Nat.mul_le_mul_left 2 (Nat.mul_le_mul this this)
theorem bnd_ok4 {X n : Nat} (h : X ≤ 2 ^ 54) (hn : n ≤ 4) : ∀ k, k ≤ n → bnd X k < 2 ^ 900 := fun k hk => by
  refine Nat.lt_of_le_of_lt (bnd_ex h k) (Nat.pow_lt_pow_right (by decide) ?_)
  have : k = 0 ∨ k = 1 ∨ k = 2 ∨ k = 3 ∨ k = 4 := by omega
  rcases this with rfl | rfl | rfl | rfl | rfl <;> decide
theorem bnd_ok5 {X n : Nat} (h : X ≤ 2 ^ 12) (hn : n ≤ 5) : ∀ k, k ≤ n → bnd X k < 2 ^ 900 := fun k hk => by
  refine Nat.lt_of_le_of_lt (bnd_ex h k) (Nat.pow_lt_pow_right (by decide) ?_)
  have : k = 0 ∨ k = 1 ∨ k = 2 ∨ k = 3 ∨ k = 4 ∨ k = 5 := by omega
  rcases this with rfl | rfl | rfl | rfl | rfl | rfl <;> decide
theorem scv_of {d X : Nat} {r : List Rat} (h : ∀ q ∈ r, S1 d X q) : ScV d X r := fun j => by
  by_cases hj : j < r.length
  · exact h _ (by simp [g, List.getD_eq_getElem?_getD, hj])
  · rw [g_ge (by omega)]
    exact S1.zero
theorem s1_of {d X : Nat} {r : List Rat} (h : ScV d X r) : ∀ q ∈ r, S1 d X q := fun q hq => by
  obtain ⟨j, _, rfl⟩ := mem_g hq
  exact h j
theorem Tab.of {n W d X : Nat} {M : List (List Rat)} (nW : n ≤ W) (hW : W ≤ 1000) (w : ∀ r ∈ M, r.length = W) (hm : M.length ≤ 1000) (hd : 0 < d) (hX : d ≤ X) (s : ∀ r ∈ M, ∀ q ∈ r, S1 d X q) (bd : ∀ k, k ≤ n → bnd X k < 2 ^ 900) : Tab n W X M :=
  ⟨nW, w, hW, hm, by omega, ⟨d, hd, hX, fun r hr => scv_of (s r hr)⟩, bd⟩
structure Ctx (n : Nat) (M : List (List Rat)) : Prop where
  n1 : 1 ≤ n
  n4 : n ≤ 4
  m4 : M.length ≤ 4
  w : ∀ r ∈ M, r.length = n
  s : ∀ r ∈ M, ∀ q ∈ r, S1 6 36 q
theorem Ctx.tab {n : Nat} {M : List (List Rat)} (C : Ctx n M) : Tab n n 36 M :=
  .of (Nat.le_refl _) (by have := C.n4; omega) C.w (by have := C.m4; omega) (by decide) (by decide) C.s (bnd_ok4 (by decide) C.n4)
section
variable {n X X' X4 : Nat} {M Mo T R T' R' T4 R4 : List (List Rat)} {L L' L4 : List Nat} {P : Dt → Prop} {E : Xc → Prop} {gl sh : List Rat} {x1 x2 x3 x4 x5 x6 x7 x8 x9 x10 x11 x12 x13 x14 x15 x16 x17 x18 x19 x20 x21 x22 x23 : Sl} {nx bk ct : List Sl → Prop}
theorem h23 (hg : gl.length ≤ 1000) (h : P (.bl true)) : v23 [.im .st, x1, x2, x3, x4, x5, x6, x7, x8, x9, x10, x11, x12, x13, .im (dT gl), x15, x16, x17, x18, x19, x20, x21, x22, x23] { nx := nx, bk := bk, ct := ct, rt := P, ex := E } := by
  simp only [v23, u23, sRet, eOp, eqD, eCall, aCons, aNil, eVar, sl_c0, sl_c1]
  refine c_is_nought (.inr rfl) hg ?_
  simp only [eCB, f1, aCons, aNil, nComp, iOf, eVar, sl_c0, sl_c1, dT, seqD]
  refine ⟨by simp [dqs]; omega, ?_⟩
  refine compD_fmG (e := dq) (fun q => decide (q ≠ 0)) dq (fun q hq Q K k => ?_) ?_
  · unfold cStep
    by_cases h0 : q = 0
    · rw [if_neg (by simp [h0])] at k
      simp [wipeE, h0, dq0]
      exact k
    · rw [if_pos (by simp [h0])] at k
      have := num_ne h0
      simp [wipeE, dq, this]
      exact k
  · have e : (!gl.any fun q => decide (q ≠ 0)) = decide (((gl.filter fun q => decide (q ≠ 0)).length : Int) = 0) := by
      by_cases hz : gl.filter (fun q => decide (q ≠ 0)) = []
      · rw [hz]
        have := List.filter_eq_nil_iff.mp hz
        simp at this
        simp
        exact this
      · have hl : ((gl.filter fun q => decide (q ≠ 0)).length : Int) ≠ 0 := by
          have := List.length_pos_iff.mpr hz
          omega
        rw [decide_eq_false hl]
        obtain ⟨q, hq⟩ := List.exists_mem_of_ne_nil _ hz
        have hq := List.mem_filter.mp hq
        simp at hq
        simp
        exact ⟨q, hq.1, hq.2⟩
    simp only [lenD, List.nil_append, List.length_map]
    refine ⟨⟨by first | exact okD_int | simp, by simp⟩, ⟨okD_bl, okD_bl⟩, ?_⟩
    rw [eqv_int, e, eqv_bl, beq_self_eq_true]
    exact h
theorem dots_of {d e X Y : Nat} {r s : List Rat} (hl : r.length ≤ s.length) (h5 : r.length ≤ 5) (hr : ∀ q ∈ r, S1 d X q) (hs : ∀ q ∈ s, S1 e Y q) (h1 : 0 < d) (h2 : 0 < e) (h3 : d * e < 2 ^ 990) (h4 : 5 * (X * Y) < 2 ^ 990) (h6 : d < 2 ^ 990) (h7 : e < 2 ^ 990) (h8 : X < 2 ^ 990) (h9 : Y < 2 ^ 990) : Dots r s := by
  have gr := scv_of hr
  have gs := scv_of hs
  refine ⟨hl, by omega, fun k hk => S1.sm (gr k) h1 h6 h8, fun k hk => S1.sm (gs k) h2 h7 h9, .of (d := d * e) (X := X * Y) (Nat.mul_pos h1 h2) h3 (by omega) ?_ ?_⟩
  · rw [List.length_map, List.length_range]
    exact Nat.lt_of_le_of_lt (Nat.mul_le_mul_right _ h5) h4
  · intro q hq
    obtain ⟨k, _, rfl⟩ := List.mem_map.mp hq
    exact S1.mul (gr k) (gs k)
theorem h22 (C : Ctx n M) (I : Inv n n n X M T R L) (I4 : Inv n n n X4 (M ++ Mo) T4 R4 L4) (B4 : Tab n n X4 (M ++ Mo)) (Bo : Tab n n X' Mo) (hsh : sh.length = M.length) (ssh : ∀ q ∈ sh, S1 6 12 q) (hg : gl.length ≤ 1000) (h : P (.bl true)) :
    v22 [.im .st, .im (.int n), x2, .im (.lst (M.map dT)), x4, x5, x6, .im (dL L), x8, x9, .im (.lst (dqs sh)), x11, x12, x13, .im (dT gl), x15, x16, .im (.lst (Mo.map dT)), .im (.int L4.length), x19, x20, x21, x22, x23] { nx := nx, bk := bk, ct := ct, rt := P, ex := E } := by
  have m4 := C.m4
  have n4 := C.n4
  have hr : Mt (.lst (M.map dT)) M := ⟨_, .inl rfl, mt_dT⟩
  have ho : Mt (.lst (Mo.map dT)) Mo := ⟨_, .inl rfl, mt_dT⟩
  have D : ∀ c, c < n → Dots sh (M.map fun r => g r c) := fun c hc => dots_of (d := 6) (e := 6) (X := 12) (Y := 36) (by simp [hsh]) (by omega) ssh (fun q hq => by
    obtain ⟨r, hr, rfl⟩ := List.mem_map.mp hq
    exact scv_of (C.s r hr) c) (by decide) (by decide) (by decide) (by decide) (by decide) (by decide) (by decide) (by decide)
  simp only [v22, u22, sSeq, sFrz, frz, sIf, bOr, bT, eOp, neD, eqD, eAnd, eCall, eCB, f1, lenD, dL, List.length_map, aCons, aNil, eVar, sl_c0, sl_c1]
  refine c_same_space hr ho B4 C.tab Bo fun T1 R1 L1 T2 R2 L2 T3 R3 L3 I1 I2 I3 => ?_
  obtain ⟨_, rfl⟩ := I1.uniq I4
  obtain ⟨_, rfl⟩ := I2.uniq I
  simp only [eqv_int, asB]
  refine ⟨⟨okD_int, okD_int⟩, ?_⟩
  have key : ∀ Z K : Prop, K → sp_summed [.lst (M.map dT), .lst (dqs sh), .int n] (fun x => sp__law_summed [.lst (M.map dT), .lst (dqs sh), .int n] (fun y => (okD x ∧ okD y) ∧ if (!eqv x y) = true then Z else K) E) E := fun Z K k => by
    have pl : pln 2 (.tup ((List.range n).map fun c => dq (dt M.length (g sh) fun k => at2 M k c))) := fun x hx => by
      obtain ⟨c, _, rfl⟩ := List.mem_map.mp hx
      exact pln_dq (by decide) _
    refine c_summed hr (.inl rfl) hsh (fun r hr => by rw [C.w r hr]; exact Nat.le_refl _) (by omega) (by omega) D ?_
    refine c__law_summed hr (.inl rfl) hsh (fun r hr => by rw [C.w r hr]; exact Nat.le_refl _) (by omega) (by omega) D ⟨⟨pl.ok, pl.ok⟩, ?_⟩
    rw [eqv_self pl, if_neg (by simp)]
    exact k
  by_cases e : (L1.length : Int) = (L2.length : Int)
  · rw [if_pos (decide_eq_true e)]
    refine c__law_rank ho Bo fun T5 R5 L5 I5 => ⟨⟨okD_int, okD_int⟩, ⟨okD_bl, okD_bl⟩, ?_⟩
    obtain ⟨_, rfl⟩ := I5.uniq I3
    rw [eqv_int, decide_eq_true e, Bool.true_and, eqv_bl, beq_self_eq_true]
    simp only [Bool.not_true, Bool.false_eq_true, if_false]
    exact key _ _ (h23 hg h)
  · rw [if_neg (by simp; omega)]
    rw [decide_eq_false e, Bool.false_and, eqv_bl, beq_self_eq_true]
    simp only [Bool.not_true, Bool.false_eq_true, if_false]
    exact ⟨⟨okD_bl, okD_bl⟩, key _ _ (h23 hg h)⟩
end
end KK

set_option maxRecDepth 100000
set_option maxHeartbeats 2000000
namespace KK
open PySem L2 DL MX
section
variable {n X X' X4 : Nat} {M Mo T R T' R' T4 R4 : List (List Rat)} {L L' L4 : List Nat} {P : Dt → Prop} {E : Xc → Prop} {gl sh : List Rat} {x1 x2 x3 x4 x5 x6 x7 x8 x9 x10 x11 x12 x13 x14 x15 x16 x17 x18 x19 x20 x21 x22 x23 : Sl} {nx bk ct : List Sl → Prop}
theorem h21 (C : Ctx n M) (I : Inv n n n X M T R L) (B4 : Tab n n X4 (M ++ Mo)) (Bo : Tab n n X' Mo) (hsh : sh.length = M.length) (ssh : ∀ q ∈ sh, S1 6 12 q) (hg : gl.length ≤ 1000) (h : P (.bl true)) :
    v21 [.im .st, .im (.int n), x2, .im (.lst (M.map dT)), x4, x5, x6, .im (dL L), x8, x9, .im (.lst (dqs sh)), x11, x12, x13, .im (dT gl), x15, x16, .im (.lst (Mo.map dT)), x18, x19, x20, x21, x22, x23] { nx := nx, bk := bk, ct := ct, rt := P, ex := E } := by
  have m0 := B4.m0
  simp only [v21, u21, sSeq, sSet, xE, eCall, eOp, oVar, eVar, aCons, aNil, sl_c0, sl_c1, put_c0, put_c1, catL]
  refine ⟨by rw [List.length_append] at m0; simp; omega, ?_⟩
  refine c__law_rank ⟨_, .inl rfl, mt_app mt_dT mt_dT⟩ B4 fun T4 R4 L4 I4 => ?_
  exact h22 C I I4 B4 Bo hsh ssh hg h
theorem tab_app {d : Nat} (C : Ctx n M) (hd : 0 < d) (hX : d ≤ X) (hXX : 36 * X ≤ 2 ^ 54) (hm : Mo.length ≤ 100) (w : ∀ r ∈ Mo, r.length = n) (s : ∀ r ∈ Mo, ∀ q ∈ r, S1 d X q) : Tab n n (36 * X) (M ++ Mo) ∧ Tab n n X Mo := by
  have n4 := C.n4
  have m4 := C.m4
  refine ⟨.of (d := 6 * d) (Nat.le_refl _) (by omega) (fun r hr => ?_) (by simp; omega) (by omega) (by omega) (fun r hr q hq => ?_) (bnd_ok4 hXX n4), .of (d := d) (Nat.le_refl _) (by omega) w (by omega) hd hX s (bnd_ok4 (by omega) n4)⟩
  · rcases List.mem_append.mp hr with z | z
    · exact C.w r z
    · exact w r z
  · rcases List.mem_append.mp hr with z | z
    · exact ((C.s r z q hq).scale (e := d)).up (Nat.mul_le_mul_left 36 hX)
    · have := (s r z q hq).scale (e := 6)
      rw [Nat.mul_comm 6 d]
      exact this.up (by omega)
def D3 : Nat := bnd 36 3
theorem full_id (I : Inv n n n X M T R L) (hL : L.length = n) : ∀ r ∈ T, ∀ q ∈ r, S1 1 1 q := fun r hr q hq => by
  obtain ⟨k, hk, rfl⟩ := mem_at hr
  obtain ⟨j, hj, rfl⟩ := mem_g hq
  rw [I.wT _ (at_mem hk)] at hj
  have hall : ∀ c, c < n → c ∈ L := fun c hc => by
    have e := sorted_eq I.sorted (range_sorted n) (fun l hl => List.mem_range.mpr (I.lt l hl)) (by rw [List.length_range, hL])
    rw [e]
    exact List.mem_range.mpr hc
  have gi := idx_get (hall j hj)
  show S1 1 1 (at2 T k j)
  by_cases e : k = L.idxOf j
  · rw [I.one k j (by rw [e]; exact gi)]
    exact ⟨1, by simp, by simp⟩
  · rw [I.off k _ j gi e]
    exact S1.zero
theorem due_sc (C : Ctx n M) (I : Inv n n n 36 M T R L) : ∃ d, 0 < d ∧ d ≤ D3 ∧ ∀ r ∈ T, ∀ q ∈ r, S1 d D3 q := by
  have n4 := C.n4
  by_cases hL : L.length = n
  · exact ⟨1, by decide, by decide, fun r hr q hq => (full_id I hL r hr q hq).up (by decide)⟩
  · have h1 := I.len_le
    obtain ⟨d, h2, h3, h4⟩ := I.sc (by decide)
    have hb : bnd 36 L.length ≤ D3 := by
      have : L.length = 0 ∨ L.length = 1 ∨ L.length = 2 ∨ L.length = 3 := by omega
      rcases this with e | e | e | e <;> rw [e] <;> decide
    exact ⟨d, h2, Nat.le_trans h3 hb, fun r hr q hq => (s1_of (h4 r (.inl hr)) q hq).up hb⟩
theorem h20 (C : Ctx n M) (I : Inv n n n 36 M T R L) (hsh : sh.length = M.length) (ssh : ∀ q ∈ sh, S1 6 12 q) (hg : gl.length ≤ 1000) (h : P (.bl true)) :
    v20 [.im .st, .im (.int n), x2, .im (.lst (M.map dT)), x4, x5, .im (dM (T ++ R')), .im (dL L), x8, x9, .im (.lst (dqs sh)), x11, x12, x13, .im (dT gl), x15, x16, x17, x18, x19, x20, x21, x22, x23] { nx := nx, bk := bk, ct := ct, rt := P, ex := E } := by
  have n4 := C.n4
  have hTL := I.len
  have hLn := I.len_le
  simp only [v20, u20, sSeq, sSet, xE, eIf, bT, eOp, eCall, eqD, eVar, eC, aCons, aNil, sl_c0, sl_c1, put_c0, put_c1]
  refine c_take (by decide) (by decide) fun t ht => ⟨⟨okD_int, okD_int⟩, ?_⟩
  rw [eqv_int]
  simp only [asB]
  by_cases ht0 : (t : Int) = 0
  · rw [if_pos (by simp [ht0])]
    simp only [nComp, iRange1, eCall, eVar, eC, aCons, aNil, sl_c0, sl_c1]
    refine c_take (by decide) (by decide) fun k hk => ?_
    simp only [g1, Int.toNat_natCast]
    refine ⟨by omega, by rw [rng_len]; omega, ?_⟩
    rw [rng0]
    refine compD_relG (o := dT) (fun _ r => r.length = n ∧ ∀ q ∈ r, S1 6 18 q) (fun k hk Q R q => ?_) fun Mo hMo => ?_
    · unfold cStep
      simp only [gN, bYes, if_true, eCB, f1, tupD, nComp, iRange1, g1, aCons, aNil, eVar, eC, wipeE, sl_c0, sl_c1, put_c0, put_c1, Int.toNat_natCast]
      refine ⟨by omega, by rw [rng_len]; omega, ?_⟩
      rw [rng0]
      refine compD_relG (o := dq) (fun _ q => S1 6 18 q) (fun c hc Q R q => ?_) fun qs hqs => ?_
      · unfold cStep
        simp only [gN, bYes, if_true, eCall, aCons, aNil, eVar, eC, wipeE, sl_c0, sl_c1, put_c0, put_c1]
        exact c__law_drawn (w := 3) (by decide) q
      · exact q qs ⟨by have := hqs.len; rw [List.length_range] at this; omega, fun q hq => let ⟨_, _, s⟩ := hqs.mem hq; s⟩
    · have lMo := hMo.len
      rw [List.length_range] at lMo
      have tb := tab_app (X := 18) (d := 6) C (by decide) (by decide) (by decide) (by omega) (fun r hr => let ⟨_, _, s⟩ := hMo.mem hr; s.1) (fun r hr => let ⟨_, _, s⟩ := hMo.mem hr; s.2)
      exact h21 C I tb.1 tb.2 hsh ssh hg h
  · rw [if_neg (by simpa using ht0)]
    simp only [nComp, iOf, eSl, slL, pNo, pAt, eCB, f1, lenD, asI, seqD, dM, dL, eVar, aCons, aNil, sl_c0, sl_c1, List.length_map]
    have ct : cut ((T ++ R').map dR) none (some (L.length : Int)) = T.map dR := by
      rw [cut_take (by simp; omega), ← I.len, ← List.map_take, List.take_left]
    rw [ct]
    refine ⟨by simp; omega, ?_⟩
    refine compD_mapG (e := dR) dT (fun r hr Q K q => ?_) ?_
    · unfold cStep
      simp only [gN, bYes, if_true, tupD, eVar, wipeE, sl_c0, sl_c1, put_c0, put_c1, dR]
      exact q
    · obtain ⟨d, hd, hD, s⟩ := due_sc C I
      have tb := tab_app (X := D3) (d := d) C hd hD (by decide) (by omega) I.wT s
      exact h21 C I tb.1 tb.2 hsh ssh hg h
theorem h19 (C : Ctx n M) (I : Inv n n n 36 M T R L) (hg : gl.length ≤ 1000) (h : P (.bl true)) :
    v19 [.im .st, .im (.int n), x2, .im (.lst (M.map dT)), x4, x5, .im (dM (T ++ R')), .im (dL L), x8, x9, x10, x11, x12, x13, .im (dT gl), x15, x16, x17, x18, x19, x20, x21, x22, x23] { nx := nx, bk := bk, ct := ct, rt := P, ex := E } := by
  have m4 := C.m4
  simp only [v19, u19, sSeq, sSet, xE, nComp, iOf, seqD, oVar, sl_c0, sl_c1]
  refine ⟨by simp; omega, ?_⟩
  refine compD_relG (e := dT) (o := dq) (fun _ q => S1 6 12 q) (fun c hc Q R q => ?_) fun qs hqs => ?_
  · unfold cStep
    simp only [gN, bYes, if_true, eCall, aCons, aNil, eVar, eC, wipeE, sl_c0, sl_c1, put_c0, put_c1]
    exact c__law_drawn (w := 2) (by decide) q
  · exact h20 C I hqs.len.symm (fun q hq => let ⟨_, _, s⟩ := hqs.mem hq; s) hg h
end
end KK

set_option maxRecDepth 100000
set_option maxHeartbeats 2000000
namespace KK
open PySem L2 DL MX
section
variable {n X X' X4 : Nat} {M Mo T R T' R' T4 R4 : List (List Rat)} {L L' L4 : List Nat} {P : Dt → Prop} {E : Xc → Prop} {gl sh : List Rat} {x1 x2 x3 x4 x5 x6 x7 x8 x9 x10 x11 x12 x13 x14 x15 x16 x17 x18 x19 x20 x21 x22 x23 : Sl} {nx bk ct : List Sl → Prop}
theorem dqs_range {r : List Rat} : ((List.range r.length).map fun c => dq (g r c)) = dqs r := by
  refine List.ext_getElem? fun i => ?_
  by_cases h : i < r.length
  · rw [get_dqs h]; simp [h]
  · rw [List.getElem?_eq_none (by simp; omega), List.getElem?_eq_none (by simp [dqs]; omega)]
def Made (n : Nat) (M : List (List Rat)) (gl : List Rat) (md : Dt) (cn : Bool) : Prop := (md = .non ∧ cn = false) ∨ ∃ mk : List Rat, md = .tup (dqs mk) ∧ cn = true ∧ mk.length = M.length ∧ (∀ c, c < n → Dots mk (M.map fun r => g r c)) ∧ ∀ c, c < n → dt M.length (g mk) (fun k => at2 M k c) = g gl c
theorem h18 (C : Ctx n M) (I : Inv n n n 36 M T R L) {md : Dt} {cn : Bool} (hmd : Made n M gl md cn) (hg : gl.length = n) (h : P (.bl true)) :
    v18 [.im .st, .im (.int n), .im (.int M.length), .im (.lst (M.map dT)), x4, x5, .im (dM (T ++ R')), .im (dL L), x8, x9, x10, x11, x12, x13, .im (dT gl), .im md, .im (.bl cn), x17, x18, x19, x20, x21, x22, x23] { nx := nx, bk := bk, ct := ct, rt := P, ex := E } := by
  have n4 := C.n4
  have m4 := C.m4
  have fin := h19 (x2 := .im (.int M.length)) (x4 := x4) (x5 := x5) (x8 := x8) (x9 := x9) (x10 := x10) (x11 := x11) (x12 := x12) (x13 := x13) (x15 := .im md) (x16 := .im (.bl cn)) (x17 := x17) (x18 := x18) (x19 := x19) (x20 := x20) (x21 := x21) (x22 := x22) (x23 := x23) (R' := R') (E := E) (nx := nx) (bk := bk) (ct := ct) C I (show gl.length ≤ 1000 by omega) h
  simp only [v18, u18, sSeq, sFrz, frz, sIf, bOr, bAnd, bT, eOp, neD, eCall, eCB, f1, eVar, eC, aCons, aNil, sl_c0, sl_c1]
  rcases hmd with ⟨rfl, rfl⟩ | ⟨mk, rfl, rfl, hl, D, hs⟩
  · simp only [niN, isNonD, Bool.not_true, eqv_bl, beq_self_eq_true, asB, Bool.false_eq_true, if_false, sNext]
    exact ⟨⟨okD_bl, okD_bl⟩, fin⟩
  · simp only [niN, isNonD, Bool.not_false, Bool.not_true, eqv_bl, beq_self_eq_true, asB, Bool.false_eq_true, if_false, if_true, sNext, lenD, List.length_map, eqv_int, hl, decide_true]
    refine ⟨⟨okD_bl, okD_bl⟩, ⟨okD_int, okD_int⟩, ?_⟩
    have hr : Mt (.lst (M.map dT)) M := ⟨_, .inl rfl, mt_dT⟩
    refine c__law_summed hr (.inr rfl) hl (fun r hr => by rw [C.w r hr]; exact Nat.le_refl _) (by omega) (by omega) D ?_
    have e : Dt.tup ((List.range n).map fun c => dq (dt M.length (g mk) fun k => at2 M k c)) = dT gl := by
      rw [dT, ← dqs_range, hg]
      congr 1
      exact List.map_congr_left fun c hc => by rw [hs c (List.mem_range.mp hc)]
    rw [e, eqv_self (pln_dT (k := 1) (by decide) gl)]
    simp only [Bool.not_true, Bool.false_eq_true, if_false]
    exact ⟨⟨(pln_dT (k := 1) (by decide) gl).ok, (pln_dT (k := 1) (by decide) gl).ok⟩, fin⟩
theorem trn_w : ∀ r ∈ trn n M, r.length = M.length := fun r hr => by
  obtain ⟨c, _, rfl⟩ := List.mem_map.mp hr
  simp
theorem h17 (C : Ctx n M) (I : Inv n n n 36 M T R L) (hg : gl.length = n) (sg : ∀ q ∈ gl, S1 36 1728 q) (h : P (.bl true)) :
    v17 [.im .st, .im (.int n), .im (.int M.length), .im (.lst (M.map dT)), x4, x5, .im (dM (T ++ R')), .im (dL L), x8, x9, x10, x11, x12, x13, .im (dT gl), x15, x16, x17, x18, x19, x20, x21, x22, x23] { nx := nx, bk := bk, ct := ct, rt := P, ex := E } := by
  have n4 := C.n4
  have m4 := C.m4
  have hr : Mt (.lst (M.map dT)) M := ⟨_, .inl rfl, mt_dT⟩
  have hcol : ∀ c, c < n → ∀ q ∈ (M.map fun r => g r c), S1 6 36 q := fun c hc q hq => by
    obtain ⟨r, hr, rfl⟩ := List.mem_map.mp hq
    exact scv_of (C.s r hr) c
  have B : Tab M.length (M.length + 1) 1728 (aug M.length (trn n M) (g gl)) := by
    refine .of (d := 36) (by omega) (by omega) (aug_len trn_w) (by simp [aug, trn]; omega) (by decide) (by decide) (fun r hr q hq => ?_) (bnd_ok4 (by decide) m4)
    obtain ⟨i, hi, rfl⟩ := mem_aug.mp hr
    rw [trn_len] at hi
    rw [trn_get hi] at hq
    rcases List.mem_append.mp hq with z | z
    · exact ((hcol i hi q z).scale (e := 6)).up (by decide)
    · rw [List.mem_singleton] at z
      subst z
      exact scv_of sg i
  have B5 : Tab n n 1728 (M ++ [gl]) := by
    refine .of (d := 36) (Nat.le_refl _) (by omega) (fun r hr => ?_) (by simp; omega) (by decide) (by decide) (fun r hr q hq => ?_) (bnd_ok4 (by decide) n4)
    · rcases List.mem_append.mp hr with z | z
      · exact C.w r z
      · rw [List.mem_singleton] at z; rw [z, hg]
    · rcases List.mem_append.mp hr with z | z
      · exact ((C.s r z q hq).scale (e := 6)).up (by decide)
      · rw [List.mem_singleton] at z; subst z; exact sg q hq
  simp only [v17, u17, sSeq, sFrz, frz, sPar, xE, eOp, eCall, eCB, f1, eqD, eLst, oVar, eVar, aCons, aNil, sl_c0, sl_c1, put_c0, put_c1]
  subst hg
  have go : ∀ (md : Dt), (∀ T5 R5 L5, Inv gl.length gl.length gl.length 1728 (M ++ [gl]) T5 R5 L5 → Made gl.length M gl md (decide ((L5.length : Int) = (L.length : Int)))) →
      (([dT gl].length ≤ 16777216 ∧ catL (.lst (M.map dT)) (.lst [dT gl]) fun x => sp__law_rank [x, .int gl.length] (fun x => lenD (dL L) fun y => (okD x ∧ okD y) ∧ v18 (put [.im .st, .im (.int gl.length), .im (.int M.length), .im (.lst (M.map dT)), x4, x5, .im (dM (T ++ R')), .im (dL L), x8, x9, x10, x11, x12, x13, .im (dT gl), .im md, x16, x17, x18, x19, x20, x21, x22, x23] 16 (.im (.bl (eqv x y)))) { nx := nx, bk := bk, ct := ct, rt := P, ex := E }) E)) := fun md hmd => by
    refine ⟨by simp, ?_⟩
    simp only [catL]
    refine ⟨by simp; omega, ?_⟩
    refine c__law_rank ⟨_, .inl rfl, mt_app mt_dT (mt_dT (M := [gl]))⟩ B5 fun T5 R5 L5 I5 => ?_
    simp only [dL, lenD, List.length_map, eqv_int]
    exact ⟨⟨okD_int, okD_int⟩, h18 C I (hmd T5 R5 L5 I5) rfl h⟩
  have tl : (trn gl.length M).length = gl.length := trn_len
  have sr := fun T5 R5 L5 (I5 : Inv gl.length gl.length gl.length 1728 (M ++ [gl]) T5 R5 L5) => I.same_rank I5
  refine c_made_of hr (.inr rfl) (fun r hr => by rw [C.w r hr]; exact Nat.le_refl _) (by omega) B (fun T3 R3 L3 I3 hz => ?_) fun T3 R3 L3 I3 hz => ?_
  · refine go _ fun T5 R5 L5 I5 => .inl ⟨rfl, decide_eq_false fun e => ?_⟩
    have e' : L5.length = L.length := by omega
    obtain ⟨r, hr, hrz⟩ := hz
    obtain ⟨y, h1, h2⟩ := I3.none_ trn_w hr hrz
    rw [tl] at h1 h2
    have hN := (sr _ _ _ I5).mp e' y fun r hr => by
      obtain ⟨j, hj, rfl⟩ := mem_at hr
      rw [← h1 j hj]
      exact sm_congr fun i hi => by rw [at2_trn hi]; unfold at2; grind
    refine h2 ?_
    rw [← hN]
    exact sm_congr fun i hi => by grind
  · have pt := I3.point trn_w hz
    rw [tl] at pt
    refine go _ fun T5 R5 L5 I5 => .inr ⟨(List.range M.length).map (pnt T3 L3 M.length), by simp [Function.comp_def], decide_eq_true ?_, by simp, fun c hc => ?_, fun c hc => ?_⟩
    · have := (sr _ _ _ I5).mpr fun x hx => by
        have := none_not (M := trn gl.length M) (n := M.length) (b := g gl) (x := pnt T3 L3 M.length) (y := x) (fun i hi => pt i (by rw [tl] at hi; exact hi)) fun j hj => by
          rw [tl, ← hx _ (at_mem hj)]
          exact sm_congr fun i hi => by rw [at2_trn hi]; unfold at2; grind
        rw [tl] at this
        rw [← this]
        exact sm_congr fun i hi => by grind
      omega
    · obtain ⟨d3, k1, k2, k3⟩ := I3.sc (by decide)
      have hL3 := I3.len_le
      have hb : bnd 1728 L3.length ≤ 2 ^ 200 := by
        refine Nat.le_trans (bnd_ex (a := 11) (by decide) _) (Nat.pow_le_pow_right (by decide) ?_)
        have : L3.length = 0 ∨ L3.length = 1 ∨ L3.length = 2 ∨ L3.length = 3 ∨ L3.length = 4 := by omega
        rcases this with e | e | e | e | e <;> rw [e] <;> decide
      refine dots_of (d := d3) (e := 6) (X := 2 ^ 200) (Y := 36) (by simp) (by simp; omega) (fun q hq => ?_) (hcol c hc) k1 (by decide) (Nat.lt_of_le_of_lt (Nat.mul_le_mul_right 6 (Nat.le_trans k2 hb)) (by decide)) (by decide) (Nat.lt_of_le_of_lt (Nat.le_trans k2 hb) (by decide)) (by decide) (by decide) (by decide)
      obtain ⟨j, hj, rfl⟩ := List.mem_map.mp hq
      have hj := List.mem_range.mp hj
      unfold pnt
      split
      · rename_i hm
        have hi : L3.idxOf j < T3.length := by rw [I3.len]; exact List.idxOf_lt_length_of_mem hm
        exact (k3 _ (.inl (at_mem hi)) M.length).imp fun m q => ⟨q.1, Nat.le_trans q.2 hb⟩
      · exact S1.zero
    · rw [← pt c hc, trn_get hc]
      rw [dt_comm]
      refine sm_congr fun k hk => ?_
      rw [g_col]
      congr 1
      simp [g, List.getD_eq_getElem?_getD, hk]
end
end KK

set_option maxRecDepth 100000
set_option maxHeartbeats 2000000
namespace KK
open PySem L2 DL MX
section
variable {n X X' X4 : Nat} {M Mo T R T' R' T4 R4 : List (List Rat)} {L L' L4 : List Nat} {P : Dt → Prop} {E : Xc → Prop} {gl sh b : List Rat} {x1 x2 x3 x4 x5 x6 x7 x8 x9 x10 x11 x12 x13 x14 x15 x16 x17 x18 x19 x20 x21 x22 x23 : Sl} {nx bk ct : List Sl → Prop}
theorem h16 (C : Ctx n M) (I : Inv n n n 36 M T R L) (hg : gl.length = n) (sg : ∀ q ∈ gl, S1 6 18 q) (h : P (.bl true)) :
    v16 [.im .st, .im (.int n), .im (.int M.length), .im (.lst (M.map dT)), x4, x5, .im (dM (T ++ R')), .im (dL L), x8, x9, x10, x11, x12, x13, .im (dT gl), x15, x16, x17, x18, x19, x20, x21, x22, x23] { nx := nx, bk := bk, ct := ct, rt := P, ex := E } := by
  have n4 := C.n4
  have m4 := C.m4
  have hr : Mt (.lst (M.map dT)) M := ⟨_, .inl rfl, mt_dT⟩
  simp only [v16, u16, sSeq, sIf, bT, eOp, eqD, eCall, eVar, eC, aCons, aNil, sl_c0, sl_c1]
  refine c_take (by decide) (by decide) fun t ht => ⟨⟨okD_int, okD_int⟩, ?_⟩
  rw [eqv_int]
  simp only [asB]
  by_cases ht0 : (t : Int) = 0
  · rw [if_pos (by simp [ht0])]
    simp only [sFrz, frz, sSet, xE, eCall, nComp, iOf, seqD, oVar, eVar, aCons, aNil, sl_c0, sl_c1]
    refine ⟨by simp; omega, ?_⟩
    refine compD_relG (e := dT) (o := dq) (fun _ q => S1 6 12 q) (fun c hc Q R q => ?_) fun s hs => ?_
    · unfold cStep
      simp only [gN, bYes, if_true, eCall, aCons, aNil, eVar, eC, wipeE, sl_c0, sl_c1, put_c0, put_c1]
      exact c__law_drawn (w := 2) (by decide) q
    · have ls := hs.len.symm
      have ss : ∀ q ∈ s, S1 6 12 q := fun q hq => let ⟨_, _, z⟩ := hs.mem hq; z
      have hcol : ∀ c, ∀ q ∈ (M.map fun r => g r c), S1 6 36 q := fun c q hq => by
        obtain ⟨r, hr, rfl⟩ := List.mem_map.mp hq
        exact scv_of (C.s r hr) c
      refine c__law_summed hr (.inl rfl) ls (fun r hr => by rw [C.w r hr]; exact Nat.le_refl _) (by omega) (by omega) (fun c hc => dots_of (d := 6) (e := 6) (X := 12) (Y := 36) (by simp [ls]) (by omega) ss (hcol c) (by decide) (by decide) (by decide) (by decide) (by decide) (by decide) (by decide) (by decide)) ?_
      have e : Dt.tup ((List.range n).map fun c => dq (dt M.length (g s) fun k => at2 M k c)) = dT ((List.range n).map fun c => dt M.length (g s) fun k => at2 M k c) := by simp [dT, dqs, Function.comp_def]
      rw [e]
      refine h17 C I (by simp) (fun q hq => ?_) h
      obtain ⟨c, _, rfl⟩ := List.mem_map.mp hq
      have := S1.tot (d := 36) (X := 432) (qs := (List.range M.length).map fun k => g s k * at2 M k c) (fun q hq => by
        obtain ⟨k, _, rfl⟩ := List.mem_map.mp hq
        have := hcol c
        have h2 := scv_of this k
        rw [g_col] at h2
        exact S1.mul (d := 6) (e := 6) (X := 12) (Y := 36) (scv_of ss k) h2) M.length (by simp)
      rw [List.take_of_length_le (by simp), tot_range] at this
      exact this.up (by omega)
  · rw [if_neg (by simpa using ht0)]
    exact h17 C I hg (fun q hq => ((sg q hq).scale (e := 6)).up (by decide)) h
theorem h15 (C : Ctx n M) (I : Inv n n n 36 M T R L) (h : P (.bl true)) :
    v15 [.im .st, .im (.int n), .im (.int M.length), .im (.lst (M.map dT)), x4, x5, .im (dM (T ++ R')), .im (dL L), x8, x9, x10, x11, x12, x13, x14, x15, x16, x17, x18, x19, x20, x21, x22, x23] { nx := nx, bk := bk, ct := ct, rt := P, ex := E } := by
  have n4 := C.n4
  simp only [v15, u15, sSeq, sSet, xE, eCB, f1, tupD, nComp, iRange1, g1, eVar, aCons, aNil, sl_c0, sl_c1, Int.toNat_natCast]
  refine ⟨by omega, by rw [rng_len]; omega, ?_⟩
  rw [rng0]
  refine compD_relG (o := dq) (fun _ q => S1 6 18 q) (fun c hc Q R q => ?_) fun qs hqs => ?_
  · unfold cStep
    simp only [gN, bYes, if_true, eCall, aCons, aNil, eVar, eC, wipeE, sl_c0, sl_c1, put_c0, put_c1]
    exact c__law_drawn (w := 3) (by decide) q
  · exact h16 C I (gl := qs) (by have := hqs.len; rw [List.length_range] at this; omega) (fun q hq => let ⟨_, _, s⟩ := hqs.mem hq; s) h
def Here (n : Nat) (M : List (List Rat)) (b : List Rat) (L : List Nat) (hd : Dt) (inn : Bool) : Prop := (hd = .non ∧ inn = true) ∨ ∃ hl : List Rat, hd = .tup (dqs hl) ∧ inn = false ∧ hl.length = n ∧ (∀ r ∈ M, Dots r hl) ∧ (∀ i, i < M.length → dt n (g (M.getD i [])) (g hl) = g b i) ∧ ∀ c, c < n → c ∉ L → g hl c = 0
theorem h14 (C : Ctx n M) (I : Inv n n n 36 M T R L) {hd : Dt} {inn : Bool} (hh : Here n M b L hd inn) (h : P (.bl true)) :
    v14 [.im .st, .im (.int n), .im (.int M.length), .im (.lst (M.map dT)), x4, x5, .im (dM (T ++ R')), .im (dL L), x8, x9, x10, x11, x12, .im hd, x14, x15, x16, x17, x18, x19, x20, x21, x22, x23] { nx := nx, bk := bk, ct := ct, rt := P, ex := E } := by
  have n4 := C.n4
  have fin := h15 (x4 := x4) (x5 := x5) (x8 := x8) (x9 := x9) (x10 := x10) (x11 := x11) (x12 := x12) (x13 := .im hd) (x14 := x14) (x15 := x15) (x16 := x16) (x17 := x17) (x18 := x18) (x19 := x19) (x20 := x20) (x21 := x21) (x22 := x22) (x23 := x23) (R' := R') (E := E) (nx := nx) (bk := bk) (ct := ct) C I h
  simp only [v14, u14, sSeq, sIf, bAnd, bT, eOp, eVar, eC, sl_c0, sl_c1]
  rcases hh with ⟨rfl, rfl⟩ | ⟨hl, rfl, rfl, ll, _, _, hz⟩
  · simp only [niN, isNonD, Bool.not_true, asB, Bool.false_eq_true, if_false, sNext]
    exact fin
  · simp only [niN, isNonD, Bool.not_false, asB, if_true, eCB, f1, aCons, aNil, nComp, iRange1, g1, eVar, sl_c0, sl_c1, Int.toNat_natCast]
    refine ⟨by omega, by rw [rng_len]; omega, ?_⟩
    rw [rng0]
    refine compD_fmG (fun _ => false) (fun (i : Nat) => Dt.int (i : Int)) (fun c hc Q K k => ?_) ?_
    · have hc := List.mem_range.mp hc
      rw [if_neg (by simp)] at k
      unfold cStep
      simp only [gN, bAnd, bT, eOp, niL, dL, eVar, wipeE, sl_c0, sl_c1, put_c0, put_c1]
      refine ⟨⟨okD_int, pln_L.ok⟩, ?_⟩
      rw [any_lead]
      by_cases hm : c ∈ L
      · simp [hm]; exact k
      · have e0 := hz c hc hm
        have gd := get_dqs (r := hl) (k := c) (by omega)
        rw [e0, dq0] at gd
        simp [hm, -List.getElem?_map]
        refine ⟨_, gd, ?_⟩
        rw [← dq0]
        simp
        exact k
    · have hff : ∀ l : List Nat, l.filter (fun _ => false) = [] := fun l => List.filter_eq_nil_iff.mpr (by simp)
      rw [hff]
      simp only [List.map_nil, List.append_nil, lenD, gtI, List.length_nil, asB]
      rw [if_neg (by simp)]
      exact fin
theorem pln_dqs' (r : List Rat) : pln 2 (.lst (dqs r)) := pln_dqs (k := 1) (by decide) r
theorem h13 (C : Ctx n M) (I : Inv n n n 36 M T R L) (hb : b.length = M.length) (hh : ∀ x, Here n M b L x (L4.contains n) → True) {hd : Dt} (hh : Here n M b L hd (L4.contains n)) (h : P (.bl true)) :
    v13 [.im .st, .im (.int n), .im (.int M.length), .im (.lst (M.map dT)), x4, x5, .im (dM (T ++ R')), .im (dL L), x8, .im (.lst (dqs b)), x10, x11, .im (dL L4), .im hd, x14, x15, x16, x17, x18, x19, x20, x21, x22, x23] { nx := nx, bk := bk, ct := ct, rt := P, ex := E } := by
  have n4 := C.n4
  have m4 := C.m4
  have fin := h14 (x4 := x4) (x5 := x5) (x8 := x8) (x9 := .im (.lst (dqs b))) (x10 := x10) (x11 := x11) (x12 := .im (dL L4)) (x14 := x14) (x15 := x15) (x16 := x16) (x17 := x17) (x18 := x18) (x19 := x19) (x20 := x20) (x21 := x21) (x22 := x22) (x23 := x23) (R' := R') (E := E) (nx := nx) (bk := bk) (ct := ct) C I hh h
  simp only [v13, u13, sSeq, sIf, bOr, bAnd, bT, eOp, neD, inL, dL, eVar, eC, sl_c0, sl_c1]
  rcases hh with ⟨rfl, hi⟩ | ⟨hl, rfl, hi, ll, D, hp, hz⟩
  · simp only [isN, niN, isNonD]
    refine ⟨⟨okD_int, pln_L.ok⟩, ?_⟩
    rw [any_lead, hi]
    refine ⟨⟨okD_bl, okD_bl⟩, ?_⟩
    simp only [eqv_bl, beq_self_eq_true, Bool.not_true, asB, Bool.false_eq_true, if_false, sNext]
    exact fin
  · simp only [isN, niN, isNonD]
    refine ⟨⟨okD_int, pln_L.ok⟩, ?_⟩
    rw [any_lead, hi]
    refine ⟨⟨okD_bl, okD_bl⟩, ?_⟩
    simp only [eqv_bl, beq_self_eq_true, Bool.not_true, Bool.not_false, asB, Bool.false_eq_true, if_false, if_true, sNext, nComp, iOf, seqD, oVar, sl_c0, sl_c1]
    refine ⟨by simp; omega, ?_⟩
    refine compD_mapG (e := dT) (fun r => dq (dt n (g r) (g hl))) (fun r hr Q K k => ?_) ?_
    · unfold cStep
      simp only [gN, bYes, if_true, eCall, aCons, aNil, eVar, wipeE, sl_c0, sl_c1, put_c0, put_c1]
      refine c__law_dot (.inr rfl) (.inr rfl) (D r hr) ?_
      rw [C.w r hr]
      exact k
    · have e : (M.map fun r => dq (dt n (g r) (g hl))) = dqs b := by
        refine List.ext_getElem? fun i => ?_
        by_cases h : i < M.length
        · rw [get_dqs (by omega), ← hp i h]
          simp [List.getD_eq_getElem?_getD, h]
        · rw [List.getElem?_eq_none (by simp; omega), List.getElem?_eq_none (by simp [dqs]; omega)]
      rw [List.nil_append, e, eqv_self (pln_dqs' b)]
      refine ⟨⟨(pln_dqs' b).ok, (pln_dqs' b).ok⟩, ?_⟩
      simp only [Bool.not_true, Bool.false_eq_true, if_false]
      exact fin
theorem aug_tab (C : Ctx n M) (hb : b.length = M.length) (sb : ∀ q ∈ b, S1 36 2592 q) : Tab n (n + 1) 2592 (aug n M (g b)) ∧ Tab (n + 1) (n + 1) 2592 (aug n M (g b)) := by
  have n4 := C.n4
  have m4 := C.m4
  have s : ∀ r ∈ aug n M (g b), ∀ q ∈ r, S1 36 2592 q := fun r hr q hq => by
    obtain ⟨i, hi, rfl⟩ := mem_aug.mp hr
    rcases List.mem_append.mp hq with z | z
    · exact ((C.s _ (at_mem hi) q z).scale (e := 6)).up (by decide)
    · rw [List.mem_singleton] at z
      subst z
      exact scv_of sb i
  exact ⟨.of (d := 36) (by omega) (by omega) (aug_len C.w) (by simp [aug]; omega) (by decide) (by decide) s (bnd_ok4 (by decide) n4), .of (d := 36) (by omega) (by omega) (aug_len C.w) (by simp [aug]; omega) (by decide) (by decide) s (bnd_ok5 (by decide) (by omega))⟩
theorem h12 (C : Ctx n M) (I : Inv n n n 36 M T R L) (hb : b.length = M.length) (sb : ∀ q ∈ b, S1 36 2592 q) (J : Inv (n + 1) (n + 1) (n + 1) 2592 (aug n M (g b)) T4 R4 L4) (h : P (.bl true)) :
    v12 [.im .st, .im (.int n), .im (.int M.length), .im (.lst (M.map dT)), x4, x5, .im (dM (T ++ R')), .im (dL L), x8, .im (.lst (dqs b)), x10, x11, .im (dL L4), x13, x14, x15, x16, x17, x18, x19, x20, x21, x22, x23] { nx := nx, bk := bk, ct := ct, rt := P, ex := E } := by
  have n4 := C.n4
  have hr : Mt (.lst (M.map dT)) M := ⟨_, .inl rfl, mt_dT⟩
  simp only [v12, u12, sSeq, sFrz, frz, sSet, xE, eCall, eVar, aCons, aNil, sl_c0, sl_c1, put_c0, put_c1]
  refine c_point hr (.inl rfl) (by omega) (aug_tab C hb sb).1 (fun T3 R3 L3 I3 hz => ?_) fun T3 R3 L3 I3 hz => ?_
  · refine h13 C I hb (fun _ _ => trivial) (.inl ⟨rfl, ?_⟩) h
    have := (I3.ends C.w J).mpr hz
    simpa using this
  · have e3 := I3.aug_leads C.w I
    have pt := I3.point C.w hz
    have gp : ∀ j, j < n → g ((List.range n).map (pnt T3 L3 n)) j = pnt T3 L3 n j := fun j hj => by simp [g, List.getD_eq_getElem?_getD, hj]
    have e : Dt.tup ((List.range n).map fun j => dq (pnt T3 L3 n j)) = .tup (dqs ((List.range n).map (pnt T3 L3 n))) := by simp [Function.comp_def]
    rw [e]
    refine h13 C I hb (fun _ _ => trivial) (.inr ⟨_, rfl, ?_, by simp, fun r hr => ?_, fun i hi => ?_, fun c hc hm => ?_⟩) h
    · cases hcn : L4.contains n with
      | false => rfl
      | true =>
        obtain ⟨r, hr, q⟩ := (I3.ends C.w J).mp (by simpa using hcn)
        exact absurd (hz r hr) q
    · obtain ⟨d3, k1, k2, k3⟩ := I3.sc (by decide)
      have hL3 := I3.len_le
      have hb : bnd 2592 L3.length ≤ 2 ^ 210 := by
        refine Nat.le_trans (bnd_ex (a := 12) (by decide) _) (Nat.pow_le_pow_right (by decide) ?_)
        have : L3.length = 0 ∨ L3.length = 1 ∨ L3.length = 2 ∨ L3.length = 3 ∨ L3.length = 4 := by omega
        rcases this with e | e | e | e | e <;> rw [e] <;> decide
      refine dots_of (d := 6) (e := d3) (X := 36) (Y := 2 ^ 210) (by simp [C.w r hr]) (by rw [C.w r hr]; omega) (C.s r hr) (fun q hq => ?_) (by decide) k1 (Nat.lt_of_le_of_lt (Nat.mul_le_mul_left 6 (Nat.le_trans k2 hb)) (by decide)) (by decide) (by decide) (Nat.lt_of_le_of_lt (Nat.le_trans k2 hb) (by decide)) (by decide) (by decide)
      obtain ⟨j, hj, rfl⟩ := List.mem_map.mp hq
      have hj := List.mem_range.mp hj
      unfold pnt
      split
      · rename_i hm
        have hi : L3.idxOf j < T3.length := by rw [I3.len]; exact List.idxOf_lt_length_of_mem hm
        exact (k3 _ (.inl (at_mem hi)) n).imp fun m q => ⟨q.1, Nat.le_trans q.2 hb⟩
      · exact S1.zero
    · rw [← pt i hi]
      exact sm_congr fun j hj => by rw [gp j hj]
    · rw [gp c hc]
      rw [← e3] at hm
      simp [pnt, hm]
end
end KK

set_option maxRecDepth 100000
set_option maxHeartbeats 2000000
namespace KK
open PySem L2 DL MX
section
variable {n X X' X4 : Nat} {M Mo T R T' R' T4 R4 : List (List Rat)} {L L' L4 : List Nat} {P : Dt → Prop} {E : Xc → Prop} {gl sh b : List Rat} {x1 x2 x3 x4 x5 x6 x7 x8 x9 x10 x11 x12 x13 x14 x15 x16 x17 x18 x19 x20 x21 x22 x23 : Sl} {nx bk ct : List Sl → Prop}
theorem h11 (C : Ctx n M) (I : Inv n n n 36 M T R L) (hb : b.length = M.length) (sb : ∀ q ∈ b, S1 36 2592 q) (h : P (.bl true)) :
    v11 [.im .st, .im (.int n), .im (.int M.length), .im (.lst (M.map dT)), x4, x5, .im (dM (T ++ R')), .im (dL L), x8, .im (.lst (dqs b)), x10, x11, x12, x13, x14, x15, x16, x17, x18, x19, x20, x21, x22, x23] { nx := nx, bk := bk, ct := ct, rt := P, ex := E } := by
  have n4 := C.n4
  have m4 := C.m4
  have hr : Mt (.lst (M.map dT)) M := ⟨_, .inl rfl, mt_dT⟩
  have B := (aug_tab C hb sb).2
  simp only [v11, u11, sSeq, sAsg, eCall, aCons, aNil, nComp, iRange1, g1, eVar, eC, eOp, addI, sl_c0, sl_c1, Int.toNat_natCast]
  refine ⟨by omega, by rw [rng_len]; omega, ?_⟩
  rw [rng0]
  refine compD_mapG (fun k => dR (M.getD k [] ++ [g b k])) (fun k hk Q K q => ?_) ?_
  · have hk := List.mem_range.mp hk
    unfold cStep
    simp only [gN, bYes, if_true, eOp, eCB, f1, eLst, aCons, aNil, oVar, eVar, wipeE, sl_c0, sl_c1, put_c0, put_c1]
    refine hr.ix hk fun x sx => sx.lst ?_
    refine ixL (get_dqs (by omega)) ⟨by simp, ?_⟩
    simp only [catL]
    refine ⟨by have := C.w _ (at_mem hk); simp at this ⊢; omega, ?_⟩
    simpa [dR] using q
  rw [List.nil_append]
  have e : ((n : Int) + 1) = ((n + 1 : Nat) : Int) := by omega
  rw [e]
  refine c__law_put_out (M := aug n M (g b)) mt_mapR B fun T4 R4 L4 J => ?_
  exact ⟨rfl, h12 C I hb sb J h⟩
theorem h10 (C : Ctx n M) (I : Inv n n n 36 M T R L) (hb : b.length = M.length) (sb : ∀ q ∈ b, S1 6 18 q) (h : P (.bl true)) :
    v10 [.im .st, .im (.int n), .im (.int M.length), .im (.lst (M.map dT)), x4, x5, .im (dM (T ++ R')), .im (dL L), x8, .im (.lst (dqs b)), x10, x11, x12, x13, x14, x15, x16, x17, x18, x19, x20, x21, x22, x23] { nx := nx, bk := bk, ct := ct, rt := P, ex := E } := by
  have n4 := C.n4
  have m4 := C.m4
  have fin := fun x10 (b : List Rat) => h11 (b := b) (x4 := x4) (x5 := x5) (x8 := x8) (x10 := x10) (x11 := x11) (x12 := x12) (x13 := x13) (x14 := x14) (x15 := x15) (x16 := x16) (x17 := x17) (x18 := x18) (x19 := x19) (x20 := x20) (x21 := x21) (x22 := x22) (x23 := x23) (R' := R') (E := E) (nx := nx) (bk := bk) (ct := ct) (P := P) C I
  have fin0 := fun x10 => fin x10 b hb (fun q hq => ((sb q hq).scale (e := 6)).up (by decide)) h
  simp only [v10, u10, sSeq, sIf, bAnd, bT, eOp, gtI, eqD, eCall, aCons, aNil, eVar, eC, sl_c0, sl_c1, asB]
  by_cases h1 : (1 : Int) < (M.length : Int)
  · rw [if_pos (decide_eq_true h1)]
    refine c_take (by decide) (by decide) fun t ht => ⟨⟨okD_int, okD_int⟩, ?_⟩
    rw [eqv_int]
    by_cases ht0 : (t : Int) = 0
    · rw [if_pos (by simp [ht0])]
      simp only [sSet, xE, eCB, f1, tupD, nComp, iRange1, g1, eVar, aCons, aNil, sl_c0, sl_c1, Int.toNat_natCast]
      refine ⟨by omega, by rw [rng_len]; omega, ?_⟩
      rw [rng0]
      refine compD_relG (o := dq) (fun _ q => S1 6 18 q) (fun c hc Q R q => ?_) fun qs hqs => ?_
      · unfold cStep
        simp only [gN, bYes, if_true, eCall, aCons, aNil, eVar, eC, wipeE, sl_c0, sl_c1, put_c0, put_c1]
        exact c__law_drawn (w := 3) (by decide) q
      · have lq : qs.length = n := by have := hqs.len; rw [List.length_range] at this; omega
        have sq : ∀ q ∈ qs, S1 6 18 q := fun q hq => let ⟨_, _, s⟩ := hqs.mem hq; s
        simp only [iOf, seqD, oVar, sl_c0, sl_c1, put_c0, put_c1]
        refine ⟨by simp; omega, ?_⟩
        refine compD_mapG (e := dT) (fun r => dq (dt n (g r) (g qs))) (fun r hr Q K k => ?_) ?_
        · unfold cStep
          simp only [gN, bYes, if_true, eCall, aCons, aNil, eVar, wipeE, sl_c0, sl_c1, put_c0, put_c1]
          refine c__law_dot (.inr rfl) (.inr rfl) (dots_of (d := 6) (e := 6) (X := 36) (Y := 18) (by rw [C.w r hr, lq]; exact Nat.le_refl _) (by rw [C.w r hr]; omega) (C.s r hr) sq (by decide) (by decide) (by decide) (by decide) (by decide) (by decide) (by decide) (by decide)) ?_
          rw [C.w r hr]
          exact k
        · have e : ([] ++ M.map fun r => dq (dt n (g r) (g qs))) = dqs (M.map fun r => dt n (g r) (g qs)) := by simp [dqs, Function.comp_def]
          rw [e]
          refine fin _ _ (by simp) (fun q hq => ?_) h
          obtain ⟨r, hr, rfl⟩ := List.mem_map.mp hq
          have := S1.tot (d := 36) (X := 648) (qs := (List.range n).map fun k => g r k * g qs k) (fun q hq => by
            obtain ⟨k, _, rfl⟩ := List.mem_map.mp hq
            exact S1.mul (d := 6) (e := 6) (X := 36) (Y := 18) (scv_of (C.s r hr) k) (scv_of sq k)) n (by simp)
          rw [List.take_of_length_le (by simp), tot_range] at this
          exact this.up (by omega)
    · rw [if_neg (by simpa using ht0)]
      exact fin0 _
  · rw [if_neg (by simpa using h1)]
    simp only [Bool.false_eq_true, if_false, sNext]
    exact fin0 _
theorem h9 (C : Ctx n M) (I : Inv n n n 36 M T R L) (h : P (.bl true)) :
    v9 [.im .st, .im (.int n), .im (.int M.length), .im (.lst (M.map dT)), x4, x5, .im (dM (T ++ R')), .im (dL L), x8, x9, x10, x11, x12, x13, x14, x15, x16, x17, x18, x19, x20, x21, x22, x23] { nx := nx, bk := bk, ct := ct, rt := P, ex := E } := by
  have m4 := C.m4
  simp only [v9, u9, sSeq, sSet, xE, nComp, iOf, seqD, oVar, sl_c0, sl_c1]
  refine ⟨by simp; omega, ?_⟩
  refine compD_relG (e := dT) (o := dq) (fun _ q => S1 6 18 q) (fun c hc Q R q => ?_) fun qs hqs => ?_
  · unfold cStep
    simp only [gN, bYes, if_true, eCall, aCons, aNil, eVar, eC, wipeE, sl_c0, sl_c1, put_c0, put_c1]
    exact c__law_drawn (w := 3) (by decide) q
  · exact h10 C I hqs.len.symm (fun q hq => let ⟨_, _, s⟩ := hqs.mem hq; s) h
theorem pln_tab (A : List (List Rat)) : pln 3 (.lst (A.map dT)) := fun x hx => by
  obtain ⟨r, _, rfl⟩ := List.mem_map.mp hx
  exact pln_dT (k := 1) (by decide) r
theorem pln_tabR (A : List (List Rat)) : pln 3 (.lst (A.map dR)) := fun x hx => by
  obtain ⟨r, _, rfl⟩ := List.mem_map.mp hx
  exact pln_dqs (k := 1) (by decide) r
theorem h8 (C : Ctx n M) (I : Inv n n n 36 M T R L) (h : P (.bl true)) :
    v8 [.im .st, .im (.int n), .im (.int M.length), .im (.lst (M.map dT)), x4, x5, .im (dM (T ++ R')), .im (dL L), .im (.lst ((waysL T L n).map dT)), x9, x10, x11, x12, x13, x14, x15, x16, x17, x18, x19, x20, x21, x22, x23] { nx := nx, bk := bk, ct := ct, rt := P, ex := E } := by
  have n4 := C.n4
  have hr : Mt (.lst (M.map dT)) M := ⟨_, .inl rfl, mt_dT⟩
  have fl := frees_len I.rr
  have wl : (waysL T L n).length = (frees n L).length := by simp [waysL]
  obtain ⟨d, hd, hD, sT⟩ := due_sc C I
  have sW : ∀ r ∈ waysL T L n, ∀ q ∈ r, S1 d D3 q := fun r hr q hq => by
    obtain ⟨c, _, rfl⟩ := List.mem_map.mp hr
    obtain ⟨j, _, rfl⟩ := List.mem_map.mp hq
    unfold way
    split
    · exact ⟨(d : Int), by push_cast; grind, by simpa using hD⟩
    · split
      · rename_i hm
        have hi : L.idxOf j < T.length := by rw [I.len]; exact List.idxOf_lt_length_of_mem hm
        obtain ⟨m, e, u⟩ := scv_of (sT _ (at_mem hi)) c
        refine ⟨-m, ?_, by rw [Int.natAbs_neg]; exact u⟩
        have e : at2 T (L.idxOf j) c * (d : Rat) = (m : Rat) := e
        push_cast
        rw [← e]
        grind
      · exact S1.zero
  have B2 : Tab n n D3 (waysL T L n) := .of (Nat.le_refl _) (by omega) ways_len (by omega) hd hD sW (bnd_ok4 (by decide) n4)
  simp only [v8, u8, sSeq, sFrz, frz, sIf, bOr, bNot, bT, eOp, neD, nComp, iOf, seqD, eCall, aCons, aNil, eVar, sl_c0, sl_c1]
  refine ⟨by simp; omega, ?_⟩
  refine compD_mapG (e := dT) dT (fun r hr Q K k => ?_) ?_
  · unfold cStep
    simp only [gN, bYes, if_true, eCB, f1, aCons, aNil, eVar, wipeE, sl_c0, sl_c1, put_c0, put_c1, dT, tupD]
    exact k
  rw [List.nil_append]
  refine c__law_ways hr C.tab fun T2 R2 L2 J => ?_
  obtain ⟨e1, e2⟩ := I.uniq J
  subst e1
  subst e2
  rw [eqv_self (pln_tab _)]
  refine ⟨⟨(pln_tab _).ok, (pln_tab _).ok⟩, ?_⟩
  simp only [Bool.not_true, Bool.false_eq_true, if_false, asB]
  refine c__law_are_ways hr C.tab I B2 (fun r hr v hv => dots_of (d := 6) (e := d) (X := 36) (Y := D3) (by rw [C.w r hr, ways_len v hv]; exact Nat.le_refl _) (by rw [C.w r hr]; omega) (C.s r hr) (sW v hv) (by decide) hd (Nat.lt_of_le_of_lt (Nat.mul_le_mul_left 6 hD) (by decide)) (by decide) (by decide) (Nat.lt_of_le_of_lt hD (by decide)) (by decide) (by decide)) ?_
  simp only [Bool.not_true, Bool.false_eq_true, if_false, sNext]
  exact h9 C I h
theorem h7 (C : Ctx n M) (I : Inv n n n 36 M T R L) (h : P (.bl true)) :
    v7 [.im .st, .im (.int n), .im (.int M.length), .im (.lst (M.map dT)), x4, x5, .im (dM (T ++ R')), .im (dL L), x8, x9, x10, x11, x12, x13, x14, x15, x16, x17, x18, x19, x20, x21, x22, x23] { nx := nx, bk := bk, ct := ct, rt := P, ex := E } := by
  have hr : Mt (.lst (M.map dT)) M := ⟨_, .inl rfl, mt_dT⟩
  simp only [v7, u7, sSeq, sFrz, frz, sSet, xE, eCall, eVar, aCons, aNil, sl_c0, sl_c1, put_c0, put_c1]
  refine c_ways hr C.tab fun T2 R2 L2 J => ?_
  obtain ⟨e1, e2⟩ := I.uniq J
  subst e1
  subst e2
  exact h8 C I h
end
end KK

set_option maxRecDepth 100000
set_option maxHeartbeats 2000000
namespace KK
open PySem L2 DL MX
section
variable {n X X' X4 : Nat} {M Mo T R T' R' T4 R4 : List (List Rat)} {L L' L4 : List Nat} {P : Dt → Prop} {E : Xc → Prop} {gl sh b : List Rat} {x1 x2 x3 x4 x5 x6 x7 x8 x9 x10 x11 x12 x13 x14 x15 x16 x17 x18 x19 x20 x21 x22 x23 : Sl} {nx bk ct : List Sl → Prop}
theorem next_of {env : List Sl} {Pp : Po} (h : Pp.nx env) : sNext env Pp := h
theorem h6 (C : Ctx n M) (I : Inv n n n 36 M T R L) (I' : Inv n n n 36 M T R' L) (h : P (.bl true)) :
    v6 [.im .st, .im (.int n), .im (.int M.length), .im (.lst (M.map dT)), .im (dM (T ++ R)), .im (dL L), .im (dM (T ++ R')), .im (dL L), x8, x9, x10, x11, x12, x13, x14, x15, x16, x17, x18, x19, x20, x21, x22, x23] { nx := nx, bk := bk, ct := ct, rt := P, ex := E } := by
  have n4 := C.n4
  have hTL := I.len
  have hLn := I.len_le
  have hr : Mt (.lst (M.map dT)) M := ⟨_, .inl rfl, mt_dT⟩
  have fin : ∀ d4 d5 d6 d7 : Dt, d6 = dM (T ++ R') → d7 = dL L → v7 [.im .st, .im (.int n), .im (.int M.length), .im (.lst (M.map dT)), .im d4, .im d5, .im d6, .im d7, x8, x9, x10, x11, x12, x13, x14, x15, x16, x17, x18, x19, x20, x21, x22, x23] { nx := nx, bk := bk, ct := ct, rt := P, ex := E } := fun d4 d5 d6 d7 e6 e7 => by
    subst e6
    subst e7
    exact h7 C I h
  have ct1 : ∀ R, cut ((T ++ R).map dR) none (some (L.length : Int)) = T.map dR := fun R => by
    rw [cut_take (by simp; omega), ← I.len, ← List.map_take, List.take_left]
  simp only [v6, u6, sSeq, sFrz, frz, sIf, bOr, bAnd, bT, eOp, neD, eCB, f1, lstD, lenD, nComp, iOf, seqD, eSl, slL, pNo, pAt, asI, eCall, eLst, oVar, aCons, aNil, eVar, dM, dL, sl_c0, sl_c1, List.length_map, asB, ct1]
  rw [eqv_self pln_L]
  refine ⟨⟨pln_L.ok, pln_L.ok⟩, ?_⟩
  simp only [Bool.not_true, Bool.false_eq_true, if_false]
  refine ⟨by omega, ?_⟩
  refine compD_mapG (e := dR) dR (fun r hr Q K k => ?_) ?_
  · unfold cStep
    simp only [gN, bYes, if_true, eVar, wipeE, sl_c0, sl_c1, put_c0, put_c1, dR]
    exact k
  rw [List.nil_append, eqv_self (pln_tabR _)]
  refine ⟨⟨(pln_tabR _).ok, (pln_tabR _).ok⟩, ?_⟩
  simp only [Bool.not_true, Bool.false_eq_true, if_false]
  refine c_rank_of hr C.tab fun T1 R1 L1 I1 => ?_
  obtain ⟨_, rfl⟩ := I1.uniq I
  simp only [eqv_int, decide_true, Bool.not_true, Bool.false_eq_true, if_false]
  refine ⟨⟨okD_int, okD_int⟩, by simp, ?_⟩
  have pm : pln 3 (.lst (M.map dT)) := pln_tab M
  have p0 : pln 3 (.lst []) := fun x hx => by simp at hx
  refine ⟨⟨pm.ok, p0.ok⟩, ?_⟩
  by_cases hM : M = []
  · subst hM
    rw [List.map_nil, eqv_self p0]
    simp only [Bool.not_true, Bool.false_eq_true, if_false]
    exact next_of (fin _ _ _ _ rfl rfl)
  · rw [eqv_false pm p0 (by simpa using hM)]
    simp only [Bool.not_false, if_true]
    refine c_rank mt_dT C.tab (fun z => absurd z hM) fun _ T2 R2 L2 I2 => ?_
    obtain ⟨_, rfl⟩ := I2.uniq I
    simp only [eqv_int, decide_true, Bool.not_true, Bool.false_eq_true, if_false]
    exact ⟨⟨okD_int, okD_int⟩, next_of (fin _ _ _ _ rfl rfl)⟩
end
end KK

set_option maxRecDepth 100000
set_option maxHeartbeats 2000000
namespace KK
open PySem L2 DL MX
section
variable {n X X' X4 : Nat} {M Mo T R T' R' T4 R4 : List (List Rat)} {L L' L4 : List Nat} {P : Dt → Prop} {E : Xc → Prop} {gl sh b : List Rat} {x1 x2 x3 x4 x5 x6 x7 x8 x9 x10 x11 x12 x13 x14 x15 x16 x17 x18 x19 x20 x21 x22 x23 : Sl} {nx bk ct : List Sl → Prop}
theorem h4 (C : Ctx n M) {s3 : Sl} (h3 : s3 = .im (.lst (M.map dT)) ∨ s3 = .ow (.lst (M.map dT))) (h : P (.bl true)) :
    v4 [.im .st, .im (.int n), .im (.int M.length), s3, x4, x5, x6, x7, x8, x9, x10, x11, x12, x13, x14, x15, x16, x17, x18, x19, x20, x21, x22, x23] { nx := nx, bk := bk, ct := ct, rt := P, ex := E } := by
  have hr : Mt (.lst (M.map dT)) M := ⟨_, .inl rfl, mt_dT⟩
  have ef : frz [.im .st, .im (.int n), .im (.int M.length), s3, x4, x5, x6, x7, x8, x9, x10, x11, x12, x13, x14, x15, x16, x17, x18, x19, x20, x21, x22, x23] 3 = [.im .st, .im (.int n), .im (.int M.length), .im (.lst (M.map dT)), x4, x5, x6, x7, x8, x9, x10, x11, x12, x13, x14, x15, x16, x17, x18, x19, x20, x21, x22, x23] := by
    rcases h3 with rfl | rfl <;> rfl
  simp only [v4, u4, sSeq, sFrz, ef, sAsg, eCall, eVar, aCons, aNil, sl_c0, sl_c1]
  refine c_reduced hr C.tab fun T R L I => ⟨rfl, ?_⟩
  simp only [tgsCons, tgsNil, tgN, put_c0, put_c1]
  simp only [v5, u5, sSeq, sFrz, frz, sAsg, eCall, eVar, aCons, aNil, sl_c0, sl_c1]
  refine c__law_put_out hr C.tab fun T' R' L' I' => ⟨rfl, ?_⟩
  simp only [tgsCons, tgsNil, tgN, put_c0, put_c1]
  obtain ⟨rfl, rfl⟩ := I.uniq I'
  exact h6 C I I' h
end
end KK

set_option maxRecDepth 100000
set_option maxHeartbeats 2000000
namespace KK
open PySem L2 DL MX
section
variable {n X X' X4 : Nat} {M Mo T R T' R' T4 R4 : List (List Rat)} {L L' L4 : List Nat} {P : Dt → Prop} {E : Xc → Prop} {gl sh b : List Rat} {x1 x2 x3 x4 x5 x6 x7 x8 x9 x10 x11 x12 x13 x14 x15 x16 x17 x18 x19 x20 x21 x22 x23 : Sl} {nx bk ct : List Sl → Prop}
theorem ixN_last {m : Nat} (h : 0 < m) : ixN m (-1) = some (m - 1) := by
  unfold ixN
  rw [if_neg (by decide), if_pos (by omega)]
  congr 1
  omega
theorem h3 (C : Ctx n M) (s18 : ∀ r ∈ M, ∀ q ∈ r, S1 6 18 q) (h : P (.bl true)) :
    v3 [.im .st, .im (.int n), .im (.int M.length), .ow (.lst (M.map dT)), x4, x5, x6, x7, x8, x9, x10, x11, x12, x13, x14, x15, x16, x17, x18, x19, x20, x21, x22, x23] { nx := nx, bk := bk, ct := ct, rt := P, ex := E } := by
  have n4 := C.n4
  have m4 := C.m4
  have fin0 := h4 (x4 := x4) (x5 := x5) (x6 := x6) (x7 := x7) (x8 := x8) (x9 := x9) (x10 := x10) (x11 := x11) (x12 := x12) (x13 := x13) (x14 := x14) (x15 := x15) (x16 := x16) (x17 := x17) (x18 := x18) (x19 := x19) (x20 := x20) (x21 := x21) (x22 := x22) (x23 := x23) (E := E) (nx := nx) (bk := bk) (ct := ct) C (.inr rfl) h
  simp only [v3, u3, sSeq, sIf, bAnd, bT, eOp, gtI, eqD, eCall, aCons, aNil, eVar, eC, sl_c0, sl_c1, asB]
  by_cases h1 : (1 : Int) < (M.length : Int)
  · rw [if_pos (decide_eq_true h1)]
    refine c_take (by decide) (by decide) fun t ht => ⟨⟨okD_int, okD_int⟩, ?_⟩
    rw [eqv_int]
    by_cases ht0 : (t : Int) = 0
    · rw [if_pos (by simp [ht0])]
      simp only [sSetAt, eCB, f1, tupD, nComp, iRange1, g1, eVar, aCons, aNil, sl_c0, sl_c1, Int.toNat_natCast]
      refine ⟨by omega, by rw [rng_len]; omega, ?_⟩
      rw [rng0]
      refine compD_mapG (fun c => dq (g (M.getD 0 []) c * 2)) (fun c hc Q K k => ?_) ?_
      · have hc := List.mem_range.mp hc
        have m0 : M.getD 0 [] ∈ M := at_mem (by omega)
        have g0 : (M.map dT)[0]? = some (dT (M.getD 0 [])) := by simp [List.getD_eq_getElem?_getD, show 0 < M.length by omega]
        unfold cStep
        simp only [gN, bYes, if_true, eCall, eOp, eTup, oVar, aCons, aNil, eVar, eC, wipeE, sl_c0, sl_c1, put_c0, put_c1]
        refine ixL (i := 0) g0 (ixT (get_dqs (by rw [C.w _ m0]; exact hc)) ⟨by simp, ?_⟩)
        rw [show Dt.tup [.int 2, .int 1] = dq 2 from rfl]
        exact c__law_mul (S1.sm (scv_of (C.s _ m0) c) (by decide) (by decide) (by decide)) ⟨by decide, by decide⟩ k
      · have e : ([] ++ (List.range n).map fun c => dq (g (M.getD 0 []) c * 2)) = dqs ((List.range n).map fun c => g (M.getD 0 []) c * 2) := by simp [dqs, Function.comp_def]
        rw [e]
        simp only [owL, eUn, negI, eC, setD, sl_c0, sl_c1, List.length_map]
        refine ⟨M.length - 1, ixN_last (by omega), ?_⟩
        generalize hr' : (List.range n).map (fun c => g (M.getD 0 []) c * 2) = r'
        have lr : r'.length = n := by rw [← hr']; simp
        have sr : ∀ q ∈ r', S1 6 36 q := fun q hq => by
          rw [← hr'] at hq
          obtain ⟨c, _, rfl⟩ := List.mem_map.mp hq
          have := (scv_of (s18 _ (at_mem (show 0 < M.length by omega))) c)
          exact S1.mul (d := 6) (e := 1) (X := 18) (Y := 2) this ⟨2, by decide +kernel, by decide⟩
        have ml : (M.set (M.length - 1) r').length = M.length := List.length_set ..
        have C' : Ctx n (M.set (M.length - 1) r') := ⟨C.n1, C.n4, by rw [ml]; exact C.m4, fun r hr => by
          rcases List.mem_or_eq_of_mem_set hr with z | z
          · exact C.w r z
          · rw [z, lr], fun r hr => by
          rcases List.mem_or_eq_of_mem_set hr with z | z
          · exact C.s r z
          · rw [z]; exact sr⟩
        have e2 : (M.map dT).set (M.length - 1) (.tup (dqs r')) = (M.set (M.length - 1) r').map dT := by rw [List.map_set]; rfl
        rw [e2]
        have := h4 (x4 := x4) (x5 := x5) (x6 := x6) (x7 := x7) (x8 := x8) (x9 := x9) (x10 := x10) (x11 := x11) (x12 := x12) (x13 := x13) (x14 := x14) (x15 := x15) (x16 := x16) (x17 := x17) (x18 := x18) (x19 := x19) (x20 := x20) (x21 := x21) (x22 := x22) (x23 := x23) (E := E) (nx := nx) (bk := bk) (ct := ct) C' (.inr rfl) h
        rw [ml] at this
        exact this
    · rw [if_neg (by simpa using ht0)]
      exact next_of fin0
  · rw [if_neg (by simpa using h1)]
    simp only [Bool.false_eq_true, if_false]
    exact next_of fin0
theorem c__law_tables_hold (h : P (.bl true)) : sp__law_tables_hold [.st] P E := by
  refine ⟨rfl, ?_⟩
  show m__law_tables_hold [.im .st, .no, .no, .no, .no, .no, .no, .no, .no, .no, .no, .no, .no, .no, .no, .no, .no, .no, .no, .no, .no, .no, .no, .no] _
  rw [m_tab]
  simp only [v1, u1, sSeq, sMany, xCons, xNil, xE, eOp, addI, eCall, aCons, aNil, eVar, eC, sl_c0, sl_c1]
  refine c_take (by decide) (by decide) fun a ha => ?_
  simp only [addI]
  refine c_take (by decide) (by decide) fun m hm => ⟨⟨rfl, by simp⟩, ?_⟩
  rw [show (1 : Int) + (a : Int) = ((1 + a : Nat) : Int) by omega]
  generalize hn : 1 + a = n
  simp only [putL, put_c0, put_c1]
  simp only [v2, u2, sSeq, sSet, xN, nComp, iRange1, g1, eVar, aCons, aNil, sl_c0, sl_c1, Int.toNat_natCast]
  refine ⟨by omega, by rw [rng_len]; omega, ?_⟩
  rw [rng0]
  refine compD_relG (o := dT) (fun _ r => r.length = n ∧ ∀ q ∈ r, S1 6 18 q) (fun k hk Q R q => ?_) fun M hM => ?_
  · unfold cStep
    simp only [gN, bYes, if_true, eCB, f1, tupD, nComp, iRange1, g1, aCons, aNil, eVar, eC, wipeE, sl_c0, sl_c1, put_c0, put_c1, Int.toNat_natCast]
    refine ⟨by omega, by rw [rng_len]; omega, ?_⟩
    rw [rng0]
    refine compD_relG (o := dq) (fun _ q => S1 6 18 q) (fun c hc Q R q => ?_) fun qs hqs => ?_
    · unfold cStep
      simp only [gN, bYes, if_true, eCall, aCons, aNil, eVar, eC, wipeE, sl_c0, sl_c1, put_c0, put_c1]
      exact c__law_drawn (w := 3) (by decide) q
    · exact q qs ⟨by have := hqs.len; rw [List.length_range] at this; omega, fun q hq => let ⟨_, _, s⟩ := hqs.mem hq; s⟩
  · have lM := hM.len
    rw [List.length_range] at lM
    subst lM
    have s18 : ∀ r ∈ M, ∀ q ∈ r, S1 6 18 q := fun r hr => let ⟨_, _, s⟩ := hM.mem hr; s.2
    exact h3 ⟨by omega, by omega, by omega, fun r hr => let ⟨_, _, s⟩ := hM.mem hr; s.1, fun r hr q hq => (s18 r hr q hq).up (by decide)⟩ s18 h
end
end KK

set_option maxRecDepth 100000
set_option maxHeartbeats 2000000
namespace KK
open PySem L2 DL MX
section
variable {P : Dt → Prop} {E : Xc → Prop}
theorem isi {T : String} {x : Dt} {b : Bool} (h : kitB (tyS x) T = some b) (p : P (.bl b)) : isiD T x P := ⟨b, h, p⟩
theorem k_tt : kitB "tuple" "tuple" = some true := by decide +kernel
theorem k_lt : kitB "list" "tuple" = some false := by decide +kernel
theorem k_ii : kitB "int" "int" = some true := by decide +kernel
theorem k_ib : kitB "int" "bool" = some false := by decide +kernel
theorem k_bi : kitB "bool" "int" = some true := by decide +kernel
theorem k_bb : kitB "bool" "bool" = some true := by decide +kernel
theorem c_is_part_t {a b : Int} (h : P (.bl (decide (1 ≤ b) && decide (((Int.gcd a b : Nat) : Int) = 1)))) : sp_is_part [.tup [.int a, .int b]] P E := by
  refine ⟨rfl, ?_⟩
  show m_is_part [.im (.tup [.int a, .int b]), .no] _
  unfold m_is_part
  simp only [sSeq, sIf, bOr, bNot, bT, eIsi, eOp, eCB, f1, lenD, neD, aCons, aNil, eVar, eC, sl_c0]
  refine isi k_tt ?_
  simp only [asB, Bool.not_true, Bool.false_eq_true, if_false, List.length_cons, List.length_nil]
  refine ⟨⟨okD_int, okD_int⟩, ?_⟩
  have e2 : eqv (.int ((0 + 1 + 1 : Nat) : Int)) (.int 2) = true := by rw [eqv_int]; decide
  simp only [e2, Bool.not_true, Bool.false_eq_true, if_false, sNext, nComp, iOf, seqD, eVar, sl_c0]
  refine ⟨by simp, ?_⟩
  refine compD_map (fun _ => .bl true) (fun d hd Q R q => ?_) ?_
  · obtain ⟨i, rfl⟩ : ∃ i, d = .int i := by
      simp at hd
      rcases hd with rfl | rfl <;> exact ⟨_, rfl⟩
    unfold cStep
    simp only [gN, bYes, if_true, eAnd, eNot, eIsi, eVar, wipeE, sl_c0, sl_c1, put_c0, put_c1]
    refine isi k_ii ?_
    simp only [asB, if_true, bNot, bT]
    refine isi k_ib ?_
    simp only [asB, Bool.not_false]
    exact q
  · simp only [allD]
    refine ⟨[true, true], rfl, ?_⟩
    simp only [List.all_cons, List.all_nil, id, Bool.and_self, asB, Bool.not_true, Bool.false_eq_true, if_false, sRet, eAnd, eOp, geI, eqD, eCall, aCons, aNil, eVar, eC, sl_c0, sl_c1]
    refine ixT (i := 1) rfl ?_
    simp only [asB]
    by_cases h1 : 1 ≤ b
    · rw [if_pos (decide_eq_true h1)]
      refine ixT (i := 0) rfl (ixT (i := 1) rfl (c_divisor ⟨⟨okD_int, okD_int⟩, ?_⟩))
      rw [decide_eq_true h1, Bool.true_and] at h
      rw [eqv_int]
      exact h
    · rw [if_neg (by simpa using h1)]
      rw [decide_eq_false h1, Bool.false_and] at h
      exact h
theorem c_is_part_l {xs : List Dt} (h : P (.bl false)) : sp_is_part [.lst xs] P E := by
  refine ⟨rfl, ?_⟩
  show m_is_part [.im (.lst xs), .no] _
  unfold m_is_part
  simp only [sSeq, sIf, bOr, bNot, bT, eIsi, eVar, sl_c0]
  refine isi k_lt ?_
  simp only [asB, Bool.not_false, if_true, sRet, eC]
  exact h
theorem c_is_part_b {c : Bool} {b : Int} (h : P (.bl false)) : sp_is_part [.tup [.bl c, .int b]] P E := by
  refine ⟨rfl, ?_⟩
  show m_is_part [.im (.tup [.bl c, .int b]), .no] _
  unfold m_is_part
  simp only [sSeq, sIf, bOr, bNot, bT, eIsi, eOp, eCB, f1, lenD, neD, aCons, aNil, eVar, eC, sl_c0]
  refine isi k_tt ?_
  simp only [asB, Bool.not_true, Bool.false_eq_true, if_false, List.length_cons, List.length_nil]
  refine ⟨⟨okD_int, okD_int⟩, ?_⟩
  have e2 : eqv (.int ((0 + 1 + 1 : Nat) : Int)) (.int 2) = true := by rw [eqv_int]; decide
  simp only [e2, Bool.not_true, Bool.false_eq_true, if_false, sNext, nComp, iOf, seqD, eVar, sl_c0]
  refine ⟨by simp, ?_⟩
  refine compD_map (fun d => match d with | .bl _ => .bl false | _ => .bl true) (fun d hd Q R q => ?_) ?_
  · unfold cStep
    simp only [gN, bYes, if_true, eAnd, eNot, eIsi, eVar, wipeE, sl_c0, sl_c1, put_c0, put_c1]
    simp at hd
    rcases hd with rfl | rfl
    · refine isi k_bi ?_
      simp only [asB, if_true, bNot, bT]
      refine isi k_bb ?_
      simp only [asB, Bool.not_true]
      exact q
    · refine isi k_ii ?_
      simp only [asB, if_true, bNot, bT]
      refine isi k_ib ?_
      simp only [asB, Bool.not_false]
      exact q
  · simp only [allD]
    refine ⟨[false, true], rfl, ?_⟩
    simp only [List.all_cons, List.all_nil, id, Bool.false_and, asB, Bool.not_false, if_true, sRet, eC]
    exact h
theorem c_are_parts {xs : List Dt} {m : Int} (hx : xs = [.tup [.int 1, .int 2]]) (h : P (.bl (decide (m = 1)))) : sp_are_parts [.tup xs, .int m] P E := by
  subst hx
  refine ⟨rfl, ?_⟩
  show m_are_parts [.im (.tup [.tup [.int 1, .int 2]]), .im (.int m), .no] _
  unfold m_are_parts
  simp only [sRet, eAnd, eIsi, eOp, eCB, f1, lenD, eqD, aCons, aNil, eVar, eC, sl_c0, sl_c1]
  refine isi k_tt ?_
  simp only [asB, if_true, List.length_cons, List.length_nil]
  refine ⟨⟨okD_int, okD_int⟩, ?_⟩
  by_cases h1 : m = 1
  · subst h1
    rw [if_pos (by rw [eqv_int]; decide)]
    simp only [nComp, iOf, seqD, eVar, sl_c0]
    refine ⟨by decide, ?_⟩
    refine compD_map (fun _ => .bl true) (fun d hd Q R q => ?_) ?_
    · simp at hd
      subst hd
      unfold cStep
      simp only [gN, bYes, if_true, eCall, aCons, aNil, eVar, wipeE, sl_c0, sl_c1, put_c0, put_c1]
      exact c_is_part_t q
    · simp only [allD]
      exact ⟨[true], rfl, h⟩
  · rw [if_neg (by rw [eqv_int]; simp; omega)]
    rw [decide_eq_false h1] at h
    exact h
theorem c_are_parts_l {xs : List Dt} {m : Int} (h : P (.bl false)) : sp_are_parts [.lst xs, .int m] P E := by
  refine ⟨rfl, ?_⟩
  show m_are_parts [.im (.lst xs), .im (.int m), .no] _
  unfold m_are_parts
  simp only [sRet, eAnd, eIsi, eVar, sl_c0]
  refine isi k_lt ?_
  simp only [asB, Bool.false_eq_true, if_false]
  exact h
end
def isP : Dt → Dt
  | .tup [.int a, .int b] => .bl (decide (1 ≤ b) && decide (((Int.gcd a b : Nat) : Int) = 1))
  | _ => .bl false
theorem next_of' {env : List Sl} {Pp : Po} (h : Pp.nx env) : sNext env Pp := h
theorem holds : m_law (env0 N_law.length i_law) { nx := fun _ => False, rt := fun d => d = .bl true } := by
  show m_law [.no, .im .st, .no, .no] _
  unfold m_law
  simp only [sSeq, sFor, iRange1, g1, eC, aCons, aNil]
  refine ⟨by decide, ?_⟩
  refine forD_inv (fun _ e => ∃ t, e = [.no, .im .st, t, .no]) ⟨.no, rfl⟩ ?_ ?_
  · rintro i x e hx ⟨t, rfl⟩ nx hnx
    simp only [gN, sIf, bOr, bNot, bT, eCall, aCons, aNil, eVar, sl_c0, sl_c1, put_c0, put_c1]
    refine c__law_parts_hold ?_
    simp only [asB, Bool.not_true, Bool.false_eq_true, if_false]
    refine c__law_tables_hold ?_
    simp only [asB, Bool.not_true, Bool.false_eq_true, if_false, sNext]
    exact hnx _ ⟨_, rfl⟩
  · rintro e ⟨t, rfl⟩
    simp only [sIf, bT, eOp, neD, nComp, iOf, eTup, eLst, eUn, negI, seqD, eC, aCons, aNil]
    refine ⟨by decide, by decide, by decide, by decide, by decide, by decide, by decide, by decide, ?_⟩
    refine compD_map isP (fun d hd Q R q => ?_) ?_
    · unfold cStep
      simp only [gN, bYes, if_true, eCall, aCons, aNil, eVar, wipeE, sl_c0, sl_c1, put_c0, put_c1]
      simp only [List.mem_cons, List.not_mem_nil, or_false] at hd
      rcases hd with rfl | rfl | rfl | rfl | rfl | rfl
      · exact c_is_part_t q
      · exact c_is_part_t q
      · exact c_is_part_t q
      · exact c_is_part_l q
      · exact c_is_part_t q
      · exact c_is_part_b q
    · have e : [Dt.tup [.int 0, .int 1], .tup [.int 0, .int 2], .tup [.int 1, .int (-2)], .lst [.int 1, .int 2], .tup [.int (-3), .int 2], .tup [.bl true, .int 1]].map isP = [.bl true, .bl false, .bl false, .bl false, .bl true, .bl false] := rfl
      rw [e]
      have ok : okD (.lst [.bl true, .bl false, .bl false, .bl false, .bl true, .bl false]) := by unfold okD; rfl
      have eq : eqv (.lst [.bl true, .bl false, .bl false, .bl false, .bl true, .bl false]) (.lst [.bl true, .bl false, .bl false, .bl false, .bl true, .bl false]) = true := rfl
      refine ⟨by decide, ⟨ok, ok⟩, ?_⟩
      simp only [eq, asB, Bool.not_true, Bool.false_eq_true, if_false]
      refine next_of' ?_
      simp only [sRet, eAnd, eOp, eCall, eTup, eLst, eC, aCons, aNil]
      refine ⟨by decide, by decide, c_are_parts rfl ?_⟩
      simp only [isN, asB]
      rw [if_pos (by decide)]
      refine ⟨by decide, by decide, c_are_parts_l ?_⟩
      simp only [isN, asB]
      rw [if_pos (by decide)]
      refine ⟨by decide, by decide, c_are_parts rfl ?_⟩
      simp only [isN, asB]
      rw [if_pos (by decide)]
      refine ⟨by decide, ?_⟩
      refine c_rank (n := 0) (X := 1) (M := []) .nil ⟨Nat.le_refl _, by simp, by decide, by decide, by decide, ⟨1, by decide, by decide, by simp⟩, fun k hk => ?_⟩ (fun _ => ?_) (fun z => absurd rfl z)
      · have : k = 0 := by omega
        subst this
        decide
      · refine ⟨⟨okD_int, okD_int⟩, ?_⟩
        rw [eqv_int]
        rfl
end KK

open PySem PySem.W PyProof.Rows
set_option maxRecDepth 100000 in
set_option maxHeartbeats 0 in
theorem PySem.Challenge.cw_cogwright_k01_whole_parts_and_equations_holds : PySem.Challenge.rw_cogwright_k01_whole_parts_and_equations.Holds := by
  w_on; o_law; k_head; (case hw => w_witness2)
  k_fill
  refine L2.walk_of (l := PySem.Challenge.rw_cogwright_k01_whole_parts_and_equations) (n := 63) (k := KK.lv_law) (x := "script") (CX := fun w => L2.CX PySem.Challenge.pw_cogwright_k01_whole_parts_and_equations w) (sp := fun w => DL.spLaw _) rfl (by decide) rfl ⟨rfl, by decide, by decide⟩ (fun w h Y => PySem.W.kIn_of Y) ?F (fun _ _ a ns hl _ hS => ⟨a, ns, rfl, hS, hl, fun _ => rfl⟩) (fun _ _ _ _ _ z => DL.no_cx z)
  case F =>
    intro w mg fa h KX G hmg
    refine' KK.all_mk KX G hmg ⟨?d_divisor, ?d_part, ?d_is_part, ?d_are_parts, ?d_plus, ?d_minus, ?d_times, ?d_over, ?d_negative, ?d_is_less, ?d_least, ?d_most, ?d_total, ?d_dot, ?d_text_of, ?d_whole_below, ?d_power, ?d_reduced, ?d_rank, ?d_ways, ?d_point, ?d_made_of, ?d_summed, ?d_is_nought, ?d_same_space, ?d_rank_of, ?d__law_state, ?d__law_take, ?d__law_fr, ?d__law_add, ?d__law_mul, ?d__law_sub, ?d__law_sum, ?d__law_less, ?d__law_over, ?d__law_dot, ?d__law_turn, ?d__law_put_out, ?d__law_rank, ?d__law_ways, ?d__law_keeps, ?d__law_summed, ?d__law_are_ways, ?d__law_drawn, ?d__law_parts_hold, ?d__law_tables_hold, ?d_law, ?c_NOUGHT, ?c_ONE, ?b_abs, ?b_all, ?b_any, ?b_bool, ?b_int, ?b_isinstance, ?b_len, ?b_list, ?b_range, ?b_str, ?b_tuple⟩ KK.holds
    (case d_divisor => refine' DL.Dfn.of KX G ?a ?l ?c ?k; (case a => k_is); (case l => k_is); (case c => k_is); (case k => k_is))
    (case d_part => refine' DL.Dfn.of KX G ?a ?l ?c ?k; (case a => k_is); (case l => k_is); (case c => k_is); (case k => k_is))
    (case d_is_part => refine' DL.Dfn.of KX G ?a ?l ?c ?k; (case a => k_is); (case l => k_is); (case c => k_is); (case k => k_is))
    (case d_are_parts => refine' DL.Dfn.of KX G ?a ?l ?c ?k; (case a => k_is); (case l => k_is); (case c => k_is); (case k => k_is))
    (case d_plus => refine' DL.Dfn.of KX G ?a ?l ?c ?k; (case a => k_is); (case l => k_is); (case c => k_is); (case k => k_is))
    (case d_minus => refine' DL.Dfn.of KX G ?a ?l ?c ?k; (case a => k_is); (case l => k_is); (case c => k_is); (case k => k_is))
    (case d_times => refine' DL.Dfn.of KX G ?a ?l ?c ?k; (case a => k_is); (case l => k_is); (case c => k_is); (case k => k_is))
    (case d_over => refine' DL.Dfn.of KX G ?a ?l ?c ?k; (case a => k_is); (case l => k_is); (case c => k_is); (case k => k_is))
    (case d_negative => refine' DL.Dfn.of KX G ?a ?l ?c ?k; (case a => k_is); (case l => k_is); (case c => k_is); (case k => k_is))
    (case d_is_less => refine' DL.Dfn.of KX G ?a ?l ?c ?k; (case a => k_is); (case l => k_is); (case c => k_is); (case k => k_is))
    (case d_least => refine' DL.Dfn.of KX G ?a ?l ?c ?k; (case a => k_is); (case l => k_is); (case c => k_is); (case k => k_is))
    (case d_most => refine' DL.Dfn.of KX G ?a ?l ?c ?k; (case a => k_is); (case l => k_is); (case c => k_is); (case k => k_is))
    (case d_total => refine' DL.Dfn.of KX G ?a ?l ?c ?k; (case a => k_is); (case l => k_is); (case c => k_is); (case k => k_is))
    (case d_dot => refine' DL.Dfn.of KX G ?a ?l ?c ?k; (case a => k_is); (case l => k_is); (case c => k_is); (case k => k_is))
    (case d_text_of => refine' DL.Dfn.of KX G ?a ?l ?c ?k; (case a => k_is); (case l => k_is); (case c => k_is); (case k => k_is))
    (case d_whole_below => refine' DL.Dfn.of KX G ?a ?l ?c ?k; (case a => k_is); (case l => k_is); (case c => k_is); (case k => k_is))
    (case d_power => refine' DL.Dfn.of KX G ?a ?l ?c ?k; (case a => k_is); (case l => k_is); (case c => k_is); (case k => k_is))
    (case d_reduced => refine' DL.Dfn.of KX G ?a ?l ?c ?k; (case a => k_is); (case l => k_is); (case c => k_is); (case k => k_is))
    (case d_rank => refine' DL.Dfn.of KX G ?a ?l ?c ?k; (case a => k_is); (case l => k_is); (case c => k_is); (case k => k_is))
    (case d_ways => refine' DL.Dfn.of KX G ?a ?l ?c ?k; (case a => k_is); (case l => k_is); (case c => k_is); (case k => k_is))
    (case d_point => refine' DL.Dfn.of KX G ?a ?l ?c ?k; (case a => k_is); (case l => k_is); (case c => k_is); (case k => k_is))
    (case d_made_of => refine' DL.Dfn.of KX G ?a ?l ?c ?k; (case a => k_is); (case l => k_is); (case c => k_is); (case k => k_is))
    (case d_summed => refine' DL.Dfn.of KX G ?a ?l ?c ?k; (case a => k_is); (case l => k_is); (case c => k_is); (case k => k_is))
    (case d_is_nought => refine' DL.Dfn.of KX G ?a ?l ?c ?k; (case a => k_is); (case l => k_is); (case c => k_is); (case k => k_is))
    (case d_same_space => refine' DL.Dfn.of KX G ?a ?l ?c ?k; (case a => k_is); (case l => k_is); (case c => k_is); (case k => k_is))
    (case d_rank_of => refine' DL.Dfn.of KX G ?a ?l ?c ?k; (case a => k_is); (case l => k_is); (case c => k_is); (case k => k_is))
    (case d__law_state => refine' DL.Dfn.of KX G ?a ?l ?c ?k; (case a => k_is); (case l => k_is); (case c => k_is); (case k => k_is))
    (case d__law_take => refine' DL.Dfn.of KX G ?a ?l ?c ?k; (case a => k_is); (case l => k_is); (case c => k_is); (case k => k_is))
    (case d__law_fr => refine' DL.Dfn.of KX G ?a ?l ?c ?k; (case a => k_is); (case l => k_is); (case c => k_is); (case k => k_is))
    (case d__law_add => refine' DL.Dfn.of KX G ?a ?l ?c ?k; (case a => k_is); (case l => k_is); (case c => k_is); (case k => k_is))
    (case d__law_mul => refine' DL.Dfn.of KX G ?a ?l ?c ?k; (case a => k_is); (case l => k_is); (case c => k_is); (case k => k_is))
    (case d__law_sub => refine' DL.Dfn.of KX G ?a ?l ?c ?k; (case a => k_is); (case l => k_is); (case c => k_is); (case k => k_is))
    (case d__law_sum => refine' DL.Dfn.of KX G ?a ?l ?c ?k; (case a => k_is); (case l => k_is); (case c => k_is); (case k => k_is))
    (case d__law_less => refine' DL.Dfn.of KX G ?a ?l ?c ?k; (case a => k_is); (case l => k_is); (case c => k_is); (case k => k_is))
    (case d__law_over => refine' DL.Dfn.of KX G ?a ?l ?c ?k; (case a => k_is); (case l => k_is); (case c => k_is); (case k => k_is))
    (case d__law_dot => refine' DL.Dfn.of KX G ?a ?l ?c ?k; (case a => k_is); (case l => k_is); (case c => k_is); (case k => k_is))
    (case d__law_turn => refine' DL.Dfn.of KX G ?a ?l ?c ?k; (case a => k_is); (case l => k_is); (case c => k_is); (case k => k_is))
    (case d__law_put_out => refine' DL.Dfn.of KX G ?a ?l ?c ?k; (case a => k_is); (case l => k_is); (case c => k_is); (case k => k_is))
    (case d__law_rank => refine' DL.Dfn.of KX G ?a ?l ?c ?k; (case a => k_is); (case l => k_is); (case c => k_is); (case k => k_is))
    (case d__law_ways => refine' DL.Dfn.of KX G ?a ?l ?c ?k; (case a => k_is); (case l => k_is); (case c => k_is); (case k => k_is))
    (case d__law_keeps => refine' DL.Dfn.of KX G ?a ?l ?c ?k; (case a => k_is); (case l => k_is); (case c => k_is); (case k => k_is))
    (case d__law_summed => refine' DL.Dfn.of KX G ?a ?l ?c ?k; (case a => k_is); (case l => k_is); (case c => k_is); (case k => k_is))
    (case d__law_are_ways => refine' DL.Dfn.of KX G ?a ?l ?c ?k; (case a => k_is); (case l => k_is); (case c => k_is); (case k => k_is))
    (case d__law_drawn => refine' DL.Dfn.of KX G ?a ?l ?c ?k; (case a => k_is); (case l => k_is); (case c => k_is); (case k => k_is))
    (case d__law_parts_hold => refine' DL.Dfn.of KX G ?a ?l ?c ?k; (case a => k_is); (case l => k_is); (case c => k_is); (case k => k_is))
    (case d__law_tables_hold => refine' DL.Dfn.of KX G ?a ?l ?c ?k; (case a => k_is); (case l => k_is); (case c => k_is); (case k => k_is))
    (case d_law => refine' DL.Dfn.of KX G ?a ?l ?c ?k; (case a => k_is); (case l => k_is); (case c => k_is); (case k => k_is))
    (case c_NOUGHT => refine' DL.Cst.ints KX G [0, 1] ?e ?l ?z ?v; (case e => k_is); (case l => k_is); (case z => decide); (case v => exact .cons ⟨_, rfl⟩ (.cons ⟨_, rfl⟩ (.nil))))
    (case c_ONE => refine' DL.Cst.ints KX G [1, 1] ?e ?l ?z ?v; (case e => k_is); (case l => k_is); (case z => decide); (case v => exact .cons ⟨_, rfl⟩ (.cons ⟨_, rfl⟩ (.nil))))
    (case b_abs => refine' PySem.W.mg_none_of KX G ?a; (case a => k_is))
    (case b_all => refine' PySem.W.mg_none_of KX G ?a; (case a => k_is))
    (case b_any => refine' PySem.W.mg_none_of KX G ?a; (case a => k_is))
    (case b_bool => refine' PySem.W.mg_none_of KX G ?a; (case a => k_is))
    (case b_int => refine' PySem.W.mg_none_of KX G ?a; (case a => k_is))
    (case b_isinstance => refine' PySem.W.mg_none_of KX G ?a; (case a => k_is))
    (case b_len => refine' PySem.W.mg_none_of KX G ?a; (case a => k_is))
    (case b_list => refine' PySem.W.mg_none_of KX G ?a; (case a => k_is))
    (case b_range => refine' PySem.W.mg_none_of KX G ?a; (case a => k_is))
    (case b_str => refine' PySem.W.mg_none_of KX G ?a; (case a => k_is))
    (case b_tuple => refine' PySem.W.mg_none_of KX G ?a; (case a => k_is))


