import PyProof.Rows.All
import Wide.All
import OpenK.AllK
import Wide.FinOn
import HandS.ForMost
import HandS.Walk
import HandS.TupAny
import HandS.Deep
import HandS.IsInst
import HandS.Strs
import HandS.SortInts
import HandS.SortRule
import HandS.More
import HandS.Wide
import HandS.Zip
import HandS.Conv
import HandS.SetFor
import HandS.DictComp
import HandS.CallLocal
import HandS.CallRecv
import HandS.Flow
import HandS.Style
import HandS.Star
import HandS.TupLen
import KE.GoesMore
import HandS.Small
import PySem.Challenge.RW_sevenpedals_k00_lots_turned_upside_down
set_option Elab.async false
set_option linter.all false
set_option maxRecDepth 100000
set_option maxHeartbeats 4000000
/-! DBase -/
/-! A layer of plain data over the hand layer: values without addresses, a store of mutable things, denotations. -/
namespace DD
open PySem PySem.Spec PyProof.Rows L2

/-- what is fixed through a law: the program, the world, the written part, the module's names, the base -/
structure Ctx where
  P : Program
  w : PySem.World
  K : PySem.W.Frag
  mg : Str → Option Value
  base : Heap

/-- plain values: tup, lst: tracked tuples, lists that are never changed any more; rol, rot: lists, tuples of the top, only read; obj n: the n-th thing of the store -/
inductive PV where
  | non | bl (b : Bool) | int (i : Int) | str (s : Str) | ref (a : Addr) | ty (n : String) | obj (n : Nat)
  | tup (xs : List PV) | lst (xs : List PV) | rol (xs : List PV) | rot (xs : List PV)
  | fK (ks : List Key) (xs : List PV) | fT (ks : List (List Key)) (xs : List PV)

/-- a mutable thing's content -/
inductive Cont where
  | lst (xs : List PV) | dK (kvs : List (Key × PV)) | dT (kvs : List (List Key × PV)) | set (xs : List Int) | ins (C : Addr) (fs : List (Str × PV))

inductive Tag where
  | oth | frz | slot (i : Nat) | obj (n : Nat)
  deriving DecidableEq

structure World where
  H : Hp
  T : Addr → Tag
  mu : List Addr
  old : Addr → Prop

/-- a slot of a frame -/
inductive Slot where
  | un | v (p : PV) | own (c : Cont) | lk (p : PV)
abbrev DEnv := List Slot
abbrev MS := List Cont

/-- an expression's value: v a plain value, o a new mutable thing nobody has, b a slot's own thing, borrowed -/
inductive XV where
  | v (p : PV) | o (c : Cont) | b (c : Cont)

/-- what is never changed: tagged so, and each tuple -/
def Fz (W : World) (a : Addr) : Prop := W.T a = .frz ∨ ∃ vs, W.H a = some (.tup vs)
theorem Fz.of {W W' : World} {a : Addr} {o : HO} (h : Fz W a) (h0 : W.H a = some o) (h1 : W'.H a = some o) (h2 : W'.T a = W.T a) : Fz W' a := by
  rcases h with h | ⟨vs, h⟩
  · exact .inl (h2.trans h)
  · rw [h0] at h; cases h; exact .inr ⟨vs, h1⟩
def StaT (K : Ctx) (a : Addr) (xs : List V) : Prop :=
  ∃ (o : Obj) (its : Array Value) (n : Nat), K.K.lookup a = some o ∧ o.cls = .type "tuple" ∧ o.data = .seq its n ∧ its.size ≤ sizeLine ∧ Vals xs its.toList
def StaL (K : Ctx) (a : Addr) (xs : List V) : Prop :=
  ∃ (o : Obj) (its : Array Value) (n : Nat), K.K.lookup a = some o ∧ o.cls = .type "list" ∧ o.dict = none ∧ o.data = .seq its n ∧ its.size ≤ sizeLine ∧ Vals xs its.toList

mutual
def RV (K : Ctx) (W : World) : PV → V → Prop
  | .non, v => v = .non
  | .bl b, v => v = .bl b
  | .int i, v => v = .int i
  | .str s, v => v = .str s
  | .ref a, v => v = .ref a
  | .ty n, v => v = .ty n
  | .obj n, v => ∃ a, W.mu[n]? = some a ∧ v = .ref a
  | .tup xs, v => ∃ a vs, v = .ref a ∧ Fz W a ∧ W.H a = some (.tup vs) ∧ RVs K W xs vs
  | .lst xs, v => ∃ a vs, v = .ref a ∧ Fz W a ∧ W.H a = some (.lst vs) ∧ RVs K W xs vs
  | .rol xs, v => ∃ a vs, v = .ref a ∧ ((Fz W a ∧ ∃ o, W.H a = some (.frz o (.lst vs))) ∨ StaL K a vs) ∧ RVs K W xs vs
  | .rot xs, v => ∃ a vs, v = .ref a ∧ ((Fz W a ∧ ∃ o, W.H a = some (.frz o (.tup vs))) ∨ StaT K a vs) ∧ RVs K W xs vs
  | .fK ks xs, v => ∃ a vs, v = .ref a ∧ Fz W a ∧ Rd W.H a (.dK (ks.zip vs)) ∧ RVs K W xs vs
  | .fT ks xs, v => ∃ a vs, v = .ref a ∧ Fz W a ∧ Rd W.H a (.dT (ks.zip vs)) ∧ RVs K W xs vs
def RVs (K : Ctx) (W : World) : List PV → List V → Prop
  | [], vs => vs = []
  | x :: xs, vs => ∃ v r, vs = v :: r ∧ RV K W x v ∧ RVs K W xs r
end

section
variable {K : Ctx} {W W' W1 W2 : World}

theorem RVs_len : ∀ {xs : List PV} {vs : List V}, RVs K W xs vs → xs.length = vs.length
  | [], vs, h => by unfold RVs at h; subst h; rfl
  | x :: xs, vs, h => by
    unfold RVs at h
    obtain ⟨v, r, rfl, _, h2⟩ := h
    simp [RVs_len h2]
theorem RVs_nil {vs : List V} : RVs K W [] vs ↔ vs = [] := by unfold RVs; exact Iff.rfl
theorem RVs_cons {x : PV} {xs : List PV} {vs : List V} : RVs K W (x :: xs) vs ↔ ∃ v r, vs = v :: r ∧ RV K W x v ∧ RVs K W xs r := by
  constructor
  · intro h; unfold RVs at h; exact h
  · intro h; unfold RVs; exact h
theorem RVs_cons' {x : PV} {xs : List PV} {v : V} {vs : List V} : RVs K W (x :: xs) (v :: vs) ↔ RV K W x v ∧ RVs K W xs vs := by
  rw [RVs_cons]
  constructor
  · rintro ⟨v', r, e, h1, h2⟩; cases e; exact ⟨h1, h2⟩
  · rintro ⟨h1, h2⟩; exact ⟨v, vs, rfl, h1, h2⟩
theorem RVs_get : ∀ {xs : List PV} {vs : List V} {i : Nat} {x : PV}, RVs K W xs vs → xs[i]? = some x → ∃ v, vs[i]? = some v ∧ RV K W x v
  | [], _, _, _, _, e => by simp at e
  | y :: ys, vs, i, x, h, e => by
    obtain ⟨v, r, rfl, h1, h2⟩ := RVs_cons.mp h
    cases i with
    | zero => simp at e; subst e; exact ⟨v, rfl, h1⟩
    | succ i =>
      obtain ⟨w, e1, e2⟩ := RVs_get (i := i) (x := x) h2 (by simpa using e)
      exact ⟨w, by simpa using e1, e2⟩
theorem RVs_get' : ∀ {xs : List PV} {vs : List V} {i : Nat} {v : V}, RVs K W xs vs → vs[i]? = some v → ∃ x, xs[i]? = some x ∧ RV K W x v := by
  intro xs vs i v h e
  have hl := RVs_len h
  have hi : i < xs.length := by rw [hl]; exact (List.getElem?_eq_some_iff.mp e).1
  obtain ⟨w, e1, e2⟩ := RVs_get h (List.getElem?_eq_getElem hi)
  rw [e] at e1; cases e1
  exact ⟨xs[i], List.getElem?_eq_getElem hi, e2⟩
theorem RVs_append : ∀ {xs ys : List PV} {vs ws : List V}, RVs K W xs vs → RVs K W ys ws → RVs K W (xs ++ ys) (vs ++ ws)
  | [], ys, vs, ws, h1, h2 => by have := RVs_nil.mp h1; subst this; simpa using h2
  | x :: xs, ys, vs, ws, h1, h2 => by
    obtain ⟨v, r, rfl, a, b⟩ := RVs_cons.mp h1
    exact RVs_cons'.mpr ⟨a, RVs_append b h2⟩
theorem RVs_set : ∀ {xs : List PV} {vs : List V} {x : PV} {v : V} (i : Nat), RVs K W xs vs → RV K W x v → RVs K W (xs.set i x) (vs.set i v)
  | [], vs, x, v, i, h1, _ => by have := RVs_nil.mp h1; subst this; simpa using h1
  | y :: ys, vs, x, v, i, h1, h2 => by
    obtain ⟨w, r, rfl, a, b⟩ := RVs_cons.mp h1
    cases i with
    | zero => exact RVs_cons'.mpr ⟨h2, b⟩
    | succ i => exact RVs_cons'.mpr ⟨a, RVs_set i b h2⟩
theorem RVs_take : ∀ {xs : List PV} {vs : List V} (n : Nat), RVs K W xs vs → RVs K W (xs.take n) (vs.take n)
  | [], vs, n, h => by have := RVs_nil.mp h; subst this; simpa using h
  | x :: xs, vs, n, h => by
    obtain ⟨v, r, rfl, a, b⟩ := RVs_cons.mp h
    cases n with
    | zero => exact RVs_nil.mpr rfl
    | succ n => exact RVs_cons'.mpr ⟨a, RVs_take n b⟩
theorem RVs_drop : ∀ {xs : List PV} {vs : List V} (n : Nat), RVs K W xs vs → RVs K W (xs.drop n) (vs.drop n)
  | [], vs, n, h => by have := RVs_nil.mp h; subst this; simpa using h
  | x :: xs, vs, n, h => by
    obtain ⟨v, r, rfl, a, b⟩ := RVs_cons.mp h
    cases n with
    | zero => exact h
    | succ n => exact RVs_drop n b
theorem RVs_reverse : ∀ {xs : List PV} {vs : List V}, RVs K W xs vs → RVs K W xs.reverse vs.reverse
  | [], vs, h => by have := RVs_nil.mp h; subst this; simpa using h
  | x :: xs, vs, h => by
    obtain ⟨v, r, rfl, a, b⟩ := RVs_cons.mp h
    rw [List.reverse_cons, List.reverse_cons]
    exact RVs_append (RVs_reverse b) (RVs_cons'.mpr ⟨a, RVs_nil.mpr rfl⟩)
theorem RVs_ints : ∀ {ns : List Int} {vs : List V}, RVs K W (ns.map PV.int) vs ↔ vs = ns.map V.int
  | [], vs => RVs_nil
  | n :: ns, vs => by
    rw [List.map_cons, RVs_cons]
    constructor
    · rintro ⟨v, r, rfl, h1, h2⟩
      unfold RV at h1
      rw [RVs_ints.mp h2, h1]; rfl
    · intro h
      subst h
      exact ⟨.int n, _, rfl, by unfold RV; rfl, RVs_ints.mpr rfl⟩

/-- what a content's thing looks like at an address -/
def CtAt (K : Ctx) (W : World) (a : Addr) : Cont → Prop
  | .lst xs => ∃ vs, W.H a = some (.lst vs) ∧ RVs K W xs vs
  | .dK kvs => ∃ vs, W.H a = some (.dK ((kvs.map (·.1)).zip vs)) ∧ RVs K W (kvs.map (·.2)) vs
  | .dT kvs => ∃ vs, W.H a = some (.dT ((kvs.map (·.1)).zip vs)) ∧ RVs K W (kvs.map (·.2)) vs
  | .set xs => ∃ S, W.H a = some (SetO K.w a S xs.length) ∧ xs.Nodup ∧ ∀ i, S i = true ↔ i ∈ xs
  | .ins C fs => ∃ dx vs, W.H a = some (.ins C dx ((fs.map (·.1)).zip vs)) ∧ RVs K W (fs.map (·.2)) vs ∧ Fz W dx ∧ W.H dx = some (.own a)

/-- from one world to a later one, over statements: what is frozen stays, and what is others' of old -/
structure Ext (W W' : World) : Prop where
  keep : ∀ a o, W.H a = some o → (Fz W a ∨ (W.T a = .oth ∧ W.old a)) → W'.H a = some o ∧ W'.T a = W.T a
  mu : ∀ (n : Nat) (a : Addr), W.mu[n]? = some a → W'.mu[n]? = some a
  old : W'.old = W.old
  there : ∀ a o, W.H a = some o → ∃ o', W'.H a = some o'
/-- .. within an expression: the slots' own things and new ones too -/
structure ExtE (W W' : World) : Prop extends Ext W W' where
  slots : ∀ a o, W.H a = some o → (W.T a = .oth ∨ ∃ i, W.T a = .slot i) → W'.H a = some o ∧ W'.T a = W.T a

theorem Ext.refl : Ext W W := ⟨fun _ _ h _ => ⟨h, rfl⟩, fun _ _ h => h, rfl, fun _ o h => ⟨o, h⟩⟩
theorem ExtE.refl : ExtE W W := ⟨Ext.refl, fun _ _ h _ => ⟨h, rfl⟩⟩
theorem Ext.trans (a : Ext W W1) (b : Ext W1 W2) : Ext W W2 := ⟨fun x o h t => by
  obtain ⟨h1, t1⟩ := a.keep x o h t
  obtain ⟨h2, t2⟩ := b.keep x o h1 (t.elim (fun z => .inl (z.of h h1 t1)) fun z => .inr (by rw [t1, a.old]; exact z))
  exact ⟨h2, t2.trans t1⟩, fun n x h => b.mu n x (a.mu n x h), b.old.trans a.old, fun x o h => by
    obtain ⟨o1, h1⟩ := a.there x o h
    exact b.there x o1 h1⟩
theorem ExtE.trans (a : ExtE W W1) (b : ExtE W1 W2) : ExtE W W2 := ⟨a.toExt.trans b.toExt, fun x o h t => by
  obtain ⟨h1, t1⟩ := a.slots x o h t
  obtain ⟨h2, t2⟩ := b.slots x o h1 (by rw [t1]; exact t)
  exact ⟨h2, t2.trans t1⟩⟩

mutual
theorem RV_ext (e : Ext W W') : ∀ (p : PV) (v : V), RV K W p v → RV K W' p v
  | .non, v, h => by unfold RV at h ⊢; exact h
  | .bl b, v, h => by unfold RV at h ⊢; exact h
  | .int i, v, h => by unfold RV at h ⊢; exact h
  | .str s, v, h => by unfold RV at h ⊢; exact h
  | .ref a, v, h => by unfold RV at h ⊢; exact h
  | .ty n, v, h => by unfold RV at h ⊢; exact h
  | .obj n, v, h => by
    unfold RV at h ⊢
    obtain ⟨a, h1, h2⟩ := h
    exact ⟨a, e.mu n a h1, h2⟩
  | .tup xs, v, h => by
    unfold RV at h ⊢
    obtain ⟨a, vs, h1, h2, h3, h4⟩ := h
    obtain ⟨g1, g2⟩ := e.keep a _ h3 (.inl h2)
    exact ⟨a, vs, h1, h2.of h3 g1 g2, g1, RVs_ext e xs vs h4⟩
  | .lst xs, v, h => by
    unfold RV at h ⊢
    obtain ⟨a, vs, h1, h2, h3, h4⟩ := h
    obtain ⟨g1, g2⟩ := e.keep a _ h3 (.inl h2)
    exact ⟨a, vs, h1, h2.of h3 g1 g2, g1, RVs_ext e xs vs h4⟩
  | .fK ks xs, v, h => by
    unfold RV at h ⊢
    obtain ⟨a, vs, h1, h2, h3, h4⟩ := h
    refine ⟨a, vs, h1, ?_, ?_, RVs_ext e xs vs h4⟩
    · rcases h3 with h3 | ⟨o, h3⟩
      · exact h2.of h3 (e.keep a _ h3 (.inl h2)).1 (e.keep a _ h3 (.inl h2)).2
      · exact h2.of h3 (e.keep a _ h3 (.inl h2)).1 (e.keep a _ h3 (.inl h2)).2
    · rcases h3 with h3 | ⟨o, h3⟩
      · exact .inl (e.keep a _ h3 (.inl h2)).1
      · exact .inr ⟨o, (e.keep a _ h3 (.inl h2)).1⟩
  | .fT ks xs, v, h => by
    unfold RV at h ⊢
    obtain ⟨a, vs, h1, h2, h3, h4⟩ := h
    refine ⟨a, vs, h1, ?_, ?_, RVs_ext e xs vs h4⟩
    · rcases h3 with h3 | ⟨o, h3⟩
      · exact h2.of h3 (e.keep a _ h3 (.inl h2)).1 (e.keep a _ h3 (.inl h2)).2
      · exact h2.of h3 (e.keep a _ h3 (.inl h2)).1 (e.keep a _ h3 (.inl h2)).2
    · rcases h3 with h3 | ⟨o, h3⟩
      · exact .inl (e.keep a _ h3 (.inl h2)).1
      · exact .inr ⟨o, (e.keep a _ h3 (.inl h2)).1⟩
  | .rol xs, v, h => by
    unfold RV at h ⊢
    obtain ⟨a, vs, h1, h2, h4⟩ := h
    refine ⟨a, vs, h1, ?_, RVs_ext e xs vs h4⟩
    rcases h2 with ⟨t, o, h3⟩ | h3
    · obtain ⟨g1, g2⟩ := e.keep a _ h3 (.inl t)
      exact .inl ⟨t.of h3 g1 g2, o, g1⟩
    · exact .inr h3
  | .rot xs, v, h => by
    unfold RV at h ⊢
    obtain ⟨a, vs, h1, h2, h4⟩ := h
    refine ⟨a, vs, h1, ?_, RVs_ext e xs vs h4⟩
    rcases h2 with ⟨t, o, h3⟩ | h3
    · obtain ⟨g1, g2⟩ := e.keep a _ h3 (.inl t)
      exact .inl ⟨t.of h3 g1 g2, o, g1⟩
    · exact .inr h3
theorem RVs_ext (e : Ext W W') : ∀ (xs : List PV) (vs : List V), RVs K W xs vs → RVs K W' xs vs
  | [], vs, h => by unfold RVs at h ⊢; exact h
  | x :: xs, vs, h => by
    unfold RVs at h ⊢
    obtain ⟨v, r, h1, h2, h3⟩ := h
    exact ⟨v, r, h1, RV_ext e x v h2, RVs_ext e xs r h3⟩
end

/-- a content stays where its own object and the frozen ones stay -/
theorem CtAt_ext (e : Ext W W') {a : Addr} {c : Cont} (h : CtAt K W a c) (ha : ∀ o, W.H a = some o → W'.H a = some o) : CtAt K W' a c := by
  cases c with
  | lst xs => obtain ⟨vs, h1, h2⟩ := h; exact ⟨vs, ha _ h1, RVs_ext e _ _ h2⟩
  | dK kvs => obtain ⟨vs, h1, h2⟩ := h; exact ⟨vs, ha _ h1, RVs_ext e _ _ h2⟩
  | dT kvs => obtain ⟨vs, h1, h2⟩ := h; exact ⟨vs, ha _ h1, RVs_ext e _ _ h2⟩
  | set xs => obtain ⟨S, h1, h2⟩ := h; exact ⟨S, ha _ h1, h2⟩
  | ins C fs =>
    obtain ⟨dx, vs, h1, h2, h3, h4⟩ := h
    obtain ⟨g1, g2⟩ := e.keep dx _ h4 (.inl h3)
    exact ⟨dx, vs, ha _ h1, RVs_ext e _ _ h2, h3.of h4 g1 g2, g1⟩
theorem CtAt_some {a : Addr} {c : Cont} (h : CtAt K W a c) : ∃ o, W.H a = some o := by
  cases c with
  | lst xs => obtain ⟨vs, h1, _⟩ := h; exact ⟨_, h1⟩
  | dK kvs => obtain ⟨vs, h1, _⟩ := h; exact ⟨_, h1⟩
  | dT kvs => obtain ⟨vs, h1, _⟩ := h; exact ⟨_, h1⟩
  | set xs => obtain ⟨S, h1, _⟩ := h; exact ⟨_, h1⟩
  | ins C fs => obtain ⟨dx, vs, h1, _⟩ := h; exact ⟨_, h1⟩

/-- locked -/
def Lkd (W : World) (v : V) : Prop := ∃ a o u, v = .ref a ∧ Fz W a ∧ W.H a = some (.frz o u)
theorem Lkd.ext {v : V} (e : Ext W W') (h : Lkd W v) : Lkd W' v := by
  obtain ⟨a, o, u, h1, h2, h3⟩ := h
  obtain ⟨g1, g2⟩ := e.keep a _ h3 (.inl h2)
  exact ⟨a, o, u, h1, h2.of h3 g1 g2, g1⟩
/-- the store -/
structure RSt (K : Ctx) (W : World) (st : MS) : Prop where
  len : W.mu.length = st.length
  tag : ∀ (n : Nat) (a : Addr), W.mu[n]? = some a → W.T a = .obj n
  ct : ∀ (n : Nat) (c : Cont), st[n]? = some c → ∃ a, W.mu[n]? = some a ∧ CtAt K W a c
  oldH : ∀ a, W.old a → ∃ o, W.H a = some o
def RSl (K : Ctx) (W : World) (σ : L2.St) (i : Nat) : Slot → Prop
  | .un => True
  | .v p => ∃ v, σ[i]? = some (some v) ∧ RV K W p v
  | .own c => ∃ a, σ[i]? = some (some (.ref a)) ∧ W.T a = .slot i ∧ ¬ W.old a ∧ CtAt K W a c
  | .lk p => ∃ v, σ[i]? = some (some v) ∧ RV K W p v ∧ Lkd W v
structure REn (K : Ctx) (W : World) (env : DEnv) (σ : L2.St) : Prop where
  len : env.length = σ.length
  sl : ∀ (i : Nat) (s : Slot), env[i]? = some s → RSl K W σ i s
/-- an expression's value; W0 is where it began -/
def RX (K : Ctx) (W0 W : World) : XV → V → Prop
  | .v p, v => RV K W p v
  | .o c, v => ∃ a, v = .ref a ∧ CtAt K W a c ∧ W.T a = .oth ∧ ¬ W.old a ∧ W0.H a = none
  | .b c, v => ∃ a i, v = .ref a ∧ CtAt K W a c ∧ W.T a = .slot i ∧ ¬ W.old a

theorem REn.ext {env : DEnv} {σ : L2.St} (h : REn K W env σ) (e : ExtE W W') : REn K W' env σ := ⟨h.len, fun i s hs => by
  have q := h.sl i s hs
  cases s with
  | un => trivial
  | v p => obtain ⟨v, h1, h2⟩ := q; exact ⟨v, h1, RV_ext e.toExt p v h2⟩
  | own c =>
    obtain ⟨a, h1, h2, h4, h3⟩ := q
    obtain ⟨o, ho⟩ := CtAt_some h3
    exact ⟨a, h1, (e.slots a o ho (.inr ⟨i, h2⟩)).2.trans h2, by rw [e.old]; exact h4, CtAt_ext e.toExt h3 fun o' ho' => (e.slots a o' ho' (.inr ⟨i, h2⟩)).1⟩
  | lk p => obtain ⟨v, h1, h2, h3⟩ := q; exact ⟨v, h1, RV_ext e.toExt p v h2, h3.ext e.toExt⟩⟩
theorem RX.ext {W0 : World} {x : XV} {v : V} (h : RX K W0 W x v) (e : ExtE W W') : RX K W0 W' x v := by
  cases x with
  | v p => exact RV_ext e.toExt p v h
  | o c =>
    obtain ⟨a, h1, h2, h3, h4, h5⟩ := h
    obtain ⟨o, ho⟩ := CtAt_some h2
    exact ⟨a, h1, CtAt_ext e.toExt h2 fun o' ho' => (e.slots a o' ho' (.inl h3)).1, (e.slots a o ho (.inl h3)).2.trans h3, by rw [e.old]; exact h4, h5⟩
  | b c =>
    obtain ⟨a, i, h1, h2, h3, h4⟩ := h
    obtain ⟨o, ho⟩ := CtAt_some h2
    exact ⟨a, i, h1, CtAt_ext e.toExt h2 fun o' ho' => (e.slots a o' ho' (.inr ⟨i, h3⟩)).1, (e.slots a o ho (.inr ⟨i, h3⟩)).2.trans h3, by rw [e.old]; exact h4⟩
theorem none_back {W0 : World} (e : Ext W0 W) {a : Addr} (h : W.H a = none) : W0.H a = none := by
  cases q : W0.H a with
  | none => rfl
  | some o => obtain ⟨o', e'⟩ := e.there a o q; rw [h] at e'; cases e'
theorem RX.back {W0 W1 : World} {x : XV} {v : V} (h : RX K W1 W x v) (e : Ext W0 W1) : RX K W0 W x v := by
  cases x with
  | v p => exact h
  | o c => obtain ⟨a, h1, h2, h3, h4, h5⟩ := h; exact ⟨a, h1, h2, h3, h4, none_back e h5⟩
  | b c => exact h
inductive RXs (K : Ctx) (W0 W : World) : List XV → List V → Prop
  | nil : RXs K W0 W [] []
  | cons {x xs v vs} : RX K W0 W x v → RXs K W0 W xs vs → RXs K W0 W (x :: xs) (v :: vs)
theorem RXs.ext {W0 : World} {xs : List XV} {vs : List V} (h : RXs K W0 W xs vs) (e : ExtE W W') : RXs K W0 W' xs vs := by
  induction h with
  | nil => exact .nil
  | cons a _ ih => exact .cons (a.ext e) ih
theorem RXs.back {W0 W1 : World} {xs : List XV} {vs : List V} (h : RXs K W1 W xs vs) (e : Ext W0 W1) : RXs K W0 W xs vs := by
  induction h with
  | nil => exact .nil
  | cons a _ ih => exact .cons (a.back e) ih

/-- a new thing -/
def World.lay (W : World) (p : Addr) (o : HO) (t : Tag) : World := { W with H := upd W.H p o, T := fun b => if b = p then t else W.T b }
theorem lay_ext {p : Addr} {o : HO} {t : Tag} (hp : W.H p = none) : ExtE W (W.lay p o t) := by
  have ne : ∀ a o', W.H a = some o' → a ≠ p := fun a o' h => ne_of_none h hp
  have key : ∀ a o', W.H a = some o' → (W.lay p o t).H a = some o' ∧ (W.lay p o t).T a = W.T a := fun a o' h => by
    refine ⟨?_, ?_⟩
    · show upd W.H p o a = some o'; rw [upd_ne (ne a o' h)]; exact h
    · show (if a = p then t else W.T a) = W.T a; rw [if_neg (ne a o' h)]
  exact ⟨⟨fun a o' h _ => key a o' h, fun _ _ h => h, rfl, fun a o' h => ⟨o', (key a o' h).1⟩⟩, fun a o' h _ => key a o' h⟩
theorem lay_at {p : Addr} {o : HO} {t : Tag} : (W.lay p o t).H p = some o := upd_same
theorem lay_T {p : Addr} {o : HO} {t : Tag} : (W.lay p o t).T p = t := by show (if p = p then t else _) = t; rw [if_pos rfl]
theorem RSt.addr_some {st : MS} (h : RSt K W st) {n : Nat} {a : Addr} (e : W.mu[n]? = some a) : ∃ o', W.H a = some o' := by
  have hn : n < st.length := by rw [← h.len]; exact (List.getElem?_eq_some_iff.mp e).1
  obtain ⟨a', e', c⟩ := h.ct n _ (List.getElem?_eq_getElem hn)
  rw [e] at e'; cases e'
  exact CtAt_some c
theorem RSt.nold {st : MS} (h : RSt K W st) {p : Addr} (hp : W.H p = none) : ¬ W.old p := fun z => by
  obtain ⟨o, e⟩ := h.oldH p z
  rw [hp] at e; cases e
theorem lay_st {p : Addr} {o : HO} {t : Tag} {st : MS} (hp : W.H p = none) (h : RSt K W st) : RSt K (W.lay p o t) st := by
  refine ⟨h.len, fun n a e => ?_, fun n c e => ?_, fun a ha => ?_⟩
  · obtain ⟨o', ho⟩ := h.addr_some e
    show (if a = p then t else W.T a) = _
    rw [if_neg (ne_of_none ho hp)]; exact h.tag n a e
  · obtain ⟨a, e1, c1⟩ := h.ct n c e
    refine ⟨a, e1, CtAt_ext (lay_ext hp).toExt c1 fun o' ho => ?_⟩
    show upd W.H p o a = some o'; rw [upd_ne (ne_of_none ho hp)]; exact ho
  · obtain ⟨o', ho⟩ := h.oldH a ha
    exact ⟨o', by show upd W.H p o a = some o'; rw [upd_ne (ne_of_none ho hp)]; exact ho⟩

/-! ### tags changed -/
/-- a thing's tag is changed -/
def World.tag (W : World) (a : Addr) (t : Tag) : World := { W with T := fun b => if b = a then t else W.T b }
theorem tag_T {a : Addr} {t : Tag} : (W.tag a t).T a = t := by show (if a = a then t else _) = t; rw [if_pos rfl]
theorem tag_Tne {a b : Addr} {t : Tag} (h : b ≠ a) : (W.tag a t).T b = W.T b := by show (if b = a then t else _) = _; rw [if_neg h]
theorem ct_nfz {a : Addr} {c : Cont} (hc : CtAt K W a c) (h : W.T a ≠ .frz) : ¬ Fz W a := by
  rintro (z | ⟨vs, z⟩)
  · exact h z
  · cases c with
    | lst xs => obtain ⟨vs, h1, _⟩ := hc; rw [z] at h1; cases h1
    | dK kvs => obtain ⟨vs, h1, _⟩ := hc; rw [z] at h1; cases h1
    | dT kvs => obtain ⟨vs, h1, _⟩ := hc; rw [z] at h1; cases h1
    | set xs => obtain ⟨S, h1, _⟩ := hc; rw [z] at h1; cases h1
    | ins C fs => obtain ⟨dx, vs, h1, _⟩ := hc; rw [z] at h1; cases h1
theorem oth_nfz {a : Addr} {c : Cont} (hc : CtAt K W a c) (h : W.T a = .oth) : ¬ Fz W a := ct_nfz hc (by rw [h]; intro z; cases z)
theorem tag_ext {a : Addr} {t : Tag} (e : Ext W W') (hf : ¬ Fz W' a) (ho : ¬ W'.old a) : Ext W (W'.tag a t) := ⟨fun b o h ht => by
  obtain ⟨h1, h2⟩ := e.keep b o h ht
  refine ⟨h1, ?_⟩
  have hb : b ≠ a := by
    rintro rfl
    rcases ht with z | ⟨_, z⟩
    · exact hf (z.of h h1 h2)
    · rw [e.old] at ho; exact ho z
  rw [tag_Tne hb]; exact h2, e.mu, e.old, e.there⟩
theorem tag_extE {W0 : World} {a : Addr} {t : Tag} (e : ExtE W0 W) (ha : W0.H a = none) : ExtE W0 (W.tag a t) := ⟨⟨fun b o h ht => by
  obtain ⟨h1, h2⟩ := e.keep b o h ht
  exact ⟨h1, (tag_Tne (ne_of_none h ha)).trans h2⟩, e.mu, e.old, e.there⟩, fun b o h ht => by
  obtain ⟨h1, h2⟩ := e.slots b o h ht
  exact ⟨h1, (tag_Tne (ne_of_none h ha)).trans h2⟩⟩
theorem Fz.tag {a b : Addr} {t : Tag} (ht : ¬ Fz W a) (h : Fz W b) : Fz (W.tag a t) b := by
  have ne : b ≠ a := fun e => ht (by rw [← e]; exact h)
  rcases h with h | h
  · exact .inl ((tag_Tne ne).trans h)
  · exact .inr h
mutual
theorem RV_tag {a : Addr} {t : Tag} (ht : ¬ Fz W a) : ∀ (p : PV) (v : V), RV K W p v → RV K (W.tag a t) p v
  | .non, v, h => by unfold RV at h ⊢; exact h
  | .bl b, v, h => by unfold RV at h ⊢; exact h
  | .int i, v, h => by unfold RV at h ⊢; exact h
  | .str s, v, h => by unfold RV at h ⊢; exact h
  | .ref a, v, h => by unfold RV at h ⊢; exact h
  | .ty n, v, h => by unfold RV at h ⊢; exact h
  | .obj n, v, h => by unfold RV at h ⊢; exact h
  | .tup xs, v, h => by
    unfold RV at h ⊢
    obtain ⟨b, vs, h1, h2, h3, h4⟩ := h
    exact ⟨b, vs, h1, Fz.tag ht h2, h3, RVs_tag ht xs vs h4⟩
  | .lst xs, v, h => by
    unfold RV at h ⊢
    obtain ⟨b, vs, h1, h2, h3, h4⟩ := h
    exact ⟨b, vs, h1, Fz.tag ht h2, h3, RVs_tag ht xs vs h4⟩
  | .fK ks xs, v, h => by
    unfold RV at h ⊢
    obtain ⟨b, vs, h1, h2, h3, h4⟩ := h
    exact ⟨b, vs, h1, Fz.tag ht h2, h3, RVs_tag ht xs vs h4⟩
  | .fT ks xs, v, h => by
    unfold RV at h ⊢
    obtain ⟨b, vs, h1, h2, h3, h4⟩ := h
    exact ⟨b, vs, h1, Fz.tag ht h2, h3, RVs_tag ht xs vs h4⟩
  | .rol xs, v, h => by
    unfold RV at h ⊢
    obtain ⟨b, vs, h1, h2, h4⟩ := h
    refine ⟨b, vs, h1, ?_, RVs_tag ht xs vs h4⟩
    rcases h2 with ⟨t2, h3⟩ | h3
    · exact .inl ⟨Fz.tag ht t2, h3⟩
    · exact .inr h3
  | .rot xs, v, h => by
    unfold RV at h ⊢
    obtain ⟨b, vs, h1, h2, h4⟩ := h
    refine ⟨b, vs, h1, ?_, RVs_tag ht xs vs h4⟩
    rcases h2 with ⟨t2, h3⟩ | h3
    · exact .inl ⟨Fz.tag ht t2, h3⟩
    · exact .inr h3
theorem RVs_tag {a : Addr} {t : Tag} (ht : ¬ Fz W a) : ∀ (xs : List PV) (vs : List V), RVs K W xs vs → RVs K (W.tag a t) xs vs
  | [], vs, h => by unfold RVs at h ⊢; exact h
  | x :: xs, vs, h => by
    unfold RVs at h ⊢
    obtain ⟨v, r, h1, h2, h3⟩ := h
    exact ⟨v, r, h1, RV_tag ht x v h2, RVs_tag ht xs r h3⟩
end
theorem CtAt_tag {a b : Addr} {t : Tag} {c : Cont} (ht : ¬ Fz W a) (h : CtAt K W b c) : CtAt K (W.tag a t) b c := by
  cases c with
  | lst xs => obtain ⟨vs, h1, h2⟩ := h; exact ⟨vs, h1, RVs_tag ht _ _ h2⟩
  | dK kvs => obtain ⟨vs, h1, h2⟩ := h; exact ⟨vs, h1, RVs_tag ht _ _ h2⟩
  | dT kvs => obtain ⟨vs, h1, h2⟩ := h; exact ⟨vs, h1, RVs_tag ht _ _ h2⟩
  | set xs => obtain ⟨S, h1, h2⟩ := h; exact ⟨S, h1, h2⟩
  | ins C fs =>
    obtain ⟨dx, vs, h1, h2, h3, h4⟩ := h
    exact ⟨dx, vs, h1, RVs_tag ht _ _ h2, Fz.tag ht h3, h4⟩
theorem RSt.retag {a : Addr} {t : Tag} {st : MS} (hf : ¬ Fz W a) (ha : W.T a = .oth) (h : RSt K W st) : RSt K (W.tag a t) st := by
  refine ⟨h.len, fun n b e => ?_, fun n c e => ?_, h.oldH⟩
  · exact (tag_Tne (fun z => by have := h.tag n b e; rw [z, ha] at this; cases this)).trans (h.tag n b e)
  · obtain ⟨b, e1, c1⟩ := h.ct n c e
    exact ⟨b, e1, CtAt_tag hf c1⟩
theorem Lkd.tag {a : Addr} {t : Tag} {v : V} (hf : ¬ Fz W a) (h : Lkd W v) : Lkd (W.tag a t) v := by
  obtain ⟨b, o, u, h1, h2, h3⟩ := h
  exact ⟨b, o, u, h1, Fz.tag hf h2, h3⟩
theorem REn.retag {a : Addr} {t : Tag} {env : DEnv} {σ : L2.St} (hf : ¬ Fz W a) (ha : W.T a = .oth) (h : REn K W env σ) : REn K (W.tag a t) env σ := by
  refine ⟨h.len, fun i s hs => ?_⟩
  have q := h.sl i s hs
  cases s with
  | un => trivial
  | v p => obtain ⟨v, h1, h2⟩ := q; exact ⟨v, h1, RV_tag hf p v h2⟩
  | own c =>
    obtain ⟨b, h1, h2, h4, h3⟩ := q
    exact ⟨b, h1, (tag_Tne (fun z => by rw [z, ha] at h2; cases h2)).trans h2, h4, CtAt_tag hf h3⟩
  | lk p => obtain ⟨v, h1, h2, h3⟩ := q; exact ⟨v, h1, RV_tag hf p v h2, h3.tag hf⟩
end

/-! ### denotations -/
abbrev DX := DEnv → MS → Option (XV × MS)
abbrev DT := DEnv → MS → Option (Bool × MS)
abbrev DA := DEnv → MS → Option (List XV × MS)
inductive Fl where
  | nx | bk | ct | rt (x : XV)
abbrev DS := DEnv → MS → Option (Fl × DEnv × MS)

structure SndX (K : Ctx) (t : TE) (d : DX) : Prop where
  run : ∀ W env σ st x st', REn K W env σ → RSt K W st → d env st = some (x, st') → ∀ Q : VK, (∀ W' v, ExtE W W' → RSt K W' st' → RX K W W' x v → Q v W'.H) → t σ W.H Q
structure SndT (K : Ctx) (t : TT) (d : DT) : Prop where
  run : ∀ W env σ st x st', REn K W env σ → RSt K W st → d env st = some (x, st') → ∀ Q : Bool → Hp → Prop, (∀ W', ExtE W W' → RSt K W' st' → Q x W'.H) → t σ W.H Q
structure SndA (K : Ctx) (t : TA) (d : DA) : Prop where
  run : ∀ W env σ st xs st', REn K W env σ → RSt K W st → d env st = some (xs, st') → ∀ Q : List V → Hp → Prop, (∀ W' vs, ExtE W W' → RSt K W' st' → RXs K W W' xs vs → Q vs W'.H) → t σ W.H Q
/-- what is wanted behind a statement -/
def EndOk (K : Ctx) (W : World) (fl : Fl) (env' : DEnv) (st' : MS) (D : Ends) : Prop :=
  ∀ W' σ', Ext W W' → RSt K W' st' → REn K W' env' σ' → match fl with
    | .nx => D.nx σ' W'.H
    | .bk => D.bk σ' W'.H
    | .ct => D.ct σ' W'.H
    | .rt x => ∀ v, RX K W W' x v → D.rt v W'.H
structure SndS (K : Ctx) (t : TS) (d : DS) : Prop where
  run : ∀ W env σ st fl env' st', REn K W env σ → RSt K W st → d env st = some (fl, env', st') → ∀ D : Ends, EndOk K W fl env' st' D → t D σ W.H
/-- a store to a target -/
abbrev DG := PV → DEnv → Option DEnv
structure SndG (K : Ctx) (t : TG) (d : DG) (ix : List Nat) : Prop where
  run : ∀ W env σ p v env', REn K W env σ → RV K W p v → d p env = some env' → ∀ Q : L2.St → Hp → Prop, (∀ σ', REn K W env' σ' → (∀ vs : List Nat, (∀ i ∈ ix, i ∈ vs) → wipe σ' vs = wipe σ vs) → Q σ' W.H) → t v σ W.H Q
/-- what is walked: m tells whether statements may run meanwhile -/
structure LayE (K : Ctx) (W W' : World) : Prop extends ExtE W W' where
  st : ∀ st, RSt K W st → RSt K W' st
structure WOk (K : Ctx) (E : World → World → Prop) (W0 : World) (J : It) (items : List PV) : Prop where
  go : ∀ W i, E W0 W → i < items.length → J.go i W.H
  stop : ∀ W, E W0 W → J.stop items.length W.H
  yld : ∀ (W : World) (i : Nat) x H', E W0 W → (∃ st, RSt K W st) → J.yld i W.H x H' → i < items.length → ∃ W' p, items[i]? = some p ∧ LayE K W W' ∧ W'.H = H' ∧ RV K W' p x
/-- .. but for what W0 had already, of no slot -/
structure ExtM (W0 W W' : World) : Prop extends Ext W W' where
  slots : ∀ a o, W.H a = some o → ((W.T a = .oth ∧ W0.H a = none) ∨ ∃ i, W.T a = .slot i) → W'.H a = some o ∧ W'.T a = W.T a
theorem ExtE.m {W0 W W' : World} (h : ExtE W W') : ExtM W0 W W' := ⟨h.toExt, fun a o ho ht => h.slots a o ho (ht.imp And.left id)⟩
abbrev DI := DEnv → MS → Option (List PV × MS)
structure SndI (K : Ctx) (m : Bool) (t : TI) (d : DI) : Prop where
  run : ∀ W env σ st xs st', REn K W env σ → RSt K W st → d env st = some (xs, st') → ∀ R : It → Hp → Prop, (∀ W' J, ExtE W W' → RSt K W' st' → WOk K (if m = true then Ext else ExtM W) W' J xs → R J W'.H) → t σ W.H R
end DD
/-! DRules1 -/
namespace DD
open PySem PySem.Spec PyProof.Rows L2

structure Good (Γ : Ctx) (X : Cx) : Prop where
  P : X.prog = Γ.P
  w : X.w = Γ.w
  K : X.K = Γ.K
  mg : X.mg = Γ.mg
  base : X.base = Γ.base
  calm : X.calm = true
  un : X.A.units + 200 < cLine
  xe : X.xe = fun _ _ => False
  nd : X.N.Nodup
structure EX (Γ : Ctx) (X : Cx) (e : Expr) (t : TE) (d : DX) : Prop where
  pe : Good Γ X → PE X e t
  snd : SndX Γ t d
structure ET (Γ : Ctx) (X : Cx) (e : Expr) (t : TT) (d : DT) : Prop where
  pe : Good Γ X → PT X e t
  snd : SndT Γ t d
structure EA (Γ : Ctx) (X : Cx) (es : List Expr) (t : TA) (d : DA) : Prop where
  pe : Good Γ X → PA X es t
  snd : SndA Γ t d
structure ES (Γ : Ctx) (X : Cx) (st : Stmt) (t : TS) (d : DS) : Prop where
  pe : Good Γ X → PS X st t
  snd : SndS Γ t d
structure ESs (Γ : Ctx) (X : Cx) (st : List Stmt) (t : TS) (d : DS) : Prop where
  pe : Good Γ X → PSs X st t
  snd : SndS Γ t d
structure EG (Γ : Ctx) (X : Cx) (e : Expr) (t : TG) (d : DG) (ix : List Nat) : Prop where
  pe : Good Γ X → PG X e t
  snd : SndG Γ t d ix
structure EI (Γ : Ctx) (X : Cx) (m : Bool) (tg e : Expr) (t : TI) (d : DI) : Prop where
  pe : Good Γ X → PI X tg e t
  snd : SndI Γ m t d

/-! ### views of values -/
/-- a list that stands at its own address in H -/
def XV.lstH (st : MS) : XV → Option (List PV)
  | .v (.lst xs) => some xs
  | .o (.lst xs) => some xs
  | .b (.lst xs) => some xs
  | .v (.obj n) => match st[n]? with
    | some (.lst xs) => some xs
    | _ => none
  | _ => none
/-- a list to be read -/
def XV.lst (st : MS) : XV → Option (List PV)
  | .v (.rol xs) => some xs
  | x => x.lstH st
def XV.tup : XV → Option (List PV)
  | .v (.tup xs) => some xs
  | .v (.rot xs) => some xs
  | _ => none
def XV.int : XV → Option Int
  | .v (.int i) => some i
  | _ => none
def XV.bl : XV → Option Bool
  | .v (.bl i) => some i
  | _ => none
/-- a content frozen -/
def Cont.fr : Cont → Option PV
  | .lst xs => some (.lst xs)
  | .dK kvs => some (.fK (kvs.map (·.1)) (kvs.map (·.2)))
  | .dT kvs => some (.fT (kvs.map (·.1)) (kvs.map (·.2)))
  | _ => none
/-- a value to be kept: a new list or dict is frozen -/
def XV.pv : XV → Option PV
  | .v p => some p
  | .o c => c.fr
  | _ => none

section
variable {K : Ctx} {W0 W W' : World} {st : MS} {x : XV} {u : V} {xs : List PV}
theorem obj_ct {n : Nat} {c : Cont} (h : RSt K W st) (e : st[n]? = some c) (r : RV K W (.obj n) u) : ∃ a, u = .ref a ∧ W.mu[n]? = some a ∧ CtAt K W a c := by
  unfold RV at r
  obtain ⟨a, h1, h2⟩ := r
  obtain ⟨a', h3, h4⟩ := h.ct n c e
  rw [h1] at h3; cases h3
  exact ⟨a, h2, h1, h4⟩
theorem lstH_at (h : RSt K W st) (r : RX K W0 W x u) (e : x.lstH st = some xs) : ∃ a vs, u = .ref a ∧ W.H a = some (.lst vs) ∧ RVs K W xs vs := by
  cases x with
  | v p =>
    cases p with
    | lst ys =>
      cases e
      have r : RV K W (.lst xs) u := r
      unfold RV at r
      obtain ⟨a, vs, h1, h2, h3, h4⟩ := r
      exact ⟨a, vs, h1, h3, h4⟩
    | obj n =>
      have e : (match st[n]? with | some (.lst xs) => some xs | _ => none) = some xs := e
      split at e
      · rename_i ys h5
        cases e
        obtain ⟨a, h1, _, vs, h3, h4⟩ := obj_ct h h5 r
        exact ⟨a, vs, h1, h3, h4⟩
      · cases e
    | _ => cases e
  | o c =>
    cases c with
    | lst ys => cases e; obtain ⟨a, h1, ⟨vs, h2, h3⟩, _⟩ := r; exact ⟨a, vs, h1, h2, h3⟩
    | _ => cases e
  | b c =>
    cases c with
    | lst ys => cases e; obtain ⟨a, i, h1, ⟨vs, h2, h3⟩, _⟩ := r; exact ⟨a, vs, h1, h2, h3⟩
    | _ => cases e
theorem lst_at (h : RSt K W st) (r : RX K W0 W x u) (e : x.lst st = some xs) : ∃ a vs, u = .ref a ∧ SqL K.K W.H a vs ∧ RVs K W xs vs := by
  have key : x.lstH st = some xs → ∃ a vs, u = .ref a ∧ SqL K.K W.H a vs ∧ RVs K W xs vs := fun e => by
    obtain ⟨a, vs, h1, h2, h3⟩ := lstH_at h r e
    exact ⟨a, vs, h1, SqL.of h2, h3⟩
  cases x with
  | v p =>
    cases p with
    | rol ys =>
      cases e
      have r : RV K W (.rol xs) u := r
      unfold RV at r
      obtain ⟨a, vs, h1, h2, h3⟩ := r
      refine ⟨a, vs, h1, ?_, h3⟩
      rcases h2 with ⟨_, o, h2⟩ | h2
      · exact .inl (.inr ⟨o, h2⟩)
      · exact .inr h2
    | _ => exact key e
  | o c => exact key e
  | b c => exact key e
theorem tup_at (r : RX K W0 W x u) (e : x.tup = some xs) : ∃ a vs, u = .ref a ∧ SqT K.K W.H a vs ∧ RVs K W xs vs := by
  cases x with
  | v p =>
    cases p with
    | tup ys =>
      cases e
      have r : RV K W (.tup xs) u := r
      unfold RV at r
      obtain ⟨a, vs, h1, h2, h3, h4⟩ := r
      exact ⟨a, vs, h1, SqT.of h3, h4⟩
    | rot ys =>
      cases e
      have r : RV K W (.rot xs) u := r
      unfold RV at r
      obtain ⟨a, vs, h1, h2, h3⟩ := r
      refine ⟨a, vs, h1, ?_, h3⟩
      rcases h2 with ⟨_, o, h2⟩ | h2
      · exact .inl (.inr ⟨o, h2⟩)
      · exact .inr h2
    | _ => cases e
  | o c => cases e
  | b c => cases e
theorem int_at {i : Int} (r : RX K W0 W x u) (e : x.int = some i) : u = .int i := by
  cases x with
  | v p => cases p <;> first | (cases e; have r : RV K W (.int i) u := r; unfold RV at r; exact r) | cases e
  | o c => cases e
  | b c => cases e
theorem bl_at {i : Bool} (r : RX K W0 W x u) (e : x.bl = some i) : u = .bl i := by
  cases x with
  | v p => cases p <;> first | (cases e; have r : RV K W (.bl i) u := r; unfold RV at r; exact r) | cases e
  | o c => cases e
  | b c => cases e
theorem rx_int {i : Int} : RX K W0 W (.v (.int i)) (.int i) := by show RV K W (.int i) _; unfold RV; rfl
theorem rx_bl {i : Bool} : RX K W0 W (.v (.bl i)) (.bl i) := by show RV K W (.bl i) _; unfold RV; rfl
theorem rx_str {i : Str} : RX K W0 W (.v (.str i)) (.str i) := by show RV K W (.str i) _; unfold RV; rfl
theorem rx_non : RX K W0 W (.v .non) .non := by show RV K W .non _; unfold RV; rfl
/-- a new list, a new tuple -/
theorem new_lst {vs : List V} {p : Addr} (h : RSt K W st) (r : RVs K W xs vs) (hp : W.H p = none) :
    ∃ W', ExtE W W' ∧ RSt K W' st ∧ RX K W W' (.o (.lst xs)) (.ref p) ∧ W'.H = upd W.H p (.lst vs) :=
  ⟨W.lay p (.lst vs) .oth, lay_ext hp, lay_st hp h, ⟨p, rfl, ⟨vs, lay_at, RVs_ext (lay_ext hp).toExt _ _ r⟩, lay_T, h.nold hp, hp⟩, rfl⟩
theorem new_tup {vs : List V} {p : Addr} (h : RSt K W st) (r : RVs K W xs vs) (hp : W.H p = none) :
    ∃ W', ExtE W W' ∧ RSt K W' st ∧ RX K W W' (.v (.tup xs)) (.ref p) ∧ W'.H = upd W.H p (.tup vs) :=
  ⟨W.lay p (.tup vs) .frz, lay_ext hp, lay_st hp h, by show RV K _ (.tup xs) _; unfold RV; exact ⟨p, vs, rfl, .inl lay_T, lay_at, RVs_ext (lay_ext hp).toExt _ _ r⟩, rfl⟩
/-- frozen -/
theorem fr_rv {a : Addr} {c : Cont} {p : PV} (h : CtAt K W a c) (e : c.fr = some p) (t : Fz W a) : RV K W p (.ref a) := by
  cases c with
  | lst xs => cases e; obtain ⟨vs, h1, h2⟩ := h; unfold RV; exact ⟨a, vs, rfl, t, h1, h2⟩
  | dK kvs => cases e; obtain ⟨vs, h1, h2⟩ := h; unfold RV; exact ⟨a, vs, rfl, t, .inl h1, h2⟩
  | dT kvs => cases e; obtain ⟨vs, h1, h2⟩ := h; unfold RV; exact ⟨a, vs, rfl, t, .inl h1, h2⟩
  | set xs => cases e
  | ins C fs => cases e
theorem freeze {a : Addr} {c : Cont} {p : PV} (h : RSt K W st) (hc : CtAt K W a c) (t : W.T a = .oth) (o : ¬ W.old a) (e : c.fr = some p) :
    Ext W (W.tag a .frz) ∧ RSt K (W.tag a .frz) st ∧ RV K (W.tag a .frz) p (.ref a) :=
  ⟨tag_ext Ext.refl (oth_nfz hc t) o, h.retag (oth_nfz hc t) t, fr_rv (CtAt_tag (oth_nfz hc t) hc) e (.inl tag_T)⟩
end

/-! ### operations -/
abbrev F1 := XV → MS → Option XV
abbrev F2 := XV → XV → MS → Option XV
abbrev FN := List XV → MS → Option XV
structure SOp1 (K : Ctx) (r : V → Hp → VK → Prop) (f : F1) : Prop where
  run : ∀ W0 W st x u z, RSt K W st → RX K W0 W x u → f x st = some z → ∀ Q : VK, (∀ W' w, ExtE W W' → RSt K W' st → RX K W W' z w → Q w W'.H) → r u W.H Q
structure SOp2 (K : Ctx) (r : R2) (f : F2) : Prop where
  run : ∀ W0 W st x y u v z, RSt K W st → RX K W0 W x u → RX K W0 W y v → f x y st = some z → ∀ Q : VK, (∀ W' w, ExtE W W' → RSt K W' st → RX K W W' z w → Q w W'.H) → r u v W.H Q
structure SOpN (K : Ctx) (r : List V → Hp → VK → Prop) (f : FN) : Prop where
  run : ∀ W0 W st xs us z, RSt K W st → ExtE W0 W → RXs K W0 W xs us → f xs st = some z → ∀ Q : VK, (∀ W' w, ExtE W0 W' → RSt K W' st → RX K W0 W' z w → Q w W'.H) → r us W.H Q
def f2or (f g : F2) : F2 := fun x y st => match f x y st with
  | some z => some z
  | none => g x y st
def fnor (f g : FN) : FN := fun x st => match f x st with
  | some z => some z
  | none => g x st
theorem SOp2.or {K : Ctx} {r r' : R2} {f g : F2} (h : SOp2 K r f) (h' : SOp2 K r' g) : SOp2 K (fun x y H Q => r x y H Q ∨ r' x y H Q) (f2or f g) := ⟨fun W0 W st x y u v z hS rx ry e Q hQ => by
  unfold f2or at e
  split at e
  · rename_i z' e'; cases e; exact .inl (h.run W0 W st x y u v z hS rx ry e' Q hQ)
  · exact .inr (h'.run W0 W st x y u v z hS rx ry e Q hQ)⟩
theorem SOpN.or {K : Ctx} {r r' : List V → Hp → VK → Prop} {f g : FN} (h : SOpN K r f) (h' : SOpN K r' g) : SOpN K (fun x H Q => r x H Q ∨ r' x H Q) (fnor f g) := ⟨fun W0 W st x u z hS hE rx e Q hQ => by
  unfold fnor at e
  split at e
  · rename_i z' e'; cases e; exact .inl (h.run W0 W st x u z hS hE rx e' Q hQ)
  · exact .inr (h'.run W0 W st x u z hS hE rx e Q hQ)⟩

/-! ### expressions -/
def xVar (i : Nat) : DX := fun env st => match env[i]? with
  | some (.v p) => some (.v p, st)
  | some (.own c) => some (.b c, st)
  | some (.lk p) => some (.v p, st)
  | _ => none
def xC (p : PV) : DX := fun _ st => some (.v p, st)
def xUn (f : F1) (a : DX) : DX := fun env st => (a env st).bind fun r => (f r.1 r.2).map fun z => (z, r.2)
def xBin (f : F2) (a b : DX) : DX := fun env st => (a env st).bind fun r => (b env r.2).bind fun q => (f r.1 q.1 q.2).map fun z => (z, q.2)
def xApp (f : FN) (a : DA) : DX := fun env st => (a env st).bind fun r => (f r.1 r.2).map fun z => (z, r.2)
def aNil : DA := fun _ st => some ([], st)
def aCons (a : DX) (b : DA) : DA := fun env st => (a env st).bind fun r => (b env r.2).map fun q => (r.1 :: q.1, q.2)
def tB' (a : DX) : DT := fun env st => (a env st).bind fun r => (r.1.bl).map fun b => (b, r.2)
def xOfT (a : DT) : DX := fun env st => (a env st).map fun r => (.v (.bl r.1), r.2)
def tAnd' (a b : DT) : DT := fun env st => (a env st).bind fun r => if r.1 = true then b env r.2 else some (false, r.2)
def tOr' (a b : DT) : DT := fun env st => (a env st).bind fun r => if r.1 = true then some (true, r.2) else b env r.2
def tNot' (a : DT) : DT := fun env st => (a env st).map fun r => (!r.1, r.2)
def xIf (c : DT) (a b : DX) : DX := fun env st => (c env st).bind fun r => if r.1 = true then a env r.2 else b env r.2
def xAnd (a b : DX) : DX := fun env st => (a env st).bind fun r => (r.1.bl).bind fun c => if c = true then b env r.2 else some (.v (.bl false), r.2)
def xOr (a b : DX) : DX := fun env st => (a env st).bind fun r => (r.1.bl).bind fun c => if c = true then some (.v (.bl true), r.2) else b env r.2
def xNot (a : DX) : DX := fun env st => (a env st).bind fun r => (r.1.bl).map fun c => (.v (.bl (!c)), r.2)

section
variable {Γ : Ctx} {X : Cx} {a b c : Expr} {ta tb : TE} {da db dc : DX} {pos : Pos} {tA tB2 tC' : TT} {dA dB : DT}

theorem SndX.bin {r : R2} {f : F2} (ho : SOp2 Γ r f) (ha : SndX Γ ta da) (hb : SndX Γ tb db) : SndX Γ (tOp r ta tb) (xBin f da db) := ⟨fun W env σ st x st' hE hS hd Q hQ => by
  unfold xBin at hd
  obtain ⟨⟨x1, st1⟩, e1, hd⟩ := Option.bind_eq_some_iff.mp hd
  obtain ⟨⟨y1, st2⟩, e2, hd⟩ := Option.bind_eq_some_iff.mp hd
  obtain ⟨z, e3, hd⟩ := Option.map_eq_some_iff.mp hd
  cases hd
  refine ha.run W env σ st x1 st1 hE hS e1 _ fun W1 u E1 S1 R1 => ?_
  refine hb.run W1 env σ st1 y1 st2 (hE.ext E1) S1 e2 _ fun W2 v E2 S2 R2 => ?_
  exact ho.run W W2 st2 x1 y1 u v x S2 (R1.ext E2) (R2.back E1.toExt) e3 Q fun W3 w E3 S3 R3 => hQ W3 w ((E1.trans E2).trans E3) S3 (R3.back (E1.trans E2).toExt)⟩
theorem SndX.un {r : V → Hp → VK → Prop} {f : F1} (ho : SOp1 Γ r f) (ha : SndX Γ ta da) : SndX Γ (tUn r ta) (xUn f da) := ⟨fun W env σ st x st' hE hS hd Q hQ => by
  unfold xUn at hd
  obtain ⟨⟨x1, st1⟩, e1, hd⟩ := Option.bind_eq_some_iff.mp hd
  obtain ⟨z, e3, hd⟩ := Option.map_eq_some_iff.mp hd
  cases hd
  refine ha.run W env σ st x1 st1 hE hS e1 _ fun W1 u E1 S1 R1 => ?_
  exact ho.run W W1 st1 x1 u x S1 R1 e3 Q fun W3 w E3 S3 R3 => hQ W3 w (E1.trans E3) S3 (R3.back E1.toExt)⟩
theorem SndA.nil : SndA Γ tNil aNil := ⟨fun W env σ st xs st' hE hS hd Q hQ => by cases hd; exact hQ W [] ExtE.refl hS .nil⟩
theorem SndA.cons {t : TA} {d : DA} (ha : SndX Γ ta da) (hr : SndA Γ t d) : SndA Γ (tCons ta t) (aCons da d) := ⟨fun W env σ st xs st' hE hS hd Q hQ => by
  unfold aCons at hd
  obtain ⟨⟨x1, st1⟩, e1, hd⟩ := Option.bind_eq_some_iff.mp hd
  obtain ⟨⟨ys, st2⟩, e3, hd⟩ := Option.map_eq_some_iff.mp hd
  cases hd
  refine ha.run W env σ st x1 st1 hE hS e1 _ fun W1 u E1 S1 R1 => ?_
  exact hr.run W1 env σ st1 ys _ (hE.ext E1) S1 e3 _ fun W3 vs E3 S3 R3 => hQ W3 _ (E1.trans E3) S3 (.cons (R1.ext E3) (R3.back E1.toExt))⟩
theorem SndX.app {r : List V → Hp → VK → Prop} {f : FN} {t : TA} {d : DA} (ho : SOpN Γ r f) (ha : SndA Γ t d) : SndX Γ (tCB r t) (xApp f d) := ⟨fun W env σ st x st' hE hS hd Q hQ => by
  unfold xApp at hd
  obtain ⟨⟨x1, st1⟩, e1, hd⟩ := Option.bind_eq_some_iff.mp hd
  obtain ⟨z, e3, hd⟩ := Option.map_eq_some_iff.mp hd
  cases hd
  refine ha.run W env σ st x1 st1 hE hS e1 _ fun W1 u E1 S1 R1 => ?_
  exact ho.run W W1 st1 x1 u x S1 E1 R1 e3 Q fun W3 w E3 S3 R3 => hQ W3 w E3 S3 R3⟩
theorem SndT.of (ha : SndX Γ ta da) : SndT Γ (tTest ta) (tB' da) := ⟨fun W env σ st x st' hE hS hd Q hQ => by
  unfold tB' at hd
  obtain ⟨⟨x1, st1⟩, e1, hd⟩ := Option.bind_eq_some_iff.mp hd
  obtain ⟨z, e3, hd⟩ := Option.map_eq_some_iff.mp hd
  cases hd
  exact ha.run W env σ st x1 _ hE hS e1 _ fun W1 u E1 S1 R1 => ⟨x, bl_at R1 e3, hQ W1 E1 S1⟩⟩

/-! names and constants -/
theorem e_var (i : Nat) {x : Str} {pos : Pos} (hN : X.N[i]? = some x := by rfl) (hv : Vis X.env.scope x := by first | exact Or.inl rfl | exact Or.inr (Or.inl rfl) | exact Or.inr (Or.inr rfl)) (hd : (x == ("__debug__" : Str)) = false := by decide)
    (hcd : (x == ("__classdict__" : Str)) = false := by decide) : EX Γ X (.Name x pos) (tVar i) (xVar i) := ⟨fun _ => pe_var hN hv hd hcd, ⟨fun W env σ st x st' hE hS hd Q hQ => by
  unfold xVar at hd
  split at hd
  · rename_i p hp
    cases hd
    obtain ⟨v, h1, h2⟩ := hE.sl i _ hp
    exact ⟨v, h1, hQ W v ExtE.refl hS h2⟩
  · rename_i c hc
    cases hd
    obtain ⟨a, h1, h2, h3, h4⟩ := hE.sl i _ hc
    exact ⟨_, h1, hQ W _ ExtE.refl hS ⟨a, i, rfl, h4, h2, h3⟩⟩
  · rename_i p hp
    cases hd
    obtain ⟨v, h1, h2, _⟩ := hE.sl i _ hp
    exact ⟨v, h1, hQ W v ExtE.refl hS h2⟩
  · cases hd⟩⟩
theorem snd_c {p : PV} {v : V} (h : ∀ W, RV Γ W p v) : SndX Γ (tC v) (xC p) := ⟨fun W env σ st x st' hE hS hd Q hQ => by cases hd; exact hQ W v ExtE.refl hS (h W)⟩
theorem rv_int {W : World} {i : Int} : RV Γ W (.int i) (.int i) := by unfold RV; rfl
theorem rv_bl {W : World} {i : Bool} : RV Γ W (.bl i) (.bl i) := by unfold RV; rfl
theorem rv_str {W : World} {i : Str} : RV Γ W (.str i) (.str i) := by unfold RV; rfl
theorem rv_non {W : World} : RV Γ W .non .non := by unfold RV; rfl
theorem rv_ref {W : World} {a : Addr} : RV Γ W (.ref a) (.ref a) := by unfold RV; rfl
theorem rv_ty {W : World} {n : String} : RV Γ W (.ty n) (.ty n) := by unfold RV; rfl
theorem e_int {i j pos} : EX Γ X (.Constant (.int i) j pos) (tC (.int i)) (xC (.int i)) := ⟨fun _ => pe_int, snd_c fun _ => rv_int⟩
theorem e_bl {i j pos} : EX Γ X (.Constant (.bool i) j pos) (tC (.bl i)) (xC (.bl i)) := ⟨fun _ => pe_bl, snd_c fun _ => rv_bl⟩
theorem e_str {i j pos} : EX Γ X (.Constant (.str i) j pos) (tC (.str i)) (xC (.str i)) := ⟨fun _ => pe_str, snd_c fun _ => rv_str⟩
theorem e_non {j pos} : EX Γ X (.Constant .none j pos) (tC .non) (xC .non) := ⟨fun _ => pe_non, snd_c fun _ => rv_non⟩
theorem e_glob {x : Str} {v : V} {u : Value} {p : PV} {pos : Pos} (hg : Gl X x) (hm : Γ.mg x = some u) (r : RelV v u) (h : ∀ W, RV Γ W p v) (hd : (x == ("__debug__" : Str)) = false := by decide) : EX Γ X (.Name x pos) (tC v) (xC p) :=
  ⟨fun g => pe_glob hg (by rw [g.mg]; exact hm) r hd, snd_c h⟩
theorem e_ty {x : Str} {n : String} {pos : Pos} (hg : Gl X x) (hm : Γ.mg x = none) (hv : bootBuiltins x = some (.type n)) (hn : x ≠ "__name__" := by decide) (hd : (x == ("__debug__" : Str)) = false := by decide) : EX Γ X (.Name x pos) (tC (.ty n)) (xC (.ty n)) :=
  ⟨fun g => pe_bltn hg (by rw [g.mg]; exact hm) hv rfl hn hd, snd_c fun _ => rv_ty⟩

/-! operators -/
theorem e_bin {op : Operator} {r : R2} {f : F2} (ho : ∀ X, Good Γ X → OpR X (binaryOp op) r) (hs : SOp2 Γ r f) (ha : EX Γ X a ta da) (hb : EX Γ X b tb db) : EX Γ X (.BinOp a op b pos) (tOp r ta tb) (xBin f da db) :=
  ⟨fun g => pe_op (ho X g) (ha.pe g) (hb.pe g), .bin hs ha.snd hb.snd⟩
theorem e_un {op : UnaryOp} {r : V → Hp → VK → Prop} {f : F1} (ho : ∀ X, Good Γ X → UnR X (unaryOp op) r) (hs : SOp1 Γ r f) (ha : EX Γ X a ta da) : EX Γ X (.UnaryOp op a pos) (tUn r ta) (xUn f da) :=
  ⟨fun g => pe_un (ho X g) (ha.pe g), .un hs ha.snd⟩
theorem e_cmp {op : CmpOp} {r : R2} {f : F2} (ho : ∀ X, Good Γ X → OpR X (compareOp op) r) (hs : SOp2 Γ r f) (ha : EX Γ X a ta da) (hb : EX Γ X b tb db) (hm : behindInMarks op b = false) : EX Γ X (.Compare a [op] [b] pos) (tOp r ta tb) (xBin f da db) :=
  ⟨fun g => pe_cmpR (ho X g) (ha.pe g) (hb.pe g) hm, .bin hs ha.snd hb.snd⟩
theorem et_cmp {op : CmpOp} {r : R2} {f : F2} (ho : ∀ X, Good Γ X → OpR X (compareOp op) r) (hs : SOp2 Γ r f) (ha : EX Γ X a ta da) (hb : EX Γ X b tb db) (hm : behindInMarks op b = false) : ET Γ X (.Compare a [op] [b] pos) (tTest (tOp r ta tb)) (tB' (xBin f da db)) :=
  ⟨fun g => pt_cmpR (ho X g) (ha.pe g) (hb.pe g) hm, .of (.bin hs ha.snd hb.snd)⟩
theorem e_ix {r : R2} {f : F2} (ho : ∀ X, Good Γ X → IxR X r) (hs : SOp2 Γ r f) (ha : EX Γ X a ta da) (hb : EX Γ X b tb db) (hp : PlainIx b) : EX Γ X (.Subscript a b pos) (tOp r ta tb) (xBin f da db) :=
  ⟨fun g => pe_ix (ho X g) (ha.pe g) (hb.pe g) hp, .bin hs ha.snd hb.snd⟩
/-- a value as a test -/
theorem et_val (ha : EX Γ X a ta da) (he : ∀ whole, isTrue a X.env whole = (do let v ← whole; standAt a.pos; holding [v] (truthy v)) := by intro _; rfl) : ET Γ X a (tTest ta) (tB' da) :=
  ⟨fun g => pt_val (ha.pe g) he, .of ha.snd⟩
structure EW (Γ : Ctx) (X : Cx) (e : Expr) (t : TT) (d : DT) : Prop where
  pe : Good Γ X → PW X e t
  snd : SndT Γ t d
theorem EW.et (h : EW Γ X a tA dA) : ET Γ X a tA dA := ⟨fun g => (h.pe g).pt, h.snd⟩
theorem ew_and1 (ha : ET Γ X a tA dA) : EW Γ X (.BoolOp .And [a] pos) tA dA := ⟨fun g => pw_and1 (ha.pe g), ha.snd⟩
theorem ew_or1 (ha : ET Γ X a tA dA) : EW Γ X (.BoolOp .Or [a] pos) tA dA := ⟨fun g => pw_or1 (ha.pe g), ha.snd⟩
theorem SndT.and (ha : SndT Γ tA dA) (hb : SndT Γ tB2 dB) : SndT Γ (tAnd tA tB2) (tAnd' dA dB) := ⟨fun W env σ st x st' hE hS hd Q hQ => by
  unfold tAnd' at hd
  obtain ⟨⟨x1, st1⟩, e1, hd⟩ := Option.bind_eq_some_iff.mp hd
  refine ha.run W env σ st x1 st1 hE hS e1 _ fun W1 E1 S1 => ?_
  cases x1 with
  | true => exact iteT (hb.run W1 env σ st1 x st' (hE.ext E1) S1 hd Q fun W2 E2 S2 => hQ W2 (E1.trans E2) S2)
  | false => cases hd; exact iteF (hQ W1 E1 S1)⟩
theorem SndT.or (ha : SndT Γ tA dA) (hb : SndT Γ tB2 dB) : SndT Γ (tOr tA tB2) (tOr' dA dB) := ⟨fun W env σ st x st' hE hS hd Q hQ => by
  unfold tOr' at hd
  obtain ⟨⟨x1, st1⟩, e1, hd⟩ := Option.bind_eq_some_iff.mp hd
  refine ha.run W env σ st x1 st1 hE hS e1 _ fun W1 E1 S1 => ?_
  cases x1 with
  | false => exact iteF (hb.run W1 env σ st1 x st' (hE.ext E1) S1 hd Q fun W2 E2 S2 => hQ W2 (E1.trans E2) S2)
  | true => cases hd; exact iteT (hQ W1 E1 S1)⟩
theorem SndT.not (ha : SndT Γ tA dA) : SndT Γ (tNot tA) (tNot' dA) := ⟨fun W env σ st x st' hE hS hd Q hQ => by
  unfold tNot' at hd
  obtain ⟨⟨x1, st1⟩, e1, hd⟩ := Option.map_eq_some_iff.mp hd
  cases hd
  exact ha.run W env σ st x1 _ hE hS e1 _ fun W1 E1 S1 => hQ W1 E1 S1⟩
theorem ew_and {rest : List Expr} (ha : ET Γ X a tA dA) (hb : EW Γ X (.BoolOp .And (b :: rest) pos) tB2 dB) : EW Γ X (.BoolOp .And (a :: b :: rest) pos) (tAnd tA tB2) (tAnd' dA dB) := ⟨fun g => pw_and (ha.pe g) (hb.pe g), .and ha.snd hb.snd⟩
theorem ew_or {rest : List Expr} (ha : ET Γ X a tA dA) (hb : EW Γ X (.BoolOp .Or (b :: rest) pos) tB2 dB) : EW Γ X (.BoolOp .Or (a :: b :: rest) pos) (tOr tA tB2) (tOr' dA dB) := ⟨fun g => pw_or (ha.pe g) (hb.pe g), .or ha.snd hb.snd⟩
theorem et_not (ha : ET Γ X a tA dA) : ET Γ X (.UnaryOp .Not a pos) (tNot tA) (tNot' dA) := ⟨fun g => pt_not (ha.pe g), .not ha.snd⟩
theorem e_one {op} (h : EX Γ X a ta da) : EX Γ X (.BoolOp op [a] pos) ta da := ⟨fun g => pe_one (h.pe g), h.snd⟩
theorem e_and {rest : List Expr} (ha : EX Γ X a ta da) (hb : EX Γ X (.BoolOp .And (b :: rest) pos) tb db) : EX Γ X (.BoolOp .And (a :: b :: rest) pos) (tAndV ta tb) (xAnd da db) :=
  ⟨fun g => pe_and (ha.pe g) (hb.pe g), ⟨fun W env σ st x st' hE hS hd Q hQ => by
  unfold xAnd at hd
  obtain ⟨⟨x1, st1⟩, e1, hd⟩ := Option.bind_eq_some_iff.mp hd
  obtain ⟨c, e2, hd⟩ := Option.bind_eq_some_iff.mp hd
  refine ha.snd.run W env σ st x1 st1 hE hS e1 _ fun W1 u E1 S1 R1 => ⟨c, bl_at R1 e2, ?_⟩
  cases c with
  | true => exact iteT (hb.snd.run W1 env σ st1 x st' (hE.ext E1) S1 hd Q fun W2 v E2 S2 R2 => hQ W2 v (E1.trans E2) S2 (R2.back E1.toExt))
  | false => cases hd; exact iteF (hQ W1 _ E1 S1 rx_bl)⟩⟩
theorem e_or {rest : List Expr} (ha : EX Γ X a ta da) (hb : EX Γ X (.BoolOp .Or (b :: rest) pos) tb db) : EX Γ X (.BoolOp .Or (a :: b :: rest) pos) (tOrV ta tb) (xOr da db) :=
  ⟨fun g => pe_or (ha.pe g) (hb.pe g), ⟨fun W env σ st x st' hE hS hd Q hQ => by
  unfold xOr at hd
  obtain ⟨⟨x1, st1⟩, e1, hd⟩ := Option.bind_eq_some_iff.mp hd
  obtain ⟨c, e2, hd⟩ := Option.bind_eq_some_iff.mp hd
  refine ha.snd.run W env σ st x1 st1 hE hS e1 _ fun W1 u E1 S1 R1 => ⟨c, bl_at R1 e2, ?_⟩
  cases c with
  | false => exact iteF (hb.snd.run W1 env σ st1 x st' (hE.ext E1) S1 hd Q fun W2 v E2 S2 R2 => hQ W2 v (E1.trans E2) S2 (R2.back E1.toExt))
  | true => cases hd; exact iteT (hQ W1 _ E1 S1 rx_bl)⟩⟩
theorem e_not (ha : EX Γ X a ta da) : EX Γ X (.UnaryOp .Not a pos) (tNotV ta) (xNot da) :=
  ⟨fun g => pe_not (ha.pe g), ⟨fun W env σ st x st' hE hS hd Q hQ => by
  unfold xNot at hd
  obtain ⟨⟨x1, st1⟩, e1, hd⟩ := Option.bind_eq_some_iff.mp hd
  obtain ⟨c, e2, hd⟩ := Option.map_eq_some_iff.mp hd
  cases hd
  exact ha.snd.run W env σ st x1 _ hE hS e1 _ fun W1 u E1 S1 R1 => ⟨c, bl_at R1 e2, hQ W1 _ E1 S1 rx_bl⟩⟩⟩
theorem e_if {c : Expr} (hc : ET Γ X c tA dA) (ha : EX Γ X a ta da) (hb : EX Γ X b tb db) : EX Γ X (.IfExp c a b pos) (tIf tA ta tb) (xIf dA da db) :=
  ⟨fun g => pe_ifExp (hc.pe g) (ha.pe g) (hb.pe g), ⟨fun W env σ st x st' hE hS hd Q hQ => by
  unfold xIf at hd
  obtain ⟨⟨x1, st1⟩, e1, hd⟩ := Option.bind_eq_some_iff.mp hd
  refine hc.snd.run W env σ st x1 st1 hE hS e1 _ fun W1 E1 S1 => ?_
  cases x1 with
  | true => exact iteT (ha.snd.run W1 env σ st1 x st' (hE.ext E1) S1 hd Q fun W2 v E2 S2 R2 => hQ W2 v (E1.trans E2) S2 (R2.back E1.toExt))
  | false => exact iteF (hb.snd.run W1 env σ st1 x st' (hE.ext E1) S1 hd Q fun W2 v E2 S2 R2 => hQ W2 v (E1.trans E2) S2 (R2.back E1.toExt))⟩⟩
/-- a op1 b op2 c -/
def xChain (f g : F2) (a b c : DX) : DX := fun env st => (a env st).bind fun r => (b env r.2).bind fun q => (f r.1 q.1 q.2).bind fun z => z.bl.bind fun k =>
  if k = true then (c env q.2).bind fun s => (g q.1 s.1 s.2).map fun z => (z, s.2) else some (.v (.bl false), q.2)
theorem SndX.chain {tc : TE} {r r' : R2} {f g : F2} (ho : SOp2 Γ r f) (ho' : SOp2 Γ r' g) (ha : SndX Γ ta da) (hb : SndX Γ tb db) (hc : SndX Γ tc dc) : SndX Γ (tChain r r' ta tb tc) (xChain f g da db dc) := ⟨fun W env σ st x st' hE hS hd Q hQ => by
  unfold xChain at hd
  obtain ⟨⟨x1, st1⟩, e1, hd⟩ := Option.bind_eq_some_iff.mp hd
  obtain ⟨⟨x2, st2⟩, e2, hd⟩ := Option.bind_eq_some_iff.mp hd
  obtain ⟨z, e3, hd⟩ := Option.bind_eq_some_iff.mp hd
  obtain ⟨k, e4, hd⟩ := Option.bind_eq_some_iff.mp hd
  refine ha.run W env σ st x1 st1 hE hS e1 _ fun W1 u E1 S1 R1 => ?_
  refine hb.run W1 env σ st1 x2 st2 (hE.ext E1) S1 e2 _ fun W2 v E2 S2 R2 => ?_
  refine ho.run W W2 st2 x1 x2 u v z S2 (R1.ext E2) (R2.back E1.toExt) e3 _ fun W3 w E3 S3 R3 => ⟨k, bl_at R3 e4, ?_⟩
  cases k with
  | false => cases hd; exact iteF (hQ W3 _ ((E1.trans E2).trans E3) S3 rx_bl)
  | true =>
    obtain ⟨⟨x3, st3⟩, e5, hd⟩ := Option.bind_eq_some_iff.mp hd
    obtain ⟨z', e6, hd⟩ := Option.map_eq_some_iff.mp hd
    cases hd
    refine iteT (hc.run W3 env σ st2 x3 st3 (hE.ext ((E1.trans E2).trans E3)) S3 e5 _ fun W4 y E4 S4 R4 => ?_)
    exact ho'.run W1 W4 st3 x2 x3 v y x S4 ((R2.ext E3).ext E4) (R4.back (E2.trans E3).toExt) e6 Q fun W5 w5 E5 S5 R5 => hQ W5 w5 (((E1.trans E2).trans E3).trans (E4.trans E5)) S5 (R5.back (((E1.trans E2).trans E3).trans E4).toExt)⟩
theorem e_chain {tc : TE} {op op' : CmpOp} {r r' : R2} {f g : F2} (ho : ∀ X, Good Γ X → OpR X (compareOp op) r) (hs : SOp2 Γ r f) (ho' : ∀ X, Good Γ X → OpR X (compareOp op') r') (hs' : SOp2 Γ r' g) (ha : EX Γ X a ta da) (hb : EX Γ X b tb db) (hc : EX Γ X c tc dc)
    (hm : lastMarks [op, op'] [b, c] = false := by with_unfolding_all rfl) : EX Γ X (.Compare a [op, op'] [b, c] pos) (tChain r r' ta tb tc) (xChain f g da db dc) :=
  ⟨fun gd => pe_chain (ho X gd) (ho' X gd) (ha.pe gd) (hb.pe gd) (hc.pe gd) hm, .chain hs hs' ha.snd hb.snd hc.snd⟩
theorem et_chain {tc : TE} {op op' : CmpOp} {r r' : R2} {f g : F2} (ho : ∀ X, Good Γ X → OpR X (compareOp op) r) (hs : SOp2 Γ r f) (ho' : ∀ X, Good Γ X → OpR X (compareOp op') r') (hs' : SOp2 Γ r' g) (ha : EX Γ X a ta da) (hb : EX Γ X b tb db) (hc : EX Γ X c tc dc)
    (hm : lastMarks [op, op'] [b, c] = false := by with_unfolding_all rfl) : ET Γ X (.Compare a [op, op'] [b, c] pos) (tTest (tChain r r' ta tb tc)) (tB' (xChain f g da db dc)) :=
  ⟨fun gd => pt_chain (ho X gd) (ho' X gd) (ha.pe gd) (hb.pe gd) (hc.pe gd) hm, .of (.chain hs hs' ha.snd hb.snd hc.snd)⟩

/-! argument lists, displays -/
theorem a_nil : EA Γ X [] tNil aNil := ⟨fun _ => pa_nil, .nil⟩
theorem a_cons {e : Expr} {es : List Expr} {t : TA} {d : DA} (ha : EX Γ X e ta da) (hr : EA Γ X es t d) (hs : starEach (e :: es) X.env = (false, eval e X.env) :: starEach es X.env := by rfl) : EA Γ X (e :: es) (tCons ta t) (aCons da d) :=
  ⟨fun g => pa_cons (ha.pe g) (hr.pe g) hs, .cons ha.snd hr.snd⟩
end

/-- all arguments as plain values, new lists frozen -/
def pvs : List XV → Option (List PV)
  | [] => some []
  | x :: xs => x.pv.bind fun p => (pvs xs).map fun ps => p :: ps
theorem RX_tag {K : Ctx} {W0 W : World} {a : Addr} {x : XV} {v : V} (h : RX K W0 W x v) (hf : ¬ Fz W a) (ha : W.T a = .oth) (hn : ∀ c, x ≠ .o c) : RX K W0 (W.tag a .frz) x v := by
  cases x with
  | v p => exact RV_tag hf p v h
  | o c => exact absurd rfl (hn c)
  | b c =>
    obtain ⟨b, i, h1, h2, h3, h4⟩ := h
    exact ⟨b, i, h1, CtAt_tag hf h2, (tag_Tne (fun z => by rw [z, ha] at h3; cases h3)).trans h3, h4⟩
/-- one value kept: its list frozen -/
theorem pv_at {K : Ctx} {W0 W : World} {st : MS} {x : XV} {u : V} {p : PV} (hS : RSt K W st) (hE : ExtE W0 W) (r : RX K W0 W x u) (e : x.pv = some p) :
    ∃ W', ExtE W0 W' ∧ RSt K W' st ∧ RV K W' p u ∧ W'.H = W.H := by
  cases x with
  | v q => cases e; exact ⟨W, hE, hS, r, rfl⟩
  | o c =>
    obtain ⟨a, rfl, h2, h3, h4, h5⟩ := r
    obtain ⟨_, f2, f3⟩ := freeze hS h2 h3 h4 e
    exact ⟨_, tag_extE hE h5, f2, f3, rfl⟩
  | b c => cases e
/-- a frozen list among others: either frozen already here, or still to be -/
def RP (K : Ctx) (W0 W : World) : XV → V → Prop
  | .o c, v => RX K W0 W (.o c) v ∨ ∃ p, c.fr = some p ∧ RV K W p v
  | x, v => RX K W0 W x v
theorem RP_tag {K : Ctx} {W0 W : World} {a : Addr} {x : XV} {v : V} {st : MS} (hS : RSt K W st) (h : RP K W0 W x v) (hf : ¬ Fz W a) (ha : W.T a = .oth) (hp : x.pv ≠ none) : RP K W0 (W.tag a .frz) x v := by
  cases x with
  | v p => exact RX_tag (W0 := W0) (x := .v p) h hf ha (fun c z => nomatch z)
  | o c =>
    rcases h with h | ⟨p, e, h⟩
    · obtain ⟨b, h1, h2, h3, h4, h5⟩ := h
      by_cases hb : b = a
      · subst hb
        right
        rw [h1]
        cases e : c.fr with
        | none => exact absurd e hp
        | some p => exact ⟨p, rfl, (freeze hS h2 h3 h4 e).2.2⟩
      · left
        exact ⟨b, h1, CtAt_tag hf h2, (tag_Tne hb).trans h3, h4, h5⟩
    · exact .inr ⟨p, e, RV_tag hf _ _ h⟩
  | b c => exact absurd rfl hp
inductive RPs (K : Ctx) (W0 W : World) : List XV → List V → Prop
  | nil : RPs K W0 W [] []
  | cons {x xs v vs} : RP K W0 W x v → RPs K W0 W xs vs → RPs K W0 W (x :: xs) (v :: vs)
theorem RPs.tag {K : Ctx} {W0 W : World} {a : Addr} {st : MS} (hS : RSt K W st) (hf : ¬ Fz W a) (ha : W.T a = .oth) : ∀ {xs : List XV} {vs : List V} {ps : List PV}, RPs K W0 W xs vs → pvs xs = some ps → RPs K W0 (W.tag a .frz) xs vs
  | _, _, _, .nil, _ => .nil
  | x :: xs, _, _, .cons h t, e => by
    unfold pvs at e
    obtain ⟨p, e1, e⟩ := Option.bind_eq_some_iff.mp e
    obtain ⟨ps, e2, e⟩ := Option.map_eq_some_iff.mp e
    exact .cons (RP_tag hS h hf ha (by rw [e1]; simp)) (RPs.tag hS hf ha t e2)
theorem pvs_go {K : Ctx} {W0 : World} {st : MS} : ∀ {xs : List XV} {us : List V} {ps : List PV} {W : World}, RSt K W st → ExtE W0 W → RPs K W0 W xs us → pvs xs = some ps →
    ∃ W', ExtE W0 W' ∧ Ext W W' ∧ RSt K W' st ∧ RVs K W' ps us ∧ W'.H = W.H
  | _, _, _, W, hS, hE, .nil, e => by cases e; exact ⟨W, hE, Ext.refl, hS, RVs_nil.mpr rfl, rfl⟩
  | x :: xs, u :: us, _, W, hS, hE, .cons h t, e => by
    have e0 := e
    unfold pvs at e
    obtain ⟨p, e1, e⟩ := Option.bind_eq_some_iff.mp e
    obtain ⟨ps, e2, e⟩ := Option.map_eq_some_iff.mp e
    cases e
    have fin : ∀ W1, ExtE W0 W1 → Ext W W1 → RSt K W1 st → RPs K W0 W1 xs us → RV K W1 p u → W1.H = W.H → ∃ W', ExtE W0 W' ∧ Ext W W' ∧ RSt K W' st ∧ RVs K W' (p :: ps) (u :: us) ∧ W'.H = W.H := fun W1 a1 a2 a3 a4 a5 a6 => by
      obtain ⟨W2, b1, b2, b3, b4, b5⟩ := pvs_go a3 a1 a4 e2
      exact ⟨W2, b1, a2.trans b2, b3, RVs_cons'.mpr ⟨RV_ext b2 _ _ a5, b4⟩, b5.trans a6⟩
    cases x with
    | v q => cases e1; exact fin W hE Ext.refl hS t h rfl
    | o c =>
      rcases h with h | ⟨q, e, h⟩
      · obtain ⟨a, rfl, h2, h3, h4, h5⟩ := h
        obtain ⟨f1, f2, f3⟩ := freeze hS h2 h3 h4 e1
        exact fin _ (tag_extE hE h5) f1 f2 (t.tag hS (oth_nfz h2 h3) h3 e2) f3 rfl
      · have e1 : c.fr = some p := e1
        rw [e] at e1; cases e1
        exact fin W hE Ext.refl hS t h rfl
    | b c => cases e1
theorem RXs.rps {K : Ctx} {W0 W : World} {xs : List XV} {us : List V} (h : RXs K W0 W xs us) : RPs K W0 W xs us := by
  induction h with
  | nil => exact .nil
  | @cons x xs v vs a _ ih =>
    refine .cons ?_ ih
    cases x with
    | v p => exact a
    | o c => exact .inl a
    | b c => exact a
/-- all values kept -/
theorem pvs_at {K : Ctx} {W0 W : World} {st : MS} {xs : List XV} {us : List V} {ps : List PV} (hS : RSt K W st) (hE : ExtE W0 W) (r : RXs K W0 W xs us) (e : pvs xs = some ps) :
    ∃ W', ExtE W0 W' ∧ RSt K W' st ∧ RVs K W' ps us ∧ W'.H = W.H := by
  obtain ⟨W', h1, _, h2⟩ := pvs_go hS hE r.rps e
  exact ⟨W', h1, h2⟩
end DD
/-! DCall -/
namespace DD
open PySem PySem.Spec PyProof.Rows L2
open Classical

/-- a def's denotation: the arguments, the store -/
abbrev DF := List PV → MS → Option (XV × MS)

/-! ### entering a def, leaving it -/
def Tag.hide : Tag → Tag
  | .slot _ => .oth
  | t => t
def World.enter (W : World) : World := { W with T := fun a => (W.T a).hide, old := fun a => ∃ o, W.H a = some o }
noncomputable def leaveT (W Wc : World) (a : Addr) : Tag := match W.T a with
  | .slot i => if ∃ o, W.H a = some o then .slot i else Wc.T a
  | _ => Wc.T a
noncomputable def World.leave (W Wc : World) : World := { H := Wc.H, T := leaveT W Wc, mu := Wc.mu, old := W.old }

section
variable {K : Ctx} {W Wc : World}
mutual
theorem RV_map {W W' : World} (hm : W'.mu = W.mu) (h : ∀ a o, Fz W a → W.H a = some o → Fz W' a ∧ W'.H a = some o) : ∀ (p : PV) (v : V), RV K W p v → RV K W' p v
  | .non, v, h => by unfold RV at h ⊢; exact h
  | .bl b, v, h => by unfold RV at h ⊢; exact h
  | .int i, v, h => by unfold RV at h ⊢; exact h
  | .str s, v, h => by unfold RV at h ⊢; exact h
  | .ref a, v, h => by unfold RV at h ⊢; exact h
  | .ty n, v, h => by unfold RV at h ⊢; exact h
  | .obj n, v, h => by unfold RV at h ⊢; rw [hm]; exact h
  | .tup xs, v, q => by
    unfold RV at q ⊢
    obtain ⟨b, vs, h1, h2, h3, h4⟩ := q
    exact ⟨b, vs, h1, (h b _ h2 h3).1, (h b _ h2 h3).2, RVs_map hm h xs vs h4⟩
  | .lst xs, v, q => by
    unfold RV at q ⊢
    obtain ⟨b, vs, h1, h2, h3, h4⟩ := q
    exact ⟨b, vs, h1, (h b _ h2 h3).1, (h b _ h2 h3).2, RVs_map hm h xs vs h4⟩
  | .fK ks xs, v, q => by
    unfold RV at q ⊢
    obtain ⟨b, vs, h1, h2, h3, h4⟩ := q
    rcases h3 with h3 | ⟨o, h3⟩
    · exact ⟨b, vs, h1, (h b _ h2 h3).1, .inl (h b _ h2 h3).2, RVs_map hm h xs vs h4⟩
    · exact ⟨b, vs, h1, (h b _ h2 h3).1, .inr ⟨o, (h b _ h2 h3).2⟩, RVs_map hm h xs vs h4⟩
  | .fT ks xs, v, q => by
    unfold RV at q ⊢
    obtain ⟨b, vs, h1, h2, h3, h4⟩ := q
    rcases h3 with h3 | ⟨o, h3⟩
    · exact ⟨b, vs, h1, (h b _ h2 h3).1, .inl (h b _ h2 h3).2, RVs_map hm h xs vs h4⟩
    · exact ⟨b, vs, h1, (h b _ h2 h3).1, .inr ⟨o, (h b _ h2 h3).2⟩, RVs_map hm h xs vs h4⟩
  | .rol xs, v, q => by
    unfold RV at q ⊢
    obtain ⟨b, vs, h1, h2, h4⟩ := q
    refine ⟨b, vs, h1, ?_, RVs_map hm h xs vs h4⟩
    rcases h2 with ⟨t2, o, h3⟩ | h3
    · exact .inl ⟨(h b _ t2 h3).1, o, (h b _ t2 h3).2⟩
    · exact .inr h3
  | .rot xs, v, q => by
    unfold RV at q ⊢
    obtain ⟨b, vs, h1, h2, h4⟩ := q
    refine ⟨b, vs, h1, ?_, RVs_map hm h xs vs h4⟩
    rcases h2 with ⟨t2, o, h3⟩ | h3
    · exact .inl ⟨(h b _ t2 h3).1, o, (h b _ t2 h3).2⟩
    · exact .inr h3
theorem RVs_map {W W' : World} (hm : W'.mu = W.mu) (h : ∀ a o, Fz W a → W.H a = some o → Fz W' a ∧ W'.H a = some o) : ∀ (xs : List PV) (vs : List V), RVs K W xs vs → RVs K W' xs vs
  | [], vs, h => by unfold RVs at h ⊢; exact h
  | x :: xs, vs, q => by
    unfold RVs at q ⊢
    obtain ⟨v, r, h1, h2, h3⟩ := q
    exact ⟨v, r, h1, RV_map hm h x v h2, RVs_map hm h xs r h3⟩
end
theorem CtAt_map {W W' : World} (hm : W'.mu = W.mu) (hH : W'.H = W.H) (h : ∀ a o, Fz W a → W.H a = some o → Fz W' a ∧ W'.H a = some o) {a : Addr} {c : Cont} (q : CtAt K W a c) : CtAt K W' a c := by
  cases c with
  | lst xs => obtain ⟨vs, h1, h2⟩ := q; exact ⟨vs, by rw [hH]; exact h1, RVs_map hm h _ _ h2⟩
  | dK kvs => obtain ⟨vs, h1, h2⟩ := q; exact ⟨vs, by rw [hH]; exact h1, RVs_map hm h _ _ h2⟩
  | dT kvs => obtain ⟨vs, h1, h2⟩ := q; exact ⟨vs, by rw [hH]; exact h1, RVs_map hm h _ _ h2⟩
  | set xs => obtain ⟨S, h1, h2⟩ := q; exact ⟨S, by rw [hH]; exact h1, h2⟩
  | ins C fs =>
    obtain ⟨dx, vs, h1, h2, h3, h4⟩ := q
    obtain ⟨g1, g2⟩ := h dx _ h3 h4
    exact ⟨dx, vs, by rw [hH]; exact h1, RVs_map hm h _ _ h2, g1, g2⟩
theorem enter_frz : ∀ a o, Fz W a → W.H a = some o → Fz W.enter a ∧ W.enter.H a = some o := fun a o h h' => by
  refine ⟨?_, h'⟩
  rcases h with h | h
  · left
    show (W.T a).hide = .frz
    rw [h]; rfl
  · exact .inr h
theorem RVs_enter {xs : List PV} {vs : List V} (h : RVs K W xs vs) : RVs K W.enter xs vs := RVs_map (W := W) (W' := W.enter) rfl enter_frz xs vs h
theorem RSt.enter {st : MS} (h : RSt K W st) : RSt K W.enter st := by
  refine ⟨h.len, fun n a e => ?_, fun n c e => ?_, fun a ha => ha⟩
  · show (W.T a).hide = _
    rw [h.tag n a e]; rfl
  · obtain ⟨a, e1, c1⟩ := h.ct n c e
    exact ⟨a, e1, CtAt_map (W := W) (W' := W.enter) rfl rfl enter_frz c1⟩
theorem enter_noslot : ∀ a i, W.enter.T a ≠ .slot i := fun a i h => by
  have h : (W.T a).hide = .slot i := h
  cases q : W.T a <;> rw [q] at h <;> cases h
theorem leave_T {a : Addr} (e : Ext W.enter Wc) : (∃ i o, W.T a = .slot i ∧ W.H a = some o ∧ (W.leave Wc).T a = .slot i ∧ Wc.T a = .oth) ∨ (W.leave Wc).T a = Wc.T a := by
  have key : (W.leave Wc).T a = match W.T a with
    | .slot i => if ∃ o, W.H a = some o then .slot i else Wc.T a
    | _ => Wc.T a := rfl
  rw [key]
  cases q : W.T a with
  | slot i =>
    simp only
    by_cases ho : ∃ o, W.H a = some o
    · rw [if_pos ho]
      obtain ⟨o, ho⟩ := ho
      have ho' : W.enter.H a = some o := ho
      have ht : W.enter.T a = .oth := by show (W.T a).hide = _; rw [q]; rfl
      have := (e.keep a o ho' (.inr ⟨ht, o, ho⟩)).2
      exact .inl ⟨i, o, rfl, ho, rfl, this.trans ht⟩
    · rw [if_neg ho]; exact .inr rfl
  | _ => exact .inr rfl
theorem Lkd.map {W W' : World} {v : V} (h : ∀ a o, Fz W a → W.H a = some o → Fz W' a ∧ W'.H a = some o) (q : Lkd W v) : Lkd W' v := by
  obtain ⟨b, o, u, h1, h2, h3⟩ := q
  exact ⟨b, o, u, h1, (h b _ h2 h3).1, (h b _ h2 h3).2⟩
theorem leave_frz (e : Ext W.enter Wc) : ∀ a o, Fz Wc a → Wc.H a = some o → Fz (W.leave Wc) a ∧ (W.leave Wc).H a = some o := fun a o h h' => by
  refine ⟨?_, h'⟩
  rcases h with h | h
  rotate_left
  · exact .inr h
  left
  rcases leave_T (a := a) e with ⟨i, o', _, _, _, h2⟩ | h2
  · rw [h] at h2; cases h2
  · rw [h2]; exact h
theorem leave_ext {st : MS} (hS : RSt K W st) (e : Ext W.enter Wc) : ExtE W (W.leave Wc) := by
  have kp : ∀ a o, W.H a = some o → (Fz W a ∨ W.T a = .oth ∨ ∃ i, W.T a = .slot i) → (W.leave Wc).H a = some o ∧ (W.leave Wc).T a = W.T a := fun a o ho ht => by
    have ho' : W.enter.H a = some o := ho
    have et : W.enter.T a = (W.T a).hide := rfl
    have h1 : Fz W.enter a ∨ (W.enter.T a = .oth ∧ W.enter.old a) := by
      rcases ht with h | h | ⟨i, h⟩
      · left; exact (enter_frz a o h ho).1
      · right; exact ⟨by rw [et, h]; rfl, o, ho⟩
      · right; exact ⟨by rw [et, h]; rfl, o, ho⟩
    obtain ⟨k1, k2⟩ := e.keep a o ho' h1
    refine ⟨k1, ?_⟩
    rcases leave_T (a := a) e with ⟨i, o', h3, _, h4, _⟩ | h3
    · rw [h4, h3]
    · rw [h3, k2, et]
      cases h : W.T a with
      | slot i =>
        exfalso
        have key : (W.leave Wc).T a = match W.T a with
          | .slot i => if ∃ o, W.H a = some o then .slot i else Wc.T a
          | _ => Wc.T a := rfl
        rw [h] at key
        simp only at key
        rw [if_pos ⟨o, ho⟩, h3, k2, et, h] at key
        cases key
      | _ => rfl
  exact ⟨⟨fun a o ho ht => kp a o ho (ht.elim .inl fun h => .inr (.inl h.1)), e.mu, rfl, e.there⟩, fun a o ho ht => kp a o ho (.inr ht)⟩
theorem leave_st {st st' : MS} (hS : RSt K W st) (e : Ext W.enter Wc) (h : RSt K Wc st') : RSt K (W.leave Wc) st' := by
  refine ⟨h.len, fun n a q => ?_, fun n c q => ?_, fun a ha => ?_⟩
  · have := h.tag n a q
    rcases leave_T (a := a) e with ⟨i, o', _, _, _, h2⟩ | h2
    · rw [h2] at this; cases this
    · rw [h2]; exact this
  · obtain ⟨a, e1, c1⟩ := h.ct n c q
    exact ⟨a, e1, CtAt_map (W := Wc) (W' := W.leave Wc) rfl rfl (leave_frz e) c1⟩
  · obtain ⟨o, ho⟩ := hS.oldH a ha
    exact e.there a o ho
theorem leave_rx {st : MS} (hS : RSt K W st) (e : Ext W.enter Wc) {z : XV} {v : V} (hz : ∀ c, z ≠ .b c) (r : RX K W.enter Wc z v) : RX K W (W.leave Wc) z v := by
  cases z with
  | v p => exact RV_map (W := Wc) (W' := W.leave Wc) rfl (leave_frz e) _ _ r
  | o c =>
    obtain ⟨a, h1, h2, h3, h4, h5⟩ := r
    refine ⟨a, h1, CtAt_map (W := Wc) (W' := W.leave Wc) rfl rfl (leave_frz e) h2, ?_, ?_, h5⟩
    · rcases leave_T (a := a) e with ⟨i, o', _, q, _, _⟩ | q
      · rw [show W.H a = none from h5] at q; cases q
      · rw [q]; exact h3
    · exact hS.nold h5
  | b c => exact absurd rfl (hz c)
end

/-- a def's promise: called with values of ps and the store st it gives what df gives -/
def spD (K : Ctx) (n : Nat) (df : DF) : Sp := fun vs H Q _ => ∃ (W : World) (ps : List PV) (st : MS) (z : XV) (st' : MS), W.H = H ∧ (∀ a o, W.H a = some o → W.old a) ∧ (∀ a i, W.T a ≠ .slot i) ∧
  RSt K W st ∧ RVs K W ps vs ∧ ps.length = n ∧ df ps st = some (z, st') ∧ ∀ W' v, Ext W W' → RSt K W' st' → RX K W W' z v → Q v W'.H
/-- what a call gives -/
def callD (df : DF) (xs : List XV) (st : MS) : Option (XV × MS) := (pvs xs).bind fun ps => (df ps st).bind fun r => match r.1 with
  | .b _ => none
  | _ => some r
def xCall (df : DF) (n : Nat) (a : DA) : DX := fun env st => (a env st).bind fun r => if r.1.length = n then callD df r.1 r.2 else none
theorem pvs_len : ∀ {xs : List XV} {ps : List PV}, pvs xs = some ps → ps.length = xs.length
  | [], _, e => by cases e; rfl
  | x :: xs, _, e => by
    unfold pvs at e
    obtain ⟨p, e1, e⟩ := Option.bind_eq_some_iff.mp e
    obtain ⟨ps, e2, e⟩ := Option.map_eq_some_iff.mp e
    cases e
    simp [pvs_len e2]
theorem callD_snd {K : Ctx} {df : DF} {n : Nat} {W0 W : World} {st st' : MS} {xs : List XV} {us : List V} {z : XV} {Q : VK} {E : XK} (hS : RSt K W st) (hE : ExtE W0 W) (r : RXs K W0 W xs us) (hl : xs.length = n) (hd : callD df xs st = some (z, st'))
    (hQ : ∀ W' v, ExtE W0 W' → RSt K W' st' → RX K W0 W' z v → Q v W'.H) : spD K n df us W.H Q E := by
  unfold callD at hd
  obtain ⟨ps, e1, hd⟩ := Option.bind_eq_some_iff.mp hd
  obtain ⟨⟨z1, st1⟩, e2, hd⟩ := Option.bind_eq_some_iff.mp hd
  have hb : (∀ c, z1 ≠ .b c) ∧ (z1, st1) = (z, st') := by
    cases z1 with
    | b c => cases hd
    | v p => exact ⟨fun c z => (nomatch z), Option.some.inj hd⟩
    | o c => exact ⟨fun c z => (nomatch z), Option.some.inj hd⟩
  obtain ⟨hb, e⟩ := hb
  cases e
  obtain ⟨W1, E1, S1, R1, H1⟩ := pvs_at hS hE r e1
  refine ⟨W1.enter, ps, st, z, st', H1, fun a o h => ⟨o, h⟩, enter_noslot, S1.enter, RVs_enter R1, by rw [pvs_len e1]; exact hl, e2, fun Wc v Ec Sc Rc => ?_⟩
  exact hQ (W1.leave Wc) v (E1.trans (leave_ext S1 Ec)) (leave_st S1 Ec Sc) ((leave_rx S1 Ec hb Rc).back E1.toExt)

/-! ### a def's own body -/
/-- a def's end: a value (a new list frozen), or a new thing -/
def finV (x : XV) : Option XV := x.pv.map XV.v
def finO : XV → Option XV
  | .o c => some (.o c)
  | .b c => some (.o c)
  | .v _ => none
def fnD (n : Nat) (fin : XV → Option XV) (body : DS) : DF := fun ps st => (body (ps.map Slot.v ++ List.replicate (n - ps.length) .un) st).bind fun r => match r.1 with
  | .nx => (fin (.v .non)).map fun z => (z, r.2.2)
  | .rt x => (fin x).map fun z => (z, r.2.2)
  | _ => none
theorem RSt.retag' {K : Ctx} {W : World} {a : Addr} {t : Tag} {st : MS} (hf : ¬ Fz W a) (hn : ∀ n, W.T a ≠ .obj n) (h : RSt K W st) : RSt K (W.tag a t) st := by
  refine ⟨h.len, fun n b e => ?_, fun n c e => ?_, h.oldH⟩
  · exact (tag_Tne (fun z => by have := h.tag n b e; rw [z] at this; exact hn _ this)).trans (h.tag n b e)
  · obtain ⟨b, e1, c1⟩ := h.ct n c e
    exact ⟨b, e1, CtAt_tag hf c1⟩
/-- how a def's end is made of what is returned -/
structure FinOk (K : Ctx) (fin : XV → Option XV) : Prop where
  run : ∀ W W' st x z v, RSt K W' st → Ext W W' → (∀ a o, W.H a = some o → W.old a) → RX K W W' x v → fin x = some z → ∃ W2, Ext W W2 ∧ RSt K W2 st ∧ RX K W W2 z v ∧ W2.H = W'.H
theorem finV_ok {K : Ctx} : FinOk K finV := ⟨fun W W' st x z v hS hE ho r e => by
  unfold finV at e
  obtain ⟨p, e1, e⟩ := Option.map_eq_some_iff.mp e
  cases e
  cases x with
  | v q => cases e1; exact ⟨W', hE, hS, r, rfl⟩
  | o c =>
    obtain ⟨a, rfl, h2, h3, h4, h5⟩ := r
    obtain ⟨f1, f2, f3⟩ := freeze hS h2 h3 h4 e1
    exact ⟨_, hE.trans f1, f2, f3, rfl⟩
  | b c => cases e1⟩
theorem finO_ok {K : Ctx} : FinOk K finO := ⟨fun W W' st x z v hS hE ho r e => by
  cases x with
  | v q => cases e
  | o c => cases e; exact ⟨W', hE, hS, r, rfl⟩
  | b c =>
    cases e
    obtain ⟨a, i, h1, h2, h3, h4⟩ := r
    have hf : ¬ Fz W' a := ct_nfz h2 (by rw [h3]; intro z; cases z)
    have hn : ∀ n, W'.T a ≠ .obj n := fun n => by rw [h3]; intro z; cases z
    refine ⟨W'.tag a .oth, ?_, hS.retag' hf hn, ⟨a, h1, CtAt_tag hf h2, tag_T, h4, ?_⟩, rfl⟩
    · refine ⟨fun b o hb ht => ?_, hE.mu, hE.old, hE.there⟩
      obtain ⟨k1, k2⟩ := hE.keep b o hb ht
      refine ⟨k1, ?_⟩
      have ne : b ≠ a := by
        rintro rfl
        rcases ht with z | ⟨z, _⟩
        · exact hf (z.of hb k1 k2)
        · rw [k2, z] at h3; cases h3
      rw [tag_Tne ne]; exact k2
    · cases q : W.H a with
      | none => rfl
      | some o => exact absurd (by rw [hE.old]; exact ho a o q) h4⟩
theorem start_en {K : Ctx} {W : World} {ps : List PV} {vs : List V} {N : List Str} (h : RVs K W ps vs) (hn : ps.length ≤ N.length) : REn K W (ps.map Slot.v ++ List.replicate (N.length - ps.length) .un) (L2.start N vs) := by
  have hl := RVs_len h
  refine ⟨by unfold L2.start; simp [hl], fun i s hs => ?_⟩
  by_cases hi : i < ps.length
  · rw [List.getElem?_append_left (by simpa using hi), List.getElem?_map] at hs
    obtain ⟨p, e1, e2⟩ := Option.map_eq_some_iff.mp hs
    subst e2
    obtain ⟨v, g1, g2⟩ := RVs_get h e1
    refine ⟨v, ?_, g2⟩
    unfold L2.start
    rw [List.getElem?_append_left (by simpa [← hl] using hi), List.getElem?_map, g1]; rfl
  · rw [List.getElem?_append_right (by simpa using hi)] at hs
    have := List.mem_replicate.mp (List.mem_of_getElem? hs)
    rw [this.2]; trivial
/-- THE RULE for a def -/
theorem fn_ok {Γ : Ctx} {x qual : Str} {st : Stmt} {f : Addr} {fd : FuncData} {N ps : List Str} {k : Nat} {fin : XV → Option XV} {body : DS} (F : Fun Γ.K x qual st f fd) (S : FnScope N ps (defScope st)) (hf : FinOk Γ fin) (hn : ps.length ≤ N.length)
    (hbody : ∀ (cdv : Value) (A : Around) (outer : List Env) (s : Shared) (H : Hp) (E : XK), Room k (A.deeper (envOfC qual (defScope st) s.heap.objs.size f cdv)) →
      ∃ t, ESs Γ (cxOf CX0 Γ.P Γ.w Γ.K Γ.mg Γ.base N qual (defScope st) f cdv A outer s H E).nox (defBody st) t body) :
    FnOk Γ.P Γ.w Γ.K Γ.mg Γ.base CX0 (k + 1) f fd ps (spD Γ ps.length (fnD N.length fin body)) := by
  refine F.ok S (fun vs H Q E h => ?_) (fun cdv A outer s H vs Q E hr h => ?_)
  · obtain ⟨W, qs, st, z, st', _, _, _, _, h5, h6, _⟩ := h
    rw [← RVs_len h5]; exact h6
  · obtain ⟨W, qs, ms, z, ms', rfl, ho, hs, hS, hR, hl, hd, hQ⟩ := h
    obtain ⟨t, ht⟩ := hbody cdv A outer s W.H E hr
    have g : Good Γ (cxOf CX0 Γ.P Γ.w Γ.K Γ.mg Γ.base N qual (defScope st) f cdv A outer s W.H E).nox :=
      ⟨rfl, rfl, rfl, rfl, rfl, rfl, by have := hr.un; show (A.deeper (envOfC qual (defScope st) s.heap.objs.size f cdv)).units + 200 < cLine; omega, rfl, S.nd⟩
    refine ⟨t, ht.pe g, ?_⟩
    unfold fnD at hd
    obtain ⟨⟨fl, env', st1⟩, e1, hd⟩ := Option.bind_eq_some_iff.mp hd
    refine ht.snd.run W _ _ ms fl env' st1 (start_en hR (by omega)) hS e1 _ fun W' σ' E1 S1 _ => ?_
    have fini : ∀ x v, RX Γ W W' x v → (fin x).map (fun z => (z, st1)) = some (z, ms') → Q v W'.H := fun x v r e => by
      obtain ⟨z1, e2, e3⟩ := Option.map_eq_some_iff.mp e
      have h1 : z1 = z := congrArg Prod.fst e3
      have h2 : st1 = ms' := congrArg Prod.snd e3
      obtain ⟨W2, E2, S2, R2, H2⟩ := hf.run W W' st1 x z1 v S1 E1 ho r e2
      rw [← H2]
      exact hQ W2 v E2 (h2 ▸ S2) (h1 ▸ R2)
    cases fl with
    | nx => exact fini (.v .non) .non rx_non hd
    | rt x => exact fun v r => fini x v r hd
    | bk => cases hd
    | ct => cases hd
end DD
/-! DOps1 -/
namespace DD
open PySem PySem.Spec PyProof.Rows L2

section
variable {K : Ctx}
/-! ### + - * // % -/
def fAdd : F2 := fun x y st => match x, y with
  | .v (.int i), .v (.int j) => some (.v (.int (i + j)))
  | .v (.str a), .v (.str b) => if a.length + b.length ≤ sizeLine then some (.v (.str (a ++ b))) else none
  | .v (.tup xs), .v (.tup ys) => if xs.length + ys.length ≤ sizeLine then some (.v (.tup (xs ++ ys))) else none
  | x, y => match x.lstH st, y.lstH st with
    | some xs, some ys => if xs.length + ys.length ≤ sizeLine then some (.o (.lst (xs ++ ys))) else none
    | _, _ => none
def rAdd' (K : Ctx) : R2 := fun x y H Q => (((∃ i j, x = .int i ∧ y = .int j ∧ Q (.int (i + j)) H) ∨ (∃ i j, x = .str i ∧ y = .str j ∧ i.length + j.length ≤ sizeLine ∧ Q (.str (i ++ j)) H)) ∨ rCatA K.K x y H Q) ∨ rCat x y H Q
theorem or_add : ∀ X, Good K X → OpR X (binaryOp .Add) (rAdd' K) := fun X g => ((op_add.or op_add_str).or (g.K ▸ op_catA)).or op_cat
theorem s_add : SOp2 K (rAdd' K) fAdd := ⟨fun W0 W st x y u v z hS rx ry e Q hQ => by
  have lists : (match x.lstH st, y.lstH st with
    | some xs, some ys => if xs.length + ys.length ≤ sizeLine then some (XV.o (.lst (xs ++ ys))) else none
    | _, _ => none) = some z → rAdd' K u v W.H Q := fun e => by
    split at e
    · rename_i xs ys h1 h2
      split at e
      · rename_i hl
        cases e
        obtain ⟨a, vs, rfl, a2, a3⟩ := lstH_at hS rx h1
        obtain ⟨b, ws, rfl, b2, b3⟩ := lstH_at hS ry h2
        refine .inr ⟨a, b, vs, ws, rfl, rfl, a2, b2, by rw [← RVs_len a3, ← RVs_len b3]; exact hl, fun p hp => ?_⟩
        obtain ⟨W', E, S, R, eH⟩ := new_lst hS (RVs_append a3 b3) hp
        rw [← eH]; exact hQ W' _ E S R
      · cases e
    · cases e
  unfold fAdd at e
  split at e
  · rename_i i j
    cases e
    exact .inl (.inl (.inl ⟨i, j, int_at rx rfl, int_at ry rfl, hQ W _ ExtE.refl hS rx_int⟩))
  · rename_i a b
    split at e
    · rename_i hl
      cases e
      have r1 : RV K W (.str a) u := rx
      have r2 : RV K W (.str b) v := ry
      unfold RV at r1 r2
      exact .inl (.inl (.inr ⟨a, b, r1, r2, hl, hQ W _ ExtE.refl hS rx_str⟩))
    · cases e
  · rename_i xs ys
    split at e
    · rename_i hl
      cases e
      obtain ⟨a, vs, rfl, a2, a3⟩ := tup_at rx (xs := xs) rfl
      obtain ⟨b, ws, rfl, b2, b3⟩ := tup_at ry (xs := ys) rfl
      refine .inl (.inr ⟨a, b, vs, ws, rfl, rfl, a2, b2, by rw [← RVs_len a3, ← RVs_len b3]; exact hl, fun h => ?_, fun _ h => ?_, fun _ _ p hp => ?_⟩)
      · have : xs = [] := List.length_eq_zero_iff.mp (by rw [RVs_len a3, h]; rfl)
        subst this
        exact hQ W _ ExtE.refl hS ry
      · have : ys = [] := List.length_eq_zero_iff.mp (by rw [RVs_len b3, h]; rfl)
        subst this
        refine hQ W _ ExtE.refl hS ?_
        rw [List.append_nil]; exact rx
      · obtain ⟨W', E, S, R, eH⟩ := new_tup hS (RVs_append a3 b3) hp
        rw [← eH]; exact hQ W' _ E S R
    · cases e
  · exact lists e⟩

theorem s_int0 {g : Int → Int → Int} {r : R2} (hr : ∀ x y H Q, (∃ i j, x = .int i ∧ y = .int j ∧ Q (.int (g i j)) H) → r x y H Q) : SOp2 K r (fun x y _ => x.int.bind fun i => y.int.map fun j => .v (.int (g i j))) := ⟨fun W0 W st x y u v z hS rx ry e Q hQ => by
  obtain ⟨i, e1, e⟩ := Option.bind_eq_some_iff.mp e
  obtain ⟨j, e2, e⟩ := Option.map_eq_some_iff.mp e
  cases e
  exact hr _ _ _ _ ⟨i, j, int_at rx e1, int_at ry e2, hQ W _ ExtE.refl hS rx_int⟩⟩
def fInt (C : Int → Int → Prop) [∀ i j, Decidable (C i j)] (g : Int → Int → Int) : F2 := fun x y _ => x.int.bind fun i => y.int.bind fun j => if C i j then some (.v (.int (g i j))) else none
theorem s_int {C : Int → Int → Prop} [∀ i j, Decidable (C i j)] {g : Int → Int → Int} : SOp2 K (rI C fun i j => .int (g i j)) (fInt C g) := ⟨fun W0 W st x y u v z hS rx ry e Q hQ => by
  unfold fInt at e
  obtain ⟨i, e1, e⟩ := Option.bind_eq_some_iff.mp e
  obtain ⟨j, e2, e⟩ := Option.bind_eq_some_iff.mp e
  split at e
  · rename_i hc
    cases e
    exact ⟨i, j, int_at rx e1, int_at ry e2, hc, hQ W _ ExtE.refl hS rx_int⟩
  · cases e⟩
def fSub : F2 := fun x y _ => x.int.bind fun i => y.int.map fun j => .v (.int (i - j))
theorem or_sub : ∀ X, Good K X → OpR X (binaryOp .Sub) (rI0 fun i j => .int (i - j)) := fun X _ => op_sub
theorem s_sub : SOp2 K (rI0 fun i j => .int (i - j)) fSub := s_int0 fun _ _ _ _ h => h
instance (i j : Int) : Decidable (CMul i j) := by unfold CMul; exact inferInstance
def fMul : F2 := fInt CMul fun i j => i * j
theorem or_mul : ∀ X, Good K X → OpR X (binaryOp .Mult) (rI CMul fun i j => .int (i * j)) := fun X _ => op_mul
theorem s_mul : SOp2 K (rI CMul fun i j => .int (i * j)) fMul := s_int
instance (i j : Int) : Decidable (CDiv i j) := by unfold CDiv; exact inferInstance
def fDiv : F2 := fInt CDiv fun i j => i / j
theorem or_div : ∀ X, Good K X → OpR X (binaryOp .FloorDiv) (rI CDiv fun i j => .int (i / j)) := fun X _ => op_fdiv
theorem s_div : SOp2 K (rI CDiv fun i j => .int (i / j)) fDiv := s_int
def fMod : F2 := fInt (fun _ j => 0 < j) fun i j => i % j
theorem or_mod : ∀ X, Good K X → OpR X (binaryOp .Mod) (rI (fun _ j => 0 < j) fun i j => .int (i % j)) := fun X _ => op_mod
theorem s_mod : SOp2 K (rI (fun _ j => 0 < j) fun i j => .int (i % j)) fMod := s_int
instance (i j : Int) : Decidable (CPow i j) := by unfold CPow; exact inferInstance
def fPow : F2 := fInt CPow fun i j => i ^ j.toNat
theorem or_pow : ∀ X, Good K X → OpR X (binaryOp .Pow) (rI CPow fun i j => .int (i ^ j.toNat)) := fun X _ => op_pow
theorem s_pow : SOp2 K (rI CPow fun i j => .int (i ^ j.toNat)) fPow := s_int
def fNeg : F1 := fun x _ => x.int.map fun i => .v (.int (-i))
theorem or_neg : ∀ X, Good K X → UnR X (unaryOp .USub) (rU fun i => .int (-i)) := fun X _ => un_neg
theorem s_neg : SOp1 K (rU fun i => .int (-i)) fNeg := ⟨fun W0 W st x u z hS rx e Q hQ => by
  obtain ⟨i, e1, e⟩ := Option.map_eq_some_iff.mp e
  cases e
  exact ⟨i, int_at rx e1, hQ W _ ExtE.refl hS rx_int⟩⟩

/-! ### comparisons of ints, tuples of ints -/
def ints? : List PV → Option (List Int)
  | [] => some []
  | .int i :: xs => (ints? xs).map fun ns => i :: ns
  | _ => none
theorem ints_eq : ∀ {xs : List PV} {ns : List Int}, ints? xs = some ns → xs = ns.map PV.int
  | [], _, e => by cases e; rfl
  | .int i :: xs, _, e => by
    obtain ⟨ns, e1, e⟩ := Option.map_eq_some_iff.mp (show (ints? xs).map (fun ns => i :: ns) = some _ from e)
    cases e
    rw [ints_eq e1]; rfl
  | .non :: _, _, e => by cases e
  | .bl _ :: _, _, e => by cases e
  | .str _ :: _, _, e => by cases e
  | .ref _ :: _, _, e => by cases e
  | .ty _ :: _, _, e => by cases e
  | .obj _ :: _, _, e => by cases e
  | .tup _ :: _, _, e => by cases e
  | .lst _ :: _, _, e => by cases e
  | .rol _ :: _, _, e => by cases e
  | .rot _ :: _, _, e => by cases e
theorem ints_map : ∀ ns : List Int, ints? (ns.map PV.int) = some ns
  | [] => rfl
  | n :: ns => by rw [List.map_cons]; show (ints? (ns.map PV.int)).map _ = _; rw [ints_map ns]; rfl
def fLt : F2 := fun x y _ => match x, y with
  | .v (.int i), .v (.int j) => some (.v (.bl (decide (i < j))))
  | .v (.tup xs), .v (.tup ys) => match ints? xs, ints? ys with
    | some ns, some ms => some (.v (.bl (HT.lexLt ns ms)))
    | _, _ => none
  | _, _ => none
def rLt' (K : Ctx) : R2 := fun x y H Q => (∃ i j, x = .int i ∧ y = .int j ∧ Q (.bl (decide (i < j))) H) ∨ rLtT K.K x y H Q
theorem or_lt : ∀ X, Good K X → OpR X (compareOp .Lt) (rLt' K) := fun X g => op_lt.or (g.K ▸ op_ltT (by have := g.un; omega))
theorem s_lt : SOp2 K (rLt' K) fLt := ⟨fun W0 W st x y u v z hS rx ry e Q hQ => by
  unfold fLt at e
  split at e
  · rename_i i j
    cases e
    exact .inl ⟨i, j, int_at rx rfl, int_at ry rfl, hQ W _ ExtE.refl hS rx_bl⟩
  · rename_i xs ys
    split at e
    · rename_i ns ms h1 h2
      cases e
      obtain ⟨a, vs, rfl, a2, a3⟩ := tup_at rx (xs := xs) rfl
      obtain ⟨b, ws, rfl, b2, b3⟩ := tup_at ry (xs := ys) rfl
      rw [ints_eq h1] at a3
      rw [ints_eq h2] at b3
      rw [RVs_ints.mp a3] at a2
      rw [RVs_ints.mp b3] at b2
      exact .inr ⟨a, b, ns, ms, rfl, rfl, a2, b2, hQ W _ ExtE.refl hS rx_bl⟩
    · cases e
  · cases e⟩
def fCmp (p : Int → Int → Bool) : F2 := fun x y _ => x.int.bind fun i => y.int.map fun j => .v (.bl (p i j))
theorem s_cmp {p : Int → Int → Bool} : SOp2 K (rI0 fun i j => .bl (p i j)) (fCmp p) := ⟨fun W0 W st x y u v z hS rx ry e Q hQ => by
  unfold fCmp at e
  obtain ⟨i, e1, e⟩ := Option.bind_eq_some_iff.mp e
  obtain ⟨j, e2, e⟩ := Option.map_eq_some_iff.mp e
  cases e
  exact ⟨i, j, int_at rx e1, int_at ry e2, hQ W _ ExtE.refl hS rx_bl⟩⟩
def fLe : F2 := fCmp fun i j => decide (i ≤ j)
def fGt : F2 := fCmp fun i j => decide (j < i)
def fGe : F2 := fCmp fun i j => decide (j ≤ i)
theorem or_le : ∀ X, Good K X → OpR X (compareOp .LtE) (rI0 fun i j => .bl (decide (i ≤ j))) := fun X _ => op_le
theorem or_gt : ∀ X, Good K X → OpR X (compareOp .Gt) (rI0 fun i j => .bl (decide (j < i))) := fun X _ => op_gt
theorem or_ge : ∀ X, Good K X → OpR X (compareOp .GtE) (rI0 fun i j => .bl (decide (j ≤ i))) := fun X _ => op_ge
theorem s_le : SOp2 K (rI0 fun i j => .bl (decide (i ≤ j))) fLe := s_cmp
theorem s_gt : SOp2 K (rI0 fun i j => .bl (decide (j < i))) fGt := s_cmp
theorem s_ge : SOp2 K (rI0 fun i j => .bl (decide (j ≤ i))) fGe := s_cmp

/-! ### data: ==, in -/
mutual
def PV.dat : PV → Option PyData
  | .non => some .none
  | .bl b => some (.bool b)
  | .int i => some (.int i)
  | .str s => some (.str s)
  | .tup xs => (PV.dats xs).map .tuple
  | .lst xs => (PV.dats xs).map .list
  | .rol xs => (PV.dats xs).map .list
  | .rot xs => (PV.dats xs).map .tuple
  | _ => none
def PV.dats : List PV → Option (List PyData)
  | [] => some []
  | x :: xs => (PV.dat x).bind fun d => (PV.dats xs).map fun ds => d :: ds
end
mutual
theorem dat_dp {W : World} : ∀ (p : PV) (v : V) (d : PyData), RV K W p v → p.dat = some d → Dp K.K W.H v d
  | .non, v, d, r, e => by unfold PV.dat at e; cases e; unfold RV at r; subst r; exact .non
  | .bl b, v, d, r, e => by unfold PV.dat at e; cases e; unfold RV at r; subst r; exact .bl b
  | .int i, v, d, r, e => by unfold PV.dat at e; cases e; unfold RV at r; subst r; exact .int i
  | .str s, v, d, r, e => by unfold PV.dat at e; cases e; unfold RV at r; subst r; exact .str s
  | .ref a, v, d, r, e => by unfold PV.dat at e; cases e
  | .ty a, v, d, r, e => by unfold PV.dat at e; cases e
  | .obj a, v, d, r, e => by unfold PV.dat at e; cases e
  | .fK ks xs, v, d, r, e => by unfold PV.dat at e; cases e
  | .fT ks xs, v, d, r, e => by unfold PV.dat at e; cases e
  | .tup xs, v, d, r, e => by
    unfold PV.dat at e
    obtain ⟨ds, e1, e⟩ := Option.map_eq_some_iff.mp e
    cases e
    unfold RV at r
    obtain ⟨a, vs, rfl, h2, h3, h4⟩ := r
    exact .tup (SqT.of h3) (dats_dp xs vs ds h4 e1)
  | .lst xs, v, d, r, e => by
    unfold PV.dat at e
    obtain ⟨ds, e1, e⟩ := Option.map_eq_some_iff.mp e
    cases e
    unfold RV at r
    obtain ⟨a, vs, rfl, h2, h3, h4⟩ := r
    exact .lst (SqL.of h3) (dats_dp xs vs ds h4 e1)
  | .rol xs, v, d, r, e => by
    unfold PV.dat at e
    obtain ⟨ds, e1, e⟩ := Option.map_eq_some_iff.mp e
    cases e
    unfold RV at r
    obtain ⟨a, vs, rfl, h2, h4⟩ := r
    exact .lst (h2.elim (fun ⟨_, o, h⟩ => .inl (.inr ⟨o, h⟩)) .inr) (dats_dp xs vs ds h4 e1)
  | .rot xs, v, d, r, e => by
    unfold PV.dat at e
    obtain ⟨ds, e1, e⟩ := Option.map_eq_some_iff.mp e
    cases e
    unfold RV at r
    obtain ⟨a, vs, rfl, h2, h4⟩ := r
    exact .tup (h2.elim (fun ⟨_, o, h⟩ => .inl (.inr ⟨o, h⟩)) .inr) (dats_dp xs vs ds h4 e1)
theorem dats_dp {W : World} : ∀ (xs : List PV) (vs : List V) (ds : List PyData), RVs K W xs vs → PV.dats xs = some ds → DpAll K.K W.H vs ds
  | [], vs, ds, r, e => by unfold PV.dats at e; cases e; unfold RVs at r; subst r; exact .nil
  | x :: xs, vs, ds, r, e => by
    unfold PV.dats at e
    obtain ⟨d, e1, e⟩ := Option.bind_eq_some_iff.mp e
    obtain ⟨ds', e2, e⟩ := Option.map_eq_some_iff.mp e
    cases e
    unfold RVs at r
    obtain ⟨v, r', rfl, h1, h2⟩ := r
    exact .cons (dat_dp x v d h1 e1) (dats_dp xs r' ds' h2 e2)
end
def XV.dat (st : MS) (x : XV) : Option PyData := match x with
  | .v (.obj n) => ((XV.v (.obj n)).lstH st).bind fun xs => (PV.dats xs).map .list
  | .v p => p.dat
  | x => (x.lstH st).bind fun xs => (PV.dats xs).map .list
theorem xdat_dp {W0 W : World} {st : MS} {x : XV} {u : V} {d : PyData} (hS : RSt K W st) (r : RX K W0 W x u) (e : x.dat st = some d) : Dp K.K W.H u d := by
  have key : ((x.lstH st).bind fun xs => (PV.dats xs).map PyData.list) = some d → Dp K.K W.H u d := fun e => by
    obtain ⟨xs, e1, e⟩ := Option.bind_eq_some_iff.mp e
    obtain ⟨ds, e2, e⟩ := Option.map_eq_some_iff.mp e
    cases e
    obtain ⟨a, vs, rfl, h2, h3⟩ := lstH_at hS r e1
    exact .lst (SqL.of h2) (dats_dp xs vs ds h3 e2)
  unfold XV.dat at e
  split at e
  · exact key e
  · exact dat_dp _ _ _ r e
  · exact key e
def fEqD (neg : Bool) : F2 := fun x y st => (x.dat st).bind fun d => (y.dat st).bind fun e => if SeqAt.shaped d = true ∧ SeqAt.shaped e = true then some (.v (.bl (if neg then !PyData.eqv d e else PyData.eqv d e))) else none
/-- == -/
def fEq : F2 := fun x y st => match x, y with
  | .v (.int i), .v (.int j) => some (.v (.bl (decide (i = j))))
  | .v (.str i), .v (.str j) => some (.v (.bl (decide (i = j))))
  | .v (.bl i), .v (.bl j) => some (.v (.bl (decide (i = j))))
  | x, y => fEqD false x y st
def fNe : F2 := fun x y st => match x, y with
  | .v (.int i), .v (.int j) => some (.v (.bl (!decide (i = j))))
  | .v (.str i), .v (.str j) => some (.v (.bl (!decide (i = j))))
  | .v (.bl i), .v (.bl j) => some (.v (.bl (!decide (i = j))))
  | x, y => fEqD true x y st
def rEq' (K : Ctx) : R2 := fun x y H Q => rEq x y H Q ∨ rEqD K.K x y H Q
def rNe' (K : Ctx) : R2 := fun x y H Q => rNe x y H Q ∨ rNeD K.K x y H Q
theorem or_eq : ∀ X, Good K X → OpR X (compareOp .Eq) (rEq' K) := fun X g => op_eq.or (g.K ▸ op_eqD (by have := g.un; omega))
theorem or_ne : ∀ X, Good K X → OpR X (compareOp .NotEq) (rNe' K) := fun X g => op_ne.or (g.K ▸ op_neD (by have := g.un; omega))
theorem s_eq : SOp2 K (rEq' K) fEq := ⟨fun W0 W st x y u v z hS rx ry e Q hQ => by
  unfold fEq at e
  split at e
  · rename_i i j
    cases e
    rw [int_at rx (i := i) rfl, int_at ry (i := j) rfl]
    exact .inl ⟨rfl, by simpa using hQ W _ ExtE.refl hS rx_bl⟩
  · rename_i i j
    cases e
    have r1 : RV K W (.str i) u := rx
    have r2 : RV K W (.str j) v := ry
    unfold RV at r1 r2
    rw [r1, r2]
    exact .inl ⟨rfl, by simpa using hQ W _ ExtE.refl hS rx_bl⟩
  · rename_i i j
    cases e
    rw [bl_at rx (i := i) rfl, bl_at ry (i := j) rfl]
    exact .inl ⟨rfl, by simpa using hQ W _ ExtE.refl hS rx_bl⟩
  · unfold fEqD at e
    obtain ⟨d, e1, e⟩ := Option.bind_eq_some_iff.mp e
    obtain ⟨d', e2, e⟩ := Option.bind_eq_some_iff.mp e
    split at e
    · rename_i hs
      cases e
      exact .inr ⟨d, d', xdat_dp hS rx e1, xdat_dp hS ry e2, hs.1, hs.2, hQ W _ ExtE.refl hS rx_bl⟩
    · cases e⟩
theorem s_ne : SOp2 K (rNe' K) fNe := ⟨fun W0 W st x y u v z hS rx ry e Q hQ => by
  unfold fNe at e
  split at e
  · rename_i i j
    cases e
    rw [int_at rx (i := i) rfl, int_at ry (i := j) rfl]
    exact .inl ⟨rfl, by simpa using hQ W _ ExtE.refl hS rx_bl⟩
  · rename_i i j
    cases e
    have r1 : RV K W (.str i) u := rx
    have r2 : RV K W (.str j) v := ry
    unfold RV at r1 r2
    rw [r1, r2]
    exact .inl ⟨rfl, by simpa using hQ W _ ExtE.refl hS rx_bl⟩
  · rename_i i j
    cases e
    rw [bl_at rx (i := i) rfl, bl_at ry (i := j) rfl]
    exact .inl ⟨rfl, by simpa using hQ W _ ExtE.refl hS rx_bl⟩
  · unfold fEqD at e
    obtain ⟨d, e1, e⟩ := Option.bind_eq_some_iff.mp e
    obtain ⟨d', e2, e⟩ := Option.bind_eq_some_iff.mp e
    split at e
    · rename_i hs
      cases e
      exact .inr ⟨d, d', xdat_dp hS rx e1, xdat_dp hS ry e2, hs.1, hs.2, hQ W _ ExtE.refl hS rx_bl⟩
    · cases e⟩
/-- is None, is not None; is False .. -/
def isNon : XV → Bool
  | .v .non => true
  | _ => false
theorem isNon_at {W0 W : World} {x : XV} {u : V} (r : RX K W0 W x u) : isNon x = decide (u = .non) := by
  cases x with
  | v p =>
    have r : RV K W p u := r
    cases p <;> unfold RV at r <;> first | (subst r; rfl) | (obtain ⟨_, _, rfl, _⟩ := r; rfl) | (obtain ⟨_, _, rfl⟩ := r; rfl)
  | o c => obtain ⟨a, rfl, _⟩ := r; rfl
  | b c => obtain ⟨a, i, rfl, _⟩ := r; rfl
def fIs : F2 := fun x y _ => match y with
  | .v .non => some (.v (.bl (isNon x)))
  | .v (.bl b) => match x with
    | .v (.bl a) => some (.v (.bl (decide (a = b))))
    | _ => none
  | _ => none
def fIsNot : F2 := fun x y _ => match y with
  | .v .non => some (.v (.bl (!isNon x)))
  | .v (.bl b) => match x with
    | .v (.bl a) => some (.v (.bl (!decide (a = b))))
    | _ => none
  | _ => none
theorem or_is : ∀ X, Good K X → OpR X (compareOp .Is) (fun x y H Q => (y = .non ∧ Q (.bl (decide (x = .non))) H) ∨ rIsB x y H Q) := fun X _ => op_isN.or op_isBl
theorem or_isnot : ∀ X, Good K X → OpR X (compareOp .IsNot) (fun x y H Q => (y = .non ∧ Q (.bl (!decide (x = .non))) H) ∨ rNotB x y H Q) := fun X _ => op_notN.or op_notBl
theorem s_is : SOp2 K (fun x y H Q => (y = .non ∧ Q (.bl (decide (x = .non))) H) ∨ rIsB x y H Q) fIs := ⟨fun W0 W st x y u v z hS rx ry e Q hQ => by
  unfold fIs at e
  split at e
  · cases e
    have r2 : RV K W .non v := ry
    unfold RV at r2
    rw [isNon_at rx] at hQ
    exact .inl ⟨r2, hQ W _ ExtE.refl hS rx_bl⟩
  · rename_i b
    split at e
    · rename_i a
      cases e
      exact .inr ⟨a, b, bl_at rx rfl, bl_at ry rfl, hQ W _ ExtE.refl hS rx_bl⟩
    · cases e
  · cases e⟩
theorem s_isnot : SOp2 K (fun x y H Q => (y = .non ∧ Q (.bl (!decide (x = .non))) H) ∨ rNotB x y H Q) fIsNot := ⟨fun W0 W st x y u v z hS rx ry e Q hQ => by
  unfold fIsNot at e
  split at e
  · cases e
    have r2 : RV K W .non v := ry
    unfold RV at r2
    rw [isNon_at rx] at hQ
    exact .inl ⟨r2, hQ W _ ExtE.refl hS rx_bl⟩
  · rename_i b
    split at e
    · rename_i a
      cases e
      exact .inr ⟨a, b, bl_at rx rfl, bl_at ry rfl, hQ W _ ExtE.refl hS rx_bl⟩
    · cases e
  · cases e⟩
end
end DD
/-! DOps2 -/
namespace DD
open PySem PySem.Spec PyProof.Rows L2

/-! ### dict contents -/
section
variable {κ : Type} [DecidableEq κ] {K : Ctx} {W : World}
def valP (kvs : List (κ × PV)) (k : κ) : Option PV := (kvs.find? fun kv => decide (kv.1 = k)).map (·.2)
def putP (kvs : List (κ × PV)) (k : κ) (v : PV) : List (κ × PV) :=
  if (kvs.any fun kv => decide (kv.1 = k)) = true then kvs.map (fun kv => if kv.1 = k then (kv.1, v) else kv) else kvs ++ [(k, v)]
theorem val_zip : ∀ {kvs : List (κ × PV)} {vs : List V} (k : κ), RVs K W (kvs.map (·.2)) vs →
    (∃ p v, valP kvs k = some p ∧ valV ((kvs.map (·.1)).zip vs) k = some v ∧ RV K W p v) ∨ (valP kvs k = none ∧ valV ((kvs.map (·.1)).zip vs) k = none)
  | [], vs, k, h => .inr ⟨rfl, by cases vs <;> rfl⟩
  | (k1, p1) :: kvs, vs, k, h => by
    obtain ⟨v, r, rfl, h1, h2⟩ := RVs_cons.mp h
    have ih := val_zip k h2
    show (∃ p v', valP ((k1, p1) :: kvs) k = some p ∧ valV ((k1, v) :: ((kvs.map (·.1)).zip r)) k = some v' ∧ RV K W p v') ∨ (valP ((k1, p1) :: kvs) k = none ∧ valV ((k1, v) :: ((kvs.map (·.1)).zip r)) k = none)
    unfold valP valV
    by_cases e : k1 = k
    · rw [List.find?_cons_of_pos (by simp [e]), List.find?_cons_of_pos (by simp [e])]
      exact .inl ⟨p1, v, rfl, rfl, h1⟩
    · rw [List.find?_cons_of_neg (by simp [e]), List.find?_cons_of_neg (by simp [e])]
      exact ih
theorem any_zip : ∀ {kvs : List (κ × PV)} {vs : List V} (k : κ), RVs K W (kvs.map (·.2)) vs → (((kvs.map (·.1)).zip vs).any fun kv => decide (kv.1 = k)) = kvs.any fun kv => decide (kv.1 = k)
  | [], vs, k, h => by cases vs <;> rfl
  | (k1, p1) :: kvs, vs, k, h => by
    obtain ⟨v, r, rfl, h1, h2⟩ := RVs_cons.mp h
    show (((k1, v) :: ((kvs.map (·.1)).zip r)).any fun kv => decide (kv.1 = k)) = _
    rw [List.any_cons, List.any_cons, any_zip k h2]
theorem map_zip : ∀ {kvs : List (κ × PV)} {vs : List V} (k : κ) {p : PV} {v : V}, RVs K W (kvs.map (·.2)) vs → RV K W p v →
    ∃ ws, ((kvs.map (·.1)).zip vs).map (fun kv => if kv.1 = k then (kv.1, v) else kv) = ((kvs.map (fun kv => if kv.1 = k then (kv.1, p) else kv)).map (·.1)).zip ws ∧ RVs K W ((kvs.map (fun kv => if kv.1 = k then (kv.1, p) else kv)).map (·.2)) ws
  | [], vs, k, p, v, h, r => ⟨[], by cases vs <;> rfl, RVs_nil.mpr rfl⟩
  | (k1, p1) :: kvs, vs, k, p, v, h, r => by
    obtain ⟨v1, r1, rfl, h1, h2⟩ := RVs_cons.mp h
    obtain ⟨ws, e, q⟩ := map_zip k h2 r
    by_cases e1 : k1 = k
    · refine ⟨v :: ws, ?_, ?_⟩
      · show (if k1 = k then (k1, v) else (k1, v1)) :: ((kvs.map (·.1)).zip r1).map _ = _
        rw [e]; simp [e1]
      · simp only [List.map_cons, if_pos e1]; exact RVs_cons'.mpr ⟨r, q⟩
    · refine ⟨v1 :: ws, ?_, ?_⟩
      · show (if k1 = k then (k1, v) else (k1, v1)) :: ((kvs.map (·.1)).zip r1).map _ = _
        rw [e]; simp [e1]
      · simp only [List.map_cons, if_neg e1]; exact RVs_cons'.mpr ⟨h1, q⟩
theorem put_zip {kvs : List (κ × PV)} {vs : List V} (k : κ) {p : PV} {v : V} (h : RVs K W (kvs.map (·.2)) vs) (r : RV K W p v) :
    ∃ ws, putK ((kvs.map (·.1)).zip vs) k v = ((putP kvs k p).map (·.1)).zip ws ∧ RVs K W ((putP kvs k p).map (·.2)) ws := by
  unfold putK putP
  rw [any_zip k h]
  by_cases e : (kvs.any fun kv => decide (kv.1 = k)) = true
  · rw [if_pos e, if_pos e]; exact map_zip k h r
  · rw [if_neg e, if_neg e]
    refine ⟨vs ++ [v], ?_, ?_⟩
    · rw [List.map_append, List.zip_append (by have := RVs_len h; simpa using this)]; rfl
    · rw [List.map_append]; exact RVs_append h (RVs_cons'.mpr ⟨r, RVs_nil.mpr rfl⟩)
theorem zip_len {kvs : List (κ × PV)} {vs : List V} (h : RVs K W (kvs.map (·.2)) vs) : ((kvs.map (·.1)).zip vs).length = kvs.length := by
  have := RVs_len h
  simp at this
  simp [← this]
end
def PV.key : PV → Option Key
  | .int i => some (.inl i)
  | .str s => some (.inr s)
  | _ => none
def keys? : List PV → Option (List Key)
  | [] => some []
  | p :: ps => p.key.bind fun k => (keys? ps).map fun ks => k :: ks
def PV.keyT : PV → Option (List Key)
  | .tup xs => keys? xs
  | _ => none
section
variable {K : Ctx} {W : World}
theorem key_at {p : PV} {v : V} {k : Key} (r : RV K W p v) (e : p.key = some k) : v = kV k := by
  cases p <;> first | (cases e; unfold RV at r; exact r) | cases e
theorem keys_at : ∀ {ps : List PV} {vs : List V} {ks : List Key}, RVs K W ps vs → keys? ps = some ks → vs = ks.map kV
  | [], vs, ks, r, e => by cases e; exact RVs_nil.mp r
  | p :: ps, vs, ks, r, e => by
    unfold keys? at e
    obtain ⟨k, e1, e⟩ := Option.bind_eq_some_iff.mp e
    obtain ⟨ks', e2, e⟩ := Option.map_eq_some_iff.mp e
    cases e
    obtain ⟨v, r', rfl, h1, h2⟩ := RVs_cons.mp r
    rw [key_at h1 e1, keys_at h2 e2]; rfl
theorem keyT_at {p : PV} {v : V} {ks : List Key} (r : RV K W p v) (e : p.keyT = some ks) : ∃ b, v = .ref b ∧ W.H b = some (.tup (ks.map kV)) := by
  cases p <;> first | (unfold PV.keyT at e; unfold RV at r; obtain ⟨a, vs, h1, h2, h3, h4⟩ := r; rw [keys_at h4 e] at h3; exact ⟨a, h1, h3⟩) | cases e
/-- a dict's content -/
def XV.dic (st : MS) : XV → Option Cont
  | .v (.fK ks xs) => if ks.length = xs.length then some (.dK (ks.zip xs)) else none
  | .v (.fT ks xs) => if ks.length = xs.length then some (.dT (ks.zip xs)) else none
  | .o (.dK kvs) => some (.dK kvs)
  | .o (.dT kvs) => some (.dT kvs)
  | .b (.dK kvs) => some (.dK kvs)
  | .b (.dT kvs) => some (.dT kvs)
  | .v (.obj n) => st[n]?
  | _ => none
theorem zip_fst {α β : Type} : ∀ {ks : List α} {xs : List β}, ks.length = xs.length → (ks.zip xs).map (·.1) = ks
  | [], _, _ => rfl
  | _ :: _, [], h => nomatch h
  | k :: ks, x :: xs, h => by rw [List.zip_cons_cons, List.map_cons, zip_fst (Nat.succ.inj h)]
theorem zip_snd {α β : Type} : ∀ {ks : List α} {xs : List β}, ks.length = xs.length → (ks.zip xs).map (·.2) = xs
  | [], [], _ => rfl
  | [], _ :: _, h => nomatch h
  | _ :: _, [], h => nomatch h
  | k :: ks, x :: xs, h => by rw [List.zip_cons_cons, List.map_cons, zip_snd (Nat.succ.inj h)]
/-- a dict read -/
def DicAt (K : Ctx) (W : World) (a : Addr) : Cont → Prop
  | .dK kvs => ∃ vs, Rd W.H a (.dK ((kvs.map (·.1)).zip vs)) ∧ RVs K W (kvs.map (·.2)) vs
  | .dT kvs => ∃ vs, Rd W.H a (.dT ((kvs.map (·.1)).zip vs)) ∧ RVs K W (kvs.map (·.2)) vs
  | _ => True
theorem CtAt.dic {a : Addr} {c : Cont} (h : CtAt K W a c) : DicAt K W a c := by
  cases c with
  | dK kvs => obtain ⟨vs, h1, h2⟩ := h; exact ⟨vs, .inl h1, h2⟩
  | dT kvs => obtain ⟨vs, h1, h2⟩ := h; exact ⟨vs, .inl h1, h2⟩
  | _ => trivial
theorem dic_at {W0 : World} {st : MS} {x : XV} {u : V} {c : Cont} (hS : RSt K W st) (r : RX K W0 W x u) (e : x.dic st = some c) : ∃ a, u = .ref a ∧ DicAt K W a c := by
  cases x with
  | v p =>
    cases p with
    | obj n =>
      obtain ⟨a, h1, _, h3⟩ := obj_ct hS e r
      exact ⟨a, h1, h3.dic⟩
    | fK ks xs =>
      have e : (if ks.length = xs.length then some (Cont.dK (ks.zip xs)) else none) = some c := e
      split at e
      · rename_i hl
        cases e
        have r : RV K W (.fK ks xs) u := r
        unfold RV at r
        obtain ⟨a, vs, h1, h2, h3, h4⟩ := r
        exact ⟨a, h1, vs, by rw [zip_fst hl]; exact h3, by rw [zip_snd hl]; exact h4⟩
      · cases e
    | fT ks xs =>
      have e : (if ks.length = xs.length then some (Cont.dT (ks.zip xs)) else none) = some c := e
      split at e
      · rename_i hl
        cases e
        have r : RV K W (.fT ks xs) u := r
        unfold RV at r
        obtain ⟨a, vs, h1, h2, h3, h4⟩ := r
        exact ⟨a, h1, vs, by rw [zip_fst hl]; exact h3, by rw [zip_snd hl]; exact h4⟩
      · cases e
    | _ => cases e
  | o c' =>
    obtain ⟨a, h1, h2, _⟩ := r
    cases c' <;> first | (cases e; exact ⟨a, h1, h2.dic⟩) | cases e
  | b c' =>
    obtain ⟨a, i, h1, h2, _⟩ := r
    cases c' <;> first | (cases e; exact ⟨a, h1, h2.dic⟩) | cases e
/-- what a dict holds at a value -/
def dicGet (c : Cont) (x : XV) : Option (Option PV) := match c, x with
  | .dK kvs, .v p => p.key.map fun k => valP kvs k
  | .dT kvs, .v p => p.keyT.map fun k => valP kvs k
  | _, _ => none
theorem dicGet_at {W0 : World} {st : MS} {x y : XV} {u v : V} {c : Cont} {r : Option PV} (hS : RSt K W st) (rx : RX K W0 W x u) (ry : RX K W0 W y v) (e : x.dic st = some c) (g : dicGet c y = some r) :
    ∃ a o, u = .ref a ∧ DGet W.H a v o ∧ ((r = none ∧ o = none) ∨ ∃ p w, r = some p ∧ o = some w ∧ RV K W p w) := by
  obtain ⟨a, rfl, hc⟩ := dic_at hS rx e
  unfold dicGet at g
  split at g
  · rename_i kvs p
    obtain ⟨k, e1, g⟩ := Option.map_eq_some_iff.mp g
    cases g
    obtain ⟨vs, h1, h2⟩ := hc
    have ek := key_at ry e1
    subst ek
    refine ⟨a, _, rfl, .inl ⟨_, k, h1, rfl, rfl⟩, ?_⟩
    rcases val_zip k h2 with ⟨q, w, q1, q2, q3⟩ | ⟨q1, q2⟩
    · exact .inr ⟨q, w, q1, q2, q3⟩
    · exact .inl ⟨q1, q2⟩
  · rename_i kvs p
    obtain ⟨k, e1, g⟩ := Option.map_eq_some_iff.mp g
    cases g
    obtain ⟨vs, h1, h2⟩ := hc
    obtain ⟨b, rfl, eb⟩ := keyT_at ry e1
    refine ⟨a, _, rfl, .inr ⟨_, k, b, h1, rfl, eb, rfl⟩, ?_⟩
    rcases val_zip k h2 with ⟨q, w, q1, q2, q3⟩ | ⟨q1, q2⟩
    · exact .inr ⟨q, w, q1, q2, q3⟩
    · exact .inl ⟨q1, q2⟩
  · cases g

/-! ### in, not in -/
theorem op_inTD {X : Cx} (hu : X.A.units + 65 < cLine) : OpR X (compareOp .In) (fun x y H Q => ∃ d ds, Dp X.K H x d ∧ Dp X.K H y (.tuple ds) ∧ SeqAt.shaped d = true ∧ SeqAt.shaped (.tuple ds) = true ∧ Q (.bl (ds.any fun z => PyData.eqv z d)) H) := by
  intro pins s σ H x y v u Q I rx ry h
  obtain ⟨d, ds, hd, he, sd, se, q⟩ := h
  obtain ⟨as, r1⟩ := Dp.reads I d x v hd rx
  obtain ⟨bs, r2⟩ := Dp.reads I (.tuple ds) y u he ry
  exact SeqAt.in_tuple_reads r2 r1 (SeqAt.canLay_of_shaped se) (SeqAt.canLay_of_shaped sd) (room_in_shaped sd hu) ⟨.bl _, H, I, rfl, q⟩
theorem op_notInTD {X : Cx} (hu : X.A.units + 65 < cLine) : OpR X (compareOp .NotIn) (fun x y H Q => ∃ d ds, Dp X.K H x d ∧ Dp X.K H y (.tuple ds) ∧ SeqAt.shaped d = true ∧ SeqAt.shaped (.tuple ds) = true ∧ Q (.bl (!ds.any fun z => PyData.eqv z d)) H) := by
  intro pins s σ H x y v u Q I rx ry h
  obtain ⟨d, ds, hd, he, sd, se, q⟩ := h
  obtain ⟨as, r1⟩ := Dp.reads I d x v hd rx
  obtain ⟨bs, r2⟩ := Dp.reads I (.tuple ds) y u he ry
  exact SeqAt.notIn_tuple_reads r2 r1 (SeqAt.canLay_of_shaped se) (SeqAt.canLay_of_shaped sd) (room_in_shaped sd hu) ⟨.bl _, H, I, rfl, q⟩
theorem op_inDic {X : Cx} (hu : X.A.units + 1 < cLine) : OpR X (compareOp .In) (fun y x H Q => ∃ a o, x = .ref a ∧ DGet H a y o ∧ Q (.bl o.isSome) H) := by
  intro pins s σ H y x v u Q I ry rx h
  obtain ⟨a, o, rfl, g, q⟩ := h
  cases rx
  exact d_in hu I g ry fun s' I' => ⟨.bl o.isSome, H, I', rfl, q⟩
theorem op_notInDic {X : Cx} (hu : X.A.units + 1 < cLine) : OpR X (compareOp .NotIn) (fun y x H Q => ∃ a o, x = .ref a ∧ DGet H a y o ∧ Q (.bl (!o.isSome)) H) := by
  intro pins s σ H y x v u Q I ry rx h
  obtain ⟨a, o, rfl, g, q⟩ := h
  cases rx
  exact d_notIn hu I g ry fun s' I' => ⟨.bl (!o.isSome), H, I', rfl, q⟩
/-- one sign in a text -/
def sign? (s : Str) : Option Nat := match s.cps.toList with
  | [c] => some c
  | _ => none
theorem sign_eq {s : Str} {c : Nat} (e : sign? s = some c) : s = ⟨#[c]⟩ := by
  unfold sign? at e
  split at e
  · rename_i h
    cases e
    obtain ⟨⟨l⟩⟩ := s
    have h : l = [c] := h
    rw [h]
  · cases e
def inSeq (neg : Bool) (d : PyData) (ds : List PyData) : Option XV := if SeqAt.shaped d = true ∧ SeqAt.shaped (.list ds) = true then some (.v (.bl (if neg then !ds.any (fun z => PyData.eqv z d) else ds.any fun z => PyData.eqv z d))) else none
def fIn (neg : Bool) : F2 := fun x y st => match x, y with
  | .v (.str s), .v (.str z) => (sign? s).map fun c => .v (.bl (if neg then !decide (c ∈ z.cps.toList) else decide (c ∈ z.cps.toList)))
  | x, y => match y.dat st with
    | some (.list ds) => (x.dat st).bind fun d => inSeq neg d ds
    | some (.tuple ds) => (x.dat st).bind fun d => inSeq neg d ds
    | _ => (y.dic st).bind fun c => (dicGet c x).map fun r => .v (.bl (if neg then !r.isSome else r.isSome))
def rIn' (K : Ctx) : R2 := fun x y H Q => ((rInD K.K x y H Q ∨ (∃ d ds, Dp K.K H x d ∧ Dp K.K H y (.tuple ds) ∧ SeqAt.shaped d = true ∧ SeqAt.shaped (.tuple ds) = true ∧ Q (.bl (ds.any fun z => PyData.eqv z d)) H)) ∨
  (∃ (c : Nat) (z : Str), x = .str ⟨#[c]⟩ ∧ y = .str z ∧ Q (.bl (decide (c ∈ z.cps.toList))) H)) ∨ (∃ a o, y = .ref a ∧ DGet H a x o ∧ Q (.bl o.isSome) H)
def rNotIn' (K : Ctx) : R2 := fun x y H Q => ((rNotInD K.K x y H Q ∨ (∃ d ds, Dp K.K H x d ∧ Dp K.K H y (.tuple ds) ∧ SeqAt.shaped d = true ∧ SeqAt.shaped (.tuple ds) = true ∧ Q (.bl (!ds.any fun z => PyData.eqv z d)) H)) ∨
  (∃ (c : Nat) (z : Str), x = .str ⟨#[c]⟩ ∧ y = .str z ∧ Q (.bl (!decide (c ∈ z.cps.toList))) H)) ∨ (∃ a o, y = .ref a ∧ DGet H a x o ∧ Q (.bl (!o.isSome)) H)
theorem or_in : ∀ X, Good K X → OpR X (compareOp .In) (rIn' K) := fun X g =>
  (((g.K ▸ op_inD (by have := g.un; omega)).or (g.K ▸ op_inTD (by have := g.un; omega))).or op_in_sign).or (op_inDic (by have := g.un; omega))
theorem or_notin : ∀ X, Good K X → OpR X (compareOp .NotIn) (rNotIn' K) := fun X g =>
  (((g.K ▸ op_notInD (by have := g.un; omega)).or (g.K ▸ op_notInTD (by have := g.un; omega))).or op_notIn_sign).or (op_notInDic (by have := g.un; omega))
theorem shaped_lt {ds : List PyData} : SeqAt.shaped (.tuple ds) = SeqAt.shaped (.list ds) := by
  unfold SeqAt.shaped PyData.canLay0 PyData.depth
  rfl
theorem s_in : SOp2 K (rIn' K) (fIn false) := ⟨fun W0 W st x y u v z hS rx ry e Q hQ => by
  unfold fIn at e
  split at e
  · rename_i s zz
    obtain ⟨c, e1, e⟩ := Option.map_eq_some_iff.mp e
    cases e
    have r1 : RV K W (.str s) u := rx
    have r2 : RV K W (.str zz) v := ry
    unfold RV at r1 r2
    rw [sign_eq e1] at r1
    exact .inl (.inr ⟨c, zz, r1, r2, hQ W _ ExtE.refl hS rx_bl⟩)
  · split at e
    · rename_i ds h1
      obtain ⟨d, e1, e⟩ := Option.bind_eq_some_iff.mp e
      unfold inSeq at e
      split at e
      · rename_i hs
        cases e
        exact .inl (.inl (.inl ⟨d, ds, xdat_dp hS rx e1, xdat_dp hS ry h1, hs.1, hs.2, hQ W _ ExtE.refl hS rx_bl⟩))
      · cases e
    · rename_i ds h1
      obtain ⟨d, e1, e⟩ := Option.bind_eq_some_iff.mp e
      unfold inSeq at e
      split at e
      · rename_i hs
        cases e
        exact .inl (.inl (.inr ⟨d, ds, xdat_dp hS rx e1, xdat_dp hS ry h1, hs.1, by rw [shaped_lt]; exact hs.2, hQ W _ ExtE.refl hS rx_bl⟩))
      · cases e
    · obtain ⟨c, e1, e⟩ := Option.bind_eq_some_iff.mp e
      obtain ⟨r, e2, e⟩ := Option.map_eq_some_iff.mp e
      cases e
      obtain ⟨a, o, h1, h2, h3⟩ := dicGet_at hS ry rx e1 e2
      refine .inr ⟨a, o, h1, h2, ?_⟩
      have : r.isSome = o.isSome := by
        rcases h3 with ⟨rfl, rfl⟩ | ⟨p, w, rfl, rfl, _⟩ <;> rfl
      rw [← this]
      exact hQ W _ ExtE.refl hS rx_bl⟩
theorem s_notin : SOp2 K (rNotIn' K) (fIn true) := ⟨fun W0 W st x y u v z hS rx ry e Q hQ => by
  unfold fIn at e
  split at e
  · rename_i s zz
    obtain ⟨c, e1, e⟩ := Option.map_eq_some_iff.mp e
    cases e
    have r1 : RV K W (.str s) u := rx
    have r2 : RV K W (.str zz) v := ry
    unfold RV at r1 r2
    rw [sign_eq e1] at r1
    exact .inl (.inr ⟨c, zz, r1, r2, hQ W _ ExtE.refl hS rx_bl⟩)
  · split at e
    · rename_i ds h1
      obtain ⟨d, e1, e⟩ := Option.bind_eq_some_iff.mp e
      unfold inSeq at e
      split at e
      · rename_i hs
        cases e
        exact .inl (.inl (.inl ⟨d, ds, xdat_dp hS rx e1, xdat_dp hS ry h1, hs.1, hs.2, hQ W _ ExtE.refl hS rx_bl⟩))
      · cases e
    · rename_i ds h1
      obtain ⟨d, e1, e⟩ := Option.bind_eq_some_iff.mp e
      unfold inSeq at e
      split at e
      · rename_i hs
        cases e
        exact .inl (.inl (.inr ⟨d, ds, xdat_dp hS rx e1, xdat_dp hS ry h1, hs.1, by rw [shaped_lt]; exact hs.2, hQ W _ ExtE.refl hS rx_bl⟩))
      · cases e
    · obtain ⟨c, e1, e⟩ := Option.bind_eq_some_iff.mp e
      obtain ⟨r, e2, e⟩ := Option.map_eq_some_iff.mp e
      cases e
      obtain ⟨a, o, h1, h2, h3⟩ := dicGet_at hS ry rx e1 e2
      refine .inr ⟨a, o, h1, h2, ?_⟩
      have : r.isSome = o.isSome := by
        rcases h3 with ⟨rfl, rfl⟩ | ⟨p, w, rfl, rfl, _⟩ <;> rfl
      rw [← this]
      exact hQ W _ ExtE.refl hS rx_bl⟩

/-! ### o[i] -/
theorem ix_dic {X : Cx} (hu : X.A.units + 1 < cLine) : IxR X (fun x y H Q => ∃ a v, x = .ref a ∧ DGet H a y (some v) ∧ Q v H) := by
  intro value slice pins s σ H x y v u Q I rx ry h hs
  obtain ⟨a, z, rfl, g, q⟩ := h
  cases rx
  exact tail_any (dict_typeIs I g) PySem.F.slot_dict_getitem.lookup (d_getItem hu I g ry fun w' s3 I3 rw' => ⟨z, H, I3, rw', q⟩) hs
theorem atI_rv {xs : List PV} {vs : List V} {i : Int} {p : PV} (h : RVs K W xs vs) (e : atI xs i = some p) : ∃ v, atI vs i = some v ∧ RV K W p v := by
  unfold atI at e ⊢
  rw [← RVs_len h]
  obtain ⟨j, e1, e2⟩ := Option.bind_eq_some_iff.mp e
  obtain ⟨v, g1, g2⟩ := RVs_get h e2
  exact ⟨v, by rw [e1]; exact g1, g2⟩
def fIx : F2 := fun x y st => match x with
  | .v (.str s) => y.int.bind fun i => if s.length ≤ sizeLine then (atI s.cps.toList i).map fun c => .v (.str ⟨#[c]⟩) else none
  | x => match x.lst st with
    | some xs => y.int.bind fun i => (atI xs i).map .v
    | none => match x.tup with
      | some xs => y.int.bind fun i => (atI xs i).map .v
      | none => (x.dic st).bind fun c => (dicGet c y).bind fun r => r.map .v
def rIx' (K : Ctx) : R2 := fun x y H Q => rIx K.K x y H Q ∨ ∃ a v, x = .ref a ∧ DGet H a y (some v) ∧ Q v H
theorem or_ix : ∀ X, Good K X → IxR X (rIx' K) := fun X g => (g.K ▸ ix_seq).or (ix_dic (by have := g.un; omega))
theorem s_ix : SOp2 K (rIx' K) fIx := ⟨fun W0 W st x y u v z hS rx ry e Q hQ => by
  unfold fIx at e
  split at e
  · rename_i s
    obtain ⟨i, e1, e⟩ := Option.bind_eq_some_iff.mp e
    split at e
    · rename_i hl
      obtain ⟨c, e2, e⟩ := Option.map_eq_some_iff.mp e
      cases e
      have r1 : RV K W (.str s) u := rx
      unfold RV at r1
      exact .inl (.inr (.inr ⟨s, i, c, r1, int_at ry e1, hl, e2, hQ W _ ExtE.refl hS rx_str⟩))
    · cases e
  · split at e
    · rename_i xs h1
      obtain ⟨i, e1, e⟩ := Option.bind_eq_some_iff.mp e
      obtain ⟨p, e2, e⟩ := Option.map_eq_some_iff.mp e
      cases e
      obtain ⟨a, vs, h2, h3, h4⟩ := lst_at hS rx h1
      obtain ⟨w, g1, g2⟩ := atI_rv h4 e2
      exact .inl (.inl ⟨a, vs, i, w, h2, int_at ry e1, h3, g1, hQ W w ExtE.refl hS g2⟩)
    · split at e
      · rename_i xs h1
        obtain ⟨i, e1, e⟩ := Option.bind_eq_some_iff.mp e
        obtain ⟨p, e2, e⟩ := Option.map_eq_some_iff.mp e
        cases e
        obtain ⟨a, vs, h2, h3, h4⟩ := tup_at rx h1
        obtain ⟨w, g1, g2⟩ := atI_rv h4 e2
        exact .inl (.inr (.inl ⟨a, vs, i, w, h2, int_at ry e1, h3, g1, hQ W w ExtE.refl hS g2⟩))
      · obtain ⟨c, e1, e⟩ := Option.bind_eq_some_iff.mp e
        obtain ⟨r, e2, e⟩ := Option.bind_eq_some_iff.mp e
        obtain ⟨p, e3, e⟩ := Option.map_eq_some_iff.mp e
        cases e
        subst e3
        obtain ⟨a, o, h1, h2, h3⟩ := dicGet_at hS rx ry e1 e2
        rcases h3 with ⟨h3, _⟩ | ⟨p', w, h3, rfl, h4⟩
        · cases h3
        · cases h3
          exact .inr ⟨a, w, h1, h2, hQ W w ExtE.refl hS h4⟩⟩
theorem e_ix' {Γ : Ctx} {X : Cx} {a b : Expr} {ta tb : TE} {da db : DX} {pos : Pos} (ha : EX Γ X a ta da) (hb : EX Γ X b tb db) (hp : PlainIx b := by intro _ _; rfl) : EX Γ X (.Subscript a b pos) (tOp (rIx' Γ) ta tb) (xBin fIx da db) := e_ix or_ix s_ix ha hb hp

/-! ### slices -/
abbrev DO := DEnv → MS → Option (Option Int × MS)
structure SndO (K : Ctx) (t : TO) (d : DO) : Prop where
  run : ∀ W env σ st x st', REn K W env σ → RSt K W st → d env st = some (x, st') → ∀ Q : Option Int → Hp → Prop, (∀ W', ExtE W W' → RSt K W' st' → Q x W'.H) → t σ W.H Q
structure EO (Γ : Ctx) (X : Cx) (e : Option Expr) (t : TO) (d : DO) : Prop where
  pe : Good Γ X → PO X e t
  snd : SndO Γ t d
def oNone : DO := fun _ st => some (none, st)
def oSome (a : DX) : DO := fun env st => (a env st).bind fun r => r.1.int.map fun i => (some i, r.2)
theorem o_none {X : Cx} : EO K X none tNoPart oNone := ⟨fun _ => po_none, ⟨fun W env σ st x st' hE hS hd Q hQ => by cases hd; exact hQ W ExtE.refl hS⟩⟩
theorem o_some {X : Cx} {e : Expr} {t : TE} {d : DX} (h : EX K X e t d) : EO K X (some e) (tPart t) (oSome d) := ⟨fun g => po_some (h.pe g), ⟨fun W env σ st x st' hE hS hd Q hQ => by
  unfold oSome at hd
  obtain ⟨⟨x1, st1⟩, e1, hd⟩ := Option.bind_eq_some_iff.mp hd
  obtain ⟨i, e2, hd⟩ := Option.map_eq_some_iff.mp hd
  cases hd
  exact h.snd.run W env σ st x1 _ hE hS e1 _ fun W1 u E1 S1 R1 => ⟨i, int_at R1 e2, hQ W1 E1 S1⟩⟩⟩
def cutP (xs : List PV) (lo hi : Option Int) : List PV := (xs.drop (HT.sIx xs.length 0 lo)).take (HT.sIx xs.length xs.length hi - HT.sIx xs.length 0 lo)
theorem cut_rv {xs : List PV} {vs : List V} {lo hi : Option Int} (h : RVs K W xs vs) : RVs K W (cutP xs lo hi) (cutV vs lo hi) := by
  unfold cutP cutV
  rw [RVs_len h]
  exact RVs_take _ (RVs_drop _ h)
def fSl (x : XV) (lo hi : Option Int) (st : MS) : Option XV := match x with
  | .v (.tup xs) => some (.v (.tup (cutP xs lo hi)))
  | x => (x.lst st).map fun xs => .o (.lst (cutP xs lo hi))
def xSl (a : DX) (lo hi : DO) : DX := fun env st => (a env st).bind fun r => (lo env r.2).bind fun l => (hi env l.2).bind fun h => (fSl r.1 l.1 h.1 h.2).map fun z => (z, h.2)
def rSl' (K : Ctx) : V → Option Int → Option Int → Hp → VK → Prop := fun x lo hi H Q => rSlA K.K x lo hi H Q ∨ rSlL K.K x lo hi H Q
theorem or_sl : ∀ X, Good K X → SlR X (rSl' K) := fun X g => (g.K ▸ sl_tupA).or (g.K ▸ sl_list)
theorem take_all {xs : List PV} {lo hi : Option Int} (h : HT.sIx xs.length 0 lo = 0 ∧ HT.sIx xs.length xs.length hi = xs.length) : cutP xs lo hi = xs := by
  unfold cutP
  rw [h.1, h.2]
  simp
theorem e_slice {X : Cx} {e : Expr} {te : TE} {de : DX} {lo hi : Option Expr} {tl th : TO} {dl dh : DO} {p2 pos : Pos} (he : EX K X e te de) (hl : EO K X lo tl dl) (hh : EO K X hi th dh) : EX K X (.Subscript e (.Slice lo hi none p2) pos) (tSl (rSl' K) te tl th) (xSl de dl dh) :=
  ⟨fun g => pe_slice (or_sl X g) (he.pe g) (hl.pe g) (hh.pe g), ⟨fun W env σ st x st' hE hS hd Q hQ => by
  unfold xSl at hd
  obtain ⟨⟨x1, st1⟩, e1, hd⟩ := Option.bind_eq_some_iff.mp hd
  obtain ⟨⟨l, st2⟩, e2, hd⟩ := Option.bind_eq_some_iff.mp hd
  obtain ⟨⟨h, st3⟩, e3, hd⟩ := Option.bind_eq_some_iff.mp hd
  obtain ⟨z, e4, hd⟩ := Option.map_eq_some_iff.mp hd
  cases hd
  refine he.snd.run W env σ st x1 st1 hE hS e1 _ fun W1 u E1 S1 R1 => ?_
  refine hl.snd.run W1 env σ st1 l st2 (hE.ext E1) S1 e2 _ fun W2 E2 S2 => ?_
  refine hh.snd.run W2 env σ st2 h st3 (hE.ext (E1.trans E2)) S2 e3 _ fun W3 E3 S3 => ?_
  have R3 := (R1.ext E2).ext E3
  have E := (E1.trans E2).trans E3
  have e4 : fSl x1 l h st3 = some x := e4
  unfold fSl at e4
  split at e4
  · cases e4
    obtain ⟨a, vs, rfl, a2, a3⟩ := tup_at R3 rfl
    refine .inl ⟨a, vs, rfl, a2, fun hw => ?_, fun hw p hp => ?_⟩
    · rw [take_all (by rw [RVs_len a3]; exact hw)] at hQ
      exact hQ W3 _ E S3 R3
    · obtain ⟨W', E4, S4, R4, eH⟩ := new_tup S3 (cut_rv a3 (lo := l) (hi := h)) hp
      rw [← eH]
      exact hQ W' _ (E.trans E4) S4 R4
  · obtain ⟨xs, e5, e4⟩ := Option.map_eq_some_iff.mp e4
    cases e4
    obtain ⟨a, vs, rfl, a2, a3⟩ := lst_at S3 R3 e5
    refine .inr ⟨a, vs, rfl, a2, fun p hp => ?_⟩
    obtain ⟨W', E4, S4, R4, eH⟩ := new_lst S3 (cut_rv a3 (lo := l) (hi := h)) hp
    rw [← eH]
    exact hQ W' _ (E.trans E4) S4 (R4.back E.toExt)⟩⟩
end
end DD
/-! DSet -/
namespace DD
open PySem PySem.Spec PyProof.Rows L2
/-- a set just made -/
def es0 (w : PySem.World) : Obj := { cls := .type "set", dict := none, data := .set #[] 0 (.fresh 0 0 (!w.params.followText "set-order")) }
section
variable {P : Program} {w : PySem.World} {A : Around} {E : Value → Shared → Prop} {s : Shared}
/-- set(l), l a list of ints -/
theorem set_of_list {l : Addr} {its : Array Value} (ns : List Int) {Q : Value → Shared → Prop} (hh : A.handled = none) (hl : s.heap.IsList l its) (hi : IntsAre its.toList ns) (hb : ns.length + 1 < scanBound)
    (h : ∀ (h' : Heap) (tk c : Nat), SetR w h' s.heap.objs.size (fun j => decide (j ∈ ns)) c → c ≤ ns.length → (∀ b o, s.heap.get? b = some o → h'.get? b = some o) → Q (.ref s.heap.objs.size) { s with heap := h', toks := tk }) :
    wpAny (model P w) A (call (.type "set") [.ref l]) Q E s := by
  have hz : its.size = ns.length := by have q := IntsAre.length hi; rwa [Array.length_toList] at q
  have ⟨c, tl, hmro⟩ := F.called_set.mro
  have g1 := F.called_set.made
  have g2 := F.called_set.sub
  refine wpAny_call (codeAny_of_tree ?_); show wpAny _ _ (callAny (.type "set") _) _ _ _
  refine wpAny_pure ⟨Code.quiet_builtin _ (by decide +kernel), codeAny_builtin F.entry_type_call ?_⟩
  rw [Around.under_plain (weight_type_call_type "set" [.ref l] []) rfl]
  have g3 := F.called_set.notType; have g4 := F.called_set.canCreate; have g5 := F.typeCall_set_1 (.ref l)
  repeat (any_goals (first | assumption | wp_step))
  refine codeAny_mono (code_set_led1 (.ref l) (E := E) (Q₁ := fun ob z => ob = .ref s.heap.objs.size ∧ z = { s with heap := s.heap.push (es0 w) }) ⟨rfl, rfl⟩) fun r z hr => ?_
  cases r with
  | error e => exact hr
  | ok fl => cases fl with
    | ret ob =>
      obtain ⟨rfl, rfl⟩ := hr
      have hS : (s.heap.push (es0 w)).get? s.heap.objs.size = some (es0 w) := Heap.get?_push_size _ rfl
      have hT : Shared.TypeIs { s with heap := s.heap.push (es0 w) } (.ref s.heap.objs.size) "set" := ⟨_, hS, rfl⟩
      have g6 := F.called_set.init.lookup; have g7 := F.called_set.init.bind (.ref s.heap.objs.size)
      repeat (any_goals (first | assumption | wp_step))
      refine codeAny_mono (codeAny_call_builtin (R := wants (fun r z => r = .none ∧ ∃ h' tk c, z = { s with heap := h', toks := tk } ∧ SetR w h' s.heap.objs.size (fun j => decide (j ∈ ns)) c ∧ c ≤ ns.length ∧ (∀ b o, s.heap.get? b = some o → h'.get? b = some o)) E)
        F.called_set.init.plain F.entry_set_init (check_set_init_1 hT ?_)) fun r2 z2 hr2 => ?_
      · obtain ⟨⟨oc, od, odt, osl⟩, hol, hcl, nl, hdl⟩ := id hl
        simp only at hcl hdl
        subst hcl; subst hdl
        have hol2 : (s.heap.push (es0 w)).get? l = some { cls := .type "list", dict := od, data := .seq its nl, slots := osl } := Heap.get?_push_of_some _ hol
        have g8 := F.sub_list_set; have g9 := F.sub_list_frozenset
        have ne : (Value.type "list" == Value.type "dict") = false := by decide
        have hl1 : (s.heap.push (es0 w)).IsList l its := hl.push _
        unfold Builtin.«set.__init__» noKeywords Builtin.Frozenset.updateFrom
        generalize hPI : pyIter = PI
        wp_walk
        subst hPI
        refine wpAny_pyIter_list hl1 (wpAny_bind (wpAny_runValue ?_))
        have lS : l < s.heap.objs.size := Heap.lt_size hol
        have h3 : A.in1.in1.in1.handled = none := by simp [hh]
        have z1 : (s.heap.push (es0 w)).objs.size = s.heap.objs.size + 1 := Heap.size_push ..
        have nI : l ≠ (s.heap.push (es0 w)).objs.size := by rw [z1]; exact Nat.ne_of_lt (Nat.lt_succ_of_lt lS)
        have sf : s.heap.objs.size ∉ [(s.heap.push (es0 w)).objs.size, l] := by
          rw [z1]; simp only [List.mem_cons, List.not_mem_nil, or_false, not_or]; exact ⟨Nat.ne_of_lt (Nat.lt_succ_self _), Nat.ne_of_gt lS⟩
        have hval : ∀ (i : Nat) (v : Value), its[i]? = some v → ∃ k t, ns[i]? = some k ∧ v = .int k t := fun i v hv => by
          have hi' : i < ns.length := by rw [← hz]; exact (Array.getElem?_eq_some_iff.mp hv).1
          obtain ⟨t, e⟩ := PyProof.Rows.IntsAre.int_at hi i v (by rw [Array.getElem?_toList]; exact hv)
          refine ⟨ns[i], t, List.getElem?_eq_getElem hi', ?_⟩
          rw [e, List.getD_eq_getElem?_getD, List.getElem?_eq_getElem hi'] <;> rfl
        refine set_update_ints ((Walks.list h3 _ l nI its).toS) s.heap.objs.size sf ns hz hb hval (its.size - 0) 0 _ (by omega) (Nat.zero_le _) ⟨⟨_, Heap.get?_push_size _ rfl, rfl, rfl⟩, (hl1.push _)⟩ ?beg7 ?end7
        case beg7 => exact ⟨0, Nat.le_refl 0, setR_new_at (Heap.get?_push_of_some _ hS)⟩
        case end7 =>
          intro z c' hm hc hS'
          obtain ⟨h', gn, dr, tk, os⟩ := z
          have eg : gn = s.gens := hm.gens
          have ed : dr = s.drawn := hm.drawn
          have eo : os = s.os := hm.os
          subst eg ed eo
          show wpAny _ _ _ _ _ _
          refine wpAny_pure ?_
          show wpAny _ _ (ret Value.none) _ _ _
          refine wpAny_pure ⟨rfl, h', tk, c', rfl, hS', by rw [← hz]; exact hc, fun b o e => ?_⟩
          have b0 : b < s.heap.objs.size := Heap.lt_size e
          refine hm.heap b o ?_ (Heap.get?_push_of_some _ (Heap.get?_push_of_some _ e))
          rw [z1]; simp only [List.mem_cons, List.not_mem_nil, or_false, not_or]; exact ⟨Nat.ne_of_lt b0, Nat.ne_of_lt (Nat.lt_succ_of_lt b0)⟩
      · cases r2 with
        | error e => exact hr2
        | ok f2 => cases f2 with
          | ret r =>
            obtain ⟨rfl, h', tk, c', rfl, q1, q2, q3⟩ := hr2
            repeat (any_goals (first | assumption | wp_step))
            exact h _ _ _ q1 q2 q3
          | _ => exact hr2.elim
    | _ => exact hr.elim
end
/-- each item once -/
def ddI : List Int → List Int
  | [] => []
  | a :: r => a :: (ddI r).filter fun x => decide (x ≠ a)
theorem mem_ddI : ∀ {l : List Int} {x : Int}, x ∈ ddI l ↔ x ∈ l
  | [], x => Iff.rfl
  | a :: r, x => by
    unfold ddI
    rw [List.mem_cons, List.mem_cons, List.mem_filter, mem_ddI (l := r)]
    by_cases e : x = a <;> simp [e]
theorem nodup_ddI : ∀ l : List Int, (ddI l).Nodup
  | [] => List.nodup_nil
  | a :: r => by
    unfold ddI
    refine List.nodup_cons.mpr ⟨fun m => ?_, (nodup_ddI r).filter _⟩
    have := (List.mem_filter.mp m).2
    simp at this
theorem ddI_le : ∀ l : List Int, (ddI l).length ≤ l.length
  | [] => Nat.le_refl _
  | a :: r => by
    unfold ddI
    have := List.length_filter_le (fun x => decide (x ≠ a)) (ddI r)
    have := ddI_le r
    simp only [List.length_cons]; omega
/-- the number of a set's members -/
theorem setR_card {w : PySem.World} {h : Heap} {a : Addr} {ns : List Int} {c : Nat} (R : SetR w h a (fun j => decide (j ∈ ns)) c) : c = (ddI ns).length := by
  obtain ⟨o, es, ep, t, _, _, _, _, nd, hm, _, _, hn, _⟩ := R
  have hp : (es.toList.map keyOf).Perm (ddI ns) := by
    refine (List.perm_ext_iff_of_nodup nd (nodup_ddI ns)).mpr fun x => ?_
    rw [← hm x, decide_eq_true_eq, mem_ddI]
  have := hp.length_eq
  simp at this
  omega
theorem cr_setL {X : Cx} (hc : X.calm = true) : CallR X (.type "set") (fun xs H Q => ∃ (l : Addr) (ns : List Int), xs = [.ref l] ∧ SqL X.K H l (ns.map V.int) ∧ ns.length ≤ 4000 ∧ ∀ p, H p = none → Q (.ref p) (upd H p (SetO X.w p (fun j => decide (j ∈ ns)) (ddI ns).length))) := by
  intro pins s σ H xs us Q I r h
  obtain ⟨l, ns, rfl, hl, hn, q⟩ := h
  obtain ⟨u, rfl, ru⟩ := vals1 r
  cases ru
  obtain ⟨its, rv, pl, hz⟩ := I.list hl
  refine set_of_list ns (I.ok.hd hc) pl.isList (intsAre_of rv) (by unfold scanBound; omega) fun h' tk c hS hc' hk => ?_
  have e := setR_card hS
  subst e
  exact ⟨.ref s.heap.objs.size, _, I.laid (t' := tk) (fun b o e => hk b o e) (Nat.le_refl _) (setO_new hS), rfl, q _ (I.hok.fresh (Nat.le_refl _))⟩
end DD
/-! DOps3 -/
namespace DD
open PySem PySem.Spec PyProof.Rows L2

section
variable {Γ K : Ctx} {X : Cx}
/-! ### calls of built-ins by name -/
theorem e_blt {id : String} {x : Str} {e : Expr} {es : List Expr} {p pos : Pos} {r : List V → Hp → VK → Prop} {f : FN} {t : TA} {d : DA} (ho : ∀ X, Good Γ X → CallR X (.builtin id) r) (hs : SOpN Γ r f) (hg : Gl X x) (hm : Γ.mg x = none) (hv : bootBuiltins x = some (.builtin id))
    (ha : EA Γ X (e :: es) t d) (hn : x ≠ "__name__" := by decide) (hdb : (x == ("__debug__" : Str)) = false := by decide) (he : starEach (e :: es) X.env = (false, eval e X.env) :: starEach es X.env := by rfl) (hpl : (backTo pos (starEach es X.env)).any (·.1) = false := by rfl) :
    EX Γ X (.Call (.Name x p) (e :: es) [] pos) (tCB r t) (xApp f d) := ⟨fun g => pe_callB (ho X g) hg (by rw [g.mg]; exact hm) hv (ha.pe g) hn hdb he hpl, .app hs ha.snd⟩
theorem e_btt {T : String} {x : Str} {e : Expr} {es : List Expr} {p pos : Pos} {r : List V → Hp → VK → Prop} {f : FN} {t : TA} {d : DA} (ho : ∀ X, Good Γ X → CallR X (.type T) r) (hs : SOpN Γ r f) (hg : Gl X x) (hm : Γ.mg x = none) (hv : bootBuiltins x = some (.type T))
    (ha : EA Γ X (e :: es) t d) (hn : x ≠ "__name__" := by decide) (hdb : (x == ("__debug__" : Str)) = false := by decide) (he : starEach (e :: es) X.env = (false, eval e X.env) :: starEach es X.env := by rfl) (hpl : (backTo pos (starEach es X.env)).any (·.1) = false := by rfl) :
    EX Γ X (.Call (.Name x p) (e :: es) [] pos) (tCB r t) (xApp f d) := ⟨fun g => pe_callTy (ho X g) hg (by rw [g.mg]; exact hm) hv (ha.pe g) hn hdb he hpl, .app hs ha.snd⟩

theorem RXs.one {W0 W : World} {x : XV} {us : List V} (r : RXs K W0 W [x] us) : ∃ u, us = [u] ∧ RX K W0 W x u := by
  cases r with
  | cons a b => cases b; exact ⟨_, rfl, a⟩
theorem RXs.two {W0 W : World} {x y : XV} {us : List V} (r : RXs K W0 W [x, y] us) : ∃ u v, us = [u, v] ∧ RX K W0 W x u ∧ RX K W0 W y v := by
  cases r with
  | cons a b => obtain ⟨v, rfl, c⟩ := b.one; exact ⟨_, v, rfl, a, c⟩
/-- len -/
def XV.len (st : MS) (x : XV) : Option Nat := match x with
  | .v (.str s) => if s.length ≤ sizeLine then some s.length else none
  | x => match x.lst st with
    | some xs => some xs.length
    | none => match x.tup with
      | some xs => some xs.length
      | none => match x with
        | .o (.set xs) => if xs.length < 1000000 then some xs.length else none
        | x => match x.dic st with
          | some (.dK kvs) => some kvs.length
          | some (.dT kvs) => some kvs.length
          | _ => none
def fLen : FN := fun xs st => match xs with
  | [x] => (x.len st).map fun (n : Nat) => XV.v (.int (n : Int))
  | _ => none
def rLen' (K : Ctx) : List V → Hp → VK → Prop := fun xs H Q => (((∃ (x : V) (n : Nat), xs = [x] ∧ LenV K.K x H n ∧ Q (.int n) H) ∨ (∃ a kvs, xs = [V.ref a] ∧ Rd H a (.dK kvs) ∧ Q (.int kvs.length) H)) ∨ (∃ a kvs, xs = [V.ref a] ∧ Rd H a (.dT kvs) ∧ Q (.int kvs.length) H)) ∨ (∃ a S n, xs = [V.ref a] ∧ H a = some (SetO K.w a S n) ∧ n < 1000000 ∧ Q (.int (n : Nat)) H)
theorem call_len_setO {X : Cx} : CallR X (.builtin "len") (fun xs H Q => ∃ a S n, xs = [V.ref a] ∧ H a = some (SetO X.w a S n) ∧ n < 1000000 ∧ Q (.int (n : Nat)) H) := by
  intro pins s σ H xs us Q I r h
  obtain ⟨a, S, n, rfl, ha, hn, q⟩ := h
  obtain ⟨u, rfl, ru⟩ := vals1 r
  cases ru
  have R := setO_get I ha
  obtain ⟨o, es, ep, t, ho, hex, hd, _, _, _, _, hf, hn', _⟩ := R
  exact call_len_set ho hex hd hf (by rw [hn']; omega) ⟨.int n, H, I.tok _, ⟨_, by rw [hn']⟩, q⟩
theorem call_lenR {X : Cx} : CallR X (.builtin "len") (fun xs H Q => ∃ a kvs, xs = [V.ref a] ∧ Rd H a (.dK kvs) ∧ Q (.int kvs.length) H) := by
  intro pins s σ H xs us Q I r h
  obtain ⟨p, kvs, rfl, hp, q⟩ := h
  obtain ⟨u, rfl, rx⟩ := vals1 r
  obtain rfl : u = .ref p := rx
  exact d_len I hp fun t s' I' => ⟨.int kvs.length, H, I', ⟨_, rfl⟩, q⟩
theorem call_lenRT {X : Cx} : CallR X (.builtin "len") (fun xs H Q => ∃ a kvs, xs = [V.ref a] ∧ Rd H a (.dT kvs) ∧ Q (.int kvs.length) H) := by
  intro pins s σ H xs us Q I r h
  obtain ⟨p, kvs, rfl, hp, q⟩ := h
  obtain ⟨u, rfl, rx⟩ := vals1 r
  obtain rfl : u = .ref p := rx
  obtain ⟨z, hd, ys, rel, dd⟩ := dt_rd I.hok hp
  have hl : kvs.length = ys.length := Paired.length rel
  refine call_len_dictH hd dd (by rw [← hl]; rw [sizeLine_eq] at z; omega) ?_
  rw [← hl]
  exact ⟨.int ((kvs.length : Nat) : Int), H, I.tok _, ⟨_, rfl⟩, q⟩
theorem or_len : ∀ X, Good K X → CallR X (.builtin "len") (rLen' K) := fun X g => (((g.K ▸ call_len).or call_lenR).or call_lenRT).or (g.w ▸ call_len_setO)
theorem s_len : SOpN K (rLen' K) fLen := ⟨fun W0 W st xs us z hS hE r e Q hQ => by
  unfold fLen at e
  split at e
  · rename_i x
    obtain ⟨n, e1, e⟩ := Option.map_eq_some_iff.mp e
    cases e
    obtain ⟨u, rfl, ru⟩ := r.one
    have q := hQ W _ hE hS rx_int
    have fin : LenV K.K u W.H n → rLen' K [u] W.H Q := fun h => .inl (.inl (.inl ⟨u, n, rfl, h, q⟩))
    unfold XV.len at e1
    split at e1
    · rename_i s
      split at e1
      · cases e1
        have r1 : RV K W (.str s) u := ru
        unfold RV at r1
        subst r1
        exact fin ⟨by assumption, rfl⟩
      · cases e1
    · split at e1
      · rename_i xs h1
        cases e1
        obtain ⟨a, vs, rfl, h2, h3⟩ := lst_at hS ru h1
        exact fin (.inl ⟨vs, h2, RVs_len h3⟩)
      · split at e1
        · rename_i xs h1
          cases e1
          obtain ⟨a, vs, rfl, h2, h3⟩ := tup_at ru h1
          exact fin (.inr ⟨vs, h2, RVs_len h3⟩)
        · split at e1
          · rename_i xs
            split at e1
            · cases e1
              obtain ⟨a, rfl, ⟨S, h1, h2⟩, _⟩ := ru
              exact .inr ⟨a, S, _, rfl, h1, by assumption, q⟩
            · cases e1
          · split at e1
            · rename_i kvs h1
              cases e1
              obtain ⟨a, rfl, vs, h2, h3⟩ := dic_at hS ru h1
              exact .inl (.inl (.inr ⟨a, _, rfl, h2, by rw [zip_len h3]; exact q⟩))
            · rename_i kvs h1
              cases e1
              obtain ⟨a, rfl, vs, h2, h3⟩ := dic_at hS ru h1
              exact .inl (.inr ⟨a, _, rfl, h2, by rw [zip_len h3]; exact q⟩)
            · cases e1
  · cases e⟩
/-- int, abs, max, min -/
def fIntC : FN := fun xs _ => match xs with
  | [.v (.int i)] => some (.v (.int i))
  | [.v (.bl b)] => some (.v (.int (if b then 1 else 0)))
  | _ => none
theorem or_int : ∀ X, Good K X → CallR X (.type "int") (fun xs H Q => (∃ i, xs = [.int i] ∧ Q (.int i) H) ∨ ∃ k, xs = [.bl k] ∧ Q (.int (if k then 1 else 0)) H) := fun X _ => call_int1
theorem s_intC : SOpN K (fun xs H Q => (∃ i, xs = [.int i] ∧ Q (.int i) H) ∨ ∃ k, xs = [.bl k] ∧ Q (.int (if k then 1 else 0)) H) fIntC := ⟨fun W0 W st xs us z hS hE r e Q hQ => by
  unfold fIntC at e
  split at e
  · cases e
    obtain ⟨u, rfl, ru⟩ := r.one
    exact .inl ⟨_, by rw [int_at ru rfl], hQ W _ hE hS rx_int⟩
  · cases e
    obtain ⟨u, rfl, ru⟩ := r.one
    exact .inr ⟨_, by rw [bl_at ru rfl], hQ W _ hE hS rx_int⟩
  · cases e⟩
def fAbs : FN := fun xs _ => match xs with
  | [.v (.int i)] => some (.v (.int (if i < 0 then -i else i)))
  | _ => none
theorem or_abs : ∀ X, Good K X → CallR X (.builtin "abs") (fun xs H Q => ∃ i, xs = [.int i] ∧ Q (.int (if i < 0 then -i else i)) H) := fun X _ => call_abs
theorem s_abs : SOpN K (fun xs H Q => ∃ i, xs = [.int i] ∧ Q (.int (if i < 0 then -i else i)) H) fAbs := ⟨fun W0 W st xs us z hS hE r e Q hQ => by
  unfold fAbs at e
  split at e
  · cases e
    obtain ⟨u, rfl, ru⟩ := r.one
    exact ⟨_, by rw [int_at ru rfl], hQ W _ hE hS rx_int⟩
  · cases e⟩
def iListMax (ns : List Int) : Option Int := match ns with
  | [] => none
  | n :: ns => some (ns.foldl (fun a b => if b > a then b else a) n)
def fMax2 : FN := fun xs _ => match xs with
  | [.v (.int i), .v (.int j)] => some (.v (.int (if j > i then j else i)))
  | _ => none
theorem or_max2 : ∀ X, Good K X → CallR X (.builtin "max") (fun xs H Q => ∃ i j, xs = [.int i, .int j] ∧ Q (.int (if j > i then j else i)) H) := fun X g => call_max2 g.calm
theorem s_max2 : SOpN K (fun xs H Q => ∃ i j, xs = [.int i, .int j] ∧ Q (.int (if j > i then j else i)) H) fMax2 := ⟨fun W0 W st xs us z hS hE r e Q hQ => by
  unfold fMax2 at e
  split at e
  · cases e
    obtain ⟨u, v, rfl, ru, rv⟩ := r.two
    exact ⟨_, _, by rw [int_at ru rfl, int_at rv rfl], hQ W _ hE hS rx_int⟩
  · cases e⟩
def fMin2 : FN := fun xs _ => match xs with
  | [.v (.int i), .v (.int j)] => some (.v (.int (if j < i then j else i)))
  | _ => none
theorem or_min2 : ∀ X, Good K X → CallR X (.builtin "min") (fun xs H Q => ∃ i j, xs = [.int i, .int j] ∧ Q (.int (if j < i then j else i)) H) := fun X g => call_min2 g.calm
theorem s_min2 : SOpN K (fun xs H Q => ∃ i j, xs = [.int i, .int j] ∧ Q (.int (if j < i then j else i)) H) fMin2 := ⟨fun W0 W st xs us z hS hE r e Q hQ => by
  unfold fMin2 at e
  split at e
  · cases e
    obtain ⟨u, v, rfl, ru, rv⟩ := r.two
    exact ⟨_, _, by rw [int_at ru rfl, int_at rv rfl], hQ W _ hE hS rx_int⟩
  · cases e⟩
/-- tuple(xs), list(xs) -/
def fTuple : FN := fun xs st => match xs with
  | [.v (.tup ys)] => some (.v (.tup ys))
  | [x] => (x.lst st).map fun ys => .v (.tup ys)
  | _ => none
def rTuple' (K : Ctx) : List V → Hp → VK → Prop := fun xs H Q => ∃ p ys, xs = [.ref p] ∧ ((SqL K.K H p ys ∧ ∀ l, H l = none → Q (.ref l) (upd H l (.tup ys))) ∨ (SqT K.K H p ys ∧ Q (.ref p) H))
theorem or_tuple : ∀ X, Good K X → CallR X (.type "tuple") (rTuple' K) := fun X g => by
  have h := call_tuple_of (X := X)
  rw [g.K] at h
  exact h
theorem s_tuple : SOpN K (rTuple' K) fTuple := ⟨fun W0 W st xs us z hS hE r e Q hQ => by
  unfold fTuple at e
  split at e
  · rename_i ys
    cases e
    obtain ⟨u, rfl, ru⟩ := r.one
    obtain ⟨a, vs, rfl, h2, h3⟩ := tup_at ru (xs := ys) rfl
    exact ⟨a, vs, rfl, .inr ⟨h2, hQ W _ hE hS ru⟩⟩
  · obtain ⟨ys, e1, e⟩ := Option.map_eq_some_iff.mp e
    cases e
    obtain ⟨u, rfl, ru⟩ := r.one
    obtain ⟨a, vs, rfl, h2, h3⟩ := lst_at hS ru e1
    refine ⟨a, vs, rfl, .inl ⟨h2, fun l hl => ?_⟩⟩
    obtain ⟨W', E, S, R, eH⟩ := new_tup hS h3 hl
    rw [← eH]; exact hQ W' _ (hE.trans E) S (R.back hE.toExt)
  · cases e⟩
def fList : FN := fun xs st => match xs with
  | [x] => match x.lst st with
    | some ys => some (.o (.lst ys))
    | none => x.tup.map fun ys => .o (.lst ys)
  | _ => none
def rList' (K : Ctx) : List V → Hp → VK → Prop := fun xs H Q => ∃ p ys, xs = [.ref p] ∧ (SqL K.K H p ys ∨ SqT K.K H p ys) ∧ ∀ l, H l = none → Q (.ref l) (upd H l (.lst ys))
theorem or_list : ∀ X, Good K X → CallR X (.type "list") (rList' K) := fun X g => by
  have h := call_list_of (X := X)
  rw [g.K] at h
  exact h
theorem s_list : SOpN K (rList' K) fList := ⟨fun W0 W st xs us z hS hE r e Q hQ => by
  unfold fList at e
  split at e
  · rename_i x
    obtain ⟨u, rfl, ru⟩ := r.one
    split at e
    · rename_i ys e1
      cases e
      obtain ⟨a, vs, rfl, h2, h3⟩ := lst_at hS ru e1
      refine ⟨a, vs, rfl, .inl h2, fun l hl => ?_⟩
      obtain ⟨W', E, S, R, eH⟩ := new_lst hS h3 hl
      rw [← eH]; exact hQ W' _ (hE.trans E) S (R.back hE.toExt)
    · obtain ⟨ys, e1, e⟩ := Option.map_eq_some_iff.mp e
      cases e
      obtain ⟨a, vs, rfl, h2, h3⟩ := tup_at ru e1
      refine ⟨a, vs, rfl, .inr h2, fun l hl => ?_⟩
      obtain ⟨W', E, S, R, eH⟩ := new_lst hS h3 hl
      rw [← eH]; exact hQ W' _ (hE.trans E) S (R.back hE.toExt)
  · cases e⟩
/-- all, any of a list of truths; sum -/
def bls? : List PV → Option (List Bool)
  | [] => some []
  | .bl i :: xs => (bls? xs).map fun ns => i :: ns
  | _ => none
theorem bls_rv {W : World} : ∀ {xs : List PV} {bs : List Bool} {vs : List V}, bls? xs = some bs → RVs K W xs vs → vs = bs.map V.bl
  | [], _, _, e, r => by cases e; exact RVs_nil.mp r
  | .bl i :: xs, _, vs, e, r => by
    obtain ⟨ns, e1, e⟩ := Option.map_eq_some_iff.mp (show (bls? xs).map (fun ns => i :: ns) = some _ from e)
    cases e
    obtain ⟨v, r', rfl, h1, h2⟩ := RVs_cons.mp r
    unfold RV at h1
    rw [h1, bls_rv e1 h2]; rfl
  | .non :: _, _, _, e, _ => by cases e
  | .int _ :: _, _, _, e, _ => by cases e
  | .str _ :: _, _, _, e, _ => by cases e
  | .ref _ :: _, _, _, e, _ => by cases e
  | .ty _ :: _, _, _, e, _ => by cases e
  | .obj _ :: _, _, _, e, _ => by cases e
  | .tup _ :: _, _, _, e, _ => by cases e
  | .lst _ :: _, _, _, e, _ => by cases e
  | .rol _ :: _, _, _, e, _ => by cases e
  | .rot _ :: _, _, _, e, _ => by cases e
theorem bls_map : ∀ bs : List Bool, bls? (bs.map PV.bl) = some bs
  | [] => rfl
  | b :: bs => by rw [List.map_cons]; show (bls? (bs.map PV.bl)).map _ = _; rw [bls_map bs]; rfl
def fAll : FN := fun xs st => match xs with
  | [x] => (x.lst st).bind fun ys => (bls? ys).map fun bs => .v (.bl (bs.all id))
  | _ => none
def fAny : FN := fun xs st => match xs with
  | [x] => (x.lst st).bind fun ys => (bls? ys).map fun bs => .v (.bl (bs.any id))
  | _ => none
theorem or_all : ∀ X, Good K X → CallR X (.builtin "all") (rAll K.K) := fun X g => (g.K ▸ cr_all g.calm)
theorem or_any : ∀ X, Good K X → CallR X (.builtin "any") (rAny K.K) := fun X g => (g.K ▸ cr_any g.calm)
theorem s_all : SOpN K (rAll K.K) fAll := ⟨fun W0 W st xs us z hS hE r e Q hQ => by
  unfold fAll at e
  split at e
  · obtain ⟨ys, e1, e⟩ := Option.bind_eq_some_iff.mp e
    obtain ⟨bs, e2, e⟩ := Option.map_eq_some_iff.mp e
    cases e
    obtain ⟨u, rfl, ru⟩ := r.one
    obtain ⟨a, vs, rfl, h2, h3⟩ := lst_at hS ru e1
    rw [bls_rv e2 h3] at h2
    exact ⟨a, bs, rfl, h2, hQ W _ hE hS rx_bl⟩
  · cases e⟩
theorem s_any : SOpN K (rAny K.K) fAny := ⟨fun W0 W st xs us z hS hE r e Q hQ => by
  unfold fAny at e
  split at e
  · obtain ⟨ys, e1, e⟩ := Option.bind_eq_some_iff.mp e
    obtain ⟨bs, e2, e⟩ := Option.map_eq_some_iff.mp e
    cases e
    obtain ⟨u, rfl, ru⟩ := r.one
    obtain ⟨a, vs, rfl, h2, h3⟩ := lst_at hS ru e1
    rw [bls_rv e2 h3] at h2
    exact ⟨a, bs, rfl, h2, hQ W _ hE hS rx_bl⟩
  · cases e⟩
def fSum : FN := fun xs st => match xs with
  | [x] => (x.lst st).bind fun ys => (ints? ys).map fun ns => .v (.int ns.sum)
  | _ => none
theorem or_sum : ∀ X, Good K X → CallR X (.builtin "sum") (rSum K.K) := fun X g => (g.K ▸ cr_sum g.calm)
theorem s_sum : SOpN K (rSum K.K) fSum := ⟨fun W0 W st xs us z hS hE r e Q hQ => by
  unfold fSum at e
  split at e
  · obtain ⟨ys, e1, e⟩ := Option.bind_eq_some_iff.mp e
    obtain ⟨bs, e2, e⟩ := Option.map_eq_some_iff.mp e
    cases e
    obtain ⟨u, rfl, ru⟩ := r.one
    obtain ⟨a, vs, rfl, h2, h3⟩ := lst_at hS ru e1
    rw [ints_eq e2] at h3
    rw [RVs_ints.mp h3] at h2
    exact ⟨a, bs, rfl, h2, hQ W _ hE hS rx_int⟩
  · cases e⟩
/-- set(xs) of ints -/
def fSet : FN := fun xs st => match xs with
  | [x] => (x.lst st).bind fun ys => (ints? ys).bind fun ns => if ns.length ≤ 4000 then some (.o (.set (ddI ns))) else none
  | _ => none
def rSet' (K : Ctx) : List V → Hp → VK → Prop := fun xs H Q => ∃ (l : Addr) (ns : List Int), xs = [.ref l] ∧ SqL K.K H l (ns.map V.int) ∧ ns.length ≤ 4000 ∧ ∀ p, H p = none → Q (.ref p) (upd H p (SetO K.w p (fun j => decide (j ∈ ns)) (ddI ns).length))
theorem or_set : ∀ X, Good K X → CallR X (.type "set") (rSet' K) := fun X g => by
  have h := cr_setL (X := X) g.calm
  rw [g.K, g.w] at h
  exact h
theorem s_set : SOpN K (rSet' K) fSet := ⟨fun W0 W st xs us z hS hE r e Q hQ => by
  unfold fSet at e
  split at e
  · obtain ⟨ys, e1, e⟩ := Option.bind_eq_some_iff.mp e
    obtain ⟨ns, e2, e⟩ := Option.bind_eq_some_iff.mp e
    split at e
    · rename_i hl
      cases e
      obtain ⟨u, rfl, ru⟩ := r.one
      obtain ⟨a, vs, rfl, h2, h3⟩ := lst_at hS ru e1
      rw [ints_eq e2] at h3
      rw [RVs_ints.mp h3] at h2
      refine ⟨a, ns, rfl, h2, hl, fun p hp => ?_⟩
      refine hQ (W.lay p (SetO K.w p (fun j => decide (j ∈ ns)) (ddI ns).length) .oth) _ (hE.trans (lay_ext hp)) (lay_st hp hS) ⟨p, rfl, ⟨_, lay_at, nodup_ddI ns, fun i => ?_⟩, lay_T, hS.nold hp, none_back hE.toExt hp⟩
      rw [decide_eq_true_eq, mem_ddI]
    · cases e
  · cases e⟩
/-- sorted -/
def srt (ns : List Int) : List Int := ns.mergeSort fun a b => decide (a ≤ b)
theorem srt_eq {ns ms : List Int} (p : ms.Perm ns) (h : ms.Pairwise (· ≤ ·)) : ms = srt ns := by
  have h2 : (srt ns).Pairwise (· ≤ ·) := by
    have := List.pairwise_mergeSort (le := fun a b : Int => decide (a ≤ b)) (fun a b c h1 h2 => by simp at *; omega) (fun a b => by simp; omega) ns
    exact this.imp fun h => by simpa using h
  exact List.Perm.eq_of_pairwise (fun a b _ _ h1 h2 => Int.le_antisymm h1 h2) h h2 (p.trans (List.mergeSort_perm ns _).symm)
def pairs? : List PV → Option (List (Int × Int))
  | [] => some []
  | .tup [.int a, .int b] :: xs => (pairs? xs).map fun ns => (a, b) :: ns
  | _ => none
def intKeys? (kvs : List (Key × PV)) : Option (List Int) := kvs.mapM fun kv => match kv.1 with
  | .inl i => some i
  | _ => none
def fSorted : FN := fun xs st => match xs with
  | [.o (.set ns)] => if ns.length < 64 then some (.o (.lst ((srt ns).map PV.int))) else none
  | [x] => (x.lst st).bind fun ys => (ints? ys).map fun ns => .o (.lst ((srt ns).map PV.int))
  | _ => none
def rSorted' (K : Ctx) : List V → Hp → VK → Prop := fun xs H Q => rSortedI K.K xs H Q ∨ rSortedSet K.w xs H Q
theorem or_sorted : ∀ X, Good K X → CallR X (.builtin "sorted") (rSorted' K) := fun X g => (g.K ▸ cr_sortedI).or (g.w ▸ cr_sortedSet g.calm)
theorem s_sorted : SOpN K (rSorted' K) fSorted := ⟨fun W0 W st xs us z hS hE r e Q hQ => by
  have fin : ∀ (ns ms : List Int) p, ms = srt ns → W.H p = none → z = .o (.lst ((srt ns).map PV.int)) → Q (.ref p) (upd W.H p (.lst (ms.map V.int))) := fun ns ms p h hp hz => by
    subst h hz
    obtain ⟨W', E, S, R, eH⟩ := new_lst hS (RVs_ints (ns := srt ns).mpr rfl) hp
    rw [← eH]; exact hQ W' _ (hE.trans E) S (R.back hE.toExt)
  unfold fSorted at e
  split at e
  · rename_i ns
    split at e
    · rename_i h64
      cases e
      obtain ⟨u, rfl, ru⟩ := r.one
      obtain ⟨a, rfl, ⟨S, h1, h2, h3⟩, _⟩ := ru
      refine .inr ⟨a, S, _, rfl, h1, h64, fun ms p hlt hm hlen hp => ?_⟩
      refine fin ns ms p (srt_eq ?_ (hlt.imp fun h => Int.le_of_lt h)) hp rfl
      refine (List.perm_ext_iff_of_nodup (hlt.imp fun h => Int.ne_of_lt h) h2).mpr fun i => ?_
      rw [hm i, h3 i]
    · cases e
  · obtain ⟨ys, e1, e⟩ := Option.bind_eq_some_iff.mp e
    obtain ⟨ns, e2, e⟩ := Option.map_eq_some_iff.mp e
    cases e
    obtain ⟨u, rfl, ru⟩ := r.one
    obtain ⟨a, vs, rfl, h2, h3⟩ := lst_at hS ru e1
    rw [ints_eq e2] at h3
    rw [RVs_ints.mp h3] at h2
    exact .inl ⟨a, ns, rfl, h2, fun ms p hp1 hp2 hp => fin ns ms p (srt_eq hp1 hp2) hp rfl⟩
  · cases e⟩
/-! ### isinstance -/
def XV.tyn (st : MS) (x : XV) : Option String := match x with
  | .v .non => some "NoneType"
  | .v (.bl _) => some "bool"
  | .v (.int _) => some "int"
  | .v (.str _) => some "str"
  | x => match x.lst st with
    | some _ => some "list"
    | none => match x.tup with
      | some _ => some "tuple"
      | none => match x.dic st with
        | some (.dK _) => some "dict"
        | some (.dT _) => match x with
          | .v (.fT _ _) => none
          | _ => some "dict"
        | _ => none
theorem dicN_at {W0 W : World} {st : MS} {x : XV} {u : V} {kvs : List (List Key × PV)} (hS : RSt K W st) (r : RX K W0 W x u) (e : x.dic st = some (.dT kvs)) (hx : ∀ ks xs, x = .v (.fT ks xs) → False) : ∃ a, u = .ref a ∧ CtAt K W a (.dT kvs) := by
  cases x with
  | v p =>
    cases p with
    | obj n =>
      obtain ⟨a, h1, _, h3⟩ := obj_ct hS e r
      exact ⟨a, h1, h3⟩
    | fK ks xs =>
      have e : (if ks.length = xs.length then some (Cont.dK (ks.zip xs)) else none) = some (.dT kvs) := e
      split at e <;> cases e
    | fT ks xs => exact absurd rfl (hx ks xs)
    | _ => cases e
  | o c' =>
    obtain ⟨a, h1, h2, _⟩ := r
    cases c' <;> first | (cases e; exact ⟨a, h1, h2⟩) | cases e
  | b c' =>
    obtain ⟨a, i, h1, h2, _⟩ := r
    cases c' <;> first | (cases e; exact ⟨a, h1, h2⟩) | cases e
theorem tyn_at {W0 W : World} {st : MS} {x : XV} {u : V} {n : String} (hS : RSt K W st) (r : RX K W0 W x u) (e : x.tyn st = some n) : TyX K.K W.H u (.type n) := by
  unfold XV.tyn at e
  split at e
  · cases e; have r : RV K W .non u := r; unfold RV at r; subst r; exact .base .non
  · cases e; rw [bl_at r rfl]; exact .base (.bl _)
  · cases e; rw [int_at r rfl]; exact .base (.int _)
  · cases e
    rename_i s
    have r : RV K W (.str s) u := r
    unfold RV at r
    subst r
    exact .base (.str _)
  · split at e
    · rename_i xs h1
      cases e
      obtain ⟨a, vs, rfl, h2, _⟩ := lst_at hS r h1
      rcases h2 with (h2 | ⟨o, h2⟩) | ⟨o, its, nn, h2, h3, _⟩
      · exact .base (.lst h2)
      · exact .base (.frz h2)
      · exact .kList h2 h3
    · split at e
      · rename_i xs h1
        cases e
        obtain ⟨a, vs, rfl, h2, _⟩ := tup_at r h1
        rcases h2 with (h2 | ⟨o, h2⟩) | ⟨o, its, nn, h2, h3, _⟩
        · exact .base (.tup h2)
        · exact .fTuple h2
        · exact .kTuple h2 h3
      · split at e
        · rename_i kvs h1
          cases e
          obtain ⟨a, rfl, vs, h2 | ⟨o, h2⟩, _⟩ := dic_at hS r h1
          · exact .base (.dK h2)
          · exact .fDict h2
        · rename_i kvs h1
          split at e
          · cases e
          · rename_i hx
            cases e
            obtain ⟨a, rfl, hc⟩ := dicN_at hS r h1 hx
            obtain ⟨vs, h2, _⟩ := hc
            exact .base (.dT h2)
        · cases e
/-- whether a thing of the type a is an instance of the type b -/
def isTy (a b : String) : Bool := a == b || (a == "bool" && b == "int")
def tyA : List String := ["NoneType", "bool", "int", "str", "list", "tuple", "dict"]
def tyB : List String := ["bool", "int", "str", "list", "tuple", "dict"]
theorem isTy_all : (tyA.all fun a => tyB.all fun b => kitB a b == some (isTy a b)) = true := by decide +kernel
theorem isTy_ok {K' : PySem.W.Frag} {a b : String} (ha : a ∈ tyA) (hb : b ∈ tyB) : PySem.W.kitOne K' (.type a) (.type b) = some (isTy a b) :=
  kit_ty (eq_of_beq (List.all_eq_true.mp (List.all_eq_true.mp isTy_all a ha) b hb))
theorem tyn_in {st : MS} {x : XV} {n : String} (e : x.tyn st = some n) : n ∈ tyA := by
  unfold XV.tyn at e
  (repeat' split at e) <;> first | (cases e; decide) | cases e
def tys? : List PV → Option (List String)
  | [] => some []
  | .ty n :: xs => if n ∈ tyB then (tys? xs).map fun ns => n :: ns else none
  | _ => none
theorem tys_at {W : World} {t : String} (ht : t ∈ tyA) : ∀ {xs : List PV} {ns : List String} {vs : List V}, tys? xs = some ns → RVs K W xs vs → ∃ us, Paired ClsV vs us ∧ PySem.W.kitAny K.K (.type t) us = some (ns.any fun n => isTy t n)
  | [], _, _, e, r => by cases e; cases RVs_nil.mp r; exact ⟨[], .nil, kitAny_nil⟩
  | .ty n :: xs, _, _, e, r => by
    unfold tys? at e
    split at e
    · rename_i hn
      obtain ⟨ns, e1, e⟩ := Option.map_eq_some_iff.mp e
      cases e
      obtain ⟨v, r', rfl, h1, h2⟩ := RVs_cons.mp r
      unfold RV at h1
      subst h1
      obtain ⟨us, g1, g2⟩ := tys_at ht e1 h2
      refine ⟨.type n :: us, .cons (.ty n) g1, kitAny_cons (isTy_ok ht hn) (fun h => ?_) (fun h => ?_)⟩
      · rw [g2, List.any_cons, h, Bool.false_or]
      · rw [List.any_cons, h, Bool.true_or]
    · cases e
  | .non :: _, _, _, e, _ => by cases e
  | .bl _ :: _, _, _, e, _ => by cases e
  | .int _ :: _, _, _, e, _ => by cases e
  | .str _ :: _, _, _, e, _ => by cases e
  | .ref _ :: _, _, _, e, _ => by cases e
  | .obj _ :: _, _, _, e, _ => by cases e
  | .tup _ :: _, _, _, e, _ => by cases e
  | .lst _ :: _, _, _, e, _ => by cases e
  | .rol _ :: _, _, _, e, _ => by cases e
  | .rot _ :: _, _, _, e, _ => by cases e
def fIsi : FN := fun xs st => match xs with
  | [x, .v (.ty n)] => if n ∈ tyB then (x.tyn st).map fun t => .v (.bl (isTy t n)) else none
  | [x, .v (.tup ts)] => (tys? ts).bind fun ns => (x.tyn st).map fun t => .v (.bl (ns.any fun n => isTy t n))
  | _ => none
def rIsi' (K : Ctx) : List V → Hp → VK → Prop := fun xs H Q => rIsi K.K xs H Q ∨ rIsiT K.K xs H Q
theorem or_isi : ∀ X, Good K X → CallR X (.builtin "isinstance") (rIsi' K) := fun X g => (g.K ▸ call_isi).or (g.K ▸ call_isiT)
theorem s_isi : SOpN K (rIsi' K) fIsi := ⟨fun W0 W st xs us z hS hE r e Q hQ => by
  unfold fIsi at e
  split at e
  · rename_i x n
    split at e
    · rename_i hn
      obtain ⟨t, e1, e⟩ := Option.map_eq_some_iff.mp e
      cases e
      obtain ⟨u, v, rfl, ru, rv⟩ := r.two
      have rv : RV K W (.ty n) v := rv
      unfold RV at rv
      subst rv
      exact .inl ⟨u, .ty n, .type t, .type n, isTy t n, rfl, .ty n, tyn_at hS ru e1, isTy_ok (tyn_in e1) hn, hQ W _ hE hS rx_bl⟩
    · cases e
  · rename_i x ts
    obtain ⟨ns, e0, e⟩ := Option.bind_eq_some_iff.mp e
    obtain ⟨t, e1, e⟩ := Option.map_eq_some_iff.mp e
    cases e
    obtain ⟨u, v, rfl, ru, rv⟩ := r.two
    have rv : RV K W (.tup ts) v := rv
    unfold RV at rv
    obtain ⟨a, vs, rfl, _, h3, h4⟩ := rv
    obtain ⟨us, g1, g2⟩ := tys_at (tyn_in e1) e0 h4
    exact .inr ⟨u, a, vs, .type t, us, _, rfl, h3, g1, tyn_at hS ru e1, g2, hQ W _ hE hS rx_bl⟩
  · cases e⟩
end
end DD
/-! DStmt -/
namespace DD
open PySem PySem.Spec PyProof.Rows L2

section
variable {Γ K : Ctx} {X : Cx} {W : World}

/-! ### writing -/
/-- a thing's object changed -/
def World.put (W : World) (a : Addr) (o : HO) : World := { W with H := upd W.H a o }
theorem put_at {a : Addr} {o : HO} : (W.put a o).H a = some o := upd_same
theorem put_ne {a b : Addr} {o : HO} (h : b ≠ a) : (W.put a o).H b = W.H b := upd_ne h
theorem put_ext {a : Addr} {o o0 : HO} (h0 : W.H a = some o0) (hf : ¬ Fz W a) (ho : W.T a = .oth → ¬ W.old a) : Ext W (W.put a o) := ⟨fun b o' hb ht => by
  have ne : b ≠ a := by
    rintro rfl
    rcases ht with z | ⟨z, y⟩
    · exact hf z
    · exact ho z y
  exact ⟨by rw [put_ne ne]; exact hb, rfl⟩, fun _ _ h => h, rfl, fun b o' hb => by
    by_cases e : b = a
    · subst e; exact ⟨o, put_at⟩
    · exact ⟨o', by rw [put_ne e]; exact hb⟩⟩
theorem put_frz {a : Addr} {o : HO} (hf : ¬ Fz W a) : ∀ b o', Fz W b → W.H b = some o' → Fz (W.put a o) b ∧ (W.put a o).H b = some o' := fun b o' ht hb =>
  have ne : b ≠ a := fun e => hf (by rw [← e]; exact ht)
  ⟨ht.of (W' := W.put a o) hb (by rw [put_ne ne]; exact hb) rfl, by rw [put_ne ne]; exact hb⟩
theorem RSt.nfz {st : MS} (h : RSt K W st) {n : Nat} {a : Addr} (ha : W.mu[n]? = some a) : ¬ Fz W a := by
  have hlt : n < st.length := by rw [← h.len]; exact (List.getElem?_eq_some_iff.mp ha).1
  obtain ⟨b, e1, c1⟩ := h.ct n _ (List.getElem?_eq_getElem hlt)
  rw [ha] at e1; cases e1
  exact ct_nfz c1 (by rw [h.tag n a ha]; intro z; cases z)
theorem CtAt_put {a b : Addr} {o : HO} {c : Cont} (hf : ¬ Fz W a) (ne : b ≠ a) (h : CtAt K W b c) : CtAt K (W.put a o) b c := by
  have hm := put_frz (W := W) (o := o) hf
  cases c with
  | lst xs => obtain ⟨vs, h1, h2⟩ := h; exact ⟨vs, by rw [put_ne ne]; exact h1, RVs_map (W := W) (W' := W.put a o) rfl hm _ _ h2⟩
  | dK kvs => obtain ⟨vs, h1, h2⟩ := h; exact ⟨vs, by rw [put_ne ne]; exact h1, RVs_map (W := W) (W' := W.put a o) rfl hm _ _ h2⟩
  | dT kvs => obtain ⟨vs, h1, h2⟩ := h; exact ⟨vs, by rw [put_ne ne]; exact h1, RVs_map (W := W) (W' := W.put a o) rfl hm _ _ h2⟩
  | set xs => obtain ⟨S, h1, h2⟩ := h; exact ⟨S, by rw [put_ne ne]; exact h1, h2⟩
  | ins C fs =>
    obtain ⟨dx, vs, h1, h2, h3, h4⟩ := h
    exact ⟨dx, vs, by rw [put_ne ne]; exact h1, RVs_map (W := W) (W' := W.put a o) rfl hm _ _ h2, (hm dx _ h3 h4).1, (hm dx _ h3 h4).2⟩
/-- the store behind a write elsewhere -/
theorem RSt.put {a : Addr} {o : HO} {st : MS} (hf : ¬ Fz W a) (hn : ∀ n, W.T a ≠ .obj n) (h : RSt K W st) (h0 : ∃ o0, W.H a = some o0) : RSt K (W.put a o) st := by
  refine ⟨h.len, h.tag, fun n c e => ?_, fun b hb => ?_⟩
  · obtain ⟨b, e1, c1⟩ := h.ct n c e
    exact ⟨b, e1, CtAt_put hf (fun z => hn n (by rw [← z]; exact h.tag n b e1)) c1⟩
  · by_cases e : b = a
    · subst e; exact ⟨o, put_at⟩
    · obtain ⟨o', ho'⟩ := h.oldH b hb
      exact ⟨o', by rw [put_ne e]; exact ho'⟩
/-- .. of the n-th thing itself -/
theorem RSt.putObj {a : Addr} {o : HO} {st : MS} {n : Nat} {c : Cont} (h : RSt K W st) (ha : W.mu[n]? = some a) (hc : CtAt K (W.put a o) a c) : RSt K (W.put a o) (st.set n c) := by
  have ht := h.tag n a ha
  have hf : ¬ Fz W a := h.nfz ha
  have hlt : n < st.length := by rw [← h.len]; exact (List.getElem?_eq_some_iff.mp ha).1
  refine ⟨by rw [List.length_set]; exact h.len, h.tag, fun m c' e => ?_, fun b hb => ?_⟩
  · by_cases em : m = n
    · subst em
      rw [List.getElem?_set_self hlt] at e
      cases e
      exact ⟨a, ha, hc⟩
    · rw [List.getElem?_set_ne (Ne.symm em)] at e
      obtain ⟨b, e1, c1⟩ := h.ct m c' e
      refine ⟨b, e1, CtAt_put hf (fun z => ?_) c1⟩
      have := h.tag m b e1
      rw [z, ht] at this
      cases this
      exact em rfl
  · by_cases e : b = a
    · subst e; exact ⟨o, put_at⟩
    · obtain ⟨o', ho'⟩ := h.oldH b hb
      exact ⟨o', by rw [put_ne e]; exact ho'⟩
/-- the slots behind a write of a thing that is no other slot's -/
theorem REn.put {a : Addr} {o : HO} {env : DEnv} {σ : L2.St} (hf : ¬ Fz W a) (h : REn K W env σ) (hs : ∀ i c, env[i]? = some (.own c) → W.T a ≠ .slot i) : REn K (W.put a o) env σ := ⟨h.len, fun i s e => by
  have q := h.sl i s e
  cases s with
  | un => trivial
  | v p => obtain ⟨v, h1, h2⟩ := q; exact ⟨v, h1, RV_map (W := W) (W' := W.put a o) rfl (put_frz hf) p v h2⟩
  | own c =>
    obtain ⟨b, h1, h2, h3, h4⟩ := q
    exact ⟨b, h1, h2, h3, CtAt_put hf (fun z => hs i c e (by rw [← z]; exact h2)) h4⟩
  | lk p => obtain ⟨v, h1, h2, h3⟩ := q; exact ⟨v, h1, RV_map (W := W) (W' := W.put a o) rfl (put_frz hf) p v h2, h3.map (put_frz hf)⟩⟩
/-- a slot set -/
theorem REn.set {env : DEnv} {σ : L2.St} {i : Nat} {v : V} {s : Slot} (h : REn K W env σ) (hs : RSl K W (σ.set i (some v)) i s) : REn K W (env.set i s) (σ.set i (some v)) := ⟨by simp [h.len], fun j s' e => by
  by_cases ej : j = i
  · subst ej
    have hl : j < env.length := by
      have := (List.getElem?_eq_some_iff.mp e).1
      simpa using this
    rw [List.getElem?_set_self hl] at e
    cases e
    exact hs
  · rw [List.getElem?_set_ne (Ne.symm ej)] at e
    have q := h.sl j s' e
    have ne : ∀ w, σ[j]? = some (some w) → (σ.set i (some v))[j]? = some (some w) := fun w hw => by rw [List.getElem?_set_ne (Ne.symm ej)]; exact hw
    cases s' with
    | un => trivial
    | v p => obtain ⟨w, h1, h2⟩ := q; exact ⟨w, ne _ h1, h2⟩
    | own c => obtain ⟨b, h1, h2⟩ := q; exact ⟨b, ne _ h1, h2⟩
    | lk p => obtain ⟨w, h1, h2⟩ := q; exact ⟨w, ne _ h1, h2⟩⟩
theorem REn.setS {env : DEnv} {σ : L2.St} {i : Nat} {s : Slot} (h : REn K W env σ) (hs : RSl K W σ i s) : REn K W (env.set i s) σ := ⟨by simp [h.len], fun j s' e => by
  by_cases ej : j = i
  · subst ej
    have hl : j < env.length := by
      have := (List.getElem?_eq_some_iff.mp e).1
      simpa using this
    rw [List.getElem?_set_self hl] at e
    cases e
    exact hs
  · rw [List.getElem?_set_ne (Ne.symm ej)] at e
    exact h.sl j s' e⟩

/-! ### assignment to a name: V a value, O a new thing of the slot's own, N a new thing of the store -/
inductive Md where
  | V | O | N
/-- what the slot gets -/
def slotOf (m : Md) (x : XV) (st : MS) : Option (Slot × MS) := match m, x with
  | .V, x => x.pv.map fun p => (.v p, st)
  | .O, .o c => some (.own c, st)
  | .O, .v p => some (.v p, st)
  | .N, .o c => some (.v (.obj st.length), st ++ [c])
  | .N, .v p => some (.v p, st)
  | _, _ => none
/-- .. and its world -/
theorem slotOf_at {W0 W : World} {st st' : MS} {m : Md} {x : XV} {v : V} {s : Slot} {i : Nat} {σ : L2.St} {env : DEnv} (hS : RSt K W st) (hE : ExtE W0 W) (r : RX K W0 W x v) (e : slotOf m x st = some (s, st')) (hEn : REn K W env σ) (hi : i < σ.length) :
    ∃ W', ExtE W0 W' ∧ RSt K W' st' ∧ REn K W' env σ ∧ RSl K W' (σ.set i (some v)) i s ∧ W'.H = W.H := by
  have key : (σ.set i (some v))[i]? = some (some v) := by rw [List.getElem?_set_self hi]
  have own : ∀ (a : Addr) c (t : Tag), v = .ref a → CtAt K W a c → W.T a = .oth → ¬ W.old a → W0.H a = none → ExtE W0 (W.tag a t) ∧ RSt K (W.tag a t) st ∧ REn K (W.tag a t) env σ ∧ CtAt K (W.tag a t) a c := fun a c t h1 h2 h3 h4 h5 =>
    ⟨tag_extE hE h5, hS.retag (oth_nfz h2 h3) h3, hEn.retag (oth_nfz h2 h3) h3, CtAt_tag (oth_nfz h2 h3) h2⟩
  unfold slotOf at e
  split at e
  · obtain ⟨p, e1, e⟩ := Option.map_eq_some_iff.mp e
    cases e
    cases x with
    | v q => cases e1; exact ⟨W, hE, hS, hEn, ⟨v, key, r⟩, rfl⟩
    | o c =>
      obtain ⟨a, rfl, h2, h3, h4, h5⟩ := r
      obtain ⟨f1, f2, f3, f4⟩ := own a _ .frz rfl h2 h3 h4 h5
      exact ⟨_, f1, f2, f3, ⟨_, key, (freeze hS h2 h3 h4 e1).2.2⟩, rfl⟩
    | b c => cases e1
  · cases e
    obtain ⟨a, rfl, h2, h3, h4, h5⟩ := r
    obtain ⟨f1, f2, f3, f4⟩ := own a _ (.slot i) rfl h2 h3 h4 h5
    exact ⟨_, f1, f2, f3, ⟨a, key, tag_T, h4, f4⟩, rfl⟩
  · cases e; exact ⟨W, hE, hS, hEn, ⟨v, key, r⟩, rfl⟩
  · cases e
    obtain ⟨a, rfl, h2, h3, h4, h5⟩ := r
    obtain ⟨f1, f2, f3, f4⟩ := own a _ (.obj st.length) rfl h2 h3 h4 h5
    have l1 : (W.tag a (.obj st.length)).mu.length = st.length := f2.len
    let W' : World := { (W.tag a (.obj st.length)) with mu := W.mu ++ [a] }
    have hmu : ∀ (n : Nat) (b : Addr), W.mu[n]? = some b → (W.mu ++ [a])[n]? = some b := fun n b hb => by
      rw [List.getElem?_append_left (List.getElem?_eq_some_iff.mp hb).1]; exact hb
    have mono : Ext (W.tag a (.obj st.length)) W' := ⟨fun b o hb _ => ⟨hb, rfl⟩, hmu, rfl, fun b o hb => ⟨o, hb⟩⟩
    have hlen : W.mu.length = st.length := hS.len
    have hlast : (W.mu ++ [a])[st.length]? = some a := by rw [← hlen]; simp
    refine ⟨W', ⟨⟨f1.keep, fun n b hb => hmu n b (f1.mu n b hb), f1.old, f1.there⟩, f1.slots⟩, ⟨?_, fun n b hb => ?_, fun n c hc => ?_, f2.oldH⟩, ?_, ⟨_, key, ?_⟩, rfl⟩
    · show (W.mu ++ [a]).length = _; simp [hlen]
    · have hb : (W.mu ++ [a])[n]? = some b := hb
      by_cases hn : n < W.mu.length
      · rw [List.getElem?_append_left hn] at hb
        exact f2.tag n b hb
      · have hn2 : n = W.mu.length := by
          have := (List.getElem?_eq_some_iff.mp hb).1
          simp at this; omega
        rw [hn2, List.getElem?_append_right (Nat.le_refl _)] at hb
        simp at hb
        subst hb
        rw [hn2, hlen]; exact tag_T
    · by_cases hn : n < st.length
      · rw [List.getElem?_append_left hn] at hc
        obtain ⟨b, e1, c1⟩ := f2.ct n c hc
        exact ⟨b, hmu n b e1, CtAt_ext mono c1 fun o ho => ho⟩
      · have hn2 : n = st.length := by
          have := (List.getElem?_eq_some_iff.mp hc).1
          simp at this; omega
        subst hn2
        rw [List.getElem?_append_right (Nat.le_refl _)] at hc
        simp at hc
        subst hc
        exact ⟨a, hlast, CtAt_ext mono f4 fun o ho => ho⟩
    · refine ⟨f3.len, fun j s hj => ?_⟩
      have q := f3.sl j s hj
      cases s with
      | un => trivial
      | v p => obtain ⟨w, q1, q2⟩ := q; exact ⟨w, q1, RV_ext mono p w q2⟩
      | own c => obtain ⟨b, q1, q2, q3, q4⟩ := q; exact ⟨b, q1, q2, q3, CtAt_ext mono q4 fun o ho => ho⟩
      | lk p => obtain ⟨w, q1, q2, q3⟩ := q; exact ⟨w, q1, RV_ext mono p w q2, q3.ext mono⟩
    · unfold RV; exact ⟨a, hlast, rfl⟩
  · cases e; exact ⟨W, hE, hS, hEn, ⟨v, key, r⟩, rfl⟩
  · cases e
def sSet (m : Md) (i : Nat) (d : DX) : DS := fun env st => (d env st).bind fun r => (slotOf m r.1 r.2).bind fun s => if i < env.length then some (.nx, env.set i s.1, s.2) else none
theorem SndS.set {m : Md} {i : Nat} {te : TE} {d : DX} (h : SndX Γ te d) : SndS Γ (tAsg te (gName i)) (sSet m i d) := ⟨fun W env σ st fl env' st' hE hS hd D hD => by
  unfold sSet at hd
  obtain ⟨⟨x, st1⟩, e1, hd⟩ := Option.bind_eq_some_iff.mp hd
  obtain ⟨⟨s, st2⟩, e2, hd⟩ := Option.bind_eq_some_iff.mp hd
  split at hd
  · rename_i hi
    cases hd
    refine h.run W env σ st x st1 hE hS e1 _ fun W1 v E1 S1 R1 => ?_
    obtain ⟨W2, E2, S2, En2, R2, H2⟩ := slotOf_at S1 E1 R1 e2 (hE.ext E1) (i := i) (by rw [← hE.len]; exact hi)
    show D.nx (σ.set i (some v)) W1.H
    rw [← H2]
    exact hD W2 _ E2.toExt S2 (En2.set R2)
  · cases hd⟩
theorem st_set (m : Md) {i : Nat} {x : Str} {e : Expr} {te : TE} {d : DX} {pos pos' : Pos} (hi : X.N[i]? = some x := by rfl) (he : EX Γ X e te d) (hx : Loc X.env.scope x := by first | exact Or.inl rfl | exact Or.inr rfl) (hs : swapsWith e (some (.Name x pos')) pos.line X.env = pure false := by rfl)
    (hf : X.fn x = true ∨ X.env.scope.names.lookup x = some .local := by first | exact .inl rfl | exact .inr rfl | assumption) : ES Γ X (.Assign [.Name x pos'] e pos) (tAsg te (gName i)) (sSet m i d) :=
  ⟨fun g => ps_set g.nd hi hx (he.pe g) hs hf, .set he.snd⟩
/-- a slot's own thing goes over to another slot -/
def sMove (i j : Nat) : DS := fun env st => match env[j]? with
  | some (.own c) => if i < env.length ∧ i ≠ j then some (.nx, (env.set j .un).set i (.own c), st) else none
  | _ => none
theorem st_move {i j : Nat} {x y : Str} {pos pos' pos2 : Pos} (hi : X.N[i]? = some x := by rfl) (hj : X.N[j]? = some y := by rfl) (hx : Loc X.env.scope x := by first | exact Or.inl rfl | exact Or.inr rfl) (hv : Vis X.env.scope y := by first | exact Or.inl rfl | exact Or.inr (Or.inl rfl) | exact Or.inr (Or.inr rfl))
    (hd : (y == ("__debug__" : Str)) = false := by decide) (hcd : (y == ("__classdict__" : Str)) = false := by decide) (hs : swapsWith (.Name y pos2) (some (.Name x pos')) pos.line X.env = pure false := by rfl)
    (hf : X.fn x = true ∨ X.env.scope.names.lookup x = some .local := by first | exact .inl rfl | exact .inr rfl | assumption) : ES Γ X (.Assign [.Name x pos'] (.Name y pos2) pos) (tAsg (tVar j) (gName i)) (sMove i j) :=
  ⟨fun g => ps_set g.nd hi hx (pe_var hj hv hd hcd) hs hf, ⟨fun W env σ st fl env' st' hE hS hd D hD => by
  unfold sMove at hd
  split at hd
  · rename_i c hc
    split at hd
    · rename_i hij
      cases hd
      obtain ⟨a, h1, h2, h3, h4⟩ := hE.sl j _ hc
      refine ⟨.ref a, h1, ?_⟩
      show D.nx (σ.set i (some (.ref a))) W.H
      have hf : ¬ Fz W a := ct_nfz h4 (by rw [h2]; intro z; cases z)
      have hn : ∀ n, W.T a ≠ .obj n := fun n => by rw [h2]; intro z; cases z
      refine hD (W.tag a (.slot i)) _ ⟨fun b o hb ht => ⟨hb, tag_Tne ?_⟩, fun _ _ h => h, rfl, fun b o hb => ⟨o, hb⟩⟩ (hS.retag' hf hn) ?_
      · rintro rfl
        rcases ht with z | ⟨z, _⟩
        · exact hf z
        · rw [h2] at z; cases z
      · have e1 : REn Γ (W.tag a (.slot i)) (env.set j .un) σ := ⟨by simp [hE.len], fun k s e => by
          by_cases ek : k = j
          · subst ek
            have hl : k < env.length := by have := (List.getElem?_eq_some_iff.mp e).1; simpa using this
            rw [List.getElem?_set_self hl] at e
            cases e
            trivial
          · rw [List.getElem?_set_ne (Ne.symm ek)] at e
            have q := hE.sl k s e
            cases s with
            | un => trivial
            | v p => obtain ⟨w, q1, q2⟩ := q; exact ⟨w, q1, RV_tag hf p w q2⟩
            | own c' =>
              obtain ⟨b, q1, q2, q3, q4⟩ := q
              refine ⟨b, q1, (tag_Tne fun z => ?_).trans q2, q3, CtAt_tag hf q4⟩
              rw [z, h2] at q2
              cases q2
              exact ek rfl
            | lk p => obtain ⟨w, q1, q2, q3⟩ := q; exact ⟨w, q1, RV_tag hf p w q2, q3.tag hf⟩⟩
        have hil : i < σ.length := by rw [← hE.len]; exact hij.1
        exact e1.set ⟨a, by rw [List.getElem?_set_self hil], tag_T, h3, CtAt_tag hf h4⟩
    · cases hd
  · cases hd⟩⟩

/-! ### blocks, if, return -/
def sSeq (a b : DS) : DS := fun env st => (a env st).bind fun r => match r.1 with
  | .nx => b r.2.1 r.2.2
  | _ => some r
def sNil : DS := fun env st => some (.nx, env, st)
def sIf (c : DT) (a b : DS) : DS := fun env st => (c env st).bind fun r => if r.1 = true then a env r.2 else b env r.2
def sRet (d : DX) : DS := fun env st => (d env st).map fun r => (.rt r.1, env, r.2)
def sDrop (d : DX) : DS := fun env st => (d env st).map fun r => (.nx, env, r.2)
theorem EndOk.mono {W W1 : World} {fl : Fl} {env' : DEnv} {st' : MS} {D : Ends} (h : EndOk K W fl env' st' D) (e : Ext W W1) : EndOk K W1 fl env' st' D := fun W' σ' e' hS hE => by
  have q := h W' σ' (e.trans e') hS hE
  cases fl with
  | nx => exact q
  | bk => exact q
  | ct => exact q
  | rt x => exact fun v r => q v (r.back e)
theorem ss_nil : ESs Γ X [] tNext sNil := ⟨fun _ => pss_nil, ⟨fun W env σ st fl env' st' hE hS hd D hD => by cases hd; exact hD W σ Ext.refl hS hE⟩⟩
theorem ss_one {st : Stmt} {t : TS} {d : DS} (h : ES Γ X st t d) : ESs Γ X [st] t d := ⟨fun g => pss_one (h.pe g), h.snd⟩
theorem ss_cons {st : Stmt} {rest : List Stmt} {t u : TS} {d e : DS} (h1 : ES Γ X st t d) (h2 : ESs Γ X rest u e) : ESs Γ X (st :: rest) (tSeq t u) (sSeq d e) := ⟨fun g => pss_cons (h1.pe g) (h2.pe g), ⟨fun W env σ st fl env' st' hE hS hd D hD => by
  unfold sSeq at hd
  obtain ⟨⟨f1, env1, st1⟩, e1, hd⟩ := Option.bind_eq_some_iff.mp hd
  refine h1.snd.run W env σ st f1 env1 st1 hE hS e1 _ fun W1 σ1 E1 S1 En1 => ?_
  cases f1 with
  | nx => exact h2.snd.run W1 env1 σ1 st1 fl env' st' En1 S1 hd D (hD.mono E1)
  | bk => cases hd; exact hD W1 σ1 E1 S1 En1
  | ct => cases hd; exact hD W1 σ1 E1 S1 En1
  | rt x => cases hd; exact hD W1 σ1 E1 S1 En1⟩⟩
theorem st_if {c : Expr} {a b : List Stmt} {tc : TT} {t u : TS} {dc : DT} {d e : DS} {pos : Pos} (hc : ET Γ X c tc dc) (ha : ESs Γ X a t d) (hb : ESs Γ X b u e) : ES Γ X (.If c a b pos) (tIfS tc t u) (sIf dc d e) :=
  ⟨fun g => ps_if (hc.pe g) (ha.pe g) (hb.pe g), ⟨fun W env σ st fl env' st' hE hS hd D hD => by
  unfold sIf at hd
  obtain ⟨⟨k, st1⟩, e1, hd⟩ := Option.bind_eq_some_iff.mp hd
  refine hc.snd.run W env σ st k st1 hE hS e1 _ fun W1 E1 S1 => ?_
  cases k with
  | true => exact iteT (ha.snd.run W1 env σ st1 fl env' st' (hE.ext E1) S1 hd D (hD.mono E1.toExt))
  | false => exact iteF (hb.snd.run W1 env σ st1 fl env' st' (hE.ext E1) S1 hd D (hD.mono E1.toExt))⟩⟩
theorem st_ret {e : Expr} {te : TE} {d : DX} {pos : Pos} (h : EX Γ X e te d) : ES Γ X (.Return (some e) pos) (tRet te) (sRet d) := ⟨fun g => ps_ret (h.pe g), ⟨fun W env σ st fl env' st' hE hS hd D hD => by
  unfold sRet at hd
  obtain ⟨⟨x, st1⟩, e1, hd⟩ := Option.map_eq_some_iff.mp hd
  cases hd
  exact h.snd.run W env σ st x _ hE hS e1 _ fun W1 v E1 S1 R1 => hD W1 σ E1.toExt S1 (hE.ext E1) v R1⟩⟩
theorem st_drop {e : Expr} {te : TE} {d : DX} {pos : Pos} (h : EX Γ X e te d) (hs : swapsWith e none pos.line X.env = pure false := by rfl) : ES Γ X (.Expr e pos) (tDrop te) (sDrop d) := ⟨fun g => ps_expr (h.pe g) hs, ⟨fun W env σ st fl env' st' hE hS hd D hD => by
  unfold sDrop at hd
  obtain ⟨⟨x, st1⟩, e1, hd⟩ := Option.map_eq_some_iff.mp hd
  cases hd
  exact h.snd.run W env σ st x _ hE hS e1 _ fun W1 v E1 S1 R1 => hD W1 σ E1.toExt S1 (hE.ext E1)⟩⟩
/-- a statement that is not reached -/
def sNever : DS := fun _ _ => none
theorem st_never {st : Stmt} : ES Γ X st tNever sNever := ⟨fun _ => ps_never, ⟨fun W env σ st fl env' st' hE hS hd D hD => by cases hd⟩⟩
theorem st_pass {pos : Pos} : ES Γ X (.Pass pos) tNext sNil := ⟨fun _ => ps_pass, ⟨fun W env σ st fl env' st' hE hS hd D hD => by cases hd; exact hD W σ Ext.refl hS hE⟩⟩
def sBreak : DS := fun env st => some (.bk, env, st)
def sCont : DS := fun env st => some (.ct, env, st)
theorem st_break {pos : Pos} : ES Γ X (.Break pos) tBreak sBreak := ⟨fun _ => ps_break, ⟨fun W env σ st fl env' st' hE hS hd D hD => by cases hd; exact hD W σ Ext.refl hS hE⟩⟩
theorem st_continue {pos : Pos} : ES Γ X (.Continue pos) tCont sCont := ⟨fun _ => ps_continue, ⟨fun W env σ st fl env' st' hE hS hd D hD => by cases hd; exact hD W σ Ext.refl hS hE⟩⟩
/-- two rules for one statement -/
theorem PS.or {st : Stmt} {t u : TS} (h1 : PS X st t) (h2 : PS X st u) : PS X st (fun D σ H => t D σ H ∨ u D σ H) := ⟨fun pins s σ H D I h => h.elim (h1.run pins s σ H D I) (h2.run pins s σ H D I)⟩

/-! ### targets -/
theorem wipe_get {σ : L2.St} {vs : List Nat} {i : Nat} (h : i ∈ vs) (hi : i < σ.length) : (wipe σ vs)[i]? = some none := by
  induction vs with
  | nil => cases h
  | cons v vs ih =>
    unfold wipe
    by_cases e : v = i
    · subst e; rw [List.getElem?_set_self (by rw [wipe_length]; exact hi)]
    · rw [List.getElem?_set_ne e]
      exact ih ((List.mem_cons.mp h).resolve_left (Ne.symm e))
theorem wipe_ext {σ τ : L2.St} {vs : List Nat} (hl : σ.length = τ.length) (h : ∀ i, i ∉ vs → σ[i]? = τ[i]?) : wipe σ vs = wipe τ vs := by
  refine List.ext_getElem? fun i => ?_
  by_cases hi : i < σ.length
  · by_cases hm : i ∈ vs
    · rw [wipe_get hm hi, wipe_get hm (by omega)]
    · rw [wipe_out hm, wipe_out hm]; exact h i hm
  · rw [List.getElem?_eq_none (by rw [wipe_length]; omega), List.getElem?_eq_none (by rw [wipe_length]; omega)]
theorem wipe_set {σ : L2.St} {vs : List Nat} {i : Nat} {v : Option V} (h : i ∈ vs) : wipe (σ.set i v) vs = wipe σ vs :=
  wipe_ext (by simp) fun j hj => by rw [List.getElem?_set_ne (fun e => hj (by rw [← e]; exact h))]
theorem wipe_wipe {σ : L2.St} {vs : List Nat} : wipe (wipe σ vs) vs = wipe σ vs := wipe_ext (wipe_length _ _) fun j hj => wipe_out hj
def gName' (i : Nat) : DG := fun p env => if i < env.length then some (env.set i (.v p)) else none
theorem g_name {i : Nat} {x : Str} {pos : Pos} (hi : X.N[i]? = some x := by rfl) (hx : Loc X.env.scope x := by first | exact Or.inl rfl | exact Or.inr rfl) (hf : X.fn x = true ∨ X.env.scope.names.lookup x = some .local := by first | exact .inl rfl | exact .inr rfl | assumption) : 
    EG Γ X (.Name x pos) (gName i) (gName' i) [i] := ⟨fun g => pg_name g.nd hi hx hf, ⟨fun W env σ p v env' hE r hd Q hQ => by
  unfold gName' at hd
  split at hd
  · rename_i hl
    cases hd
    have hl' : i < σ.length := by rw [← hE.len]; exact hl
    exact hQ _ (hE.set ⟨v, by rw [List.getElem?_set_self hl'], r⟩) fun vs h => wipe_set (h i (by simp))
  · cases hd⟩⟩
abbrev DGs := List PV → DEnv → Option DEnv
structure EGs (Γ : Ctx) (X : Cx) (es : List Expr) (t : TGs) (d : DGs) (ix : List Nat) : Prop where
  pe : Good Γ X → PGs X es t
  snd : ∀ W env σ ps vs env', REn Γ W env σ → RVs Γ W ps vs → d ps env = some env' → ∀ Q : L2.St → Hp → Prop, (∀ σ', REn Γ W env' σ' → (∀ vs : List Nat, (∀ i ∈ ix, i ∈ vs) → wipe σ' vs = wipe σ vs) → Q σ' W.H) → t vs σ W.H Q
def gsNil : DGs := fun ps env => match ps with
  | [] => some env
  | _ => none
def gsCons (a : DG) (b : DGs) : DGs := fun ps env => match ps with
  | p :: ps => (a p env).bind fun env1 => b ps env1
  | [] => none
def gTup' (n : Nat) (d : DGs) : DG := fun p env => match p with
  | .tup ps => if ps.length = n then d ps env else none
  | _ => none
theorem gs_nil : EGs Γ X [] gNil gsNil [] := ⟨fun _ => pgs_nil, fun W env σ ps vs env' hE r hd Q hQ => by
  unfold gsNil at hd
  split at hd
  · cases hd; exact ⟨RVs_nil.mp r, hQ σ hE fun _ _ => rfl⟩
  · cases hd⟩
theorem gs_cons {e : Expr} {es : List Expr} {t : TG} {u : TGs} {a : DG} {b : DGs} {ix iy : List Nat} (h1 : EG Γ X e t a ix) (h2 : EGs Γ X es u b iy) (hs : (assignEach (e :: es) X.env).map (·.2) = assign e X.env :: (assignEach es X.env).map (·.2) := by rfl) : EGs Γ X (e :: es) (gCons t u) (gsCons a b) (ix ++ iy) := ⟨fun g => pgs_cons (h1.pe g) (h2.pe g) hs, fun W env σ ps vs env' hE r hd Q hQ => by
  unfold gsCons at hd
  split at hd
  · obtain ⟨env1, e1, hd⟩ := Option.bind_eq_some_iff.mp hd
    obtain ⟨v, vs', rfl, r1, r2⟩ := RVs_cons.mp r
    exact ⟨v, vs', rfl, h1.snd.run W env σ _ v env1 hE r1 e1 _ fun σ1 En1 w1 => h2.snd W env1 σ1 _ vs' env' En1 r2 hd Q fun σ2 En2 w2 => hQ σ2 En2 fun vs h => (w2 vs fun i hi => h i (List.mem_append_right _ hi)).trans (w1 vs fun i hi => h i (List.mem_append_left _ hi))⟩
  · cases hd⟩
theorem g_tup {es : List Expr} {k : Nat} {t : TGs} {n : Nat} {d : DGs} {ix : List Nat} {pos : Pos} (h : EGs Γ X es t d ix) (hn : (assignEach es X.env).length = n := by rfl) (hst : (assignEach es X.env).findIdx? (·.1) = none := by rfl) :
    EG Γ X (.Tuple es k pos) (gTup Γ.K n t) (gTup' n d) ix := ⟨fun g => g.K ▸ pg_tup g.calm (h.pe g) hn hst, ⟨fun W env σ p v env' hE r hd Q hQ => by
  unfold gTup' at hd
  split at hd
  · rename_i ps
    split at hd
    · rename_i hl
      obtain ⟨a, vs, rfl, h2, h3⟩ := tup_at (x := .v (.tup ps)) (W0 := W) r rfl
      exact ⟨a, vs, rfl, h2, by rw [← RVs_len h3]; exact hl, h.snd W env σ _ vs env' hE h3 hd Q hQ⟩
    · cases hd
  · cases hd⟩⟩
end
end DD
/-! DEnum -/
namespace DD
open PySem PySem.Spec PyProof.Rows L2
/-- the iterator of the tuple at l; an enumerate over the iterator at i -/
def ti0 (l : Addr) : Obj := { cls := .type "tuple_iterator", data := .fields #[.ref l, .int 0 0] }
def en0 (i : Addr) : Obj := { cls := .type "enumerate", data := .fields #[.none, .bool false, .ref i, rawInt 0, .none, .none] }
theorem enumT_new (l : Addr) (items : Array Value) : Meets (Builtin.«enumerate.__new__» ⟨[.type "enumerate", .ref l], []⟩)
    (fun _ R s => s.heap.IsTuple l items ∧ R (.ok (.ret (.ref (s.heap.push (ti0 l)).objs.size))) { s with heap := (s.heap.push (ti0 l)).push (en0 s.heap.objs.size) }) :=
  .of_wp fun prog w A R s h => by
    obtain ⟨hp, g, d, tk, os⟩ := s; obtain ⟨hT, h⟩ := h
    have hsub := sub_enumerate
    wp_walk
    refine wpAny_stack_any fun st => wpAny_pure ?_
    split
    · rename_i c _ _ _ _ _
      cases (c == Value.type "enumerate") <;> (wp_walk using wpAny_pyIter_tuple hT; exact ⟨_, rfl, h⟩)
    · wp_walk using wpAny_pyIter_tuple hT
      exact ⟨_, rfl, h⟩
section
variable {P : Program} {w : PySem.World} {A : Around} {E : Value → Shared → Prop} {s : Shared}
theorem enumT_call {l : Addr} {items : Array Value} {Q : Value → Shared → Prop} (hT : s.heap.IsTuple l items)
    (h : ∀ h', IsEnum h' (s.heap.objs.size + 1) s.heap.objs.size 0 .none → h'.IsTupleIter s.heap.objs.size l 0 → (∀ b o, s.heap.get? b = some o → h'.get? b = some o) → Q (.ref (s.heap.objs.size + 1)) { s with heap := h' }) :
    wpAny (model P w) A (call (.type "enumerate") [.ref l]) Q E s := by
  refine callType_new F.called_enumerate (by decide) (F.typeCall_enumerate_1 _) (F.newCall_enumerate_1 _) (fun obj => F.args_object_init_2 obj _) F.entry_enumerate_new (enumT_new l items) ⟨hT, ?_⟩
  have z : (s.heap.push (ti0 l)).objs.size = s.heap.objs.size + 1 := Heap.size_push ..
  show _ ∧ _
  rw [z]
  have he : IsEnum ((s.heap.push (ti0 l)).push (en0 s.heap.objs.size)) (s.heap.objs.size + 1) s.heap.objs.size 0 .none := by
    have q := Heap.get?_push_size (s.heap.push (ti0 l)) (o := en0 s.heap.objs.size) rfl
    rw [z] at q; exact q
  exact ⟨⟨_, he, rfl⟩, h _ he ⟨_, Heap.get?_push_of_some _ (Heap.get?_push_size _ rfl), rfl, rfl⟩ fun b o x => Heap.get?_push_of_some _ (Heap.get?_push_of_some _ x)⟩
end
/-- the tuple at a, each item in a new pair -/
def IteT (K : PySem.W.Frag) (a : Addr) : It :=
  ⟨fun i H => ∃ (xs : List V) (x : V), SqT K H a xs ∧ xs[i]? = some x, fun i H v H' => ∃ T x, v = .ref T ∧ H T = none ∧ H' = upd H T (.tup [.int (i : Nat), x]) ∧ ∀ xs, SqT K H a xs → xs[i]? = some x, fun i H => ∃ xs : List V, SqT K H a xs ∧ xs.length = i⟩
theorem enumT_turn {P : Program} {w : PySem.World} {K : PySem.W.Frag} {elts : List Expr} {kk : Nat} {tpos : Pos} (a e it : Addr) (hne : e ≠ it) (hae : a ≠ it) (hef : e ≠ a) :
    Turn P w K (.Tuple elts kk tpos) (IteT K a) [e, it] e (fun i h => (∃ old, IsEnum h e it ((i : Nat) : Int) old) ∧ h.IsTupleIter it a i) where
  mem := by simp
  obj := fun i h st b hb => by
    obtain ⟨⟨old, he⟩, o, ho, hc, hd⟩ := st
    rcases (show b = e ∨ b = it by simpa using hb) with z | z
    · rw [z]; exact ⟨_, he, fun v q => nomatch q⟩
    · rw [z]; exact ⟨o, ho, fun v q => by rw [hd] at q; cases q⟩
  keep := fun i h h' st k => ⟨st.1.elim fun old he => ⟨old, k e (by simp) _ he⟩, st.2.at fun o q => k it (by simp) o q⟩
  item := by
    intro X hP hw hK hc i pins s σ H E I hf st hg
    subst hP hw hK
    obtain ⟨⟨old, he⟩, hit⟩ := st
    obtain ⟨xs, x, hq, hx⟩ := hg
    obtain ⟨its, rv, ht, hz⟩ := I.tuple hq
    obtain ⟨u, hu, ru⟩ := rv.get hx
    have hel : e < s.heap.objs.size := Heap.lt_size he
    have hil : it < s.heap.objs.size := by obtain ⟨_, q, _⟩ := hit; exact Heap.lt_size q
    have hT : s.heap.IsTuple a its.toArray := ht
    have hi : i < its.toArray.size := by simpa using (List.getElem?_eq_some_iff.mp hu).1
    refine wpAny_pyNext_enum_itemD (Draws.tuple (A := X.A.in1) (show X.A.in1.handled = none from I.ok.hd hc) it a hae its.toArray) he ⟨hit, hT⟩ hi hne (by simp [hne, hef]) fun y h' tk hy ho hst' hTu hsz hk => ?_
    have ey : y = u := by
      have hy : its.toArray[i]? = some y := hy
      rw [show its.toArray[i]? = some u by simpa using hu] at hy
      exact (Option.some.inj hy).symm
    subst ey
    refine ⟨_, rfl, wpAny_letOwnedTupleGo_enum (s := { s with heap := h', toks := tk + 1 }) ho fun h2 he2 sb => ?_⟩
    have hT2 : h2.get? s.heap.objs.size = some { cls := .type "tuple", data := .seq #[.int i tk, y] } := (sb.2 _ (Nat.ne_of_gt hel)).trans hTu
    have new : ObjOk X.prog X.w (upd H s.heap.objs.size (.tup [.int (i : Nat), x])) h2 s.heap.objs.size (.tup [.int (i : Nat), x]) :=
      ⟨by show 2 ≤ sizeLine; decide, [.int i tk, y], .cons ⟨_, rfl⟩ (.cons ru .nil), ⟨_, hT2, rfl, _, rfl⟩⟩
    have I1 : Inv X pins σ (upd H s.heap.objs.size (.tup [.int (i : Nat), x])) { s with heap := h2, toks := tk + 1 } :=
      I.turnedNew (ch := [e, it]) (fun b ob hb q => (sb.2 b (fun z => hb (by simp [z]))).trans (hk b ob (fun z => hb (by simp [z])) (fun z => hb (by simp [z])) q)) hf (Nat.le_refl _) new
    refine ⟨.ref s.heap.objs.size, _, I1, rfl, ⟨_, x, rfl, I.hok.fresh (Nat.le_refl _), rfl, fun ys hy => by rw [I.tuple_inj hy hq]; exact hx⟩, ⟨⟨y, ?_⟩, hst'.1.at fun o q => (sb.2 it (Ne.symm hne)).trans q⟩, fun b hb => ?_⟩
    · have e1 : ((i + 1 : Nat) : Int) = (i : Int) + 1 := by omega
      rw [e1]; exact he2
    · have hb' : b ≠ s.heap.objs.size := by
        rcases (show b = e ∨ b = it by simpa using hb) with z | z
        · rw [z]; exact Nat.ne_of_lt hel
        · rw [z]; exact Nat.ne_of_lt hil
      rw [upd_ne hb']
      exact (hf b hb).1
  done := by
    intro X hP hw hK hc i pins s σ H E I hf st hg
    subst hP hw hK
    obtain ⟨⟨old, he⟩, hit⟩ := st
    obtain ⟨xs, hq, hx⟩ := hg
    obtain ⟨its, rv, ht, hz⟩ := I.tuple hq
    obtain ⟨f0, f1, f2, f3, f4, f5⟩ := hf it (by simp)
    have hl := rv.length
    have hT : s.heap.IsTuple a its.toArray := ht
    have ei : i = its.toArray.size := by simp; omega
    subst ei
    exact wpAny_pyNext_enum_endD (Draws.tuple (A := X.A.in1) (show X.A.in1.handled = none from I.ok.hd hc) it a hae its.toArray) he ⟨hit, hT⟩ fun h' eb => ⟨rfl, I.turned (t' := s.toks) (fun b o hb q => eb b o hb q) f0 f1 f3 f4 f5⟩
  self := fun A i s Q E st h => let ⟨⟨_, he⟩, _⟩ := st; wpAny_pyIter_enum he h
def iEnumT (K : PySem.W.Frag) (ta : TA) : TI := fun σ H R => ta σ H fun vs H1 => ∃ a xs, vs = [.ref a] ∧ SqT K H1 a xs ∧ R (IteT K a) H1
theorem pi_enumT {X : Cx} {e : Expr} {ta : TA} {p pos tpos : Pos} {elts : List Expr} {kk : Nat} (hg : Gl X "enumerate") (hm : X.mg "enumerate" = none) (ha : PA X [e] ta) (hs : starEach [e] X.env = [(false, eval e X.env)] := by rfl) :
    PI X (.Tuple elts kk tpos) (.Call (.Name "enumerate" p) [e] [] pos) (iEnumT X.K ta) := by
  refine ⟨fun pins s σ H R I h => Call_ (ld_blt I hg hm boot_enumerate (PyProof.Rows.callWith_type1 (thn (ha.run pos pins s σ H _ I h) fun us s1 ⟨vs, H1, I1, r1, q1⟩ => ?_) hs rfl))⟩
  obtain ⟨a, xs, ex, hq, q⟩ := q1
  subst ex
  obtain ⟨u, rfl, ru⟩ := vals1 r1
  cases ru
  obtain ⟨its, rv, ht, hz⟩ := I1.tuple hq
  have hT : s1.heap.IsTuple a its.toArray := ht
  have hlt : a < s1.heap.objs.size := ht.lt
  refine enumT_call hT fun h' he hit hk => wpAny_pyIter_enum he ?_
  have I2 : Inv X pins σ H1 { s1 with heap := h' } := I1.kept (t' := s1.toks) hk
  refine ⟨s1.heap.objs.size + 1, [s1.heap.objs.size + 1, s1.heap.objs.size], _, _, H1, rfl, I2, enumT_turn a _ s1.heap.objs.size (Nat.succ_ne_self _) (Nat.ne_of_lt hlt) (Nat.ne_of_gt (Nat.lt_succ_of_lt hlt)), ⟨⟨.none, he⟩, hit⟩, fun b hb => ?_, q⟩
  have hle : s1.heap.objs.size ≤ b := by
    rcases (show b = s1.heap.objs.size + 1 ∨ b = s1.heap.objs.size by simpa using hb) with z | z
    · rw [z]; exact Nat.le_add_right _ _
    · rw [z]; exact Nat.le_refl _
  exact I1.fpOk hle (I1.hok.fresh hle)
end DD
/-! DIter -/
namespace DD
open PySem PySem.Spec PyProof.Rows L2

section
variable {Γ K : Ctx} {X : Cx} {W : World}

theorem WOk.of {E : World → World → Prop} {W0 : World} {J : It} {n : Nat} {G : Hp → Prop} {Y : Nat → Hp → V → Hp → Prop} {items : List PV} (w : Walk J n G Y) (hn : items.length = n) (hG : ∀ W, E W0 W → G W.H)
    (hy : ∀ (W : World) (i : Nat) x H', E W0 W → (∃ st, RSt K W st) → Y i W.H x H' → i < items.length → ∃ W' p, items[i]? = some p ∧ LayE K W W' ∧ W'.H = H' ∧ RV K W' p x) : WOk K E W0 J items :=
  ⟨fun W i h hi => w.goes i W.H (by omega) (hG W h), fun W h => by rw [hn]; exact w.stops W.H (hG W h), fun W i x H' h hs y hi => hy W i x H' h hs (w.yields i W.H x H' (by omega) (hG W h) y) hi⟩
theorem LayE.refl : LayE K W W := ⟨ExtE.refl, fun _ h => h⟩
/-- what holds under Ext (true: statements run) or ExtE -/
abbrev Ex (m : Bool) (W0 : World) : World → World → Prop := if m = true then Ext else ExtM W0
theorem Ex.ext {m : Bool} {W0 W W' : World} (h : Ex m W0 W W') : Ext W W' := by
  cases m with
  | true => exact h
  | false => exact ExtM.toExt h
theorem Ex.of {m : Bool} {W0 W W' : World} (h : ExtE W W') : Ex m W0 W W' := by
  cases m with
  | true => exact h.toExt
  | false => exact h.m
/-- a list that stays while it is walked -/
def StL (K : Ctx) (m : Bool) (W0 W : World) (a : Addr) (vs : List V) : Prop :=
  (Fz W a ∧ Rd W.H a (.lst vs)) ∨ StaL K a vs ∨ (m = false ∧ ((W.T a = .oth ∧ W0.H a = none) ∨ ∃ i, W.T a = .slot i) ∧ W.H a = some (.lst vs))
def StT (K : Ctx) (W : World) (a : Addr) (vs : List V) : Prop := (Fz W a ∧ Rd W.H a (.tup vs)) ∨ StaT K a vs
theorem StL.seq {m : Bool} {a : Addr} {vs : List V} {W0 W' : World} (h : StL K m W0 W a vs) (e : Ex m W0 W W') : SqL K.K W'.H a vs := by
  rcases h with ⟨t, h | ⟨o, h⟩⟩ | h | ⟨hm, t, h⟩
  · exact .inl (.inl (e.ext.keep a _ h (.inl t)).1)
  · exact .inl (.inr ⟨o, (e.ext.keep a _ h (.inl t)).1⟩)
  · exact .inr h
  · subst hm
    exact .inl (.inl (ExtM.slots e a _ h t).1)
theorem StT.seq {m : Bool} {a : Addr} {vs : List V} {W0 W' : World} (h : StT K W a vs) (e : Ex m W0 W W') : SqT K.K W'.H a vs := by
  rcases h with ⟨t, h | ⟨o, h⟩⟩ | h
  · exact .inl (.inl (e.ext.keep a _ h (.inl t)).1)
  · exact .inl (.inr ⟨o, (e.ext.keep a _ h (.inl t)).1⟩)
  · exact .inr h
def seqItems (m : Bool) (x : XV) : Option (List PV) := match x with
  | .v (.lst xs) => some xs
  | .v (.rol xs) => some xs
  | .v (.tup xs) => some xs
  | .v (.rot xs) => some xs
  | .o (.lst xs) => some xs
  | .b (.lst xs) => if m = true then none else some xs
  | _ => none
def XV.isT : XV → Bool
  | .v (.tup _) => true
  | .v (.rot _) => true
  | _ => false
theorem items_at {m : Bool} {W0 : World} {st : MS} {x : XV} {u : V} {xs : List PV} (hS : RSt K W st) (hE : ExtE W0 W) (r : RX K W0 W x u) (e : seqItems m x = some xs) :
    ∃ W1 a vs, ExtE W0 W1 ∧ Ext W W1 ∧ RSt K W1 st ∧ W1.H = W.H ∧ u = .ref a ∧ RVs K W1 xs vs ∧ (if x.isT = true then StT K W1 a vs else StL K m W0 W1 a vs) := by
  unfold seqItems at e
  split at e
  · cases e
    have r : RV K W (.lst xs) u := r
    unfold RV at r
    obtain ⟨a, vs, h1, h2, h3, h4⟩ := r
    exact ⟨W, a, vs, hE, Ext.refl, hS, rfl, h1, h4, .inl ⟨h2, .inl h3⟩⟩
  · cases e
    have r : RV K W (.rol xs) u := r
    unfold RV at r
    obtain ⟨a, vs, h1, h2, h4⟩ := r
    exact ⟨W, a, vs, hE, Ext.refl, hS, rfl, h1, h4, h2.elim (fun ⟨t, h⟩ => .inl ⟨t, .inr h⟩) fun h => .inr (.inl h)⟩
  · cases e
    have r : RV K W (.tup xs) u := r
    unfold RV at r
    obtain ⟨a, vs, h1, h2, h3, h4⟩ := r
    exact ⟨W, a, vs, hE, Ext.refl, hS, rfl, h1, h4, .inl ⟨h2, .inl h3⟩⟩
  · cases e
    have r : RV K W (.rot xs) u := r
    unfold RV at r
    obtain ⟨a, vs, h1, h2, h4⟩ := r
    exact ⟨W, a, vs, hE, Ext.refl, hS, rfl, h1, h4, h2.elim (fun ⟨t, h⟩ => .inl ⟨t, .inr h⟩) fun h => .inr h⟩
  · cases e
    obtain ⟨a, h1, ⟨vs, h2, h2'⟩, h3, h4, h5⟩ := r
    have nf := oth_nfz (K := K) (c := .lst xs) ⟨vs, h2, h2'⟩ h3
    exact ⟨W.tag a .frz, a, vs, tag_extE hE h5, tag_ext Ext.refl nf h4, hS.retag nf h3, rfl, h1, RVs_tag nf _ _ h2', .inl ⟨.inl tag_T, .inl h2⟩⟩
  · split at e
    · cases e
    · rename_i hm
      cases e
      obtain ⟨a, i, h1, ⟨vs, h2, h2'⟩, h3, h4⟩ := r
      exact ⟨W, a, vs, hE, Ext.refl, hS, rfl, h1, h2', .inr (.inr ⟨by simpa using hm, .inr ⟨i, h3⟩, h2⟩)⟩
  · cases e
theorem WOk.list {m : Bool} {W0 : World} {a : Addr} {vs : List V} {xs : List PV} (h : StL K m W0 W a vs) (r : RVs K W xs vs) : WOk K (Ex m W0) W (Itl K.K a) xs :=
  .of walk_list (RVs_len r) (fun W' e => h.seq e) fun W' i x H' e hs y hi => by
    obtain ⟨p, h1, h2⟩ := RVs_get' r y.2
    exact ⟨W', p, h1, LayE.refl, y.1.symm, RV_ext e.ext p x h2⟩
theorem WOk.tup {m : Bool} {W0 : World} {a : Addr} {vs : List V} {xs : List PV} (h : StT K W a vs) (r : RVs K W xs vs) : WOk K (Ex m W0) W (Itt K.K a) xs :=
  .of walk_tup (RVs_len r) (fun W' e => h.seq e) fun W' i x H' e hs y hi => by
    obtain ⟨p, h1, h2⟩ := RVs_get' r y.2
    exact ⟨W', p, h1, LayE.refl, y.1.symm, RV_ext e.ext p x h2⟩
theorem pi_or {tg e : Expr} {t u : TI} (h1 : PI X tg e t) (h2 : PI X tg e u) : PI X tg e (fun σ H R => t σ H R ∨ u σ H R) := ⟨fun pins s σ H R I h => h.elim (h1.run pins s σ H R I) (h2.run pins s σ H R I)⟩
/-- over a value -/
def iSeq (m : Bool) (d : DX) : DI := fun env st => (d env st).bind fun r => (seqItems m r.1).map fun xs => (xs, r.2)
theorem StL.any {m : Bool} {W0 : World} {a : Addr} {vs : List V} (h : StL K m W0 W a vs) : SqL K.K W.H a vs := h.seq (Ex.of ExtE.refl)
theorem StT.any {a : Addr} {vs : List V} (h : StT K W a vs) : SqT K.K W.H a vs := h.seq (m := true) (W0 := W) Ext.refl
theorem i_seq (m : Bool) {tg e : Expr} {te : TE} {d : DX} (h : EX Γ X e te d) : EI Γ X m tg e (fun σ H R => iList Γ.K te σ H R ∨ iTup Γ.K te σ H R) (iSeq m d) :=
  ⟨fun g => g.K ▸ pi_or (pi_list (h.pe g)) (pi_tup (h.pe g)), ⟨fun W env σ st xs st' hE hS hd R hR => by
  unfold iSeq at hd
  obtain ⟨⟨x, st1⟩, e1, hd⟩ := Option.bind_eq_some_iff.mp hd
  obtain ⟨ys, e2, hd⟩ := Option.map_eq_some_iff.mp hd
  cases hd
  cases ht : x.isT with
  | false =>
    refine .inl (h.snd.run W env σ st x _ hE hS e1 _ fun W1 u E1 S1 R1 => ?_)
    obtain ⟨W2, a, vs, E2, E3, S2, H2, rfl, r2, h2⟩ := items_at S1 E1 R1 e2
    rw [ht] at h2
    have h2 : StL Γ m W W2 a vs := h2
    refine ⟨a, rfl, ⟨vs, by rw [← H2]; exact h2.any⟩, ?_⟩
    rw [← H2]
    exact hR W2 _ E2 S2 (WOk.list h2 r2)
  | true =>
    refine .inr (h.snd.run W env σ st x _ hE hS e1 _ fun W1 u E1 S1 R1 => ?_)
    obtain ⟨W2, a, vs, E2, E3, S2, H2, rfl, r2, h2⟩ := items_at S1 E1 R1 e2
    rw [ht] at h2
    have h2 : StT Γ W2 a vs := h2
    refine ⟨a, rfl, ⟨vs, by rw [← H2]; exact h2.any⟩, ?_⟩
    rw [← H2]
    exact hR W2 _ E2 S2 (WOk.tup h2 r2)⟩⟩
/-- over range(n), range(a, b) -/
def iRange1 (a : DA) : DI := fun env st => (a env st).bind fun r => match r.1 with
  | [.v (.int n)] => if -(2 ^ 62) ≤ n ∧ n < 2 ^ 62 then some ((List.range n.toNat).map fun (k : Nat) => PV.int (k : Int), r.2) else none
  | _ => none
def iRange2 (a : DA) : DI := fun env st => (a env st).bind fun r => match r.1 with
  | [.v (.int i), .v (.int j)] => if -(2 ^ 62) ≤ i ∧ i < 2 ^ 62 ∧ -(2 ^ 62) ≤ j ∧ j < 2 ^ 62 then some ((List.range (j - i).toNat).map fun (k : Nat) => PV.int (i + (k : Int)), r.2) else none
  | _ => none
theorem WOk.range {m : Bool} {W0 : World} {lo : Int} {n : Nat} : WOk K (Ex m W0) W (Itr lo n) ((List.range n).map fun (k : Nat) => PV.int (lo + (k : Int))) :=
  .of walk_range (by simp) (fun _ _ => True.intro) fun W' i x H' e hs y hi => by
    have hi' : i < n := by simpa using hi
    refine ⟨W', .int (lo + i), ?_, LayE.refl, y.1.symm, ?_⟩
    · simp [hi']
    · rw [y.2]; exact rv_int
theorem i_range1 (m : Bool) {tg a : Expr} {ta : TA} {d : DA} {p pos : Pos} (hg : Gl X "range") (hm : Γ.mg "range" = none) (ha : EA Γ X [a] ta d) (hs : starEach [a] X.env = [(false, eval a X.env)] := by rfl) :
    EI Γ X m tg (.Call (.Name "range" p) [a] [] pos) (iRng1 ta) (iRange1 d) := ⟨fun g => pi_range1 hg (by rw [g.mg]; exact hm) (ha.pe g) hs, ⟨fun W env σ st xs st' hE hS hd R hR => by
  unfold iRange1 at hd
  obtain ⟨⟨ys, st1⟩, e1, hd⟩ := Option.bind_eq_some_iff.mp hd
  refine ha.snd.run W env σ st ys st1 hE hS e1 _ fun W1 us E1 S1 R1 => ?_
  simp only at hd
  split at hd
  · rename_i n
    split at hd
    · rename_i hb
      cases hd
      obtain ⟨u, rfl, ru⟩ := R1.one
      refine ⟨n, by rw [int_at ru rfl], hb.1, hb.2, hR W1 _ E1 S1 ?_⟩
      have := WOk.range (K := Γ) (W := W1) (W0 := W) (m := m) (lo := 0) (n := n.toNat)
      simpa using this
    · cases hd
  · cases hd⟩⟩
theorem i_range2 (m : Bool) {tg a b : Expr} {ta : TA} {d : DA} {p pos : Pos} (hg : Gl X "range") (hm : Γ.mg "range" = none) (ha : EA Γ X [a, b] ta d) (hs : starEach [a, b] X.env = [(false, eval a X.env), (false, eval b X.env)] := by rfl) (hs2 : starEach [b] X.env = [(false, eval b X.env)] := by rfl) :
    EI Γ X m tg (.Call (.Name "range" p) [a, b] [] pos) (iRng2 ta) (iRange2 d) := ⟨fun g => pi_range2 hg (by rw [g.mg]; exact hm) (ha.pe g) hs hs2, ⟨fun W env σ st xs st' hE hS hd R hR => by
  unfold iRange2 at hd
  obtain ⟨⟨ys, st1⟩, e1, hd⟩ := Option.bind_eq_some_iff.mp hd
  refine ha.snd.run W env σ st ys st1 hE hS e1 _ fun W1 us E1 S1 R1 => ?_
  simp only at hd
  split at hd
  · rename_i i j
    split at hd
    · rename_i hb
      cases hd
      obtain ⟨u, v, rfl, ru, rv⟩ := R1.two
      exact ⟨i, j, by rw [int_at ru rfl, int_at rv rfl], hb, hR W1 _ E1 S1 WOk.range⟩
    · cases hd
  · cases hd⟩⟩
/-- pairs: of enumerate, of zip -/
theorem pair_lay {W' : World} {st : MS} {p q : PV} {x y : V} {T : Addr} {H' : Hp} (hS : RSt K W st) (r1 : RV K W p x) (r2 : RV K W q y) (hT : W.H T = none) (hH : H' = upd W.H T (.tup [x, y])) :
    ∃ W', LayE K W W' ∧ W'.H = H' ∧ RV K W' (.tup [p, q]) (.ref T) := by
  subst hH
  have e := lay_ext (W := W) (o := .tup [x, y]) (t := .frz) hT
  refine ⟨W.lay T (.tup [x, y]) .frz, ⟨e, fun st' h => lay_st hT h⟩, rfl, ?_⟩
  unfold RV
  exact ⟨T, _, rfl, .inl lay_T, lay_at, RVs_cons'.mpr ⟨RV_ext e.toExt _ _ r1, RVs_cons'.mpr ⟨RV_ext e.toExt _ _ r2, RVs_nil.mpr rfl⟩⟩⟩
def zipP (xs ys : List PV) : List PV := (xs.zip ys).map fun p => .tup [p.1, p.2]
theorem WOk.zipL {m : Bool} {W0 : World} {a b : Addr} {vs ws : List V} {xs ys : List PV} (h : StL K m W0 W a vs) (h' : StL K m W0 W b ws) (r : RVs K W xs vs) (r' : RVs K W ys ws) : WOk K (Ex m W0) W (Itz K.K a b) (zipP xs ys) := by
  refine .of (walk_zip (n := min vs.length ws.length) rfl) (by unfold zipP; simp [RVs_len r, RVs_len r']) (fun W' e => ⟨h.seq e, h'.seq e⟩) fun W' i x H' e hs y hi => ?_
  obtain ⟨T, u, v, rfl, hT, hH, h1, h2⟩ := y
  obtain ⟨p, p1, p2⟩ := RVs_get' r h1
  obtain ⟨q, q1, q2⟩ := RVs_get' r' h2
  obtain ⟨st, hs⟩ := hs
  obtain ⟨W2, l1, l2, l3⟩ := pair_lay (W' := W) hs (RV_ext e.ext _ _ p2) (RV_ext e.ext _ _ q2) hT hH
  refine ⟨W2, .tup [p, q], ?_, l1, l2, l3⟩
  unfold zipP
  rw [List.getElem?_map, List.getElem?_zip_eq_some (z := (p, q)) |>.mpr ⟨p1, q1⟩]; rfl
theorem WOk.zipT {m : Bool} {W0 : World} {a b : Addr} {vs ws : List V} {xs ys : List PV} (h : StT K W a vs) (h' : StT K W b ws) (r : RVs K W xs vs) (r' : RVs K W ys ws) : WOk K (Ex m W0) W (RZ.ItzT K.K a b) (zipP xs ys) := by
  have hl : (zipP xs ys).length = min vs.length ws.length := by unfold zipP; simp [RVs_len r, RVs_len r']
  refine ⟨fun W' i e hi => ?_, fun W' e => ?_, fun W' i x H' e hs y hi => ?_⟩
  · have h1 : i < vs.length := by omega
    have h2 : i < ws.length := by omega
    exact ⟨vs, ws, vs[i], ws[i], h.seq e, h'.seq e, by simp [h1], by simp [h2]⟩
  · exact ⟨vs, ws, h.seq e, h'.seq e, by rw [hl]; omega⟩
  · obtain ⟨T, u, v, rfl, hT, hH, h1, h2⟩ := y
    obtain ⟨p, p1, p2⟩ := RVs_get' r (h1 _ (h.seq e))
    obtain ⟨q, q1, q2⟩ := RVs_get' r' (h2 _ (h'.seq e))
    obtain ⟨st, hs⟩ := hs
    obtain ⟨W2, l1, l2, l3⟩ := pair_lay (W' := W) hs (RV_ext e.ext _ _ p2) (RV_ext e.ext _ _ q2) hT hH
    refine ⟨W2, .tup [p, q], ?_, l1, l2, l3⟩
    unfold zipP
    rw [List.getElem?_map, List.getElem?_zip_eq_some (z := (p, q)) |>.mpr ⟨p1, q1⟩]; rfl
/-- as seqItems, a new list only within an expression -/
def seqItems2 (m : Bool) (x : XV) : Option (List PV) := match x with
  | .v (.lst xs) => some xs
  | .v (.rol xs) => some xs
  | .v (.tup xs) => some xs
  | .v (.rot xs) => some xs
  | .o (.lst xs) => if m = true then none else some xs
  | .b (.lst xs) => if m = true then none else some xs
  | _ => none
theorem items2_at {m : Bool} {W0 : World} {x : XV} {u : V} {xs : List PV} (r : RX K W0 W x u) (e : seqItems2 m x = some xs) :
    ∃ a vs, u = .ref a ∧ RVs K W xs vs ∧ (if x.isT = true then StT K W a vs else StL K m W0 W a vs) := by
  unfold seqItems2 at e
  split at e
  · cases e
    have r : RV K W (.lst xs) u := r
    unfold RV at r
    obtain ⟨a, vs, h1, h2, h3, h4⟩ := r
    exact ⟨a, vs, h1, h4, .inl ⟨h2, .inl h3⟩⟩
  · cases e
    have r : RV K W (.rol xs) u := r
    unfold RV at r
    obtain ⟨a, vs, h1, h2, h4⟩ := r
    exact ⟨a, vs, h1, h4, h2.elim (fun ⟨t, h⟩ => .inl ⟨t, .inr h⟩) fun h => .inr (.inl h)⟩
  · cases e
    have r : RV K W (.tup xs) u := r
    unfold RV at r
    obtain ⟨a, vs, h1, h2, h3, h4⟩ := r
    exact ⟨a, vs, h1, h4, .inl ⟨h2, .inl h3⟩⟩
  · cases e
    have r : RV K W (.rot xs) u := r
    unfold RV at r
    obtain ⟨a, vs, h1, h2, h4⟩ := r
    exact ⟨a, vs, h1, h4, h2.elim (fun ⟨t, h⟩ => .inl ⟨t, .inr h⟩) fun h => .inr h⟩
  · split at e
    · cases e
    · rename_i hm
      cases e
      obtain ⟨a, h1, ⟨vs, h2, h2'⟩, h3, h4, h5⟩ := r
      exact ⟨a, vs, h1, h2', .inr (.inr ⟨by simpa using hm, .inl ⟨h3, h5⟩, h2⟩)⟩
  · split at e
    · cases e
    · rename_i hm
      cases e
      obtain ⟨a, i, h1, ⟨vs, h2, h2'⟩, h3, h4⟩ := r
      exact ⟨a, vs, h1, h2', .inr (.inr ⟨by simpa using hm, .inr ⟨i, h3⟩, h2⟩)⟩
  · cases e
def iZip (m : Bool) (d : DA) : DI := fun env st => (d env st).bind fun r => match r.1 with
  | [x, y] => if x.isT = y.isT then (seqItems2 m x).bind fun xs => (seqItems2 m y).map fun ys => (zipP xs ys, r.2) else none
  | _ => none
theorem i_zip (m : Bool) {e e2 : Expr} {ta : TA} {d : DA} {p pos tpos : Pos} {elts : List Expr} {kk : Nat} (hg : Gl X "zip") (hm : Γ.mg "zip" = none) (ha : EA Γ X [e, e2] ta d)
    (hs : starEach [e, e2] X.env = (false, eval e X.env) :: starEach [e2] X.env := by rfl) (hpl : (backTo pos (starEach [e2] X.env)).any (·.1) = false := by rfl) :
    EI Γ X m (.Tuple elts kk tpos) (.Call (.Name "zip" p) [e, e2] [] pos) (RZ.iZipA Γ.K ta) (iZip m d) := ⟨fun g => g.K ▸ RZ.pi_zipA hg (by rw [g.mg]; exact hm) (ha.pe g) hs hpl, ⟨fun W env σ st xs st' hE hS hd R hR => by
  unfold iZip at hd
  obtain ⟨⟨ys, st1⟩, e1, hd⟩ := Option.bind_eq_some_iff.mp hd
  refine ha.snd.run W env σ st ys st1 hE hS e1 _ fun W1 us E1 S1 R1 => ?_
  simp only at hd
  split at hd
  · rename_i x y
    split at hd
    · rename_i hk
      obtain ⟨zs, e2, hd⟩ := Option.bind_eq_some_iff.mp hd
      obtain ⟨ws, e3, hd⟩ := Option.map_eq_some_iff.mp hd
      cases hd
      obtain ⟨u, v, rfl, ru, rv⟩ := R1.two
      obtain ⟨a, vs, rfl, r2, h2⟩ := items2_at ru e2
      obtain ⟨b, ts, rfl, r3, h3⟩ := items2_at rv e3
      refine ⟨a, b, vs, ts, rfl, ?_⟩
      cases hx : x.isT with
      | true =>
        rw [hx] at h2; rw [← hk, hx] at h3
        have h2 : StT Γ W1 a vs := h2
        have h3 : StT Γ W1 b ts := h3
        exact .inr ⟨h2.any, h3.any, hR W1 _ E1 S1 (WOk.zipT h2 h3 r2 r3)⟩
      | false =>
        rw [hx] at h2; rw [← hk, hx] at h3
        have h2 : StL Γ m W W1 a vs := h2
        have h3 : StL Γ m W W1 b ts := h3
        exact .inl ⟨h2.any, h3.any, hR W1 _ E1 S1 (WOk.zipL h2 h3 r2 r3)⟩
    · cases hd
  · cases hd⟩⟩
def enumP (xs : List PV) : List PV := xs.zipIdx.map fun p => .tup [.int (p.2 : Int), p.1]
theorem enumP_get {xs : List PV} {i : Nat} {p : PV} (h : xs[i]? = some p) : (enumP xs)[i]? = some (.tup [.int (i : Int), p]) := by
  unfold enumP
  rw [List.getElem?_map, List.getElem?_zipIdx, h]
  simp
theorem WOk.enumL {m : Bool} {W0 : World} {a : Addr} {vs : List V} {xs : List PV} (h : StL K m W0 W a vs) (r : RVs K W xs vs) : WOk K (Ex m W0) W (Ite K.K a) (enumP xs) := by
  refine .of walk_enum (by unfold enumP; simp [RVs_len r]) (fun W' e => h.seq e) fun W' i x H' e hs y hi => ?_
  obtain ⟨T, u, v, rfl, hT, hH, h1, h2⟩ := y
  obtain ⟨q, q1, q2⟩ := RVs_get' r h2
  cases h1
  obtain ⟨st, hs⟩ := hs
  obtain ⟨W2, l1, l2, l3⟩ := pair_lay (W' := W) hs (rv_int (Γ := K) (i := (i : Int))) (RV_ext e.ext _ _ q2) hT hH
  exact ⟨W2, _, enumP_get q1, l1, l2, l3⟩
theorem WOk.enumT {m : Bool} {W0 : World} {a : Addr} {vs : List V} {xs : List PV} (h : StT K W a vs) (r : RVs K W xs vs) : WOk K (Ex m W0) W (IteT K.K a) (enumP xs) := by
  have hl : (enumP xs).length = vs.length := by unfold enumP; simp [RVs_len r]
  refine ⟨fun W' i e hi => ⟨vs, vs[i]'(by omega), h.seq e, by simp [show i < vs.length by omega]⟩, fun W' e => ⟨vs, h.seq e, hl.symm⟩, fun W' i x H' e hs y hi => ?_⟩
  obtain ⟨T, v, rfl, hT, hH, h2⟩ := y
  obtain ⟨q, q1, q2⟩ := RVs_get' r (h2 _ (h.seq e))
  obtain ⟨st, hs⟩ := hs
  obtain ⟨W2, l1, l2, l3⟩ := pair_lay (W' := W) hs (rv_int (Γ := K) (i := (i : Int))) (RV_ext e.ext _ _ q2) hT hH
  exact ⟨W2, _, enumP_get q1, l1, l2, l3⟩
def iEnum' (m : Bool) (d : DA) : DI := fun env st => (d env st).bind fun r => match r.1 with
  | [x] => (seqItems2 m x).map fun xs => (enumP xs, r.2)
  | _ => none
theorem i_enum (m : Bool) {e : Expr} {ta : TA} {d : DA} {p pos tpos : Pos} {elts : List Expr} {kk : Nat} (hg : Gl X "enumerate") (hm : Γ.mg "enumerate" = none) (ha : EA Γ X [e] ta d) (hs : starEach [e] X.env = [(false, eval e X.env)] := by rfl) :
    EI Γ X m (.Tuple elts kk tpos) (.Call (.Name "enumerate" p) [e] [] pos) (fun σ H R => L2.iEnum Γ.K ta σ H R ∨ iEnumT Γ.K ta σ H R) (iEnum' m d) :=
  ⟨fun g => g.K ▸ pi_or (pi_enum hg (by rw [g.mg]; exact hm) (ha.pe g) hs) (pi_enumT hg (by rw [g.mg]; exact hm) (ha.pe g) hs), ⟨fun W env σ st xs st' hE hS hd R hR => by
  unfold iEnum' at hd
  obtain ⟨⟨ys, st1⟩, e1, hd⟩ := Option.bind_eq_some_iff.mp hd
  simp only at hd
  split at hd
  · rename_i x
    obtain ⟨zs, e2, hd⟩ := Option.map_eq_some_iff.mp hd
    cases hd
    cases hx : x.isT with
    | true =>
      refine .inr (ha.snd.run W env σ st [x] _ hE hS e1 _ fun W1 us E1 S1 R1 => ?_)
      obtain ⟨u, rfl, ru⟩ := R1.one
      obtain ⟨a, vs, rfl, r2, h2⟩ := items2_at ru e2
      rw [hx] at h2
      have h2 : StT Γ W1 a vs := h2
      exact ⟨a, vs, rfl, h2.any, hR W1 _ E1 S1 (WOk.enumT h2 r2)⟩
    | false =>
      refine .inl (ha.snd.run W env σ st [x] _ hE hS e1 _ fun W1 us E1 S1 R1 => ?_)
      obtain ⟨u, rfl, ru⟩ := R1.one
      obtain ⟨a, vs, rfl, r2, h2⟩ := items2_at ru e2
      rw [hx] at h2
      have h2 : StL Γ m W W1 a vs := h2
      exact ⟨a, vs, rfl, h2.any, hR W1 _ E1 S1 (WOk.enumL h2 r2)⟩
  · cases hd⟩⟩

/-! ### for -/
def loopD (bind : DG) (body : DS) : List PV → DS
  | [], env, st => some (.nx, env, st)
  | p :: ps, env, st => (bind p env).bind fun env1 => (body env1 st).bind fun r => match r.1 with
    | .nx => loopD bind body ps r.2.1 r.2.2
    | .ct => loopD bind body ps r.2.1 r.2.2
    | .bk => some (.nx, r.2.1, r.2.2)
    | .rt x => some (.rt x, r.2.1, r.2.2)
def sFor (items : DI) (bind : DG) (body : DS) : DS := fun env st => (items env st).bind fun r => loopD bind body r.1 env r.2
theorem st_for {tg iter : Expr} {body : List Stmt} {wi : TI} {g : TG} {tb : TS} {di : DI} {dg : DG} {ix : List Nat} {db : DS} {pos : Pos} (hi : EI Γ X true tg iter wi di) (hg : EG Γ X tg g dg ix) (hb : ESs Γ X body tb db)
    (hs : ∀ x, foldedSetIterable iter X.env x = pure x := by intro _; rfl) : ES Γ X (.For tg iter body [] pos) (tFor wi g tb) (sFor di dg db) :=
  ⟨fun gd => ps_for (by rw [gd.xe]; exact PassesOwn.never) gd.calm (hi.pe gd) (hg.pe gd) (hb.pe gd) hs, ⟨fun W env σ st fl env' st' hE hS hd D hD => by
  unfold sFor at hd
  obtain ⟨⟨items, st1⟩, e1, hd⟩ := Option.bind_eq_some_iff.mp hd
  refine hi.snd.run W env σ st items st1 hE hS e1 _ fun W1 J E1 S1 ok => ?_
  have ok : WOk Γ Ext W1 J items := ok
  let n := items.length
  refine ⟨fun i m σ H => m = n - i ∧ i ≤ n ∧ ∃ W' en s, W'.H = H ∧ Ext W1 W' ∧ RSt Γ W' s ∧ REn Γ W' en σ ∧ loopD dg db (items.drop i) en s = some (fl, env', st'),
    ⟨n, rfl, Nat.zero_le _, W1, env, st1, rfl, Ext.refl, S1, hE.ext E1, hd⟩, ?_⟩
  rintro i m σ1 H ⟨rfl, hle, W2, en, s, rfl, E2, S2, En2, hl⟩
  by_cases hlt : i < n
  · refine .inr ⟨ok.go W2 i E2 hlt, fun σ' H' => ∃ W' en s, W'.H = H' ∧ Ext W1 W' ∧ RSt Γ W' s ∧ REn Γ W' en σ' ∧ loopD dg db (items.drop (i + 1)) en s = some (fl, env', st'), ?_, fun x H' y => ?_⟩
    · rintro σ' H' ⟨W', en', s', q⟩
      exact ⟨n - (i + 1), by omega, rfl, hlt, W', en', s', q⟩
    · obtain ⟨W3, p, hp, L3, rfl, r3⟩ := ok.yld W2 i x H' E2 ⟨s, S2⟩ y hlt
      have hdrop : items.drop i = p :: items.drop (i + 1) := by
        obtain ⟨h1, h2⟩ := List.getElem?_eq_some_iff.mp hp
        rw [← h2]; exact List.drop_eq_getElem_cons h1
      rw [hdrop] at hl
      obtain ⟨env1, e3, hl⟩ := Option.bind_eq_some_iff.mp hl
      obtain ⟨⟨f4, en4, s4⟩, e4, hl⟩ := Option.bind_eq_some_iff.mp hl
      have E3 : Ext W1 W3 := E2.trans L3.toExt
      refine hg.snd.run W3 en σ1 p x env1 (En2.ext L3.toExtE) r3 e3 _ fun σ3 En3 _ => ?_
      refine hb.snd.run W3 env1 σ3 s f4 en4 s4 En3 (L3.st s S2) e4 _ fun W4 σ4 E4 S4 En4 => ?_
      have E14 : Ext W W4 := E1.toExt.trans (E3.trans E4)
      cases f4 with
      | nx => exact ⟨W4, en4, s4, rfl, E3.trans E4, S4, En4, hl⟩
      | ct => exact ⟨W4, en4, s4, rfl, E3.trans E4, S4, En4, hl⟩
      | bk => cases hl; exact hD W4 σ4 E14 S4 En4
      | rt z => cases hl; exact fun v r => hD W4 σ4 E14 S4 En4 v (r.back (E1.toExt.trans E3))
  · have e : i = n := by omega
    subst e
    refine .inl ⟨ok.stop W2 E2, ?_⟩
    rw [List.drop_length] at hl
    cases hl
    exact hD W2 σ1 (E1.toExt.trans E2) S2 En2⟩⟩

/-! ### comprehensions -/
def wipeD (env : DEnv) : List Nat → DEnv
  | [] => env
  | v :: vs => (wipeD env vs).set v .un
theorem wipe_en {env : DEnv} {σ : L2.St} (h : REn K W env σ) : ∀ vs : List Nat, REn K W (wipeD env vs) (wipe σ vs)
  | [] => h
  | v :: vs => by
    have ih := wipe_en h vs
    refine ⟨by simp [wipeD, wipe, ih.len], fun i s e => ?_⟩
    unfold wipeD at e
    unfold wipe
    by_cases ei : i = v
    · subst ei
      have hl : i < (wipeD env vs).length := by have := (List.getElem?_eq_some_iff.mp e).1; simpa using this
      rw [List.getElem?_set_self hl] at e
      cases e; trivial
    · rw [List.getElem?_set_ne (Ne.symm ei)] at e
      have q := ih.sl i s e
      have ne : ∀ w, (wipe σ vs)[i]? = some (some w) → ((wipe σ vs).set v none)[i]? = some (some w) := fun w hw => by rw [List.getElem?_set_ne (Ne.symm ei)]; exact hw
      cases s with
      | un => trivial
      | v p => obtain ⟨w, h1, h2⟩ := q; exact ⟨w, ne _ h1, h2⟩
      | own c => obtain ⟨b, h1, h2⟩ := q; exact ⟨b, ne _ h1, h2⟩
      | lk p => obtain ⟨w, h1, h2⟩ := q; exact ⟨w, ne _ h1, h2⟩
def compD (bind : DG) (test : DT) (elt : DX) : List PV → DEnv → MS → Option (List PV × MS)
  | [], _, st => some ([], st)
  | p :: ps, env, st => (bind p env).bind fun env1 => (test env1 st).bind fun b => if b.1 = true then (elt env1 b.2).bind fun y => y.1.pv.bind fun q => (compD bind test elt ps env y.2).map fun r => (q :: r.1, r.2)
    else compD bind test elt ps env b.2
def xLc (items : DI) (vs : List Nat) (bind : DG) (test : DT) (elt : DX) : DX := fun env st => (items env st).bind fun r => (compD bind test elt r.1 (wipeD env vs) r.2).bind fun q =>
  if q.1.length ≤ sizeLine then some (.o (.lst q.1), q.2) else none
def tTrue : DT := fun _ st => some (true, st)
structure ETs (Γ : Ctx) (X : Cx) (ifs : List Expr) (t : TT) (d : DT) : Prop where
  pe : Good Γ X → PTs X ifs t
  snd : SndT Γ t d
theorem ts_nil : ETs Γ X [] tYes tTrue := ⟨fun _ => pts_nil, ⟨fun W env σ st x st' hE hS hd Q hQ => by cases hd; exact hQ W ExtE.refl hS⟩⟩
theorem ts_one {c : Expr} {t : TT} {d : DT} (h : ET Γ X c t d) : ETs Γ X [c] t d := ⟨fun g => pts_one (h.pe g), h.snd⟩
theorem Good.blk (g : Good Γ X) (s : Shared) (H : Hp) (scope : Scope) (cenv : Env) (fp : List Addr) : Good Γ (X.blk s H scope cenv fp) := ⟨g.P, g.w, g.K, g.mg, g.base, g.calm, g.un, rfl, g.nd⟩
theorem SndX.lc {wi : TI} {g : TG} {tt : TT} {te : TE} {vs ix : List Nat} {di : DI} {dg : DG} {dt : DT} {de : DX} (hi : SndI Γ false wi di) (hg : SndG Γ g dg ix) (ht : SndT Γ tt dt) (he : SndX Γ te de) (hix : ∀ i ∈ ix, i ∈ vs) : SndX Γ (tLc wi g tt te vs) (xLc di vs dg dt de) := ⟨fun W env σ st x st' hE hS hd Q hQ => by
  unfold xLc at hd
  obtain ⟨⟨items, st1⟩, e1, hd⟩ := Option.bind_eq_some_iff.mp hd
  obtain ⟨⟨all, st2⟩, e2, hd⟩ := Option.bind_eq_some_iff.mp hd
  split at hd
  · rename_i hlen
    cases hd
    refine hi.run W env σ st items st1 hE hS e1 _ fun W1 J E1 S1 ok => ?_
    have ok : WOk Γ (ExtM W) W1 J items := ok
    intro D hD0
    let n := items.length
    let wenv := wipeD env vs
    refine ⟨fun i m H => m = n - i ∧ i ≤ n ∧ ∃ W' s acc vacc rest, W'.H = H ∧ ExtE W1 W' ∧ RSt Γ W' s ∧ W'.H D = some (.lst vacc) ∧ W'.T D = .oth ∧ RVs Γ W' acc vacc ∧ compD dg dt de (items.drop i) wenv s = some (rest, st2) ∧ all = acc ++ rest,
      ⟨n, rfl, Nat.zero_le _, W1.lay D (.lst []) .oth, st1, [], [], all, rfl, lay_ext hD0, lay_st hD0 S1, lay_at, lay_T, RVs_nil.mpr rfl, e2, rfl⟩, ?_⟩
    rintro i m H ⟨rfl, hle, W2, s, acc, vacc, rest, rfl, E2, S2, hDat, hDT, hacc, hc, hall⟩
    by_cases hlt : i < n
    · refine .inr ⟨ok.go W2 i E2.m hlt, fun H' => ∃ W' s acc vacc rest, W'.H = H' ∧ ExtE W1 W' ∧ RSt Γ W' s ∧ W'.H D = some (.lst vacc) ∧ W'.T D = .oth ∧ RVs Γ W' acc vacc ∧ compD dg dt de (items.drop (i + 1)) wenv s = some (rest, st2) ∧ all = acc ++ rest, ?_, fun y H' hy => ?_⟩
      · rintro H' ⟨W', q⟩
        exact ⟨n - (i + 1), by omega, rfl, hlt, W', q⟩
      · obtain ⟨W3, p, hp, L3, rfl, r3⟩ := ok.yld W2 i y H' E2.m ⟨s, S2⟩ hy hlt
        have hdrop : items.drop i = p :: items.drop (i + 1) := by
          obtain ⟨h1, h2⟩ := List.getElem?_eq_some_iff.mp hp
          rw [← h2]; exact List.drop_eq_getElem_cons h1
        rw [hdrop] at hc
        obtain ⟨env1, e3, hc⟩ := Option.bind_eq_some_iff.mp hc
        obtain ⟨⟨b, s4⟩, e4, hc⟩ := Option.bind_eq_some_iff.mp hc
        have E3 : ExtE W1 W3 := E2.trans L3.toExtE
        have En3 : REn Γ W3 wenv (wipe σ vs) := wipe_en ((hE.ext E1).ext E3) vs
        refine hg.run W3 wenv (wipe σ vs) p y env1 En3 r3 e3 _ fun σ3 En4 hw => ⟨(hw vs hix).trans wipe_wipe, ?_⟩
        refine ht.run W3 env1 σ3 s b s4 En4 (L3.st s S2) e4 _ fun W4 E4 S4 => ?_
        have E24 : ExtE W2 W4 := L3.toExtE.trans E4
        cases b with
        | false =>
          refine iteF ⟨W4, s4, acc, vacc, rest, rfl, E3.trans E4, S4, (E24.slots D _ hDat (.inl hDT)).1, (E24.slots D _ hDat (.inl hDT)).2.trans hDT, RVs_ext E24.toExt _ _ hacc, hc, hall⟩
        | true =>
          obtain ⟨⟨yv, s5⟩, e5, hc⟩ := Option.bind_eq_some_iff.mp (show (de env1 s4).bind _ = _ from hc)
          obtain ⟨q, e6, hc⟩ := Option.bind_eq_some_iff.mp hc
          obtain ⟨⟨rest2, s6⟩, e7, hc⟩ := Option.map_eq_some_iff.mp hc
          cases hc
          refine iteT (he.run W4 env1 σ3 s4 yv s5 (En4.ext E4) S4 e5 _ fun W5 v E5 S5 R5 => ?_)
          obtain ⟨W6, E6, S6, R6, H6⟩ := pv_at S5 E5 R5 e6
          have E26 : ExtE W2 W6 := E24.trans E6
          have hD6 := E26.slots D _ hDat (.inl hDT)
          have hT6 : W6.T D = .oth := hD6.2.trans hDT
          have hlt2 : vacc.length < sizeLine := by
            have h1 := RVs_len hacc
            rw [hall] at hlen
            simp at hlen
            omega
          refine ⟨vacc, by rw [← H6]; exact hD6.1, hlt2, W6.put D (.lst (vacc ++ [v])), s5, acc ++ [q], vacc ++ [v], rest2, by rw [← H6]; rfl, ?_, ?_, put_at, hT6, ?_, e7, by rw [hall]; simp⟩
          · have E16 : ExtE W1 W6 := E2.trans E26
            refine ⟨⟨fun a o ha ht => ?_, E16.mu, E16.old, fun a o ha => ?_⟩, fun a o ha ht => ?_⟩
            · rw [put_ne (ne_of_none ha hD0)]; exact E16.keep a o ha ht
            · rw [put_ne (ne_of_none ha hD0)]; exact E16.there a o ha
            · rw [put_ne (ne_of_none ha hD0)]; exact E16.slots a o ha ht
          · exact S6.put (oth_nfz (K := Γ) (c := .lst acc) ⟨vacc, hD6.1, RVs_ext E26.toExt _ _ hacc⟩ hT6) (fun n => by rw [hT6]; intro z; cases z) ⟨_, hD6.1⟩
          · refine RVs_map (W := W6) (W' := W6.put D (.lst (vacc ++ [v]))) rfl (put_frz (oth_nfz (K := Γ) (c := .lst acc) ⟨vacc, hD6.1, RVs_ext E26.toExt _ _ hacc⟩ hT6)) _ _ ?_
            exact RVs_append (RVs_ext E26.toExt _ _ hacc) (RVs_cons'.mpr ⟨R6, RVs_nil.mpr rfl⟩)
    · have e : i = n := by omega
      subst e
      rw [List.drop_length] at hc
      cases hc
      refine .inl ⟨ok.stop W2 E2.m, ?_⟩
      rw [List.append_nil] at hall
      subst hall
      refine hQ W2 _ (E1.trans E2) S2 ⟨D, rfl, ⟨vacc, hDat, hacc⟩, hDT, ?_, none_back E1.toExt hD0⟩
      have := S1.nold hD0
      rw [E2.old]
      exact this
  · cases hd⟩
theorem e_lc {elt tg iter : Expr} {ifs : List Expr} {scope : Scope} (own : List (Str × Nat)) {pos : Pos} {wi : TI} {g : TG} {tt : TT} {te : TE} {di : DI} {dg : DG} {dt : DT} {de : DX} {ix : List Nat} (hi : EI Γ X false tg iter wi di) (ok : BlkOk X.N X.env.scope scope own)
    (hg : ∀ (s : Shared) (H : Hp) (C : Addr) (cl : List (Str × Addr)) (fp : List Addr), EG Γ (X.blk s H scope (compEnvC scope cl C X.env) fp) tg g dg ix) (ht : ∀ (s : Shared) (H : Hp) (C : Addr) (cl : List (Str × Addr)) (fp : List Addr), ETs Γ (X.blk s H scope (compEnvC scope cl C X.env) fp) ifs tt dt)
    (he : ∀ (s : Shared) (H : Hp) (C : Addr) (cl : List (Str × Addr)) (fp : List Addr), EX Γ (X.blk s H scope (compEnvC scope cl C X.env) fp) elt te de) (hix : ∀ i ∈ ix, i ∈ own.map (·.2) := by decide) (hs : ∀ x, foldedSetIterable iter X.env x = pure x := by intro _; rfl) :
    EX Γ X (.ListComp elt [⟨tg, iter, ifs, 0⟩] scope pos) (tLc wi g tt te (own.map (·.2))) (xLc di (own.map (·.2)) dg dt de) :=
  ⟨fun gd => pe_lc gd.calm gd.nd (hi.pe gd) ok (fun s H C cl fp => (hg s H C cl fp).pe (gd.blk ..)) (fun s H C cl fp => (ht s H C cl fp).pe (gd.blk ..)) (fun s H C cl fp => (he s H C cl fp).pe (gd.blk ..)) hs,
    .lc hi.snd (hg X.s_0 X.H_0 0 [] []).snd (ht X.s_0 X.H_0 0 [] []).snd (he X.s_0 X.H_0 0 [] []).snd hix⟩
theorem st_setLc (m : Md) {i : Nat} {y : Str} {py : Pos} {elt tg iter : Expr} {ifs : List Expr} {scope : Scope} (own : List (Str × Nat)) {pos spos : Pos} {wi : TI} {g : TG} {tt : TT} {te : TE} {di : DI} {dg : DG} {dt : DT} {de : DX} {ix : List Nat} (hy : X.N[i]? = some y := by rfl) (hyl : X.env.scope.names.lookup y = some .local := by rfl)
    (hsw : swapsWith (.ListComp elt [⟨tg, iter, ifs, 0⟩] scope pos) (some (.Name y py)) spos.line X.env = pure true) (hi : EI Γ X false tg iter wi di) (ok : BlkOk X.N X.env.scope scope own)
    (hg : ∀ (s : Shared) (H : Hp) (C : Addr) (cl : List (Str × Addr)) (fp : List Addr), EG Γ (X.blk s H scope (compEnvC scope cl C X.env) fp) tg g dg ix) (ht : ∀ (s : Shared) (H : Hp) (C : Addr) (cl : List (Str × Addr)) (fp : List Addr), ETs Γ (X.blk s H scope (compEnvC scope cl C X.env) fp) ifs tt dt)
    (he : ∀ (s : Shared) (H : Hp) (C : Addr) (cl : List (Str × Addr)) (fp : List Addr), EX Γ (X.blk s H scope (compEnvC scope cl C X.env) fp) elt te de) (hix : ∀ i ∈ ix, i ∈ own.map (·.2) := by decide) (hs : ∀ x, foldedSetIterable iter X.env x = pure x := by intro _; rfl) :
    ES Γ X (.Assign [.Name y py] (.ListComp elt [⟨tg, iter, ifs, 0⟩] scope pos) spos) (tAsg (tLc wi g tt te (own.map (·.2))) (gName i)) (sSet m i (xLc di (own.map (·.2)) dg dt de)) :=
  ⟨fun gd => ps_setLc gd.calm gd.nd hy hyl hsw (hi.pe gd) ok (fun s H C cl fp => (hg s H C cl fp).pe (gd.blk ..)) (fun s H C cl fp => (ht s H C cl fp).pe (gd.blk ..)) (fun s H C cl fp => (he s H C cl fp).pe (gd.blk ..)) hs,
    .set (.lc hi.snd (hg X.s_0 X.H_0 0 [] []).snd (ht X.s_0 X.H_0 0 [] []).snd (he X.s_0 X.H_0 0 [] []).snd hix)⟩
end
end DD
/-! DMore -/
namespace DD
open PySem PySem.Spec PyProof.Rows L2

section
variable {Γ K : Ctx} {X : Cx} {W : World}
/-! ### displays -/
def xTup (a : DA) : DX := fun env st => (a env st).bind fun r => (pvs r.1).bind fun ps => if ps.length ≤ sizeLine then some (.v (.tup ps), r.2) else none
def xLst (a : DA) : DX := fun env st => (a env st).bind fun r => (pvs r.1).bind fun ps => if ps.length ≤ sizeLine then some (.o (.lst ps), r.2) else none
theorem e_tup {es : List Expr} {t : TA} {d : DA} {x1} {pos : Pos} (h : EA Γ X es t d) : EX Γ X (.Tuple es x1 pos) (tTup t) (xTup d) := ⟨fun g => pe_tup (h.pe g), ⟨fun W env σ st x st' hE hS hd Q hQ => by
  unfold xTup at hd
  obtain ⟨⟨xs, st1⟩, e1, hd⟩ := Option.bind_eq_some_iff.mp hd
  obtain ⟨ps, e2, hd⟩ := Option.bind_eq_some_iff.mp hd
  split at hd
  · rename_i hl
    cases hd
    refine h.snd.run W env σ st xs _ hE hS e1 _ fun W1 us E1 S1 R1 => ?_
    obtain ⟨W2, E2, S2, R2, H2⟩ := pvs_at S1 E1 R1 e2
    refine ⟨by rw [← RVs_len R2]; exact hl, fun p hp => ?_⟩
    rw [← H2] at hp ⊢
    obtain ⟨W3, E3, S3, R3, eH⟩ := new_tup S2 R2 hp
    rw [← eH]
    exact hQ W3 _ (E2.trans E3) S3 (R3.back E2.toExt)
  · cases hd⟩⟩
theorem e_lst {es : List Expr} {t : TA} {d : DA} {pos : Pos} (h : EA Γ X es t d) : EX Γ X (.List es pos) (tLst t) (xLst d) := ⟨fun g => pe_lst (h.pe g), ⟨fun W env σ st x st' hE hS hd Q hQ => by
  unfold xLst at hd
  obtain ⟨⟨xs, st1⟩, e1, hd⟩ := Option.bind_eq_some_iff.mp hd
  obtain ⟨ps, e2, hd⟩ := Option.bind_eq_some_iff.mp hd
  split at hd
  · rename_i hl
    cases hd
    refine h.snd.run W env σ st xs _ hE hS e1 _ fun W1 us E1 S1 R1 => ?_
    obtain ⟨W2, E2, S2, R2, H2⟩ := pvs_at S1 E1 R1 e2
    refine ⟨by rw [← RVs_len R2]; exact hl, fun p hp => ?_⟩
    rw [← H2] at hp ⊢
    obtain ⟨W3, E3, S3, R3, eH⟩ := new_lst S2 R2 hp
    rw [← eH]
    exact hQ W3 _ (E2.trans E3) S3 (R3.back E2.toExt)
  · cases hd⟩⟩
/-- *x in a display -/
def XV.seq (st : MS) (x : XV) : Option (List PV) := match x.lst st with
  | some xs => some xs
  | none => x.tup
def aStar (a : DX) (b : DA) : DA := fun env st => (a env st).bind fun r => (r.1.seq r.2).bind fun xs => (b env r.2).map fun q => (xs.map XV.v ++ q.1, q.2)
theorem RXs_of {W0 : World} : ∀ {xs : List PV} {vs : List V} {ys : List XV} {ws : List V}, RVs K W xs vs → RXs K W0 W ys ws → RXs K W0 W (xs.map XV.v ++ ys) (vs ++ ws)
  | [], vs, ys, ws, h, r => by cases RVs_nil.mp h; exact r
  | x :: xs, vs, ys, ws, h, r => by
    obtain ⟨v, vs', rfl, h1, h2⟩ := RVs_cons.mp h
    exact .cons h1 (RXs_of h2 r)
theorem a_star {e : Expr} {es : List Expr} {te : TE} {t : TA} {d : DX} {b : DA} {p : Pos} (he : EX Γ X e te d) (hr : EA Γ X es t b) (hs : starEach (.Starred e p :: es) X.env = (true, eval e X.env) :: starEach es X.env := by rfl) :
    EA Γ X (.Starred e p :: es) (StX.tStar Γ.K te t) (aStar d b) := ⟨fun g => g.K ▸ StX.pa_star (he.pe g) (hr.pe g) hs, ⟨fun W env σ st xs st' hE hS hd Q hQ => by
  unfold aStar at hd
  obtain ⟨⟨x, st1⟩, e1, hd⟩ := Option.bind_eq_some_iff.mp hd
  obtain ⟨ys, e2, hd⟩ := Option.bind_eq_some_iff.mp hd
  obtain ⟨⟨zs, st2⟩, e3, hd⟩ := Option.map_eq_some_iff.mp hd
  cases hd
  refine he.snd.run W env σ st x st1 hE hS e1 _ fun W1 u E1 S1 R1 => ?_
  obtain ⟨a, vs, rfl, h2, h3⟩ : ∃ a vs, u = .ref a ∧ (SqT Γ.K W1.H a vs ∨ SqL Γ.K W1.H a vs) ∧ RVs Γ W1 ys vs := by
    unfold XV.seq at e2
    split at e2
    · rename_i h1
      cases e2
      obtain ⟨a, vs, q1, q2, q3⟩ := lst_at S1 R1 h1
      exact ⟨a, vs, q1, .inr q2, q3⟩
    · obtain ⟨a, vs, q1, q2, q3⟩ := tup_at R1 e2
      exact ⟨a, vs, q1, .inl q2, q3⟩
  refine ⟨a, vs, rfl, h2, ?_⟩
  refine hr.snd.run W1 env σ st1 zs _ (hE.ext E1) S1 e3 _ fun W2 ws E2 S2 R2 => ?_
  exact hQ W2 _ (E1.trans E2) S2 (RXs_of (RVs_ext E2.toExt _ _ h3) (R2.back E1.toExt))⟩⟩
/-- a new empty dict -/
def xDictK : DX := fun _ st => some (.o (.dK []), st)
def xDictT : DX := fun _ st => some (.o (.dT []), st)
theorem e_dictK {pos : Pos} : EX Γ X (.Dict [] [] pos) tDNewK xDictK := ⟨fun _ => pe_dnewK, ⟨fun W env σ st x st' hE hS hd Q hQ => by
  cases hd
  exact fun p hp => hQ (W.lay p (.dK []) .oth) _ (lay_ext hp) (lay_st hp hS) ⟨p, rfl, ⟨[], lay_at, RVs_nil.mpr rfl⟩, lay_T, hS.nold hp, hp⟩⟩⟩
theorem e_dictT {pos : Pos} : EX Γ X (.Dict [] [] pos) tDNewT xDictT := ⟨fun _ => pe_dnewT, ⟨fun W env σ st x st' hE hS hd Q hQ => by
  cases hd
  exact fun p hp => hQ (W.lay p (.dT []) .oth) _ (lay_ext hp) (lay_st hp hS) ⟨p, rfl, ⟨[], lay_at, RVs_nil.mpr rfl⟩, lay_T, hS.nold hp, hp⟩⟩⟩

/-! ### calls -/
/-- what the top has made of a def: it keeps the promise that df tells -/
structure Df (Γ : Ctx) (x : Str) (f : Addr) (k : Nat) (ps : List Str) (df : DF) : Prop where
  ex : ∃ fd, FnOk Γ.P Γ.w Γ.K Γ.mg Γ.base CX0 k f fd ps (spD Γ ps.length df) ∧ Binds Γ.K fd ps []
  mg : Γ.mg x = some (.ref f)
  kp : PySem.W.keepIn Γ.K (.ref f) = true
theorem SndX.call {df : DF} {n : Nat} {t : TA} {d : DA} {E : XK} (h : SndA Γ t d) : SndX Γ (tCall (spD Γ n df) [] E t) (xCall df n d) := ⟨fun W env σ st x st' hE hS hd Q hQ => by
  unfold xCall at hd
  obtain ⟨⟨xs, st1⟩, e1, hd⟩ := Option.bind_eq_some_iff.mp hd
  split at hd
  · rename_i hl
    refine h.run W env σ st xs st1 hE hS e1 _ fun W1 us E1 S1 R1 => ?_
    rw [List.append_nil]
    exact callD_snd S1 E1 R1 hl hd hQ
  · cases hd⟩
theorem e_call {x : Str} {f : Addr} {k : Nat} {ps : List Str} {df : DF} {e : Expr} {es : List Expr} {t : TA} {d : DA} {p pos : Pos} (F : Df Γ x f k ps df) (hr : Room k X.A) (hg : Gl X x) (ha : EA Γ X (e :: es) t d)
    (hdb : (x == ("__debug__" : Str)) = false := by decide) (he : starEach (e :: es) X.env = (false, eval e X.env) :: starEach es X.env := by rfl) (hpl : (backTo pos (starEach es X.env)).any (·.1) = false := by rfl) :
    EX Γ X (.Call (.Name x p) (e :: es) [] pos) (tCall (spD Γ ps.length df) [] E0 t) (xCall df ps.length d) := ⟨fun g => by
  obtain ⟨fd, F1, B⟩ := F.ex
  obtain ⟨gP, gw, gK, gmg, gb, _⟩ := g
  rw [← gP, ← gw, ← gK, ← gmg, ← gb] at F1
  rw [← gK] at B
  exact pe_call F1 hr hg (by rw [gmg]; exact F.mg) (by rw [gK]; exact F.kp) B .nil pass0 (ha.pe ⟨gP, gw, gK, gmg, gb, by assumption, by assumption, by assumption, by assumption⟩) hdb he hpl, .call ha.snd⟩
/-- a call of a slot's def: one of those told by S -/
def callS (S : Addr → Option (Nat × DF)) (p : PV) (xs : List XV) (st : MS) : Option (XV × MS) := match p with
  | .ref f => (S f).bind fun r => if xs.length = r.1 then callD r.2 xs st else none
  | _ => none
def xCallS (S : Addr → Option (Nat × DF)) (i : Nat) (a : DA) : DX := fun env st => match env[i]? with
  | some (.v p) => (a env st).bind fun r => callS S p r.1 r.2
  | _ => none
structure Dfs (Γ : Ctx) (k : Nat) (S : Addr → Option (Nat × DF)) : Prop where
  ok : ∀ f r, S f = some r → ∃ fd ps, ps.length = r.1 ∧ FnOk Γ.P Γ.w Γ.K Γ.mg Γ.base CX0 k f fd ps (spD Γ ps.length r.2) ∧ Binds Γ.K fd ps [] ∧ PySem.W.keepIn Γ.K (.ref f) = true
theorem e_callS {S : Addr → Option (Nat × DF)} {x : Str} (i : Nat) {k : Nat} {e : Expr} {es : List Expr} {t : TA} {d : DA} {p pos : Pos} (F : Dfs Γ k S) (hr : Room k X.A) (ha : EA Γ X (e :: es) t d) (hN : X.N[i]? = some x := by rfl) (hv : Vis X.env.scope x := by first | exact Or.inl rfl | exact Or.inr (Or.inl rfl) | exact Or.inr (Or.inr rfl))
    (hdb : (x == ("__debug__" : Str)) = false := by decide) (hcd : (x == ("__classdict__" : Str)) = false := by decide) (he : starEach (e :: es) X.env = (false, eval e X.env) :: starEach es X.env := by rfl) (hpl : (backTo pos (starEach es X.env)).any (·.1) = false := by rfl) :
    EX Γ X (.Call (.Name x p) (e :: es) [] pos) (tCallA i (fun f => (S f).map fun r => spD Γ r.1 r.2) t) (xCallS S i d) := ⟨fun g => by
  refine pe_callA (fun f sp hs => ?_) hr hN hv (ha.pe g) hdb hcd he hpl
  obtain ⟨r, hr1, rfl⟩ := Option.map_eq_some_iff.mp hs
  obtain ⟨fd, ps, hl, F1, B, kp⟩ := F.ok f r hr1
  obtain ⟨gP, gw, gK, gmg, gb, _⟩ := g
  rw [gP, gw, gK, gmg, gb]
  exact ⟨fd, ps, by rw [← hl]; exact F1, kp, B⟩, ⟨fun W env σ st x st' hE hS hd Q hQ => by
  unfold xCallS at hd
  split at hd
  · rename_i q hq
    obtain ⟨⟨xs, st1⟩, e1, hd⟩ := Option.bind_eq_some_iff.mp hd
    have hd : callS S q xs st1 = some (x, st') := hd
    unfold callS at hd
    split at hd
    · obtain ⟨r, e2, hd⟩ := Option.bind_eq_some_iff.mp hd
      split at hd
      · rename_i hl
        obtain ⟨v, h1, h2⟩ := hE.sl i _ hq
        unfold RV at h2
        subst h2
        refine ⟨_, _, h1, by show (S _).map _ = _; rw [e2]; rfl, ?_⟩
        exact ha.snd.run W env σ st xs st1 hE hS e1 _ fun W1 us E1 S1 R1 => callD_snd S1 E1 R1 hl hd hQ
      · cases hd
    · cases hd
  · cases hd⟩⟩
end
end DD
/-! DPar -/
namespace DD
open PySem PySem.Spec PyProof.Rows L2

section
variable {Γ K : Ctx} {X : Cx} {W : World}
/-! ### several values at once -/
/-- a value that the slot i is to get -/
def RSv (K : Ctx) (W : World) (i : Nat) : Slot → V → Prop
  | .un, _ => True
  | .v p, v => RV K W p v
  | .own c, v => ∃ a, v = .ref a ∧ W.T a = .slot i ∧ ¬ W.old a ∧ CtAt K W a c
  | .lk p, v => RV K W p v ∧ Lkd W v
theorem RSv.ext {W' : World} {i : Nat} {s : Slot} {v : V} (h : RSv K W i s v) (e : ExtE W W') : RSv K W' i s v := by
  cases s with
  | un => trivial
  | v p => exact RV_ext e.toExt p v h
  | own c =>
    obtain ⟨a, h1, h2, h3, h4⟩ := h
    obtain ⟨o, ho⟩ := CtAt_some h4
    exact ⟨a, h1, (e.slots a o ho (.inr ⟨i, h2⟩)).2.trans h2, by rw [e.old]; exact h3, CtAt_ext e.toExt h4 fun o' ho' => (e.slots a o' ho' (.inr ⟨i, h2⟩)).1⟩
  | lk p => exact ⟨RV_ext e.toExt p v h.1, h.2.ext e.toExt⟩
theorem RSv.sl {i : Nat} {s : Slot} {v : V} {σ : L2.St} (h : RSv K W i s v) (hi : i < σ.length) : RSl K W (σ.set i (some v)) i s := by
  have key : (σ.set i (some v))[i]? = some (some v) := by rw [List.getElem?_set_self hi]
  cases s with
  | un => trivial
  | v p => exact ⟨v, key, h⟩
  | own c => obtain ⟨a, rfl, h2⟩ := h; exact ⟨a, key, h2⟩
  | lk p => exact ⟨v, key, h⟩
theorem RSv.of {i : Nat} {s : Slot} {v : V} {σ : L2.St} (h : RSl K W (σ.set i (some v)) i s) (hi : i < σ.length) : RSv K W i s v := by
  have key : (σ.set i (some v))[i]? = some (some v) := by rw [List.getElem?_set_self hi]
  cases s with
  | un => trivial
  | v p => obtain ⟨w, h1, h2⟩ := h; rw [key] at h1; cases h1; exact h2
  | own c => obtain ⟨a, h1, h2⟩ := h; rw [key] at h1; cases h1; exact ⟨a, rfl, h2⟩
  | lk p => obtain ⟨w, h1, h2⟩ := h; rw [key] at h1; cases h1; exact h2
inductive RSvs (K : Ctx) (W : World) : List Nat → List Slot → List V → Prop
  | nil : RSvs K W [] [] []
  | cons {i is s ss v vs} : RSv K W i s v → RSvs K W is ss vs → RSvs K W (i :: is) (s :: ss) (v :: vs)
abbrev DP := DEnv → MS → Option (List Slot × MS)
structure SndP (K : Ctx) (t : TA) (is : List Nat) (d : DP) : Prop where
  run : ∀ W env σ st ss st', REn K W env σ → RSt K W st → (∀ i ∈ is, i < σ.length) → d env st = some (ss, st') → ∀ Q : List V → Hp → Prop, (∀ W' vs, ExtE W W' → RSt K W' st' → REn K W' env σ → RSvs K W' is ss vs → Q vs W'.H) → t σ W.H Q
structure EP' (Γ : Ctx) (X : Cx) (es : List Expr) (t : TA) (is : List Nat) (d : DP) : Prop where
  pe : Good Γ X → PA X es t
  snd : SndP Γ t is d
def pNil : DP := fun _ st => some ([], st)
def pCons (m : Md) (a : DX) (b : DP) : DP := fun env st => (a env st).bind fun r => (slotOf m r.1 r.2).bind fun s => (b env s.2).map fun q => (s.1 :: q.1, q.2)
theorem p_nil : EP' Γ X [] tNil [] pNil := ⟨fun _ => pa_nil, ⟨fun W env σ st ss st' hE hS hi hd Q hQ => by cases hd; exact hQ W [] ExtE.refl hS hE .nil⟩⟩
theorem p_cons (m : Md) (i : Nat) {e : Expr} {es : List Expr} {te : TE} {t : TA} {is : List Nat} {a : DX} {b : DP} (he : EX Γ X e te a) (hr : EP' Γ X es t is b) (hs : starEach (e :: es) X.env = (false, eval e X.env) :: starEach es X.env := by rfl) :
    EP' Γ X (e :: es) (tCons te t) (i :: is) (pCons m a b) := ⟨fun g => pa_cons (he.pe g) (hr.pe g) hs, ⟨fun W env σ st ss st' hE hS hi hd Q hQ => by
  unfold pCons at hd
  obtain ⟨⟨x, st1⟩, e1, hd⟩ := Option.bind_eq_some_iff.mp hd
  obtain ⟨⟨s, st2⟩, e2, hd⟩ := Option.bind_eq_some_iff.mp hd
  obtain ⟨⟨ss2, st3⟩, e3, hd⟩ := Option.map_eq_some_iff.mp hd
  cases hd
  refine he.snd.run W env σ st x st1 hE hS e1 _ fun W1 v E1 S1 R1 => ?_
  have hil := hi i (by simp)
  obtain ⟨W2, E2, S2, En2, R2, H2⟩ := slotOf_at S1 E1 R1 e2 (hE.ext E1) hil
  rw [← H2]
  refine hr.snd.run W2 env σ st2 ss2 _ En2 S2 (fun j hj => hi j (List.mem_cons_of_mem _ hj)) e3 _ fun W3 vs E3 S3 En3 R3 => ?_
  exact hQ W3 _ (E2.trans E3) S3 En3 (.cons ((RSv.of R2 hil).ext E3) R3)⟩⟩
/-- a, b = x, y of plain names -/
def sPar2 (i j : Nat) (d : DP) : DS := fun env st => (d env st).bind fun r => match r.1 with
  | [s, t] => if i < env.length ∧ j < env.length then some (.nx, (env.set i s).set j t, r.2) else none
  | _ => none
theorem st_par2 {i j : Nat} {x y : Str} {a b : Expr} {ta : TA} {d : DP} {px py pt pos : Pos} {kt k2 pt2} (ha : EP' Γ X [a, b] ta [i, j] d) (hij : i ≠ j) (hl1 : i < X.N.length) (hl2 : j < X.N.length) (hi : X.N[i]? = some x := by rfl) (hj : X.N[j]? = some y := by rfl)
    (hx : X.env.scope.names.lookup x = some .local := by rfl) (hy : X.env.scope.names.lookup y = some .local := by rfl)
    (hw : swappedStores [.Tuple [.Name x px, .Name y py] kt pt] (.Tuple [a, b] k2 pt2) X.env = pure (some [x, y]) := by with_unfolding_all rfl)
    (hs : swapsWithSole [.Tuple [.Name x px, .Name y py] kt pt] (.Tuple [a, b] k2 pt2) pos.line X.env = pure false := by rfl) :
    ES Γ X (.Assign [.Tuple [.Name x px, .Name y py] kt pt] (.Tuple [a, b] k2 pt2) pos) (tPar i j ta) (sPar2 i j d) := ⟨fun g => ps_par g.calm g.nd hi hj hij hx hy (ha.pe g) hw hs, ⟨fun W env σ st fl env' st' hE hS hd D hD => by
  unfold sPar2 at hd
  obtain ⟨⟨ss, st1⟩, e1, hd⟩ := Option.bind_eq_some_iff.mp hd
  simp only at hd
  split at hd
  · rename_i s t
    split at hd
    · rename_i hl
      cases hd
      have l1 : i < σ.length := by rw [← hE.len]; exact hl.1
      have l2 : j < σ.length := by rw [← hE.len]; exact hl.2
      refine ha.snd.run W env σ st [s, t] st' hE hS (fun k hk => ?_) e1 _ fun W1 vs E1 S1 En1 R1 => ?_
      · rcases (show k = i ∨ k = j by simpa using hk) with rfl | rfl <;> assumption
      · cases R1 with
        | cons r1 R1 =>
          cases R1 with
          | cons r2 R1 =>
            cases R1
            exact ⟨_, _, rfl, hD W1 _ E1.toExt S1 ((En1.set (r1.sl l1)).set (r2.sl (by simpa using l2)))⟩
    · cases hd
  · cases hd⟩⟩
/-- a, b, c = x, y, z of plain names -/
def sPar3 (i j l : Nat) (d : DP) : DS := fun env st => (d env st).bind fun r => match r.1 with
  | [s, t, u] => if i < env.length ∧ j < env.length ∧ l < env.length then some (.nx, ((env.set i s).set j t).set l u, r.2) else none
  | _ => none

/-! ### other targets -/
abbrev DGm := PV → DEnv → MS → Option (DEnv × MS)
structure EGm (Γ : Ctx) (X : Cx) (e : Expr) (t : TG) (d : DGm) : Prop where
  pe : Good Γ X → PG X e t
  snd : ∀ W env σ st p v env' st', REn Γ W env σ → RSt Γ W st → RV Γ W p v → d p env st = some (env', st') → ∀ Q : L2.St → Hp → Prop, (∀ W' σ', Ext W W' → RSt Γ W' st' → REn Γ W' env' σ' → Q σ' W'.H) → t v σ W.H Q
abbrev DGms := List PV → DEnv → MS → Option (DEnv × MS)
structure EGms (Γ : Ctx) (X : Cx) (es : List Expr) (t : TGs) (d : DGms) : Prop where
  pe : Good Γ X → PGs X es t
  snd : ∀ W env σ st ps vs env' st', REn Γ W env σ → RSt Γ W st → RVs Γ W ps vs → d ps env st = some (env', st') → ∀ Q : L2.St → Hp → Prop, (∀ W' σ', Ext W W' → RSt Γ W' st' → REn Γ W' env' σ' → Q σ' W'.H) → t vs σ W.H Q
def gmOf (d : DG) : DGm := fun p env st => (d p env).map fun e => (e, st)
theorem gm_of {e : Expr} {t : TG} {d : DG} {ix : List Nat} (h : EG Γ X e t d ix) : EGm Γ X e t (gmOf d) := ⟨h.pe, fun W env σ st p v env' st' hE hS r hd Q hQ => by
  obtain ⟨e1, e2, hd⟩ := Option.map_eq_some_iff.mp hd
  cases hd
  exact h.snd.run W env σ p v _ hE r e2 Q fun σ' En _ => hQ W σ' Ext.refl hS En⟩
def gmNil : DGms := fun ps env st => match ps with
  | [] => some (env, st)
  | _ => none
def gmCons (a : DGm) (b : DGms) : DGms := fun ps env st => match ps with
  | p :: ps => (a p env st).bind fun r => b ps r.1 r.2
  | [] => none
theorem gm_nil : EGms Γ X [] gNil gmNil := ⟨fun _ => pgs_nil, fun W env σ st ps vs env' st' hE hS r hd Q hQ => by
  unfold gmNil at hd
  split at hd
  · cases hd; exact ⟨RVs_nil.mp r, hQ W σ Ext.refl hS hE⟩
  · cases hd⟩
theorem gm_cons {e : Expr} {es : List Expr} {t : TG} {u : TGs} {a : DGm} {b : DGms} (h1 : EGm Γ X e t a) (h2 : EGms Γ X es u b) (hs : (assignEach (e :: es) X.env).map (·.2) = assign e X.env :: (assignEach es X.env).map (·.2) := by rfl) :
    EGms Γ X (e :: es) (gCons t u) (gmCons a b) := ⟨fun g => pgs_cons (h1.pe g) (h2.pe g) hs, fun W env σ st ps vs env' st' hE hS r hd Q hQ => by
  unfold gmCons at hd
  split at hd
  · obtain ⟨⟨env1, st1⟩, e1, hd⟩ := Option.bind_eq_some_iff.mp hd
    obtain ⟨v, vs', rfl, r1, r2⟩ := RVs_cons.mp r
    refine ⟨v, vs', rfl, h1.snd W env σ st _ v env1 st1 hE hS r1 e1 _ fun W1 σ1 E1 S1 En1 => ?_⟩
    exact h2.snd W1 env1 σ1 st1 _ vs' env' st' En1 S1 (RVs_ext E1 _ _ r2) hd Q fun W2 σ2 E2 S2 En2 => hQ W2 σ2 (E1.trans E2) S2 En2
  · cases hd⟩
def slotPs : List Slot → Option (List PV)
  | [] => some []
  | .v p :: ss => (slotPs ss).map fun ps => p :: ps
  | _ => none
theorem slotPs_at : ∀ {ss : List Slot} {is : List Nat} {vs : List V} {ps : List PV}, RSvs K W is ss vs → slotPs ss = some ps → RVs K W ps vs
  | [], _, _, _, r, e => by cases r; cases e; exact RVs_nil.mpr rfl
  | .v p :: ss, _, _, _, r, e => by
    obtain ⟨ps, e1, e⟩ := Option.map_eq_some_iff.mp (show (slotPs ss).map (fun ps => p :: ps) = some _ from e)
    cases e
    cases r with
    | cons r1 r2 => exact RVs_cons'.mpr ⟨r1, slotPs_at r2 e1⟩
  | .un :: _, _, _, _, _, e => by cases e
  | .own _ :: _, _, _, _, _, e => by cases e
  | .lk _ :: _, _, _, _, _, e => by cases e
/-- a, b, .. = x, y, .. through a tuple -/
def sParG (n : Nat) (d : DP) (g : DGms) : DS := fun env st => (d env st).bind fun r => (slotPs r.1).bind fun ps => if ps.length ≤ sizeLine ∧ ps.length = n ∧ 0 < env.length then (g ps env r.2).map fun q => (.nx, q.1, q.2) else none
theorem st_parG {ts es : List Expr} {ta : TA} {is : List Nat} {d : DP} {tg : TGs} {dg : DGms} {n : Nat} {k1 k2 : Nat} {p1 p2 pos : Pos} (ha : EP' Γ X es ta is d) (hg : EGms Γ X ts tg dg) (hn : (assignEach ts X.env).length = n := by rfl) (hst : (assignEach ts X.env).findIdx? (·.1) = none := by rfl)
    (his : ∀ i ∈ is, i = 0 := by decide) (hs : swapsWithSole [.Tuple ts k1 p1] (.Tuple es k2 p2) pos.line X.env = pure false := by rfl) (hw : swappedStores [.Tuple ts k1 p1] (.Tuple es k2 p2) X.env = pure none := by rfl) :
    ES Γ X (.Assign [.Tuple ts k1 p1] (.Tuple es k2 p2) pos) (tAsg (tTup ta) (gTup Γ.K n tg)) (sParG n d dg) := ⟨fun g => ps_asg (pe_tup (ha.pe g)) (g.K ▸ pg_tup g.calm (hg.pe g) hn hst) hs hw, ⟨fun W env σ st fl env' st' hE hS hd D hD => by
  unfold sParG at hd
  obtain ⟨⟨ss, st1⟩, e1, hd⟩ := Option.bind_eq_some_iff.mp hd
  obtain ⟨ps, e2, hd⟩ := Option.bind_eq_some_iff.mp hd
  split at hd
  · rename_i hl
    obtain ⟨⟨env2, st2⟩, e3, hd⟩ := Option.map_eq_some_iff.mp hd
    cases hd
    refine ha.snd.run W env σ st ss st1 hE hS (fun i hi => by rw [his i hi, ← hE.len]; exact hl.2.2) e1 _ fun W1 vs E1 S1 En1 R1 => ?_
    have r1 := slotPs_at R1 e2
    refine ⟨by rw [← RVs_len r1]; exact hl.1, fun p hp => ?_⟩
    have e4 := lay_ext (W := W1) (o := .tup vs) (t := .frz) hp
    refine ⟨p, vs, rfl, SqT.of upd_same, by rw [← RVs_len r1]; exact hl.2.1, ?_⟩
    refine hg.snd (W1.lay p (.tup vs) .frz) env σ st1 ps vs _ _ (En1.ext e4) (lay_st hp S1) (RVs_ext e4.toExt _ _ r1) e3 _ fun W2 σ2 E2 S2 En2 => ?_
    exact hD W2 σ2 (E1.toExt.trans (e4.toExt.trans E2)) S2 En2
  · cases hd⟩⟩

end
end DD
/-! DAttr -/
namespace DD
open PySem PySem.Spec PyProof.Rows L2

section
variable {Γ K : Ctx} {X : Cx} {W : World}
/-- a new thing goes to the store -/
def xNew (d : DX) : DX := fun env st => (d env st).map fun r => match r.1 with
  | .o c => (.v (.obj r.2.length), r.2 ++ [c])
  | x => (x, r.2)
theorem new_obj {W0 : World} {st : MS} {c : Cont} {v : V} (hS : RSt K W st) (hE : ExtE W0 W) (r : RX K W0 W (.o c) v) : ∃ W', ExtE W0 W' ∧ RSt K W' (st ++ [c]) ∧ RV K W' (.obj st.length) v ∧ W'.H = W.H := by
  have hen : REn K W [.un] [none] := ⟨rfl, fun i s hs => by
    cases i with
    | zero => cases hs; trivial
    | succ i => cases hs⟩
  obtain ⟨W', a1, a2, a3, a4, a5⟩ := slotOf_at (m := .N) (i := 0) (s := .v (.obj st.length)) (st' := st ++ [c]) hS hE r rfl hen (by decide)
  obtain ⟨w, b1, b2⟩ := a4
  have b1 : some (some v) = some (some w) := b1
  cases b1
  exact ⟨W', a1, a2, b2, a5⟩
theorem e_new {e : Expr} {t : TE} {d : DX} (h : EX Γ X e t d) : EX Γ X e t (xNew d) := ⟨h.pe, ⟨fun W env σ st x st' hE hS hd Q hQ => by
  unfold xNew at hd
  obtain ⟨⟨y, st1⟩, e1, hd⟩ := Option.map_eq_some_iff.mp hd
  refine h.snd.run W env σ st y st1 hE hS e1 _ fun W1 v E1 S1 R1 => ?_
  cases y with
  | v p => cases hd; exact hQ W1 v E1 S1 R1
  | b c => cases hd; exact hQ W1 v E1 S1 R1
  | o c =>
    cases hd
    obtain ⟨W2, E2, S2, R2, H2⟩ := new_obj S1 E1 R1
    rw [← H2]
    exact hQ W2 v E2 S2 R2⟩⟩

/-! ### attributes -/
def atP (fs : List (Str × PV)) (f : Str) : Option PV := fs.lookup f
def putA (f : Str) (v : PV) : List (Str × PV) → List (Str × PV)
  | [] => [(f, v)]
  | (g, w) :: r => if g = f then (g, v) :: r else (g, w) :: putA f v r
theorem at_zip : ∀ {fs : List (Str × PV)} {vs : List V} (f : Str), RVs K W (fs.map (·.2)) vs → (∃ p v, atP fs f = some p ∧ ((fs.map (·.1)).zip vs).lookup f = some v ∧ RV K W p v) ∨ (atP fs f = none ∧ ((fs.map (·.1)).zip vs).lookup f = none)
  | [], vs, f, h => .inr ⟨rfl, by cases vs <;> rfl⟩
  | (g, p) :: fs, vs, f, h => by
    obtain ⟨v, r, rfl, h1, h2⟩ := RVs_cons.mp h
    have ih := at_zip f h2
    show (∃ q w, List.lookup f ((g, p) :: fs) = some q ∧ List.lookup f ((g, v) :: ((fs.map (·.1)).zip r)) = some w ∧ RV K W q w) ∨ (List.lookup f ((g, p) :: fs) = none ∧ List.lookup f ((g, v) :: ((fs.map (·.1)).zip r)) = none)
    by_cases e : (f == g) = true
    · left; exact ⟨p, v, by simp only [List.lookup, e], by simp only [List.lookup, e], h1⟩
    · have e : (f == g) = false := by simpa using e
      simp only [List.lookup, e]; exact ih
theorem putF_zip : ∀ {fs : List (Str × PV)} {vs : List V} (f : Str) {p : PV} {v : V}, RVs K W (fs.map (·.2)) vs → RV K W p v →
    ∃ ws, putF f v ((fs.map (·.1)).zip vs) = ((putA f p fs).map (·.1)).zip ws ∧ RVs K W ((putA f p fs).map (·.2)) ws
  | [], vs, f, p, v, h, r => ⟨[v], by cases vs <;> rfl, RVs_cons'.mpr ⟨r, RVs_nil.mpr rfl⟩⟩
  | (g, q) :: fs, vs, f, p, v, h, r => by
    obtain ⟨w, r', rfl, h1, h2⟩ := RVs_cons.mp h
    obtain ⟨ws, e, z⟩ := putF_zip f h2 r
    show ∃ ws, putF f v ((g, w) :: ((fs.map (·.1)).zip r')) = _ ∧ _
    unfold putF putA
    by_cases e1 : g = f
    · rw [if_pos e1, if_pos e1]; exact ⟨v :: r', rfl, RVs_cons'.mpr ⟨r, h2⟩⟩
    · rw [if_neg e1, if_neg e1]; exact ⟨w :: ws, by rw [e]; rfl, RVs_cons'.mpr ⟨h1, z⟩⟩
theorem zipA_len {fs : List (Str × PV)} {vs : List V} (h : RVs K W (fs.map (·.2)) vs) : ((fs.map (·.1)).zip vs).length = fs.length := by
  have := RVs_len h
  simp at this
  simp [← this]
/-- an instance of the class at C -/
def insOf (C : Addr) (st : MS) : XV → Option (Nat × List (Str × PV))
  | .v (.obj n) => match st[n]? with
    | some (.ins D fs) => if D = C then some (n, fs) else none
    | _ => none
  | _ => none
theorem ins_at {W0 : World} {C : Addr} {st : MS} {x : XV} {u : V} {n : Nat} {fs : List (Str × PV)} (hS : RSt K W st) (r : RX K W0 W x u) (e : insOf C st x = some (n, fs)) :
    ∃ a dx vs, u = .ref a ∧ x = .v (.obj n) ∧ W.mu[n]? = some a ∧ st[n]? = some (.ins C fs) ∧ W.H a = some (.ins C dx ((fs.map (·.1)).zip vs)) ∧ RVs K W (fs.map (·.2)) vs ∧ Fz W dx ∧ W.H dx = some (.own a) := by
  unfold insOf at e
  split at e
  · split at e
    · rename_i hn
      split at e
      · rename_i hc
        cases e
        subst hc
        obtain ⟨a, h1, h2, dx, vs, h3, h4, h5, h6⟩ := obj_ct hS hn r
        exact ⟨a, dx, vs, h1, rfl, h2, hn, h3, h4, h5, h6⟩
      · cases e
    · cases e
  · cases e
def xFld (C : Addr) (f : Str) (d : DX) : DX := fun env st => (d env st).bind fun r => (insOf C r.2 r.1).bind fun q => (atP q.2 f).map fun p => (.v p, r.2)
theorem e_fld {C : Addr} {f : Str} {e : Expr} {t : TE} {d : DX} {pos : Pos} (c : Cls Γ.K C) (n : NoAttr Γ.K C f) (h : EX Γ X e t d) (hb : attributeBase e f X.env (eval e X.env) = eval e X.env := by rfl) : EX Γ X (.Attribute e f pos) (tFld Γ.K t f) (xFld C f d) :=
  ⟨fun g => g.K ▸ pe_fld (h.pe g) hb, ⟨fun W env σ st x st' hE hS hd Q hQ => by
  unfold xFld at hd
  obtain ⟨⟨y, st1⟩, e1, hd⟩ := Option.bind_eq_some_iff.mp hd
  obtain ⟨⟨m, fs⟩, e2, hd⟩ := Option.bind_eq_some_iff.mp hd
  obtain ⟨p, e3, hd⟩ := Option.map_eq_some_iff.mp hd
  cases hd
  refine h.snd.run W env σ st y _ hE hS e1 _ fun W1 u E1 S1 R1 => ?_
  obtain ⟨a, dx, vs, h1, h2, h3, h4, h5, h6, h7, h8⟩ := ins_at S1 R1 e2
  rcases at_zip f h6 with ⟨q, v, z1, z2, z3⟩ | ⟨z1, _⟩
  · have z1 : atP fs f = some q := z1
    have e3 : atP fs f = some p := e3
    rw [e3] at z1; cases z1
    exact ⟨a, C, dx, _, v, h1, h5, c, n, z2, hQ W1 v E1 S1 z3⟩
  · have e3 : atP fs f = some p := e3
    rw [e3] at z1; cases z1⟩⟩
/-- e.f as a target -/
def gFld (K : PySem.W.Frag) (ta : TE) (f : Str) : TG := fun y σ H Q => ta σ H fun x H2 => ∃ a C dx fs, x = .ref a ∧ H2 a = some (.ins C dx fs) ∧ Cls K C ∧ NoAttr K C f ∧ fs.length < 1000 ∧ Q σ (upd H2 a (.ins C dx (putF f y fs)))
theorem pg_fld {o : Expr} {f : Str} {ta : TE} {pos : Pos} (ha : PE X o ta) : PG X (.Attribute o f pos) (gFld X.K ta f) := by
  refine ⟨fun pins s σ H v u Q I r h => ?_⟩
  rw [assign_Attribute]
  refine wpAny_bind (wpAny_holding (thn (ha.run pins s σ H _ I h) fun ov s1 ⟨x, H1, I1, rx, a, C, dx, fs, ex, ea, c, n, l, q⟩ => ?_))
  subst ex
  obtain rfl : ov = Value.ref a := rx
  refine wpAny_bind (wpAny_standAt (wpAny_bind (wpAny_holding (setattr_ok I1 ea c n l r fun s3 I3 => ?_))))
  exact wpAny_release ⟨σ, _, I3, q⟩
def gmFld (C : Addr) (f : Str) (d : DX) : DGm := fun p env st => (d env st).bind fun r => (insOf C r.2 r.1).bind fun q => if q.2.length < 1000 then some (env, r.2.set q.1 (.ins C (putA f p q.2))) else none
theorem fld_put {st : MS} {n : Nat} {a dx C : Addr} {fs : List (Str × PV)} {vs : List V} {f : Str} {p : PV} {v : V} {env : DEnv} {σ : L2.St} (hS : RSt K W st) (hE : REn K W env σ) (h3 : W.mu[n]? = some a) (h4 : st[n]? = some (.ins C fs))
    (h5 : W.H a = some (.ins C dx ((fs.map (·.1)).zip vs))) (h6 : RVs K W (fs.map (·.2)) vs) (h7 : Fz W dx) (h8 : W.H dx = some (.own a)) (r : RV K W p v) :
    ∃ W', Ext W W' ∧ RSt K W' (st.set n (.ins C (putA f p fs))) ∧ REn K W' env σ ∧ W'.H = upd W.H a (.ins C dx (putF f v ((fs.map (·.1)).zip vs))) := by
  have ht := hS.tag n a h3
  have hf : ¬ Fz W a := hS.nfz h3
  obtain ⟨ws, e1, e2⟩ := putF_zip f h6 r
  have ne : dx ≠ a := fun z => hf (by rw [← z]; exact h7)
  refine ⟨W.put a (.ins C dx (putF f v ((fs.map (·.1)).zip vs))), put_ext h5 hf (fun z => by rw [ht] at z; cases z), hS.putObj h3 ⟨dx, ws, ?_, RVs_map (W := W) (W' := W.put a _) rfl (put_frz hf) _ _ e2, (put_frz hf dx _ h7 h8).1, ?_⟩, hE.put hf (fun i c _ z => by rw [ht] at z; cases z), rfl⟩
  · rw [put_at, e1]
  · rw [put_ne ne]; exact h8
theorem gm_fld {C : Addr} {f : Str} {o : Expr} {t : TE} {d : DX} {pos : Pos} (c : Cls Γ.K C) (n : NoAttr Γ.K C f) (h : EX Γ X o t d) : EGm Γ X (.Attribute o f pos) (gFld Γ.K t f) (gmFld C f d) :=
  ⟨fun g => g.K ▸ pg_fld (h.pe g), fun W env σ st p v env' st' hE hS r hd Q hQ => by
  unfold gmFld at hd
  obtain ⟨⟨y, st1⟩, e1, hd⟩ := Option.bind_eq_some_iff.mp hd
  obtain ⟨⟨m, fs⟩, e2, hd⟩ := Option.bind_eq_some_iff.mp hd
  split at hd
  · rename_i hl
    cases hd
    refine h.snd.run W env σ st y _ hE hS e1 _ fun W1 u E1 S1 R1 => ?_
    obtain ⟨a, dx, vs, h1, h2, h3, h4, h5, h6, h7, h8⟩ := ins_at S1 R1 e2
    refine ⟨a, C, dx, _, h1, h5, c, n, by rw [zipA_len h6]; exact hl, ?_⟩
    obtain ⟨W2, a1, a2, a3, a4⟩ := fld_put (f := f) S1 (hE.ext E1) h3 h4 h5 h6 h7 h8 (RV_ext E1.toExt _ _ r)
    rw [← a4]
    exact hQ W2 σ (E1.toExt.trans a1) a2 a3
  · cases hd⟩
/-- target = value, any target -/
def sAsgG (d : DX) (g : DGm) : DS := fun env st => (d env st).bind fun r => r.1.pv.bind fun p => (g p env r.2).map fun q => (.nx, q.1, q.2)
theorem st_asgG {tg e : Expr} {te : TE} {d : DX} {t : TG} {g : DGm} {pos : Pos} (he : EX Γ X e te d) (hg : EGm Γ X tg t g) (hs : swapsWithSole [tg] e pos.line X.env = pure false := by rfl) (hw : swappedStores [tg] e X.env = pure none := by rfl)
    (h1 : (assignEach [tg] X.env).map (·.2) = [assign tg X.env] := by rfl) : ES Γ X (.Assign [tg] e pos) (tAsg te t) (sAsgG d g) := ⟨fun gd => ps_asg (he.pe gd) (hg.pe gd) hs hw h1, ⟨fun W env σ st fl env' st' hE hS hd D hD => by
  unfold sAsgG at hd
  obtain ⟨⟨x, st1⟩, e1, hd⟩ := Option.bind_eq_some_iff.mp hd
  obtain ⟨p, e2, hd⟩ := Option.bind_eq_some_iff.mp hd
  obtain ⟨⟨env2, st2⟩, e3, hd⟩ := Option.map_eq_some_iff.mp hd
  cases hd
  refine he.snd.run W env σ st x st1 hE hS e1 _ fun W1 v E1 S1 R1 => ?_
  obtain ⟨W2, E2, S2, R2, H2⟩ := pv_at S1 E1 R1 e2
  rw [← H2]
  exact hg.snd W2 env σ st1 p v _ _ (hE.ext E2) S2 R2 e3 _ fun W3 σ3 E3 S3 En3 => hD W3 σ3 (E2.toExt.trans E3) S3 En3⟩⟩

/-! ### methods, makers -/
theorem Df.in {x : Str} {f : Addr} {k : Nat} {ps : List Str} {df : DF} (F : Df Γ x f k ps df) (g : Good Γ X) : ∃ fd, FnOk X.prog X.w X.K X.mg X.base CX0 k f fd ps (spD Γ ps.length df) ∧ Binds X.K fd ps [] := by
  obtain ⟨fd, F1, B⟩ := F.ex
  obtain ⟨gP, gw, gK, gmg, gb, _⟩ := g
  rw [← gP, ← gw, ← gK, ← gmg, ← gb] at F1
  rw [← gK] at B
  exact ⟨fd, F1, B⟩
/-- a method's def -/
structure Dm (Γ : Ctx) (f : Addr) (k : Nat) (ps : List Str) (df : DF) : Prop where
  ex : ∃ fd, FnOk Γ.P Γ.w Γ.K Γ.mg Γ.base CX0 k f fd ps (spD Γ ps.length df) ∧ Binds Γ.K fd ps []
theorem Dm.in {f : Addr} {k : Nat} {ps : List Str} {df : DF} (F : Dm Γ f k ps df) (g : Good Γ X) : ∃ fd, FnOk X.prog X.w X.K X.mg X.base CX0 k f fd ps (spD Γ ps.length df) ∧ Binds X.K fd ps [] := by
  obtain ⟨fd, F1, B⟩ := F.ex
  obtain ⟨gP, gw, gK, gmg, gb, _⟩ := g
  rw [← gP, ← gw, ← gK, ← gmg, ← gb] at F1
  rw [← gK] at B
  exact ⟨fd, F1, B⟩
def xMeth (C : Addr) (m : Str) (df : DF) (n : Nat) (d : DX) (a : DA) : DX := fun env st => (d env st).bind fun r => (insOf C r.2 r.1).bind fun q => if atP q.2 m = none then (a env r.2).bind fun s => if s.1.length + 1 = n then callD df (r.1 :: s.1) s.2 else none else none
theorem SndX.meth {C : Addr} {m : Str} {df : DF} {n : Nat} {t : TE} {d : DX} {ta : TA} {a : DA} {E : XK} (h : SndX Γ t d) (ha : SndA Γ ta a) : SndX Γ (tMeth C m (spD Γ n df) [] E t ta) (xMeth C m df n d a) := ⟨fun W env σ st x st' hE hS hd Q hQ => by
  unfold xMeth at hd
  obtain ⟨⟨y, st1⟩, e1, hd⟩ := Option.bind_eq_some_iff.mp hd
  obtain ⟨⟨i, fs⟩, e2, hd⟩ := Option.bind_eq_some_iff.mp hd
  split at hd
  · rename_i hn
    obtain ⟨⟨xs, st2⟩, e3, hd⟩ := Option.bind_eq_some_iff.mp hd
    split at hd
    · rename_i hl
      refine h.run W env σ st y st1 hE hS e1 _ fun W1 u E1 S1 R1 => ?_
      obtain ⟨b, dx, vs, h1, h2, h3, h4, h5, h6, h7, h8⟩ := ins_at S1 R1 e2
      refine ⟨b, dx, _, h1, h5, ?_, ?_⟩
      · rcases at_zip m h6 with ⟨q, v, z1, _⟩ | ⟨_, z⟩
        · rw [show atP fs m = none from hn] at z1; cases z1
        · exact z
      · refine ha.run W1 env σ st1 xs st2 (hE.ext E1) S1 e3 _ fun W2 us E2 S2 R2 => ?_
        rw [List.append_nil]
        exact callD_snd S2 (E1.trans E2) (.cons (R1.ext E2) (R2.back E1.toExt)) hl hd hQ
    · cases hd
  · cases hd⟩
theorem e_meth {C f : Addr} {m : Str} {k : Nat} {ps : List Str} {df : DF} {o e : Expr} {es : List Expr} {t : TE} {d : DX} {ta : TA} {a : DA} {apos pos : Pos} {pl : Sem Bool} (c : Cls Γ.K C) (hm : Meth Γ.K C m f) (F : Dm Γ f k ps df) (hr : Room k X.A) (h : EX Γ X o t d) (ha : EA Γ X (e :: es) ta a)
    (hst : starEach (e :: es) X.env = (false, eval e X.env) :: starEach es X.env := by rfl) (hpl : (backTo pos (starEach es X.env)).any (·.1) = false := by rfl)
    (ht : eval (.Call (.Attribute o m apos) (e :: es) [] pos) X.env = (do
      let ov ← eval o X.env
      standAt apos.atName
      let (f, first) ← holding [ov] (getMethod ov m pl)
      callWith pos f first (backTo pos (starEach (e :: es) X.env)) (backToKw pos (keywordEach [] X.env))) := by rfl) :
    EX Γ X (.Call (.Attribute o m apos) (e :: es) [] pos) (tMeth C m (spD Γ ps.length df) [] E0 t ta) (xMeth C m df ps.length d a) := ⟨fun g => by
  obtain ⟨fd, F1, B⟩ := F.in g
  exact pe_meth (pl := pl) (h.pe g) (g.K ▸ c) (g.K ▸ hm) F1 hr B .nil pass0 (ha.pe g) hst hpl ht, .meth h.snd ha.snd⟩
theorem e_meth0 {C f : Addr} {m : Str} {k : Nat} {ps : List Str} {df : DF} {o : Expr} {t : TE} {d : DX} {apos pos : Pos} {pl : Sem Bool} (c : Cls Γ.K C) (hm : Meth Γ.K C m f) (F : Dm Γ f k ps df) (hr : Room k X.A) (h : EX Γ X o t d)
    (ht : eval (.Call (.Attribute o m apos) [] [] pos) X.env = (do
      let ov ← eval o X.env
      standAt apos.atName
      let (f, first) ← holding [ov] (getMethod ov m pl)
      callWith pos f first (backTo pos (starEach [] X.env)) (backToKw pos (keywordEach [] X.env))) := by rfl) :
    EX Γ X (.Call (.Attribute o m apos) [] [] pos) (tMeth C m (spD Γ ps.length df) [] E0 t tNil) (xMeth C m df ps.length d aNil) := ⟨fun g => by
  obtain ⟨fd, F1, B⟩ := F.in g
  exact pe_meth0 (pl := pl) (h.pe g) (g.K ▸ c) (g.K ▸ hm) F1 hr B .nil pass0 ht, .meth h.snd .nil⟩
/-- C(..): the new thing is the store's -/
def xMake (C : Addr) (df : DF) (n : Nat) (a : DA) : DX := fun env st => (a env st).bind fun r => (pvs r.1).bind fun ps => if ps.length + 1 = n then (df (.obj r.2.length :: ps) (r.2 ++ [.ins C []])).bind fun q => match q.1 with
  | .v .non => some (.v (.obj r.2.length), q.2)
  | _ => none else none
theorem SndX.make {C : Addr} {df : DF} {n : Nat} {ta : TA} {a : DA} {E : XK} (ha : SndA Γ ta a) : SndX Γ (tMake C (spD Γ n df) [] E ta) (xMake C df n a) := ⟨fun W env σ st x st' hE hS hd Q hQ => by
  unfold xMake at hd
  obtain ⟨⟨xs, st1⟩, e1, hd⟩ := Option.bind_eq_some_iff.mp hd
  obtain ⟨ps, e2, hd⟩ := Option.bind_eq_some_iff.mp hd
  split at hd
  · rename_i hl
    obtain ⟨⟨q, st2⟩, e3, hd⟩ := Option.bind_eq_some_iff.mp hd
    have hq : q = .v .non ∧ x = .v (.obj st1.length) ∧ st' = st2 := by
      simp only at hd
      split at hd
      · cases hd; exact ⟨by first | rfl | assumption, rfl, rfl⟩
      · cases hd
    obtain ⟨rfl, rfl, rfl⟩ := hq
    refine ha.run W env σ st xs st1 hE hS e1 _ fun W1 us E1 S1 R1 x dx hx hdx hne => ?_
    obtain ⟨W2, E2, S2, R2, H2⟩ := pvs_at S1 E1 R1 e2
    rw [← H2] at hx hdx
    rw [List.append_nil, ← H2]
    -- the dict, the instance
    have L1 := lay_ext (W := W2) (o := .own x) (t := .frz) hdx
    have hx1 : (W2.lay dx (.own x) .frz).H x = none := by
      show upd W2.H dx (.own x) x = none
      rw [upd_ne (Ne.symm hne)]; exact hx
    have T1 := lay_st (W := W2) (o := .own x) (t := .frz) hdx S2
    have L2' := lay_ext (W := W2.lay dx (.own x) .frz) (o := .ins C dx []) (t := .oth) hx1
    have T2 := lay_st (W := W2.lay dx (.own x) .frz) (o := .ins C dx []) (t := .oth) hx1 T1
    have hC : CtAt Γ ((W2.lay dx (.own x) .frz).lay x (.ins C dx []) .oth) x (.ins C []) := by
      refine ⟨dx, [], lay_at, RVs_nil.mpr rfl, ?_, ?_⟩
      · left
        show (if dx = x then Tag.oth else (W2.lay dx (.own x) .frz).T dx) = .frz
        rw [if_neg hne]; exact lay_T
      · show upd (W2.lay dx (.own x) .frz).H x (.ins C dx []) dx = _
        rw [upd_ne hne]; exact lay_at
    have hRX : RX Γ (W2.lay dx (.own x) .frz) ((W2.lay dx (.own x) .frz).lay x (.ins C dx []) .oth) (.o (.ins C [])) (.ref x) := ⟨x, rfl, hC, lay_T, T1.nold hx1, hx1⟩
    obtain ⟨W5, E5', S5, R5, H5⟩ := new_obj T2 L2' hRX
    have E5 := E2.trans (L1.trans E5')
    have R6 : RVs Γ W5 ps us := RVs_ext (L1.trans E5').toExt _ _ R2
    refine ⟨W5.enter, .obj st1.length :: ps, st1 ++ [.ins C []], .v .non, st', H5, fun a o h => ⟨o, h⟩, enter_noslot, S5.enter, RVs_enter (RVs_cons'.mpr ⟨R5, R6⟩), by simpa using hl, e3, fun Wc v Ec Sc Rc => ⟨?_, ?_⟩⟩
    · have Rc : RV Γ Wc .non v := Rc
      unfold RV at Rc; exact Rc
    · exact hQ (W5.leave Wc) _ (E5.trans (leave_ext S5 Ec)) (leave_st S5 Ec Sc) (leave_rx (z := .v (.obj st1.length)) S5 Ec (fun c z => nomatch z) (by show RV Γ Wc _ _; exact RV_ext Ec _ _ (RVs_cons'.mp (RVs_enter (RVs_cons'.mpr ⟨R5, RVs_nil.mpr rfl⟩))).1))
  · cases hd⟩
end
end DD
/-! DMut -/
namespace DD
open PySem PySem.Spec PyProof.Rows L2

section
variable {Γ K : Ctx} {X : Cx} {W W' : World}
/-! ### a mutable thing's place: a slot's own, the n-th of the store -/
inductive Pl where
  | sl (i : Nat) | ob (n : Nat)
def plAt (W : World) (env : DEnv) (σ : L2.St) : Pl → Addr → Prop
  | .sl i, a => σ[i]? = some (some (.ref a)) ∧ W.T a = .slot i ∧ ¬ W.old a ∧ (∃ o, W.H a = some o) ∧ ∃ c, env[i]? = some (.own c)
  | .ob n, a => W.mu[n]? = some a
def plGet (env : DEnv) (st : MS) : Pl → Option Cont
  | .sl i => match env[i]? with
    | some (.own c) => some c
    | _ => none
  | .ob n => st[n]?
def plSet (env : DEnv) (st : MS) (c : Cont) : Pl → DEnv × MS
  | .sl i => (env.set i (.own c), st)
  | .ob n => (env, st.set n c)
theorem plGet_at {env : DEnv} {σ : L2.St} {st : MS} {p : Pl} {a : Addr} {c : Cont} (hE : REn K W env σ) (hS : RSt K W st) (h : plAt W env σ p a) (e : plGet env st p = some c) : CtAt K W a c := by
  cases p with
  | sl i =>
    have e : (match env[i]? with | some (.own c) => some c | _ => none) = some c := e
    split at e
    · rename_i hc
      cases e
      obtain ⟨b, h1, h2, h3, h4⟩ := hE.sl i _ hc
      obtain ⟨g1, _⟩ := h
      rw [h1] at g1; cases g1
      exact h4
    · cases e
  | ob n =>
    obtain ⟨b, h1, h2⟩ := hS.ct n c e
    have h : W.mu[n]? = some a := h
    rw [h1] at h; cases h
    exact h2
theorem plAt_ext {env : DEnv} {σ : L2.St} {p : Pl} {a : Addr} (e : ExtE W W') (h : plAt W env σ p a) : plAt W' env σ p a := by
  cases p with
  | sl i =>
    obtain ⟨h1, h2, h3, ⟨o, h4⟩, h5⟩ := h
    obtain ⟨g1, g2⟩ := e.slots a o h4 (.inr ⟨i, h2⟩)
    exact ⟨h1, g2.trans h2, by rw [e.old]; exact h3, ⟨o, g1⟩, h5⟩
  | ob n => exact e.mu n a h
theorem plAt_nfrz {env : DEnv} {σ : L2.St} {st : MS} {p : Pl} {a : Addr} {c : Cont} (hE : REn K W env σ) (hS : RSt K W st) (h : plAt W env σ p a) (e : plGet env st p = some c) : ¬ Fz W a ∧ W.T a ≠ .oth := by
  have hc := plGet_at hE hS h e
  cases p with
  | sl i => obtain ⟨h1, h2, _⟩ := h; exact ⟨ct_nfz hc (by rw [h2]; intro z; cases z), by rw [h2]; intro z; cases z⟩
  | ob n => exact ⟨hS.nfz h, by rw [hS.tag n a h]; intro z; cases z⟩
theorem pl_write {env : DEnv} {σ : L2.St} {st : MS} {p : Pl} {a : Addr} {c0 c : Cont} {o : HO} (hE : REn K W env σ) (hS : RSt K W st) (h : plAt W env σ p a) (e : plGet env st p = some c0) (hc : CtAt K (W.put a o) a c) :
    Ext W (W.put a o) ∧ RSt K (W.put a o) (plSet env st c p).2 ∧ REn K (W.put a o) (plSet env st c p).1 σ := by
  obtain ⟨o0, h0⟩ := CtAt_some (plGet_at hE hS h e)
  obtain ⟨n1, n2⟩ := plAt_nfrz hE hS h e
  refine ⟨put_ext h0 n1 fun z => absurd z n2, ?_⟩
  cases p with
  | sl i =>
    obtain ⟨h1, h2, h3, h4, h5⟩ := h
    refine ⟨hS.put n1 (fun n z => by rw [h2] at z; cases z) ⟨o0, h0⟩, ?_⟩
    have hil : i < env.length := by obtain ⟨c', h5⟩ := h5; exact (List.getElem?_eq_some_iff.mp h5).1
    have r1 : REn K W (env.set i .un) σ := hE.setS (s := .un) trivial
    have r2 : REn K (W.put a o) (env.set i .un) σ := r1.put n1 fun j c' hj z => by
      rw [h2] at z
      cases z
      rw [List.getElem?_set_self hil] at hj
      cases hj
    have r3 := r2.setS (i := i) (s := .own c) ⟨a, h1, h2, h3, hc⟩
    rw [List.set_set] at r3
    exact r3
  | ob n => exact ⟨hS.putObj h hc, hE.put n1 fun i c' _ z => by have := hS.tag n a h; rw [this] at z; cases z⟩
abbrev DPl := DEnv → MS → Option (Pl × MS)
structure SndPl (K : Ctx) (t : TE) (d : DPl) : Prop where
  run : ∀ W env σ st p st', REn K W env σ → RSt K W st → d env st = some (p, st') → ∀ Q : VK, (∀ W' a, ExtE W W' → RSt K W' st' → plAt W' env σ p a → Q (.ref a) W'.H) → t σ W.H Q
structure EPl (Γ : Ctx) (X : Cx) (e : Expr) (t : TE) (d : DPl) : Prop where
  pe : Good Γ X → PE X e t
  snd : SndPl Γ t d
def pVar (i : Nat) : DPl := fun env st => match env[i]? with
  | some (.own _) => some (.sl i, st)
  | some (.v (.obj n)) => some (.ob n, st)
  | _ => none
def pEx (d : DX) : DPl := fun env st => (d env st).bind fun r => match r.1 with
  | .v (.obj n) => some (.ob n, r.2)
  | _ => none
theorem pl_var {x : Str} {pos : Pos} (i : Nat) (hN : X.N[i]? = some x := by rfl) (hv : Vis X.env.scope x := by first | exact Or.inl rfl | exact Or.inr (Or.inl rfl) | exact Or.inr (Or.inr rfl))
    (hd : (x == ("__debug__" : Str)) = false := by decide) (hcd : (x == ("__classdict__" : Str)) = false := by decide) : EPl Γ X (.Name x pos) (tVar i) (pVar i) := ⟨fun _ => pe_var hN hv hd hcd, ⟨fun W env σ st p st' hE hS hd Q hQ => by
  unfold pVar at hd
  split at hd
  · rename_i c hc
    cases hd
    obtain ⟨a, h1, h2, h3, h4⟩ := hE.sl i _ hc
    exact ⟨.ref a, h1, hQ W a ExtE.refl hS ⟨h1, h2, h3, CtAt_some h4, c, hc⟩⟩
  · rename_i n hc
    cases hd
    obtain ⟨v, h1, h2⟩ := hE.sl i _ hc
    unfold RV at h2
    obtain ⟨a, h2, rfl⟩ := h2
    exact ⟨.ref a, h1, hQ W a ExtE.refl hS h2⟩
  · cases hd⟩⟩
theorem pl_ex {e : Expr} {t : TE} {d : DX} (h : EX Γ X e t d) : EPl Γ X e t (pEx d) := ⟨h.pe, ⟨fun W env σ st p st' hE hS hd Q hQ => by
  unfold pEx at hd
  obtain ⟨⟨y, st1⟩, e1, hd⟩ := Option.bind_eq_some_iff.mp hd
  refine h.snd.run W env σ st y st1 hE hS e1 _ fun W1 u E1 S1 R1 => ?_
  simp only at hd
  split at hd
  · rename_i n
    cases hd
    have R1 : RV Γ W1 (.obj n) u := R1
    unfold RV at R1
    obtain ⟨a, h1, rfl⟩ := R1
    exact hQ W1 a E1 S1 h1
  · cases hd⟩⟩

/-! ### a method that changes it -/
abbrev FM := Cont → List PV → Option (Cont × PV)
structure SMut (K : Ctx) (r : V → List V → Hp → VK → Prop) (f : FM) : Prop where
  run : ∀ W a c ps vs c' z, CtAt K W a c → RVs K W ps vs → ¬ Fz W a → f c ps = some (c', z) → ∀ Q : VK, (∀ o w, CtAt K (W.put a o) a c' → RV K (W.put a o) z w → Q w (upd W.H a o)) → r (.ref a) vs W.H Q
def Cont.tyN : Cont → String
  | .lst _ => "list"
  | .dK _ => "dict"
  | .dT _ => "dict"
  | .set _ => ""
  | .ins _ _ => ""
theorem ct_tyV {a : Addr} {c : Cont} (h : CtAt K W a c) (hn : c.tyN ≠ "") : tyV K.K c.tyN (.ref a) W.H := by
  cases c with
  | lst xs => obtain ⟨vs, h1, _⟩ := h; exact .inl ⟨rfl, vs, .inl (.inl h1)⟩
  | dK kvs => obtain ⟨vs, h1, _⟩ := h; exact .inr (.inr (.inl ⟨rfl, .inl ⟨_, h1⟩⟩))
  | dT kvs => obtain ⟨vs, h1, _⟩ := h; exact .inr (.inr (.inl ⟨rfl, .inr ⟨_, h1⟩⟩))
  | set xs => exact absurd rfl hn
  | ins C fs => exact absurd rfl hn
def mMut (T : String) (f : FM) (pl : DPl) (a : DA) (env : DEnv) (st : MS) : Option (PV × DEnv × MS) := (pl env st).bind fun r => (plGet env r.2 r.1).bind fun c0 => if c0.tyN = T ∧ c0.tyN ≠ "" then (a env r.2).bind fun s => (pvs s.1).bind fun ps => (plGet env s.2 r.1).bind fun c =>
  (f c ps).map fun q => (q.2, plSet env s.2 q.1 r.1) else none
theorem mMut_snd {T : String} {r : V → List V → Hp → VK → Prop} {f : FM} {tp : TE} {pl : DPl} {ta : TA} {a : DA} (h : SndPl Γ tp pl) (ha : SndA Γ ta a) (hm : SMut Γ r f) {env env' : DEnv} {σ : L2.St} {st st' : MS} {z : PV} (hE : REn Γ W env σ) (hS : RSt Γ W st)
    (hd : mMut T f pl a env st = some (z, env', st')) (Q : VK) (hQ : ∀ W' w, Ext W W' → RSt Γ W' st' → REn Γ W' env' σ → RV Γ W' z w → Q w W'.H) : tBM Γ.K T r tp ta σ W.H Q := by
  unfold mMut at hd
  obtain ⟨⟨p, st1⟩, e1, hd⟩ := Option.bind_eq_some_iff.mp hd
  obtain ⟨c0, e2, hd⟩ := Option.bind_eq_some_iff.mp hd
  split at hd
  · rename_i ht
    obtain ⟨⟨xs, st2⟩, e3, hd⟩ := Option.bind_eq_some_iff.mp hd
    obtain ⟨ps, e4, hd⟩ := Option.bind_eq_some_iff.mp hd
    obtain ⟨c, e5, hd⟩ := Option.bind_eq_some_iff.mp hd
    obtain ⟨⟨c', z'⟩, e6, hd⟩ := Option.map_eq_some_iff.mp hd
    refine h.run W env σ st p st1 hE hS e1 _ fun W1 b E1 S1 A1 => ⟨?_, ?_⟩
    · rw [← ht.1]; exact ct_tyV (plGet_at (hE.ext E1) S1 A1 e2) ht.2
    · refine ha.run W1 env σ st1 xs st2 (hE.ext E1) S1 e3 _ fun W2 us E2 S2 R2 => ?_
      obtain ⟨W3, E3, S3, R3, H3⟩ := pvs_at S2 E2 R2 e4
      have En3 := hE.ext (E1.trans E3)
      have A3 := plAt_ext E3 A1
      have C3 := plGet_at En3 S3 A3 e5
      rw [← H3]
      refine hm.run W3 b c ps us c' z' C3 R3 (plAt_nfrz En3 S3 A3 e5).1 e6 Q fun o w hc rz => ?_
      obtain ⟨w1, w2, w3⟩ := pl_write En3 S3 A3 e5 hc
      have hz : z' = z := congrArg (·.1) hd
      have h1 : (plSet env st2 c' p).1 = env' := congrArg (·.2.1) hd
      have h2 : (plSet env st2 c' p).2 = st' := congrArg (·.2.2) hd
      rw [h2] at w2
      rw [h1] at w3
      rw [hz] at rz
      exact hQ (W3.put b o) w ((E1.trans E3).toExt.trans w1) w2 w3 rz
  · cases hd
def sMut (T : String) (f : FM) (pl : DPl) (a : DA) : DS := fun env st => (mMut T f pl a env st).map fun q => (.nx, q.2)
def sMutG (T : String) (f : FM) (pl : DPl) (a : DA) (g : DGm) : DS := fun env st => (mMut T f pl a env st).bind fun q => (g q.1 q.2.1 q.2.2).map fun s => (.nx, s.1, s.2)
theorem SndS.mut {T : String} {r : V → List V → Hp → VK → Prop} {f : FM} {tp : TE} {pl : DPl} {ta : TA} {a : DA} (h : SndPl Γ tp pl) (ha : SndA Γ ta a) (hm : SMut Γ r f) : SndS Γ (tDrop (tBM Γ.K T r tp ta)) (sMut T f pl a) := ⟨fun W env σ st fl env' st' hE hS hd D hD => by
  unfold sMut at hd
  obtain ⟨⟨z, env2, st2⟩, e1, hd⟩ := Option.map_eq_some_iff.mp hd
  cases hd
  exact mMut_snd h ha hm hE hS e1 _ fun W' w E S En R => hD W' σ E S En⟩
theorem SndS.mutG {T : String} {r : V → List V → Hp → VK → Prop} {f : FM} {tp : TE} {pl : DPl} {ta : TA} {a : DA} {tg : TG} {g : DGm} (h : SndPl Γ tp pl) (ha : SndA Γ ta a) (hm : SMut Γ r f)
    (hg : ∀ W env σ st p v env' st', REn Γ W env σ → RSt Γ W st → RV Γ W p v → g p env st = some (env', st') → ∀ Q : L2.St → Hp → Prop, (∀ W' σ', Ext W W' → RSt Γ W' st' → REn Γ W' env' σ' → Q σ' W'.H) → tg v σ W.H Q) : SndS Γ (tAsg (tBM Γ.K T r tp ta) tg) (sMutG T f pl a g) := ⟨fun W env σ st fl env' st' hE hS hd D hD => by
  unfold sMutG at hd
  obtain ⟨⟨z, env2, st2⟩, e1, hd⟩ := Option.bind_eq_some_iff.mp hd
  obtain ⟨⟨env3, st3⟩, e2, hd⟩ := Option.map_eq_some_iff.mp hd
  cases hd
  exact mMut_snd h ha hm hE hS e1 _ fun W' w E S En R => hg W' env2 σ st2 z w _ _ En S R e2 _ fun W2 σ2 E2 S2 En2 => hD W2 σ2 (E.trans E2) S2 En2⟩
section
variable {T id : String} {name : Str} {r : V → List V → Hp → VK → Prop} {f : FM} {o e : Expr} {es : List Expr} {tp : TE} {pl : DPl} {ta : TA} {a : DA} {apos cpos pos : Pos}
theorem st_mut (pa : PlainAttrs T) (slot : PySem.Slot T name id) (hty : typeOf (.builtin id) = pure (.type "method_descriptor")) (hm : ∀ X, Good Γ X → MtR X id r) (hs : SMut Γ r f) (ho : EPl Γ X o tp pl) (ha : EA Γ X (e :: es) ta a)
    (hbase : attributeBase o name X.env (eval o X.env) = eval o X.env := by rfl)
    (hfew : ((backTo cpos (starEach (e :: es) X.env)).all (fun x => !x.1) && (backToKw cpos (keywordEach [] X.env)).all (fun x => x.1.isSome)
      && decide ((e :: es).length + ([] : List Keyword).length + (if ([] : List Keyword).isEmpty then 0 else 1) < 30)) = true := by rfl)
    (hline : (apos.endLine == cpos.line) = true := by rfl) (hst : starEach (e :: es) X.env = (false, eval e X.env) :: starEach es X.env := by rfl) (hplain : (backTo cpos (starEach es X.env)).any (·.1) = false := by rfl)
    (hsw : swapsWith (.Call (.Attribute o name apos) (e :: es) [] cpos) none pos.line X.env = pure false := by rfl) :
    ES Γ X (.Expr (.Call (.Attribute o name apos) (e :: es) [] cpos) pos) (tDrop (tBM Γ.K T r tp ta)) (sMut T f pl a) :=
  ⟨fun g => g.K ▸ ps_expr (pe_bm pa slot hty (hm X g) (ho.pe g) (ha.pe g) hbase hfew hline hst hplain) hsw, .mut ho.snd ha.snd hs⟩
theorem st_mutG {tg : Expr} {t : TG} {g : DGm} (pa : PlainAttrs T) (slot : PySem.Slot T name id) (hty : typeOf (.builtin id) = pure (.type "method_descriptor")) (hm : ∀ X, Good Γ X → MtR X id r) (hs : SMut Γ r f) (ho : EPl Γ X o tp pl) (hg : EGm Γ X tg t g)
    (hbase : attributeBase o name X.env (eval o X.env) = eval o X.env := by rfl) (hline : (apos.endLine == cpos.line) = true := by rfl)
    (hsw : swapsWithSole [tg] (.Call (.Attribute o name apos) [] [] cpos) pos.line X.env = pure false := by rfl) (hw : swappedStores [tg] (.Call (.Attribute o name apos) [] [] cpos) X.env = pure none := by rfl)
    (h1 : (assignEach [tg] X.env).map (·.2) = [assign tg X.env] := by rfl) :
    ES Γ X (.Assign [tg] (.Call (.Attribute o name apos) [] [] cpos) pos) (tAsg (tBM Γ.K T r tp tNil) t) (sMutG T f pl aNil g) :=
  ⟨fun gd => gd.K ▸ ps_asg (te := tBM X.K T r tp tNil) (pe_bm0 pa slot hty (hm X gd) (ho.pe gd) hbase hline) (hg.pe gd) hsw hw h1, .mutG ho.snd .nil hs hg.snd⟩
end
/-! the methods -/
def mAppend : FM := fun c ps => match c, ps with
  | .lst xs, [y] => if xs.length < sizeLine then some (.lst (xs ++ [y]), .non) else none
  | _, _ => none
theorem put_rvs {a : Addr} {o : HO} {ps : List PV} {vs : List V} (hf : ¬ Fz W a) (h : RVs K W ps vs) : RVs K (W.put a o) ps vs := RVs_map (W := W) (W' := W.put a o) rfl (put_frz hf) _ _ h
theorem put_rv {a : Addr} {o : HO} {p : PV} {v : V} (hf : ¬ Fz W a) (h : RV K W p v) : RV K (W.put a o) p v := RV_map (W := W) (W' := W.put a o) rfl (put_frz hf) _ _ h
theorem sm_append : SMut K rAppend mAppend := ⟨fun W a c ps vs c' z hc r hf e Q hQ => by
  unfold mAppend at e
  split at e
  · rename_i xs y
    split at e
    · rename_i hl
      cases e
      obtain ⟨us, h1, h2⟩ := hc
      obtain ⟨v, r', rfl, r1, r2⟩ := RVs_cons.mp r
      have := RVs_nil.mp r2
      subst this
      exact ⟨a, us, v, rfl, rfl, h1, by rw [← RVs_len h2]; exact hl, hQ _ _ ⟨_, put_at, put_rvs hf (RVs_append h2 (RVs_cons'.mpr ⟨r1, RVs_nil.mpr rfl⟩))⟩ rv_non⟩
    · cases e
  · cases e⟩
def mExtend : FM := fun c ps => match c, ps with
  | .lst xs, [.lst ys] => if xs.length + ys.length ≤ sizeLine then some (.lst (xs ++ ys), .non) else none
  | _, _ => none
theorem sm_extend : SMut K rExtend mExtend := ⟨fun W a c ps vs c' z hc r hf e Q hQ => by
  unfold mExtend at e
  split at e
  · rename_i xs ys
    split at e
    · rename_i hl
      cases e
      obtain ⟨us, h1, h2⟩ := hc
      obtain ⟨v, r', rfl, r1, r2⟩ := RVs_cons.mp r
      have := RVs_nil.mp r2
      subst this
      unfold RV at r1
      obtain ⟨b, ws, rfl, g2, g3, g4⟩ := r1
      exact ⟨a, b, us, ws, rfl, rfl, h1, g3, by rw [← RVs_len h2, ← RVs_len g4]; exact hl, hQ _ _ ⟨_, put_at, put_rvs hf (RVs_append h2 g4)⟩ rv_non⟩
    · cases e
  · cases e⟩
def mInsert : FM := fun c ps => match c, ps with
  | .lst xs, [.int i, y] => if xs.length < sizeLine ∧ 0 ≤ i ∧ i < 2 ^ 63 then some (.lst (xs.take i.toNat ++ [y] ++ xs.drop i.toNat), .non) else none
  | _, _ => none
def rInsert : V → List V → Hp → VK → Prop := fun x vs H Q => ∃ (l : Addr) (xs : List V) (i : Int) (y : V), x = .ref l ∧ vs = [.int i, y] ∧ H l = some (.lst xs) ∧ xs.length < sizeLine ∧ 0 ≤ i ∧ i < 2 ^ 63 ∧
    Q .non (upd H l (.lst (xs.take i.toNat ++ [y] ++ xs.drop i.toNat)))
theorem sm_insert : SMut K rInsert mInsert := ⟨fun W a c ps vs c' z hc r hf e Q hQ => by
  unfold mInsert at e
  split at e
  · rename_i xs i y
    split at e
    · rename_i hl
      cases e
      obtain ⟨us, h1, h2⟩ := hc
      obtain ⟨v, r', rfl, r1, r2⟩ := RVs_cons.mp r
      obtain ⟨w, r3, rfl, r4, r5⟩ := RVs_cons.mp r2
      have := RVs_nil.mp r5
      subst this
      unfold RV at r1
      subst r1
      exact ⟨a, us, i, w, rfl, rfl, h1, by rw [← RVs_len h2]; exact hl.1, hl.2.1, hl.2.2, hQ _ _ ⟨_, put_at, put_rvs hf (RVs_append (RVs_append (RVs_take _ h2) (RVs_cons'.mpr ⟨r4, RVs_nil.mpr rfl⟩)) (RVs_drop _ h2))⟩ rv_non⟩
    · cases e
  · cases e⟩
def mPop : FM := fun c ps => match c, ps with
  | .lst xs, [] => xs[xs.length - 1]?.map fun y => (.lst xs.dropLast, y)
  | _, _ => none
theorem RVs_dropLast {xs : List PV} {vs : List V} (h : RVs K W xs vs) : RVs K W xs.dropLast vs.dropLast := by
  rw [List.dropLast_eq_take, List.dropLast_eq_take, RVs_len h]; exact RVs_take _ h
theorem sm_pop : SMut K rPop mPop := ⟨fun W a c ps vs c' z hc r hf e Q hQ => by
  unfold mPop at e
  split at e
  · rename_i xs
    obtain ⟨y, e1, e⟩ := Option.map_eq_some_iff.mp e
    cases e
    obtain ⟨us, h1, h2⟩ := hc
    obtain ⟨v, g1, g2⟩ := RVs_get h2 e1
    exact ⟨a, us, v, rfl, RVs_nil.mp r, h1, by rw [← RVs_len h2]; exact g1, hQ _ _ ⟨_, put_at, put_rvs hf (RVs_dropLast h2)⟩ (put_rv hf g2)⟩
  · cases e⟩

/-! ### o[i] = v -/
def fPut (c : Cont) (i v : PV) : Option Cont := match c, i with
  | .lst xs, .int k => (ixN xs.length k).map fun j => .lst (xs.set j v)
  | .dK kvs, i => i.key.bind fun k => if kvs.length < sizeLine then some (.dK (putP kvs k v)) else none
  | .dT kvs, i => i.keyT.bind fun k => if kvs.length < sizeLine then some (.dT (putP kvs k v)) else none
  | _, _ => none
def rSetA : TSet := fun o i v H Q => rSetL o i v H Q ∨ rSetD o i v H Q
theorem PSet.or {t u : TSet} (h : PSet X t) (h' : PSet X u) : PSet X (fun o i v H Q => t o i v H Q ∨ u o i v H Q) := fun pins s σ H o i v ov iv u' Q I ro ri rv q =>
  q.elim (h pins s σ H o i v ov iv u' Q I ro ri rv) (h' pins s σ H o i v ov iv u' Q I ro ri rv)
theorem ps_setA (g : Good Γ X) : PSet X rSetA := PSet.or set_list (set_dict (by have := g.un; omega))
theorem fPut_at {a : Addr} {c c' : Cont} {i v : PV} {iv vv : V} (hc : CtAt K W a c) (ri : RV K W i iv) (rv : RV K W v vv) (hf : ¬ Fz W a) (e : fPut c i v = some c') (Q : Hp → Prop) (hQ : ∀ o, CtAt K (W.put a o) a c' → Q (upd W.H a o)) : rSetA (.ref a) iv vv W.H Q := by
  unfold fPut at e
  split at e
  · rename_i xs k
    obtain ⟨j, e1, e⟩ := Option.map_eq_some_iff.mp e
    cases e
    obtain ⟨us, h1, h2⟩ := hc
    unfold RV at ri
    subst ri
    exact .inl ⟨a, us, k, j, rfl, rfl, h1, by rw [← RVs_len h2]; exact e1, hQ _ ⟨_, put_at, put_rvs hf (RVs_set _ h2 rv)⟩⟩
  · rename_i kvs
    obtain ⟨k, e1, e⟩ := Option.bind_eq_some_iff.mp e
    split at e
    · rename_i hl
      cases e
      obtain ⟨us, h1, h2⟩ := hc
      obtain ⟨ws, z1, z2⟩ := put_zip k h2 rv
      rw [key_at ri e1]
      refine .inr ⟨a, _, rfl, DPut.k h1 (by rw [zip_len h2]; exact hl), hQ _ ⟨ws, by rw [put_at, z1], put_rvs hf z2⟩⟩
    · cases e
  · rename_i kvs
    obtain ⟨k, e1, e⟩ := Option.bind_eq_some_iff.mp e
    split at e
    · rename_i hl
      cases e
      obtain ⟨us, h1, h2⟩ := hc
      obtain ⟨ws, z1, z2⟩ := put_zip k h2 rv
      obtain ⟨b, rfl, eb⟩ := keyT_at ri e1
      refine .inr ⟨a, _, rfl, DPut.t h1 eb (by rw [zip_len h2]; exact hl), hQ _ ⟨ws, by rw [put_at, z1], put_rvs hf z2⟩⟩
    · cases e
  · cases e
/-- o[i] as a target -/
def gmSub (pl : DPl) (di : DX) : DGm := fun p env st => (pl env st).bind fun r => (di env r.2).bind fun s => s.1.pv.bind fun i => (plGet env s.2 r.1).bind fun c => (fPut c i p).map fun c' => plSet env s.2 c' r.1
theorem gm_sub {o i : Expr} {tp ti : TE} {pl : DPl} {di : DX} {pos : Pos} (ho : EPl Γ X o tp pl) (hi : EX Γ X i ti di)
    (ha : ∀ v, assign (.Subscript o i pos) X.env v = (do
      let ov ← holding [v] (eval o X.env)
      let iv ← holding [v, ov] (eval i X.env)
      standAt pos
      holding [v, ov, iv] (setItem ov iv v)
      release [v, ov, iv] []) := by intro _; rfl) : EGm Γ X (.Subscript o i pos) (gSub tp ti rSetA) (gmSub pl di) :=
  ⟨fun g => pg_sub (ho.pe g) (hi.pe g) (ps_setA g) ha, fun W env σ st p v env' st' hE hS r hd Q hQ => by
  unfold gmSub at hd
  obtain ⟨⟨q, st1⟩, e1, hd⟩ := Option.bind_eq_some_iff.mp hd
  obtain ⟨⟨x, st2⟩, e2, hd⟩ := Option.bind_eq_some_iff.mp hd
  obtain ⟨ip, e3, hd⟩ := Option.bind_eq_some_iff.mp hd
  obtain ⟨c, e4, hd⟩ := Option.bind_eq_some_iff.mp hd
  obtain ⟨c', e5, hd⟩ := Option.map_eq_some_iff.mp hd
  refine ho.snd.run W env σ st q st1 hE hS e1 _ fun W1 b E1 S1 A1 => ?_
  refine hi.snd.run W1 env σ st1 x st2 (hE.ext E1) S1 e2 _ fun W2 u E2 S2 R2 => ?_
  obtain ⟨W3, E3, S3, R3, H3⟩ := pv_at S2 E2 R2 e3
  have En3 := hE.ext (E1.trans E3)
  have A3 := plAt_ext E3 A1
  rw [← H3]
  refine fPut_at (plGet_at En3 S3 A3 e4) R3 (RV_ext (E1.trans E3).toExt _ _ r) (plAt_nfrz En3 S3 A3 e4).1 e5 _ fun o hc => ?_
  obtain ⟨w1, w2, w3⟩ := pl_write En3 S3 A3 e4 hc
  have h1 : (plSet env st2 c' q).1 = env' := congrArg (·.1) hd
  have h2 : (plSet env st2 c' q).2 = st' := congrArg (·.2) hd
  rw [h2] at w2
  rw [h1] at w3
  exact hQ (W3.put b o) σ ((E1.trans E3).toExt.trans w1) w2 w3⟩
end
end DD
/-! DLock -/
namespace DD
open PySem PySem.Spec PyProof.Rows L2

section
variable {Γ K : Ctx} {X : Cx} {W W' : World}
/-! ### a dict locked -/
def DictO : HO → Prop
  | .dK _ => True
  | .dT _ => True
  | _ => False
def Sw (o o' : HO) : Prop := o' = o ∨ ∃ u ob, DictO u ∧ ((o = u ∧ o' = .frz ob u) ∨ (o = .frz ob u ∧ o' = u))
abbrev SwW (W W' : World) : Prop := ∀ a o, Fz W a → W.H a = some o → Fz W' a ∧ ∃ o', W'.H a = some o' ∧ Sw o o'
theorem Sw.tup {vs : List V} {o' : HO} (h : Sw (.tup vs) o') : o' = .tup vs := by
  rcases h with h | ⟨u, ob, h1, ⟨h2, _⟩ | ⟨h2, _⟩⟩
  · exact h
  · rw [← h2] at h1; exact h1.elim
  · cases h2
theorem Sw.lst {vs : List V} {o' : HO} (h : Sw (.lst vs) o') : o' = .lst vs := by
  rcases h with h | ⟨u, ob, h1, ⟨h2, _⟩ | ⟨h2, _⟩⟩
  · exact h
  · rw [← h2] at h1; exact h1.elim
  · cases h2
theorem Sw.own {b : Addr} {o' : HO} (h : Sw (.own b) o') : o' = .own b := by
  rcases h with h | ⟨u, ob, h1, ⟨h2, _⟩ | ⟨h2, _⟩⟩
  · exact h
  · rw [← h2] at h1; exact h1.elim
  · cases h2
theorem Sw.frz {ob : Obj} {u o' : HO} (h : Sw (.frz ob u) o') (hu : ¬ DictO u) : o' = .frz ob u := by
  rcases h with h | ⟨u', ob', h1, ⟨h2, _⟩ | ⟨h2, _⟩⟩
  · exact h
  · rw [← h2] at h1; exact h1.elim
  · cases h2; exact absurd h1 hu
theorem Sw.rd {H' : Hp} {a : Addr} {o o' u : HO} (h : Sw o o') (hu : DictO u) (ho : o = u ∨ ∃ ob, o = .frz ob u) (h' : H' a = some o') : Rd H' a u := by
  rcases ho with rfl | ⟨ob, rfl⟩
  · rcases h with rfl | ⟨u', ob', h1, ⟨rfl, h2⟩ | ⟨h2, _⟩⟩
    · exact .inl h'
    · exact .inr ⟨ob', h2 ▸ h'⟩
    · rw [h2] at hu; exact hu.elim
  · rcases h with rfl | ⟨u', ob', h1, ⟨h2, _⟩ | ⟨h2, h3⟩⟩
    · exact .inr ⟨ob, h'⟩
    · rw [← h2] at h1; exact h1.elim
    · cases h2; exact .inl (h3 ▸ h')
mutual
theorem RV_sw (hm : W'.mu = W.mu) (h : SwW W W') : ∀ (p : PV) (v : V), RV K W p v → RV K W' p v
  | .non, v, h => by unfold RV at h ⊢; exact h
  | .bl b, v, h => by unfold RV at h ⊢; exact h
  | .int i, v, h => by unfold RV at h ⊢; exact h
  | .str s, v, h => by unfold RV at h ⊢; exact h
  | .ref a, v, h => by unfold RV at h ⊢; exact h
  | .ty n, v, h => by unfold RV at h ⊢; exact h
  | .obj n, v, h => by unfold RV at h ⊢; rw [hm]; exact h
  | .tup xs, v, q => by
    unfold RV at q ⊢
    obtain ⟨b, vs, h1, h2, h3, h4⟩ := q
    obtain ⟨f, o', e, s⟩ := h b _ h2 h3
    exact ⟨b, vs, h1, f, s.tup ▸ e, RVs_sw hm h xs vs h4⟩
  | .lst xs, v, q => by
    unfold RV at q ⊢
    obtain ⟨b, vs, h1, h2, h3, h4⟩ := q
    obtain ⟨f, o', e, s⟩ := h b _ h2 h3
    exact ⟨b, vs, h1, f, s.lst ▸ e, RVs_sw hm h xs vs h4⟩
  | .fK ks xs, v, q => by
    unfold RV at q ⊢
    obtain ⟨b, vs, h1, h2, h3, h4⟩ := q
    have key : ∃ o, W.H b = some o ∧ (o = .dK (ks.zip vs) ∨ ∃ ob, o = .frz ob (.dK (ks.zip vs))) := h3.elim (fun z => ⟨_, z, .inl rfl⟩) fun ⟨ob, z⟩ => ⟨_, z, .inr ⟨ob, rfl⟩⟩
    obtain ⟨o, ho, hk⟩ := key
    obtain ⟨f, o', e, s⟩ := h b _ h2 ho
    exact ⟨b, vs, h1, f, s.rd trivial hk e, RVs_sw hm h xs vs h4⟩
  | .fT ks xs, v, q => by
    unfold RV at q ⊢
    obtain ⟨b, vs, h1, h2, h3, h4⟩ := q
    have key : ∃ o, W.H b = some o ∧ (o = .dT (ks.zip vs) ∨ ∃ ob, o = .frz ob (.dT (ks.zip vs))) := h3.elim (fun z => ⟨_, z, .inl rfl⟩) fun ⟨ob, z⟩ => ⟨_, z, .inr ⟨ob, rfl⟩⟩
    obtain ⟨o, ho, hk⟩ := key
    obtain ⟨f, o', e, s⟩ := h b _ h2 ho
    exact ⟨b, vs, h1, f, s.rd trivial hk e, RVs_sw hm h xs vs h4⟩
  | .rol xs, v, q => by
    unfold RV at q ⊢
    obtain ⟨b, vs, h1, h2, h4⟩ := q
    refine ⟨b, vs, h1, ?_, RVs_sw hm h xs vs h4⟩
    rcases h2 with ⟨t2, o, h3⟩ | h3
    · obtain ⟨f, o', e, s⟩ := h b _ t2 h3
      exact .inl ⟨f, o, s.frz (fun z => z) ▸ e⟩
    · exact .inr h3
  | .rot xs, v, q => by
    unfold RV at q ⊢
    obtain ⟨b, vs, h1, h2, h4⟩ := q
    refine ⟨b, vs, h1, ?_, RVs_sw hm h xs vs h4⟩
    rcases h2 with ⟨t2, o, h3⟩ | h3
    · obtain ⟨f, o', e, s⟩ := h b _ t2 h3
      exact .inl ⟨f, o, s.frz (fun z => z) ▸ e⟩
    · exact .inr h3
theorem RVs_sw (hm : W'.mu = W.mu) (h : SwW W W') : ∀ (xs : List PV) (vs : List V), RVs K W xs vs → RVs K W' xs vs
  | [], vs, h => by unfold RVs at h ⊢; exact h
  | x :: xs, vs, q => by
    unfold RVs at q ⊢
    obtain ⟨v, r, h1, h2, h3⟩ := q
    exact ⟨v, r, h1, RV_sw hm h x v h2, RVs_sw hm h xs r h3⟩
end
/-- one dict's object between locked and not -/
theorem put_sw {a : Addr} {o o' : HO} (h0 : W.H a = some o) (ht : W.T a = .frz) (s : Sw o o') : SwW W (W.put a o') := fun b ob hf hb => by
  by_cases e : b = a
  · subst e
    rw [h0] at hb; cases hb
    exact ⟨.inl ht, o', put_at, s⟩
  · have hb' : (W.put a o').H b = some ob := by rw [put_ne e]; exact hb
    exact ⟨hf.of (W' := W.put a o') hb hb' rfl, ob, hb', .inl rfl⟩
theorem CtAt_sw {a b : Addr} {o o' : HO} {c : Cont} (h0 : W.H a = some o) (ht : W.T a = .frz) (s : Sw o o') (hb : W.T b ≠ .frz) (h : CtAt K W b c) : CtAt K (W.put a o') b c := by
  have ne : b ≠ a := fun z => hb (by rw [z]; exact ht)
  have hm := put_sw h0 ht s
  cases c with
  | lst xs => obtain ⟨vs, h1, h2⟩ := h; exact ⟨vs, by rw [put_ne ne]; exact h1, RVs_sw (W := W) (W' := W.put a o') rfl hm _ _ h2⟩
  | dK kvs => obtain ⟨vs, h1, h2⟩ := h; exact ⟨vs, by rw [put_ne ne]; exact h1, RVs_sw (W := W) (W' := W.put a o') rfl hm _ _ h2⟩
  | dT kvs => obtain ⟨vs, h1, h2⟩ := h; exact ⟨vs, by rw [put_ne ne]; exact h1, RVs_sw (W := W) (W' := W.put a o') rfl hm _ _ h2⟩
  | set xs => obtain ⟨S, h1, h2⟩ := h; exact ⟨S, by rw [put_ne ne]; exact h1, h2⟩
  | ins C fs =>
    obtain ⟨dx, vs, h1, h2, h3, h4⟩ := h
    obtain ⟨f, o2, e2, s2⟩ := hm dx _ h3 h4
    exact ⟨dx, vs, by rw [put_ne ne]; exact h1, RVs_sw (W := W) (W' := W.put a o') rfl hm _ _ h2, f, s2.own ▸ e2⟩
theorem RSt.sw {a : Addr} {o o' : HO} {st : MS} (h0 : W.H a = some o) (ht : W.T a = .frz) (s : Sw o o') (h : RSt K W st) : RSt K (W.put a o') st := by
  refine ⟨h.len, h.tag, fun n c e => ?_, fun b hb => ?_⟩
  · obtain ⟨b, e1, c1⟩ := h.ct n c e
    exact ⟨b, e1, CtAt_sw h0 ht s (by rw [h.tag n b e1]; intro z; cases z) c1⟩
  · by_cases e : b = a
    · subst e; exact ⟨o', put_at⟩
    · obtain ⟨o2, ho2⟩ := h.oldH b hb
      exact ⟨o2, by rw [put_ne e]; exact ho2⟩
def Slot.unlk : Slot → Slot
  | .lk p => .v p
  | s => s
theorem REn.sw {a : Addr} {o o' : HO} {env : DEnv} {σ : L2.St} (h0 : W.H a = some o) (ht : W.T a = .frz) (s : Sw o o') (h : REn K W env σ) : REn K (W.put a o') (env.map Slot.unlk) σ := by
  refine ⟨by rw [List.length_map]; exact h.len, fun i sl e => ?_⟩
  rw [List.getElem?_map] at e
  obtain ⟨s0, e0, e⟩ := Option.map_eq_some_iff.mp e
  subst e
  have q := h.sl i s0 e0
  have hm := put_sw h0 ht s
  cases s0 with
  | un => trivial
  | v p => obtain ⟨v, h1, h2⟩ := q; exact ⟨v, h1, RV_sw (W := W) (W' := W.put a o') rfl hm p v h2⟩
  | own c =>
    obtain ⟨b, h1, h2, h3, h4⟩ := q
    exact ⟨b, h1, h2, h3, CtAt_sw h0 ht s (by rw [h2]; intro z; cases z) h4⟩
  | lk p => obtain ⟨v, h1, h2, _⟩ := q; exact ⟨v, h1, RV_sw (W := W) (W' := W.put a o') rfl hm p v h2⟩
/-- .. of a dict that is not locked: the locked slots stay so -/
theorem REn.lk {a : Addr} {u : HO} {ob : Obj} {env : DEnv} {σ : L2.St} (h0 : W.H a = some u) (ht : W.T a = .frz) (hu : DictO u) (h : REn K W env σ) : REn K (W.put a (.frz ob u)) env σ := by
  have s : Sw u (.frz ob u) := .inr ⟨u, ob, hu, .inl ⟨rfl, rfl⟩⟩
  refine ⟨h.len, fun i sl e => ?_⟩
  have q := h.sl i sl e
  have hm := put_sw h0 ht s
  cases sl with
  | un => trivial
  | v p => obtain ⟨v, h1, h2⟩ := q; exact ⟨v, h1, RV_sw (W := W) (W' := W.put a _) rfl hm p v h2⟩
  | own c =>
    obtain ⟨b, h1, h2, h3, h4⟩ := q
    exact ⟨b, h1, h2, h3, CtAt_sw h0 ht s (by rw [h2]; intro z; cases z) h4⟩
  | lk p =>
    obtain ⟨v, h1, h2, b, o2, u2, h3, h4, h5⟩ := q
    refine ⟨v, h1, RV_sw (W := W) (W' := W.put a _) rfl hm p v h2, b, o2, u2, h3, ?_, ?_⟩
    · exact (hm b _ h4 h5).1
    · have ne : b ≠ a := fun z => by
        rw [z, h0] at h5
        cases h5
        exact hu
      rw [put_ne ne]; exact h5
theorem REn.unlk {env : DEnv} {σ : L2.St} (h : REn K W env σ) : REn K W (env.map Slot.unlk) σ := by
  refine ⟨by rw [List.length_map]; exact h.len, fun i sl e => ?_⟩
  rw [List.getElem?_map] at e
  obtain ⟨s0, e0, e⟩ := Option.map_eq_some_iff.mp e
  subst e
  have q := h.sl i s0 e0
  cases s0 with
  | un => trivial
  | v p => exact q
  | own c => exact q
  | lk p => obtain ⟨v, h1, h2, _⟩ := q; exact ⟨v, h1, h2⟩
theorem RX.sw {W0 W1 : World} {a : Addr} {o o' : HO} {x : XV} {v : V} (h0 : W.H a = some o) (ht : W.T a = .frz) (s : Sw o o') (hn : ∀ b, W1.H b = none → W0.H b = none) (h : RX K W1 W x v) : RX K W0 (W.put a o') x v := by
  cases x with
  | v p => exact RV_sw (W := W) (W' := W.put a o') rfl (put_sw h0 ht s) p v h
  | o c => obtain ⟨b, h1, h2, h3, h4, h5⟩ := h; exact ⟨b, h1, CtAt_sw h0 ht s (by rw [h3]; intro z; cases z) h2, h3, h4, hn b h5⟩
  | b c => obtain ⟨b, i, h1, h2, h3, h4⟩ := h; exact ⟨b, i, h1, CtAt_sw h0 ht s (by rw [h3]; intro z; cases z) h2, h3, h4⟩
theorem pss_lock {st : List Stmt} {t : TS} (h : PSs X st t) : PSs X st (tLock t) := by
  refine ⟨fun pins s σ H D I hw => ?_⟩
  obtain ⟨d, u, hd, mu, hw⟩ := hw
  obtain ⟨od, I1⟩ := I.lock hd mu
  refine thn (h.run pins s σ _ _ I1 (hw od)) fun f s1 q => ?_
  cases f with
  | next => obtain ⟨σ', H', I2, e, q⟩ := q; exact ⟨σ', _, I2.unlock e (I.nofrz hd mu), q⟩
  | brk => obtain ⟨σ', H', I2, e, q⟩ := q; exact ⟨σ', _, I2.unlock e (I.nofrz hd mu), q⟩
  | cont => obtain ⟨σ', H', I2, e, q⟩ := q; exact ⟨σ', _, I2.unlock e (I.nofrz hd mu), q⟩
  | ret v => obtain ⟨x, σ', H', I2, r, e, q⟩ := q; exact ⟨x, σ', _, I2.unlock e (I.nofrz hd mu), r, q⟩
theorem PSs.or {st : List Stmt} {t u : TS} (h1 : PSs X st t) (h2 : PSs X st u) : PSs X st (fun D σ H => t D σ H ∨ u D σ H) := ⟨fun pins s σ H D I h => h.elim (h1.run pins s σ H D I) (h2.run pins s σ H D I)⟩
def PV.isD : PV → Bool
  | .fK _ _ => true
  | .fT _ _ => true
  | _ => false
theorem isD_at {p : PV} {v : V} (r : RV K W p v) (e : p.isD = true) : ∃ a u, v = .ref a ∧ Fz W a ∧ DictO u ∧ Rd W.H a u := by
  cases p with
  | fK ks xs => unfold RV at r; obtain ⟨a, vs, h1, h2, h3, _⟩ := r; exact ⟨a, .dK (ks.zip vs), h1, h2, trivial, h3⟩
  | fT ks xs => unfold RV at r; obtain ⟨a, vs, h1, h2, h3, _⟩ := r; exact ⟨a, .dT (ks.zip vs), h1, h2, trivial, h3⟩
  | _ => cases e
theorem DictO.mut {u : HO} (h : DictO u) : Mut (some u) := by
  cases u <;> first | exact h.elim | trivial
/-- from here on to the suite's end slot i's dict is locked -/
def sLk (i : Nat) (d : DS) : DS := fun env st => match env[i]? with
  | some (.v p) => if p.isD = true then (d (env.set i (.lk p)) st).map fun r => (r.1, r.2.1.map Slot.unlk, r.2.2) else none
  | _ => none
theorem ss_lock (i : Nat) {ss : List Stmt} {t : TS} {d : DS} (h : ESs Γ X ss t d) : ESs Γ X ss (fun D σ H => tLock t D σ H ∨ t D σ H) (sLk i d) := ⟨fun g => PSs.or (pss_lock (h.pe g)) (h.pe g), ⟨fun W env σ st fl env' st' hE hS hd D hD => by
  unfold sLk at hd
  split at hd
  · rename_i p hp
    split at hd
    · rename_i hD'
      obtain ⟨⟨fl1, env1, st1⟩, e1, hd⟩ := Option.map_eq_some_iff.mp hd
      have hfl : fl1 = fl := congrArg (·.1) hd
      have henv : env1.map Slot.unlk = env' := congrArg (·.2.1) hd
      have hst : st1 = st' := congrArg (·.2.2) hd
      subst hfl henv hst
      obtain ⟨v, g1, g2⟩ := hE.sl i _ hp
      obtain ⟨a, u, rfl, hF, hu, hr⟩ := isD_at g2 hD'
      have hT : W.T a = .frz := by
        rcases hF with z | ⟨vs, z⟩
        · exact z
        · rcases hr with y | ⟨o, y⟩
          · rw [z] at y; cases y; exact hu.elim
          · rw [z] at y; cases y
      rcases hr with hr | ⟨o, hr⟩
      · left
        refine ⟨a, u, hr, hu.mut, fun od => ?_⟩
        have s : Sw u (.frz od u) := .inr ⟨u, od, hu, .inl ⟨rfl, rfl⟩⟩
        have hm := put_sw hr hT s
        have En1 : REn Γ (W.put a (.frz od u)) (env.set i (.lk p)) σ := (hE.lk hr hT hu).setS (s := .lk p) ⟨_, g1, RV_sw (W := W) (W' := W.put a _) rfl hm p _ g2, a, od, u, rfl, .inl hT, put_at⟩
        have S1 : RSt Γ (W.put a (.frz od u)) st := hS.sw hr hT s
        refine h.snd.run (W.put a (.frz od u)) _ σ st fl1 env1 _ En1 S1 e1 _ fun W2 σ2 E2 S2 En2 => ?_
        obtain ⟨k1, k2⟩ := E2.keep a _ put_at (.inl (.inl hT))
        have k2' : W2.T a = .frz := k2.trans hT
        have s' : Sw (.frz od u) u := .inr ⟨u, od, hu, .inr ⟨rfl, rfl⟩⟩
        have E3 : Ext W (W2.put a u) := ⟨fun b ob hb ht => by
          by_cases e : b = a
          · subst e
            rw [hr] at hb; cases hb
            exact ⟨put_at, k2⟩
          · have hb1 : (W.put a (.frz od u)).H b = some ob := by rw [put_ne e]; exact hb
            obtain ⟨z1, z2⟩ := E2.keep b ob hb1 (ht.imp (fun z => z.of (W' := W.put a _) hb hb1 rfl) id)
            exact ⟨by rw [put_ne e]; exact z1, z2⟩, E2.mu, E2.old, fun b ob hb => by
          by_cases e : b = a
          · subst e; exact ⟨u, put_at⟩
          · have hb1 : (W.put a (.frz od u)).H b = some ob := by rw [put_ne e]; exact hb
            obtain ⟨o', z⟩ := E2.there b ob hb1
            exact ⟨o', by rw [put_ne e]; exact z⟩⟩
        have fin := hD (W2.put a u) σ2 E3 (S2.sw k1 k2' s') (En2.sw k1 k2' s')
        cases fl1 with
        | nx => exact ⟨k1, fin⟩
        | bk => exact ⟨k1, fin⟩
        | ct => exact ⟨k1, fin⟩
        | rt x => exact fun v r => ⟨k1, fin v (r.sw k1 k2' s' fun b hb => by
            by_cases e : b = a
            · subst e
              have : (W.put b (.frz od u)).H b = some _ := put_at
              rw [this] at hb; cases hb
            · rw [put_ne e] at hb; exact hb)⟩
      · right
        have En1 : REn Γ W (env.set i (.lk p)) σ := hE.setS (s := .lk p) ⟨_, g1, g2, a, o, u, rfl, .inl hT, hr⟩
        refine h.snd.run W _ σ st fl1 env1 _ En1 hS e1 _ fun W2 σ2 E2 S2 En2 => ?_
        have fin := hD W2 σ2 E2 S2 En2.unlk
        cases fl1 with
        | nx => exact fin
        | bk => exact fin
        | ct => exact fin
        | rt x => exact fin
    · cases hd
  · cases hd⟩⟩
/-- slot i's own thing is frozen -/
def sFrz (i : Nat) (d : DS) : DS := fun env st => match env[i]? with
  | some (.own c) => c.fr.bind fun p => d (env.set i (.v p)) st
  | _ => none
theorem ss_frz (i : Nat) {ss : List Stmt} {t : TS} {d : DS} (h : ESs Γ X ss t d) : ESs Γ X ss t (sFrz i d) := ⟨h.pe, ⟨fun W env σ st fl env' st' hE hS hd D hD => by
  unfold sFrz at hd
  split at hd
  · rename_i c hc
    obtain ⟨p, e1, hd⟩ := Option.bind_eq_some_iff.mp hd
    obtain ⟨a, h1, h2, h3, h4⟩ := hE.sl i _ hc
    have nf : ¬ Fz W a := ct_nfz h4 (by rw [h2]; intro z; cases z)
    have hn : ∀ n, W.T a ≠ .obj n := fun n => by rw [h2]; intro z; cases z
    have E1 : Ext W (W.tag a .frz) := tag_ext Ext.refl nf h3
    have S1 : RSt Γ (W.tag a .frz) st := hS.retag' nf hn
    have hil : i < env.length := (List.getElem?_eq_some_iff.mp hc).1
    have e0 : REn Γ (W.tag a .frz) (env.set i .un) σ := ⟨by simp [hE.len], fun k s e => by
      by_cases ek : k = i
      · subst ek
        rw [List.getElem?_set_self hil] at e
        cases e
        trivial
      · rw [List.getElem?_set_ne (Ne.symm ek)] at e
        have q := hE.sl k s e
        cases s with
        | un => trivial
        | v p => obtain ⟨w, q1, q2⟩ := q; exact ⟨w, q1, RV_tag nf p w q2⟩
        | own c' =>
          obtain ⟨b, q1, q2, q3, q4⟩ := q
          refine ⟨b, q1, (tag_Tne fun z => ?_).trans q2, q3, CtAt_tag nf q4⟩
          rw [z, h2] at q2
          cases q2
          exact ek rfl
        | lk p => obtain ⟨w, q1, q2, q3⟩ := q; exact ⟨w, q1, RV_tag nf p w q2, q3.tag nf⟩⟩
    have e2 := e0.setS (i := i) (s := .v p) ⟨_, h1, fr_rv (CtAt_tag nf h4) e1 (.inl tag_T)⟩
    rw [List.set_set] at e2
    exact h.snd.run (W.tag a .frz) _ σ st fl env' st' e2 S1 hd D (hD.mono E1)
  · cases hd⟩⟩

/-! ### for k in d -/
def keyP : Key → PV
  | .inl i => .int i
  | .inr s => .str s
def keysOf : PV → Option (List PV)
  | .fK ks xs => if ks.length = xs.length then some (ks.map keyP) else none
  | .fT ks xs => if ks.length = xs.length then some (ks.map fun k => .tup (k.map keyP)) else none
  | _ => none
theorem keyP_rv (k : Key) : RV K W (keyP k) (kV k) := by
  cases k with
  | inl i => show RV K W (.int i) (.int i); unfold RV; rfl
  | inr s => show RV K W (.str s) (.str s); unfold RV; rfl
theorem keysP_rv : ∀ ks : List Key, RVs K W (ks.map keyP) (ks.map kV)
  | [] => RVs_nil.mpr rfl
  | k :: ks => RVs_cons'.mpr ⟨keyP_rv k, keysP_rv ks⟩
theorem Ex.keep {m : Bool} {W0 : World} {a : Addr} {o : HO} (e : Ex m W0 W W') (h : W.H a = some o) (hf : Fz W a) : W'.H a = some o := (e.ext.keep a o h (.inl hf)).1
theorem zip_getK {α β : Type} {ks : List α} {vs : List β} {i : Nat} {k : α} {v : β} (h : (ks.zip vs)[i]? = some (k, v)) : ks[i]? = some k := by
  have := List.getElem?_zip_eq_some.mp h
  exact this.1
theorem keys_ok {m : Bool} {W0 : World} {p : PV} {v : V} {items : List PV} (r : RV K W p v) (l : Lkd W v) (e : keysOf p = some items) (R : It → Hp → Prop) (hR : ∀ J, WOk K (Ex m W0) W J items → R J W.H) :
    ∃ d o, v = .ref d ∧ ((∃ kvs, W.H d = some (.frz o (.dK kvs)) ∧ R (Itk d o kvs) W.H) ∨ ∃ kvs, W.H d = some (.frz o (.dT kvs)) ∧ R (Itkt d o kvs) W.H) := by
  obtain ⟨a, o, u, rfl, hF, hl⟩ := l
  cases p with
  | fK ks xs =>
    have e : (if ks.length = xs.length then some (ks.map keyP) else none) = some items := e
    split at e
    · rename_i hlen
      cases e
      unfold RV at r
      obtain ⟨b, vs, h1, h2, h3, h4⟩ := r
      cases h1
      have hz : u = .dK (ks.zip vs) := by
        rcases h3 with h3 | ⟨o', h3⟩ <;> rw [hl] at h3 <;> cases h3
        rfl
      subst hz
      have hvl : ks.length = vs.length := by rw [hlen]; exact RVs_len h4
      have hzl : (ks.zip vs).length = (ks.map keyP).length := by simp [hvl]
      refine ⟨a, o, rfl, .inl ⟨_, hl, hR _ ⟨fun W' i e hi => ⟨Ex.keep e hl hF, by rw [hzl]; exact hi⟩, fun W' e => ⟨Ex.keep e hl hF, Nat.le_of_eq hzl⟩, fun W' i x H' e hs y hi => ?_⟩⟩⟩
      obtain ⟨rfl, k, v, hk, rfl⟩ := y
      exact ⟨W', keyP k, by rw [List.getElem?_map, zip_getK hk]; rfl, LayE.refl, rfl, keyP_rv k⟩
    · cases e
  | fT ks xs =>
    have e : (if ks.length = xs.length then some (ks.map fun k => PV.tup (k.map keyP)) else none) = some items := e
    split at e
    · rename_i hlen
      cases e
      unfold RV at r
      obtain ⟨b, vs, h1, h2, h3, h4⟩ := r
      cases h1
      have hz : u = .dT (ks.zip vs) := by
        rcases h3 with h3 | ⟨o', h3⟩ <;> rw [hl] at h3 <;> cases h3
        rfl
      subst hz
      have hvl : ks.length = vs.length := by rw [hlen]; exact RVs_len h4
      have hzl : (ks.zip vs).length = (ks.map fun k => PV.tup (k.map keyP)).length := by simp [hvl]
      refine ⟨a, o, rfl, .inr ⟨_, hl, hR _ ⟨fun W' i e hi => ⟨Ex.keep e hl hF, by rw [hzl]; exact hi⟩, fun W' e => ⟨Ex.keep e hl hF, Nat.le_of_eq hzl⟩, fun W' i x H' e hs y hi => ?_⟩⟩⟩
      obtain ⟨rfl, k, v, q, hk, rfl, hq⟩ := y
      refine ⟨W', _, by rw [List.getElem?_map, zip_getK hk]; rfl, LayE.refl, rfl, ?_⟩
      show RV K W' (.tup (k.map keyP)) (.ref q)
      unfold RV
      exact ⟨q, _, rfl, .inr ⟨_, hq⟩, hq, keysP_rv k⟩
    · cases e
  | _ => cases e
def iKeysV (i : Nat) : DI := fun env st => match env[i]? with
  | some (.lk p) => (keysOf p).map fun xs => (xs, st)
  | _ => none
theorem i_keys (m : Bool) {tg : Expr} {x : Str} {pos : Pos} (i : Nat) (hN : X.N[i]? = some x := by rfl) (hv : Vis X.env.scope x := by first | exact Or.inl rfl | exact Or.inr (Or.inl rfl) | exact Or.inr (Or.inr rfl))
    (hd : (x == ("__debug__" : Str)) = false := by decide) (hcd : (x == ("__classdict__" : Str)) = false := by decide) : EI Γ X m tg (.Name x pos) (iKeys (tVar i)) (iKeysV i) := ⟨fun _ => pi_keys (pe_var hN hv hd hcd), ⟨fun W env σ st xs st' hE hS hd R hR => by
  unfold iKeysV at hd
  split at hd
  · rename_i p hp
    obtain ⟨ys, e1, hd⟩ := Option.map_eq_some_iff.mp hd
    cases hd
    obtain ⟨v, h1, h2, h3⟩ := hE.sl i _ hp
    exact ⟨v, h1, keys_ok (m := m) (W0 := W) h2 h3 e1 R fun J ok => hR W J ExtE.refl hS ok⟩
  · cases hd⟩⟩
/-- for k in d if c else e -/
def iKeysIf (i : Nat) (c : DT) (m : Bool) (e : DX) : DI := fun env st => (c env st).bind fun b => if b.1 = true then iKeysV i env b.2 else iSeq m e env b.2
theorem i_keysIf (m : Bool) {tg c e : Expr} {x : Str} {p pos : Pos} (i : Nat) {tc : TT} {dc : DT} {te : TE} {de : DX} (hc : ET Γ X c tc dc) (he : EX Γ X e te de) (hN : X.N[i]? = some x := by rfl) (hv : Vis X.env.scope x := by first | exact Or.inl rfl | exact Or.inr (Or.inl rfl) | exact Or.inr (Or.inr rfl))
    (hd : (x == ("__debug__" : Str)) = false := by decide) (hcd : (x == ("__classdict__" : Str)) = false := by decide) :
    EI Γ X m tg (.IfExp c (.Name x p) e pos) (fun σ H R => iKeys (tIf tc (tVar i) te) σ H R ∨ (iList Γ.K (tIf tc (tVar i) te) σ H R ∨ iTup Γ.K (tIf tc (tVar i) te) σ H R)) (iKeysIf i dc m de) :=
  ⟨fun g => g.K ▸ pi_or (pi_keys (pe_ifExp (hc.pe g) (pe_var hN hv hd hcd) (he.pe g))) (pi_or (pi_list (pe_ifExp (hc.pe g) (pe_var hN hv hd hcd) (he.pe g))) (pi_tup (pe_ifExp (hc.pe g) (pe_var hN hv hd hcd) (he.pe g)))), ⟨fun W env σ st xs st' hE hS hd R hR => by
  unfold iKeysIf at hd
  obtain ⟨⟨b, st1⟩, e1, hd⟩ := Option.bind_eq_some_iff.mp hd
  cases b with
  | true =>
    have hd : iKeysV i env st1 = some (xs, st') := hd
    unfold iKeysV at hd
    split at hd
    · rename_i p hp
      obtain ⟨ys, e2, hd⟩ := Option.map_eq_some_iff.mp hd
      cases hd
      refine .inl (hc.snd.run W env σ st true _ hE hS e1 _ fun W1 E1 S1 => iteT ?_)
      obtain ⟨v, h1, h2, h3⟩ := (hE.ext E1).sl i _ hp
      exact ⟨v, h1, keys_ok (m := m) (W0 := W) h2 h3 e2 R fun J ok => hR W1 J E1 S1 ok⟩
    · cases hd
  | false =>
    have hd : iSeq m de env st1 = some (xs, st') := hd
    refine .inr ?_
    unfold iSeq at hd
    obtain ⟨⟨x, st2⟩, e2, hd⟩ := Option.bind_eq_some_iff.mp hd
    obtain ⟨ys, e3, hd⟩ := Option.map_eq_some_iff.mp hd
    cases hd
    cases ht : x.isT with
    | false =>
      refine .inl (hc.snd.run W env σ st false _ hE hS e1 _ fun W1 E1 S1 => iteF (he.snd.run W1 env σ st1 x _ (hE.ext E1) S1 e2 _ fun W2 u E2 S2 R2 => ?_))
      obtain ⟨W3, a, vs, E3, _, S3, H3, rfl, r2, h2⟩ := items_at S2 (E1.trans E2) (R2.back E1.toExt) e3
      rw [ht] at h2
      have h2 : StL Γ m W W3 a vs := h2
      refine ⟨a, rfl, ⟨vs, by rw [← H3]; exact h2.any⟩, ?_⟩
      rw [← H3]
      exact hR W3 _ E3 S3 (WOk.list h2 r2)
    | true =>
      refine .inr (hc.snd.run W env σ st false _ hE hS e1 _ fun W1 E1 S1 => iteF (he.snd.run W1 env σ st1 x _ (hE.ext E1) S1 e2 _ fun W2 u E2 S2 R2 => ?_))
      obtain ⟨W3, a, vs, E3, _, S3, H3, rfl, r2, h2⟩ := items_at S2 (E1.trans E2) (R2.back E1.toExt) e3
      rw [ht] at h2
      have h2 : StT Γ W3 a vs := h2
      refine ⟨a, rfl, ⟨vs, by rw [← H3]; exact h2.any⟩, ?_⟩
      rw [← H3]
      exact hR W3 _ E3 S3 (WOk.tup h2 r2)⟩⟩
end
end DD
/-! DComp -/
namespace DD
open PySem PySem.Spec PyProof.Rows L2

section
variable {Γ K : Ctx} {X : Cx} {W W' : World}
/-- a new thing of this expression changed -/
theorem put_new {W0 : World} {D : Addr} {o : HO} {st : MS} {c : Cont} (E : ExtE W0 W) (S : RSt K W st) (hD0 : W0.H D = none) (hc : CtAt K W D c) (hT : W.T D = .oth) :
    ExtE W0 (W.put D o) ∧ RSt K (W.put D o) st ∧ ∀ {ps : List PV} {vs : List V}, RVs K W ps vs → RVs K (W.put D o) ps vs := by
  have nf := oth_nfz hc hT
  refine ⟨⟨⟨fun a o' ha ht => ?_, E.mu, E.old, fun a o' ha => ?_⟩, fun a o' ha ht => ?_⟩, S.put nf (fun n => by rw [hT]; intro z; cases z) (CtAt_some hc), fun {ps vs} h => RVs_map (W := W) (W' := W.put D o) rfl (put_frz nf) _ _ h⟩
  · rw [put_ne (ne_of_none ha hD0)]; exact E.keep a o' ha ht
  · rw [put_ne (ne_of_none ha hD0)]; exact E.there a o' ha
  · rw [put_ne (ne_of_none ha hD0)]; exact E.slots a o' ha ht
theorem drop_get {items : List PV} {i : Nat} {p : PV} (hp : items[i]? = some p) : items.drop i = p :: items.drop (i + 1) := by
  obtain ⟨h1, h2⟩ := List.getElem?_eq_some_iff.mp hp
  rw [← h2]; exact List.drop_eq_getElem_cons h1
theorem oldD {W1 : World} {D : Addr} {st : MS} (S1 : RSt K W1 st) (hD0 : W1.H D = none) (E : ExtE W1 W) : ¬ W.old D := by
  rw [E.old]; exact S1.nold hD0

theorem ExtM.tr {W0 W1 W2 W3 : World} (h : ExtM W0 W1 W2) (e : ExtE W2 W3) : ExtM W0 W1 W3 := ⟨h.toExt.trans e.toExt, fun a o ha ht => by
  obtain ⟨h1, h2⟩ := h.slots a o ha ht
  obtain ⟨g1, g2⟩ := e.slots a o h1 (ht.imp (fun z => h2.trans z.1) fun ⟨i, z⟩ => ⟨i, h2.trans z⟩)
  exact ⟨g1, g2.trans h2⟩⟩
theorem ExtM.putD {W0 W1 W2 : World} {D : Addr} {o : HO} (h : ExtM W0 W1 W2) (nf : ¬ Fz W1 D) (no : ¬ W1.old D) (nn : W0.H D ≠ none) (ns : ∀ i, W1.T D ≠ .slot i) : ExtM W0 W1 (W2.put D o) := by
  refine ⟨⟨fun a o' ha ht => ?_, h.mu, h.old, fun a o' ha => ?_⟩, fun a o' ha ht => ?_⟩
  · have ne : a ≠ D := by
      rintro rfl
      rcases ht with z | ⟨_, z⟩
      · exact nf z
      · exact no z
    rw [put_ne ne]; exact h.keep a o' ha ht
  · by_cases e : a = D
    · subst e; exact ⟨o, put_at⟩
    · obtain ⟨o2, h2⟩ := h.there a o' ha
      exact ⟨o2, by rw [put_ne e]; exact h2⟩
  · have ne : a ≠ D := by
      rintro rfl
      rcases ht with ⟨_, z⟩ | ⟨i, z⟩
      · exact nn z
      · exact ns i z
    rw [put_ne ne]; exact h.slots a o' ha ht
/-! ### two for-clauses -/
def compD2 (bind : DG) (test : DT) (items1 : DI) (vs1 : List Nat) (bind1 : DG) (test1 : DT) (elt : DX) : List PV → DEnv → MS → Option (List PV × MS)
  | [], _, st => some ([], st)
  | p :: ps, env, st => (bind p env).bind fun env1 => (test env1 st).bind fun b => if b.1 = true then (items1 env1 b.2).bind fun r => (compD bind1 test1 elt r.1 (wipeD env1 vs1) r.2).bind fun q => (compD2 bind test items1 vs1 bind1 test1 elt ps env q.2).map fun s => (q.1 ++ s.1, s.2)
    else compD2 bind test items1 vs1 bind1 test1 elt ps env b.2
def xLc2 (items : DI) (vs : List Nat) (bind : DG) (test : DT) (items1 : DI) (vs1 : List Nat) (bind1 : DG) (test1 : DT) (elt : DX) : DX := fun env st => (items env st).bind fun r => (compD2 bind test items1 vs1 bind1 test1 elt r.1 (wipeD env vs) r.2).bind fun q =>
  if q.1.length ≤ sizeLine then some (.o (.lst q.1), q.2) else none
theorem SndX.lc2 {wi wi1 : TI} {g g1 : TG} {tt tt1 : TT} {te : TE} {vs vs1 ix ix1 : List Nat} {di di1 : DI} {dg dg1 : DG} {dt dt1 : DT} {de : DX} (hi : SndI Γ false wi di) (hg : SndG Γ g dg ix) (ht : SndT Γ tt dt) (hi1 : SndI Γ false wi1 di1) (hg1 : SndG Γ g1 dg1 ix1) (ht1 : SndT Γ tt1 dt1) (he : SndX Γ te de)
    (hix : ∀ i ∈ ix, i ∈ vs) (hix1 : ∀ i ∈ ix1, i ∈ vs1) : SndX Γ (tLc2 wi g tt wi1 g1 tt1 te vs vs1) (xLc2 di vs dg dt di1 vs1 dg1 dt1 de) := ⟨fun W env σ st x st' hE hS hd Q hQ => by
  unfold xLc2 at hd
  obtain ⟨⟨items, st1⟩, e1, hd⟩ := Option.bind_eq_some_iff.mp hd
  obtain ⟨⟨all, st2⟩, e2, hd⟩ := Option.bind_eq_some_iff.mp hd
  split at hd
  · rename_i hlen
    cases hd
    refine hi.run W env σ st items st1 hE hS e1 _ fun W1 J E1 S1 ok => ?_
    have ok : WOk Γ (ExtM W) W1 J items := ok
    intro D hD0
    let n := items.length
    let wenv := wipeD env vs
    refine ⟨fun i m H => m = n - i ∧ i ≤ n ∧ ∃ W' s acc vacc rest, W'.H = H ∧ ExtE W1 W' ∧ RSt Γ W' s ∧ W'.H D = some (.lst vacc) ∧ W'.T D = .oth ∧ RVs Γ W' acc vacc ∧ compD2 dg dt di1 vs1 dg1 dt1 de (items.drop i) wenv s = some (rest, st2) ∧ all = acc ++ rest,
      ⟨n, rfl, Nat.zero_le _, W1.lay D (.lst []) .oth, st1, [], [], all, rfl, lay_ext hD0, lay_st hD0 S1, lay_at, lay_T, RVs_nil.mpr rfl, e2, rfl⟩, ?_⟩
    rintro i m H ⟨rfl, hle, W2, s, acc, vacc, rest, rfl, E2, S2, hDat, hDT, hacc, hc, hall⟩
    by_cases hlt : i < n
    · refine .inr ⟨ok.go W2 i E2.m hlt, fun H' => ∃ W' s acc vacc rest, W'.H = H' ∧ ExtE W1 W' ∧ RSt Γ W' s ∧ W'.H D = some (.lst vacc) ∧ W'.T D = .oth ∧ RVs Γ W' acc vacc ∧ compD2 dg dt di1 vs1 dg1 dt1 de (items.drop (i + 1)) wenv s = some (rest, st2) ∧ all = acc ++ rest, ?_, fun y H' hy => ?_⟩
      · rintro H' ⟨W', q⟩
        exact ⟨n - (i + 1), by omega, rfl, hlt, W', q⟩
      · obtain ⟨W3, p, hp, L3, rfl, r3⟩ := ok.yld W2 i y H' E2.m ⟨s, S2⟩ hy hlt
        rw [drop_get hp] at hc
        obtain ⟨env1, e3, hc⟩ := Option.bind_eq_some_iff.mp hc
        obtain ⟨⟨b, s4⟩, e4, hc⟩ := Option.bind_eq_some_iff.mp hc
        have E3 : ExtE W1 W3 := E2.trans L3.toExtE
        have En3 : REn Γ W3 wenv (wipe σ vs) := wipe_en ((hE.ext E1).ext E3) vs
        refine hg.run W3 wenv (wipe σ vs) p y env1 En3 r3 e3 _ fun σ3 En4 hw => ⟨(hw vs hix).trans wipe_wipe, ?_⟩
        refine ht.run W3 env1 σ3 s b s4 En4 (L3.st s S2) e4 _ fun W4 E4 S4 => ?_
        have E24 : ExtE W2 W4 := L3.toExtE.trans E4
        cases b with
        | false =>
          refine iteF ⟨W4, s4, acc, vacc, rest, rfl, E3.trans E4, S4, (E24.slots D _ hDat (.inl hDT)).1, (E24.slots D _ hDat (.inl hDT)).2.trans hDT, RVs_ext E24.toExt _ _ hacc, hc, hall⟩
        | true =>
          obtain ⟨⟨ys, s5⟩, e5, hc⟩ := Option.bind_eq_some_iff.mp (show (di1 env1 s4).bind _ = _ from hc)
          obtain ⟨⟨new, s6⟩, e6, hc⟩ := Option.bind_eq_some_iff.mp hc
          obtain ⟨⟨rest2, s7⟩, e7, hc⟩ := Option.map_eq_some_iff.mp hc
          cases hc
          refine iteT (hi1.run W4 env1 σ3 s4 ys s5 (En4.ext E4) S4 e5 _ fun W5 J1 E5 S5 ok1 => ?_)
          have ok1 : WOk Γ (ExtM W4) W5 J1 ys := ok1
          have E25 : ExtE W2 W5 := E24.trans E5
          have E15 : ExtE W1 W5 := E2.trans E25
          have hD4 := E24.slots D _ hDat (.inl hDT)
          have hD5 := E25.slots D _ hDat (.inl hDT)
          have hT5 : W5.T D = .oth := hD5.2.trans hDT
          have hold5 : ¬ W5.old D := oldD S1 hD0 E15
          let k1 := ys.length
          let wenv1 := wipeD env1 vs1
          have En5 : REn Γ W5 env1 σ3 := (En4.ext E4).ext E5
          have r5 := RVs_ext E25.toExt _ _ hacc
          refine ⟨fun j k H => k = k1 - j ∧ j ≤ k1 ∧ ∃ W' s nw vnw rest1, W'.H = H ∧ ExtE W1 W' ∧ ExtM W4 W5 W' ∧ RSt Γ W' s ∧ W'.H D = some (.lst vnw) ∧ W'.T D = .oth ∧ RVs Γ W' nw vnw ∧ REn Γ W' env1 σ3 ∧ compD dg1 dt1 de (ys.drop j) wenv1 s = some (rest1, s6) ∧ acc ++ new = nw ++ rest1,
            ⟨k1, rfl, Nat.zero_le _, W5, s5, acc, vacc, new, rfl, E15, ExtE.refl.m, S5, hD5.1, hT5, r5, En5, e6, rfl⟩, ?_⟩
          rintro j k H ⟨rfl, hle1, W6, s6', nw, vnw, rest1, rfl, E6, M6, S6, hD6, hT6, hnw, En6, hc1, hall1⟩
          by_cases hlt1 : j < k1
          · refine .inr ⟨ok1.go W6 j M6 hlt1, fun H' => ∃ W' s nw vnw rest1, W'.H = H' ∧ ExtE W1 W' ∧ ExtM W4 W5 W' ∧ RSt Γ W' s ∧ W'.H D = some (.lst vnw) ∧ W'.T D = .oth ∧ RVs Γ W' nw vnw ∧ REn Γ W' env1 σ3 ∧ compD dg1 dt1 de (ys.drop (j + 1)) wenv1 s = some (rest1, s6) ∧ acc ++ new = nw ++ rest1, ?_, fun y1 H' hy1 => ?_⟩
            · rintro H' ⟨W', q⟩
              exact ⟨k1 - (j + 1), by omega, rfl, hlt1, W', q⟩
            · obtain ⟨W7, p1, hp1, L7, rfl, r7⟩ := ok1.yld W6 j y1 H' M6 ⟨s6', S6⟩ hy1 hlt1
              rw [drop_get hp1] at hc1
              obtain ⟨env2, f3, hc1⟩ := Option.bind_eq_some_iff.mp hc1
              obtain ⟨⟨b1, s8⟩, f4, hc1⟩ := Option.bind_eq_some_iff.mp hc1
              have En7 : REn Γ W7 wenv1 (wipe σ3 vs1) := wipe_en (En6.ext L7.toExtE) vs1
              refine hg1.run W7 wenv1 (wipe σ3 vs1) p1 y1 env2 En7 r7 f3 _ fun σ5 En8 hw1 => ⟨(hw1 vs1 hix1).trans wipe_wipe, ?_⟩
              refine ht1.run W7 env2 σ5 s6' b1 s8 En8 (L7.st s6' S6) f4 _ fun W8 E8 S8 => ?_
              have E68 : ExtE W6 W8 := L7.toExtE.trans E8
              have mx : ∀ {V : World}, ExtE W6 V → ExtM W4 W5 V := fun {V} e => M6.tr e
              cases b1 with
              | false =>
                have hD8 := E68.slots D _ hD6 (.inl hT6)
                exact iteF ⟨W8, s8, nw, vnw, rest1, rfl, E6.trans E68, mx E68, S8, hD8.1, hD8.2.trans hT6, RVs_ext E68.toExt _ _ hnw, En6.ext E68, hc1, hall1⟩
              | true =>
                obtain ⟨⟨yv, s9⟩, f5, hc1⟩ := Option.bind_eq_some_iff.mp (show (de env2 s8).bind _ = _ from hc1)
                obtain ⟨q, f6, hc1⟩ := Option.bind_eq_some_iff.mp hc1
                obtain ⟨⟨rest3, s10⟩, f7, hc1⟩ := Option.map_eq_some_iff.mp hc1
                cases hc1
                refine iteT (he.run W8 env2 σ5 s8 yv s9 (En8.ext E8) S8 f5 _ fun W9 v E9 S9 R9 => ?_)
                obtain ⟨W10, E10, S10, R10, H10⟩ := pv_at S9 E9 R9 f6
                have E610 : ExtE W6 W10 := E68.trans E10
                have hD10 := E610.slots D _ hD6 (.inl hT6)
                have hT10 : W10.T D = .oth := hD10.2.trans hT6
                have hnw10 := RVs_ext E610.toExt _ _ hnw
                have hlt2 : vnw.length < sizeLine := by
                  have h1 := RVs_len hnw
                  have h2 : all.length = acc.length + (new.length + rest2.length) := by rw [hall]; simp
                  have h3 : acc.length + new.length = nw.length + (rest3.length + 1) := by
                    have := congrArg List.length hall1
                    simpa using this
                  have h0 : all.length ≤ sizeLine := hlen
                  omega
                obtain ⟨p1', p2', p3'⟩ := put_new (o := .lst (vnw ++ [v])) (c := .lst nw) (E6.trans E610) S10 hD0 ⟨vnw, hD10.1, hnw10⟩ hT10
                refine ⟨vnw, by rw [← H10]; exact hD10.1, hlt2, W10.put D (.lst (vnw ++ [v])), s9, nw ++ [q], vnw ++ [v], rest3, by rw [← H10]; rfl, p1', ?_, p2', put_at, hT10, p3' (RVs_append hnw10 (RVs_cons'.mpr ⟨R10, RVs_nil.mpr rfl⟩)), ?_, f7, by rw [hall1]; simp⟩
                · refine (mx E610).putD (fun z => ?_) (fun z => hold5 z) (fun z => by rw [hD4.1] at z; cases z) (fun i z => by rw [hT5] at z; cases z)
                  exact oth_nfz (K := Γ) (c := .lst acc) ⟨vacc, hD5.1, r5⟩ hT5 z
                · exact (En6.ext E610).put (oth_nfz (K := Γ) (c := .lst nw) ⟨vnw, hD10.1, hnw10⟩ hT10) fun i c _ z => by rw [hT10] at z; cases z
          · have e : j = k1 := by omega
            subst e
            rw [List.drop_length] at hc1
            cases hc1
            rw [List.append_nil] at hall1
            exact .inl ⟨ok1.stop W6 M6, W6, _, nw, vnw, rest2, rfl, E6, S6, hD6, hT6, hnw, e7, by rw [hall, ← hall1, List.append_assoc]⟩
    · have e : i = n := by omega
      subst e
      rw [List.drop_length] at hc
      cases hc
      refine .inl ⟨ok.stop W2 E2.m, ?_⟩
      rw [List.append_nil] at hall
      subst hall
      exact hQ W2 _ (E1.trans E2) S2 ⟨D, rfl, ⟨vacc, hDat, hacc⟩, hDT, oldD S1 hD0 E2, none_back E1.toExt hD0⟩
  · cases hd⟩
theorem e_lc2 {elt tg iter tg1 iter1 : Expr} {ifs ifs1 : List Expr} {scope : Scope} (own : List (Str × Nat)) (vs1 : List Nat) {pos : Pos} {wi wi1 : TI} {g g1 : TG} {tt tt1 : TT} {te : TE} {di di1 : DI} {dg dg1 : DG} {dt dt1 : DT} {de : DX} {ix ix1 : List Nat} (hi : EI Γ X false tg iter wi di) (ok : BlkOk X.N X.env.scope scope own)
    (hg : ∀ (s : Shared) (H : Hp) (C : Addr) (cl : List (Str × Addr)) (fp : List Addr), EG Γ (X.blk s H scope (compEnvC scope cl C X.env) fp) tg g dg ix) (ht : ∀ (s : Shared) (H : Hp) (C : Addr) (cl : List (Str × Addr)) (fp : List Addr), ETs Γ (X.blk s H scope (compEnvC scope cl C X.env) fp) ifs tt dt)
    (hi1 : ∀ (s : Shared) (H : Hp) (C : Addr) (cl : List (Str × Addr)) (fp : List Addr), EI Γ (X.blk s H scope (compEnvC scope cl C X.env) fp) false tg1 iter1 wi1 di1)
    (hg1 : ∀ (s : Shared) (H : Hp) (C : Addr) (cl : List (Str × Addr)) (fp : List Addr), EG Γ (X.blk s H scope (compEnvC scope cl C X.env) fp) tg1 g1 dg1 ix1) (ht1 : ∀ (s : Shared) (H : Hp) (C : Addr) (cl : List (Str × Addr)) (fp : List Addr), ETs Γ (X.blk s H scope (compEnvC scope cl C X.env) fp) ifs1 tt1 dt1)
    (he : ∀ (s : Shared) (H : Hp) (C : Addr) (cl : List (Str × Addr)) (fp : List Addr), EX Γ (X.blk s H scope (compEnvC scope cl C X.env) fp) elt te de) (hv : ∀ i ∈ vs1, i ∈ own.map (·.2) := by decide) (hix : ∀ i ∈ ix, i ∈ own.map (·.2) := by decide) (hix1 : ∀ i ∈ ix1, i ∈ vs1 := by decide)
    (hs : ∀ x, foldedSetIterable iter X.env x = pure x := by intro _; rfl) (hs1 : ∀ env x, foldedSetIterable iter1 env x = pure x := by intro _ _; rfl) :
    EX Γ X (.ListComp elt [⟨tg, iter, ifs, 0⟩, ⟨tg1, iter1, ifs1, 0⟩] scope pos) (tLc2 wi g tt wi1 g1 tt1 te (own.map (·.2)) vs1) (xLc2 di (own.map (·.2)) dg dt di1 vs1 dg1 dt1 de) :=
  ⟨fun gd => pe_lc2 gd.calm gd.nd (hi.pe gd) ok hv (fun s H C cl fp => (hg s H C cl fp).pe (gd.blk ..)) (fun s H C cl fp => (ht s H C cl fp).pe (gd.blk ..)) (fun s H C cl fp => (hi1 s H C cl fp).pe (gd.blk ..)) (fun s H C cl fp => (hg1 s H C cl fp).pe (gd.blk ..)) (fun s H C cl fp => (ht1 s H C cl fp).pe (gd.blk ..)) (fun s H C cl fp => (he s H C cl fp).pe (gd.blk ..)) hs hs1,
    .lc2 hi.snd (hg X.s_0 X.H_0 0 [] []).snd (ht X.s_0 X.H_0 0 [] []).snd (hi1 X.s_0 X.H_0 0 [] []).snd (hg1 X.s_0 X.H_0 0 [] []).snd (ht1 X.s_0 X.H_0 0 [] []).snd (he X.s_0 X.H_0 0 [] []).snd hix hix1⟩
theorem st_setLc2 (m : Md) {i : Nat} {y : Str} {py : Pos} {elt tg iter tg1 iter1 : Expr} {ifs ifs1 : List Expr} {scope : Scope} (own : List (Str × Nat)) (vs1 : List Nat) {pos spos : Pos} {wi wi1 : TI} {g g1 : TG} {tt tt1 : TT} {te : TE} {di di1 : DI} {dg dg1 : DG} {dt dt1 : DT} {de : DX} {ix ix1 : List Nat} (hy : X.N[i]? = some y := by rfl) (hyl : X.env.scope.names.lookup y = some .local := by rfl)
    (hsw : swapsWith (.ListComp elt [⟨tg, iter, ifs, 0⟩, ⟨tg1, iter1, ifs1, 0⟩] scope pos) (some (.Name y py)) spos.line X.env = pure true) (hi : EI Γ X false tg iter wi di) (ok : BlkOk X.N X.env.scope scope own)
    (hg : ∀ (s : Shared) (H : Hp) (C : Addr) (cl : List (Str × Addr)) (fp : List Addr), EG Γ (X.blk s H scope (compEnvC scope cl C X.env) fp) tg g dg ix) (ht : ∀ (s : Shared) (H : Hp) (C : Addr) (cl : List (Str × Addr)) (fp : List Addr), ETs Γ (X.blk s H scope (compEnvC scope cl C X.env) fp) ifs tt dt)
    (hi1 : ∀ (s : Shared) (H : Hp) (C : Addr) (cl : List (Str × Addr)) (fp : List Addr), EI Γ (X.blk s H scope (compEnvC scope cl C X.env) fp) false tg1 iter1 wi1 di1)
    (hg1 : ∀ (s : Shared) (H : Hp) (C : Addr) (cl : List (Str × Addr)) (fp : List Addr), EG Γ (X.blk s H scope (compEnvC scope cl C X.env) fp) tg1 g1 dg1 ix1) (ht1 : ∀ (s : Shared) (H : Hp) (C : Addr) (cl : List (Str × Addr)) (fp : List Addr), ETs Γ (X.blk s H scope (compEnvC scope cl C X.env) fp) ifs1 tt1 dt1)
    (he : ∀ (s : Shared) (H : Hp) (C : Addr) (cl : List (Str × Addr)) (fp : List Addr), EX Γ (X.blk s H scope (compEnvC scope cl C X.env) fp) elt te de) (hv : ∀ i ∈ vs1, i ∈ own.map (·.2) := by decide) (hix : ∀ i ∈ ix, i ∈ own.map (·.2) := by decide) (hix1 : ∀ i ∈ ix1, i ∈ vs1 := by decide)
    (hs : ∀ x, foldedSetIterable iter X.env x = pure x := by intro _; rfl) (hs1 : ∀ env x, foldedSetIterable iter1 env x = pure x := by intro _ _; rfl) :
    ES Γ X (.Assign [.Name y py] (.ListComp elt [⟨tg, iter, ifs, 0⟩, ⟨tg1, iter1, ifs1, 0⟩] scope pos) spos) (tAsg (tLc2 wi g tt wi1 g1 tt1 te (own.map (·.2)) vs1) (gName i)) (sSet m i (xLc2 di (own.map (·.2)) dg dt di1 vs1 dg1 dt1 de)) :=
  ⟨fun gd => ps_setLc2 gd.calm gd.nd hy hyl hsw (hi.pe gd) ok hv (fun s H C cl fp => (hg s H C cl fp).pe (gd.blk ..)) (fun s H C cl fp => (ht s H C cl fp).pe (gd.blk ..)) (fun s H C cl fp => (hi1 s H C cl fp).pe (gd.blk ..)) (fun s H C cl fp => (hg1 s H C cl fp).pe (gd.blk ..)) (fun s H C cl fp => (ht1 s H C cl fp).pe (gd.blk ..)) (fun s H C cl fp => (he s H C cl fp).pe (gd.blk ..)) hs hs1,
    .set (.lc2 hi.snd (hg X.s_0 X.H_0 0 [] []).snd (ht X.s_0 X.H_0 0 [] []).snd (hi1 X.s_0 X.H_0 0 [] []).snd (hg1 X.s_0 X.H_0 0 [] []).snd (ht1 X.s_0 X.H_0 0 [] []).snd (he X.s_0 X.H_0 0 [] []).snd hix hix1)⟩

/-! ### {k: v for ..} -/
def dcompD (bind : DG) (test : DT) (kx vx : DX) : List PV → DEnv → MS → List (Key × PV) → Option (List (Key × PV) × MS)
  | [], _, st, acc => some (acc, st)
  | p :: ps, env, st, acc => (bind p env).bind fun env1 => (test env1 st).bind fun b => if b.1 = true then (kx env1 b.2).bind fun y => y.1.pv.bind fun kp => kp.key.bind fun k => (vx env1 y.2).bind fun z => z.1.pv.bind fun q =>
      if acc.length < sizeLine then dcompD bind test kx vx ps env z.2 (putP acc k q) else none
    else dcompD bind test kx vx ps env b.2 acc
def xDc (items : DI) (vs : List Nat) (bind : DG) (test : DT) (kx vx : DX) : DX := fun env st => (items env st).bind fun r => (dcompD bind test kx vx r.1 (wipeD env vs) r.2 []).map fun q => (.o (.dK q.1), q.2)
theorem key_sub {p : PV} {v v' : V} {k : Key} (r : RV K W p v) (e : p.key = some k) : v = kV k := key_at r e
theorem SndX.dc {wi : TI} {g : TG} {tt : TT} {tk tv : TE} {vs ix : List Nat} {di : DI} {dg : DG} {dt : DT} {dk dv : DX} (hi : SndI Γ false wi di) (hg : SndG Γ g dg ix) (ht : SndT Γ tt dt) (hk : SndX Γ tk dk) (he : SndX Γ tv dv) (hix : ∀ i ∈ ix, i ∈ vs) : SndX Γ (tDc wi g tt tk tv vs) (xDc di vs dg dt dk dv) := ⟨fun W env σ st x st' hE hS hd Q hQ => by
  unfold xDc at hd
  obtain ⟨⟨items, st1⟩, e1, hd⟩ := Option.bind_eq_some_iff.mp hd
  obtain ⟨⟨all, st2⟩, e2, hd⟩ := Option.map_eq_some_iff.mp hd
  cases hd
  refine hi.run W env σ st items st1 hE hS e1 _ fun W1 J E1 S1 ok => ?_
  have ok : WOk Γ (ExtM W) W1 J items := ok
  intro D hD0
  let n := items.length
  let wenv := wipeD env vs
  refine ⟨fun i m H => m = n - i ∧ i ≤ n ∧ ∃ W' s acc, W'.H = H ∧ ExtE W1 W' ∧ RSt Γ W' s ∧ CtAt Γ W' D (.dK acc) ∧ W'.T D = .oth ∧ dcompD dg dt dk dv (items.drop i) wenv s acc = some (all, st2),
    ⟨n, rfl, Nat.zero_le _, W1.lay D (.dK []) .oth, st1, [], rfl, lay_ext hD0, lay_st hD0 S1, ⟨[], lay_at, RVs_nil.mpr rfl⟩, lay_T, e2⟩, ?_⟩
  rintro i m H ⟨rfl, hle, W2, s, acc, rfl, E2, S2, hDat, hDT, hc⟩
  by_cases hlt : i < n
  · refine .inr ⟨ok.go W2 i E2.m hlt, fun H' => ∃ W' s acc, W'.H = H' ∧ ExtE W1 W' ∧ RSt Γ W' s ∧ CtAt Γ W' D (.dK acc) ∧ W'.T D = .oth ∧ dcompD dg dt dk dv (items.drop (i + 1)) wenv s acc = some (all, st2), ?_, fun y H' hy => ?_⟩
    · rintro H' ⟨W', q⟩
      exact ⟨n - (i + 1), by omega, rfl, hlt, W', q⟩
    · obtain ⟨W3, p, hp, L3, rfl, r3⟩ := ok.yld W2 i y H' E2.m ⟨s, S2⟩ hy hlt
      rw [drop_get hp] at hc
      obtain ⟨env1, e3, hc⟩ := Option.bind_eq_some_iff.mp hc
      obtain ⟨⟨b, s4⟩, e4, hc⟩ := Option.bind_eq_some_iff.mp hc
      have E3 : ExtE W1 W3 := E2.trans L3.toExtE
      have En3 : REn Γ W3 wenv (wipe σ vs) := wipe_en ((hE.ext E1).ext E3) vs
      refine hg.run W3 wenv (wipe σ vs) p y env1 En3 r3 e3 _ fun σ3 En4 hw => ⟨(hw vs hix).trans wipe_wipe, ?_⟩
      refine ht.run W3 env1 σ3 s b s4 En4 (L3.st s S2) e4 _ fun W4 E4 S4 => ?_
      have E24 : ExtE W2 W4 := L3.toExtE.trans E4
      have ctE : ∀ {V : World}, ExtE W2 V → CtAt Γ V D (.dK acc) ∧ V.T D = .oth := fun {V} e => by
        obtain ⟨o, ho⟩ := CtAt_some hDat
        have z := e.slots D o ho (.inl hDT)
        exact ⟨CtAt_ext e.toExt hDat fun o' ho' => (e.slots D o' ho' (.inl hDT)).1, z.2.trans hDT⟩
      cases b with
      | false => exact iteF ⟨W4, s4, acc, rfl, E3.trans E4, S4, (ctE E24).1, (ctE E24).2, hc⟩
      | true =>
        obtain ⟨⟨y1, s5⟩, e5, hc⟩ := Option.bind_eq_some_iff.mp (show (dk env1 s4).bind _ = _ from hc)
        obtain ⟨kp, e6, hc⟩ := Option.bind_eq_some_iff.mp hc
        obtain ⟨k, e7, hc⟩ := Option.bind_eq_some_iff.mp hc
        obtain ⟨⟨z1, s6⟩, e8, hc⟩ := Option.bind_eq_some_iff.mp hc
        obtain ⟨q, e9, hc⟩ := Option.bind_eq_some_iff.mp hc
        split at hc
        · rename_i hsz
          refine iteT (hk.run W4 env1 σ3 s4 y1 s5 (En4.ext E4) S4 e5 _ fun W5 v E5 S5 R5 => ?_)
          obtain ⟨W5', E5', S5', R5', H5⟩ := pv_at S5 E5 R5 e6
          rw [← H5]
          refine he.run W5' env1 σ3 s5 z1 s6 ((En4.ext E4).ext E5') S5' e8 _ fun W6 w E6 S6 R6 => ?_
          obtain ⟨W7, E7, S7, R7, H7⟩ := pv_at S6 E6 R6 e9
          have E27 : ExtE W2 W7 := (E24.trans E5').trans E7
          obtain ⟨c7, t7⟩ := ctE E27
          obtain ⟨us, h1, h2⟩ := id c7
          obtain ⟨ws, z1', z2'⟩ := put_zip k h2 R7
          obtain ⟨p1', p2', p3'⟩ := put_new (o := .dK (((putP acc k q).map (·.1)).zip ws)) (c := .dK acc) (E2.trans E27) S7 hD0 c7 t7
          refine ⟨(acc.map (·.1)).zip us, k, key_at R5' e7, by rw [← H7]; exact h1, by rw [zip_len h2]; exact hsz, W7.put D (.dK (((putP acc k q).map (·.1)).zip ws)), s6, putP acc k q, by rw [← H7, z1']; rfl, p1', p2', ⟨ws, put_at, p3' z2'⟩, t7, hc⟩
        · cases hc
  · have e : i = n := by omega
    subst e
    rw [List.drop_length] at hc
    cases hc
    exact .inl ⟨ok.stop W2 E2.m, hQ W2 _ (E1.trans E2) S2 ⟨D, rfl, hDat, hDT, oldD S1 hD0 E2, none_back E1.toExt hD0⟩⟩⟩
theorem e_dc {kx vx tg iter : Expr} {ifs : List Expr} {scope : Scope} (own : List (Str × Nat)) {pos : Pos} {wi : TI} {g : TG} {tt : TT} {tk tv : TE} {di : DI} {dg : DG} {dt : DT} {dk dv : DX} {ix : List Nat} (hi : EI Γ X false tg iter wi di) (ok : BlkOk X.N X.env.scope scope own)
    (hg : ∀ (s : Shared) (H : Hp) (C : Addr) (cl : List (Str × Addr)) (fp : List Addr), EG Γ (X.blk s H scope (compEnvC scope cl C X.env) fp) tg g dg ix) (ht : ∀ (s : Shared) (H : Hp) (C : Addr) (cl : List (Str × Addr)) (fp : List Addr), ETs Γ (X.blk s H scope (compEnvC scope cl C X.env) fp) ifs tt dt)
    (hk : ∀ (s : Shared) (H : Hp) (C : Addr) (cl : List (Str × Addr)) (fp : List Addr), EX Γ (X.blk s H scope (compEnvC scope cl C X.env) fp) kx tk dk)
    (he : ∀ (s : Shared) (H : Hp) (C : Addr) (cl : List (Str × Addr)) (fp : List Addr), EX Γ (X.blk s H scope (compEnvC scope cl C X.env) fp) vx tv dv) (hix : ∀ i ∈ ix, i ∈ own.map (·.2) := by decide) (hs : ∀ x, foldedSetIterable iter X.env x = pure x := by intro _; rfl) :
    EX Γ X (.DictComp kx vx [⟨tg, iter, ifs, 0⟩] scope pos) (tDc wi g tt tk tv (own.map (·.2))) (xDc di (own.map (·.2)) dg dt dk dv) :=
  ⟨fun gd => pe_dc gd.calm gd.nd (hi.pe gd) ok (fun s H C cl fp => (hg s H C cl fp).pe (gd.blk ..)) (fun s H C cl fp => (ht s H C cl fp).pe (gd.blk ..)) (fun s H C cl fp => (hk s H C cl fp).pe (gd.blk ..)) (fun s H C cl fp => (he s H C cl fp).pe (gd.blk ..)) hs,
    .dc hi.snd (hg X.s_0 X.H_0 0 [] []).snd (ht X.s_0 X.H_0 0 [] []).snd (hk X.s_0 X.H_0 0 [] []).snd (he X.s_0 X.H_0 0 [] []).snd hix⟩
end
end DD
/-! DModel -/
/-! Facts of the model that the hand layer has not: tuple[::-1], sorted(tuple), dicts with tuple keys made at once. -/
namespace DD
open PySem PySem.Spec PyProof.Rows L2

/-! ### t[::-1] -/
theorem adjust_rev (n : Nat) : Builtin.Slice.sliceAdjust none none (-1) (n : Int) = ((n : Int) - 1, -1) := by
  unfold Builtin.Slice.sliceAdjust
  simp
theorem places_rev (n : Nat) : Builtin.Slice.slicePlaces ((n : Int) - 1) (-1) (-1) = n := by
  unfold Builtin.Slice.slicePlaces
  have h1 : ¬ ((-1 : Int) > 0) := by omega
  simp only [h1, if_false]
  by_cases h : (n : Int) - 1 > -1
  · rw [if_pos h]
    have e : (- -1 : Int) = 1 := by omega
    rw [e, Int.ediv_one]; omega
  · rw [if_neg h]; omega
theorem fm_congr {α β : Type} {f g : α → Option β} : ∀ (l : List α), (∀ x ∈ l, f x = g x) → l.filterMap f = l.filterMap g
  | [], _ => rfl
  | x :: l, h => by
    rw [List.filterMap_cons, List.filterMap_cons, h x List.mem_cons_self, fm_congr l fun y hy => h y (List.mem_cons_of_mem _ hy)]
theorem pick_all : ∀ (l : List Value), (List.range l.length).filterMap (fun k => l[k]?) = l
  | [] => rfl
  | x :: l => by
    rw [List.length_cons, List.range_succ_eq_map, List.filterMap_cons]
    show x :: (List.map Nat.succ (List.range l.length)).filterMap (fun k => (x :: l)[k]?) = x :: l
    rw [List.filterMap_map]
    exact congrArg (x :: ·) (pick_all l)
theorem pick_rev (xs : Array Value) : ((List.range xs.size).filterMap fun (k : Nat) => xs[(((xs.size : Int) - 1) + (k : Int) * (-1)).toNat]?).toArray = xs.toList.reverse.toArray := by
  have e := pick_all xs.toList.reverse
  rw [List.length_reverse, Array.length_toList] at e
  rw [← e]
  refine congrArg List.toArray (fm_congr _ fun k hk => ?_)
  have hk : k < xs.size := List.mem_range.mp hk
  rw [List.getElem?_reverse (by simpa using hk), Array.getElem?_toList, Array.length_toList]
  have e2 : (((xs.size : Int) - 1) + (k : Int) * (-1)).toNat = xs.size - 1 - k := by omega
  rw [e2]
section
variable {prog : Program} {w : PySem.World} {A : Around} {E : Value → Shared → Prop} {s : Shared}
theorem getItem_tuple_rev {t sl : Addr} {items : Array Value} {vl vu vs : Value} {Q : Value → Shared → Prop} (ht : IsTup s.heap t items) (hs : s.heap.IsSliceOf sl vl vu vs) (pl : IsPart vl none) (pu : IsPart vu none) (ps : IsPart vs (some (-1)))
    (h : Q (.ref s.heap.objs.size) { s with heap := s.heap.push { cls := .type "tuple", data := .seq items.toList.reverse.toArray } })
    (hsz : items.size ≤ sizeLine) : wpAny (model prog w) A (getItem (.ref t) (.ref sl)) Q E s := by
  have hok : sizeOk (.seq items.toList.reverse.toArray) := by
    show items.toList.reverse.toArray.size ≤ sizeLine
    rw [List.size_toArray, List.length_reverse, Array.length_toList]; exact hsz
  obtain ⟨os, hos, hcs, hds⟩ := id hs
  have hTs : s.TypeIs (.ref sl) "slice" := ⟨os, hos, hcs⟩
  unfold getItem
  try with_reducible refine wpAny_holding ?_
  first | refine wpAny_bind (wpAny_pure ?_) | skip
  refine wpAny_bind (wpAny_sequenceKey ht.typeIs (by decide) ?_)
  refine wpAny_bind (wpAny_callSpecial?_slot (name := Str.ofString "__getitem__") ht.typeIs PyProof.Rows.slot_tuple_getitem
    (wpAny_call_entry PyProof.Rows.slot_tuple_getitem ht.typeIs entry_tuple_getitem ?_ (args_tuple_getitem _ _)))
  show wpAny _ _ (Builtin.Tuple.tupleItemsOf (.ref t) >>= _) _ _ s
  refine wpAny_bind (tupleItemsOf_ ht ?_)
  refine wpAny_bind (wpAny_typeOf hTs ?_)
  rw [if_pos (by decide)]
  have app : ∀ {R : Int × Int × Nat → Shared → Prop} {E' : Value → Shared → Prop} {A' : Around}, R (((items.size : Nat) : Int) - 1, -1, items.size) s → wpAny (model prog w) A' (Builtin.Slice.sliceApplied (.ref sl) (pure (items.size : Int))) R E' s := by
    intro R E' A' hR
    unfold Builtin.Slice.sliceApplied Builtin.Slice.sliceFields
    refine wpAny_bind (wpAny_bind (wpAny_field hos hds (x := vl) rfl (wpAny_bind (wpAny_field hos hds (x := vu) rfl (wpAny_bind (wpAny_field hos hds (x := vs) rfl (wpAny_pure ?_)))))))
    refine wpAny_bind (HT.slicePart_ ps ?_)
    show wpAny _ _ (if ((-1 : Int) == 0) = true then _ else _) _ _ s
    rw [if_neg (by decide)]
    refine wpAny_bind (HT.slicePart_ pl (wpAny_bind (HT.slicePart_ pu (wpAny_bind (wpAny_pure ?_)))))
    show wpAny _ _ (match Builtin.Slice.sliceAdjust none none (-1) (items.size : Int) with | (lo, hi) => pure (lo, (-1 : Int), Builtin.Slice.slicePlaces lo hi (-1))) _ _ s
    rw [adjust_rev]
    show wpAny _ _ (pure (((items.size : Nat) : Int) - 1, (-1 : Int), Builtin.Slice.slicePlaces (((items.size : Nat) : Int) - 1) (-1) (-1))) _ _ s
    rw [places_rev]
    exact wpAny_pure hR
  refine wpAny_bind (app ?_)
  have hno : ¬ ((((((items.size : Nat) : Int) - 1) == 0) && ((-1 : Int) == 1) && (items.size == items.size)) = true) := by
    intro q
    rw [Bool.and_eq_true, Bool.and_eq_true] at q
    exact absurd q.1.2 (by decide)
  show wpAny _ _ (if ((((((items.size : Nat) : Int) - 1) == 0) && ((-1 : Int) == 1) && (items.size == items.size)) = true) then _ else _) _ _ s
  rw [if_neg hno, pick_rev]
  first
    | exact wpAny_bind (m := Builtin.Tuple.tupleExact _) (wpAny_newObj_type (wpAny_pure ⟨_, rfl, wpAny_pure h⟩) hok)
    | exact wpAny_bind (m := Builtin.Tuple.tupleExact _) (wpAny_newObj_type (wpAny_bind (wpAny_pure (wpAny_pure ⟨_, rfl, wpAny_pure h⟩))) hok)
    | exact wpAny_bind (wpAny_bind (m := Builtin.Tuple.tupleExact _) (wpAny_newObj_type (wpAny_pure (wpAny_pure ⟨_, rfl, wpAny_pure h⟩)) hok))
    | exact wpAny_bind (wpAny_bind (m := Builtin.Tuple.tupleExact _) (wpAny_newObj_type (wpAny_pure ⟨_, rfl, wpAny_pure h⟩) hok))
end
section
variable {X : Cx}
def tRevT (K : PySem.W.Frag) (te : TE) : TE := fun σ H Q => te σ H fun x H1 => ∃ a xs, x = .ref a ∧ SqT K H1 a xs ∧ ∀ p, H1 p = none → Q (.ref p) (upd H1 p (.tup xs.reverse))
theorem pe_revT {e : Expr} {te : TE} {k : Nat} {p1 p2 p3 pos : Pos} (he : PE X e te) : PE X (.Subscript e (.Slice none none (some (.UnaryOp .USub (.Constant (.int 1) k p1) p2)) p3) pos) (tRevT X.K te) := by
  refine ⟨fun pins s σ H Q I h => ?_⟩
  refine Subscript_ (thn (he.run pins s σ H _ I h) fun v s1 ⟨x, H1, I1, r1, q1⟩ => ?_)
  obtain ⟨a, xs, ex, hx, q⟩ := q1
  subst ex
  cases r1
  have hst : PO X (some (.UnaryOp .USub (.Constant (.int 1) k p1) p2)) (tPart (tUn (rU fun i => .int (-i)) (tC (.int 1)))) := po_some (pe_un un_neg pe_int)
  refine wpAny_Slice (thn (po_none.run pins s1 σ H1 (fun o H2 => o = none ∧ H2 = H1) I1 ⟨rfl, rfl⟩) fun vl s2 ⟨l, H2, I2, pl, el, e2⟩ => ?_)
  subst el e2
  refine thn (po_none.run pins s2 σ H2 (fun o H3 => o = none ∧ H3 = H2) I2 ⟨rfl, rfl⟩) fun vu s3 ⟨u, H3, I3, pu, eu, e3⟩ => ?_
  subst eu e3
  refine thn (hst.run pins s3 σ H3 (fun o H4 => o = some (-1) ∧ H4 = H3) I3 ⟨1, rfl, -1, rfl, rfl, rfl⟩) fun vs s4 ⟨o, H4, I4, ps, eo, e4⟩ => ?_
  subst eo e4
  have I5 : Inv X pins σ H4 { s4 with heap := s4.heap.push { cls := .type "slice", data := .fields #[vl, vu, vs] } } := I4.kept (t' := s4.toks) fun b ob q => Heap.get?_push_of_some _ q
  obtain ⟨its, r, ht, hz⟩ := I5.tuple hx
  have hlen := r.length
  show wpAny (model X.prog X.w) X.A (subscriptTail e (.Slice none none (some (.UnaryOp .USub (.Constant (.int 1) k p1) p2)) p3) (.ref a) (.ref s4.heap.objs.size)) (EP X pins σ Q) X.xe { s4 with heap := s4.heap.push { cls := .type "slice", data := .fields #[vl, vu, vs] } }
  refine tail_any (ops := [.ref a, .ref s4.heap.objs.size]) ht.typeIs (PyProof.Rows.slot_tuple_getitem.lookup) ?_ (by with_unfolding_all rfl)
  refine getItem_tuple_rev ht (Heap.IsSliceOf.new _ vl vu vs) pl pu ps ?_ (by rw [List.size_toArray]; omega)
  refine ⟨.ref _, _, I5.laid (t' := s4.toks) (o := .tup xs.reverse) (fun b ob q => Heap.get?_push_of_some _ q) (Nat.le_refl _) ?_, rfl, q _ (I5.hok.fresh (Nat.le_refl _))⟩
  exact ⟨by rw [List.length_reverse]; exact hz, _, r.reverse, IsTup.new _ _⟩

/-! ### sorted(t), a tuple of ints -/
def rSortedTI (K : PySem.W.Frag) : List V → Hp → VK → Prop := fun vs H Q => ∃ (a : Addr) (ns : List Int), vs = [V.ref a] ∧ SqT K H a (ns.map V.int) ∧
  ∀ (ns' : List Int) (p : Addr), ns'.Perm ns → ns'.Pairwise (· ≤ ·) → H p = none → Q (.ref p) (upd H p (.lst (ns'.map V.int)))
theorem cr_sortedTI : CallR X (.builtin "sorted") (rSortedTI X.K) := by
  intro pins s σ H vs us Q I r h
  obtain ⟨a, ns, rfl, hs, q⟩ := h
  obtain ⟨its, rv, hl, hz⟩ := I.tuple hs
  rw [Vals.ref1 r]
  have hi := rv.ints
  have hlen0 : its.length ≤ sizeLine := by rw [← rv.length]; exact hz
  obtain ⟨o, n, ho, hc, hd⟩ : ∃ o n, s.heap.get? a = some o ∧ o.cls = .type "tuple" ∧ o.data = .seq its.toArray n := by
    obtain ⟨o, h1, h2, n, h3⟩ := hl
    exact ⟨o, n, h1, h2, h3⟩
  refine Calls.call_function_entry PyProof.Rows.kind_sorted PyProof.Rows.plain_sorted PyProof.Rows.entry_sorted (PyProof.Rows.args_sorted1 _) ?_
  unfold Builtin.«sorted»
  refine wpAny_bind (m := checkCount "sorted" 1 1 _) (wpAny_pure ?_)
  refine wpAny_bind (wpAny_collect_seq a (.inr rfl) ho hc hd (fun h' hk => ?_) (by rw [List.size_toArray]; exact hlen0))
  have I1 : Inv X pins σ H { s with heap := h' } := I.kept (t' := s.toks) hk
  show wpAny _ _ (newList its >>= _) _ _ _
  refine wpAny_bind (wpAny_newList ?_ hlen0)
  have hoL : (h'.push (seqObj "list" its.toArray 0)).get? h'.objs.size = some (seqObj "list" its.toArray 0) := Heap.get?_push_size _ rfl
  show wpAny _ _ _ _ _ { s with heap := h'.push (seqObj "list" its.toArray 0) }
  refine wpAny_bind (wpAny_holding (wpAny_call_entry PyProof.Rows.slot_list_sort ⟨_, hoL, rfl⟩ PyProof.Rows.entry_list_sort
    (SrtO.list_sort_ord (s := { s with heap := h'.push (seqObj "list" its.toArray 0) }) SrtO.swo_int hoL hlen0 (fun h2 => SrtO.ints_sortable hi h2) fun out h1 h2 => ⟨_, rfl, ?_⟩) (PyProof.Rows.args_list_sort _)))
  obtain ⟨k1, k2, k3⟩ := SrtO.ints_out hi h1 h2
  obtain ⟨ep, he'⟩ := PyProof.Rows.sortedHeap_at (vs := its) (out := out.toArray) hoL
  have hlen : ((out.map SrtO.iv).map V.int).length ≤ sizeLine := by
    rw [List.length_map, k2.length_eq]
    rw [List.length_map] at hz
    exact hz
  refine wpAny_pure ⟨_, rfl, .ref h'.objs.size, upd H h'.objs.size (.lst ((out.map SrtO.iv).map V.int)), I1.laid (t' := s.toks) (fun b u e => ?_) (Nat.le_refl _) ⟨hlen, out, ep, vals_of_ints k1, he'⟩, rfl, q _ _ k2 k3 (I1.hok.fresh (Nat.le_refl _))⟩
  have hb : b ≠ h'.objs.size := Nat.ne_of_lt (Heap.lt_size e)
  rw [PyProof.Rows.sortedHeap_old hb (by show b < (h'.push _).objs.size; rw [Heap.size_push]; exact Nat.lt_succ_of_lt (Heap.lt_size e))]
  exact Heap.get?_push_of_some _ e
end
end DD
/-! DModel2 -/
namespace DD
open PySem PySem.Spec PyProof.Rows L2

abbrev tk0 (P : Program) (w : PySem.World) : HeapKind P w (List Key) := tupleKind (mixKind P w)
theorem isT_keep {P : Program} {w : PySem.World} {h h' : Heap} {ks : List Key} {a : Addr} (i : (tk0 P w).is h ks a) (k : ∀ o, h.get? a = some o → h'.get? a = some o) : (tk0 P w).is h' ks a := by
  obtain ⟨o, its, n, h1, h2, h3, h4⟩ := i
  exact ⟨o, its, n, k _ h1, h2, h3, h4⟩
theorem isT_lt {P : Program} {w : PySem.World} {h : Heap} {ks : List Key} {a : Addr} (i : (tk0 P w).is h ks a) : a < h.objs.size := by
  obtain ⟨o, its, n, h1, _⟩ := i
  exact Heap.lt_size h1
theorem dH_keep {P : Program} {w : PySem.World} {h h' : Heap} {d : Addr} {xs : List (List Key × Addr × Value)} (m : h.DictOfH (tk0 P w) d xs) (k : ∀ b o, (b = d ∨ ∃ x ∈ xs, b = x.2.1) → h.get? b = some o → h'.get? b = some o) : h'.DictOfH (tk0 P w) d xs := by
  obtain ⟨o, es, ep, h1, h2, h3, h4, h5, h6⟩ := m
  exact ⟨o, es, ep, k _ _ (.inl rfl) h1, h2, h3, h4, fun x hx => isT_keep (h5 x hx) fun o ho => k _ _ (.inr ⟨x, hx, rfl⟩) ho, h6⟩
def mergedH (xs : List (List Key × Addr × Value)) (more : List (List Key × Addr × Value)) : List (List Key × Addr × Value) := more.foldl (fun acc q => storedH acc q.1 q.2.1 q.2.2) xs
theorem storedH_len (xs : List (List Key × Addr × Value)) (k : List Key) (a : Addr) (v : Value) : (storedH xs k a v).length ≤ xs.length + 1 := by
  unfold storedH
  split <;> simp
theorem storedH_mem {xs : List (List Key × Addr × Value)} {k : List Key} {a : Addr} {v : Value} {x : List Key × Addr × Value} (h : x ∈ storedH xs k a v) : x.2.1 = a ∨ ∃ y ∈ xs, y.2.1 = x.2.1 := by
  unfold storedH at h
  split at h
  · obtain ⟨y, hy, e⟩ := List.mem_map.mp h
    right
    refine ⟨y, hy, ?_⟩
    subst e
    unfold putAt
    split <;> rfl
  · rcases List.mem_append.mp h with h | h
    · exact .inr ⟨x, h, rfl⟩
    · have := List.mem_singleton.mp h
      subst this
      exact .inl rfl
section
variable {prog : Program} {w : PySem.World} {A : Around} {E : Value → Shared → Prop}
/-- the walk over the pairs, tuple keys -/
theorem updT_loop {R : Result → Shared → Prop} {S I l : Addr} {items : Array Value} {res : Value} (hu : A.units + 2 < cLine) (hh : A.handled = none) (hlI : l ≠ I) (hSI : S ≠ I) (hSl : S ≠ l) :
    ∀ (rest : List (List Key × Addr × Value)) (i : Nat) (acc : List (List Key × Addr × Value)) (ix : Int) (t : Tok) (s : Shared), items.size = i + rest.length → acc.length + rest.length ≤ sizeLine →
      (∀ (j : Nat) (q : List Key × Addr × Value), rest[j]? = some q → ∃ (b : Addr), items[i + j]? = some (.ref b) ∧ b ≠ S ∧ b ≠ I ∧ q.2.1 ≠ S ∧ q.2.1 ≠ I ∧ IsTup s.heap b #[.ref q.2.1, q.2.2] ∧ (tk0 prog w).is s.heap q.1 q.2.1) →
      (∀ x ∈ acc, x.2.1 ≠ S ∧ x.2.1 ≠ I) →
      s.heap.IsListIter I l i → s.heap.IsList l items → s.heap.DictOfH (tk0 prog w) S acc →
      (∀ h' tk, h'.DictOfH (tk0 prog w) S (mergedH acc rest) → (∀ b o, b ≠ S → b ≠ I → s.heap.get? b = some o → h'.get? b = some o) → R (.ok (.ret res)) { s with heap := h', toks := tk }) →
      codeAny (model prog w) A (.builtin "dict.update.loop" ⟨[.ref S, .ref I, .int ix t, res], []⟩) R s
  | [], i, acc, ix, t, s, hsz, hln, ht, hac, hit, hl, hm, hR => by
    refine codeAny_builtin ud_entry ?_
    rw [Around.under_plainId ud_plain _]
    show wpAny _ A.in1 (pyNext (.ref I) >>= _) _ _ s
    refine wpAny_bind (wpAny_pyNext_list_end (A := A.in1) hh hit hl (by first | exact Array.getElem?_eq_none (Nat.le_of_eq hsz) | (simp at hsz; simp; omega)) fun h' he => ?_)
    show wpAny _ A.in1 (Builtin.Dict.addKeywords S [] >>= _) _ _ _
    refine wpAny_bind (wpAny_pure (wpAny_pure ?_))
    refine hR h' s.toks (dH_keep hm fun b o hb e => he b o (hb.elim (fun z => by rw [z]; exact hSI) fun ⟨x, hx, z⟩ => by rw [z]; exact (hac x hx).2) e) fun b o _ hb e => he b o hb e
  | q :: rest, i, acc, ix, t, s, hsz, hln, ht, hac, hit, hl, hm, hR => by
    obtain ⟨b, hb, hbS, hbI, hkS, hkI, htup, hk⟩ := ht 0 q rfl
    rw [List.length_cons] at hsz hln
    refine codeAny_builtin ud_entry ?_
    rw [Around.under_plainId ud_plain _]
    show wpAny _ A.in1 (pyNext (.ref I) >>= _) _ _ s
    refine wpAny_bind (wpAny_pyNext_list_item (x := .ref b) hit hl (by simpa using hb) fun h1 hit1 hs1 => ?_)
    have ht1 : IsTup h1 b #[.ref q.2.1, q.2.2] := htup.extBut hs1.extBut hbI
    have hl1 : h1.IsList l items := hl.extBut hs1.extBut hlI
    have hm1 : h1.DictOfH (tk0 prog w) S acc := dH_keep hm fun b o hb e => hs1.extBut b o (hb.elim (fun z => by rw [z]; exact hSI) fun ⟨x, hx, z⟩ => by rw [z]; exact (hac x hx).2) e
    have hk1 : (tk0 prog w).is h1 q.1 q.2.1 := isT_keep hk fun o e => hs1.extBut _ o hkI e
    obtain ⟨o, ho, hc, n, hd⟩ := id ht1
    show wpAny _ A.in1 (holding [Value.ref b] _ >>= _) _ _ _
    refine wpAny_bind (wpAny_holding ?_)
    refine wpAny_bind (wpAny_tryCatch ?_)
    unfold Builtin.Dict.pairItems
    refine wpAny_bind (wpAny_typeOf (T := "tuple") ⟨o, ho, hc⟩ ?_)
    rw [if_pos (by first | decide | rfl | simp)]
    refine wpAny_bind (wpAny_seqItems ho hd (wpAny_pure ?_))
    show wpAny _ A.in1 (holding [Value.ref q.2.1, q.2.2] (dictSet S (.ref q.2.1) q.2.2)) _ _ _
    refine wpAny_holding (wpAny_dictSet_heap (knd := tk0 prog w) (k := q.1) (show A.in1.units < cLine by show A.units + 1 < cLine; omega) hk1 hm1 (fun h2 hm2 hs2 => ?_) (by omega))
    refine wpAny_pure ⟨plainId_quiet ud_plain _, updT_loop (items := items) hu hh hlI hSI hSl rest (i + 1) (storedH acc q.1 q.2.1 q.2.2) (ix + 1) 0 _ (show items.size = i + 1 + rest.length by omega) ?_ (fun j q' e => ?_) (fun x hx => ?_) ?_ ?_ hm2 fun h' tk hd' k => ?_⟩
    · have z := storedH_len acc q.1 q.2.1 q.2.2
      omega
    · obtain ⟨b', hb', hbS', hbI', hkS', hkI', htup', hk'⟩ := ht (j + 1) q' (by simpa using e)
      refine ⟨b', ?_, hbS', hbI', hkS', hkI', (htup'.extBut hs1.extBut hbI').extBut hs2.extBut hbS', isT_keep (isT_keep hk' fun o e => hs1.extBut _ o hkI' e) fun o e => hs2.extBut _ o hkS' e⟩
      rw [show i + 1 + j = i + (j + 1) by omega]
      exact hb'
    · rcases storedH_mem hx with z | ⟨y, hy, z⟩
      · rw [z]; exact ⟨hkS, hkI⟩
      · rw [← z]; exact hac y hy
    · exact hit1.at fun o' e => hs2.extBut I o' (Ne.symm hSI) e
    · exact hl1.extBut hs2.extBut (Ne.symm hSl)
    · exact hR h' tk hd' fun c oc h3 h4 e => k c oc h3 h4 (hs2.extBut c oc h3 (hs1.extBut c oc h4 e))
theorem dH_new {P : Program} {w : PySem.World} (h : Heap) : (h.push { cls := .type "dict", data := .dict #[] }).DictOfH (tk0 P w) h.objs.size [] :=
  ⟨_, #[], 0, Heap.get?_push_size _ rfl, ⟨rfl, rfl, rfl⟩, rfl, rfl, (fun x hx => absurd hx (by simp)), List.nodup_nil⟩
theorem dH_type {P : Program} {w : PySem.World} {s : Shared} {d : Addr} {xs : List (List Key × Addr × Value)} (m : s.heap.DictOfH (tk0 P w) d xs) : s.TypeIs (.ref d) "dict" := by
  obtain ⟨o, _, _, h1, h2, _⟩ := m
  exact ⟨o, h1, h2.1⟩
/-- dict(l) of a list of pairs with tuple keys -/
theorem call_dict_pairsT {s : Shared} {l : Addr} {ol : Obj} {items : Array Value} {n : Nat} {prs : List (List Key × Addr × Value)} {Q : Value → Shared → Prop} (hu : A.units + 5 < cLine) (hh : A.handled = none) (hl : s.heap.get? l = some ol) (hc : ol.cls = .type "list") (hd : ol.dict = none)
    (hdat : ol.data = .seq items n) (hsz : items.size = prs.length) (hln : prs.length ≤ sizeLine)
    (ht : ∀ (j : Nat) (q : List Key × Addr × Value), prs[j]? = some q → ∃ (b : Addr), items[j]? = some (.ref b) ∧ IsTup s.heap b #[.ref q.2.1, q.2.2] ∧ (tk0 prog w).is s.heap q.1 q.2.1)
    (h : ∀ h' tk, h'.DictOfH (tk0 prog w) s.heap.objs.size (mergedH [] prs) → (∀ b o, s.heap.get? b = some o → h'.get? b = some o) → Q (.ref s.heap.objs.size) { s with heap := h', toks := tk }) :
    wpAny (model prog w) A (call (.type "dict") [.ref l]) Q E s := by
  refine callType_codes (Q₁ := fun obj s₁ => obj = .ref s.heap.objs.size ∧ s₁ = { s with heap := s.heap.push { cls := .type "dict", data := .dict #[] } }) PySem.F.kt_called_dict (PySem.F.kt_typeCall_dict_1 _) PySem.F.entry_dict_init (kt_code_dict_new _ ⟨rfl, rfl⟩) ?_
  rintro obj s₁ ⟨rfl, rfl⟩
  have hnew : (s.heap.push { cls := .type "dict", data := .dict #[] }).DictOfH (tk0 prog w) s.heap.objs.size [] := dH_new s.heap
  have k0 : ∀ b o, s.heap.get? b = some o → (s.heap.push { cls := .type "dict", data := .dict #[] }).get? b = some o := fun b o e => Heap.get?_push_of_some _ e
  have hnt : ({ s with heap := s.heap.push { cls := .type "dict", data := .dict #[] } } : Shared).TypeIs (.ref s.heap.objs.size) "dict" := dH_type hnew
  refine ⟨hnt, PySem.F.args_dict_init_2 _ _, ?_⟩
  unfold Builtin.«dict.__init__»
  refine wpAny_bind ?_
  unfold Builtin.Dict.selfAndRest
  refine wpAny_bind (wpAny_notOrdered_dict hnt ?_)
  show wpAny _ _ (pure (s.heap.objs.size, [Value.ref l])) _ _ _
  refine wpAny_pure ?_
  show wpAny _ _ (Builtin.Dict.updateFrom "dict.__init__" s.heap.objs.size (.ref l) [] .none) _ _ _
  unfold Builtin.Dict.updateFrom
  refine wpAny_bind (wpAny_typeOf (T := "list") ⟨ol, k0 _ _ hl, hc⟩ ?_)
  rw [if_pos (by first | decide | rfl | simp)]
  refine wpAny_bind (miss_list (k0 _ _ hl) hc hdat hd hh fun h1 tk1 hk1 => ?_)
  rw [if_pos (show (none : Option Value).isNone = true from rfl)]
  refine wpAny_bind (wpAny_rule ?_)
  have hl1 : h1.IsList l items := ⟨ol, hk1 _ _ (k0 _ _ hl), hc, n, hdat⟩
  have hS1 : s.heap.objs.size < h1.objs.size := by
    have e : (s.heap.push { cls := .type "dict", data := .dict #[] }).get? s.heap.objs.size = some { cls := .type "dict", data := .dict #[] } := Heap.get?_push_size _ rfl
    exact Heap.lt_size (hk1 _ _ e)
  refine wpAny_bind (wpAny_pyIter_list hl1 ?_)
  have k2 : ∀ b o, h1.get? b = some o → (h1.push { cls := .type "list_iterator", data := .fields #[.ref l, .int 0 0] }).get? b = some o := fun b o e => Heap.get?_push_of_some _ e
  have hlt : l < s.heap.objs.size := Heap.lt_size hl
  have key := updT_loop (prog := prog) (w := w) (A := A.in1) (R := wants (fun r s₂ => r = .none ∧ Q (.ref s.heap.objs.size) s₂) E) (S := s.heap.objs.size) (I := h1.objs.size) (l := l) (items := items) (res := Value.none) (show A.units + 1 + 2 < cLine by omega) hh
    (Nat.ne_of_lt (Nat.lt_trans hlt hS1)) (Nat.ne_of_lt hS1) (Nat.ne_of_gt hlt) prs 0 [] 0 0
    { s with heap := h1.push { cls := .type "list_iterator", data := .fields #[.ref l, .int 0 0] }, toks := tk1 } (by rw [hsz, Nat.zero_add]) (by rw [List.length_nil, Nat.zero_add]; exact hln)
    (fun j q e => by
      obtain ⟨b, e1, e2, e3⟩ := ht j q e
      have hb : b < s.heap.objs.size := e2.lt
      have hq : q.2.1 < s.heap.objs.size := isT_lt e3
      exact ⟨b, by rw [Nat.zero_add]; exact e1, Nat.ne_of_lt hb, Nat.ne_of_lt (Nat.lt_trans hb hS1), Nat.ne_of_lt hq, Nat.ne_of_lt (Nat.lt_trans hq hS1), e2.keeps fun c o z => k2 _ _ (hk1 _ _ (k0 _ _ z)), isT_keep e3 fun o z => k2 _ _ (hk1 _ _ (k0 _ _ z))⟩)
    (fun x hx => absurd hx (by simp))
    ⟨_, Heap.get?_push_size _ rfl, rfl, rfl⟩ (hl1.at fun o e => k2 _ _ e) (dH_keep hnew fun b o _ e => k2 _ _ (hk1 _ _ e))
    (fun h' tk hd' k => ⟨rfl, h h' tk hd' fun b o e => k b o (Nat.ne_of_lt (Heap.lt_size e)) (Nat.ne_of_lt (Nat.lt_trans (Heap.lt_size e) hS1)) (k2 _ _ (hk1 _ _ (k0 _ _ e)))⟩)
  first
    | exact wpAny_pure ⟨plainId_quiet ud_plain _, key⟩
    | exact wpAny_bind (wpAny_pure (wpAny_pure ⟨plainId_quiet ud_plain _, key⟩))
end

section
variable {X : Cx}
def mergeT (kvs more : List (List Key × V)) : List (List Key × V) := more.foldl (fun acc kv => putK acc kv.1 kv.2) kvs
/-- the pairs as they stand: the pair's address, the key's address, the key, the value -/
abbrev PrT := Addr × Addr × List Key × V
theorem KT.merge {H : Hp} : ∀ {more : List PrT} {rs : List (List Key × Addr × Value)} {kvs : List (List Key × V)} {vs : List (List Key × Addr × Value)},
    Paired (fun (p : PrT) (q : List Key × Addr × Value) => p.2.2.1 = q.1 ∧ p.2.1 = q.2.1 ∧ H q.2.1 = some (.tup (q.1.map kV)) ∧ RelV p.2.2.2 q.2.2) more rs → KT H kvs vs → KT H (mergeT kvs (more.map fun p => p.2.2)) (mergedH vs rs) := by
  intro more rs kvs vs r
  induction r generalizing kvs vs with
  | nil => intro q; exact q
  | @cons p q ps qs h t ih =>
    intro r0
    obtain ⟨h1, h2, h3, h4⟩ := h
    have e : KT H (putK kvs p.2.2.1 p.2.2.2) (storedH vs q.1 q.2.1 q.2.2) := by
      have := KT.put r0 q.1 (b := q.2.1) h3 h4
      rw [h1]; exact this
    exact ih e
theorem length_mergeT : ∀ (more kvs : List (List Key × V)), (mergeT kvs more).length ≤ kvs.length + more.length
  | [], kvs => by show kvs.length ≤ kvs.length + 0; omega
  | p :: r, kvs => by
    have h1 := length_mergeT r (putK kvs p.1 p.2)
    have h2 := length_putK kvs p.1 p.2
    show (mergeT (putK kvs p.1 p.2) r).length ≤ _
    rw [List.length_cons]; omega
theorem pairsT_of {pins : List (Addr × Obj)} {σ : L2.St} {H : Hp} {s : Shared} (I : Inv X pins σ H s) : ∀ {ps : List PrT}, (∀ p ∈ ps, SqT X.K H p.1 [.ref p.2.1, p.2.2.2] ∧ H p.2.1 = some (.tup (p.2.2.1.map kV))) →
    ∃ prs : List (List Key × Addr × Value), Paired (fun (p : PrT) (q : List Key × Addr × Value) => p.2.2.1 = q.1 ∧ p.2.1 = q.2.1 ∧ H q.2.1 = some (.tup (q.1.map kV)) ∧ RelV p.2.2.2 q.2.2) ps prs ∧ prs.length = ps.length ∧
      ∀ (j : Nat) (q : List Key × Addr × Value), prs[j]? = some q → ∃ (p : PrT), ps[j]? = some p ∧ IsTup s.heap p.1 #[.ref q.2.1, q.2.2] ∧ (tk0 X.prog X.w).is s.heap q.1 q.2.1
  | [], _ => ⟨[], .nil, rfl, fun j q e => by simp at e⟩
  | p :: ps, h => by
    obtain ⟨prs, r, hl, hp⟩ := pairsT_of I (ps := ps) fun q hq => h q (List.mem_cons_of_mem _ hq)
    obtain ⟨h1, h2⟩ := h p List.mem_cons_self
    obtain ⟨its, rv, ht, _⟩ := I.tuple h1
    obtain ⟨u, y, ei, ru, ry⟩ := vals2 rv
    subst ei
    obtain rfl : u = Value.ref p.2.1 := ru
    refine ⟨(p.2.2.1, p.2.1, y) :: prs, .cons ⟨rfl, rfl, h2, ry⟩ r, by rw [List.length_cons, List.length_cons, hl], fun j q e => ?_⟩
    cases j with
    | zero =>
      have e' : (p.2.2.1, p.2.1, y) = q := Option.some.inj e
      subst e'
      exact ⟨p, rfl, ht, key_of I.hok h2⟩
    | succ j =>
      obtain ⟨b, e1, e2, e3⟩ := hp j q (by simpa using e)
      exact ⟨b, by simpa using e1, e2, e3⟩
theorem Inv.laidT {pins : List (Addr × Obj)} {σ : L2.St} {H : Hp} {s : Shared} (I : Inv X pins σ H s) {h' : Heap} {tk : Nat} {kvs : List (List Key × V)} {xs : List (List Key × Addr × Value)} (hk : ∀ b o, s.heap.get? b = some o → h'.get? b = some o)
    (hl : kvs.length ≤ sizeLine) (r : KT H kvs xs) (m : h'.DictOfH (tk0 X.prog X.w) s.heap.objs.size xs) : Inv X pins σ (upd H s.heap.objs.size (.dT kvs)) { s with heap := h', toks := tk } := by
  have hm : (s.heap.objs.size == sysModules) = false := beq_eq_false_iff_ne.mpr (Nat.ne_of_gt I.big)
  have hn := I.hok.fresh (Nat.le_refl s.heap.objs.size)
  obtain ⟨o, es, ep, h1, h2, h3, h4, h5, h6⟩ := m
  refine I.laid (t' := tk) hk (Nat.le_refl _) ⟨hl, hm, xs, KT.keeps r fun b ys e => ?_, o, es, ep, h1, h2, h3, h4, h6⟩
  rw [upd_ne (ne_of_none e hn)]; exact e
def rDictT (K : PySem.W.Frag) : List V → Hp → VK → Prop := fun xs H Q => ∃ (a : Addr) (ps : List PrT), xs = [.ref a] ∧ SqL K H a (ps.map fun p => V.ref p.1) ∧ (∀ p ∈ ps, SqT K H p.1 [.ref p.2.1, p.2.2.2] ∧ H p.2.1 = some (.tup (p.2.2.1.map kV))) ∧
    ∀ p, H p = none → Q (.ref p) (upd H p (.dT (mergeT [] (ps.map fun p => p.2.2))))
theorem cr_dictT (hu : X.A.units + 5 < cLine) (hcalm : X.calm = true) : CallR X (.type "dict") (rDictT X.K) := by
  intro pins s σ H xs us Q I r q
  obtain ⟨a, ps, ex, hq, hp, q⟩ := q
  subst ex
  obtain ⟨u, eu, rx⟩ := vals1 r
  subst eu
  cases rx
  obtain ⟨its, rv, pl, hz⟩ := I.list hq
  have hmm : (ps.map fun p => V.ref p.1) = (ps.map (·.1)).map V.ref := by rw [List.map_map]; rfl
  rw [hmm] at rv
  have ei := refs_at rv
  subst ei
  rw [List.length_map] at hz
  obtain ⟨prs, rel, hl, hpr⟩ := pairsT_of I hp
  obtain ⟨o, n, ho, hc, hd, hdat⟩ := pl
  refine call_dict_pairsT (prs := prs) hu (I.ok.hd hcalm) ho hc hd hdat (by simp [hl]) (by rw [hl]; exact hz) (fun j q' e => ?_) fun h' tk hd' k => ?_
  · obtain ⟨b, e1, e2, e3⟩ := hpr j q' e
    exact ⟨b.1, by simp [e1], e2, e3⟩
  · have hlen : (mergeT [] (ps.map fun p => p.2.2)).length ≤ sizeLine := by
      refine Nat.le_trans (length_mergeT _ []) ?_
      rw [List.length_nil, Nat.zero_add, List.length_map]
      exact hz
    exact ⟨.ref s.heap.objs.size, upd H s.heap.objs.size (.dT (mergeT [] (ps.map fun p => p.2.2))), Inv.laidT I (tk := tk) k hlen (KT.merge rel .nil) hd', rfl, q _ (I.hok.fresh (Nat.le_refl _))⟩
/-- {k: v}, k a tuple -/
def tDisp1T (tk tv : TE) : TE := fun σ H Q => ∀ p, H p = none → tk σ (upd H p (.dT [])) fun x H1 => tv σ H1 fun y H2 => H2 p = some (.dT []) ∧ ∃ b ks, x = .ref b ∧ H2 b = some (.tup (ks.map kV)) ∧ Q (.ref p) (upd H2 p (.dT [(ks, y)]))
theorem pe_disp1T {pos : Pos} {k v : Expr} {tk tv : TE} (hu : X.A.units + 1 < cLine) (hk : PE X k tk) (hv : PE X v tv)
    (hshape : (evalEachOpt [some k] X.env).zip ((evalEach [v] X.env).map fun v => do let x ← v; standAt pos; pure x) = [(eval k X.env, (do let x ← eval v X.env; standAt pos; pure x))].map fun p => (some p.1, p.2) := by rfl) :
    PE X (.Dict [some k] [v] pos) (tDisp1T tk tv) := by
  refine ⟨fun pins s σ H Q I q => ?_⟩
  have hn := I.hok.fresh (Nat.le_refl s.heap.objs.size)
  have I1 := I.laid (a := s.heap.objs.size) (o := .dT []) (h' := s.heap.push { cls := .type "dict", data := .dict #[] }) (t' := s.toks) (fun _ _ q => Heap.get?_push_of_some _ q) (Nat.le_refl _) (dt_empty s.heap I.big)
  rw [arm_eval_Dict, hshape, dictDisplay_pairs [(eval k X.env, (do let x ← eval v X.env; standAt pos; pure x))] (by simp) (by show 1 < 17; decide)]
  refine wpAny_bind (wpAny_standAt (wpAny_bind ?_))
  unfold subDict
  refine wpAny_bind (wpAny_alloc ?_)
  refine wpAny_bind (wpAny_holding ?_)
  rw [if_pos (by show 1 ≤ 15; decide)]
  refine wpAny_bind (evalPairs_cons ?_)
  refine thn (hk.run pins _ σ _ _ I1 (q _ hn)) fun kv s1 ⟨x, H1, I2, rx, q1⟩ => ?_
  refine wpAny_bind (thn (hv.run pins s1 σ H1 _ I2 q1) fun vv s2 ⟨y, H2, I3, ry, hp, b, ks, ex, eb, q2⟩ => ?_)
  refine wpAny_bind (wpAny_standAt (wpAny_pure (evalPairs_nil ?_)))
  subst ex
  obtain rfl : kv = Value.ref b := rx
  refine wpAny_holding ?_
  show wpAny _ _ (forIn [(Value.ref b, vv)] PUnit.unit _ >>= _) _ _ _
  rw [List.forIn_cons]
  have g : DPut H2 s.heap.objs.size (.ref b) y (upd H2 s.heap.objs.size (.dT (putK [] ks y))) := DPut.t hp eb (by decide)
  obtain ⟨z, hd, xs, rel, dd⟩ := dt_of I3.hok hp
  cases rel
  have fin : ∀ h', h'.DictOfH (tk0 X.prog X.w) s.heap.objs.size (storedH [] ks b vv) → Heap.SameBut s.heap.objs.size s2.heap h' → ∀ tk, Inv X pins σ (upd H2 s.heap.objs.size (.dT [(ks, y)])) { s2 with heap := h', toks := tk } := fun h' dd' hs tk => by
    obtain ⟨q', es, ep, hq, h2, h3, h4, _, h5⟩ := dd'
    refine d_write (t' := tk) I3 (by rw [hp]; exact True.intro) hs ⟨q', hq⟩ ⟨by show 1 ≤ sizeLine; rw [sizeLine_eq]; omega, hd, _, (KT.put (.nil : KT H2 [] []) ks eb ry).keeps fun c ys ec => ?_, q', es, ep, hq, h2, h3, h4, h5⟩
    rw [upd_ne (ne_of ec hp (fun z => nomatch z))]
    exact ec
  refine wpAny_bind (wpAny_bind (wpAny_bind (wpAny_dictSet_heap (hsz := Nat.zero_le _) (knd := tk0 X.prog X.w) (show X.A.units < cLine by omega) (key_of I3.hok eb) dd fun h' dd' hs => wpAny_pure ?_)))
  show wpAny _ _ (forIn [] PUnit.unit _) _ _ _
  rw [List.forIn_nil]
  exact wpAny_pure (wpAny_pure (wpAny_pure (wpAny_pure ⟨.ref s.heap.objs.size, _, fin h' dd' hs _, rfl, q2⟩)))
end
end DD
/-! DMisc -/
namespace DD
open PySem PySem.Spec PyProof.Rows L2

section
variable {Γ K : Ctx} {X : Cx} {W W' : World}
/-! ### xs[::-1] -/
def fRev (x : XV) (st : MS) : Option XV := match x.tup with
  | some xs => some (.v (.tup xs.reverse))
  | none => (x.lst st).map fun xs => .o (.lst xs.reverse)
def xRev (d : DX) : DX := fun env st => (d env st).bind fun r => (fRev r.1 r.2).map fun z => (z, r.2)
theorem PE.or {e : Expr} {t u : TE} (h1 : PE X e t) (h2 : PE X e u) : PE X e (fun σ H Q => t σ H Q ∨ u σ H Q) := ⟨fun pins s σ H Q I h => h.elim (h1.run pins s σ H Q I) (h2.run pins s σ H Q I)⟩
theorem e_rev {e : Expr} {te : TE} {d : DX} {k : Nat} {p1 p2 p3 pos : Pos} (he : EX Γ X e te d) : EX Γ X (.Subscript e (.Slice none none (some (.UnaryOp .USub (.Constant (.int 1) k p1) p2)) p3) pos) (fun σ H Q => tRevT Γ.K te σ H Q ∨ tRevL Γ.K te σ H Q) (xRev d) :=
  ⟨fun g => g.K ▸ PE.or (pe_revT (he.pe g)) (pe_revL (he.pe g)), ⟨fun W env σ st x st' hE hS hd Q hQ => by
  unfold xRev at hd
  obtain ⟨⟨y, st1⟩, e1, hd⟩ := Option.bind_eq_some_iff.mp hd
  obtain ⟨z, e2, hd⟩ := Option.map_eq_some_iff.mp hd
  cases hd
  have e2 : fRev y st1 = some x := e2
  unfold fRev at e2
  split at e2
  · rename_i xs h1
    cases e2
    refine .inl (he.snd.run W env σ st y _ hE hS e1 _ fun W1 u E1 S1 R1 => ?_)
    obtain ⟨a, vs, rfl, h2, h3⟩ := tup_at R1 h1
    refine ⟨a, vs, rfl, h2, fun p hp => ?_⟩
    obtain ⟨W2, E2, S2, R2, H2⟩ := new_tup S1 (RVs_reverse h3) hp
    rw [← H2]
    exact hQ W2 _ (E1.trans E2) S2 (R2.back E1.toExt)
  · obtain ⟨xs, h1, e2⟩ := Option.map_eq_some_iff.mp e2
    cases e2
    refine .inr (he.snd.run W env σ st y _ hE hS e1 _ fun W1 u E1 S1 R1 => ?_)
    obtain ⟨a, vs, rfl, h2, h3⟩ := lst_at S1 R1 h1
    refine ⟨a, vs, rfl, h2, fun p hp => ?_⟩
    obtain ⟨W2, E2, S2, R2, H2⟩ := new_lst S1 (RVs_reverse h3) hp
    rw [← H2]
    exact hQ W2 _ (E1.trans E2) S2 (R2.back E1.toExt)⟩⟩

/-! ### sorted, more of it -/
def keysI? : List Key → Option (List Int)
  | [] => some []
  | .inl i :: ks => (keysI? ks).map fun is => i :: is
  | .inr _ :: _ => none
theorem keysI_eq : ∀ {ks : List Key} {is : List Int}, keysI? ks = some is → ks = is.map Sum.inl
  | [], _, e => by cases e; rfl
  | .inl i :: ks, _, e => by
    obtain ⟨js, e1, e⟩ := Option.map_eq_some_iff.mp (show (keysI? ks).map (fun is => i :: is) = some _ from e)
    cases e
    rw [keysI_eq e1]; rfl
  | .inr _ :: _, _, e => by cases e
/-- pairs of ints in their order -/
def pLt (p q : Int × Int) : Bool := decide (p.1 < q.1 ∨ (p.1 = q.1 ∧ p.2 < q.2))
def pLe (p q : Int × Int) : Bool := decide (p.1 < q.1 ∨ (p.1 = q.1 ∧ p.2 ≤ q.2))
def srtP (l : List (Int × Int)) : List (Int × Int) := l.mergeSort pLe
def pPV (p : Int × Int) : PV := .tup [.int p.1, .int p.2]
def pair1? (p : PV) : Option (Int × Int) := match p with
  | .tup [.int a, .int b] => some (a, b)
  | _ => none
def pairsI? : List PV → Option (List (Int × Int))
  | [] => some []
  | p :: ps => (pair1? p).bind fun q => (pairsI? ps).map fun qs => q :: qs
theorem pair1_eq {p : PV} {q : Int × Int} (e : pair1? p = some q) : p = pPV q := by
  unfold pair1? at e
  split at e
  · cases e; rfl
  · cases e
theorem pairsI_eq : ∀ {ps : List PV} {ns : List (Int × Int)}, pairsI? ps = some ns → ps = ns.map pPV
  | [], _, e => by cases e; rfl
  | p :: ps, _, e => by
    obtain ⟨q, e1, e⟩ := Option.bind_eq_some_iff.mp (show (pair1? p).bind _ = some _ from e)
    obtain ⟨qs, e2, e⟩ := Option.map_eq_some_iff.mp e
    cases e
    rw [pair1_eq e1, pairsI_eq e2]; rfl
theorem srtP_eq {ns ms : List (Int × Int)} (p : ms.Perm ns) (h : ms.Pairwise (fun x y => SrtO.lexB y x = false)) : ms = srtP ns := by
  have h1 : ms.Pairwise (fun x y => pLe x y = true) := h.imp fun {x y} q => by
    have := SrtO.lexB_no.mp q
    unfold pLe
    simp only [decide_eq_true_eq]
    omega
  have tr : ∀ a b c : Int × Int, pLe a b = true → pLe b c = true → pLe a c = true := fun a b c q1 q2 => by
    unfold pLe at *
    simp only [decide_eq_true_eq] at *
    omega
  have tot : ∀ a b : Int × Int, (pLe a b || pLe b a) = true := fun a b => by
    unfold pLe
    simp only [Bool.or_eq_true, decide_eq_true_eq]
    omega
  have h2 : (srtP ns).Pairwise (fun x y => pLe x y = true) := List.pairwise_mergeSort tr tot ns
  refine List.Perm.eq_of_pairwise (fun a b _ _ q1 q2 => ?_) h1 h2 (p.trans (List.mergeSort_perm ns _).symm)
  unfold pLe at q1 q2
  simp only [decide_eq_true_eq] at q1 q2
  exact Prod.ext (by omega) (by omega)
def kOf (H : Hp) (v : V) : Int × Int := match v with
  | .ref t => match H t with
    | some (.tup [.int a, .int b]) => (a, b)
    | _ => (0, 0)
  | _ => (0, 0)
theorem pPV_at {p : Int × Int} {v : V} (r : RV K W (pPV p) v) : ∃ t, v = .ref t ∧ W.H t = some (.tup [.int p.1, .int p.2]) ∧ kOf W.H v = p := by
  unfold pPV at r
  unfold RV at r
  obtain ⟨a, vs, rfl, _, h3, h4⟩ := r
  have e : vs = [.int p.1, .int p.2] := (RVs_ints (ns := [p.1, p.2])).mp h4
  subst e
  exact ⟨a, rfl, h3, by unfold kOf; simp only [h3]⟩
theorem pPVs_at : ∀ {ns : List (Int × Int)} {vs : List V}, RVs K W (ns.map pPV) vs → vs.map (kOf W.H) = ns ∧ ∀ v ∈ vs, RV K W (pPV (kOf W.H v)) v ∧ ∃ t, v = .ref t ∧ W.H t = some (.tup [.int (kOf W.H v).1, .int (kOf W.H v).2])
  | [], vs, h => by cases RVs_nil.mp h; exact ⟨rfl, fun v hv => absurd hv (by simp)⟩
  | p :: ns, vs, h => by
    obtain ⟨v, r, rfl, h1, h2⟩ := RVs_cons.mp h
    obtain ⟨t, e1, e2, e3⟩ := pPV_at h1
    obtain ⟨g1, g2⟩ := pPVs_at h2
    refine ⟨by rw [List.map_cons, e3, g1], fun u hu => ?_⟩
    rcases List.mem_cons.mp hu with rfl | hu
    · rw [e3]; exact ⟨h1, t, e1, e2⟩
    · exact g2 u hu
theorem pPVs_of {vs : List V} : (∀ v ∈ vs, RV K W (pPV (kOf W.H v)) v) → RVs K W ((vs.map (kOf W.H)).map pPV) vs := by
  induction vs with
  | nil => exact fun _ => RVs_nil.mpr rfl
  | cons v vs ih => exact fun h => RVs_cons'.mpr ⟨h v List.mem_cons_self, ih fun u hu => h u (List.mem_cons_of_mem _ hu)⟩
def sortI (ns : List Int) : XV := .o (.lst ((srt ns).map PV.int))
def fSorted2 : FN := fun xs st => match xs with
  | [.o (.set ns)] => if ns.length < 64 then some (sortI ns) else none
  | [x] => match x.lst st with
    | some ys => match ints? ys with
      | some ns => some (sortI ns)
      | none => (pairsI? ys).map fun ns => .o (.lst ((srtP ns).map pPV))
    | none => match x.tup with
      | some ys => (ints? ys).map sortI
      | none => match x.dic st with
        | some (.dK kvs) => (keysI? (kvs.map (·.1))).bind fun ns => if ns.length < 64 then some (sortI ns) else none
        | _ => none
  | _ => none
def rSortedDI (K : Ctx) : List V → Hp → VK → Prop := fun xs H Q => ∃ (a : Addr) (kvs : List (Key × V)) (ks : List Int), xs = [.ref a] ∧ Rd H a (.dK kvs) ∧ kvs.map (·.1) = ks.map Sum.inl ∧ ks.length < 64 ∧
    ∀ (ys : List Int) (p : Addr), ys.Perm ks → ys.Pairwise (· ≤ ·) → H p = none → Q (.ref p) (upd H p (.lst (ys.map V.int)))
def rSorted2 (K : Ctx) : List V → Hp → VK → Prop := fun xs H Q => (((rSortedI K.K xs H Q ∨ rSortedSet K.w xs H Q) ∨ rSortedTI K.K xs H Q) ∨ rSortedPO K.K xs H Q) ∨ rSortedDI K xs H Q
theorem or_sorted2 : ∀ X, Good K X → CallR X (.builtin "sorted") (rSorted2 K) := fun X g => ((((g.K ▸ cr_sortedI).or (g.w ▸ cr_sortedSet g.calm)).or (g.K ▸ cr_sortedTI)).or (g.K ▸ cr_sortedPO)).or (call_sortedDI g.calm)
theorem s_sorted2 : SOpN K (rSorted2 K) fSorted2 := ⟨fun W0 W st xs us z hS hE r e Q hQ => by
  have fin : ∀ (ns ms : List Int) p, ms = srt ns → W.H p = none → z = sortI ns → Q (.ref p) (upd W.H p (.lst (ms.map V.int))) := fun ns ms p h hp hz => by
    subst h hz
    obtain ⟨W', E, S, R, eH⟩ := new_lst hS (RVs_ints (ns := srt ns).mpr rfl) hp
    rw [← eH]; exact hQ W' _ (hE.trans E) S (R.back hE.toExt)
  unfold fSorted2 at e
  split at e
  · rename_i ns
    split at e
    · rename_i h64
      cases e
      obtain ⟨u, rfl, ru⟩ := r.one
      obtain ⟨a, rfl, ⟨S, h1, h2, h3⟩, _⟩ := ru
      refine .inl (.inl (.inl (.inr ⟨a, S, _, rfl, h1, h64, fun ms p hlt hm hlen hp => ?_⟩)))
      refine fin ns ms p (srt_eq ?_ (hlt.imp fun h => Int.le_of_lt h)) hp rfl
      refine (List.perm_ext_iff_of_nodup (hlt.imp fun h => Int.ne_of_lt h) h2).mpr fun i => ?_
      rw [hm i, h3 i]
    · cases e
  · split at e
    · rename_i ys e1
      obtain ⟨u, rfl, ru⟩ := r.one
      obtain ⟨a, vs, rfl, h2, h3⟩ := lst_at hS ru e1
      split at e
      · rename_i ns e2
        cases e
        rw [ints_eq e2] at h3
        rw [RVs_ints.mp h3] at h2
        exact .inl (.inl (.inl (.inl ⟨a, ns, rfl, h2, fun ms p hp1 hp2 hp => fin ns ms p (srt_eq hp1 hp2) hp rfl⟩)))
      · obtain ⟨ns, e2, e⟩ := Option.map_eq_some_iff.mp e
        cases e
        rw [pairsI_eq e2] at h3
        obtain ⟨g1, g2⟩ := pPVs_at h3
        refine .inl (.inr ⟨a, vs, kOf W.H, rfl, h2, fun v hv => (g2 v hv).2, fun ws p hs hb hp => ?_⟩)
        have hm : ws.map (kOf W.H) = srtP ns := srtP_eq (by rw [← g1]; exact hb.perm.map _) (List.pairwise_map.mpr hs)
        have hr := pPVs_of (K := K) (W := W) (vs := ws) fun v hv => (g2 v (hb.perm.mem_iff.mp hv)).1
        rw [hm] at hr
        obtain ⟨W', E, S, R, eH⟩ := new_lst hS hr hp
        rw [← eH]; exact hQ W' _ (hE.trans E) S (R.back hE.toExt)
    · split at e
      · rename_i ys e1
        obtain ⟨ns, e2, e⟩ := Option.map_eq_some_iff.mp e
        cases e
        obtain ⟨u, rfl, ru⟩ := r.one
        obtain ⟨a, vs, rfl, h2, h3⟩ := tup_at ru e1
        rw [ints_eq e2] at h3
        rw [RVs_ints.mp h3] at h2
        exact .inl (.inl (.inr ⟨a, ns, rfl, h2, fun ms p hp1 hp2 hp => fin ns ms p (srt_eq hp1 hp2) hp rfl⟩))
      · split at e
        · rename_i kvs e1
          obtain ⟨ns, e2, e⟩ := Option.bind_eq_some_iff.mp e
          split at e
          · rename_i h64
            cases e
            obtain ⟨u, rfl, ru⟩ := r.one
            obtain ⟨a, rfl, vs, h2, h3⟩ := dic_at hS ru e1
            have hz : ((kvs.map (·.1)).zip vs).map (·.1) = kvs.map (·.1) := zip_fst (by have := RVs_len h3; simpa using this)
            exact .inr ⟨a, _, ns, rfl, h2, by rw [hz]; exact keysI_eq e2, h64, fun ms p hp1 hp2 hp => fin ns ms p (srt_eq hp1 hp2) hp rfl⟩
          · cases e
        · cases e
  · cases e⟩

/-! ### dict(pairs), {t: v} -/
def kvT? : List PV → Option (List (List Key × PV))
  | [] => some []
  | .tup [k, v] :: ps => k.keyT.bind fun ks => (kvT? ps).map fun r => (ks, v) :: r
  | _ => none
def mergeTP (kvs : List (List Key × PV)) (more : List (List Key × PV)) : List (List Key × PV) := more.foldl (fun acc kv => putP acc kv.1 kv.2) kvs
def fDictT : FN := fun xs st => match xs with
  | [x] => (x.lst st).bind fun ys => (kvT? ys).map fun r => .o (.dT (mergeTP [] r))
  | _ => none
theorem kvT_at : ∀ {ys : List PV} {vs : List V} {r : List (List Key × PV)}, RVs K W ys vs → kvT? ys = some r → ∃ ps : List PrT, vs = ps.map (fun p => V.ref p.1) ∧ (∀ p ∈ ps, W.H p.1 = some (.tup [.ref p.2.1, p.2.2.2]) ∧ W.H p.2.1 = some (.tup (p.2.2.1.map kV))) ∧
    ps.map (fun p => p.2.2.1) = r.map (·.1) ∧ RVs K W (r.map (·.2)) (ps.map fun p => p.2.2.2)
  | [], vs, r, h, e => by cases e; exact ⟨[], RVs_nil.mp h, fun p hp => absurd hp (by simp), rfl, RVs_nil.mpr rfl⟩
  | y :: ys, vs, r, h, e => by
    unfold kvT? at e
    split at e
    · rename_i heq; cases heq
    · rename_i k v ps heq
      cases heq
      obtain ⟨ks, e1, e⟩ := Option.bind_eq_some_iff.mp e
      obtain ⟨r', e2, e⟩ := Option.map_eq_some_iff.mp e
      cases e
      obtain ⟨u, us, rfl, h1, h2⟩ := RVs_cons.mp h
      obtain ⟨ps', q1, q2, q3, q4⟩ := kvT_at h2 e2
      unfold RV at h1
      obtain ⟨a, ws, rfl, _, g3, g4⟩ := h1
      obtain ⟨kv, ws', rfl, k1, k2⟩ := RVs_cons.mp g4
      obtain ⟨vv, ws'', rfl, v1, v2⟩ := RVs_cons.mp k2
      cases RVs_nil.mp v2
      obtain ⟨b, rfl, eb⟩ := keyT_at k1 e1
      refine ⟨(a, b, ks, vv) :: ps', by rw [q1]; rfl, fun p hp => ?_, by rw [List.map_cons, List.map_cons, q3], RVs_cons'.mpr ⟨v1, q4⟩⟩
      rcases List.mem_cons.mp hp with rfl | hp
      · exact ⟨g3, eb⟩
      · exact q2 p hp
    · cases e
theorem merge_zip : ∀ {more : List (List Key × PV)} {ms : List (List Key × V)} {kvs : List (List Key × PV)} {vs : List V}, ms.map (·.1) = more.map (·.1) → RVs K W (more.map (·.2)) (ms.map (·.2)) → RVs K W (kvs.map (·.2)) vs →
    ∃ ws, mergeT ((kvs.map (·.1)).zip vs) ms = ((mergeTP kvs more).map (·.1)).zip ws ∧ RVs K W ((mergeTP kvs more).map (·.2)) ws
  | [], ms, kvs, vs, h1, h2, h3 => by
    have : ms = [] := by
      cases ms with
      | nil => rfl
      | cons _ _ => cases h1
    subst this
    exact ⟨vs, rfl, h3⟩
  | m :: more, ms, kvs, vs, h1, h2, h3 => by
    cases ms with
    | nil => cases h1
    | cons n ms =>
      rw [List.map_cons, List.map_cons] at h1
      obtain ⟨e1, e2⟩ := List.cons.inj h1
      obtain ⟨r1, r2⟩ := RVs_cons'.mp h2
      obtain ⟨ws, z1, z2⟩ := put_zip m.1 h3 r1
      obtain ⟨ws2, y1, y2⟩ := merge_zip (more := more) (ms := ms) e2 r2 z2
      refine ⟨ws2, ?_, y2⟩
      show mergeT (putK ((kvs.map (·.1)).zip vs) n.1 n.2) ms = _
      have e1 : n.1 = m.1 := e1
      rw [e1, z1]
      exact y1
theorem or_dictT : ∀ X, Good K X → CallR X (.type "dict") (rDictT K.K) := fun X g => g.K ▸ cr_dictT (by have := g.un; omega) g.calm
theorem s_dictT : SOpN K (rDictT K.K) fDictT := ⟨fun W0 W st xs us z hS hE r e Q hQ => by
  unfold fDictT at e
  split at e
  · obtain ⟨ys, e1, e⟩ := Option.bind_eq_some_iff.mp e
    obtain ⟨r2, e2, e⟩ := Option.map_eq_some_iff.mp e
    cases e
    obtain ⟨u, rfl, ru⟩ := r.one
    obtain ⟨a, vs, rfl, h2, h3⟩ := lst_at hS ru e1
    obtain ⟨ps, rfl, q2, q3, q4⟩ := kvT_at h3 e2
    refine ⟨a, ps, rfl, h2, fun p hp => ⟨SqT.of (q2 p hp).1, (q2 p hp).2⟩, fun p hp => ?_⟩
    obtain ⟨ws, z1, z2⟩ := merge_zip (K := K) (W := W) (kvs := []) (vs := []) (more := r2) (ms := ps.map fun p => p.2.2) (by rw [List.map_map]; exact q3) (by rw [List.map_map]; exact q4) (RVs_nil.mpr rfl)
    have z1 : mergeT [] (ps.map fun p => p.2.2) = _ := z1
    rw [z1]
    have E := lay_ext (W := W) (o := .dT (((mergeTP [] r2).map (·.1)).zip ws)) (t := .oth) hp
    exact hQ (W.lay p (.dT (((mergeTP [] r2).map (·.1)).zip ws)) .oth) _ (hE.trans E) (lay_st hp hS) ⟨p, rfl, ⟨ws, lay_at, RVs_ext E.toExt _ _ z2⟩, lay_T, hS.nold hp, none_back hE.toExt hp⟩
  · cases e⟩
def xDict1T (k v : DX) : DX := fun env st => (k env st).bind fun r => r.1.pv.bind fun kp => kp.keyT.bind fun ks => (v env r.2).bind fun q => q.1.pv.map fun p => (.o (.dT [(ks, p)]), q.2)
theorem e_dict1T {pos : Pos} {k v : Expr} {tk tv : TE} {dk dv : DX} (hk : EX Γ X k tk dk) (hv : EX Γ X v tv dv)
    (hshape : (evalEachOpt [some k] X.env).zip ((evalEach [v] X.env).map fun v => do let x ← v; standAt pos; pure x) = [(eval k X.env, (do let x ← eval v X.env; standAt pos; pure x))].map fun p => (some p.1, p.2) := by rfl) :
    EX Γ X (.Dict [some k] [v] pos) (tDisp1T tk tv) (xDict1T dk dv) := ⟨fun g => pe_disp1T (by have := g.un; omega) (hk.pe g) (hv.pe g) hshape, ⟨fun W env σ st x st' hE hS hd Q hQ => by
  unfold xDict1T at hd
  obtain ⟨⟨y, st1⟩, e1, hd⟩ := Option.bind_eq_some_iff.mp hd
  obtain ⟨kp, e2, hd⟩ := Option.bind_eq_some_iff.mp hd
  obtain ⟨ks, e3, hd⟩ := Option.bind_eq_some_iff.mp hd
  obtain ⟨⟨z, st2⟩, e4, hd⟩ := Option.bind_eq_some_iff.mp hd
  obtain ⟨p2, e5, hd⟩ := Option.map_eq_some_iff.mp hd
  cases hd
  intro D hD
  have L := lay_ext (W := W) (o := .dT []) (t := .oth) hD
  have hc0 : CtAt Γ (W.lay D (.dT []) .oth) D (.dT []) := ⟨[], lay_at, RVs_nil.mpr rfl⟩
  refine hk.snd.run (W.lay D (.dT []) .oth) env σ st y st1 (hE.ext L) (lay_st hD hS) e1 _ fun W1 u E1 S1 R1 => ?_
  obtain ⟨W2, E2, S2, R2, H2⟩ := pv_at S1 E1 R1 e2
  rw [← H2]
  refine hv.snd.run W2 env σ st1 z _ ((hE.ext L).ext E2) S2 e4 _ fun W3 v E3 S3 R3 => ?_
  obtain ⟨W4, E4, S4, R4, H4⟩ := pv_at S3 E3 R3 e5
  have E := L.trans (E2.trans E4)
  have hDl : (W.lay D (.dT []) .oth).T D = .oth := lay_T
  have hD4 := (E2.trans E4).slots D _ (lay_at (W := W) (p := D) (o := .dT []) (t := .oth)) (.inl hDl)
  have hT4 : W4.T D = .oth := hD4.2.trans hDl
  obtain ⟨b, rfl, eb⟩ := keyT_at (RV_ext E4.toExt _ _ R2) e3
  rw [← H4]
  refine ⟨hD4.1, b, ks, rfl, eb, ?_⟩
  obtain ⟨p1', p2', p3'⟩ := put_new (o := .dT [(ks, v)]) (c := .dT []) E S4 hD ⟨[], hD4.1, RVs_nil.mpr rfl⟩ hT4
  exact hQ (W4.put D (.dT [(ks, v)])) _ p1' p2' ⟨D, rfl, ⟨[v], put_at, p3' (RVs_cons'.mpr ⟨R4, RVs_nil.mpr rfl⟩)⟩, hT4, (by show ¬ W4.old D; rw [E.old]; exact hS.nold hD), hD⟩⟩⟩

/-! ### op= -/
structure SIp (t : TIp) (f : PV → PV → Option PV) : Prop where
  run : ∀ (K : Ctx) (W : World) p q u v z, RV K W p u → RV K W q v → f p q = some z → ∀ Q : VK, (∀ w, RV K W z w → Q w W.H) → t u v W.H Q
def fIpI (g : Int → Int → Int) : PV → PV → Option PV := fun p q => match p, q with
  | .int i, .int j => some (.int (g i j))
  | _, _ => none
theorem sip_int {g : Int → Int → Int} : SIp (ipI g) (fIpI g) := ⟨fun K W p q u v z r1 r2 e Q hQ => by
  unfold fIpI at e
  split at e
  · rename_i i j
    cases e
    unfold RV at r1 r2
    exact ⟨i, j, r1, r2, hQ _ (by unfold RV; rfl)⟩
  · cases e⟩
/-- name op= e -/
def sAug (i : Nat) (d : DX) (f : PV → PV → Option PV) : DS := fun env st => match env[i]? with
  | some (.v p) => (d env st).bind fun r => r.1.pv.bind fun q => (f p q).map fun z => (.nx, env.set i (.v z), r.2)
  | _ => none
theorem st_aug {i : Nat} {x : Str} {e : Expr} {te : TE} {d : DX} {op : Operator} {ti : TIp} {f : PV → PV → Option PV} {pos' pos : Pos} (ho : ∀ X, Good Γ X → PIp X op ti) (hs : SIp ti f) (he : EX Γ X e te d) (hi : X.N[i]? = some x := by rfl) (hx : Loc X.env.scope x := by first | exact Or.inl rfl | exact Or.inr rfl)
    (hf : X.fn x = true ∨ X.env.scope.names.lookup x = some .local := by first | exact .inl rfl | exact .inr rfl | assumption) : ES Γ X (.AugAssign (.Name x pos') op e pos) (tAug i te ti) (sAug i d f) := ⟨fun g => ps_aug g.nd hi hx (he.pe g) (ho X g) hf, ⟨fun W env σ st fl env' st' hE hS hd D hD => by
  unfold sAug at hd
  split at hd
  · rename_i p hp
    obtain ⟨⟨y, st1⟩, e1, hd⟩ := Option.bind_eq_some_iff.mp hd
    obtain ⟨q, e2, hd⟩ := Option.bind_eq_some_iff.mp hd
    obtain ⟨z, e3, hd⟩ := Option.map_eq_some_iff.mp hd
    cases hd
    obtain ⟨u, h1, h2⟩ := hE.sl i _ hp
    refine ⟨u, h1, he.snd.run W env σ st y _ hE hS e1 _ fun W1 v E1 S1 R1 => ?_⟩
    obtain ⟨W2, E2, S2, R2, H2⟩ := pv_at S1 E1 R1 e2
    rw [← H2]
    refine hs.run Γ W2 p q u v z (RV_ext E2.toExt _ _ h2) R2 e3 _ fun w rw' => ?_
    have hil : i < σ.length := (List.getElem?_eq_some_iff.mp h1).1
    exact hD W2 _ E2.toExt S2 ((hE.ext E2).set (s := .v z) ⟨w, by rw [List.getElem?_set_self hil], rw'⟩)
  · cases hd⟩⟩
/-- o[i], by values -/
def fGet (c : Cont) (i : PV) : Option PV := match c, i with
  | .lst xs, .int k => atI xs k
  | .dK kvs, i => i.key.bind fun k => valP kvs k
  | .dT kvs, i => i.keyT.bind fun k => valP kvs k
  | _, _ => none
def rGetL : V → V → Hp → VK → Prop := fun o i H Q => ∃ p xs k v, o = .ref p ∧ i = .int k ∧ H p = some (.lst xs) ∧ atI xs k = some v ∧ Q v H
theorem get_list : PGet X rGetL := by
  intro pins s σ H o i ov iv Q I ro ri h
  obtain ⟨p, xs, k, z, rfl, rfl, hp, he, q⟩ := h
  cases ro
  obtain ⟨t, rfl⟩ := ri
  obtain ⟨its, r, pl, hz⟩ := I.list (.inl (.inl hp))
  obtain ⟨j, h1, h2, h3, h4, h5⟩ := atI_get he
  obtain ⟨w, ew, rw'⟩ := r.get h2
  have hl := r.length
  have hn := line63
  have fin : EP X pins σ Q w s := ⟨z, H, I, rw', q⟩
  by_cases h0 : 0 ≤ k
  · have hj : k.toNat = j := by
      rw [seqIndex_of h0 h5] at h1
      exact Option.some.inj h1
    exact wpAny_getItem_list pl.isList h0 (by omega) (by rw [hj]; simpa using ew) fin
  · have hj : (k + (its.toArray.size : Int)).toNat = j := by
      rw [seqIndex_neg (by omega) h4] at h1
      rw [List.size_toArray, ← hl]
      exact Option.some.inj h1
    exact wpAny_getItem_list_neg pl.isList (by omega) (by rw [List.size_toArray] <;> omega) (by omega) (by rw [hj]; simpa using ew) fin
def rGetD : V → V → Hp → VK → Prop := fun o i H Q => ∃ a v, o = .ref a ∧ DGet H a i (some v) ∧ Q v H
theorem get_dict (hu : X.A.units + 1 < cLine) : PGet X rGetD := by
  intro pins s σ H o i ov iv Q I ro ri h
  obtain ⟨a, z, rfl, g, q⟩ := h
  cases ro
  exact d_getItem hu I g ri fun w' s3 I3 rw' => ⟨z, H, I3, rw', q⟩
def rGetA : V → V → Hp → VK → Prop := fun o i H Q => rGetL o i H Q ∨ rGetD o i H Q
theorem pg_getA (g : Good Γ X) : PGet X rGetA := fun pins s σ H o i ov iv Q I ro ri q => q.elim (get_list pins s σ H o i ov iv Q I ro ri) (get_dict (by have := g.un; omega) pins s σ H o i ov iv Q I ro ri)
theorem fGet_at {a : Addr} {c : Cont} {i z : PV} {iv : V} (hc : CtAt K W a c) (ri : RV K W i iv) (e : fGet c i = some z) (Q : VK) (hQ : ∀ w, RV K W z w → Q w W.H) : rGetA (.ref a) iv W.H Q := by
  unfold fGet at e
  split at e
  · rename_i xs k
    obtain ⟨us, h1, h2⟩ := hc
    unfold RV at ri
    subst ri
    obtain ⟨w, g1, g2⟩ := atI_rv h2 e
    exact .inl ⟨a, us, k, w, rfl, rfl, h1, g1, hQ w g2⟩
  · rename_i kvs
    obtain ⟨k, e1, e⟩ := Option.bind_eq_some_iff.mp e
    obtain ⟨us, h1, h2⟩ := hc
    rw [key_at ri e1]
    rcases val_zip k h2 with ⟨q, w, q1, q2, q3⟩ | ⟨q1, _⟩
    · rw [e] at q1; cases q1
      exact .inr ⟨a, w, rfl, .inl ⟨_, k, .inl h1, rfl, q2.symm⟩, hQ w q3⟩
    · rw [e] at q1; cases q1
  · rename_i kvs
    obtain ⟨k, e1, e⟩ := Option.bind_eq_some_iff.mp e
    obtain ⟨us, h1, h2⟩ := hc
    obtain ⟨b, rfl, eb⟩ := keyT_at ri e1
    rcases val_zip k h2 with ⟨q, w, q1, q2, q3⟩ | ⟨q1, _⟩
    · rw [e] at q1; cases q1
      exact .inr ⟨a, w, rfl, .inr ⟨_, k, b, .inl h1, rfl, eb, q2.symm⟩, hQ w q3⟩
    · rw [e] at q1; cases q1
  · cases e
/-- o[i] op= e -/
def sAugS (pl : DPl) (di de : DX) (f : PV → PV → Option PV) : DS := fun env st => (pl env st).bind fun r => (di env r.2).bind fun s => s.1.pv.bind fun i => (plGet env s.2 r.1).bind fun c => (fGet c i).bind fun old => (de env s.2).bind fun q => q.1.pv.bind fun y =>
  (f old y).bind fun z => (plGet env q.2 r.1).bind fun c2 => (fPut c2 i z).map fun c' => (.nx, plSet env q.2 c' r.1)
theorem st_augS {o i e : Expr} {tp ti te : TE} {pl : DPl} {di de : DX} {op : Operator} {tip : TIp} {f : PV → PV → Option PV} {tpos pos : Pos} (hop : ∀ X, Good Γ X → PIp X op tip) (hs : SIp tip f) (ho : EPl Γ X o tp pl) (hi : EX Γ X i ti di) (he : EX Γ X e te de)
    (ha : ∀ ov iv new, augStore i ov iv new = (do holding [new, ov, iv] (setItem ov iv new); release [new, ov, iv] []; pure .next) := by intros; rfl) :
    ES Γ X (.AugAssign (.Subscript o i tpos) op e pos) (tAugS tp ti te rGetA tip rSetA) (sAugS pl di de f) := ⟨fun g => ps_augS (ho.pe g) (hi.pe g) (pg_getA g) (he.pe g) (hop X g) (ps_setA g) ha, ⟨fun W env σ st fl env' st' hE hS hd D hD => by
  unfold sAugS at hd
  obtain ⟨⟨q, st1⟩, e1, hd⟩ := Option.bind_eq_some_iff.mp hd
  obtain ⟨⟨x, st2⟩, e2, hd⟩ := Option.bind_eq_some_iff.mp hd
  obtain ⟨ip, e3, hd⟩ := Option.bind_eq_some_iff.mp hd
  obtain ⟨c, e4, hd⟩ := Option.bind_eq_some_iff.mp hd
  obtain ⟨old, e5, hd⟩ := Option.bind_eq_some_iff.mp hd
  obtain ⟨⟨y, st3⟩, e6, hd⟩ := Option.bind_eq_some_iff.mp hd
  obtain ⟨yp, e7, hd⟩ := Option.bind_eq_some_iff.mp hd
  obtain ⟨z, e8, hd⟩ := Option.bind_eq_some_iff.mp hd
  obtain ⟨c2, e9, hd⟩ := Option.bind_eq_some_iff.mp hd
  obtain ⟨c', e10, hd⟩ := Option.map_eq_some_iff.mp hd
  refine ho.snd.run W env σ st q st1 hE hS e1 _ fun W1 b E1 S1 A1 => ?_
  refine hi.snd.run W1 env σ st1 x st2 (hE.ext E1) S1 e2 _ fun W2 u E2 S2 R2 => ?_
  obtain ⟨W3, E3, S3, R3, H3⟩ := pv_at S2 E2 R2 e3
  have En3 := hE.ext (E1.trans E3)
  have A3 := plAt_ext E3 A1
  rw [← H3]
  refine fGet_at (plGet_at En3 S3 A3 e4) R3 e5 _ fun w rw' => ?_
  refine he.snd.run W3 env σ st2 y st3 En3 S3 e6 _ fun W4 v E4 S4 R4 => ?_
  obtain ⟨W5, E5, S5, R5, H5⟩ := pv_at S4 E4 R4 e7
  rw [← H5]
  refine hs.run Γ W5 old yp w v z (RV_ext E5.toExt _ _ rw') R5 e8 _ fun nw rnw => ?_
  have En5 := En3.ext E5
  have A5 := plAt_ext E5 A3
  refine fPut_at (plGet_at En5 S5 A5 e9) (RV_ext E5.toExt _ _ R3) rnw (plAt_nfrz En5 S5 A5 e9).1 e10 _ fun o hc => ?_
  obtain ⟨w1, w2, w3⟩ := pl_write En5 S5 A5 e9 hc
  have h0 : Fl.nx = fl := congrArg (·.1) hd
  have h1 : (plSet env st3 c' q).1 = env' := congrArg (·.2.1) hd
  have h2 : (plSet env st3 c' q).2 = st' := congrArg (·.2.2) hd
  subst h0
  rw [h2] at w2
  rw [h1] at w3
  exact hD (W5.put b o) σ ((E1.trans (E3.trans E5)).toExt.trans w1) w2 w3⟩⟩
end
end DD
/-! DSetT -/
namespace DD
open PySem PySem.Spec PyProof.Rows L2
section
variable {P : Program} {w : PySem.World} {A : Around} {E : Value → Shared → Prop} {s : Shared}
/-- set(l), t a tuple of ints -/
theorem set_of_tup {l : Addr} {its : Array Value} (ns : List Int) {Q : Value → Shared → Prop} (hh : A.handled = none) (hl : s.heap.IsTuple l its) (hi : IntsAre its.toList ns) (hb : ns.length + 1 < scanBound)
    (h : ∀ (h' : Heap) (tk c : Nat), SetR w h' s.heap.objs.size (fun j => decide (j ∈ ns)) c → c ≤ ns.length → (∀ b o, s.heap.get? b = some o → h'.get? b = some o) → Q (.ref s.heap.objs.size) { s with heap := h', toks := tk }) :
    wpAny (model P w) A (call (.type "set") [.ref l]) Q E s := by
  have hz : its.size = ns.length := by have q := IntsAre.length hi; rwa [Array.length_toList] at q
  have ⟨c, tl, hmro⟩ := F.called_set.mro
  have g1 := F.called_set.made
  have g2 := F.called_set.sub
  refine wpAny_call (codeAny_of_tree ?_); show wpAny _ _ (callAny (.type "set") _) _ _ _
  refine wpAny_pure ⟨Code.quiet_builtin _ (by decide +kernel), codeAny_builtin F.entry_type_call ?_⟩
  rw [Around.under_plain (weight_type_call_type "set" [.ref l] []) rfl]
  have g3 := F.called_set.notType; have g4 := F.called_set.canCreate; have g5 := F.typeCall_set_1 (.ref l)
  repeat (any_goals (first | assumption | wp_step))
  refine codeAny_mono (code_set_led1 (.ref l) (E := E) (Q₁ := fun ob z => ob = .ref s.heap.objs.size ∧ z = { s with heap := s.heap.push (es0 w) }) ⟨rfl, rfl⟩) fun r z hr => ?_
  cases r with
  | error e => exact hr
  | ok fl => cases fl with
    | ret ob =>
      obtain ⟨rfl, rfl⟩ := hr
      have hS : (s.heap.push (es0 w)).get? s.heap.objs.size = some (es0 w) := Heap.get?_push_size _ rfl
      have hT : Shared.TypeIs { s with heap := s.heap.push (es0 w) } (.ref s.heap.objs.size) "set" := ⟨_, hS, rfl⟩
      have g6 := F.called_set.init.lookup; have g7 := F.called_set.init.bind (.ref s.heap.objs.size)
      repeat (any_goals (first | assumption | wp_step))
      refine codeAny_mono (codeAny_call_builtin (R := wants (fun r z => r = .none ∧ ∃ h' tk c, z = { s with heap := h', toks := tk } ∧ SetR w h' s.heap.objs.size (fun j => decide (j ∈ ns)) c ∧ c ≤ ns.length ∧ (∀ b o, s.heap.get? b = some o → h'.get? b = some o)) E)
        F.called_set.init.plain F.entry_set_init (check_set_init_1 hT ?_)) fun r2 z2 hr2 => ?_
      · obtain ⟨⟨oc, od, odt, osl⟩, hol, hcl, nl, hdl⟩ := id hl
        simp only at hcl hdl
        subst hcl; subst hdl
        have hol2 : (s.heap.push (es0 w)).get? l = some { cls := .type "tuple", dict := od, data := .seq its nl, slots := osl } := Heap.get?_push_of_some _ hol
        have g8 := F.sub_tuple_set; have g9 := F.sub_tuple_frozenset
        have ne : (Value.type "tuple" == Value.type "dict") = false := by decide
        have hl1 : (s.heap.push (es0 w)).IsTuple l its := hl.push _
        unfold Builtin.«set.__init__» noKeywords Builtin.Frozenset.updateFrom
        generalize hPI : pyIter = PI
        wp_walk
        subst hPI
        refine wpAny_pyIter_tuple hl1 (wpAny_bind (wpAny_runValue ?_))
        have lS : l < s.heap.objs.size := Heap.lt_size hol
        have h3 : A.in1.in1.in1.handled = none := by simp [hh]
        have z1 : (s.heap.push (es0 w)).objs.size = s.heap.objs.size + 1 := Heap.size_push ..
        have nI : l ≠ (s.heap.push (es0 w)).objs.size := by rw [z1]; exact Nat.ne_of_lt (Nat.lt_succ_of_lt lS)
        have sf : s.heap.objs.size ∉ [(s.heap.push (es0 w)).objs.size, l] := by
          rw [z1]; simp only [List.mem_cons, List.not_mem_nil, or_false, not_or]; exact ⟨Nat.ne_of_lt (Nat.lt_succ_self _), Nat.ne_of_gt lS⟩
        have hval : ∀ (i : Nat) (v : Value), its[i]? = some v → ∃ k t, ns[i]? = some k ∧ v = .int k t := fun i v hv => by
          have hi' : i < ns.length := by rw [← hz]; exact (Array.getElem?_eq_some_iff.mp hv).1
          obtain ⟨t, e⟩ := PyProof.Rows.IntsAre.int_at hi i v (by rw [Array.getElem?_toList]; exact hv)
          refine ⟨ns[i], t, List.getElem?_eq_getElem hi', ?_⟩
          rw [e, List.getD_eq_getElem?_getD, List.getElem?_eq_getElem hi'] <;> rfl
        refine set_update_ints ((Walks.tuple h3 _ l nI its).toS) s.heap.objs.size sf ns hz hb hval (its.size - 0) 0 _ (by omega) (Nat.zero_le _) ⟨⟨_, Heap.get?_push_size _ rfl, rfl, rfl⟩, (hl1.push _)⟩ ?beg7 ?end7
        case beg7 => exact ⟨0, Nat.le_refl 0, setR_new_at (Heap.get?_push_of_some _ hS)⟩
        case end7 =>
          intro z c' hm hc hS'
          obtain ⟨h', gn, dr, tk, os⟩ := z
          have eg : gn = s.gens := hm.gens
          have ed : dr = s.drawn := hm.drawn
          have eo : os = s.os := hm.os
          subst eg ed eo
          show wpAny _ _ _ _ _ _
          refine wpAny_pure ?_
          show wpAny _ _ (ret Value.none) _ _ _
          refine wpAny_pure ⟨rfl, h', tk, c', rfl, hS', by rw [← hz]; exact hc, fun b o e => ?_⟩
          have b0 : b < s.heap.objs.size := Heap.lt_size e
          refine hm.heap b o ?_ (Heap.get?_push_of_some _ (Heap.get?_push_of_some _ e))
          rw [z1]; simp only [List.mem_cons, List.not_mem_nil, or_false, not_or]; exact ⟨Nat.ne_of_lt b0, Nat.ne_of_lt (Nat.lt_succ_of_lt b0)⟩
      · cases r2 with
        | error e => exact hr2
        | ok f2 => cases f2 with
          | ret r =>
            obtain ⟨rfl, h', tk, c', rfl, q1, q2, q3⟩ := hr2
            repeat (any_goals (first | assumption | wp_step))
            exact h _ _ _ q1 q2 q3
          | _ => exact hr2.elim
    | _ => exact hr.elim
end
end DD
/-! DFin -/
namespace DD
open PySem PySem.Spec PyProof.Rows L2

section
variable {Γ K : Ctx} {X : Cx} {W W' : World}
/-! ### set(ints) -/
def fSet2 : FN := fun xs st => match xs with
  | [x] => match x.lst st with
    | some ys => (ints? ys).bind fun ns => if ns.length ≤ 4000 then some (.o (.set (ddI ns))) else none
    | none => x.tup.bind fun ys => (ints? ys).bind fun ns => if ns.length ≤ 4000 then some (.o (.set (ddI ns))) else none
  | _ => none
def rSetLi (K : Ctx) : List V → Hp → VK → Prop := fun xs H Q => ∃ (l : Addr) (ns : List Int), xs = [.ref l] ∧ SqL K.K H l (ns.map V.int) ∧ ns.length ≤ 4000 ∧ ∀ p, H p = none → Q (.ref p) (upd H p (SetO K.w p (fun j => decide (j ∈ ns)) (ddI ns).length))
def rSetTu (K : Ctx) : List V → Hp → VK → Prop := fun xs H Q => ∃ (l : Addr) (ns : List Int), xs = [.ref l] ∧ SqT K.K H l (ns.map V.int) ∧ ns.length ≤ 4000 ∧ ∀ p, H p = none → Q (.ref p) (upd H p (SetO K.w p (fun j => decide (j ∈ ns)) (ddI ns).length))
theorem cr_setTu (hc : X.calm = true) : CallR X (.type "set") (fun xs H Q => ∃ (l : Addr) (ns : List Int), xs = [.ref l] ∧ SqT X.K H l (ns.map V.int) ∧ ns.length ≤ 4000 ∧ ∀ p, H p = none → Q (.ref p) (upd H p (SetO X.w p (fun j => decide (j ∈ ns)) (ddI ns).length))) := by
  intro pins s σ H xs us Q I r h
  obtain ⟨l, ns, rfl, hl, hn, q⟩ := h
  obtain ⟨u, rfl, ru⟩ := vals1 r
  cases ru
  obtain ⟨its, rv, pl, hz⟩ := I.tuple hl
  refine set_of_tup ns (I.ok.hd hc) pl (intsAre_of rv) (by unfold scanBound; omega) fun h' tk c hS hc' hk => ?_
  have e := setR_card hS
  subst e
  exact ⟨.ref s.heap.objs.size, _, I.laid (t' := tk) (fun b o e => hk b o e) (Nat.le_refl _) (setO_new hS), rfl, q _ (I.hok.fresh (Nat.le_refl _))⟩
def rSet2 (K : Ctx) : List V → Hp → VK → Prop := fun xs H Q => rSetLi K xs H Q ∨ rSetTu K xs H Q
theorem or_set2 : ∀ X, Good K X → CallR X (.type "set") (rSet2 K) := fun X g => (show CallR X (.type "set") (rSetLi K) by unfold rSetLi; rw [← g.K, ← g.w]; exact cr_setL g.calm).or (show CallR X (.type "set") (rSetTu K) by unfold rSetTu; rw [← g.K, ← g.w]; exact cr_setTu g.calm)
theorem s_set2 : SOpN K (rSet2 K) fSet2 := ⟨fun W0 W st xs us z hS hE r e Q hQ => by
  have fin : ∀ (ns : List Int) p, W.H p = none → z = .o (.set (ddI ns)) → Q (.ref p) (upd W.H p (SetO K.w p (fun j => decide (j ∈ ns)) (ddI ns).length)) := fun ns p hp hz => by
    subst hz
    have L := lay_ext (W := W) (o := SetO K.w p (fun j => decide (j ∈ ns)) (ddI ns).length) (t := .oth) hp
    refine hQ (W.lay p (SetO K.w p (fun j => decide (j ∈ ns)) (ddI ns).length) .oth) _ (hE.trans L) (lay_st hp hS) ⟨p, rfl, ⟨_, lay_at, nodup_ddI ns, fun i => ?_⟩, lay_T, hS.nold hp, none_back hE.toExt hp⟩
    rw [decide_eq_true_eq, mem_ddI]
  unfold fSet2 at e
  split at e
  · split at e
    · rename_i ys e1
      obtain ⟨ns, e2, e⟩ := Option.bind_eq_some_iff.mp e
      split at e
      · rename_i hl
        cases e
        obtain ⟨u, rfl, ru⟩ := r.one
        obtain ⟨a, vs, rfl, h2, h3⟩ := lst_at hS ru e1
        rw [ints_eq e2] at h3
        rw [RVs_ints.mp h3] at h2
        exact .inl ⟨a, ns, rfl, h2, hl, fun p hp => fin ns p hp rfl⟩
      · cases e
    · obtain ⟨ys, e1, e⟩ := Option.bind_eq_some_iff.mp e
      obtain ⟨ns, e2, e⟩ := Option.bind_eq_some_iff.mp e
      split at e
      · rename_i hl
        cases e
        obtain ⟨u, rfl, ru⟩ := r.one
        obtain ⟨a, vs, rfl, h2, h3⟩ := tup_at ru e1
        rw [ints_eq e2] at h3
        rw [RVs_ints.mp h3] at h2
        exact .inr ⟨a, ns, rfl, h2, hl, fun p hp => fin ns p hp rfl⟩
      · cases e
  · cases e⟩

/-! ### list(range(..)), tuple(range(..)) -/
abbrev DRg := DEnv → MS → Option ((Int × Int) × MS)
structure ERg (Γ : Ctx) (X : Cx) (e : Expr) (t : L2.St → Hp → (Int → Int → Hp → Prop) → Prop) (d : DRg) : Prop where
  pe : Good Γ X → PRg X e t
  snd : ∀ W env σ st a b st', REn Γ W env σ → RSt Γ W st → d env st = some ((a, b), st') → ∀ Q : Int → Int → Hp → Prop, (∀ W', ExtE W W' → RSt Γ W' st' → Q a b W'.H) → t σ W.H Q
def rg1 (a : DX) : DRg := fun env st => (a env st).bind fun r => r.1.int.map fun n => ((0, n), r.2)
def rg2 (a b : DX) : DRg := fun env st => (a env st).bind fun r => r.1.int.bind fun i => (b env r.2).bind fun q => q.1.int.map fun j => ((i, j), q.2)
theorem e_rg1 {a : Expr} {ta : TE} {d : DX} {p pos : Pos} (hg : Gl X "range") (hm : Γ.mg "range" = none) (ha : EX Γ X a ta d) (na : starEach [a] X.env = (false, eval a X.env) :: starEach [] X.env := by rfl) : ERg Γ X (.Call (.Name "range" p) [a] [] pos) (tRg1 ta) (rg1 d) :=
  ⟨fun g => prg_1 hg (by rw [g.mg]; exact hm) (ha.pe g) na, fun W env σ st i j st' hE hS hd Q hQ => by
  unfold rg1 at hd
  obtain ⟨⟨x, st1⟩, e1, hd⟩ := Option.bind_eq_some_iff.mp hd
  obtain ⟨n, e2, hd⟩ := Option.map_eq_some_iff.mp hd
  cases hd
  exact ha.snd.run W env σ st x _ hE hS e1 _ fun W1 u E1 S1 R1 => ⟨j, int_at R1 e2, hQ W1 E1 S1⟩⟩
theorem e_rg2 {a b : Expr} {ta tb : TE} {d d' : DX} {p pos : Pos} (hg : Gl X "range") (hm : Γ.mg "range" = none) (ha : EX Γ X a ta d) (hb : EX Γ X b tb d') (na : starEach [a, b] X.env = (false, eval a X.env) :: starEach [b] X.env := by rfl)
    (nb : starEach [b] X.env = (false, eval b X.env) :: starEach [] X.env := by rfl) (hp : (backTo pos (starEach [b] X.env)).any (·.1) = false := by rfl) : ERg Γ X (.Call (.Name "range" p) [a, b] [] pos) (tRg2 ta tb) (rg2 d d') :=
  ⟨fun g => prg_2 hg (by rw [g.mg]; exact hm) (ha.pe g) (hb.pe g) na nb hp, fun W env σ st i j st' hE hS hd Q hQ => by
  unfold rg2 at hd
  obtain ⟨⟨x, st1⟩, e1, hd⟩ := Option.bind_eq_some_iff.mp hd
  obtain ⟨n, e2, hd⟩ := Option.bind_eq_some_iff.mp hd
  obtain ⟨⟨y, st2⟩, e3, hd⟩ := Option.bind_eq_some_iff.mp hd
  obtain ⟨m, e4, hd⟩ := Option.map_eq_some_iff.mp hd
  cases hd
  exact ha.snd.run W env σ st x st1 hE hS e1 _ fun W1 u E1 S1 R1 => hb.snd.run W1 env σ st1 y _ (hE.ext E1) S1 e3 _ fun W2 v E2 S2 R2 => ⟨i, j, int_at (R1.ext E2) e2, int_at R2 e4, hQ W2 (E1.trans E2) S2⟩⟩
def rgP (a b : Int) : List PV := (List.range (b - a).toNat).map fun (i : Nat) => PV.int (a + (i : Int))
theorem rgP_rv {a b : Int} : RVs K W (rgP a b) (rgV a b) := by
  have e : rgP a b = ((List.range (b - a).toNat).map fun (i : Nat) => a + (i : Int)).map PV.int := by unfold rgP; rw [List.map_map]; rfl
  rw [e, RVs_ints, List.map_map]; rfl
def rgOk (a b : Int) : Prop := -(2 ^ 62) ≤ a ∧ a < 2 ^ 62 ∧ -(2 ^ 62) ≤ b ∧ b < 2 ^ 62 ∧ (b - a).toNat ≤ 2 ^ 24
instance {a b : Int} : Decidable (rgOk a b) := by unfold rgOk; infer_instance
def xListRg (d : DRg) : DX := fun env st => (d env st).bind fun r => if rgOk r.1.1 r.1.2 then some (.o (.lst (rgP r.1.1 r.1.2)), r.2) else none
theorem e_listRg {e : Expr} {t : L2.St → Hp → (Int → Int → Hp → Prop) → Prop} {d : DRg} {p pos : Pos} (hg : Gl X "list") (hm : Γ.mg "list" = none) (he : ERg Γ X e t d) (na : starEach [e] X.env = (false, eval e X.env) :: starEach [] X.env := by rfl) : EX Γ X (.Call (.Name "list" p) [e] [] pos) (tLstRg t) (xListRg d) :=
  ⟨fun g => pe_listRg g.calm hg (by rw [g.mg]; exact hm) (he.pe g) na, ⟨fun W env σ st x st' hE hS hd Q hQ => by
  unfold xListRg at hd
  obtain ⟨⟨⟨a, b⟩, st1⟩, e1, hd⟩ := Option.bind_eq_some_iff.mp hd
  split at hd
  · rename_i hok
    cases hd
    refine he.snd W env σ st a b _ hE hS e1 _ fun W1 E1 S1 => ⟨hok, fun p hp => ?_⟩
    obtain ⟨W2, E2, S2, R2, H2⟩ := new_lst S1 (rgP_rv (K := Γ) (W := W1) (a := a) (b := b)) hp
    rw [← H2]
    exact hQ W2 _ (E1.trans E2) S2 (R2.back E1.toExt)
  · cases hd⟩⟩
def xTupRg (d : DRg) : DX := fun env st => (d env st).bind fun r => if rgOk r.1.1 r.1.2 then some (.v (.tup (rgP r.1.1 r.1.2)), r.2) else none
theorem e_tupRg {e : Expr} {t : L2.St → Hp → (Int → Int → Hp → Prop) → Prop} {d : DRg} {p pos : Pos} (hg : Gl X "tuple") (hm : Γ.mg "tuple" = none) (he : ERg Γ X e t d) (na : starEach [e] X.env = (false, eval e X.env) :: starEach [] X.env := by rfl) : EX Γ X (.Call (.Name "tuple" p) [e] [] pos) (tTupRg t) (xTupRg d) :=
  ⟨fun g => pe_tupRg g.calm hg (by rw [g.mg]; exact hm) (he.pe g) na, ⟨fun W env σ st x st' hE hS hd Q hQ => by
  unfold xTupRg at hd
  obtain ⟨⟨⟨a, b⟩, st1⟩, e1, hd⟩ := Option.bind_eq_some_iff.mp hd
  split at hd
  · rename_i hok
    cases hd
    refine he.snd W env σ st a b _ hE hS e1 _ fun W1 E1 S1 => ⟨hok, fun p hp => ?_⟩
    obtain ⟨W2, E2, S2, R2, H2⟩ := new_tup S1 (rgP_rv (K := Γ) (W := W1) (a := a) (b := b)) hp
    rw [← H2]
    exact hQ W2 _ (E1.trans E2) S2 (R2.back E1.toExt)
  · cases hd⟩⟩

/-! ### a def's end, as it is -/
def finX : XV → Option XV
  | .v p => some (.v p)
  | .o c => some (.o c)
  | .b c => some (.o c)
theorem finX_ok : FinOk K finX := ⟨fun W W' st x z v hS hE ho r e => by
  cases x with
  | v q => cases e; exact ⟨W', hE, hS, r, rfl⟩
  | o c => exact finO_ok.run W W' st (.o c) z v hS hE ho r e
  | b c => exact finO_ok.run W W' st (.b c) z v hS hE ho r e⟩

/-! ### a block's names, by a decision -/
def blkB (N : List Str) (sc scope : Scope) (own : List (Str × Nat)) : Bool :=
  decide (scope.kind = .function) && scope.names.all (fun y => decide (scope.names.lookup y.1 = some y.2)) && own.all (fun p => decide (N[p.2]? = some p.1)) &&
  scope.names.all (fun y => !decide (y.2 = .free) || decide (sc.names.lookup y.1 = some .cell) || decide (sc.names.lookup y.1 = some .free)) &&
  scope.names.all (fun y => !(decide (y.2 = .local) || decide (y.2 = .cell)) || decide (y.1 ∈ own.map (·.1)) || decide (y.1 ∉ N))
theorem blk_of {N : List Str} {sc scope : Scope} {own : List (Str × Nat)} (h : blkB N sc scope own = true) : BlkOk N sc scope own := by
  unfold blkB at h
  simp only [Bool.and_eq_true, List.all_eq_true, decide_eq_true_eq, Bool.or_eq_true, Bool.not_eq_true', decide_eq_false_iff_not] at h
  obtain ⟨⟨⟨⟨h1, h2⟩, h3⟩, h4⟩, h5⟩ := h
  refine ⟨h1, h2, h3, fun y hy e => ?_, fun y hy e => ?_⟩
  · rcases h4 y hy with (z | z) | z
    · exact absurd e z
    · exact .inl z
    · exact .inr z
  · rcases h5 y hy with (z | z) | z
    · rw [← Bool.not_eq_true, Bool.or_eq_true, decide_eq_true_eq, decide_eq_true_eq] at z
      exact absurd e z
    · exact .inl z
    · exact .inr z
end
end DD
/-! DFin2 -/
namespace DD
open PySem PySem.Spec PyProof.Rows L2
section
variable {Γ K : Ctx} {X : Cx} {W W' : World}
/-- a promise that is never asked -/
theorem fn_none {P : Program} {w : PySem.World} {Kf : PySem.W.Frag} {mg : Str → Option Value} {base : Heap} {k n : Nat} {f : Addr} {fd : FuncData} {ps : List Str} : FnOk P w Kf mg base CX0 k f fd ps (spD Γ n fun _ _ => none) :=
  ⟨(fun vs H Q E h => by
    obtain ⟨_, _, _, _, _, _, _, _, _, _, _, h, _⟩ := h
    cases h), (fun A outer s H args us vs Q E _ _ _ _ h => by
    obtain ⟨_, _, _, _, _, _, _, _, _, _, _, h, _⟩ := h
    cases h)⟩
theorem fn_ok2 {x qual : Str} {st : Stmt} {f : Addr} {fd : FuncData} {N ps : List Str} {k n : Nat} {fin : XV → Option XV} {body : DS} {df : DF} (F : Fun Γ.K x qual st f fd) (S : FnScope N ps (defScope st)) (hf : FinOk Γ fin) (hn : ps.length ≤ N.length) (hdf : df = fnD N.length fin body) (hps : ps.length = n)
    (hbody : ∀ (cdv : Value) (A : Around) (outer : List Env) (s : Shared) (H : Hp) (E : XK), Room k (A.deeper (envOfC qual (defScope st) s.heap.objs.size f cdv)) →
      ∃ t, ESs Γ (cxOf CX0 Γ.P Γ.w Γ.K Γ.mg Γ.base N qual (defScope st) f cdv A outer s H E).nox (defBody st) t body) :
    FnOk Γ.P Γ.w Γ.K Γ.mg Γ.base CX0 (k + 1) f fd ps (spD Γ n df) := by
  subst hdf hps
  exact fn_ok F S hf hn hbody
theorem Df.mk' {x : Str} {f : Addr} {k : Nat} {ps : List Str} {df : DF} {fd : FuncData} (F : FnOk Γ.P Γ.w Γ.K Γ.mg Γ.base CX0 k f fd ps (spD Γ ps.length df)) (B : Binds Γ.K fd ps []) (m : Γ.mg x = some (.ref f)) (kp : PySem.W.keepIn Γ.K (.ref f) = true) : Df Γ x f k ps df := ⟨⟨fd, F, B⟩, m, kp⟩
theorem Dm.mk' {f : Addr} {k : Nat} {ps : List Str} {df : DF} {fd : FuncData} (F : FnOk Γ.P Γ.w Γ.K Γ.mg Γ.base CX0 k f fd ps (spD Γ ps.length df)) (B : Binds Γ.K fd ps []) : Dm Γ f k ps df := ⟨⟨fd, F, B⟩⟩
theorem e_globR {x : Str} {a : Addr} {p : PV} {pos : Pos} (hg : Gl X x) (hm : Γ.mg x = some (.ref a)) (h : ∀ W, RV Γ W p (.ref a)) (hd : (x == ("__debug__" : Str)) = false := by decide) : EX Γ X (.Name x pos) (tC (.ref a)) (xC p) := e_glob hg hm (v := .ref a) rfl h hd
theorem e_make {C f : Addr} {x : Str} {k : Nat} {ps : List Str} {df : DF} {e : Expr} {es : List Expr} {t : TA} {a : DA} {p pos : Pos} (M : Mk Γ.K C f) (hm : Γ.mg x = some (.ref C)) (F : Dm Γ f k ps df) (hr : Room (k + 1) X.A) (hg : Gl X x) (ha : EA Γ X (e :: es) t a)
    (hdb : (x == ("__debug__" : Str)) = false := by decide) (he : starEach (e :: es) X.env = (false, eval e X.env) :: starEach es X.env := by rfl) (hpl : (backTo pos (starEach es X.env)).any (·.1) = false := by rfl) :
    EX Γ X (.Call (.Name x p) (e :: es) [] pos) (tMake C (spD Γ ps.length df) [] E0 t) (xMake C df ps.length a) := ⟨fun g => by
  obtain ⟨fd, F1, B⟩ := F.in g
  exact pe_make (g.K ▸ M) F1 hr hg (by rw [g.mg]; exact hm) B .nil pass0 (ha.pe g) hdb he hpl, .make ha.snd⟩
end
end DD
/-! DStr -/
namespace DD
open PySem PySem.Spec PyProof.Rows L2
section
variable {Γ K : Ctx} {X : Cx} {W W' : World}
/-! ### for c in s -/
def strItems (s : Str) : List PV := s.cps.toList.map fun c => .str ⟨#[c]⟩
def iStr' (d : DX) : DI := fun env st => (d env st).bind fun r => match r.1 with
  | .v (.str s) => some (strItems s, r.2)
  | _ => none
theorem WOk.str {m : Bool} {W0 : World} {z : Str} : WOk K (Ex m W0) W (Its z) (strItems z) :=
  .of walk_str (by unfold strItems; simp) (fun _ _ => True.intro) fun W' i x H' e hs y hi => by
    obtain ⟨h1, c, h2, h3⟩ := y
    refine ⟨W', .str ⟨#[c]⟩, ?_, LayE.refl, h1.symm, ?_⟩
    · unfold strItems
      rw [List.getElem?_map, Array.getElem?_toList, h2]; rfl
    · rw [h3]; unfold RV; rfl
theorem i_str (m : Bool) {tg e : Expr} {te : TE} {d : DX} (h : EX Γ X e te d) : EI Γ X m tg e (iStr te) (iStr' d) :=
  ⟨fun g => pi_str (h.pe g), ⟨fun W env σ st xs st' hE hS hd R hR => by
  unfold iStr' at hd
  obtain ⟨⟨x, st1⟩, e1, hd⟩ := Option.bind_eq_some_iff.mp hd
  refine h.snd.run W env σ st x _ hE hS e1 _ fun W1 u E1 S1 R1 => ?_
  simp only at hd
  split at hd
  · rename_i s
    cases hd
    have R1 : RV Γ W1 (.str s) u := R1
    unfold RV at R1
    exact ⟨s, R1, hR W1 _ E1 S1 WOk.str⟩
  · cases hd⟩⟩
end
end DD
/-! K00a -/
namespace K00
open PySem PySem.Spec PyProof.Rows L2 DD
/-! ### the text -/
def top (i : Nat) : Stmt := PySem.Challenge.pw_sevenpedals_k00_lots_turned_upside_down.main.body.getD i (.Pass ⟨0, 0, 0, 0⟩)
abbrev s_is_number : Stmt := top 5
abbrev s_is_index : Stmt := top 6
abbrev s_is_name : Stmt := top 7
abbrev s_is_sized : Stmt := top 8
abbrev s_is_letter : Stmt := top 10
abbrev s_is_tuple_of : Stmt := top 9
abbrev s_is_harp_form : Stmt := top 11
abbrev s_check_number : Stmt := top 22
abbrev s_check_letters : Stmt := top 23
abbrev s_checked_harp : Stmt := top 24
abbrev s_letters_many : Stmt := top 25
abbrev s_bases_of : Stmt := top 28
abbrev s_givers : Stmt := top 29
abbrev s_classes_of : Stmt := top 30
abbrev s_position_for : Stmt := top 31
abbrev s_Matching___init__ : Stmt := inClass (top 32) 0
abbrev s_Matching_put : Stmt := inClass (top 32) 1
abbrev s_Matching_setting : Stmt := inClass (top 32) 2
abbrev s_setting_for : Stmt := top 33
abbrev s_is_had : Stmt := top 34
abbrev s_letters_in : Stmt := top 35
abbrev s_within : Stmt := top 36
abbrev s_arcs : Stmt := top 37
abbrev s_over_full : Stmt := top 38
abbrev s_is_over_full : Stmt := top 39
abbrev s__law_bag : Stmt := top 41
abbrev s__law_take : Stmt := top 42
abbrev s__law_some : Stmt := top 43
abbrev s__law_mixed : Stmt := top 44
abbrev s__law_same : Stmt := top 45
abbrev s__law_names : Stmt := top 46
abbrev s__law_letters : Stmt := top 47
abbrev s__law_harp : Stmt := top 48
abbrev s__law_flip_harp : Stmt := top 49
abbrev s__law_lot : Stmt := top 50
abbrev s__law_givers : Stmt := top 51
abbrev s__law_arcs : Stmt := top 52
abbrev s__law_inside : Stmt := top 53
abbrev s__law_can_give : Stmt := top 54
abbrev s__law_flip_arc : Stmt := top 55
abbrev s__law_is_lot_told : Stmt := top 56
abbrev s_law : Stmt := top 57
/-- the places of what the top has made -/
structure Ad where
  is_number : Addr
  is_index : Addr
  is_name : Addr
  is_sized : Addr
  is_letter : Addr
  is_tuple_of : Addr
  is_harp_form : Addr
  check_number : Addr
  check_letters : Addr
  checked_harp : Addr
  letters_many : Addr
  bases_of : Addr
  givers : Addr
  classes_of : Addr
  position_for : Addr
  Matching___init__ : Addr
  Matching_put : Addr
  Matching_setting : Addr
  setting_for : Addr
  is_had : Addr
  letters_in : Addr
  within : Addr
  arcs : Addr
  over_full : Addr
  is_over_full : Addr
  _law_bag : Addr
  _law_take : Addr
  _law_some : Addr
  _law_mixed : Addr
  _law_same : Addr
  _law_names : Addr
  _law_letters : Addr
  _law_harp : Addr
  _law_flip_harp : Addr
  _law_lot : Addr
  _law_givers : Addr
  _law_arcs : Addr
  _law_inside : Addr
  _law_can_give : Addr
  _law_flip_arc : Addr
  _law_is_lot_told : Addr
  law : Addr
  Matching : Addr
theorem b_abs : bootBuiltins "abs" = some (.builtin "abs") := by decide +kernel
theorem b_all : bootBuiltins "all" = some (.builtin "all") := by decide +kernel
theorem b_bool : bootBuiltins "bool" = some (.type "bool") := by decide +kernel
theorem b_dict : bootBuiltins "dict" = some (.type "dict") := by decide +kernel
theorem b_enumerate : bootBuiltins "enumerate" = some (.type "enumerate") := by decide +kernel
theorem b_int : bootBuiltins "int" = some (.type "int") := by decide +kernel
theorem b_isinstance : bootBuiltins "isinstance" = some (.builtin "isinstance") := by decide +kernel
theorem b_len : bootBuiltins "len" = some (.builtin "len") := by decide +kernel
theorem b_list : bootBuiltins "list" = some (.type "list") := by decide +kernel
theorem b_max : bootBuiltins "max" = some (.builtin "max") := by decide +kernel
theorem b_range : bootBuiltins "range" = some (.type "range") := by decide +kernel
theorem b_set : bootBuiltins "set" = some (.type "set") := by decide +kernel
theorem b_sorted : bootBuiltins "sorted" = some (.builtin "sorted") := by decide +kernel
theorem b_str : bootBuiltins "str" = some (.type "str") := by decide +kernel
theorem b_tuple : bootBuiltins "tuple" = some (.type "tuple") := by decide +kernel
theorem b_zip : bootBuiltins "zip" = some (.type "zip") := by decide +kernel
def p_POSITIONS : PV := .rot [PV.int (-1), PV.int 0, PV.int 1]
def p_RESERVED : PV := .rot [PV.str "hands", PV.str "left", PV.str "letter", PV.str "note", PV.str "right", PV.str "round", PV.str "strings", PV.str "ticks"]
/-! ### what the defs do -/
def d_is_number (A : Ad) : DS :=
  (sRet (xAnd (xApp fIsi (aCons (xVar 0) (aCons (xC (PV.ty "int")) aNil))) (xNot (xApp fIsi (aCons (xVar 0) (aCons (xC (PV.ty "bool")) aNil))))))
def df_is_number (A : Ad) : DF := fnD 1 finX (d_is_number A)
def d_is_index (A : Ad) : DS :=
  (sRet (xAnd (xCall (df_is_number A) 1 (aCons (xVar 0) aNil)) (xBin fGe (xVar 0) (xC (PV.int 0)))))
def df_is_index (A : Ad) : DF := fnD 1 finX (d_is_index A)
def d_is_name (A : Ad) : DS :=
  (sSeq (sIf (tOr' (tNot' (tB' (xApp fIsi (aCons (xVar 0) (aCons (xC (PV.ty "str")) aNil))))) (tOr' (tNot' (tB' (xChain fLe fLe (xC (PV.int 2)) (xApp fLen (aCons (xVar 0) aNil)) (xC (PV.int 8))))) (tB' (xBin (fIn false) (xVar 0) (xC p_RESERVED))))) (sRet (xC (PV.bl false))) sNil)
    (sRet (xApp fAll (aCons (xLc (iStr' (xVar 0)) [1] (gName' 1) tTrue (xBin (fIn false) (xVar 1) (xC (PV.str "abcdefghijklmnopqrstuvwxyz")))) aNil))))
def df_is_name (A : Ad) : DF := fnD 2 finX (d_is_name A)
def d_is_sized (A : Ad) : DS :=
  (sRet (xAnd (xApp fIsi (aCons (xVar 0) (aCons (xC (PV.ty "tuple")) aNil))) (xBin fEq (xApp fLen (aCons (xVar 0) aNil)) (xVar 1))))
def df_is_sized (A : Ad) : DF := fnD 2 finX (d_is_sized A)
def d_is_letter (A : Ad) : DS :=
  (sRet (xAnd (xCall (df_is_sized A) 2 (aCons (xVar 0) (aCons (xC (PV.int 3)) aNil))) (xAnd (xCall (df_is_name A) 1 (aCons (xBin fIx (xVar 0) (xC (PV.int 0))) aNil)) (xAnd (xCall (df_is_index A) 1 (aCons (xBin fIx (xVar 0) (xC (PV.int 1))) aNil)) (xCall (df_is_index A) 1 (aCons (xBin fIx (xVar 0) (xC (PV.int 2))) aNil))))))
def df_is_letter (A : Ad) : DF := fnD 1 finX (d_is_letter A)
def S_is_tuple_of (A : Ad) : Addr → Option (Nat × DF) := fun a => if a = A.is_letter then some (1, df_is_letter A) else none
def d_is_tuple_of (A : Ad) : DS :=
  (sRet (xAnd (xApp fIsi (aCons (xVar 0) (aCons (xC (PV.ty "tuple")) aNil))) (xApp fAll (aCons (xLc (iSeq false (xVar 0)) [2] (gName' 2) tTrue (xCallS (S_is_tuple_of A) 1 (aCons (xVar 2) aNil))) aNil))))
def df_is_tuple_of (A : Ad) : DF := fnD 3 finX (d_is_tuple_of A)
def d_is_harp_form (A : Ad) : DS :=
  (sSeq (sIf (tOr' (tNot' (tB' (xCall (df_is_sized A) 2 (aCons (xVar 0) (aCons (xC (PV.int 5)) aNil))))) (tNot' (tB' (xCall (df_is_tuple_of A) 2 (aCons (xBin fIx (xVar 0) (xC (PV.int 1))) (aCons (xC (PV.ref A.is_letter)) aNil)))))) (sRet (xC (PV.bl false))) sNil)
    (sRet (xApp fAll (aCons (xLc (iSeq false (xTup (aCons (xC (PV.int 0)) (aCons (xC (PV.int 2)) (aCons (xC (PV.int 3)) (aCons (xC (PV.int 4)) aNil)))))) [1] (gName' 1) tTrue (xCall (df_is_index A) 1 (aCons (xBin fIx (xVar 0) (xVar 1)) aNil))) aNil))))
def df_is_harp_form (A : Ad) : DF := fnD 2 finX (d_is_harp_form A)
def d_check_number (A : Ad) : DS :=
  (sSeq (sIf (tB' (xBin fLt (xVar 1) (xVar 2))) sNever sNil)
    (sIf (tB' (xBin fGt (xVar 1) (xVar 3))) sNever sNil))
def df_check_number (A : Ad) : DF := fnD 4 finX (d_check_number A)
def d_check_letters (A : Ad) : DS :=
  (sSeq (sPar2 1 2 (pCons .O xDictK (pCons .V (xUn fNeg (xC (PV.int 1))) pNil)))
    (sFor (iSeq true (xBin fIx (xVar 0) (xC (PV.int 1)))) (gTup' 3 (gsCons (gName' 3) (gsCons (gName' 4) (gsCons (gName' 5) gsNil)))) (sSeq (sIf (tB' (xBin (fIn false) (xVar 3) (xVar 1))) sNever sNil)
    (sSeq (sIf (tOr' (tB' (xBin fLe (xVar 4) (xVar 2))) (tB' (xBin fGe (xVar 4) (xBin fIx (xVar 0) (xC (PV.int 0)))))) sNever sNil)
    (sSeq (sIf (tB' (xBin fGt (xVar 5) (xC (PV.int 1)))) sNever sNil)
    (sParG 2 (pCons .V (xC (PV.bl true)) (pCons .V (xVar 4) pNil)) (gmCons (gmSub (pVar 1) (xVar 3)) (gmCons (gmOf (gName' 2)) gmNil))))))))
def df_check_letters (A : Ad) : DF := fnD 6 finX (d_check_letters A)
def d_checked_harp (A : Ad) : DS :=
  (sSeq (sIf (tNot' (tB' (xCall (df_is_harp_form A) 1 (aCons (xVar 0) aNil)))) sNever sNil)
    (sSeq (sDrop (xCall (df_check_number A) 4 (aCons (xC (PV.str "round")) (aCons (xBin fIx (xVar 0) (xC (PV.int 0))) (aCons (xC (PV.int 2)) (aCons (xC (PV.int 24)) aNil))))))
    (sSeq (sDrop (xCall (df_check_number A) 4 (aCons (xC (PV.str "letters")) (aCons (xApp fLen (aCons (xBin fIx (xVar 0) (xC (PV.int 1))) aNil)) (aCons (xC (PV.int 2)) (aCons (xC (PV.int 9)) aNil))))))
    (sSeq (sDrop (xCall (df_check_letters A) 1 (aCons (xVar 0) aNil)))
    (sSeq (sDrop (xCall (df_check_number A) 4 (aCons (xC (PV.str "strings")) (aCons (xBin fIx (xVar 0) (xC (PV.int 2))) (aCons (xC (PV.int 1)) (aCons (xC (PV.int 60)) aNil))))))
    (sSeq (sDrop (xCall (df_check_number A) 4 (aCons (xC (PV.str "fingers")) (aCons (xBin fIx (xVar 0) (xC (PV.int 3))) (aCons (xC (PV.int 1)) (aCons (xC (PV.int 5)) aNil))))))
    (sSeq (sDrop (xCall (df_check_number A) 4 (aCons (xC (PV.str "reach")) (aCons (xBin fIx (xVar 0) (xC (PV.int 4))) (aCons (xC (PV.int 0)) (aCons (xC (PV.int 59)) aNil))))))
    (sRet (xVar 0)))))))))
def df_checked_harp (A : Ad) : DF := fnD 1 finX (d_checked_harp A)
def d_letters_many (A : Ad) : DS :=
  (sRet (xApp fLen (aCons (xBin fIx (xVar 0) (xC (PV.int 1))) aNil)))
def df_letters_many (A : Ad) : DF := fnD 1 finX (d_letters_many A)
def d_bases_of (A : Ad) : DS :=
  (sRet (xApp fTuple (aCons (xLc (iSeq false (xBin fIx (xVar 0) (xC (PV.int 1)))) [1, 2, 3] (gTup' 3 (gsCons (gName' 1) (gsCons (gName' 2) (gsCons (gName' 3) gsNil)))) tTrue (xVar 2)) aNil)))
def df_bases_of (A : Ad) : DF := fnD 4 finX (d_bases_of A)
def d_givers (A : Ad) : DS :=
  (sRet (xApp fTuple (aCons (xLc (iEnum' false (aCons (xCall (df_bases_of A) 1 (aCons (xVar 0) aNil)) aNil)) [2, 3] (gTup' 2 (gsCons (gName' 2) (gsCons (gName' 3) gsNil))) (tB' (xBin fLe (xBin fMod (xBin fAdd (xBin fSub (xVar 1) (xVar 3)) (xC (PV.int 1))) (xBin fIx (xVar 0) (xC (PV.int 0)))) (xC (PV.int 2)))) (xVar 2)) aNil)))
def df_givers (A : Ad) : DF := fnD 4 finX (d_givers A)
def d_classes_of (A : Ad) : DS :=
  (sSeq (sSet .V 2 (xLc (iZip false (aCons (xCall (df_bases_of A) 1 (aCons (xVar 0) aNil)) (aCons (xVar 1) aNil))) [3, 4] (gTup' 2 (gsCons (gName' 3) (gsCons (gName' 4) gsNil))) tTrue (xBin fMod (xBin fAdd (xVar 3) (xVar 4)) (xBin fIx (xVar 0) (xC (PV.int 0))))))
    (sRet (xApp fTuple (aCons (xApp fSorted2 (aCons (xDc (iSeq false (xVar 2)) [5] (gName' 5) tTrue (xVar 5) (xC (PV.bl true))) aNil)) aNil))))
def df_classes_of (A : Ad) : DF := fnD 6 finX (d_classes_of A)
def d_position_for (A : Ad) : DS :=
  (sSeq (sFor (iSeq true (xC p_POSITIONS)) (gName' 3) (sIf (tB' (xBin fEq (xBin fMod (xBin fAdd (xBin fIx (xCall (df_bases_of A) 1 (aCons (xVar 0) aNil)) (xVar 1)) (xVar 3)) (xBin fIx (xVar 0) (xC (PV.int 0)))) (xVar 2))) (sRet (xVar 3)) sNil))
    (sRet (xC PV.non)))
def df_position_for (A : Ad) : DF := fnD 4 finX (d_position_for A)
def d_Matching___init__ (A : Ad) : DS :=
  (sParG 3 (pCons .V (xVar 1) (pCons .V (xVar 2) (pCons .N xDictK pNil))) (gmCons (gmFld A.Matching "harp" (xVar 0)) (gmCons (gmFld A.Matching "lot" (xVar 0)) (gmCons (gmFld A.Matching "held" (xVar 0)) gmNil))))
def df_Matching___init__ (A : Ad) : DF := fnD 3 finX (d_Matching___init__ A)
def d_Matching_put (A : Ad) (rec : DF) : DS :=
  (sSeq (sFor (iSeq true (xCall (df_givers A) 2 (aCons (xFld A.Matching "harp" (xVar 0)) (aCons (xVar 1) aNil)))) (gName' 3) (sIf (tB' (xBin (fIn true) (xVar 3) (xVar 2))) (sSeq (sAsgG (xC (PV.bl true)) (gmSub (pVar 2) (xVar 3)))
    (sIf (tOr' (tB' (xBin (fIn true) (xVar 3) (xFld A.Matching "held" (xVar 0)))) (tB' (xMeth A.Matching "put" rec 3 (xVar 0) (aCons (xBin fIx (xFld A.Matching "held" (xVar 0)) (xVar 3)) (aCons (xVar 2) aNil))))) (sSeq (sAsgG (xVar 1) (gmSub (pEx (xFld A.Matching "held" (xVar 0))) (xVar 3)))
    (sRet (xC (PV.bl true)))) sNil)) sNil))
    (sRet (xC (PV.bl false))))
def dr_Matching_put (A : Ad) : Nat → DF
  | 0 => fun _ _ => none
  | n + 1 => fnD 4 finX (d_Matching_put A (dr_Matching_put A n))
def df_Matching_put (A : Ad) : DF := dr_Matching_put A 12
def d_Matching_setting (A : Ad) : DS :=
  (sSeq (sIf (tNot' (tB' (xApp fAll (aCons (xLc (iSeq false (xFld A.Matching "lot" (xVar 0))) [3] (gName' 3) tTrue (xMeth A.Matching "put" (df_Matching_put A) 3 (xVar 0) (aCons (xVar 3) (aCons (xNew xDictK) aNil)))) aNil)))) (sRet (xC PV.non)) sNil)
    (sSeq (sSet .V 1 (xListRg (rg1 (xCall (df_letters_many A) 1 (aCons (xFld A.Matching "harp" (xVar 0)) aNil)))))
    (sRet (xApp fTuple (aCons (xLc (iSeq false (xVar 1)) [2] (gName' 2) tTrue (xIf (tB' (xBin (fIn false) (xVar 2) (xFld A.Matching "held" (xVar 0)))) (xCall (df_position_for A) 3 (aCons (xFld A.Matching "harp" (xVar 0)) (aCons (xVar 2) (aCons (xBin fIx (xFld A.Matching "held" (xVar 0)) (xVar 2)) aNil)))) (xC (PV.int 0)))) aNil)))))
def df_Matching_setting (A : Ad) : DF := fnD 4 finX (d_Matching_setting A)
def d_setting_for (A : Ad) : DS :=
  (sRet (xMeth A.Matching "setting" (df_Matching_setting A) 1 (xMake A.Matching (df_Matching___init__ A) 3 (aCons (xVar 0) (aCons (xVar 1) aNil))) aNil))
def df_setting_for (A : Ad) : DF := fnD 2 finX (d_setting_for A)
def d_is_had (A : Ad) : DS :=
  (sRet (xBin fIsNot (xCall (df_setting_for A) 2 (aCons (xVar 0) (aCons (xVar 1) aNil))) (xC PV.non)))
def df_is_had (A : Ad) : DF := fnD 2 finX (d_is_had A)
def d_letters_in (A : Ad) : DS :=
  (sSeq (sSet .V 2 (xCall (df_letters_many A) 1 (aCons (xVar 0) aNil)))
    (sRet (xApp fTuple (aCons (xLc (iRange1 (aCons (xBin fIx (xVar 1) (xC (PV.int 1))) aNil)) [3] (gName' 3) tTrue (xBin fMod (xBin fAdd (xBin fIx (xVar 1) (xC (PV.int 0))) (xVar 3)) (xVar 2))) aNil))))
def df_letters_in (A : Ad) : DF := fnD 4 finX (d_letters_in A)
def d_within (A : Ad) : DS :=
  (sSeq (sSet .V 3 (xCall (df_letters_in A) 2 (aCons (xVar 0) (aCons (xVar 2) aNil))))
    (sRet (xApp fTuple (aCons (xLc (iSeq false (xVar 1)) [4] (gName' 4) (tB' (xApp fAll (aCons (xLc (iSeq false (xCall (df_givers A) 2 (aCons (xVar 0) (aCons (xVar 4) aNil)))) [5] (gName' 5) tTrue (xBin (fIn false) (xVar 5) (xVar 3))) aNil))) (xVar 4)) aNil))))
def df_within (A : Ad) : DF := fnD 6 finX (d_within A)
def d_arcs (A : Ad) : DS :=
  (sSeq (sSet .V 1 (xCall (df_letters_many A) 1 (aCons (xVar 0) aNil)))
    (sSeq (sSet .V 2 (xLc2 (iRange1 (aCons (xVar 1) aNil)) [3, 4] (gName' 3) tTrue (iRange2 (aCons (xC (PV.int 1)) (aCons (xVar 1) aNil))) [4] (gName' 4) tTrue (xTup (aCons (xVar 3) (aCons (xVar 4) aNil)))))
    (sRet (xApp fTuple (aCons (xApp fSorted2 (aCons (xLst (aCons (xTup (aCons (xC (PV.int 0)) (aCons (xC (PV.int 0)) aNil))) (aCons (xTup (aCons (xC (PV.int 0)) (aCons (xVar 1) aNil))) (aStar (xVar 2) aNil)))) aNil)) aNil)))))
def df_arcs (A : Ad) : DF := fnD 5 finX (d_arcs A)
def d_over_full (A : Ad) : DS :=
  (sSeq (sFor (iSeq true (xCall (df_arcs A) 1 (aCons (xVar 0) aNil))) (gName' 2) (sIf (tB' (xBin fGt (xApp fLen (aCons (xCall (df_within A) 3 (aCons (xVar 0) (aCons (xVar 1) (aCons (xVar 2) aNil)))) aNil)) (xBin fIx (xVar 2) (xC (PV.int 1))))) (sRet (xVar 2)) sNil))
    (sRet (xC PV.non)))
def df_over_full (A : Ad) : DF := fnD 3 finX (d_over_full A)
def d_is_over_full (A : Ad) : DS :=
  (sSeq (sIf (tOr' (tNot' (tB' (xCall (df_is_sized A) 2 (aCons (xVar 2) (aCons (xC (PV.int 2)) aNil))))) (tOr' (tNot' (tB' (xCall (df_is_index A) 1 (aCons (xBin fIx (xVar 2) (xC (PV.int 0))) aNil)))) (tOr' (tNot' (tB' (xCall (df_is_index A) 1 (aCons (xBin fIx (xVar 2) (xC (PV.int 1))) aNil)))) (tB' (xBin (fIn true) (xVar 2) (xCall (df_arcs A) 1 (aCons (xVar 0) aNil))))))) (sRet (xC (PV.bl false))) sNil)
    (sRet (xBin fGt (xApp fLen (aCons (xCall (df_within A) 3 (aCons (xVar 0) (aCons (xVar 1) (aCons (xVar 2) aNil)))) aNil)) (xBin fIx (xVar 2) (xC (PV.int 1))))))
def df_is_over_full (A : Ad) : DF := fnD 3 finX (d_is_over_full A)
def d__law_bag (A : Ad) : DS :=
  (sRet (xLst (aCons (xC (PV.int 0)) (aCons (xC (PV.int 271828182)) (aCons (xC (PV.int 0)) (aCons (xLc (iSeq false (xSl (xVar 0) oNone (oSome (xC (PV.int 63))))) [1] (gName' 1) tTrue (xApp fAbs (aCons (xVar 1) aNil))) aNil))))))
def df__law_bag (A : Ad) : DF := fnD 2 finX (d__law_bag A)
def d__law_take (A : Ad) : DS :=
  (sSeq (sIf (tB' (xBin fEq (xBin fIx (xVar 0) (xC (PV.int 0))) (xC (PV.int 0)))) (sSeq (sSet .V 4 (xBin fIx (xBin fAdd (xSl (xBin fIx (xVar 0) (xC (PV.int 3))) (oSome (xBin fIx (xVar 0) (xC (PV.int 2)))) oNone) (xLst (aCons (xC (PV.int 0)) aNil))) (xC (PV.int 0))))
    (sSeq (sAugS (pVar 0) (xC (PV.int 2)) (xC (PV.int 1)) (fIpI (fun i j => i + j)))
    (sSeq (sIf (tB' (xBin fGe (xVar 4) (xBin fPow (xC (PV.int 10)) (xC (PV.int 18))))) (sAsgG (xVar 4) (gmSub (pVar 0) (xC (PV.int 0)))) sNil)
    (sSeq (sSet .V 5 (xBin fAdd (xBin fAdd (xBin fMul (xBin fIx (xVar 0) (xC (PV.int 1))) (xC (PV.int 48271))) (xBin fMod (xApp fIntC (aCons (xVar 4) aNil)) (xC (PV.int 2147483647)))) (xBin fMul (xC (PV.int 7919)) (xBin fIx (xVar 0) (xC (PV.int 2))))))
    (sAsgG (xBin fMod (xApp fIntC (aCons (xVar 5) aNil)) (xC (PV.int 2147483647))) (gmSub (pVar 0) (xC (PV.int 1)))))))) sNil)
    (sSeq (sIf (tB' (xBin fGt (xBin fIx (xVar 0) (xC (PV.int 0))) (xC (PV.int 0)))) (sSeq (sSet .V 6 (xBin fMod (xApp fIntC (aCons (xBin fIx (xVar 0) (xC (PV.int 0))) aNil)) (xVar 1)))
    (sSeq (sAsgG (xBin fDiv (xApp fIntC (aCons (xBin fIx (xVar 0) (xC (PV.int 0))) aNil)) (xVar 1)) (gmSub (pVar 0) (xC (PV.int 0))))
    (sRet (xVar 6)))) sNil)
    (sSeq (sSet .V 2 (xBin fMod (xApp fIntC (aCons (xBin fMul (xBin fAdd (xBin fIx (xVar 0) (xC (PV.int 1))) (xC (PV.int 1))) (xC (PV.int 39373))) aNil)) (xC (PV.int 1000000007))))
    (sSeq (sSet .V 3 (xBin fMod (xApp fIntC (aCons (xBin fMul (xBin fMod (xApp fIntC (aCons (xBin fMul (xVar 2) (xVar 2)) aNil)) (xC (PV.int 998244353))) (xC (PV.int 30011))) aNil)) (xC (PV.int 998244353))))
    (sRet (xBin fMod (xApp fIntC (aCons (xBin fDiv (xVar 3) (xC (PV.int 7))) aNil)) (xVar 1)))))))
def df__law_take (A : Ad) : DF := fnD 7 finX (d__law_take A)
def d__law_some (A : Ad) : DS :=
  (sRet (xBin fIx (xVar 1) (xCall (df__law_take A) 2 (aCons (xVar 0) (aCons (xApp fLen (aCons (xVar 1) aNil)) aNil)))))
def df__law_some (A : Ad) : DF := fnD 2 finX (d__law_some A)
def d__law_mixed (A : Ad) : DS :=
  (sSeq (sSet .O 2 (xLst aNil))
    (sSeq (sFor (iSeq true (xVar 1)) (gName' 3) (sMut "list" mInsert (pVar 2) (aCons (xCall (df__law_take A) 2 (aCons (xVar 0) (aCons (xBin fAdd (xApp fLen (aCons (xVar 2) aNil)) (xC (PV.int 1))) aNil))) (aCons (xVar 3) aNil))))
    (sRet (xVar 2))))
def df__law_mixed (A : Ad) : DF := fnD 4 finX (d__law_mixed A)
def d__law_same (A : Ad) : DS :=
  (sSeq (sSet .O 2 (xLst (aCons (xTup (aCons (xVar 0) (aCons (xVar 1) aNil))) aNil)))
    (sSeq (sFor (iRange1 (aCons (xC (PV.int 4000000)) aNil)) (gName' 3) (sSeq (sIf (tB' (xBin fEq (xVar 2) (xLst aNil))) (sRet (xC (PV.bl true))) sNil)
    (sSeq (sMutG "list" mPop (pVar 2) aNil (gmOf (gTup' 2 (gsCons (gName' 4) (gsCons (gName' 5) gsNil)))))
    (sIf (tB' (xApp fIsi (aCons (xVar 5) (aCons (xTup (aCons (xC (PV.ty "tuple")) (aCons (xC (PV.ty "list")) aNil))) aNil)))) (sSeq (sIf (tOr' (tB' (xBin fNe (xApp fIsi (aCons (xVar 4) (aCons (xC (PV.ty "tuple")) aNil))) (xApp fIsi (aCons (xVar 5) (aCons (xC (PV.ty "tuple")) aNil))))) (tOr' (tB' (xBin fNe (xApp fIsi (aCons (xVar 4) (aCons (xC (PV.ty "list")) aNil))) (xApp fIsi (aCons (xVar 5) (aCons (xC (PV.ty "list")) aNil))))) (tB' (xBin fNe (xApp fLen (aCons (xVar 4) aNil)) (xApp fLen (aCons (xVar 5) aNil)))))) (sRet (xC (PV.bl false))) sNil)
    (sMut "list" mExtend (pVar 2) (aCons (xLc (iRange1 (aCons (xApp fLen (aCons (xVar 5) aNil)) aNil)) [6] (gName' 6) tTrue (xTup (aCons (xBin fIx (xVar 4) (xVar 6)) (aCons (xBin fIx (xVar 5) (xVar 6)) aNil)))) aNil))) (sIf (tOr' (tB' (xBin fIs (xVar 5) (xC PV.non))) (tB' (xBin fIs (xVar 4) (xC PV.non)))) (sIf (tOr' (tB' (xBin fIsNot (xVar 4) (xC PV.non))) (tB' (xBin fIsNot (xVar 5) (xC PV.non)))) (sRet (xC (PV.bl false))) sNil) (sIf (tOr' (tB' (xBin fNe (xApp fIsi (aCons (xVar 4) (aCons (xC (PV.ty "bool")) aNil))) (xApp fIsi (aCons (xVar 5) (aCons (xC (PV.ty "bool")) aNil))))) (tB' (xBin fNe (xApp fIsi (aCons (xVar 4) (aCons (xC (PV.ty "int")) aNil))) (xApp fIsi (aCons (xVar 5) (aCons (xC (PV.ty "int")) aNil)))))) (sRet (xC (PV.bl false))) (sIf (tOr' (tB' (xBin fNe (xApp fIsi (aCons (xVar 4) (aCons (xC (PV.ty "str")) aNil))) (xApp fIsi (aCons (xVar 5) (aCons (xC (PV.ty "str")) aNil))))) (tB' (xBin fNe (xVar 4) (xVar 5)))) (sRet (xC (PV.bl false))) sNil)))))))
    (sRet (xC (PV.bl false)))))
def df__law_same (A : Ad) : DF := fnD 7 finX (d__law_same A)
def d__law_names (A : Ad) : DS :=
  (sSeq (sSet .V 2 (xLst (aCons (xC (PV.str "ab")) (aCons (xC (PV.str "abc")) (aCons (xC (PV.str "go")) (aCons (xC (PV.str "up")) (aCons (xC (PV.str "end")) (aCons (xC (PV.str "tick")) (aCons (xC (PV.str "down")) (aCons (xC (PV.str "zz")) (aCons (xC (PV.str "qxyzuvwk")) (aCons (xC (PV.str "pedals")) (aCons (xC (PV.str "step")) (aCons (xC (PV.str "lefty")) (aCons (xC (PV.str "ba")) (aCons (xC (PV.str "cab")) aNil))))))))))))))))
    (sRet (xSl (xCall (df__law_mixed A) 2 (aCons (xVar 0) (aCons (xVar 2) aNil))) oNone (oSome (xVar 1)))))
def df__law_names (A : Ad) : DF := fnD 3 finX (d__law_names A)
def d__law_letters (A : Ad) : DS :=
  (sSeq (sSet .V 3 (xCall (df__law_take A) 2 (aCons (xVar 0) (aCons (xBin fAdd (xBin fSub (xVar 1) (xVar 2)) (xC (PV.int 1))) aNil))))
    (sSeq (sSet .V 4 (xListRg (rg2 (xVar 3) (xBin fAdd (xVar 3) (xVar 2)))))
    (sSeq (sIf (tB' (xBin fEq (xCall (df__law_take A) 2 (aCons (xVar 0) (aCons (xC (PV.int 2)) aNil))) (xC (PV.int 0)))) (sSet .V 4 (xApp fSorted2 (aCons (xSl (xCall (df__law_mixed A) 2 (aCons (xVar 0) (aCons (xListRg (rg1 (xVar 1))) aNil))) oNone (oSome (xVar 2))) aNil))) sNil)
    (sRet (xApp fTuple (aCons (xLc (iZip false (aCons (xCall (df__law_names A) 2 (aCons (xVar 0) (aCons (xVar 2) aNil))) (aCons (xVar 4) aNil))) [5, 6] (gTup' 2 (gsCons (gName' 5) (gsCons (gName' 6) gsNil))) tTrue (xTup (aCons (xVar 5) (aCons (xVar 6) (aCons (xCall (df__law_take A) 2 (aCons (xVar 0) (aCons (xC (PV.int 2)) aNil))) aNil))))) aNil))))))
def df__law_letters (A : Ad) : DF := fnD 7 finX (d__law_letters A)
def d__law_harp (A : Ad) : DS :=
  (sSeq (sSet .V 2 (xBin fAdd (xC (PV.int 2)) (xCall (df__law_take A) 2 (aCons (xVar 0) (aCons (xBin fSub (xVar 1) (xC (PV.int 1))) aNil)))))
    (sSeq (sSet .V 3 (xApp fMax2 (aCons (xVar 2) (aCons (xCall (df__law_some A) 2 (aCons (xVar 0) (aCons (xLst (aCons (xC (PV.int 2)) (aCons (xC (PV.int 3)) (aCons (xC (PV.int 4)) (aCons (xC (PV.int 5)) (aCons (xC (PV.int 7)) (aCons (xC (PV.int 12)) (aCons (xC (PV.int 24)) aNil)))))))) aNil))) aNil))))
    (sSeq (sSet .V 4 (xCall (df__law_letters A) 3 (aCons (xVar 0) (aCons (xVar 3) (aCons (xVar 2) aNil)))))
    (sRet (xTup (aCons (xVar 3) (aCons (xVar 4) (aCons (xBin fAdd (xC (PV.int 1)) (xCall (df__law_take A) 2 (aCons (xVar 0) (aCons (xBin fMul (xC (PV.int 3)) (xVar 2)) aNil)))) (aCons (xBin fAdd (xC (PV.int 1)) (xCall (df__law_take A) 2 (aCons (xVar 0) (aCons (xC (PV.int 5)) aNil)))) (aCons (xCall (df__law_some A) 2 (aCons (xVar 0) (aCons (xLst (aCons (xC (PV.int 0)) (aCons (xC (PV.int 1)) (aCons (xC (PV.int 2)) (aCons (xC (PV.int 3)) (aCons (xC (PV.int 5)) (aCons (xC (PV.int 9)) (aCons (xC (PV.int 59)) aNil)))))))) aNil))) aNil))))))))))
def df__law_harp (A : Ad) : DF := fnD 5 finX (d__law_harp A)
def d__law_flip_harp (A : Ad) : DS :=
  (sSeq (sSet .V 1 (xApp fTuple (aCons (xLc (iSeq false (xRev (xBin fIx (xVar 0) (xC (PV.int 1))))) [2, 3, 4] (gTup' 3 (gsCons (gName' 2) (gsCons (gName' 3) (gsCons (gName' 4) gsNil)))) tTrue (xTup (aCons (xVar 2) (aCons (xBin fSub (xBin fSub (xBin fIx (xVar 0) (xC (PV.int 0))) (xC (PV.int 1))) (xVar 3)) (aCons (xVar 4) aNil))))) aNil)))
    (sRet (xTup (aCons (xBin fIx (xVar 0) (xC (PV.int 0))) (aCons (xVar 1) (aCons (xBin fIx (xVar 0) (xC (PV.int 2))) (aCons (xBin fIx (xVar 0) (xC (PV.int 3))) (aCons (xBin fIx (xVar 0) (xC (PV.int 4))) aNil))))))))
def df__law_flip_harp (A : Ad) : DF := fnD 5 finX (d__law_flip_harp A)
def d__law_lot (A : Ad) : DS :=
  (sSeq (sSet .O 2 (xLst aNil))
    (sSeq (sFor (iSeq true (xBin fIx (xVar 1) (xC (PV.int 1)))) (gTup' 3 (gsCons (gName' 4) (gsCons (gName' 5) (gsCons (gName' 6) gsNil)))) (sIf (tB' (xBin fGt (xCall (df__law_take A) 2 (aCons (xVar 0) (aCons (xC (PV.int 4)) aNil))) (xC (PV.int 0)))) (sMut "list" mAppend (pVar 2) (aCons (xBin fMod (xApp fIntC (aCons (xBin fSub (xBin fAdd (xVar 5) (xCall (df__law_take A) 2 (aCons (xVar 0) (aCons (xC (PV.int 3)) aNil)))) (xC (PV.int 1))) aNil)) (xBin fIx (xVar 1) (xC (PV.int 0)))) aNil)) sNil))
    (sSeq (sSet .V 3 (xCall (df__law_take A) 2 (aCons (xVar 0) (aCons (xC (PV.int 3)) aNil))))
    (sSeq (sIf (tB' (xBin fEq (xVar 3) (xC (PV.int 0)))) (sMut "list" mAppend (pVar 2) (aCons (xCall (df__law_take A) 2 (aCons (xVar 0) (aCons (xBin fIx (xVar 1) (xC (PV.int 0))) aNil))) aNil)) sNil)
    (sSeq (sIf (tAnd' (tB' (xBin fEq (xVar 3) (xC (PV.int 1)))) (tB' (xBin fNe (xVar 2) (xLst aNil)))) (sAsgG (xCall (df__law_take A) 2 (aCons (xVar 0) (aCons (xBin fIx (xVar 1) (xC (PV.int 0))) aNil))) (gmSub (pVar 2) (xCall (df__law_take A) 2 (aCons (xVar 0) (aCons (xApp fLen (aCons (xVar 2) aNil)) aNil))))) sNil)
    (sRet (xApp fTuple (aCons (xApp fSorted2 (aCons (xApp fSet2 (aCons (xVar 2) aNil)) aNil)) aNil))))))))
def df__law_lot (A : Ad) : DF := fnD 7 finX (d__law_lot A)
def d__law_givers (A : Ad) : DS :=
  (sRet (xApp fTuple (aCons (xLc (iRange1 (aCons (xApp fLen (aCons (xBin fIx (xVar 0) (xC (PV.int 1))) aNil)) aNil)) [2] (gName' 2) (tB' (xBin (fIn false) (xBin fMod (xApp fIntC (aCons (xBin fSub (xVar 1) (xBin fIx (xBin fIx (xBin fIx (xVar 0) (xC (PV.int 1))) (xVar 2)) (xC (PV.int 1)))) aNil)) (xBin fIx (xVar 0) (xC (PV.int 0)))) (xTup (aCons (xC (PV.int 0)) (aCons (xC (PV.int 1)) (aCons (xBin fSub (xBin fIx (xVar 0) (xC (PV.int 0))) (xC (PV.int 1))) aNil)))))) (xVar 2)) aNil)))
def df__law_givers (A : Ad) : DF := fnD 3 finX (d__law_givers A)
def d__law_arcs (A : Ad) : DS :=
  (sSeq (sSet .V 1 (xApp fLen (aCons (xBin fIx (xVar 0) (xC (PV.int 1))) aNil)))
    (sSeq (sSet .O 2 (xLst (aCons (xTup (aCons (xC (PV.int 0)) (aCons (xC (PV.int 0)) aNil))) (aCons (xTup (aCons (xC (PV.int 0)) (aCons (xVar 1) aNil))) aNil))))
    (sSeq (sFor (iRange1 (aCons (xVar 1) aNil)) (gName' 3) (sMut "list" mExtend (pVar 2) (aCons (xLc (iRange2 (aCons (xC (PV.int 1)) (aCons (xVar 1) aNil))) [4] (gName' 4) tTrue (xTup (aCons (xVar 3) (aCons (xVar 4) aNil)))) aNil)))
    (sRet (xApp fTuple (aCons (xApp fSorted2 (aCons (xVar 2) aNil)) aNil))))))
def df__law_arcs (A : Ad) : DF := fnD 5 finX (d__law_arcs A)
def d__law_inside (A : Ad) : DS :=
  (sSeq (sSet .V 3 (xApp fLen (aCons (xBin fIx (xVar 0) (xC (PV.int 1))) aNil)))
    (sSeq (sSet .V 4 (xLc (iRange1 (aCons (xBin fIx (xVar 2) (xC (PV.int 1))) aNil)) [5] (gName' 5) tTrue (xBin fMod (xApp fIntC (aCons (xBin fAdd (xBin fIx (xVar 2) (xC (PV.int 0))) (xVar 5)) aNil)) (xVar 3))))
    (sRet (xApp fTuple (aCons (xLc (iSeq false (xVar 1)) [6] (gName' 6) (tB' (xBin fEq (xLc (iSeq false (xCall (df__law_givers A) 2 (aCons (xVar 0) (aCons (xVar 6) aNil)))) [7] (gName' 7) (tB' (xBin (fIn true) (xVar 7) (xVar 4))) (xC (PV.int 1))) (xLst aNil))) (xVar 6)) aNil)))))
def df__law_inside (A : Ad) : DF := fnD 8 finX (d__law_inside A)
def d__law_can_give (A : Ad) : DS :=
  (sSeq (sSet .V 2 (xDict1T (xTup aNil) (xC (PV.bl true))))
    (sSeq (sFor (iSeq true (xBin fIx (xVar 0) (xC (PV.int 1)))) (gTup' 3 (gsCons (gName' 3) (gsCons (gName' 4) (gsCons (gName' 5) gsNil)))) (sLk 2 (sSeq (sSet .O 6 (xApp fDictT (aCons (xLc (iKeysV 2) [9] (gName' 9) tTrue (xTup (aCons (xVar 9) (aCons (xC (PV.bl true)) aNil)))) aNil)))
    (sSeq (sFor (iSeq true (xTup (aCons (xUn fNeg (xC (PV.int 1))) (aCons (xC (PV.int 0)) (aCons (xC (PV.int 1)) aNil))))) (gName' 7) (sSeq (sSet .V 8 (xBin fMod (xApp fIntC (aCons (xBin fAdd (xVar 4) (xVar 7)) aNil)) (xBin fIx (xVar 0) (xC (PV.int 0)))))
    (sFor (iKeysIf 2 (tB' (xBin (fIn false) (xVar 8) (xVar 1))) true (xLst aNil)) (gName' 9) (sAsgG (xC (PV.bl true)) (gmSub (pVar 6) (xApp fTuple (aCons (xApp fSorted2 (aCons (xApp fSet2 (aCons (xBin fAdd (xVar 9) (xTup (aCons (xVar 8) aNil))) aNil)) aNil)) aNil)))))))
    (sFrz 6 (sSet .V 2 (xVar 6)))))))
    (sRet (xBin (fIn false) (xVar 1) (xVar 2)))))
def df__law_can_give (A : Ad) : DF := fnD 10 finX (d__law_can_give A)
def d__law_flip_arc (A : Ad) : DS :=
  (sSeq (sSet .V 2 (xApp fLen (aCons (xBin fIx (xVar 0) (xC (PV.int 1))) aNil)))
    (sRet (xIf (tB' (xChain fLt fLt (xC (PV.int 0)) (xBin fIx (xVar 1) (xC (PV.int 1))) (xVar 2))) (xTup (aCons (xBin fMod (xApp fIntC (aCons (xBin fSub (xBin fSub (xVar 2) (xBin fIx (xVar 1) (xC (PV.int 0)))) (xBin fIx (xVar 1) (xC (PV.int 1)))) aNil)) (xVar 2)) (aCons (xBin fIx (xVar 1) (xC (PV.int 1))) aNil))) (xVar 1))))
def df__law_flip_arc (A : Ad) : DF := fnD 3 finX (d__law_flip_arc A)
def d__law_is_lot_told (A : Ad) : DS :=
  (sSeq (sSet .V 2 (xLc (iSeq false (xCall (df__law_arcs A) 1 (aCons (xVar 0) aNil))) [6] (gName' 6) (tB' (xBin fGt (xApp fLen (aCons (xCall (df__law_inside A) 3 (aCons (xVar 0) (aCons (xVar 1) (aCons (xVar 6) aNil)))) aNil)) (xBin fIx (xVar 6) (xC (PV.int 1))))) (xVar 6)))
    (sSeq (sPar2 4 5 (pCons .V (xCall (df__law_can_give A) 2 (aCons (xVar 0) (aCons (xVar 1) aNil))) (pCons .V (xCall (df_setting_for A) 2 (aCons (xVar 0) (aCons (xVar 1) aNil))) pNil)))
    (sSeq (sIf (tOr' (tNot' (tB' (xCall (df__law_same A) 2 (aCons (xLst (aCons (xCall (df_is_had A) 2 (aCons (xVar 0) (aCons (xVar 1) aNil))) (aCons (xCall (df_over_full A) 2 (aCons (xVar 0) (aCons (xVar 1) aNil))) aNil))) (aCons (xLst (aCons (xVar 4) (aCons (xIf (tB' (xBin fNe (xVar 2) (xLst aNil))) (xBin fIx (xVar 2) (xC (PV.int 0))) (xC PV.non)) aNil))) aNil))))) (tB' (xBin fNe (xVar 4) (xBin fEq (xVar 2) (xLst aNil))))) (sRet (xC (PV.bl false))) sNil)
    (sSeq (sIf (tNot' (tB' (xVar 4))) (sRet (xBin fIs (xVar 5) (xC PV.non))) sNil)
    (sSeq (sIf (tOr' (tNot' (tB' (xApp fIsi (aCons (xVar 5) (aCons (xC (PV.ty "tuple")) aNil))))) (tOr' (tB' (xBin fNe (xApp fLen (aCons (xVar 5) aNil)) (xApp fLen (aCons (xBin fIx (xVar 0) (xC (PV.int 1))) aNil)))) (tB' (xBin fNe (xLc (iSeq false (xVar 5)) [8] (gName' 8) (tB' (xBin (fIn true) (xVar 8) (xTup (aCons (xUn fNeg (xC (PV.int 1))) (aCons (xC (PV.int 0)) (aCons (xC (PV.int 1)) aNil)))))) (xC (PV.int 1))) (xLst aNil))))) (sRet (xC (PV.bl false))) sNil)
    (sSeq (sSet .V 3 (xLc (iZip false (aCons (xBin fIx (xVar 0) (xC (PV.int 1))) (aCons (xVar 5) aNil))) [7, 8] (gTup' 2 (gsCons (gName' 7) (gsCons (gName' 8) gsNil))) tTrue (xBin fMod (xApp fIntC (aCons (xBin fAdd (xBin fIx (xVar 7) (xC (PV.int 1))) (xVar 8)) aNil)) (xBin fIx (xVar 0) (xC (PV.int 0))))))
    (sRet (xAnd (xBin fEq (xLc (iSeq false (xVar 1)) [9] (gName' 9) (tB' (xBin (fIn true) (xVar 9) (xVar 3))) (xVar 9)) (xLst aNil)) (xCall (df__law_same A) 2 (aCons (xCall (df_classes_of A) 2 (aCons (xVar 0) (aCons (xVar 5) aNil))) (aCons (xApp fTuple (aCons (xApp fSorted2 (aCons (xApp fSet2 (aCons (xVar 3) aNil)) aNil)) aNil)) aNil)))))))))))
def df__law_is_lot_told (A : Ad) : DF := fnD 10 finX (d__law_is_lot_told A)
def d_law (A : Ad) : DS :=
  (sSeq (sSet .N 1 (xCall (df__law_bag A) 1 (aCons (xVar 0) aNil)))
    (sSeq (sFor (iRange1 (aCons (xC (PV.int 3)) aNil)) (gName' 2) (sSeq (sSet .V 3 (xCall (df__law_harp A) 2 (aCons (xVar 1) (aCons (xC (PV.int 9)) aNil))))
    (sSeq (sSet .V 4 (xCall (df__law_flip_harp A) 1 (aCons (xVar 3) aNil)))
    (sSeq (sIf (tOr' (tB' (xBin fNe (xCall (df_checked_harp A) 1 (aCons (xVar 3) aNil)) (xVar 3))) (tOr' (tB' (xBin fNe (xCall (df_checked_harp A) 1 (aCons (xVar 4) aNil)) (xVar 4))) (tNot' (tB' (xCall (df__law_same A) 2 (aCons (xCall (df_arcs A) 1 (aCons (xVar 3) aNil)) (aCons (xCall (df__law_arcs A) 1 (aCons (xVar 3) aNil)) aNil))))))) (sRet (xC (PV.bl false))) sNil)
    (sFor (iRange1 (aCons (xC (PV.int 3)) aNil)) (gName' 5) (sSeq (sSet .V 6 (xCall (df__law_lot A) 2 (aCons (xVar 1) (aCons (xVar 3) aNil))))
    (sSeq (sSet .V 7 (xApp fTuple (aCons (xApp fSorted2 (aCons (xLc (iSeq false (xVar 6)) [9] (gName' 9) tTrue (xBin fSub (xBin fSub (xBin fIx (xVar 3) (xC (PV.int 0))) (xC (PV.int 1))) (xVar 9))) aNil)) aNil)))
    (sSeq (sIf (tOr' (tNot' (tB' (xCall (df__law_is_lot_told A) 2 (aCons (xVar 3) (aCons (xVar 6) aNil))))) (tNot' (tB' (xCall (df__law_is_lot_told A) 2 (aCons (xVar 4) (aCons (xVar 7) aNil)))))) (sRet (xC (PV.bl false))) sNil)
    (sSeq (sFor (iSeq true (xBin fAdd (xLc (iRange1 (aCons (xC (PV.int 3)) aNil)) [16] (gName' 16) tTrue (xCall (df__law_some A) 2 (aCons (xVar 1) (aCons (xCall (df__law_arcs A) 1 (aCons (xVar 3) aNil)) aNil)))) (xLst (aCons (xTup (aCons (xC (PV.int 0)) (aCons (xC (PV.int 0)) aNil))) (aCons (xTup (aCons (xC (PV.int 0)) (aCons (xApp fLen (aCons (xBin fIx (xVar 3) (xC (PV.int 1))) aNil)) aNil))) aNil))))) (gName' 8) (sSeq (sSet .V 11 (xCall (df__law_inside A) 3 (aCons (xVar 3) (aCons (xVar 6) (aCons (xVar 8) aNil)))))
    (sSeq (sSet .V 12 (xCall (df__law_flip_arc A) 2 (aCons (xVar 3) (aCons (xVar 8) aNil))))
    (sSeq (sSet .V 13 (xLst (aCons (xCall (df_within A) 3 (aCons (xVar 3) (aCons (xVar 6) (aCons (xVar 8) aNil)))) (aCons (xCall (df_is_over_full A) 3 (aCons (xVar 3) (aCons (xVar 6) (aCons (xVar 8) aNil)))) (aCons (xCall (df_is_over_full A) 3 (aCons (xVar 4) (aCons (xVar 7) (aCons (xVar 12) aNil)))) aNil)))))
    (sSeq (sIf (tNot' (tB' (xCall (df__law_same A) 2 (aCons (xVar 13) (aCons (xLst (aCons (xVar 11) (aCons (xBin fGt (xApp fLen (aCons (xVar 11) aNil)) (xBin fIx (xVar 8) (xC (PV.int 1)))) (aCons (xBin fGt (xApp fLen (aCons (xVar 11) aNil)) (xBin fIx (xVar 8) (xC (PV.int 1)))) aNil)))) aNil))))) (sRet (xC (PV.bl false))) sNil)
    (sSeq (sSet .V 13 (xLc (iSeq false (xCall (df_letters_in A) 2 (aCons (xVar 4) (aCons (xVar 12) aNil)))) [17] (gName' 17) tTrue (xBin fSub (xBin fSub (xApp fLen (aCons (xBin fIx (xVar 3) (xC (PV.int 1))) aNil)) (xC (PV.int 1))) (xVar 17))))
    (sIf (tOr' (tB' (xBin fNe (xApp fSorted2 (aCons (xVar 13) aNil)) (xApp fSorted2 (aCons (xCall (df_letters_in A) 2 (aCons (xVar 3) (aCons (xVar 8) aNil))) aNil)))) (tB' (xBin fNe (xApp fLen (aCons (xApp fSet2 (aCons (xVar 13) aNil)) aNil)) (xBin fIx (xVar 8) (xC (PV.int 1)))))) (sRet (xC (PV.bl false))) sNil)))))))
    (sSeq (sFor (iSeq true (xSl (xVar 6) oNone (oSome (xC (PV.int 3))))) (gName' 9) (sSeq (sSet .V 14 (xCall (df__law_givers A) 2 (aCons (xVar 3) (aCons (xVar 9) aNil))))
    (sSeq (sSet .V 15 (xApp fTuple (aCons (xApp fSorted2 (aCons (xLc (iSeq false (xVar 14)) [17] (gName' 17) tTrue (xBin fSub (xBin fSub (xApp fLen (aCons (xBin fIx (xVar 3) (xC (PV.int 1))) aNil)) (xC (PV.int 1))) (xVar 17))) aNil)) aNil)))
    (sIf (tNot' (tB' (xCall (df__law_same A) 2 (aCons (xLst (aCons (xCall (df_givers A) 2 (aCons (xVar 3) (aCons (xVar 9) aNil))) (aCons (xCall (df_givers A) 2 (aCons (xVar 4) (aCons (xBin fSub (xBin fSub (xBin fIx (xVar 3) (xC (PV.int 0))) (xC (PV.int 1))) (xVar 9)) aNil))) aNil))) (aCons (xLst (aCons (xVar 14) (aCons (xVar 15) aNil))) aNil))))) (sRet (xC (PV.bl false))) sNil))))
    (sSeq (sSet .V 10 (xCall (df__law_some A) 2 (aCons (xVar 1) (aCons (xLst (aCons (xC PV.non) (aCons (xTup (aCons (xC (PV.int 0)) aNil)) (aCons (xTup (aCons (xC (PV.int 0)) (aCons (xBin fAdd (xApp fLen (aCons (xBin fIx (xVar 3) (xC (PV.int 1))) aNil)) (xC (PV.int 1))) aNil))) (aCons (xTup (aCons (xApp fLen (aCons (xBin fIx (xVar 3) (xC (PV.int 1))) aNil)) (aCons (xC (PV.int 1)) aNil))) (aCons (xLst (aCons (xC (PV.int 0)) (aCons (xC (PV.int 0)) aNil))) (aCons (xTup (aCons (xC (PV.bl true)) (aCons (xC (PV.int 0)) aNil))) (aCons (xTup (aCons (xC (PV.int 1)) (aCons (xC (PV.int 0)) aNil))) (aCons (xTup (aCons (xC (PV.int 0)) (aCons (xUn fNeg (xC (PV.int 1))) aNil))) aNil))))))))) aNil))))
    (sIf (tB' (xBin fIsNot (xCall (df_is_over_full A) 3 (aCons (xVar 3) (aCons (xVar 6) (aCons (xVar 10) aNil)))) (xC (PV.bl false)))) (sRet (xC (PV.bl false))) sNil))))))))))))
    (sRet (xC (PV.bl true)))))
def df_law (A : Ad) : DF := fnD 18 finX (d_law A)
/-! ### what is asked of the top -/
structure Txt (Γ : DD.Ctx) (A : Ad) : Prop where
  f_is_number : ∃ fd, Fun Γ.K "is_number" "is_number" s_is_number A.is_number fd ∧ Binds Γ.K fd ["thing"] []
  m_is_number : Γ.mg "is_number" = some (.ref A.is_number)
  k_is_number : PySem.W.keepIn Γ.K (.ref A.is_number) = true
  f_is_index : ∃ fd, Fun Γ.K "is_index" "is_index" s_is_index A.is_index fd ∧ Binds Γ.K fd ["thing"] []
  m_is_index : Γ.mg "is_index" = some (.ref A.is_index)
  k_is_index : PySem.W.keepIn Γ.K (.ref A.is_index) = true
  f_is_name : ∃ fd, Fun Γ.K "is_name" "is_name" s_is_name A.is_name fd ∧ Binds Γ.K fd ["thing"] []
  m_is_name : Γ.mg "is_name" = some (.ref A.is_name)
  k_is_name : PySem.W.keepIn Γ.K (.ref A.is_name) = true
  f_is_sized : ∃ fd, Fun Γ.K "is_sized" "is_sized" s_is_sized A.is_sized fd ∧ Binds Γ.K fd ["thing", "many"] []
  m_is_sized : Γ.mg "is_sized" = some (.ref A.is_sized)
  k_is_sized : PySem.W.keepIn Γ.K (.ref A.is_sized) = true
  f_is_letter : ∃ fd, Fun Γ.K "is_letter" "is_letter" s_is_letter A.is_letter fd ∧ Binds Γ.K fd ["thing"] []
  m_is_letter : Γ.mg "is_letter" = some (.ref A.is_letter)
  k_is_letter : PySem.W.keepIn Γ.K (.ref A.is_letter) = true
  f_is_tuple_of : ∃ fd, Fun Γ.K "is_tuple_of" "is_tuple_of" s_is_tuple_of A.is_tuple_of fd ∧ Binds Γ.K fd ["thing", "is_one"] []
  m_is_tuple_of : Γ.mg "is_tuple_of" = some (.ref A.is_tuple_of)
  k_is_tuple_of : PySem.W.keepIn Γ.K (.ref A.is_tuple_of) = true
  f_is_harp_form : ∃ fd, Fun Γ.K "is_harp_form" "is_harp_form" s_is_harp_form A.is_harp_form fd ∧ Binds Γ.K fd ["thing"] []
  m_is_harp_form : Γ.mg "is_harp_form" = some (.ref A.is_harp_form)
  k_is_harp_form : PySem.W.keepIn Γ.K (.ref A.is_harp_form) = true
  f_check_number : ∃ fd, Fun Γ.K "check_number" "check_number" s_check_number A.check_number fd ∧ Binds Γ.K fd ["word", "number", "least", "most"] []
  m_check_number : Γ.mg "check_number" = some (.ref A.check_number)
  k_check_number : PySem.W.keepIn Γ.K (.ref A.check_number) = true
  f_check_letters : ∃ fd, Fun Γ.K "check_letters" "check_letters" s_check_letters A.check_letters fd ∧ Binds Γ.K fd ["harp"] []
  m_check_letters : Γ.mg "check_letters" = some (.ref A.check_letters)
  k_check_letters : PySem.W.keepIn Γ.K (.ref A.check_letters) = true
  f_checked_harp : ∃ fd, Fun Γ.K "checked_harp" "checked_harp" s_checked_harp A.checked_harp fd ∧ Binds Γ.K fd ["thing"] []
  m_checked_harp : Γ.mg "checked_harp" = some (.ref A.checked_harp)
  k_checked_harp : PySem.W.keepIn Γ.K (.ref A.checked_harp) = true
  f_letters_many : ∃ fd, Fun Γ.K "letters_many" "letters_many" s_letters_many A.letters_many fd ∧ Binds Γ.K fd ["harp"] []
  m_letters_many : Γ.mg "letters_many" = some (.ref A.letters_many)
  k_letters_many : PySem.W.keepIn Γ.K (.ref A.letters_many) = true
  f_bases_of : ∃ fd, Fun Γ.K "bases_of" "bases_of" s_bases_of A.bases_of fd ∧ Binds Γ.K fd ["harp"] []
  m_bases_of : Γ.mg "bases_of" = some (.ref A.bases_of)
  k_bases_of : PySem.W.keepIn Γ.K (.ref A.bases_of) = true
  f_givers : ∃ fd, Fun Γ.K "givers" "givers" s_givers A.givers fd ∧ Binds Γ.K fd ["harp", "kind"] []
  m_givers : Γ.mg "givers" = some (.ref A.givers)
  k_givers : PySem.W.keepIn Γ.K (.ref A.givers) = true
  f_classes_of : ∃ fd, Fun Γ.K "classes_of" "classes_of" s_classes_of A.classes_of fd ∧ Binds Γ.K fd ["harp", "setting"] []
  m_classes_of : Γ.mg "classes_of" = some (.ref A.classes_of)
  k_classes_of : PySem.W.keepIn Γ.K (.ref A.classes_of) = true
  f_position_for : ∃ fd, Fun Γ.K "position_for" "position_for" s_position_for A.position_for fd ∧ Binds Γ.K fd ["harp", "letter", "kind"] []
  m_position_for : Γ.mg "position_for" = some (.ref A.position_for)
  k_position_for : PySem.W.keepIn Γ.K (.ref A.position_for) = true
  f_Matching___init__ : ∃ fd, Fun Γ.K "__init__" "Matching.__init__" s_Matching___init__ A.Matching___init__ fd ∧ Binds Γ.K fd ["self", "harp", "lot"] []
  f_Matching_put : ∃ fd, Fun Γ.K "put" "Matching.put" s_Matching_put A.Matching_put fd ∧ Binds Γ.K fd ["self", "kind", "seen"] []
  f_Matching_setting : ∃ fd, Fun Γ.K "setting" "Matching.setting" s_Matching_setting A.Matching_setting fd ∧ Binds Γ.K fd ["self"] []
  f_setting_for : ∃ fd, Fun Γ.K "setting_for" "setting_for" s_setting_for A.setting_for fd ∧ Binds Γ.K fd ["harp", "lot"] []
  m_setting_for : Γ.mg "setting_for" = some (.ref A.setting_for)
  k_setting_for : PySem.W.keepIn Γ.K (.ref A.setting_for) = true
  f_is_had : ∃ fd, Fun Γ.K "is_had" "is_had" s_is_had A.is_had fd ∧ Binds Γ.K fd ["harp", "lot"] []
  m_is_had : Γ.mg "is_had" = some (.ref A.is_had)
  k_is_had : PySem.W.keepIn Γ.K (.ref A.is_had) = true
  f_letters_in : ∃ fd, Fun Γ.K "letters_in" "letters_in" s_letters_in A.letters_in fd ∧ Binds Γ.K fd ["harp", "arc"] []
  m_letters_in : Γ.mg "letters_in" = some (.ref A.letters_in)
  k_letters_in : PySem.W.keepIn Γ.K (.ref A.letters_in) = true
  f_within : ∃ fd, Fun Γ.K "within" "within" s_within A.within fd ∧ Binds Γ.K fd ["harp", "lot", "arc"] []
  m_within : Γ.mg "within" = some (.ref A.within)
  k_within : PySem.W.keepIn Γ.K (.ref A.within) = true
  f_arcs : ∃ fd, Fun Γ.K "arcs" "arcs" s_arcs A.arcs fd ∧ Binds Γ.K fd ["harp"] []
  m_arcs : Γ.mg "arcs" = some (.ref A.arcs)
  k_arcs : PySem.W.keepIn Γ.K (.ref A.arcs) = true
  f_over_full : ∃ fd, Fun Γ.K "over_full" "over_full" s_over_full A.over_full fd ∧ Binds Γ.K fd ["harp", "lot"] []
  m_over_full : Γ.mg "over_full" = some (.ref A.over_full)
  k_over_full : PySem.W.keepIn Γ.K (.ref A.over_full) = true
  f_is_over_full : ∃ fd, Fun Γ.K "is_over_full" "is_over_full" s_is_over_full A.is_over_full fd ∧ Binds Γ.K fd ["harp", "lot", "thing"] []
  m_is_over_full : Γ.mg "is_over_full" = some (.ref A.is_over_full)
  k_is_over_full : PySem.W.keepIn Γ.K (.ref A.is_over_full) = true
  f__law_bag : ∃ fd, Fun Γ.K "_law_bag" "_law_bag" s__law_bag A._law_bag fd ∧ Binds Γ.K fd ["script"] []
  m__law_bag : Γ.mg "_law_bag" = some (.ref A._law_bag)
  k__law_bag : PySem.W.keepIn Γ.K (.ref A._law_bag) = true
  f__law_take : ∃ fd, Fun Γ.K "_law_take" "_law_take" s__law_take A._law_take fd ∧ Binds Γ.K fd ["bag", "many"] []
  m__law_take : Γ.mg "_law_take" = some (.ref A._law_take)
  k__law_take : PySem.W.keepIn Γ.K (.ref A._law_take) = true
  f__law_some : ∃ fd, Fun Γ.K "_law_some" "_law_some" s__law_some A._law_some fd ∧ Binds Γ.K fd ["bag", "things"] []
  m__law_some : Γ.mg "_law_some" = some (.ref A._law_some)
  k__law_some : PySem.W.keepIn Γ.K (.ref A._law_some) = true
  f__law_mixed : ∃ fd, Fun Γ.K "_law_mixed" "_law_mixed" s__law_mixed A._law_mixed fd ∧ Binds Γ.K fd ["bag", "things"] []
  m__law_mixed : Γ.mg "_law_mixed" = some (.ref A._law_mixed)
  k__law_mixed : PySem.W.keepIn Γ.K (.ref A._law_mixed) = true
  f__law_same : ∃ fd, Fun Γ.K "_law_same" "_law_same" s__law_same A._law_same fd ∧ Binds Γ.K fd ["found", "due"] []
  m__law_same : Γ.mg "_law_same" = some (.ref A._law_same)
  k__law_same : PySem.W.keepIn Γ.K (.ref A._law_same) = true
  f__law_names : ∃ fd, Fun Γ.K "_law_names" "_law_names" s__law_names A._law_names fd ∧ Binds Γ.K fd ["bag", "many"] []
  m__law_names : Γ.mg "_law_names" = some (.ref A._law_names)
  k__law_names : PySem.W.keepIn Γ.K (.ref A._law_names) = true
  f__law_letters : ∃ fd, Fun Γ.K "_law_letters" "_law_letters" s__law_letters A._law_letters fd ∧ Binds Γ.K fd ["bag", "size", "many"] []
  m__law_letters : Γ.mg "_law_letters" = some (.ref A._law_letters)
  k__law_letters : PySem.W.keepIn Γ.K (.ref A._law_letters) = true
  f__law_harp : ∃ fd, Fun Γ.K "_law_harp" "_law_harp" s__law_harp A._law_harp fd ∧ Binds Γ.K fd ["bag", "most"] []
  m__law_harp : Γ.mg "_law_harp" = some (.ref A._law_harp)
  k__law_harp : PySem.W.keepIn Γ.K (.ref A._law_harp) = true
  f__law_flip_harp : ∃ fd, Fun Γ.K "_law_flip_harp" "_law_flip_harp" s__law_flip_harp A._law_flip_harp fd ∧ Binds Γ.K fd ["harp"] []
  m__law_flip_harp : Γ.mg "_law_flip_harp" = some (.ref A._law_flip_harp)
  k__law_flip_harp : PySem.W.keepIn Γ.K (.ref A._law_flip_harp) = true
  f__law_lot : ∃ fd, Fun Γ.K "_law_lot" "_law_lot" s__law_lot A._law_lot fd ∧ Binds Γ.K fd ["bag", "harp"] []
  m__law_lot : Γ.mg "_law_lot" = some (.ref A._law_lot)
  k__law_lot : PySem.W.keepIn Γ.K (.ref A._law_lot) = true
  f__law_givers : ∃ fd, Fun Γ.K "_law_givers" "_law_givers" s__law_givers A._law_givers fd ∧ Binds Γ.K fd ["harp", "kind"] []
  m__law_givers : Γ.mg "_law_givers" = some (.ref A._law_givers)
  k__law_givers : PySem.W.keepIn Γ.K (.ref A._law_givers) = true
  f__law_arcs : ∃ fd, Fun Γ.K "_law_arcs" "_law_arcs" s__law_arcs A._law_arcs fd ∧ Binds Γ.K fd ["harp"] []
  m__law_arcs : Γ.mg "_law_arcs" = some (.ref A._law_arcs)
  k__law_arcs : PySem.W.keepIn Γ.K (.ref A._law_arcs) = true
  f__law_inside : ∃ fd, Fun Γ.K "_law_inside" "_law_inside" s__law_inside A._law_inside fd ∧ Binds Γ.K fd ["harp", "lot", "arc"] []
  m__law_inside : Γ.mg "_law_inside" = some (.ref A._law_inside)
  k__law_inside : PySem.W.keepIn Γ.K (.ref A._law_inside) = true
  f__law_can_give : ∃ fd, Fun Γ.K "_law_can_give" "_law_can_give" s__law_can_give A._law_can_give fd ∧ Binds Γ.K fd ["harp", "lot"] []
  m__law_can_give : Γ.mg "_law_can_give" = some (.ref A._law_can_give)
  k__law_can_give : PySem.W.keepIn Γ.K (.ref A._law_can_give) = true
  f__law_flip_arc : ∃ fd, Fun Γ.K "_law_flip_arc" "_law_flip_arc" s__law_flip_arc A._law_flip_arc fd ∧ Binds Γ.K fd ["harp", "arc"] []
  m__law_flip_arc : Γ.mg "_law_flip_arc" = some (.ref A._law_flip_arc)
  k__law_flip_arc : PySem.W.keepIn Γ.K (.ref A._law_flip_arc) = true
  f__law_is_lot_told : ∃ fd, Fun Γ.K "_law_is_lot_told" "_law_is_lot_told" s__law_is_lot_told A._law_is_lot_told fd ∧ Binds Γ.K fd ["harp", "lot"] []
  m__law_is_lot_told : Γ.mg "_law_is_lot_told" = some (.ref A._law_is_lot_told)
  k__law_is_lot_told : PySem.W.keepIn Γ.K (.ref A._law_is_lot_told) = true
  f_law : ∃ fd, Fun Γ.K "law" "law" s_law A.law fd ∧ Binds Γ.K fd ["script"] []
  m_law : Γ.mg "law" = some (.ref A.law)
  k_law : PySem.W.keepIn Γ.K (.ref A.law) = true
  m_Matching : Γ.mg "Matching" = some (.ref A.Matching)
  cl_Matching : Cls Γ.K A.Matching
  mk_Matching : Mk Γ.K A.Matching A.Matching___init__
  n_Matching_harp : NoAttr Γ.K A.Matching "harp"
  n_Matching_held : NoAttr Γ.K A.Matching "held"
  n_Matching_lot : NoAttr Γ.K A.Matching "lot"
  me_Matching_put : Meth Γ.K A.Matching "put" A.Matching_put
  me_Matching_setting : Meth Γ.K A.Matching "setting" A.Matching_setting
  z_abs : Γ.mg "abs" = none
  z_all : Γ.mg "all" = none
  z_bool : Γ.mg "bool" = none
  z_dict : Γ.mg "dict" = none
  z_enumerate : Γ.mg "enumerate" = none
  z_int : Γ.mg "int" = none
  z_isinstance : Γ.mg "isinstance" = none
  z_len : Γ.mg "len" = none
  z_list : Γ.mg "list" = none
  z_max : Γ.mg "max" = none
  z_range : Γ.mg "range" = none
  z_set : Γ.mg "set" = none
  z_sorted : Γ.mg "sorted" = none
  z_str : Γ.mg "str" = none
  z_tuple : Γ.mg "tuple" = none
  z_zip : Γ.mg "zip" = none
  g_LETTERS : ∃ u, Γ.mg "LETTERS" = some u ∧ RelV (V.str "abcdefghijklmnopqrstuvwxyz") u
  g_MOST_FINGERS : ∃ u, Γ.mg "MOST_FINGERS" = some u ∧ RelV (V.int 5) u
  g_MOST_LETTERS_forms : ∃ u, Γ.mg "MOST_LETTERS_forms" = some u ∧ RelV (V.int 8) u
  g_MOST_LETTERS_harps : ∃ u, Γ.mg "MOST_LETTERS_harps" = some u ∧ RelV (V.int 9) u
  g_MOST_REACH : ∃ u, Γ.mg "MOST_REACH" = some u ∧ RelV (V.int 59) u
  g_MOST_ROUND : ∃ u, Γ.mg "MOST_ROUND" = some u ∧ RelV (V.int 24) u
  g_MOST_STRINGS : ∃ u, Γ.mg "MOST_STRINGS" = some u ∧ RelV (V.int 60) u
  g_POSITIONS : ∃ a, Γ.mg "POSITIONS" = some (.ref a) ∧ StaT Γ a [V.int (-1), V.int 0, V.int 1]
  g_RESERVED : ∃ a, Γ.mg "RESERVED" = some (.ref a) ∧ StaT Γ a [V.str "hands", V.str "left", V.str "letter", V.str "note", V.str "right", V.str "round", V.str "strings", V.str "ticks"]
end K00
/-! MEval -/
namespace DD
open PySem PySem.Spec PyProof.Rows L2
/-! Evaluating denotations: bnd is looked into only at its head. -/
def Fit (n : Nat) : Prop := n ≤ sizeLine
instance (n : Nat) : Decidable (Fit n) := Nat.decLe n sizeLine
@[simp] theorem fit_le {n : Nat} (h : n ≤ 10000) : Fit n := by show n ≤ sizeLine; rw [sizeLine_eq]; omega

def bnd {α β : Type} (o : Option α) (f : α → Option β) : Option β := o.bind f
@[simp] theorem bnd_some {α β : Type} (a : α) (f : α → Option β) : bnd (some a) f = f a := (rfl)
@[simp] theorem bnd_none {α β : Type} (f : α → Option β) : bnd none f = none := (rfl)
def mpO {α β : Type} (o : Option α) (f : α → β) : Option β := o.map f
@[simp] theorem mpO_some {α β : Type} (a : α) (f : α → β) : mpO (some a) f = some (f a) := (rfl)
/-- what stands in a slot -/
def slX (s : Option Slot) (st : MS) : Option (XV × MS) := match s with
  | some (.v p) => some (.v p, st)
  | some (.own c) => some (.b c, st)
  | some (.lk p) => some (.v p, st)
  | _ => none
@[simp] theorem slX_v (p : PV) (st : MS) : slX (some (.v p)) st = some (.v p, st) := (rfl)
@[simp] theorem slX_own (c : Cont) (st : MS) : slX (some (.own c)) st = some (.b c, st) := (rfl)
@[simp] theorem slX_lk (p : PV) (st : MS) : slX (some (.lk p)) st = some (.v p, st) := (rfl)
/-- places of a frame, by structure -/
def nth : DEnv → Nat → Option Slot
  | [], _ => none
  | a :: _, 0 => some a
  | _ :: l, n + 1 => nth l n
theorem nth_eq : ∀ (l : DEnv) (n : Nat), l[n]? = nth l n
  | [], n => by simp [nth]
  | a :: l, 0 => by simp [nth]
  | a :: l, n + 1 => by rw [List.getElem?_cons_succ, nth_eq l n]; rfl
@[simp] theorem nth_0 (a : Slot) (l : DEnv) : nth (a :: l) 0 = some a := (rfl)
@[simp] theorem nth_s (a : Slot) (l : DEnv) (n : Nat) : nth (a :: l) (n + 1) = nth l n := (rfl)
def putN : DEnv → Nat → Slot → Option DEnv
  | [], _, _ => none
  | _ :: l, 0, s => some (s :: l)
  | a :: l, n + 1, s => mpO (putN l n s) fun r => a :: r
theorem putN_eq : ∀ (l : DEnv) (n : Nat) (s : Slot), (if n < l.length then some (l.set n s) else none) = putN l n s
  | [], n, s => by rw [if_neg (by simp)]; rfl
  | a :: l, 0, s => by rw [if_pos (by simp)]; rfl
  | a :: l, n + 1, s => by
    show _ = mpO (putN l n s) _
    rw [← putN_eq l n s]
    by_cases h : n < l.length
    · rw [if_pos h, if_pos (by simpa using h)]; rfl
    · rw [if_neg h, if_neg (by simpa using h)]; rfl
@[simp] theorem putN_0 (a : Slot) (l : DEnv) (s : Slot) : putN (a :: l) 0 s = some (s :: l) := (rfl)
@[simp] theorem putN_s (a : Slot) (l : DEnv) (n : Nat) (s : Slot) : putN (a :: l) (n + 1) s = mpO (putN l n s) fun r => a :: r := (rfl)
/-- without asking for the length -/
def setN : DEnv → Nat → Slot → DEnv
  | [], _, _ => []
  | _ :: l, 0, s => s :: l
  | a :: l, n + 1, s => a :: setN l n s
theorem setN_eq : ∀ (l : DEnv) (n : Nat) (s : Slot), l.set n s = setN l n s
  | [], n, s => rfl
  | a :: l, 0, s => rfl
  | a :: l, n + 1, s => by rw [List.set_cons_succ, setN_eq l n s]; rfl
@[simp] theorem setN_0 (a : Slot) (l : DEnv) (s : Slot) : setN (a :: l) 0 s = s :: l := (rfl)
@[simp] theorem setN_s (a : Slot) (l : DEnv) (n : Nat) (s : Slot) : setN (a :: l) (n + 1) s = a :: setN l n s := (rfl)
def unN : Nat → DEnv
  | 0 => []
  | n + 1 => .un :: unN n
theorem unN_eq : ∀ n, List.replicate n Slot.un = unN n
  | 0 => rfl
  | n + 1 => by rw [List.replicate_succ, unN_eq n]; rfl
def initD : Nat → List PV → DEnv
  | n, [] => unN n
  | 0, p :: ps => .v p :: initD 0 ps
  | n + 1, p :: ps => .v p :: initD n ps
theorem initD_eq : ∀ (n : Nat) (ps : List PV), ps.map Slot.v ++ List.replicate (n - ps.length) Slot.un = initD n ps
  | n, [] => by show [] ++ _ = _; rw [List.nil_append, unN_eq]; simp [initD]
  | 0, p :: ps => by
    have := initD_eq 0 ps
    show Slot.v p :: (ps.map Slot.v ++ List.replicate (0 - (ps.length + 1)) Slot.un) = Slot.v p :: initD 0 ps
    rw [← this]; simp
  | n + 1, p :: ps => by
    have := initD_eq n ps
    show Slot.v p :: (ps.map Slot.v ++ List.replicate (n + 1 - (ps.length + 1)) Slot.un) = Slot.v p :: initD n ps
    rw [← this, Nat.add_sub_add_right]
@[simp] theorem unN_0 : unN 0 = [] := (rfl)
@[simp] theorem unN_s (n : Nat) : unN (n + 1) = .un :: unN n := (rfl)
@[simp] theorem initD_nil (n : Nat) : initD n [] = unN n := by simp [initD]
@[simp] theorem initD_cons (n : Nat) (p : PV) (ps : List PV) : initD (n + 1) (p :: ps) = .v p :: initD n ps := (rfl)
/-- a guard -/
def gd {α : Type} (c : Prop) [Decidable c] (o : Option α) : Option α := if c then o else none
@[simp] theorem gd_true {α : Type} {c : Prop} [Decidable c] {o : Option α} (h : c) : gd c o = o := if_pos h
/-- a fork -/
def frk {α : Type} (c : Bool) (a b : Option α) : Option α := if c = true then a else b
@[simp] theorem frk_true {α : Type} (a b : Option α) : frk true a b = a := (rfl)
@[simp] theorem frk_false {α : Type} (a b : Option α) : frk false a b = b := (rfl)
/-- behind a statement -/
def seqE (b : DS) (r : Fl × DEnv × MS) : Option (Fl × DEnv × MS) := match r.1 with
  | .nx => b r.2.1 r.2.2
  | _ => some r
@[simp] theorem seqE_nx (b : DS) (e : DEnv) (st : MS) : seqE b (.nx, e, st) = b e st := (rfl)
@[simp] theorem seqE_rt (b : DS) (x : XV) (e : DEnv) (st : MS) : seqE b (.rt x, e, st) = some (.rt x, e, st) := (rfl)
@[simp] theorem seqE_bk (b : DS) (e : DEnv) (st : MS) : seqE b (.bk, e, st) = some (.bk, e, st) := (rfl)
@[simp] theorem seqE_ct (b : DS) (e : DEnv) (st : MS) : seqE b (.ct, e, st) = some (.ct, e, st) := (rfl)
/-- a call's end -/
def calE (r : XV × MS) : Option (XV × MS) := match r.1 with
  | .b _ => none
  | _ => some r
@[simp] theorem calE_v (p : PV) (st : MS) : calE (.v p, st) = some (.v p, st) := (rfl)
@[simp] theorem calE_o (c : Cont) (st : MS) : calE (.o c, st) = some (.o c, st) := (rfl)
section
variable (env : DEnv) (st : MS)
@[simp] theorem ev_var (i : Nat) : xVar i env st = slX (nth env i) st := by rw [← nth_eq]; rfl
@[simp] theorem ev_c (p : PV) : xC p env st = some (.v p, st) := (rfl)
@[simp] theorem ev_un (f : F1) (a : DX) : xUn f a env st = bnd (a env st) fun r => mpO (f r.1 r.2) fun z => (z, r.2) := (rfl)
@[simp] theorem ev_bin (f : F2) (a b : DX) : xBin f a b env st = bnd (a env st) fun r => bnd (b env r.2) fun q => mpO (f r.1 q.1 q.2) fun z => (z, q.2) := (rfl)
@[simp] theorem ev_app (f : FN) (a : DA) : xApp f a env st = bnd (a env st) fun r => mpO (f r.1 r.2) fun z => (z, r.2) := (rfl)
@[simp] theorem ev_aNil : aNil env st = some ([], st) := (rfl)
@[simp] theorem ev_aCons (a : DX) (b : DA) : aCons a b env st = bnd (a env st) fun r => mpO (b env r.2) fun q => (r.1 :: q.1, q.2) := (rfl)
@[simp] theorem ev_tB (a : DX) : tB' a env st = bnd (a env st) fun r => mpO r.1.bl fun b => (b, r.2) := (rfl)
@[simp] theorem ev_tAnd (a b : DT) : tAnd' a b env st = bnd (a env st) fun r => frk r.1 (b env r.2) (some (false, r.2)) := (rfl)
@[simp] theorem ev_tOr (a b : DT) : tOr' a b env st = bnd (a env st) fun r => frk r.1 (some (true, r.2)) (b env r.2) := (rfl)
@[simp] theorem ev_tNot (a : DT) : tNot' a env st = mpO (a env st) fun r => (!r.1, r.2) := (rfl)
@[simp] theorem ev_xIf (c : DT) (a b : DX) : xIf c a b env st = bnd (c env st) fun r => frk r.1 (a env r.2) (b env r.2) := (rfl)
@[simp] theorem ev_xAnd (a b : DX) : xAnd a b env st = bnd (a env st) fun r => bnd r.1.bl fun c => frk c (b env r.2) (some (.v (.bl false), r.2)) := (rfl)
@[simp] theorem ev_xOr (a b : DX) : xOr a b env st = bnd (a env st) fun r => bnd r.1.bl fun c => frk c (some (.v (.bl true), r.2)) (b env r.2) := (rfl)
@[simp] theorem ev_xNot (a : DX) : xNot a env st = bnd (a env st) fun r => mpO r.1.bl fun c => (.v (.bl (!c)), r.2) := (rfl)
@[simp] theorem ev_chain (f g : F2) (a b c : DX) : xChain f g a b c env st = bnd (a env st) fun r => bnd (b env r.2) fun q => bnd (f r.1 q.1 q.2) fun z => bnd z.bl fun k =>
  frk k (bnd (c env q.2) fun s => mpO (g q.1 s.1 s.2) fun z => (z, s.2)) (some (.v (.bl false), q.2)) := (rfl)
@[simp] theorem ev_tup (a : DA) : xTup a env st = bnd (a env st) fun r => bnd (pvs r.1) fun ps => gd (Fit ps.length) (some (.v (.tup ps), r.2)) := (rfl)
@[simp] theorem ev_lst (a : DA) : xLst a env st = bnd (a env st) fun r => bnd (pvs r.1) fun ps => gd (Fit ps.length) (some (.o (.lst ps), r.2)) := (rfl)
@[simp] theorem ev_dictK : xDictK env st = some (.o (.dK []), st) := (rfl)
@[simp] theorem ev_new (d : DX) : xNew d env st = mpO (d env st) fun r => match r.1 with
  | .o c => (.v (.obj r.2.length), r.2 ++ [c])
  | x => (x, r.2) := (rfl)
@[simp] theorem ev_call (df : DF) (n : Nat) (a : DA) : xCall df n a env st = bnd (a env st) fun r => gd (r.1.length = n) (callD df r.1 r.2) := (rfl)
@[simp] theorem ev_slice (a : DX) (lo hi : DO) : xSl a lo hi env st = bnd (a env st) fun r => bnd (lo env r.2) fun l => bnd (hi env l.2) fun h => mpO (fSl r.1 l.1 h.1 h.2) fun z => (z, h.2) := (rfl)
@[simp] theorem ev_oNone : oNone env st = some (none, st) := (rfl)
@[simp] theorem ev_oSome (a : DX) : oSome a env st = bnd (a env st) fun r => mpO r.1.int fun i => (some i, r.2) := (rfl)
@[simp] theorem ev_seq (a b : DS) : sSeq a b env st = bnd (a env st) (seqE b) := (rfl)
@[simp] theorem ev_nil : sNil env st = some (.nx, env, st) := (rfl)
@[simp] theorem ev_if (c : DT) (a b : DS) : sIf c a b env st = bnd (c env st) fun r => frk r.1 (a env r.2) (b env r.2) := (rfl)
@[simp] theorem ev_ret (d : DX) : sRet d env st = mpO (d env st) fun r => (.rt r.1, env, r.2) := (rfl)
@[simp] theorem ev_drop (d : DX) : sDrop d env st = mpO (d env st) fun r => (.nx, env, r.2) := (rfl)
@[simp] theorem ev_set (m : Md) (i : Nat) (d : DX) : sSet m i d env st = bnd (d env st) fun r => bnd (slotOf m r.1 r.2) fun s => mpO (putN env i s.1) fun e => (.nx, e, s.2) := by
  show ((d env st).bind fun r => (slotOf m r.1 r.2).bind fun s => if i < env.length then some (Fl.nx, env.set i s.1, s.2) else none) = _
  have e : ∀ (s : Slot) (st : MS), (if i < env.length then some (Fl.nx, env.set i s, st) else none) = mpO (putN env i s) fun e => (Fl.nx, e, st) := fun s st => by
    rw [← putN_eq]; split <;> rfl
  simp only [e]; rfl
@[simp] theorem ev_asgG (d : DX) (g : DGm) : sAsgG d g env st = bnd (d env st) fun r => bnd r.1.pv fun p => mpO (g p env r.2) fun q => (.nx, q.1, q.2) := (rfl)
@[simp] theorem ev_gmSub (pl : DPl) (di : DX) (p : PV) : gmSub pl di p env st = bnd (pl env st) fun r => bnd (di env r.2) fun s => bnd s.1.pv fun i => bnd (plGet env s.2 r.1) fun c => mpO (fPut c i p) fun c' => plSet env s.2 c' r.1 := (rfl)
@[simp] theorem ev_augS (pl : DPl) (di de : DX) (f : PV → PV → Option PV) : sAugS pl di de f env st = bnd (pl env st) fun r => bnd (di env r.2) fun s => bnd s.1.pv fun i => bnd (plGet env s.2 r.1) fun c => bnd (fGet c i) fun old => bnd (de env s.2) fun q => bnd q.1.pv fun y =>
  bnd (f old y) fun z => bnd (plGet env q.2 r.1) fun c2 => mpO (fPut c2 i z) fun c' => (.nx, plSet env q.2 c' r.1) := (rfl)
@[simp] theorem ev_for (items : DI) (b : DG) (body : DS) : sFor items b body env st = bnd (items env st) fun r => loopD b body r.1 env r.2 := (rfl)
@[simp] theorem ev_lc (items : DI) (vs : List Nat) (b : DG) (t : DT) (e : DX) : xLc items vs b t e env st = bnd (items env st) fun r => bnd (compD b t e r.1 (wipeD env vs) r.2) fun q => gd (Fit q.1.length) (some (.o (.lst q.1), q.2)) := (rfl)
end
/-- behind a body -/
def fnE (fin : XV → Option XV) (r : Fl × DEnv × MS) : Option (XV × MS) := match r.1 with
  | .nx => mpO (fin (.v .non)) fun z => (z, r.2.2)
  | .rt x => mpO (fin x) fun z => (z, r.2.2)
  | _ => none
@[simp] theorem fnE_nx (fin : XV → Option XV) (e : DEnv) (st : MS) : fnE fin (.nx, e, st) = mpO (fin (.v .non)) fun z => (z, st) := (rfl)
@[simp] theorem fnE_rt (fin : XV → Option XV) (x : XV) (e : DEnv) (st : MS) : fnE fin (.rt x, e, st) = mpO (fin x) fun z => (z, st) := (rfl)
@[simp] theorem ev_fn (n : Nat) (fin : XV → Option XV) (body : DS) (ps : List PV) (st : MS) : fnD n fin body ps st = bnd (body (initD n ps) st) (fnE fin) := by rw [← initD_eq]; rfl
@[simp] theorem ev_callD (df : DF) (xs : List XV) (st : MS) : callD df xs st = bnd (pvs xs) fun ps => bnd (df ps st) calE := (rfl)
@[simp] theorem ev_pvs_nil : pvs [] = some [] := (rfl)
@[simp] theorem ev_pvs_cons (x : XV) (xs : List XV) : pvs (x :: xs) = bnd x.pv fun p => mpO (pvs xs) fun ps => p :: ps := (rfl)
@[simp] theorem ev_pv_v (p : PV) : (XV.v p).pv = some p := (rfl)
@[simp] theorem ev_pv_o (xs : List PV) : (XV.o (.lst xs)).pv = some (.lst xs) := (rfl)
@[simp] theorem ev_int (i : Int) : (XV.v (.int i)).int = some i := (rfl)
@[simp] theorem ev_bl (i : Bool) : (XV.v (.bl i)).bl = some i := (rfl)
@[simp] theorem ev_finv (p : PV) : finX (.v p) = some (.v p) := (rfl)
@[simp] theorem ev_fino (c : Cont) : finX (.o c) = some (.o c) := (rfl)
@[simp] theorem ev_finb (c : Cont) : finX (.b c) = some (.o c) := (rfl)
@[simp] theorem ev_slotV (x : XV) (st : MS) : slotOf .V x st = mpO x.pv fun p => (.v p, st) := (rfl)
@[simp] theorem ev_slotO (c : Cont) (st : MS) : slotOf .O (.o c) st = some (.own c, st) := (rfl)
/-! ints -/
@[simp] theorem ev_fAdd (i j : Int) (st : MS) : fAdd (.v (.int i)) (.v (.int j)) st = some (.v (.int (i + j))) := (rfl)
@[simp] theorem ev_fSub (i j : Int) (st : MS) : fSub (.v (.int i)) (.v (.int j)) st = some (.v (.int (i - j))) := (rfl)
@[simp] theorem ev_fMod (i j : Int) (st : MS) : fMod (.v (.int i)) (.v (.int j)) st = gd (0 < j) (some (.v (.int (i % j)))) := (rfl)
@[simp] theorem ev_fDiv (i j : Int) (st : MS) : fDiv (.v (.int i)) (.v (.int j)) st = gd (0 < j ∧ j < 1073741824) (some (.v (.int (i / j)))) := by unfold fDiv fInt CDiv; rfl
@[simp] theorem ev_fMul (i j : Int) (st : MS) : fMul (.v (.int i)) (.v (.int j)) st = gd ((-(2 ^ 64) < i ∧ i < 2 ^ 64) ∨ (-(2 ^ 64) < j ∧ j < 2 ^ 64)) (some (.v (.int (i * j)))) := by unfold fMul fInt CMul; rfl
@[simp] theorem ev_fEq (i j : Int) (st : MS) : fEq (.v (.int i)) (.v (.int j)) st = some (.v (.bl (decide (i = j)))) := (rfl)
@[simp] theorem ev_fNe (i j : Int) (st : MS) : fNe (.v (.int i)) (.v (.int j)) st = some (.v (.bl (!decide (i = j)))) := (rfl)
@[simp] theorem ev_fGt (i j : Int) (st : MS) : fGt (.v (.int i)) (.v (.int j)) st = some (.v (.bl (decide (j < i)))) := (rfl)
@[simp] theorem ev_fGe (i j : Int) (st : MS) : fGe (.v (.int i)) (.v (.int j)) st = some (.v (.bl (decide (j ≤ i)))) := (rfl)
@[simp] theorem ev_fLe (i j : Int) (st : MS) : fLe (.v (.int i)) (.v (.int j)) st = some (.v (.bl (decide (i ≤ j)))) := (rfl)
@[simp] theorem ev_fLt (i j : Int) (st : MS) : fLt (.v (.int i)) (.v (.int j)) st = some (.v (.bl (decide (i < j)))) := (rfl)
@[simp] theorem ev_fIntC (i : Int) (st : MS) : fIntC [.v (.int i)] st = some (.v (.int i)) := (rfl)
/-! sequences -/
theorem atI_nat' {α : Type} (xs : List α) (k : Nat) (h : k < xs.length) : atI xs (k : Int) = xs[k]? := by
  rw [atI_nat (List.getElem?_eq_getElem h), List.getElem?_eq_getElem h]
@[simp] theorem ev_ixTup (xs : List PV) (i : Int) (st : MS) : fIx (.v (.tup xs)) (.v (.int i)) st = mpO (atI xs i) XV.v := by
  unfold mpO; rfl
@[simp] theorem ev_ixLst (xs : List PV) (i : Int) (st : MS) : fIx (.v (.lst xs)) (.v (.int i)) st = mpO (atI xs i) XV.v := by
  unfold mpO; rfl
@[simp] theorem ev_ixO (xs : List PV) (i : Int) (st : MS) : fIx (.o (.lst xs)) (.v (.int i)) st = mpO (atI xs i) XV.v := by
  unfold mpO; rfl
@[simp] theorem ev_ixB (xs : List PV) (i : Int) (st : MS) : fIx (.b (.lst xs)) (.v (.int i)) st = mpO (atI xs i) XV.v := by
  unfold mpO; rfl
theorem ev_ixObj {xs : List PV} {n : Nat} (i : Int) {st : MS} (h : st[n]? = some (.lst xs)) : fIx (.v (.obj n)) (.v (.int i)) st = mpO (atI xs i) XV.v := by
  have e : (XV.v (.obj n)).lst st = some xs := by
    show (match st[n]? with | some (.lst xs) => some xs | _ => none) = _
    rw [h]
  unfold fIx
  simp only [e, ev_int]
  rfl
@[simp] theorem ev_ixObj0 (xs : List PV) (i : Int) (rest : MS) : fIx (.v (.obj 0)) (.v (.int i)) (.lst xs :: rest) = mpO (atI xs i) XV.v := ev_ixObj i rfl
@[simp] theorem atI0 {α : Type} (x : α) (xs : List α) : atI (x :: xs) 0 = some x := by rw [show (0 : Int) = ((0 : Nat) : Int) from rfl, atI_nat' _ _ (by simp)]; rfl
@[simp] theorem atI1 {α : Type} (x y : α) (xs : List α) : atI (x :: y :: xs) 1 = some y := by rw [show (1 : Int) = ((1 : Nat) : Int) from rfl, atI_nat' _ _ (by simp)]; rfl
@[simp] theorem atI2 {α : Type} (x y z : α) (xs : List α) : atI (x :: y :: z :: xs) 2 = some z := by rw [show (2 : Int) = ((2 : Nat) : Int) from rfl, atI_nat' _ _ (by simp)]; rfl
@[simp] theorem atI3 {α : Type} (x y z u : α) (xs : List α) : atI (x :: y :: z :: u :: xs) 3 = some u := by rw [show (3 : Int) = ((3 : Nat) : Int) from rfl, atI_nat' _ _ (by simp)]; rfl
@[simp] theorem atI4 {α : Type} (x y z u v : α) (xs : List α) : atI (x :: y :: z :: u :: v :: xs) 4 = some v := by rw [show (4 : Int) = ((4 : Nat) : Int) from rfl, atI_nat' _ _ (by simp)]; rfl
@[simp] theorem ev_len_tup (xs : List PV) (st : MS) : fLen [.v (.tup xs)] st = some (.v (.int xs.length)) := (rfl)
@[simp] theorem ev_len_lst (xs : List PV) (st : MS) : fLen [.v (.lst xs)] st = some (.v (.int xs.length)) := (rfl)
@[simp] theorem ev_len_o (xs : List PV) (st : MS) : fLen [.o (.lst xs)] st = some (.v (.int xs.length)) := (rfl)
@[simp] theorem ev_len_b (xs : List PV) (st : MS) : fLen [.b (.lst xs)] st = some (.v (.int xs.length)) := (rfl)
@[simp] theorem ev_pVar (n : Nat) (env : DEnv) (st : MS) (i : Nat) (h : nth env i = some (.v (.obj n))) : pVar i env st = some (.ob n, st) := by unfold pVar; rw [nth_eq, h]
@[simp] theorem ev_plGet (env : DEnv) (st : MS) (n : Nat) : plGet env st (.ob n) = st[n]? := (rfl)
@[simp] theorem ev_plSet (env : DEnv) (st : MS) (c : Cont) (n : Nat) : plSet env st c (.ob n) = (env, st.set n c) := (rfl)
@[simp] theorem ev_fPut (xs : List PV) (k : Int) (v : PV) : fPut (.lst xs) (.int k) v = mpO (ixN xs.length k) fun j => .lst (xs.set j v) := (rfl)
@[simp] theorem ev_fGet (xs : List PV) (k : Int) : fGet (.lst xs) (.int k) = atI xs k := (rfl)
@[simp] theorem ev_fIpI (g : Int → Int → Int) (i j : Int) : fIpI g (.int i) (.int j) = some (.int (g i j)) := (rfl)
end DD
/-! MEval2 -/
namespace DD
open PySem PySem.Spec PyProof.Rows L2
/-! loops over typed lists -/
section
variable {α : Type} {bind : DG} {test : DT} {elt : DX} {env : DEnv} {st : MS}
theorem compD_nil : compD bind test elt [] env st = some ([], st) := (rfl)
theorem compD_cons {p : PV} {ps : List PV} : compD bind test elt (p :: ps) env st = bnd (bind p env) fun env1 => bnd (test env1 st) fun b => if b.1 = true then bnd (elt env1 b.2) fun y => bnd y.1.pv fun q => mpO (compD bind test elt ps env y.2) fun r => (q :: r.1, r.2)
    else compD bind test elt ps env b.2 := (rfl)
/-- a comprehension that changes nothing -/
theorem compD_filter (t : α → Bool) (h : α → PV) {enc : α → PV} : ∀ (xs : List α), (∀ a ∈ xs, ∃ e, bind (enc a) env = some e ∧ test e st = some (t a, st) ∧ (t a = true → ∃ x, elt e st = some (x, st) ∧ x.pv = some (h a))) →
    compD bind test elt (xs.map enc) env st = some ((xs.filter t).map h, st)
  | [], _ => rfl
  | a :: xs, hb => by
    obtain ⟨e, h1, h2, h3⟩ := hb a List.mem_cons_self
    have ih := compD_filter t h xs fun b hb' => hb b (List.mem_cons_of_mem _ hb')
    rw [List.map_cons, compD_cons, h1, bnd_some, h2, bnd_some]
    cases ht : t a with
    | false => rw [if_neg (by simp), ih, List.filter_cons_of_neg (by simp [ht])]
    | true =>
      obtain ⟨x, h4, h5⟩ := h3 ht
      rw [if_pos rfl, h4, bnd_some, h5, bnd_some, ih, List.filter_cons_of_pos ht]
      rfl
theorem compD_map (h : α → PV) {enc : α → PV} (xs : List α) (hb : ∀ a ∈ xs, ∃ e, bind (enc a) env = some e ∧ test e st = some (true, st) ∧ ∃ x, elt e st = some (x, st) ∧ x.pv = some (h a)) :
    compD bind test elt (xs.map enc) env st = some (xs.map h, st) := by
  have := compD_filter (fun _ => true) h xs (bind := bind) (test := test) (elt := elt) (env := env) (st := st) (enc := enc) fun a ha => by
    obtain ⟨e, h1, h2, h3⟩ := hb a ha
    exact ⟨e, h1, h2, fun _ => h3⟩
  rw [List.filter_eq_self.mpr (fun _ _ => rfl)] at this
  exact this
/-- .. that draws, the items all alike: I is kept -/
theorem compD_draw {β : Type} {enc : α → PV} (I : MS → Prop) (R : α → PV → Prop) : ∀ (xs : List α) (st : MS), I st → (∀ a ∈ xs, ∀ st, I st → ∃ e x st' q, bind (enc a) env = some e ∧ test e st = some (true, st) ∧ elt e st = some (x, st') ∧ x.pv = some q ∧ R a q ∧ I st') →
    ∃ qs st', compD bind test elt (xs.map enc) env st = some (qs, st') ∧ Paired R xs qs ∧ I st'
  | [], st, hi, _ => ⟨[], st, rfl, .nil, hi⟩
  | a :: xs, st, hi, hb => by
    obtain ⟨e, x, st1, q, h1, h2, h3, h4, h5, h6⟩ := hb a List.mem_cons_self st hi
    obtain ⟨qs, st2, g1, g2, g3⟩ := compD_draw (β := β) I R xs st1 h6 fun b hb' => hb b (List.mem_cons_of_mem _ hb')
    refine ⟨q :: qs, st2, ?_, .cons h5 g2, g3⟩
    rw [List.map_cons, compD_cons, h1, bnd_some, h2, bnd_some, if_pos rfl, h3, bnd_some, h4, bnd_some, g1]
    rfl
theorem loopD_nil {b : DG} {body : DS} : loopD b body [] env st = some (.nx, env, st) := (rfl)
theorem loopD_cons {b : DG} {body : DS} {p : PV} {ps : List PV} : loopD b body (p :: ps) env st = bnd (b p env) fun env1 => bnd (body env1 st) fun r => match r.1 with
    | .nx => loopD b body ps r.2.1 r.2.2
    | .ct => loopD b body ps r.2.1 r.2.2
    | .bk => some (.nx, r.2.1, r.2.2)
    | .rt x => some (.rt x, r.2.1, r.2.2) := (rfl)
end
section
variable (env : DEnv) (st : MS)
@[simp] theorem ev_iSeq (m : Bool) (d : DX) : iSeq m d env st = bnd (d env st) fun r => mpO (seqItems m r.1) fun xs => (xs, r.2) := (rfl)
@[simp] theorem ev_iZip (m : Bool) (d : DA) : iZip m d env st = bnd (d env st) fun r => match r.1 with
  | [x, y] => if x.isT = y.isT then bnd (seqItems2 m x) fun xs => mpO (seqItems2 m y) fun ys => (zipP xs ys, r.2) else none
  | _ => none := (rfl)
@[simp] theorem ev_iEnum (m : Bool) (d : DA) : iEnum' m d env st = bnd (d env st) fun r => match r.1 with
  | [x] => mpO (seqItems2 m x) fun xs => (enumP xs, r.2)
  | _ => none := (rfl)
theorem ev_iRange1 (d : DA) : iRange1 d env st = bnd (d env st) fun r => match r.1 with
  | [.v (.int n)] => if -(2 ^ 62) ≤ n ∧ n < 2 ^ 62 then some ((List.range n.toNat).map fun (k : Nat) => PV.int (k : Int), r.2) else none
  | _ => none := (rfl)
theorem ev_iRange2 (d : DA) : iRange2 d env st = bnd (d env st) fun r => match r.1 with
  | [.v (.int i), .v (.int j)] => if -(2 ^ 62) ≤ i ∧ i < 2 ^ 62 ∧ -(2 ^ 62) ≤ j ∧ j < 2 ^ 62 then some ((List.range (j - i).toNat).map fun (k : Nat) => PV.int (i + (k : Int)), r.2) else none
  | _ => none := (rfl)
@[simp] theorem ev_tTrue : tTrue env st = some (true, st) := (rfl)
end
@[simp] theorem ev_siT (m : Bool) (xs : List PV) : seqItems m (.v (.tup xs)) = some xs := (rfl)
@[simp] theorem ev_siL (m : Bool) (xs : List PV) : seqItems m (.v (.lst xs)) = some xs := (rfl)
@[simp] theorem ev_siR (m : Bool) (xs : List PV) : seqItems m (.v (.rol xs)) = some xs := (rfl)
@[simp] theorem ev_siRt (m : Bool) (xs : List PV) : seqItems m (.v (.rot xs)) = some xs := (rfl)
@[simp] theorem ev_siO (m : Bool) (xs : List PV) : seqItems m (.o (.lst xs)) = some xs := (rfl)
@[simp] theorem ev_siB (xs : List PV) : seqItems false (.b (.lst xs)) = some xs := (rfl)
@[simp] theorem ev_si2T (m : Bool) (xs : List PV) : seqItems2 m (.v (.tup xs)) = some xs := (rfl)
@[simp] theorem ev_si2L (m : Bool) (xs : List PV) : seqItems2 m (.v (.lst xs)) = some xs := (rfl)
@[simp] theorem ev_si2O (xs : List PV) : seqItems2 false (.o (.lst xs)) = some xs := (rfl)
@[simp] theorem ev_isT1 (xs : List PV) : XV.isT (.v (.tup xs)) = true := (rfl)
@[simp] theorem ev_isT2 (xs : List PV) : XV.isT (.v (.lst xs)) = false := (rfl)
@[simp] theorem ev_isT3 (c : Cont) : XV.isT (.o c) = false := (rfl)
@[simp] theorem ev_fTupleO (xs : List PV) (st : MS) : fTuple [.o (.lst xs)] st = some (.v (.tup xs)) := (rfl)
@[simp] theorem ev_fTupleT (xs : List PV) (st : MS) : fTuple [.v (.tup xs)] st = some (.v (.tup xs)) := (rfl)
@[simp] theorem ev_fTupleL (xs : List PV) (st : MS) : fTuple [.v (.lst xs)] st = some (.v (.tup xs)) := (rfl)
@[simp] theorem ev_gName (i : Nat) (p : PV) (env : DEnv) : gName' i p env = putN env i (.v p) := by rw [← putN_eq]; rfl
@[simp] theorem ev_gTup (n : Nat) (d : DGs) (ps : List PV) (env : DEnv) : gTup' n d (.tup ps) env = gd (ps.length = n) (d ps env) := (rfl)
@[simp] theorem ev_gsNil (env : DEnv) : gsNil [] env = some env := (rfl)
@[simp] theorem ev_gsCons (a : DG) (b : DGs) (p : PV) (ps : List PV) (env : DEnv) : gsCons a b (p :: ps) env = bnd (a p env) fun env1 => b ps env1 := (rfl)
@[simp] theorem ev_wipe0 (env : DEnv) : wipeD env [] = env := (rfl)
@[simp] theorem ev_wipe1 (env : DEnv) (v : Nat) (vs : List Nat) : wipeD env (v :: vs) = setN (wipeD env vs) v .un := by rw [← setN_eq]; rfl
end DD
/-! MData -/
namespace DD
open PySem PySem.Spec PyProof.Rows L2
/-! data: in, ==, over ints and pairs of ints -/
theorem dats_map {α : Type} {f : α → PV} {g : α → PyData} : ∀ (xs : List α), (∀ a ∈ xs, (f a).dat = some (g a)) → PV.dats (xs.map f) = some (xs.map g)
  | [], _ => rfl
  | a :: xs, h => by
    rw [List.map_cons]
    unfold PV.dats
    rw [h a List.mem_cons_self, dats_map xs fun b hb => h b (List.mem_cons_of_mem _ hb)]
    rfl
theorem lay_map {α : Type} {g : α → PyData} : ∀ (xs : List α), (∀ a ∈ xs, (g a).canLay0 = true) → PyData.canLayAll0 (xs.map g) = true
  | [], _ => rfl
  | a :: xs, h => by
    show ((g a).canLay0 && PyData.canLayAll0 (xs.map g)) = true
    rw [h a List.mem_cons_self, lay_map xs fun b hb => h b (List.mem_cons_of_mem _ hb)]; rfl
theorem depth_map {α : Type} {g : α → PyData} {n : Nat} : ∀ (xs : List α), (∀ a ∈ xs, (g a).depth ≤ n) → PyData.depthAll (xs.map g) ≤ n
  | [], _ => Nat.zero_le _
  | a :: xs, h => by
    show max (g a).depth (PyData.depthAll (xs.map g)) ≤ n
    have := h a List.mem_cons_self
    have := depth_map xs fun b hb => h b (List.mem_cons_of_mem _ hb)
    omega
theorem shaped_map {α : Type} {g : α → PyData} {n : Nat} (xs : List α) (h1 : ∀ a ∈ xs, (g a).canLay0 = true) (h2 : ∀ a ∈ xs, (g a).depth ≤ n) (hn : n < 64) : SeqAt.shaped (.list (xs.map g)) = true ∧ SeqAt.shaped (.tuple (xs.map g)) = true := by
  have e1 := lay_map xs h1
  have e2 := depth_map xs h2
  constructor
  · show (PyData.canLayAll0 (xs.map g) && decide (PyData.depthAll (xs.map g) + 1 ≤ 64)) = true
    rw [e1, decide_eq_true (by omega)]; rfl
  · show (PyData.canLayAll0 (xs.map g) && decide (PyData.depthAll (xs.map g) + 1 ≤ 64)) = true
    rw [e1, decide_eq_true (by omega)]; rfl
theorem shaped_int (i : Int) : SeqAt.shaped (.int i) = true := rfl
theorem dats_ints (ns : List Int) : PV.dats (ns.map PV.int) = some (ns.map PyData.int) := dats_map ns fun _ _ => rfl
theorem shaped_ints (ns : List Int) : SeqAt.shaped (.list (ns.map PyData.int)) = true ∧ SeqAt.shaped (.tuple (ns.map PyData.int)) = true := shaped_map (n := 0) ns (fun _ _ => rfl) (fun _ _ => Nat.le_refl _) (by omega)
theorem any_ints (i : Int) : ∀ ns : List Int, ((ns.map PyData.int).any fun z => PyData.eqv z (.int i)) = decide (i ∈ ns)
  | [] => rfl
  | n :: ns => by
    show (decide (n = i) || (ns.map PyData.int).any fun z => PyData.eqv z (.int i)) = _
    rw [any_ints i ns]
    by_cases h : n = i
    · subst h; simp
    · have h' : ¬ i = n := fun e => h e.symm
      simp [h, h']
@[simp] theorem ev_inInts (neg : Bool) (i : Int) (ns : List Int) (st : MS) : fIn neg (.v (.int i)) (.v (.tup (ns.map PV.int))) st = some (.v (.bl (if neg = true then !decide (i ∈ ns) else decide (i ∈ ns)))) := by
  have e : (XV.v (.tup (ns.map PV.int))).dat st = some (.tuple (ns.map PyData.int)) := by
    show (PV.dats (ns.map PV.int)).map PyData.tuple = _
    rw [dats_ints]; rfl
  have e2 : (XV.v (.int i)).dat st = some (.int i) := rfl
  unfold fIn
  simp only [e, e2, Option.bind_some]
  unfold inSeq
  rw [if_pos ⟨shaped_int i, (shaped_ints ns).1⟩, any_ints]
@[simp] theorem ev_inIntsL (neg : Bool) (i : Int) (ns : List Int) (st : MS) : fIn neg (.v (.int i)) (.v (.lst (ns.map PV.int))) st = some (.v (.bl (if neg = true then !decide (i ∈ ns) else decide (i ∈ ns)))) := by
  have e : (XV.v (.lst (ns.map PV.int))).dat st = some (.list (ns.map PyData.int)) := by
    show (PV.dats (ns.map PV.int)).map PyData.list = _
    rw [dats_ints]; rfl
  have e2 : (XV.v (.int i)).dat st = some (.int i) := rfl
  unfold fIn
  simp only [e, e2, Option.bind_some]
  unfold inSeq
  rw [if_pos ⟨shaped_int i, (shaped_ints ns).1⟩, any_ints]
/-- pairs -/
def pD (p : Int × Int) : PyData := .tuple [.int p.1, .int p.2]
theorem dat_pPV (p : Int × Int) : (pPV p).dat = some (pD p) := rfl
theorem shaped_pD (p : Int × Int) : SeqAt.shaped (pD p) = true := rfl
theorem shaped_pairs (ns : List (Int × Int)) : SeqAt.shaped (.list (ns.map pD)) = true ∧ SeqAt.shaped (.tuple (ns.map pD)) = true := shaped_map (n := 1) ns (fun _ _ => rfl) (fun _ _ => Nat.le_refl _) (by omega)
theorem eqv_pD (p q : Int × Int) : PyData.eqv (pD p) (pD q) = decide (p = q) := by
  show (decide (p.1 = q.1) && (decide (p.2 = q.2) && true)) = decide (p = q)
  rw [Bool.and_true]
  by_cases h1 : p.1 = q.1
  · by_cases h2 : p.2 = q.2
    · have : p = q := Prod.ext h1 h2
      simp [this]
    · have : ¬ p = q := fun e => h2 (by rw [e])
      simp [h2, this]
  · have : ¬ p = q := fun e => h1 (by rw [e])
    simp [h1, this]
theorem any_pairs (p : Int × Int) : ∀ ns : List (Int × Int), ((ns.map pD).any fun z => PyData.eqv z (pD p)) = decide (p ∈ ns)
  | [] => rfl
  | n :: ns => by
    rw [List.map_cons, List.any_cons, eqv_pD, any_pairs p ns]
    by_cases h : n = p
    · subst h; simp
    · have h' : ¬ p = n := fun e => h e.symm
      simp [h, h']
theorem ev_inPairs (neg : Bool) (p : Int × Int) (ns : List (Int × Int)) (st : MS) : fIn neg (.v (pPV p)) (.v (.tup (ns.map pPV))) st = some (.v (.bl (if neg = true then !decide (p ∈ ns) else decide (p ∈ ns)))) := by
  have e : (XV.v (.tup (ns.map pPV))).dat st = some (.tuple (ns.map pD)) := by
    show (PV.dats (ns.map pPV)).map PyData.tuple = _
    rw [dats_map ns fun a _ => dat_pPV a]; rfl
  have e2 : (XV.v (pPV p)).dat st = some (pD p) := rfl
  unfold fIn pPV at *
  simp only [e, e2, Option.bind_some]
  unfold inSeq
  rw [if_pos ⟨shaped_pD p, (shaped_pairs ns).1⟩, any_pairs]
end DD
/-! MEval3 -/
namespace DD
open PySem PySem.Spec PyProof.Rows L2
theorem p62 : (2 : Int) ^ 62 = 4611686018427387904 := by
  have h : ((2 ^ 62 : Nat) : Int) = 4611686018427387904 := rfl
  rw [← h, Int.natCast_pow]; rfl
/-- range(i, j) of small ints -/
theorem ev_range2 {d : DA} {env : DEnv} {st st' : MS} {i j : Int} (h : d env st = some ([.v (.int i), .v (.int j)], st')) (hi : -1000000 ≤ i ∧ i ≤ 1000000) (hj : -1000000 ≤ j ∧ j ≤ 1000000) : iRange2 d env st = some ((List.range (j - i).toNat).map fun (k : Nat) => PV.int (i + (k : Int)), st') := by
  unfold iRange2
  rw [h, Option.bind_some]
  exact if_pos (by rw [p62]; omega)
theorem ev_range1 {d : DA} {env : DEnv} {st st' : MS} {j : Int} (h : d env st = some ([.v (.int j)], st')) (hj : -1000000 ≤ j ∧ j ≤ 1000000) : iRange1 d env st = some ((List.range j.toNat).map fun (k : Nat) => PV.int (k : Int), st') := by
  unfold iRange1
  rw [h, Option.bind_some]
  exact if_pos (by rw [p62]; omega)
end DD
/-! MEv4 -/
namespace DD
open PySem PySem.Spec PyProof.Rows L2
/-! the rest of the statements and expressions -/
section
variable (env : DEnv) (st : MS)
@[simp] theorem ev_never : sNever env st = none := (rfl)
@[simp] theorem ev_break : sBreak env st = some (.bk, env, st) := (rfl)
@[simp] theorem ev_cont : sCont env st = some (.ct, env, st) := (rfl)
/-- what a slot lets change -/
def slPl (i : Nat) (s : Option Slot) (st : MS) : Option (Pl × MS) := match s with
  | some (.own _) => some (.sl i, st)
  | some (.v (.obj n)) => some (.ob n, st)
  | _ => none
@[simp] theorem slPl_own (i : Nat) (c : Cont) (st : MS) : slPl i (some (.own c)) st = some (.sl i, st) := (rfl)
@[simp] theorem slPl_obj (i n : Nat) (st : MS) : slPl i (some (.v (.obj n))) st = some (.ob n, st) := (rfl)
@[simp] theorem ev_pVar' (i : Nat) : pVar i env st = slPl i (nth env i) st := by unfold pVar; rw [nth_eq]; rfl
def slCt (s : Option Slot) : Option Cont := match s with
  | some (.own c) => some c
  | _ => none
@[simp] theorem slCt_own (c : Cont) : slCt (some (.own c)) = some c := (rfl)
@[simp] theorem ev_plGetS (i : Nat) : plGet env st (.sl i) = slCt (nth env i) := by show (match env[i]? with | some (.own c) => some c | _ => none) = _; rw [nth_eq]; rfl
@[simp] theorem ev_plSetS (c : Cont) (i : Nat) : plSet env st c (.sl i) = (setN env i (.own c), st) := by show (env.set i (.own c), st) = _; rw [setN_eq]
def exPl (r : XV × MS) : Option (Pl × MS) := match r.1 with
  | .v (.obj n) => some (.ob n, r.2)
  | _ => none
@[simp] theorem exPl_obj (n : Nat) (st : MS) : exPl (.v (.obj n), st) = some (.ob n, st) := (rfl)
@[simp] theorem ev_pEx (d : DX) : pEx d env st = bnd (d env st) exPl := (rfl)
theorem ev_mMut (T : String) (f : FM) (pl : DPl) (a : DA) : mMut T f pl a env st = bnd (pl env st) fun r => bnd (plGet env r.2 r.1) fun c0 => gd (c0.tyN = T ∧ c0.tyN ≠ "") (bnd (a env r.2) fun s => bnd (pvs s.1) fun ps => bnd (plGet env s.2 r.1) fun c =>
  mpO (f c ps) fun q => (q.2, plSet env s.2 q.1 r.1)) := (rfl)
@[simp] theorem ev_sMut (T : String) (f : FM) (pl : DPl) (a : DA) : sMut T f pl a env st = mpO (mMut T f pl a env st) fun q => (.nx, q.2) := (rfl)
@[simp] theorem ev_sMutG (T : String) (f : FM) (pl : DPl) (a : DA) (g : DGm) : sMutG T f pl a g env st = bnd (mMut T f pl a env st) fun q => mpO (g q.1 q.2.1 q.2.2) fun s => (.nx, s.1, s.2) := (rfl)
@[simp] theorem ty_lst (xs : List PV) : ((Cont.lst xs).tyN = "list" ∧ (Cont.lst xs).tyN ≠ "") ↔ True := iff_true_intro ⟨rfl, show ("list" : String) ≠ "" by decide⟩
@[simp] theorem ev_mAppend (xs : List PV) (y : PV) : mAppend (.lst xs) [y] = gd (xs.length < sizeLine) (some (.lst (xs ++ [y]), .non)) := (rfl)
@[simp] theorem ev_mExtend (xs ys : List PV) : mExtend (.lst xs) [.lst ys] = gd (Fit (xs.length + ys.length)) (some (.lst (xs ++ ys), .non)) := (rfl)
@[simp] theorem ev_mInsert (xs : List PV) (i : Int) (y : PV) : mInsert (.lst xs) [.int i, y] = gd (xs.length < sizeLine ∧ 0 ≤ i ∧ i < 2 ^ 63) (some (.lst (xs.take i.toNat ++ [y] ++ xs.drop i.toNat), .non)) := (rfl)
@[simp] theorem ev_mPop (xs : List PV) : mPop (.lst xs) [] = mpO xs[xs.length - 1]? fun y => (.lst xs.dropLast, y) := (rfl)
theorem lt_line {n : Nat} (h : n ≤ 10000) : n < sizeLine := by rw [sizeLine_eq]; omega
@[simp] theorem ev_gmOf (d : DG) (p : PV) : gmOf d p env st = mpO (d p env) fun e => (e, st) := (rfl)
@[simp] theorem ev_gmNil : gmNil [] env st = some (env, st) := (rfl)
@[simp] theorem ev_gmCons (a : DGm) (b : DGms) (p : PV) (ps : List PV) : gmCons a b (p :: ps) env st = bnd (a p env st) fun r => b ps r.1 r.2 := (rfl)
@[simp] theorem ev_pNil : pNil env st = some ([], st) := (rfl)
@[simp] theorem ev_pCons (m : Md) (a : DX) (b : DP) : pCons m a b env st = bnd (a env st) fun r => bnd (slotOf m r.1 r.2) fun s => mpO (b env s.2) fun q => (s.1 :: q.1, q.2) := (rfl)
def par2E (i j : Nat) (env : DEnv) (r : List Slot × MS) : Option (Fl × DEnv × MS) := match r.1 with
  | [s, t] => bnd (putN env i s) fun e => mpO (putN e j t) fun e => (.nx, e, r.2)
  | _ => none
@[simp] theorem par2E_2 (i j : Nat) (env : DEnv) (s t : Slot) (st : MS) : par2E i j env ([s, t], st) = bnd (putN env i s) fun e => mpO (putN e j t) fun e => (.nx, e, st) := (rfl)
theorem par2_aux (i j : Nat) (s t : Slot) (st : MS) : (if i < env.length ∧ j < env.length then some (Fl.nx, (env.set i s).set j t, st) else none) = bnd (putN env i s) fun e => mpO (putN e j t) fun e => (Fl.nx, e, st) := by
  rw [← putN_eq]
  by_cases h1 : i < env.length
  · rw [if_pos h1]
    show _ = mpO (putN _ _ _) _
    rw [← putN_eq]
    by_cases h2 : j < env.length
    · rw [if_pos ⟨h1, h2⟩, if_pos (by simpa using h2)]; rfl
    · rw [if_neg (fun z => h2 z.2), if_neg (by simpa using h2)]; rfl
  · rw [if_neg (fun z => h1 z.1), if_neg h1]; rfl
@[simp] theorem ev_par2 (i j : Nat) (d : DP) : sPar2 i j d env st = bnd (d env st) (par2E i j env) := by
  unfold sPar2 bnd
  congr
  funext ⟨ss, st⟩
  match ss with
  | [] => rfl
  | [_] => rfl
  | [s, t] => exact par2_aux env i j s t st
  | _ :: _ :: _ :: _ => rfl
@[simp] theorem slotPs_nil : slotPs [] = some [] := (rfl)
@[simp] theorem slotPs_cons (p : PV) (ss : List Slot) : slotPs (.v p :: ss) = mpO (slotPs ss) fun ps => p :: ps := (rfl)
@[simp] theorem ev_parG (n : Nat) (d : DP) (g : DGms) : sParG n d g env st = bnd (d env st) fun r => bnd (slotPs r.1) fun ps => gd (Fit ps.length ∧ ps.length = n ∧ 0 < env.length) (mpO (g ps env r.2) fun q => (.nx, q.1, q.2)) := (rfl)
def augE (f : PV → PV → Option PV) (p : PV) (r : XV × MS) : Option (PV × MS) := bnd r.1.pv fun q => mpO (f p q) fun z => (z, r.2)
@[simp] theorem ev_slotNo (c : Cont) : slotOf .N (.o c) st = some (.v (.obj st.length), st ++ [c]) := (rfl)
@[simp] theorem ev_slotNv (p : PV) : slotOf .N (.v p) st = some (.v p, st) := (rfl)
@[simp] theorem ev_slotOv (p : PV) : slotOf .O (.v p) st = some (.v p, st) := (rfl)
/-- fields -/
theorem insOf_at {C : Addr} {n : Nat} {st : MS} {fs : List (Str × PV)} (h : st[n]? = some (.ins C fs)) : insOf C st (.v (.obj n)) = some (n, fs) := by
  show (match st[n]? with | some (.ins D fs) => if D = C then some (n, fs) else none | _ => none) = _
  rw [h]; exact if_pos rfl
@[simp] theorem ev_xFld (C : Addr) (f : Str) (d : DX) : xFld C f d env st = bnd (d env st) fun r => bnd (insOf C r.2 r.1) fun q => mpO (atP q.2 f) fun p => (.v p, r.2) := (rfl)
@[simp] theorem ev_gmFld (C : Addr) (f : Str) (d : DX) (p : PV) : gmFld C f d p env st = bnd (d env st) fun r => bnd (insOf C r.2 r.1) fun q => gd (q.2.length < 1000) (some (env, r.2.set q.1 (.ins C (putA f p q.2)))) := (rfl)
@[simp] theorem ev_xMeth (C : Addr) (m : Str) (df : DF) (n : Nat) (d : DX) (a : DA) : xMeth C m df n d a env st = bnd (d env st) fun r => bnd (insOf C r.2 r.1) fun q => gd (atP q.2 m = none) (bnd (a env r.2) fun s => gd (s.1.length + 1 = n) (callD df (r.1 :: s.1) s.2)) := (rfl)
def makE (k : Nat) (q : XV × MS) : Option (XV × MS) := match q.1 with
  | .v .non => some (.v (.obj k), q.2)
  | _ => none
@[simp] theorem makE_non (k : Nat) (st : MS) : makE k (.v .non, st) = some (.v (.obj k), st) := (rfl)
@[simp] theorem ev_xMake (C : Addr) (df : DF) (n : Nat) (a : DA) : xMake C df n a env st = bnd (a env st) fun r => bnd (pvs r.1) fun ps => gd (ps.length + 1 = n) (bnd (df (.obj r.2.length :: ps) (r.2 ++ [.ins C []])) (makE r.2.length)) := (rfl)
@[simp] theorem ev_lc2 (items : DI) (vs : List Nat) (b : DG) (t : DT) (items1 : DI) (vs1 : List Nat) (b1 : DG) (t1 : DT) (e : DX) : xLc2 items vs b t items1 vs1 b1 t1 e env st = bnd (items env st) fun r => bnd (compD2 b t items1 vs1 b1 t1 e r.1 (wipeD env vs) r.2) fun q => gd (Fit q.1.length) (some (.o (.lst q.1), q.2)) := (rfl)
def vsX (xs : List PV) (ys : List XV) : List XV := xs.map XV.v ++ ys
@[simp] theorem pvs_vsX : ∀ (xs : List PV) (ys : List XV), pvs (vsX xs ys) = mpO (pvs ys) fun ps => xs ++ ps
  | [], ys => by show pvs ys = _; cases pvs ys <;> rfl
  | x :: xs, ys => by
    show bnd (some x) (fun p => mpO (pvs (vsX xs ys)) fun ps => p :: ps) = _
    rw [pvs_vsX xs ys, bnd_some]; cases pvs ys <;> rfl
@[simp] theorem ev_aStar (a : DX) (b : DA) : aStar a b env st = bnd (a env st) fun r => bnd (r.1.seq r.2) fun xs => mpO (b env r.2) fun q => (vsX xs q.1, q.2) := (rfl)
@[simp] theorem ev_seqL (xs : List PV) : (XV.v (.lst xs)).seq st = some xs := (rfl)
@[simp] theorem ev_seqT (xs : List PV) : (XV.v (.tup xs)).seq st = some xs := (rfl)
@[simp] theorem ev_xRev (d : DX) : xRev d env st = bnd (d env st) fun r => mpO (fRev r.1 r.2) fun z => (z, r.2) := (rfl)
@[simp] theorem ev_fRevT (xs : List PV) : fRev (.v (.tup xs)) st = some (.v (.tup xs.reverse)) := (rfl)
@[simp] theorem ev_xDict1T (k v : DX) : xDict1T k v env st = bnd (k env st) fun r => bnd r.1.pv fun kp => bnd kp.keyT fun ks => bnd (v env r.2) fun q => mpO q.1.pv fun p => (.o (.dT [(ks, p)]), q.2) := (rfl)
@[simp] theorem ev_xDc (items : DI) (vs : List Nat) (b : DG) (t : DT) (kx vx : DX) : xDc items vs b t kx vx env st = bnd (items env st) fun r => mpO (dcompD b t kx vx r.1 (wipeD env vs) r.2 []) fun q => (.o (.dK q.1), q.2) := (rfl)
def callSE (S : Addr → Option (Nat × DF)) (s : Option Slot) (o : Option (List XV × MS)) : Option (XV × MS) := match s with
  | some (.v p) => bnd o fun r => callS S p r.1 r.2
  | _ => none
@[simp] theorem ev_xCallS (S : Addr → Option (Nat × DF)) (i : Nat) (a : DA) : xCallS S i a env st = callSE S (nth env i) (a env st) := by unfold xCallS callSE; rw [nth_eq]; rfl
@[simp] theorem callSE_v (S : Addr → Option (Nat × DF)) (p : PV) (o : Option (List XV × MS)) : callSE S (some (.v p)) o = bnd o fun r => callS S p r.1 r.2 := (rfl)
@[simp] theorem callS_ref (S : Addr → Option (Nat × DF)) (f : Addr) (xs : List XV) : callS S (.ref f) xs st = bnd (S f) fun r => gd (xs.length = r.1) (callD r.2 xs st) := (rfl)
@[simp] theorem ev_rg1 (a : DX) : rg1 a env st = bnd (a env st) fun r => mpO r.1.int fun n => ((0, n), r.2) := (rfl)
@[simp] theorem ev_rg2 (a b : DX) : rg2 a b env st = bnd (a env st) fun r => bnd r.1.int fun i => bnd (b env r.2) fun q => mpO q.1.int fun j => ((i, j), q.2) := (rfl)
theorem rgOk_of {a b : Int} (h1 : -1000000 ≤ a ∧ a ≤ 1000000) (h2 : -1000000 ≤ b ∧ b ≤ 1000000) : rgOk a b := by
  unfold rgOk; rw [p62]; omega
def rgE (r : (Int × Int) × MS) : Option (XV × MS) := if rgOk r.1.1 r.1.2 then some (.o (.lst (rgP r.1.1 r.1.2)), r.2) else none
@[simp] theorem ev_listRg (d : DRg) : xListRg d env st = bnd (d env st) rgE := (rfl)
theorem rgE_of {a b : Int} {st : MS} (h1 : -1000000 ≤ a ∧ a ≤ 1000000) (h2 : -1000000 ≤ b ∧ b ≤ 1000000) : rgE ((a, b), st) = some (.o (.lst (rgP a b)), st) := if_pos (rgOk_of h1 h2)
end
theorem compD2_flat {α : Type} {bind bind1 : DG} {test test1 : DT} {items1 : DI} {vs1 : List Nat} {elt : DX} {env : DEnv} {st : MS} {enc : α → PV} (g : α → List PV) : ∀ (xs : List α), (∀ a ∈ xs, ∃ e ys, bind (enc a) env = some e ∧ test e st = some (true, st) ∧ items1 e st = some (ys, st) ∧ compD bind1 test1 elt ys (wipeD e vs1) st = some (g a, st)) →
    compD2 bind test items1 vs1 bind1 test1 elt (xs.map enc) env st = some (xs.flatMap g, st)
  | [], _ => rfl
  | a :: xs, hb => by
    obtain ⟨e, ys, h1, h2, h3, h4⟩ := hb a List.mem_cons_self
    have ih := compD2_flat (items1 := items1) (bind1 := bind1) (test1 := test1) (elt := elt) g xs fun b hb' => hb b (List.mem_cons_of_mem _ hb')
    rw [List.map_cons]
    unfold compD2
    rw [h1, Option.bind_some, h2, Option.bind_some, if_pos rfl, h3, Option.bind_some, h4, Option.bind_some, ih]
    rfl
theorem pvs_vs : ∀ xs : List PV, pvs (xs.map XV.v) = some xs
  | [] => rfl
  | x :: xs => by
    show bnd (some x) (fun p => mpO (pvs (xs.map XV.v)) fun ps => p :: ps) = _
    rw [pvs_vs xs]; rfl
theorem pairsI_map : ∀ ns : List (Int × Int), pairsI? (ns.map pPV) = some ns
  | [] => rfl
  | n :: ns => by
    show (pair1? (pPV n)).bind (fun q => (pairsI? (ns.map pPV)).map fun qs => q :: qs) = _
    rw [pairsI_map ns]; rfl
theorem ints_pairs {n : Int × Int} {ns : List (Int × Int)} : ints? ((n :: ns).map pPV) = none := (rfl)
theorem ev_sortP {ns : List (Int × Int)} (h : ns ≠ []) (st : MS) : fSorted2 [.o (.lst (ns.map pPV))] st = some (.o (.lst ((srtP ns).map pPV))) := by
  cases ns with
  | nil => exact absurd rfl h
  | cons n ns =>
    show (match ints? ((n :: ns).map pPV) with
      | some ns => some (sortI ns)
      | none => (pairsI? ((n :: ns).map pPV)).map fun ns => XV.o (.lst ((srtP ns).map pPV))) = _
    rw [ints_pairs, pairsI_map]; rfl
@[simp] theorem ev_sortO (ns : List Int) (st : MS) : fSorted2 [.o (.lst (ns.map PV.int))] st = some (.o (.lst ((srt ns).map PV.int))) := by
  show (match ints? (ns.map PV.int) with
      | some ns => some (sortI ns)
      | none => (pairsI? (ns.map PV.int)).map fun ns => XV.o (.lst ((srtP ns).map pPV))) = _
  rw [ints_map]; rfl
@[simp] theorem ev_sortV (ns : List Int) (st : MS) : fSorted2 [.v (.lst (ns.map PV.int))] st = some (.o (.lst ((srt ns).map PV.int))) := by
  show (match ints? (ns.map PV.int) with
      | some ns => some (sortI ns)
      | none => (pairsI? (ns.map PV.int)).map fun ns => XV.o (.lst ((srtP ns).map pPV))) = _
  rw [ints_map]; rfl
@[simp] theorem ev_sortT (ns : List Int) (st : MS) : fSorted2 [.v (.tup (ns.map PV.int))] st = some (.o (.lst ((srt ns).map PV.int))) := by
  show (ints? (ns.map PV.int)).map sortI = _
  rw [ints_map]; rfl
theorem ev_sortS {ns : List Int} (h : ns.length < 64) (st : MS) : fSorted2 [.o (.set ns)] st = some (.o (.lst ((srt ns).map PV.int))) := if_pos h
theorem ev_setL {ns : List Int} (h : ns.length ≤ 4000) (st : MS) : fSet2 [.v (.lst (ns.map PV.int))] st = some (.o (.set (ddI ns))) := by
  show (ints? (ns.map PV.int)).bind (fun ns => if ns.length ≤ 4000 then some (XV.o (.set (ddI ns))) else none) = _
  rw [ints_map]; exact if_pos h
theorem ev_setB {ns : List Int} (h : ns.length ≤ 4000) (st : MS) : fSet2 [.b (.lst (ns.map PV.int))] st = some (.o (.set (ddI ns))) := by
  show (ints? (ns.map PV.int)).bind (fun ns => if ns.length ≤ 4000 then some (XV.o (.set (ddI ns))) else none) = _
  rw [ints_map]; exact if_pos h
theorem ev_setT {ns : List Int} (h : ns.length ≤ 4000) (st : MS) : fSet2 [.v (.tup (ns.map PV.int))] st = some (.o (.set (ddI ns))) := by
  show (ints? (ns.map PV.int)).bind (fun ns => if ns.length ≤ 4000 then some (XV.o (.set (ddI ns))) else none) = _
  rw [ints_map]; exact if_pos h
end DD
/-! M00a -/
namespace K00
open PySem PySem.Spec PyProof.Rows L2 DD
def bagC (b0 b1 b2 : Int) (cells : List Int) : Cont := .lst [.int b0, .int b1, .int b2, .lst (cells.map PV.int)]
def BagOk (c : Cont) : Prop := ∃ b0 b1 b2 cells, c = bagC b0 b1 b2 cells ∧ cells.length ≤ 63
variable {A : Ad}
@[simp] theorem ev_pow18 (st : MS) : fPow (.v (.int 10)) (.v (.int 18)) st = some (.v (.int 1000000000000000000)) := by rfl
theorem cut_ints (ns : List Int) (lo hi : Option Int) : ∃ ms : List Int, cutP (ns.map PV.int) lo hi = ms.map PV.int ∧ ms.length ≤ ns.length := by
  refine ⟨(ns.drop (HT.sIx ns.length 0 lo)).take (HT.sIx ns.length ns.length hi - HT.sIx ns.length 0 lo), ?_, ?_⟩
  · unfold cutP; simp
  · simp; omega
theorem mod_small {i m : Int} (h : 0 < m) (h2 : m < 2 ^ 64) : -18446744073709551616 < i % m ∧ i % m < 18446744073709551616 := by
  have a := Int.emod_nonneg i (Int.ne_of_gt h)
  have b := Int.emod_lt_of_pos i h
  omega
@[simp] theorem bsmall (i : Int) : (-18446744073709551616 < i % 1000000007 ∧ i % 1000000007 < 18446744073709551616) ↔ True := iff_true_intro (mod_small (by omega) (by omega))
@[simp] theorem ev_slLst (xs : List PV) (lo hi : Option Int) (st : MS) : fSl (.v (.lst xs)) lo hi st = some (.o (.lst (cutP xs lo hi))) := (rfl)
@[simp] theorem ev_addOO (xs ys : List PV) (st : MS) : fAdd (.o (.lst xs)) (.o (.lst ys)) st = gd (Fit (xs.length + ys.length)) (some (.o (.lst (xs ++ ys)))) := (rfl)
theorem take0 (ms : List Int) : ∃ c, ∀ x, atI (ms.map PV.int ++ [x]) 0 = some (if ms = [] then x else .int c) := by
  cases ms with
  | nil => exact ⟨0, fun x => by simp⟩
  | cons m ms => exact ⟨m, fun x => by simp⟩
/-- a draw -/
theorem law_take_ok {c : Cont} (hc : BagOk c) {m : Int} (hm : 0 < m) (hm2 : m < 1073741824) (rest : MS) : ∃ v c', df__law_take A [.obj 0, .int m] (c :: rest) = some (.v (.int v), c' :: rest) ∧ 0 ≤ v ∧ v < m ∧ BagOk c' := by
  obtain ⟨b0, b1, b2, cells, rfl, hl⟩ := hc
  have rng : ∀ v : Int, 0 ≤ v % m ∧ v % m < m := fun v => ⟨Int.emod_nonneg v (by omega), Int.emod_lt_of_pos v hm⟩
  by_cases h : b0 = 0
  · subst h
    obtain ⟨ms, e1, e2⟩ := cut_ints cells (some b2) none
    obtain ⟨cell, hcell⟩ : ∃ cell, atI (ms.map PV.int ++ [PV.int 0]) 0 = some (.int cell) := by
      cases ms with
      | nil => exact ⟨0, by simp⟩
      | cons m ms => exact ⟨m, by simp⟩
    have hsz : ms.length + 1 ≤ 10000 := by omega
    have hs1 : 1 ≤ 10000 := by omega
    by_cases h1 : 1000000000000000000 ≤ cell
    · have h2 : 0 < cell := by omega
      exact ⟨cell % m, bagC (cell / m) ((b1 * 48271 + cell % 2147483647 + 7919 * (b2 + 1)) % 2147483647) (b2 + 1) cells, by simp [df__law_take, d__law_take, bagC, hm, hm2, e1, hsz, hs1, hcell, h1, h2, ixN], (rng _).1, (rng _).2, _, _, _, _, rfl, hl⟩
    · let b1f := (b1 * 48271 + cell % 2147483647 + 7919 * (b2 + 1)) % 2147483647
      exact ⟨((b1f + 1) * 39373 % 1000000007 * ((b1f + 1) * 39373 % 1000000007) % 998244353 * 30011 % 998244353 / 7) % m, bagC 0 ((b1 * 48271 + cell % 2147483647 + 7919 * (b2 + 1)) % 2147483647) (b2 + 1) cells, by simp [df__law_take, d__law_take, bagC, hm, hm2, e1, hsz, hs1, hcell, h1, ixN, b1f], (rng _).1, (rng _).2, _, _, _, _, rfl, hl⟩
  · by_cases h2 : 0 < b0
    · exact ⟨b0 % m, bagC (b0 / m) b1 b2 cells, by simp [df__law_take, d__law_take, bagC, h, hm, hm2, h2, ixN], (rng _).1, (rng _).2, _, _, _, _, rfl, hl⟩
    · exact ⟨((b1 + 1) * 39373 % 1000000007 * ((b1 + 1) * 39373 % 1000000007) % 998244353 * 30011 % 998244353 / 7) % m, bagC b0 b1 b2 cells, by simp [df__law_take, d__law_take, bagC, h, hm, hm2, h2, ixN], (rng _).1, (rng _).2, _, _, _, _, rfl, hl⟩
end K00
/-! M00b -/
namespace K00
open PySem PySem.Spec PyProof.Rows L2 DD
/-! ### harps -/
structure Harp where
  size : Int
  ls : List (Str × Int × Int)
  p : Int
  q : Int
  r : Int
def letterP (l : Str × Int × Int) : PV := .tup [.str l.1, .int l.2.1, .int l.2.2]
def harpP (h : Harp) : PV := .tup [.int h.size, .tup (h.ls.map letterP), .int h.p, .int h.q, .int h.r]
def Harp.bases (h : Harp) : List Int := h.ls.map (·.2.1)
def intsP (ns : List Int) : PV := .tup (ns.map PV.int)
/-- the names that are drawn from -/
def rowsS : List Str := ["ab", "abc", "go", "up", "end", "tick", "down", "zz", "qxyzuvwk", "pedals", "step", "lefty", "ba", "cab"]
/-- a sound harp -/
structure HarpOk (h : Harp) : Prop where
  two : 2 ≤ h.ls.length
  nine : h.ls.length ≤ 9
  size : h.ls.length ≤ h.size
  top : h.size ≤ 24
  rise : h.bases.Pairwise (· < ·)
  base : ∀ b ∈ h.bases, 0 ≤ b ∧ b < h.size
  names : (h.ls.map (·.1)).Nodup
  rows : ∀ l ∈ h.ls, l.1 ∈ rowsS
  foot : ∀ l ∈ h.ls, 0 ≤ l.2.2 ∧ l.2.2 ≤ 1
  p0 : 1 ≤ h.p
  p1 : h.p ≤ 60
  q0 : 1 ≤ h.q
  q1 : h.q ≤ 5
  r0 : 0 ≤ h.r
  r1 : h.r ≤ 59
variable {A : Ad}
theorem le_line {n : Nat} (h : n ≤ 1000) : n ≤ 10000 := by omega
theorem bases_of_ok {h : Harp} (ok : HarpOk h) (st : MS) : df_bases_of A [harpP h] st = some (.v (intsP h.bases), st) := by
  have hl : h.ls.length ≤ 10000 := le_line (by have := ok.nine; omega)
  simp only [df_bases_of, d_bases_of, harpP, ev_fn, ev_ret, ev_app, ev_aCons, ev_aNil, ev_lc, ev_iSeq]
  simp
  rw [compD_map (fun l => PV.int l.2.1) h.ls fun l hl => by simp [letterP]]
  simp [hl, intsP, Harp.bases]
theorem letters_many_ok (h : Harp) (st : MS) : df_letters_many A [harpP h] st = some (.v (.int h.ls.length), st) := by
  simp [df_letters_many, d_letters_many, harpP]
/-- the letters whose class range holds the kind -/
def giv (h : Harp) (k : Int) : List Nat := (List.range h.ls.length).filter fun i => decide ((k - h.bases[i]?.getD 0 + 1) % h.size ≤ 2)
def natsP (ns : List Nat) : PV := .tup (ns.map fun (n : Nat) => PV.int (n : Int))
theorem enumP_map {α : Type} (f : α → PV) (xs : List α) (d : α) : enumP (xs.map f) = (List.range xs.length).map fun i => .tup [.int (i : Int), f (xs.getD i d)] := by
  unfold enumP
  refine List.ext_getElem? fun i => ?_
  rw [List.getElem?_map, List.getElem?_zipIdx, List.getElem?_map, List.getElem?_map]
  by_cases hi : i < xs.length
  · rw [List.getElem?_range hi, List.getElem?_eq_getElem hi]
    simp [List.getD_eq_getElem?_getD, List.getElem?_eq_getElem hi]
  · have h1 : xs[i]? = none := List.getElem?_eq_none (by omega)
    have h2 : (List.range xs.length)[i]? = none := List.getElem?_eq_none (by simp; omega)
    rw [h1, h2]; rfl
theorem givers_ok {h : Harp} (ok : HarpOk h) (k : Int) (st : MS) : df_givers A [harpP h, .int k] st = some (.v (natsP (giv h k)), st) := by
  have hs : 0 < h.size := by have := ok.two; have := ok.size; omega
  have hb : h.bases.length = h.ls.length := by simp [Harp.bases]
  have hlen : (giv h k).length ≤ 10000 := le_line (by
    have := List.length_filter_le (fun i => decide ((k - h.bases[i]?.getD 0 + 1) % h.size ≤ 2)) (List.range h.ls.length)
    have := ok.nine
    unfold giv
    simp at *
    omega)
  simp only [df_givers, d_givers, ev_fn, ev_ret, ev_app, ev_aCons, ev_aNil, ev_lc, ev_iEnum]
  simp [bases_of_ok ok, intsP]
  rw [enumP_map PV.int h.bases 0]
  rw [compD_filter (fun i : Nat => decide ((k - h.bases[i]?.getD 0 + 1) % h.size ≤ 2)) (fun i => PV.int (i : Int)) (List.range h.bases.length) fun i hi => by simp [harpP, hs]]
  rw [hb]
  have e : (List.range h.ls.length).filter (fun i => decide ((k - h.bases[i]?.getD 0 + 1) % h.size ≤ 2)) = giv h k := rfl
  rw [e]
  simp [natsP, hlen]
end K00
/-! M00c -/
namespace K00
open PySem PySem.Spec PyProof.Rows L2 DD
variable {A : Ad}
/-- the letters of an arc -/
def lin (m : Nat) (a : Int × Int) : List Int := (List.range a.2.toNat).map fun (s : Nat) => (a.1 + (s : Int)) % (m : Int)
theorem letters_in_ok {h : Harp} (ok : HarpOk h) {a : Int × Int} (h1 : -1000 ≤ a.2) (h2 : a.2 ≤ 1000) (st : MS) : df_letters_in A [harpP h, pPV a] st = some (.v (intsP (lin h.ls.length a)), st) := by
  have hm : 0 < h.ls.length := by have := ok.two; omega
  have hl : (List.range a.2.toNat).length ≤ 10000 := by simp; omega
  simp [df_letters_in, d_letters_in, letters_many_ok, pPV]
  rw [ev_range1 (j := a.2) (st' := st) (by simp) (by omega)]
  simp
  rw [compD_map (fun (s : Nat) => PV.int ((a.1 + (s : Int)) % (h.ls.length : Int))) (List.range a.2.toNat) fun s hs => by simp [hm]]
  simp at hl
  simp [hl, intsP, lin]
/-- the kinds whose givers are all in the arc -/
def win (h : Harp) (lot : List Int) (a : Int × Int) : List Int := lot.filter fun k => (giv h k).all fun (l : Nat) => decide ((l : Int) ∈ lin h.ls.length a)
theorem bls_map {α : Type} (f : α → Bool) : ∀ xs : List α, bls? (xs.map fun a => PV.bl (f a)) = some (xs.map f)
  | [] => rfl
  | a :: xs => by
    show (bls? (xs.map fun a => PV.bl (f a))).map (fun ns => f a :: ns) = _
    rw [bls_map f xs]; rfl
@[simp] theorem ev_fAllM {α : Type} (f : α → Bool) (xs : List α) (st : MS) : fAll [.o (.lst (xs.map fun a => PV.bl (f a)))] st = some (.v (.bl (xs.all f))) := by
  show (bls? (xs.map fun a => PV.bl (f a))).map (fun bs => XV.v (.bl (bs.all id))) = _
  rw [bls_map, Option.map_some, List.all_map]; rfl
theorem within_ok {h : Harp} (ok : HarpOk h) {a : Int × Int} (h1 : -1000 ≤ a.2) (h2 : a.2 ≤ 1000) {lot : List Int} (hl : lot.length ≤ 1000) (st : MS) : df_within A [harpP h, intsP lot, pPV a] st = some (.v (intsP (win h lot a)), st) := by
  have hg : ∀ k, (giv h k).length ≤ 10000 := fun k => le_line (by
    have := List.length_filter_le (fun i => decide ((k - h.bases[i]?.getD 0 + 1) % h.size ≤ 2)) (List.range h.ls.length)
    have := ok.nine
    unfold giv
    simp at *
    omega)
  have hw : (win h lot a).length ≤ 10000 := le_line (by
    have := List.length_filter_le (fun k => (giv h k).all fun (l : Nat) => decide ((l : Int) ∈ lin h.ls.length a)) lot
    unfold win; omega)
  simp only [df_within, d_within, ev_fn, ev_seq, ev_ret, ev_app, ev_aCons, ev_aNil, ev_lc, ev_iSeq]
  simp [letters_in_ok ok h1 h2]
  simp only [intsP]
  simp
  rw [compD_filter (fun k => (giv h k).all fun (l : Nat) => decide ((l : Int) ∈ lin h.ls.length a)) (fun k => PV.int k) lot fun k hk => by
    refine ⟨_, by simp; rfl, ?_, fun _ => ⟨_, by simp; rfl, rfl⟩⟩
    simp [givers_ok ok, natsP]
    rw [compD_map (fun (l : Nat) => PV.bl (decide ((l : Int) ∈ lin h.ls.length a))) (giv h k) fun l hl => by simp]
    simp [hg k]]
  have e : lot.filter (fun k => (giv h k).all fun (l : Nat) => decide ((l : Int) ∈ lin h.ls.length a)) = win h lot a := rfl
  rw [e]
  simp [hw]
end K00
/-! MLoop -/
namespace DD
open PySem PySem.Spec PyProof.Rows L2
section
variable {α : Type} {bind : DG} {body : DS} {enc : α → PV}
@[simp] theorem fnE_frk (fin : XV → Option XV) (c : Bool) (a b : Option (Fl × DEnv × MS)) : bnd (frk c a b) (fnE fin) = frk c (bnd a (fnE fin)) (bnd b (fnE fin)) := by cases c <;> exact (rfl)
/-- the first that .. -/
theorem loopD_find {st : MS} (P : DEnv → Prop) (t : α → Bool) (r : α → XV) : ∀ (xs : List α) (env : DEnv), P env → (∀ a ∈ xs, ∀ env, P env → ∃ e1 e2, bind (enc a) env = some e1 ∧ body e1 st = (if t a = true then some (.rt (r a), e2, st) else some (.nx, e2, st)) ∧ P e2) →
    ∃ e, P e ∧ loopD bind body (xs.map enc) env st = (match xs.find? t with | some a => some (.rt (r a), e, st) | none => some (.nx, e, st))
  | [], env, hp, _ => ⟨env, hp, rfl⟩
  | a :: xs, env, hp, hb => by
    obtain ⟨e1, e2, h1, h2, h3⟩ := hb a List.mem_cons_self env hp
    rw [List.map_cons, loopD_cons, h1, bnd_some, h2]
    cases ht : t a with
    | true => exact ⟨e2, h3, by rw [List.find?_cons_of_pos ht]; rfl⟩
    | false =>
      obtain ⟨e, g1, g2⟩ := loopD_find P t r xs e2 h3 fun b hb' => hb b (List.mem_cons_of_mem _ hb')
      refine ⟨e, g1, ?_⟩
      rw [List.find?_cons_of_neg (by simp [ht]), ← g2]; rfl
/-- all of them, by what is kept -/
theorem loopD_run (I : List α → DEnv → MS → Prop) : ∀ (xs : List α) (env : DEnv) (st : MS), I xs env st → (∀ a rest env st, I (a :: rest) env st → ∃ e1 e2 st2, bind (enc a) env = some e1 ∧ body e1 st = some (.nx, e2, st2) ∧ I rest e2 st2) →
    ∃ env' st', loopD bind body (xs.map enc) env st = some (.nx, env', st') ∧ I [] env' st'
  | [], env, st, hi, _ => ⟨env, st, rfl, hi⟩
  | a :: xs, env, st, hi, hb => by
    obtain ⟨e1, e2, st2, h1, h2, h3⟩ := hb a xs env st hi
    obtain ⟨e, s, g1, g2⟩ := loopD_run I xs e2 st2 h3 hb
    refine ⟨e, s, ?_, g2⟩
    rw [List.map_cons, loopD_cons, h1, bnd_some, h2, ← g1]; rfl
/-- .. or it returns -/
theorem loopD_ret (I : List α → DEnv → MS → Prop) (R : XV → MS → Prop) : ∀ (xs : List α) (env : DEnv) (st : MS), I xs env st → (∀ a rest env st, I (a :: rest) env st → ∃ e1, bind (enc a) env = some e1 ∧ ((∃ e2 st2, body e1 st = some (.nx, e2, st2) ∧ I rest e2 st2) ∨ ∃ x e2 st2, body e1 st = some (.rt x, e2, st2) ∧ R x st2)) →
    (∃ env' st', loopD bind body (xs.map enc) env st = some (.nx, env', st') ∧ I [] env' st') ∨ ∃ x env' st', loopD bind body (xs.map enc) env st = some (.rt x, env', st') ∧ R x st'
  | [], env, st, hi, _ => .inl ⟨env, st, rfl, hi⟩
  | a :: xs, env, st, hi, hb => by
    obtain ⟨e1, h1, h⟩ := hb a xs env st hi
    rcases h with ⟨e2, st2, h2, h3⟩ | ⟨x, e2, st2, h2, h3⟩
    · rcases loopD_ret I R xs e2 st2 h3 hb with ⟨e, s, g1, g2⟩ | ⟨x, e, s, g1, g2⟩
      · refine .inl ⟨e, s, ?_, g2⟩
        rw [List.map_cons, loopD_cons, h1, bnd_some, h2, ← g1]; rfl
      · refine .inr ⟨x, e, s, ?_, g2⟩
        rw [List.map_cons, loopD_cons, h1, bnd_some, h2, ← g1]; rfl
    · exact .inr ⟨x, e2, st2, by rw [List.map_cons, loopD_cons, h1, bnd_some, h2]; rfl, h3⟩
end
/-! flat chains -/
@[simp] theorem bnd_bnd {α β γ : Type} (o : Option α) (f : α → Option β) (g : β → Option γ) : bnd (bnd o f) g = bnd o fun a => bnd (f a) g := by cases o <;> exact (rfl)
@[simp] theorem bnd_mpO {α β γ : Type} (o : Option α) (f : α → β) (g : β → Option γ) : bnd (mpO o f) g = bnd o fun a => g (f a) := by cases o <;> exact (rfl)
@[simp] theorem mpO_bnd {α β γ : Type} (o : Option α) (f : α → Option β) (g : β → γ) : mpO (bnd o f) g = bnd o fun a => mpO (f a) g := by cases o <;> exact (rfl)
@[simp] theorem mpO_mpO {α β γ : Type} (o : Option α) (f : α → β) (g : β → γ) : mpO (mpO o f) g = mpO o fun a => g (f a) := by cases o <;> exact (rfl)
section
variable {α β : Type} {bind : DG} {body : DS} {enc : α → PV} {env : DEnv} {st : MS} {k : Fl × DEnv × MS → Option β} {R : Option β}
theorem for_find (P : DEnv → Prop) (t : α → Bool) (r : α → XV) (xs : List α) (hp : P env) (hb : ∀ a ∈ xs, ∀ env, P env → ∃ e1 e2, bind (enc a) env = some e1 ∧ body e1 st = (if t a = true then some (.rt (r a), e2, st) else some (.nx, e2, st)) ∧ P e2)
    (h1 : ∀ a e, xs.find? t = some a → P e → k (.rt (r a), e, st) = R) (h2 : ∀ e, xs.find? t = none → P e → k (.nx, e, st) = R) : bnd (loopD bind body (xs.map enc) env st) k = R := by
  obtain ⟨e, g1, g2⟩ := loopD_find P t r xs env hp hb
  rw [g2]
  cases q : xs.find? t with
  | some a => exact h1 a e q g1
  | none => exact h2 e q g1
theorem for_run (I : List α → DEnv → MS → Prop) (xs : List α) (hi : I xs env st) (hb : ∀ a rest env st, I (a :: rest) env st → ∃ e1 e2 st2, bind (enc a) env = some e1 ∧ body e1 st = some (.nx, e2, st2) ∧ I rest e2 st2)
    (h : ∀ e s, I [] e s → k (.nx, e, s) = R) : bnd (loopD bind body (xs.map enc) env st) k = R := by
  obtain ⟨e, s, g1, g2⟩ := loopD_run I xs env st hi hb
  rw [g1]; exact h e s g2
theorem for_ret (I : List α → DEnv → MS → Prop) (Rt : XV → MS → Prop) (xs : List α) (hi : I xs env st) (hb : ∀ a rest env st, I (a :: rest) env st → ∃ e1, bind (enc a) env = some e1 ∧ ((∃ e2 st2, body e1 st = some (.nx, e2, st2) ∧ I rest e2 st2) ∨ ∃ x e2 st2, body e1 st = some (.rt x, e2, st2) ∧ Rt x st2))
    (h1 : ∀ e s, I [] e s → k (.nx, e, s) = R) (h2 : ∀ x e s, Rt x s → k (.rt x, e, s) = R) : bnd (loopD bind body (xs.map enc) env st) k = R := by
  rcases loopD_ret I Rt xs env st hi hb with ⟨e, s, g1, g2⟩ | ⟨x, e, s, g1, g2⟩
  · rw [g1]; exact h1 e s g2
  · rw [g1]; exact h2 x e s g2
/-- for results that are not functions of what is known -/
theorem for_runE {Q : β → Prop} (I : List α → DEnv → MS → Prop) (xs : List α) (hi : I xs env st) (hb : ∀ a rest env st, I (a :: rest) env st → ∃ e1 e2 st2, bind (enc a) env = some e1 ∧ body e1 st = some (.nx, e2, st2) ∧ I rest e2 st2)
    (h : ∀ e s, I [] e s → ∃ b, k (.nx, e, s) = some b ∧ Q b) : ∃ b, bnd (loopD bind body (xs.map enc) env st) k = some b ∧ Q b := by
  obtain ⟨e, s, g1, g2⟩ := loopD_run I xs env st hi hb
  rw [g1]; exact h e s g2
end
/-! type tests -/
@[simp] theorem isiT_tup (xs : List PV) (st : MS) : fIsi [.v (.tup xs), .v (.ty "tuple")] st = some (.v (.bl true)) := (rfl)
@[simp] theorem isiT_non (st : MS) : fIsi [.v .non, .v (.ty "tuple")] st = some (.v (.bl false)) := (rfl)
@[simp] theorem isiT_lst (xs : List PV) (st : MS) : fIsi [.v (.lst xs), .v (.ty "tuple")] st = some (.v (.bl false)) := (rfl)
@[simp] theorem isiT_int (i : Int) (st : MS) : fIsi [.v (.int i), .v (.ty "tuple")] st = some (.v (.bl false)) := (rfl)
@[simp] theorem isiT_bl (i : Bool) (st : MS) : fIsi [.v (.bl i), .v (.ty "tuple")] st = some (.v (.bl false)) := (rfl)
@[simp] theorem isiT_str (i : Str) (st : MS) : fIsi [.v (.str i), .v (.ty "tuple")] st = some (.v (.bl false)) := (rfl)
@[simp] theorem isiL_tup (xs : List PV) (st : MS) : fIsi [.v (.tup xs), .v (.ty "list")] st = some (.v (.bl false)) := (rfl)
@[simp] theorem isiL_non (st : MS) : fIsi [.v .non, .v (.ty "list")] st = some (.v (.bl false)) := (rfl)
@[simp] theorem isiL_lst (xs : List PV) (st : MS) : fIsi [.v (.lst xs), .v (.ty "list")] st = some (.v (.bl true)) := (rfl)
@[simp] theorem isiL_int (i : Int) (st : MS) : fIsi [.v (.int i), .v (.ty "list")] st = some (.v (.bl false)) := (rfl)
@[simp] theorem isiL_bl (i : Bool) (st : MS) : fIsi [.v (.bl i), .v (.ty "list")] st = some (.v (.bl false)) := (rfl)
@[simp] theorem isiL_str (i : Str) (st : MS) : fIsi [.v (.str i), .v (.ty "list")] st = some (.v (.bl false)) := (rfl)
@[simp] theorem isiI_int (i : Int) (st : MS) : fIsi [.v (.int i), .v (.ty "int")] st = some (.v (.bl true)) := (rfl)
@[simp] theorem isiI_bl (i : Bool) (st : MS) : fIsi [.v (.bl i), .v (.ty "int")] st = some (.v (.bl true)) := (rfl)
@[simp] theorem isiI_str (i : Str) (st : MS) : fIsi [.v (.str i), .v (.ty "int")] st = some (.v (.bl false)) := (rfl)
@[simp] theorem isiI_tup (i : List PV) (st : MS) : fIsi [.v (.tup i), .v (.ty "int")] st = some (.v (.bl false)) := (rfl)
@[simp] theorem isiI_non (st : MS) : fIsi [.v .non, .v (.ty "int")] st = some (.v (.bl false)) := (rfl)
@[simp] theorem isiB_int (i : Int) (st : MS) : fIsi [.v (.int i), .v (.ty "bool")] st = some (.v (.bl false)) := (rfl)
@[simp] theorem isiB_bl (i : Bool) (st : MS) : fIsi [.v (.bl i), .v (.ty "bool")] st = some (.v (.bl true)) := (rfl)
@[simp] theorem isiB_str (i : Str) (st : MS) : fIsi [.v (.str i), .v (.ty "bool")] st = some (.v (.bl false)) := (rfl)
@[simp] theorem isiS_str (i : Str) (st : MS) : fIsi [.v (.str i), .v (.ty "str")] st = some (.v (.bl true)) := (rfl)
@[simp] theorem isiS_int (i : Int) (st : MS) : fIsi [.v (.int i), .v (.ty "str")] st = some (.v (.bl false)) := (rfl)
@[simp] theorem isiS_bl (i : Bool) (st : MS) : fIsi [.v (.bl i), .v (.ty "str")] st = some (.v (.bl false)) := (rfl)
@[simp] theorem isiTL_tup (xs : List PV) (st : MS) : fIsi [.v (.tup xs), .v (.tup [.ty "tuple", .ty "list"])] st = some (.v (.bl true)) := (rfl)
@[simp] theorem isiTL_lst (xs : List PV) (st : MS) : fIsi [.v (.lst xs), .v (.tup [.ty "tuple", .ty "list"])] st = some (.v (.bl true)) := (rfl)
@[simp] theorem isiTL_non (st : MS) : fIsi [.v .non, .v (.tup [.ty "tuple", .ty "list"])] st = some (.v (.bl false)) := (rfl)
@[simp] theorem isiTL_int (i : Int) (st : MS) : fIsi [.v (.int i), .v (.tup [.ty "tuple", .ty "list"])] st = some (.v (.bl false)) := (rfl)
@[simp] theorem isiTL_bl (i : Bool) (st : MS) : fIsi [.v (.bl i), .v (.tup [.ty "tuple", .ty "list"])] st = some (.v (.bl false)) := (rfl)
@[simp] theorem isiTL_str (i : Str) (st : MS) : fIsi [.v (.str i), .v (.tup [.ty "tuple", .ty "list"])] st = some (.v (.bl false)) := (rfl)
@[simp] theorem ev_eqB (i j : Bool) (st : MS) : fEq (.v (.bl i)) (.v (.bl j)) st = some (.v (.bl (decide (i = j)))) := (rfl)
@[simp] theorem ev_neB (i j : Bool) (st : MS) : fNe (.v (.bl i)) (.v (.bl j)) st = some (.v (.bl (!decide (i = j)))) := (rfl)
@[simp] theorem ev_eqS (i j : Str) (st : MS) : fEq (.v (.str i)) (.v (.str j)) st = some (.v (.bl (decide (i = j)))) := (rfl)
@[simp] theorem ev_neS (i j : Str) (st : MS) : fNe (.v (.str i)) (.v (.str j)) st = some (.v (.bl (!decide (i = j)))) := (rfl)
@[simp] theorem ev_isN (x : XV) (st : MS) : fIs x (.v .non) st = some (.v (.bl (isNon x))) := (rfl)
@[simp] theorem ev_isNotN (x : XV) (st : MS) : fIsNot x (.v .non) st = some (.v (.bl (!isNon x))) := (rfl)
@[simp] theorem ev_isB (a b : Bool) (st : MS) : fIs (.v (.bl a)) (.v (.bl b)) st = some (.v (.bl (decide (a = b)))) := (rfl)
@[simp] theorem ev_isNotB (a b : Bool) (st : MS) : fIsNot (.v (.bl a)) (.v (.bl b)) st = some (.v (.bl (!decide (a = b)))) := (rfl)
@[simp] theorem isNon_non : isNon (.v .non) = true := (rfl)
@[simp] theorem isNon_bl (b : Bool) : isNon (.v (.bl b)) = false := (rfl)
@[simp] theorem isNon_int (b : Int) : isNon (.v (.int b)) = false := (rfl)
@[simp] theorem isNon_str (b : Str) : isNon (.v (.str b)) = false := (rfl)
@[simp] theorem isNon_tup (b : List PV) : isNon (.v (.tup b)) = false := (rfl)
@[simp] theorem isNon_lst (b : List PV) : isNon (.v (.lst b)) = false := (rfl)
@[simp] theorem ev_neg (i : Int) (st : MS) : fNeg (.v (.int i)) st = some (.v (.int (-i))) := (rfl)
end DD
/-! M00d -/
namespace K00
open PySem PySem.Spec PyProof.Rows L2 DD
variable {A : Ad}
/-- the arcs between none and all -/
def arcsM (m : Nat) : List (Int × Int) := (List.range m).flatMap fun (f : Nat) => (List.range (m - 1)).map fun (s : Nat) => ((f : Int), (s : Int) + 1)
/-- the arcs before they are sorted -/
def arcs0 (m : Nat) : List (Int × Int) := (0, 0) :: (0, (m : Int)) :: arcsM m
def arcsL (m : Nat) : List (Int × Int) := srtP (arcs0 m)
theorem len_flat {α β : Type} (g : α → List β) (n : Nat) : ∀ xs : List α, (∀ a ∈ xs, (g a).length = n) → (xs.flatMap g).length = xs.length * n
  | [], _ => by simp
  | a :: xs, h => by
    rw [List.flatMap_cons, List.length_append, h a List.mem_cons_self, len_flat g n xs fun b hb => h b (List.mem_cons_of_mem _ hb), List.length_cons, Nat.add_mul, Nat.one_mul, Nat.add_comm]
theorem arcsM_len {m : Nat} (h : m ≤ 9) : (arcsM m).length ≤ 72 := by
  unfold arcsM
  rw [len_flat _ (m - 1) (List.range m) fun f _ => by simp, List.length_range]
  have := Nat.mul_le_mul h (show m - 1 ≤ 8 by omega)
  omega
theorem arcsL_len {m : Nat} (h : m ≤ 9) : (arcsL m).length ≤ 74 := by
  unfold arcsL srtP
  rw [List.length_mergeSort]
  have := arcsM_len h
  simp [arcs0]; omega
theorem mem_arcsL {m : Nat} {a : Int × Int} : a ∈ arcsL m ↔ a = (0, 0) ∨ a = (0, (m : Int)) ∨ (0 ≤ a.1 ∧ a.1 < m ∧ 1 ≤ a.2 ∧ a.2 < m) := by
  unfold arcsL srtP
  rw [List.mem_mergeSort]
  simp only [arcs0, arcsM, List.mem_cons, List.mem_flatMap, List.mem_map, List.mem_range]
  refine or_congr Iff.rfl (or_congr Iff.rfl ⟨?_, ?_⟩)
  · rintro ⟨f, hf, s, hs, rfl⟩
    simp only; omega
  · rintro ⟨h1, h2, h3, h4⟩
    refine ⟨a.1.toNat, by omega, (a.2 - 1).toNat, by omega, ?_⟩
    refine Prod.ext ?_ ?_ <;> simp only <;> omega
theorem arcs_ok {h : Harp} (ok : HarpOk h) (st : MS) : df_arcs A [harpP h] st = some (.v (.tup ((arcsL h.ls.length).map pPV)), st) := by
  have hm : 2 ≤ h.ls.length := ok.two
  have h9 : h.ls.length ≤ 9 := ok.nine
  have hM := arcsM_len h9
  have e1 : ((h.ls.length : Int) - 1).toNat = h.ls.length - 1 := by omega
  have e2 : ((List.range h.ls.length).flatMap fun (f : Nat) => (List.range (h.ls.length - 1)).map fun (s : Nat) => pPV ((f : Int), (s : Int) + 1)) = (arcsM h.ls.length).map pPV := by
    unfold arcsM
    rw [List.map_flatMap]
    simp [List.map_map, Function.comp_def]
  simp [df_arcs, d_arcs, letters_many_ok]
  rw [ev_range1 (j := (h.ls.length : Int)) (st' := st) (by simp) (by omega)]
  simp
  rw [compD2_flat (fun (f : Nat) => (List.range (h.ls.length - 1)).map fun (s : Nat) => pPV ((f : Int), (s : Int) + 1)) (List.range h.ls.length) fun f hf => by
    refine ⟨[.v (harpP h), .v (.int h.ls.length), .un, .v (.int (f : Int)), .un], (List.range (h.ls.length - 1)).map fun (s : Nat) => PV.int (1 + (s : Int)), by simp, by simp, ?_, ?_⟩
    · rw [ev_range2 (i := 1) (j := (h.ls.length : Int)) (st' := st) (by simp) (by omega) (by omega), e1]
    · rw [ev_wipe1, ev_wipe0, compD_map (fun (s : Nat) => pPV ((f : Int), (s : Int) + 1)) (List.range (h.ls.length - 1)) fun s hs => by simp [pPV, Int.add_comm]], e2]
  have e3 : PV.tup [PV.int 0, PV.int 0] :: PV.tup [PV.int 0, PV.int (h.ls.length : Int)] :: (arcsM h.ls.length).map pPV = (arcs0 h.ls.length).map pPV := rfl
  simp [show (arcsM h.ls.length).length ≤ 10000 by omega, show (arcsM h.ls.length).length + 1 + 1 ≤ 10000 by omega]
  rw [e3, ev_sortP (by simp [arcs0])]
  simp [arcsL]
end K00
/-! M00e -/
namespace K00
open PySem PySem.Spec PyProof.Rows L2 DD
variable {A : Ad}
@[simp] theorem is_number_int (i : Int) (st : MS) : df_is_number A [.int i] st = some (.v (.bl true), st) := by simp [df_is_number, d_is_number]
@[simp] theorem is_number_bl (i : Bool) (st : MS) : df_is_number A [.bl i] st = some (.v (.bl false), st) := by simp [df_is_number, d_is_number]
@[simp] theorem is_index_int (i : Int) (st : MS) : df_is_index A [.int i] st = some (.v (.bl (decide (0 ≤ i))), st) := by simp [df_is_index, d_is_index]
@[simp] theorem is_index_bl (i : Bool) (st : MS) : df_is_index A [.bl i] st = some (.v (.bl false), st) := by simp [df_is_index, d_is_index]
@[simp] theorem is_sized_tup (xs : List PV) (n : Int) (st : MS) : df_is_sized A [.tup xs, .int n] st = some (.v (.bl (decide ((xs.length : Int) = n))), st) := by simp [df_is_sized, d_is_sized]
@[simp] theorem is_sized_lst (xs : List PV) (n : Int) (st : MS) : df_is_sized A [.lst xs, .int n] st = some (.v (.bl false), st) := by simp [df_is_sized, d_is_sized]
@[simp] theorem is_sized_non (n : Int) (st : MS) : df_is_sized A [.non, .int n] st = some (.v (.bl false), st) := by simp [df_is_sized, d_is_sized]
@[simp] theorem len_intsP (ns : List Int) (st : MS) : fLen [.v (intsP ns)] st = some (.v (.int ns.length)) := by simp [intsP]
@[simp] theorem sq_intsP (m : Bool) (ns : List Int) : seqItems m (.v (intsP ns)) = some (ns.map PV.int) := (rfl)
@[simp] theorem sq2_intsP (m : Bool) (ns : List Int) : seqItems2 m (.v (intsP ns)) = some (ns.map PV.int) := (rfl)
@[simp] theorem isT_intsP (ns : List Int) : XV.isT (.v (intsP ns)) = true := (rfl)
@[simp] theorem in_intsP (neg : Bool) (i : Int) (ns : List Int) (st : MS) : fIn neg (.v (.int i)) (.v (intsP ns)) st = some (.v (.bl (if neg = true then !decide (i ∈ ns) else decide (i ∈ ns)))) := ev_inInts neg i ns st
@[simp] theorem ix_pPV0 (a : Int × Int) (st : MS) : fIx (.v (pPV a)) (.v (.int 0)) st = some (.v (.int a.1)) := by simp [pPV]
@[simp] theorem ix_pPV1 (a : Int × Int) (st : MS) : fIx (.v (pPV a)) (.v (.int 1)) st = some (.v (.int a.2)) := by simp [pPV]
@[simp] theorem sq_natsP (m : Bool) (ns : List Nat) : seqItems m (.v (natsP ns)) = some (ns.map fun (n : Nat) => PV.int (n : Int)) := (rfl)
/-- what an arc's overflow is -/
def fullB (h : Harp) (lot : List Int) (a : Int × Int) : Bool := decide (a.2 < ((win h lot a).length : Int))
theorem win_len (h : Harp) (lot : List Int) (a : Int × Int) : (win h lot a).length ≤ lot.length := List.length_filter_le _ _
theorem arc_bound {m : Nat} (h9 : m ≤ 9) {a : Int × Int} (ha : a ∈ arcsL m) : 0 ≤ a.1 ∧ a.1 ≤ 9 ∧ 0 ≤ a.2 ∧ a.2 ≤ 9 := by
  rcases mem_arcsL.mp ha with rfl | rfl | h
  · simp
  · simp; omega
  · omega
theorem over_full_ok {h : Harp} (ok : HarpOk h) {lot : List Int} (hl : lot.length ≤ 1000) (st : MS) : df_over_full A [harpP h, intsP lot] st = some (.v (match (arcsL h.ls.length).find? (fullB h lot) with | some a => pPV a | none => .non), st) := by
  have h9 := ok.nine
  simp [df_over_full, d_over_full, arcs_ok ok]
  refine for_find (fun e => ∃ s, e = [.v (harpP h), .v (intsP lot), s]) (fullB h lot) (fun a => .v (pPV a)) (arcsL h.ls.length) ⟨.un, rfl⟩ ?_ ?_ ?_
  · rintro a ha env ⟨s, rfl⟩
    have hb := arc_bound h9 ha
    refine ⟨_, _, by simp; rfl, ?_, ⟨.v (pPV a), rfl⟩⟩
    simp [within_ok ok (show -1000 ≤ a.2 by omega) (show a.2 ≤ 1000 by omega) hl]
    simp [intsP, pPV]
    unfold fullB
    by_cases z : a.2 < ((win h lot a).length : Int) <;> simp [z, pPV]
  · rintro a e q ⟨s, rfl⟩
    simp [q]
  · rintro e q ⟨s, rfl⟩
    simp [q]
theorem is_over_full_ok {h : Harp} (ok : HarpOk h) {lot : List Int} (hl : lot.length ≤ 1000) (a : Int × Int) (st : MS) : df_is_over_full A [harpP h, intsP lot, pPV a] st = some (.v (.bl (decide (a ∈ arcsL h.ls.length) && fullB h lot a)), st) := by
  have h9 := ok.nine
  simp [df_is_over_full, d_is_over_full, pPV]
  by_cases h1 : 0 ≤ a.1
  · by_cases h2 : 0 ≤ a.2
    · simp [h1, h2, arcs_ok ok]
      have e : fIn true (.v (.tup [.int a.1, .int a.2])) (.v (.tup ((arcsL h.ls.length).map pPV))) st = _ := ev_inPairs true a (arcsL h.ls.length) st
      simp [e]
      by_cases h3 : a ∈ arcsL h.ls.length
      · have hb := arc_bound h9 h3
        have w : df_within A [harpP h, intsP lot, .tup [.int a.1, .int a.2]] st = _ := within_ok (A := A) ok (a := a) (show -1000 ≤ a.2 by omega) (show a.2 ≤ 1000 by omega) hl st
        simp [h3, w, fullB]
      · simp [h3]
    · have h3 : a ∉ arcsL h.ls.length := fun z => h2 (arc_bound h9 z).2.2.1
      simp [h1, h2, h3]
  · have h3 : a ∉ arcsL h.ls.length := fun z => h1 (arc_bound h9 z).1
    simp [h1, h3]
end K00
/-! M00k -/
namespace K00
/-! plain mathematics: counting, arcs -/
theorem nodup_len {α : Type} [DecidableEq α] : ∀ {xs ys : List α}, xs.Nodup → (∀ a ∈ xs, a ∈ ys) → xs.length ≤ ys.length
  | [], _, _, _ => Nat.zero_le _
  | a :: xs, ys, hn, hs => by
    have ha := hs a List.mem_cons_self
    have hn' := List.nodup_cons.mp hn
    have ih : xs.length ≤ (ys.erase a).length := nodup_len hn'.2 fun b hb => by
      have hb' : b ≠ a := fun e => hn'.1 (e ▸ hb)
      exact (List.mem_erase_of_ne hb').mpr (hs b (List.mem_cons_of_mem _ hb))
    rw [List.length_erase_of_mem ha] at ih
    have := List.length_pos_of_mem ha
    simp only [List.length_cons]; omega
/-- how many letters hold a kind -/
def cntF (m : Nat) (f : Nat → Option Int) (k : Int) : Nat := match m with
  | 0 => 0
  | m + 1 => cntF m f k + if f m = some k then 1 else 0
def updF (f : Nat → Option Int) (a : Nat) (k : Int) : Nat → Option Int := fun l => if l = a then some k else f l
theorem cntF_congr {f g : Nat → Option Int} {k : Int} : ∀ {m : Nat}, (∀ l, l < m → f l = g l) → cntF m f k = cntF m g k
  | 0, _ => rfl
  | m + 1, h => by
    show cntF m f k + _ = cntF m g k + _
    rw [cntF_congr (m := m) fun l hl => h l (by omega), h m (by omega)]
theorem cntF_upd {f : Nat → Option Int} {a : Nat} {j k : Int} : ∀ {m : Nat}, a < m → cntF m (updF f a j) k + (if f a = some k then 1 else 0) = cntF m f k + if j = k then 1 else 0
  | m + 1, h => by
    show cntF m (updF f a j) k + _ + _ = cntF m f k + _ + _
    by_cases e : a = m
    · subst e
      rw [cntF_congr (f := updF f a j) (g := f) fun l hl => by unfold updF; rw [if_neg (by omega)]]
      have : updF f a j a = some j := by unfold updF; rw [if_pos rfl]
      rw [this]
      have e2 : (some j = some k) = (j = k) := by simp
      simp only [e2]; omega
    · have ih := cntF_upd (f := f) (a := a) (j := j) (k := k) (m := m) (by omega)
      have : updF f a j m = f m := by unfold updF; rw [if_neg (fun z => e z.symm)]
      rw [this]; omega
theorem cntF_zero {f : Nat → Option Int} {k : Int} : ∀ {m : Nat}, cntF m f k = 0 → ∀ l, l < m → f l ≠ some k
  | m + 1, h, l, hl => by
    have h' : cntF m f k + (if f m = some k then 1 else 0) = 0 := h
    by_cases e : l = m
    · subst e
      intro z; rw [if_pos z] at h'; omega
    · exact cntF_zero (m := m) (by omega) l (by omega)
theorem cntF_pos {f : Nat → Option Int} {k : Int} : ∀ {m : Nat}, 0 < cntF m f k → ∃ l, l < m ∧ f l = some k
  | m + 1, h => by
    have h' : 0 < cntF m f k + (if f m = some k then 1 else 0) := h
    by_cases e : f m = some k
    · exact ⟨m, by omega, e⟩
    · rw [if_neg e] at h'
      obtain ⟨l, h1, h2⟩ := cntF_pos (m := m) (by omega)
      exact ⟨l, by omega, h2⟩
theorem cntF_one {f : Nat → Option Int} {k : Int} : ∀ {m : Nat}, cntF m f k ≤ 1 → ∀ i j, i < m → j < m → f i = some k → f j = some k → i = j
  | m + 1, h, i, j, hi, hj, ei, ej => by
    have h' : cntF m f k + (if f m = some k then 1 else 0) ≤ 1 := h
    by_cases e : f m = some k
    · rw [if_pos e] at h'
      have z := cntF_zero (m := m) (f := f) (k := k) (by omega)
      have hi' : i = m := by
        by_cases q : i = m
        · exact q
        · exact absurd ei (z i (by omega))
      have hj' : j = m := by
        by_cases q : j = m
        · exact q
        · exact absurd ej (z j (by omega))
      omega
    · have hi' : i ≠ m := fun q => e (q ▸ ei)
      have hj' : j ≠ m := fun q => e (q ▸ ej)
      exact cntF_one (m := m) (by omega) i j (by omega) (by omega) ei ej
theorem cntF_none {k : Int} : ∀ m, cntF m (fun _ => none) k = 0
  | 0 => rfl
  | m + 1 => by show cntF m _ k + _ = 0; rw [cntF_none m]; rfl

/-! arcs -/
/-- the letters of an arc -/
def InArc (m : Nat) (a : Nat × Nat) (l : Nat) : Prop := ∃ i, i < a.2 ∧ l = (a.1 + i) % m
/-- cyclically convex -/
def Convex (m : Nat) (G : Nat → Prop) : Prop := ∀ a b c f, a < m → b < m → c < m → f < m → ((a < b ∧ b < c ∧ (f < a ∨ c < f)) ∨ (b < c ∧ c < a ∧ c < f ∧ f < a) ∨ (c < a ∧ a < b ∧ c < f ∧ f < a)) → G a → G c → G b ∨ G f
section
variable {m : Nat} {G : Int → Nat → Prop} {lot : List Int}
/-- the place of a letter behind f -/
def pos (m f l : Nat) : Nat := (l + m - f - 1) % m
theorem pos_lt {f l : Nat} (hf : f < m) (hl : l < m) (h : l ≠ f) : pos m f l < m - 1 := by
  unfold pos
  by_cases q : f < l
  · have e : l + m - f - 1 = (l - f - 1) + m := by omega
    rw [e, Nat.add_mod_right, Nat.mod_eq_of_lt (by omega)]; omega
  · rw [Nat.mod_eq_of_lt (by omega)]; omega
theorem pos_val {f l : Nat} (hf : f < m) (hl : l < m) (h : l ≠ f) : (f < l ∧ pos m f l = l - f - 1) ∨ (l < f ∧ pos m f l = l + m - f - 1) := by
  unfold pos
  by_cases q : f < l
  · have e : l + m - f - 1 = (l - f - 1) + m := by omega
    left; refine ⟨q, ?_⟩
    rw [e, Nat.add_mod_right, Nat.mod_eq_of_lt (by omega)]
  · right; refine ⟨by omega, ?_⟩
    rw [Nat.mod_eq_of_lt (by omega)]
theorem at_pos {f p : Nat} (hf : f < m) (hp : p < m - 1) : (f + 1 + p) % m < m ∧ (f + 1 + p) % m ≠ f ∧ pos m f ((f + 1 + p) % m) = p := by
  by_cases q : f + 1 + p < m
  · rw [Nat.mod_eq_of_lt q]
    refine ⟨q, by omega, ?_⟩
    rcases pos_val hf q (by omega) with ⟨_, e⟩ | ⟨e, _⟩
    · rw [e]; omega
    · omega
  · have e : (f + 1 + p) % m = f + 1 + p - m := by
      rw [Nat.mod_eq_sub_mod (by omega), Nat.mod_eq_of_lt (by omega)]
    rw [e]
    refine ⟨by omega, by omega, ?_⟩
    rcases pos_val (l := f + 1 + p - m) hf (by omega) (by omega) with ⟨z, _⟩ | ⟨_, e⟩
    · omega
    · rw [e]; omega
theorem of_pos {f l : Nat} (hf : f < m) (hl : l < m) (h : l ≠ f) : (f + 1 + pos m f l) % m = l := by
  rcases pos_val hf hl h with ⟨z, e⟩ | ⟨z, e⟩
  · rw [e, show f + 1 + (l - f - 1) = l by omega, Nat.mod_eq_of_lt hl]
  · rw [e, show f + 1 + (l + m - f - 1) = l + m by omega, Nat.add_mod_right, Nat.mod_eq_of_lt hl]
/-- the letters of a stretch of places make an arc -/
theorem arc_of {f c b : Nat} (hf : f < m) (hc : c ≤ b) (hb : b ≤ m - 1) {l : Nat} (hl : l < m) (hlf : l ≠ f) (h1 : c ≤ pos m f l) (h2 : pos m f l < b) : InArc m ((f + 1 + c) % m, b - c) l := by
  refine ⟨pos m f l - c, by simp only; omega, ?_⟩
  show l = ((f + 1 + c) % m + (pos m f l - c)) % m
  rw [Nat.mod_add_mod, show f + 1 + c + (pos m f l - c) = f + 1 + pos m f l by omega, of_pos hf hl hlf]
end
open Classical in
/-- kinds that no letters but these can give -/
noncomputable def Wn (m : Nat) (G : Int → Nat → Prop) (lot : List Int) (X : Nat → Prop) : List Int := lot.filter fun k => decide (∀ l, l < m → G k l → X l)
open Classical in
theorem mem_Wn {m : Nat} {G : Int → Nat → Prop} {lot : List Int} {X : Nat → Prop} {k : Int} : k ∈ Wn m G lot X ↔ k ∈ lot ∧ ∀ l, l < m → G k l → X l := by
  unfold Wn; rw [List.mem_filter]; simp only [decide_eq_true_eq]
open Classical in
theorem Wn_filter {m : Nat} {G : Int → Nat → Prop} {lot : List Int} {X : Nat → Prop} {p : Int → Bool} (h : ∀ k, p k = true ↔ ∀ l, l < m → G k l → X l) : lot.filter p = Wn m G lot X := by
  unfold Wn
  refine List.filter_congr fun k _ => ?_
  rw [Bool.eq_iff_iff, h]; simp only [decide_eq_true_eq]
theorem Wn_len {m : Nat} {G : Int → Nat → Prop} {lot : List Int} {X Y : Nat → Prop} (h : ∀ l, l < m → X l → Y l) : (Wn m G lot X).length ≤ (Wn m G lot Y).length := by
  unfold Wn
  rw [← List.countP_eq_length_filter, ← List.countP_eq_length_filter]
  refine List.countP_mono_left fun k hk z => ?_
  simp only [decide_eq_true_eq] at z ⊢
  exact fun l hl g => h l hl (z l hl g)
theorem countP_or {α : Type} (p q r : α → Bool) : ∀ xs : List α, (∀ a ∈ xs, p a = true → q a = true ∨ r a = true) → xs.countP p ≤ xs.countP q + xs.countP r
  | [], _ => by simp
  | a :: xs, h => by
    have ih := countP_or p q r xs fun b hb => h b (List.mem_cons_of_mem _ hb)
    have := h a List.mem_cons_self
    rw [List.countP_cons, List.countP_cons, List.countP_cons]
    by_cases e : p a = true
    · rcases this e with z | z
      · rw [if_pos e, if_pos z]; split <;> omega
      · rw [if_pos e, if_pos z]; split <;> omega
    · rw [if_neg e]; split <;> split <;> omega
theorem Wn_or {m : Nat} {G : Int → Nat → Prop} {lot : List Int} {X Y Z : Nat → Prop} (h : ∀ k ∈ lot, (∀ l, l < m → G k l → X l) → (∀ l, l < m → G k l → Y l) ∨ (∀ l, l < m → G k l → Z l)) : (Wn m G lot X).length ≤ (Wn m G lot Y).length + (Wn m G lot Z).length := by
  unfold Wn
  rw [← List.countP_eq_length_filter, ← List.countP_eq_length_filter, ← List.countP_eq_length_filter]
  refine countP_or _ _ _ lot fun k hk z => ?_
  simp only [decide_eq_true_eq] at z ⊢
  exact h k hk z
/-- an over-full arc -/
def FullArc (m : Nat) (G : Int → Nat → Prop) (lot : List Int) : Prop := ∃ a : Nat × Nat, (a = (0, 0) ∨ a = (0, m) ∨ (a.1 < m ∧ 1 ≤ a.2 ∧ a.2 < m)) ∧ a.2 < (Wn m G lot (InArc m a)).length
theorem filter_split {α : Type} (p q r : α → Bool) : ∀ xs : List α, (∀ a ∈ xs, q a = true → p a = true) → (∀ a ∈ xs, r a = true → p a = true) → (∀ a ∈ xs, q a = true → r a = false) → xs.countP q + xs.countP r ≤ xs.countP p
  | [], _, _, _ => by simp
  | a :: xs, h1, h2, h3 => by
    have ih := filter_split p q r xs (fun b hb => h1 b (List.mem_cons_of_mem _ hb)) (fun b hb => h2 b (List.mem_cons_of_mem _ hb)) (fun b hb => h3 b (List.mem_cons_of_mem _ hb))
    have a1 := h1 a List.mem_cons_self
    have a2 := h2 a List.mem_cons_self
    have a3 := h3 a List.mem_cons_self
    rw [List.countP_cons, List.countP_cons, List.countP_cons]
    by_cases e : q a = true
    · rw [if_pos e, if_pos (a1 e), if_neg (by rw [a3 e]; simp)]; omega
    · rw [if_neg e]
      by_cases e2 : r a = true
      · rw [if_pos e2, if_pos (a2 e2)]; omega
      · rw [if_neg e2]; split <;> omega
/-- an over-full lot of letters gives an over-full arc -/
theorem hall_arcs {m : Nat} {G : Int → Nat → Prop} {lot : List Int} {seen : List Nat} (hm : 0 < m) (hG : ∀ k ∈ lot, Convex m (G k)) (hs : ∀ l ∈ seen, l < m) (hn : seen.Nodup) (h : seen.length < (Wn m G lot (· ∈ seen)).length) : FullArc m G lot := by
  by_cases h0 : ∃ k ∈ lot, ∀ l, l < m → ¬ G k l
  · obtain ⟨k, hk, hl⟩ := h0
    refine ⟨(0, 0), .inl rfl, ?_⟩
    have : k ∈ Wn m G lot (InArc m (0, 0)) := mem_Wn.mpr ⟨hk, fun l q g => absurd g (hl l q)⟩
    exact List.length_pos_of_mem this
  by_cases hf : ∃ f, f < m ∧ f ∉ seen
  · obtain ⟨f, hf, hfs⟩ := hf
    have ne : ∀ l ∈ seen, l ≠ f := fun l hl e => hfs (e ▸ hl)
    -- from a run [c, b) that is full on
    have key : ∀ (n c b : Nat), m - 1 - b = n → c ≤ b → b ≤ m - 1 → (∀ p, c ≤ p → p < b → (f + 1 + p) % m ∈ seen) →
        seen.countP (fun l => decide (c ≤ pos m f l)) < (Wn m G lot fun l => l ∈ seen ∧ c ≤ pos m f l).length → FullArc m G lot := by
      intro n
      induction n with
      | zero =>
        intro c b hn' hcb hb hrun hw
        have hbm : b = m - 1 := by omega
        subst hbm
        -- all places from c on
        have hcnt : m - 1 - c ≤ seen.countP (fun l => decide (c ≤ pos m f l)) := by
          rw [List.countP_eq_length_filter]
          have := nodup_len (xs := (List.range' c (m - 1 - c))) (ys := (seen.filter fun l => decide (c ≤ pos m f l)).map (pos m f)) List.nodup_range' fun p hp => by
            have hp' := List.mem_range'_1.mp hp
            have q := at_pos (m := m) (f := f) (p := p) hf (by omega)
            refine List.mem_map.mpr ⟨(f + 1 + p) % m, List.mem_filter.mpr ⟨hrun p (by omega) (by omega), ?_⟩, q.2.2⟩
            rw [decide_eq_true_eq, q.2.2]; omega
          rw [List.length_range', List.length_map] at this
          exact this
        by_cases hc : c = m - 1
        · exfalso
          apply h0
          have : 0 < (Wn m G lot fun l => l ∈ seen ∧ c ≤ pos m f l).length := by omega
          obtain ⟨k, hk⟩ := List.exists_mem_of_length_pos this
          have hk := mem_Wn.mp hk
          refine ⟨k, hk.1, fun l hl g => ?_⟩
          have z := hk.2 l hl g
          have := pos_lt hf hl (ne l z.1)
          omega
        · refine ⟨((f + 1 + c) % m, m - 1 - c), .inr (.inr ⟨Nat.mod_lt _ hm, by simp only; omega, by simp only; omega⟩), ?_⟩
          have := Wn_len (m := m) (G := G) (lot := lot) (X := fun l => l ∈ seen ∧ c ≤ pos m f l) (Y := InArc m ((f + 1 + c) % m, m - 1 - c)) fun l hl z => arc_of hf hcb hb hl (ne l z.1) z.2 (pos_lt hf hl (ne l z.1))
          simp only; omega
      | succ n ih =>
        intro c b hn' hcb hb hrun hw
        by_cases hbs : (f + 1 + b) % m ∈ seen
        · exact ih c (b + 1) (by omega) (by omega) (by omega) (fun p h1 h2 => by
            by_cases e : p = b
            · rw [e]; exact hbs
            · exact hrun p h1 (by omega)) hw
        · -- split behind b
          have hq := at_pos (m := m) (f := f) (p := b) hf (by omega)
          have nb : ∀ l ∈ seen, pos m f l ≠ b := fun l hl e => by
            have := of_pos hf (hs l hl) (ne l hl)
            rw [e] at this
            rw [this] at hbs; exact hbs hl
          have hcnt : b - c ≤ seen.countP (fun l => decide (c ≤ pos m f l ∧ pos m f l < b)) := by
            rw [List.countP_eq_length_filter]
            have := nodup_len (xs := (List.range' c (b - c))) (ys := (seen.filter fun l => decide (c ≤ pos m f l ∧ pos m f l < b)).map (pos m f)) List.nodup_range' fun p hp => by
              have hp' := List.mem_range'_1.mp hp
              have q := at_pos (m := m) (f := f) (p := p) hf (by omega)
              refine List.mem_map.mpr ⟨(f + 1 + p) % m, List.mem_filter.mpr ⟨hrun p (by omega) (by omega), ?_⟩, q.2.2⟩
              rw [decide_eq_true_eq, q.2.2]; omega
            rw [List.length_range', List.length_map] at this
            exact this
          have hsplit := filter_split (fun l => decide (c ≤ pos m f l)) (fun l => decide (c ≤ pos m f l ∧ pos m f l < b)) (fun l => decide (b + 1 ≤ pos m f l)) seen
            (fun l _ z => by simp only [decide_eq_true_eq] at z ⊢; omega) (fun l _ z => by simp only [decide_eq_true_eq] at z ⊢; omega) (fun l _ z => by simp only [decide_eq_true_eq, decide_eq_false_iff_not] at z ⊢; omega)
          have hW := Wn_or (m := m) (G := G) (lot := lot) (X := fun l => l ∈ seen ∧ c ≤ pos m f l) (Y := fun l => l ∈ seen ∧ c ≤ pos m f l ∧ pos m f l < b) (Z := fun l => l ∈ seen ∧ b + 1 ≤ pos m f l) fun k hk z => by
            have := Classical.em (∃ l, l < m ∧ G k l ∧ pos m f l < b)
            rcases this with ⟨l1, q1, q2, q3⟩ | nl
            · left
              intro l hl g
              have z1 := z l hl g
              refine ⟨z1.1, z1.2, ?_⟩
              apply Classical.byContradiction
              intro q
              have z2 := z l1 q1 q2
              have hlb := nb l z1.1
              -- l1 < b < l in places behind f: convex
              have cv := hG k hk
              have hb' := hq.1
              generalize hB : (f + 1 + b) % m = B at *
              have p1 := pos_val hf q1 (ne l1 z2.1)
              have p2 := pos_val hf hl (ne l z1.1)
              have p3 := pos_val hf hb' hq.2.1
              have e3 := hq.2.2
              have := cv l1 B l f q1 hb' hl hf (by omega) q2 g
              rcases this with w | w
              · exact hbs (z B hb' w).1
              · exact ne f (z f hf w).1 rfl
            · right
              intro l hl g
              have z1 := z l hl g
              have := nb l z1.1
              have : ¬ pos m f l < b := fun q => nl ⟨l, hl, g, q⟩
              exact ⟨z1.1, by omega⟩
          by_cases hA : b - c < (Wn m G lot fun l => l ∈ seen ∧ c ≤ pos m f l ∧ pos m f l < b).length
          · by_cases hcb' : c = b
            · exfalso
              apply h0
              have : 0 < (Wn m G lot fun l => l ∈ seen ∧ c ≤ pos m f l ∧ pos m f l < b).length := by omega
              obtain ⟨k, hk⟩ := List.exists_mem_of_length_pos this
              have hk := mem_Wn.mp hk
              refine ⟨k, hk.1, fun l hl g => ?_⟩
              have z := hk.2 l hl g
              omega
            · refine ⟨((f + 1 + c) % m, b - c), .inr (.inr ⟨Nat.mod_lt _ hm, by simp only; omega, by simp only; omega⟩), ?_⟩
              have := Wn_len (m := m) (G := G) (lot := lot) (X := fun l => l ∈ seen ∧ c ≤ pos m f l ∧ pos m f l < b) (Y := InArc m ((f + 1 + c) % m, b - c)) fun l hl z => arc_of hf hcb hb hl (ne l z.1) z.2.1 z.2.2
              simp only; omega
          · exact ih (b + 1) (b + 1) (by omega) (by omega) (by omega) (fun p h1 h2 => by omega) (by omega)
    refine key (m - 1) 0 0 (by omega) (by omega) (by omega) (fun p _ h2 => by omega) ?_
    have e1 : seen.countP (fun l => decide (0 ≤ pos m f l)) ≤ seen.length := List.countP_le_length
    have e2 := Wn_len (m := m) (G := G) (lot := lot) (X := (· ∈ seen)) (Y := fun l => l ∈ seen ∧ 0 ≤ pos m f l) fun l _ z => ⟨z, Nat.zero_le _⟩
    omega
  · -- all letters
    have all : ∀ f, f < m → f ∈ seen := fun f hf' => Classical.byContradiction fun z => hf ⟨f, hf', z⟩
    refine ⟨(0, m), .inr (.inl rfl), ?_⟩
    have e1 : m ≤ seen.length := by
      have := nodup_len (xs := List.range m) (ys := seen) List.nodup_range fun l hl => all l (List.mem_range.mp hl)
      rwa [List.length_range] at this
    have e2 := Wn_len (m := m) (G := G) (lot := lot) (X := (· ∈ seen)) (Y := InArc m (0, m)) fun l hl z => ⟨l, hl, by simp only [Nat.zero_add]; exact (Nat.mod_eq_of_lt hl).symm⟩
    simp only; omega
end K00
/-! M00f -/
namespace K00
open PySem PySem.Spec PyProof.Rows L2 DD
variable {A : Ad}
def pos3 : List Int := [-1, 0, 1]
@[simp] theorem sq_pos (m : Bool) : seqItems m (.v p_POSITIONS) = some (pos3.map PV.int) := (rfl)
def posFor (h : Harp) (l : Nat) (k : Int) : Option Int := pos3.find? fun p => decide ((h.bases.getD l 0 + p) % h.size = k)
def optI : Option Int → PV
  | some p => .int p
  | none => .non
theorem ix_intsP {ns : List Int} {l : Nat} (hl : l < ns.length) (st : MS) : fIx (.v (intsP ns)) (.v (.int (l : Int))) st = some (.v (.int (ns.getD l 0))) := by
  unfold intsP
  rw [ev_ixTup, atI_nat' _ _ (by simpa using hl), List.getElem?_map, List.getElem?_eq_getElem hl, List.getD_eq_getElem?_getD, List.getElem?_eq_getElem hl]
  rfl
@[simp] theorem ix_harp0 (h : Harp) (st : MS) : fIx (.v (harpP h)) (.v (.int 0)) st = some (.v (.int h.size)) := by simp [harpP]
@[simp] theorem ix_harp1 (h : Harp) (st : MS) : fIx (.v (harpP h)) (.v (.int 1)) st = some (.v (.tup (h.ls.map letterP))) := by simp [harpP]
theorem HarpOk.spos {h : Harp} (ok : HarpOk h) : 0 < h.size := by have := ok.two; have := ok.size; omega
theorem blen (h : Harp) : h.bases.length = h.ls.length := by simp [Harp.bases]
theorem position_for_ok {h : Harp} (ok : HarpOk h) {l : Nat} (hl : l < h.ls.length) (k : Int) (st : MS) : df_position_for A [harpP h, .int (l : Int), .int k] st = some (.v (optI (posFor h l k)), st) := by
  have hs := ok.spos
  simp [df_position_for, d_position_for]
  refine for_find (fun e => ∃ s, e = [.v (harpP h), .v (.int l), .v (.int k), s]) (fun p => decide ((h.bases.getD l 0 + p) % h.size = k)) (fun p => .v (.int p)) pos3 ⟨.un, rfl⟩ ?_ ?_ ?_
  · rintro a ha env ⟨s, rfl⟩
    refine ⟨_, _, by simp; rfl, ?_, ⟨.v (.int a), rfl⟩⟩
    simp [bases_of_ok ok, ix_intsP (ns := h.bases) (l := l) (by rw [blen]; exact hl), hs]
    by_cases z : (h.bases[l]?.getD 0 + a) % h.size = k <;> simp [z]
  · rintro a e q ⟨s, rfl⟩
    unfold posFor; rw [q]; simp [optI]
  · rintro e q ⟨s, rfl⟩
    unfold posFor; rw [q]; simp [optI]
/-- the kinds that a setting gives -/
def kindsOf (h : Harp) (ps : List Int) : List Int := (h.bases.zip ps).map fun q => (q.1 + q.2) % h.size
theorem zipP_ints : ∀ xs ys : List Int, zipP (xs.map PV.int) (ys.map PV.int) = (xs.zip ys).map pPV
  | [], _ => rfl
  | x :: xs, [] => rfl
  | x :: xs, y :: ys => by
    show _ :: zipP (xs.map PV.int) (ys.map PV.int) = _
    rw [zipP_ints xs ys]; rfl
/-- a dict's keys, grown -/
def growK (acc : List Int) : List Int → List Int
  | [] => acc
  | k :: ks => growK (if k ∈ acc then acc else acc ++ [k]) ks
def trueK (ks : List Int) : List (Key × PV) := ks.map fun k => (.inl k, .bl true)
theorem putP_true (ks : List Int) (k : Int) : putP (trueK ks) (.inl k) (.bl true) = trueK (if k ∈ ks then ks else ks ++ [k]) := by
  unfold putP
  have e : ((trueK ks).any fun kv => decide (kv.1 = .inl k)) = decide (k ∈ ks) := by
    unfold trueK
    rw [List.any_map]
    induction ks with
    | nil => rfl
    | cons a r ih =>
      rw [List.any_cons, ih]
      by_cases z : a = k
      · subst z; simp
      · have z' : ¬ k = a := fun q => z q.symm
        simp [z, z']
  rw [e]
  by_cases z : k ∈ ks
  · rw [if_pos (by simp [z]), if_pos z]
    unfold trueK
    rw [List.map_map]
    refine List.map_congr_left fun a _ => ?_
    simp only [Function.comp]
    split
    · rename_i q; cases q; rfl
    · rfl
  · rw [if_neg (by simp [z]), if_neg z]
    simp [trueK]
theorem growK_len : ∀ (ks acc : List Int), (growK acc ks).length ≤ acc.length + ks.length
  | [], acc => by simp [growK]
  | k :: ks, acc => by
    have := growK_len ks (if k ∈ acc then acc else acc ++ [k])
    show (growK (if k ∈ acc then acc else acc ++ [k]) ks).length ≤ _
    have e : (if k ∈ acc then acc else acc ++ [k]).length ≤ acc.length + 1 := by split <;> simp
    simp only [List.length_cons]; omega
theorem mem_growK : ∀ {ks acc : List Int} {x : Int}, x ∈ growK acc ks ↔ x ∈ acc ∨ x ∈ ks
  | [], acc, x => by simp [growK]
  | k :: ks, acc, x => by
    unfold growK
    rw [mem_growK]
    split
    · rename_i h
      simp only [List.mem_cons]
      constructor
      · rintro (z | z)
        · exact .inl z
        · exact .inr (.inr z)
      · rintro (z | rfl | z)
        · exact .inl z
        · exact .inl h
        · exact .inr z
    · simp only [List.mem_append, List.mem_cons, List.not_mem_nil, or_false]
      constructor
      · rintro ((z | z) | z)
        · exact .inl z
        · exact .inr (.inl z)
        · exact .inr (.inr z)
      · rintro (z | z | z)
        · exact .inl (.inl z)
        · exact .inl (.inr z)
        · exact .inr z
theorem nodup_growK : ∀ {ks acc : List Int}, acc.Nodup → (growK acc ks).Nodup
  | [], acc, h => h
  | k :: ks, acc, h => by
    unfold growK
    refine nodup_growK ?_
    split
    · exact h
    · rename_i z
      rw [List.nodup_append]
      exact ⟨h, by simp, fun a ha b hb e => by simp at hb; subst hb; subst e; exact z ha⟩
theorem dcomp_true {env : DEnv} {st : MS} {bind : DG} {test : DT} {kx vx : DX} : ∀ (ks acc : List Int), acc.length + ks.length ≤ 1000 → (∀ k ∈ ks, ∃ e, bind (.int k) env = some e ∧ test e st = some (true, st) ∧ kx e st = some (.v (.int k), st) ∧ vx e st = some (.v (.bl true), st)) →
    dcompD bind test kx vx (ks.map PV.int) env st (trueK acc) = some (trueK (growK acc ks), st)
  | [], acc, _, _ => rfl
  | k :: ks, acc, hl, hb => by
    obtain ⟨e, h1, h2, h3, h4⟩ := hb k List.mem_cons_self
    have hlen : (trueK acc).length < sizeLine := lt_line (by unfold trueK; rw [List.length_map]; simp at hl; omega)
    rw [List.map_cons]
    unfold dcompD growK
    rw [h1, Option.bind_some, h2, Option.bind_some, if_pos rfl, h3, Option.bind_some]
    show Option.bind (some (PV.int k)) _ = _
    rw [Option.bind_some]
    show Option.bind (some (Sum.inl k)) _ = _
    rw [Option.bind_some, h4, Option.bind_some]
    show Option.bind (some (PV.bl true)) _ = _
    rw [Option.bind_some, if_pos hlen, putP_true]
    exact dcomp_true ks _ (by split <;> simp at hl ⊢ <;> omega) fun b hb' => hb b (List.mem_cons_of_mem _ hb')
theorem keysI_true : ∀ ks : List Int, keysI? ((trueK ks).map (·.1)) = some ks
  | [] => rfl
  | k :: ks => by
    show (keysI? ((trueK ks).map (·.1))).map (fun is => k :: is) = _
    rw [keysI_true ks]; rfl
theorem ev_sortD {ks : List Int} (h : ks.length < 64) (st : MS) : fSorted2 [.o (.dK (trueK ks))] st = some (.o (.lst ((srt ks).map PV.int))) := by
  show (keysI? ((trueK ks).map (·.1))).bind (fun ns => if ns.length < 64 then some (sortI ns) else none) = _
  rw [keysI_true]; exact if_pos h
theorem kinds_len {h : Harp} (ok : HarpOk h) (ps : List Int) : (kindsOf h ps).length ≤ 9 := by
  unfold kindsOf
  rw [List.length_map, List.length_zip, blen]
  have := ok.nine; omega
theorem classes_of_ok {h : Harp} (ok : HarpOk h) (ps : List Int) (st : MS) : df_classes_of A [harpP h, intsP ps] st = some (.v (intsP (srt (growK [] (kindsOf h ps)))), st) := by
  have hs := ok.spos
  have hl := kinds_len ok ps
  have hz : (h.bases.zip ps).length ≤ 10000 := by
    rw [List.length_zip, blen]; have := ok.nine; omega
  simp [df_classes_of, d_classes_of, bases_of_ok ok]
  rw [zipP_ints, compD_map (fun q : Int × Int => PV.int ((q.1 + q.2) % h.size)) (h.bases.zip ps) fun q hq => by
    refine ⟨[.v (harpP h), .v (intsP ps), .un, .v (.int q.1), .v (.int q.2), .un], by simp [pPV], by simp, ?_⟩
    simp [hs]]
  have e : (h.bases.zip ps).map (fun q : Int × Int => PV.int ((q.1 + q.2) % h.size)) = (kindsOf h ps).map PV.int := by
    unfold kindsOf; rw [List.map_map]; rfl
  rw [e]
  have hl' : (kindsOf h ps).length ≤ 10000 := by omega
  have hg : (growK [] (kindsOf h ps)).length < 64 := by have := growK_len (kindsOf h ps) []; simp at this; omega
  simp [hl']
  have d := dcomp_true (env := [.v (harpP h), .v (intsP ps), .v (.lst ((kindsOf h ps).map PV.int)), .un, .un, .un]) (st := st) (bind := gName' 5) (test := tTrue) (kx := xVar 5) (vx := xC (.bl true)) (kindsOf h ps) [] (by simp; omega) fun k hk => ⟨_, by simp; rfl, by simp, by simp, by simp⟩
  have d' : dcompD (gName' 5) tTrue (xVar 5) (xC (PV.bl true)) ((kindsOf h ps).map PV.int) [.v (harpP h), .v (intsP ps), .v (.lst ((kindsOf h ps).map PV.int)), .un, .un, .un] st [] = _ := d
  rw [d']
  simp [ev_sortD hg, intsP]
end K00
/-! MDict -/
namespace DD
open PySem PySem.Spec PyProof.Rows L2
/-! dicts of the store -/
theorem in_objK {st : MS} {q : Nat} {kvs : List (Key × PV)} (h : st[q]? = some (.dK kvs)) (neg : Bool) (i : Int) : fIn neg (.v (.int i)) (.v (.obj q)) st = some (.v (.bl (if neg = true then !(valP kvs (.inl i)).isSome else (valP kvs (.inl i)).isSome))) := by
  have e : (XV.v (.obj q)).dat st = none := by
    show ((match st[q]? with | some (.lst xs) => some xs | _ => none) : Option (List PV)).bind _ = none
    rw [h]; rfl
  have e2 : (XV.v (.obj q)).dic st = some (.dK kvs) := h
  unfold fIn
  simp only [e, e2, Option.bind_some]
  rfl
theorem ix_objK {st : MS} {q : Nat} {kvs : List (Key × PV)} (h : st[q]? = some (.dK kvs)) (i : Int) : fIx (.v (.obj q)) (.v (.int i)) st = (valP kvs (.inl i)).map XV.v := by
  have e : (XV.v (.obj q)).lst st = none := by
    show (match st[q]? with | some (.lst xs) => some xs | _ => none) = none
    rw [h]
  have e2 : (XV.v (.obj q)).dic st = some (.dK kvs) := h
  unfold fIx
  simp only [e, e2]
  rfl
theorem put_dK {kvs : List (Key × PV)} (h : kvs.length ≤ 10000) (i : Int) (v : PV) : fPut (.dK kvs) (.int i) v = some (.dK (putP kvs (.inl i) v)) := by
  show (some (Sum.inl i)).bind (fun k => if kvs.length < sizeLine then some (Cont.dK (putP kvs k v)) else none) = _
  rw [Option.bind_some, if_pos (lt_line h)]
/-! assoc lists of letters -/
def look (hd : List (Nat × Int)) (l : Nat) : Option Int := (hd.find? fun p => decide (p.1 = l)).map (·.2)
def setA (hd : List (Nat × Int)) (l : Nat) (k : Int) : List (Nat × Int) := if l ∈ hd.map (·.1) then hd.map (fun p => if p.1 = l then (l, k) else p) else hd ++ [(l, k)]
def heldP (hd : List (Nat × Int)) : List (Key × PV) := hd.map fun p => (.inl (p.1 : Int), .int p.2)
def seenP (sn : List Nat) : List (Key × PV) := sn.map fun (l : Nat) => (.inl (l : Int), .bl true)
theorem key_eq {a b : Nat} : ((Sum.inl (a : Int) : Key) = .inl (b : Int)) ↔ a = b := by
  constructor
  · intro h; injection h with h; omega
  · rintro rfl; rfl
theorem valP_held (hd : List (Nat × Int)) (l : Nat) : valP (heldP hd) (.inl (l : Int)) = (look hd l).map PV.int := by
  unfold valP look heldP
  rw [List.find?_map]
  have e : ((fun kv : Key × PV => decide (kv.1 = .inl (l : Int))) ∘ fun p : Nat × Int => ((.inl (p.1 : Int), .int p.2) : Key × PV)) = fun p => decide (p.1 = l) := by
    funext p; simp only [Function.comp, key_eq]
  rw [e]
  cases hd.find? fun p => decide (p.1 = l) <;> rfl
theorem look_some {hd : List (Nat × Int)} {l : Nat} : (look hd l).isSome = decide (l ∈ hd.map (·.1)) := by
  unfold look
  rw [Option.isSome_map]
  by_cases h : l ∈ hd.map (·.1)
  · rw [decide_eq_true h, List.find?_isSome]
    obtain ⟨p, hp, rfl⟩ := List.mem_map.mp h
    exact ⟨p, hp, by simp⟩
  · rw [decide_eq_false h]
    have : hd.find? (fun p => decide (p.1 = l)) = none := by
      rw [List.find?_eq_none]
      intro p hp
      simp only [decide_eq_true_eq]
      exact fun e => h (List.mem_map.mpr ⟨p, hp, e⟩)
    rw [this]; rfl
theorem putP_held (hd : List (Nat × Int)) (l : Nat) (k : Int) : putP (heldP hd) (.inl (l : Int)) (.int k) = heldP (setA hd l k) := by
  unfold putP setA
  have e : ((heldP hd).any fun kv => decide (kv.1 = .inl (l : Int))) = decide (l ∈ hd.map (·.1)) := by
    unfold heldP
    rw [List.any_map]
    have : ((fun kv : Key × PV => decide (kv.1 = .inl (l : Int))) ∘ fun p : Nat × Int => ((.inl (p.1 : Int), .int p.2) : Key × PV)) = fun p => decide (p.1 = l) := by
      funext p; simp only [Function.comp, key_eq]
    rw [this]
    by_cases h : l ∈ hd.map (·.1)
    · rw [decide_eq_true h, List.any_eq_true]
      obtain ⟨p, hp, rfl⟩ := List.mem_map.mp h
      exact ⟨p, hp, by simp⟩
    · rw [decide_eq_false h, List.any_eq_false]
      intro p hp
      simp only [decide_eq_true_eq]
      exact fun e => h (List.mem_map.mpr ⟨p, hp, e⟩)
  rw [e]
  by_cases h : l ∈ hd.map (·.1)
  · rw [if_pos (decide_eq_true h), if_pos h]
    unfold heldP
    rw [List.map_map, List.map_map]
    refine List.map_congr_left fun p _ => ?_
    simp only [Function.comp, key_eq]
    split
    · rename_i z; rw [z]
    · rfl
  · rw [if_neg (by simpa using h), if_neg h]
    unfold heldP
    rw [List.map_append]; rfl
theorem look_setA (hd : List (Nat × Int)) (l : Nat) (k : Int) (l' : Nat) : look (setA hd l k) l' = if l' = l then some k else look hd l' := by
  unfold setA
  split
  · rename_i h
    unfold look
    induction hd with
    | nil => simp at h
    | cons p r ih =>
      rw [List.map_cons]
      by_cases e : p.1 = l
      · rw [if_pos e]
        by_cases e2 : l' = l
        · subst e2
          rw [if_pos rfl, List.find?_cons_of_pos (by simp)]; rfl
        · rw [if_neg e2, List.find?_cons_of_neg (by simp; exact fun z => e2 z.symm), List.find?_cons_of_neg (by simp; exact fun z => e2 (z.symm.trans e))]
          by_cases h' : l ∈ r.map (·.1)
          · have := ih h'; rw [if_neg e2] at this; exact this
          · have : r.map (fun p => if p.1 = l then (l, k) else p) = r := by
              rw [show r = r.map id by simp]
              rw [List.map_map]
              refine List.map_congr_left fun q hq => ?_
              simp only [Function.comp, id]
              rw [if_neg (fun z => h' (List.mem_map.mpr ⟨q, hq, z⟩))]
            rw [this]
      · rw [if_neg e]
        have h' : l ∈ r.map (·.1) := by
          rw [List.map_cons] at h
          rcases List.mem_cons.mp h with z | z
          · exact absurd z.symm e
          · exact z
        by_cases e2 : p.1 = l'
        · rw [List.find?_cons_of_pos (by simpa using e2), List.find?_cons_of_pos (by simpa using e2), if_neg (fun z => e (e2.trans z))]
        · rw [List.find?_cons_of_neg (by simpa using e2), List.find?_cons_of_neg (by simpa using e2)]
          exact ih h'
  · rename_i h
    unfold look
    rw [List.find?_append]
    by_cases e2 : l' = l
    · subst e2
      rw [if_pos rfl]
      have : hd.find? (fun p => decide (p.1 = l')) = none := by
        rw [List.find?_eq_none]
        intro p hp
        simp only [decide_eq_true_eq]
        exact fun e => h (List.mem_map.mpr ⟨p, hp, e⟩)
      rw [this]; simp
    · rw [if_neg e2]
      have : [(l, k)].find? (fun p => decide (p.1 = l')) = none := by
        rw [List.find?_eq_none]; intro p hp; simp at hp; subst hp; simp; exact fun z => e2 z.symm
      rw [this, Option.or_none]
theorem setA_keys (hd : List (Nat × Int)) (l : Nat) (k : Int) : (setA hd l k).map (·.1) = if l ∈ hd.map (·.1) then hd.map (·.1) else hd.map (·.1) ++ [l] := by
  unfold setA
  split
  · rw [List.map_map]
    refine List.map_congr_left fun p _ => ?_
    simp only [Function.comp]
    split
    · rename_i z; exact z.symm
    · rfl
  · rw [List.map_append]; rfl
theorem valP_seen (sn : List Nat) (l : Nat) : (valP (seenP sn) (.inl (l : Int))).isSome = decide (l ∈ sn) := by
  unfold valP seenP
  rw [Option.isSome_map, List.find?_map, Option.isSome_map]
  have e : ((fun kv : Key × PV => decide (kv.1 = .inl (l : Int))) ∘ fun (p : Nat) => ((.inl (p : Int), .bl true) : Key × PV)) = fun p => decide (p = l) := by
    funext p; simp only [Function.comp, key_eq]
  rw [e]
  by_cases h : l ∈ sn
  · rw [decide_eq_true h, List.find?_isSome]; exact ⟨l, h, by simp⟩
  · rw [decide_eq_false h]
    have : sn.find? (fun p => decide (p = l)) = none := by
      rw [List.find?_eq_none]
      intro p hp
      simp only [decide_eq_true_eq]
      exact fun e => h (e ▸ hp)
    rw [this]; rfl
theorem putP_seen {sn : List Nat} {l : Nat} (h : l ∉ sn) : putP (seenP sn) (.inl (l : Int)) (.bl true) = seenP (sn ++ [l]) := by
  have e : ((seenP sn).any fun kv => decide (kv.1 = .inl (l : Int))) = false := by
    unfold seenP
    rw [List.any_map, List.any_eq_false]
    intro p hp
    simp only [Function.comp, key_eq, decide_eq_true_eq]
    exact fun e => h (e ▸ hp)
  unfold putP
  rw [if_neg (by rw [e]; simp)]
  unfold seenP
  rw [List.map_append]; rfl
end DD
/-! MLoop2 -/
namespace DD
open PySem PySem.Spec PyProof.Rows L2
/-- it comes to a value that .. -/
def Ev {β : Type} (o : Option β) (Q : β → Prop) : Prop := ∃ b, o = some b ∧ Q b
@[simp] theorem Ev_some {β : Type} (b : β) (Q : β → Prop) : Ev (some b) Q = Q b := by
  unfold Ev; simp
theorem Ev.mono {β : Type} {o : Option β} {Q R : β → Prop} (h : Ev o Q) (hq : ∀ b, Q b → R b) : Ev o R := by
  obtain ⟨b, e, q⟩ := h; exact ⟨b, e, hq b q⟩
theorem Ev.bnd {α β : Type} {o : Option α} {f : α → Option β} {P : α → Prop} {Q : β → Prop} (h : Ev o P) (hf : ∀ a, P a → Ev (f a) Q) : Ev (bnd o f) Q := by
  obtain ⟨a, rfl, p⟩ := h; exact hf a p
theorem Ev.eq {β : Type} {o : Option β} {b : β} {Q : β → Prop} (e : o = some b) (q : Q b) : Ev o Q := ⟨b, e, q⟩
section
variable {α β : Type} {bind : DG} {body : DS} {enc : α → PV} {env : DEnv} {st : MS} {k : Fl × DEnv × MS → Option β} {Q : β → Prop}
theorem for_retE (I : List α → DEnv → MS → Prop) (Rt : XV → MS → Prop) (xs : List α) (hi : I xs env st) (hb : ∀ a rest env st, I (a :: rest) env st → ∃ e1, bind (enc a) env = some e1 ∧ ((∃ e2 st2, body e1 st = some (.nx, e2, st2) ∧ I rest e2 st2) ∨ ∃ x e2 st2, body e1 st = some (.rt x, e2, st2) ∧ Rt x st2))
    (h1 : ∀ e s, I [] e s → Ev (k (.nx, e, s)) Q) (h2 : ∀ x e s, Rt x s → Ev (k (.rt x, e, s)) Q) : Ev (bnd (loopD bind body (xs.map enc) env st) k) Q := by
  rcases loopD_ret I Rt xs env st hi hb with ⟨e, s, g1, g2⟩ | ⟨x, e, s, g1, g2⟩
  · rw [g1]; exact h1 e s g2
  · rw [g1]; exact h2 x e s g2
theorem for_runEv (I : List α → DEnv → MS → Prop) (xs : List α) (hi : I xs env st) (hb : ∀ a rest env st, I (a :: rest) env st → ∃ e1, bind (enc a) env = some e1 ∧ Ev (body e1 st) fun r => r.1 = .nx ∧ I rest r.2.1 r.2.2)
    (h : ∀ e s, I [] e s → Ev (k (.nx, e, s)) Q) : Ev (bnd (loopD bind body (xs.map enc) env st) k) Q := by
  refine for_retE I (fun _ _ => False) xs hi (fun a rest env st i => ?_) h (fun _ _ _ z => z.elim)
  obtain ⟨e1, h1, ⟨f, e2, s2⟩, h2, h3, h4⟩ := hb a rest env st i
  simp only at h3 h4
  subst h3
  exact ⟨e1, h1, .inl ⟨e2, s2, h2, h4⟩⟩
end
end DD
/-! M00g -/
namespace K00
open PySem PySem.Spec PyProof.Rows L2 DD
variable {A : Ad}
def mfs (h : Harp) (lot : List Int) (n : Nat) : List (Str × PV) := [("harp", harpP h), ("lot", intsP lot), ("held", .obj n)]
@[simp] theorem mfs_harp (h : Harp) (lot : List Int) (n : Nat) : atP (mfs h lot n) "harp" = some (harpP h) := (rfl)
@[simp] theorem mfs_lot (h : Harp) (lot : List Int) (n : Nat) : atP (mfs h lot n) "lot" = some (intsP lot) := (rfl)
@[simp] theorem mfs_held (h : Harp) (lot : List Int) (n : Nat) : atP (mfs h lot n) "held" = some (.obj n) := (rfl)
@[simp] theorem mfs_put (h : Harp) (lot : List Int) (n : Nat) : atP (mfs h lot n) "put" = none := (rfl)
@[simp] theorem mfs_setting (h : Harp) (lot : List Int) (n : Nat) : atP (mfs h lot n) "setting" = none := (rfl)
structure Base (C : Addr) (h : Harp) (lot : List Int) (s n q : Nat) (sto : MS) : Prop where
  hs : sto[s]? = some (.ins C (mfs h lot n))
  ln : n < sto.length
  lq : q < sto.length
  sn : s ≠ n
  sq : s ≠ q
  nq : n ≠ q
def mk (sto : MS) (n q : Nat) (hd : List (Nat × Int)) (sn : List Nat) : MS := (sto.set q (.dK (seenP sn))).set n (.dK (heldP hd))
section
variable {C : Addr} {h : Harp} {lot : List Int} {s n q : Nat} {sto : MS} {hd hd2 : List (Nat × Int)} {sn sn2 : List Nat}
theorem mk_s (b : Base C h lot s n q sto) : (mk sto n q hd sn)[s]? = some (.ins C (mfs h lot n)) := by
  unfold mk
  rw [List.getElem?_set_ne b.sn.symm, List.getElem?_set_ne b.sq.symm]; exact b.hs
theorem mk_n (b : Base C h lot s n q sto) : (mk sto n q hd sn)[n]? = some (.dK (heldP hd)) := by
  unfold mk
  rw [List.getElem?_set_self (by rw [List.length_set]; exact b.ln)]
theorem mk_q (b : Base C h lot s n q sto) : (mk sto n q hd sn)[q]? = some (.dK (seenP sn)) := by
  unfold mk
  rw [List.getElem?_set_ne b.nq, List.getElem?_set_self b.lq]
theorem mk_setq (b : Base C h lot s n q sto) : (mk sto n q hd sn).set q (.dK (seenP sn2)) = mk sto n q hd sn2 := by
  unfold mk
  rw [List.set_comm _ _ b.nq, List.set_set]
theorem mk_setn (b : Base C h lot s n q sto) : (mk sto n q hd sn).set n (.dK (heldP hd2)) = mk sto n q hd2 sn := by
  unfold mk
  rw [List.set_set]
theorem mk_ins (b : Base C h lot s n q sto) : insOf C (mk sto n q hd sn) (.v (.obj s)) = some (s, mfs h lot n) := insOf_at (mk_s b)
end
structure SeenOk (m : Nat) (sn : List Nat) : Prop where
  nd : sn.Nodup
  lt : ∀ l ∈ sn, l < m
structure HeldOk (h : Harp) (hd : List (Nat × Int)) : Prop where
  nd : (hd.map (·.1)).Nodup
  lt : ∀ l ∈ hd.map (·.1), l < h.ls.length
  gv : ∀ l k, look hd l = some k → l ∈ giv h k
theorem SeenOk.len {m : Nat} {sn : List Nat} (o : SeenOk m sn) : sn.length ≤ m := by
  have := nodup_len (ys := List.range m) o.nd fun l hl => List.mem_range.mpr (o.lt l hl)
  rwa [List.length_range] at this
theorem HeldOk.len {h : Harp} {hd : List (Nat × Int)} (o : HeldOk h hd) : hd.length ≤ h.ls.length := by
  have := nodup_len (ys := List.range h.ls.length) o.nd fun l hl => List.mem_range.mpr (o.lt l hl)
  rwa [List.length_range, List.length_map] at this
theorem giv_lt {h : Harp} {k : Int} {l : Nat} (hl : l ∈ giv h k) : l < h.ls.length := by
  unfold giv at hl
  exact List.mem_range.mp (List.mem_filter.mp hl).1
theorem SeenOk.add {m : Nat} {sn : List Nat} (o : SeenOk m sn) {l : Nat} (h : l ∉ sn) (hl : l < m) : SeenOk m (sn ++ [l]) := by
  refine ⟨?_, fun x hx => ?_⟩
  · rw [List.nodup_append]
    exact ⟨o.nd, by simp, fun a ha b hb e => by simp at hb; subst hb; subst e; exact h ha⟩
  · rcases List.mem_append.mp hx with z | z
    · exact o.lt x z
    · simp at z; subst z; exact hl
theorem HeldOk.set {h : Harp} {hd : List (Nat × Int)} (o : HeldOk h hd) {l : Nat} {k : Int} (hl : l ∈ giv h k) : HeldOk h (setA hd l k) := by
  refine ⟨?_, ?_, ?_⟩
  · rw [setA_keys]
    split
    · exact o.nd
    · rename_i z
      rw [List.nodup_append]
      exact ⟨o.nd, by simp, fun a ha b hb e => by simp at hb; subst hb; subst e; exact z ha⟩
  · rw [setA_keys]
    split
    · exact o.lt
    · intro x hx
      rcases List.mem_append.mp hx with z | z
      · exact o.lt x z
      · simp at z; subst z; exact giv_lt hl
  · intro l' k' e
    rw [look_setA] at e
    split at e
    · rename_i z; subst z; cases e; exact hl
    · exact o.gv l' k' e
/-- what a put does -/
structure PutOut (h : Harp) (kind : Int) (hd : List (Nat × Int)) (sn : List Nat) (b : Bool) (hd' : List (Nat × Int)) (sn' : List Nat) : Prop where
  so : SeenOk h.ls.length sn'
  sub : ∀ l ∈ sn, l ∈ sn'
  ho : HeldOk h hd'
  no : b = false → hd' = hd ∧ (∀ l ∈ giv h kind, l ∈ sn') ∧ ∀ l ∈ sn', l ∉ sn → ∃ k, look hd l = some k ∧ ∀ l' ∈ giv h k, l' ∈ sn'
  yes : b = true → (∀ l ∈ sn, look hd' l = look hd l) ∧ ∀ k, cntF h.ls.length (look hd') k = cntF h.ls.length (look hd) k + if kind = k then 1 else 0
def PutQ (h : Harp) (kind : Int) (hd : List (Nat × Int)) (sn : List Nat) (sto : MS) (n q : Nat) (r : XV × MS) : Prop := ∃ b hd' sn', r = (.v (.bl b), mk sto n q hd' sn') ∧ PutOut h kind hd sn b hd' sn'
theorem look_upd (hd : List (Nat × Int)) (l : Nat) (k : Int) : look (setA hd l k) = updF (look hd) l k := by
  funext l'; rw [look_setA]; rfl
theorem put_ok {h : Harp} (ok : HarpOk h) {lot : List Int} {s n q : Nat} {sto : MS} (B : Base A.Matching h lot s n q sto) : ∀ (fuel : Nat) (hd : List (Nat × Int)) (sn : List Nat) (kind : Int), h.ls.length < fuel + sn.length → SeenOk h.ls.length sn → HeldOk h hd →
    Ev (dr_Matching_put A fuel [.obj s, .int kind, .obj q] (mk sto n q hd sn)) (PutQ h kind hd sn sto n q)
  | 0, hd, sn, kind, hf, so, ho => absurd so.len (by omega)
  | fuel + 1, hd, sn, kind, hf, so, ho => by
    have ih := put_ok ok B fuel
    have h9 := ok.nine
    simp [dr_Matching_put, d_Matching_put, mk_ins B, givers_ok ok]
    refine for_retE
      (fun rest env st => ∃ sn1 sl, env = [.v (.obj s), .v (.int kind), .v (.obj q), sl] ∧ st = mk sto n q hd sn1 ∧ SeenOk h.ls.length sn1 ∧ (∀ l ∈ sn, l ∈ sn1) ∧ (∀ l ∈ giv h kind, l ∈ sn1 ∨ l ∈ rest) ∧ (∀ l ∈ sn1, l ∉ sn → ∃ k, look hd l = some k ∧ ∀ l' ∈ giv h k, l' ∈ sn1) ∧ ∀ l ∈ rest, l ∈ giv h kind)
      (fun x st => x = .v (.bl true) ∧ ∃ hd' sn', st = mk sto n q hd' sn' ∧ PutOut h kind hd sn true hd' sn') (giv h kind)
      ⟨sn, .un, rfl, rfl, so, fun _ h => h, fun l hl => .inr hl, fun l h1 h2 => absurd h1 h2, fun _ h => h⟩ ?_ ?_ ?_
    · rintro a rest env st ⟨sn1, sl, rfl, rfl, so1, hsub, hdone, hcl, hrest⟩
      refine ⟨_, by simp; rfl, ?_⟩
      have ha := hrest a List.mem_cons_self
      by_cases hin : a ∈ sn1
      · refine .inl ⟨[.v (.obj s), .v (.int kind), .v (.obj q), .v (.int (a : Int))], mk sto n q hd sn1, by simp [in_objK (mk_q B), valP_seen, hin], sn1, _, rfl, rfl, so1, hsub, fun l hl => ?_, hcl, fun l hl => hrest l (List.mem_cons_of_mem _ hl)⟩
        rcases hdone l hl with z | z
        · exact .inl z
        · rcases List.mem_cons.mp z with rfl | z
          · exact .inl hin
          · exact .inr z
      · have so2 := so1.add hin (giv_lt ha)
        have hl1 : (seenP sn1).length ≤ 10000 := by unfold seenP; rw [List.length_map]; have := so1.len; omega
        have hl2 : (heldP hd).length ≤ 10000 := by unfold heldP; rw [List.length_map]; have := ho.len; omega
        have hal := giv_lt ha
        by_cases hh : a ∈ hd.map (·.1)
        · have hsome : (look hd a).isSome = true := by rw [look_some, decide_eq_true hh]
          obtain ⟨k1, hk1⟩ := Option.isSome_iff_exists.mp hsome
          obtain ⟨r, hr, b, hd', sn', rfl, po⟩ := ih hd (sn1 ++ [a]) k1 (by
            have := nodup_len so.nd hsub
            rw [List.length_append, List.length_singleton]; omega) so2 ho
          cases b with
          | false =>
            obtain ⟨rfl, p1, p2⟩ := po.no rfl
            refine .inl ⟨[.v (.obj s), .v (.int kind), .v (.obj q), .v (.int (a : Int))], mk sto n q hd' sn', ?_, sn', _, rfl, rfl, po.so, fun l hl => po.sub l (List.mem_append_left _ (hsub l hl)), fun l hl => ?_, fun l hl hn => ?_, fun l hl => hrest l (List.mem_cons_of_mem _ hl)⟩
            · simp [in_objK (mk_q B), valP_seen, hin, mk_q B, put_dK hl1, putP_seen hin, mk_setq B, mk_ins B, in_objK (mk_n B), valP_held, hk1, ix_objK (mk_n B), hr]
            · rcases hdone l hl with z | z
              · exact .inl (po.sub l (List.mem_append_left _ z))
              · rcases List.mem_cons.mp z with rfl | z
                · exact .inl (po.sub l (by simp))
                · exact .inr z
            · by_cases z : l ∈ sn1 ++ [a]
              · rcases List.mem_append.mp z with z | z
                · obtain ⟨k, e1, e2⟩ := hcl l z hn
                  exact ⟨k, e1, fun l' h' => po.sub l' (List.mem_append_left _ (e2 l' h'))⟩
                · simp at z; subst z
                  exact ⟨k1, hk1, p1⟩
              · exact p2 l hl z
          | true =>
            obtain ⟨p1, p2⟩ := po.yes rfl
            have hl3 : (heldP hd').length ≤ 10000 := by unfold heldP; rw [List.length_map]; have := po.ho.len; omega
            refine .inr ⟨.v (.bl true), [.v (.obj s), .v (.int kind), .v (.obj q), .v (.int (a : Int))], mk sto n q (setA hd' a kind) sn', ?_, rfl, setA hd' a kind, sn', rfl, po.so, fun l hl => po.sub l (List.mem_append_left _ (hsub l hl)), po.ho.set ha, (fun z => by cases z), fun _ => ⟨fun l hl => ?_, fun k => ?_⟩⟩
            · simp [in_objK (mk_q B), valP_seen, hin, mk_q B, put_dK hl1, putP_seen hin, mk_setq B, mk_ins B, in_objK (mk_n B), valP_held, hk1, ix_objK (mk_n B), hr, mk_n B, put_dK hl3, putP_held, mk_setn B]
            · rw [look_setA, if_neg (fun (e : l = a) => hin (by rw [← e]; exact hsub l hl))]
              exact p1 l (List.mem_append_left _ (hsub l hl))
            · have e1 : look hd' a = some k1 := (p1 a (by simp)).trans hk1
              have e2 := p2 k
              have e3 := cntF_upd (f := look hd') (a := a) (j := kind) (k := k) hal
              rw [look_upd]
              rw [e1] at e3
              have e4 : (some k1 = some k) = (k1 = k) := by simp
              simp only [e4] at e3
              omega
        · have hnone : look hd a = none := by
            have := look_some (hd := hd) (l := a)
            rw [decide_eq_false hh] at this
            cases q : look hd a with
            | none => rfl
            | some x => rw [q] at this; cases this
          refine .inr ⟨.v (.bl true), [.v (.obj s), .v (.int kind), .v (.obj q), .v (.int (a : Int))], mk sto n q (setA hd a kind) (sn1 ++ [a]), ?_, rfl, setA hd a kind, sn1 ++ [a], rfl, so2, fun l hl => List.mem_append_left _ (hsub l hl), ho.set ha, (fun z => by cases z), fun _ => ⟨fun l hl => ?_, fun k => ?_⟩⟩
          · simp [in_objK (mk_q B), valP_seen, hin, mk_q B, put_dK hl1, putP_seen hin, mk_setq B, mk_ins B, in_objK (mk_n B), valP_held, hnone, mk_n B, put_dK hl2, putP_held, mk_setn B]
          · rw [look_setA, if_neg (fun (e : l = a) => hin (by rw [← e]; exact hsub l hl))]
          · have e3 := cntF_upd (f := look hd) (a := a) (j := kind) (k := k) hal
            rw [look_upd]
            rw [hnone] at e3
            simpa using e3
    · rintro e st ⟨sn1, sl, rfl, rfl, so1, hsub, hdone, hcl, _⟩
      simp
      exact ⟨false, hd, sn1, rfl, so1, hsub, ho, fun _ => ⟨rfl, fun l hl => (hdone l hl).elim id (fun z => by cases z), hcl⟩, fun z => by cases z⟩
    · rintro x e st ⟨rfl, hd', sn', rfl, po⟩
      simp
      exact ⟨true, hd', sn', rfl, po⟩
end K00
/-! M00h -/
namespace DD
open PySem PySem.Spec PyProof.Rows L2
theorem compD_run {α : Type} {bind : DG} {test : DT} {elt : DX} {enc : α → PV} {env : DEnv} (J : List α → List PV → MS → Prop) : ∀ (xs : List α) (acc : List PV) (st : MS), J xs acc st → (∀ a rest acc st, J (a :: rest) acc st → ∃ e, bind (enc a) env = some e ∧ test e st = some (true, st) ∧ Ev (elt e st) fun r => ∃ q, r.1.pv = some q ∧ J rest (acc ++ [q]) r.2) →
    Ev (compD bind test elt (xs.map enc) env st) fun r => J [] (acc ++ r.1) r.2
  | [], acc, st, hi, _ => ⟨_, rfl, by simpa using hi⟩
  | a :: xs, acc, st, hi, hb => by
    obtain ⟨e, h1, h2, ⟨x, s1⟩, h3, q, h4, h5⟩ := hb a xs acc st hi
    obtain ⟨⟨qs, s2⟩, g1, g2⟩ := compD_run J xs (acc ++ [q]) s1 h5 hb
    refine ⟨(q :: qs, s2), ?_, by simpa using g2⟩
    rw [List.map_cons, compD_cons, h1, bnd_some, h2, bnd_some, if_pos rfl, h3, bnd_some]
    simp only at h4
    rw [h4, bnd_some, g1]; rfl
end DD
namespace K00
open PySem PySem.Spec PyProof.Rows L2 DD
variable {A : Ad}
/-- a lot -/
structure LotOk (h : Harp) (lot : List Int) : Prop where
  nd : lot.Nodup
  rg : ∀ k ∈ lot, 0 ≤ k ∧ k < h.size
  len : lot.length ≤ 24
def Gv (h : Harp) : Int → Nat → Prop := fun k l => l ∈ giv h k
theorem mem_giv {h : Harp} {k : Int} {l : Nat} : l ∈ giv h k ↔ l < h.ls.length ∧ (k - h.bases.getD l 0 + 1) % h.size ≤ 2 := by
  unfold giv
  rw [List.mem_filter, List.mem_range, decide_eq_true_eq, List.getD_eq_getElem?_getD]
theorem emod_cases {d n : Int} (hn : 0 < n) (h1 : -n < d) (h2 : d ≤ n) : (0 ≤ d ∧ d < n ∧ d % n = d) ∨ (d < 0 ∧ d % n = d + n) ∨ (d = n ∧ d % n = 0) := by
  by_cases a : d < 0
  · right; left
    refine ⟨a, ?_⟩
    rw [← Int.add_emod_right, Int.emod_eq_of_lt (by omega) (by omega)]
  · by_cases b : d < n
    · left; exact ⟨by omega, b, Int.emod_eq_of_lt (by omega) b⟩
    · right; right
      have : d = n := by omega
      subst this
      exact ⟨rfl, Int.emod_self⟩
theorem base_rg {h : Harp} (ok : HarpOk h) {l : Nat} (hl : l < h.ls.length) : 0 ≤ h.bases.getD l 0 ∧ h.bases.getD l 0 < h.size := by
  have hl' : l < h.bases.length := by rw [blen]; exact hl
  rw [List.getD_eq_getElem?_getD, List.getElem?_eq_getElem hl']
  exact ok.base _ (List.getElem_mem hl')
theorem base_lt {h : Harp} (ok : HarpOk h) {i j : Nat} (hij : i < j) (hj : j < h.ls.length) : h.bases.getD i 0 < h.bases.getD j 0 := by
  have hj' : j < h.bases.length := by rw [blen]; exact hj
  have hi' : i < h.bases.length := by omega
  rw [List.getD_eq_getElem?_getD, List.getElem?_eq_getElem hi', List.getD_eq_getElem?_getD, List.getElem?_eq_getElem hj']
  exact List.pairwise_iff_getElem.mp ok.rise i j hi' hj' hij
theorem size2 {h : Harp} (ok : HarpOk h) : 2 ≤ h.size := by have := ok.two; have := ok.size; omega
theorem giv_iff {h : Harp} (ok : HarpOk h) {k : Int} (hk : 0 ≤ k ∧ k < h.size) {l : Nat} (hl : l < h.ls.length) : l ∈ giv h k ↔ (let d := k - h.bases.getD l 0 + 1; (0 ≤ d ∧ d ≤ 2) ∨ d = h.size ∨ d + h.size ≤ 2) := by
  have hb := base_rg ok hl
  have h2 := size2 ok
  rw [mem_giv]
  have e := emod_cases (d := k - h.bases.getD l 0 + 1) (n := h.size) (by omega) (by omega) (by omega)
  simp only
  constructor
  · rintro ⟨_, z⟩; omega
  · intro z; refine ⟨hl, ?_⟩; omega
theorem giv_convex {h : Harp} (ok : HarpOk h) {k : Int} (hk : 0 ≤ k ∧ k < h.size) : Convex h.ls.length (Gv h k) := by
  intro a b c f ha hb hc hf ho ga gc
  unfold Gv at *
  have ra := base_rg ok ha
  have rb := base_rg ok hb
  have rc := base_rg ok hc
  have rf := base_rg ok hf
  have h2 := size2 ok
  rw [giv_iff ok hk ha] at ga
  rw [giv_iff ok hk hc] at gc
  rw [giv_iff ok hk hb, giv_iff ok hk hf]
  simp only at *
  rcases ho with ⟨h1, h3, h4⟩ | ⟨h1, h3, h4, h5⟩ | ⟨h1, h3, h4, h5⟩
  · have e1 := base_lt ok h1 hb
    have e2 := base_lt ok h3 hc
    rcases h4 with h4 | h4
    · have e3 := base_lt ok h4 ha
      omega
    · have e3 := base_lt ok h4 hf
      omega
  · have e1 := base_lt ok h1 hc
    have e3 := base_lt ok h4 hf
    have e4 := base_lt ok h5 ha
    omega
  · have e1 := base_lt ok h3 hb
    have e3 := base_lt ok h4 hf
    have e4 := base_lt ok h5 ha
    omega
theorem mem_lin {m : Nat} (hm : 0 < m) {a : Int × Int} (h1 : 0 ≤ a.1) (h2 : 0 ≤ a.2) {l : Nat} : (l : Int) ∈ lin m a ↔ InArc m (a.1.toNat, a.2.toNat) l := by
  unfold lin InArc
  rw [List.mem_map]
  constructor
  · rintro ⟨i, hi, e⟩
    refine ⟨i, List.mem_range.mp hi, ?_⟩
    have : ((a.1.toNat + i : Nat) : Int) % (m : Int) = (l : Int) := by rw [← e]; congr 1; omega
    simp only
    omega
  · rintro ⟨i, hi, e⟩
    refine ⟨i, List.mem_range.mpr hi, ?_⟩
    simp only at e
    have : ((a.1.toNat + i : Nat) : Int) % (m : Int) = (l : Int) := by rw [e]; omega
    rw [← this]; congr 1; omega
theorem win_Wn {h : Harp} (ok : HarpOk h) (lot : List Int) {a : Int × Int} (h1 : 0 ≤ a.1) (h2 : 0 ≤ a.2) : win h lot a = Wn h.ls.length (Gv h) lot (InArc h.ls.length (a.1.toNat, a.2.toNat)) := by
  have hm : 0 < h.ls.length := by have := ok.two; omega
  unfold win
  refine Wn_filter fun k => ?_
  rw [List.all_eq_true]
  constructor
  · intro z l hl g
    exact (mem_lin hm h1 h2).mp (by simpa using z l g)
  · intro z l g
    rw [decide_eq_true_eq]
    exact (mem_lin hm h1 h2).mpr (z l (giv_lt g) g)
theorem full_of {h : Harp} (ok : HarpOk h) {lot : List Int} (f : FullArc h.ls.length (Gv h) lot) : ∃ a ∈ arcsL h.ls.length, fullB h lot a = true := by
  obtain ⟨⟨a1, a2⟩, ha, hw⟩ := f
  refine ⟨((a1 : Int), (a2 : Int)), mem_arcsL.mpr ?_, ?_⟩
  · rcases ha with e | e | z
    · cases e; left; rfl
    · cases e; right; left; rfl
    · right; right; simp only at z ⊢; omega
  · unfold fullB
    rw [decide_eq_true_eq, win_Wn ok lot (by simp only; omega) (by simp only; omega)]
    simp only [Int.toNat_natCast] at hw ⊢; omega
/-- a setting that gives a lot -/
structure Gives (h : Harp) (lot ps : List Int) : Prop where
  len : ps.length = h.ls.length
  pos : ∀ p ∈ ps, p = -1 ∨ p = 0 ∨ p = 1
  all : ∀ k ∈ lot, ∃ i, i < h.ls.length ∧ (h.bases.getD i 0 + ps.getD i 0) % h.size = k
theorem giv_of {h : Harp} (ok : HarpOk h) {l : Nat} (hl : l < h.ls.length) {p k : Int} (hp : p = -1 ∨ p = 0 ∨ p = 1) (e : (h.bases.getD l 0 + p) % h.size = k) : l ∈ giv h k := by
  have hs := ok.spos
  rw [mem_giv]
  refine ⟨hl, ?_⟩
  have e2 : (k - h.bases.getD l 0 + 1) % h.size = (p + 1) % h.size := by
    rw [← e]
    have q := Int.emod_add_mul_ediv (h.bases.getD l 0 + p) h.size
    have : (h.bases.getD l 0 + p) % h.size - h.bases.getD l 0 + 1 = p + 1 + h.size * (-((h.bases.getD l 0 + p) / h.size)) := by
      rw [Int.mul_neg]; omega
    rw [this, Int.add_mul_emod_self_left]
  rw [e2]
  by_cases z : p + 1 < h.size
  · rw [Int.emod_eq_of_lt (by omega) z]; omega
  · have h2 := size2 ok
    have : p + 1 = h.size := by omega
    rw [this, Int.emod_self]; omega
theorem gives_no_full {h : Harp} (ok : HarpOk h) {lot ps : List Int} (lo : LotOk h lot) (g : Gives h lot ps) : ∀ a ∈ arcsL h.ls.length, fullB h lot a = false := by
  intro a ha
  have hb := arc_bound ok.nine ha
  unfold fullB
  rw [decide_eq_false_iff_not]
  have hnd : (win h lot a).Nodup := List.Pairwise.filter _ lo.nd
  have := nodup_len (ys := (lin h.ls.length a).map fun i => (h.bases.getD i.toNat 0 + ps.getD i.toNat 0) % h.size) hnd fun k hk => by
    unfold win at hk
    rw [List.mem_filter, List.all_eq_true] at hk
    obtain ⟨i, hi, e⟩ := g.all k hk.1
    have hp : ps.getD i 0 ∈ ps := by
      rw [List.getD_eq_getElem?_getD, List.getElem?_eq_getElem (by rw [g.len]; exact hi)]
      exact List.getElem_mem _
    have gi := giv_of ok hi (g.pos _ hp) e
    have z := hk.2 i gi
    rw [decide_eq_true_eq] at z
    exact List.mem_map.mpr ⟨(i : Int), z, by simpa using e⟩
  rw [List.length_map] at this
  have e : (lin h.ls.length a).length = a.2.toNat := by unfold lin; simp
  rw [e] at this
  omega
theorem posFor_some {h : Harp} (ok : HarpOk h) {l : Nat} {k : Int} (hk : 0 ≤ k ∧ k < h.size) (g : l ∈ giv h k) : ∃ p, posFor h l k = some p ∧ (p = -1 ∨ p = 0 ∨ p = 1) ∧ (h.bases.getD l 0 + p) % h.size = k := by
  have hl := giv_lt g
  have hb := base_rg ok hl
  have h2 := size2 ok
  rw [giv_iff ok hk hl] at g
  simp only at g
  have : ∃ p ∈ pos3, (h.bases.getD l 0 + p) % h.size = k := by
    have ea := emod_cases (d := h.bases.getD l 0 + -1) (n := h.size) (by omega) (by omega) (by omega)
    have eb := emod_cases (d := h.bases.getD l 0 + 0) (n := h.size) (by omega) (by omega) (by omega)
    have ec := emod_cases (d := h.bases.getD l 0 + 1) (n := h.size) (by omega) (by omega) (by omega)
    by_cases q1 : (h.bases.getD l 0 + -1) % h.size = k
    · exact ⟨-1, by simp [pos3], q1⟩
    · by_cases q2 : (h.bases.getD l 0 + 0) % h.size = k
      · exact ⟨0, by simp [pos3], q2⟩
      · exact ⟨1, by simp [pos3], by omega⟩
  cases e : posFor h l k with
  | none =>
    exfalso
    unfold posFor at e
    rw [List.find?_eq_none] at e
    obtain ⟨p, hp, q⟩ := this
    exact e p hp (by simpa using q)
  | some p =>
    unfold posFor at e
    have h1 := List.mem_of_find?_eq_some e
    have h2 := List.find?_some e
    refine ⟨p, rfl, ?_, by simpa using h2⟩
    simp [pos3] at h1; omega
end K00
/-! M00i -/
namespace K00
open PySem PySem.Spec PyProof.Rows L2 DD
variable {A : Ad}
theorem set_same {α : Type} : ∀ {xs : List α} {i : Nat} {x : α}, xs[i]? = some x → xs.set i x = xs
  | [], i, x, h => by simp at h
  | a :: xs, 0, x, h => by simp at h; subst h; rfl
  | a :: xs, i + 1, x, h => by rw [List.set_cons_succ, set_same (by simpa using h)]
/-- the store of a matching -/
def ms (C : Addr) (st : MS) (h : Harp) (lot : List Int) (hd : List (Nat × Int)) (more : MS) : MS := st ++ (.ins C (mfs h lot (st.length + 1)) :: .dK (heldP hd) :: more)
section
variable {C : Addr} {st : MS} {h : Harp} {lot : List Int} {hd hd' : List (Nat × Int)} {more : MS} {sn : List Nat}
theorem ms_s : (ms C st h lot hd more)[st.length]? = some (.ins C (mfs h lot (st.length + 1))) := by
  unfold ms; rw [List.getElem?_append_right (Nat.le_refl _), Nat.sub_self]; rfl
theorem ms_n : (ms C st h lot hd more)[st.length + 1]? = some (.dK (heldP hd)) := by
  unfold ms; rw [List.getElem?_append_right (by omega), show st.length + 1 - st.length = 1 by omega]; rfl
theorem ms_len : (ms C st h lot hd more).length = st.length + 2 + more.length := by
  unfold ms; simp; omega
theorem ms_new : ms C st h lot hd more ++ [.dK []] = ms C st h lot hd (more ++ [.dK []]) := by unfold ms; simp
theorem ms_base (x : Cont) : Base C h lot st.length (st.length + 1) (st.length + 2 + more.length) (ms C st h lot hd (more ++ [x])) where
  hs := ms_s
  ln := by rw [ms_len]; omega
  lq := by rw [ms_len, List.length_append, List.length_singleton]; omega
  sn := by omega
  sq := by omega
  nq := by omega
theorem ms_mk (x : Cont) : mk (ms C st h lot hd (more ++ [x])) (st.length + 1) (st.length + 2 + more.length) hd' sn = ms C st h lot hd' (more ++ [.dK (seenP sn)]) := by
  unfold mk ms
  rw [List.set_append_right _ _ (by omega), List.set_append_right _ _ (by omega)]
  congr 1
  rw [show st.length + 2 + more.length - st.length = more.length + 1 + 1 by omega, show st.length + 1 - st.length = 1 by omega]
  rw [List.set_cons_succ, List.set_cons_succ, List.set_cons_succ, List.set_cons_zero, List.set_append_right _ _ (by omega), Nat.sub_self]
  rfl
end
theorem init_ok {h : Harp} {lot : List Int} (st : MS) : df_Matching___init__ A [.obj st.length, harpP h, intsP lot] (st ++ [.ins A.Matching []]) = some (.v .non, ms A.Matching st h lot [] []) := by
  have e0 : ∀ fs, insOf A.Matching (st ++ [.ins A.Matching fs, .dK []]) (.v (.obj st.length)) = some (st.length, fs) := fun fs => insOf_at (by rw [List.getElem?_append_right (Nat.le_refl _), Nat.sub_self]; rfl)
  have e1 : ∀ fs gs, (st ++ [Cont.ins A.Matching fs, Cont.dK []]).set st.length (Cont.ins A.Matching gs) = st ++ [.ins A.Matching gs, .dK []] := fun fs gs => by rw [List.set_append_right _ _ (Nat.le_refl _), Nat.sub_self]; rfl
  have p1 : putA "harp" (harpP h) [] = ([("harp", harpP h)] : List (Str × PV)) := rfl
  have p2 : putA "lot" (intsP lot) ([("harp", harpP h)] : List (Str × PV)) = ([("harp", harpP h), ("lot", intsP lot)] : List (Str × PV)) := rfl
  have p3 : putA "held" (.obj (st.length + 1)) ([("harp", harpP h), ("lot", intsP lot)] : List (Str × PV)) = mfs h lot (st.length + 1) := rfl
  simp [df_Matching___init__, d_Matching___init__, e0, e1, p1, p2, p3]
  simp [ms, heldP]
def SetRes (h : Harp) (lot : List Int) (v : PV) : Prop := (v = .non ∧ ∃ a ∈ arcsL h.ls.length, fullB h lot a = true) ∨ ∃ ps, v = intsP ps ∧ Gives h lot ps
def SetQ (h : Harp) (lot : List Int) (st : MS) (r : XV × MS) : Prop := ∃ v more, r = (.v v, st ++ more) ∧ SetRes h lot v
/-- the invariant of the puts -/
def PutJ (C : Addr) (st : MS) (h : Harp) (lot : List Int) (rest : List Int) (acc : List PV) (s : MS) : Prop :=
  ∃ hd more bs done, acc = List.map PV.bl bs ∧ bs.length = done.length ∧ lot = done ++ rest ∧ s = ms C st h lot hd more ∧ HeldOk h hd ∧ (∀ k, cntF h.ls.length (look hd) k ≤ if k ∈ done then 1 else 0) ∧ (bs.all id = true → ∀ k ∈ done, cntF h.ls.length (look hd) k = 1) ∧ (bs.all id = false → ∃ a ∈ arcsL h.ls.length, fullB h lot a = true)
/-- a put that fails shows an over-full arc -/
theorem fail_full {h : Harp} (ok : HarpOk h) {lot done rest : List Int} (lo : LotOk h lot) {kind : Int} (hl : lot = done ++ kind :: rest) {hd : List (Nat × Int)} (ho : HeldOk h hd) (hc : ∀ k, cntF h.ls.length (look hd) k ≤ if k ∈ done then 1 else 0)
    {sn : List Nat} (so : SeenOk h.ls.length sn) (h1 : ∀ l ∈ giv h kind, l ∈ sn) (h2 : ∀ l ∈ sn, ∃ k, look hd l = some k ∧ ∀ l' ∈ giv h k, l' ∈ sn) : ∃ a ∈ arcsL h.ls.length, fullB h lot a = true := by
  have hm : 0 < h.ls.length := by have := ok.two; omega
  refine full_of ok (hall_arcs (seen := sn) hm (fun k hk => giv_convex ok (lo.rg k hk)) so.lt so.nd ?_)
  have hkd : kind ∉ done := by
    have := lo.nd
    rw [hl, List.nodup_append] at this
    exact fun z => this.2.2 kind z kind List.mem_cons_self rfl
  have hz : cntF h.ls.length (look hd) kind = 0 := by
    have := hc kind; rw [if_neg hkd] at this; omega
  have hin : ∀ l k, l < h.ls.length → look hd l = some k → k ∈ done := fun l k hl' e => by
    apply Classical.byContradiction
    intro z
    have := hc k
    rw [if_neg z] at this
    exact cntF_zero (by omega) l hl' e
  -- the kinds: kind, and those held
  have hnd : (kind :: sn.map fun l => (look hd l).getD 0).Nodup := by
    rw [List.nodup_cons]
    constructor
    · intro z
      obtain ⟨l, hl', e⟩ := List.mem_map.mp z
      obtain ⟨k, e1, _⟩ := h2 l hl'
      rw [e1] at e
      simp only [Option.getD_some] at e
      subst e
      exact cntF_zero hz l (so.lt l hl') e1
    · rw [List.nodup_iff_pairwise_ne] at *
      rw [List.pairwise_map]
      refine List.Pairwise.imp_of_mem ?_ so.nd
      intro a b ha hb hab e
      obtain ⟨k1, e1, _⟩ := h2 a ha
      obtain ⟨k2, e2, _⟩ := h2 b hb
      rw [e1, e2] at e
      simp only [Option.getD_some] at e
      subst e
      have := hc k1
      have h1' : cntF h.ls.length (look hd) k1 ≤ 1 := by split at this <;> omega
      exact hab (cntF_one h1' a b (so.lt a ha) (so.lt b hb) e1 e2)
  have := nodup_len (ys := Wn h.ls.length (Gv h) lot (· ∈ sn)) hnd fun k hk => by
    rcases List.mem_cons.mp hk with rfl | hk
    · exact mem_Wn.mpr ⟨by rw [hl]; simp, fun l _ g => h1 l g⟩
    · obtain ⟨l, hl', rfl⟩ := List.mem_map.mp hk
      obtain ⟨k, e1, e2⟩ := h2 l hl'
      rw [e1]
      exact mem_Wn.mpr ⟨by rw [hl]; exact List.mem_append_left _ (hin l k (so.lt l hl') e1), fun l' _ g => e2 l' g⟩
  simp only [List.length_cons, List.length_map] at this
  omega
theorem PutJ.step {h : Harp} (ok : HarpOk h) {lot : List Int} (lo : LotOk h lot) {st : MS} {kind : Int} {rest : List Int} {acc : List PV} {s : MS} (j : PutJ A.Matching st h lot (kind :: rest) acc s) :
    Ev (df_Matching_put A [.obj st.length, .int kind, .obj s.length] (s ++ [.dK []])) fun r => ∃ b, r.1 = .v (.bl b) ∧ PutJ A.Matching st h lot rest (acc ++ [.bl b]) r.2 := by
  obtain ⟨hd, more, bs, done, rfl, hbd, hl, rfl, ho, hc, ha, hf⟩ := j
  have h9 := ok.nine
  have e : ms A.Matching st h lot hd more ++ [.dK []] = mk (ms A.Matching st h lot hd (more ++ [.dK []])) (st.length + 1) (st.length + 2 + more.length) hd [] := by
    rw [ms_new, ms_mk]; rfl
  rw [e, ms_len]
  refine (put_ok ok (ms_base _) 12 hd [] kind (by simp; omega) ⟨by simp, by simp⟩ ho).mono ?_
  rintro _ ⟨b, hd', sn', rfl, po⟩
  refine ⟨b, rfl, hd', more ++ [.dK (seenP sn')], bs ++ [b], done ++ [kind], by simp, by simp [hbd], by simp [hl], ms_mk _, po.ho, ?_⟩
  have hkd : kind ∉ done := by
    have := lo.nd
    rw [hl, List.nodup_append] at this
    exact fun z => this.2.2 kind z kind List.mem_cons_self rfl
  cases b with
  | true =>
    obtain ⟨_, p2⟩ := po.yes rfl
    refine ⟨fun k => ?_, fun hb k hk => ?_, fun hb => ?_⟩
    · rw [p2 k]
      have := hc k
      by_cases q : kind = k
      · subst q
        rw [if_neg hkd] at this
        rw [if_pos rfl, if_pos (by simp)]; omega
      · rw [if_neg q]
        by_cases z : k ∈ done
        · rw [if_pos z] at this; rw [if_pos (by simp [z])]; omega
        · rw [if_neg z] at this; omega
    · rw [p2 k]
      have hb' : bs.all id = true := by simpa using hb
      by_cases q : kind = k
      · subst q
        have := hc kind
        rw [if_neg hkd] at this
        rw [if_pos rfl]; omega
      · rw [if_neg q]
        rcases List.mem_append.mp hk with z | z
        · rw [ha hb' k z]
        · simp at z; exact absurd z.symm q
    · exact hf (by simpa using hb)
  | false =>
    obtain ⟨rfl, p1, p2⟩ := po.no rfl
    have full := fail_full ok lo hl ho hc po.so p1 fun l hl' => p2 l hl' (by simp)
    refine ⟨fun k => ?_, fun hb k hk => ?_, fun _ => full⟩
    · have := hc k
      by_cases z : k ∈ done
      · rw [if_pos z] at this; rw [if_pos (by simp [z])]; omega
      · rw [if_neg z] at this; omega
    · simp at hb
/-- the position of a letter, by what it holds -/
def posOf (h : Harp) (hd : List (Nat × Int)) (l : Nat) : Int := match look hd l with
  | some k => (posFor h l k).getD 0
  | none => 0
theorem rgP_nats (m : Nat) : rgP 0 (m : Int) = (List.range m).map fun (l : Nat) => PV.int (l : Int) := by
  unfold rgP
  simp
theorem setting_ok {h : Harp} (ok : HarpOk h) {lot : List Int} (lo : LotOk h lot) (st : MS) : Ev (df_Matching_setting A [.obj st.length] (ms A.Matching st h lot [] [])) (SetQ h lot st) := by
  have hm : h.ls.length ≤ 9 := ok.nine
  have hi : insOf A.Matching (ms A.Matching st h lot [] []) (.v (.obj st.length)) = some (st.length, mfs h lot (st.length + 1)) := insOf_at ms_s
  simp [df_Matching_setting, d_Matching_setting, hi]
  have C := compD_run (bind := gName' 3) (test := tTrue) (elt := xMeth A.Matching "put" (df_Matching_put A) 3 (xVar 0) (aCons (xVar 3) (aCons (xNew xDictK) aNil))) (enc := PV.int) (env := [.v (.obj st.length), .un, .un, .un]) (PutJ A.Matching st h lot) lot [] (ms A.Matching st h lot [] [])
    ⟨[], [], [], [], rfl, rfl, rfl, rfl, ⟨by simp, by simp, fun l k e => by simp [look] at e⟩, fun k => by
      have : cntF h.ls.length (look []) k = 0 := cntF_none _
      rw [this]; exact Nat.zero_le _, fun _ k hk => by simp at hk, fun z => by simp at z⟩ (by
      intro a rest acc s j
      refine ⟨_, by simp; rfl, by simp, ?_⟩
      have j' := j
      obtain ⟨hd, more, bs, done, _, _, _, rfl, _⟩ := j'
      have hi2 : insOf A.Matching (ms A.Matching st h lot hd more) (.v (.obj st.length)) = some (st.length, mfs h lot (st.length + 1)) := insOf_at ms_s
      simp [hi2]
      refine Ev.bnd (PutJ.step ok lo j) ?_
      rintro ⟨x, s2⟩ ⟨b, e, j2⟩
      simp only at e j2
      subst e
      simp
      exact j2)
  refine Ev.bnd C ?_
  rintro ⟨qs, s⟩ ⟨hd, more, bs, done, e1, hbd, e2, e3, ho, hc, hall, hfull⟩
  simp at e1 e2 e3
  subst e1 e2 e3
  have hlen : bs.length ≤ 10000 := by have := lo.len; omega
  have hbs : List.map PV.bl bs = List.map (fun b => PV.bl (id b)) bs := rfl
  have hi3 : insOf A.Matching (ms A.Matching st h lot hd more) (.v (.obj st.length)) = some (st.length, mfs h lot (st.length + 1)) := insOf_at ms_s
  simp [hlen]
  rw [hbs, ev_fAllM]
  cases hb : bs.all id with
  | false =>
    simp
    exact ⟨.non, _, rfl, .inl ⟨rfl, hfull hb⟩⟩
  | true =>
    have held : ∀ l k, l < h.ls.length → look hd l = some k → k ∈ lot := fun l k hl e => by
      apply Classical.byContradiction
      intro z
      have := hc k
      rw [if_neg z] at this
      exact cntF_zero (by omega) l hl e
    have hkey : ∀ l, (look hd l).isSome = decide (l ∈ hd.map (·.1)) := fun l => look_some
    simp [hi3, letters_many_ok, rgE_of (a := 0) (b := (h.ls.length : Int)) (by omega) (by omega), rgP_nats]
    rw [compD_map (fun l => PV.int (posOf h hd l)) (List.range h.ls.length) fun l hl => by
      have hl' := List.mem_range.mp hl
      refine ⟨_, by simp; rfl, by simp, ?_⟩
      cases q : look hd l with
      | none => simp [hi3, in_objK ms_n, valP_held, q, posOf]
      | some k =>
        obtain ⟨p, p1, _, _⟩ := posFor_some ok (lo.rg k (held l k hl' q)) (ho.gv l k q)
        simp [hi3, in_objK ms_n, ix_objK ms_n, valP_held, q, posOf, position_for_ok ok hl', p1, optI]]
    have hps : (List.range h.ls.length).map (fun l => PV.int (posOf h hd l)) = ((List.range h.ls.length).map (posOf h hd)).map PV.int := by rw [List.map_map]; rfl
    rw [hps]
    simp [show h.ls.length ≤ 10000 by omega]
    refine ⟨.tup ((List.range h.ls.length).map (PV.int ∘ posOf h hd)), _, rfl, .inr ⟨(List.range h.ls.length).map (posOf h hd), by unfold intsP; rw [List.map_map], ?_⟩⟩
    have pp : ∀ l, l < h.ls.length → ((posOf h hd l = -1 ∨ posOf h hd l = 0 ∨ posOf h hd l = 1) ∧ ∀ k, look hd l = some k → (h.bases.getD l 0 + posOf h hd l) % h.size = k) := fun l hl => by
      unfold posOf
      cases q : look hd l with
      | none => simp
      | some k =>
        obtain ⟨p, p1, p2, p3⟩ := posFor_some ok (lo.rg k (held l k hl q)) (ho.gv l k q)
        simp only [p1, Option.getD_some]
        exact ⟨p2, fun k' e => by cases e; exact p3⟩
    refine ⟨by simp, fun p hp => ?_, fun k hk => ?_⟩
    · obtain ⟨l, hl, rfl⟩ := List.mem_map.mp hp
      exact (pp l (List.mem_range.mp hl)).1
    · have := hall hb k hk
      obtain ⟨l, hl, e⟩ := cntF_pos (m := h.ls.length) (f := look hd) (k := k) (by omega)
      refine ⟨l, hl, ?_⟩
      rw [List.getD_eq_getElem?_getD (l := List.map _ _), List.getElem?_map, List.getElem?_range hl]
      exact (pp l hl).2 k e
theorem setting_for_ok {h : Harp} (ok : HarpOk h) {lot : List Int} (lo : LotOk h lot) (st : MS) : Ev (df_setting_for A [harpP h, intsP lot] st) (SetQ h lot st) := by
  have hi : insOf A.Matching (ms A.Matching st h lot [] []) (.v (.obj st.length)) = some (st.length, mfs h lot (st.length + 1)) := insOf_at ms_s
  simp [df_setting_for, d_setting_for, init_ok, hi]
  refine Ev.bnd (setting_ok ok lo st) ?_
  rintro _ ⟨v, more, rfl, hv⟩
  simp
  exact ⟨v, more, rfl, hv⟩
def hadB (h : Harp) (lot : List Int) : Bool := (arcsL h.ls.length).all fun a => !fullB h lot a
theorem setRes_had {h : Harp} (ok : HarpOk h) {lot : List Int} (lo : LotOk h lot) {v : PV} (r : SetRes h lot v) : hadB h lot = !isNon (.v v) := by
  rcases r with ⟨rfl, a, ha, hf⟩ | ⟨ps, rfl, g⟩
  · show hadB h lot = false
    unfold hadB
    rw [List.all_eq_false]
    exact ⟨a, ha, by simp [hf]⟩
  · show hadB h lot = true
    unfold hadB
    rw [List.all_eq_true]
    exact fun a ha => by rw [gives_no_full ok lo g a ha]; rfl
theorem is_had_ok {h : Harp} (ok : HarpOk h) {lot : List Int} (lo : LotOk h lot) (st : MS) : Ev (df_is_had A [harpP h, intsP lot] st) fun r => ∃ more, r = (.v (.bl (hadB h lot)), st ++ more) := by
  simp [df_is_had, d_is_had]
  refine Ev.bnd (setting_for_ok ok lo st) ?_
  rintro _ ⟨v, more, rfl, hv⟩
  simp [setRes_had ok lo hv]
end K00
/-! M00j -/
namespace K00
open PySem PySem.Spec PyProof.Rows L2 DD
variable {A : Ad}
theorem is_name_row {s : Str} (h : s ∈ rowsS) (st : MS) : df_is_name A [.str s] st = some (.v (.bl true), st) := by
  unfold rowsS at h
  simp only [List.mem_cons, List.not_mem_nil, or_false] at h
  rcases h with rfl | rfl | rfl | rfl | rfl | rfl | rfl | rfl | rfl | rfl | rfl | rfl | rfl | rfl <;> kernel_rfl
theorem is_letter_ok {h : Harp} (ok : HarpOk h) {l : Str × Int × Int} (hl : l ∈ h.ls) (st : MS) : df_is_letter A [letterP l] st = some (.v (.bl true), st) := by
  have hb := ok.base l.2.1 (List.mem_map.mpr ⟨l, hl, rfl⟩)
  have hf := ok.foot l hl
  simp [df_is_letter, d_is_letter, letterP, is_name_row (ok.rows l hl), hb.1, hf.1]
theorem is_letters_ok {h : Harp} (ok : HarpOk h) (st : MS) : df_is_tuple_of A [.tup (h.ls.map letterP), .ref A.is_letter] st = some (.v (.bl true), st) := by
  have h9 := ok.nine
  simp [df_is_tuple_of, d_is_tuple_of]
  rw [compD_map (fun l => PV.bl ((fun _ => true) l)) h.ls fun l hl => by
    refine ⟨_, by simp; rfl, by simp, ?_⟩
    simp [S_is_tuple_of, is_letter_ok ok hl]]
  have := ev_fAllM (fun _ : Str × Int × Int => true) h.ls st
  simp [show h.ls.length ≤ 10000 by omega] at this ⊢
theorem is_harp_form_ok {h : Harp} (ok : HarpOk h) (st : MS) : df_is_harp_form A [harpP h] st = some (.v (.bl true), st) := by
  have hs := ok.spos
  have e1 : is_sized_tup (A := A) [.int h.size, .tup (h.ls.map letterP), .int h.p, .int h.q, .int h.r] 5 st = is_sized_tup (A := A) [.int h.size, .tup (h.ls.map letterP), .int h.p, .int h.q, .int h.r] 5 st := rfl
  have e2 : df_is_sized A [harpP h, .int 5] st = some (.v (.bl true), st) := by
    unfold harpP; rw [is_sized_tup]; rfl
  simp [df_is_harp_form, d_is_harp_form, e2, is_letters_ok ok]
  have hI : ([PV.int 0, PV.int 2, PV.int 3, PV.int 4] : List PV) = ([0, 2, 3, 4] : List Int).map PV.int := rfl
  rw [hI, compD_map (fun i => PV.bl ((fun _ => true) i)) [0, 2, 3, 4] fun i hi => by
    refine ⟨_, by simp; rfl, by simp, ?_⟩
    simp at hi
    have p0 := ok.p0
    have q0 := ok.q0
    have r0 := ok.r0
    rcases hi with rfl | rfl | rfl | rfl
    · simp [harpP, show 0 ≤ h.size by omega]
    · simp [harpP, show 0 ≤ h.p by omega]
    · simp [harpP, show 0 ≤ h.q by omega]
    · simp [harpP, show 0 ≤ h.r by omega]]
  have := ev_fAllM (fun _ : Int => true) [0, 2, 3, 4] st
  simp at this ⊢
  simp [this]
theorem check_number_ok (s : Str) {n a b : Int} (h1 : a ≤ n) (h2 : n ≤ b) (st : MS) : df_check_number A [.str s, .int n, .int a, .int b] st = some (.v .non, st) := by
  simp [df_check_number, d_check_number, show ¬ n < a by omega, show ¬ b < n by omega]
def trueN (ns : List Str) : List (Key × PV) := ns.map fun s => (.inr s, .bl true)
theorem in_bKs (neg : Bool) (s : Str) (kvs : List (Key × PV)) (st : MS) : fIn neg (.v (.str s)) (.b (.dK kvs)) st = some (.v (.bl (if neg = true then !(valP kvs (.inr s)).isSome else (valP kvs (.inr s)).isSome))) := rfl
theorem valP_trueN {ns : List Str} {s : Str} (h : s ∉ ns) : valP (trueN ns) (.inr s) = none := by
  unfold valP trueN
  rw [Option.map_eq_none_iff, List.find?_eq_none]
  intro p hp
  obtain ⟨a, ha, rfl⟩ := List.mem_map.mp hp
  simp only [decide_eq_true_eq]
  intro e; injection e with e; exact h (e ▸ ha)
theorem put_trueN {ns : List Str} {s : Str} (h : s ∉ ns) (hl : ns.length ≤ 10000) : fPut (.dK (trueN ns)) (.str s) (.bl true) = some (.dK (trueN (ns ++ [s]))) := by
  show (some (Sum.inr s)).bind (fun k => if (trueN ns).length < sizeLine then some (Cont.dK (putP (trueN ns) k (.bl true))) else none) = _
  rw [Option.bind_some, if_pos (lt_line (by unfold trueN; rw [List.length_map]; exact hl))]
  have e : ((trueN ns).any fun kv => decide (kv.1 = .inr s)) = false := by
    rw [List.any_eq_false]
    intro p hp
    obtain ⟨a, ha, rfl⟩ := List.mem_map.mp hp
    simp only [decide_eq_true_eq]
    intro e; injection e with e; exact h (e ▸ ha)
  unfold putP
  rw [if_neg (by rw [e]; simp)]
  simp [trueN]
theorem check_letters_ok {h : Harp} (ok : HarpOk h) (st : MS) : df_check_letters A [harpP h] st = some (.v .non, st) := by
  have h9 := ok.nine
  simp [df_check_letters, d_check_letters]
  refine for_run (fun rest env s => s = st ∧ ∃ done last s3 s4 s5, h.ls = done ++ rest ∧ env = [.v (harpP h), .own (.dK (trueN (done.map (·.1)))), .v (.int last), s3, s4, s5] ∧ ∀ l ∈ rest, last < l.2.1) h.ls
    ⟨rfl, [], -1, .un, .un, .un, rfl, rfl, fun l hl => by have := ok.base l.2.1 (List.mem_map.mpr ⟨l, hl, rfl⟩); omega⟩ ?_ ?_
  · rintro l rest env s ⟨rfl, done, last, s3, s4, s5, hd, rfl, hlast⟩
    have hlm : l ∈ h.ls := by rw [hd]; simp
    have hb := ok.base l.2.1 (List.mem_map.mpr ⟨l, hlm, rfl⟩)
    have hf := ok.foot l hlm
    have hn : l.1 ∉ done.map (·.1) := by
      have := ok.names
      rw [hd, List.map_append, List.nodup_append] at this
      exact fun z => this.2.2 l.1 z l.1 (by simp) rfl
    have hla := hlast l List.mem_cons_self
    have hdl : (done.map (·.1)).length ≤ 10000 := by
      have := congrArg List.length hd
      rw [List.length_append] at this; rw [List.length_map]; omega
    have e2 : trueN (done.map (·.1) ++ [l.1]) = trueN ((done ++ [l]).map (·.1)) := by simp
    refine ⟨_, _, _, by simp [letterP]; rfl, ?_, rfl, done ++ [l], l.2.1, .v (.str l.1), .v (.int l.2.1), .v (.int l.2.2), by simp [hd], rfl, fun l' hl' => ?_⟩
    · simp [in_bKs, valP_trueN hn, show ¬ l.2.1 ≤ last by omega, show ¬ h.size ≤ l.2.1 by omega, show ¬ 1 < l.2.2 by omega, put_trueN hn hdl]
    · have := ok.rise
      unfold Harp.bases at this
      rw [hd, List.map_append, List.map_cons] at this
      have := (List.pairwise_append.mp this).2.1
      exact (List.pairwise_cons.mp this).1 _ (List.mem_map.mpr ⟨l', hl', rfl⟩)
  · rintro e s ⟨rfl, done, last, s3, s4, s5, hd, rfl, _⟩
    simp
theorem checked_harp_ok {h : Harp} (ok : HarpOk h) (st : MS) : df_checked_harp A [harpP h] st = some (.v (harpP h), st) := by
  have h2 := size2 ok
  have ht := ok.top
  have h9 := ok.nine
  have hm := ok.two
  have c1 := check_number_ok (A := A) "round" h2 ht st
  have c2 := check_number_ok (A := A) "letters" (n := (h.ls.length : Int)) (a := 2) (b := 9) (by omega) (by omega) st
  have c3 := check_number_ok (A := A) "strings" ok.p0 ok.p1 st
  have c4 := check_number_ok (A := A) "fingers" ok.q0 ok.q1 st
  have c5 := check_number_ok (A := A) "reach" ok.r0 ok.r1 st
  have i2 : fIx (.v (harpP h)) (.v (.int 2)) st = some (.v (.int h.p)) := by simp [harpP]
  have i3 : fIx (.v (harpP h)) (.v (.int 3)) st = some (.v (.int h.q)) := by simp [harpP]
  have i4 : fIx (.v (harpP h)) (.v (.int 4)) st = some (.v (.int h.r)) := by simp [harpP]
  simp [df_checked_harp, d_checked_harp, is_harp_form_ok ok, check_letters_ok ok, i2, i3, i4, c1, c2, c3, c4, c5]
end K00
/-! M00l -/
namespace K00
open PySem PySem.Spec PyProof.Rows L2 DD
variable {A : Ad}
/-! ### draws -/
def Bag (st : MS) : Prop := ∃ c rest, st = c :: rest ∧ BagOk c
theorem Bag.app {st : MS} (h : Bag st) (more : MS) : Bag (st ++ more) := by
  obtain ⟨c, rest, rfl, hc⟩ := h
  exact ⟨c, rest ++ more, rfl, hc⟩
def TakeQ (m : Int) (r : XV × MS) : Prop := ∃ v s, r = (XV.v (.int v), s) ∧ 0 ≤ v ∧ v < m ∧ Bag s
theorem take_ev {st : MS} (hb : Bag st) {m : Int} (h0 : 0 < m) (h1 : m < 1073741824) : Ev (df__law_take A [.obj 0, .int m] st) (TakeQ m) := by
  obtain ⟨c, rest, rfl, hc⟩ := hb
  obtain ⟨v, c', e, h2, h3, h4⟩ := law_take_ok (A := A) hc h0 h1 rest
  exact ⟨_, e, v, _, rfl, h2, h3, c', rest, rfl, h4⟩
theorem atI_get {α : Type} {xs : List α} {v : Int} (h0 : 0 ≤ v) (h1 : v < xs.length) : ∃ x, atI xs v = some x ∧ x ∈ xs := by
  have hv : v = ((v.toNat : Nat) : Int) := by omega
  have hl : v.toNat < xs.length := by omega
  rw [hv, atI_nat' _ _ hl, List.getElem?_eq_getElem hl]
  exact ⟨_, rfl, List.getElem_mem _⟩
def SomeQ (xs : List PV) (r : XV × MS) : Prop := ∃ x s, r = (XV.v x, s) ∧ x ∈ xs ∧ Bag s
theorem some_tup {st : MS} (hb : Bag st) {xs : List PV} (h0 : xs ≠ []) (h1 : xs.length ≤ 10000) : Ev (df__law_some A [.obj 0, .tup xs] st) (SomeQ xs) := by
  have hp := List.length_pos_iff.mpr h0
  simp [df__law_some, d__law_some]
  refine Ev.bnd (take_ev hb (by omega) (by omega)) ?_
  rintro _ ⟨v, s, rfl, h2, h3, h4⟩
  obtain ⟨x, e, hx⟩ := atI_get h2 h3
  simp [e]
  exact ⟨x, s, rfl, hx, h4⟩
theorem some_lst {st : MS} (hb : Bag st) {xs : List PV} (h0 : xs ≠ []) (h1 : xs.length ≤ 10000) : Ev (df__law_some A [.obj 0, .lst xs] st) (SomeQ xs) := by
  have hp := List.length_pos_iff.mpr h0
  simp [df__law_some, d__law_some]
  refine Ev.bnd (take_ev hb (by omega) (by omega)) ?_
  rintro _ ⟨v, s, rfl, h2, h3, h4⟩
  obtain ⟨x, e, hx⟩ := atI_get h2 h3
  simp [e]
  exact ⟨x, s, rfl, hx, h4⟩
def MixQ {α : Type} (enc : α → PV) (xs : List α) (r : XV × MS) : Prop := ∃ (ys : List α) (s : MS), r = (XV.o (.lst (ys.map enc)), s) ∧ ys.Perm xs ∧ Bag s
theorem mixed_ev {α : Type} (enc : α → PV) {st : MS} (hb : Bag st) {xs : List α} (h1 : xs.length ≤ 1000) : Ev (df__law_mixed A [.obj 0, .lst (xs.map enc)] st) (MixQ enc xs) := by
  simp [df__law_mixed, d__law_mixed]
  refine for_runEv (fun rest env s => Bag s ∧ ∃ (ys : List α) (sl : DD.Slot) (done : List α), env = [.v (.obj 0), .v (.lst (xs.map enc)), .own (.lst (ys.map enc)), sl] ∧ xs = done ++ rest ∧ ys.Perm done) xs
    ⟨hb, [], .un, [], rfl, rfl, .nil⟩ ?_ ?_
  · rintro a rest env s ⟨hb, ys, sl, done, rfl, hx, hp⟩
    refine ⟨_, by simp; rfl, ?_⟩
    have hl : ys.length ≤ 1000 := by
      have e1 := hp.length_eq
      have e2 := congrArg List.length hx
      rw [List.length_append] at e2; omega
    simp [ev_mMut]
    refine Ev.bnd (take_ev hb (by omega) (by omega)) ?_
    rintro _ ⟨v, s', rfl, h2, h3, h4⟩
    have hc : ys.length < sizeLine ∧ 0 ≤ v ∧ v < 9223372036854775808 := ⟨lt_line (by omega), h2, by omega⟩
    simp [hc]
    refine ⟨h4, ys.take v.toNat ++ a :: ys.drop v.toNat, by simp, done ++ [a], by simp [hx], ?_⟩
    have : (ys.take v.toNat ++ a :: ys.drop v.toNat).Perm (a :: ys) := by
      have q := List.perm_middle (a := a) (l₁ := ys.take v.toNat) (l₂ := ys.drop v.toNat)
      rwa [List.take_append_drop] at q
    refine this.trans ?_
    refine (List.Perm.cons a hp).trans ?_
    exact (List.perm_append_singleton a done).symm
  · rintro e s ⟨hb, ys, sl, done, rfl, hx, hp⟩
    simp at hx
    subst hx
    simp
    exact ⟨ys, s, rfl, hp, hb⟩
theorem cutP_take {α : Type} (enc : α → PV) (xs : List α) (n : Nat) : cutP (xs.map enc) none (some (n : Int)) = (xs.take n).map enc := by
  unfold cutP
  have e1 : HT.sIx (xs.map enc).length 0 none = 0 := rfl
  have e2 : HT.sIx (xs.map enc).length (xs.map enc).length (some (n : Int)) = min n xs.length := by
    unfold HT.sIx
    simp
    omega
  rw [e1, e2, List.drop_zero, Nat.sub_zero, ← List.map_take]
  congr 1
  by_cases h : n ≤ xs.length
  · rw [Nat.min_eq_left h]
  · rw [Nat.min_eq_right (by omega), List.take_of_length_le (Nat.le_refl _), List.take_of_length_le (by omega)]
def NamesQ (n : Nat) (r : XV × MS) : Prop := ∃ ys s, r = (XV.o (.lst (List.map PV.str ys)), s) ∧ ys.length = n ∧ ys.Nodup ∧ (∀ y ∈ ys, y ∈ rowsS) ∧ Bag s
theorem rows_nodup : rowsS.Nodup := by decide +kernel
theorem names_ev {st : MS} (hb : Bag st) {n : Nat} (hn : n ≤ 14) : Ev (df__law_names A [.obj 0, .int (n : Int)] st) (NamesQ n) := by
  have e : ([PV.str "ab", PV.str "abc", PV.str "go", PV.str "up", PV.str "end", PV.str "tick", PV.str "down", PV.str "zz", PV.str "qxyzuvwk", PV.str "pedals", PV.str "step", PV.str "lefty", PV.str "ba", PV.str "cab"] : List PV) = rowsS.map PV.str := rfl
  simp [df__law_names, d__law_names]
  rw [e]
  refine Ev.bnd (mixed_ev PV.str hb (by decide)) ?_
  rintro _ ⟨ys, s, rfl, hp, hb⟩
  have e3 : fSl (.o (.lst (ys.map PV.str))) none (some (n : Int)) s = some (.o (.lst ((ys.take n).map PV.str))) := by
    show some (XV.o (.lst (cutP _ _ _))) = _
    rw [cutP_take]
  simp [e3]
  have hl : ys.length = 14 := hp.length_eq
  refine ⟨ys.take n, s, by simp, by simp; omega, ?_, ?_, hb⟩
  · exact List.Nodup.sublist (List.take_sublist _ _) (hp.nodup_iff.mpr rows_nodup)
  · intro y hy
    exact hp.mem_iff.mp (List.mem_of_mem_take hy)
end K00
/-! M00m -/
namespace K00
open PySem PySem.Spec PyProof.Rows L2 DD
variable {A : Ad}
theorem srt_perm (ns : List Int) : (srt ns).Perm ns := List.mergeSort_perm ns _
theorem srt_sorted (ns : List Int) : (srt ns).Pairwise (· ≤ ·) := by
  have := List.pairwise_mergeSort (le := fun a b : Int => decide (a ≤ b)) (fun a b c h1 h2 => by simp at *; omega) (fun a b => by simp; omega) ns
  exact this.imp fun h => by simpa using h
theorem srt_strict {ns : List Int} (h : ns.Nodup) : (srt ns).Pairwise (· < ·) := by
  have h1 := srt_sorted ns
  have h2 : (srt ns).Nodup := (srt_perm ns).nodup_iff.mpr h
  exact (h1.and h2).imp fun ⟨a, b⟩ => by omega
structure BasesOk (m : Nat) (size : Int) (bs : List Int) : Prop where
  len : bs.length = m
  rise : bs.Pairwise (· < ·)
  rg : ∀ b ∈ bs, 0 ≤ b ∧ b < size
def upI (b : Int) (m : Nat) : List Int := (List.range m).map fun (i : Nat) => b + (i : Int)
theorem upI_ok {b size : Int} {m : Nat} (h0 : 0 ≤ b) (h1 : b + m ≤ size) : BasesOk m size (upI b m) := by
  refine ⟨by simp [upI], ?_, fun x hx => ?_⟩
  · unfold upI
    rw [List.pairwise_map]
    exact List.pairwise_lt_range.imp fun h => by omega
  · obtain ⟨i, hi, rfl⟩ := List.mem_map.mp hx
    have := List.mem_range.mp hi
    omega
theorem rgP_up (b : Int) (m : Nat) : rgP b (b + m) = (upI b m).map PV.int := by
  unfold rgP upI
  rw [List.map_map, show (b + (m : Int) - b).toNat = m by omega]; rfl
theorem upI_nodup (b : Int) (m : Nat) : (upI b m).Nodup := by
  have := (upI_ok (b := b) (size := b + m) (m := m))
  unfold upI
  rw [List.nodup_iff_pairwise_ne, List.pairwise_map]
  exact List.pairwise_lt_range.imp fun h => by omega
theorem sort_ok {size : Int} {m : Nat} {ys : List Int} (hs : 0 ≤ size) (hm : m ≤ size) (hp : ys.Perm (upI 0 size.toNat)) : BasesOk m size (srt (ys.take m)) := by
  have hl : ys.length = size.toNat := by rw [hp.length_eq]; simp [upI]
  refine ⟨?_, ?_, fun b hb => ?_⟩
  · rw [(srt_perm _).length_eq, List.length_take, hl]; omega
  · exact srt_strict (List.Nodup.sublist (List.take_sublist _ _) (hp.nodup_iff.mpr (upI_nodup _ _)))
  · have h1 := (srt_perm _).mem_iff.mp hb
    have h2 := hp.mem_iff.mp (List.mem_of_mem_take h1)
    obtain ⟨i, hi, rfl⟩ := List.mem_map.mp h2
    have := List.mem_range.mp hi
    omega
structure LettersOk (m : Nat) (size : Int) (ls : List (Str × Int × Int)) : Prop where
  bases : BasesOk m size (ls.map (·.2.1))
  names : (ls.map (·.1)).Nodup
  rows : ∀ l ∈ ls, l.1 ∈ rowsS
  foot : ∀ l ∈ ls, 0 ≤ l.2.2 ∧ l.2.2 ≤ 1
def LettersQ (m : Nat) (size : Int) (r : XV × MS) : Prop := ∃ ls s, r = (XV.v (.tup (ls.map letterP)), s) ∧ LettersOk m size ls ∧ Bag s
theorem zipP_gen {α β : Type} (f : α → PV) (g : β → PV) : ∀ (xs : List α) (ys : List β), zipP (xs.map f) (ys.map g) = (xs.zip ys).map fun p => .tup [f p.1, g p.2]
  | [], _ => rfl
  | x :: xs, [] => rfl
  | x :: xs, y :: ys => by
    show _ :: zipP (xs.map f) (ys.map g) = _
    rw [zipP_gen f g xs ys]; rfl
theorem letters_ev {st : MS} (hb : Bag st) {m : Nat} {size : Int} (h2 : 2 ≤ m) (h9 : m ≤ 9) (hs : m ≤ size) (ht : size ≤ 24) : Ev (df__law_letters A [.obj 0, .int size, .int (m : Int)] st) (LettersQ m size) := by
  simp [df__law_letters, d__law_letters]
  refine Ev.bnd (take_ev hb (by omega) (by omega)) ?_
  rintro _ ⟨b, s1, rfl, b0, b1, hb1⟩
  simp [rgE_of (a := b) (b := b + m) (st := s1) (by omega) (by omega), rgP_up]
  -- the comprehension over names and bases
  have fin : ∀ (bs : List Int) (s : MS), BasesOk m size bs → Bag s → Ev (bnd (df__law_names A [.obj 0, .int (m : Int)] s) fun r => bnd (calE r) fun r => bnd (if r.1.isT = false then bnd (seqItems2 false r.1) fun xs => some (zipP xs (bs.map PV.int), r.2) else none) fun r =>
      bnd (compD (gTup' 2 (gsCons (gName' 5) (gsCons (gName' 6) gsNil))) tTrue (xTup (aCons (xVar 5) (aCons (xVar 6) (aCons (xCall (df__law_take A) 2 (aCons (xVar 0) (aCons (xC (PV.int 2)) aNil))) aNil)))) r.1 [.v (.obj 0), .v (.int size), .v (.int (m : Int)), .v (.int b), .v (.lst (bs.map PV.int)), .un, .un] r.2) fun q =>
        bnd (gd (Fit q.1.length) (some (XV.o (.lst q.1), q.2))) fun r => bnd (fTuple [r.1] r.2) fun z => mpO (finX z) fun z => (z, r.2)) (LettersQ m size) := by
    intro bs s bo hb
    refine Ev.bnd (names_ev hb (by omega)) ?_
    rintro _ ⟨ys, s2, rfl, y1, y2, y3, hb2⟩
    simp
    rw [zipP_gen]
    refine Ev.bnd (compD_run (bind := gTup' 2 (gsCons (gName' 5) (gsCons (gName' 6) gsNil))) (test := tTrue) (elt := xTup (aCons (xVar 5) (aCons (xVar 6) (aCons (xCall (df__law_take A) 2 (aCons (xVar 0) (aCons (xC (PV.int 2)) aNil))) aNil)))) (enc := fun p : Str × Int => .tup [.str p.1, .int p.2])
      (fun rest acc s => Bag s ∧ ∃ fs : List (Str × Int × Int), acc = fs.map letterP ∧ ys.zip bs = fs.map (fun l => (l.1, l.2.1)) ++ rest ∧ ∀ l ∈ fs, 0 ≤ l.2.2 ∧ l.2.2 ≤ 1) (ys.zip bs) [] s2 ⟨hb2, [], rfl, rfl, by simp⟩ ?_) ?_
    · rintro ⟨n, k⟩ rest acc s ⟨hb, fs, rfl, e, hf⟩
      refine ⟨_, by simp; rfl, by simp, ?_⟩
      simp
      refine Ev.bnd (take_ev hb (by omega) (by omega)) ?_
      rintro _ ⟨v, s3, rfl, v0, v1, hb3⟩
      simp
      refine ⟨hb3, fs ++ [(n, k, v)], by simp [letterP], by simp [e], ?_⟩
      intro x y z hxyz
      rcases List.mem_append.mp hxyz with w | w
      · exact hf _ w
      · simp at w; omega
    · rintro ⟨qs, s3⟩ ⟨hb3, fs, e1, e2, hf⟩
      simp at e1 e2
      subst e1
      have hlen : fs.length = m := by
        have := congrArg List.length e2
        rw [List.length_zip, List.length_map, y1, bo.len] at this; omega
      simp [show fs.length ≤ 10000 by omega]
      have n1 : fs.map (·.1) = ys := by
        have : (ys.zip bs).map Prod.fst = fs.map (·.1) := by rw [e2, List.map_map]; rfl
        rw [← this, List.map_fst_zip (by rw [y1, bo.len]; exact Nat.le_refl _)]
      have n2 : fs.map (·.2.1) = bs := by
        have : (ys.zip bs).map Prod.snd = fs.map (·.2.1) := by rw [e2, List.map_map]; rfl
        rw [← this, List.map_snd_zip (by rw [y1, bo.len]; exact Nat.le_refl _)]
      exact ⟨fs, s3, rfl, ⟨by rw [n2]; exact bo, by rw [n1]; exact y2, fun l hl => y3 l.1 (by rw [← n1]; exact List.mem_map.mpr ⟨l, hl, rfl⟩), hf⟩, hb3⟩
  refine Ev.bnd (take_ev hb1 (by omega) (by omega)) ?_
  rintro _ ⟨v, s2, rfl, v0, v1, hb2⟩
  simp
  by_cases hv : v = 0
  · subst hv
    have e4 : rgP 0 size = (upI 0 size.toNat).map PV.int := by
      have := rgP_up 0 size.toNat
      rwa [show (0 : Int) + (size.toNat : Int) = size by omega] at this
    simp [rgE_of (a := 0) (b := size) (st := s2) (by omega) (by omega), e4]
    refine Ev.bnd (mixed_ev PV.int hb2 (by simp [upI]; omega)) ?_
    rintro _ ⟨ys, s3, rfl, hp, hb3⟩
    have e3 : fSl (.o (.lst (ys.map PV.int))) none (some (m : Int)) s3 = some (.o (.lst ((ys.take m).map PV.int))) := by
      show some (XV.o (.lst (cutP _ _ _))) = _
      rw [cutP_take]
    simp [e3, -List.map_take]
    exact fin _ _ (sort_ok (by omega) hs hp) hb3
  · simp [hv]
    exact fin _ _ (upI_ok b0 (by omega)) hb2
def HarpQ (r : XV × MS) : Prop := ∃ h s, r = (XV.v (harpP h), s) ∧ HarpOk h ∧ Bag s
theorem harp_ev {st : MS} (hb : Bag st) : Ev (df__law_harp A [.obj 0, .int 9] st) HarpQ := by
  simp [df__law_harp, d__law_harp]
  refine Ev.bnd (take_ev hb (by omega) (by omega)) ?_
  rintro _ ⟨v, s1, rfl, v0, v1, hb1⟩
  simp
  have eL : ([PV.int 2, PV.int 3, PV.int 4, PV.int 5, PV.int 7, PV.int 12, PV.int 24] : List PV) = ([2, 3, 4, 5, 7, 12, 24] : List Int).map PV.int := rfl
  refine Ev.bnd (some_lst hb1 (by simp) (by simp)) ?_
  rintro _ ⟨x, s2, rfl, hx, hb2⟩
  rw [eL] at hx
  obtain ⟨k, hk, rfl⟩ := List.mem_map.mp hx
  simp at hk
  have emax : fMax2 [.v (.int (2 + v)), .v (.int k)] s2 = some (.v (.int (if k > 2 + v then k else 2 + v))) := rfl
  simp only [calE_v, bnd_some, emax, mpO_some, ev_slotV, ev_pv_v, putN_s, putN_0, seqE_nx]
  obtain ⟨size, hsize⟩ : ∃ size, size = if k > 2 + v then k else 2 + v := ⟨_, rfl⟩
  rw [← hsize]
  have hs1 : 2 + v ≤ size ∧ size ≤ 24 := by
    rw [hsize]; split <;> omega
  have ev : 2 + v = (((2 + v).toNat : Nat) : Int) := by omega
  obtain ⟨m, hm⟩ : ∃ m, m = (2 + v).toNat := ⟨_, rfl⟩
  rw [ev, ← hm]
  refine Ev.bnd (letters_ev hb2 (by omega) (by omega) (by omega) (by omega)) ?_
  rintro _ ⟨ls, s3, rfl, lo, hb3⟩
  simp
  refine Ev.bnd (take_ev hb3 (by omega) (by omega)) ?_
  rintro _ ⟨p, s4, rfl, p0, p1, hb4⟩
  simp
  refine Ev.bnd (take_ev hb4 (by omega) (by omega)) ?_
  rintro _ ⟨q, s5, rfl, q0, q1, hb5⟩
  simp
  have eR : ([PV.int 0, PV.int 1, PV.int 2, PV.int 3, PV.int 5, PV.int 9, PV.int 59] : List PV) = ([0, 1, 2, 3, 5, 9, 59] : List Int).map PV.int := rfl
  refine Ev.bnd (some_lst hb5 (by simp) (by simp)) ?_
  rintro _ ⟨x, s6, rfl, hx, hb6⟩
  rw [eR] at hx
  obtain ⟨r, hr, rfl⟩ := List.mem_map.mp hx
  simp at hr
  simp
  have hlen : ls.length = m := by have := lo.bases.len; rwa [List.length_map] at this
  refine ⟨⟨size, ls, 1 + p, 1 + q, r⟩, s6, rfl, ?_, hb6⟩
  exact { two := by simp only; omega, nine := by simp only; omega, size := by simp only; omega, top := hs1.2, rise := lo.bases.rise, base := lo.bases.rg, names := lo.names, rows := lo.rows, foot := lo.foot, p0 := by simp only; omega, p1 := by simp only; omega, q0 := by simp only; omega, q1 := by simp only; omega, r0 := by simp only; omega, r1 := by simp only; omega }
def flipL (size : Int) (l : Str × Int × Int) : Str × Int × Int := (l.1, size - 1 - l.2.1, l.2.2)
def Harp.flip (h : Harp) : Harp := { h with ls := h.ls.reverse.map (flipL h.size) }
theorem flip_bases (h : Harp) : h.flip.bases = h.bases.reverse.map fun b => h.size - 1 - b := by
  simp [Harp.flip, Harp.bases, flipL, Function.comp_def]
theorem flip_ok {h : Harp} (ok : HarpOk h) : HarpOk h.flip where
  two := by simp [Harp.flip]; exact ok.two
  nine := by simp [Harp.flip]; exact ok.nine
  size := by simp [Harp.flip]; exact ok.size
  top := ok.top
  rise := by
    rw [flip_bases, List.pairwise_map, List.pairwise_reverse]
    exact ok.rise.imp fun h => by omega
  base := by
    intro b hb
    rw [flip_bases] at hb
    obtain ⟨c, hc, rfl⟩ := List.mem_map.mp hb
    have := ok.base c (List.mem_reverse.mp hc)
    show 0 ≤ h.size - 1 - c ∧ h.size - 1 - c < h.size
    omega
  names := by
    have : h.flip.ls.map (·.1) = (h.ls.map (·.1)).reverse := by simp [Harp.flip, flipL, Function.comp_def]
    rw [this, List.nodup_iff_pairwise_ne, List.pairwise_reverse]; exact (List.nodup_iff_pairwise_ne.mp ok.names).imp fun h => h.symm
  rows := by
    intro l hl
    obtain ⟨c, hc, rfl⟩ := List.mem_map.mp hl
    exact ok.rows c (List.mem_reverse.mp hc)
  foot := by
    intro l hl
    obtain ⟨c, hc, rfl⟩ := List.mem_map.mp hl
    exact ok.foot c (List.mem_reverse.mp hc)
  p0 := ok.p0
  p1 := ok.p1
  q0 := ok.q0
  q1 := ok.q1
  r0 := ok.r0
  r1 := ok.r1
theorem flip_harp_ok {h : Harp} (ok : HarpOk h) (st : MS) : df__law_flip_harp A [harpP h] st = some (.v (harpP h.flip), st) := by
  have h9 := ok.nine
  have i2 : fIx (.v (harpP h)) (.v (.int 2)) st = some (.v (.int h.p)) := by simp [harpP]
  have i3 : fIx (.v (harpP h)) (.v (.int 3)) st = some (.v (.int h.q)) := by simp [harpP]
  have i4 : fIx (.v (harpP h)) (.v (.int 4)) st = some (.v (.int h.r)) := by simp [harpP]
  simp [df__law_flip_harp, d__law_flip_harp]
  rw [← List.map_reverse, compD_map (fun l => letterP (flipL h.size l)) h.ls.reverse fun l hl => by
    refine ⟨_, by simp [letterP]; rfl, by simp, ?_⟩
    simp [letterP, flipL]]
  simp [show h.ls.length ≤ 10000 by omega, i2, i3, i4]
  simp [harpP, Harp.flip, Function.comp_def]
end K00
/-! M00n -/
namespace DD
open PySem PySem.Spec PyProof.Rows L2
theorem fEqD_nil {x : XV} {st : MS} {ds : List PyData} (hx : x.dat st = some (.list ds)) (hs : SeqAt.shaped (.list ds) = true) (neg : Bool) : fEqD neg x (.o (.lst [])) st = some (.v (.bl (if neg = true then !ds.isEmpty else ds.isEmpty))) := by
  have e2 : (XV.o (.lst [])).dat st = some (.list []) := rfl
  unfold fEqD
  rw [hx, e2, Option.bind_some, Option.bind_some, if_pos ⟨hs, rfl⟩]
  cases ds <;> cases neg <;> rfl
theorem dat_ints (ns : List Int) (st : MS) : (XV.o (.lst (ns.map PV.int))).dat st = some (.list (ns.map PyData.int)) := by
  show (PV.dats (ns.map PV.int)).map PyData.list = _
  rw [dats_ints]; rfl
@[simp] theorem eq_nilI (ns : List Int) (st : MS) : fEq (.o (.lst (ns.map PV.int))) (.o (.lst [])) st = some (.v (.bl (decide (ns = [])))) := by
  show fEqD false _ _ _ = _
  rw [fEqD_nil (dat_ints ns st) (shaped_ints ns).1]
  cases ns <;> rfl
@[simp] theorem ne_nilI (ns : List Int) (st : MS) : fNe (.o (.lst (ns.map PV.int))) (.o (.lst [])) st = some (.v (.bl (!decide (ns = [])))) := by
  show fEqD true _ _ _ = _
  rw [fEqD_nil (dat_ints ns st) (shaped_ints ns).1]
  cases ns <;> rfl
@[simp] theorem ne_nilB (ns : List Int) (st : MS) : fNe (.b (.lst (ns.map PV.int))) (.o (.lst [])) st = some (.v (.bl (!decide (ns = [])))) := by
  show fEqD true _ _ _ = _
  rw [fEqD_nil (show (XV.b (.lst (ns.map PV.int))).dat st = some (.list (ns.map PyData.int)) from dat_ints ns st) (shaped_ints ns).1]
  cases ns <;> rfl
@[simp] theorem ne_nilB0 (st : MS) : fNe (.b (.lst [])) (.o (.lst [])) st = some (.v (.bl false)) := ne_nilB [] st
theorem dat_pairsL (ns : List (Int × Int)) : (PV.lst (ns.map pPV)).dat = some (.list (ns.map pD)) := by
  show (PV.dats (ns.map pPV)).map PyData.list = _
  rw [dats_map ns fun a _ => dat_pPV a]; rfl
@[simp] theorem eq_nilP (ns : List (Int × Int)) (st : MS) : fEq (.v (.lst (ns.map pPV))) (.o (.lst [])) st = some (.v (.bl (decide (ns = [])))) := by
  show fEqD false _ _ _ = _
  rw [fEqD_nil (show (XV.v (.lst (ns.map pPV))).dat st = _ from dat_pairsL ns) (shaped_pairs ns).1]
  cases ns <;> rfl
@[simp] theorem ne_nilP (ns : List (Int × Int)) (st : MS) : fNe (.v (.lst (ns.map pPV))) (.o (.lst [])) st = some (.v (.bl (!decide (ns = [])))) := by
  show fEqD true _ _ _ = _
  rw [fEqD_nil (show (XV.v (.lst (ns.map pPV))).dat st = _ from dat_pairsL ns) (shaped_pairs ns).1]
  cases ns <;> rfl
@[simp] theorem in_int3 (neg : Bool) (i a b c : Int) (st : MS) : fIn neg (.v (.int i)) (.v (.tup [.int a, .int b, .int c])) st = some (.v (.bl (if neg = true then !decide (i ∈ [a, b, c]) else decide (i ∈ [a, b, c])))) := ev_inInts neg i [a, b, c] st
theorem ev_sortPB {ns : List (Int × Int)} (h : ns ≠ []) (st : MS) : fSorted2 [.b (.lst (ns.map pPV))] st = some (.o (.lst ((srtP ns).map pPV))) := by
  cases ns with
  | nil => exact absurd rfl h
  | cons n ns =>
    show (match ints? ((n :: ns).map pPV) with
      | some ns => some (sortI ns)
      | none => (pairsI? ((n :: ns).map pPV)).map fun ns => XV.o (.lst ((srtP ns).map pPV))) = _
    rw [ints_pairs, pairsI_map]; rfl
theorem ixN_of {n : Nat} {v : Int} (h0 : 0 ≤ v) (h1 : v < n) : ixN n v = some v.toNat := by
  unfold ixN; rw [if_pos h0, if_pos h1]
end DD
namespace K00
open PySem PySem.Spec PyProof.Rows L2 DD
variable {A : Ad}
theorem ix_letters {h : Harp} {i : Nat} (hi : i < h.ls.length) (st : MS) : ∃ l, fIx (.v (.tup (h.ls.map letterP))) (.v (.int (i : Int))) st = some (.v (letterP l)) ∧ l.2.1 = h.bases.getD i 0 := by
  refine ⟨h.ls[i], ?_, ?_⟩
  · rw [ev_ixTup, atI_nat' _ _ (by simpa using hi), List.getElem?_map, List.getElem?_eq_getElem hi]; rfl
  · unfold Harp.bases
    rw [List.getD_eq_getElem?_getD, List.getElem?_map, List.getElem?_eq_getElem hi]; rfl
@[simp] theorem ix_letterP (l : Str × Int × Int) (st : MS) : fIx (.v (letterP l)) (.v (.int 1)) st = some (.v (.int l.2.1)) := by simp [letterP]
theorem emod_near {d n : Int} (hn : 2 ≤ n) : d % n ∈ [0, 1, n - 1] ↔ (d + 1) % n ≤ 2 := by
  have e : (d + 1) % n = (d % n + 1) % n := by rw [Int.emod_add_emod]
  have h0 := Int.emod_nonneg d (show n ≠ 0 by omega)
  have h1 := Int.emod_lt_of_pos d (show 0 < n by omega)
  rw [e]
  have c := emod_cases (d := d % n + 1) (n := n) (by omega) (by omega) (by omega)
  simp only [List.mem_cons, List.not_mem_nil, or_false]
  omega
theorem giv_len {h : Harp} (ok : HarpOk h) (k : Int) : (giv h k).length ≤ 9 := by
  have := List.length_filter_le (fun i => decide ((k - h.bases[i]?.getD 0 + 1) % h.size ≤ 2)) (List.range h.ls.length)
  have := ok.nine
  unfold giv
  simp at *
  omega
theorem law_givers_ok {h : Harp} (ok : HarpOk h) (k : Int) (st : MS) : df__law_givers A [harpP h, .int k] st = some (.v (natsP (giv h k)), st) := by
  have hs := ok.spos
  have h2 := size2 ok
  have h9 := ok.nine
  simp [df__law_givers, d__law_givers]
  rw [ev_range1 (j := (h.ls.length : Int)) (st' := st) (by simp) (by omega)]
  simp
  rw [compD_filter (fun i : Nat => decide ((k - h.bases[i]?.getD 0 + 1) % h.size ≤ 2)) (fun i : Nat => PV.int (i : Int)) (List.range h.ls.length) fun i hi => by
    obtain ⟨l, e1, e2⟩ := ix_letters (List.mem_range.mp hi) st
    refine ⟨_, by simp; rfl, ?_, fun _ => ⟨_, by simp; rfl, rfl⟩⟩
    have := emod_near (d := k - l.2.1) h2
    rw [List.getD_eq_getElem?_getD] at e2
    simp [e1, hs, -ev_ixTup]
    rw [← e2, Bool.eq_iff_iff]
    simpa using this]
  have e : (List.range h.ls.length).filter (fun i => decide ((k - h.bases[i]?.getD 0 + 1) % h.size ≤ 2)) = giv h k := rfl
  rw [e]
  have := giv_len ok k
  simp [natsP, show (giv h k).length ≤ 10000 by omega]
theorem law_arcs_ok {h : Harp} (ok : HarpOk h) (st : MS) : df__law_arcs A [harpP h] st = some (.v (.tup ((arcsL h.ls.length).map pPV)), st) := by
  have hm : 2 ≤ h.ls.length := ok.two
  have h9 : h.ls.length ≤ 9 := ok.nine
  have hM := arcsM_len h9
  have e1 : ((h.ls.length : Int) - 1).toNat = h.ls.length - 1 := by omega
  simp [df__law_arcs, d__law_arcs]
  rw [ev_range1 (j := (h.ls.length : Int)) (st' := st) (by simp) (by omega)]
  simp
  refine for_run (fun rest env s => s = st ∧ ∃ done sl s4, List.range h.ls.length = done ++ rest ∧ env = [.v (harpP h), .v (.int h.ls.length), .own (.lst (((0, 0) :: (0, (h.ls.length : Int)) :: done.flatMap fun (f : Nat) => (List.range (h.ls.length - 1)).map fun (s : Nat) => ((f : Int), (s : Int) + 1)).map pPV)), sl, s4]) (List.range h.ls.length)
    ⟨rfl, [], .un, .un, rfl, rfl⟩ ?_ ?_
  · rintro f rest env s ⟨rfl, done, sl, s4, hd, rfl⟩
    have hlen : (done.flatMap fun (f : Nat) => (List.range (h.ls.length - 1)).map fun (s : Nat) => ((f : Int), (s : Int) + 1)).length ≤ 72 := by
      rw [len_flat _ (h.ls.length - 1) done fun f _ => by simp]
      have := congrArg List.length hd
      rw [List.length_range, List.length_append] at this
      have := Nat.mul_le_mul (show done.length ≤ 9 by omega) (show h.ls.length - 1 ≤ 8 by omega)
      omega
    obtain ⟨fl, hfl⟩ : ∃ fl, fl = done.flatMap fun (f : Nat) => (List.range (h.ls.length - 1)).map fun (s : Nat) => ((f : Int), (s : Int) + 1) := ⟨_, rfl⟩
    rw [← hfl] at hlen ⊢
    refine ⟨[.v (harpP h), .v (.int h.ls.length), .own (.lst (((0, 0) :: (0, (h.ls.length : Int)) :: fl).map pPV)), .v (.int (f : Int)), s4], [.v (harpP h), .v (.int h.ls.length), .own (.lst (((0, 0) :: (0, (h.ls.length : Int)) :: (fl ++ (List.range (h.ls.length - 1)).map fun (s : Nat) => ((f : Int), (s : Int) + 1))).map pPV)), .v (.int (f : Int)), s4], s, by simp, ?_, rfl, done ++ [f], .v (.int (f : Int)), s4, by simp [hd], ?_⟩
    · simp [ev_mMut]
      rw [ev_range2 (i := 1) (j := (h.ls.length : Int)) (st' := s) (by simp) (by omega) (by omega), e1]
      simp
      rw [compD_map (fun (s : Nat) => pPV ((f : Int), (s : Int) + 1)) (List.range (h.ls.length - 1)) fun s hs => by simp [pPV, Int.add_comm]]
      simp [show h.ls.length - 1 ≤ 10000 by omega, show fl.length + 1 + 1 + (h.ls.length - 1) ≤ 10000 by omega, Function.comp_def]
    · rw [List.flatMap_append, ← hfl]
      simp
  · rintro e s ⟨rfl, done, sl, s4, hd, rfl⟩
    simp only [List.append_nil] at hd
    subst hd
    have e2 : (0, 0) :: (0, (h.ls.length : Int)) :: ((List.range h.ls.length).flatMap fun (f : Nat) => (List.range (h.ls.length - 1)).map fun (s : Nat) => ((f : Int), (s : Int) + 1)) = arcs0 h.ls.length := rfl
    rw [e2]
    simp [ev_sortPB (show arcs0 h.ls.length ≠ [] by simp [arcs0]), arcsL]
theorem law_inside_ok {h : Harp} (ok : HarpOk h) {a : Int × Int} (h1 : -1000 ≤ a.2) (h2 : a.2 ≤ 1000) {lot : List Int} (hl : lot.length ≤ 1000) (st : MS) : df__law_inside A [harpP h, intsP lot, pPV a] st = some (.v (intsP (win h lot a)), st) := by
  have hm : 0 < h.ls.length := by have := ok.two; omega
  have hl2 : (List.range a.2.toNat).length ≤ 10000 := by simp; omega
  simp at hl2
  have hw := win_len h lot a
  simp [df__law_inside, d__law_inside]
  rw [ev_range1 (j := a.2) (st' := st) (by simp) (by omega)]
  simp
  rw [compD_map (fun (s : Nat) => PV.int ((a.1 + (s : Int)) % (h.ls.length : Int))) (List.range a.2.toNat) fun s hs => by simp [hm]]
  have e0 : (List.range a.2.toNat).map (fun (s : Nat) => PV.int ((a.1 + (s : Int)) % (h.ls.length : Int))) = (lin h.ls.length a).map PV.int := by unfold lin; rw [List.map_map]; rfl
  have e1 : (lin h.ls.length a).length = a.2.toNat := by unfold lin; simp
  rw [e0]
  simp [e1, hl2]
  rw [compD_filter (fun k => (giv h k).all fun (l : Nat) => decide ((l : Int) ∈ lin h.ls.length a)) (fun k => PV.int k) lot fun k hk => by
    refine ⟨_, by simp; rfl, ?_, fun _ => ⟨_, by simp; rfl, rfl⟩⟩
    simp [law_givers_ok ok]
    rw [compD_filter (fun (l : Nat) => !decide ((l : Int) ∈ lin h.ls.length a)) (fun _ => PV.int 1) (giv h k) fun l hl => by
      refine ⟨_, by simp; rfl, by simp, fun _ => ⟨_, by simp; rfl, rfl⟩⟩]
    have e3 : ((giv h k).filter fun (l : Nat) => !decide ((l : Int) ∈ lin h.ls.length a)).map (fun _ => PV.int 1) = (((giv h k).filter fun (l : Nat) => !decide ((l : Int) ∈ lin h.ls.length a)).map fun _ => (1 : Int)).map PV.int := by rw [List.map_map]; rfl
    have e4 : ((giv h k).filter fun (l : Nat) => !decide ((l : Int) ∈ lin h.ls.length a)).length ≤ 10000 := by
      have := List.length_filter_le (fun (l : Nat) => !decide ((l : Int) ∈ lin h.ls.length a)) (giv h k)
      have := giv_len ok k
      omega
    rw [e3]
    obtain ⟨ms, hms⟩ : ∃ ms, ms = ((giv h k).filter fun (l : Nat) => !decide ((l : Int) ∈ lin h.ls.length a)).map fun _ => (1 : Int) := ⟨_, rfl⟩
    have e5 : ms.length ≤ 10000 := by rw [hms, List.length_map]; exact e4
    rw [← hms]
    simp [e5]
    rw [hms]
    simp [List.filter_eq_nil_iff]
    rw [Bool.eq_iff_iff]
    simp]
  have e : lot.filter (fun k => (giv h k).all fun (l : Nat) => decide ((l : Int) ∈ lin h.ls.length a)) = win h lot a := rfl
  rw [e]
  simp [show (win h lot a).length ≤ 10000 by omega, intsP]
def flipA (m : Nat) (a : Int × Int) : Int × Int := if 0 < a.2 ∧ a.2 < m then (((m : Int) - a.1 - a.2) % (m : Int), a.2) else a
theorem flip_arc_ok {h : Harp} (ok : HarpOk h) (a : Int × Int) (st : MS) : df__law_flip_arc A [harpP h, pPV a] st = some (.v (pPV (flipA h.ls.length a)), st) := by
  have hm : 0 < h.ls.length := by have := ok.two; omega
  simp [df__law_flip_arc, d__law_flip_arc]
  unfold flipA
  by_cases h1 : 0 < a.2
  · by_cases h2 : a.2 < (h.ls.length : Int)
    · simp [h1, h2, hm, pPV]
    · simp [h1, h2]
  · simp [h1]
def LotQ (h : Harp) (r : XV × MS) : Prop := ∃ lot s, r = (XV.v (intsP lot), s) ∧ LotOk h lot ∧ lot.Pairwise (· < ·) ∧ Bag s
theorem ddI_len : ∀ ns : List Int, (ddI ns).length ≤ ns.length := fun ns => nodup_len (nodup_ddI ns) fun a ha => mem_ddI.mp ha
theorem lot_ev {h : Harp} (ok : HarpOk h) {st : MS} (hb : Bag st) : Ev (df__law_lot A [.obj 0, harpP h] st) (LotQ h) := by
  have hs := ok.spos
  have ht := ok.top
  have h9 := ok.nine
  simp [df__law_lot, d__law_lot]
  refine for_runEv (fun rest env s => Bag s ∧ ∃ (ks : List Int) (done : List (Str × Int × Int)) (s4 s5 s6 : DD.Slot), env = [.v (.obj 0), .v (harpP h), .own (.lst (ks.map PV.int)), .un, s4, s5, s6] ∧ h.ls = done ++ rest ∧ ks.length ≤ done.length ∧ ∀ k ∈ ks, 0 ≤ k ∧ k < h.size) h.ls
    ⟨hb, [], [], .un, .un, .un, rfl, rfl, Nat.le_refl _, by simp⟩ ?_ ?_
  · rintro l rest env s ⟨hb, ks, done, s4, s5, s6, rfl, hd, hl, hr⟩
    refine ⟨_, by simp [letterP]; rfl, ?_⟩
    have hdl : done.length ≤ 9 := by
      have := congrArg List.length hd
      rw [List.length_append] at this; omega
    simp
    refine Ev.bnd (take_ev hb (by omega) (by omega)) ?_
    rintro _ ⟨v, s1, rfl, v0, v1, hb1⟩
    simp
    by_cases hv : 0 < v
    · simp [hv, ev_mMut]
      refine Ev.bnd (take_ev hb1 (by omega) (by omega)) ?_
      rintro _ ⟨w, s2, rfl, w0, w1, hb2⟩
      simp [hs, lt_line (show (List.map PV.int ks).length ≤ 10000 by rw [List.length_map]; omega), lt_line (show ks.length ≤ 10000 by omega)]
      refine ⟨hb2, ks ++ [(l.2.1 + w - 1) % h.size], by simp, done ++ [l], by simp [hd], by simp; omega, ?_⟩
      intro k hk
      rcases List.mem_append.mp hk with z | z
      · exact hr k z
      · simp at z; subst z
        exact ⟨Int.emod_nonneg _ (by omega), Int.emod_lt_of_pos _ hs⟩
    · simp [hv]
      exact ⟨hb1, ks, rfl, done ++ [l], by simp [hd], by simp; omega, hr⟩
  · rintro e s ⟨hb, ks, done, s4, s5, s6, rfl, hd, hl, hr⟩
    simp only [List.append_nil] at hd
    have hkl : ks.length ≤ 9 := by rw [hd] at h9; omega
    -- the end, from the kinds
    have fin : ∀ (ns : List Int) (s : MS), ns.length ≤ 10 → (∀ k ∈ ns, 0 ≤ k ∧ k < h.size) → Bag s → ∃ r, (fSet2 [.b (.lst (ns.map PV.int))] s = some (.o (.set (ddI ns)))) ∧ fSorted2 [.o (.set (ddI ns))] s = some (.o (.lst ((srt (ddI ns)).map PV.int))) ∧ LotQ h r ∧ r = (.v (.tup ((srt (ddI ns)).map PV.int)), s) := by
      intro ns s hn hr hb
      refine ⟨_, ev_setB (by omega) s, ev_sortS (by have := ddI_len ns; omega) s, ⟨srt (ddI ns), s, rfl, ⟨(srt_perm _).nodup_iff.mpr (nodup_ddI ns), fun k hk => hr k (mem_ddI.mp ((srt_perm _).mem_iff.mp hk)), by rw [(srt_perm _).length_eq]; have := ddI_len ns; omega⟩, srt_strict (nodup_ddI ns), hb⟩, rfl⟩
    simp
    refine Ev.bnd (take_ev hb (by omega) (by omega)) ?_
    rintro _ ⟨v, s1, rfl, v0, v1, hb1⟩
    simp
    by_cases hv : v = 0
    · subst hv
      simp [ev_mMut]
      refine Ev.bnd (take_ev hb1 (by omega) (by omega)) ?_
      rintro _ ⟨w, s2, rfl, w0, w1, hb2⟩
      obtain ⟨r, f1, f2, f3, f4⟩ := fin (ks ++ [w]) s2 (by simp; omega) (fun k hk => by
        rcases List.mem_append.mp hk with z | z
        · exact hr k z
        · simp at z; subst z; exact ⟨w0, w1⟩) hb2
      have e1 : ks.map PV.int ++ [PV.int w] = (ks ++ [w]).map PV.int := by simp
      have hfit : ks.length < sizeLine := lt_line (by omega)
      simp
      rw [e1]
      simp only [gd_true hfit, bnd_some, f1, f2, ev_fTupleO, ev_finv, mpO_some, Ev_some]
      rw [← f4]; exact f3
    · by_cases hv1 : v = 1
      · subst hv1
        by_cases hk0 : ks = []
        · subst hk0
          obtain ⟨r, f1, f2, f3, f4⟩ := fin [] s1 (by simp) (by simp) hb1
          simp at f1 f2
          simp [f1, f2]
          rw [f4] at f3; exact f3
        · simp [hk0]
          refine Ev.bnd (take_ev hb1 (by omega) (by omega)) ?_
          rintro _ ⟨w, s2, rfl, w0, w1, hb2⟩
          simp
          have hkp := List.length_pos_iff.mpr hk0
          refine Ev.bnd (take_ev hb2 (by omega) (by omega)) ?_
          rintro _ ⟨i, s3, rfl, i0, i1, hb3⟩
          obtain ⟨r, f1, f2, f3, f4⟩ := fin (ks.set i.toNat w) s3 (by simp; omega) (fun k hk => by
            rcases List.mem_or_eq_of_mem_set hk with z | z
            · exact hr k z
            · subst z; exact ⟨w0, w1⟩) hb3
          have e1 : (ks.map PV.int).set i.toNat (PV.int w) = (ks.set i.toNat w).map PV.int := by rw [List.map_set]
          simp [ixN_of i0 i1, e1, -List.map_set, f1, f2]
          rw [← f4]; exact f3
      · obtain ⟨r, f1, f2, f3, f4⟩ := fin ks s1 (by omega) hr hb1
        simp [hv, hv1, f1, f2]
        rw [← f4]; exact f3
end K00
/-! M00o -/
namespace DD
open PySem PySem.Spec PyProof.Rows L2
/-! dicts whose keys are tuples of ints, each True -/
def tK (r : List Int) : List Key := r.map Sum.inl
def tT (R : List (List Int)) : List (List Key × PV) := R.map fun r => (tK r, .bl true)
def fTR (R : List (List Int)) : PV := .fT (R.map tK) (R.map fun _ => .bl true)
def addR (R : List (List Int)) (r : List Int) : List (List Int) := if r ∈ R then R else R ++ [r]
theorem tK_inj {r s : List Int} : tK r = tK s ↔ r = s := by
  constructor
  · intro h
    unfold tK at h
    exact List.map_inj_right (fun a b e => by injection e) |>.mp h
  · rintro rfl; rfl
theorem tT_any (R : List (List Int)) (r : List Int) : ((tT R).any fun kv => decide (kv.1 = tK r)) = decide (r ∈ R) := by
  unfold tT
  rw [List.any_map]
  induction R with
  | nil => rfl
  | cons a R ih =>
    rw [List.any_cons, ih]
    show (decide (tK a = tK r) || decide (r ∈ R)) = _
    rw [Bool.eq_iff_iff]
    simp only [tK_inj, Bool.or_eq_true, decide_eq_true_eq, List.mem_cons]
    constructor
    · rintro (e | e)
      · exact .inl e.symm
      · exact .inr e
    · rintro (e | e)
      · exact .inl e.symm
      · exact .inr e
theorem putP_tT (R : List (List Int)) (r : List Int) : putP (tT R) (tK r) (.bl true) = tT (addR R r) := by
  unfold putP addR
  rw [tT_any]
  by_cases z : r ∈ R
  · rw [if_pos (by simp [z]), if_pos z]
    unfold tT
    rw [List.map_map]
    refine List.map_congr_left fun a _ => ?_
    simp only [Function.comp]
    split <;> rfl
  · rw [if_neg (by simp [z]), if_neg z]
    simp [tT]
theorem valP_tT (R : List (List Int)) (r : List Int) : (valP (tT R) (tK r)).isSome = decide (r ∈ R) := by
  unfold valP
  rw [Option.isSome_map, ← tT_any, Bool.eq_iff_iff, List.find?_isSome, List.any_eq_true]
theorem mem_addR {R : List (List Int)} {r x : List Int} : x ∈ addR R r ↔ x ∈ R ∨ x = r := by
  unfold addR
  split
  · rename_i h
    constructor
    · exact .inl
    · rintro (z | rfl)
      · exact z
      · exact h
  · simp
theorem addR_len (R : List (List Int)) (r : List Int) : (addR R r).length ≤ R.length + 1 := by
  unfold addR; split <;> simp
theorem keys_ints : ∀ r : List Int, keys? (r.map PV.int) = some (tK r)
  | [] => rfl
  | a :: r => by
    show (some (Sum.inl a)).bind (fun k => (keys? (r.map PV.int)).map fun ks => k :: ks) = _
    rw [keys_ints r]; rfl
theorem keyT_ints (r : List Int) : (PV.tup (r.map PV.int)).keyT = some (tK r) := keys_ints r
theorem fr_tT (R : List (List Int)) : (Cont.dT (tT R)).fr = some (fTR R) := by
  show some (PV.fT ((tT R).map (·.1)) ((tT R).map (·.2))) = _
  unfold tT fTR
  rw [List.map_map, List.map_map]; rfl
theorem keysOf_fTR (R : List (List Int)) : keysOf (fTR R) = some (R.map fun r => PV.tup (r.map PV.int)) := by
  show (if (R.map tK).length = (R.map fun _ => PV.bl true).length then some ((R.map tK).map fun k => PV.tup (k.map keyP)) else none) = _
  rw [if_pos (by simp), List.map_map]
  congr 1
  refine List.map_congr_left fun r _ => ?_
  simp only [Function.comp, tK, List.map_map]
  rfl
theorem zip_tT (R : List (List Int)) : (R.map tK).zip (R.map fun _ => PV.bl true) = tT R := by
  unfold tT
  induction R with
  | nil => rfl
  | cons a R ih => simp only [List.map_cons, List.zip_cons_cons, ih]
theorem in_fTR (neg : Bool) (lot : List Int) (R : List (List Int)) (st : MS) : fIn neg (.v (.tup (lot.map PV.int))) (.v (fTR R)) st = some (.v (.bl (if neg = true then !decide (lot ∈ R) else decide (lot ∈ R)))) := by
  have e : (XV.v (fTR R)).dat st = none := rfl
  have e2 : (XV.v (fTR R)).dic st = some (.dT (tT R)) := by
    show (if (R.map tK).length = (R.map fun _ => PV.bl true).length then some (Cont.dT ((R.map tK).zip (R.map fun _ => PV.bl true))) else none) = _
    rw [if_pos (by simp), zip_tT]
  have e3 : dicGet (.dT (tT R)) (.v (.tup (lot.map PV.int))) = some (valP (tT R) (tK lot)) := by
    show ((PV.tup (lot.map PV.int)).keyT).map (fun k => valP (tT R) k) = _
    rw [keyT_ints]; rfl
  unfold fIn
  simp only [e, e2, Option.bind_some, e3, Option.map_some, valP_tT]
theorem kvT_rows : ∀ R : List (List Int), kvT? (R.map fun r => PV.tup [.tup (r.map PV.int), .bl true]) = some (tT R)
  | [] => rfl
  | r :: R => by
    show ((PV.tup (r.map PV.int)).keyT).bind (fun ks => (kvT? (R.map fun r => PV.tup [.tup (r.map PV.int), .bl true])).map fun q => (ks, PV.bl true) :: q) = _
    rw [keyT_ints, kvT_rows R]; rfl
theorem merge_tT : ∀ (R L : List (List Int)), mergeTP (tT L) (tT R) = tT (R.foldl addR L)
  | [], L => rfl
  | r :: R, L => by
    show mergeTP (putP (tT L) (tK r) (.bl true)) (tT R) = _
    rw [putP_tT, merge_tT R]; rfl
theorem dictT_rows (R : List (List Int)) (st : MS) : fDictT [.v (.lst (R.map fun r => PV.tup [.tup (r.map PV.int), .bl true]))] st = some (.o (.dT (tT (R.foldl addR [])))) := by
  show (kvT? (R.map fun r => PV.tup [.tup (r.map PV.int), .bl true])).map (fun r => XV.o (.dT (mergeTP [] r))) = _
  rw [kvT_rows]
  show some (XV.o (.dT (mergeTP (tT []) (tT R)))) = _
  rw [merge_tT]
theorem dictT_rowsO (R : List (List Int)) (st : MS) : fDictT [.o (.lst (R.map fun r => PV.tup [.tup (r.map PV.int), .bl true]))] st = some (.o (.dT (tT (R.foldl addR [])))) := dictT_rows R st
theorem put_dTi {R : List (List Int)} (hl : R.length ≤ 1000000) (r : List Int) : fPut (.dT (tT R)) (.tup (r.map PV.int)) (.bl true) = some (.dT (tT (addR R r))) := by
  show ((PV.tup (r.map PV.int)).keyT).bind (fun k => if (tT R).length < sizeLine then some (Cont.dT (putP (tT R) k (.bl true))) else none) = _
  rw [keyT_ints, Option.bind_some, if_pos (by unfold tT; rw [List.length_map, sizeLine_eq]; omega), putP_tT]
section
variable (env : DEnv) (st : MS)
def lkE (r : Fl × DEnv × MS) : Fl × DEnv × MS := (r.1, r.2.1.map Slot.unlk, r.2.2)
theorem ev_sLk {i : Nat} {d : DS} {p : PV} (h : nth env i = some (.v p)) (hp : p.isD = true) : sLk i d env st = mpO (d (setN env i (.lk p)) st) lkE := by
  unfold sLk
  rw [nth_eq, h]
  simp only [hp, if_true]
  rw [setN_eq]; rfl
theorem ev_sFrz {i : Nat} {d : DS} {c : Cont} {p : PV} (h : nth env i = some (.own c)) (hp : c.fr = some p) : sFrz i d env st = d (setN env i (.v p)) st := by
  unfold sFrz
  rw [nth_eq, h]
  simp only [hp, Option.bind_some]
  rw [setN_eq]
theorem ev_keysV {i : Nat} {p : PV} {xs : List PV} (h : nth env i = some (.lk p)) (hp : keysOf p = some xs) : iKeysV i env st = some (xs, st) := by
  unfold iKeysV
  rw [nth_eq, h]
  simp only [hp, Option.map_some]
@[simp] theorem ev_keysIf (i : Nat) (c : DT) (m : Bool) (e : DX) : iKeysIf i c m e env st = bnd (c env st) fun b => frk b.1 (iKeysV i env b.2) (iSeq m e env b.2) := (rfl)
end
end DD
namespace K00
open PySem PySem.Spec PyProof.Rows L2 DD
variable {A : Ad}
def normR (r : List Int) : List Int := srt (ddI r)
def stepW (lot : List Int) (R L : List (List Int)) (kind : Int) : List (List Int) := if kind ∈ lot then R.foldl (fun L row => addR L (normR (row ++ [kind]))) L else L
def stepL (h : Harp) (lot : List Int) (R : List (List Int)) (base : Int) : List (List Int) := pos3.foldl (fun L way => stepW lot R L ((base + way) % h.size)) (R.foldl addR [])
def reachR (h : Harp) (lot : List Int) : List (List Int) := h.ls.foldl (fun R l => stepL h lot R l.2.1) [[]]
theorem fold_len {α : Type} (f : List (List Int) → α → List (List Int)) (hf : ∀ L a, (f L a).length ≤ L.length + 1) : ∀ (xs : List α) (L : List (List Int)), (xs.foldl f L).length ≤ L.length + xs.length
  | [], L => by simp
  | a :: xs, L => by
    have := fold_len f hf xs (f L a)
    have := hf L a
    rw [List.foldl_cons, List.length_cons]; omega
theorem stepW_len (lot : List Int) (R L : List (List Int)) (kind : Int) : (stepW lot R L kind).length ≤ L.length + R.length := by
  unfold stepW
  split
  · exact fold_len _ (fun L a => addR_len L _) R L
  · omega
theorem stepL_len (h : Harp) (lot : List Int) (R : List (List Int)) (base : Int) : (stepL h lot R base).length ≤ 4 * R.length := by
  have h0 := fold_len addR addR_len R []
  have e : stepL h lot R base = stepW lot R (stepW lot R (stepW lot R (R.foldl addR []) ((base + -1) % h.size)) ((base + 0) % h.size)) ((base + 1) % h.size) := rfl
  rw [e]
  have h1 := stepW_len lot R (R.foldl addR []) ((base + -1) % h.size)
  have h2 := stepW_len lot R (stepW lot R (R.foldl addR []) ((base + -1) % h.size)) ((base + 0) % h.size)
  have h3 := stepW_len lot R (stepW lot R (stepW lot R (R.foldl addR []) ((base + -1) % h.size)) ((base + 0) % h.size)) ((base + 1) % h.size)
  simp only [List.length_nil] at h0
  omega
theorem isD_fTR (R : List (List Int)) : (fTR R).isD = true := rfl
@[simp] theorem pv_oT (R : List (List Int)) : (XV.o (.dT (tT R))).pv = some (fTR R) := fr_tT R
theorem pv_oT0 : (XV.o (.dT [([], PV.bl true)])).pv = some (fTR [[]]) := rfl
@[simp] theorem keyT0 : (PV.tup []).keyT = some [] := (rfl)
theorem ev_addTT (xs ys : List PV) (st : MS) : fAdd (.v (.tup xs)) (.v (.tup ys)) st = gd (Fit (xs.length + ys.length)) (some (.v (.tup (xs ++ ys)))) := (rfl)
theorem normR_len (r : List Int) : (normR r).length ≤ r.length := by
  unfold normR; rw [(srt_perm _).length_eq]; exact ddI_len r
def rowB : DS := sAsgG (xC (PV.bl true)) (gmSub (pVar 6) (xApp fTuple (aCons (xApp fSorted2 (aCons (xApp fSet2 (aCons (xBin fAdd (xVar 9) (xTup (aCons (xVar 8) aNil))) aNil)) aNil)) aNil)))
theorem row_loop {e0 e1 e2 e3 e4 e5 e7 : DD.Slot} {kind : Int} {st : MS} : ∀ (rows L : List (List Int)) (s9 : DD.Slot), L.length + rows.length ≤ 1000000 → (∀ r ∈ rows, r.length ≤ 40) →
    ∃ s9', loopD (gName' 9) rowB (rows.map fun r => PV.tup (r.map PV.int)) [e0, e1, e2, e3, e4, e5, .own (.dT (tT L)), e7, .v (.int kind), s9] st = some (.nx, [e0, e1, e2, e3, e4, e5, .own (.dT (tT (rows.foldl (fun L row => addR L (normR (row ++ [kind]))) L))), e7, .v (.int kind), s9'], st)
  | [], L, s9, _, _ => ⟨s9, rfl⟩
  | r :: rows, L, s9, hl, hr => by
    have hr1 := hr r List.mem_cons_self
    have hal := addR_len L (normR (r ++ [kind]))
    obtain ⟨s9', ih⟩ := row_loop rows (addR L (normR (r ++ [kind]))) (.v (.tup (r.map PV.int))) (by simp at hl; omega) fun x hx => hr x (List.mem_cons_of_mem _ hx)
    refine ⟨s9', ?_⟩
    have f1 : fSet2 [.v (.tup ((r ++ [kind]).map PV.int))] st = some (.o (.set (ddI (r ++ [kind])))) := ev_setT (by simp; omega) st
    have f2 : fSorted2 [.o (.set (ddI (r ++ [kind])))] st = some (.o (.lst ((normR (r ++ [kind])).map PV.int))) := ev_sortS (by have := ddI_len (r ++ [kind]); simp at this; omega) st
    have e : r.map PV.int ++ [PV.int kind] = (r ++ [kind]).map PV.int := by simp
    have f3 := put_dTi (R := L) (by simp at hl; omega) (normR (r ++ [kind]))
    rw [List.map_cons, loopD_cons, List.foldl_cons, ← ih]
    simp [rowB, ev_addTT, show r.length + 1 ≤ 10000 by omega]
    rw [e, f1]
    simp [f2, f3]
def wayB : DS := sSeq (sSet .V 8 (xBin fMod (xApp fIntC (aCons (xBin fAdd (xVar 4) (xVar 7)) aNil)) (xBin fIx (xVar 0) (xC (PV.int 0)))))
    (sFor (iKeysIf 2 (tB' (xBin (fIn false) (xVar 8) (xVar 1))) true (xLst aNil)) (gName' 9) rowB)
theorem way_loop {h : Harp} (hs : 0 < h.size) {lot : List Int} {R : List (List Int)} {e3 e5 : DD.Slot} {base : Int} {st : MS} (hr : ∀ r ∈ R, r.length ≤ 40) : ∀ (ws : List Int) (L : List (List Int)) (s7 s8 s9 : DD.Slot), L.length + ws.length * R.length ≤ 1000000 →
    ∃ s7' s8' s9', loopD (gName' 7) wayB (ws.map PV.int) [.v (harpP h), .v (intsP lot), .lk (fTR R), e3, .v (.int base), e5, .own (.dT (tT L)), s7, s8, s9] st = some (.nx, [.v (harpP h), .v (intsP lot), .lk (fTR R), e3, .v (.int base), e5, .own (.dT (tT (ws.foldl (fun L way => stepW lot R L ((base + way) % h.size)) L))), s7', s8', s9'], st)
  | [], L, s7, s8, s9, _ => ⟨s7, s8, s9, rfl⟩
  | w :: ws, L, s7, s8, s9, hl => by
    have hl2 : L.length + R.length + ws.length * R.length ≤ 1000000 := by
      rw [List.length_cons, Nat.add_mul, Nat.one_mul] at hl; omega
    have hsl := stepW_len lot R L ((base + w) % h.size)
    have key : ∃ s9', wayB [.v (harpP h), .v (intsP lot), .lk (fTR R), e3, .v (.int base), e5, .own (.dT (tT L)), .v (.int w), s8, s9] st = some (.nx, [.v (harpP h), .v (intsP lot), .lk (fTR R), e3, .v (.int base), e5, .own (.dT (tT (stepW lot R L ((base + w) % h.size)))), .v (.int w), .v (.int ((base + w) % h.size)), s9'], st) := by
      obtain ⟨s9', hrow⟩ := row_loop (e0 := .v (harpP h)) (e1 := .v (intsP lot)) (e2 := .lk (fTR R)) (e3 := e3) (e4 := .v (.int base)) (e5 := e5) (e7 := .v (.int w)) (kind := (base + w) % h.size) (st := st) R L s9 (by omega) hr
      by_cases hk : (base + w) % h.size ∈ lot
      · refine ⟨s9', ?_⟩
        have ek := ev_keysV [.v (harpP h), .v (intsP lot), .lk (fTR R), e3, .v (.int base), e5, .own (.dT (tT L)), .v (.int w), .v (.int ((base + w) % h.size)), s9] st (i := 2) rfl (keysOf_fTR R)
        simp [wayB, hs, hk, ek, hrow, stepW]
      · refine ⟨s9, ?_⟩
        simp [wayB, hs, hk, stepW, loopD_nil]
    obtain ⟨s9', key⟩ := key
    obtain ⟨a, b, c, ih⟩ := way_loop hs (lot := lot) (R := R) (e3 := e3) (e5 := e5) (base := base) (st := st) hr ws (stepW lot R L ((base + w) % h.size)) (.v (.int w)) (.v (.int ((base + w) % h.size))) s9' (by omega)
    refine ⟨a, b, c, ?_⟩
    rw [List.map_cons, loopD_cons, List.foldl_cons, ← ih]
    simp [key]
theorem stepL_rows {h : Harp} {lot : List Int} {R : List (List Int)} {n : Nat} (hr : ∀ r ∈ R, r.length ≤ n) (base : Int) : ∀ r ∈ stepL h lot R base, r.length ≤ n + 1 := by
  have fw : ∀ (rows L : List (List Int)) (k : Int), (∀ r ∈ rows, r.length ≤ n) → (∀ r ∈ L, r.length ≤ n + 1) → ∀ r ∈ rows.foldl (fun L row => addR L (normR (row ++ [k]))) L, r.length ≤ n + 1 := by
    intro rows
    induction rows with
    | nil => intro L k _ h2; exact h2
    | cons a rows ih =>
      intro L k h1 h2
      refine ih _ k (fun r hr => h1 r (List.mem_cons_of_mem _ hr)) fun r hr => ?_
      rcases mem_addR.mp hr with z | rfl
      · exact h2 r z
      · have := normR_len (a ++ [k])
        have := h1 a List.mem_cons_self
        simp at *; omega
  have fs : ∀ (L : List (List Int)) (k : Int), (∀ r ∈ L, r.length ≤ n + 1) → ∀ r ∈ stepW lot R L k, r.length ≤ n + 1 := by
    intro L k h2
    unfold stepW
    split
    · exact fw R L k hr h2
    · exact h2
  have fd : ∀ (rows L : List (List Int)), (∀ r ∈ rows, r.length ≤ n) → (∀ r ∈ L, r.length ≤ n + 1) → ∀ r ∈ rows.foldl addR L, r.length ≤ n + 1 := by
    intro rows
    induction rows with
    | nil => intro L _ h2; exact h2
    | cons a rows ih =>
      intro L h1 h2
      refine ih _ (fun r hr => h1 r (List.mem_cons_of_mem _ hr)) fun r hr => ?_
      rcases mem_addR.mp hr with z | rfl
      · exact h2 r z
      · have := h1 r List.mem_cons_self
        omega
  exact fs _ _ (fs _ _ (fs _ _ (fd R [] hr (by simp))))
theorem can_give_ok {h : Harp} (ok : HarpOk h) (lot : List Int) (st : MS) : df__law_can_give A [harpP h, intsP lot] st = some (.v (.bl (decide (lot ∈ reachR h lot))), st) := by
  have hs := ok.spos
  have h9 := ok.nine
  simp [df__law_can_give, d__law_can_give, pv_oT0]
  refine for_run (fun rest env s => s = st ∧ ∃ done s3 s4 s5 s6 s7 s8 s9, h.ls = done ++ rest ∧ env = [.v (harpP h), .v (intsP lot), .v (fTR (done.foldl (fun R l => stepL h lot R l.2.1) [[]])), s3, s4, s5, s6, s7, s8, s9] ∧ (done.foldl (fun R l => stepL h lot R l.2.1) [[]]).length ≤ 4 ^ done.length ∧ ∀ r ∈ (done.foldl (fun R l => stepL h lot R l.2.1) [[]]), r.length ≤ done.length) h.ls
    ⟨rfl, [], .un, .un, .un, .un, .un, .un, .un, rfl, rfl, by simp, by simp⟩ ?_ ?_
  · rintro l rest env s ⟨rfl, done, s3, s4, s5, s6, s7, s8, s9, hd, rfl, hlen, hrow⟩
    obtain ⟨R, hR⟩ : ∃ R, R = done.foldl (fun R l => stepL h lot R l.2.1) [[]] := ⟨_, rfl⟩
    rw [← hR] at hlen hrow ⊢
    have hdl : done.length ≤ 8 := by
      have := congrArg List.length hd
      rw [List.length_append, List.length_cons] at this; omega
    have hR4 : R.length ≤ 65536 := Nat.le_trans hlen (Nat.le_trans (Nat.pow_le_pow_right (by omega) hdl) (by decide))
    have hd0 := fold_len addR addR_len R []
    simp only [List.length_nil] at hd0
    obtain ⟨s7', s8', s9', hw⟩ := way_loop (h := h) hs (lot := lot) (R := R) (e3 := .v (.str l.1)) (e5 := .v (.int l.2.2)) (base := l.2.1) (st := s) (fun r hr => by have := hrow r hr; omega) pos3 (R.foldl addR []) s7 s8 s9 (by simp [pos3]; omega)
    refine ⟨_, [.v (harpP h), .v (intsP lot), .v (fTR (stepL h lot R l.2.1)), .v (.str l.1), .v (.int l.2.1), .v (.int l.2.2), .v (fTR (stepL h lot R l.2.1)), s7'.unlk, s8'.unlk, s9'.unlk], s, by simp [letterP]; rfl, ?_, rfl, done ++ [l], .v (.str l.1), .v (.int l.2.1), .v (.int l.2.2), .v (fTR (stepL h lot R l.2.1)), s7'.unlk, s8'.unlk, s9'.unlk, by simp [hd], ?_, ?_, ?_⟩
    · rw [ev_sLk _ _ (i := 2) (p := fTR R) rfl rfl]
      simp
      have fitR : Fit R.length := by show R.length ≤ sizeLine; rw [sizeLine_eq]; omega
      have hw' : loopD (gName' 7) (sSeq (sSet .V 8 (xBin fMod (xApp fIntC (aCons (xBin fAdd (xVar 4) (xVar 7)) aNil)) (xBin fIx (xVar 0) (xC (PV.int 0)))))
        (sFor (iKeysIf 2 (tB' (xBin (fIn false) (xVar 8) (xVar 1))) true (xLst aNil)) (gName' 9) (sAsgG (xC (PV.bl true)) (gmSub (pVar 6) (xApp fTuple (aCons (xApp fSorted2 (aCons (xApp fSet2 (aCons (xBin fAdd (xVar 9) (xTup (aCons (xVar 8) aNil))) aNil)) aNil)) aNil))))))
        [PV.int (-1), PV.int 0, PV.int 1] [.v (harpP h), .v (intsP lot), .lk (fTR R), .v (.str l.1), .v (.int l.2.1), .v (.int l.2.2), .own (.dT (tT (R.foldl addR []))), s7, s8, s9] s = some (.nx, [.v (harpP h), .v (intsP lot), .lk (fTR R), .v (.str l.1), .v (.int l.2.1), .v (.int l.2.2), .own (.dT (tT (stepL h lot R l.2.1))), s7', s8', s9'], s) := hw
      have e9 : sFrz 6 (sSet .V 2 (xVar 6)) [.v (harpP h), .v (intsP lot), .lk (fTR R), .v (.str l.1), .v (.int l.2.1), .v (.int l.2.2), .own (.dT (tT (stepL h lot R l.2.1))), s7', s8', s9'] s = some (.nx, [.v (harpP h), .v (intsP lot), .v (fTR (stepL h lot R l.2.1)), .v (.str l.1), .v (.int l.2.1), .v (.int l.2.2), .v (fTR (stepL h lot R l.2.1)), s7', s8', s9'], s) := by
        rw [ev_sFrz _ _ (i := 6) rfl (fr_tT _)]
        simp
      rw [ev_keysV _ _ (i := 2) rfl (keysOf_fTR R), bnd_some]
      simp only
      rw [compD_map (fun r => PV.tup [.tup (r.map PV.int), .bl true]) R fun r hr => ⟨_, by simp; rfl, by simp, by simp⟩]
      simp only [bnd_some, List.length_map, gd_true fitR, dictT_rowsO, ev_slotO, hw', seqE_nx, e9, mpO_some]
      rfl
    · rw [List.foldl_append, ← hR]; rfl
    · rw [List.foldl_append, ← hR]
      have := stepL_len h lot R l.2.1
      show (stepL h lot R l.2.1).length ≤ _
      rw [List.length_append, List.length_singleton, Nat.pow_succ]; omega
    · rw [List.foldl_append, ← hR]
      intro r hr
      have := stepL_rows hrow l.2.1 r hr
      rw [List.length_append, List.length_singleton]; exact this
  · rintro e s ⟨rfl, done, s3, s4, s5, s6, s7, s8, s9, hd, rfl, hlen, hrow⟩
    simp only [List.append_nil] at hd
    subst hd
    have e1 : fIn false (.v (intsP lot)) (.v (fTR (reachR h lot))) s = _ := in_fTR false lot (reachR h lot) s
    have e2 : h.ls.foldl (fun R l => stepL h lot R l.2.1) [[]] = reachR h lot := rfl
    rw [e2]
    simp [e1]
end K00
/-! M00p -/
namespace K00
open PySem PySem.Spec PyProof.Rows L2 DD
variable {A : Ad}
theorem mem_fold_addR {α : Type} (f : α → List Int) : ∀ (xs : List α) (L : List (List Int)) (r : List Int), r ∈ xs.foldl (fun L a => addR L (f a)) L ↔ r ∈ L ∨ ∃ a ∈ xs, r = f a
  | [], L, r => by simp
  | a :: xs, L, r => by
    rw [List.foldl_cons, mem_fold_addR f xs, mem_addR]
    constructor
    · rintro ((z | z) | ⟨b, hb, z⟩)
      · exact .inl z
      · exact .inr ⟨a, List.mem_cons_self, z⟩
      · exact .inr ⟨b, List.mem_cons_of_mem _ hb, z⟩
    · rintro (z | ⟨b, hb, z⟩)
      · exact .inl (.inl z)
      · rcases List.mem_cons.mp hb with rfl | hb
        · exact .inl (.inr z)
        · exact .inr ⟨b, hb, z⟩
theorem mem_stepW {lot : List Int} {R L : List (List Int)} {k : Int} {r : List Int} : r ∈ stepW lot R L k ↔ r ∈ L ∨ (k ∈ lot ∧ ∃ row ∈ R, r = normR (row ++ [k])) := by
  unfold stepW
  split
  · rename_i h
    rw [mem_fold_addR (fun row => normR (row ++ [k]))]
    simp [h]
  · rename_i h; simp [h]
theorem mem_stepL {h : Harp} {lot : List Int} {R : List (List Int)} {base : Int} {r : List Int} : r ∈ stepL h lot R base ↔ r ∈ R ∨ ∃ way ∈ pos3, (base + way) % h.size ∈ lot ∧ ∃ row ∈ R, r = normR (row ++ [(base + way) % h.size]) := by
  have e : stepL h lot R base = stepW lot R (stepW lot R (stepW lot R (R.foldl addR []) ((base + -1) % h.size)) ((base + 0) % h.size)) ((base + 1) % h.size) := rfl
  have e0 : r ∈ R.foldl addR [] ↔ r ∈ R := by
    have := mem_fold_addR (fun r => r) R [] r
    rw [this]; simp
  rw [e, mem_stepW, mem_stepW, mem_stepW, e0]
  constructor
  · rintro (((z | ⟨a, b⟩) | ⟨a, b⟩) | ⟨a, b⟩)
    · exact .inl z
    · exact .inr ⟨-1, by simp [pos3], a, b⟩
    · exact .inr ⟨0, by simp [pos3], a, b⟩
    · exact .inr ⟨1, by simp [pos3], a, b⟩
  · rintro (z | ⟨w, hw, a, b⟩)
    · exact .inl (.inl (.inl z))
    · simp only [pos3, List.mem_cons, List.not_mem_nil, or_false] at hw
      rcases hw with rfl | rfl | rfl
      · exact .inl (.inl (.inr ⟨a, b⟩))
      · exact .inl (.inr ⟨a, b⟩)
      · exact .inr ⟨a, b⟩
theorem mem_normR {r : List Int} {k : Int} : k ∈ normR r ↔ k ∈ r := by
  unfold normR; rw [(srt_perm _).mem_iff, mem_ddI]
theorem normR_strict (r : List Int) : (normR r).Pairwise (· < ·) := srt_strict (nodup_ddI r)
/-- kinds put to letters -/
def Asg (h : Harp) (lot : List Int) (i : Nat) (g : Nat → Option Int) : Prop := ∀ l k, g l = some k → l < i ∧ k ∈ lot ∧ l ∈ giv h k
structure Reach (h : Harp) (lot : List Int) (i : Nat) (R : List (List Int)) : Prop where
  sound : ∀ r ∈ R, r.Pairwise (· < ·) ∧ ∃ g, Asg h lot i g ∧ ∀ k, k ∈ r ↔ ∃ l, g l = some k
  full : ∀ g, Asg h lot i g → ∃ r ∈ R, ∀ k, k ∈ r ↔ ∃ l, g l = some k
theorem Reach.step {h : Harp} (ok : HarpOk h) {lot : List Int} (lo : LotOk h lot) {i : Nat} (hi : i < h.ls.length) {R : List (List Int)} (H : Reach h lot i R) : Reach h lot (i + 1) (stepL h lot R (h.bases.getD i 0)) where
  sound := by
    intro r hr
    rcases mem_stepL.mp hr with z | ⟨w, hw, hk, row, hrow, rfl⟩
    · obtain ⟨h1, g, h2, h3⟩ := H.sound r z
      exact ⟨h1, g, fun l k e => by have := h2 l k e; exact ⟨by omega, this.2⟩, h3⟩
    · refine ⟨normR_strict _, ?_⟩
      obtain ⟨_, g, h2, h3⟩ := H.sound row hrow
      have hgi : ∀ k, g i ≠ some k := fun k e => by have := (h2 i k e).1; omega
      refine ⟨updF g i ((h.bases.getD i 0 + w) % h.size), fun l k e => ?_, fun k => ?_⟩
      · unfold updF at e
        split at e
        · rename_i q
          subst q
          cases e
          refine ⟨by omega, hk, giv_of ok hi ?_ rfl⟩
          simpa [pos3] using hw
        · have := h2 l k e
          exact ⟨by omega, this.2⟩
      · rw [mem_normR, List.mem_append, h3]
        constructor
        · rintro (⟨l, e⟩ | z)
          · refine ⟨l, ?_⟩
            unfold updF
            rw [if_neg (fun (q : l = i) => hgi k (by rw [← q]; exact e))]; exact e
          · simp at z
            exact ⟨i, by unfold updF; rw [if_pos rfl, z, List.getD_eq_getElem?_getD]⟩
        · rintro ⟨l, e⟩
          unfold updF at e
          split at e
          · cases e; right; simp
          · left; exact ⟨l, e⟩
  full := by
    intro g hg
    cases q : g i with
    | none =>
      obtain ⟨r, hr, e⟩ := H.full g fun l k e => by
        have := hg l k e
        have ne : l ≠ i := fun z => by rw [z, q] at e; cases e
        exact ⟨by omega, this.2⟩
      exact ⟨r, mem_stepL.mpr (.inl hr), e⟩
    | some kind =>
      have hgi := hg i kind q
      obtain ⟨row, hrow, e⟩ := H.full (fun l => if l = i then none else g l) fun l k e => by
        simp only at e
        split at e
        · cases e
        · rename_i ne
          have := hg l k e
          exact ⟨by omega, this.2⟩
      obtain ⟨p, _, hp, e2⟩ := posFor_some ok (lo.rg kind hgi.2.1) hgi.2.2
      refine ⟨normR (row ++ [kind]), mem_stepL.mpr (.inr ⟨p, ?_, ?_, row, hrow, by rw [e2]⟩), fun k => ?_⟩
      · simp [pos3]; omega
      · rw [e2]; exact hgi.2.1
      · rw [mem_normR, List.mem_append, e]
        constructor
        · rintro (⟨l, z⟩ | z)
          · split at z
            · cases z
            · exact ⟨l, z⟩
          · simp at z; exact ⟨i, by rw [q, z]⟩
        · rintro ⟨l, z⟩
          by_cases w : l = i
          · subst w; rw [q] at z; cases z; right; simp
          · left; exact ⟨l, by simp only [if_neg w]; exact z⟩
theorem reach_ok {h : Harp} (ok : HarpOk h) {lot : List Int} (lo : LotOk h lot) : Reach h lot h.ls.length (reachR h lot) := by
  have key : ∀ (rest done : List (Str × Int × Int)) (R : List (List Int)), h.ls = done ++ rest → Reach h lot done.length R → Reach h lot h.ls.length (rest.foldl (fun R l => stepL h lot R l.2.1) R) := by
    intro rest
    induction rest with
    | nil => intro done R hd H; rw [hd, List.append_nil]; exact H
    | cons l rest ih =>
      intro done R hd H
      refine ih (done ++ [l]) _ (by simp [hd]) ?_
      have hi : done.length < h.ls.length := by rw [hd]; simp
      have hb : h.bases.getD done.length 0 = l.2.1 := by
        unfold Harp.bases
        rw [List.getD_eq_getElem?_getD, List.getElem?_map, hd, List.getElem?_append_right (Nat.le_refl _), Nat.sub_self]; rfl
      have := H.step ok lo hi
      rw [hb] at this
      rw [List.length_append, List.length_singleton]
      exact this
  refine key h.ls [] [[]] rfl ⟨?_, ?_⟩
  · intro r hr
    simp at hr; subst hr
    exact ⟨.nil, fun _ => none, (fun l k e => by cases e), fun k => by simp⟩
  · intro g hg
    refine ⟨[], by simp, fun k => ?_⟩
    simp
    intro l e
    have := (hg l k e).1
    simp at this
theorem strict_ext : ∀ {xs ys : List Int}, xs.Pairwise (· < ·) → ys.Pairwise (· < ·) → (∀ k, k ∈ xs ↔ k ∈ ys) → xs = ys
  | [], [], _, _, _ => rfl
  | [], y :: ys, _, _, h => by have := (h y).mpr List.mem_cons_self; cases this
  | x :: xs, [], _, _, h => by have := (h x).mp List.mem_cons_self; cases this
  | x :: xs, y :: ys, hx, hy, h => by
    have hx' := List.pairwise_cons.mp hx
    have hy' := List.pairwise_cons.mp hy
    have e : x = y := by
      have h1 := (h x).mp List.mem_cons_self
      have h2 := (h y).mpr List.mem_cons_self
      rcases List.mem_cons.mp h1 with z | z
      · exact z
      · rcases List.mem_cons.mp h2 with w | w
        · exact w.symm
        · have a := hx'.1 y w
          have b := hy'.1 x z
          omega
    subst e
    congr 1
    refine strict_ext hx'.2 hy'.2 fun k => ?_
    constructor
    · intro z
      have := (h k).mp (List.mem_cons_of_mem _ z)
      rcases List.mem_cons.mp this with w | w
      · have := hx'.1 k z; omega
      · exact w
    · intro z
      have := (h k).mpr (List.mem_cons_of_mem _ z)
      rcases List.mem_cons.mp this with w | w
      · have := hy'.1 k z; omega
      · exact w
theorem gives_of_had {h : Harp} (ok : HarpOk h) {lot : List Int} (lo : LotOk h lot) (A : Ad) (hh : hadB h lot = true) : ∃ ps, Gives h lot ps := by
  obtain ⟨_, _, v, more, _, hv⟩ := setting_for_ok (A := A) ok lo []
  have e := setRes_had ok lo hv
  rcases hv with ⟨rfl, _⟩ | ⟨ps, _, g⟩
  · rw [hh] at e; cases e
  · exact ⟨ps, g⟩
theorem can_had {h : Harp} (ok : HarpOk h) {lot : List Int} (lo : LotOk h lot) (hs : lot.Pairwise (· < ·)) (A : Ad) : decide (lot ∈ reachR h lot) = hadB h lot := by
  have H := reach_ok ok lo
  rw [Bool.eq_iff_iff, decide_eq_true_eq]
  constructor
  · intro z
    obtain ⟨_, g, h1, h2⟩ := H.sound lot z
    have pp : ∀ l k, g l = some k → ∃ p, posFor h l k = some p ∧ (p = -1 ∨ p = 0 ∨ p = 1) ∧ (h.bases.getD l 0 + p) % h.size = k := fun l k e => posFor_some ok (lo.rg k (h1 l k e).2.1) (h1 l k e).2.2
    have g' : Gives h lot ((List.range h.ls.length).map fun l => match g l with | some k => (posFor h l k).getD 0 | none => 0) := by
      refine ⟨by simp, fun p hp => ?_, fun k hk => ?_⟩
      · obtain ⟨l, _, rfl⟩ := List.mem_map.mp hp
        cases q : g l with
        | none => simp
        | some k =>
          obtain ⟨p, p1, p2, _⟩ := pp l k q
          simp only [p1, Option.getD_some]; exact p2
      · obtain ⟨l, e⟩ := (h2 k).mp hk
        refine ⟨l, (h1 l k e).1, ?_⟩
        obtain ⟨p, p1, p2, p3⟩ := pp l k e
        rw [List.getD_eq_getElem?_getD (l := List.map _ _), List.getElem?_map, List.getElem?_range (h1 l k e).1]
        simp only [Option.map_some, Option.getD_some, e, p1]
        exact p3
    unfold hadB
    rw [List.all_eq_true]
    exact fun a ha => by rw [gives_no_full ok lo g' a ha]; rfl
  · intro hh
    obtain ⟨ps, G⟩ := gives_of_had ok lo A hh
    have hp : ∀ l, l < h.ls.length → (ps.getD l 0 = -1 ∨ ps.getD l 0 = 0 ∨ ps.getD l 0 = 1) := fun l hl => G.pos _ (by
      rw [List.getD_eq_getElem?_getD, List.getElem?_eq_getElem (by rw [G.len]; exact hl)]
      exact List.getElem_mem _)
    obtain ⟨r, hr, e⟩ := H.full (fun l => if l < h.ls.length ∧ (h.bases.getD l 0 + ps.getD l 0) % h.size ∈ lot then some ((h.bases.getD l 0 + ps.getD l 0) % h.size) else none) fun l k e => by
      simp only at e
      split at e
      · rename_i q
        cases e
        exact ⟨q.1, q.2, giv_of ok q.1 (hp l q.1) rfl⟩
      · cases e
    have : r = lot := strict_ext (H.sound r hr).1 hs fun k => by
      rw [e]
      constructor
      · rintro ⟨l, z⟩
        split at z
        · rename_i q; cases z; exact q.2
        · cases z
      · intro hk
        obtain ⟨i, hi, z⟩ := G.all k hk
        exact ⟨i, by rw [if_pos ⟨hi, by rw [z]; exact hk⟩, z]⟩
    exact this ▸ hr
end K00
/-! MSame -/
namespace DD
open PySem PySem.Spec PyProof.Rows L2
/-! plain data -/
inductive Plain : Nat → PV → Prop
  | non {n} : Plain n .non
  | bl {n b} : Plain n (.bl b)
  | int {n i} : Plain n (.int i)
  | tup {n xs} : (∀ x ∈ xs, Plain n x) → Plain (n + 1) (.tup xs)
  | lst {n xs} : (∀ x ∈ xs, Plain n x) → Plain (n + 1) (.lst xs)
theorem Plain.up {n : Nat} {p : PV} (h : Plain n p) : Plain (n + 1) p := by
  induction h with
  | non => exact .non
  | bl => exact .bl
  | int => exact .int
  | tup _ ih => exact .tup ih
  | lst _ ih => exact .lst ih
mutual
def psz : PV → Nat
  | .tup xs => 1 + pszs xs
  | .lst xs => 1 + pszs xs
  | _ => 1
def pszs : List PV → Nat
  | [] => 0
  | x :: xs => psz x + pszs xs
end
theorem psz_pos (p : PV) : 1 ≤ psz p := by cases p <;> simp [psz]
theorem pszs_app : ∀ xs ys : List PV, pszs (xs ++ ys) = pszs xs + pszs ys
  | [], ys => by simp [pszs]
  | x :: xs, ys => by simp [pszs, pszs_app xs ys]; omega
theorem pszs_len : ∀ xs : List PV, xs.length ≤ pszs xs
  | [] => by simp
  | x :: xs => by have := pszs_len xs; have := psz_pos x; simp [pszs]; omega
theorem fEqD_nil' {x : XV} {st : MS} {ds : List PyData} (hx : x.dat st = some (.list ds)) (hs : SeqAt.shaped (.list ds) = true) : fEqD false x (.o (.lst [])) st = some (.v (.bl ds.isEmpty)) := by
  have e2 : (XV.o (.lst [])).dat st = some (.list []) := rfl
  unfold fEqD
  rw [hx, e2, Option.bind_some, Option.bind_some, if_pos ⟨hs, rfl⟩]
  cases ds <;> rfl
theorem dats_ex {n : Nat} : ∀ {xs : List PV}, (∀ x ∈ xs, ∃ d, x.dat = some d ∧ d.canLay0 = true ∧ d.depth ≤ n) → ∃ ds, PV.dats xs = some ds ∧ PyData.canLayAll0 ds = true ∧ PyData.depthAll ds ≤ n ∧ ds.length = xs.length
  | [], _ => ⟨[], by simp [PV.dats], rfl, Nat.zero_le _, rfl⟩
  | x :: xs, h => by
    obtain ⟨d, h1, h2, h3⟩ := h x List.mem_cons_self
    obtain ⟨ds, g1, g2, g3, g4⟩ := dats_ex (n := n) (xs := xs) fun y hy => h y (List.mem_cons_of_mem _ hy)
    refine ⟨d :: ds, ?_, ?_, ?_, by simp [g4]⟩
    · unfold PV.dats; rw [h1, g1]; rfl
    · show (d.canLay0 && PyData.canLayAll0 ds) = true; rw [h2, g2]; rfl
    · show max d.depth (PyData.depthAll ds) ≤ n; omega
theorem Plain.dat {n : Nat} {p : PV} (h : Plain n p) : ∃ d, p.dat = some d ∧ d.canLay0 = true ∧ d.depth ≤ n := by
  induction h with
  | non => exact ⟨.none, by simp [PV.dat], rfl, Nat.zero_le _⟩
  | bl => exact ⟨_, by simp [PV.dat]; rfl, rfl, Nat.zero_le _⟩
  | int => exact ⟨_, by simp [PV.dat]; rfl, rfl, Nat.zero_le _⟩
  | @tup n xs _ ih =>
    obtain ⟨ds, h1, h2, h3, _⟩ := dats_ex ih
    refine ⟨.tuple ds, by unfold PV.dat; rw [h1]; rfl, h2, ?_⟩
    show PyData.depthAll ds + 1 ≤ n + 1; omega
  | @lst n xs _ ih =>
    obtain ⟨ds, h1, h2, h3, _⟩ := dats_ex ih
    refine ⟨.list ds, by unfold PV.dat; rw [h1]; rfl, h2, ?_⟩
    show PyData.depthAll ds + 1 ≤ n + 1; omega
def dup (p : PV) : PV := .tup [p, p]
theorem nilB_plain {ps : List PV} (h : ∀ p ∈ ps, Plain 20 p) (st : MS) : fEq (.b (.lst (ps.map dup))) (.o (.lst [])) st = some (.v (.bl ps.isEmpty)) := by
  obtain ⟨ds, h1, h2, h3, h4⟩ := dats_ex (n := 21) (xs := ps.map dup) fun x hx => by
    obtain ⟨p, hp, rfl⟩ := List.mem_map.mp hx
    exact (Plain.tup (n := 20) (xs := [p, p]) fun y hy => by simp at hy; rw [hy]; exact h p hp).dat
  show fEqD false _ _ _ = _
  rw [fEqD_nil' (show (XV.b (.lst (ps.map dup))).dat st = some (.list ds) by show (PV.dats (ps.map dup)).map PyData.list = _; rw [h1]; rfl) (by
    show (PyData.canLayAll0 ds && decide (PyData.depthAll ds + 1 ≤ 64)) = true
    rw [h2, decide_eq_true (by omega)]; rfl)]
  rw [List.length_map] at h4
  cases ds <;> cases ps <;> simp_all
end DD
/-! M00q -/
namespace K00
open PySem PySem.Spec PyProof.Rows L2 DD
variable {A : Ad}
theorem pop_dup (qs : List PV) (p : PV) : mPop (.lst ((qs ++ [p]).map dup)) [] = some (.lst (qs.map dup), dup p) := by
  simp
theorem range1_big {d : DA} {env : DEnv} {st st' : MS} {j : Int} (h : d env st = some ([.v (.int j)], st')) (hj : -1000000000 ≤ j ∧ j ≤ 1000000000) : iRange1 d env st = some ((List.range j.toNat).map fun (k : Nat) => PV.int (k : Int), st') := by
  unfold iRange1
  rw [h, Option.bind_some]
  exact if_pos (by rw [p62]; omega)
theorem fit_of {n : Nat} (h : n ≤ 16000000) : Fit n := by show n ≤ sizeLine; rw [sizeLine_eq]; omega
theorem getP {xs : List PV} {k : Nat} (hk : k < xs.length) : atI xs (k : Int) = some xs[k] := by rw [atI_nat' _ _ hk, List.getElem?_eq_getElem hk]
theorem pairs_at (xs : List PV) : (List.range xs.length).map (fun k => PV.tup [xs.getD k .non, xs.getD k .non]) = xs.map dup := by
  refine List.ext_getElem (by simp) fun i h1 h2 => ?_
  simp [dup]
  simp at h1
  simp [h1]
theorem law_same_ok {p : PV} (hp : Plain 20 p) (hz : psz p < 3999999) (st : MS) : df__law_same A [p, p] st = some (.v (.bl true), st) := by
  have e0 : ([PV.tup [p, p]] : List PV) = [p].map dup := rfl
  simp [df__law_same, d__law_same]
  rw [range1_big (j := 4000000) (st' := st) (by simp) (by omega), e0]
  simp only [bnd_some]
  refine for_ret (fun rest env s => s = st ∧ ∃ ps s3 s4 s5 s6, env = [.v p, .v p, .own (.lst (ps.map dup)), s3, s4, s5, s6] ∧ (∀ q ∈ ps, Plain 20 q) ∧ pszs ps < rest.length ∧ rest.length ≤ 4000000) (fun x s => x = .v (.bl true) ∧ s = st) (List.range (4000000 : Int).toNat) ?_ ?_ ?_ ?_
  · refine ⟨rfl, [p], _, _, _, _, rfl, by simpa using hp, ?_⟩
    have e1 : (List.range (4000000 : Int).toNat).length = 4000000 := by rw [List.length_range]; rfl
    rw [e1]
    simp [pszs]
    omega
  · rintro t rest env s ⟨rfl, ps, s3, s4, s5, s6, rfl, hpl, hsz, hrl⟩
    refine ⟨_, by simp; rfl, ?_⟩
    have hn := nilB_plain hpl s
    rcases List.eq_nil_or_concat ps with rfl | ⟨qs, q, rfl⟩
    · right
      refine ⟨.v (.bl true), [.v p, .v p, .own (.lst []), .v (.int (t : Int)), s4, s5, s6], s, ?_, rfl, rfl⟩
      simp only [List.map_nil] at hn
      simp [hn]
    · left
      simp only [List.concat_eq_append] at hpl hsz hn ⊢
      have hq : Plain 20 q := hpl q (by simp)
      have hqs : ∀ x ∈ qs, Plain 20 x := fun x hx => hpl x (by simp [hx])
      have hne : (qs ++ [q]).isEmpty = false := by simp
      rw [hne] at hn
      have hpop := pop_dup qs q
      rw [pszs_app] at hsz
      simp only [pszs, List.length_cons] at hsz
      have hz1 := psz_pos q
      -- data without parts
      have flat : ∀ e4 : List PV, True := fun _ => True.intro
      cases hq with
      | non =>
        refine ⟨[.v p, .v p, .own (.lst (qs.map dup)), .v (.int (t : Int)), .v .non, .v .non, s6], s, ?_, rfl, qs, _, _, _, _, rfl, hqs, by omega, by rw [List.length_cons] at hrl; omega⟩
        simp [hn, ev_mMut, -List.map_append, hpop, dup]
      | bl =>
        rename_i b
        refine ⟨[.v p, .v p, .own (.lst (qs.map dup)), .v (.int (t : Int)), .v (.bl b), .v (.bl b), s6], s, ?_, rfl, qs, _, _, _, _, rfl, hqs, by omega, by rw [List.length_cons] at hrl; omega⟩
        simp [hn, ev_mMut, -List.map_append, hpop, dup]
      | int =>
        rename_i b
        refine ⟨[.v p, .v p, .own (.lst (qs.map dup)), .v (.int (t : Int)), .v (.int b), .v (.int b), s6], s, ?_, rfl, qs, _, _, _, _, rfl, hqs, by omega, by rw [List.length_cons] at hrl; omega⟩
        simp [hn, ev_mMut, -List.map_append, hpop, dup]
      | tup hx =>
        rename_i xs
        refine ⟨[.v p, .v p, .own (.lst ((qs ++ xs).map dup)), .v (.int (t : Int)), .v (.tup xs), .v (.tup xs), s6], s, ?_, rfl, qs ++ xs, _, _, _, _, rfl, fun x hx' => (List.mem_append.mp hx').elim (hqs x) fun z => (hx x z).up, by rw [pszs_app]; simp only [psz] at hsz; omega, by rw [List.length_cons] at hrl; omega⟩
        have l1 := pszs_len xs
        have l2 := pszs_len qs
        have hr : rest.length ≤ 4000000 := by rw [List.length_cons] at hrl; omega
        simp [hn, ev_mMut, -List.map_append, hpop, dup]
        rw [range1_big (j := (xs.length : Int)) (st' := s) (by simp) (by simp only [psz] at hsz; omega)]
        simp
        rw [compD_map (fun k => PV.tup [xs.getD k .non, xs.getD k .non]) (List.range xs.length) fun k hk => by
          have hk' := List.mem_range.mp hk
          refine ⟨_, by simp; rfl, by simp, ?_⟩
          simp [getP hk', hk'], pairs_at]
        simp only [psz] at hsz
        simp [fit_of (show xs.length ≤ 16000000 by omega), fit_of (show qs.length + xs.length ≤ 16000000 by omega)]
      | lst hx =>
        rename_i xs
        refine ⟨[.v p, .v p, .own (.lst ((qs ++ xs).map dup)), .v (.int (t : Int)), .v (.lst xs), .v (.lst xs), s6], s, ?_, rfl, qs ++ xs, _, _, _, _, rfl, fun x hx' => (List.mem_append.mp hx').elim (hqs x) fun z => (hx x z).up, by rw [pszs_app]; simp only [psz] at hsz; omega, by rw [List.length_cons] at hrl; omega⟩
        have l1 := pszs_len xs
        have l2 := pszs_len qs
        have hr : rest.length ≤ 4000000 := by rw [List.length_cons] at hrl; omega
        simp [hn, ev_mMut, -List.map_append, hpop, dup]
        rw [range1_big (j := (xs.length : Int)) (st' := s) (by simp) (by simp only [psz] at hsz; omega)]
        simp
        rw [compD_map (fun k => PV.tup [xs.getD k .non, xs.getD k .non]) (List.range xs.length) fun k hk => by
          have hk' := List.mem_range.mp hk
          refine ⟨_, by simp; rfl, by simp, ?_⟩
          simp [getP hk', hk'], pairs_at]
        simp only [psz] at hsz
        simp [fit_of (show xs.length ≤ 16000000 by omega), fit_of (show qs.length + xs.length ≤ 16000000 by omega)]
  · rintro e s ⟨rfl, ps, s3, s4, s5, s6, rfl, hpl, hsz, hrl⟩
    simp at hsz
  · rintro x e s ⟨rfl, rfl⟩
    simp
end K00
/-! M00r -/
namespace K00
open PySem PySem.Spec PyProof.Rows L2 DD
variable {A : Ad}
def fullL (h : Harp) (lot : List Int) : List (Int × Int) := (arcsL h.ls.length).filter (fullB h lot)
theorem fullL_find (h : Harp) (lot : List Int) : (arcsL h.ls.length).find? (fullB h lot) = (fullL h lot).head? := by
  unfold fullL; rw [List.head?_filter]
theorem fullL_len {h : Harp} (ok : HarpOk h) (lot : List Int) : (fullL h lot).length ≤ 74 := Nat.le_trans (List.length_filter_le _ _) (arcsL_len ok.nine)
theorem fullL_nil (h : Harp) (lot : List Int) : decide (fullL h lot = []) = hadB h lot := by
  unfold fullL hadB
  rw [Bool.eq_iff_iff, decide_eq_true_eq, List.filter_eq_nil_iff, List.all_eq_true]
  simp
theorem plain_ints {n : Nat} (ns : List Int) : Plain (n + 1) (intsP ns) := .tup fun x hx => by
  obtain ⟨i, _, rfl⟩ := List.mem_map.mp hx; exact .int
theorem plain_pair {n : Nat} (a : Int × Int) : Plain (n + 1) (pPV a) := .tup fun x hx => by
  simp at hx; rcases hx with rfl | rfl <;> exact .int
theorem pszs_ints : ∀ ns : List Int, pszs (ns.map PV.int) = ns.length
  | [] => rfl
  | n :: ns => by simp [pszs, psz, pszs_ints ns]; omega
theorem psz_ints (ns : List Int) : psz (intsP ns) = 1 + ns.length := by unfold intsP; simp [psz, pszs_ints]
theorem psz_pair (a : Int × Int) : psz (pPV a) = 3 := by simp [pPV, psz, pszs]
theorem grow_dd (ks : List Int) : srt (growK [] ks) = srt (ddI ks) := strict_ext (srt_strict (nodup_growK .nil)) (srt_strict (nodup_ddI ks)) fun k => by
  rw [(srt_perm _).mem_iff, (srt_perm _).mem_iff, mem_growK, mem_ddI]; simp
@[simp] theorem isiT_intsP (ns : List Int) (st : MS) : fIsi [.v (intsP ns), .v (.ty "tuple")] st = some (.v (.bl true)) := (rfl)
def MoreQ (v : PV) (st : MS) (r : XV × MS) : Prop := ∃ more, r = (.v v, st ++ more)
theorem is_lot_told_ok {h : Harp} (ok : HarpOk h) {lot : List Int} (lo : LotOk h lot) (hs : lot.Pairwise (· < ·)) (st : MS) : Ev (df__law_is_lot_told A [harpP h, intsP lot] st) (MoreQ (.bl true) st) := by
  have h9 := ok.nine
  have hsz := ok.spos
  have hl : lot.length ≤ 1000 := by have := lo.len; omega
  have hfl := fullL_len ok lot
  simp [df__law_is_lot_told, d__law_is_lot_told, law_arcs_ok ok]
  rw [compD_filter (fullB h lot) pPV (arcsL h.ls.length) fun a ha => by
    have hb := arc_bound h9 ha
    refine ⟨_, by simp; rfl, ?_, fun _ => ⟨_, by simp; rfl, rfl⟩⟩
    simp [law_inside_ok ok (show -1000 ≤ a.2 by omega) (show a.2 ≤ 1000 by omega) hl]
    rfl]
  have e1 : (arcsL h.ls.length).filter (fullB h lot) = fullL h lot := rfl
  rw [e1]
  simp [show (fullL h lot).length ≤ 10000 by omega, can_give_ok ok, -decide_eq_true_eq]
  rw [can_had ok lo hs A]
  refine Ev.bnd (setting_for_ok ok lo st) ?_
  rintro _ ⟨v, more, rfl, hv⟩
  have hv' := setRes_had ok lo hv
  simp
  refine Ev.bnd (is_had_ok ok lo _) ?_
  rintro _ ⟨more2, rfl⟩
  simp [over_full_ok ok hl, fullL_find]
  rcases hv with ⟨rfl, a, ha, haf⟩ | ⟨ps, rfl, G⟩
  · have hf : hadB h lot = false := hv'
    have hne : fullL h lot ≠ [] := fun z => by
      have := fullL_nil h lot
      rw [decide_eq_true z, hf] at this; cases this
    obtain ⟨b, r, hbr⟩ := List.exists_cons_of_ne_nil hne
    rw [hbr, hf]
    have sm : df__law_same A [.lst [.bl false, pPV b], .lst [.bl false, pPV b]] (st ++ more ++ more2) = some (.v (.bl true), st ++ more ++ more2) := law_same_ok (.lst (n := 19) fun x hx => by
      simp at hx; rcases hx with rfl | rfl
      · exact .bl
      · exact plain_pair b) (by simp [psz, pszs, psz_pair]) _
    have nn : fNe (.v (.lst (List.map pPV (b :: r)))) (.o (.lst [])) (st ++ more ++ more2) = some (.v (.bl true)) := by rw [ne_nilP]; rfl
    have nq : fEq (.v (.lst (List.map pPV (b :: r)))) (.o (.lst [])) (st ++ more ++ more2) = some (.v (.bl false)) := by rw [eq_nilP]; rfl
    simp at sm nn nq
    simp [sm, nn, nq]
    exact ⟨more ++ more2, rfl⟩
  · have hf : hadB h lot = true := hv'
    have hnil : fullL h lot = [] := by
      have := fullL_nil h lot
      rw [hf] at this; exact of_decide_eq_true this
    rw [hnil, hf]
    have sm : df__law_same A [.lst [.bl true, .non], .lst [.bl true, .non]] (st ++ more ++ more2) = some (.v (.bl true), st ++ more ++ more2) := law_same_ok (.lst (n := 19) fun x hx => by
      simp at hx; rcases hx with rfl | rfl
      · exact .bl
      · exact .non) (by simp [psz, pszs]) _
    have nn : fNe (.v (.lst [])) (.o (.lst [])) (st ++ more ++ more2) = some (.v (.bl false)) := ne_nilP [] _
    have nq : fEq (.v (.lst [])) (.o (.lst [])) (st ++ more ++ more2) = some (.v (.bl true)) := eq_nilP [] _
    simp at sm nn nq
    simp [sm, nn, nq, isiT_intsP, G.len]
    rw [compD_filter (fun p => !decide (p ∈ [-1, 0, 1])) (fun _ => PV.int 1) ps fun p hp => by
      refine ⟨_, by simp; rfl, by simp, fun _ => ⟨_, by simp; rfl, rfl⟩⟩]
    have z1 : ps.filter (fun p => !decide (p ∈ [-1, 0, 1])) = [] := by
      rw [List.filter_eq_nil_iff]
      intro p hp
      have := G.pos p hp
      simp; omega
    have z2 : fNe (.o (.lst [])) (.o (.lst [])) (st ++ (more ++ more2)) = some (.v (.bl false)) := ne_nilI [] _
    rw [z1]
    simp only [List.map_nil, bnd_some, List.length_nil, gd_true (DD.fit_le (show 0 ≤ 10000 by omega)), z2, ev_bl, mpO_some, frk_false, seqE_nx]
    have hzl : (h.ls.zip ps).length ≤ 10000 := by rw [List.length_zip]; omega
    have hkl := kinds_len ok ps
    simp only [ev_seq, ev_set, ev_lc, ev_iZip, ev_aCons, ev_aNil, ev_bin, ev_var, nth_s, nth_0, slX_v, bnd_some, mpO_some, ev_c, ix_harp1]
    have z3 : zipP (h.ls.map letterP) (ps.map PV.int) = (h.ls.zip ps).map fun q => .tup [letterP q.1, .int q.2] := zipP_gen letterP PV.int h.ls ps
    simp [z3, isT_intsP]
    rw [compD_map (fun q : (Str × Int × Int) × Int => PV.int ((q.1.2.1 + q.2) % h.size)) (h.ls.zip ps) fun q hq => by
      refine ⟨_, by simp; rfl, by simp, ?_⟩
      simp [hsz]]
    have z4 : (h.ls.zip ps).map (fun q : (Str × Int × Int) × Int => PV.int ((q.1.2.1 + q.2) % h.size)) = (kindsOf h ps).map PV.int := by
      unfold kindsOf Harp.bases
      rw [List.zip_map_left, List.map_map, List.map_map]; rfl
    rw [z4]
    simp [show (kindsOf h ps).length ≤ 10000 by omega]
    rw [compD_filter (fun k => !decide (k ∈ kindsOf h ps)) (fun k => PV.int k) lot fun k hk => by
      refine ⟨_, by simp; rfl, by simp, fun _ => ⟨_, by simp; rfl, rfl⟩⟩]
    have z5 : lot.filter (fun k => !decide (k ∈ kindsOf h ps)) = [] := by
      rw [List.filter_eq_nil_iff]
      intro k hk
      simp
      obtain ⟨i, hi, e⟩ := G.all k hk
      unfold kindsOf
      refine List.mem_map.mpr ⟨(h.bases.getD i 0, ps.getD i 0), ?_, e⟩
      have hb : i < h.bases.length := by rw [blen]; exact hi
      have hp : i < ps.length := by rw [G.len]; exact hi
      rw [List.mem_iff_getElem?]
      refine ⟨i, ?_⟩
      rw [List.getElem?_zip_eq_some]
      rw [List.getD_eq_getElem?_getD, List.getD_eq_getElem?_getD, List.getElem?_eq_getElem hb, List.getElem?_eq_getElem hp]
      exact ⟨rfl, rfl⟩
    have z6 : fEq (.o (.lst [])) (.o (.lst [])) (st ++ (more ++ more2)) = some (.v (.bl true)) := eq_nilI [] _
    have z7 : fSet2 [.v (.lst ((kindsOf h ps).map PV.int))] (st ++ (more ++ more2)) = _ := ev_setL (ns := kindsOf h ps) (by omega) _
    have z8 : fSorted2 [.o (.set (ddI (kindsOf h ps)))] (st ++ (more ++ more2)) = _ := ev_sortS (by have := ddI_len (kindsOf h ps); omega) _
    have z9 : df__law_same A [intsP (srt (ddI (kindsOf h ps))), intsP (srt (ddI (kindsOf h ps)))] (st ++ (more ++ more2)) = _ := law_same_ok (plain_ints (n := 19) _) (by rw [psz_ints, (srt_perm _).length_eq]; have := ddI_len (kindsOf h ps); omega) _
    rw [z5]
    simp [z6, z7, z8, classes_of_ok ok, grow_dd]
    simp [intsP] at z9
    simp [z9, intsP]
    exact ⟨more ++ more2, rfl⟩
end K00
/-! M00s -/
namespace K00
open PySem PySem.Spec PyProof.Rows L2 DD
variable {A : Ad}
/-! turned upside down -/
theorem flip_len (h : Harp) : h.flip.ls.length = h.ls.length := by simp [Harp.flip]
theorem flip_base {h : Harp} {l : Nat} (hl : l < h.ls.length) : h.flip.bases.getD l 0 = h.size - 1 - h.bases.getD (h.ls.length - 1 - l) 0 := by
  have hb : h.bases.length = h.ls.length := blen h
  rw [flip_bases, List.getD_eq_getElem?_getD, List.getElem?_map, List.getElem?_reverse (by omega), hb, List.getD_eq_getElem?_getD, List.getElem?_eq_getElem (by omega)]
  rfl
theorem flip_giv {h : Harp} (ok : HarpOk h) {k : Int} (hk : 0 ≤ k ∧ k < h.size) {l : Nat} (hl : l < h.ls.length) : l ∈ giv h.flip (h.size - 1 - k) ↔ h.ls.length - 1 - l ∈ giv h k := by
  have ok' := flip_ok ok
  have hl' : h.ls.length - 1 - l < h.ls.length := by omega
  have hb := base_rg ok hl'
  rw [mem_giv, mem_giv, flip_base hl, flip_len]
  have e : h.flip.size = h.size := rfl
  rw [e]
  have h2 := size2 ok
  have c1 := emod_cases (d := h.size - 1 - k - (h.size - 1 - h.bases.getD (h.ls.length - 1 - l) 0) + 1) (n := h.size) (by omega) (by omega) (by omega)
  have c2 := emod_cases (d := k - h.bases.getD (h.ls.length - 1 - l) 0 + 1) (n := h.size) (by omega) (by omega) (by omega)
  constructor
  · rintro ⟨_, z⟩; refine ⟨hl', ?_⟩; omega
  · rintro ⟨_, z⟩; refine ⟨hl, ?_⟩; omega
theorem flipA_2 (m : Nat) (a : Int × Int) : (flipA m a).2 = a.2 := by unfold flipA; split <;> rfl
theorem flipA_mem {m : Nat} (hm : 2 ≤ m) {a : Int × Int} (ha : a ∈ arcsL m) : flipA m a ∈ arcsL m := by
  rcases mem_arcsL.mp ha with rfl | rfl | h
  · exact ha
  · have : flipA m (0, (m : Int)) = (0, (m : Int)) := by unfold flipA; rw [if_neg (by simp only; omega)]
    rw [this]; exact ha
  · refine mem_arcsL.mpr (.inr (.inr ?_))
    unfold flipA
    rw [if_pos ⟨by omega, by omega⟩]
    have h1 := Int.emod_nonneg ((m : Int) - a.1 - a.2) (show (m : Int) ≠ 0 by omega)
    have h2 := Int.emod_lt_of_pos ((m : Int) - a.1 - a.2) (show (0 : Int) < m by omega)
    simp only; omega
theorem lin_flip {m : Nat} (hm : 2 ≤ m) {a : Int × Int} (ha : a ∈ arcsL m) : (lin m (flipA m a)).map (fun l => (m : Int) - 1 - l) = (lin m a).reverse := by
  have len : ∀ b : Int × Int, (lin m b).length = b.2.toNat := fun b => by unfold lin; simp
  refine List.ext_getElem (by rw [List.length_map, List.length_reverse, len, len, flipA_2]) fun i h1 h2 => ?_
  rw [List.length_map, len, flipA_2] at h1
  rw [List.getElem_map, List.getElem_reverse]
  simp only [len]
  unfold lin
  rw [List.getElem_map, List.getElem_map, List.getElem_range, List.getElem_range]
  rcases mem_arcsL.mp ha with rfl | rfl | h
  · simp at h1
  · have : flipA m (0, (m : Int)) = (0, (m : Int)) := by unfold flipA; rw [if_neg (by simp only; omega)]
    rw [this]
    simp only [Int.toNat_natCast] at h1 ⊢
    rw [Int.emod_eq_of_lt (by omega) (by omega), Int.emod_eq_of_lt (by omega) (by omega)]; omega
  · have e : flipA m a = (((m : Int) - a.1 - a.2) % (m : Int), a.2) := by unfold flipA; rw [if_pos ⟨by omega, by omega⟩]
    rw [e]
    simp only
    rw [Int.emod_add_emod]
    have c1 := emod_cases (d := (m : Int) - a.1 - a.2 + (i : Int)) (n := (m : Int)) (by omega) (by omega) (by omega)
    by_cases q : a.1 + ((a.2.toNat - 1 - i : Nat) : Int) < m
    · rw [Int.emod_eq_of_lt (a := a.1 + _) (by omega) q]; omega
    · have e2 : (a.1 + ((a.2.toNat - 1 - i : Nat) : Int)) % (m : Int) = a.1 + ((a.2.toNat - 1 - i : Nat) : Int) - m := by
        rw [← Int.sub_emod_right, Int.emod_eq_of_lt (by omega) (by omega)]
      rw [e2]; omega
theorem mem_lin_flip {m : Nat} (hm : 2 ≤ m) {a : Int × Int} (ha : a ∈ arcsL m) {l : Int} : l ∈ lin m (flipA m a) ↔ (m : Int) - 1 - l ∈ lin m a := by
  have e := lin_flip hm ha
  constructor
  · intro z
    have : (m : Int) - 1 - l ∈ (lin m (flipA m a)).map (fun l => (m : Int) - 1 - l) := List.mem_map.mpr ⟨l, z, rfl⟩
    rw [e] at this
    exact List.mem_reverse.mp this
  · intro z
    have : (m : Int) - 1 - l ∈ (lin m a).reverse := List.mem_reverse.mpr z
    rw [← e] at this
    obtain ⟨x, hx, q⟩ := List.mem_map.mp this
    have : x = l := by omega
    rw [← this]; exact hx
theorem lin_nodup {m : Nat} (hm : 2 ≤ m) {a : Int × Int} (ha : a ∈ arcsL m) : (lin m a).Nodup := by
  have hb : 0 ≤ a.1 ∧ a.1 < m ∧ 0 ≤ a.2 ∧ a.2 ≤ m := by
    rcases mem_arcsL.mp ha with rfl | rfl | h
    · simp only; omega
    · simp only; omega
    · omega
  unfold lin
  rw [List.nodup_iff_pairwise_ne, List.pairwise_map]
  refine List.Pairwise.imp_of_mem ?_ (List.pairwise_lt_range (n := a.2.toNat))
  intro i j hi hj hij e
  have hi' := List.mem_range.mp hi
  have hj' := List.mem_range.mp hj
  have r : ∀ x : Int, 0 ≤ x → x < 2 * m → (x < m ∧ x % (m : Int) = x) ∨ (m ≤ x ∧ x % (m : Int) = x - m) := fun x h0 h1 => by
    by_cases q : x < m
    · exact .inl ⟨q, Int.emod_eq_of_lt h0 q⟩
    · exact .inr ⟨by omega, by rw [← Int.sub_emod_right, Int.emod_eq_of_lt (by omega) (by omega)]⟩
  have r1 := r (a.1 + (i : Int)) (by omega) (by omega)
  have r2 := r (a.1 + (j : Int)) (by omega) (by omega)
  omega
def flipLot (h : Harp) (lot : List Int) : List Int := srt (lot.map fun k => h.size - 1 - k)
theorem flipLot_ok {h : Harp} {lot : List Int} (lo : LotOk h lot) : LotOk h.flip (flipLot h lot) ∧ (flipLot h lot).Pairwise (· < ·) := by
  have nd : (lot.map fun k => h.size - 1 - k).Nodup := by
    rw [List.nodup_iff_pairwise_ne, List.pairwise_map]
    exact (List.nodup_iff_pairwise_ne.mp lo.nd).imp fun h => by omega
  refine ⟨⟨(srt_perm _).nodup_iff.mpr nd, fun k hk => ?_, ?_⟩, srt_strict nd⟩
  · have := (srt_perm _).mem_iff.mp hk
    obtain ⟨c, hc, rfl⟩ := List.mem_map.mp this
    have := lo.rg c hc
    show 0 ≤ h.size - 1 - c ∧ h.size - 1 - c < h.size
    omega
  · unfold flipLot; rw [(srt_perm _).length_eq, List.length_map]; exact lo.len
theorem win_flip {h : Harp} (ok : HarpOk h) {lot : List Int} (lo : LotOk h lot) {a : Int × Int} (ha : a ∈ arcsL h.ls.length) : (win h.flip (flipLot h lot) (flipA h.ls.length a)).length = (win h lot a).length := by
  unfold win
  rw [← List.countP_eq_length_filter, ← List.countP_eq_length_filter]
  unfold flipLot
  rw [(srt_perm _).countP_eq, List.countP_map]
  refine List.countP_congr fun k hk => ?_
  have hkr := lo.rg k hk
  simp only [Function.comp, List.all_eq_true, decide_eq_true_eq, flip_len]
  constructor
  · intro z l hl
    have hlm := giv_lt hl
    have := z (h.ls.length - 1 - l) ((flip_giv ok hkr (by omega)).mpr (by rw [show h.ls.length - 1 - (h.ls.length - 1 - l) = l by omega]; exact hl))
    have := (mem_lin_flip ok.two ha).mp this
    rwa [show (h.ls.length : Int) - 1 - ((h.ls.length - 1 - l : Nat) : Int) = (l : Int) by omega] at this
  · intro z l hl
    have hlm := giv_lt hl
    rw [flip_len] at hlm
    have := z _ ((flip_giv ok hkr hlm).mp hl)
    rw [mem_lin_flip ok.two ha]
    rwa [show ((h.ls.length - 1 - l : Nat) : Int) = (h.ls.length : Int) - 1 - (l : Int) by omega] at this
theorem full_flip {h : Harp} (ok : HarpOk h) {lot : List Int} (lo : LotOk h lot) {a : Int × Int} (ha : a ∈ arcsL h.ls.length) : fullB h.flip (flipLot h lot) (flipA h.ls.length a) = fullB h lot a := by
  unfold fullB
  rw [win_flip ok lo ha, flipA_2]
theorem giv_sorted (h : Harp) (k : Int) : (giv h k).Pairwise (· < ·) := List.Pairwise.filter _ List.pairwise_lt_range
theorem givers_flip {h : Harp} (ok : HarpOk h) {k : Int} (hk : 0 ≤ k ∧ k < h.size) : (giv h.flip (h.size - 1 - k)).map (fun (n : Nat) => (n : Int)) = srt ((giv h k).map fun (l : Nat) => (h.ls.length : Int) - 1 - (l : Int)) := by
  refine strict_ext ?_ (srt_strict ?_) fun x => ?_
  · rw [List.pairwise_map]; exact (giv_sorted _ _).imp fun h => by omega
  · rw [List.nodup_iff_pairwise_ne, List.pairwise_map]; exact (giv_sorted _ _).imp fun h => by omega
  · rw [(srt_perm _).mem_iff, List.mem_map, List.mem_map]
    constructor
    · rintro ⟨l, hl, rfl⟩
      have hlm := giv_lt hl
      rw [flip_len] at hlm
      exact ⟨h.ls.length - 1 - l, (flip_giv ok hk hlm).mp hl, by omega⟩
    · rintro ⟨l, hl, rfl⟩
      have hlm := giv_lt hl
      exact ⟨h.ls.length - 1 - l, (flip_giv ok hk (by omega)).mpr (by rw [show h.ls.length - 1 - (h.ls.length - 1 - l) = l by omega]; exact hl), by omega⟩
theorem ddI_nodup : ∀ {ns : List Int}, ns.Nodup → ddI ns = ns
  | [], _ => rfl
  | n :: ns, h => by
    have h' := List.nodup_cons.mp h
    show n :: (ddI ns).filter (fun x => decide (x ≠ n)) = n :: ns
    rw [ddI_nodup h'.2, List.filter_eq_self.mpr]
    intro x hx
    simp only [decide_eq_true_eq]
    exact fun e => h'.1 (e ▸ hx)
theorem srt_reverse {ns : List Int} (h : ns.Nodup) : srt ns.reverse = srt ns := by
  have h' : ns.reverse.Nodup := by
    rw [List.nodup_iff_pairwise_ne, List.pairwise_reverse]
    exact (List.nodup_iff_pairwise_ne.mp h).imp fun h => h.symm
  refine strict_ext (srt_strict h') (srt_strict h) fun k => ?_
  rw [(srt_perm _).mem_iff, (srt_perm _).mem_iff, List.mem_reverse]
/-! data compared -/
theorem ne_same {p : PV} {d : PyData} (h : p.dat = some d) (h1 : d.canLay0 = true) (h2 : d.depth ≤ 60) (hx : ∀ st, (XV.v p).dat st = p.dat) (st : MS) : fEqD true (.v p) (.v p) st = some (.v (.bl false)) := by
  unfold fEqD
  have hs : SeqAt.shaped d = true := by
    show (d.canLay0 && decide (d.depth ≤ 64)) = true
    rw [h1, decide_eq_true (by omega)]; rfl
  rw [hx, h, Option.bind_some, Option.bind_some, if_pos ⟨hs, hs⟩, if_pos rfl, SeqAt.eqv_refl d h1]
  rfl
theorem ne_ints (ns : List Int) (st : MS) : fNe (.o (.lst (ns.map PV.int))) (.o (.lst (ns.map PV.int))) st = some (.v (.bl false)) := by
  show fEqD true _ _ _ = _
  unfold fEqD
  have hs := (shaped_ints ns).1
  have h1 : (PyData.list (ns.map PyData.int)).canLay0 = true := lay_map ns fun _ _ => rfl
  rw [dat_ints, Option.bind_some, Option.bind_some, if_pos ⟨hs, hs⟩, if_pos rfl, SeqAt.eqv_refl _ h1]
  rfl
theorem row_lay {s : Str} (h : s ∈ rowsS) : (PyData.str s).canLay0 = true := by
  have : rowsS.all (fun s => (PyData.str s).canLay0) = true := by decide +kernel
  exact List.all_eq_true.mp this s h
theorem ne_harp {h : Harp} (ok : HarpOk h) (st : MS) : fNe (.v (harpP h)) (.v (harpP h)) st = some (.v (.bl false)) := by
  obtain ⟨ds, g1, g2, g3, _⟩ := dats_ex (n := 1) (xs := h.ls.map letterP) fun x hx => by
    obtain ⟨l, hl, rfl⟩ := List.mem_map.mp hx
    refine ⟨.tuple [.str l.1, .int l.2.1, .int l.2.2], rfl, ?_, by show 1 ≤ 1; omega⟩
    show ((PyData.str l.1).canLay0 && true) = true
    rw [row_lay (ok.rows l hl)]; rfl
  refine ne_same (d := .tuple [.int h.size, .tuple ds, .int h.p, .int h.q, .int h.r]) ?_ ?_ ?_ (fun _ => rfl) st
  · unfold harpP
    simp [PV.dat, PV.dats, g1]
  · show (PyData.canLayAll0 ds && true) = true
    rw [g2]; rfl
  · show max 0 (max (PyData.depthAll ds + 1) (max 0 (max 0 (max 0 0)))) + 1 ≤ 60
    omega
end K00
/-! M00t -/
namespace K00
open PySem PySem.Spec PyProof.Rows L2 DD
variable {A : Ad}
def arcB (A : Ad) : DS := (sSeq (sSet .V 11 (xCall (df__law_inside A) 3 (aCons (xVar 3) (aCons (xVar 6) (aCons (xVar 8) aNil)))))
    (sSeq (sSet .V 12 (xCall (df__law_flip_arc A) 2 (aCons (xVar 3) (aCons (xVar 8) aNil))))
    (sSeq (sSet .V 13 (xLst (aCons (xCall (df_within A) 3 (aCons (xVar 3) (aCons (xVar 6) (aCons (xVar 8) aNil)))) (aCons (xCall (df_is_over_full A) 3 (aCons (xVar 3) (aCons (xVar 6) (aCons (xVar 8) aNil)))) (aCons (xCall (df_is_over_full A) 3 (aCons (xVar 4) (aCons (xVar 7) (aCons (xVar 12) aNil)))) aNil)))))
    (sSeq (sIf (tNot' (tB' (xCall (df__law_same A) 2 (aCons (xVar 13) (aCons (xLst (aCons (xVar 11) (aCons (xBin fGt (xApp fLen (aCons (xVar 11) aNil)) (xBin fIx (xVar 8) (xC (PV.int 1)))) (aCons (xBin fGt (xApp fLen (aCons (xVar 11) aNil)) (xBin fIx (xVar 8) (xC (PV.int 1)))) aNil)))) aNil))))) (sRet (xC (PV.bl false))) sNil)
    (sSeq (sSet .V 13 (xLc (iSeq false (xCall (df_letters_in A) 2 (aCons (xVar 4) (aCons (xVar 12) aNil)))) [17] (gName' 17) tTrue (xBin fSub (xBin fSub (xApp fLen (aCons (xBin fIx (xVar 3) (xC (PV.int 1))) aNil)) (xC (PV.int 1))) (xVar 17))))
    (sIf (tOr' (tB' (xBin fNe (xApp fSorted2 (aCons (xVar 13) aNil)) (xApp fSorted2 (aCons (xCall (df_letters_in A) 2 (aCons (xVar 3) (aCons (xVar 8) aNil))) aNil)))) (tB' (xBin fNe (xApp fLen (aCons (xApp fSet2 (aCons (xVar 13) aNil)) aNil)) (xBin fIx (xVar 8) (xC (PV.int 1)))))) (sRet (xC (PV.bl false))) sNil))))))
theorem len_set {ns : List Int} (h : ns.length < 1000000) (st : MS) : fLen [.o (.set ns)] st = some (.v (.int ns.length)) := by
  have e1 : (XV.o (.set ns)).lst st = none := rfl
  have e2 : (XV.o (.set ns)).len st = some ns.length := by
    show (if ns.length < 1000000 then some ns.length else none) = _
    exact if_pos h
  show ((XV.o (.set ns)).len st).map (fun (n : Nat) => XV.v (.int (n : Int))) = _
  rw [e2]; rfl
theorem lin_len (m : Nat) (a : Int × Int) : (lin m a).length = a.2.toNat := by unfold lin; simp
theorem arc_body {h : Harp} (ok : HarpOk h) {lot : List Int} (lo : LotOk h lot) {a : Int × Int} (ha : a ∈ arcsL h.ls.length) (e0 e1 e2 e5 e9 e10 e11 e12 e13 e14 e15 e16 e17 : DD.Slot) (st : MS) :
    arcB A [e0, e1, e2, .v (harpP h), .v (harpP h.flip), e5, .v (intsP lot), .v (intsP (flipLot h lot)), .v (pPV a), e9, e10, e11, e12, e13, e14, e15, e16, e17] st
    = some (.nx, [e0, e1, e2, .v (harpP h), .v (harpP h.flip), e5, .v (intsP lot), .v (intsP (flipLot h lot)), .v (pPV a), e9, e10, .v (intsP (win h lot a)), .v (pPV (flipA h.ls.length a)), .v (.lst ((lin h.ls.length a).reverse.map PV.int)), e14, e15, e16, e17], st) := by
  have h9 := ok.nine
  have hm := ok.two
  have hb := arc_bound h9 ha
  have hl : lot.length ≤ 1000 := by have := lo.len; omega
  have ok' := flip_ok ok
  obtain ⟨lo', _⟩ := flipLot_ok (h := h) lo
  have hl' : (flipLot h lot).length ≤ 1000 := by have := lo'.len; omega
  have ha' := flipA_mem hm ha
  have hb' := arc_bound h9 ha'
  have sm : df__law_same A [.lst [intsP (win h lot a), .bl (fullB h lot a), .bl (fullB h lot a)], .lst [intsP (win h lot a), .bl (fullB h lot a), .bl (fullB h lot a)]] st = some (.v (.bl true), st) := law_same_ok (.lst (n := 19) fun x hx => by
    simp at hx; rcases hx with rfl | rfl
    · exact plain_ints (n := 18) _
    · exact .bl) (by simp [psz, pszs, psz_ints]; have := win_len h lot a; omega) _
  have f1 : df_is_over_full A [harpP h, intsP lot, pPV a] st = some (.v (.bl (fullB h lot a)), st) := by
    rw [is_over_full_ok ok hl, decide_eq_true ha]; rfl
  have f2 : df_is_over_full A [harpP h.flip, intsP (flipLot h lot), pPV (flipA h.ls.length a)] st = some (.v (.bl (fullB h lot a)), st) := by
    rw [is_over_full_ok ok' hl', flip_len, decide_eq_true ha', full_flip ok lo ha]; rfl
  have f3 : df_letters_in A [harpP h.flip, pPV (flipA h.ls.length a)] st = some (.v (intsP (lin h.ls.length (flipA h.ls.length a))), st) := by
    have := letters_in_ok (A := A) ok' (a := flipA h.ls.length a) (by omega) (by omega) st
    rw [flip_len] at this; exact this
  have f4 : fGt (.v (.int ((win h lot a).length : Int))) (.v (.int a.2)) st = some (.v (.bl (fullB h lot a))) := rfl
  have hfb : decide (a.2 < ((win h lot a).length : Int)) = fullB h lot a := rfl
  have c1 : ∀ env1 : DEnv, True := fun _ => True.intro
  have nd := lin_nodup hm ha
  have ndr : (lin h.ls.length a).reverse.Nodup := by
    rw [List.nodup_iff_pairwise_ne, List.pairwise_reverse]
    exact (List.nodup_iff_pairwise_ne.mp nd).imp fun h => h.symm
  have hll := lin_len h.ls.length a
  simp only [arcB]
  simp [law_inside_ok ok (show -1000 ≤ a.2 by omega) (show a.2 ≤ 1000 by omega) hl, flip_arc_ok ok, within_ok ok (show -1000 ≤ a.2 by omega) (show a.2 ≤ 1000 by omega) hl, f1, f2, f3, hfb, sm, -List.map_reverse]
  rw [compD_map (fun l => PV.int ((h.ls.length : Int) - 1 - l)) (lin h.ls.length (flipA h.ls.length a)) fun l hl => by
    refine ⟨_, by simp; rfl, by simp, ?_⟩
    simp]
  have e : (lin h.ls.length (flipA h.ls.length a)).map (fun l => PV.int ((h.ls.length : Int) - 1 - l)) = (lin h.ls.length a).reverse.map PV.int := by
    rw [← lin_flip hm ha, List.map_map]; rfl
  rw [e]
  have g1 : fSorted2 [.v (.lst ((lin h.ls.length a).reverse.map PV.int))] st = some (.o (.lst ((srt (lin h.ls.length a)).map PV.int))) := by rw [ev_sortV, srt_reverse nd]
  have g2 : fSorted2 [.v (intsP (lin h.ls.length a))] st = some (.o (.lst ((srt (lin h.ls.length a)).map PV.int))) := ev_sortT _ _
  have g3 : fSet2 [.v (.lst ((lin h.ls.length a).reverse.map PV.int))] st = some (.o (.set (lin h.ls.length a).reverse)) := by
    rw [ev_setL (by rw [List.length_reverse, hll]; omega), ddI_nodup ndr]
  have g4 : fLen [.o (.set (lin h.ls.length a).reverse)] st = some (.v (.int a.2)) := by
    rw [len_set (by rw [List.length_reverse, hll]; omega), List.length_reverse, hll, show ((a.2.toNat : Nat) : Int) = a.2 by omega]
  simp [hll, show a.2.toNat ≤ 10000 by omega, -List.map_reverse, letters_in_ok ok (show -1000 ≤ a.2 by omega) (show a.2 ≤ 1000 by omega), g1, g2, g3, g4, ne_ints]
def kindB (A : Ad) : DS := (sSeq (sSet .V 14 (xCall (df__law_givers A) 2 (aCons (xVar 3) (aCons (xVar 9) aNil))))
    (sSeq (sSet .V 15 (xApp fTuple (aCons (xApp fSorted2 (aCons (xLc (iSeq false (xVar 14)) [17] (gName' 17) tTrue (xBin fSub (xBin fSub (xApp fLen (aCons (xBin fIx (xVar 3) (xC (PV.int 1))) aNil)) (xC (PV.int 1))) (xVar 17))) aNil)) aNil)))
    (sIf (tNot' (tB' (xCall (df__law_same A) 2 (aCons (xLst (aCons (xCall (df_givers A) 2 (aCons (xVar 3) (aCons (xVar 9) aNil))) (aCons (xCall (df_givers A) 2 (aCons (xVar 4) (aCons (xBin fSub (xBin fSub (xBin fIx (xVar 3) (xC (PV.int 0))) (xC (PV.int 1))) (xVar 9)) aNil))) aNil))) (aCons (xLst (aCons (xVar 14) (aCons (xVar 15) aNil))) aNil))))) (sRet (xC (PV.bl false))) sNil)))
def mirG (h : Harp) (k : Int) : List Int := (giv h k).map fun (l : Nat) => (h.ls.length : Int) - 1 - (l : Int)
theorem nats_ints (ns : List Nat) : natsP ns = intsP (ns.map fun (n : Nat) => (n : Int)) := by unfold natsP intsP; rw [List.map_map]; rfl
theorem kind_body {h : Harp} (ok : HarpOk h) {k : Int} (hk : 0 ≤ k ∧ k < h.size) (e0 e1 e2 e5 e6 e7 e8 e10 e11 e12 e13 e14 e15 e16 e17 : DD.Slot) (st : MS) :
    kindB A [e0, e1, e2, .v (harpP h), .v (harpP h.flip), e5, e6, e7, e8, .v (.int k), e10, e11, e12, e13, e14, e15, e16, e17] st
    = some (.nx, [e0, e1, e2, .v (harpP h), .v (harpP h.flip), e5, e6, e7, e8, .v (.int k), e10, e11, e12, e13, .v (natsP (giv h k)), .v (intsP (srt (mirG h k))), e16, e17], st) := by
  have h9 := ok.nine
  have ok' := flip_ok ok
  have gl := giv_len ok k
  have gl' : (mirG h k).length ≤ 9 := by unfold mirG; rw [List.length_map]; exact gl
  have f2 : df_givers A [harpP h.flip, .int (h.size - 1 - k)] st = some (.v (intsP (srt (mirG h k))), st) := by
    rw [givers_ok ok', nats_ints, givers_flip ok hk]; rfl
  have sm : df__law_same A [.lst [natsP (giv h k), intsP (srt (mirG h k))], .lst [natsP (giv h k), intsP (srt (mirG h k))]] st = some (.v (.bl true), st) := law_same_ok (.lst (n := 19) fun x hx => by
    simp at hx; rcases hx with rfl | rfl
    · rw [nats_ints]; exact plain_ints (n := 18) _
    · exact plain_ints (n := 18) _) (by simp [psz, pszs, nats_ints, psz_ints, (srt_perm _).length_eq]; omega) _
  simp only [kindB]
  simp [law_givers_ok ok, givers_ok ok]
  rw [compD_map (fun (l : Nat) => PV.int ((h.ls.length : Int) - 1 - (l : Int))) (giv h k) fun l hl => by
    refine ⟨_, by simp; rfl, by simp, ?_⟩
    simp]
  have e : (giv h k).map (fun (l : Nat) => PV.int ((h.ls.length : Int) - 1 - (l : Int))) = (mirG h k).map PV.int := by unfold mirG; rw [List.map_map]; rfl
  rw [e]
  have e2 : PV.tup ((srt (mirG h k)).map PV.int) = intsP (srt (mirG h k)) := rfl
  simp [show (mirG h k).length ≤ 10000 by omega]
  rw [e2]
  simp [f2, sm]
end K00
/-! M00u -/
namespace K00
open PySem PySem.Spec PyProof.Rows L2 DD
variable {A : Ad}
theorem bag_ok {sc : PV} {ns : List Int} (h : sc = .lst (ns.map PV.int) ∨ sc = .rol (ns.map PV.int)) (hl : ns.length ≤ 63) (st : MS) : ∃ cells : List Int, cells.length ≤ 63 ∧ df__law_bag A [sc] st = some (.o (bagC 0 271828182 0 cells), st) := by
  obtain ⟨ms, e1, e2⟩ := cut_ints ns none (some 63)
  refine ⟨ms.map fun i => if i < 0 then -i else i, by simp; omega, ?_⟩
  have e3 : fSl (.v sc) none (some 63) st = some (.o (.lst (ms.map PV.int))) := by
    rcases h with rfl | rfl
    · show some (XV.o (.lst (cutP _ _ _))) = _; rw [e1]
    · show some (XV.o (.lst (cutP _ _ _))) = _; rw [e1]
  simp [df__law_bag, d__law_bag, e3]
  rw [compD_map (fun i : Int => PV.int (if i < 0 then -i else i)) ms fun i hi => by
    refine ⟨_, by simp; rfl, by simp, ?_⟩
    have : fAbs [.v (.int i)] st = some (.v (.int (if i < 0 then -i else i))) := rfl
    simp [this]]
  simp [show ms.length ≤ 10000 by omega, bagC, Function.comp_def]
def turnB (A : Ad) : DS := (sSeq (sSet .V 6 (xCall (df__law_lot A) 2 (aCons (xVar 1) (aCons (xVar 3) aNil))))
    (sSeq (sSet .V 7 (xApp fTuple (aCons (xApp fSorted2 (aCons (xLc (iSeq false (xVar 6)) [9] (gName' 9) tTrue (xBin fSub (xBin fSub (xBin fIx (xVar 3) (xC (PV.int 0))) (xC (PV.int 1))) (xVar 9))) aNil)) aNil)))
    (sSeq (sIf (tOr' (tNot' (tB' (xCall (df__law_is_lot_told A) 2 (aCons (xVar 3) (aCons (xVar 6) aNil))))) (tNot' (tB' (xCall (df__law_is_lot_told A) 2 (aCons (xVar 4) (aCons (xVar 7) aNil)))))) (sRet (xC (PV.bl false))) sNil)
    (sSeq (sFor (iSeq true (xBin fAdd (xLc (iRange1 (aCons (xC (PV.int 3)) aNil)) [16] (gName' 16) tTrue (xCall (df__law_some A) 2 (aCons (xVar 1) (aCons (xCall (df__law_arcs A) 1 (aCons (xVar 3) aNil)) aNil)))) (xLst (aCons (xTup (aCons (xC (PV.int 0)) (aCons (xC (PV.int 0)) aNil))) (aCons (xTup (aCons (xC (PV.int 0)) (aCons (xApp fLen (aCons (xBin fIx (xVar 3) (xC (PV.int 1))) aNil)) aNil))) aNil))))) (gName' 8) (arcB A))
    (sSeq (sFor (iSeq true (xSl (xVar 6) oNone (oSome (xC (PV.int 3))))) (gName' 9) (kindB A))
    (sSeq (sSet .V 10 (xCall (df__law_some A) 2 (aCons (xVar 1) (aCons (xLst (aCons (xC PV.non) (aCons (xTup (aCons (xC (PV.int 0)) aNil)) (aCons (xTup (aCons (xC (PV.int 0)) (aCons (xBin fAdd (xApp fLen (aCons (xBin fIx (xVar 3) (xC (PV.int 1))) aNil)) (xC (PV.int 1))) aNil))) (aCons (xTup (aCons (xApp fLen (aCons (xBin fIx (xVar 3) (xC (PV.int 1))) aNil)) (aCons (xC (PV.int 1)) aNil))) (aCons (xLst (aCons (xC (PV.int 0)) (aCons (xC (PV.int 0)) aNil))) (aCons (xTup (aCons (xC (PV.bl true)) (aCons (xC (PV.int 0)) aNil))) (aCons (xTup (aCons (xC (PV.int 1)) (aCons (xC (PV.int 0)) aNil))) (aCons (xTup (aCons (xC (PV.int 0)) (aCons (xUn fNeg (xC (PV.int 1))) aNil))) aNil))))))))) aNil))))
    (sIf (tB' (xBin fIsNot (xCall (df_is_over_full A) 3 (aCons (xVar 3) (aCons (xVar 6) (aCons (xVar 10) aNil)))) (xC (PV.bl false)))) (sRet (xC (PV.bl false))) sNil)))))))
def lapB (A : Ad) : DS := (sSeq (sSet .V 3 (xCall (df__law_harp A) 2 (aCons (xVar 1) (aCons (xC (PV.int 9)) aNil))))
    (sSeq (sSet .V 4 (xCall (df__law_flip_harp A) 1 (aCons (xVar 3) aNil)))
    (sSeq (sIf (tOr' (tB' (xBin fNe (xCall (df_checked_harp A) 1 (aCons (xVar 3) aNil)) (xVar 3))) (tOr' (tB' (xBin fNe (xCall (df_checked_harp A) 1 (aCons (xVar 4) aNil)) (xVar 4))) (tNot' (tB' (xCall (df__law_same A) 2 (aCons (xCall (df_arcs A) 1 (aCons (xVar 3) aNil)) (aCons (xCall (df__law_arcs A) 1 (aCons (xVar 3) aNil)) aNil))))))) (sRet (xC (PV.bl false))) sNil)
    (sFor (iRange1 (aCons (xC (PV.int 3)) aNil)) (gName' 5) (turnB A)))))
theorem law_is : d_law A = (sSeq (sSet .N 1 (xCall (df__law_bag A) 1 (aCons (xVar 0) aNil)))
    (sSeq (sFor (iRange1 (aCons (xC (PV.int 3)) aNil)) (gName' 2) (lapB A))
    (sRet (xC (PV.bl true))))) := rfl
/-- the odd things -/
def oddL (m : Nat) : List PV := [.non, .tup [.int 0], pPV (0, (m : Int) + 1), pPV ((m : Int), 1), .lst [.int 0, .int 0], .tup [.bl true, .int 0], pPV (1, 0), pPV (0, -1)]
theorem odd_ok {h : Harp} (ok : HarpOk h) {lot : List Int} (hl : lot.length ≤ 1000) {x : PV} (hx : x ∈ oddL h.ls.length) (st : MS) : df_is_over_full A [harpP h, intsP lot, x] st = some (.v (.bl false), st) := by
  have hm := ok.two
  have pr : ∀ a : Int × Int, a ∉ arcsL h.ls.length → df_is_over_full A [harpP h, intsP lot, pPV a] st = some (.v (.bl false), st) := fun a ha => by
    rw [is_over_full_ok ok hl, decide_eq_false ha]; rfl
  unfold oddL at hx
  simp only [List.mem_cons, List.not_mem_nil, or_false] at hx
  rcases hx with rfl | rfl | rfl | rfl | rfl | rfl | rfl | rfl
  · simp [df_is_over_full, d_is_over_full]
  · simp [df_is_over_full, d_is_over_full]
  · refine pr _ fun z => ?_
    rcases mem_arcsL.mp z with e | e | e
    · have e1 := congrArg Prod.fst e; have e2 := congrArg Prod.snd e; simp only at e1 e2; omega
    · have e1 := congrArg Prod.fst e; have e2 := congrArg Prod.snd e; simp only at e1 e2; omega
    · simp only at e; omega
  · refine pr _ fun z => ?_
    rcases mem_arcsL.mp z with e | e | e
    · have e1 := congrArg Prod.fst e; have e2 := congrArg Prod.snd e; simp only at e1 e2; omega
    · have e1 := congrArg Prod.fst e; have e2 := congrArg Prod.snd e; simp only at e1 e2; omega
    · simp only at e; omega
  · simp [df_is_over_full, d_is_over_full]
  · simp [df_is_over_full, d_is_over_full]
  · refine pr _ fun z => ?_
    rcases mem_arcsL.mp z with e | e | e
    · have e1 := congrArg Prod.fst e; have e2 := congrArg Prod.snd e; simp only at e1 e2; omega
    · have e1 := congrArg Prod.fst e; have e2 := congrArg Prod.snd e; simp only at e1 e2; omega
    · simp only at e; omega
  · refine pr _ fun z => ?_
    rcases mem_arcsL.mp z with e | e | e
    · have e1 := congrArg Prod.fst e; have e2 := congrArg Prod.snd e; simp only at e1 e2; omega
    · have e1 := congrArg Prod.fst e; have e2 := congrArg Prod.snd e; simp only at e1 e2; omega
    · simp only at e; omega
theorem plain_arcs (m : Nat) : Plain 20 (.tup ((arcsL m).map pPV)) := .tup fun x hx => by
  obtain ⟨a, _, rfl⟩ := List.mem_map.mp hx
  exact plain_pair (n := 18) a
theorem pszs_pairs : ∀ ns : List (Int × Int), pszs (ns.map pPV) = 3 * ns.length
  | [] => rfl
  | n :: ns => by simp [pszs, psz_pair, pszs_pairs ns]; omega
theorem turn_body {h : Harp} (ok : HarpOk h) {sc : PV} {st : MS} (hb : Bag st) (e2 e5 e6 e7 e8 e9 e10 e11 e12 e13 e14 e15 e16 e17 : DD.Slot) :
    Ev (turnB A [.v sc, .v (.obj 0), e2, .v (harpP h), .v (harpP h.flip), e5, e6, e7, e8, e9, e10, e11, e12, e13, e14, e15, e16, e17] st) fun r =>
      r.1 = .nx ∧ Bag r.2.2 ∧ ∃ f6 f7 f8 f9 f10 f11 f12 f13 f14 f15 f16 f17, r.2.1 = [.v sc, .v (.obj 0), e2, .v (harpP h), .v (harpP h.flip), e5, f6, f7, f8, f9, f10, f11, f12, f13, f14, f15, f16, f17] := by
  have h9 := ok.nine
  have ok' := flip_ok ok
  simp only [turnB]
  simp
  refine Ev.bnd (lot_ev ok hb) ?_
  rintro _ ⟨lot, s1, rfl, lo, hs, hb1⟩
  have hl : lot.length ≤ 24 := lo.len
  obtain ⟨lo', hs'⟩ := flipLot_ok (h := h) lo
  simp
  rw [compD_map (fun k => PV.int (h.size - 1 - k)) lot fun k hk => by
    refine ⟨_, by simp; rfl, by simp, ?_⟩
    simp]
  have e : lot.map (fun k => PV.int (h.size - 1 - k)) = (lot.map fun k => h.size - 1 - k).map PV.int := by rw [List.map_map]; rfl
  rw [e]
  have e' : PV.tup ((srt (lot.map fun k => h.size - 1 - k)).map PV.int) = intsP (flipLot h lot) := rfl
  simp [show lot.length ≤ 10000 by omega, -List.map_map]
  rw [e']
  refine Ev.bnd (is_lot_told_ok ok lo hs s1) ?_
  rintro _ ⟨more, rfl⟩
  simp
  refine Ev.bnd (is_lot_told_ok ok' lo' hs' _) ?_
  rintro _ ⟨more2, rfl⟩
  simp
  have hb2 : Bag (s1 ++ (more ++ more2)) := hb1.app _
  obtain ⟨s2, hs2⟩ : ∃ s2, s2 = s1 ++ (more ++ more2) := ⟨_, rfl⟩
  rw [← hs2] at hb2 ⊢
  rw [ev_range1 (j := 3) (st' := s2) (by simp) (by omega)]
  simp
  have hal := arcsL_len h9
  have ane : (arcsL h.ls.length).map pPV ≠ [] := by
    have : (0, 0) ∈ arcsL h.ls.length := mem_arcsL.mpr (.inl rfl)
    intro z
    rw [List.map_eq_nil_iff] at z
    rw [z] at this; cases this
  refine Ev.bnd (compD_run (bind := gName' 16) (test := tTrue) (elt := xCall (df__law_some A) 2 (aCons (xVar 1) (aCons (xCall (df__law_arcs A) 1 (aCons (xVar 3) aNil)) aNil))) (enc := fun (k : Nat) => PV.int (k : Int))
    (fun rest acc s => Bag s ∧ ∃ as : List (Int × Int), acc = as.map pPV ∧ as.length + rest.length = 3 ∧ ∀ a ∈ as, a ∈ arcsL h.ls.length) (List.range 3) [] s2 ⟨hb2, [], rfl, by simp, by simp⟩ ?_) ?_
  · rintro t rest acc s ⟨hb, as, rfl, hlen, has⟩
    refine ⟨_, by simp; rfl, by simp, ?_⟩
    simp [law_arcs_ok ok]
    refine Ev.bnd (some_tup hb ane (by rw [List.length_map]; omega)) ?_
    rintro _ ⟨x, s3, rfl, hx, hb3⟩
    obtain ⟨a, ha, rfl⟩ := List.mem_map.mp hx
    simp
    refine ⟨hb3, as ++ [a], by simp, by simp at hlen ⊢; omega, ?_⟩
    intro x y hxy
    rcases List.mem_append.mp hxy with z | z
    · exact has _ z
    · simp at z; rw [show (x, y) = a from z]; exact ha
  rintro ⟨qs, s3⟩ ⟨hb3, as, e1, hlen, has⟩
  simp at e1 hlen
  subst e1
  have ep : as.map pPV ++ [PV.tup [PV.int 0, PV.int 0], PV.tup [PV.int 0, PV.int (h.ls.length : Int)]] = (as ++ [(0, 0), (0, (h.ls.length : Int))]).map pPV := by simp [pPV]
  have eadd : fAdd (.o (.lst (as.map pPV))) (.o (.lst [PV.tup [PV.int 0, PV.int 0], PV.tup [PV.int 0, PV.int (h.ls.length : Int)]])) s3 = some (.o (.lst ((as ++ [(0, 0), (0, (h.ls.length : Int))]).map pPV))) := by
    rw [ev_addOO, gd_true (DD.fit_le (by simp; omega)), ep]
  simp [hlen, -List.map_append, eadd]
  refine for_runEv (fun rest env s => Bag s ∧ (∀ a ∈ rest, a ∈ arcsL h.ls.length) ∧ ∃ f8 f11 f12 f13, env = [.v sc, .v (.obj 0), e2, .v (harpP h), .v (harpP h.flip), e5, .v (intsP lot), .v (intsP (flipLot h lot)), f8, e9, e10, f11, f12, f13, e14, e15, e16, e17]) (as ++ [(0, 0), (0, (h.ls.length : Int))])
    ⟨hb3, fun a ha => by
      rcases List.mem_append.mp ha with z | z
      · exact has a z
      · simp at z
        rcases z with rfl | rfl
        · exact mem_arcsL.mpr (.inl rfl)
        · exact mem_arcsL.mpr (.inr (.inl rfl)), _, _, _, _, rfl⟩ ?_ ?_
  · rintro a rest env s ⟨hb, hr, f8, f11, f12, f13, rfl⟩
    refine ⟨_, by simp; rfl, ?_⟩
    rw [arc_body ok lo (hr a List.mem_cons_self), Ev_some]
    exact ⟨rfl, hb, fun x hx => hr x (List.mem_cons_of_mem _ hx), _, _, _, _, rfl⟩
  rintro env s ⟨hb4, _, f8, f11, f12, f13, rfl⟩
  simp
  have esl : fSl (.v (intsP lot)) none (some 3) s = some (.v (.tup ((lot.take 3).map PV.int))) := by
    show some (XV.v (.tup (cutP (lot.map PV.int) none (some ((3 : Nat) : Int))))) = _
    rw [cutP_take]
  simp [esl, -List.map_take]
  refine for_runEv (fun rest env s => Bag s ∧ (∀ k ∈ rest, 0 ≤ k ∧ k < h.size) ∧ ∃ f9 f14 f15, env = [.v sc, .v (.obj 0), e2, .v (harpP h), .v (harpP h.flip), e5, .v (intsP lot), .v (intsP (flipLot h lot)), f8, f9, e10, f11, f12, f13, f14, f15, e16, e17]) (lot.take 3)
    ⟨hb4, fun k hk => lo.rg k (List.mem_of_mem_take hk), _, _, _, rfl⟩ ?_ ?_
  · rintro k rest env s ⟨hb, hr, f9, f14, f15, rfl⟩
    refine ⟨_, by simp; rfl, ?_⟩
    rw [kind_body ok (hr k List.mem_cons_self), Ev_some]
    exact ⟨rfl, hb, fun x hx => hr x (List.mem_cons_of_mem _ hx), _, _, _, rfl⟩
  rintro env s ⟨hb5, _, f9, f14, f15, rfl⟩
  simp
  have eo : ([PV.non, PV.tup [PV.int 0], PV.tup [PV.int 0, PV.int ((h.ls.length : Int) + 1)], PV.tup [PV.int (h.ls.length : Int), PV.int 1], PV.lst [PV.int 0, PV.int 0], PV.tup [PV.bl true, PV.int 0], PV.tup [PV.int 1, PV.int 0], PV.tup [PV.int 0, PV.int (-1)]] : List PV) = oddL h.ls.length := rfl
  rw [eo]
  refine Ev.bnd (some_lst hb5 (by simp [oddL]) (by simp [oddL])) ?_
  rintro _ ⟨x, s6, rfl, hx, hb6⟩
  simp [odd_ok ok (show lot.length ≤ 1000 by omega) hx]
  exact hb6
theorem lap_body {sc : PV} {st : MS} (hb : Bag st) (e2 e3 e4 e5 e6 e7 e8 e9 e10 e11 e12 e13 e14 e15 e16 e17 : DD.Slot) :
    Ev (lapB A [.v sc, .v (.obj 0), e2, e3, e4, e5, e6, e7, e8, e9, e10, e11, e12, e13, e14, e15, e16, e17] st) fun r =>
      r.1 = .nx ∧ Bag r.2.2 ∧ ∃ f2 f3 f4 f5 f6 f7 f8 f9 f10 f11 f12 f13 f14 f15 f16 f17, r.2.1 = [.v sc, .v (.obj 0), f2, f3, f4, f5, f6, f7, f8, f9, f10, f11, f12, f13, f14, f15, f16, f17] := by
  simp only [lapB]
  simp
  refine Ev.bnd (harp_ev hb) ?_
  rintro _ ⟨h, s1, rfl, ok, hb1⟩
  have ok' := flip_ok ok
  have hal := arcsL_len ok.nine
  have sm : df__law_same A [.tup ((arcsL h.ls.length).map pPV), .tup ((arcsL h.ls.length).map pPV)] s1 = some (.v (.bl true), s1) := law_same_ok (plain_arcs _) (by simp [psz, pszs_pairs]; omega) _
  simp [flip_harp_ok ok, checked_harp_ok ok, checked_harp_ok ok', ne_harp ok, ne_harp ok', arcs_ok ok, law_arcs_ok ok, sm]
  rw [ev_range1 (j := 3) (st' := s1) (by simp) (by omega)]
  simp
  have fin := for_runEv (bind := gName' 5) (body := turnB A) (enc := fun (k : Nat) => PV.int (k : Int)) (env := [.v sc, .v (.obj 0), e2, .v (harpP h), .v (harpP h.flip), e5, e6, e7, e8, e9, e10, e11, e12, e13, e14, e15, e16, e17]) (st := s1) (k := some)
    (Q := fun r : Fl × DEnv × MS => r.1 = .nx ∧ Bag r.2.2 ∧ ∃ f2 f3 f4 f5 f6 f7 f8 f9 f10 f11 f12 f13 f14 f15 f16 f17, r.2.1 = [.v sc, .v (.obj 0), f2, f3, f4, f5, f6, f7, f8, f9, f10, f11, f12, f13, f14, f15, f16, f17])
    (fun rest env s => Bag s ∧ ∃ f5 f6 f7 f8 f9 f10 f11 f12 f13 f14 f15 f16 f17, env = [.v sc, .v (.obj 0), e2, .v (harpP h), .v (harpP h.flip), f5, f6, f7, f8, f9, f10, f11, f12, f13, f14, f15, f16, f17]) (List.range 3)
    ⟨hb1, _, _, _, _, _, _, _, _, _, _, _, _, _, rfl⟩ (by
      rintro t rest env s ⟨hb, f5, f6, f7, f8, f9, f10, f11, f12, f13, f14, f15, f16, f17, rfl⟩
      refine ⟨_, by simp; rfl, ?_⟩
      refine (turn_body ok hb _ _ _ _ _ _ _ _ _ _ _ _ _ _).mono ?_
      rintro r ⟨h1, h2, g6, g7, g8, g9, g10, g11, g12, g13, g14, g15, g16, g17, h3⟩
      exact ⟨h1, h2, _, _, _, _, _, _, _, _, _, _, _, _, _, h3⟩) (by
      rintro e s ⟨hb, f5, f6, f7, f8, f9, f10, f11, f12, f13, f14, f15, f16, f17, rfl⟩
      rw [Ev_some]
      exact ⟨rfl, hb, _, _, _, _, _, _, _, _, _, _, _, _, _, _, _, _, rfl⟩)
  have bs : ∀ o : Option (Fl × DEnv × MS), bnd o some = o := fun o => by cases o <;> rfl
  rw [bs] at fin
  exact fin
theorem law_ok {sc : PV} {ns : List Int} (h : sc = .lst (ns.map PV.int) ∨ sc = .rol (ns.map PV.int)) (hl : ns.length ≤ 63) : ∃ st', df_law A [sc] [] = some (.v (.bl true), st') := by
  obtain ⟨cells, hc, eb⟩ := bag_ok (A := A) h hl []
  have hb : Bag [bagC 0 271828182 0 cells] := ⟨_, [], rfl, 0, 271828182, 0, cells, rfl, hc⟩
  have : Ev (df_law A [sc] []) fun r => r.1 = .v (.bl true) := by
    unfold df_law
    rw [law_is]
    simp [eb]
    rw [ev_range1 (j := 3) (st' := [bagC 0 271828182 0 cells]) (by simp) (by omega)]
    simp
    refine for_runEv (fun rest env s => Bag s ∧ ∃ f2 f3 f4 f5 f6 f7 f8 f9 f10 f11 f12 f13 f14 f15 f16 f17, env = [.v sc, .v (.obj 0), f2, f3, f4, f5, f6, f7, f8, f9, f10, f11, f12, f13, f14, f15, f16, f17]) (List.range 3)
      ⟨hb, _, _, _, _, _, _, _, _, _, _, _, _, _, _, _, _, rfl⟩ ?_ ?_
    · rintro t rest env s ⟨hb, f2, f3, f4, f5, f6, f7, f8, f9, f10, f11, f12, f13, f14, f15, f16, f17, rfl⟩
      refine ⟨_, by simp; rfl, ?_⟩
      exact lap_body hb _ _ _ _ _ _ _ _ _ _ _ _ _ _ _ _
    · rintro e s ⟨hb, f2, f3, f4, f5, f6, f7, f8, f9, f10, f11, f12, f13, f14, f15, f16, f17, rfl⟩
      simp
  obtain ⟨⟨x, st'⟩, e, hx⟩ := this
  simp only at hx
  subst hx
  exact ⟨st', e⟩
end K00
/-! K00b -/
namespace K00
open PySem PySem.Spec PyProof.Rows L2 DD
/-! ### the defs keep it -/
section
variable {Γ : DD.Ctx} {A : Ad}
theorem rv_POSITIONS (T : Txt Γ A) : ∀ W, RV Γ W p_POSITIONS (.ref T.g_POSITIONS.choose) := fun W => by
  unfold p_POSITIONS; unfold RV
  exact ⟨_, _, rfl, .inr T.g_POSITIONS.choose_spec.2, by simp [RVs, RV]⟩
theorem rv_RESERVED (T : Txt Γ A) : ∀ W, RV Γ W p_RESERVED (.ref T.g_RESERVED.choose) := fun W => by
  unfold p_RESERVED; unfold RV
  exact ⟨_, _, rfl, .inr T.g_RESERVED.choose_spec.2, by simp [RVs, RV]⟩
theorem sc_is_number : FnScope ["thing"] ["thing"] (defScope s_is_number) := ⟨rfl, rfl, rfl, by decide +kernel, rfl, by decide +kernel, by decide +kernel⟩
theorem ok_is_number (T : Txt Γ A) : Df Γ "is_number" A.is_number 1 ["thing"] (df_is_number A) := by
  obtain ⟨fd, F, B⟩ := T.f_is_number
  refine .mk' (fn_ok2 (k := 0) (body := d_is_number A) F sc_is_number finX_ok (by decide) (by unfold df_is_number; rfl) rfl ?_) B T.m_is_number T.k_is_number
  exact fun cdv X0 outer s H E hr => ⟨_, (ss_one (st_ret (e_and (e_blt or_isi s_isi (by rfl) T.z_isinstance b_isinstance (a_cons (e_var 0) (a_cons (e_ty (by rfl) T.z_int b_int) a_nil))) (e_one (e_not (e_blt or_isi s_isi (by rfl) T.z_isinstance b_isinstance (a_cons (e_var 0) (a_cons (e_ty (by rfl) T.z_bool b_bool) a_nil))))))))⟩
theorem sc_is_index : FnScope ["thing"] ["thing"] (defScope s_is_index) := ⟨rfl, rfl, rfl, by decide +kernel, rfl, by decide +kernel, by decide +kernel⟩
theorem ok_is_index (T : Txt Γ A) : Df Γ "is_index" A.is_index 2 ["thing"] (df_is_index A) := by
  obtain ⟨fd, F, B⟩ := T.f_is_index
  refine .mk' (fn_ok2 (k := 1) (body := d_is_index A) F sc_is_index finX_ok (by decide) (by unfold df_is_index; rfl) rfl ?_) B T.m_is_index T.k_is_index
  exact fun cdv X0 outer s H E hr => ⟨_, (ss_one (st_ret (e_and (e_call (ok_is_number T) (hr.mono (by decide)) (by rfl) (a_cons (e_var 0) a_nil)) (e_one (e_cmp or_ge s_ge (e_var 0) e_int (by rfl))))))⟩
theorem sc_is_name : FnScope ["thing", "sign"] ["thing"] (defScope s_is_name) := ⟨rfl, rfl, rfl, by decide +kernel, rfl, by decide +kernel, by decide +kernel⟩
theorem ok_is_name (T : Txt Γ A) : Df Γ "is_name" A.is_name 1 ["thing"] (df_is_name A) := by
  obtain ⟨fd, F, B⟩ := T.f_is_name
  refine .mk' (fn_ok2 (k := 0) (body := d_is_name A) F sc_is_name finX_ok (by decide) (by unfold df_is_name; rfl) rfl ?_) B T.m_is_name T.k_is_name
  exact fun cdv X0 outer s H E hr => ⟨_, (ss_cons (st_if (ew_or (et_not (et_val (e_blt or_isi s_isi (by rfl) T.z_isinstance b_isinstance (a_cons (e_var 0) (a_cons (e_ty (by rfl) T.z_str b_str) a_nil))))) (ew_or (et_not (et_chain or_le s_le or_le s_le e_int (e_blt or_len s_len (by rfl) T.z_len b_len (a_cons (e_var 0) a_nil)) (e_glob (by rfl) T.g_MOST_LETTERS_forms.choose_spec.1 T.g_MOST_LETTERS_forms.choose_spec.2 (fun _ => rv_int)))) (ew_or1 (et_cmp or_in s_in (e_var 0) (e_globR (by rfl) T.g_RESERVED.choose_spec.1 (rv_RESERVED T)) (by rfl))))).et (ss_one (st_ret e_bl)) ss_nil)
      (ss_one (st_ret (e_blt or_all s_all (by rfl) T.z_all b_all (a_cons (e_lc [("sign", 1)] (i_str false (e_var 0)) (blk_of (by kernel_rfl)) (fun _ _ _ _ _ => (g_name (i := 1))) (fun _ _ _ _ _ => ts_nil) (fun _ _ _ _ _ => (e_cmp or_in s_in (e_var 1) (e_glob (by rfl) T.g_LETTERS.choose_spec.1 T.g_LETTERS.choose_spec.2 (fun _ => rv_str)) (by rfl)))) a_nil)))))⟩
theorem sc_is_sized : FnScope ["thing", "many"] ["thing", "many"] (defScope s_is_sized) := ⟨rfl, rfl, rfl, by decide +kernel, rfl, by decide +kernel, by decide +kernel⟩
theorem ok_is_sized (T : Txt Γ A) : Df Γ "is_sized" A.is_sized 1 ["thing", "many"] (df_is_sized A) := by
  obtain ⟨fd, F, B⟩ := T.f_is_sized
  refine .mk' (fn_ok2 (k := 0) (body := d_is_sized A) F sc_is_sized finX_ok (by decide) (by unfold df_is_sized; rfl) rfl ?_) B T.m_is_sized T.k_is_sized
  exact fun cdv X0 outer s H E hr => ⟨_, (ss_one (st_ret (e_and (e_blt or_isi s_isi (by rfl) T.z_isinstance b_isinstance (a_cons (e_var 0) (a_cons (e_ty (by rfl) T.z_tuple b_tuple) a_nil))) (e_one (e_cmp or_eq s_eq (e_blt or_len s_len (by rfl) T.z_len b_len (a_cons (e_var 0) a_nil)) (e_var 1) (by rfl))))))⟩
theorem sc_is_letter : FnScope ["thing"] ["thing"] (defScope s_is_letter) := ⟨rfl, rfl, rfl, by decide +kernel, rfl, by decide +kernel, by decide +kernel⟩
theorem ok_is_letter (T : Txt Γ A) : Df Γ "is_letter" A.is_letter 3 ["thing"] (df_is_letter A) := by
  obtain ⟨fd, F, B⟩ := T.f_is_letter
  refine .mk' (fn_ok2 (k := 2) (body := d_is_letter A) F sc_is_letter finX_ok (by decide) (by unfold df_is_letter; rfl) rfl ?_) B T.m_is_letter T.k_is_letter
  exact fun cdv X0 outer s H E hr => ⟨_, (ss_one (st_ret (e_and (e_call (ok_is_sized T) (hr.mono (by decide)) (by rfl) (a_cons (e_var 0) (a_cons e_int a_nil))) (e_and (e_call (ok_is_name T) (hr.mono (by decide)) (by rfl) (a_cons (e_ix' (e_var 0) e_int) a_nil)) (e_and (e_call (ok_is_index T) (hr.mono (by decide)) (by rfl) (a_cons (e_ix' (e_var 0) e_int) a_nil)) (e_one (e_call (ok_is_index T) (hr.mono (by decide)) (by rfl) (a_cons (e_ix' (e_var 0) e_int) a_nil))))))))⟩
theorem sc_is_tuple_of : FnScope ["thing", "is_one", "one"] ["thing", "is_one"] (defScope s_is_tuple_of) := ⟨rfl, rfl, rfl, by decide +kernel, rfl, by decide +kernel, by decide +kernel⟩
theorem dfs_is_tuple_of (T : Txt Γ A) : Dfs Γ 3 (S_is_tuple_of A) := ⟨fun f r h => by
  unfold S_is_tuple_of at h
  split at h
  · rename_i e
    subst e
    cases h
    obtain ⟨fd, F, B⟩ := (ok_is_letter T).ex
    exact ⟨fd, _, rfl, F.mono (by decide), B, T.k_is_letter⟩
  cases h⟩
theorem ok_is_tuple_of (T : Txt Γ A) : Df Γ "is_tuple_of" A.is_tuple_of 4 ["thing", "is_one"] (df_is_tuple_of A) := by
  obtain ⟨fd, F, B⟩ := T.f_is_tuple_of
  refine .mk' (fn_ok2 (k := 3) (body := d_is_tuple_of A) F sc_is_tuple_of finX_ok (by decide) (by unfold df_is_tuple_of; rfl) rfl ?_) B T.m_is_tuple_of T.k_is_tuple_of
  exact fun cdv X0 outer s H E hr => ⟨_, (ss_one (st_ret (e_and (e_blt or_isi s_isi (by rfl) T.z_isinstance b_isinstance (a_cons (e_var 0) (a_cons (e_ty (by rfl) T.z_tuple b_tuple) a_nil))) (e_one (e_blt or_all s_all (by rfl) T.z_all b_all (a_cons (e_lc [("one", 2)] (i_seq false (e_var 0)) (blk_of (by kernel_rfl)) (fun _ _ _ _ _ => (g_name (i := 2))) (fun _ _ _ _ _ => ts_nil) (fun _ _ _ _ _ => (e_callS 1 (dfs_is_tuple_of T) (hr.mono (by decide)) (a_cons (e_var 2) a_nil)))) a_nil))))))⟩
theorem sc_is_harp_form : FnScope ["thing", "at"] ["thing"] (defScope s_is_harp_form) := ⟨rfl, rfl, rfl, by decide +kernel, rfl, by decide +kernel, by decide +kernel⟩
theorem ok_is_harp_form (T : Txt Γ A) : Df Γ "is_harp_form" A.is_harp_form 5 ["thing"] (df_is_harp_form A) := by
  obtain ⟨fd, F, B⟩ := T.f_is_harp_form
  refine .mk' (fn_ok2 (k := 4) (body := d_is_harp_form A) F sc_is_harp_form finX_ok (by decide) (by unfold df_is_harp_form; rfl) rfl ?_) B T.m_is_harp_form T.k_is_harp_form
  exact fun cdv X0 outer s H E hr => ⟨_, (ss_cons (st_if (ew_or (et_not (et_val (e_call (ok_is_sized T) (hr.mono (by decide)) (by rfl) (a_cons (e_var 0) (a_cons e_int a_nil))))) (ew_or1 (et_not (et_val (e_call (ok_is_tuple_of T) (hr.mono (by decide)) (by rfl) (a_cons (e_ix' (e_var 0) e_int) (a_cons (e_globR (by rfl) T.m_is_letter (fun _ => rv_ref)) a_nil))))))).et (ss_one (st_ret e_bl)) ss_nil)
      (ss_one (st_ret (e_blt or_all s_all (by rfl) T.z_all b_all (a_cons (e_lc [("at", 1)] (i_seq false (e_tup (a_cons e_int (a_cons e_int (a_cons e_int (a_cons e_int a_nil)))))) (blk_of (by kernel_rfl)) (fun _ _ _ _ _ => (g_name (i := 1))) (fun _ _ _ _ _ => ts_nil) (fun _ _ _ _ _ => (e_call (ok_is_index T) (hr.mono (by decide)) (by rfl) (a_cons (e_ix' (e_var 0) (e_var 1)) a_nil)))) a_nil)))))⟩
theorem sc_check_number : FnScope ["word", "number", "least", "most"] ["word", "number", "least", "most"] (defScope s_check_number) := ⟨rfl, rfl, rfl, by decide +kernel, rfl, by decide +kernel, by decide +kernel⟩
theorem ok_check_number (T : Txt Γ A) : Df Γ "check_number" A.check_number 1 ["word", "number", "least", "most"] (df_check_number A) := by
  obtain ⟨fd, F, B⟩ := T.f_check_number
  refine .mk' (fn_ok2 (k := 0) (body := d_check_number A) F sc_check_number finX_ok (by decide) (by unfold df_check_number; rfl) rfl ?_) B T.m_check_number T.k_check_number
  exact fun cdv X0 outer s H E hr => ⟨_, (ss_cons (st_if (et_cmp or_lt s_lt (e_var 1) (e_var 2) (by rfl)) (ss_one st_never) ss_nil)
      (ss_one (st_if (et_cmp or_gt s_gt (e_var 1) (e_var 3) (by rfl)) (ss_one st_never) ss_nil)))⟩
theorem sc_check_letters : FnScope ["harp", "known", "last", "name", "base", "foot"] ["harp"] (defScope s_check_letters) := ⟨rfl, rfl, rfl, by decide +kernel, rfl, by decide +kernel, by decide +kernel⟩
theorem ok_check_letters (T : Txt Γ A) : Df Γ "check_letters" A.check_letters 1 ["harp"] (df_check_letters A) := by
  obtain ⟨fd, F, B⟩ := T.f_check_letters
  refine .mk' (fn_ok2 (k := 0) (body := d_check_letters A) F sc_check_letters finX_ok (by decide) (by unfold df_check_letters; rfl) rfl ?_) B T.m_check_letters T.k_check_letters
  exact fun cdv X0 outer s H E hr => ⟨_, (ss_cons (st_par2 (p_cons .O 1 e_dictK (p_cons .V 2 (e_un or_neg s_neg e_int) p_nil)) (by decide) (show 1 < 6 by decide) (show 2 < 6 by decide))
      (ss_one (st_for (i_seq true (e_ix' (e_var 0) e_int)) (g_tup (gs_cons (g_name (i := 3)) (gs_cons (g_name (i := 4)) (gs_cons (g_name (i := 5)) gs_nil)))) (ss_cons (st_if (et_cmp or_in s_in (e_var 3) (e_var 1) (by rfl)) (ss_one st_never) ss_nil)
      (ss_cons (st_if (ew_or (et_cmp or_le s_le (e_var 4) (e_var 2) (by rfl)) (ew_or1 (et_cmp or_ge s_ge (e_var 4) (e_ix' (e_var 0) e_int) (by rfl)))).et (ss_one st_never) ss_nil)
      (ss_cons (st_if (et_cmp or_gt s_gt (e_var 5) e_int (by rfl)) (ss_one st_never) ss_nil)
      (ss_one (st_parG (p_cons .V 0 e_bl (p_cons .V 0 (e_var 4) p_nil)) (gm_cons (gm_sub (pl_var 1) (e_var 3)) (gm_cons (gm_of (g_name (i := 2))) gm_nil))))))))))⟩
theorem sc_checked_harp : FnScope ["thing"] ["thing"] (defScope s_checked_harp) := ⟨rfl, rfl, rfl, by decide +kernel, rfl, by decide +kernel, by decide +kernel⟩
theorem ok_checked_harp (T : Txt Γ A) : Df Γ "checked_harp" A.checked_harp 6 ["thing"] (df_checked_harp A) := by
  obtain ⟨fd, F, B⟩ := T.f_checked_harp
  refine .mk' (fn_ok2 (k := 5) (body := d_checked_harp A) F sc_checked_harp finX_ok (by decide) (by unfold df_checked_harp; rfl) rfl ?_) B T.m_checked_harp T.k_checked_harp
  exact fun cdv X0 outer s H E hr => ⟨_, (ss_cons (st_if (et_not (et_val (e_call (ok_is_harp_form T) (hr.mono (by decide)) (by rfl) (a_cons (e_var 0) a_nil)))) (ss_one st_never) ss_nil)
      (ss_cons (st_drop (e_call (ok_check_number T) (hr.mono (by decide)) (by rfl) (a_cons e_str (a_cons (e_ix' (e_var 0) e_int) (a_cons e_int (a_cons (e_glob (by rfl) T.g_MOST_ROUND.choose_spec.1 T.g_MOST_ROUND.choose_spec.2 (fun _ => rv_int)) a_nil))))))
      (ss_cons (st_drop (e_call (ok_check_number T) (hr.mono (by decide)) (by rfl) (a_cons e_str (a_cons (e_blt or_len s_len (by rfl) T.z_len b_len (a_cons (e_ix' (e_var 0) e_int) a_nil)) (a_cons e_int (a_cons (e_glob (by rfl) T.g_MOST_LETTERS_harps.choose_spec.1 T.g_MOST_LETTERS_harps.choose_spec.2 (fun _ => rv_int)) a_nil))))))
      (ss_cons (st_drop (e_call (ok_check_letters T) (hr.mono (by decide)) (by rfl) (a_cons (e_var 0) a_nil)))
      (ss_cons (st_drop (e_call (ok_check_number T) (hr.mono (by decide)) (by rfl) (a_cons e_str (a_cons (e_ix' (e_var 0) e_int) (a_cons e_int (a_cons (e_glob (by rfl) T.g_MOST_STRINGS.choose_spec.1 T.g_MOST_STRINGS.choose_spec.2 (fun _ => rv_int)) a_nil))))))
      (ss_cons (st_drop (e_call (ok_check_number T) (hr.mono (by decide)) (by rfl) (a_cons e_str (a_cons (e_ix' (e_var 0) e_int) (a_cons e_int (a_cons (e_glob (by rfl) T.g_MOST_FINGERS.choose_spec.1 T.g_MOST_FINGERS.choose_spec.2 (fun _ => rv_int)) a_nil))))))
      (ss_cons (st_drop (e_call (ok_check_number T) (hr.mono (by decide)) (by rfl) (a_cons e_str (a_cons (e_ix' (e_var 0) e_int) (a_cons e_int (a_cons (e_glob (by rfl) T.g_MOST_REACH.choose_spec.1 T.g_MOST_REACH.choose_spec.2 (fun _ => rv_int)) a_nil))))))
      (ss_one (st_ret (e_var 0))))))))))⟩
theorem sc_letters_many : FnScope ["harp"] ["harp"] (defScope s_letters_many) := ⟨rfl, rfl, rfl, by decide +kernel, rfl, by decide +kernel, by decide +kernel⟩
theorem ok_letters_many (T : Txt Γ A) : Df Γ "letters_many" A.letters_many 1 ["harp"] (df_letters_many A) := by
  obtain ⟨fd, F, B⟩ := T.f_letters_many
  refine .mk' (fn_ok2 (k := 0) (body := d_letters_many A) F sc_letters_many finX_ok (by decide) (by unfold df_letters_many; rfl) rfl ?_) B T.m_letters_many T.k_letters_many
  exact fun cdv X0 outer s H E hr => ⟨_, (ss_one (st_ret (e_blt or_len s_len (by rfl) T.z_len b_len (a_cons (e_ix' (e_var 0) e_int) a_nil))))⟩
theorem sc_bases_of : FnScope ["harp", "name", "base", "foot"] ["harp"] (defScope s_bases_of) := ⟨rfl, rfl, rfl, by decide +kernel, rfl, by decide +kernel, by decide +kernel⟩
theorem ok_bases_of (T : Txt Γ A) : Df Γ "bases_of" A.bases_of 1 ["harp"] (df_bases_of A) := by
  obtain ⟨fd, F, B⟩ := T.f_bases_of
  refine .mk' (fn_ok2 (k := 0) (body := d_bases_of A) F sc_bases_of finX_ok (by decide) (by unfold df_bases_of; rfl) rfl ?_) B T.m_bases_of T.k_bases_of
  exact fun cdv X0 outer s H E hr => ⟨_, (ss_one (st_ret (e_btt or_tuple s_tuple (by rfl) T.z_tuple b_tuple (a_cons (e_lc [("name", 1), ("base", 2), ("foot", 3)] (i_seq false (e_ix' (e_var 0) e_int)) (blk_of (by kernel_rfl)) (fun _ _ _ _ _ => (g_tup (gs_cons (g_name (i := 1)) (gs_cons (g_name (i := 2)) (gs_cons (g_name (i := 3)) gs_nil))))) (fun _ _ _ _ _ => ts_nil) (fun _ _ _ _ _ => (e_var 2))) a_nil))))⟩
theorem sc_givers : FnScope ["harp", "kind", "at", "base"] ["harp", "kind"] (defScope s_givers) := ⟨rfl, rfl, rfl, by decide +kernel, rfl, by decide +kernel, by decide +kernel⟩
theorem ok_givers (T : Txt Γ A) : Df Γ "givers" A.givers 2 ["harp", "kind"] (df_givers A) := by
  obtain ⟨fd, F, B⟩ := T.f_givers
  refine .mk' (fn_ok2 (k := 1) (body := d_givers A) F sc_givers finX_ok (by decide) (by unfold df_givers; rfl) rfl ?_) B T.m_givers T.k_givers
  exact fun cdv X0 outer s H E hr => ⟨_, (ss_one (st_ret (e_btt or_tuple s_tuple (by rfl) T.z_tuple b_tuple (a_cons (e_lc [("at", 2), ("base", 3)] (i_enum false (by rfl) T.z_enumerate (a_cons (e_call (ok_bases_of T) (hr.mono (by decide)) (by rfl) (a_cons (e_var 0) a_nil)) a_nil)) (blk_of (by kernel_rfl)) (fun _ _ _ _ _ => (g_tup (gs_cons (g_name (i := 2)) (gs_cons (g_name (i := 3)) gs_nil)))) (fun _ _ _ _ _ => (ts_one (et_cmp or_le s_le (e_bin or_mod s_mod (e_bin or_add s_add (e_bin or_sub s_sub (e_var 1) (e_var 3)) e_int) (e_ix' (e_var 0) e_int)) e_int (by rfl)))) (fun _ _ _ _ _ => (e_var 2))) a_nil))))⟩
theorem sc_classes_of : FnScope ["harp", "setting", "found", "base", "position", "kind"] ["harp", "setting"] (defScope s_classes_of) := ⟨rfl, rfl, rfl, by decide +kernel, rfl, by decide +kernel, by decide +kernel⟩
theorem ok_classes_of (T : Txt Γ A) : Df Γ "classes_of" A.classes_of 2 ["harp", "setting"] (df_classes_of A) := by
  obtain ⟨fd, F, B⟩ := T.f_classes_of
  refine .mk' (fn_ok2 (k := 1) (body := d_classes_of A) F sc_classes_of finX_ok (by decide) (by unfold df_classes_of; rfl) rfl ?_) B T.m_classes_of T.k_classes_of
  exact fun cdv X0 outer s H E hr => ⟨_, (ss_cons (st_setLc .V (i := 2) [("base", 3), ("position", 4)] (hsw := by rfl) (hi := (i_zip false (by rfl) T.z_zip (a_cons (e_call (ok_bases_of T) (hr.mono (by decide)) (by rfl) (a_cons (e_var 0) a_nil)) (a_cons (e_var 1) a_nil)))) (ok := (blk_of (by kernel_rfl))) (hg := (fun _ _ _ _ _ => (g_tup (gs_cons (g_name (i := 3)) (gs_cons (g_name (i := 4)) gs_nil))))) (ht := (fun _ _ _ _ _ => ts_nil)) (he := (fun _ _ _ _ _ => (e_bin or_mod s_mod (e_bin or_add s_add (e_var 3) (e_var 4)) (e_ix' (e_var 0) e_int)))))
      (ss_one (st_ret (e_btt or_tuple s_tuple (by rfl) T.z_tuple b_tuple (a_cons (e_blt or_sorted2 s_sorted2 (by rfl) T.z_sorted b_sorted (a_cons (e_dc [("kind", 5)] (i_seq false (e_var 2)) (blk_of (by kernel_rfl)) (fun _ _ _ _ _ => (g_name (i := 5))) (fun _ _ _ _ _ => ts_nil) (fun _ _ _ _ _ => (e_var 5)) (fun _ _ _ _ _ => e_bl)) a_nil)) a_nil)))))⟩
theorem sc_position_for : FnScope ["harp", "letter", "kind", "position"] ["harp", "letter", "kind"] (defScope s_position_for) := ⟨rfl, rfl, rfl, by decide +kernel, rfl, by decide +kernel, by decide +kernel⟩
theorem ok_position_for (T : Txt Γ A) : Df Γ "position_for" A.position_for 2 ["harp", "letter", "kind"] (df_position_for A) := by
  obtain ⟨fd, F, B⟩ := T.f_position_for
  refine .mk' (fn_ok2 (k := 1) (body := d_position_for A) F sc_position_for finX_ok (by decide) (by unfold df_position_for; rfl) rfl ?_) B T.m_position_for T.k_position_for
  exact fun cdv X0 outer s H E hr => ⟨_, (ss_cons (st_for (i_seq true (e_globR (by rfl) T.g_POSITIONS.choose_spec.1 (rv_POSITIONS T))) (g_name (i := 3)) (ss_one (st_if (et_cmp or_eq s_eq (e_bin or_mod s_mod (e_bin or_add s_add (e_ix' (e_call (ok_bases_of T) (hr.mono (by decide)) (by rfl) (a_cons (e_var 0) a_nil)) (e_var 1)) (e_var 3)) (e_ix' (e_var 0) e_int)) (e_var 2) (by rfl)) (ss_one (st_ret (e_var 3))) ss_nil)))
      (ss_one (st_ret e_non)))⟩
theorem sc_Matching___init__ : FnScope ["self", "harp", "lot"] ["self", "harp", "lot"] (defScope s_Matching___init__) := ⟨rfl, rfl, rfl, by decide +kernel, rfl, by decide +kernel, by decide +kernel⟩
theorem ok_Matching___init__ (T : Txt Γ A) : Dm Γ A.Matching___init__ 1 ["self", "harp", "lot"] (df_Matching___init__ A) := by
  obtain ⟨fd, F, B⟩ := T.f_Matching___init__
  refine .mk' (fn_ok2 (k := 0) (body := d_Matching___init__ A) F sc_Matching___init__ finX_ok (by decide) (by unfold df_Matching___init__; rfl) rfl ?_) B
  exact fun cdv X0 outer s H E hr => ⟨_, (ss_one (st_parG (p_cons .V 0 (e_var 1) (p_cons .V 0 (e_var 2) (p_cons .N 0 e_dictK p_nil))) (gm_cons (gm_fld T.cl_Matching T.n_Matching_harp (e_var 0)) (gm_cons (gm_fld T.cl_Matching T.n_Matching_lot (e_var 0)) (gm_cons (gm_fld T.cl_Matching T.n_Matching_held (e_var 0)) gm_nil)))))⟩
theorem sc_Matching_put : FnScope ["self", "kind", "seen", "letter"] ["self", "kind", "seen"] (defScope s_Matching_put) := ⟨rfl, rfl, rfl, by decide +kernel, rfl, by decide +kernel, by decide +kernel⟩
theorem okr_Matching_put (T : Txt Γ A) : ∀ n, Dm Γ A.Matching_put (n + 2) ["self", "kind", "seen"] (dr_Matching_put A n)
  | 0 => by
    obtain ⟨fd, F, B⟩ := T.f_Matching_put
    exact ⟨fd, fn_none, B⟩
  | n + 1 => by
    have ih := okr_Matching_put T n
    obtain ⟨fd, F, B⟩ := T.f_Matching_put
    have e : n + 1 + 2 = (n + 2) + 1 := by omega
    rw [e]
    refine .mk' (fn_ok2 (k := n + 2) (body := d_Matching_put A (dr_Matching_put A n)) F sc_Matching_put finX_ok (by decide) rfl rfl ?_) B
    exact fun cdv X0 outer s H E hr => ⟨_, (ss_cons (st_for (i_seq true (e_call (ok_givers T) (hr.mono (by omega)) (by rfl) (a_cons (e_fld T.cl_Matching T.n_Matching_harp (e_var 0)) (a_cons (e_var 1) a_nil)))) (g_name (i := 3)) (ss_one (st_if (et_cmp or_notin s_notin (e_var 3) (e_var 2) (by rfl)) (ss_cons (st_asgG e_bl (gm_sub (pl_var 2) (e_var 3)))
      (ss_one (st_if (ew_or (et_cmp or_notin s_notin (e_var 3) (e_fld T.cl_Matching T.n_Matching_held (e_var 0)) (by rfl)) (ew_or1 (et_val (e_meth T.cl_Matching T.me_Matching_put ih hr (e_var 0) (a_cons (e_ix' (e_fld T.cl_Matching T.n_Matching_held (e_var 0)) (e_var 3)) (a_cons (e_var 2) a_nil)))))).et (ss_cons (st_asgG (e_var 1) (gm_sub (pl_ex (e_fld T.cl_Matching T.n_Matching_held (e_var 0))) (e_var 3)))
      (ss_one (st_ret e_bl))) ss_nil))) ss_nil)))
      (ss_one (st_ret e_bl)))⟩
theorem ok_Matching_put (T : Txt Γ A) : Dm Γ A.Matching_put 14 ["self", "kind", "seen"] (df_Matching_put A) := okr_Matching_put T 12
theorem sc_Matching_setting : FnScope ["self", "letters", "at", "kind"] ["self"] (defScope s_Matching_setting) := ⟨rfl, rfl, rfl, by decide +kernel, rfl, by decide +kernel, by decide +kernel⟩
theorem ok_Matching_setting (T : Txt Γ A) : Dm Γ A.Matching_setting 15 ["self"] (df_Matching_setting A) := by
  obtain ⟨fd, F, B⟩ := T.f_Matching_setting
  refine .mk' (fn_ok2 (k := 14) (body := d_Matching_setting A) F sc_Matching_setting finX_ok (by decide) (by unfold df_Matching_setting; rfl) rfl ?_) B
  exact fun cdv X0 outer s H E hr => ⟨_, (ss_cons (st_if (et_not (et_val (e_blt or_all s_all (by rfl) T.z_all b_all (a_cons (e_lc [("kind", 3)] (i_seq false (e_fld T.cl_Matching T.n_Matching_lot (e_var 0))) (blk_of (by kernel_rfl)) (fun _ _ _ _ _ => (g_name (i := 3))) (fun _ _ _ _ _ => ts_nil) (fun _ _ _ _ _ => (e_meth T.cl_Matching T.me_Matching_put (ok_Matching_put T) (hr.mono (by decide)) (e_var 0) (a_cons (e_var 3) (a_cons (e_new e_dictK) a_nil))))) a_nil)))) (ss_one (st_ret e_non)) ss_nil)
      (ss_cons (st_set .V (i := 1) rfl (e_listRg (by rfl) T.z_list (e_rg1 (by rfl) T.z_range (e_call (ok_letters_many T) (hr.mono (by decide)) (by rfl) (a_cons (e_fld T.cl_Matching T.n_Matching_harp (e_var 0)) a_nil)))))
      (ss_one (st_ret (e_btt or_tuple s_tuple (by rfl) T.z_tuple b_tuple (a_cons (e_lc [("at", 2)] (i_seq false (e_var 1)) (blk_of (by kernel_rfl)) (fun _ _ _ _ _ => (g_name (i := 2))) (fun _ _ _ _ _ => ts_nil) (fun _ _ _ _ _ => (e_if (et_cmp or_in s_in (e_var 2) (e_fld T.cl_Matching T.n_Matching_held (e_var 0)) (by rfl)) (e_call (ok_position_for T) (hr.mono (by decide)) (by rfl) (a_cons (e_fld T.cl_Matching T.n_Matching_harp (e_var 0)) (a_cons (e_var 2) (a_cons (e_ix' (e_fld T.cl_Matching T.n_Matching_held (e_var 0)) (e_var 2)) a_nil)))) e_int))) a_nil))))))⟩
theorem sc_setting_for : FnScope ["harp", "lot"] ["harp", "lot"] (defScope s_setting_for) := ⟨rfl, rfl, rfl, by decide +kernel, rfl, by decide +kernel, by decide +kernel⟩
theorem ok_setting_for (T : Txt Γ A) : Df Γ "setting_for" A.setting_for 16 ["harp", "lot"] (df_setting_for A) := by
  obtain ⟨fd, F, B⟩ := T.f_setting_for
  refine .mk' (fn_ok2 (k := 15) (body := d_setting_for A) F sc_setting_for finX_ok (by decide) (by unfold df_setting_for; rfl) rfl ?_) B T.m_setting_for T.k_setting_for
  exact fun cdv X0 outer s H E hr => ⟨_, (ss_one (st_ret (e_meth0 T.cl_Matching T.me_Matching_setting (ok_Matching_setting T) (hr.mono (by decide)) (e_make T.mk_Matching T.m_Matching (ok_Matching___init__ T) (hr.mono (by decide)) (by rfl) (a_cons (e_var 0) (a_cons (e_var 1) a_nil))) (ht := mcall_of (by rfl) (fun _ => by rfl)))))⟩
theorem sc_is_had : FnScope ["harp", "lot"] ["harp", "lot"] (defScope s_is_had) := ⟨rfl, rfl, rfl, by decide +kernel, rfl, by decide +kernel, by decide +kernel⟩
theorem ok_is_had (T : Txt Γ A) : Df Γ "is_had" A.is_had 17 ["harp", "lot"] (df_is_had A) := by
  obtain ⟨fd, F, B⟩ := T.f_is_had
  refine .mk' (fn_ok2 (k := 16) (body := d_is_had A) F sc_is_had finX_ok (by decide) (by unfold df_is_had; rfl) rfl ?_) B T.m_is_had T.k_is_had
  exact fun cdv X0 outer s H E hr => ⟨_, (ss_one (st_ret (e_cmp or_isnot s_isnot (e_call (ok_setting_for T) (hr.mono (by decide)) (by rfl) (a_cons (e_var 0) (a_cons (e_var 1) a_nil))) e_non (by rfl))))⟩
theorem sc_letters_in : FnScope ["harp", "arc", "many", "step"] ["harp", "arc"] (defScope s_letters_in) := ⟨rfl, rfl, rfl, by decide +kernel, rfl, by decide +kernel, by decide +kernel⟩
theorem ok_letters_in (T : Txt Γ A) : Df Γ "letters_in" A.letters_in 2 ["harp", "arc"] (df_letters_in A) := by
  obtain ⟨fd, F, B⟩ := T.f_letters_in
  refine .mk' (fn_ok2 (k := 1) (body := d_letters_in A) F sc_letters_in finX_ok (by decide) (by unfold df_letters_in; rfl) rfl ?_) B T.m_letters_in T.k_letters_in
  exact fun cdv X0 outer s H E hr => ⟨_, (ss_cons (st_set .V (i := 2) rfl (e_call (ok_letters_many T) (hr.mono (by decide)) (by rfl) (a_cons (e_var 0) a_nil)))
      (ss_one (st_ret (e_btt or_tuple s_tuple (by rfl) T.z_tuple b_tuple (a_cons (e_lc [("step", 3)] (i_range1 false (by rfl) T.z_range (a_cons (e_ix' (e_var 1) e_int) a_nil)) (blk_of (by kernel_rfl)) (fun _ _ _ _ _ => (g_name (i := 3))) (fun _ _ _ _ _ => ts_nil) (fun _ _ _ _ _ => (e_bin or_mod s_mod (e_bin or_add s_add (e_ix' (e_var 1) e_int) (e_var 3)) (e_var 2)))) a_nil)))))⟩
theorem sc_within : FnScope ["harp", "lot", "arc", "there", "kind", "letter"] ["harp", "lot", "arc"] (defScope s_within) := ⟨rfl, rfl, rfl, by decide +kernel, rfl, by decide +kernel, by decide +kernel⟩
theorem ok_within (T : Txt Γ A) : Df Γ "within" A.within 3 ["harp", "lot", "arc"] (df_within A) := by
  obtain ⟨fd, F, B⟩ := T.f_within
  refine .mk' (fn_ok2 (k := 2) (body := d_within A) F sc_within finX_ok (by decide) (by unfold df_within; rfl) rfl ?_) B T.m_within T.k_within
  exact fun cdv X0 outer s H E hr => ⟨_, (ss_cons (st_set .V (i := 3) rfl (e_call (ok_letters_in T) (hr.mono (by decide)) (by rfl) (a_cons (e_var 0) (a_cons (e_var 2) a_nil))))
      (ss_one (st_ret (e_btt or_tuple s_tuple (by rfl) T.z_tuple b_tuple (a_cons (e_lc [("kind", 4)] (i_seq false (e_var 1)) (blk_of (by kernel_rfl)) (fun _ _ _ _ _ => (g_name (i := 4))) (fun _ _ _ _ _ => (ts_one (et_val (e_blt or_all s_all (by rfl) T.z_all b_all (a_cons (e_lc [("letter", 5)] (i_seq false (e_call (ok_givers T) (hr.mono (by decide)) (by rfl) (a_cons (e_var 0) (a_cons (e_var 4) a_nil)))) (blk_of (by kernel_rfl)) (fun _ _ _ _ _ => (g_name (i := 5))) (fun _ _ _ _ _ => ts_nil) (fun _ _ _ _ _ => (e_cmp or_in s_in (e_var 5) (e_var 3) (by rfl)))) a_nil))))) (fun _ _ _ _ _ => (e_var 4))) a_nil)))))⟩
theorem sc_arcs : FnScope ["harp", "many", "found", "first", "size"] ["harp"] (defScope s_arcs) := ⟨rfl, rfl, rfl, by decide +kernel, rfl, by decide +kernel, by decide +kernel⟩
theorem ok_arcs (T : Txt Γ A) : Df Γ "arcs" A.arcs 2 ["harp"] (df_arcs A) := by
  obtain ⟨fd, F, B⟩ := T.f_arcs
  refine .mk' (fn_ok2 (k := 1) (body := d_arcs A) F sc_arcs finX_ok (by decide) (by unfold df_arcs; rfl) rfl ?_) B T.m_arcs T.k_arcs
  exact fun cdv X0 outer s H E hr => ⟨_, (ss_cons (st_set .V (i := 1) rfl (e_call (ok_letters_many T) (hr.mono (by decide)) (by rfl) (a_cons (e_var 0) a_nil)))
      (ss_cons (st_setLc2 .V (i := 2) [("first", 3), ("size", 4)] [4] (hsw := by rfl) (hi := (i_range1 false (by rfl) T.z_range (a_cons (e_var 1) a_nil))) (ok := (blk_of (by kernel_rfl))) (hg := (fun _ _ _ _ _ => (g_name (i := 3)))) (ht := (fun _ _ _ _ _ => ts_nil)) (hi1 := (fun _ _ _ _ _ => (i_range2 false (by rfl) T.z_range (a_cons e_int (a_cons (e_var 1) a_nil))))) (hg1 := (fun _ _ _ _ _ => (g_name (i := 4)))) (ht1 := (fun _ _ _ _ _ => ts_nil)) (he := (fun _ _ _ _ _ => (e_tup (a_cons (e_var 3) (a_cons (e_var 4) a_nil))))))
      (ss_one (st_ret (e_btt or_tuple s_tuple (by rfl) T.z_tuple b_tuple (a_cons (e_blt or_sorted2 s_sorted2 (by rfl) T.z_sorted b_sorted (a_cons (e_lst (a_cons (e_tup (a_cons e_int (a_cons e_int a_nil))) (a_cons (e_tup (a_cons e_int (a_cons (e_var 1) a_nil))) (a_star (e_var 2) a_nil)))) a_nil)) a_nil))))))⟩
theorem sc_over_full : FnScope ["harp", "lot", "arc"] ["harp", "lot"] (defScope s_over_full) := ⟨rfl, rfl, rfl, by decide +kernel, rfl, by decide +kernel, by decide +kernel⟩
theorem ok_over_full (T : Txt Γ A) : Df Γ "over_full" A.over_full 4 ["harp", "lot"] (df_over_full A) := by
  obtain ⟨fd, F, B⟩ := T.f_over_full
  refine .mk' (fn_ok2 (k := 3) (body := d_over_full A) F sc_over_full finX_ok (by decide) (by unfold df_over_full; rfl) rfl ?_) B T.m_over_full T.k_over_full
  exact fun cdv X0 outer s H E hr => ⟨_, (ss_cons (st_for (i_seq true (e_call (ok_arcs T) (hr.mono (by decide)) (by rfl) (a_cons (e_var 0) a_nil))) (g_name (i := 2)) (ss_one (st_if (et_cmp or_gt s_gt (e_blt or_len s_len (by rfl) T.z_len b_len (a_cons (e_call (ok_within T) (hr.mono (by decide)) (by rfl) (a_cons (e_var 0) (a_cons (e_var 1) (a_cons (e_var 2) a_nil)))) a_nil)) (e_ix' (e_var 2) e_int) (by rfl)) (ss_one (st_ret (e_var 2))) ss_nil)))
      (ss_one (st_ret e_non)))⟩
theorem sc_is_over_full : FnScope ["harp", "lot", "thing"] ["harp", "lot", "thing"] (defScope s_is_over_full) := ⟨rfl, rfl, rfl, by decide +kernel, rfl, by decide +kernel, by decide +kernel⟩
theorem ok_is_over_full (T : Txt Γ A) : Df Γ "is_over_full" A.is_over_full 4 ["harp", "lot", "thing"] (df_is_over_full A) := by
  obtain ⟨fd, F, B⟩ := T.f_is_over_full
  refine .mk' (fn_ok2 (k := 3) (body := d_is_over_full A) F sc_is_over_full finX_ok (by decide) (by unfold df_is_over_full; rfl) rfl ?_) B T.m_is_over_full T.k_is_over_full
  exact fun cdv X0 outer s H E hr => ⟨_, (ss_cons (st_if (ew_or (et_not (et_val (e_call (ok_is_sized T) (hr.mono (by decide)) (by rfl) (a_cons (e_var 2) (a_cons e_int a_nil))))) (ew_or (et_not (et_val (e_call (ok_is_index T) (hr.mono (by decide)) (by rfl) (a_cons (e_ix' (e_var 2) e_int) a_nil)))) (ew_or (et_not (et_val (e_call (ok_is_index T) (hr.mono (by decide)) (by rfl) (a_cons (e_ix' (e_var 2) e_int) a_nil)))) (ew_or1 (et_cmp or_notin s_notin (e_var 2) (e_call (ok_arcs T) (hr.mono (by decide)) (by rfl) (a_cons (e_var 0) a_nil)) (by rfl)))))).et (ss_one (st_ret e_bl)) ss_nil)
      (ss_one (st_ret (e_cmp or_gt s_gt (e_blt or_len s_len (by rfl) T.z_len b_len (a_cons (e_call (ok_within T) (hr.mono (by decide)) (by rfl) (a_cons (e_var 0) (a_cons (e_var 1) (a_cons (e_var 2) a_nil)))) a_nil)) (e_ix' (e_var 2) e_int) (by rfl)))))⟩
theorem sc__law_bag : FnScope ["script", "cell"] ["script"] (defScope s__law_bag) := ⟨rfl, rfl, rfl, by decide +kernel, rfl, by decide +kernel, by decide +kernel⟩
theorem ok__law_bag (T : Txt Γ A) : Df Γ "_law_bag" A._law_bag 1 ["script"] (df__law_bag A) := by
  obtain ⟨fd, F, B⟩ := T.f__law_bag
  refine .mk' (fn_ok2 (k := 0) (body := d__law_bag A) F sc__law_bag finX_ok (by decide) (by unfold df__law_bag; rfl) rfl ?_) B T.m__law_bag T.k__law_bag
  exact fun cdv X0 outer s H E hr => ⟨_, (ss_one (st_ret (e_lst (a_cons e_int (a_cons e_int (a_cons e_int (a_cons (e_lc [("cell", 1)] (i_seq false (e_slice (e_var 0) o_none (o_some e_int))) (blk_of (by kernel_rfl)) (fun _ _ _ _ _ => (g_name (i := 1))) (fun _ _ _ _ _ => ts_nil) (fun _ _ _ _ _ => (e_blt or_abs s_abs (by rfl) T.z_abs b_abs (a_cons (e_var 1) a_nil)))) a_nil)))))))⟩
theorem sc__law_take : FnScope ["bag", "many", "begin", "second", "cell", "stirred", "value"] ["bag", "many"] (defScope s__law_take) := ⟨rfl, rfl, rfl, by decide +kernel, rfl, by decide +kernel, by decide +kernel⟩
theorem ok__law_take (T : Txt Γ A) : Df Γ "_law_take" A._law_take 1 ["bag", "many"] (df__law_take A) := by
  obtain ⟨fd, F, B⟩ := T.f__law_take
  refine .mk' (fn_ok2 (k := 0) (body := d__law_take A) F sc__law_take finX_ok (by decide) (by unfold df__law_take; rfl) rfl ?_) B T.m__law_take T.k__law_take
  exact fun cdv X0 outer s H E hr => ⟨_, (ss_cons (st_if (et_cmp or_eq s_eq (e_ix' (e_var 0) e_int) e_int (by rfl)) (ss_cons (st_set .V (i := 4) rfl (e_ix' (e_bin or_add s_add (e_slice (e_ix' (e_var 0) e_int) (o_some (e_ix' (e_var 0) e_int)) o_none) (e_lst (a_cons e_int a_nil))) e_int))
      (ss_cons (st_augS (fun _ _ => ip_add) sip_int (pl_var 0) e_int e_int)
      (ss_cons (st_if (et_cmp or_ge s_ge (e_var 4) (e_bin or_pow s_pow e_int e_int) (by rfl)) (ss_one (st_asgG (e_var 4) (gm_sub (pl_var 0) e_int))) ss_nil)
      (ss_cons (st_set .V (i := 5) rfl (e_bin or_add s_add (e_bin or_add s_add (e_bin or_mul s_mul (e_ix' (e_var 0) e_int) e_int) (e_bin or_mod s_mod (e_btt or_int s_intC (by rfl) T.z_int b_int (a_cons (e_var 4) a_nil)) e_int)) (e_bin or_mul s_mul e_int (e_ix' (e_var 0) e_int))))
      (ss_one (st_asgG (e_bin or_mod s_mod (e_btt or_int s_intC (by rfl) T.z_int b_int (a_cons (e_var 5) a_nil)) e_int) (gm_sub (pl_var 0) e_int))))))) ss_nil)
      (ss_cons (st_if (et_cmp or_gt s_gt (e_ix' (e_var 0) e_int) e_int (by rfl)) (ss_cons (st_set .V (i := 6) rfl (e_bin or_mod s_mod (e_btt or_int s_intC (by rfl) T.z_int b_int (a_cons (e_ix' (e_var 0) e_int) a_nil)) (e_var 1)))
      (ss_cons (st_asgG (e_bin or_div s_div (e_btt or_int s_intC (by rfl) T.z_int b_int (a_cons (e_ix' (e_var 0) e_int) a_nil)) (e_var 1)) (gm_sub (pl_var 0) e_int))
      (ss_one (st_ret (e_var 6))))) ss_nil)
      (ss_cons (st_set .V (i := 2) rfl (e_bin or_mod s_mod (e_btt or_int s_intC (by rfl) T.z_int b_int (a_cons (e_bin or_mul s_mul (e_bin or_add s_add (e_ix' (e_var 0) e_int) e_int) e_int) a_nil)) e_int))
      (ss_cons (st_set .V (i := 3) rfl (e_bin or_mod s_mod (e_btt or_int s_intC (by rfl) T.z_int b_int (a_cons (e_bin or_mul s_mul (e_bin or_mod s_mod (e_btt or_int s_intC (by rfl) T.z_int b_int (a_cons (e_bin or_mul s_mul (e_var 2) (e_var 2)) a_nil)) e_int) e_int) a_nil)) e_int))
      (ss_one (st_ret (e_bin or_mod s_mod (e_btt or_int s_intC (by rfl) T.z_int b_int (a_cons (e_bin or_div s_div (e_var 3) e_int) a_nil)) (e_var 1))))))))⟩
theorem sc__law_some : FnScope ["bag", "things"] ["bag", "things"] (defScope s__law_some) := ⟨rfl, rfl, rfl, by decide +kernel, rfl, by decide +kernel, by decide +kernel⟩
theorem ok__law_some (T : Txt Γ A) : Df Γ "_law_some" A._law_some 2 ["bag", "things"] (df__law_some A) := by
  obtain ⟨fd, F, B⟩ := T.f__law_some
  refine .mk' (fn_ok2 (k := 1) (body := d__law_some A) F sc__law_some finX_ok (by decide) (by unfold df__law_some; rfl) rfl ?_) B T.m__law_some T.k__law_some
  exact fun cdv X0 outer s H E hr => ⟨_, (ss_one (st_ret (e_ix' (e_var 1) (e_call (ok__law_take T) (hr.mono (by decide)) (by rfl) (a_cons (e_var 0) (a_cons (e_blt or_len s_len (by rfl) T.z_len b_len (a_cons (e_var 1) a_nil)) a_nil))))))⟩
theorem sc__law_mixed : FnScope ["bag", "things", "found", "thing"] ["bag", "things"] (defScope s__law_mixed) := ⟨rfl, rfl, rfl, by decide +kernel, rfl, by decide +kernel, by decide +kernel⟩
theorem ok__law_mixed (T : Txt Γ A) : Df Γ "_law_mixed" A._law_mixed 2 ["bag", "things"] (df__law_mixed A) := by
  obtain ⟨fd, F, B⟩ := T.f__law_mixed
  refine .mk' (fn_ok2 (k := 1) (body := d__law_mixed A) F sc__law_mixed finX_ok (by decide) (by unfold df__law_mixed; rfl) rfl ?_) B T.m__law_mixed T.k__law_mixed
  exact fun cdv X0 outer s H E hr => ⟨_, (ss_cons (st_set .O (i := 2) rfl (e_lst a_nil))
      (ss_cons (st_for (i_seq true (e_var 1)) (g_name (i := 3)) (ss_one (st_mut PySem.F.plainAttrs_list PySem.F.slot_list_insert PySem.F.type_list_insert (fun _ _ => mt_insert) sm_insert (pl_var 2) (a_cons (e_call (ok__law_take T) (hr.mono (by decide)) (by rfl) (a_cons (e_var 0) (a_cons (e_bin or_add s_add (e_blt or_len s_len (by rfl) T.z_len b_len (a_cons (e_var 2) a_nil)) e_int) a_nil))) (a_cons (e_var 3) a_nil)))))
      (ss_one (st_ret (e_var 2)))))⟩
theorem sc__law_same : FnScope ["found", "due", "line", "turn", "one", "other", "k"] ["found", "due"] (defScope s__law_same) := ⟨rfl, rfl, rfl, by decide +kernel, rfl, by decide +kernel, by decide +kernel⟩
theorem ok__law_same (T : Txt Γ A) : Df Γ "_law_same" A._law_same 1 ["found", "due"] (df__law_same A) := by
  obtain ⟨fd, F, B⟩ := T.f__law_same
  refine .mk' (fn_ok2 (k := 0) (body := d__law_same A) F sc__law_same finX_ok (by decide) (by unfold df__law_same; rfl) rfl ?_) B T.m__law_same T.k__law_same
  exact fun cdv X0 outer s H E hr => ⟨_, (ss_cons (st_set .O (i := 2) rfl (e_lst (a_cons (e_tup (a_cons (e_var 0) (a_cons (e_var 1) a_nil))) a_nil)))
      (ss_cons (st_for (i_range1 true (by rfl) T.z_range (a_cons e_int a_nil)) (g_name (i := 3)) (ss_cons (st_if (et_cmp or_eq s_eq (e_var 2) (e_lst a_nil) (by rfl)) (ss_one (st_ret e_bl)) ss_nil)
      (ss_cons (st_mutG PySem.F.plainAttrs_list PySem.F.slot_list_pop PySem.F.type_list_pop (fun _ _ => mt_pop) sm_pop (pl_var 2) (gm_of (g_tup (gs_cons (g_name (i := 4)) (gs_cons (g_name (i := 5)) gs_nil)))))
      (ss_one (st_if (et_val (e_blt or_isi s_isi (by rfl) T.z_isinstance b_isinstance (a_cons (e_var 5) (a_cons (e_tup (a_cons (e_ty (by rfl) T.z_tuple b_tuple) (a_cons (e_ty (by rfl) T.z_list b_list) a_nil))) a_nil)))) (ss_cons (st_if (ew_or (et_cmp or_ne s_ne (e_blt or_isi s_isi (by rfl) T.z_isinstance b_isinstance (a_cons (e_var 4) (a_cons (e_ty (by rfl) T.z_tuple b_tuple) a_nil))) (e_blt or_isi s_isi (by rfl) T.z_isinstance b_isinstance (a_cons (e_var 5) (a_cons (e_ty (by rfl) T.z_tuple b_tuple) a_nil))) (by rfl)) (ew_or (et_cmp or_ne s_ne (e_blt or_isi s_isi (by rfl) T.z_isinstance b_isinstance (a_cons (e_var 4) (a_cons (e_ty (by rfl) T.z_list b_list) a_nil))) (e_blt or_isi s_isi (by rfl) T.z_isinstance b_isinstance (a_cons (e_var 5) (a_cons (e_ty (by rfl) T.z_list b_list) a_nil))) (by rfl)) (ew_or1 (et_cmp or_ne s_ne (e_blt or_len s_len (by rfl) T.z_len b_len (a_cons (e_var 4) a_nil)) (e_blt or_len s_len (by rfl) T.z_len b_len (a_cons (e_var 5) a_nil)) (by rfl))))).et (ss_one (st_ret e_bl)) ss_nil)
      (ss_one (st_mut PySem.F.plainAttrs_list PySem.F.slot_list_extend PySem.F.type_list_extend (fun _ _ => mt_extend) sm_extend (pl_var 2) (a_cons (e_lc [("k", 6)] (i_range1 false (by rfl) T.z_range (a_cons (e_blt or_len s_len (by rfl) T.z_len b_len (a_cons (e_var 5) a_nil)) a_nil)) (blk_of (by kernel_rfl)) (fun _ _ _ _ _ => (g_name (i := 6))) (fun _ _ _ _ _ => ts_nil) (fun _ _ _ _ _ => (e_tup (a_cons (e_ix' (e_var 4) (e_var 6)) (a_cons (e_ix' (e_var 5) (e_var 6)) a_nil))))) a_nil)))) (ss_one (st_if (ew_or (et_cmp or_is s_is (e_var 5) e_non (by rfl)) (ew_or1 (et_cmp or_is s_is (e_var 4) e_non (by rfl)))).et (ss_one (st_if (ew_or (et_cmp or_isnot s_isnot (e_var 4) e_non (by rfl)) (ew_or1 (et_cmp or_isnot s_isnot (e_var 5) e_non (by rfl)))).et (ss_one (st_ret e_bl)) ss_nil)) (ss_one (st_if (ew_or (et_cmp or_ne s_ne (e_blt or_isi s_isi (by rfl) T.z_isinstance b_isinstance (a_cons (e_var 4) (a_cons (e_ty (by rfl) T.z_bool b_bool) a_nil))) (e_blt or_isi s_isi (by rfl) T.z_isinstance b_isinstance (a_cons (e_var 5) (a_cons (e_ty (by rfl) T.z_bool b_bool) a_nil))) (by rfl)) (ew_or1 (et_cmp or_ne s_ne (e_blt or_isi s_isi (by rfl) T.z_isinstance b_isinstance (a_cons (e_var 4) (a_cons (e_ty (by rfl) T.z_int b_int) a_nil))) (e_blt or_isi s_isi (by rfl) T.z_isinstance b_isinstance (a_cons (e_var 5) (a_cons (e_ty (by rfl) T.z_int b_int) a_nil))) (by rfl)))).et (ss_one (st_ret e_bl)) (ss_one (st_if (ew_or (et_cmp or_ne s_ne (e_blt or_isi s_isi (by rfl) T.z_isinstance b_isinstance (a_cons (e_var 4) (a_cons (e_ty (by rfl) T.z_str b_str) a_nil))) (e_blt or_isi s_isi (by rfl) T.z_isinstance b_isinstance (a_cons (e_var 5) (a_cons (e_ty (by rfl) T.z_str b_str) a_nil))) (by rfl)) (ew_or1 (et_cmp or_ne s_ne (e_var 4) (e_var 5) (by rfl)))).et (ss_one (st_ret e_bl)) ss_nil)))))))))))
      (ss_one (st_ret e_bl))))⟩
theorem sc__law_names : FnScope ["bag", "many", "rows"] ["bag", "many"] (defScope s__law_names) := ⟨rfl, rfl, rfl, by decide +kernel, rfl, by decide +kernel, by decide +kernel⟩
theorem ok__law_names (T : Txt Γ A) : Df Γ "_law_names" A._law_names 3 ["bag", "many"] (df__law_names A) := by
  obtain ⟨fd, F, B⟩ := T.f__law_names
  refine .mk' (fn_ok2 (k := 2) (body := d__law_names A) F sc__law_names finX_ok (by decide) (by unfold df__law_names; rfl) rfl ?_) B T.m__law_names T.k__law_names
  exact fun cdv X0 outer s H E hr => ⟨_, (ss_cons (st_set .V (i := 2) rfl (e_lst (a_cons e_str (a_cons e_str (a_cons e_str (a_cons e_str (a_cons e_str (a_cons e_str (a_cons e_str (a_cons e_str (a_cons e_str (a_cons e_str (a_cons e_str (a_cons e_str (a_cons e_str (a_cons e_str a_nil))))))))))))))))
      (ss_one (st_ret (e_slice (e_call (ok__law_mixed T) (hr.mono (by decide)) (by rfl) (a_cons (e_var 0) (a_cons (e_var 2) a_nil))) o_none (o_some (e_var 1))))))⟩
theorem sc__law_letters : FnScope ["bag", "size", "many", "begin", "bases", "name", "base"] ["bag", "size", "many"] (defScope s__law_letters) := ⟨rfl, rfl, rfl, by decide +kernel, rfl, by decide +kernel, by decide +kernel⟩
theorem ok__law_letters (T : Txt Γ A) : Df Γ "_law_letters" A._law_letters 4 ["bag", "size", "many"] (df__law_letters A) := by
  obtain ⟨fd, F, B⟩ := T.f__law_letters
  refine .mk' (fn_ok2 (k := 3) (body := d__law_letters A) F sc__law_letters finX_ok (by decide) (by unfold df__law_letters; rfl) rfl ?_) B T.m__law_letters T.k__law_letters
  exact fun cdv X0 outer s H E hr => ⟨_, (ss_cons (st_set .V (i := 3) rfl (e_call (ok__law_take T) (hr.mono (by decide)) (by rfl) (a_cons (e_var 0) (a_cons (e_bin or_add s_add (e_bin or_sub s_sub (e_var 1) (e_var 2)) e_int) a_nil))))
      (ss_cons (st_set .V (i := 4) rfl (e_listRg (by rfl) T.z_list (e_rg2 (by rfl) T.z_range (e_var 3) (e_bin or_add s_add (e_var 3) (e_var 2)))))
      (ss_cons (st_if (et_cmp or_eq s_eq (e_call (ok__law_take T) (hr.mono (by decide)) (by rfl) (a_cons (e_var 0) (a_cons e_int a_nil))) e_int (by rfl)) (ss_one (st_set .V (i := 4) rfl (e_blt or_sorted2 s_sorted2 (by rfl) T.z_sorted b_sorted (a_cons (e_slice (e_call (ok__law_mixed T) (hr.mono (by decide)) (by rfl) (a_cons (e_var 0) (a_cons (e_listRg (by rfl) T.z_list (e_rg1 (by rfl) T.z_range (e_var 1))) a_nil))) o_none (o_some (e_var 2))) a_nil)))) ss_nil)
      (ss_one (st_ret (e_btt or_tuple s_tuple (by rfl) T.z_tuple b_tuple (a_cons (e_lc [("name", 5), ("base", 6)] (i_zip false (by rfl) T.z_zip (a_cons (e_call (ok__law_names T) (hr.mono (by decide)) (by rfl) (a_cons (e_var 0) (a_cons (e_var 2) a_nil))) (a_cons (e_var 4) a_nil))) (blk_of (by kernel_rfl)) (fun _ _ _ _ _ => (g_tup (gs_cons (g_name (i := 5)) (gs_cons (g_name (i := 6)) gs_nil)))) (fun _ _ _ _ _ => ts_nil) (fun _ _ _ _ _ => (e_tup (a_cons (e_var 5) (a_cons (e_var 6) (a_cons (e_call (ok__law_take T) (hr.mono (by decide)) (by rfl) (a_cons (e_var 0) (a_cons e_int a_nil))) a_nil)))))) a_nil)))))))⟩
theorem sc__law_harp : FnScope ["bag", "most", "many", "size", "letters"] ["bag", "most"] (defScope s__law_harp) := ⟨rfl, rfl, rfl, by decide +kernel, rfl, by decide +kernel, by decide +kernel⟩
theorem ok__law_harp (T : Txt Γ A) : Df Γ "_law_harp" A._law_harp 5 ["bag", "most"] (df__law_harp A) := by
  obtain ⟨fd, F, B⟩ := T.f__law_harp
  refine .mk' (fn_ok2 (k := 4) (body := d__law_harp A) F sc__law_harp finX_ok (by decide) (by unfold df__law_harp; rfl) rfl ?_) B T.m__law_harp T.k__law_harp
  exact fun cdv X0 outer s H E hr => ⟨_, (ss_cons (st_set .V (i := 2) rfl (e_bin or_add s_add e_int (e_call (ok__law_take T) (hr.mono (by decide)) (by rfl) (a_cons (e_var 0) (a_cons (e_bin or_sub s_sub (e_var 1) e_int) a_nil)))))
      (ss_cons (st_set .V (i := 3) rfl (e_blt or_max2 s_max2 (by rfl) T.z_max b_max (a_cons (e_var 2) (a_cons (e_call (ok__law_some T) (hr.mono (by decide)) (by rfl) (a_cons (e_var 0) (a_cons (e_lst (a_cons e_int (a_cons e_int (a_cons e_int (a_cons e_int (a_cons e_int (a_cons e_int (a_cons e_int a_nil)))))))) a_nil))) a_nil))))
      (ss_cons (st_set .V (i := 4) rfl (e_call (ok__law_letters T) (hr.mono (by decide)) (by rfl) (a_cons (e_var 0) (a_cons (e_var 3) (a_cons (e_var 2) a_nil)))))
      (ss_one (st_ret (e_tup (a_cons (e_var 3) (a_cons (e_var 4) (a_cons (e_bin or_add s_add e_int (e_call (ok__law_take T) (hr.mono (by decide)) (by rfl) (a_cons (e_var 0) (a_cons (e_bin or_mul s_mul e_int (e_var 2)) a_nil)))) (a_cons (e_bin or_add s_add e_int (e_call (ok__law_take T) (hr.mono (by decide)) (by rfl) (a_cons (e_var 0) (a_cons e_int a_nil)))) (a_cons (e_call (ok__law_some T) (hr.mono (by decide)) (by rfl) (a_cons (e_var 0) (a_cons (e_lst (a_cons e_int (a_cons e_int (a_cons e_int (a_cons e_int (a_cons e_int (a_cons e_int (a_cons e_int a_nil)))))))) a_nil))) a_nil)))))))))))⟩
theorem sc__law_flip_harp : FnScope ["harp", "letters", "name", "base", "foot"] ["harp"] (defScope s__law_flip_harp) := ⟨rfl, rfl, rfl, by decide +kernel, rfl, by decide +kernel, by decide +kernel⟩
theorem ok__law_flip_harp (T : Txt Γ A) : Df Γ "_law_flip_harp" A._law_flip_harp 1 ["harp"] (df__law_flip_harp A) := by
  obtain ⟨fd, F, B⟩ := T.f__law_flip_harp
  refine .mk' (fn_ok2 (k := 0) (body := d__law_flip_harp A) F sc__law_flip_harp finX_ok (by decide) (by unfold df__law_flip_harp; rfl) rfl ?_) B T.m__law_flip_harp T.k__law_flip_harp
  exact fun cdv X0 outer s H E hr => ⟨_, (ss_cons (st_set .V (i := 1) rfl (e_btt or_tuple s_tuple (by rfl) T.z_tuple b_tuple (a_cons (e_lc [("name", 2), ("base", 3), ("foot", 4)] (i_seq false (e_rev (e_ix' (e_var 0) e_int))) (blk_of (by kernel_rfl)) (fun _ _ _ _ _ => (g_tup (gs_cons (g_name (i := 2)) (gs_cons (g_name (i := 3)) (gs_cons (g_name (i := 4)) gs_nil))))) (fun _ _ _ _ _ => ts_nil) (fun _ _ _ _ _ => (e_tup (a_cons (e_var 2) (a_cons (e_bin or_sub s_sub (e_bin or_sub s_sub (e_ix' (e_var 0) e_int) e_int) (e_var 3)) (a_cons (e_var 4) a_nil)))))) a_nil)))
      (ss_one (st_ret (e_tup (a_cons (e_ix' (e_var 0) e_int) (a_cons (e_var 1) (a_cons (e_ix' (e_var 0) e_int) (a_cons (e_ix' (e_var 0) e_int) (a_cons (e_ix' (e_var 0) e_int) a_nil)))))))))⟩
theorem sc__law_lot : FnScope ["bag", "harp", "kinds", "way", "name", "base", "foot"] ["bag", "harp"] (defScope s__law_lot) := ⟨rfl, rfl, rfl, by decide +kernel, rfl, by decide +kernel, by decide +kernel⟩
theorem ok__law_lot (T : Txt Γ A) : Df Γ "_law_lot" A._law_lot 2 ["bag", "harp"] (df__law_lot A) := by
  obtain ⟨fd, F, B⟩ := T.f__law_lot
  refine .mk' (fn_ok2 (k := 1) (body := d__law_lot A) F sc__law_lot finX_ok (by decide) (by unfold df__law_lot; rfl) rfl ?_) B T.m__law_lot T.k__law_lot
  exact fun cdv X0 outer s H E hr => ⟨_, (ss_cons (st_set .O (i := 2) rfl (e_lst a_nil))
      (ss_cons (st_for (i_seq true (e_ix' (e_var 1) e_int)) (g_tup (gs_cons (g_name (i := 4)) (gs_cons (g_name (i := 5)) (gs_cons (g_name (i := 6)) gs_nil)))) (ss_one (st_if (et_cmp or_gt s_gt (e_call (ok__law_take T) (hr.mono (by decide)) (by rfl) (a_cons (e_var 0) (a_cons e_int a_nil))) e_int (by rfl)) (ss_one (st_mut PySem.F.plainAttrs_list PySem.F.slot_list_append PySem.F.type_list_append (fun _ _ => mt_append) sm_append (pl_var 2) (a_cons (e_bin or_mod s_mod (e_btt or_int s_intC (by rfl) T.z_int b_int (a_cons (e_bin or_sub s_sub (e_bin or_add s_add (e_var 5) (e_call (ok__law_take T) (hr.mono (by decide)) (by rfl) (a_cons (e_var 0) (a_cons e_int a_nil)))) e_int) a_nil)) (e_ix' (e_var 1) e_int)) a_nil))) ss_nil)))
      (ss_cons (st_set .V (i := 3) rfl (e_call (ok__law_take T) (hr.mono (by decide)) (by rfl) (a_cons (e_var 0) (a_cons e_int a_nil))))
      (ss_cons (st_if (et_cmp or_eq s_eq (e_var 3) e_int (by rfl)) (ss_one (st_mut PySem.F.plainAttrs_list PySem.F.slot_list_append PySem.F.type_list_append (fun _ _ => mt_append) sm_append (pl_var 2) (a_cons (e_call (ok__law_take T) (hr.mono (by decide)) (by rfl) (a_cons (e_var 0) (a_cons (e_ix' (e_var 1) e_int) a_nil))) a_nil))) ss_nil)
      (ss_cons (st_if (ew_and (et_cmp or_eq s_eq (e_var 3) e_int (by rfl)) (ew_and1 (et_cmp or_ne s_ne (e_var 2) (e_lst a_nil) (by rfl)))).et (ss_one (st_asgG (e_call (ok__law_take T) (hr.mono (by decide)) (by rfl) (a_cons (e_var 0) (a_cons (e_ix' (e_var 1) e_int) a_nil))) (gm_sub (pl_var 2) (e_call (ok__law_take T) (hr.mono (by decide)) (by rfl) (a_cons (e_var 0) (a_cons (e_blt or_len s_len (by rfl) T.z_len b_len (a_cons (e_var 2) a_nil)) a_nil)))))) ss_nil)
      (ss_one (st_ret (e_btt or_tuple s_tuple (by rfl) T.z_tuple b_tuple (a_cons (e_blt or_sorted2 s_sorted2 (by rfl) T.z_sorted b_sorted (a_cons (e_btt or_set2 s_set2 (by rfl) T.z_set b_set (a_cons (e_var 2) a_nil)) a_nil)) a_nil)))))))))⟩
theorem sc__law_givers : FnScope ["harp", "kind", "letter"] ["harp", "kind"] (defScope s__law_givers) := ⟨rfl, rfl, rfl, by decide +kernel, rfl, by decide +kernel, by decide +kernel⟩
theorem ok__law_givers (T : Txt Γ A) : Df Γ "_law_givers" A._law_givers 1 ["harp", "kind"] (df__law_givers A) := by
  obtain ⟨fd, F, B⟩ := T.f__law_givers
  refine .mk' (fn_ok2 (k := 0) (body := d__law_givers A) F sc__law_givers finX_ok (by decide) (by unfold df__law_givers; rfl) rfl ?_) B T.m__law_givers T.k__law_givers
  exact fun cdv X0 outer s H E hr => ⟨_, (ss_one (st_ret (e_btt or_tuple s_tuple (by rfl) T.z_tuple b_tuple (a_cons (e_lc [("letter", 2)] (i_range1 false (by rfl) T.z_range (a_cons (e_blt or_len s_len (by rfl) T.z_len b_len (a_cons (e_ix' (e_var 0) e_int) a_nil)) a_nil)) (blk_of (by kernel_rfl)) (fun _ _ _ _ _ => (g_name (i := 2))) (fun _ _ _ _ _ => (ts_one (et_cmp or_in s_in (e_bin or_mod s_mod (e_btt or_int s_intC (by rfl) T.z_int b_int (a_cons (e_bin or_sub s_sub (e_var 1) (e_ix' (e_ix' (e_ix' (e_var 0) e_int) (e_var 2)) e_int)) a_nil)) (e_ix' (e_var 0) e_int)) (e_tup (a_cons e_int (a_cons e_int (a_cons (e_bin or_sub s_sub (e_ix' (e_var 0) e_int) e_int) a_nil)))) (by rfl)))) (fun _ _ _ _ _ => (e_var 2))) a_nil))))⟩
theorem sc__law_arcs : FnScope ["harp", "many", "found", "first", "size"] ["harp"] (defScope s__law_arcs) := ⟨rfl, rfl, rfl, by decide +kernel, rfl, by decide +kernel, by decide +kernel⟩
theorem ok__law_arcs (T : Txt Γ A) : Df Γ "_law_arcs" A._law_arcs 1 ["harp"] (df__law_arcs A) := by
  obtain ⟨fd, F, B⟩ := T.f__law_arcs
  refine .mk' (fn_ok2 (k := 0) (body := d__law_arcs A) F sc__law_arcs finX_ok (by decide) (by unfold df__law_arcs; rfl) rfl ?_) B T.m__law_arcs T.k__law_arcs
  exact fun cdv X0 outer s H E hr => ⟨_, (ss_cons (st_set .V (i := 1) rfl (e_blt or_len s_len (by rfl) T.z_len b_len (a_cons (e_ix' (e_var 0) e_int) a_nil)))
      (ss_cons (st_set .O (i := 2) rfl (e_lst (a_cons (e_tup (a_cons e_int (a_cons e_int a_nil))) (a_cons (e_tup (a_cons e_int (a_cons (e_var 1) a_nil))) a_nil))))
      (ss_cons (st_for (i_range1 true (by rfl) T.z_range (a_cons (e_var 1) a_nil)) (g_name (i := 3)) (ss_one (st_mut PySem.F.plainAttrs_list PySem.F.slot_list_extend PySem.F.type_list_extend (fun _ _ => mt_extend) sm_extend (pl_var 2) (a_cons (e_lc [("size", 4)] (i_range2 false (by rfl) T.z_range (a_cons e_int (a_cons (e_var 1) a_nil))) (blk_of (by kernel_rfl)) (fun _ _ _ _ _ => (g_name (i := 4))) (fun _ _ _ _ _ => ts_nil) (fun _ _ _ _ _ => (e_tup (a_cons (e_var 3) (a_cons (e_var 4) a_nil))))) a_nil))))
      (ss_one (st_ret (e_btt or_tuple s_tuple (by rfl) T.z_tuple b_tuple (a_cons (e_blt or_sorted2 s_sorted2 (by rfl) T.z_sorted b_sorted (a_cons (e_var 2) a_nil)) a_nil)))))))⟩
theorem sc__law_inside : FnScope ["harp", "lot", "arc", "many", "there", "step", "kind", "letter"] ["harp", "lot", "arc"] (defScope s__law_inside) := ⟨rfl, rfl, rfl, by decide +kernel, rfl, by decide +kernel, by decide +kernel⟩
theorem ok__law_inside (T : Txt Γ A) : Df Γ "_law_inside" A._law_inside 2 ["harp", "lot", "arc"] (df__law_inside A) := by
  obtain ⟨fd, F, B⟩ := T.f__law_inside
  refine .mk' (fn_ok2 (k := 1) (body := d__law_inside A) F sc__law_inside finX_ok (by decide) (by unfold df__law_inside; rfl) rfl ?_) B T.m__law_inside T.k__law_inside
  exact fun cdv X0 outer s H E hr => ⟨_, (ss_cons (st_set .V (i := 3) rfl (e_blt or_len s_len (by rfl) T.z_len b_len (a_cons (e_ix' (e_var 0) e_int) a_nil)))
      (ss_cons (st_set .V (i := 4) rfl (e_lc [("step", 5)] (i_range1 false (by rfl) T.z_range (a_cons (e_ix' (e_var 2) e_int) a_nil)) (blk_of (by kernel_rfl)) (fun _ _ _ _ _ => (g_name (i := 5))) (fun _ _ _ _ _ => ts_nil) (fun _ _ _ _ _ => (e_bin or_mod s_mod (e_btt or_int s_intC (by rfl) T.z_int b_int (a_cons (e_bin or_add s_add (e_ix' (e_var 2) e_int) (e_var 5)) a_nil)) (e_var 3)))))
      (ss_one (st_ret (e_btt or_tuple s_tuple (by rfl) T.z_tuple b_tuple (a_cons (e_lc [("kind", 6)] (i_seq false (e_var 1)) (blk_of (by kernel_rfl)) (fun _ _ _ _ _ => (g_name (i := 6))) (fun _ _ _ _ _ => (ts_one (et_cmp or_eq s_eq (e_lc [("letter", 7)] (i_seq false (e_call (ok__law_givers T) (hr.mono (by decide)) (by rfl) (a_cons (e_var 0) (a_cons (e_var 6) a_nil)))) (blk_of (by kernel_rfl)) (fun _ _ _ _ _ => (g_name (i := 7))) (fun _ _ _ _ _ => (ts_one (et_cmp or_notin s_notin (e_var 7) (e_var 4) (by rfl)))) (fun _ _ _ _ _ => e_int)) (e_lst a_nil) (by rfl)))) (fun _ _ _ _ _ => (e_var 6))) a_nil))))))⟩
theorem sc__law_can_give : FnScope ["harp", "lot", "lots", "name", "base", "foot", "later", "way", "kind", "row"] ["harp", "lot"] (defScope s__law_can_give) := ⟨rfl, rfl, rfl, by decide +kernel, rfl, by decide +kernel, by decide +kernel⟩
theorem ok__law_can_give (T : Txt Γ A) : Df Γ "_law_can_give" A._law_can_give 1 ["harp", "lot"] (df__law_can_give A) := by
  obtain ⟨fd, F, B⟩ := T.f__law_can_give
  refine .mk' (fn_ok2 (k := 0) (body := d__law_can_give A) F sc__law_can_give finX_ok (by decide) (by unfold df__law_can_give; rfl) rfl ?_) B T.m__law_can_give T.k__law_can_give
  exact fun cdv X0 outer s H E hr => ⟨_, (ss_cons (st_set .V (i := 2) rfl (e_dict1T (e_tup a_nil) e_bl))
      (ss_cons (st_for (i_seq true (e_ix' (e_var 0) e_int)) (g_tup (gs_cons (g_name (i := 3)) (gs_cons (g_name (i := 4)) (gs_cons (g_name (i := 5)) gs_nil)))) (ss_lock 2 (ss_cons (st_set .O (i := 6) rfl (e_btt or_dictT s_dictT (by rfl) T.z_dict b_dict (a_cons (e_lc [("row", 9)] (i_keys false 2) (blk_of (by kernel_rfl)) (fun _ _ _ _ _ => (g_name (i := 9))) (fun _ _ _ _ _ => ts_nil) (fun _ _ _ _ _ => (e_tup (a_cons (e_var 9) (a_cons e_bl a_nil))))) a_nil)))
      (ss_cons (st_for (i_seq true (e_tup (a_cons (e_un or_neg s_neg e_int) (a_cons e_int (a_cons e_int a_nil))))) (g_name (i := 7)) (ss_cons (st_set .V (i := 8) rfl (e_bin or_mod s_mod (e_btt or_int s_intC (by rfl) T.z_int b_int (a_cons (e_bin or_add s_add (e_var 4) (e_var 7)) a_nil)) (e_ix' (e_var 0) e_int)))
      (ss_one (st_for (i_keysIf true 2 (et_cmp or_in s_in (e_var 8) (e_var 1) (by rfl)) (e_lst a_nil)) (g_name (i := 9)) (ss_one (st_asgG e_bl (gm_sub (pl_var 6) (e_btt or_tuple s_tuple (by rfl) T.z_tuple b_tuple (a_cons (e_blt or_sorted2 s_sorted2 (by rfl) T.z_sorted b_sorted (a_cons (e_btt or_set2 s_set2 (by rfl) T.z_set b_set (a_cons (e_bin or_add s_add (e_var 9) (e_tup (a_cons (e_var 8) a_nil))) a_nil)) a_nil)) a_nil)))))))))
      (ss_frz 6 (ss_one (st_set .V (i := 2) rfl (e_var 6))))))))
      (ss_one (st_ret (e_cmp or_in s_in (e_var 1) (e_var 2) (by rfl))))))⟩
theorem sc__law_flip_arc : FnScope ["harp", "arc", "many"] ["harp", "arc"] (defScope s__law_flip_arc) := ⟨rfl, rfl, rfl, by decide +kernel, rfl, by decide +kernel, by decide +kernel⟩
theorem ok__law_flip_arc (T : Txt Γ A) : Df Γ "_law_flip_arc" A._law_flip_arc 1 ["harp", "arc"] (df__law_flip_arc A) := by
  obtain ⟨fd, F, B⟩ := T.f__law_flip_arc
  refine .mk' (fn_ok2 (k := 0) (body := d__law_flip_arc A) F sc__law_flip_arc finX_ok (by decide) (by unfold df__law_flip_arc; rfl) rfl ?_) B T.m__law_flip_arc T.k__law_flip_arc
  exact fun cdv X0 outer s H E hr => ⟨_, (ss_cons (st_set .V (i := 2) rfl (e_blt or_len s_len (by rfl) T.z_len b_len (a_cons (e_ix' (e_var 0) e_int) a_nil)))
      (ss_one (st_ret (e_if (et_chain or_lt s_lt or_lt s_lt e_int (e_ix' (e_var 1) e_int) (e_var 2)) (e_tup (a_cons (e_bin or_mod s_mod (e_btt or_int s_intC (by rfl) T.z_int b_int (a_cons (e_bin or_sub s_sub (e_bin or_sub s_sub (e_var 2) (e_ix' (e_var 1) e_int)) (e_ix' (e_var 1) e_int)) a_nil)) (e_var 2)) (a_cons (e_ix' (e_var 1) e_int) a_nil))) (e_var 1)))))⟩
theorem sc__law_is_lot_told : FnScope ["harp", "lot", "full", "kinds", "can", "setting", "arc", "letter", "position", "kind"] ["harp", "lot"] (defScope s__law_is_lot_told) := ⟨rfl, rfl, rfl, by decide +kernel, rfl, by decide +kernel, by decide +kernel⟩
theorem ok__law_is_lot_told (T : Txt Γ A) : Df Γ "_law_is_lot_told" A._law_is_lot_told 18 ["harp", "lot"] (df__law_is_lot_told A) := by
  obtain ⟨fd, F, B⟩ := T.f__law_is_lot_told
  refine .mk' (fn_ok2 (k := 17) (body := d__law_is_lot_told A) F sc__law_is_lot_told finX_ok (by decide) (by unfold df__law_is_lot_told; rfl) rfl ?_) B T.m__law_is_lot_told T.k__law_is_lot_told
  exact fun cdv X0 outer s H E hr => ⟨_, (ss_cons (st_setLc .V (i := 2) [("arc", 6)] (hsw := by rfl) (hi := (i_seq false (e_call (ok__law_arcs T) (hr.mono (by decide)) (by rfl) (a_cons (e_var 0) a_nil)))) (ok := (blk_of (by kernel_rfl))) (hg := (fun _ _ _ _ _ => (g_name (i := 6)))) (ht := (fun _ _ _ _ _ => (ts_one (et_cmp or_gt s_gt (e_blt or_len s_len (by rfl) T.z_len b_len (a_cons (e_call (ok__law_inside T) (hr.mono (by decide)) (by rfl) (a_cons (e_var 0) (a_cons (e_var 1) (a_cons (e_var 6) a_nil)))) a_nil)) (e_ix' (e_var 6) e_int) (by rfl))))) (he := (fun _ _ _ _ _ => (e_var 6))))
      (ss_cons (st_par2 (p_cons .V 4 (e_call (ok__law_can_give T) (hr.mono (by decide)) (by rfl) (a_cons (e_var 0) (a_cons (e_var 1) a_nil))) (p_cons .V 5 (e_call (ok_setting_for T) (hr.mono (by decide)) (by rfl) (a_cons (e_var 0) (a_cons (e_var 1) a_nil))) p_nil)) (by decide) (show 4 < 10 by decide) (show 5 < 10 by decide))
      (ss_cons (st_if (ew_or (et_not (et_val (e_call (ok__law_same T) (hr.mono (by decide)) (by rfl) (a_cons (e_lst (a_cons (e_call (ok_is_had T) (hr.mono (by decide)) (by rfl) (a_cons (e_var 0) (a_cons (e_var 1) a_nil))) (a_cons (e_call (ok_over_full T) (hr.mono (by decide)) (by rfl) (a_cons (e_var 0) (a_cons (e_var 1) a_nil))) a_nil))) (a_cons (e_lst (a_cons (e_var 4) (a_cons (e_if (et_cmp or_ne s_ne (e_var 2) (e_lst a_nil) (by rfl)) (e_ix' (e_var 2) e_int) e_non) a_nil))) a_nil))))) (ew_or1 (et_cmp or_ne s_ne (e_var 4) (e_cmp or_eq s_eq (e_var 2) (e_lst a_nil) (by rfl)) (by rfl)))).et (ss_one (st_ret e_bl)) ss_nil)
      (ss_cons (st_if (et_not (et_val (e_var 4))) (ss_one (st_ret (e_cmp or_is s_is (e_var 5) e_non (by rfl)))) ss_nil)
      (ss_cons (st_if (ew_or (et_not (et_val (e_blt or_isi s_isi (by rfl) T.z_isinstance b_isinstance (a_cons (e_var 5) (a_cons (e_ty (by rfl) T.z_tuple b_tuple) a_nil))))) (ew_or (et_cmp or_ne s_ne (e_blt or_len s_len (by rfl) T.z_len b_len (a_cons (e_var 5) a_nil)) (e_blt or_len s_len (by rfl) T.z_len b_len (a_cons (e_ix' (e_var 0) e_int) a_nil)) (by rfl)) (ew_or1 (et_cmp or_ne s_ne (e_lc [("position", 8)] (i_seq false (e_var 5)) (blk_of (by kernel_rfl)) (fun _ _ _ _ _ => (g_name (i := 8))) (fun _ _ _ _ _ => (ts_one (et_cmp or_notin s_notin (e_var 8) (e_tup (a_cons (e_un or_neg s_neg e_int) (a_cons e_int (a_cons e_int a_nil)))) (by rfl)))) (fun _ _ _ _ _ => e_int)) (e_lst a_nil) (by rfl))))).et (ss_one (st_ret e_bl)) ss_nil)
      (ss_cons (st_set .V (i := 3) rfl (e_lc [("letter", 7), ("position", 8)] (i_zip false (by rfl) T.z_zip (a_cons (e_ix' (e_var 0) e_int) (a_cons (e_var 5) a_nil))) (blk_of (by kernel_rfl)) (fun _ _ _ _ _ => (g_tup (gs_cons (g_name (i := 7)) (gs_cons (g_name (i := 8)) gs_nil)))) (fun _ _ _ _ _ => ts_nil) (fun _ _ _ _ _ => (e_bin or_mod s_mod (e_btt or_int s_intC (by rfl) T.z_int b_int (a_cons (e_bin or_add s_add (e_ix' (e_var 7) e_int) (e_var 8)) a_nil)) (e_ix' (e_var 0) e_int)))))
      (ss_one (st_ret (e_and (e_cmp or_eq s_eq (e_lc [("kind", 9)] (i_seq false (e_var 1)) (blk_of (by kernel_rfl)) (fun _ _ _ _ _ => (g_name (i := 9))) (fun _ _ _ _ _ => (ts_one (et_cmp or_notin s_notin (e_var 9) (e_var 3) (by rfl)))) (fun _ _ _ _ _ => (e_var 9))) (e_lst a_nil) (by rfl)) (e_one (e_call (ok__law_same T) (hr.mono (by decide)) (by rfl) (a_cons (e_call (ok_classes_of T) (hr.mono (by decide)) (by rfl) (a_cons (e_var 0) (a_cons (e_var 5) a_nil))) (a_cons (e_btt or_tuple s_tuple (by rfl) T.z_tuple b_tuple (a_cons (e_blt or_sorted2 s_sorted2 (by rfl) T.z_sorted b_sorted (a_cons (e_btt or_set2 s_set2 (by rfl) T.z_set b_set (a_cons (e_var 3) a_nil)) a_nil)) a_nil)) a_nil)))))))))))))⟩
theorem sc_law : FnScope ["script", "bag", "lap", "harp", "other", "turn", "lot", "turned", "arc", "kind", "odd", "inner", "back_arc", "told", "mine", "its", "look", "letter"] ["script"] (defScope s_law) := ⟨rfl, rfl, rfl, by decide +kernel, rfl, by decide +kernel, by decide +kernel⟩
theorem okf_law (T : Txt Γ A) {fd : FuncData} (F : Fun Γ.K "law" "law" s_law A.law fd) : FnOk Γ.P Γ.w Γ.K Γ.mg Γ.base CX0 19 A.law fd ["script"] (spD Γ 1 (df_law A)) := by
  refine fn_ok2 (k := 18) (body := d_law A) F sc_law finX_ok (by decide) (by unfold df_law; rfl) rfl ?_
  exact fun cdv X0 outer s H E hr => ⟨_, (ss_cons (st_set .N (i := 1) rfl (e_call (ok__law_bag T) (hr.mono (by decide)) (by rfl) (a_cons (e_var 0) a_nil)))
      (ss_cons (st_for (i_range1 true (by rfl) T.z_range (a_cons e_int a_nil)) (g_name (i := 2)) (ss_cons (st_set .V (i := 3) rfl (e_call (ok__law_harp T) (hr.mono (by decide)) (by rfl) (a_cons (e_var 1) (a_cons e_int a_nil))))
      (ss_cons (st_set .V (i := 4) rfl (e_call (ok__law_flip_harp T) (hr.mono (by decide)) (by rfl) (a_cons (e_var 3) a_nil)))
      (ss_cons (st_if (ew_or (et_cmp or_ne s_ne (e_call (ok_checked_harp T) (hr.mono (by decide)) (by rfl) (a_cons (e_var 3) a_nil)) (e_var 3) (by rfl)) (ew_or (et_cmp or_ne s_ne (e_call (ok_checked_harp T) (hr.mono (by decide)) (by rfl) (a_cons (e_var 4) a_nil)) (e_var 4) (by rfl)) (ew_or1 (et_not (et_val (e_call (ok__law_same T) (hr.mono (by decide)) (by rfl) (a_cons (e_call (ok_arcs T) (hr.mono (by decide)) (by rfl) (a_cons (e_var 3) a_nil)) (a_cons (e_call (ok__law_arcs T) (hr.mono (by decide)) (by rfl) (a_cons (e_var 3) a_nil)) a_nil)))))))).et (ss_one (st_ret e_bl)) ss_nil)
      (ss_one (st_for (i_range1 true (by rfl) T.z_range (a_cons e_int a_nil)) (g_name (i := 5)) (ss_cons (st_set .V (i := 6) rfl (e_call (ok__law_lot T) (hr.mono (by decide)) (by rfl) (a_cons (e_var 1) (a_cons (e_var 3) a_nil))))
      (ss_cons (st_set .V (i := 7) rfl (e_btt or_tuple s_tuple (by rfl) T.z_tuple b_tuple (a_cons (e_blt or_sorted2 s_sorted2 (by rfl) T.z_sorted b_sorted (a_cons (e_lc [("kind", 9)] (i_seq false (e_var 6)) (blk_of (by kernel_rfl)) (fun _ _ _ _ _ => (g_name (i := 9))) (fun _ _ _ _ _ => ts_nil) (fun _ _ _ _ _ => (e_bin or_sub s_sub (e_bin or_sub s_sub (e_ix' (e_var 3) e_int) e_int) (e_var 9)))) a_nil)) a_nil)))
      (ss_cons (st_if (ew_or (et_not (et_val (e_call (ok__law_is_lot_told T) (hr.mono (by decide)) (by rfl) (a_cons (e_var 3) (a_cons (e_var 6) a_nil))))) (ew_or1 (et_not (et_val (e_call (ok__law_is_lot_told T) (hr.mono (by decide)) (by rfl) (a_cons (e_var 4) (a_cons (e_var 7) a_nil))))))).et (ss_one (st_ret e_bl)) ss_nil)
      (ss_cons (st_for (i_seq true (e_bin or_add s_add (e_lc [("look", 16)] (i_range1 false (by rfl) T.z_range (a_cons e_int a_nil)) (blk_of (by kernel_rfl)) (fun _ _ _ _ _ => (g_name (i := 16))) (fun _ _ _ _ _ => ts_nil) (fun _ _ _ _ _ => (e_call (ok__law_some T) (hr.mono (by decide)) (by rfl) (a_cons (e_var 1) (a_cons (e_call (ok__law_arcs T) (hr.mono (by decide)) (by rfl) (a_cons (e_var 3) a_nil)) a_nil))))) (e_lst (a_cons (e_tup (a_cons e_int (a_cons e_int a_nil))) (a_cons (e_tup (a_cons e_int (a_cons (e_blt or_len s_len (by rfl) T.z_len b_len (a_cons (e_ix' (e_var 3) e_int) a_nil)) a_nil))) a_nil))))) (g_name (i := 8)) (ss_cons (st_set .V (i := 11) rfl (e_call (ok__law_inside T) (hr.mono (by decide)) (by rfl) (a_cons (e_var 3) (a_cons (e_var 6) (a_cons (e_var 8) a_nil)))))
      (ss_cons (st_set .V (i := 12) rfl (e_call (ok__law_flip_arc T) (hr.mono (by decide)) (by rfl) (a_cons (e_var 3) (a_cons (e_var 8) a_nil))))
      (ss_cons (st_set .V (i := 13) rfl (e_lst (a_cons (e_call (ok_within T) (hr.mono (by decide)) (by rfl) (a_cons (e_var 3) (a_cons (e_var 6) (a_cons (e_var 8) a_nil)))) (a_cons (e_call (ok_is_over_full T) (hr.mono (by decide)) (by rfl) (a_cons (e_var 3) (a_cons (e_var 6) (a_cons (e_var 8) a_nil)))) (a_cons (e_call (ok_is_over_full T) (hr.mono (by decide)) (by rfl) (a_cons (e_var 4) (a_cons (e_var 7) (a_cons (e_var 12) a_nil)))) a_nil)))))
      (ss_cons (st_if (et_not (et_val (e_call (ok__law_same T) (hr.mono (by decide)) (by rfl) (a_cons (e_var 13) (a_cons (e_lst (a_cons (e_var 11) (a_cons (e_cmp or_gt s_gt (e_blt or_len s_len (by rfl) T.z_len b_len (a_cons (e_var 11) a_nil)) (e_ix' (e_var 8) e_int) (by rfl)) (a_cons (e_cmp or_gt s_gt (e_blt or_len s_len (by rfl) T.z_len b_len (a_cons (e_var 11) a_nil)) (e_ix' (e_var 8) e_int) (by rfl)) a_nil)))) a_nil))))) (ss_one (st_ret e_bl)) ss_nil)
      (ss_cons (st_setLc .V (i := 13) [("letter", 17)] (hsw := by rfl) (hi := (i_seq false (e_call (ok_letters_in T) (hr.mono (by decide)) (by rfl) (a_cons (e_var 4) (a_cons (e_var 12) a_nil))))) (ok := (blk_of (by kernel_rfl))) (hg := (fun _ _ _ _ _ => (g_name (i := 17)))) (ht := (fun _ _ _ _ _ => ts_nil)) (he := (fun _ _ _ _ _ => (e_bin or_sub s_sub (e_bin or_sub s_sub (e_blt or_len s_len (by rfl) T.z_len b_len (a_cons (e_ix' (e_var 3) e_int) a_nil)) e_int) (e_var 17)))))
      (ss_one (st_if (ew_or (et_cmp or_ne s_ne (e_blt or_sorted2 s_sorted2 (by rfl) T.z_sorted b_sorted (a_cons (e_var 13) a_nil)) (e_blt or_sorted2 s_sorted2 (by rfl) T.z_sorted b_sorted (a_cons (e_call (ok_letters_in T) (hr.mono (by decide)) (by rfl) (a_cons (e_var 3) (a_cons (e_var 8) a_nil))) a_nil)) (by rfl)) (ew_or1 (et_cmp or_ne s_ne (e_blt or_len s_len (by rfl) T.z_len b_len (a_cons (e_btt or_set2 s_set2 (by rfl) T.z_set b_set (a_cons (e_var 13) a_nil)) a_nil)) (e_ix' (e_var 8) e_int) (by rfl)))).et (ss_one (st_ret e_bl)) ss_nil))))))))
      (ss_cons (st_for (i_seq true (e_slice (e_var 6) o_none (o_some e_int))) (g_name (i := 9)) (ss_cons (st_set .V (i := 14) rfl (e_call (ok__law_givers T) (hr.mono (by decide)) (by rfl) (a_cons (e_var 3) (a_cons (e_var 9) a_nil))))
      (ss_cons (st_set .V (i := 15) rfl (e_btt or_tuple s_tuple (by rfl) T.z_tuple b_tuple (a_cons (e_blt or_sorted2 s_sorted2 (by rfl) T.z_sorted b_sorted (a_cons (e_lc [("letter", 17)] (i_seq false (e_var 14)) (blk_of (by kernel_rfl)) (fun _ _ _ _ _ => (g_name (i := 17))) (fun _ _ _ _ _ => ts_nil) (fun _ _ _ _ _ => (e_bin or_sub s_sub (e_bin or_sub s_sub (e_blt or_len s_len (by rfl) T.z_len b_len (a_cons (e_ix' (e_var 3) e_int) a_nil)) e_int) (e_var 17)))) a_nil)) a_nil)))
      (ss_one (st_if (et_not (et_val (e_call (ok__law_same T) (hr.mono (by decide)) (by rfl) (a_cons (e_lst (a_cons (e_call (ok_givers T) (hr.mono (by decide)) (by rfl) (a_cons (e_var 3) (a_cons (e_var 9) a_nil))) (a_cons (e_call (ok_givers T) (hr.mono (by decide)) (by rfl) (a_cons (e_var 4) (a_cons (e_bin or_sub s_sub (e_bin or_sub s_sub (e_ix' (e_var 3) e_int) e_int) (e_var 9)) a_nil))) a_nil))) (a_cons (e_lst (a_cons (e_var 14) (a_cons (e_var 15) a_nil))) a_nil))))) (ss_one (st_ret e_bl)) ss_nil)))))
      (ss_cons (st_set .V (i := 10) rfl (e_call (ok__law_some T) (hr.mono (by decide)) (by rfl) (a_cons (e_var 1) (a_cons (e_lst (a_cons e_non (a_cons (e_tup (a_cons e_int a_nil)) (a_cons (e_tup (a_cons e_int (a_cons (e_bin or_add s_add (e_blt or_len s_len (by rfl) T.z_len b_len (a_cons (e_ix' (e_var 3) e_int) a_nil)) e_int) a_nil))) (a_cons (e_tup (a_cons (e_blt or_len s_len (by rfl) T.z_len b_len (a_cons (e_ix' (e_var 3) e_int) a_nil)) (a_cons e_int a_nil))) (a_cons (e_lst (a_cons e_int (a_cons e_int a_nil))) (a_cons (e_tup (a_cons e_bl (a_cons e_int a_nil))) (a_cons (e_tup (a_cons e_int (a_cons e_int a_nil))) (a_cons (e_tup (a_cons e_int (a_cons (e_un or_neg s_neg e_int) a_nil))) a_nil))))))))) a_nil))))
      (ss_one (st_if (et_cmp or_isnot s_isnot (e_call (ok_is_over_full T) (hr.mono (by decide)) (by rfl) (a_cons (e_var 3) (a_cons (e_var 6) (a_cons (e_var 10) a_nil)))) e_bl (by rfl)) (ss_one (st_ret e_bl)) ss_nil))))))))))))))
      (ss_one (st_ret e_bl))))⟩
end
end K00
/-! M00v -/
namespace K00
open PySem PySem.Spec PyProof.Rows L2 DD
def spLaw (K : PySem.W.Frag) : Sp := fun vs H Q _ => ∃ (a : Addr) (ns : List Int), vs = [.ref a] ∧ SqL K H a (ns.map V.int) ∧ ns.length ≤ 63 ∧ ∀ H', Q (.bl true) H'
theorem spLaw_D {Γ : DD.Ctx} {A : Ad} {vs : List V} {H : Hp} {Q : VK} {E : XK} (h : spLaw Γ.K vs H Q E) : spD Γ 1 (df_law A) vs H Q E := by
  obtain ⟨a, ns, rfl, hS, hl, hQ⟩ := h
  have key : ∀ sc : PV, (sc = .lst (ns.map PV.int) ∨ sc = .rol (ns.map PV.int)) → RVs Γ ⟨H, fun _ => .frz, [], fun a => ∃ o, H a = some o⟩ [sc] [.ref a] → spD Γ 1 (df_law A) [.ref a] H Q E := fun sc hsc hr => by
    obtain ⟨st', e⟩ := law_ok (A := A) hsc hl
    refine ⟨⟨H, fun _ => .frz, [], fun a => ∃ o, H a = some o⟩, [sc], [], _, st', rfl, fun a o h => ⟨o, h⟩, fun a i => by simp, ⟨rfl, fun n a h => by simp at h, fun n c h => by simp at h, fun a h => h⟩, hr, rfl, e, fun W' v _ _ r => ?_⟩
    have r : RV Γ W' (.bl true) v := r
    unfold RV at r
    rw [r]; exact hQ _
  rcases hS with (h1 | ⟨o, h1⟩) | h1
  · refine key _ (.inl rfl) (RVs_cons'.mpr ⟨?_, RVs_nil.mpr rfl⟩)
    unfold RV
    exact ⟨a, _, rfl, .inl rfl, h1, RVs_ints.mpr rfl⟩
  · refine key _ (.inr rfl) (RVs_cons'.mpr ⟨?_, RVs_nil.mpr rfl⟩)
    unfold RV
    exact ⟨a, _, rfl, .inl ⟨.inl rfl, o, h1⟩, RVs_ints.mpr rfl⟩
  · refine key _ (.inr rfl) (RVs_cons'.mpr ⟨?_, RVs_nil.mpr rfl⟩)
    unfold RV
    exact ⟨a, _, rfl, .inr h1, RVs_ints.mpr rfl⟩
theorem all_mk {l : PySem.W.OpenLaw} {w : PySem.World} {K : PySem.W.Frag} {h : Heap} {mg : Str → Option Value} {fa : Addr} {c_Matching x_is_number x_is_index x_is_name x_is_sized x_is_letter x_is_tuple_of x_is_harp_form x_check_number x_check_letters x_checked_harp x_letters_many x_bases_of x_givers x_classes_of x_position_for x_Matching___init__ x_Matching_put x_Matching_setting x_setting_for x_is_had x_letters_in x_within x_arcs x_over_full x_is_over_full x__law_bag x__law_take x__law_some x__law_mixed x__law_same x__law_names x__law_letters x__law_harp x__law_flip_harp x__law_lot x__law_givers x__law_arcs x__law_inside x__law_can_give x__law_flip_arc x__law_is_lot_told x_law y_POSITIONS y_RESERVED : Addr} (X : K.In h) (G : h.Ns mainGlobals mg) (hfa : mg "law" = some (.ref fa))
    {od_is_number an_is_number od_is_index an_is_index od_is_name an_is_name od_is_sized an_is_sized od_is_letter an_is_letter od_is_tuple_of an_is_tuple_of od_is_harp_form an_is_harp_form od_check_number an_check_number od_check_letters an_check_letters od_checked_harp an_checked_harp od_letters_many an_letters_many od_bases_of an_bases_of od_givers an_givers od_classes_of an_classes_of od_position_for an_position_for od_Matching___init__ an_Matching___init__ od_Matching_put an_Matching_put od_Matching_setting an_Matching_setting od_setting_for an_setting_for od_is_had an_is_had od_letters_in an_letters_in od_within an_within od_arcs an_arcs od_over_full an_over_full od_is_over_full an_is_over_full od__law_bag an__law_bag od__law_take an__law_take od__law_some an__law_some od__law_mixed an__law_mixed od__law_same an__law_same od__law_names an__law_names od__law_letters an__law_letters od__law_harp an__law_harp od__law_flip_harp an__law_flip_harp od__law_lot an__law_lot od__law_givers an__law_givers od__law_arcs an__law_arcs od__law_inside an__law_inside od__law_can_give an__law_can_give od__law_flip_arc an__law_flip_arc od__law_is_lot_told an__law_is_lot_told od_law an_law yd_POSITIONS yd_RESERVED : Option Addr} {sl_is_number sl_is_index sl_is_name sl_is_sized sl_is_letter sl_is_tuple_of sl_is_harp_form sl_check_number sl_check_letters sl_checked_harp sl_letters_many sl_bases_of sl_givers sl_classes_of sl_position_for sl_Matching___init__ sl_Matching_put sl_Matching_setting sl_setting_for sl_is_had sl_letters_in sl_within sl_arcs sl_over_full sl_is_over_full sl__law_bag sl__law_take sl__law_some sl__law_mixed sl__law_same sl__law_names sl__law_letters sl__law_harp sl__law_flip_harp sl__law_lot sl__law_givers sl__law_arcs sl__law_inside sl__law_can_give sl__law_flip_arc sl__law_is_lot_told sl_law ys_POSITIONS ys_RESERVED : Array (Option Value)} {oc_is_number kV_is_number dc_is_number pm_is_number cd_is_number ct_is_number oc_is_index kV_is_index dc_is_index pm_is_index cd_is_index ct_is_index oc_is_name kV_is_name dc_is_name pm_is_name cd_is_name ct_is_name oc_is_sized kV_is_sized dc_is_sized pm_is_sized cd_is_sized ct_is_sized oc_is_letter kV_is_letter dc_is_letter pm_is_letter cd_is_letter ct_is_letter oc_is_tuple_of kV_is_tuple_of dc_is_tuple_of pm_is_tuple_of cd_is_tuple_of ct_is_tuple_of oc_is_harp_form kV_is_harp_form dc_is_harp_form pm_is_harp_form cd_is_harp_form ct_is_harp_form oc_check_number kV_check_number dc_check_number pm_check_number cd_check_number ct_check_number oc_check_letters kV_check_letters dc_check_letters pm_check_letters cd_check_letters ct_check_letters oc_checked_harp kV_checked_harp dc_checked_harp pm_checked_harp cd_checked_harp ct_checked_harp oc_letters_many kV_letters_many dc_letters_many pm_letters_many cd_letters_many ct_letters_many oc_bases_of kV_bases_of dc_bases_of pm_bases_of cd_bases_of ct_bases_of oc_givers kV_givers dc_givers pm_givers cd_givers ct_givers oc_classes_of kV_classes_of dc_classes_of pm_classes_of cd_classes_of ct_classes_of oc_position_for kV_position_for dc_position_for pm_position_for cd_position_for ct_position_for oc_Matching___init__ kV_Matching___init__ dc_Matching___init__ pm_Matching___init__ cd_Matching___init__ ct_Matching___init__ oc_Matching_put kV_Matching_put dc_Matching_put pm_Matching_put cd_Matching_put ct_Matching_put oc_Matching_setting kV_Matching_setting dc_Matching_setting pm_Matching_setting cd_Matching_setting ct_Matching_setting oc_setting_for kV_setting_for dc_setting_for pm_setting_for cd_setting_for ct_setting_for oc_is_had kV_is_had dc_is_had pm_is_had cd_is_had ct_is_had oc_letters_in kV_letters_in dc_letters_in pm_letters_in cd_letters_in ct_letters_in oc_within kV_within dc_within pm_within cd_within ct_within oc_arcs kV_arcs dc_arcs pm_arcs cd_arcs ct_arcs oc_over_full kV_over_full dc_over_full pm_over_full cd_over_full ct_over_full oc_is_over_full kV_is_over_full dc_is_over_full pm_is_over_full cd_is_over_full ct_is_over_full oc__law_bag kV__law_bag dc__law_bag pm__law_bag cd__law_bag ct__law_bag oc__law_take kV__law_take dc__law_take pm__law_take cd__law_take ct__law_take oc__law_some kV__law_some dc__law_some pm__law_some cd__law_some ct__law_some oc__law_mixed kV__law_mixed dc__law_mixed pm__law_mixed cd__law_mixed ct__law_mixed oc__law_same kV__law_same dc__law_same pm__law_same cd__law_same ct__law_same oc__law_names kV__law_names dc__law_names pm__law_names cd__law_names ct__law_names oc__law_letters kV__law_letters dc__law_letters pm__law_letters cd__law_letters ct__law_letters oc__law_harp kV__law_harp dc__law_harp pm__law_harp cd__law_harp ct__law_harp oc__law_flip_harp kV__law_flip_harp dc__law_flip_harp pm__law_flip_harp cd__law_flip_harp ct__law_flip_harp oc__law_lot kV__law_lot dc__law_lot pm__law_lot cd__law_lot ct__law_lot oc__law_givers kV__law_givers dc__law_givers pm__law_givers cd__law_givers ct__law_givers oc__law_arcs kV__law_arcs dc__law_arcs pm__law_arcs cd__law_arcs ct__law_arcs oc__law_inside kV__law_inside dc__law_inside pm__law_inside cd__law_inside ct__law_inside oc__law_can_give kV__law_can_give dc__law_can_give pm__law_can_give cd__law_can_give ct__law_can_give oc__law_flip_arc kV__law_flip_arc dc__law_flip_arc pm__law_flip_arc cd__law_flip_arc ct__law_flip_arc oc__law_is_lot_told kV__law_is_lot_told dc__law_is_lot_told pm__law_is_lot_told cd__law_is_lot_told ct__law_is_lot_told oc_law kV_law dc_law pm_law cd_law ct_law : Value} {t_LETTERS t_MOST_FINGERS t_MOST_LETTERS_forms t_MOST_LETTERS_harps t_MOST_REACH t_MOST_ROUND t_MOST_STRINGS t_POSITIONS_0 t_POSITIONS_1 t_POSITIONS_2 t_RESERVED_0 t_RESERVED_1 t_RESERVED_2 t_RESERVED_3 t_RESERVED_4 t_RESERVED_5 t_RESERVED_6 t_RESERVED_7 : Tok} {yn_POSITIONS yn_RESERVED : Nat}
    (a_Matching : PySem.W.nsIn K mainGlobals "Matching" = some (some (.ref c_Matching)))
    (a_is_number : PySem.W.nsIn K mainGlobals "is_number" = some (some (.ref x_is_number)))
    (l_is_number : K.lookup x_is_number = some ⟨oc_is_number, od_is_number, .func (PySem.W.fnOf "is_number" "is_number" (defArgs s_is_number) (defBody s_is_number) (defScope s_is_number) .none kV_is_number dc_is_number pm_is_number an_is_number cd_is_number ct_is_number), sl_is_number⟩)
    (c_is_number : PySem.W.codeIn K cd_is_number "is_number" = true)
    (k_is_number : PySem.W.keepIn K (.ref x_is_number) = true)
    (a_is_index : PySem.W.nsIn K mainGlobals "is_index" = some (some (.ref x_is_index)))
    (l_is_index : K.lookup x_is_index = some ⟨oc_is_index, od_is_index, .func (PySem.W.fnOf "is_index" "is_index" (defArgs s_is_index) (defBody s_is_index) (defScope s_is_index) .none kV_is_index dc_is_index pm_is_index an_is_index cd_is_index ct_is_index), sl_is_index⟩)
    (c_is_index : PySem.W.codeIn K cd_is_index "is_index" = true)
    (k_is_index : PySem.W.keepIn K (.ref x_is_index) = true)
    (a_is_name : PySem.W.nsIn K mainGlobals "is_name" = some (some (.ref x_is_name)))
    (l_is_name : K.lookup x_is_name = some ⟨oc_is_name, od_is_name, .func (PySem.W.fnOf "is_name" "is_name" (defArgs s_is_name) (defBody s_is_name) (defScope s_is_name) .none kV_is_name dc_is_name pm_is_name an_is_name cd_is_name ct_is_name), sl_is_name⟩)
    (c_is_name : PySem.W.codeIn K cd_is_name "is_name" = true)
    (k_is_name : PySem.W.keepIn K (.ref x_is_name) = true)
    (a_is_sized : PySem.W.nsIn K mainGlobals "is_sized" = some (some (.ref x_is_sized)))
    (l_is_sized : K.lookup x_is_sized = some ⟨oc_is_sized, od_is_sized, .func (PySem.W.fnOf "is_sized" "is_sized" (defArgs s_is_sized) (defBody s_is_sized) (defScope s_is_sized) .none kV_is_sized dc_is_sized pm_is_sized an_is_sized cd_is_sized ct_is_sized), sl_is_sized⟩)
    (c_is_sized : PySem.W.codeIn K cd_is_sized "is_sized" = true)
    (k_is_sized : PySem.W.keepIn K (.ref x_is_sized) = true)
    (a_is_letter : PySem.W.nsIn K mainGlobals "is_letter" = some (some (.ref x_is_letter)))
    (l_is_letter : K.lookup x_is_letter = some ⟨oc_is_letter, od_is_letter, .func (PySem.W.fnOf "is_letter" "is_letter" (defArgs s_is_letter) (defBody s_is_letter) (defScope s_is_letter) .none kV_is_letter dc_is_letter pm_is_letter an_is_letter cd_is_letter ct_is_letter), sl_is_letter⟩)
    (c_is_letter : PySem.W.codeIn K cd_is_letter "is_letter" = true)
    (k_is_letter : PySem.W.keepIn K (.ref x_is_letter) = true)
    (a_is_tuple_of : PySem.W.nsIn K mainGlobals "is_tuple_of" = some (some (.ref x_is_tuple_of)))
    (l_is_tuple_of : K.lookup x_is_tuple_of = some ⟨oc_is_tuple_of, od_is_tuple_of, .func (PySem.W.fnOf "is_tuple_of" "is_tuple_of" (defArgs s_is_tuple_of) (defBody s_is_tuple_of) (defScope s_is_tuple_of) .none kV_is_tuple_of dc_is_tuple_of pm_is_tuple_of an_is_tuple_of cd_is_tuple_of ct_is_tuple_of), sl_is_tuple_of⟩)
    (c_is_tuple_of : PySem.W.codeIn K cd_is_tuple_of "is_tuple_of" = true)
    (k_is_tuple_of : PySem.W.keepIn K (.ref x_is_tuple_of) = true)
    (a_is_harp_form : PySem.W.nsIn K mainGlobals "is_harp_form" = some (some (.ref x_is_harp_form)))
    (l_is_harp_form : K.lookup x_is_harp_form = some ⟨oc_is_harp_form, od_is_harp_form, .func (PySem.W.fnOf "is_harp_form" "is_harp_form" (defArgs s_is_harp_form) (defBody s_is_harp_form) (defScope s_is_harp_form) .none kV_is_harp_form dc_is_harp_form pm_is_harp_form an_is_harp_form cd_is_harp_form ct_is_harp_form), sl_is_harp_form⟩)
    (c_is_harp_form : PySem.W.codeIn K cd_is_harp_form "is_harp_form" = true)
    (k_is_harp_form : PySem.W.keepIn K (.ref x_is_harp_form) = true)
    (a_check_number : PySem.W.nsIn K mainGlobals "check_number" = some (some (.ref x_check_number)))
    (l_check_number : K.lookup x_check_number = some ⟨oc_check_number, od_check_number, .func (PySem.W.fnOf "check_number" "check_number" (defArgs s_check_number) (defBody s_check_number) (defScope s_check_number) .none kV_check_number dc_check_number pm_check_number an_check_number cd_check_number ct_check_number), sl_check_number⟩)
    (c_check_number : PySem.W.codeIn K cd_check_number "check_number" = true)
    (k_check_number : PySem.W.keepIn K (.ref x_check_number) = true)
    (a_check_letters : PySem.W.nsIn K mainGlobals "check_letters" = some (some (.ref x_check_letters)))
    (l_check_letters : K.lookup x_check_letters = some ⟨oc_check_letters, od_check_letters, .func (PySem.W.fnOf "check_letters" "check_letters" (defArgs s_check_letters) (defBody s_check_letters) (defScope s_check_letters) .none kV_check_letters dc_check_letters pm_check_letters an_check_letters cd_check_letters ct_check_letters), sl_check_letters⟩)
    (c_check_letters : PySem.W.codeIn K cd_check_letters "check_letters" = true)
    (k_check_letters : PySem.W.keepIn K (.ref x_check_letters) = true)
    (a_checked_harp : PySem.W.nsIn K mainGlobals "checked_harp" = some (some (.ref x_checked_harp)))
    (l_checked_harp : K.lookup x_checked_harp = some ⟨oc_checked_harp, od_checked_harp, .func (PySem.W.fnOf "checked_harp" "checked_harp" (defArgs s_checked_harp) (defBody s_checked_harp) (defScope s_checked_harp) .none kV_checked_harp dc_checked_harp pm_checked_harp an_checked_harp cd_checked_harp ct_checked_harp), sl_checked_harp⟩)
    (c_checked_harp : PySem.W.codeIn K cd_checked_harp "checked_harp" = true)
    (k_checked_harp : PySem.W.keepIn K (.ref x_checked_harp) = true)
    (a_letters_many : PySem.W.nsIn K mainGlobals "letters_many" = some (some (.ref x_letters_many)))
    (l_letters_many : K.lookup x_letters_many = some ⟨oc_letters_many, od_letters_many, .func (PySem.W.fnOf "letters_many" "letters_many" (defArgs s_letters_many) (defBody s_letters_many) (defScope s_letters_many) .none kV_letters_many dc_letters_many pm_letters_many an_letters_many cd_letters_many ct_letters_many), sl_letters_many⟩)
    (c_letters_many : PySem.W.codeIn K cd_letters_many "letters_many" = true)
    (k_letters_many : PySem.W.keepIn K (.ref x_letters_many) = true)
    (a_bases_of : PySem.W.nsIn K mainGlobals "bases_of" = some (some (.ref x_bases_of)))
    (l_bases_of : K.lookup x_bases_of = some ⟨oc_bases_of, od_bases_of, .func (PySem.W.fnOf "bases_of" "bases_of" (defArgs s_bases_of) (defBody s_bases_of) (defScope s_bases_of) .none kV_bases_of dc_bases_of pm_bases_of an_bases_of cd_bases_of ct_bases_of), sl_bases_of⟩)
    (c_bases_of : PySem.W.codeIn K cd_bases_of "bases_of" = true)
    (k_bases_of : PySem.W.keepIn K (.ref x_bases_of) = true)
    (a_givers : PySem.W.nsIn K mainGlobals "givers" = some (some (.ref x_givers)))
    (l_givers : K.lookup x_givers = some ⟨oc_givers, od_givers, .func (PySem.W.fnOf "givers" "givers" (defArgs s_givers) (defBody s_givers) (defScope s_givers) .none kV_givers dc_givers pm_givers an_givers cd_givers ct_givers), sl_givers⟩)
    (c_givers : PySem.W.codeIn K cd_givers "givers" = true)
    (k_givers : PySem.W.keepIn K (.ref x_givers) = true)
    (a_classes_of : PySem.W.nsIn K mainGlobals "classes_of" = some (some (.ref x_classes_of)))
    (l_classes_of : K.lookup x_classes_of = some ⟨oc_classes_of, od_classes_of, .func (PySem.W.fnOf "classes_of" "classes_of" (defArgs s_classes_of) (defBody s_classes_of) (defScope s_classes_of) .none kV_classes_of dc_classes_of pm_classes_of an_classes_of cd_classes_of ct_classes_of), sl_classes_of⟩)
    (c_classes_of : PySem.W.codeIn K cd_classes_of "classes_of" = true)
    (k_classes_of : PySem.W.keepIn K (.ref x_classes_of) = true)
    (a_position_for : PySem.W.nsIn K mainGlobals "position_for" = some (some (.ref x_position_for)))
    (l_position_for : K.lookup x_position_for = some ⟨oc_position_for, od_position_for, .func (PySem.W.fnOf "position_for" "position_for" (defArgs s_position_for) (defBody s_position_for) (defScope s_position_for) .none kV_position_for dc_position_for pm_position_for an_position_for cd_position_for ct_position_for), sl_position_for⟩)
    (c_position_for : PySem.W.codeIn K cd_position_for "position_for" = true)
    (k_position_for : PySem.W.keepIn K (.ref x_position_for) = true)
    (a_Matching___init__ : PySem.W.findIn K (.ref c_Matching) "__init__" = some (some (.ref x_Matching___init__)))
    (i_Matching___init__ : PySem.W.isFn K (.ref x_Matching___init__) = true)
    (l_Matching___init__ : K.lookup x_Matching___init__ = some ⟨oc_Matching___init__, od_Matching___init__, .func (PySem.W.fnOf "__init__" "Matching.__init__" (defArgs s_Matching___init__) (defBody s_Matching___init__) (defScope s_Matching___init__) .none kV_Matching___init__ dc_Matching___init__ pm_Matching___init__ an_Matching___init__ cd_Matching___init__ ct_Matching___init__), sl_Matching___init__⟩)
    (c_Matching___init__ : PySem.W.codeIn K cd_Matching___init__ "Matching.__init__" = true)
    (k_Matching___init__ : PySem.W.keepIn K (.ref x_Matching___init__) = true)
    (a_Matching_put : PySem.W.findIn K (.ref c_Matching) "put" = some (some (.ref x_Matching_put)))
    (i_Matching_put : PySem.W.isFn K (.ref x_Matching_put) = true)
    (l_Matching_put : K.lookup x_Matching_put = some ⟨oc_Matching_put, od_Matching_put, .func (PySem.W.fnOf "put" "Matching.put" (defArgs s_Matching_put) (defBody s_Matching_put) (defScope s_Matching_put) .none kV_Matching_put dc_Matching_put pm_Matching_put an_Matching_put cd_Matching_put ct_Matching_put), sl_Matching_put⟩)
    (c_Matching_put : PySem.W.codeIn K cd_Matching_put "Matching.put" = true)
    (k_Matching_put : PySem.W.keepIn K (.ref x_Matching_put) = true)
    (a_Matching_setting : PySem.W.findIn K (.ref c_Matching) "setting" = some (some (.ref x_Matching_setting)))
    (i_Matching_setting : PySem.W.isFn K (.ref x_Matching_setting) = true)
    (l_Matching_setting : K.lookup x_Matching_setting = some ⟨oc_Matching_setting, od_Matching_setting, .func (PySem.W.fnOf "setting" "Matching.setting" (defArgs s_Matching_setting) (defBody s_Matching_setting) (defScope s_Matching_setting) .none kV_Matching_setting dc_Matching_setting pm_Matching_setting an_Matching_setting cd_Matching_setting ct_Matching_setting), sl_Matching_setting⟩)
    (c_Matching_setting : PySem.W.codeIn K cd_Matching_setting "Matching.setting" = true)
    (k_Matching_setting : PySem.W.keepIn K (.ref x_Matching_setting) = true)
    (a_setting_for : PySem.W.nsIn K mainGlobals "setting_for" = some (some (.ref x_setting_for)))
    (l_setting_for : K.lookup x_setting_for = some ⟨oc_setting_for, od_setting_for, .func (PySem.W.fnOf "setting_for" "setting_for" (defArgs s_setting_for) (defBody s_setting_for) (defScope s_setting_for) .none kV_setting_for dc_setting_for pm_setting_for an_setting_for cd_setting_for ct_setting_for), sl_setting_for⟩)
    (c_setting_for : PySem.W.codeIn K cd_setting_for "setting_for" = true)
    (k_setting_for : PySem.W.keepIn K (.ref x_setting_for) = true)
    (a_is_had : PySem.W.nsIn K mainGlobals "is_had" = some (some (.ref x_is_had)))
    (l_is_had : K.lookup x_is_had = some ⟨oc_is_had, od_is_had, .func (PySem.W.fnOf "is_had" "is_had" (defArgs s_is_had) (defBody s_is_had) (defScope s_is_had) .none kV_is_had dc_is_had pm_is_had an_is_had cd_is_had ct_is_had), sl_is_had⟩)
    (c_is_had : PySem.W.codeIn K cd_is_had "is_had" = true)
    (k_is_had : PySem.W.keepIn K (.ref x_is_had) = true)
    (a_letters_in : PySem.W.nsIn K mainGlobals "letters_in" = some (some (.ref x_letters_in)))
    (l_letters_in : K.lookup x_letters_in = some ⟨oc_letters_in, od_letters_in, .func (PySem.W.fnOf "letters_in" "letters_in" (defArgs s_letters_in) (defBody s_letters_in) (defScope s_letters_in) .none kV_letters_in dc_letters_in pm_letters_in an_letters_in cd_letters_in ct_letters_in), sl_letters_in⟩)
    (c_letters_in : PySem.W.codeIn K cd_letters_in "letters_in" = true)
    (k_letters_in : PySem.W.keepIn K (.ref x_letters_in) = true)
    (a_within : PySem.W.nsIn K mainGlobals "within" = some (some (.ref x_within)))
    (l_within : K.lookup x_within = some ⟨oc_within, od_within, .func (PySem.W.fnOf "within" "within" (defArgs s_within) (defBody s_within) (defScope s_within) .none kV_within dc_within pm_within an_within cd_within ct_within), sl_within⟩)
    (c_within : PySem.W.codeIn K cd_within "within" = true)
    (k_within : PySem.W.keepIn K (.ref x_within) = true)
    (a_arcs : PySem.W.nsIn K mainGlobals "arcs" = some (some (.ref x_arcs)))
    (l_arcs : K.lookup x_arcs = some ⟨oc_arcs, od_arcs, .func (PySem.W.fnOf "arcs" "arcs" (defArgs s_arcs) (defBody s_arcs) (defScope s_arcs) .none kV_arcs dc_arcs pm_arcs an_arcs cd_arcs ct_arcs), sl_arcs⟩)
    (c_arcs : PySem.W.codeIn K cd_arcs "arcs" = true)
    (k_arcs : PySem.W.keepIn K (.ref x_arcs) = true)
    (a_over_full : PySem.W.nsIn K mainGlobals "over_full" = some (some (.ref x_over_full)))
    (l_over_full : K.lookup x_over_full = some ⟨oc_over_full, od_over_full, .func (PySem.W.fnOf "over_full" "over_full" (defArgs s_over_full) (defBody s_over_full) (defScope s_over_full) .none kV_over_full dc_over_full pm_over_full an_over_full cd_over_full ct_over_full), sl_over_full⟩)
    (c_over_full : PySem.W.codeIn K cd_over_full "over_full" = true)
    (k_over_full : PySem.W.keepIn K (.ref x_over_full) = true)
    (a_is_over_full : PySem.W.nsIn K mainGlobals "is_over_full" = some (some (.ref x_is_over_full)))
    (l_is_over_full : K.lookup x_is_over_full = some ⟨oc_is_over_full, od_is_over_full, .func (PySem.W.fnOf "is_over_full" "is_over_full" (defArgs s_is_over_full) (defBody s_is_over_full) (defScope s_is_over_full) .none kV_is_over_full dc_is_over_full pm_is_over_full an_is_over_full cd_is_over_full ct_is_over_full), sl_is_over_full⟩)
    (c_is_over_full : PySem.W.codeIn K cd_is_over_full "is_over_full" = true)
    (k_is_over_full : PySem.W.keepIn K (.ref x_is_over_full) = true)
    (a__law_bag : PySem.W.nsIn K mainGlobals "_law_bag" = some (some (.ref x__law_bag)))
    (l__law_bag : K.lookup x__law_bag = some ⟨oc__law_bag, od__law_bag, .func (PySem.W.fnOf "_law_bag" "_law_bag" (defArgs s__law_bag) (defBody s__law_bag) (defScope s__law_bag) .none kV__law_bag dc__law_bag pm__law_bag an__law_bag cd__law_bag ct__law_bag), sl__law_bag⟩)
    (c__law_bag : PySem.W.codeIn K cd__law_bag "_law_bag" = true)
    (k__law_bag : PySem.W.keepIn K (.ref x__law_bag) = true)
    (a__law_take : PySem.W.nsIn K mainGlobals "_law_take" = some (some (.ref x__law_take)))
    (l__law_take : K.lookup x__law_take = some ⟨oc__law_take, od__law_take, .func (PySem.W.fnOf "_law_take" "_law_take" (defArgs s__law_take) (defBody s__law_take) (defScope s__law_take) .none kV__law_take dc__law_take pm__law_take an__law_take cd__law_take ct__law_take), sl__law_take⟩)
    (c__law_take : PySem.W.codeIn K cd__law_take "_law_take" = true)
    (k__law_take : PySem.W.keepIn K (.ref x__law_take) = true)
    (a__law_some : PySem.W.nsIn K mainGlobals "_law_some" = some (some (.ref x__law_some)))
    (l__law_some : K.lookup x__law_some = some ⟨oc__law_some, od__law_some, .func (PySem.W.fnOf "_law_some" "_law_some" (defArgs s__law_some) (defBody s__law_some) (defScope s__law_some) .none kV__law_some dc__law_some pm__law_some an__law_some cd__law_some ct__law_some), sl__law_some⟩)
    (c__law_some : PySem.W.codeIn K cd__law_some "_law_some" = true)
    (k__law_some : PySem.W.keepIn K (.ref x__law_some) = true)
    (a__law_mixed : PySem.W.nsIn K mainGlobals "_law_mixed" = some (some (.ref x__law_mixed)))
    (l__law_mixed : K.lookup x__law_mixed = some ⟨oc__law_mixed, od__law_mixed, .func (PySem.W.fnOf "_law_mixed" "_law_mixed" (defArgs s__law_mixed) (defBody s__law_mixed) (defScope s__law_mixed) .none kV__law_mixed dc__law_mixed pm__law_mixed an__law_mixed cd__law_mixed ct__law_mixed), sl__law_mixed⟩)
    (c__law_mixed : PySem.W.codeIn K cd__law_mixed "_law_mixed" = true)
    (k__law_mixed : PySem.W.keepIn K (.ref x__law_mixed) = true)
    (a__law_same : PySem.W.nsIn K mainGlobals "_law_same" = some (some (.ref x__law_same)))
    (l__law_same : K.lookup x__law_same = some ⟨oc__law_same, od__law_same, .func (PySem.W.fnOf "_law_same" "_law_same" (defArgs s__law_same) (defBody s__law_same) (defScope s__law_same) .none kV__law_same dc__law_same pm__law_same an__law_same cd__law_same ct__law_same), sl__law_same⟩)
    (c__law_same : PySem.W.codeIn K cd__law_same "_law_same" = true)
    (k__law_same : PySem.W.keepIn K (.ref x__law_same) = true)
    (a__law_names : PySem.W.nsIn K mainGlobals "_law_names" = some (some (.ref x__law_names)))
    (l__law_names : K.lookup x__law_names = some ⟨oc__law_names, od__law_names, .func (PySem.W.fnOf "_law_names" "_law_names" (defArgs s__law_names) (defBody s__law_names) (defScope s__law_names) .none kV__law_names dc__law_names pm__law_names an__law_names cd__law_names ct__law_names), sl__law_names⟩)
    (c__law_names : PySem.W.codeIn K cd__law_names "_law_names" = true)
    (k__law_names : PySem.W.keepIn K (.ref x__law_names) = true)
    (a__law_letters : PySem.W.nsIn K mainGlobals "_law_letters" = some (some (.ref x__law_letters)))
    (l__law_letters : K.lookup x__law_letters = some ⟨oc__law_letters, od__law_letters, .func (PySem.W.fnOf "_law_letters" "_law_letters" (defArgs s__law_letters) (defBody s__law_letters) (defScope s__law_letters) .none kV__law_letters dc__law_letters pm__law_letters an__law_letters cd__law_letters ct__law_letters), sl__law_letters⟩)
    (c__law_letters : PySem.W.codeIn K cd__law_letters "_law_letters" = true)
    (k__law_letters : PySem.W.keepIn K (.ref x__law_letters) = true)
    (a__law_harp : PySem.W.nsIn K mainGlobals "_law_harp" = some (some (.ref x__law_harp)))
    (l__law_harp : K.lookup x__law_harp = some ⟨oc__law_harp, od__law_harp, .func (PySem.W.fnOf "_law_harp" "_law_harp" (defArgs s__law_harp) (defBody s__law_harp) (defScope s__law_harp) .none kV__law_harp dc__law_harp pm__law_harp an__law_harp cd__law_harp ct__law_harp), sl__law_harp⟩)
    (c__law_harp : PySem.W.codeIn K cd__law_harp "_law_harp" = true)
    (k__law_harp : PySem.W.keepIn K (.ref x__law_harp) = true)
    (a__law_flip_harp : PySem.W.nsIn K mainGlobals "_law_flip_harp" = some (some (.ref x__law_flip_harp)))
    (l__law_flip_harp : K.lookup x__law_flip_harp = some ⟨oc__law_flip_harp, od__law_flip_harp, .func (PySem.W.fnOf "_law_flip_harp" "_law_flip_harp" (defArgs s__law_flip_harp) (defBody s__law_flip_harp) (defScope s__law_flip_harp) .none kV__law_flip_harp dc__law_flip_harp pm__law_flip_harp an__law_flip_harp cd__law_flip_harp ct__law_flip_harp), sl__law_flip_harp⟩)
    (c__law_flip_harp : PySem.W.codeIn K cd__law_flip_harp "_law_flip_harp" = true)
    (k__law_flip_harp : PySem.W.keepIn K (.ref x__law_flip_harp) = true)
    (a__law_lot : PySem.W.nsIn K mainGlobals "_law_lot" = some (some (.ref x__law_lot)))
    (l__law_lot : K.lookup x__law_lot = some ⟨oc__law_lot, od__law_lot, .func (PySem.W.fnOf "_law_lot" "_law_lot" (defArgs s__law_lot) (defBody s__law_lot) (defScope s__law_lot) .none kV__law_lot dc__law_lot pm__law_lot an__law_lot cd__law_lot ct__law_lot), sl__law_lot⟩)
    (c__law_lot : PySem.W.codeIn K cd__law_lot "_law_lot" = true)
    (k__law_lot : PySem.W.keepIn K (.ref x__law_lot) = true)
    (a__law_givers : PySem.W.nsIn K mainGlobals "_law_givers" = some (some (.ref x__law_givers)))
    (l__law_givers : K.lookup x__law_givers = some ⟨oc__law_givers, od__law_givers, .func (PySem.W.fnOf "_law_givers" "_law_givers" (defArgs s__law_givers) (defBody s__law_givers) (defScope s__law_givers) .none kV__law_givers dc__law_givers pm__law_givers an__law_givers cd__law_givers ct__law_givers), sl__law_givers⟩)
    (c__law_givers : PySem.W.codeIn K cd__law_givers "_law_givers" = true)
    (k__law_givers : PySem.W.keepIn K (.ref x__law_givers) = true)
    (a__law_arcs : PySem.W.nsIn K mainGlobals "_law_arcs" = some (some (.ref x__law_arcs)))
    (l__law_arcs : K.lookup x__law_arcs = some ⟨oc__law_arcs, od__law_arcs, .func (PySem.W.fnOf "_law_arcs" "_law_arcs" (defArgs s__law_arcs) (defBody s__law_arcs) (defScope s__law_arcs) .none kV__law_arcs dc__law_arcs pm__law_arcs an__law_arcs cd__law_arcs ct__law_arcs), sl__law_arcs⟩)
    (c__law_arcs : PySem.W.codeIn K cd__law_arcs "_law_arcs" = true)
    (k__law_arcs : PySem.W.keepIn K (.ref x__law_arcs) = true)
    (a__law_inside : PySem.W.nsIn K mainGlobals "_law_inside" = some (some (.ref x__law_inside)))
    (l__law_inside : K.lookup x__law_inside = some ⟨oc__law_inside, od__law_inside, .func (PySem.W.fnOf "_law_inside" "_law_inside" (defArgs s__law_inside) (defBody s__law_inside) (defScope s__law_inside) .none kV__law_inside dc__law_inside pm__law_inside an__law_inside cd__law_inside ct__law_inside), sl__law_inside⟩)
    (c__law_inside : PySem.W.codeIn K cd__law_inside "_law_inside" = true)
    (k__law_inside : PySem.W.keepIn K (.ref x__law_inside) = true)
    (a__law_can_give : PySem.W.nsIn K mainGlobals "_law_can_give" = some (some (.ref x__law_can_give)))
    (l__law_can_give : K.lookup x__law_can_give = some ⟨oc__law_can_give, od__law_can_give, .func (PySem.W.fnOf "_law_can_give" "_law_can_give" (defArgs s__law_can_give) (defBody s__law_can_give) (defScope s__law_can_give) .none kV__law_can_give dc__law_can_give pm__law_can_give an__law_can_give cd__law_can_give ct__law_can_give), sl__law_can_give⟩)
    (c__law_can_give : PySem.W.codeIn K cd__law_can_give "_law_can_give" = true)
    (k__law_can_give : PySem.W.keepIn K (.ref x__law_can_give) = true)
    (a__law_flip_arc : PySem.W.nsIn K mainGlobals "_law_flip_arc" = some (some (.ref x__law_flip_arc)))
    (l__law_flip_arc : K.lookup x__law_flip_arc = some ⟨oc__law_flip_arc, od__law_flip_arc, .func (PySem.W.fnOf "_law_flip_arc" "_law_flip_arc" (defArgs s__law_flip_arc) (defBody s__law_flip_arc) (defScope s__law_flip_arc) .none kV__law_flip_arc dc__law_flip_arc pm__law_flip_arc an__law_flip_arc cd__law_flip_arc ct__law_flip_arc), sl__law_flip_arc⟩)
    (c__law_flip_arc : PySem.W.codeIn K cd__law_flip_arc "_law_flip_arc" = true)
    (k__law_flip_arc : PySem.W.keepIn K (.ref x__law_flip_arc) = true)
    (a__law_is_lot_told : PySem.W.nsIn K mainGlobals "_law_is_lot_told" = some (some (.ref x__law_is_lot_told)))
    (l__law_is_lot_told : K.lookup x__law_is_lot_told = some ⟨oc__law_is_lot_told, od__law_is_lot_told, .func (PySem.W.fnOf "_law_is_lot_told" "_law_is_lot_told" (defArgs s__law_is_lot_told) (defBody s__law_is_lot_told) (defScope s__law_is_lot_told) .none kV__law_is_lot_told dc__law_is_lot_told pm__law_is_lot_told an__law_is_lot_told cd__law_is_lot_told ct__law_is_lot_told), sl__law_is_lot_told⟩)
    (c__law_is_lot_told : PySem.W.codeIn K cd__law_is_lot_told "_law_is_lot_told" = true)
    (k__law_is_lot_told : PySem.W.keepIn K (.ref x__law_is_lot_told) = true)
    (a_law : PySem.W.nsIn K mainGlobals "law" = some (some (.ref x_law)))
    (l_law : K.lookup x_law = some ⟨oc_law, od_law, .func (PySem.W.fnOf "law" "law" (defArgs s_law) (defBody s_law) (defScope s_law) .none kV_law dc_law pm_law an_law cd_law ct_law), sl_law⟩)
    (c_law : PySem.W.codeIn K cd_law "law" = true)
    (k_law : PySem.W.keepIn K (.ref x_law) = true)
    (pg_Matching : PySem.W.plainGet K c_Matching Str.empty = true)
    (hd_Matching : PySem.W.hasDictIn K c_Matching = true)
    (po_Matching : PySem.W.plainOver K c_Matching = true)
    (sa_Matching : PySem.W.findIn K (.ref c_Matching) "__setattr__" = some (some (.builtin "object.__setattr__")))
    (mk_Matching : PySem.W.makesIn K c_Matching = true)
    (kc_Matching : PySem.W.keepIn K (.ref c_Matching) = true)
    (n_Matching_harp : PySem.W.findIn K (.ref c_Matching) "harp" = some none)
    (n_Matching_held : PySem.W.findIn K (.ref c_Matching) "held" = some none)
    (n_Matching_lot : PySem.W.findIn K (.ref c_Matching) "lot" = some none)
    (z_abs : PySem.W.nsIn K mainGlobals "abs" = some none)
    (z_all : PySem.W.nsIn K mainGlobals "all" = some none)
    (z_bool : PySem.W.nsIn K mainGlobals "bool" = some none)
    (z_dict : PySem.W.nsIn K mainGlobals "dict" = some none)
    (z_enumerate : PySem.W.nsIn K mainGlobals "enumerate" = some none)
    (z_int : PySem.W.nsIn K mainGlobals "int" = some none)
    (z_isinstance : PySem.W.nsIn K mainGlobals "isinstance" = some none)
    (z_len : PySem.W.nsIn K mainGlobals "len" = some none)
    (z_list : PySem.W.nsIn K mainGlobals "list" = some none)
    (z_max : PySem.W.nsIn K mainGlobals "max" = some none)
    (z_range : PySem.W.nsIn K mainGlobals "range" = some none)
    (z_set : PySem.W.nsIn K mainGlobals "set" = some none)
    (z_sorted : PySem.W.nsIn K mainGlobals "sorted" = some none)
    (z_str : PySem.W.nsIn K mainGlobals "str" = some none)
    (z_tuple : PySem.W.nsIn K mainGlobals "tuple" = some none)
    (z_zip : PySem.W.nsIn K mainGlobals "zip" = some none)
    (a_LETTERS : PySem.W.nsIn K mainGlobals "LETTERS" = some (some (.str "abcdefghijklmnopqrstuvwxyz" t_LETTERS)))
    (a_MOST_FINGERS : PySem.W.nsIn K mainGlobals "MOST_FINGERS" = some (some (.int 5 t_MOST_FINGERS)))
    (a_MOST_LETTERS_forms : PySem.W.nsIn K mainGlobals "MOST_LETTERS_forms" = some (some (.int 8 t_MOST_LETTERS_forms)))
    (a_MOST_LETTERS_harps : PySem.W.nsIn K mainGlobals "MOST_LETTERS_harps" = some (some (.int 9 t_MOST_LETTERS_harps)))
    (a_MOST_REACH : PySem.W.nsIn K mainGlobals "MOST_REACH" = some (some (.int 59 t_MOST_REACH)))
    (a_MOST_ROUND : PySem.W.nsIn K mainGlobals "MOST_ROUND" = some (some (.int 24 t_MOST_ROUND)))
    (a_MOST_STRINGS : PySem.W.nsIn K mainGlobals "MOST_STRINGS" = some (some (.int 60 t_MOST_STRINGS)))
    (a_POSITIONS : PySem.W.nsIn K mainGlobals "POSITIONS" = some (some (.ref y_POSITIONS)))
    (l_POSITIONS : K.lookup y_POSITIONS = some ⟨.type "tuple", yd_POSITIONS, .seq #[.int (-1) t_POSITIONS_0, .int 0 t_POSITIONS_1, .int 1 t_POSITIONS_2] yn_POSITIONS, ys_POSITIONS⟩)
    (a_RESERVED : PySem.W.nsIn K mainGlobals "RESERVED" = some (some (.ref y_RESERVED)))
    (l_RESERVED : K.lookup y_RESERVED = some ⟨.type "tuple", yd_RESERVED, .seq #[.str "hands" t_RESERVED_0, .str "left" t_RESERVED_1, .str "letter" t_RESERVED_2, .str "note" t_RESERVED_3, .str "right" t_RESERVED_4, .str "round" t_RESERVED_5, .str "strings" t_RESERVED_6, .str "ticks" t_RESERVED_7] yn_RESERVED, ys_RESERVED⟩)
    : ∃ fd : FuncData, (∀ (s : Shared) (v : Value), BindsTo s fd ⟨[v], []⟩ [("script", v)]) ∧ ∀ base : Heap, K.In base → base.Ns mainGlobals mg → FnOk l.prog w K mg base CX0 19 fa fd ["script"] (spLaw K) := by
  have e := hfa.symm.trans (PySem.W.mg_of X G a_law)
  cases e
  have F := fun_mk (st := s_law) l_law c_law k_law
  refine ⟨PySem.W.fnOf "law" "law" (defArgs s_law) (defBody s_law) (defScope s_law) .none kV_law dc_law pm_law an_law cd_law ct_law, fun s v => .of_eq rfl, fun base _ _ => ?_⟩
  have T : Txt ⟨l.prog, w, K, mg, base⟩ ⟨x_is_number, x_is_index, x_is_name, x_is_sized, x_is_letter, x_is_tuple_of, x_is_harp_form, x_check_number, x_check_letters, x_checked_harp, x_letters_many, x_bases_of, x_givers, x_classes_of, x_position_for, x_Matching___init__, x_Matching_put, x_Matching_setting, x_setting_for, x_is_had, x_letters_in, x_within, x_arcs, x_over_full, x_is_over_full, x__law_bag, x__law_take, x__law_some, x__law_mixed, x__law_same, x__law_names, x__law_letters, x__law_harp, x__law_flip_harp, x__law_lot, x__law_givers, x__law_arcs, x__law_inside, x__law_can_give, x__law_flip_arc, x__law_is_lot_told, fa, c_Matching⟩ := {
    f_is_number := ⟨_, fun_mk l_is_number c_is_number k_is_number, (fun_mk (st := s_is_number) l_is_number c_is_number k_is_number).binds (ps := ["thing"]) fun _ _ _ _ _ _ us hl => match us, hl with | [_], _ => rfl⟩
    m_is_number := PySem.W.mg_of X G a_is_number
    k_is_number := k_is_number
    f_is_index := ⟨_, fun_mk l_is_index c_is_index k_is_index, (fun_mk (st := s_is_index) l_is_index c_is_index k_is_index).binds (ps := ["thing"]) fun _ _ _ _ _ _ us hl => match us, hl with | [_], _ => rfl⟩
    m_is_index := PySem.W.mg_of X G a_is_index
    k_is_index := k_is_index
    f_is_name := ⟨_, fun_mk l_is_name c_is_name k_is_name, (fun_mk (st := s_is_name) l_is_name c_is_name k_is_name).binds (ps := ["thing"]) fun _ _ _ _ _ _ us hl => match us, hl with | [_], _ => rfl⟩
    m_is_name := PySem.W.mg_of X G a_is_name
    k_is_name := k_is_name
    f_is_sized := ⟨_, fun_mk l_is_sized c_is_sized k_is_sized, (fun_mk (st := s_is_sized) l_is_sized c_is_sized k_is_sized).binds (ps := ["thing", "many"]) fun _ _ _ _ _ _ us hl => match us, hl with | [_, _], _ => rfl⟩
    m_is_sized := PySem.W.mg_of X G a_is_sized
    k_is_sized := k_is_sized
    f_is_letter := ⟨_, fun_mk l_is_letter c_is_letter k_is_letter, (fun_mk (st := s_is_letter) l_is_letter c_is_letter k_is_letter).binds (ps := ["thing"]) fun _ _ _ _ _ _ us hl => match us, hl with | [_], _ => rfl⟩
    m_is_letter := PySem.W.mg_of X G a_is_letter
    k_is_letter := k_is_letter
    f_is_tuple_of := ⟨_, fun_mk l_is_tuple_of c_is_tuple_of k_is_tuple_of, (fun_mk (st := s_is_tuple_of) l_is_tuple_of c_is_tuple_of k_is_tuple_of).binds (ps := ["thing", "is_one"]) fun _ _ _ _ _ _ us hl => match us, hl with | [_, _], _ => rfl⟩
    m_is_tuple_of := PySem.W.mg_of X G a_is_tuple_of
    k_is_tuple_of := k_is_tuple_of
    f_is_harp_form := ⟨_, fun_mk l_is_harp_form c_is_harp_form k_is_harp_form, (fun_mk (st := s_is_harp_form) l_is_harp_form c_is_harp_form k_is_harp_form).binds (ps := ["thing"]) fun _ _ _ _ _ _ us hl => match us, hl with | [_], _ => rfl⟩
    m_is_harp_form := PySem.W.mg_of X G a_is_harp_form
    k_is_harp_form := k_is_harp_form
    f_check_number := ⟨_, fun_mk l_check_number c_check_number k_check_number, (fun_mk (st := s_check_number) l_check_number c_check_number k_check_number).binds (ps := ["word", "number", "least", "most"]) fun _ _ _ _ _ _ us hl => match us, hl with | [_, _, _, _], _ => rfl⟩
    m_check_number := PySem.W.mg_of X G a_check_number
    k_check_number := k_check_number
    f_check_letters := ⟨_, fun_mk l_check_letters c_check_letters k_check_letters, (fun_mk (st := s_check_letters) l_check_letters c_check_letters k_check_letters).binds (ps := ["harp"]) fun _ _ _ _ _ _ us hl => match us, hl with | [_], _ => rfl⟩
    m_check_letters := PySem.W.mg_of X G a_check_letters
    k_check_letters := k_check_letters
    f_checked_harp := ⟨_, fun_mk l_checked_harp c_checked_harp k_checked_harp, (fun_mk (st := s_checked_harp) l_checked_harp c_checked_harp k_checked_harp).binds (ps := ["thing"]) fun _ _ _ _ _ _ us hl => match us, hl with | [_], _ => rfl⟩
    m_checked_harp := PySem.W.mg_of X G a_checked_harp
    k_checked_harp := k_checked_harp
    f_letters_many := ⟨_, fun_mk l_letters_many c_letters_many k_letters_many, (fun_mk (st := s_letters_many) l_letters_many c_letters_many k_letters_many).binds (ps := ["harp"]) fun _ _ _ _ _ _ us hl => match us, hl with | [_], _ => rfl⟩
    m_letters_many := PySem.W.mg_of X G a_letters_many
    k_letters_many := k_letters_many
    f_bases_of := ⟨_, fun_mk l_bases_of c_bases_of k_bases_of, (fun_mk (st := s_bases_of) l_bases_of c_bases_of k_bases_of).binds (ps := ["harp"]) fun _ _ _ _ _ _ us hl => match us, hl with | [_], _ => rfl⟩
    m_bases_of := PySem.W.mg_of X G a_bases_of
    k_bases_of := k_bases_of
    f_givers := ⟨_, fun_mk l_givers c_givers k_givers, (fun_mk (st := s_givers) l_givers c_givers k_givers).binds (ps := ["harp", "kind"]) fun _ _ _ _ _ _ us hl => match us, hl with | [_, _], _ => rfl⟩
    m_givers := PySem.W.mg_of X G a_givers
    k_givers := k_givers
    f_classes_of := ⟨_, fun_mk l_classes_of c_classes_of k_classes_of, (fun_mk (st := s_classes_of) l_classes_of c_classes_of k_classes_of).binds (ps := ["harp", "setting"]) fun _ _ _ _ _ _ us hl => match us, hl with | [_, _], _ => rfl⟩
    m_classes_of := PySem.W.mg_of X G a_classes_of
    k_classes_of := k_classes_of
    f_position_for := ⟨_, fun_mk l_position_for c_position_for k_position_for, (fun_mk (st := s_position_for) l_position_for c_position_for k_position_for).binds (ps := ["harp", "letter", "kind"]) fun _ _ _ _ _ _ us hl => match us, hl with | [_, _, _], _ => rfl⟩
    m_position_for := PySem.W.mg_of X G a_position_for
    k_position_for := k_position_for
    f_Matching___init__ := ⟨_, fun_mk l_Matching___init__ c_Matching___init__ k_Matching___init__, (fun_mk (st := s_Matching___init__) l_Matching___init__ c_Matching___init__ k_Matching___init__).binds (ps := ["self", "harp", "lot"]) fun _ _ _ _ _ _ us hl => match us, hl with | [_, _, _], _ => rfl⟩
    f_Matching_put := ⟨_, fun_mk l_Matching_put c_Matching_put k_Matching_put, (fun_mk (st := s_Matching_put) l_Matching_put c_Matching_put k_Matching_put).binds (ps := ["self", "kind", "seen"]) fun _ _ _ _ _ _ us hl => match us, hl with | [_, _, _], _ => rfl⟩
    f_Matching_setting := ⟨_, fun_mk l_Matching_setting c_Matching_setting k_Matching_setting, (fun_mk (st := s_Matching_setting) l_Matching_setting c_Matching_setting k_Matching_setting).binds (ps := ["self"]) fun _ _ _ _ _ _ us hl => match us, hl with | [_], _ => rfl⟩
    f_setting_for := ⟨_, fun_mk l_setting_for c_setting_for k_setting_for, (fun_mk (st := s_setting_for) l_setting_for c_setting_for k_setting_for).binds (ps := ["harp", "lot"]) fun _ _ _ _ _ _ us hl => match us, hl with | [_, _], _ => rfl⟩
    m_setting_for := PySem.W.mg_of X G a_setting_for
    k_setting_for := k_setting_for
    f_is_had := ⟨_, fun_mk l_is_had c_is_had k_is_had, (fun_mk (st := s_is_had) l_is_had c_is_had k_is_had).binds (ps := ["harp", "lot"]) fun _ _ _ _ _ _ us hl => match us, hl with | [_, _], _ => rfl⟩
    m_is_had := PySem.W.mg_of X G a_is_had
    k_is_had := k_is_had
    f_letters_in := ⟨_, fun_mk l_letters_in c_letters_in k_letters_in, (fun_mk (st := s_letters_in) l_letters_in c_letters_in k_letters_in).binds (ps := ["harp", "arc"]) fun _ _ _ _ _ _ us hl => match us, hl with | [_, _], _ => rfl⟩
    m_letters_in := PySem.W.mg_of X G a_letters_in
    k_letters_in := k_letters_in
    f_within := ⟨_, fun_mk l_within c_within k_within, (fun_mk (st := s_within) l_within c_within k_within).binds (ps := ["harp", "lot", "arc"]) fun _ _ _ _ _ _ us hl => match us, hl with | [_, _, _], _ => rfl⟩
    m_within := PySem.W.mg_of X G a_within
    k_within := k_within
    f_arcs := ⟨_, fun_mk l_arcs c_arcs k_arcs, (fun_mk (st := s_arcs) l_arcs c_arcs k_arcs).binds (ps := ["harp"]) fun _ _ _ _ _ _ us hl => match us, hl with | [_], _ => rfl⟩
    m_arcs := PySem.W.mg_of X G a_arcs
    k_arcs := k_arcs
    f_over_full := ⟨_, fun_mk l_over_full c_over_full k_over_full, (fun_mk (st := s_over_full) l_over_full c_over_full k_over_full).binds (ps := ["harp", "lot"]) fun _ _ _ _ _ _ us hl => match us, hl with | [_, _], _ => rfl⟩
    m_over_full := PySem.W.mg_of X G a_over_full
    k_over_full := k_over_full
    f_is_over_full := ⟨_, fun_mk l_is_over_full c_is_over_full k_is_over_full, (fun_mk (st := s_is_over_full) l_is_over_full c_is_over_full k_is_over_full).binds (ps := ["harp", "lot", "thing"]) fun _ _ _ _ _ _ us hl => match us, hl with | [_, _, _], _ => rfl⟩
    m_is_over_full := PySem.W.mg_of X G a_is_over_full
    k_is_over_full := k_is_over_full
    f__law_bag := ⟨_, fun_mk l__law_bag c__law_bag k__law_bag, (fun_mk (st := s__law_bag) l__law_bag c__law_bag k__law_bag).binds (ps := ["script"]) fun _ _ _ _ _ _ us hl => match us, hl with | [_], _ => rfl⟩
    m__law_bag := PySem.W.mg_of X G a__law_bag
    k__law_bag := k__law_bag
    f__law_take := ⟨_, fun_mk l__law_take c__law_take k__law_take, (fun_mk (st := s__law_take) l__law_take c__law_take k__law_take).binds (ps := ["bag", "many"]) fun _ _ _ _ _ _ us hl => match us, hl with | [_, _], _ => rfl⟩
    m__law_take := PySem.W.mg_of X G a__law_take
    k__law_take := k__law_take
    f__law_some := ⟨_, fun_mk l__law_some c__law_some k__law_some, (fun_mk (st := s__law_some) l__law_some c__law_some k__law_some).binds (ps := ["bag", "things"]) fun _ _ _ _ _ _ us hl => match us, hl with | [_, _], _ => rfl⟩
    m__law_some := PySem.W.mg_of X G a__law_some
    k__law_some := k__law_some
    f__law_mixed := ⟨_, fun_mk l__law_mixed c__law_mixed k__law_mixed, (fun_mk (st := s__law_mixed) l__law_mixed c__law_mixed k__law_mixed).binds (ps := ["bag", "things"]) fun _ _ _ _ _ _ us hl => match us, hl with | [_, _], _ => rfl⟩
    m__law_mixed := PySem.W.mg_of X G a__law_mixed
    k__law_mixed := k__law_mixed
    f__law_same := ⟨_, fun_mk l__law_same c__law_same k__law_same, (fun_mk (st := s__law_same) l__law_same c__law_same k__law_same).binds (ps := ["found", "due"]) fun _ _ _ _ _ _ us hl => match us, hl with | [_, _], _ => rfl⟩
    m__law_same := PySem.W.mg_of X G a__law_same
    k__law_same := k__law_same
    f__law_names := ⟨_, fun_mk l__law_names c__law_names k__law_names, (fun_mk (st := s__law_names) l__law_names c__law_names k__law_names).binds (ps := ["bag", "many"]) fun _ _ _ _ _ _ us hl => match us, hl with | [_, _], _ => rfl⟩
    m__law_names := PySem.W.mg_of X G a__law_names
    k__law_names := k__law_names
    f__law_letters := ⟨_, fun_mk l__law_letters c__law_letters k__law_letters, (fun_mk (st := s__law_letters) l__law_letters c__law_letters k__law_letters).binds (ps := ["bag", "size", "many"]) fun _ _ _ _ _ _ us hl => match us, hl with | [_, _, _], _ => rfl⟩
    m__law_letters := PySem.W.mg_of X G a__law_letters
    k__law_letters := k__law_letters
    f__law_harp := ⟨_, fun_mk l__law_harp c__law_harp k__law_harp, (fun_mk (st := s__law_harp) l__law_harp c__law_harp k__law_harp).binds (ps := ["bag", "most"]) fun _ _ _ _ _ _ us hl => match us, hl with | [_, _], _ => rfl⟩
    m__law_harp := PySem.W.mg_of X G a__law_harp
    k__law_harp := k__law_harp
    f__law_flip_harp := ⟨_, fun_mk l__law_flip_harp c__law_flip_harp k__law_flip_harp, (fun_mk (st := s__law_flip_harp) l__law_flip_harp c__law_flip_harp k__law_flip_harp).binds (ps := ["harp"]) fun _ _ _ _ _ _ us hl => match us, hl with | [_], _ => rfl⟩
    m__law_flip_harp := PySem.W.mg_of X G a__law_flip_harp
    k__law_flip_harp := k__law_flip_harp
    f__law_lot := ⟨_, fun_mk l__law_lot c__law_lot k__law_lot, (fun_mk (st := s__law_lot) l__law_lot c__law_lot k__law_lot).binds (ps := ["bag", "harp"]) fun _ _ _ _ _ _ us hl => match us, hl with | [_, _], _ => rfl⟩
    m__law_lot := PySem.W.mg_of X G a__law_lot
    k__law_lot := k__law_lot
    f__law_givers := ⟨_, fun_mk l__law_givers c__law_givers k__law_givers, (fun_mk (st := s__law_givers) l__law_givers c__law_givers k__law_givers).binds (ps := ["harp", "kind"]) fun _ _ _ _ _ _ us hl => match us, hl with | [_, _], _ => rfl⟩
    m__law_givers := PySem.W.mg_of X G a__law_givers
    k__law_givers := k__law_givers
    f__law_arcs := ⟨_, fun_mk l__law_arcs c__law_arcs k__law_arcs, (fun_mk (st := s__law_arcs) l__law_arcs c__law_arcs k__law_arcs).binds (ps := ["harp"]) fun _ _ _ _ _ _ us hl => match us, hl with | [_], _ => rfl⟩
    m__law_arcs := PySem.W.mg_of X G a__law_arcs
    k__law_arcs := k__law_arcs
    f__law_inside := ⟨_, fun_mk l__law_inside c__law_inside k__law_inside, (fun_mk (st := s__law_inside) l__law_inside c__law_inside k__law_inside).binds (ps := ["harp", "lot", "arc"]) fun _ _ _ _ _ _ us hl => match us, hl with | [_, _, _], _ => rfl⟩
    m__law_inside := PySem.W.mg_of X G a__law_inside
    k__law_inside := k__law_inside
    f__law_can_give := ⟨_, fun_mk l__law_can_give c__law_can_give k__law_can_give, (fun_mk (st := s__law_can_give) l__law_can_give c__law_can_give k__law_can_give).binds (ps := ["harp", "lot"]) fun _ _ _ _ _ _ us hl => match us, hl with | [_, _], _ => rfl⟩
    m__law_can_give := PySem.W.mg_of X G a__law_can_give
    k__law_can_give := k__law_can_give
    f__law_flip_arc := ⟨_, fun_mk l__law_flip_arc c__law_flip_arc k__law_flip_arc, (fun_mk (st := s__law_flip_arc) l__law_flip_arc c__law_flip_arc k__law_flip_arc).binds (ps := ["harp", "arc"]) fun _ _ _ _ _ _ us hl => match us, hl with | [_, _], _ => rfl⟩
    m__law_flip_arc := PySem.W.mg_of X G a__law_flip_arc
    k__law_flip_arc := k__law_flip_arc
    f__law_is_lot_told := ⟨_, fun_mk l__law_is_lot_told c__law_is_lot_told k__law_is_lot_told, (fun_mk (st := s__law_is_lot_told) l__law_is_lot_told c__law_is_lot_told k__law_is_lot_told).binds (ps := ["harp", "lot"]) fun _ _ _ _ _ _ us hl => match us, hl with | [_, _], _ => rfl⟩
    m__law_is_lot_told := PySem.W.mg_of X G a__law_is_lot_told
    k__law_is_lot_told := k__law_is_lot_told
    f_law := ⟨_, fun_mk l_law c_law k_law, (fun_mk (st := s_law) l_law c_law k_law).binds (ps := ["script"]) fun _ _ _ _ _ _ us hl => match us, hl with | [_], _ => rfl⟩
    m_law := PySem.W.mg_of X G a_law
    k_law := k_law
    m_Matching := PySem.W.mg_of X G a_Matching
    cl_Matching := ⟨pg_Matching, hd_Matching, po_Matching, sa_Matching⟩
    mk_Matching := ⟨mk_Matching, a_Matching___init__, i_Matching___init__, kc_Matching⟩
    n_Matching_harp := n_Matching_harp
    n_Matching_held := n_Matching_held
    n_Matching_lot := n_Matching_lot
    me_Matching_put := ⟨a_Matching_put, i_Matching_put, k_Matching_put⟩
    me_Matching_setting := ⟨a_Matching_setting, i_Matching_setting, k_Matching_setting⟩
    z_abs := PySem.W.mg_none_of X G z_abs
    z_all := PySem.W.mg_none_of X G z_all
    z_bool := PySem.W.mg_none_of X G z_bool
    z_dict := PySem.W.mg_none_of X G z_dict
    z_enumerate := PySem.W.mg_none_of X G z_enumerate
    z_int := PySem.W.mg_none_of X G z_int
    z_isinstance := PySem.W.mg_none_of X G z_isinstance
    z_len := PySem.W.mg_none_of X G z_len
    z_list := PySem.W.mg_none_of X G z_list
    z_max := PySem.W.mg_none_of X G z_max
    z_range := PySem.W.mg_none_of X G z_range
    z_set := PySem.W.mg_none_of X G z_set
    z_sorted := PySem.W.mg_none_of X G z_sorted
    z_str := PySem.W.mg_none_of X G z_str
    z_tuple := PySem.W.mg_none_of X G z_tuple
    z_zip := PySem.W.mg_none_of X G z_zip
    g_LETTERS := ⟨_, PySem.W.mg_of X G a_LETTERS, ⟨_, rfl⟩⟩
    g_MOST_FINGERS := ⟨_, PySem.W.mg_of X G a_MOST_FINGERS, ⟨_, rfl⟩⟩
    g_MOST_LETTERS_forms := ⟨_, PySem.W.mg_of X G a_MOST_LETTERS_forms, ⟨_, rfl⟩⟩
    g_MOST_LETTERS_harps := ⟨_, PySem.W.mg_of X G a_MOST_LETTERS_harps, ⟨_, rfl⟩⟩
    g_MOST_REACH := ⟨_, PySem.W.mg_of X G a_MOST_REACH, ⟨_, rfl⟩⟩
    g_MOST_ROUND := ⟨_, PySem.W.mg_of X G a_MOST_ROUND, ⟨_, rfl⟩⟩
    g_MOST_STRINGS := ⟨_, PySem.W.mg_of X G a_MOST_STRINGS, ⟨_, rfl⟩⟩
    g_POSITIONS := ⟨_, PySem.W.mg_of X G a_POSITIONS, _, _, _, l_POSITIONS, rfl, rfl, by show 3 ≤ sizeLine; rw [sizeLine_eq]; decide, .cons ⟨_, rfl⟩ (.cons ⟨_, rfl⟩ (.cons ⟨_, rfl⟩ (.nil)))⟩
    g_RESERVED := ⟨_, PySem.W.mg_of X G a_RESERVED, _, _, _, l_RESERVED, rfl, rfl, by show 8 ≤ sizeLine; rw [sizeLine_eq]; decide, .cons ⟨_, rfl⟩ (.cons ⟨_, rfl⟩ (.cons ⟨_, rfl⟩ (.cons ⟨_, rfl⟩ (.cons ⟨_, rfl⟩ (.cons ⟨_, rfl⟩ (.cons ⟨_, rfl⟩ (.cons ⟨_, rfl⟩ (.nil))))))))⟩
  }
  exact (okf_law T F).imp fun vs H Q E h => spLaw_D (Γ := ⟨l.prog, w, K, mg, base⟩) h
theorem walk {l : PySem.W.OpenLaw} {q : Program} {loose : List Str} {XP : (Str → Option Value) → Heap → Prop} {YP : PySem.World → Heap → Prop} {d : DefRec} {K : Params → PySem.W.Frag} (hn : l.most = some 63) (hdf : d.params.defaults = [])
    (hY : ∀ (w : PySem.World) (h : Heap), YP w h → (K w.params).In h)
    (F : ∀ (w : PySem.World) (mg : Str → Option Value) (fa : Addr) (h : Heap), (K w.params).In h → h.Ns mainGlobals mg → mg d.name = some (.ref fa) →
      ∃ fd : FuncData, (∀ (s : Shared) (u : Value), BindsTo s fd ⟨[u], []⟩ [("script", u)]) ∧ ∀ base : Heap, (K w.params).In base → base.Ns mainGlobals mg → FnOk l.prog w (K w.params) mg base CX0 19 fa fd ["script"] (spLaw (K w.params))) :
    PySem.W.WalkO q loose XP YP l.row.toRowW d [] (fun f vs => PySem.call f vs) :=
  L2.walk_of (n := 63) (k := 19) (x := "script") (CX := fun _ => CX0) (sp := fun w => spLaw (K w.params)) hn (by decide) hdf ⟨rfl, by decide, by decide⟩ hY F (fun _ _ a ns hl _ hS => ⟨a, ns, rfl, hS, hl, fun _ => rfl⟩) fun _ _ _ _ _ z => z
end K00
open PySem PySem.W PyProof.Rows in
set_option maxRecDepth 100000 in
set_option maxHeartbeats 0 in
theorem PySem.Challenge.cw_sevenpedals_k00_lots_turned_upside_down_holds : PySem.Challenge.rw_sevenpedals_k00_lots_turned_upside_down.Holds := by
  w_on; o_law; k_head; (case hw => w_witness2)
  k_fill
  refine K00.walk (l := PySem.Challenge.rw_sevenpedals_k00_lots_turned_upside_down) rfl rfl (fun w h Y => PySem.W.kIn_of Y) ?F
  case F =>
    intro w mg fa h KX G hmg
    refine' K00.all_mk KX G hmg ?a_Matching ?a_is_number ?l_is_number ?c_is_number ?k_is_number ?a_is_index ?l_is_index ?c_is_index ?k_is_index ?a_is_name ?l_is_name ?c_is_name ?k_is_name ?a_is_sized ?l_is_sized ?c_is_sized ?k_is_sized ?a_is_letter ?l_is_letter ?c_is_letter ?k_is_letter ?a_is_tuple_of ?l_is_tuple_of ?c_is_tuple_of ?k_is_tuple_of ?a_is_harp_form ?l_is_harp_form ?c_is_harp_form ?k_is_harp_form ?a_check_number ?l_check_number ?c_check_number ?k_check_number ?a_check_letters ?l_check_letters ?c_check_letters ?k_check_letters ?a_checked_harp ?l_checked_harp ?c_checked_harp ?k_checked_harp ?a_letters_many ?l_letters_many ?c_letters_many ?k_letters_many ?a_bases_of ?l_bases_of ?c_bases_of ?k_bases_of ?a_givers ?l_givers ?c_givers ?k_givers ?a_classes_of ?l_classes_of ?c_classes_of ?k_classes_of ?a_position_for ?l_position_for ?c_position_for ?k_position_for ?a_Matching___init__ ?i_Matching___init__ ?l_Matching___init__ ?c_Matching___init__ ?k_Matching___init__ ?a_Matching_put ?i_Matching_put ?l_Matching_put ?c_Matching_put ?k_Matching_put ?a_Matching_setting ?i_Matching_setting ?l_Matching_setting ?c_Matching_setting ?k_Matching_setting ?a_setting_for ?l_setting_for ?c_setting_for ?k_setting_for ?a_is_had ?l_is_had ?c_is_had ?k_is_had ?a_letters_in ?l_letters_in ?c_letters_in ?k_letters_in ?a_within ?l_within ?c_within ?k_within ?a_arcs ?l_arcs ?c_arcs ?k_arcs ?a_over_full ?l_over_full ?c_over_full ?k_over_full ?a_is_over_full ?l_is_over_full ?c_is_over_full ?k_is_over_full ?a__law_bag ?l__law_bag ?c__law_bag ?k__law_bag ?a__law_take ?l__law_take ?c__law_take ?k__law_take ?a__law_some ?l__law_some ?c__law_some ?k__law_some ?a__law_mixed ?l__law_mixed ?c__law_mixed ?k__law_mixed ?a__law_same ?l__law_same ?c__law_same ?k__law_same ?a__law_names ?l__law_names ?c__law_names ?k__law_names ?a__law_letters ?l__law_letters ?c__law_letters ?k__law_letters ?a__law_harp ?l__law_harp ?c__law_harp ?k__law_harp ?a__law_flip_harp ?l__law_flip_harp ?c__law_flip_harp ?k__law_flip_harp ?a__law_lot ?l__law_lot ?c__law_lot ?k__law_lot ?a__law_givers ?l__law_givers ?c__law_givers ?k__law_givers ?a__law_arcs ?l__law_arcs ?c__law_arcs ?k__law_arcs ?a__law_inside ?l__law_inside ?c__law_inside ?k__law_inside ?a__law_can_give ?l__law_can_give ?c__law_can_give ?k__law_can_give ?a__law_flip_arc ?l__law_flip_arc ?c__law_flip_arc ?k__law_flip_arc ?a__law_is_lot_told ?l__law_is_lot_told ?c__law_is_lot_told ?k__law_is_lot_told ?a_law ?l_law ?c_law ?k_law ?pg_Matching ?hd_Matching ?po_Matching ?sa_Matching ?mk_Matching ?kc_Matching ?n_Matching_harp ?n_Matching_held ?n_Matching_lot ?z_abs ?z_all ?z_bool ?z_dict ?z_enumerate ?z_int ?z_isinstance ?z_len ?z_list ?z_max ?z_range ?z_set ?z_sorted ?z_str ?z_tuple ?z_zip ?a_LETTERS ?a_MOST_FINGERS ?a_MOST_LETTERS_forms ?a_MOST_LETTERS_harps ?a_MOST_REACH ?a_MOST_ROUND ?a_MOST_STRINGS ?a_POSITIONS ?l_POSITIONS ?a_RESERVED ?l_RESERVED
    (case a_Matching => k_is)
    (case a_is_number => k_is)
    (case l_is_number => k_is)
    (case c_is_number => k_is)
    (case k_is_number => k_is)
    (case a_is_index => k_is)
    (case l_is_index => k_is)
    (case c_is_index => k_is)
    (case k_is_index => k_is)
    (case a_is_name => k_is)
    (case l_is_name => k_is)
    (case c_is_name => k_is)
    (case k_is_name => k_is)
    (case a_is_sized => k_is)
    (case l_is_sized => k_is)
    (case c_is_sized => k_is)
    (case k_is_sized => k_is)
    (case a_is_letter => k_is)
    (case l_is_letter => k_is)
    (case c_is_letter => k_is)
    (case k_is_letter => k_is)
    (case a_is_tuple_of => k_is)
    (case l_is_tuple_of => k_is)
    (case c_is_tuple_of => k_is)
    (case k_is_tuple_of => k_is)
    (case a_is_harp_form => k_is)
    (case l_is_harp_form => k_is)
    (case c_is_harp_form => k_is)
    (case k_is_harp_form => k_is)
    (case a_check_number => k_is)
    (case l_check_number => k_is)
    (case c_check_number => k_is)
    (case k_check_number => k_is)
    (case a_check_letters => k_is)
    (case l_check_letters => k_is)
    (case c_check_letters => k_is)
    (case k_check_letters => k_is)
    (case a_checked_harp => k_is)
    (case l_checked_harp => k_is)
    (case c_checked_harp => k_is)
    (case k_checked_harp => k_is)
    (case a_letters_many => k_is)
    (case l_letters_many => k_is)
    (case c_letters_many => k_is)
    (case k_letters_many => k_is)
    (case a_bases_of => k_is)
    (case l_bases_of => k_is)
    (case c_bases_of => k_is)
    (case k_bases_of => k_is)
    (case a_givers => k_is)
    (case l_givers => k_is)
    (case c_givers => k_is)
    (case k_givers => k_is)
    (case a_classes_of => k_is)
    (case l_classes_of => k_is)
    (case c_classes_of => k_is)
    (case k_classes_of => k_is)
    (case a_position_for => k_is)
    (case l_position_for => k_is)
    (case c_position_for => k_is)
    (case k_position_for => k_is)
    (case a_Matching___init__ => k_is)
    (case i_Matching___init__ => k_is)
    (case l_Matching___init__ => k_is)
    (case c_Matching___init__ => k_is)
    (case k_Matching___init__ => k_is)
    (case a_Matching_put => k_is)
    (case i_Matching_put => k_is)
    (case l_Matching_put => k_is)
    (case c_Matching_put => k_is)
    (case k_Matching_put => k_is)
    (case a_Matching_setting => k_is)
    (case i_Matching_setting => k_is)
    (case l_Matching_setting => k_is)
    (case c_Matching_setting => k_is)
    (case k_Matching_setting => k_is)
    (case a_setting_for => k_is)
    (case l_setting_for => k_is)
    (case c_setting_for => k_is)
    (case k_setting_for => k_is)
    (case a_is_had => k_is)
    (case l_is_had => k_is)
    (case c_is_had => k_is)
    (case k_is_had => k_is)
    (case a_letters_in => k_is)
    (case l_letters_in => k_is)
    (case c_letters_in => k_is)
    (case k_letters_in => k_is)
    (case a_within => k_is)
    (case l_within => k_is)
    (case c_within => k_is)
    (case k_within => k_is)
    (case a_arcs => k_is)
    (case l_arcs => k_is)
    (case c_arcs => k_is)
    (case k_arcs => k_is)
    (case a_over_full => k_is)
    (case l_over_full => k_is)
    (case c_over_full => k_is)
    (case k_over_full => k_is)
    (case a_is_over_full => k_is)
    (case l_is_over_full => k_is)
    (case c_is_over_full => k_is)
    (case k_is_over_full => k_is)
    (case a__law_bag => k_is)
    (case l__law_bag => k_is)
    (case c__law_bag => k_is)
    (case k__law_bag => k_is)
    (case a__law_take => k_is)
    (case l__law_take => k_is)
    (case c__law_take => k_is)
    (case k__law_take => k_is)
    (case a__law_some => k_is)
    (case l__law_some => k_is)
    (case c__law_some => k_is)
    (case k__law_some => k_is)
    (case a__law_mixed => k_is)
    (case l__law_mixed => k_is)
    (case c__law_mixed => k_is)
    (case k__law_mixed => k_is)
    (case a__law_same => k_is)
    (case l__law_same => k_is)
    (case c__law_same => k_is)
    (case k__law_same => k_is)
    (case a__law_names => k_is)
    (case l__law_names => k_is)
    (case c__law_names => k_is)
    (case k__law_names => k_is)
    (case a__law_letters => k_is)
    (case l__law_letters => k_is)
    (case c__law_letters => k_is)
    (case k__law_letters => k_is)
    (case a__law_harp => k_is)
    (case l__law_harp => k_is)
    (case c__law_harp => k_is)
    (case k__law_harp => k_is)
    (case a__law_flip_harp => k_is)
    (case l__law_flip_harp => k_is)
    (case c__law_flip_harp => k_is)
    (case k__law_flip_harp => k_is)
    (case a__law_lot => k_is)
    (case l__law_lot => k_is)
    (case c__law_lot => k_is)
    (case k__law_lot => k_is)
    (case a__law_givers => k_is)
    (case l__law_givers => k_is)
    (case c__law_givers => k_is)
    (case k__law_givers => k_is)
    (case a__law_arcs => k_is)
    (case l__law_arcs => k_is)
    (case c__law_arcs => k_is)
    (case k__law_arcs => k_is)
    (case a__law_inside => k_is)
    (case l__law_inside => k_is)
    (case c__law_inside => k_is)
    (case k__law_inside => k_is)
    (case a__law_can_give => k_is)
    (case l__law_can_give => k_is)
    (case c__law_can_give => k_is)
    (case k__law_can_give => k_is)
    (case a__law_flip_arc => k_is)
    (case l__law_flip_arc => k_is)
    (case c__law_flip_arc => k_is)
    (case k__law_flip_arc => k_is)
    (case a__law_is_lot_told => k_is)
    (case l__law_is_lot_told => k_is)
    (case c__law_is_lot_told => k_is)
    (case k__law_is_lot_told => k_is)
    (case a_law => k_is)
    (case l_law => k_is)
    (case c_law => k_is)
    (case k_law => k_is)
    (case pg_Matching => k_is)
    (case hd_Matching => k_is)
    (case po_Matching => k_is)
    (case sa_Matching => k_is)
    (case mk_Matching => k_is)
    (case kc_Matching => k_is)
    (case n_Matching_harp => k_is)
    (case n_Matching_held => k_is)
    (case n_Matching_lot => k_is)
    (case z_abs => k_is)
    (case z_all => k_is)
    (case z_bool => k_is)
    (case z_dict => k_is)
    (case z_enumerate => k_is)
    (case z_int => k_is)
    (case z_isinstance => k_is)
    (case z_len => k_is)
    (case z_list => k_is)
    (case z_max => k_is)
    (case z_range => k_is)
    (case z_set => k_is)
    (case z_sorted => k_is)
    (case z_str => k_is)
    (case z_tuple => k_is)
    (case z_zip => k_is)
    (case a_LETTERS => k_is)
    (case a_MOST_FINGERS => k_is)
    (case a_MOST_LETTERS_forms => k_is)
    (case a_MOST_LETTERS_harps => k_is)
    (case a_MOST_REACH => k_is)
    (case a_MOST_ROUND => k_is)
    (case a_MOST_STRINGS => k_is)
    (case a_POSITIONS => k_is)
    (case l_POSITIONS => k_is)
    (case a_RESERVED => k_is)
    (case l_RESERVED => k_is)
