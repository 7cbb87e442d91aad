import PyProof.Rows.All
import Wide.All
import OpenK.AllK
import Wide.FinOn
import HandS.ForMost
import HandS.Exc
import HandS.ExcOwn
import HandS.WordsExc
import HandS.Walk
import HandS.Zip
import HandS.IsInst
import KE.KeyNested
import KE.KDictKeyed
import KE.KDictWalk
import HandS.TupAny
import HandS.TupMul
import HandS.Style
import HandS.Deep
import HandS.SetFor
import KE.GoesEnum
import KE.GoesMore
import HandS.SortInts
import HandS.Strs
import HandS.Replace
import KE.DataMinMax
import KE.SortData
import HandS.Conv
import KE.KRevSl
import HandS.Dict
import HandS.More
import KE.KDictDisplayH
import HandS.DictComp
import KE.KDictPairs
import HandS.TupSets
import PyProof.Transfer
import PySem.Challenge.RW_toyrails_k97_whole_spots_and_loops
set_option Elab.async false
set_option linter.all false
set_option maxRecDepth 100000
set_option maxHeartbeats 4000000
/-! PyA: values by themselves (Vl), what stands for them in the tracked heap (Rep), states of a def's names (PEnv, EI), what an expression gives (tE). -/
namespace PyA
open PySem L2
/-! ### results -/
inductive R (α : Type) where
  | ok (a : α)
  | ex (n : Str)
  | bad
abbrev M (C α : Type) := C → R (α × C)
def ret {C α : Type} (a : α) : M C α := fun c => .ok (a, c)
def bnd {C α β : Type} (m : M C α) (k : α → M C β) : M C β := fun c => match m c with
  | .ok p => k p.1 p.2
  | .ex n => .ex n
  | .bad => .bad
/-- of an answer that may lack -/
def opt {C α : Type} (o : Option α) : M C α := fun c => match o with
  | some a => .ok (a, c)
  | none => .bad
def bad {C α : Type} : M C α := fun _ => .bad
/-- a plain answer within a state -/
def lif {C α : Type} (m : M Unit α) : M C α := fun c => match m () with
  | .ok p => .ok (p.1, c)
  | .ex n => .ex n
  | .bad => .bad
/-! ### values -/
/-! keys that are tuples, of tuples, ints and None (no texts: their hash is the world's own) -/
mutual
def nhash : NestedKey → Int
  | .none => reduceHash 0xFCA86420
  | .num i => hashInt i
  | .text _ => 0
  | .tup ks => reduceHash (Builtin.Tuple.tupleHashOf (nhashes ks))
def nhashes : List NestedKey → List Int
  | [] => []
  | k :: ks => nhash k :: nhashes ks
end
mutual
def noTx : NestedKey → Bool
  | .none => true
  | .num _ => true
  | .text _ => false
  | .tup ks => noTxs ks
def noTxs : List NestedKey → Bool
  | [] => true
  | k :: ks => noTx k && noTxs ks
end
def goodK (k : NestedKey) : Bool := noTx k && decide (k.depth ≤ 8)
mutual
theorem nhash_eq (w : World) : ∀ k : NestedKey, noTx k = true → k.hash w = nhash k
  | .none, _ => rfl
  | .num _, _ => rfl
  | .text _, h => by cases h
  | .tup ks, h => by
    unfold NestedKey.hash nhash
    rw [nhashes_eq w ks (by unfold noTx at h; exact h)]
theorem nhashes_eq (w : World) : ∀ ks : List NestedKey, noTxs ks = true → NestedKey.hashes w ks = nhashes ks
  | [], _ => rfl
  | k :: ks, h => by
    unfold noTxs at h
    rw [Bool.and_eq_true] at h
    unfold NestedKey.hashes nhashes
    rw [nhash_eq w k h.1, nhashes_eq w ks h.2]
end
mutual
/-- a key, as it stands -/
def NKV (K : PySem.W.Frag) (H : Hp) : NestedKey → V → Prop
  | .none, v => v = .non
  | .num i, v => v = .int i
  | .text _, _ => False
  | .tup ks, v => ∃ p vs, v = .ref p ∧ SqT K H p vs ∧ NKVs K H ks vs
def NKVs (K : PySem.W.Frag) (H : Hp) : List NestedKey → List V → Prop
  | [], vs => vs = []
  | k :: ks, vs => ∃ v r, vs = v :: r ∧ NKV K H k v ∧ NKVs K H ks r
end
/-- a dict with such keys at p: its one object -/
def NkO (p : Addr) (kvs : List (NestedKey × Addr × V)) : HO := .ext fun h => ∃ (xs : List (NestedKey × Addr × Value)) (o : Obj) (es : Array DictEntry) (ep : Nat),
  Paired (fun (a : NestedKey × Addr × V) (b : NestedKey × Addr × Value) => a.1 = b.1 ∧ a.2.1 = b.2.1 ∧ RelV a.2.2 b.2.2) kvs xs ∧ h.get? p = some o ∧ o.ExactDict ∧ o.data = .dict es ep ∧
  es.toList = xs.map (fun x => (⟨nhash x.1, .ref x.2.1, x.2.2⟩ : DictEntry)) ∧ (kvs.map (·.1)).Nodup ∧ (p == sysModules) = false
/-- a dict's keys: ints and texts, or tuples -/
inductive DKeys where
  | k (ks : List Key)
  | t (ks : List NestedKey)
inductive DKV where
  | k (kvs : List (Key × V))
  | t (p : Addr) (kvs : List (NestedKey × Addr × V))
def DKV.ob : DKV → HO
  | .k kvs => .dK kvs
  | .t p kvs => NkO p kvs
def DKV.keys : DKV → DKeys
  | .k kvs => .k (kvs.map (·.1))
  | .t _ kvs => .t (kvs.map (·.1))
def DKV.vals : DKV → List V
  | .k kvs => kvs.map (·.2)
  | .t _ kvs => kvs.map (·.2.2)
def DKV.len (d : DKV) : Nat := d.vals.length
/-- the keys' tuples stand -/
def DKV.fine (K : PySem.W.Frag) (H : Hp) (p : Addr) : DKV → Prop
  | .k _ => True
  | .t q kvs => q = p ∧ ∀ x ∈ kvs, NKV K H x.1 (.ref x.2.1) ∧ goodK x.1 = true
def DKeys.isEmpty : DKeys → Bool
  | .k ks => ks.isEmpty
  | .t ks => ks.isEmpty
inductive Vl where
  | non
  | bl (b : Bool)
  | int (i : Int)
  | str (z : List Nat)
  | tup (xs : List Vl)
  | lst (xs : List Vl)
  | dk (ks : DKeys) (xs : List Vl)
  | reg (n : Nat)
mutual
def imm : Vl → Bool
  | .non => true
  | .bl _ => true
  | .int _ => true
  | .str _ => true
  | .tup xs => imms xs
  | .lst _ => false
  | .dk _ _ => false
  | .reg _ => false
def imms : List Vl → Bool
  | [] => true
  | x :: r => imm x && imms r
end
abbrev Tk := Nat → V → Prop
mutual
def Rep (K : PySem.W.Frag) (T : Tk) (A : Addr → Prop) (H : Hp) : Vl → V → Prop
  | .non, v => v = .non
  | .bl b, v => v = .bl b
  | .int i, v => v = .int i
  | .str z, v => v = .str ⟨z.toArray⟩
  | .tup xs, v => ∃ p vs, v = .ref p ∧ SqT K H p vs ∧ vs.length ≤ sizeLine ∧ Reps K T A H xs vs
  | .lst xs, v => ∃ p vs, v = .ref p ∧ A p ∧ H p = some (.lst vs) ∧ vs.length ≤ sizeLine ∧ Reps K T A H xs vs
  | .dk ks xs, v => ∃ (p : Addr) (kvs : DKV), v = .ref p ∧ A p ∧ H p = some kvs.ob ∧ kvs.len ≤ sizeLine ∧ (kvs.keys = ks ∧ kvs.fine K H p) ∧ Reps K T A H xs kvs.vals
  | .reg n, v => T n v
def Reps (K : PySem.W.Frag) (T : Tk) (A : Addr → Prop) (H : Hp) : List Vl → List V → Prop
  | [], vs => vs = []
  | x :: xs, vs => ∃ v r, vs = v :: r ∧ Rep K T A H x v ∧ Reps K T A H xs r
end
/-- the outermost may stand anywhere -/
def RepI (K : PySem.W.Frag) (T : Tk) (B A : Addr → Prop) (H : Hp) : Vl → V → Prop
  | .lst xs, v => ∃ p vs, v = .ref p ∧ B p ∧ H p = some (.lst vs) ∧ vs.length ≤ sizeLine ∧ Reps K T A H xs vs
  | .dk ks xs, v => ∃ (p : Addr) (kvs : DKV), v = .ref p ∧ B p ∧ H p = some kvs.ob ∧ kvs.len ≤ sizeLine ∧ (kvs.keys = ks ∧ kvs.fine K H p) ∧ Reps K T A H xs kvs.vals
  | x, v => Rep K T A H x v
/-- a list or a dict that is new since H -/
def RepN (K : PySem.W.Frag) (T : Tk) (A : Addr → Prop) (H H' : Hp) : Vl → V → Prop
  | .lst xs, v => ∃ p vs, v = .ref p ∧ H p = none ∧ H' p = some (.lst vs) ∧ vs.length ≤ sizeLine ∧ Reps K T (fun a => A a ∧ a ≠ p) H' xs vs
  | .dk ks xs, v => ∃ (p : Addr) (kvs : DKV), v = .ref p ∧ H p = none ∧ H' p = some kvs.ob ∧ kvs.len ≤ sizeLine ∧ (kvs.keys = ks ∧ kvs.fine K H' p) ∧ Reps K T (fun a => A a ∧ a ≠ p) H' xs kvs.vals
  | _, _ => False
section
variable {K : PySem.W.Frag} {T : Tk} {A A' : Addr → Prop} {H H' : Hp}
theorem sqT_move {p : Addr} {vs : List V} (k : ∀ a u, H a = some u → ¬ Mut (some u) → H' a = some u) (h : SqT K H p vs) : SqT K H' p vs := by
  rcases h with (h | ⟨o, h⟩) | h
  · exact .inl (.inl (k _ _ h fun z => z))
  · exact .inl (.inr ⟨o, k _ _ h fun z => z⟩)
  · exact .inr h
mutual
theorem NKV.move (k : ∀ a u, H a = some u → ¬ Mut (some u) → H' a = some u) : ∀ (x : NestedKey) (v : V), NKV K H x v → NKV K H' x v
  | .none, _, h => by unfold NKV at h ⊢; exact h
  | .num _, _, h => by unfold NKV at h ⊢; exact h
  | .text _, _, h => by unfold NKV at h; exact h.elim
  | .tup ks, v, h => by
    unfold NKV at h ⊢
    obtain ⟨p, vs, e, q, r⟩ := h
    exact ⟨p, vs, e, sqT_move k q, NKVs.move k ks vs r⟩
theorem NKVs.move (k : ∀ a u, H a = some u → ¬ Mut (some u) → H' a = some u) : ∀ (xs : List NestedKey) (vs : List V), NKVs K H xs vs → NKVs K H' xs vs
  | [], _, h => by unfold NKVs at h ⊢; exact h
  | x :: xs, vs, h => by
    unfold NKVs at h ⊢
    obtain ⟨v, r, e, h1, h2⟩ := h
    exact ⟨v, r, e, NKV.move k x v h1, NKVs.move k xs r h2⟩
end
theorem DKV.fine.move {p : Addr} {d : DKV} (h : d.fine K H p) (k : ∀ a u, H a = some u → ¬ Mut (some u) → H' a = some u) : d.fine K H' p := by
  cases d with
  | k kvs => trivial
  | t q kvs => exact ⟨h.1, fun x hx => ⟨NKV.move k _ _ (h.2 x hx).1, (h.2 x hx).2⟩⟩
theorem fine_m {p : Addr} {d : DKV} {P : Prop} (h : P ∧ d.fine K H p) (k : ∀ a u, H a = some u → ¬ Mut (some u) → H' a = some u) : P ∧ d.fine K H' p := ⟨h.1, h.2.move k⟩
mutual
theorem Rep.move (k : ∀ a u, H a = some u → (Mut (some u) → A a) → H' a = some u) (ka : ∀ a u, H a = some u → A a → A' a) : ∀ (x : Vl) (v : V), Rep K T A H x v → Rep K T A' H' x v
  | .non, _, h => by unfold Rep at h ⊢; exact h
  | .bl _, _, h => by unfold Rep at h ⊢; exact h
  | .int _, _, h => by unfold Rep at h ⊢; exact h
  | .str _, _, h => by unfold Rep at h ⊢; exact h
  | .reg _, _, h => by unfold Rep at h ⊢; exact h
  | .tup xs, v, h => by
    unfold Rep at h ⊢
    obtain ⟨p, vs, e, q, l, r⟩ := h
    exact ⟨p, vs, e, sqT_move (fun a u e n => k a u e fun z => absurd z n) q, l, Reps.move k ka xs vs r⟩
  | .lst xs, v, h => by
    unfold Rep at h ⊢
    obtain ⟨p, vs, e, a, q, l, r⟩ := h
    exact ⟨p, vs, e, ka _ _ q a, k _ _ q fun _ => a, l, Reps.move k ka xs vs r⟩
  | .dk ks xs, v, h => by
    unfold Rep at h ⊢
    obtain ⟨p, kvs, e, a, q, l, m, r⟩ := h
    exact ⟨p, kvs, e, ka _ _ q a, k _ _ q fun _ => a, l, fine_m m fun a u e n => k a u e fun z => absurd z n, Reps.move k ka xs _ r⟩
theorem Reps.move (k : ∀ a u, H a = some u → (Mut (some u) → A a) → H' a = some u) (ka : ∀ a u, H a = some u → A a → A' a) : ∀ (xs : List Vl) (vs : List V), Reps K T A H xs vs → Reps K T A' H' xs vs
  | [], _, h => by unfold Reps at h ⊢; exact h
  | x :: xs, vs, h => by
    unfold Reps at h ⊢
    obtain ⟨v, r, e, h1, h2⟩ := h
    exact ⟨v, r, e, Rep.move k ka x v h1, Reps.move k ka xs r h2⟩
end
theorem Reps.cons {x : Vl} {xs : List Vl} {v : V} {vs : List V} (h : Rep K T A H x v) (r : Reps K T A H xs vs) : Reps K T A H (x :: xs) (v :: vs) := by
  unfold Reps
  exact ⟨v, vs, rfl, h, r⟩
theorem Reps.nil : Reps K T A H [] [] := by
  unfold Reps
  rfl
theorem Reps.len : ∀ {xs : List Vl} {vs : List V}, Reps K T A H xs vs → vs.length = xs.length
  | [], _, h => by unfold Reps at h; rw [h]; rfl
  | x :: xs, vs, h => by
    unfold Reps at h
    obtain ⟨v, r, rfl, _, h2⟩ := h
    show r.length + 1 = xs.length + 1
    rw [Reps.len h2]
theorem Reps.get : ∀ {xs : List Vl} {vs : List V} {i : Nat} {x : Vl}, Reps K T A H xs vs → xs[i]? = some x → ∃ v, vs[i]? = some v ∧ Rep K T A H x v
  | [], _, _, _, _, e => by simp at e
  | y :: xs, vs, 0, x, h, e => by
    unfold Reps at h
    obtain ⟨v, r, rfl, h1, h2⟩ := h
    have e' : y = x := Option.some.inj e
    subst e'
    exact ⟨v, rfl, h1⟩
  | y :: xs, vs, i + 1, x, h, e => by
    unfold Reps at h
    obtain ⟨v, r, rfl, h1, h2⟩ := h
    exact Reps.get (i := i) h2 e
theorem Reps.of_get : ∀ {xs : List Vl} {vs : List V}, vs.length = xs.length → (∀ (i : Nat) (x : Vl) (v : V), xs[i]? = some x → vs[i]? = some v → Rep K T A H x v) → Reps K T A H xs vs
  | [], [], _, _ => Reps.nil
  | x :: xs, v :: vs, l, h => Reps.cons (h 0 x v rfl rfl) (Reps.of_get (Nat.succ.inj l) fun i => h (i + 1))
theorem Reps.append : ∀ {xs ys : List Vl} {vs ws : List V}, Reps K T A H xs vs → Reps K T A H ys ws → Reps K T A H (xs ++ ys) (vs ++ ws)
  | [], _, _, _, h, h2 => by unfold Reps at h; subst h; exact h2
  | x :: xs, ys, vs, ws, h, h2 => by
    unfold Reps at h
    obtain ⟨v, r, rfl, h1, h3⟩ := h
    exact Reps.cons h1 (Reps.append h3 h2)
theorem Reps.take : ∀ {xs : List Vl} {vs : List V} (n : Nat), Reps K T A H xs vs → Reps K T A H (xs.take n) (vs.take n)
  | _, _, 0, _ => Reps.nil
  | [], _, n + 1, h => by unfold Reps at h; subst h; exact Reps.nil
  | x :: xs, _, n + 1, h => by
    unfold Reps at h
    obtain ⟨v, r, rfl, h1, h3⟩ := h
    exact Reps.cons h1 (Reps.take n h3)
theorem Reps.drop : ∀ {xs : List Vl} {vs : List V} (n : Nat), Reps K T A H xs vs → Reps K T A H (xs.drop n) (vs.drop n)
  | _, _, 0, h => h
  | [], _, n + 1, h => by unfold Reps at h; subst h; exact Reps.nil
  | x :: xs, _, n + 1, h => by
    unfold Reps at h
    obtain ⟨v, r, rfl, h1, h3⟩ := h
    exact Reps.drop n h3
theorem Reps.set {x : Vl} {v : V} (hx : Rep K T A H x v) : ∀ {xs : List Vl} {vs : List V} (n : Nat), Reps K T A H xs vs → Reps K T A H (xs.set n x) (vs.set n v)
  | [], _, n, h => by unfold Reps at h; subst h; exact Reps.nil
  | y :: xs, _, 0, h => by
    unfold Reps at h
    obtain ⟨w, r, rfl, h1, h3⟩ := h
    exact Reps.cons hx h3
  | y :: xs, _, n + 1, h => by
    unfold Reps at h
    obtain ⟨w, r, rfl, h1, h3⟩ := h
    exact Reps.cons h1 (Reps.set hx n h3)
theorem Reps.reverse : ∀ {xs : List Vl} {vs : List V}, Reps K T A H xs vs → Reps K T A H xs.reverse vs.reverse
  | [], _, h => by unfold Reps at h; subst h; exact Reps.nil
  | y :: xs, _, h => by
    unfold Reps at h
    obtain ⟨w, r, rfl, h1, h3⟩ := h
    rw [List.reverse_cons, List.reverse_cons]
    exact Reps.append (Reps.reverse h3) (Reps.cons h1 Reps.nil)
mutual
theorem Rep.imm : ∀ (x : Vl) (v : V), PyA.imm x = true → Rep K T A H x v → Rep K T A' H x v
  | .non, _, _, h => by unfold Rep at h ⊢; exact h
  | .bl _, _, _, h => by unfold Rep at h ⊢; exact h
  | .int _, _, _, h => by unfold Rep at h ⊢; exact h
  | .str _, _, _, h => by unfold Rep at h ⊢; exact h
  | .reg _, _, i, _ => by unfold PyA.imm at i; cases i
  | .tup xs, v, i, h => by
    unfold Rep at h ⊢
    unfold PyA.imm at i
    obtain ⟨p, vs, e, q, l, r⟩ := h
    exact ⟨p, vs, e, q, l, Reps.imm xs vs i r⟩
  | .lst xs, v, i, h => by unfold PyA.imm at i; cases i
  | .dk _ xs, v, i, h => by unfold PyA.imm at i; cases i
theorem Reps.imm : ∀ (xs : List Vl) (vs : List V), imms xs = true → Reps K T A H xs vs → Reps K T A' H xs vs
  | [], _, _, h => by unfold Reps at h ⊢; exact h
  | x :: xs, vs, i, h => by
    unfold Reps at h ⊢
    unfold imms at i
    rw [Bool.and_eq_true] at i
    obtain ⟨v, r, e, h1, h2⟩ := h
    exact ⟨v, r, e, Rep.imm x v i.1 h1, Reps.imm xs r i.2 h2⟩
end
theorem Rep.toI {B : Addr → Prop} (ka : ∀ a, A a → B a) : ∀ {x : Vl} {v : V}, Rep K T A H x v → RepI K T B A H x v
  | .non, _, h => by unfold RepI; exact h
  | .bl _, _, h => by unfold RepI; exact h
  | .int _, _, h => by unfold RepI; exact h
  | .str _, _, h => by unfold RepI; exact h
  | .reg _, _, h => by unfold RepI; exact h
  | .tup xs, v, h => by unfold RepI; exact h
  | .lst xs, v, h => by
    unfold Rep at h
    unfold RepI
    obtain ⟨p, vs, e, a, q⟩ := h
    exact ⟨p, vs, e, ka _ a, q⟩
  | .dk _ xs, v, h => by
    unfold Rep at h
    unfold RepI
    obtain ⟨p, vs, e, a, q⟩ := h
    exact ⟨p, vs, e, ka _ a, q⟩
theorem RepI.move {B B' : Addr → Prop} {x : Vl} {v : V} (k : ∀ a u, H a = some u → (Mut (some u) → A a ∨ B a) → H' a = some u) (kb : ∀ a, B a → B' a) (ka : ∀ a u, H a = some u → A a → A' a) (h : RepI K T B A H x v) : RepI K T B' A' H' x v := by
  cases x with
  | lst xs =>
    unfold RepI at h ⊢
    obtain ⟨p, vs, e, b, q, l, r⟩ := h
    exact ⟨p, vs, e, kb _ b, k _ _ q fun _ => .inr b, l, r.move (fun a u e m => k a u e fun z => .inl (m z)) ka⟩
  | dk ks xs =>
    unfold RepI at h ⊢
    obtain ⟨p, vs, e, b, q, l, m, r⟩ := h
    exact ⟨p, vs, e, kb _ b, k _ _ q fun _ => .inr b, l, fine_m m fun a u e n => k a u e fun z => absurd z n, r.move (fun a u e m => k a u e fun z => .inl (m z)) ka⟩
  | _ => exact Rep.move (fun a u e m => k a u e fun z => .inl (m z)) ka _ _ h
theorem RepN.toRep {H0 : Hp} {x : Vl} {v : V} (ka : ∀ a, H0 a = none → A' a) (kb : ∀ a, A a → A' a) (h : RepN K T A H0 H x v) : Rep K T A' H x v := by
  cases x with
  | lst xs =>
    unfold RepN at h
    unfold Rep
    obtain ⟨p, vs, e, n, q, l, r⟩ := h
    exact ⟨p, vs, e, ka _ n, q, l, r.move (fun a u e _ => e) fun a _ _ z => kb a z.1⟩
  | dk ks xs =>
    unfold RepN at h
    unfold Rep
    obtain ⟨p, vs, e, n, q, l, m, r⟩ := h
    exact ⟨p, vs, e, ka _ n, q, l, m, r.move (fun a u e _ => e) fun a _ _ z => kb a z.1⟩
  | _ => exact (show False from h).elim
end
/-! ### the state that goes on (the register), a def's frame -/
structure Rg (C : Type) where
  T : Tk
  rg : Addr → Prop
  held : C → Hp → Prop
  hmut : ∀ c H a, held c H → rg a → Mut (H a)
  hloc : ∀ c H H', held c H → (∀ a, rg a → H' a = H a) → held c H'
structure Fx (C : Type) where
  K : PySem.W.Frag
  r : Rg C
  own : Nat → Bool
  A : Addr → Prop
  H0 : Hp
  mg : Str → Option Value
  EX : XK
/-- the class that a name of the module stands for -/
def clsOf (mg : Str → Option Value) (n : Str) : Value := (mg n).getD .none
abbrev PEnv := List (Option Vl)
def Kp (rg : Addr → Prop) (H H' : Hp) : Prop := ∀ a u, H a = some u → ¬ rg a → H' a = some u
theorem Kp.refl {rg : Addr → Prop} {H : Hp} : Kp rg H H := fun _ _ h _ => h
theorem Kp.trans {rg : Addr → Prop} {H H1 H2 : Hp} (a : Kp rg H H1) (b : Kp rg H1 H2) : Kp rg H H2 := fun x u h n => b x u (a x u h n) n
theorem Kp.of {rg : Addr → Prop} {H H' : Hp} (s : Same H H') : Kp rg H H' := fun a u h _ => s a u h
section
variable {C : Type} (g : Fx C)
def Own (ρ : PEnv) (σ : St) (a : Addr) : Prop := ∃ i x, g.own i = true ∧ ρ[i]? = some (some x) ∧ σ[i]? = some (some (.ref a))
def Bd (a : Addr) : Prop := (g.A a ∨ g.H0 a = none) ∧ ¬ g.r.rg a
def Ad (ρ : PEnv) (σ : St) (a : Addr) : Prop := Bd g a ∧ ¬ Own g ρ σ a
def OwnAt (ρ : PEnv) (σ : St) (H : Hp) : Vl → V → Prop
  | .lst xs, v => ∃ p vs, v = .ref p ∧ g.H0 p = none ∧ ¬ g.r.rg p ∧ H p = some (.lst vs) ∧ vs.length ≤ sizeLine ∧ Reps g.K g.r.T (Ad g ρ σ) H xs vs
  | .dk ks xs, v => ∃ (p : Addr) (kvs : DKV), v = .ref p ∧ g.H0 p = none ∧ ¬ g.r.rg p ∧ H p = some kvs.ob ∧ kvs.len ≤ sizeLine ∧ (kvs.keys = ks ∧ kvs.fine g.K H p) ∧ Reps g.K g.r.T (Ad g ρ σ) H xs kvs.vals
  | _, _ => False
structure EI (ρ : PEnv) (σ : St) (H : Hp) : Prop where
  len : ρ.length = σ.length
  keep : Kp g.r.rg g.H0 H
  slot : ∀ i x, ρ[i]? = some (some x) → ∃ v, σ[i]? = some (some v) ∧ if g.own i = true then OwnAt g ρ σ H x v else Rep g.K g.r.T (Ad g ρ σ) H x v
  dist : ∀ i j x y p, g.own i = true → g.own j = true → ρ[i]? = some (some x) → ρ[j]? = some (some y) → σ[i]? = some (some (.ref p)) → σ[j]? = some (some (.ref p)) → i = j
def GoX {α : Type} (H : Hp) (m : R (α × C)) (Φ : α → C → Hp → Prop) : Prop := match m with
  | .ok p => ∀ H', Kp g.r.rg H H' → g.r.held p.2 H' → Φ p.1 p.2 H'
  | .ex n => ∀ H', Kp g.r.rg H H' → g.EX (clsOf g.mg n) none H'
  | .bad => False
/-- how a value is handed on: to be kept (true), or to be looked at (false) -/
def RepB (b : Bool) (ρ : PEnv) (σ : St) (H : Hp) (x : Vl) (v : V) : Prop := if b = true then Rep g.K g.r.T (Ad g ρ σ) H x v else RepI g.K g.r.T (Bd g) (Ad g ρ σ) H x v
/-- an expression gives what f gives -/
def tE (b : Bool) (f : PEnv → M C Vl) : TE := fun σ H Q => ∃ ρ c, EI g ρ σ H ∧ g.r.held c H ∧ GoX g H (f ρ c) fun x _ H' => ∀ v, RepB g b ρ σ H' x v → Q v H'
/-- .. a new list or dict -/
def tN (f : PEnv → M C Vl) : TE := fun σ H Q => ∃ ρ c, EI g ρ σ H ∧ g.r.held c H ∧ GoX g H (f ρ c) fun x _ H' => ∀ v, RepN g.K g.r.T (Ad g ρ σ) H H' x v → Q v H'
/-- a test -/
def tT (f : PEnv → M C Bool) : TT := fun σ H Q => ∃ ρ c, EI g ρ σ H ∧ g.r.held c H ∧ GoX g H (f ρ c) fun x _ H' => Q x H'
def RepBs (b : Bool) (ρ : PEnv) (σ : St) (H : Hp) : List Vl → List V → Prop
  | [], vs => vs = []
  | x :: xs, vs => ∃ v r, vs = v :: r ∧ RepB g b ρ σ H x v ∧ RepBs b ρ σ H xs r
/-- arguments, from the left -/
def tA (b : Bool) (f : PEnv → M C (List Vl)) : TA := fun σ H Q => ∃ ρ c, EI g ρ σ H ∧ g.r.held c H ∧ GoX g H (f ρ c) fun xs _ H' => ∀ vs, RepBs g b ρ σ H' xs vs → Q vs H'
end
section
variable {C : Type} {g : Fx C} {ρ : PEnv} {σ : St} {H H' : Hp} {c c' : C}
theorem rg_some (hd : g.r.held c H) {a : Addr} (n : H a = none) : ¬ g.r.rg a := fun z => by
  have := g.r.hmut c H a hd z
  rw [n] at this
  exact this
theorem Ad.keeps (hd : g.r.held c H) (k : Kp g.r.rg H H') : ∀ a u, H a = some u → (Mut (some u) → Ad g ρ σ a) → H' a = some u := fun a u e m => by
  by_cases z : g.r.rg a
  · have q := g.r.hmut c H a hd z
    rw [e] at q
    exact absurd z (m q).1.2
  · exact k a u e z
theorem Rep.kp {x : Vl} {v : V} (hd : g.r.held c H) (k : Kp g.r.rg H H') (h : Rep g.K g.r.T (Ad g ρ σ) H x v) : Rep g.K g.r.T (Ad g ρ σ) H' x v :=
  Rep.move (Ad.keeps hd k) (fun _ _ _ z => z) _ _ h
theorem Reps.kp {x : List Vl} {v : List V} (hd : g.r.held c H) (k : Kp g.r.rg H H') (h : Reps g.K g.r.T (Ad g ρ σ) H x v) : Reps g.K g.r.T (Ad g ρ σ) H' x v :=
  Reps.move (Ad.keeps hd k) (fun _ _ _ z => z) _ _ h
theorem EI.kp (ei : EI g ρ σ H) (hd : g.r.held c H) (k : Kp g.r.rg H H') : EI g ρ σ H' := by
  refine ⟨ei.len, ei.keep.trans k, fun i x e => ?_, ei.dist⟩
  obtain ⟨v, e1, h⟩ := ei.slot i x e
  refine ⟨v, e1, ?_⟩
  by_cases o : g.own i = true
  · rw [if_pos o] at h ⊢
    cases x with
    | lst xs =>
      unfold OwnAt at h ⊢
      obtain ⟨p, vs, e2, n, nr, q, l, r⟩ := h
      exact ⟨p, vs, e2, n, nr, k _ _ q nr, l, r.kp hd k⟩
    | dk ks xs =>
      unfold OwnAt at h ⊢
      obtain ⟨p, vs, e2, n, nr, q, l, m, r⟩ := h
      exact ⟨p, vs, e2, n, nr, k _ _ q nr, l, fine_m m fun a u e nm => k a u e fun z => nm (e ▸ g.r.hmut _ _ _ hd z), r.kp hd k⟩
    | _ => exact h
  · rw [if_neg o] at h ⊢
    exact h.kp hd k
/-- what an own name holds is tracked -/
theorem EI.own_some (ei : EI g ρ σ H) {a : Addr} (h : Own g ρ σ a) : ∃ u, H a = some u ∧ Mut (some u) ∧ g.H0 a = none ∧ ¬ g.r.rg a := by
  obtain ⟨i, x, o, e, e2⟩ := h
  obtain ⟨v, e3, q⟩ := ei.slot i x e
  rw [if_pos o] at q
  rw [e2] at e3
  cases e3
  cases x with
  | lst xs =>
    unfold OwnAt at q
    obtain ⟨p, vs, e4, n, nr, q, l, r⟩ := q
    cases e4
    exact ⟨_, q, trivial, n, nr⟩
  | dk ks xs =>
    unfold OwnAt at q
    obtain ⟨p, vs, e4, n, nr, q, l, r⟩ := q
    cases e4
    exact ⟨_, q, by cases vs <;> trivial, n, nr⟩
  | _ => exact (show False from q).elim
/-- a new place is admissible -/
theorem EI.ad_new (ei : EI g ρ σ H) (hd : g.r.held c H) {a : Addr} (n : H a = none) : Ad g ρ σ a := by
  have nr := rg_some hd n
  refine ⟨⟨.inr ?_, nr⟩, fun z => ?_⟩
  · cases e : g.H0 a with
    | none => rfl
    | some u =>
      have := ei.keep a u e nr
      rw [n] at this
      cases this
  · obtain ⟨u, q, _⟩ := ei.own_some z
    rw [n] at q
    cases q
theorem Kp.none (hd : g.r.held c H') (k : Kp g.r.rg H H') {a : Addr} (n : H' a = none) : H a = none := by
  cases e : H a with
  | none => rfl
  | some u =>
    have := k a u e (rg_some hd n)
    rw [n] at this
    cases this
theorem RepB.kp {b : Bool} {x : Vl} {v : V} (hd : g.r.held c H) (k : Kp g.r.rg H H') (h : RepB g b ρ σ H x v) : RepB g b ρ σ H' x v := by
  unfold RepB at h ⊢
  cases b with
  | true =>
    rw [if_pos rfl] at h ⊢
    exact h.kp hd k
  | false =>
    rw [if_neg Bool.false_ne_true] at h ⊢
    refine h.move (fun a u e m => ?_) (fun _ z => z) fun _ _ _ z => z
    by_cases z : g.r.rg a
    · have q := g.r.hmut c H a hd z
      rw [e] at q
      rcases m q with w | w
      · exact absurd z w.1.2
      · exact absurd z w.2
    · exact k a u e z
theorem RepB.i {b : Bool} {x : Vl} {v : V} (h : RepB g b ρ σ H x v) : RepI g.K g.r.T (Bd g) (Ad g ρ σ) H x v := by
  unfold RepB at h
  cases b with
  | true =>
    rw [if_pos rfl] at h
    exact h.toI fun _ z => z.1
  | false =>
    rw [if_neg Bool.false_ne_true] at h
    exact h
theorem RepB.of {b : Bool} {x : Vl} {v : V} (h : Rep g.K g.r.T (Ad g ρ σ) H x v) : RepB g b ρ σ H x v := by
  unfold RepB
  cases b with
  | true =>
    rw [if_pos rfl]
    exact h
  | false =>
    rw [if_neg Bool.false_ne_true]
    exact h.toI fun _ z => z.1
theorem RepBs.kp {b : Bool} (hd : g.r.held c H) (k : Kp g.r.rg H H') : ∀ {xs : List Vl} {vs : List V}, RepBs g b ρ σ H xs vs → RepBs g b ρ σ H' xs vs
  | [], _, h => by unfold RepBs at h ⊢; exact h
  | x :: xs, _, h => by
    unfold RepBs at h ⊢
    obtain ⟨v, r, e, h1, h2⟩ := h
    exact ⟨v, r, e, h1.kp hd k, RepBs.kp hd k h2⟩
theorem RepBs.toReps : ∀ {xs : List Vl} {vs : List V}, RepBs g true ρ σ H xs vs → Reps g.K g.r.T (Ad g ρ σ) H xs vs
  | [], _, h => by unfold RepBs at h; unfold Reps; exact h
  | x :: xs, _, h => by
    unfold RepBs at h
    unfold Reps
    obtain ⟨v, r, e, h1, h2⟩ := h
    exact ⟨v, r, e, h1, h2.toReps⟩
theorem RepI.toRep {K : PySem.W.Frag} {T : Tk} {A B A' : Addr → Prop} {x : Vl} {v : V} (ka : ∀ a, A a → A' a) (kb : ∀ a, B a → A' a) (h : RepI K T B A H x v) : Rep K T A' H x v := by
  cases x with
  | lst xs =>
    unfold RepI at h
    unfold Rep
    obtain ⟨p, vs, e, b, q, l, r⟩ := h
    exact ⟨p, vs, e, kb _ b, q, l, r.move (fun a u e _ => e) fun a _ _ z => ka a z⟩
  | dk ks xs =>
    unfold RepI at h
    unfold Rep
    obtain ⟨p, vs, e, b, q, l, m, r⟩ := h
    exact ⟨p, vs, e, kb _ b, q, l, m, r.move (fun a u e _ => e) fun a _ _ z => ka a z⟩
  | _ => exact Rep.move (fun a u e m => e) (fun a _ _ z => ka a z) _ _ h
/-- all of the arguments' places: admissible, own names' with them -/
theorem RepBs.toBd {b : Bool} : ∀ {xs : List Vl} {vs : List V}, RepBs g b ρ σ H xs vs → Reps g.K g.r.T (Bd g) H xs vs
  | [], _, h => by unfold RepBs at h; unfold Reps; exact h
  | x :: xs, _, h => by
    unfold RepBs at h
    unfold Reps
    obtain ⟨v, r, e, h1, h2⟩ := h
    exact ⟨v, r, e, h1.i.toRep (fun _ z => z.1) (fun _ z => z), h2.toBd⟩
theorem RepBs.len {b : Bool} : ∀ {xs : List Vl} {vs : List V}, RepBs g b ρ σ H xs vs → vs.length = xs.length
  | [], _, h => by unfold RepBs at h; rw [h]; rfl
  | x :: xs, _, h => by
    unfold RepBs at h
    obtain ⟨v, r, rfl, h1, h2⟩ := h
    show r.length + 1 = xs.length + 1
    rw [h2.len]
/-! ### what follows what -/
theorem GoX.mono {α : Type} {m : R (α × C)} {Φ Φ' : α → C → Hp → Prop} (h : GoX g H m Φ) (k : ∀ a c1 H', Kp g.r.rg H H' → g.r.held c1 H' → Φ a c1 H' → Φ' a c1 H') : GoX g H m Φ' := by
  cases m with
  | ok p => exact fun H' kp hd => k _ _ _ kp hd (h H' kp hd)
  | ex n => exact h
  | bad => exact h
theorem GoX.kp {α : Type} {m : R (α × C)} {Φ : α → C → Hp → Prop} (k : Kp g.r.rg H H') (h : GoX g H m Φ) : GoX g H' m Φ := by
  cases m with
  | ok p => exact fun H2 kp hd => h H2 (k.trans kp) hd
  | ex n => exact fun H2 kp => h H2 (k.trans kp)
  | bad => exact h
theorem GoX.bind {α β : Type} {m : M C α} {k : α → M C β} {Φ : β → C → Hp → Prop} (h : GoX g H (bnd m k c) Φ) : GoX g H (m c) fun a c1 H1 => GoX g H1 (k a c1) Φ := by
  unfold bnd at h
  cases e : m c with
  | ok p =>
    rw [e] at h
    exact fun H' kp hd => h.kp kp
  | ex n =>
    rw [e] at h
    exact h
  | bad =>
    rw [e] at h
    exact h
theorem GoX.opt {α : Type} {o : Option α} {Φ : α → C → Hp → Prop} (hd : g.r.held c H) (h : GoX g H (opt o c) Φ) : ∃ a, o = some a ∧ Φ a c H := by
  cases o with
  | none => exact h.elim
  | some a => exact ⟨a, rfl, h H Kp.refl hd⟩
theorem GoX.ret {α : Type} {a : α} {Φ : α → C → Hp → Prop} (hd : g.r.held c H) (h : GoX g H (ret a c) Φ) : Φ a c H := h H Kp.refl hd
end
end PyA
/-! PyB: one rule a construct: names, constants, operators, tests, displays, calls. -/
namespace PyA
open PySem L2
/-! ### what expressions give -/
section
variable {C : Type}
abbrev FE (C : Type) := PEnv → M C Vl
abbrev FT (C : Type) := PEnv → M C Bool
def look (ρ : PEnv) (i : Nat) : Option Vl := match ρ[i]? with
  | some (some x) => some x
  | _ => none
def fVar (i : Nat) : FE C := fun ρ => opt (look ρ i)
def fC (x : Vl) : FE C := fun _ => ret x
def fOp (op : Vl → Vl → Option Vl) (a b : FE C) : FE C := fun ρ => bnd (a ρ) fun x => bnd (b ρ) fun y => opt (op x y)
def fUn (op : Vl → Option Vl) (a : FE C) : FE C := fun ρ => bnd (a ρ) fun x => opt (op x)
def fIf (t : FT C) (a b : FE C) : FE C := fun ρ => bnd (t ρ) fun k => if k = true then a ρ else b ρ
def asB : Vl → Option Bool
  | .bl b => some b
  | _ => none
def fAnd (a b : FE C) : FE C := fun ρ => bnd (a ρ) fun x => bnd (opt (asB x)) fun k => if k = true then b ρ else ret (.bl false)
def fOr (a b : FE C) : FE C := fun ρ => bnd (a ρ) fun x => bnd (opt (asB x)) fun k => if k = true then ret (.bl true) else b ρ
def fNot (a : FE C) : FE C := fun ρ => bnd (a ρ) fun x => bnd (opt (asB x)) fun k => ret (.bl (!k))
/-- a value's truth -/
def truth : Vl → Option Bool
  | .non => some false
  | .bl b => some b
  | .int i => some (i != 0)
  | .str z => if z.length ≤ sizeLine then some (!z.isEmpty) else none
  | .tup xs => some (!xs.isEmpty)
  | .lst xs => some (!xs.isEmpty)
  | .dk (.k ks) _ => some (!ks.isEmpty)
  | .dk (.t _) _ => none
  | .reg _ => none
def gB (a : FE C) : FT C := fun ρ => bnd (a ρ) fun x => opt (asB x)
def gV (a : FE C) : FT C := fun ρ => bnd (a ρ) fun x => opt (truth x)
def gAnd (a b : FT C) : FT C := fun ρ => bnd (a ρ) fun k => if k = true then b ρ else ret false
def gOr (a b : FT C) : FT C := fun ρ => bnd (a ρ) fun k => if k = true then ret true else b ρ
def gNot (a : FT C) : FT C := fun ρ => bnd (a ρ) fun k => ret (!k)
def seqA : List (FE C) → PEnv → M C (List Vl)
  | [], _ => ret []
  | f :: r, ρ => bnd (f ρ) fun x => bnd (seqA r ρ) fun xs => ret (x :: xs)
def fTup (fs : List (FE C)) : FE C := fun ρ => bnd (seqA fs ρ) fun xs => ret (.tup xs)
def fLst (fs : List (FE C)) : FE C := fun ρ => bnd (seqA fs ρ) fun xs => ret (.lst xs)
def fImm (f : FE C) : FE C := fun ρ => bnd (f ρ) fun x => if imm x = true then ret x else bad
def fCall (F : List Vl → M C Vl) (fs : List (FE C)) : FE C := fun ρ => bnd (seqA fs ρ) F
def fCallP (F : List Vl → M Unit Vl) (fs : List (FE C)) : FE C := fun ρ => bnd (seqA fs ρ) fun xs => lif (F xs)
def fBlt (op : List Vl → Option Vl) (fs : List (FE C)) : FE C := fun ρ => bnd (seqA fs ρ) fun xs => opt (op xs)
def fMet (ty : Vl → Option Unit) (op : Vl → List Vl → Option Vl) (o : FE C) (fs : List (FE C)) : FE C := fun ρ => bnd (o ρ) fun x => bnd (opt (ty x)) fun _ => bnd (seqA fs ρ) fun xs => opt (op x xs)
def fChain (op op' : Vl → Vl → Option Vl) (a b c : FE C) : FE C := fun ρ => bnd (a ρ) fun x => bnd (b ρ) fun y => bnd (opt (op x y)) fun z => bnd (opt (asB z)) fun k =>
  if k = true then bnd (c ρ) fun w => opt (op' y w) else ret (.bl false)
end
/-! ### primitive operations -/
/-- an answer: what was there already, or a new list -/
def RepR (K : PySem.W.Frag) (T : Tk) (A : Addr → Prop) (H H' : Hp) (z : Vl) (u : V) : Prop := Rep K T A H' z u ∨ RepN K T A H H' z u
def Ans (N : Bool) (K : PySem.W.Frag) (T : Tk) (A : Addr → Prop) (H : Hp) (z : Vl) (Q : VK) : Prop := ∀ u H', Same H H' → (if N = true then RepN K T A H H' z u else RepR K T A H H' z u) → Q u H'
def RepIs (K : PySem.W.Frag) (T : Tk) (B A : Addr → Prop) (H : Hp) : List Vl → List V → Prop
  | [], vs => vs = []
  | x :: xs, vs => ∃ v r, vs = v :: r ∧ RepI K T B A H x v ∧ RepIs K T B A H xs r
def rP (N : Bool) (K : PySem.W.Frag) (T : Tk) (op : Vl → Vl → Option Vl) : R2 := fun v w H Q => ∃ x y B A z, RepI K T B A H x v ∧ RepI K T B A H y w ∧ op x y = some z ∧ Ans N K T A H z Q
def rP1 (N : Bool) (K : PySem.W.Frag) (T : Tk) (op : Vl → Option Vl) : V → Hp → VK → Prop := fun v H Q => ∃ x B A z, RepI K T B A H x v ∧ op x = some z ∧ Ans N K T A H z Q
def rPs (N : Bool) (K : PySem.W.Frag) (T : Tk) (op : List Vl → Option Vl) : List V → Hp → VK → Prop := fun vs H Q => ∃ xs B A z, RepIs K T B A H xs vs ∧ op xs = some z ∧ Ans N K T A H z Q
def rPm (N : Bool) (K : PySem.W.Frag) (T : Tk) (op : Vl → List Vl → Option Vl) : V → List V → Hp → VK → Prop := fun v vs H Q => ∃ x xs B A z, RepI K T B A H x v ∧ RepIs K T B A H xs vs ∧ op x xs = some z ∧ Ans N K T A H z Q
/-- N = true: the answer is a new list (or dict) -/
def OpP (N : Bool) (X : Cx) (f : Value → Value → Sem Value) (op : Vl → Vl → Option Vl) : Prop := ∀ T, OpR X f (rP N X.K T op)
def UnP (N : Bool) (X : Cx) (f : Value → Sem Value) (op : Vl → Option Vl) : Prop := ∀ T, UnR X f (rP1 N X.K T op)
def CallP (N : Bool) (X : Cx) (f : Value) (op : List Vl → Option Vl) : Prop := ∀ T, CallR X f (rPs N X.K T op)
def MetP (N : Bool) (X : Cx) (id : String) (op : Vl → List Vl → Option Vl) : Prop := ∀ T, MtR X id (rPm N X.K T op)
def IxP (X : Cx) (op : Vl → Vl → Option Vl) : Prop := ∀ T, IxR X (rP false X.K T op)
section
variable {X : Cx} {C : Type} {g : Fx C} {e a b c : Expr} {es : List Expr} {pos p : Pos} {N : Bool}
theorem _root_.L2.PE.weak {t t' : TE} (h : PE X e t) (k : ∀ σ H Q, t' σ H Q → t σ H Q) : PE X e t' := ⟨fun pins s σ H Q I q => h.run pins s σ H Q I (k σ H Q q)⟩
theorem _root_.L2.PT.weak {t t' : TT} (h : PT X e t) (k : ∀ σ H Q, t' σ H Q → t σ H Q) : PT X e t' := ⟨fun pins s σ H Q I q => h.run pins s σ H Q I (k σ H Q q)⟩
theorem _root_.L2.PW.weak {t t' : TT} (h : PW X e t) (k : ∀ σ H Q, t' σ H Q → t σ H Q) : PW X e t' := ⟨fun wh pins s σ H Q I q => h.run wh pins s σ H Q I (k σ H Q q)⟩
theorem _root_.L2.PA.weak {t t' : TA} (h : PA X es t) (k : ∀ σ H Q, t' σ H Q → t σ H Q) : PA X es t' := ⟨fun ps pins s σ H Q I q => h.run ps pins s σ H Q I (k σ H Q q)⟩
theorem _root_.L2.OpR.weak {f : Value → Value → Sem Value} {r r' : R2} (h : OpR X f r) (k : ∀ v w H Q, r' v w H Q → r v w H Q) : OpR X f r' := fun pins s σ H x y v u Q I rx ry q => h pins s σ H x y v u Q I rx ry (k _ _ _ _ q)
theorem _root_.L2.UnR.weak {f : Value → Sem Value} {r r' : V → Hp → VK → Prop} (h : UnR X f r) (k : ∀ v H Q, r' v H Q → r v H Q) : UnR X f r' := fun pins s σ H x v Q I rx q => h pins s σ H x v Q I rx (k _ _ _ q)
theorem _root_.L2.CallR.weak {f : Value} {r r' : List V → Hp → VK → Prop} (h : CallR X f r) (k : ∀ v H Q, r' v H Q → r v H Q) : CallR X f r' := fun pins s σ H x v Q I rx q => h pins s σ H x v Q I rx (k _ _ _ q)
theorem _root_.L2.IxR.weak {r r' : R2} (h : IxR X r) (k : ∀ v w H Q, r' v w H Q → r v w H Q) : IxR X r' := fun va sl pins s σ H x y v u Q I rx ry q => h va sl pins s σ H x y v u Q I rx ry (k _ _ _ _ q)
theorem _root_.L2.MtR.weak {id : String} {r r' : V → List V → Hp → VK → Prop} (h : MtR X id r) (k : ∀ v w H Q, r' v w H Q → r v w H Q) : MtR X id r' := fun pins s σ H x xs v us Q I rx rs q => h pins s σ H x xs v us Q I rx rs (k _ _ _ _ q)
theorem Ans.n {K : PySem.W.Frag} {T : Tk} {A : Addr → Prop} {H : Hp} {z : Vl} {Q : VK} (h : Ans N K T A H z Q) : Ans true K T A H z Q := fun u H' s r => h u H' s (by
  rw [if_pos rfl] at r
  cases N with
  | true => exact r
  | false => exact .inr r)
/-! ### names and constants -/
theorem look_some {ρ : PEnv} {i : Nat} {x : Vl} (h : look ρ i = some x) : ρ[i]? = some (some x) := by
  unfold look at h
  split at h
  · rename_i y e
    cases h
    exact e
  · cases h
theorem de_var {i : Nat} {x : Str} (hN : X.N[i]? = some x) (hv : Vis X.env.scope x) (ho : g.own i = false) (hd : (x == ("__debug__" : Str)) = false := by decide) (hcd : (x == ("__classdict__" : Str)) = false := by decide) :
    PE X (.Name x pos) (tE g true (fVar i)) :=
  (pe_var hN hv hd hcd).weak fun σ H Q ⟨ρ, c, ei, hd, h⟩ => by
    obtain ⟨y, e, q⟩ := GoX.opt hd h
    obtain ⟨v, e1, r⟩ := ei.slot i y (look_some e)
    rw [if_neg (by rw [ho]; exact Bool.false_ne_true)] at r
    exact ⟨v, e1, q v (RepB.of r)⟩
theorem de_own {i : Nat} {x : Str} (hN : X.N[i]? = some x) (hv : Vis X.env.scope x) (ho : g.own i = true) (hd : (x == ("__debug__" : Str)) = false := by decide) (hcd : (x == ("__classdict__" : Str)) = false := by decide) :
    PE X (.Name x pos) (tE g false (fVar i)) :=
  (pe_var hN hv hd hcd).weak fun σ H Q ⟨ρ, c, ei, hd, h⟩ => by
    obtain ⟨y, e, q⟩ := GoX.opt hd h
    obtain ⟨v, e1, r⟩ := ei.slot i y (look_some e)
    rw [if_pos ho] at r
    refine ⟨v, e1, q v ?_⟩
    unfold RepB
    rw [if_neg Bool.false_ne_true]
    cases y with
    | lst xs =>
      unfold OwnAt at r
      unfold RepI
      obtain ⟨p, vs, e2, n, nr, q, l, r⟩ := r
      exact ⟨p, vs, e2, ⟨.inr n, nr⟩, q, l, r⟩
    | dk ks xs =>
      unfold OwnAt at r
      unfold RepI
      obtain ⟨p, vs, e2, n, nr, q, l, r⟩ := r
      exact ⟨p, vs, e2, ⟨.inr n, nr⟩, q, l, r⟩
    | _ => exact (show False from r).elim
theorem tE_C {v : V} {x : Vl} (hr : ∀ (T : Tk) (A : Addr → Prop) H, Rep g.K T A H x v) : ∀ σ H Q, tE g true (fC x) σ H Q → tC v σ H Q := fun σ H Q ⟨ρ, c, ei, hd, h⟩ =>
  GoX.ret hd h v (RepB.of (hr _ _ _))
theorem de_int {i : Int} {j} : PE X (.Constant (.int i) j pos) (tE g true (fC (.int i))) := pe_int.weak (tE_C fun _ _ _ => by unfold Rep; rfl)
theorem de_bl {i : Bool} {j} : PE X (.Constant (.bool i) j pos) (tE g true (fC (.bl i))) := pe_bl.weak (tE_C fun _ _ _ => by unfold Rep; rfl)
theorem de_non {j} : PE X (.Constant .none j pos) (tE g true (fC .non)) := pe_non.weak (tE_C fun _ _ _ => by unfold Rep; rfl)
theorem de_str {x : Str} {z : List Nat} {j} (h : x.cps.toList = z) : PE X (.Constant (.str x) j pos) (tE g true (fC (.str z))) := pe_str.weak (tE_C fun _ _ _ => by
  unfold Rep
  subst h
  simp)
/-- a constant of the module -/
theorem de_glob {x : Str} {v : V} {u : Value} {y : Vl} (hg : Gl X x) (hm : X.mg x = some u) (r : RelV v u) (hr : ∀ (T : Tk) (A : Addr → Prop) H, Rep g.K T A H y v) (hd : (x == ("__debug__" : Str)) = false := by decide) :
    PE X (.Name x pos) (tE g true (fC y)) := (pe_glob hg hm r hd).weak (tE_C hr)
/-! ### handing on -/
theorem de_lo {f : FE C} (h : PE X e (tE g true f)) : PE X e (tE g false f) := h.weak fun σ H Q ⟨ρ, c, ei, hd, q⟩ =>
  ⟨ρ, c, ei, hd, q.mono fun x c1 H1 k hd1 w v r => w v (by
    unfold RepB at r ⊢
    rw [if_pos rfl] at r
    rw [if_neg Bool.false_ne_true]
    exact r.toI fun _ z => z.1)⟩
theorem de_new {f : FE C} (h : PE X e (tN g f)) : PE X e (tE g true f) := h.weak fun σ H Q ⟨ρ, c, ei, hd, q⟩ =>
  ⟨ρ, c, ei, hd, q.mono fun x c1 H1 k hd1 w v r => w v (RepB.of (r.toRep (fun _ n => ei.ad_new hd n) fun _ z => z))⟩
theorem rep_imm {K : PySem.W.Frag} {T : Tk} {A A' B : Addr → Prop} {H : Hp} {x : Vl} {v : V} (i : imm x = true) (h : RepI K T B A H x v) : Rep K T A' H x v := by
  cases x with
  | lst xs => unfold imm at i; cases i
  | dk ks xs => unfold imm at i; cases i
  | _ => exact Rep.imm (A := A) _ _ i h
theorem de_imm {bb : Bool} {f : FE C} (h : PE X e (tE g bb f)) : PE X e (tE g true (fImm f)) := h.weak fun σ H Q ⟨ρ, c, ei, hd, q⟩ =>
  ⟨ρ, c, ei, hd, (GoX.bind q).mono fun x c1 H1 k hd1 w v r => by
    by_cases i : imm x = true
    · rw [if_pos i] at w
      exact GoX.ret hd1 w v (RepB.of (rep_imm i r.i))
    · rw [if_neg i] at w
      exact w.elim⟩
/-! ### operators -/
theorem Ans.of {b : Bool} {ρ : PEnv} {σ : St} {H : Hp} {c : C} {z : Vl} {Q : VK} (hN : N = b) (ei : EI g ρ σ H) (hd : g.r.held c H)
    (q : ∀ v H', Kp g.r.rg H H' → (if b = true then RepN g.K g.r.T (Ad g ρ σ) H H' z v else Rep g.K g.r.T (Ad g ρ σ) H' z v) → Q v H') : Ans N g.K g.r.T (Ad g ρ σ) H z Q := by
  intro u H' s r
  subst hN
  refine q u H' (Kp.of s) ?_
  cases N with
  | true => exact r
  | false =>
    rw [if_neg Bool.false_ne_true] at r ⊢
    rcases r with r | r
    · exact r
    · exact r.toRep (fun _ n => ei.ad_new hd n) fun _ z => z
theorem Rg.same {r : Rg C} {cc : C} {H H' : Hp} (h : r.held cc H) (s : Same H H') : r.held cc H' := by
  refine r.hloc cc H H' h fun a z => ?_
  have m := r.hmut cc H a h z
  cases e : H a with
  | none => rw [e] at m; exact (show False from m).elim
  | some u => exact s a u e
/-- the shape of an expression's reading: b: new -/
def tX (nw b : Bool) (f : FE C) : TE := if nw = true then tN g f else tE g b f
theorem tN_last {f : FE C} {ρ : PEnv} {σ : St} {H H1 : Hp} {c1 : C} {z : Vl} {Q : VK} (ei1 : EI g ρ σ H1) (hd1 : g.r.held c1 H1) (k : Kp g.r.rg H H1)
    (w : ∀ H', Kp g.r.rg H1 H' → g.r.held c1 H' → ∀ v, RepN g.K g.r.T (Ad g ρ σ) H H' z v → Q v H') : Ans true g.K g.r.T (Ad g ρ σ) H1 z Q := by
  intro u H' s r
  rw [if_pos rfl] at r
  refine w H' (Kp.of s) (Rg.same hd1 s) u ?_
  cases z with
  | lst xs =>
    unfold RepN at r ⊢
    obtain ⟨p, vs, e, n, q⟩ := r
    exact ⟨p, vs, e, k.none hd1 n, q⟩
  | dk ks xs =>
    unfold RepN at r ⊢
    obtain ⟨p, vs, e, n, q⟩ := r
    exact ⟨p, vs, e, k.none hd1 n, q⟩
  | _ => exact r
theorem tE_last {ρ : PEnv} {σ : St} {H1 : Hp} {c1 : C} {z : Vl} {Q : VK} (ei1 : EI g ρ σ H1) (hd1 : g.r.held c1 H1)
    (w : ∀ H', Kp g.r.rg H1 H' → g.r.held c1 H' → ∀ v, RepB g true ρ σ H' z v → Q v H') : Ans N g.K g.r.T (Ad g ρ σ) H1 z Q := by
  intro u H' s r
  refine w H' (Kp.of s) (Rg.same hd1 s) u (RepB.of ?_)
  have both : RepR g.K g.r.T (Ad g ρ σ) H1 H' z u := by
    cases N with
    | true => exact .inr r
    | false => exact r
  rcases both with r | r
  · exact r
  · exact r.toRep (fun _ n => ei1.ad_new hd1 n) fun _ z => z
theorem go_ret {α : Type} {H : Hp} {x : α} {cc : C} {Φ : α → C → Hp → Prop} (h : GoX g H (.ok (x, cc)) Φ) : ∀ H', Kp g.r.rg H H' → g.r.held cc H' → Φ x cc H' := h
theorem go_opt {α : Type} {H : Hp} {o : Option α} {cc : C} {Φ : α → C → Hp → Prop} (h : GoX g H (opt o cc) Φ) : ∃ z, o = some z ∧ ∀ H', Kp g.r.rg H H' → g.r.held cc H' → Φ z cc H' := by
  cases o with
  | none => exact h.elim
  | some z => exact ⟨z, rfl, h⟩
variable (hK : X.K = g.K)
include hK
theorem de_op {op : Operator} {f : Vl → Vl → Option Vl} {ba bb : Bool} {fa fb : FE C} (ho : OpP N X (binaryOp op) f) (ha : PE X a (tE g ba fa)) (hb : PE X b (tE g bb fb)) : PE X (.BinOp a op b pos) (tE g true (fOp f fa fb)) :=
  (pe_op (ho g.r.T) ha hb).weak fun σ H Q ⟨ρ, c, ei, hd, q⟩ => ⟨ρ, c, ei, hd, (GoX.bind q).mono fun x c1 H1 k hd1 w v rv => ⟨ρ, c1, ei.kp hd k, hd1, (GoX.bind w).mono fun y c2 H2 k2 hd2 w2 u ru => by
    obtain ⟨z, ez, w3⟩ := go_opt w2
    rw [hK]
    exact ⟨x, y, _, _, z, (rv.kp hd1 k2).i, ru.i, ez, tE_last ((ei.kp hd k).kp hd1 k2) hd2 w3⟩⟩⟩
/-- .. whose answer is a new list -/
theorem de_opN {op : Operator} {f : Vl → Vl → Option Vl} {ba bb : Bool} {fa fb : FE C} (ho : OpP true X (binaryOp op) f) (ha : PE X a (tE g ba fa)) (hb : PE X b (tE g bb fb)) : PE X (.BinOp a op b pos) (tN g (fOp f fa fb)) :=
  (pe_op (ho g.r.T) ha hb).weak fun σ H Q ⟨ρ, c, ei, hd, q⟩ => ⟨ρ, c, ei, hd, (GoX.bind q).mono fun x c1 H1 k hd1 w v rv => ⟨ρ, c1, ei.kp hd k, hd1, (GoX.bind w).mono fun y c2 H2 k2 hd2 w2 u ru => by
    obtain ⟨z, ez, w3⟩ := go_opt w2
    rw [hK]
    exact ⟨x, y, _, _, z, (rv.kp hd1 k2).i, ru.i, ez, tN_last (f := fa) ((ei.kp hd k).kp hd1 k2) hd2 (k.trans k2) w3⟩⟩⟩
theorem de_cmp {op : CmpOp} {f : Vl → Vl → Option Vl} {ba bb : Bool} {fa fb : FE C} (ho : OpP N X (compareOp op) f) (ha : PE X a (tE g ba fa)) (hb : PE X b (tE g bb fb)) (hm : behindInMarks op b = false) : PE X (.Compare a [op] [b] pos) (tE g true (fOp f fa fb)) :=
  (pe_cmpR (ho g.r.T) ha hb hm).weak fun σ H Q ⟨ρ, c, ei, hd, q⟩ => ⟨ρ, c, ei, hd, (GoX.bind q).mono fun x c1 H1 k hd1 w v rv => ⟨ρ, c1, ei.kp hd k, hd1, (GoX.bind w).mono fun y c2 H2 k2 hd2 w2 u ru => by
    obtain ⟨z, ez, w3⟩ := go_opt w2
    rw [hK]
    exact ⟨x, y, _, _, z, (rv.kp hd1 k2).i, ru.i, ez, tE_last ((ei.kp hd k).kp hd1 k2) hd2 w3⟩⟩⟩
theorem de_un {op : UnaryOp} {f : Vl → Option Vl} {ba : Bool} {fa : FE C} (ho : UnP N X (unaryOp op) f) (ha : PE X a (tE g ba fa)) : PE X (.UnaryOp op a pos) (tE g true (fUn f fa)) :=
  (pe_un (ho g.r.T) ha).weak fun σ H Q ⟨ρ, c, ei, hd, q⟩ => ⟨ρ, c, ei, hd, (GoX.bind q).mono fun x c1 H1 k hd1 w v rv => by
    obtain ⟨z, ez, w3⟩ := go_opt w
    rw [hK]
    exact ⟨x, _, _, z, rv.i, ez, tE_last (ei.kp hd k) hd1 w3⟩⟩
theorem de_ix {f : Vl → Vl → Option Vl} {ba bb : Bool} {fa fb : FE C} (ho : IxP X f) (ha : PE X a (tE g ba fa)) (hb : PE X b (tE g bb fb)) (hs : PlainIx b) : PE X (.Subscript a b pos) (tE g true (fOp f fa fb)) :=
  (pe_ix (ho g.r.T) ha hb hs).weak fun σ H Q ⟨ρ, c, ei, hd, q⟩ => ⟨ρ, c, ei, hd, (GoX.bind q).mono fun x c1 H1 k hd1 w v rv => ⟨ρ, c1, ei.kp hd k, hd1, (GoX.bind w).mono fun y c2 H2 k2 hd2 w2 u ru => by
    obtain ⟨z, ez, w3⟩ := go_opt w2
    rw [hK]
    exact ⟨x, y, _, _, z, (rv.kp hd1 k2).i, ru.i, ez, tE_last ((ei.kp hd k).kp hd1 k2) hd2 w3⟩⟩⟩
omit hK
/-! ### tests -/
theorem asB_some {x : Vl} {k : Bool} (h : asB x = some k) : x = .bl k := by
  cases x <;> first | (cases h; rfl) | (cases h)
theorem repB_bl {b : Bool} {ρ : PEnv} {σ : St} {H : Hp} {k : Bool} {v : V} (h : RepB g b ρ σ H (.bl k) v) : v = .bl k := by
  have h := h.i
  unfold RepI Rep at h
  exact h
theorem go_pure {α : Type} {H : Hp} {a : α} {cc : C} {Φ : α → C → Hp → Prop} (hd : g.r.held cc H) (h : Φ a cc H) (up : ∀ H', Kp g.r.rg H H' → g.r.held cc H' → Φ a cc H') : GoX g H (ret a cc) Φ := up
/-- an expression that gives a truth value -/
theorem dt_b {ba : Bool} {fa : FE C} (ha : PE X a (tE g ba fa)) (he : ∀ whole, isTrue a X.env whole = (do let v ← whole; standAt a.pos; holding [v] (truthy v)) := by intro _; rfl) : PT X a (tT g (gB fa)) :=
  (pt_val ha he).weak fun σ H Q ⟨ρ, c, ei, hd, q⟩ => ⟨ρ, c, ei, hd, (GoX.bind q).mono fun x c1 H1 k hd1 w v rv => by
    obtain ⟨z, ez, w3⟩ := go_opt w
    have e := asB_some ez
    subst e
    exact ⟨z, repB_bl rv, w3 H1 Kp.refl hd1⟩⟩
theorem dt_cmp {op : CmpOp} {f : Vl → Vl → Option Vl} {ba bb : Bool} {fa fb : FE C} (hK : X.K = g.K) (ho : OpP N X (compareOp op) f) (ha : PE X a (tE g ba fa)) (hb : PE X b (tE g bb fb)) (hm : behindInMarks op b = false) : PT X (.Compare a [op] [b] pos) (tT g (gB (fOp f fa fb))) :=
  (pt_cmpR (ho g.r.T) ha hb hm).weak fun σ H Q ⟨ρ, c, ei, hd, q⟩ => ⟨ρ, c, ei, hd, (GoX.bind (GoX.bind q)).mono fun x c1 H1 k hd1 w v rv => ⟨ρ, c1, ei.kp hd k, hd1, (GoX.bind w).mono fun y c2 H2 k2 hd2 w2 u ru => by
    obtain ⟨z, ez, w3⟩ := go_opt w2
    rw [hK]
    exact ⟨x, y, _, _, z, (rv.kp hd1 k2).i, ru.i, ez, tE_last ((ei.kp hd k).kp hd1 k2) hd2 fun H3 k3 hd3 o ro => by
      obtain ⟨t, et, w4⟩ := go_opt (w3 H3 k3 hd3)
      have e := asB_some et
      subst e
      exact ⟨t, repB_bl ro, w4 H3 Kp.refl hd3⟩⟩⟩⟩
theorem truth_ok {B : Addr → Prop} {x : Vl} {k : Bool} {A : Addr → Prop} {K : PySem.W.Frag} {T : Tk} {H : Hp} {v : V} (h : truth x = some k) (r : RepI K T B A H x v) : TruV K v H k := by
  cases x with
  | non => unfold RepI Rep at r; subst r; cases h; rfl
  | bl b => unfold RepI Rep at r; subst r; cases h; rfl
  | int i => unfold RepI Rep at r; subst r; cases h; rfl
  | str z =>
    unfold RepI Rep at r
    subst r
    have h : (if z.length ≤ sizeLine then some (!z.isEmpty) else none) = some k := h
    by_cases l : z.length ≤ sizeLine
    · rw [if_pos l] at h
      cases h
      refine ⟨by simpa [Str.length] using l, ?_⟩
      cases z with
      | nil => rfl
      | cons a z =>
        show (!(a :: z).isEmpty) = (((Str.length ⟨(a :: z).toArray⟩ : Nat) : Int) != 0)
        simp only [Str.length, List.size_toArray, List.length_cons, List.isEmpty_cons, Bool.not_false]
        symm
        rw [bne_iff_ne]
        omega
    · rw [if_neg l] at h
      cases h
  | tup xs =>
    unfold RepI Rep at r
    obtain ⟨p, vs, rfl, q, l, r⟩ := r
    cases h
    refine .inr (.inl ⟨vs, q, ?_⟩)
    cases xs with
    | nil => unfold Reps at r; subst r; rfl
    | cons y ys => unfold Reps at r; obtain ⟨_, _, rfl, _⟩ := r; rfl
  | lst xs =>
    unfold RepI at r
    obtain ⟨p, vs, rfl, _, q, l, r⟩ := r
    cases h
    refine .inl ⟨vs, SqL.of q, ?_⟩
    cases xs with
    | nil => unfold Reps at r; subst r; rfl
    | cons y ys => unfold Reps at r; obtain ⟨_, _, rfl, _⟩ := r; rfl
  | dk ks xs =>
    unfold RepI at r
    obtain ⟨p, kvs, rfl, _, q, l, m, r⟩ := r
    cases ks with
    | t ks => cases h
    | k ks =>
    cases kvs with
    | t p0 kvs => cases m.1
    | k kvs =>
    cases h
    refine .inr (.inr ⟨kvs, q, ?_⟩)
    have m : kvs.map (·.1) = ks := by injection m.1
    rw [← m]
    cases kvs <;> rfl
  | reg n => cases h
/-- .. by its truth -/
theorem dt_v {ba : Bool} {fa : FE C} (hK : X.K = g.K) (ha : PE X a (tE g ba fa)) (he : ∀ whole, isTrue a X.env whole = (do let v ← whole; standAt a.pos; holding [v] (truthy v)) := by intro _; rfl) : PT X a (tT g (gV fa)) :=
  (pt_truth ha he).weak fun σ H Q ⟨ρ, c, ei, hd, q⟩ => ⟨ρ, c, ei, hd, (GoX.bind q).mono fun x c1 H1 k hd1 w v rv => by
    obtain ⟨z, ez, w3⟩ := go_opt w
    rw [hK]
    exact ⟨z, truth_ok ez rv.i, w3 H1 Kp.refl hd1⟩⟩
theorem dw_and1 {f : FT C} (ha : PT X a (tT g f)) : PW X (.BoolOp .And [a] pos) (tT g f) := pw_and1 ha
theorem dw_or1 {f : FT C} (ha : PT X a (tT g f)) : PW X (.BoolOp .Or [a] pos) (tT g f) := pw_or1 ha
theorem dw_and {f f' : FT C} {r : List Expr} (ha : PT X a (tT g f)) (hb : PW X (.BoolOp .And (b :: r) pos) (tT g f')) : PW X (.BoolOp .And (a :: b :: r) pos) (tT g (gAnd f f')) :=
  (pw_and ha hb).weak fun σ H Q ⟨ρ, c, ei, hd, q⟩ => ⟨ρ, c, ei, hd, (GoX.bind q).mono fun x c1 H1 k hd1 w => by
    cases x with
    | true => exact iteT ⟨ρ, c1, ei.kp hd k, hd1, w⟩
    | false => exact iteF (w H1 Kp.refl hd1)⟩
theorem dw_or {f f' : FT C} {r : List Expr} (ha : PT X a (tT g f)) (hb : PW X (.BoolOp .Or (b :: r) pos) (tT g f')) : PW X (.BoolOp .Or (a :: b :: r) pos) (tT g (gOr f f')) :=
  (pw_or ha hb).weak fun σ H Q ⟨ρ, c, ei, hd, q⟩ => ⟨ρ, c, ei, hd, (GoX.bind q).mono fun x c1 H1 k hd1 w => by
    cases x with
    | true => exact iteT (w H1 Kp.refl hd1)
    | false => exact iteF ⟨ρ, c1, ei.kp hd k, hd1, w⟩⟩
theorem dt_not {f : FT C} (ha : PT X a (tT g f)) : PT X (.UnaryOp .Not a pos) (tT g (gNot f)) :=
  (pt_not ha).weak fun σ H Q ⟨ρ, c, ei, hd, q⟩ => ⟨ρ, c, ei, hd, (GoX.bind q).mono fun x c1 H1 k hd1 w => w H1 Kp.refl hd1⟩
theorem chain_ok {op op' : Vl → Vl → Option Vl} {ba bb bc : Bool} {fa fb fc : FE C} (hK : X.K = g.K) {σ : St} {H : Hp} {Q : VK} (q : tE g true (fChain op op' fa fb fc) σ H Q) :
    tChain (rP N X.K g.r.T op) (rP N X.K g.r.T op') (tE g ba fa) (tE g bb fb) (tE g bc fc) σ H Q := by
  obtain ⟨ρ, c, ei, hd, q⟩ := q
  refine ⟨ρ, c, ei, hd, (GoX.bind q).mono fun x c1 H1 k hd1 w v rv => ⟨ρ, c1, ei.kp hd k, hd1, (GoX.bind w).mono fun y c2 H2 k2 hd2 w2 u ru => ?_⟩⟩
  have ei2 := (ei.kp hd k).kp hd1 k2
  obtain ⟨z, ez, w3⟩ := go_opt (GoX.bind w2)
  rw [hK]
  refine ⟨x, y, _, _, z, (rv.kp hd1 k2).i, ru.i, ez, tE_last ei2 hd2 fun H3 k3 hd3 o ro => ?_⟩
  obtain ⟨t, et, w4⟩ := go_opt (GoX.bind (w3 H3 k3 hd3))
  have e := asB_some et
  subst e
  have w5 := w4 H3 Kp.refl hd3
  refine ⟨t, repB_bl ro, ?_⟩
  cases t with
  | true =>
    rw [if_pos rfl] at w5
    refine iteT ⟨ρ, c2, ei2.kp hd2 k3, hd3, (GoX.bind w5).mono fun d c4 H4 k4 hd4 w6 l rl => ?_⟩
    obtain ⟨z2, ez2, w7⟩ := go_opt w6
    exact ⟨y, d, _, _, z2, ((ru.kp hd2 k3).kp hd3 k4).i, rl.i, ez2, tE_last ((ei2.kp hd2 k3).kp hd3 k4) hd4 w7⟩
  | false =>
    refine iteF ?_
    exact w5 H3 Kp.refl hd3 _ (RepB.of (by unfold Rep; rfl))
theorem de_chain {op op' : CmpOp} {f f' : Vl → Vl → Option Vl} {ba bb bc : Bool} {fa fb fc : FE C} (hK : X.K = g.K) (ho : OpP N X (compareOp op) f) (ho' : OpP N X (compareOp op') f') (ha : PE X a (tE g ba fa)) (hb : PE X b (tE g bb fb)) (hc : PE X c (tE g bc fc))
    (hm : lastMarks [op, op'] [b, c] = false := by with_unfolding_all rfl) : PE X (.Compare a [op, op'] [b, c] pos) (tE g true (fChain f f' fa fb fc)) :=
  (pe_chain (ho g.r.T) (ho' g.r.T) ha hb hc hm).weak fun σ H Q q => chain_ok hK q
theorem dt_chain {op op' : CmpOp} {f f' : Vl → Vl → Option Vl} {ba bb bc : Bool} {fa fb fc : FE C} (hK : X.K = g.K) (ho : OpP N X (compareOp op) f) (ho' : OpP N X (compareOp op') f') (ha : PE X a (tE g ba fa)) (hb : PE X b (tE g bb fb)) (hc : PE X c (tE g bc fc))
    (hm : lastMarks [op, op'] [b, c] = false := by with_unfolding_all rfl) : PT X (.Compare a [op, op'] [b, c] pos) (tT g (gB (fChain f f' fa fb fc))) :=
  (pt_chain (ho g.r.T) (ho' g.r.T) ha hb hc hm).weak fun σ H Q ⟨ρ, c, ei, hd, q⟩ => chain_ok hK ⟨ρ, c, ei, hd, (GoX.bind q).mono fun x c1 H1 k hd1 w v rv => by
    obtain ⟨z, ez, w3⟩ := go_opt w
    have e := asB_some ez
    subst e
    exact ⟨z, repB_bl rv, w3 H1 Kp.refl hd1⟩⟩
/-! ### values of and, or, not, if -/
theorem de_ifx {t : Expr} {ft : FT C} {fa fb : FE C} {bb : Bool} (ht : PT X t (tT g ft)) (ha : PE X a (tE g bb fa)) (hb : PE X b (tE g bb fb)) : PE X (.IfExp t a b pos) (tE g bb (fIf ft fa fb)) :=
  (pe_ifExp ht ha hb).weak fun σ H Q ⟨ρ, c, ei, hd, q⟩ => ⟨ρ, c, ei, hd, (GoX.bind q).mono fun x c1 H1 k hd1 w => by
    cases x with
    | true => exact iteT ⟨ρ, c1, ei.kp hd k, hd1, w⟩
    | false => exact iteF ⟨ρ, c1, ei.kp hd k, hd1, w⟩⟩
theorem de_one {op} {bb : Bool} {fa : FE C} (ha : PE X a (tE g bb fa)) : PE X (.BoolOp op [a] pos) (tE g bb fa) := pe_one ha
theorem de_and {fa fb : FE C} {ba : Bool} {r : List Expr} (ha : PE X a (tE g ba fa)) (hb : PE X (.BoolOp .And (b :: r) pos) (tE g true fb)) : PE X (.BoolOp .And (a :: b :: r) pos) (tE g true (fAnd fa fb)) :=
  (pe_and ha hb).weak fun σ H Q ⟨ρ, c, ei, hd, q⟩ => ⟨ρ, c, ei, hd, (GoX.bind q).mono fun x c1 H1 k hd1 w v rv => by
    obtain ⟨z, ez, w3⟩ := go_opt (GoX.bind w)
    have e := asB_some ez
    subst e
    have w4 := w3 H1 Kp.refl hd1
    refine ⟨z, repB_bl rv, ?_⟩
    cases z with
    | true => exact iteT ⟨ρ, c1, ei.kp hd k, hd1, w4⟩
    | false => exact iteF (GoX.ret hd1 w4 _ (RepB.of (by unfold Rep; rfl)))⟩
theorem de_or {fa fb : FE C} {ba : Bool} {r : List Expr} (ha : PE X a (tE g ba fa)) (hb : PE X (.BoolOp .Or (b :: r) pos) (tE g true fb)) : PE X (.BoolOp .Or (a :: b :: r) pos) (tE g true (fOr fa fb)) :=
  (pe_or ha hb).weak fun σ H Q ⟨ρ, c, ei, hd, q⟩ => ⟨ρ, c, ei, hd, (GoX.bind q).mono fun x c1 H1 k hd1 w v rv => by
    obtain ⟨z, ez, w3⟩ := go_opt (GoX.bind w)
    have e := asB_some ez
    subst e
    have w4 := w3 H1 Kp.refl hd1
    refine ⟨z, repB_bl rv, ?_⟩
    cases z with
    | true => exact iteT (GoX.ret hd1 w4 _ (RepB.of (by unfold Rep; rfl)))
    | false => exact iteF ⟨ρ, c1, ei.kp hd k, hd1, w4⟩⟩
theorem de_not {fa : FE C} {ba : Bool} (ha : PE X a (tE g ba fa)) : PE X (.UnaryOp .Not a pos) (tE g true (fNot fa)) :=
  (pe_not ha).weak fun σ H Q ⟨ρ, c, ei, hd, q⟩ => ⟨ρ, c, ei, hd, (GoX.bind q).mono fun x c1 H1 k hd1 w v rv => by
    obtain ⟨z, ez, w3⟩ := go_opt (GoX.bind w)
    have e := asB_some ez
    subst e
    exact ⟨z, repB_bl rv, GoX.ret hd1 (w3 H1 Kp.refl hd1) _ (RepB.of (by unfold Rep; rfl))⟩⟩
/-! ### argument lists, displays -/
theorem da_nil {bb : Bool} : PA X [] (tA g bb (seqA [])) := pa_nil.weak fun σ H Q ⟨ρ, c, ei, hd, q⟩ => GoX.ret hd q [] (by unfold RepBs; rfl)
theorem da_cons {bb : Bool} {fe : FE C} {fs : List (FE C)} (he : PE X e (tE g bb fe)) (hr : PA X es (tA g bb (seqA fs))) (hs : starEach (e :: es) X.env = (false, eval e X.env) :: starEach es X.env := by rfl) :
    PA X (e :: es) (tA g bb (seqA (fe :: fs))) :=
  (pa_cons he hr hs).weak fun σ H Q ⟨ρ, c, ei, hd, q⟩ => ⟨ρ, c, ei, hd, (GoX.bind q).mono fun x c1 H1 k hd1 w v rv => ⟨ρ, c1, ei.kp hd k, hd1, (GoX.bind w).mono fun xs c2 H2 k2 hd2 w2 vs rs =>
    GoX.ret hd2 w2 (v :: vs) (by
      unfold RepBs
      exact ⟨v, vs, rfl, rv.kp hd1 k2, rs⟩)⟩⟩
theorem seqA_len {C : Type} : ∀ (fs : List (FE C)) (ρ : PEnv) (c : C) (p : List Vl × C), seqA fs ρ c = .ok p → p.1.length = fs.length
  | [], ρ, c, p, h => by
    cases h
    rfl
  | f :: r, ρ, c, p, h => by
    unfold seqA bnd at h
    cases e : f ρ c with
    | ok q =>
      rw [e] at h
      dsimp only at h
      cases e2 : seqA r ρ q.2 with
      | ok t =>
        rw [e2] at h
        cases h
        exact congrArg Nat.succ (seqA_len r ρ q.2 t e2)
      | ex n => rw [e2] at h; cases h
      | bad => rw [e2] at h; cases h
    | ex n => rw [e] at h; cases h
    | bad => rw [e] at h; cases h
theorem GoX.len {fs : List (FE C)} {ρ : PEnv} {cc : C} {H : Hp} {Φ : List Vl → C → Hp → Prop} (h : GoX g H (seqA fs ρ cc) Φ) : GoX g H (seqA fs ρ cc) fun xs c' H' => xs.length = fs.length ∧ Φ xs c' H' := by
  cases e : seqA fs ρ cc with
  | ok p =>
    rw [e] at h
    exact fun H' k hd => ⟨seqA_len _ _ _ _ e, h H' k hd⟩
  | ex n => rw [e] at h; exact h
  | bad => rw [e] at h; exact h
theorem rep_upd {K : PySem.W.Frag} {T : Tk} {A A' : Addr → Prop} {H : Hp} {q : Addr} {o : HO} (n : H q = none) (ka : ∀ a u, H a = some u → A a → A' a) {xs : List Vl} {vs : List V} (h : Reps K T A H xs vs) : Reps K T A' (upd H q o) xs vs :=
  Reps.move (fun a u e _ => by rw [upd_ne (ne_of_none e n)]; exact e) ka _ _ h
theorem same_new {H : Hp} {q : Addr} {o : HO} (n : H q = none) : Same H (upd H q o) := fun a u e => by
  rw [upd_ne (ne_of_none e n)]
  exact e
theorem de_tup {x1} {fs : List (FE C)} (hl : fs.length ≤ sizeLine) (h : PA X es (tA g true (seqA fs))) : PE X (.Tuple es x1 pos) (tE g true (fTup fs)) :=
  (pe_tup h).weak fun σ H Q ⟨ρ, c, ei, hd, q⟩ => ⟨ρ, c, ei, hd, (GoX.bind q).len.mono fun xs c1 H1 k hd1 w vs rs => by
    obtain ⟨l, w⟩ := w
    have l2 : vs.length ≤ sizeLine := by rw [rs.len, l]; exact hl
    refine ⟨l2, fun p n => ?_⟩
    refine w (upd H1 p (.tup vs)) (Kp.of (same_new n)) (Rg.same hd1 (same_new n)) _ (RepB.of ?_)
    unfold Rep
    exact ⟨p, vs, rfl, SqT.of upd_same, l2, rep_upd n (fun _ _ _ z => z) rs.toReps⟩⟩
theorem de_lst {fs : List (FE C)} (hl : fs.length ≤ sizeLine) (h : PA X es (tA g true (seqA fs))) : PE X (.List es pos) (tN g (fLst fs)) :=
  (pe_lst h).weak fun σ H Q ⟨ρ, c, ei, hd, q⟩ => ⟨ρ, c, ei, hd, (GoX.bind q).len.mono fun xs c1 H1 k hd1 w vs rs => by
    obtain ⟨l, w⟩ := w
    have l2 : vs.length ≤ sizeLine := by rw [rs.len, l]; exact hl
    refine ⟨l2, fun p n => ?_⟩
    refine w (upd H1 p (.lst vs)) (Kp.of (same_new n)) (Rg.same hd1 (same_new n)) _ ?_
    unfold RepN
    exact ⟨p, vs, rfl, k.none hd1 n, upd_same, l2, rep_upd n (fun a u e z => ⟨z, ne_of_none e n⟩) rs.toReps⟩⟩
/-! ### calls -/
theorem RepBs.toIs {b : Bool} {ρ : PEnv} {σ : St} {H : Hp} : ∀ {xs : List Vl} {vs : List V}, RepBs g b ρ σ H xs vs → RepIs g.K g.r.T (Bd g) (Ad g ρ σ) H xs vs
  | [], _, h => by unfold RepBs at h; unfold RepIs; exact h
  | x :: xs, _, h => by
    unfold RepBs at h
    unfold RepIs
    obtain ⟨v, r, e, h1, h2⟩ := h
    exact ⟨v, r, e, h1.i, h2.toIs⟩
theorem blt_ok {K : PySem.W.Frag} (hK : K = g.K) {bb : Bool} {op : List Vl → Option Vl} {fs : List (FE C)} {σ : St} {H : Hp} {Q : VK} (q : tE g true (fBlt op fs) σ H Q) : tCB (rPs N K g.r.T op) (tA g bb (seqA fs)) σ H Q := by
  obtain ⟨ρ, c, ei, hd, q⟩ := q
  refine ⟨ρ, c, ei, hd, (GoX.bind q).mono fun xs c1 H1 k hd1 w vs rs => ?_⟩
  obtain ⟨z, ez, w3⟩ := go_opt w
  subst hK
  exact ⟨xs, _, _, z, rs.toIs, ez, tE_last (ei.kp hd k) hd1 w3⟩
theorem blt_okN {K : PySem.W.Frag} (hK : K = g.K) {bb : Bool} {op : List Vl → Option Vl} {fs : List (FE C)} {σ : St} {H : Hp} {Q : VK} (q : tN g (fBlt op fs) σ H Q) : tCB (rPs true K g.r.T op) (tA g bb (seqA fs)) σ H Q := by
  obtain ⟨ρ, c, ei, hd, q⟩ := q
  refine ⟨ρ, c, ei, hd, (GoX.bind q).mono fun xs c1 H1 k hd1 w vs rs => ?_⟩
  obtain ⟨z, ez, w3⟩ := go_opt w
  subst hK
  exact ⟨xs, _, _, z, rs.toIs, ez, tN_last (f := fC z) (ei.kp hd k) hd1 k w3⟩
theorem de_blt {x : Str} {id : String} {op : List Vl → Option Vl} {bb : Bool} {fs : List (FE C)} (hK : X.K = g.K) (ho : CallP N X (.builtin id) op) (hg : Gl X x) (hm : X.mg x = none) (hv : bootBuiltins x = some (.builtin id)) (ha : PA X (e :: es) (tA g bb (seqA fs)))
    (hn : x ≠ "__name__" := by decide) (hdb : (x == ("__debug__" : Str)) = false := by decide)
    (he : starEach (e :: es) X.env = (false, eval e X.env) :: starEach es X.env := by rfl) (hpl : (backTo pos (starEach es X.env)).any (·.1) = false := by rfl) : PE X (.Call (.Name x p) (e :: es) [] pos) (tE g true (fBlt op fs)) :=
  (pe_callB (ho g.r.T) hg hm hv ha hn hdb he hpl).weak fun σ H Q q => blt_ok hK q
theorem de_bltN {x : Str} {id : String} {op : List Vl → Option Vl} {bb : Bool} {fs : List (FE C)} (hK : X.K = g.K) (ho : CallP true X (.builtin id) op) (hg : Gl X x) (hm : X.mg x = none) (hv : bootBuiltins x = some (.builtin id)) (ha : PA X (e :: es) (tA g bb (seqA fs)))
    (hn : x ≠ "__name__" := by decide) (hdb : (x == ("__debug__" : Str)) = false := by decide)
    (he : starEach (e :: es) X.env = (false, eval e X.env) :: starEach es X.env := by rfl) (hpl : (backTo pos (starEach es X.env)).any (·.1) = false := by rfl) : PE X (.Call (.Name x p) (e :: es) [] pos) (tN g (fBlt op fs)) :=
  (pe_callB (ho g.r.T) hg hm hv ha hn hdb he hpl).weak fun σ H Q q => blt_okN hK q
theorem de_ty {x : Str} {id : String} {op : List Vl → Option Vl} {bb : Bool} {fs : List (FE C)} (hK : X.K = g.K) (ho : CallP N X (.type id) op) (hg : Gl X x) (hm : X.mg x = none) (hv : bootBuiltins x = some (.type id)) (ha : PA X (e :: es) (tA g bb (seqA fs)))
    (hn : x ≠ "__name__" := by decide) (hdb : (x == ("__debug__" : Str)) = false := by decide)
    (he : starEach (e :: es) X.env = (false, eval e X.env) :: starEach es X.env := by rfl) (hpl : (backTo pos (starEach es X.env)).any (·.1) = false := by rfl) : PE X (.Call (.Name x p) (e :: es) [] pos) (tE g true (fBlt op fs)) :=
  (pe_callTy (ho g.r.T) hg hm hv ha hn hdb he hpl).weak fun σ H Q q => blt_ok hK q
theorem de_tyN {x : Str} {id : String} {op : List Vl → Option Vl} {bb : Bool} {fs : List (FE C)} (hK : X.K = g.K) (ho : CallP true X (.type id) op) (hg : Gl X x) (hm : X.mg x = none) (hv : bootBuiltins x = some (.type id)) (ha : PA X (e :: es) (tA g bb (seqA fs)))
    (hn : x ≠ "__name__" := by decide) (hdb : (x == ("__debug__" : Str)) = false := by decide)
    (he : starEach (e :: es) X.env = (false, eval e X.env) :: starEach es X.env := by rfl) (hpl : (backTo pos (starEach es X.env)).any (·.1) = false := by rfl) : PE X (.Call (.Name x p) (e :: es) [] pos) (tN g (fBlt op fs)) :=
  (pe_callTy (ho g.r.T) hg hm hv ha hn hdb he hpl).weak fun σ H Q q => blt_okN hK q
/-- what a def promises: it gives what F gives, over any register of the kind rgs -/
def spM {ι : Type} (K : PySem.W.Frag) (mg : Str → Option Value) (n : Nat) (rgs : ι → Rg C) (F : List Vl → M C Vl) : Sp := fun vs H Q E => ∃ j xs A c, xs.length = n ∧ Reps K (rgs j).T A H xs vs ∧ (∀ a, A a → ¬ (rgs j).rg a) ∧ (rgs j).held c H ∧
  match F xs c with
  | .ok r => ∀ v H', Kp (rgs j).rg H H' → (rgs j).held r.2 H' → Rep K (rgs j).T (fun a => A a ∨ H a = none) H' r.1 v → Q v H'
  | .ex nm => ∀ H', Kp (rgs j).rg H H' → E (clsOf mg nm) none H'
  | .bad => False
/-- registers of plain defs: none -/
def rg0 (T : Tk) : Rg Unit where
  T := T
  rg := fun _ => False
  held := fun _ _ => True
  hmut := fun _ _ _ _ h => h.elim
  hloc := fun _ _ _ _ _ => trivial
theorem call_ok {ι : Type} {rgs : ι → Rg C} {F : List Vl → M C Vl} {fs : List (FE C)} {K : PySem.W.Frag} (hK : K = g.K) (j : ι) (hj : g.r = rgs j) (hl : fs.length = n) {σ : St} {H : Hp} {Q : VK} (q : tE g true (fCall F fs) σ H Q) :
    tCall (spM K g.mg n rgs F) [] g.EX (tA g true (seqA fs)) σ H Q := by
  obtain ⟨ρ, c, ei, hd, q⟩ := q
  refine ⟨ρ, c, ei, hd, (GoX.bind q).len.mono fun xs c1 H1 k hd1 w vs rs => ?_⟩
  obtain ⟨l, w⟩ := w
  have ei1 := ei.kp hd k
  subst hK
  rw [List.append_nil]
  refine ⟨j, xs, Ad g ρ σ, c1, l.trans hl, by rw [← hj]; exact rs.toReps, fun a z => by rw [← hj]; exact z.1.2, by rw [← hj]; exact hd1, ?_⟩
  rw [← hj]
  cases e : F xs c1 with
  | ok r =>
    rw [e] at w
    exact fun v H' k2 hd2 rr => w H' k2 hd2 v (RepB.of (rr.move (fun a u e _ => e) (fun a _ _ z => z.elim (fun z => z) fun z => ei1.ad_new hd1 z)))
  | ex nm =>
    rw [e] at w
    exact w
  | bad =>
    rw [e] at w
    exact w
end
end PyA
/-! PyC: more calls; targets; what is walked; comprehensions. -/
namespace PyA
open PySem L2
section
variable {X : Cx} {C : Type} {g : Fx C} {e a b c : Expr} {es : List Expr} {pos p : Pos} {n : Nat}
theorem lif_go {α : Type} {H : Hp} {m : M Unit α} {cc : C} {Φ : α → C → Hp → Prop} (h : GoX g H (lif m cc) Φ) : match m () with
  | .ok r => ∀ H', Kp g.r.rg H H' → g.r.held cc H' → Φ r.1 cc H'
  | .ex nm => ∀ H', Kp g.r.rg H H' → g.EX (clsOf g.mg nm) none H'
  | .bad => False := by
  unfold lif at h
  cases e : m () with
  | ok r => rw [e] at h; exact h
  | ex nm => rw [e] at h; exact h
  | bad => rw [e] at h; exact h
theorem same_of_kp0 {T : Tk} {H H' : Hp} (k : Kp (rg0 T).rg H H') : Same H H' := fun a u e => k a u e fun z => z
/-- a plain def called where a register may go on -/
theorem callP_ok {F : List Vl → M Unit Vl} {fs : List (FE C)} {K : PySem.W.Frag} (hK : K = g.K) (hl : fs.length = n) {σ : St} {H : Hp} {Q : VK} (q : tE g true (fCallP F fs) σ H Q) :
    tCall (spM K g.mg n rg0 F) [] g.EX (tA g true (seqA fs)) σ H Q := by
  obtain ⟨ρ, c, ei, hd, q⟩ := q
  refine ⟨ρ, c, ei, hd, (GoX.bind q).len.mono fun xs c1 H1 k hd1 w vs rs => ?_⟩
  obtain ⟨l, w⟩ := w
  have ei1 := ei.kp hd k
  subst hK
  rw [List.append_nil]
  refine ⟨g.r.T, xs, Ad g ρ σ, (), l.trans hl, rs.toReps, fun a z => fun y => y, trivial, ?_⟩
  have w := lif_go w
  cases e : F xs () with
  | ok r =>
    rw [e] at w
    exact fun v H' k2 _ rr => w H' (Kp.of (same_of_kp0 k2)) (Rg.same hd1 (same_of_kp0 k2)) v (RepB.of (rr.move (fun a u e _ => e) (fun a _ _ z => z.elim (fun z => z) fun z => ei1.ad_new hd1 z)))
  | ex nm =>
    rw [e] at w
    exact fun H' k2 => w H' (Kp.of (same_of_kp0 k2))
  | bad =>
    rw [e] at w
    exact w
/-- .. upon names of one's own lists too: the answer must be what cannot change -/
theorem callI_ok {F : List Vl → M Unit Vl} {fs : List (FE C)} {K : PySem.W.Frag} (hK : K = g.K) (hl : fs.length = n) {bb : Bool} {σ : St} {H : Hp} {Q : VK} (q : tE g true (fImm (fCallP F fs)) σ H Q) :
    tCall (spM K g.mg n rg0 F) [] g.EX (tA g bb (seqA fs)) σ H Q := by
  obtain ⟨ρ, c, ei, hd, q⟩ := q
  refine ⟨ρ, c, ei, hd, (GoX.bind (GoX.bind q)).len.mono fun xs c1 H1 k hd1 w vs rs => ?_⟩
  obtain ⟨l, w⟩ := w
  have ei1 := ei.kp hd k
  subst hK
  rw [List.append_nil]
  refine ⟨g.r.T, xs, Bd g, (), l.trans hl, rs.toBd, fun a z => fun y => y, trivial, ?_⟩
  have w := lif_go w
  cases e : F xs () with
  | ok r =>
    rw [e] at w
    refine fun v H' k2 _ rr => ?_
    have w2 := w H' (Kp.of (same_of_kp0 k2)) (Rg.same hd1 (same_of_kp0 k2))
    by_cases i : imm r.1 = true
    · rw [if_pos i] at w2
      exact GoX.ret (Rg.same hd1 (same_of_kp0 k2)) w2 v (RepB.of (Rep.imm _ _ i rr))
    · rw [if_neg i] at w2
      exact w2.elim
  | ex nm =>
    rw [e] at w
    exact fun H' k2 => w H' (Kp.of (same_of_kp0 k2))
  | bad =>
    rw [e] at w
    exact w
def ownable : Vl → Bool
  | .lst xs => imms xs
  | .dk _ xs => imms xs
  | _ => false
/-- a call that makes a list for a name to own: plain arguments, plain items -/
def fCallN {C : Type} (F : List Vl → M Unit Vl) (fs : List (FE C)) : FE C := fun ρ => bnd (seqA fs ρ) fun xs => if imms xs = true then bnd (lif (F xs)) fun z => (if ownable z = true then ret z else bad) else bad
theorem reps_of_imms {K : PySem.W.Frag} {T : Tk} {B A A' : Addr → Prop} {H : Hp} : ∀ {xs : List Vl} {vs : List V}, imms xs = true → RepIs K T B A H xs vs → Reps K T A' H xs vs
  | [], _, _, h => by unfold RepIs at h; unfold Reps; exact h
  | x :: xs, _, i, h => by
    unfold RepIs at h
    unfold Reps
    unfold imms at i
    rw [Bool.and_eq_true] at i
    obtain ⟨v, r, e, h1, h2⟩ := h
    exact ⟨v, r, e, rep_imm i.1 h1, reps_of_imms i.2 h2⟩
theorem callN_ok {F : List Vl → M Unit Vl} {fs : List (FE C)} {K : PySem.W.Frag} (hK : K = g.K) (hl : fs.length = n) {bb : Bool} {σ : St} {H : Hp} {Q : VK} (q : tN g (fCallN F fs) σ H Q) :
    tCall (spM K g.mg n rg0 F) [] g.EX (tA g bb (seqA fs)) σ H Q := by
  obtain ⟨ρ, c, ei, hd, q⟩ := q
  refine ⟨ρ, c, ei, hd, (GoX.bind q).len.mono fun xs c1 H1 k hd1 w vs rs => ?_⟩
  obtain ⟨l, w⟩ := w
  have ei1 := ei.kp hd k
  subst hK
  rw [List.append_nil]
  by_cases i : imms xs = true
  · rw [if_pos i] at w
    refine ⟨g.r.T, xs, fun _ => False, (), l.trans hl, reps_of_imms i rs.toIs, fun a z => z.elim, trivial, ?_⟩
    have w := lif_go (GoX.bind w)
    cases e : F xs () with
    | ok r =>
      rw [e] at w
      refine fun v H' k2 _ rr => ?_
      have hd2 := Rg.same hd1 (same_of_kp0 k2)
      have w2 := w H' (Kp.of (same_of_kp0 k2)) hd2
      by_cases i2 : ownable r.1 = true
      · rw [if_pos i2] at w2
        refine GoX.ret hd2 w2 v ?_
        cases er : r.1 with
        | lst ys =>
          rw [er] at i2 rr
          unfold Rep at rr
          unfold RepN
          obtain ⟨p, us, e1, n1, q1, l1, r1⟩ := rr
          exact ⟨p, us, e1, k.none hd1 (n1.elim (fun z => z.elim) fun z => z), q1, l1, Reps.imm _ _ i2 r1⟩
        | dk ks ys =>
          rw [er] at i2 rr
          unfold Rep at rr
          unfold RepN
          obtain ⟨p, us, e1, n1, q1, l1, m1, r1⟩ := rr
          exact ⟨p, us, e1, k.none hd1 (n1.elim (fun z => z.elim) fun z => z), q1, l1, m1, Reps.imm _ _ i2 r1⟩
        | _ => rw [er] at i2; cases i2
      · rw [if_neg i2] at w2
        exact w2.elim
    | ex nm =>
      rw [e] at w
      exact fun H' k2 => w H' (Kp.of (same_of_kp0 k2))
    | bad =>
      rw [e] at w
      exact w
  · rw [if_neg i] at w
    exact w.elim
section
variable {CX : CXT} {k : Nat} {f : Addr} {fd : FuncData} {ps : List Str} {x : Str} {ι : Type} {rgs : ι → Rg C}
theorem de_callM {F : List Vl → M C Vl} {fs : List (FE C)} (hK : X.K = g.K) (hm' : X.mg = g.mg) (G : FnOk X.prog X.w X.K X.mg X.base CX k f fd ps (spM X.K X.mg n rgs F)) (hr : Room k X.A) (hg : Gl X x) (hm : X.mg x = some (.ref f)) (hk : PySem.W.keepIn X.K (.ref f) = true) (hb : Binds X.K fd ps [])
    (hx : Passes CX X g.EX) (j : ι) (hj : g.r = rgs j) (hl : fs.length = n) (ha : PA X (e :: es) (tA g true (seqA fs))) (hdb : (x == ("__debug__" : Str)) = false := by decide) (he : starEach (e :: es) X.env = (false, eval e X.env) :: starEach es X.env := by rfl)
    (hpl : (backTo pos (starEach es X.env)).any (·.1) = false := by rfl) : PE X (.Call (.Name x p) (e :: es) [] pos) (tE g true (fCall F fs)) :=
  (pe_call G hr hg hm hk hb .nil hx ha hdb he hpl).weak fun σ H Q q => by
    rw [hm']
    exact call_ok hK j hj hl q
theorem de_callP {F : List Vl → M Unit Vl} {fs : List (FE C)} (hK : X.K = g.K) (hm' : X.mg = g.mg) (G : FnOk X.prog X.w X.K X.mg X.base CX k f fd ps (spM X.K X.mg n rg0 F)) (hr : Room k X.A) (hg : Gl X x) (hm : X.mg x = some (.ref f)) (hk : PySem.W.keepIn X.K (.ref f) = true) (hb : Binds X.K fd ps [])
    (hx : Passes CX X g.EX) (hl : fs.length = n) (ha : PA X (e :: es) (tA g true (seqA fs))) (hdb : (x == ("__debug__" : Str)) = false := by decide) (he : starEach (e :: es) X.env = (false, eval e X.env) :: starEach es X.env := by rfl)
    (hpl : (backTo pos (starEach es X.env)).any (·.1) = false := by rfl) : PE X (.Call (.Name x p) (e :: es) [] pos) (tE g true (fCallP F fs)) :=
  (pe_call G hr hg hm hk hb .nil hx ha hdb he hpl).weak fun σ H Q q => by
    rw [hm']
    exact callP_ok hK hl q
theorem de_callI {F : List Vl → M Unit Vl} {fs : List (FE C)} {bb : Bool} (hK : X.K = g.K) (hm' : X.mg = g.mg) (G : FnOk X.prog X.w X.K X.mg X.base CX k f fd ps (spM X.K X.mg n rg0 F)) (hr : Room k X.A) (hg : Gl X x) (hm : X.mg x = some (.ref f)) (hk : PySem.W.keepIn X.K (.ref f) = true) (hb : Binds X.K fd ps [])
    (hx : Passes CX X g.EX) (hl : fs.length = n) (ha : PA X (e :: es) (tA g bb (seqA fs))) (hdb : (x == ("__debug__" : Str)) = false := by decide) (he : starEach (e :: es) X.env = (false, eval e X.env) :: starEach es X.env := by rfl)
    (hpl : (backTo pos (starEach es X.env)).any (·.1) = false := by rfl) : PE X (.Call (.Name x p) (e :: es) [] pos) (tE g true (fImm (fCallP F fs))) :=
  (pe_call G hr hg hm hk hb .nil hx ha hdb he hpl).weak fun σ H Q q => by
    rw [hm']
    exact callI_ok hK hl q
theorem de_callN {F : List Vl → M Unit Vl} {fs : List (FE C)} {bb : Bool} (hK : X.K = g.K) (hm' : X.mg = g.mg) (G : FnOk X.prog X.w X.K X.mg X.base CX k f fd ps (spM X.K X.mg n rg0 F)) (hr : Room k X.A) (hg : Gl X x) (hm : X.mg x = some (.ref f)) (hk : PySem.W.keepIn X.K (.ref f) = true) (hb : Binds X.K fd ps [])
    (hx : Passes CX X g.EX) (hl : fs.length = n) (ha : PA X (e :: es) (tA g bb (seqA fs))) (hdb : (x == ("__debug__" : Str)) = false := by decide) (he : starEach (e :: es) X.env = (false, eval e X.env) :: starEach es X.env := by rfl)
    (hpl : (backTo pos (starEach es X.env)).any (·.1) = false := by rfl) : PE X (.Call (.Name x p) (e :: es) [] pos) (tN g (fCallN F fs)) :=
  (pe_call G hr hg hm hk hb .nil hx ha hdb he hpl).weak fun σ H Q q => by
    rw [hm']
    exact callN_ok hK hl q
end
/-! ### targets -/
abbrev Bnd := Vl → PEnv → Option PEnv
def bName (i : Nat) : Bnd := fun x ρ => some (ρ.set i (some x))
def bAll : List Bnd → List Vl → PEnv → Option PEnv
  | [], [], ρ => some ρ
  | b :: bs, x :: xs, ρ => (b x ρ).bind fun ρ1 => bAll bs xs ρ1
  | _, _, _ => none
def bTup (bs : List Bnd) : Bnd := fun x ρ => match x with
  | .tup xs => bAll bs xs ρ
  | _ => none
theorem bAll_len : ∀ (bs : List Bnd) (xs : List Vl) (ρ ρ' : PEnv), bAll bs xs ρ = some ρ' → xs.length = bs.length
  | [], [], _, _, _ => rfl
  | [], _ :: _, _, _, h => by cases h
  | _ :: _, [], _, _, h => by cases h
  | b :: bs, x :: xs, ρ, ρ', h => by
    have h : (b x ρ).bind (fun ρ1 => bAll bs xs ρ1) = some ρ' := h
    cases e : b x ρ with
    | none => rw [e] at h; cases h
    | some ρ1 =>
      rw [e] at h
      exact congrArg Nat.succ (bAll_len bs xs ρ1 ρ' h)
theorem own_set {i : Nat} (ho : g.own i = false) {ρ : PEnv} {σ : St} {y : Option Vl} {w : Option V} {a : Addr} : Own g (ρ.set i y) (σ.set i w) a ↔ Own g ρ σ a := by
  have ne : ∀ j, g.own j = true → i ≠ j := fun j h z => by
    subst z
    rw [ho] at h
    cases h
  constructor
  · rintro ⟨j, x, o, e, e2⟩
    rw [List.getElem?_set_ne (ne j o)] at e e2
    exact ⟨j, x, o, e, e2⟩
  · rintro ⟨j, x, o, e, e2⟩
    exact ⟨j, x, o, by rw [List.getElem?_set_ne (ne j o)]; exact e, by rw [List.getElem?_set_ne (ne j o)]; exact e2⟩
theorem ad_set {i : Nat} (ho : g.own i = false) {ρ : PEnv} {σ : St} {y : Option Vl} {w : Option V} {a : Addr} : Ad g ρ σ a → Ad g (ρ.set i y) (σ.set i w) a := fun z => ⟨z.1, fun q => z.2 ((own_set ho).mp q)⟩
theorem OwnAt.move {ρ ρ' : PEnv} {σ σ' : St} {H : Hp} {x : Vl} {v : V} (ka : ∀ a, Ad g ρ σ a → Ad g ρ' σ' a) (h : OwnAt g ρ σ H x v) : OwnAt g ρ' σ' H x v := by
  cases x with
  | lst xs =>
    unfold OwnAt at h ⊢
    obtain ⟨p, vs, e2, n, nr, q, l, r⟩ := h
    exact ⟨p, vs, e2, n, nr, q, l, r.move (fun _ _ e _ => e) fun a _ _ z => ka a z⟩
  | dk ks xs =>
    unfold OwnAt at h ⊢
    obtain ⟨p, vs, e2, n, nr, q, l, m, r⟩ := h
    exact ⟨p, vs, e2, n, nr, q, l, m, r.move (fun _ _ e _ => e) fun a _ _ z => ka a z⟩
  | _ => exact h
/-- a name that owns nothing takes a value, or is forgotten -/
theorem EI.set {i : Nat} {ρ : PEnv} {σ : St} {H : Hp} (ei : EI g ρ σ H) (ho : g.own i = false) {y : Option Vl} {w : Option V} (hy : ∀ x, y = some x → ∃ v, w = some v ∧ Rep g.K g.r.T (Ad g ρ σ) H x v) : EI g (ρ.set i y) (σ.set i w) H := by
  refine ⟨by rw [List.length_set, List.length_set]; exact ei.len, ei.keep, fun j x e => ?_, fun j k x y p oj ok e1 e2 e3 e4 => ?_⟩
  · by_cases hj : i = j
    · subst hj
      have hl : i < ρ.length := by
        by_cases hl : i < ρ.length
        · exact hl
        · rw [List.getElem?_eq_none (by rw [List.length_set]; omega)] at e
          cases e
      rw [List.getElem?_set_self hl] at e
      obtain ⟨v, e5, r⟩ := hy x (Option.some.inj e)
      refine ⟨v, by rw [List.getElem?_set_self (by rw [← ei.len]; exact hl), e5], ?_⟩
      rw [if_neg (by rw [ho]; exact Bool.false_ne_true)]
      exact r.move (fun _ _ e _ => e) fun a _ _ z => ad_set ho z
    · rw [List.getElem?_set_ne hj] at e
      obtain ⟨v, e1, h⟩ := ei.slot j x e
      refine ⟨v, by rw [List.getElem?_set_ne hj]; exact e1, ?_⟩
      by_cases o : g.own j = true
      · rw [if_pos o] at h ⊢
        exact h.move fun a z => ad_set ho z
      · rw [if_neg o] at h ⊢
        exact h.move (fun _ _ e _ => e) fun a _ _ z => ad_set ho z
  · have nj : i ≠ j := fun z => by rw [z] at ho; rw [ho] at oj; cases oj
    have nk : i ≠ k := fun z => by rw [z] at ho; rw [ho] at ok; cases ok
    rw [List.getElem?_set_ne nj] at e1 e3
    rw [List.getElem?_set_ne nk] at e2 e4
    exact ei.dist j k x y p oj ok e1 e2 e3 e4
/-- the slots vs may have changed, none of them an own one -/
structure Sets (g : Fx C) (vs : List Nat) (ρ : PEnv) (σ : St) (ρ' : PEnv) (σ' : St) : Prop where
  wip : ∀ ws : List Nat, (∀ i ∈ vs, i ∈ ws) → wipe σ' ws = wipe σ ws
  own : ∀ a, Own g ρ' σ' a ↔ Own g ρ σ a
theorem Sets.ad {vs : List Nat} {ρ ρ' : PEnv} {σ σ' : St} (s : Sets g vs ρ σ ρ' σ') {a : Addr} : Ad g ρ σ a ↔ Ad g ρ' σ' a := ⟨fun z => ⟨z.1, fun q => z.2 ((s.own a).mp q)⟩, fun z => ⟨z.1, fun q => z.2 ((s.own a).mpr q)⟩⟩
theorem Sets.refl {vs : List Nat} {ρ : PEnv} {σ : St} : Sets g vs ρ σ ρ σ := ⟨fun _ _ => rfl, fun _ => Iff.rfl⟩
theorem Sets.trans {vs ws : List Nat} {ρ ρ1 ρ2 : PEnv} {σ σ1 σ2 : St} (s : Sets g vs ρ σ ρ1 σ1) (t : Sets g ws ρ1 σ1 ρ2 σ2) : Sets g (vs ++ ws) ρ σ ρ2 σ2 :=
  ⟨fun us h => (t.wip us fun i q => h i (List.mem_append_right _ q)).trans (s.wip us fun i q => h i (List.mem_append_left _ q)), fun a => (t.own a).trans (s.own a)⟩
theorem wipe_set {σ : St} {i : Nat} {w : Option V} : ∀ {ws : List Nat}, i ∈ ws → wipe (σ.set i w) ws = wipe σ ws
  | [], h => nomatch h
  | j :: ws, h => by
    unfold wipe
    by_cases hj : i ∈ ws
    · rw [wipe_set hj]
    · have e : i = j := (List.mem_cons.mp h).elim (fun z => z) fun z => absurd z hj
      subst e
      have key : ∀ us : List Nat, i ∉ us → wipe (σ.set i w) us = (wipe σ us).set i w := by
        intro us
        induction us with
        | nil => intro _; rfl
        | cons u us ih =>
          intro hu
          unfold wipe
          rw [ih fun z => hu (List.mem_cons_of_mem _ z), List.set_comm _ _ (fun z => hu (by rw [z]; exact List.mem_cons_self))]
      rw [key ws hj, List.set_set]
theorem Sets.one {i : Nat} (ho : g.own i = false) {ρ : PEnv} {σ : St} {y : Option Vl} {w : Option V} : Sets g [i] ρ σ (ρ.set i y) (σ.set i w) :=
  ⟨fun ws h => wipe_set (h i List.mem_cons_self), fun _ => own_set ho⟩
/-- a target takes a value -/
def tG (g : Fx C) (vs : List Nat) (bd : Bnd) : TG := fun v σ H Q => ∃ ρ c x ρ', EI g ρ σ H ∧ g.r.held c H ∧ Rep g.K g.r.T (Ad g ρ σ) H x v ∧ bd x ρ = some ρ' ∧ ∀ σ', EI g ρ' σ' H → Sets g vs ρ σ ρ' σ' → Q σ' H
def tGs (g : Fx C) (vs : List Nat) (bds : List Bnd) : TGs := fun us σ H Q => ∃ ρ c xs ρ', EI g ρ σ H ∧ g.r.held c H ∧ Reps g.K g.r.T (Ad g ρ σ) H xs us ∧ bAll bds xs ρ = some ρ' ∧ ∀ σ', EI g ρ' σ' H → Sets g vs ρ σ ρ' σ' → Q σ' H
theorem _root_.L2.PG.weak {t t' : TG} (h : PG X e t) (k : ∀ v σ H Q, t' v σ H Q → t v σ H Q) : PG X e t' := ⟨fun pins s σ H v u Q I r q => h.run pins s σ H v u Q I r (k _ _ _ _ q)⟩
theorem _root_.L2.PGs.weak {t t' : TGs} (h : PGs X es t) (k : ∀ v σ H Q, t' v σ H Q → t v σ H Q) : PGs X es t' := ⟨fun pins s σ H v u Q I r q => h.run pins s σ H v u Q I r (k _ _ _ _ q)⟩
theorem dg_name {i : Nat} {x : Str} (hN : X.N.Nodup) (hi : X.N[i]? = some x) (hx : Loc X.env.scope x) (ho : g.own i = false) (hf : X.fn x = true ∨ X.env.scope.names.lookup x = some .local := by first | exact .inl rfl | exact .inr rfl | assumption) :
    PG X (.Name x pos) (tG g [i] (bName i)) :=
  (pg_name hN hi hx hf).weak fun v σ H Q ⟨ρ, c, x, ρ', ei, hd, r, e, q⟩ => by
    cases e
    exact q _ (ei.set ho fun y ey => ⟨v, rfl, by cases ey; exact r⟩) (Sets.one ho)
theorem dgs_nil : PGs X [] (tGs g [] []) := pgs_nil.weak fun us σ H Q ⟨ρ, c, xs, ρ', ei, hd, r, e, q⟩ => by
  cases xs with
  | nil =>
    cases e
    unfold Reps at r
    exact ⟨r, q σ ei Sets.refl⟩
  | cons x xs => cases e
theorem dgs_cons {vs ws : List Nat} {bd : Bnd} {bds : List Bnd} (h1 : PG X e (tG g vs bd)) (h2 : PGs X es (tGs g ws bds)) (hs : (assignEach (e :: es) X.env).map (·.2) = assign e X.env :: (assignEach es X.env).map (·.2) := by rfl) :
    PGs X (e :: es) (tGs g (vs ++ ws) (bd :: bds)) :=
  (pgs_cons h1 h2 hs).weak fun us σ H Q ⟨ρ, c, xs, ρ', ei, hd, r, e, q⟩ => by
    cases xs with
    | nil => cases e
    | cons x xs =>
      unfold Reps at r
      obtain ⟨v, us, rfl, r1, r2⟩ := r
      have e' : (bd x ρ).bind (fun ρ1 => bAll bds xs ρ1) = some ρ' := e
      cases e1 : bd x ρ with
      | none => rw [e1] at e'; cases e'
      | some ρ1 =>
        rw [e1] at e'
        exact ⟨v, us, rfl, ρ, c, x, ρ1, ei, hd, r1, e1, fun σ' ei' s' => ⟨ρ1, c, xs, ρ', ei', hd, r2.move (fun _ _ e _ => e) (fun a _ _ z => s'.ad.mp z), e', fun σ2 ei2 s2 => q σ2 ei2 (s'.trans s2)⟩⟩
theorem dg_tup {vs : List Nat} {bds : List Bnd} {m k : Nat} (hK : X.K = g.K) (hc : X.calm = true) (h : PGs X es (tGs g vs bds)) (hl : bds.length = m) (hn : (assignEach es X.env).length = m := by rfl) (hst : (assignEach es X.env).findIdx? (·.1) = none := by rfl) :
    PG X (.Tuple es k pos) (tG g vs (bTup bds)) :=
  (pg_tup (n := m) hc h hn hst).weak fun v σ H Q ⟨ρ, c, x, ρ', ei, hd, r, e, q⟩ => by
    cases x with
    | tup xs =>
      unfold Rep at r
      obtain ⟨p, us, rfl, sq, l, rs⟩ := r
      rw [hK]
      have e' : bAll bds xs ρ = some ρ' := e
      refine ⟨p, us, rfl, sq, ?_, ρ, c, xs, ρ', ei, hd, rs, e', q⟩
      rw [rs.len, ← hl]
      exact bAll_len bds xs ρ ρ' e'
    | _ => cases e
/-! ### what is walked -/
/-- J walks items: as long as the things in L stand; b: none of them is a list that a name owns -/
def GW (g : Fx C) (b : Bool) (ρ : PEnv) (σ : St) (H : Hp) (J : It) (items : List Vl) : Prop := ∃ L : List (Addr × HO), (∀ q ∈ L, H q.1 = some q.2 ∧ ¬ g.r.rg q.1 ∧ (b = true → ¬ Own g ρ σ q.1)) ∧ items.length ≤ sizeLine ∧
  Walk J items.length (fun H' => ∀ q ∈ L, H' q.1 = some q.2) fun i H1 v H2 => Same H1 H2 ∧ ∀ A' : Addr → Prop, (∀ a u, H a = some u → (Mut (some u) → Ad g ρ σ a) → H1 a = some u) → (∀ a u, H a = some u → Ad g ρ σ a → A' a) → ∀ x, items[i]? = some x → Rep g.K g.r.T A' H2 x v
def tI (g : Fx C) (b : Bool) (f : PEnv → M C (List Vl)) : TI := fun σ H R => ∃ ρ c, EI g ρ σ H ∧ g.r.held c H ∧ GoX g H (f ρ c) fun items _ H' => ∀ J, GW g b ρ σ H' J items → R J H'
theorem _root_.L2.PI.weak {tg : Expr} {t t' : TI} (h : PI X tg e t) (k : ∀ σ H R, t' σ H R → t σ H R) : PI X tg e t' := ⟨fun pins s σ H R I q => h.run pins s σ H R I (k _ _ _ q)⟩
theorem _root_.L2.PI.or {tg : Expr} {t t' : TI} (h : PI X tg e t) (h' : PI X tg e t') : PI X tg e (fun σ H R => t σ H R ∨ t' σ H R) := ⟨fun pins s σ H R I q => q.elim (h.run pins s σ H R I) (h'.run pins s σ H R I)⟩
/-- the items of what is walked by itself -/
def items : Vl → Option (List Vl)
  | .lst xs => some xs
  | .tup xs => some xs
  | .str z => if z.length ≤ sizeLine then some (z.map fun c => .str [c]) else none
  | _ => none
def iAny (f : FE C) : PEnv → M C (List Vl) := fun ρ => bnd (f ρ) fun x => opt (items x)
theorem sq_pin {K : PySem.W.Frag} {H : Hp} {p : Addr} {vs : List V} (h : SqT K H p vs) : ∃ L : List (Addr × HO), (∀ q ∈ L, H q.1 = some q.2 ∧ ¬ Mut (some q.2)) ∧ ∀ H' : Hp, (∀ q ∈ L, H' q.1 = some q.2) → SqT K H' p vs := by
  rcases h with (h | ⟨o, h⟩) | h
  · exact ⟨[(p, .tup vs)], fun q hq => by rw [List.mem_singleton.mp hq]; exact ⟨h, fun z => z⟩, fun H' k => .inl (.inl (k _ (List.mem_singleton.mpr rfl)))⟩
  · exact ⟨[(p, .frz o (.tup vs))], fun q hq => by rw [List.mem_singleton.mp hq]; exact ⟨h, fun z => z⟩, fun H' k => .inl (.inr ⟨o, k _ (List.mem_singleton.mpr rfl)⟩)⟩
  · exact ⟨[], fun q hq => absurd hq (List.not_mem_nil), fun H' _ => .inr h⟩
theorem nomut_rg {H : Hp} {cc : C} (hd : g.r.held cc H) {q : Addr} {u : HO} (e : H q = some u) (nm : ¬ Mut (some u)) : ¬ g.r.rg q := fun z => by
  have := g.r.hmut cc H q hd z
  rw [e] at this
  exact nm this
theorem nomut_own {ρ : PEnv} {σ : St} {H : Hp} (ei : EI g ρ σ H) {q : Addr} {u : HO} (e : H q = some u) (nm : ¬ Mut (some u)) : ¬ Own g ρ σ q := fun z => by
  obtain ⟨w, e2, m, _⟩ := ei.own_some z
  rw [e] at e2
  cases e2
  exact nm m
theorem di_any {tg : Expr} {ba : Bool} {f : FE C} (hK : X.K = g.K) (he : PE X e (tE g ba f)) : PI X tg e (tI g ba (iAny f)) :=
  ((pi_list he).or ((pi_tup he).or (pi_str he))).weak fun σ H R ⟨ρ, c, ei, hd, q⟩ => by
    have q2 := GoX.bind q
    -- by the kind of what is walked
    have main : ∀ x : Vl, (∃ c', f ρ c = .ok (x, c')) → (iList X.K (tE g ba f) σ H R ∨ iTup X.K (tE g ba f) σ H R ∨ iStr (tE g ba f) σ H R) := by
      rintro x ⟨c', ef⟩
      have q3 := q2
      rw [ef] at q3
      cases x with
      | lst xs =>
        refine .inl ⟨ρ, c, ei, hd, ?_⟩
        rw [ef]
        intro H1 k hd1 v rv
        have w := q3 H1 k hd1
        obtain ⟨z, ez, w3⟩ := go_opt w
        cases ez
        have ri := rv.i
        unfold RepI at ri
        obtain ⟨p, vs, rfl, bp, hp, l, rs⟩ := ri
        refine ⟨p, rfl, ⟨vs, SqL.of hp⟩, w3 H1 Kp.refl hd1 _ ⟨[(p, .lst vs)], fun q hq => ?_, by rw [← rs.len]; exact l, ?_⟩⟩
        · rw [List.mem_singleton.mp hq]
          refine ⟨hp, bp.2, fun hb => ?_⟩
          subst hb
          unfold RepB at rv
          rw [if_pos rfl] at rv
          unfold Rep at rv
          obtain ⟨p', vs', e1, a1, _⟩ := rv
          cases e1
          exact a1.2
        · rw [← rs.len, hK]
          refine (walk_list (K := g.K) (a := p) (xs := vs)).mono (fun H' h => SqL.of (h _ (List.mem_singleton.mpr rfl))) fun i H' v H2 hi _ y => ?_
          obtain ⟨rfl, ev⟩ := y
          refine ⟨Same.refl _, fun A' ka kb x ex => ?_⟩
          obtain ⟨v', ev', rx⟩ := rs.get ex
          rw [ev] at ev'
          cases ev'
          exact rx.move ka kb
      | tup xs =>
        refine .inr (.inl ⟨ρ, c, ei, hd, ?_⟩)
        rw [ef]
        intro H1 k hd1 v rv
        have w := q3 H1 k hd1
        obtain ⟨z, ez, w3⟩ := go_opt w
        cases ez
        have ri := rv.i
        unfold RepI Rep at ri
        obtain ⟨p, vs, rfl, hp, l, rs⟩ := ri
        obtain ⟨L, hL, hL2⟩ := sq_pin hp
        rw [hK]
        refine ⟨p, rfl, ⟨vs, hp⟩, w3 H1 Kp.refl hd1 _ ⟨L, fun q hq => ?_, by rw [← rs.len]; exact l, ?_⟩⟩
        · obtain ⟨h1, h2⟩ := hL q hq
          exact ⟨h1, nomut_rg hd1 h1 h2, fun _ => nomut_own (ei.kp hd k) h1 h2⟩
        · rw [← rs.len]
          refine (walk_tup (K := g.K) (a := p) (xs := vs)).mono (fun H' h => hL2 H' h) fun i H' v H2 hi _ y => ?_
          obtain ⟨rfl, ev⟩ := y
          refine ⟨Same.refl _, fun A' ka kb x ex => ?_⟩
          obtain ⟨v', ev', rx⟩ := rs.get ex
          rw [ev] at ev'
          cases ev'
          exact rx.move ka kb
      | str z =>
        refine .inr (.inr ⟨ρ, c, ei, hd, ?_⟩)
        rw [ef]
        intro H1 k hd1 v rv
        have w := q3 H1 k hd1
        obtain ⟨its, ez, w3⟩ := go_opt w
        have ez : (if z.length ≤ sizeLine then some (z.map fun c => Vl.str [c]) else none) = some its := ez
        by_cases l : z.length ≤ sizeLine
        · rw [if_pos l] at ez
          cases ez
          have ri := rv.i
          unfold RepI Rep at ri
          subst ri
          refine ⟨_, rfl, w3 H1 Kp.refl hd1 _ ⟨[], fun q hq => absurd hq List.not_mem_nil, by rw [List.length_map]; exact l, ?_⟩⟩
          rw [List.length_map]
          have hz : z.length = (⟨z.toArray⟩ : Str).cps.size := by simp
          rw [hz]
          refine (walk_str (z := ⟨z.toArray⟩)).mono (fun _ _ => trivial) fun i H' v H2 hi _ y => ?_
          obtain ⟨rfl, d, ed, rfl⟩ := y
          refine ⟨Same.refl _, fun A' ka kb x ex => ?_⟩
          rw [List.getElem?_map] at ex
          have ed : z[i]? = some d := by simpa using ed
          rw [ed] at ex
          cases ex
          unfold Rep
          rfl
        · rw [if_neg l] at ez
          cases ez
      | _ =>
        cases ef2 : f ρ c with
        | ok r => rw [ef] at ef2; cases ef2; exact .inl ⟨ρ, c, ei, hd, by
            rw [ef]
            intro H1 k hd1 v rv
            obtain ⟨z, ez, w3⟩ := go_opt (q3 H1 k hd1)
            cases ez⟩
        | ex n => rw [ef] at ef2; cases ef2
        | bad => rw [ef] at ef2; cases ef2
    cases ef : f ρ c with
    | ok r => exact main r.1 ⟨r.2, by rw [ef]⟩
    | ex n =>
      refine .inl ⟨ρ, c, ei, hd, ?_⟩
      rw [ef] at q2 ⊢
      exact q2
    | bad =>
      rw [ef] at q2
      exact q2.elim
/-- the ints of range(lo, hi) -/
def rangeI (lo hi : Int) : List Vl := (List.range (hi - lo).toNat).map fun (k : Nat) => .int (lo + k)
def iRange1 : List Vl → Option (List Vl)
  | [.int hi] => if (hi - 0).toNat ≤ sizeLine ∧ -(2 ^ 62) ≤ hi ∧ hi < 2 ^ 62 then some (rangeI 0 hi) else none
  | _ => none
def iRange2 : List Vl → Option (List Vl)
  | [.int lo, .int hi] => if (hi - lo).toNat ≤ sizeLine ∧ -(2 ^ 62) ≤ lo ∧ lo < 2 ^ 62 ∧ -(2 ^ 62) ≤ hi ∧ hi < 2 ^ 62 then some (rangeI lo hi) else none
  | _ => none
def iBlt (op : List Vl → Option (List Vl)) (fs : List (FE C)) : PEnv → M C (List Vl) := fun ρ => bnd (seqA fs ρ) fun xs => opt (op xs)
theorem gw_range {b : Bool} {ρ : PEnv} {σ : St} {H : Hp} {lo hi : Int} (l : (hi - lo).toNat ≤ sizeLine) : GW g b ρ σ H (Itr lo (hi - lo).toNat) (rangeI lo hi) := by
  have hl : (rangeI lo hi).length = (hi - lo).toNat := by unfold rangeI; rw [List.length_map, List.length_range]
  refine ⟨[], fun q hq => absurd hq List.not_mem_nil, by rw [hl]; exact l, ?_⟩
  rw [hl]
  refine (walk_range (lo := lo) (n := (hi - lo).toNat)).mono (fun _ _ => trivial) fun i H' v H2 hi' _ y => ?_
  obtain ⟨rfl, rfl⟩ := y
  refine ⟨Same.refl _, fun A' ka kb x ex => ?_⟩
  unfold rangeI at ex
  rw [List.getElem?_map, List.getElem?_range hi'] at ex
  cases ex
  unfold Rep
  rfl
theorem vals_int1 {K : PySem.W.Frag} {T : Tk} {B A : Addr → Prop} {H : Hp} {i : Int} {vs : List V} (h : RepIs K T B A H [.int i] vs) : vs = [.int i] := by
  unfold RepIs at h
  obtain ⟨v, r, rfl, h1, h2⟩ := h
  unfold RepIs at h2
  unfold RepI Rep at h1
  rw [h1, h2]
theorem vals_int2 {K : PySem.W.Frag} {T : Tk} {B A : Addr → Prop} {H : Hp} {i j : Int} {vs : List V} (h : RepIs K T B A H [.int i, .int j] vs) : vs = [.int i, .int j] := by
  unfold RepIs at h
  obtain ⟨v, r, rfl, h1, h2⟩ := h
  rw [vals_int1 h2]
  unfold RepI Rep at h1
  rw [h1]
theorem di_range1 {tg : Expr} {bb b : Bool} {fs : List (FE C)} (hg : Gl X "range") (hm : X.mg "range" = none) (ha : PA X [a] (tA g bb (seqA fs))) (hs : starEach [a] X.env = [(false, eval a X.env)] := by rfl) : PI X tg (.Call (.Name "range" p) [a] [] pos) (tI g b (iBlt iRange1 fs)) :=
  (pi_range1 hg hm ha hs).weak fun σ H R ⟨ρ, c, ei, hd, q⟩ => ⟨ρ, c, ei, hd, (GoX.bind q).mono fun xs c1 H1 k hd1 w vs rs => by
    obtain ⟨z, ez, w3⟩ := go_opt w
    have rs := rs.toIs
    unfold iRange1 at ez
    split at ez
    · rename_i hi
      split at ez
      · rename_i h
        cases ez
        have w4 := w3 H1 Kp.refl hd1 _ (gw_range h.1)
        rw [Int.sub_zero] at w4
        exact ⟨_, vals_int1 rs, h.2.1, h.2.2, w4⟩
      · cases ez
    · cases ez⟩
theorem di_range2 {tg : Expr} {bb b' : Bool} {fs : List (FE C)} (hg : Gl X "range") (hm : X.mg "range" = none) (ha : PA X [a, b] (tA g bb (seqA fs))) (hs : starEach [a, b] X.env = [(false, eval a X.env), (false, eval b X.env)] := by rfl) (hs2 : starEach [b] X.env = [(false, eval b X.env)] := by rfl) :
    PI X tg (.Call (.Name "range" p) [a, b] [] pos) (tI g b' (iBlt iRange2 fs)) :=
  (pi_range2 hg hm ha hs hs2).weak fun σ H R ⟨ρ, c, ei, hd, q⟩ => ⟨ρ, c, ei, hd, (GoX.bind q).mono fun xs c1 H1 k hd1 w vs rs => by
    obtain ⟨z, ez, w3⟩ := go_opt w
    have rs := rs.toIs
    unfold iRange2 at ez
    split at ez
    · rename_i lo hi
      split at ez
      · rename_i h
        cases ez
        exact ⟨_, _, vals_int2 rs, h.2, w3 H1 Kp.refl hd1 _ (gw_range h.1)⟩
      · cases ez
    · cases ez⟩
end
end PyA
/-! PyD: comprehensions. -/
namespace PyA
open PySem L2
section
variable {C : Type}
def noEx {α : Type} (m : M C α) : M C α := fun c => match m c with
  | .ok r => .ok r
  | .ex _ => .bad
  | .bad => .bad
def wipeE (ρ : PEnv) : List Nat → PEnv
  | [] => ρ
  | v :: vs => (wipeE ρ vs).set v none
def gYes : FT C := fun _ => ret true
def compL (bd : Bnd) (t : FT C) (f : FE C) (ρ : PEnv) : List Vl → M C (List Vl)
  | [] => ret []
  | x :: r => bnd (opt (bd x ρ)) fun ρ1 => bnd (noEx (t ρ1)) fun k =>
      if k = true then bnd (noEx (f ρ1)) fun y => bnd (compL bd t f ρ r) fun ys => ret (y :: ys) else compL bd t f ρ r
def fLc (it : PEnv → M C (List Vl)) (vs : List Nat) (bd : Bnd) (t : FT C) (f : FE C) : FE C := fun ρ => bnd (it ρ) fun xs => bnd (compL bd t f (wipeE ρ vs) xs) fun ys => ret (.lst ys)
/-- the frame of a comprehension's block -/
abbrev Fx.at (g : Fx C) (A : Addr → Prop) (H0 : Hp) : Fx C := ⟨g.K, g.r, g.own, A, H0, g.mg, E0⟩
abbrev Fx.hide (g : Fx C) (D : Addr) (H : Hp) : Fx C := g.at (fun a => g.A a ∧ a ≠ D) fun a => if a = D then H D else g.H0 a
variable {X : Cx} {g : Fx C} {e a b c : Expr} {es : List Expr} {pos p : Pos} {n : Nat}
theorem GoX.noEx {α : Type} {H : Hp} {m : M C α} {cc : C} {Φ : α → C → Hp → Prop} {A : Addr → Prop} {H0 : Hp} (h : GoX g H (noEx m cc) Φ) : GoX (g.at A H0) H (m cc) Φ := by
  unfold PyA.noEx at h
  cases e : m cc with
  | ok r => rw [e] at h; exact h
  | ex nm => rw [e] at h; exact h.elim
  | bad => rw [e] at h; exact h.elim
theorem _root_.L2.PTs.weak {ifs : List Expr} {t t' : TT} (h : PTs X ifs t) (k : ∀ σ H Q, t' σ H Q → t σ H Q) : PTs X ifs t' := ⟨fun pins s σ H Q I q => h.run pins s σ H Q I (k σ H Q q)⟩
theorem dts_nil : PTs X [] (tT g gYes) := pts_nil.weak fun σ H Q ⟨ρ, c, ei, hd, q⟩ => GoX.ret hd q
theorem dts_one {f : FT C} (h : PT X c (tT g f)) : PTs X [c] (tT g f) := pts_one h
theorem wipe_wipe {σ : St} {vs : List Nat} : ∀ {ws : List Nat}, (∀ i ∈ ws, i ∈ vs) → wipe (wipe σ ws) vs = wipe σ vs
  | [], _ => rfl
  | w :: ws, h => by
    have e : wipe σ (w :: ws) = (wipe σ ws).set w none := rfl
    rw [e, wipe_set (h w List.mem_cons_self)]
    exact wipe_wipe fun i q => h i (List.mem_cons_of_mem _ q)
theorem Sets.wipe {ρ : PEnv} {σ : St} : ∀ {vs : List Nat}, (∀ i ∈ vs, g.own i = false) → ∀ a, Own g (wipeE ρ vs) (wipe σ vs) a ↔ Own g ρ σ a
  | [], _, _ => Iff.rfl
  | v :: vs, h, a => (own_set (h v List.mem_cons_self)).trans (Sets.wipe (fun i q => h i (List.mem_cons_of_mem _ q)) a)
theorem EI.wipe {ρ : PEnv} {σ : St} {H : Hp} (ei : EI g ρ σ H) : ∀ {vs : List Nat}, (∀ i ∈ vs, g.own i = false) → EI g (wipeE ρ vs) (wipe σ vs) H
  | [], _ => ei
  | v :: vs, h => (EI.wipe ei fun i q => h i (List.mem_cons_of_mem _ q)).set (h v List.mem_cons_self) fun x e => nomatch e
/-- within the block the new list at D is no place of the def's -/
theorem ad_hide {D : Addr} {H : Hp} {ρ : PEnv} {σ : St} {o : HO} (hD : H D = some o) {a : Addr} : Ad (g.hide D H) ρ σ a ↔ Ad g ρ σ a ∧ a ≠ D := by
  constructor
  · rintro ⟨⟨h1, h2⟩, h3⟩
    have ne : a ≠ D := by
      rcases h1 with h1 | h1
      · exact h1.2
      · intro z
        subst z
        have h1 : (if a = a then H a else g.H0 a) = none := h1
        rw [if_pos rfl, hD] at h1
        cases h1
    refine ⟨⟨⟨?_, h2⟩, h3⟩, ne⟩
    rcases h1 with h1 | h1
    · exact .inl h1.1
    · have h1 : (if a = D then H D else g.H0 a) = none := h1
      rw [if_neg ne] at h1
      exact .inr h1
  · rintro ⟨⟨⟨h1, h2⟩, h3⟩, ne⟩
    refine ⟨⟨?_, h2⟩, h3⟩
    rcases h1 with h1 | h1
    · exact .inl ⟨h1, ne⟩
    · exact .inr (show (if a = D then H D else g.H0 a) = none by rw [if_neg ne]; exact h1)
theorem EI.hide {D : Addr} {H H' : Hp} {ρ : PEnv} {σ : St} {o : HO} {cc : C} (ei : EI g ρ σ H) (hd : g.r.held cc H) (n : H D = none) (k : Kp g.r.rg H H') (hD : H' D = some o) : EI (g.hide D H') ρ σ H' := by
  have mv : ∀ a u, H a = some u → Ad g ρ σ a → Ad (g.hide D H') ρ σ a := fun a u e z => (ad_hide hD).mpr ⟨z, ne_of_none e n⟩
  refine ⟨ei.len, fun a u e nr => ?_, fun i x e => ?_, ei.dist⟩
  · by_cases z : a = D
    · subst z
      have e : (if a = a then H' a else g.H0 a) = some u := e
      rw [if_pos rfl] at e
      exact e
    · have e : (if a = D then H' D else g.H0 a) = some u := e
      rw [if_neg z] at e
      exact k a u (ei.keep a u e nr) nr
  · obtain ⟨v, e1, h⟩ := ei.slot i x e
    refine ⟨v, e1, ?_⟩
    by_cases o : g.own i = true
    · rw [if_pos o] at h
      rw [if_pos (show (g.hide D H').own i = true from o)]
      cases x with
      | lst xs =>
        unfold OwnAt at h ⊢
        obtain ⟨p, vs, e2, n0, nr, q, l, r⟩ := h
        refine ⟨p, vs, e2, ?_, nr, k _ _ q nr, l, r.move (Ad.keeps hd k) mv⟩
        show (if p = D then H' D else g.H0 p) = none
        rw [if_neg (ne_of_none q n)]
        exact n0
      | dk ks xs =>
        unfold OwnAt at h ⊢
        obtain ⟨p, vs, e2, n0, nr, q, l, m, r⟩ := h
        refine ⟨p, vs, e2, ?_, nr, k _ _ q nr, l, fine_m m fun a u e nm => k a u e fun z => nm (e ▸ g.r.hmut _ _ _ hd z), r.move (Ad.keeps hd k) mv⟩
        show (if p = D then H' D else g.H0 p) = none
        rw [if_neg (ne_of_none q n)]
        exact n0
      | _ => exact h
    · rw [if_neg o] at h
      rw [if_neg (show ¬ (g.hide D H').own i = true from o)]
      exact h.move (Ad.keeps hd k) mv
theorem bnd_assoc {α β γ : Type} (m : M C α) (k : α → M C β) (l : β → M C γ) : bnd (bnd m k) l = bnd m fun x => bnd (k x) l := by
  funext cc
  unfold bnd
  cases m cc <;> rfl
theorem ret_bnd {α β : Type} (x : α) (k : α → M C β) : bnd (ret x) k = k x := rfl
theorem GoX.at {α β : Type} {H H2 : Hp} {cc : C} {m : M C α} {k : α → M C β} {Φ : β → C → Hp → Prop} (kp : Kp g.r.rg H H2) (h : GoX g H (bnd m k cc) Φ) : GoX g H2 (m cc) fun a c1 _ => GoX g H (k a c1) Φ := by
  unfold bnd at h
  cases e : m cc with
  | ok p =>
    rw [e] at h
    exact fun H' _ _ => h
  | ex n =>
    rw [e] at h
    exact fun H' k2 => h H' (kp.trans k2)
  | bad =>
    rw [e] at h
    exact h
theorem GoX.optAt {α : Type} {β : Type} {H : Hp} {cc : C} {o : Option α} {k : α → M C β} {Φ : β → C → Hp → Prop} (h : GoX g H (bnd (PyA.opt o) k cc) Φ) : ∃ a, o = some a ∧ GoX g H (k a cc) Φ := by
  cases o with
  | none => exact h.elim
  | some a => exact ⟨a, rfl, h⟩
theorem drop_at {α : Type} : ∀ {l : List α} {i : Nat}, i < l.length → ∃ x, l[i]? = some x ∧ l.drop i = x :: l.drop (i + 1)
  | [], i, h => absurd h (Nat.not_lt_zero _)
  | a :: l, 0, _ => ⟨a, rfl, rfl⟩
  | a :: l, i + 1, h => drop_at (l := l) (i := i) (Nat.lt_of_succ_lt_succ h)
theorem Rg.new {r : Rg C} {cc : C} {H : Hp} {D : Addr} {o : HO} (h : r.held cc H) (nr : ¬ r.rg D) : r.held cc (upd H D o) :=
  r.hloc cc H _ h fun a z => upd_ne fun q => nr (q ▸ z)
theorem lc_ex {elt tg iter : Expr} {ifs : List Expr} {scope : Scope} {own : List (Str × Nat)} {ba : Bool} {it : PEnv → M C (List Vl)} {bd : Bnd} {ft : FT C} {fe : FE C} {ws : List Nat} (hc : X.calm = true) (hN : X.N.Nodup) (hi : PI X tg iter (tI g ba it)) (ok : BlkOk X.N X.env.scope scope own)
    (hws0 : (ws.all fun i => (own.map (·.2)).contains i) = true) (hown0 : ((own.map (·.2)).all fun i => !g.own i) = true)
    (hg : ∀ A0 H0 s H Ca cl fp, PG (X.blk s H scope (compEnvC scope cl Ca X.env) fp) tg (tG (g.at A0 H0) ws bd)) (ht : ∀ A0 H0 s H Ca cl fp, PTs (X.blk s H scope (compEnvC scope cl Ca X.env) fp) ifs (tT (g.at A0 H0) ft))
    (he : ∀ A0 H0 s H Ca cl fp, PE (X.blk s H scope (compEnvC scope cl Ca X.env) fp) elt (tE (g.at A0 H0) true fe)) (hs : ∀ x, foldedSetIterable iter X.env x = pure x := by intro _; rfl) :
    ∃ TE' : TE, PE X (.ListComp elt [⟨tg, iter, ifs, 0⟩] scope pos) TE' ∧
      (∀ (i : Nat) (y : Str) (py spos : Pos), X.N[i]? = some y → X.env.scope.names.lookup y = some .local → swapsWith (.ListComp elt [⟨tg, iter, ifs, 0⟩] scope pos) (some (.Name y py)) spos.line X.env = pure true →
        PS X (.Assign [.Name y py] (.ListComp elt [⟨tg, iter, ifs, 0⟩] scope pos) spos) (tAsg TE' (gName i))) ∧
      ∀ σ H Q, tN g (fLc it (own.map (·.2)) bd ft fe) σ H Q → TE' σ H Q := by
  have hws : ∀ i ∈ ws, i ∈ own.map (·.2) := fun i h => List.contains_iff_mem.mp (List.all_eq_true.mp hws0 i h)
  have hown : ∀ i ∈ own.map (·.2), g.own i = false := fun i h => by
    have := List.all_eq_true.mp hown0 i h
    simpa using this
  let G : TG := fun v σ H Q => ∃ A0 H0, tG (g.at A0 H0) ws bd v σ H Q
  let TTt : TT := fun σ H Q => ∃ A0 H0, tT (g.at A0 H0) ft σ H Q
  let TEe : TE := fun σ H Q => ∃ A0 H0, tE (g.at A0 H0) true fe σ H Q
  have h1 : ∀ s H Ca cl fp, PG (X.blk s H scope (compEnvC scope cl Ca X.env) fp) tg G := fun s H Ca cl fp => ⟨fun pins s' σ H' v u Q I r ⟨A0, H0, q⟩ => (hg A0 H0 s H Ca cl fp).run pins s' σ H' v u Q I r q⟩
  have h2 : ∀ s H Ca cl fp, PTs (X.blk s H scope (compEnvC scope cl Ca X.env) fp) ifs TTt := fun s H Ca cl fp => ⟨fun pins s' σ H' Q I ⟨A0, H0, q⟩ => (ht A0 H0 s H Ca cl fp).run pins s' σ H' Q I q⟩
  have h3 : ∀ s H Ca cl fp, PE (X.blk s H scope (compEnvC scope cl Ca X.env) fp) elt TEe := fun s H Ca cl fp => ⟨fun pins s' σ H' Q I ⟨A0, H0, q⟩ => (he A0 H0 s H Ca cl fp).run pins s' σ H' Q I q⟩
  refine ⟨tLc (tI g ba it) G TTt TEe (own.map (·.2)), pe_lc hc hN hi ok h1 h2 h3 hs, fun i y py spos hy hl hsw => ps_setLc hc hN hy hl hsw hi ok h1 h2 h3 hs, ?_⟩
  intro σ H Q ⟨ρ, c, ei, hd, q⟩
  refine ⟨ρ, c, ei, hd, (GoX.bind q).mono fun its c1 H1 k hd1 w J gw D nD => ?_⟩
  obtain ⟨L, hL, hl, wk⟩ := gw
  have ei1 := ei.kp hd k
  have eiw := ei1.wipe hown
  have nrD : ¬ g.r.rg D := rg_some hd1 nD
  have nDH : H D = none := k.none hd1 nD
  have adw : ∀ a, Ad g ρ σ a → Ad g (wipeE ρ (own.map (·.2))) (wipe σ (own.map (·.2))) a := fun a z => ⟨z.1, fun y => z.2 ((Sets.wipe hown a).mp y)⟩
  have adw' : ∀ a, Ad g (wipeE ρ (own.map (·.2))) (wipe σ (own.map (·.2))) a → Ad g ρ σ a := fun a z => ⟨z.1, fun y => z.2 ((Sets.wipe hown a).mpr y)⟩
  refine lc_it (g := fun v σ H Q => ∃ A0 H0, tG (g.at A0 H0) ws bd v σ H Q) (tt := fun σ H Q => ∃ A0 H0, tT (g.at A0 H0) ft σ H Q) (te := fun σ H Q => ∃ A0 H0, tE (g.at A0 H0) true fe σ H Q) (vs := own.map (·.2)) (σ := σ) (Qd := fun H' => Q (.ref D) H') wk (fun i H' => ∃ accV accL c', H' D = some (.lst accV) ∧ Reps g.K g.r.T (fun a => Ad g ρ σ a ∧ a ≠ D) H' accL accV ∧ accV.length ≤ i ∧ Kp g.r.rg H1 H' ∧ g.r.held c' H' ∧
    GoX g H1 (bnd (compL bd ft fe (wipeE ρ (own.map (·.2))) (its.drop i)) (fun ys => ret (.lst (accL ++ ys))) c') fun x _ H' => ∀ v, RepN g.K g.r.T (Ad g ρ σ) H H' x v → Q v H')
    ⟨[], [], c1, upd_same, Reps.nil, Nat.le_refl _, Kp.of (same_new nD), Rg.new hd1 nrD, w⟩ ?_ ?_ ?_
  · rintro i H' hi ⟨accV, accL, c', hD, ra, la, k', hd', w'⟩ q hq
    exact k' _ _ (hL q hq).1 (hL q hq).2.1
  · rintro i v H' H2 hi ⟨accV, accL, c', hD, ra, la, k', hd', w'⟩ ⟨sm, rx⟩
    obtain ⟨x, ex, ed⟩ := drop_at hi
    rw [ed] at w'
    rw [show compL bd ft fe (wipeE ρ (own.map (·.2))) (x :: its.drop (i + 1)) = bnd (opt (bd x (wipeE ρ (own.map (·.2))))) fun ρ1 => bnd (noEx (ft ρ1)) fun k =>
      if k = true then bnd (noEx (fe ρ1)) fun y => bnd (compL bd ft fe (wipeE ρ (own.map (·.2))) (its.drop (i + 1))) fun ys => ret (y :: ys) else compL bd ft fe (wipeE ρ (own.map (·.2))) (its.drop (i + 1)) from rfl, bnd_assoc] at w'
    obtain ⟨ρ1, e1, w1⟩ := GoX.optAt w'
    have k2 : Kp g.r.rg H1 H2 := k'.trans (Kp.of sm)
    have hd2 := Rg.same hd' sm
    have hD2 : H2 D = some (.lst accV) := sm _ _ hD
    have eih := eiw.hide (H' := H2) hd1 nD k2 hD2
    have ra2 : Reps g.K g.r.T (fun a => Ad g ρ σ a ∧ a ≠ D) H2 accL accV := ra.move (fun a u e _ => sm a u e) fun _ _ _ z => z
    refine ⟨_, _, wipeE ρ (own.map (·.2)), c', x, ρ1, eih, hd2, ?_, e1, fun σ2 ei2 st => ⟨?_, ?_⟩⟩
    · refine rx (Ad (g.hide D H2) (wipeE ρ (own.map (·.2))) (wipe σ (own.map (·.2)))) (fun a u e m => ?_) (fun a u e z => (ad_hide hD2).mpr ⟨adw a z, ne_of_none e nD⟩) x ex
      exact Ad.keeps (g := g) (ρ := ρ) (σ := σ) hd1 k' a u e m
    · rw [st.wip _ hws]
      exact wipe_wipe fun _ h => h
    · rw [bnd_assoc] at w1
      refine ⟨_, _, ρ1, c', ei2, hd2, (GoX.noEx (GoX.at k2 w1)).mono fun b c3 H3 k3 hd3 w3 => ?_⟩
      have k3' : Kp g.r.rg H2 H3 := k3
      have ra3 : Reps g.K g.r.T (fun a => Ad g ρ σ a ∧ a ≠ D) H3 accL accV := ra2.move (fun a u e m => Ad.keeps (g := g) (ρ := ρ) (σ := σ) hd2 k3' a u e fun z => (m z).1) fun _ _ _ z => z
      have hD3 := k3' _ _ hD2 nrD
      cases b with
      | true =>
        rw [if_pos rfl, bnd_assoc] at w3
        refine iteT ⟨_, _, ρ1, c3, ei2.kp hd2 k3, hd3, (GoX.noEx (GoX.at (k2.trans k3') w3)).mono fun y c4 H4 k4 hd4 w4 vy ry => ?_⟩
        have k4' : Kp g.r.rg H3 H4 := k4
        have hD4 := k4' _ _ hD3 nrD
        have ra4 : Reps g.K g.r.T (fun a => Ad g ρ σ a ∧ a ≠ D) H4 accL accV := ra3.move (fun a u e m => Ad.keeps (g := g) (ρ := ρ) (σ := σ) hd3 k4' a u e fun z => (m z).1) fun _ _ _ z => z
        have lt : accV.length < sizeLine := by omega
        have up : ∀ a u, H4 a = some u → a ≠ D → (upd H4 D (.lst (accV ++ [vy]))) a = some u := fun a u e ne => by rw [upd_ne ne]; exact e
        have nt : ∀ {xs}, H4 D ≠ some (.tup xs) := fun z => by rw [hD4] at z; cases z
        have mvD : ∀ {A1 : Addr → Prop}, (∀ a, A1 a → a ≠ D) → ∀ a u, H4 a = some u → (Mut (some u) → A1 a) → (upd H4 D (.lst (accV ++ [vy]))) a = some u := fun {A1} hA a u e m => by
          by_cases z : a = D
          · subst z
            rw [hD4] at e
            cases e
            exact absurd rfl (hA _ (m trivial))
          · exact up a u e z
        refine ⟨accV, hD4, lt, accV ++ [vy], accL ++ [y], c4, upd_same, Reps.append (ra4.move (mvD fun _ z => z.2) fun _ _ _ z => z) (Reps.cons ?_ Reps.nil), by rw [List.length_append]; exact Nat.succ_le_succ la, ?_, ?_, ?_⟩
        · have ry2 : Rep g.K g.r.T (Ad (g.hide D H2) ρ1 σ2) H4 y vy := ry
          refine Rep.move (A := Ad (g.hide D H2) ρ1 σ2) (mvD fun a z => ((ad_hide hD2).mp z).2) (fun a u e z => ?_) _ _ ry2
          obtain ⟨z1, z2⟩ := (ad_hide hD2).mp (st.ad.mpr z)
          exact ⟨adw' a z1, z2⟩
        · exact fun a u e nr => up a u (k4' _ _ (k3' _ _ (k2 a u e nr) nr) nr) (ne_of_none e nD)
        · exact Rg.new hd4 nrD
        · rw [bnd_assoc] at w4
          have e : (fun ys : List Vl => bnd (ret (C := C) (y :: ys)) fun ys => ret (Vl.lst (accL ++ ys))) = fun ys => ret (Vl.lst ((accL ++ [y]) ++ ys)) := by
            funext ys
            rw [ret_bnd, List.append_assoc]
            rfl
          rw [e] at w4
          exact w4
      | false =>
        rw [if_neg Bool.false_ne_true] at w3
        exact iteF ⟨accV, accL, c3, hD3, ra3, by omega, k2.trans k3', hd3, w3⟩
  · rintro H' ⟨accV, accL, c', hD, ra, la, k', hd', w'⟩
    rw [List.drop_length] at w'
    have w2 := (show GoX g H1 (ret (Vl.lst (accL ++ [])) c') _ from w') H' k' hd' (.ref D)
    rw [List.append_nil] at w2
    refine w2 ?_
    unfold RepN
    refine ⟨D, accV, rfl, nDH, hD, by omega, ra⟩
theorem de_lc {elt tg iter : Expr} {ifs : List Expr} {scope : Scope} {own : List (Str × Nat)} {ba : Bool} {it : PEnv → M C (List Vl)} {bd : Bnd} {ft : FT C} {fe : FE C} {ws : List Nat} (hc : X.calm = true) (hN : X.N.Nodup) (hi : PI X tg iter (tI g ba it)) (ok : BlkOk X.N X.env.scope scope own)
    (hws0 : (ws.all fun i => (own.map (·.2)).contains i) = true) (hown0 : ((own.map (·.2)).all fun i => !g.own i) = true)
    (hg : ∀ A0 H0 s H Ca cl fp, PG (X.blk s H scope (compEnvC scope cl Ca X.env) fp) tg (tG (g.at A0 H0) ws bd)) (ht : ∀ A0 H0 s H Ca cl fp, PTs (X.blk s H scope (compEnvC scope cl Ca X.env) fp) ifs (tT (g.at A0 H0) ft))
    (he : ∀ A0 H0 s H Ca cl fp, PE (X.blk s H scope (compEnvC scope cl Ca X.env) fp) elt (tE (g.at A0 H0) true fe)) (hs : ∀ x, foldedSetIterable iter X.env x = pure x := by intro _; rfl) :
    PE X (.ListComp elt [⟨tg, iter, ifs, 0⟩] scope pos) (tN g (fLc it (own.map (·.2)) bd ft fe)) :=
  have ⟨_, h, _, w⟩ := lc_ex (pos := pos) hc hN hi ok hws0 hown0 hg ht he hs
  h.weak w
end
end PyA
/-! PyE: statements, defs. -/
namespace PyA
open PySem L2
inductive Out where
  | nx (ρ : PEnv)
  | bk (ρ : PEnv)
  | ct (ρ : PEnv)
  | rt (x : Vl)
section
variable {C : Type}
abbrev FS (C : Type) := PEnv → M C Out
def sNil : FS C := fun ρ => ret (.nx ρ)
def sThen (f : FS C) : Out → M C Out
  | .nx ρ => f ρ
  | o => ret o
def sSeq (a b : FS C) : FS C := fun ρ => bnd (a ρ) (sThen b)
def sRet (f : FE C) : FS C := fun ρ => bnd (f ρ) fun x => ret (.rt x)
def sRetN : FS C := fun _ => ret (.rt .non)
def sDrop (f : FE C) : FS C := fun ρ => bnd (f ρ) fun _ => ret (.nx ρ)
def sIf (t : FT C) (a b : FS C) : FS C := fun ρ => bnd (t ρ) fun k => if k = true then a ρ else b ρ
def sSet (i : Nat) (f : FE C) : FS C := fun ρ => bnd (f ρ) fun x => ret (.nx (ρ.set i (some x)))
def sBind (bd : Bnd) (f : FE C) : FS C := fun ρ => bnd (f ρ) fun x => bnd (opt (bd x ρ)) fun ρ' => ret (.nx ρ')
def sRaise (n : Str) : FS C := fun _ _ => .ex n
def sBreak : FS C := fun ρ => ret (.bk ρ)
def sCont : FS C := fun ρ => ret (.ct ρ)
def sAug (i : Nat) (op : Vl → Vl → Option Vl) (f : FE C) : FS C := fun ρ => bnd (opt (look ρ i)) fun x => bnd (f ρ) fun y => bnd (opt (op x y)) fun z => ret (.nx (ρ.set i (some z)))
def sPar (i j : Nat) (a b : FE C) : FS C := fun ρ => bnd (a ρ) fun x => bnd (b ρ) fun y => ret (.nx ((ρ.set i (some x)).set j (some y)))
def forOut (k : PEnv → M C Out) : Out → M C Out
  | .nx ρ => k ρ
  | .ct ρ => k ρ
  | .bk ρ => ret (.nx ρ)
  | .rt v => ret (.rt v)
def forL (bd : Bnd) (body : FS C) : List Vl → PEnv → M C Out
  | [], ρ => ret (.nx ρ)
  | x :: r, ρ => bnd (opt (bd x ρ)) fun ρ1 => bnd (body ρ1) (forOut (forL bd body r))
def sFor (it : PEnv → M C (List Vl)) (bd : Bnd) (body : FS C) : FS C := fun ρ => bnd (it ρ) fun xs => forL bd body xs ρ
def whileL (t : FT C) (body : FS C) : Nat → PEnv → M C Out
  | 0, _ => bad
  | n + 1, ρ => bnd (t ρ) fun k => if k = true then bnd (body ρ) (forOut (whileL t body n)) else ret (.nx ρ)
def appAt (ρ : PEnv) (i : Nat) (y : Vl) : Option PEnv := match look ρ i with
  | some (.lst xs) => if xs.length < sizeLine then some (ρ.set i (some (.lst (xs ++ [y])))) else none
  | _ => none
def lstAt (ρ : PEnv) (i : Nat) : Option Unit := match look ρ i with
  | some (.lst _) => some ()
  | _ => none
def sApp (i : Nat) (f : FE C) : FS C := fun ρ => bnd (opt (lstAt ρ i)) fun _ => bnd (f ρ) fun y => bnd (opt (appAt ρ i y)) fun ρ' => ret (.nx ρ')
def setAt (ρ : PEnv) (i : Nat) (k y : Vl) : Option PEnv := match look ρ i, k with
  | some (.lst xs), .int k => match ixN xs.length k with
    | some j => some (ρ.set i (some (.lst (xs.set j y))))
    | none => none
  | _, _ => none
/-- xs[k] = e -/
def sPut (i : Nat) (fk f : FE C) : FS C := fun ρ => bnd (f ρ) fun y => bnd (opt (lstAt ρ i)) fun _ => bnd (fk ρ) fun k => bnd (opt (setAt ρ i k y)) fun ρ' => ret (.nx ρ')
def getAt (ρ : PEnv) (i : Nat) (k : Vl) : Option Vl := match look ρ i, k with
  | some (.lst xs), .int k => atI xs k
  | _, _ => none
/-- xs[k] op= e -/
def sAugIx (i : Nat) (op : Vl → Vl → Option Vl) (fk f : FE C) : FS C := fun ρ => bnd (opt (lstAt ρ i)) fun _ => bnd (fk ρ) fun k => bnd (opt (getAt ρ i k)) fun x => bnd (f ρ) fun y => bnd (opt (op x y)) fun z => bnd (opt (setAt ρ i k z)) fun ρ' => ret (.nx ρ')
def startE (n : Nat) (xs : List Vl) : PEnv := xs.map some ++ List.replicate (n - xs.length) none
def defOut : Out → M C Vl
  | .nx _ => ret .non
  | .rt v => ret v
  | _ => bad
def mkF (n : Nat) (f : FS C) : List Vl → M C Vl := fun xs => bnd (f (startE n xs)) defOut
end
section
variable {C : Type} (g : Fx C)
/-- what the def's lists aside was tracked stays, and becomes none of them -/
def StepS (ρ : PEnv) (σ : St) (H : Hp) (ρ' : PEnv) (σ' : St) (H' : Hp) : Prop := ∀ a u, H a = some u → ¬ Own g ρ σ a → ¬ g.r.rg a → H' a = some u ∧ ¬ Own g ρ' σ' a
def GoS (ρ : PEnv) (σ : St) (H : Hp) (m : R (Out × C)) (D : Ends) : Prop := match m with
  | .ok (.nx ρ', c) => ∀ σ' H', EI g ρ' σ' H' → g.r.held c H' → StepS g ρ σ H ρ' σ' H' → D.nx σ' H'
  | .ok (.bk ρ', c) => ∀ σ' H', EI g ρ' σ' H' → g.r.held c H' → StepS g ρ σ H ρ' σ' H' → D.bk σ' H'
  | .ok (.ct ρ', c) => ∀ σ' H', EI g ρ' σ' H' → g.r.held c H' → StepS g ρ σ H ρ' σ' H' → D.ct σ' H'
  | .ok (.rt x, c) => ∀ v H', Kp g.r.rg g.H0 H' → g.r.held c H' → Rep g.K g.r.T (Bd g) H' x v → D.rt v H'
  | .ex n => ∀ H', Kp g.r.rg g.H0 H' → g.EX (clsOf g.mg n) none H'
  | .bad => False
def tS (f : FS C) : TS := fun D σ H => ∃ ρ c, EI g ρ σ H ∧ g.r.held c H ∧ GoS g ρ σ H (f ρ c) D
end
section
variable {X : Cx} {C : Type} {g : Fx C} {e a b : Expr} {es : List Expr} {st : Stmt} {sts : List Stmt} {pos p : Pos} {n : Nat}
variable {ρ ρ' ρ1 : PEnv} {σ σ' σ1 : St} {H H' H1 : Hp} {cc : C} {D : Ends}
theorem _root_.L2.PS.weak {t t' : TS} (h : PS X st t) (k : ∀ D σ H, t' D σ H → t D σ H) : PS X st t' := ⟨fun pins s σ H D I q => h.run pins s σ H D I (k D σ H q)⟩
theorem _root_.L2.PSs.weak {t t' : TS} (h : PSs X sts t) (k : ∀ D σ H, t' D σ H → t D σ H) : PSs X sts t' := ⟨fun pins s σ H D I q => h.run pins s σ H D I (k D σ H q)⟩
theorem StepS.refl : StepS g ρ σ H ρ σ H := fun a u e n _ => ⟨e, n⟩
theorem StepS.trans {ρ2 : PEnv} {σ2 : St} {H2 : Hp} (s : StepS g ρ σ H ρ1 σ1 H1) (t : StepS g ρ1 σ1 H1 ρ2 σ2 H2) : StepS g ρ σ H ρ2 σ2 H2 := fun a u e n r => by
  obtain ⟨h1, h2⟩ := s a u e n r
  exact t a u h1 h2 r
theorem StepS.kp (k : Kp g.r.rg H H') : StepS g ρ σ H ρ σ H' := fun a u e n r => ⟨k a u e r, n⟩
theorem GoS.step {m : R (Out × C)} (s : StepS g ρ σ H ρ1 σ1 H1) (h : GoS g ρ σ H m D) : GoS g ρ1 σ1 H1 m D := by
  cases m with
  | ok q =>
    obtain ⟨o, c⟩ := q
    cases o with
    | nx ρ' => exact fun σ' H' ei hd t => h σ' H' ei hd (s.trans t)
    | bk ρ' => exact fun σ' H' ei hd t => h σ' H' ei hd (s.trans t)
    | ct ρ' => exact fun σ' H' ei hd t => h σ' H' ei hd (s.trans t)
    | rt x => exact h
  | ex n => exact h
  | bad => exact h
/-- an expression first -/
theorem GoS.bx {α : Type} {m : M C α} {k : α → M C Out} (ei : EI g ρ σ H) (h : GoS g ρ σ H (bnd m k cc) D) : GoX g H (m cc) fun x c1 H1 => GoS g ρ σ H1 (k x c1) D := by
  unfold bnd at h
  cases e : m cc with
  | ok q =>
    rw [e] at h
    exact fun H' kp hd => GoS.step (StepS.kp kp) h
  | ex n =>
    rw [e] at h
    exact fun H' kp => h H' (ei.keep.trans kp)
  | bad =>
    rw [e] at h
    exact h
/-- a statement first -/
theorem GoS.bs {m : M C Out} {k : Out → M C Out} (hb : ∀ ρ' c, k (.bk ρ') c = ret (.bk ρ') c) (hc : ∀ ρ' c, k (.ct ρ') c = ret (.ct ρ') c) (hr : ∀ v c, k (.rt v) c = ret (.rt v) c) (h : GoS g ρ σ H (bnd m k cc) D) :
    GoS g ρ σ H (m cc) { D with nx := fun σ' H' => ∃ ρ' c', EI g ρ' σ' H' ∧ g.r.held c' H' ∧ GoS g ρ' σ' H' (k (.nx ρ') c') D } := by
  unfold bnd at h
  cases e : m cc with
  | ok q =>
    rw [e] at h
    obtain ⟨o, c⟩ := q
    cases o with
    | nx ρ' => exact fun σ' H' ei hd t => ⟨ρ', c, ei, hd, GoS.step t h⟩
    | bk ρ' =>
      dsimp only at h
      rw [hb] at h
      exact h
    | ct ρ' =>
      dsimp only at h
      rw [hc] at h
      exact h
    | rt v =>
      dsimp only at h
      rw [hr] at h
      exact h
  | ex n =>
    rw [e] at h
    exact h
  | bad =>
    rw [e] at h
    exact h
theorem ds_nil : PSs X [] (tS g sNil) := pss_nil.weak fun D σ H ⟨ρ, c, ei, hd, q⟩ => q σ H ei hd StepS.refl
theorem ds_cons {f1 f2 : FS C} (h1 : PS X st (tS g f1)) (h2 : PSs X sts (tS g f2)) : PSs X (st :: sts) (tS g (sSeq f1 f2)) :=
  (pss_cons h1 h2).weak fun D σ H ⟨ρ, c, ei, hd, q⟩ => ⟨ρ, c, ei, hd, GoS.bs (k := sThen f2) (fun _ _ => rfl) (fun _ _ => rfl) (fun _ _ => rfl) q⟩
theorem ds_one {f1 : FS C} (h1 : PS X st (tS g f1)) : PSs X [st] (tS g f1) := pss_one h1
theorem ds_ret {bb : Bool} {f : FE C} (h : PE X e (tE g bb f)) : PS X (.Return (some e) pos) (tS g (sRet f)) :=
  (ps_ret h).weak fun D σ H ⟨ρ, c, ei, hd, q⟩ => ⟨ρ, c, ei, hd, (GoS.bx ei q).mono fun x c1 H1 k hd1 w v rv => w v H1 (ei.keep.trans k) hd1 (rv.i.toRep (fun _ z => z.1) fun _ z => z)⟩
theorem ds_retN : PS X (.Return none pos) (tS g sRetN) :=
  ps_retN.weak fun D σ H ⟨ρ, c, ei, hd, q⟩ => q .non H ei.keep hd (by unfold Rep; rfl)
theorem ds_expr {bb : Bool} {f : FE C} (h : PE X e (tE g bb f)) (hs : swapsWith e none pos.line X.env = pure false := by rfl) : PS X (.Expr e pos) (tS g (sDrop f)) :=
  (ps_expr h hs).weak fun D σ H ⟨ρ, c, ei, hd, q⟩ => ⟨ρ, c, ei, hd, (GoS.bx ei q).mono fun x c1 H1 k hd1 w v rv => w σ H1 (ei.kp hd k) hd1 StepS.refl⟩
theorem ds_if {t : Expr} {sa sb : List Stmt} {ft : FT C} {fa fb : FS C} (ht : PT X t (tT g ft)) (ha : PSs X sa (tS g fa)) (hb : PSs X sb (tS g fb)) : PS X (.If t sa sb pos) (tS g (sIf ft fa fb)) :=
  (ps_if ht ha hb).weak fun D σ H ⟨ρ, c, ei, hd, q⟩ => ⟨ρ, c, ei, hd, (GoS.bx ei q).mono fun k c1 H1 kp hd1 w => by
    cases k with
    | true => exact iteT ⟨ρ, c1, ei.kp hd kp, hd1, w⟩
    | false => exact iteF ⟨ρ, c1, ei.kp hd kp, hd1, w⟩⟩
theorem ds_pass : PS X (.Pass pos) (tS g sNil) := ps_pass.weak fun D σ H ⟨ρ, c, ei, hd, q⟩ => q σ H ei hd StepS.refl
theorem ds_break : PS X (.Break pos) (tS g sBreak) := ps_break.weak fun D σ H ⟨ρ, c, ei, hd, q⟩ => q σ H ei hd StepS.refl
theorem ds_cont : PS X (.Continue pos) (tS g sCont) := ps_continue.weak fun D σ H ⟨ρ, c, ei, hd, q⟩ => q σ H ei hd StepS.refl
theorem StepS.sets {vs : List Nat} (s : Sets g vs ρ σ ρ' σ') (k : Kp g.r.rg H H') : StepS g ρ σ H ρ' σ' H' := fun a u e n r => ⟨k a u e r, fun z => n ((s.own a).mp z)⟩
/-- name = e -/
theorem ds_set {i : Nat} {x : Str} {pos' : Pos} {f : FE C} (hN : X.N.Nodup) (hi : X.N[i]? = some x) (hx : Loc X.env.scope x) (ho : g.own i = false) (h : PE X e (tE g true f)) (hs : swapsWith e (some (.Name x pos')) pos.line X.env = pure false := by rfl)
    (hf : X.fn x = true ∨ X.env.scope.names.lookup x = some .local := by first | exact .inl rfl | exact .inr rfl | assumption) : PS X (.Assign [.Name x pos'] e pos) (tS g (sSet i f)) :=
  (ps_set hN hi hx h hs hf).weak fun D σ H ⟨ρ, c, ei, hd, q⟩ => ⟨ρ, c, ei, hd, (GoS.bx ei q).mono fun x c1 H1 k hd1 w v rv =>
    w _ H1 ((ei.kp hd k).set ho fun y ey => ⟨v, rfl, by cases ey; exact rv⟩) hd1 (StepS.sets (Sets.one ho) Kp.refl)⟩
/-- any target = e -/
theorem ds_bind {tg : Expr} {vs : List Nat} {bd : Bnd} {f : FE C} (h : PE X e (tE g true f)) (hg : PG X tg (tG g vs bd)) (hs : swapsWithSole [tg] e pos.line X.env = pure false := by rfl) (hw : swappedStores [tg] e X.env = pure none := by rfl)
    (h1 : (assignEach [tg] X.env).map (·.2) = [assign tg X.env] := by rfl) : PS X (.Assign [tg] e pos) (tS g (sBind bd f)) :=
  (ps_asg h hg hs hw h1).weak fun D σ H ⟨ρ, c, ei, hd, q⟩ => ⟨ρ, c, ei, hd, (GoS.bx ei q).mono fun x c1 H1 k hd1 w v rv => by
    have ei1 := ei.kp hd k
    obtain ⟨ρ', e', w2⟩ := GoX.opt hd1 (GoS.bx ei1 w)
    exact ⟨ρ, c1, x, ρ', ei1, hd1, rv, e', fun σ' ei' st => w2 σ' H1 ei' hd1 (StepS.sets st Kp.refl)⟩⟩
theorem ds_par {i j : Nat} {x y : Str} {px py pt : Pos} {kt k2 pt2} {fa fb : FE C} (hc : X.calm = true) (hN : X.N.Nodup) (hi : X.N[i]? = some x) (hj : X.N[j]? = some y) (hij : i ≠ j)
    (hx : X.env.scope.names.lookup x = some .local) (hy : X.env.scope.names.lookup y = some .local) (hoi : g.own i = false) (hoj : g.own j = false) (ha : PA X [a, b] (tA g true (seqA [fa, fb])))
    (hw : swappedStores [.Tuple [.Name x px, .Name y py] kt pt] (.Tuple [a, b] k2 pt2) X.env = pure (some [x, y]))
    (hs : swapsWithSole [.Tuple [.Name x px, .Name y py] kt pt] (.Tuple [a, b] k2 pt2) pos.line X.env = pure false := by rfl) :
    PS X (.Assign [.Tuple [.Name x px, .Name y py] kt pt] (.Tuple [a, b] k2 pt2) pos) (tS g (sPar i j fa fb)) :=
  (ps_par hc hN hi hj hij hx hy ha hw hs).weak fun D σ H ⟨ρ, c, ei, hd, q⟩ => ⟨ρ, c, ei, hd, by
    have e : sPar i j fa fb ρ = bnd (seqA [fa, fb] ρ) fun xs => ret (.nx ((ρ.set i (some (xs.getD 0 .non))).set j (some (xs.getD 1 .non)))) := by
      show _ = bnd (bnd (fa ρ) fun x => bnd (bnd (fb ρ) fun y => bnd (ret []) fun ys => ret (y :: ys)) fun xs => ret (x :: xs)) _
      rw [bnd_assoc]
      unfold sPar
      congr 1
      funext x
      rw [bnd_assoc, bnd_assoc]
      rfl
    rw [e] at q
    refine (GoS.bx ei q).len.mono fun xs c1 H1 k hd1 w vs rs => ?_
    obtain ⟨l, w⟩ := w
    have rs := rs.toReps
    match xs, l with
    | [u, w'], _ =>
      unfold Reps at rs
      obtain ⟨v1, r1, rfl, h1, rs⟩ := rs
      unfold Reps at rs
      obtain ⟨v2, r2, rfl, h2, rs⟩ := rs
      unfold Reps at rs
      subst rs
      have ei1 := (ei.kp hd k).set hoi (y := some u) (w := some v1) fun y ey => ⟨v1, rfl, by cases ey; exact h1⟩
      have ei2 := ei1.set hoj (y := some w') (w := some v2) fun y ey => ⟨v2, rfl, by
        cases ey
        exact h2.move (fun _ _ e _ => e) fun a _ _ z => ad_set hoi z⟩
      exact ⟨v1, v2, rfl, w _ H1 ei2 hd1 ((StepS.sets (Sets.one hoi) Kp.refl).trans (StepS.sets (Sets.one hoj) Kp.refl))⟩⟩
/-! ### names that own a list -/
theorem own_setOwn {i : Nat} {x : Vl} {pp : Addr} {q : Addr} (h : Own g (ρ.set i (some x)) (σ.set i (some (.ref pp))) q) : q = pp ∨ Own g ρ σ q := by
  obtain ⟨j, y, o, e1, e2⟩ := h
  by_cases hj : i = j
  · subst hj
    have hl : i < σ.length := by
      by_cases hl : i < σ.length
      · exact hl
      · rw [List.getElem?_eq_none (by rw [List.length_set]; omega)] at e2
        cases e2
    rw [List.getElem?_set_self hl] at e2
    cases e2
    exact .inl rfl
  · rw [List.getElem?_set_ne hj] at e1 e2
    exact .inr ⟨j, y, o, e1, e2⟩
theorem repN_ref {K : PySem.W.Frag} {T : Tk} {A : Addr → Prop} {x : Vl} {v : V} (h : RepN K T A H H' x v) : ∃ q, v = .ref q ∧ H q = none := by
  cases x with
  | lst xs => unfold RepN at h; obtain ⟨q, vs, e, n, _⟩ := h; exact ⟨q, e, n⟩
  | dk ks xs => unfold RepN at h; obtain ⟨q, vs, e, n, _⟩ := h; exact ⟨q, e, n⟩
  | _ => exact (show False from h).elim
/-- a name that owns takes a new list -/
theorem EI.setOwn {i : Nat} {x : Vl} {v : V} (ei : EI g ρ σ H) (hd : g.r.held cc H) (k : Kp g.r.rg H H1) (hd1 : g.r.held c1 H1) (ho : g.own i = true) (r : RepN g.K g.r.T (Ad g ρ σ) H H1 x v) : EI g (ρ.set i (some x)) (σ.set i (some v)) H1 ∧ StepS g ρ σ H (ρ.set i (some x)) (σ.set i (some v)) H1 := by
  obtain ⟨q, rfl, nq⟩ := repN_ref r
  have mv : ∀ a u, H a = some u → Ad g ρ σ a → Ad g (ρ.set i (some x)) (σ.set i (some (.ref q))) a := fun a u e z => ⟨z.1, fun y => (own_setOwn y).elim (fun w => ne_of_none e nq w) z.2⟩
  have mv2 : ∀ a, Ad g ρ σ a ∧ a ≠ q → Ad g (ρ.set i (some x)) (σ.set i (some (.ref q))) a := fun a z => ⟨z.1.1, fun y => (own_setOwn y).elim (fun w => z.2 w) z.1.2⟩
  have nq0 : g.H0 q = none := by
    cases e : g.H0 q with
    | none => rfl
    | some u =>
      have := ei.keep q u e (rg_some hd nq)
      rw [nq] at this
      cases this
  have nr : ¬ g.r.rg q := rg_some hd nq
  refine ⟨⟨by rw [List.length_set, List.length_set]; exact ei.len, ei.keep.trans k, fun j y e => ?_, fun j l y z p oj ol e1 e2 e3 e4 => ?_⟩, fun a u e n nr' => ⟨k a u e nr', fun z => (own_setOwn z).elim (fun w => ne_of_none e nq w) n⟩⟩
  · by_cases hj : i = j
    · subst hj
      have hl : i < ρ.length := by
        by_cases hl : i < ρ.length
        · exact hl
        · rw [List.getElem?_eq_none (by rw [List.length_set]; omega)] at e
          cases e
      rw [List.getElem?_set_self hl] at e
      cases e
      refine ⟨.ref q, by rw [List.getElem?_set_self (by rw [← ei.len]; exact hl)], ?_⟩
      rw [if_pos ho]
      cases x with
      | lst xs =>
        unfold RepN at r
        unfold OwnAt
        obtain ⟨p, vs, e, n, h, l, rs⟩ := r
        cases e
        exact ⟨q, vs, rfl, nq0, nr, h, l, rs.move (fun _ _ e _ => e) fun a _ _ z => mv2 a z⟩
      | dk ks xs =>
        unfold RepN at r
        unfold OwnAt
        obtain ⟨p, vs, e, n, h, l, m, rs⟩ := r
        cases e
        exact ⟨q, vs, rfl, nq0, nr, h, l, m, rs.move (fun _ _ e _ => e) fun a _ _ z => mv2 a z⟩
      | _ => exact (show False from r).elim
    · rw [List.getElem?_set_ne hj] at e
      obtain ⟨w, e1, h⟩ := ei.slot j y e
      refine ⟨w, by rw [List.getElem?_set_ne hj]; exact e1, ?_⟩
      by_cases o : g.own j = true
      · rw [if_pos o] at h ⊢
        cases y with
        | lst xs =>
          unfold OwnAt at h ⊢
          obtain ⟨p, vs, e2, n, nr, q, l, r⟩ := h
          exact ⟨p, vs, e2, n, nr, k _ _ q nr, l, r.move (Ad.keeps hd k) mv⟩
        | dk ks xs =>
          unfold OwnAt at h ⊢
          obtain ⟨p, vs, e2, n, nr, q, l, m, r⟩ := h
          exact ⟨p, vs, e2, n, nr, k _ _ q nr, l, fine_m m fun a u e nm => k a u e fun z => nm (e ▸ g.r.hmut _ _ _ hd z), r.move (Ad.keeps hd k) mv⟩
        | _ => exact h
      · rw [if_neg o] at h ⊢
        exact h.move (Ad.keeps hd k) mv
  · have sm : ∀ m w, g.own m = true → i ≠ m → ρ[m]? = some (some w) → σ[m]? = some (some (.ref p)) → p ≠ q := fun m w om _ e1 e2 => by
      obtain ⟨u, hu, _⟩ := ei.own_some ⟨m, w, om, e1, e2⟩
      exact ne_of_none hu nq
    by_cases hj : i = j
    · by_cases hl : i = l
      · exact hj.symm.trans hl
      · rw [List.getElem?_set_ne hl] at e2 e4
        subst hj
        have hs : i < σ.length := by
          by_cases hl : i < σ.length
          · exact hl
          · rw [List.getElem?_eq_none (by rw [List.length_set]; omega)] at e3
            cases e3
        rw [List.getElem?_set_self hs] at e3
        cases e3
        exact absurd rfl (sm l z ol hl e2 e4)
    · rw [List.getElem?_set_ne hj] at e1 e3
      by_cases hl : i = l
      · subst hl
        have hs : i < σ.length := by
          by_cases hl : i < σ.length
          · exact hl
          · rw [List.getElem?_eq_none (by rw [List.length_set]; omega)] at e4
            cases e4
        rw [List.getElem?_set_self hs] at e4
        cases e4
        exact absurd rfl (sm j y oj hj e1 e3)
      · rw [List.getElem?_set_ne hl] at e2 e4
        exact ei.dist j l y z p oj ol e1 e2 e3 e4
theorem ds_setN {i : Nat} {x : Str} {pos' : Pos} {f : FE C} (hN : X.N.Nodup) (hi : X.N[i]? = some x) (hx : Loc X.env.scope x) (ho : g.own i = true) (h : PE X e (tN g f)) (hs : swapsWith e (some (.Name x pos')) pos.line X.env = pure false := by rfl)
    (hf : X.fn x = true ∨ X.env.scope.names.lookup x = some .local := by first | exact .inl rfl | exact .inr rfl | assumption) : PS X (.Assign [.Name x pos'] e pos) (tS g (sSet i f)) :=
  (ps_set hN hi hx h hs hf).weak fun D σ H ⟨ρ, c, ei, hd, q⟩ => ⟨ρ, c, ei, hd, by
    -- behind the expression the state is as at its start
    have go : GoX g H (f ρ c) fun x c1 H1 => GoS g ρ σ H (ret (.nx (ρ.set i (some x))) c1) D := by
      have q' : GoS g ρ σ H (bnd (f ρ) (fun x => ret (.nx (ρ.set i (some x)))) c) D := q
      unfold bnd at q'
      cases e : f ρ c with
      | ok r => rw [e] at q'; exact fun H' kp hd => q'
      | ex n => rw [e] at q'; exact fun H' kp => q' H' (ei.keep.trans kp)
      | bad => rw [e] at q'; exact q'
    refine go.mono fun x c1 H1 k hd1 w v rv => ?_
    obtain ⟨e1, s1⟩ := ei.setOwn hd k hd1 ho rv
    exact w _ H1 e1 hd1 s1⟩
theorem set_wk {i : Nat} {f : FE C} (ho : g.own i = false) : ∀ D σ H, tS g (sSet i f) D σ H → tE g true f σ H fun v H1 => D.nx (σ.set i (some v)) H1 := fun D σ H ⟨ρ, c, ei, hd, q⟩ => ⟨ρ, c, ei, hd, (GoS.bx ei q).mono fun x c1 H1 k hd1 w v rv =>
    w _ H1 ((ei.kp hd k).set ho fun y ey => ⟨v, rfl, by cases ey; exact rv⟩) hd1 (StepS.sets (Sets.one ho) Kp.refl)⟩
theorem set_wkN {i : Nat} {f : FE C} (ho : g.own i = true) : ∀ D σ H, tS g (sSet i f) D σ H → tN g f σ H fun v H1 => D.nx (σ.set i (some v)) H1 := fun D σ H ⟨ρ, c, ei, hd, q⟩ => ⟨ρ, c, ei, hd, by
    have go : GoX g H (f ρ c) fun x c1 H1 => GoS g ρ σ H (ret (.nx (ρ.set i (some x))) c1) D := by
      have q' : GoS g ρ σ H (bnd (f ρ) (fun x => ret (.nx (ρ.set i (some x)))) c) D := q
      unfold bnd at q'
      cases e : f ρ c with
      | ok r => rw [e] at q'; exact fun H' kp hd => q'
      | ex n => rw [e] at q'; exact fun H' kp => q' H' (ei.keep.trans kp)
      | bad => rw [e] at q'; exact q'
    refine go.mono fun x c1 H1 k hd1 w v rv => ?_
    obtain ⟨e1, s1⟩ := ei.setOwn hd k hd1 ho rv
    exact w _ H1 e1 hd1 s1⟩
/-- a list that a name owns is changed -/
theorem EI.mut {i : Nat} {xs xs' : List Vl} {vs' : List V} {q : Addr} (ei : EI g ρ σ H) (hd : g.r.held cc H) (ho : g.own i = true) (e : ρ[i]? = some (some (.lst xs))) (eq : σ[i]? = some (some (.ref q))) (hl : vs'.length ≤ sizeLine) (r : Reps g.K g.r.T (Ad g ρ σ) H xs' vs') :
    EI g (ρ.set i (some (.lst xs'))) σ (upd H q (.lst vs')) ∧ StepS g ρ σ H (ρ.set i (some (.lst xs'))) σ (upd H q (.lst vs')) ∧ g.r.held cc (upd H q (.lst vs')) := by
  have ow : Own g ρ σ q := ⟨i, _, ho, e, eq⟩
  obtain ⟨u0, hu0, mu0, n0, nr0⟩ := ei.own_some ow
  have oi : ∀ a, Own g (ρ.set i (some (.lst xs'))) σ a ↔ Own g ρ σ a := fun a => by
    constructor
    · rintro ⟨j, y, o, e1, e2⟩
      by_cases hj : i = j
      · subst hj
        exact ⟨i, _, o, e, e2⟩
      · rw [List.getElem?_set_ne hj] at e1
        exact ⟨j, y, o, e1, e2⟩
    · rintro ⟨j, y, o, e1, e2⟩
      by_cases hj : i = j
      · subst hj
        have hl : i < ρ.length := (List.getElem?_eq_some_iff.mp e).1
        exact ⟨i, .lst xs', o, by rw [List.getElem?_set_self hl], e2⟩
      · exact ⟨j, y, o, by rw [List.getElem?_set_ne hj]; exact e1, e2⟩
  have ad : ∀ a, Ad g ρ σ a → Ad g (ρ.set i (some (.lst xs'))) σ a := fun a z => ⟨z.1, fun y => z.2 ((oi a).mp y)⟩
  have kb : ∀ a u, H a = some u → a ≠ q → (upd H q (.lst vs')) a = some u := fun a u e ne => by rw [upd_ne ne]; exact e
  have mv : ∀ a u, H a = some u → (Mut (some u) → Ad g ρ σ a) → (upd H q (.lst vs')) a = some u := fun a u e m => by
    by_cases z : a = q
    · subst z
      rw [hu0] at e
      cases e
      exact absurd ow (m mu0).2
    · exact kb a u e z
  refine ⟨⟨by rw [List.length_set]; exact ei.len, fun a u e nr => ?_, fun j y e1 => ?_, fun j l y z p oj ol e1 e2 e3 e4 => ?_⟩, fun a u e n nr => ⟨kb a u e fun z => n (z ▸ ow), fun z => n ((oi a).mp z)⟩, Rg.new hd nr0⟩
  · have ne : a ≠ q := fun z => by
      subst z
      rw [n0] at e
      cases e
    exact kb a u (ei.keep a u e nr) ne
  · by_cases hj : i = j
    · subst hj
      have hl' : i < ρ.length := (List.getElem?_eq_some_iff.mp e).1
      rw [List.getElem?_set_self hl'] at e1
      cases e1
      refine ⟨_, eq, ?_⟩
      rw [if_pos ho]
      unfold OwnAt
      exact ⟨q, vs', rfl, n0, nr0, upd_same, hl, r.move mv fun a _ _ z => ad a z⟩
    · rw [List.getElem?_set_ne hj] at e1
      obtain ⟨w, e2, h⟩ := ei.slot j y e1
      refine ⟨w, e2, ?_⟩
      by_cases o : g.own j = true
      · rw [if_pos o] at h ⊢
        have nq : ∀ p, w = .ref p → p ≠ q := fun p ep z => by
          subst ep
          subst z
          exact hj (ei.dist i j _ _ p ho o e e1 eq e2)
        cases y with
        | lst ys =>
          unfold OwnAt at h ⊢
          obtain ⟨p, vs, e3, n, nr, hq, l, r⟩ := h
          exact ⟨p, vs, e3, n, nr, kb _ _ hq (nq p e3), l, r.move mv fun a _ _ z => ad a z⟩
        | dk ks ys =>
          unfold OwnAt at h ⊢
          obtain ⟨p, vs, e3, n, nr, hq, l, m, r⟩ := h
          exact ⟨p, vs, e3, n, nr, kb _ _ hq (nq p e3), l, fine_m m fun a u e nm => mv a u e fun z => absurd z nm, r.move mv fun a _ _ z => ad a z⟩
        | _ => exact h
      · rw [if_neg o] at h ⊢
        exact h.move mv fun a _ _ z => ad a z
  · have back : ∀ m w, (ρ.set i (some (.lst xs')))[m]? = some (some w) → ∃ w', ρ[m]? = some (some w') := fun m w h => by
      by_cases hm : i = m
      · subst hm
        exact ⟨_, e⟩
      · rw [List.getElem?_set_ne hm] at h
        exact ⟨w, h⟩
    obtain ⟨y', ey⟩ := back j y e1
    obtain ⟨z', ez⟩ := back l z e2
    exact ei.dist j l y' z' p oj ol ey ez e3 e4
theorem EI.ownLst {i : Nat} {xs : List Vl} (ei : EI g ρ σ H) (ho : g.own i = true) (e : ρ[i]? = some (some (.lst xs))) : ∃ q vs, σ[i]? = some (some (.ref q)) ∧ H q = some (.lst vs) ∧ vs.length ≤ sizeLine ∧ Reps g.K g.r.T (Ad g ρ σ) H xs vs := by
  obtain ⟨v, e1, h⟩ := ei.slot i _ e
  rw [if_pos ho] at h
  unfold OwnAt at h
  obtain ⟨p, vs, rfl, n, nr, hq, l, r⟩ := h
  exact ⟨p, vs, e1, hq, l, r⟩
theorem look_of {i : Nat} {x : Vl} (h : ρ[i]? = some (some x)) : look ρ i = some x := by
  unfold look
  rw [h]
theorem EI.lstFirst {i : Nat} {k : M C Out} (ei : EI g ρ σ H) (hd : g.r.held cc H) (ho : g.own i = true) (q : GoS g ρ σ H (bnd (opt (lstAt ρ i)) (fun _ => k) cc) D) :
    ∃ xs q0 vs, ρ[i]? = some (some (.lst xs)) ∧ σ[i]? = some (some (.ref q0)) ∧ H q0 = some (.lst vs) ∧ vs.length ≤ sizeLine ∧ Reps g.K g.r.T (Ad g ρ σ) H xs vs ∧ GoS g ρ σ H (k cc) D := by
  obtain ⟨_, e1, w⟩ := GoX.opt hd (GoS.bx ei q)
  unfold lstAt at e1
  split at e1
  · rename_i xs e
    have e0 := look_some e
    obtain ⟨q0, vs, a1, a2, a3, a4⟩ := ei.ownLst ho e0
    exact ⟨xs, q0, vs, e0, a1, a2, a3, a4, w⟩
  · cases e1
theorem GoX.bind1 {α : Type} {m : R (α × C)} {Φ : α → C → Hp → Prop} (h : GoX g H m Φ) : GoX g H m Φ := h
theorem ds_app {i : Nat} {x : Str} {apos cpos : Pos} {f : FE C} {p0 : Pos} (hK : X.K = g.K) (hN : X.N[i]? = some x) (hv : Vis X.env.scope x) (ho : g.own i = true) (h : PE X e (tE g true f)) (hd1 : (x == ("__debug__" : Str)) = false := by decide) (hcd : (x == ("__classdict__" : Str)) = false := by decide)
    (hbase : attributeBase (.Name x p0) "append" X.env (eval (.Name x p0) X.env) = eval (.Name x p0) X.env := by rfl)
    (hfew : ((backTo cpos (starEach [e] X.env)).all (fun x => !x.1) && (backToKw cpos (keywordEach [] X.env)).all (fun x => x.1.isSome)
      && decide ([e].length + ([] : List Keyword).length + (if ([] : List Keyword).isEmpty then 0 else 1) < 30)) = true := by rfl)
    (hline : (apos.endLine == cpos.line) = true := by rfl) (hs : starEach [e] X.env = (false, eval e X.env) :: starEach [] X.env := by rfl) (hplain : (backTo cpos (starEach [] X.env)).any (·.1) = false := by rfl)
    (hs2 : swapsWith (.Call (.Attribute (.Name x p0) "append" apos) [e] [] cpos) none pos.line X.env = pure false := by rfl) :
    PS X (.Expr (.Call (.Attribute (.Name x p0) "append" apos) [e] [] cpos) pos) (tS g (sApp i f)) :=
  (ps_expr (pe_bm PySem.F.plainAttrs_list PySem.F.slot_list_append PySem.F.type_list_append mt_append (pe_var hN hv hd1 hcd) (pa_cons h pa_nil hs) hbase hfew hline hs hplain) hs2).weak fun D σ H ⟨ρ, c, ei, hd, q⟩ => by
    obtain ⟨xs, q0, vs, e0, e1, hq, l, rs, q⟩ := ei.lstFirst hd ho q
    refine ⟨.ref q0, e1, .inl ⟨rfl, _, SqL.of hq⟩, ?_⟩
    refine ⟨ρ, c, ei, hd, (GoX.bind1 (GoS.bx ei q)).mono fun y c1 H1 k hd1 w v rv => ?_⟩
    have ei1 := ei.kp hd k
    obtain ⟨ρ', er, w2⟩ := GoX.opt hd1 (GoS.bx ei1 w)
    unfold appAt at er
    rw [look_of e0] at er
    dsimp only at er
    by_cases hl : xs.length < sizeLine
    · rw [if_pos hl] at er
      cases er
      have h1 := k _ _ hq (ei.own_some ⟨i, _, ho, e0, e1⟩).choose_spec.2.2.2
      have hl' : vs.length < sizeLine := by rw [rs.len]; exact hl
      refine ⟨q0, vs, v, rfl, rfl, h1, hl', ?_⟩
      obtain ⟨a1, a2, a3⟩ := ei1.mut hd1 ho e0 e1 (xs' := xs ++ [y]) (vs' := vs ++ [v]) (by rw [List.length_append]; exact hl') (Reps.append (rs.kp hd k) (Reps.cons rv Reps.nil))
      exact w2 σ _ a1 a3 a2
    · rw [if_neg hl] at er
      cases er
theorem ds_put {i : Nat} {x : Str} {ik : Expr} {f fk : FE C} {p0 pt : Pos} {bk : Bool} (hK : X.K = g.K) (hN : X.N[i]? = some x) (hv : Vis X.env.scope x) (ho : g.own i = true) (h : PE X e (tE g true f)) (hk : PE X ik (tE g bk fk)) (hd1 : (x == ("__debug__" : Str)) = false := by decide) (hcd : (x == ("__classdict__" : Str)) = false := by decide)
    (ha : ∀ v, assign (.Subscript (.Name x p0) ik pt) X.env v = (do
      let ov ← holding [v] (eval (.Name x p0) X.env)
      let iv ← holding [v, ov] (eval ik X.env)
      standAt pt
      holding [v, ov, iv] (setItem ov iv v)
      release [v, ov, iv] []) := by intro _; rfl)
    (hs : swapsWithSole [.Subscript (.Name x p0) ik pt] e pos.line X.env = pure false := by rfl) (hw : swappedStores [.Subscript (.Name x p0) ik pt] e X.env = pure none := by rfl)
    (h1 : (assignEach [.Subscript (.Name x p0) ik pt] X.env).map (·.2) = [assign (.Subscript (.Name x p0) ik pt) X.env] := by rfl) :
    PS X (.Assign [.Subscript (.Name x p0) ik pt] e pos) (tS g (sPut i fk f)) :=
  (ps_asg h (pg_sub (pe_var hN hv hd1 hcd) hk set_list ha) hs hw h1).weak fun D σ H ⟨ρ, c, ei, hd, q⟩ => by
    refine ⟨ρ, c, ei, hd, (GoX.bind1 (GoS.bx ei q)).mono fun y c1 H1 k hd1 w v rv => ?_⟩
    have ei1 := ei.kp hd k
    obtain ⟨xs, q0, vs, e0, e1, hq, l, rs, w⟩ := ei1.lstFirst hd1 ho w
    refine ⟨.ref q0, e1, ?_⟩
    refine ⟨ρ, c1, ei1, hd1, (GoX.bind1 (GoS.bx ei1 w)).mono fun kx c2 H2 k2 hd2 w2 kv rk => ?_⟩
    have ei2 := ei1.kp hd1 k2
    obtain ⟨ρ', er, w3⟩ := GoX.opt hd2 (GoS.bx ei2 w2)
    unfold setAt at er
    rw [look_of e0] at er
    cases kx with
    | int kk =>
      dsimp only at er
      cases ej : ixN xs.length kk with
      | none => rw [ej] at er; cases er
      | some j =>
        rw [ej] at er
        cases er
        have rk := rk.i
        unfold RepI Rep at rk
        subst rk
        have h2 := k2 _ _ hq (ei1.own_some ⟨i, _, ho, e0, e1⟩).choose_spec.2.2.2
        refine ⟨q0, vs, kk, j, rfl, rfl, h2, by rw [rs.len]; exact ej, ?_⟩
        obtain ⟨a1, a2, a3⟩ := ei2.mut hd2 ho e0 e1 (xs' := xs.set j y) (vs' := vs.set j v) (by rw [List.length_set]; exact l) (Reps.set (rv.kp hd1 k2) j (rs.kp hd1 k2))
        exact w3 σ _ a1 a3 a2
    | _ => cases er
/-- xs[k] of a list, by values -/
theorem get_list : PGet X (rIxL X.K) := by
  intro pins s σ H x y v u Q I rx ry h
  obtain ⟨p, xs, i, z, rfl, rfl, hq, he, q⟩ := h
  cases rx
  obtain ⟨t, rfl⟩ := ry
  obtain ⟨its, r, pl, hz⟩ := I.list hq
  obtain ⟨j, h1, h2, h3, h4, h5⟩ := atI_get he
  obtain ⟨w, ew, rw'⟩ := r.get h2
  have hl := r.length
  have hn := line63
  have fin : EP X pins σ Q w s := ⟨z, H, I, rw', q⟩
  by_cases h0 : 0 ≤ i
  · have hj : i.toNat = j := by
      rw [PySem.seqIndex_of h0 h5] at h1
      exact Option.some.inj h1
    exact wpAny_getItem_list pl.isList h0 (by omega) (by rw [hj]; simpa using ew) fin
  · have hj : (i + (its.toArray.size : Int)).toNat = j := by
      rw [PySem.seqIndex_neg (by omega) h4] at h1
      rw [List.size_toArray, ← hl]
      exact Option.some.inj h1
    exact wpAny_getItem_list_neg pl.isList (by omega) (by rw [List.size_toArray] <;> omega) (by omega) (by rw [hj]; simpa using ew) fin
end
end PyA
/-! PyF: loops, raise, a def by its body. -/
namespace PyA
open PySem L2
section
variable {X : Cx} {C : Type} {g : Fx C} {e a b : Expr} {es : List Expr} {st : Stmt} {sts : List Stmt} {pos p : Pos} {n : Nat}
variable {ρ ρ' ρ1 : PEnv} {σ σ' σ1 : St} {H H' H1 : Hp} {cc : C} {D : Ends} {N : Bool}
section
variable {elt tg iter : Expr} {ifs : List Expr} {scope : Scope} {own : List (Str × Nat)} {ba : Bool} {it : PEnv → M C (List Vl)} {bd : Bnd} {ft : FT C} {fe : FE C} {ws : List Nat} {i : Nat} {y : Str} {py spos : Pos} {b0 : Bool}
/-- name = [.. for ..], the name a plain local -/
theorem ds_setLc (ho : g.own i = b0) (hy : X.N[i]? = some y) (hl : X.env.scope.names.lookup y = some .local) (hsw : swapsWith (.ListComp elt [⟨tg, iter, ifs, 0⟩] scope pos) (some (.Name y py)) spos.line X.env = pure true)
    (hc : X.calm = true) (hN : X.N.Nodup) (hi : PI X tg iter (tI g ba it)) (ok : BlkOk X.N X.env.scope scope own)
    (hws0 : (ws.all fun i => (own.map (·.2)).contains i) = true) (hown0 : ((own.map (·.2)).all fun i => !g.own i) = true)
    (hg : ∀ A0 H0 s H Ca cl fp, PG (X.blk s H scope (compEnvC scope cl Ca X.env) fp) tg (tG (g.at A0 H0) ws bd)) (ht : ∀ A0 H0 s H Ca cl fp, PTs (X.blk s H scope (compEnvC scope cl Ca X.env) fp) ifs (tT (g.at A0 H0) ft))
    (he : ∀ A0 H0 s H Ca cl fp, PE (X.blk s H scope (compEnvC scope cl Ca X.env) fp) elt (tE (g.at A0 H0) true fe)) (hs : ∀ x, foldedSetIterable iter X.env x = pure x := by intro _; rfl) :
    PS X (.Assign [.Name y py] (.ListComp elt [⟨tg, iter, ifs, 0⟩] scope pos) spos) (tS g (sSet i (fLc it (own.map (·.2)) bd ft fe))) := by
  obtain ⟨TE', _, h, w⟩ := lc_ex (pos := pos) hc hN hi ok hws0 hown0 hg ht he hs
  refine (h i y py spos hy hl hsw).weak fun D σ H q => ?_
  show TE' σ H _
  refine w _ _ _ ?_
  cases b0 with
  | true => exact set_wkN ho D σ H q
  | false =>
    obtain ⟨ρ, c, ei, hd, q⟩ := set_wk ho D σ H q
    exact ⟨ρ, c, ei, hd, q.mono fun x c1 H1 k hd1 w v r => w v (RepB.of (r.toRep (fun _ n => ei.ad_new hd n) fun _ z => z))⟩
end
theorem ip_of {op : Operator} {r : R2} (h : OpR X (inplaceOp op) r) : PIp X op r := fun pins s σ H x y v u Q I rx ry q => h pins s σ H x y v u Q I rx ry q
theorem ds_augIx {i : Nat} {x : Str} {ik : Expr} {op : Operator} {fop : Vl → Vl → Option Vl} {f fk : FE C} {p0 pt : Pos} {bk bf : Bool} (hK : X.K = g.K) (hN : X.N[i]? = some x) (hv : Vis X.env.scope x) (ho : g.own i = true) (hop : OpP N X (inplaceOp op) fop) (hk : PE X ik (tE g bk fk)) (h : PE X e (tE g bf f))
    (hd1 : (x == ("__debug__" : Str)) = false := by decide) (hcd : (x == ("__classdict__" : Str)) = false := by decide)
    (ha : ∀ ov iv new, augStore ik ov iv new = (do holding [new, ov, iv] (setItem ov iv new); release [new, ov, iv] []; pure .next) := by intros; rfl) :
    PS X (.AugAssign (.Subscript (.Name x p0) ik pt) op e pos) (tS g (sAugIx i fop fk f)) :=
  (ps_augS (pe_var hN hv hd1 hcd) hk get_list h (ip_of (hop g.r.T)) set_list ha).weak fun D σ H ⟨ρ, c, ei, hd, q⟩ => by
    obtain ⟨xs, q0, vs, e0, e1, hq, l, rs, q⟩ := ei.lstFirst hd ho q
    have nr := (ei.own_some ⟨i, _, ho, e0, e1⟩).choose_spec.2.2.2
    refine ⟨.ref q0, e1, ρ, c, ei, hd, (GoX.bind1 (GoS.bx ei q)).mono fun kx c1 H1 k hd1 w kv rk => ?_⟩
    have ei1 := ei.kp hd k
    obtain ⟨z, ez, w2⟩ := GoX.opt hd1 (GoS.bx ei1 w)
    unfold getAt at ez
    rw [look_of e0] at ez
    cases kx with
    | int kk =>
      dsimp only at ez
      have rk := rk.i
      unfold RepI Rep at rk
      subst rk
      have h1 := k _ _ hq nr
      have rs1 := rs.kp hd k
      obtain ⟨j, ej⟩ : ∃ j, ixN xs.length kk = some j := by
        unfold atI at ez
        cases e : ixN xs.length kk with
        | none => rw [e] at ez; cases ez
        | some j => exact ⟨j, rfl⟩
      have ezj : xs[j]? = some z := by
        unfold atI at ez
        rw [ej] at ez
        exact ez
      obtain ⟨zv, ezv, rz⟩ := rs1.get ezj
      refine ⟨q0, vs, kk, zv, rfl, rfl, SqL.of h1, ?_, ρ, c1, ei1, hd1, (GoX.bind1 (GoS.bx ei1 w2)).mono fun y c2 H2 k2 hd2 w3 v rv => ?_⟩
      · unfold atI
        rw [rs.len, ej]
        exact ezv
      · have ei2 := ei1.kp hd1 k2
        obtain ⟨t, et, w4⟩ := GoX.opt hd2 (GoS.bx ei2 w3)
        have h2 := k2 _ _ h1 nr
        rw [hK]
        have rz2 : RepI g.K g.r.T (Bd g) (Ad g ρ σ) H2 z zv := (rz.kp hd1 k2).toI fun _ z => z.1
        refine ⟨z, y, _, _, t, rz2, rv.i, et, tE_last ei2 hd2 fun H3 k3 hd3 tv rt => ?_⟩
        have ei3 := ei2.kp hd2 k3
        obtain ⟨ρ', er, w5⟩ := GoX.opt hd3 (GoS.bx ei3 (GoS.step (StepS.kp k3) w4))
        unfold setAt at er
        rw [look_of e0] at er
        dsimp only at er
        rw [ej] at er
        cases er
        have h3 := k3 _ _ h2 nr
        refine ⟨q0, vs, kk, j, rfl, rfl, h3, by rw [rs.len]; exact ej, ?_⟩
        unfold RepB at rt
        rw [if_pos rfl] at rt
        obtain ⟨a1, a2, a3⟩ := ei3.mut hd3 ho e0 e1 (xs' := xs.set j t) (vs' := vs.set j tv) (by rw [List.length_set]; exact l) (Reps.set rt j ((rs1.kp hd1 k2).kp hd2 k3))
        exact w5 σ _ a1 a3 a2
    | _ => cases ez
theorem ds_aug {i : Nat} {x : Str} {op : Operator} {fop : Vl → Vl → Option Vl} {f : FE C} {p0 : Pos} {bf : Bool} (hK : X.K = g.K) (hN : X.N.Nodup) (hi : X.N[i]? = some x) (hx : Loc X.env.scope x) (ho : g.own i = false) (hop : OpP N X (inplaceOp op) fop) (h : PE X e (tE g bf f))
    (hf : X.fn x = true ∨ X.env.scope.names.lookup x = some .local := by first | exact .inl rfl | exact .inr rfl | assumption) : PS X (.AugAssign (.Name x p0) op e pos) (tS g (sAug i fop f)) :=
  (ps_aug hN hi hx h (ip_of (hop g.r.T)) hf).weak fun D σ H ⟨ρ, c, ei, hd, q⟩ => by
    obtain ⟨y, ey, q1⟩ := GoX.opt hd (GoS.bx ei q)
    obtain ⟨v, ev, rv⟩ := ei.slot i y (look_some ey)
    rw [if_neg (by rw [ho]; exact Bool.false_ne_true)] at rv
    refine ⟨v, ev, ρ, c, ei, hd, (GoX.bind1 (GoS.bx ei q1)).mono fun z c1 H1 k hd1 w u ru => ?_⟩
    have ei1 := ei.kp hd k
    obtain ⟨t, et, w2⟩ := GoX.opt hd1 (GoS.bx ei1 w)
    rw [hK]
    refine ⟨y, z, _, _, t, (rv.kp hd k).toI fun _ z => z.1, ru.i, et, tE_last ei1 hd1 fun H2 k2 hd2 tv rt => ?_⟩
    unfold RepB at rt
    rw [if_pos rfl] at rt
    exact w2 _ H2 ((ei1.kp hd1 k2).set ho fun y ey => ⟨tv, rfl, by cases ey; exact rt⟩) hd2 ((StepS.kp k2).trans (StepS.sets (Sets.one ho) Kp.refl))
/-! ### loops -/
theorem GoS.bo {α : Type} {o : Option α} {k : α → M C Out} (h : GoS g ρ σ H (bnd (opt o) k cc) D) : ∃ x, o = some x ∧ GoS g ρ σ H (k x cc) D := by
  cases o with
  | none => exact h.elim
  | some x => exact ⟨x, rfl, h⟩
/-- one turn's body, then the rest -/
theorem GoS.turn {ρ0 : PEnv} {σ0 : St} {H0 : Hp} {m : M C Out} {k : PEnv → M C Out} (s : StepS g ρ0 σ0 H0 ρ σ H) (h : GoS g ρ0 σ0 H0 (bnd m (forOut k) cc) D) {Nx : St → Hp → Prop}
    (hn : ∀ ρ' c' σ' H', EI g ρ' σ' H' → g.r.held c' H' → StepS g ρ0 σ0 H0 ρ' σ' H' → GoS g ρ0 σ0 H0 (k ρ' c') D → Nx σ' H') : GoS g ρ σ H (m cc) { D with nx := Nx, ct := Nx, bk := D.nx } := by
  unfold bnd at h
  cases e : m cc with
  | ok q =>
    rw [e] at h
    obtain ⟨o, c⟩ := q
    cases o with
    | nx ρ' => exact fun σ' H' ei hd t => hn ρ' c σ' H' ei hd (s.trans t) h
    | bk ρ' => exact fun σ' H' ei hd t => h σ' H' ei hd (s.trans t)
    | ct ρ' => exact fun σ' H' ei hd t => hn ρ' c σ' H' ei hd (s.trans t) h
    | rt v => exact h
  | ex n => rw [e] at h; exact h
  | bad => rw [e] at h; exact h
theorem ds_for {tg iter : Expr} {body : List Stmt} {it : PEnv → M C (List Vl)} {vs : List Nat} {bd : Bnd} {fb : FS C} (hp : PassesOwn (model X.prog X.w) X.A X.env X.xe) (hc : X.calm = true) (hi : PI X tg iter (tI g true it)) (hg : PG X tg (tG g vs bd)) (hb : PSs X body (tS g fb))
    (hs : ∀ x, foldedSetIterable iter X.env x = pure x := by intro _; rfl) : PS X (.For tg iter body [] pos) (tS g (sFor it bd fb)) :=
  (ps_for hp hc hi hg hb hs).weak fun D σ H ⟨ρ, c, ei, hd, q⟩ => by
    refine ⟨ρ, c, ei, hd, (GoX.bind1 (GoS.bx ei q)).mono fun its c1 H1 k hd1 w J gw => ?_⟩
    obtain ⟨L, hL, hl, wk⟩ := gw
    have ei1 := ei.kp hd k
    refine for_it wk (fun i σ' H' => ∃ ρ' c', EI g ρ' σ' H' ∧ g.r.held c' H' ∧ StepS g ρ σ H1 ρ' σ' H' ∧ GoS g ρ σ H1 (forL bd fb (its.drop i) ρ' c') D) ⟨ρ, c1, ei1, hd1, StepS.refl, w⟩ ?_ ?_ ?_
    · rintro i σ' H' hi ⟨ρ', c', ei', hd', st, w'⟩ q hq
      exact (st _ _ (hL q hq).1 ((hL q hq).2.2 rfl) (hL q hq).2.1).1
    · rintro i v σ' H' H2 hi ⟨ρ', c', ei', hd', st, w'⟩ ⟨sm, rx⟩
      obtain ⟨x, ex, ed⟩ := drop_at hi
      rw [ed] at w'
      obtain ⟨ρ1, e1, w1⟩ := GoS.bo w'
      have ei2 := ei'.kp hd' (Kp.of sm)
      have hd2 := Rg.same hd' sm
      have st2 : StepS g ρ σ H1 ρ' σ' H2 := st.trans (StepS.kp (Kp.of sm))
      refine ⟨ρ', c', x, ρ1, ei2, hd2, ?_, e1, fun σ2 ei3 ss => ⟨ρ1, c', ei3, hd2, ?_⟩⟩
      · refine rx (Ad g ρ' σ') (fun a u e m => ?_) (fun a u e z => ⟨z.1, (st a u e z.2 z.1.2).2⟩) x ex
        by_cases mu : Mut (some u)
        · exact (st a u e (m mu).2 (m mu).1.2).1
        · exact (st a u e (nomut_own ei1 e mu) (nomut_rg hd1 e mu)).1
      · exact GoS.turn (st2.trans (StepS.sets ss Kp.refl)) w1 fun ρ3 c3 σ3 H3 e3 h3 s3 g3 => ⟨ρ3, c3, e3, h3, s3, g3⟩
    · rintro σ' H' ⟨ρ', c', ei', hd', st, w'⟩
      rw [List.drop_length] at w'
      exact w' σ' H' ei' hd' st
theorem ds_while {t : Expr} {body : List Stmt} {ft : FT C} {fb : FS C} (m : Nat) (hp : PassesOwn (model X.prog X.w) X.A X.env X.xe) (ht : PT X t (tT g ft)) (hb : PSs X body (tS g fb)) : PS X (.While t body [] pos) (tS g (whileL ft fb m)) :=
  (ps_while hp ht hb).weak fun D σ H ⟨ρ, c, ei, hd, q⟩ => by
    refine ⟨fun m σ' H' => ∃ ρ' c', EI g ρ' σ' H' ∧ g.r.held c' H' ∧ GoS g ρ' σ' H' (whileL ft fb m ρ' c') D, ⟨m, ρ, c, ei, hd, q⟩, ?_⟩
    rintro m σ' H' ⟨ρ', c', ei', hd', w⟩
    cases m with
    | zero => exact w.elim
    | succ m =>
      refine ⟨ρ', c', ei', hd', (GoX.bind1 (GoS.bx ei' w)).mono fun k c1 H1 kp hd1 w1 => ?_⟩
      have ei1 := ei'.kp hd' kp
      cases k with
      | true =>
        rw [if_pos rfl] at w1
        exact iteT ⟨_, fun _ _ h => ⟨m, Nat.lt_succ_self m, h⟩, ρ', c1, ei1, hd1, GoS.turn StepS.refl w1 fun ρ3 c3 σ3 H3 e3 h3 s3 g3 => ⟨ρ3, c3, e3, h3, GoS.step s3 g3⟩⟩
      | false =>
        rw [if_neg Bool.false_ne_true] at w1
        exact iteF (w1 σ' H1 ei1 hd1 StepS.refl)
/-! ### raise -/
theorem ds_raise {C' : Addr} {x m : Str} {j : Nat} {p2 p3 : Pos} {bmB : List Value} {B newId initId : String} (hm' : X.mg = g.mg) (hc : X.calm = true) (tk : Takes X fun cls d _ H => g.EX cls d H) (F : ExcBaseFacts B newId initId bmB) (q : PySem.W.excIn X.K C' bmB newId = true) (gC : X.mg x = some (.ref C'))
    (kC : PySem.W.keepIn X.K (.ref C') = true) (r : Raises X (.ref C')) (hg : Gl X x) (hdb : (x == ("__debug__" : Str)) = false := by decide) : PS X (.Raise (some (.Call (.Name x p) [.Constant (.str m) j p2] [] p3)) none pos) (tS g (sRaise x)) :=
  (ps_raise hc tk (pmk_own F q gC kC r hg hdb)).weak fun D σ H ⟨ρ, c, ei, hd, w⟩ => by
    have w2 := w H ei.keep
    unfold clsOf at w2
    rw [← hm', gC] at w2
    exact w2
/-! ### a def by its body -/
theorem startE_get {nl : Nat} {xs : List Vl} {i : Nat} {x : Vl} (h : (startE nl xs)[i]? = some (some x)) : i < xs.length ∧ xs[i]? = some x := by
  unfold startE at h
  by_cases hi : i < xs.length
  · rw [List.getElem?_append_left (by simpa using hi), List.getElem?_map] at h
    refine ⟨hi, ?_⟩
    cases e : xs[i]? with
    | none => rw [e] at h; cases h
    | some y => rw [e] at h; cases h; rfl
  · rw [List.getElem?_append_right (by simpa using hi), List.getElem?_replicate] at h
    split at h <;> cases h
theorem start_ei {vs : List V} {xs : List Vl} {N : List Str} {A : Addr → Prop} (hA : g.A = A) (h0 : g.H0 = H) (hl : vs.length = xs.length) (r : Reps g.K g.r.T A H xs vs) (ha : ∀ a, A a → ¬ g.r.rg a) (hd : g.r.held cc H) (ho : ∀ i, i < xs.length → g.own i = false) (hn : vs.length ≤ N.length) :
    EI g (startE N.length xs) (L2.start N vs) H := by
  have now : ∀ a, ¬ Own g (startE N.length xs) (L2.start N vs) a := fun a ⟨i, x, o, e, _⟩ => by
    have := ho i (startE_get e).1
    rw [o] at this
    cases this
  refine ⟨?_, fun a u e _ => by rw [h0] at e; exact e, fun i x e => ?_, fun i j x y p oi _ e1 _ _ _ => ?_⟩
  · unfold startE L2.start
    simp [hl]
  · obtain ⟨hi, ex⟩ := startE_get e
    obtain ⟨v, ev, rx⟩ := r.get ex
    refine ⟨v, ?_, ?_⟩
    · unfold L2.start
      rw [List.getElem?_append_left (by rw [List.length_map, hl]; exact hi), List.getElem?_map, ev]
      rfl
    · rw [if_neg (by rw [ho i hi]; exact Bool.false_ne_true)]
      exact rx.move (fun _ _ e _ => e) fun a u e z => ⟨⟨.inl (by rw [hA]; exact z), ha a z⟩, now a⟩
  · have := ho i (startE_get e1).1
    rw [oi] at this
    cases this
/-- THE RULE for a def -/
theorem fn_ok {P : Program} {w : World} {K : PySem.W.Frag} {mg : Str → Option Value} {base : Heap} {x qual : Str} {f : Addr} {fd : FuncData} {N ps : List Str} {k : Nat} {ι : Type} (F : Fun K x qual st f fd) (S : FnScope N ps (defScope st)) (rgs : ι → Rg C) (own : Nat → Bool) (fb : FS C)
    (hn : ps.length = n) (ho : ∀ i, i < n → own i = false) (hN : n ≤ N.length)
    (body : ∀ (j : ι) (A0 : Addr → Prop) (cdv : Value) (A : Around) (outer : List Env) (s : Shared) (H : Hp) (E : XK), Room k (A.deeper (PyProof.Rows.envOfC qual (defScope st) s.heap.objs.size f cdv)) →
      PSs (cxOf (L2.CX P w) P w K mg base N qual (defScope st) f cdv A outer s H E) (defBody st) (tS ⟨K, rgs j, own, A0, H, mg, E⟩ fb)) :
    FnOk P w K mg base (L2.CX P w) (k + 1) f fd ps (spM K mg n rgs (mkF N.length fb)) := by
  refine F.okX S (fun vs H Q E h => ?_) (fun cdv A outer s H vs Q E hr h => ?_)
  · obtain ⟨j, xs, A, c, l, r, _⟩ := h
    rw [r.len, l, hn]
  · obtain ⟨j, xs, A0, c, l, r, ha, hd, h⟩ := h
    refine ⟨_, body j A0 cdv A outer s H E hr, startE N.length xs, c, start_ei rfl rfl r.len r ha hd (fun i hi => ho i (by omega)) (by rw [r.len, l]; exact hN), hd, ?_⟩
    unfold mkF bnd at h
    cases e : fb (startE N.length xs) c with
    | ok q =>
      rw [e] at h
      obtain ⟨o, c'⟩ := q
      cases o with
      | nx ρ' => exact fun σ' H' ei hd' _ => h .non H' ei.keep hd' (by unfold Rep; rfl)
      | rt v => exact fun u H' k hd' ru => h u H' k hd' (ru.move (fun _ _ e _ => e) fun a _ _ z => z.1)
      | bk ρ' => exact h.elim
      | ct ρ' => exact h.elim
    | ex nm =>
      rw [e] at h
      exact fun H' k => h H' k
    | bad =>
      rw [e] at h
      exact h.elim
end
end PyA
/-! PyG: operations on values. -/
namespace PyA
open PySem L2
/-! ### data -/
mutual
def toD : Vl → PyData
  | .non => .none
  | .bl b => .bool b
  | .int i => .int i
  | .str z => .str ⟨z.toArray⟩
  | .tup xs => .tuple (toDs xs)
  | .lst xs => .list (toDs xs)
  | .dk _ _ => .none
  | .reg _ => .none
def toDs : List Vl → List PyData
  | [] => []
  | x :: r => toD x :: toDs r
end
/-- plain data, nested n deep at most, its signs below 2^20 -/
def shp : Nat → Vl → Bool
  | _, .non => true
  | _, .bl _ => true
  | _, .int _ => true
  | _, .str z => z.all fun c => decide (c < 1048576)
  | n + 1, .tup xs => xs.all (shp n)
  | n + 1, .lst xs => xs.all (shp n)
  | _, _ => false
theorem shp_ok : ∀ (n : Nat) (x : Vl), shp n x = true → PyData.canLay0 (toD x) = true ∧ (toD x).depth ≤ n := by
  have sgn : ∀ z : List Nat, (z.all fun c => decide (c < 1048576)) = true → PyData.canLay0 (.str ⟨z.toArray⟩) = true := fun z h => by
    unfold PyData.canLay0 PyData.strOk
    rw [List.all_eq_true] at h
    simp only [List.all_toArray, List.all_eq_true]
    intro c hc
    have := of_decide_eq_true (h c hc)
    simp only [decide_eq_true_eq]
    omega
  have many : ∀ (n : Nat) (xs : List Vl), (∀ x, shp n x = true → PyData.canLay0 (toD x) = true ∧ (toD x).depth ≤ n) → xs.all (shp n) = true → PyData.canLayAll0 (toDs xs) = true ∧ PyData.depthAll (toDs xs) ≤ n := by
    intro n xs ih
    induction xs with
    | nil => intro _; unfold toDs PyData.canLayAll0 PyData.depthAll; exact ⟨rfl, Nat.zero_le _⟩
    | cons x xs jh =>
      intro h
      rw [List.all_cons, Bool.and_eq_true] at h
      obtain ⟨h1, h2⟩ := ih x h.1
      obtain ⟨h3, h4⟩ := jh h.2
      unfold toDs PyData.canLayAll0 PyData.depthAll
      rw [h1, h3]
      exact ⟨rfl, Nat.max_le.mpr ⟨h2, h4⟩⟩
  intro n
  induction n with
  | zero =>
    intro x h
    cases x with
    | non => unfold toD PyData.canLay0 PyData.depth; exact ⟨rfl, Nat.le_refl _⟩
    | bl b => unfold toD PyData.canLay0 PyData.depth; exact ⟨rfl, Nat.le_refl _⟩
    | int b => unfold toD PyData.canLay0 PyData.depth; exact ⟨rfl, Nat.le_refl _⟩
    | str z => unfold toD; refine ⟨sgn z h, ?_⟩; unfold PyData.depth; exact Nat.le_refl _
    | _ => cases h
  | succ n ih =>
    intro x h
    cases x with
    | non => unfold toD PyData.canLay0 PyData.depth; exact ⟨rfl, Nat.zero_le _⟩
    | bl b => unfold toD PyData.canLay0 PyData.depth; exact ⟨rfl, Nat.zero_le _⟩
    | int b => unfold toD PyData.canLay0 PyData.depth; exact ⟨rfl, Nat.zero_le _⟩
    | str z => unfold toD; refine ⟨sgn z h, ?_⟩; unfold PyData.depth; exact Nat.zero_le _
    | tup xs =>
      obtain ⟨h1, h2⟩ := many n xs ih h
      unfold toD PyData.canLay0 PyData.depth
      exact ⟨h1, Nat.succ_le_succ h2⟩
    | lst xs =>
      obtain ⟨h1, h2⟩ := many n xs ih h
      unfold toD PyData.canLay0 PyData.depth
      exact ⟨h1, Nat.succ_le_succ h2⟩
    | _ => cases h
abbrev deep : Nat := 12
theorem shp_shaped {x : Vl} (h : shp deep x = true) : SeqAt.shaped (toD x) = true := by
  obtain ⟨h1, h2⟩ := shp_ok _ _ h
  unfold SeqAt.shaped
  rw [h1, decide_eq_true (Nat.le_trans h2 (by decide))]
  rfl
section
variable {K : PySem.W.Frag} {T : Tk} {A B : Addr → Prop} {H : Hp}
mutual
theorem Rep.dp : ∀ (x : Vl) (v : V) (n : Nat), shp n x = true → Rep K T A H x v → Dp K H v (toD x)
  | .non, v, _, _, h => by unfold Rep at h; subst h; unfold toD; exact .non
  | .bl b, v, _, _, h => by unfold Rep at h; subst h; unfold toD; exact .bl b
  | .int b, v, _, _, h => by unfold Rep at h; subst h; unfold toD; exact .int b
  | .str b, v, _, _, h => by unfold Rep at h; subst h; unfold toD; exact .str _
  | .tup xs, v, 0, s, h => by cases s
  | .tup xs, v, n + 1, s, h => by
    unfold Rep at h
    obtain ⟨p, vs, rfl, q, l, r⟩ := h
    unfold toD
    exact .tup q (Reps.dp xs vs n s r)
  | .lst xs, v, 0, s, h => by cases s
  | .lst xs, v, n + 1, s, h => by
    unfold Rep at h
    obtain ⟨p, vs, rfl, a, q, l, r⟩ := h
    unfold toD
    exact .lst (SqL.of q) (Reps.dp xs vs n s r)
  | .dk _ _, v, 0, s, h => by cases s
  | .dk _ _, v, n + 1, s, h => by cases s
  | .reg _, v, 0, s, h => by cases s
  | .reg _, v, n + 1, s, h => by cases s
theorem Reps.dp : ∀ (xs : List Vl) (vs : List V) (n : Nat), xs.all (shp n) = true → Reps K T A H xs vs → DpAll K H vs (toDs xs)
  | [], vs, n, s, h => by unfold Reps at h; subst h; unfold toDs; exact .nil
  | x :: xs, vs, n, s, h => by
    unfold Reps at h
    obtain ⟨v, r, rfl, h1, h2⟩ := h
    rw [List.all_cons, Bool.and_eq_true] at s
    unfold toDs
    exact .cons (Rep.dp x v n s.1 h1) (Reps.dp xs r n s.2 h2)
end
theorem RepI.dp {x : Vl} {v : V} {n : Nat} (s : shp n x = true) (h : RepI K T B A H x v) : Dp K H v (toD x) := by
  cases x with
  | lst xs =>
    cases n with
    | zero => cases s
    | succ n =>
      unfold RepI at h
      obtain ⟨p, vs, rfl, a, q, l, r⟩ := h
      unfold toD
      exact .lst (SqL.of q) (Reps.dp xs vs n s r)
  | dk ks xs => cases n <;> cases s
  | _ => exact Rep.dp (T := T) (A := A) _ v n s h
end
def eqD (x y : Vl) : Bool := PyData.eqv (toD x) (toD y)
def eqP : Vl → Vl → Option Vl
  | .str a, .str b => some (.bl (decide (a = b)))
  | .int a, .int b => some (.bl (decide (a = b)))
  | x, y => if shp deep x = true ∧ shp deep y = true then some (.bl (eqD x y)) else none
def neP (x y : Vl) : Option Vl := match eqP x y with
  | some (.bl b) => some (.bl (!b))
  | _ => none
section
variable {X : Cx} {C : Type} {g : Fx C} {N : Bool}
theorem ans_val {K : PySem.W.Frag} {T : Tk} {A : Addr → Prop} {H : Hp} {z : Vl} {Q : VK} {u : V} (h : Ans false K T A H z Q) (r : ∀ A, Rep K T A H z u) : Q u H := h u H (Same.refl H) (by
  rw [if_neg Bool.false_ne_true]
  exact .inl (r _))
theorem rep_bl {K : PySem.W.Frag} {T : Tk} {A : Addr → Prop} {H : Hp} {b : Bool} : Rep K T A H (.bl b) (.bl b) := by unfold Rep; rfl
theorem rep_int {K : PySem.W.Frag} {T : Tk} {A : Addr → Prop} {H : Hp} {b : Int} : Rep K T A H (.int b) (.int b) := by unfold Rep; rfl
theorem rep_str {K : PySem.W.Frag} {T : Tk} {A : Addr → Prop} {H : Hp} {b : List Nat} : Rep K T A H (.str b) (.str ⟨b.toArray⟩) := by unfold Rep; rfl
theorem rep_non {K : PySem.W.Frag} {T : Tk} {A : Addr → Prop} {H : Hp} : Rep K T A H .non .non := by unfold Rep; rfl
theorem ri_bl {K : PySem.W.Frag} {T : Tk} {A B : Addr → Prop} {H : Hp} {b : Bool} {v : V} (h : RepI K T B A H (.bl b) v) : v = .bl b := by unfold RepI Rep at h; exact h
theorem ri_int {K : PySem.W.Frag} {T : Tk} {A B : Addr → Prop} {H : Hp} {b : Int} {v : V} (h : RepI K T B A H (.int b) v) : v = .int b := by unfold RepI Rep at h; exact h
theorem ri_str {K : PySem.W.Frag} {T : Tk} {A B : Addr → Prop} {H : Hp} {b : List Nat} {v : V} (h : RepI K T B A H (.str b) v) : v = .str ⟨b.toArray⟩ := by unfold RepI Rep at h; exact h
theorem ri_non {K : PySem.W.Frag} {T : Tk} {A B : Addr → Prop} {H : Hp} {v : V} (h : RepI K T B A H .non v) : v = .non := by unfold RepI Rep at h; exact h
theorem str_inj {a b : List Nat} : (V.str ⟨a.toArray⟩ = V.str ⟨b.toArray⟩) ↔ a = b := by
  constructor
  · intro h
    have h := congrArg (fun s : Str => s.cps.toList) (V.str.inj h)
    simpa using h
  · intro h; rw [h]
theorem op_eqP (hu : X.A.units + 64 < cLine) : OpP false X (compareOp .Eq) eqP := fun T => (op_eq.or (op_eqD hu)).weak fun v w H Q ⟨x, y, B, A, z, rx, ry, e, q⟩ => by
  unfold eqP at e
  split at e
  · cases e
    rw [ri_str rx, ri_str ry]
    refine .inl ⟨rfl, ?_⟩
    rw [decide_eq_decide.mpr str_inj]
    exact ans_val q fun _ => rep_bl
  · cases e
    rw [ri_int rx, ri_int ry]
    refine .inl ⟨rfl, ?_⟩
    rw [decide_eq_decide.mpr (show (V.int _ = V.int _) ↔ _ from ⟨fun h => V.int.inj h, fun h => by rw [h]⟩)]
    exact ans_val q fun _ => rep_bl
  · split at e
    · rename_i hs
      cases e
      exact .inr ⟨_, _, rx.dp hs.1, ry.dp hs.2, shp_shaped hs.1, shp_shaped hs.2, ans_val q fun _ => rep_bl⟩
    · cases e
theorem op_neP (hu : X.A.units + 64 < cLine) : OpP false X (compareOp .NotEq) neP := fun T => (op_ne.or (op_neD hu)).weak fun v w H Q ⟨x, y, B, A, z, rx, ry, e, q⟩ => by
  unfold neP at e
  split at e
  · rename_i b e2
    cases e
    unfold eqP at e2
    split at e2
    · cases e2
      rw [ri_str rx, ri_str ry]
      refine .inl ⟨rfl, ?_⟩
      rw [decide_eq_decide.mpr str_inj]
      exact ans_val q fun _ => rep_bl
    · cases e2
      rw [ri_int rx, ri_int ry]
      refine .inl ⟨rfl, ?_⟩
      rw [decide_eq_decide.mpr (show (V.int _ = V.int _) ↔ _ from ⟨fun h => V.int.inj h, fun h => by rw [h]⟩)]
      exact ans_val q fun _ => rep_bl
    · split at e2
      · rename_i hs
        cases e2
        exact .inr ⟨_, _, rx.dp hs.1, ry.dp hs.2, shp_shaped hs.1, shp_shaped hs.2, ans_val q fun _ => rep_bl⟩
      · cases e2
  · cases e
/-! ### arithmetic -/
def intB (f : Int → Int → Option Vl) : Vl → Vl → Option Vl
  | .int a, .int b => f a b
  | _, _ => none
def addP : Vl → Vl → Option Vl
  | .int a, .int b => some (.int (a + b))
  | .str a, .str b => if a.length + b.length ≤ sizeLine then some (.str (a ++ b)) else none
  | .tup xs, .tup ys => if xs.length + ys.length ≤ sizeLine then some (.tup (xs ++ ys)) else none
  | _, _ => none
def catP : Vl → Vl → Option Vl
  | .lst xs, .lst ys => if xs.length + ys.length ≤ sizeLine then some (.lst (xs ++ ys)) else none
  | _, _ => none
def subP : Vl → Vl → Option Vl := intB fun a b => some (.int (a - b))
def small (a : Int) : Bool := decide (-(2 ^ 64) < a ∧ a < 2 ^ 64)
def mulP : Vl → Vl → Option Vl
  | .int a, .int b => if small a = true ∨ small b = true then some (.int (a * b)) else none
  | .str z, .int n => if z.length * n.toNat ≤ sizeLine ∧ -(2 ^ 62) ≤ n ∧ n < 2 ^ 62 then some (.str (List.replicate n.toNat z).flatten) else none
  | .tup xs, .int n => if xs ≠ [] ∧ 2 ≤ n ∧ n ≤ 1000 ∧ xs.length ≤ 1000 then some (.tup (List.replicate n.toNat xs).flatten) else none
  | _, _ => none
def fdivP : Vl → Vl → Option Vl := intB fun a b => if 0 < b ∧ b < 1073741824 then some (.int (a / b)) else none
def modP : Vl → Vl → Option Vl := intB fun a b => if 0 < b then some (.int (a % b)) else none
def powP : Vl → Vl → Option Vl := intB fun a b => if 0 ≤ b ∧ b ≤ 1000 ∧ small a = true then some (.int (a ^ b.toNat)) else none
def negP : Vl → Option Vl
  | .int a => some (.int (-a))
  | _ => none
def ltP : Vl → Vl → Option Vl := intB fun a b => some (.bl (decide (a < b)))
def leP : Vl → Vl → Option Vl := intB fun a b => some (.bl (decide (a ≤ b)))
def gtP : Vl → Vl → Option Vl := intB fun a b => some (.bl (decide (b < a)))
def geP : Vl → Vl → Option Vl := intB fun a b => some (.bl (decide (b ≤ a)))
theorem intB_some {f : Int → Int → Option Vl} {x y z : Vl} (h : intB f x y = some z) : ∃ a b, x = .int a ∧ y = .int b ∧ f a b = some z := by
  unfold intB at h
  split at h
  · exact ⟨_, _, rfl, rfl, h⟩
  · cases h
theorem op_int0 {f : Value → Value → Sem Value} {gv : Int → Int → V} {gp : Int → Int → Vl} (h : OpR X f (rI0 gv)) (e : ∀ a b K T A H, Rep K T A H (gp a b) (gv a b)) : OpP false X f (intB fun a b => some (gp a b)) := fun T => h.weak fun v w H Q ⟨x, y, B, A, z, rx, ry, ez, q⟩ => by
  obtain ⟨a, b, rfl, rfl, e2⟩ := intB_some ez
  cases e2
  exact ⟨a, b, ri_int rx, ri_int ry, ans_val q fun _ => e _ _ _ _ _ _⟩
theorem op_subP : OpP false X (binaryOp .Sub) subP := op_int0 op_sub fun _ _ _ _ _ _ => rep_int
theorem op_ltP : OpP false X (compareOp .Lt) ltP := op_int0 op_lt fun _ _ _ _ _ _ => rep_bl
theorem op_leP : OpP false X (compareOp .LtE) leP := op_int0 op_le fun _ _ _ _ _ _ => rep_bl
theorem op_gtP : OpP false X (compareOp .Gt) gtP := op_int0 op_gt fun _ _ _ _ _ _ => rep_bl
theorem op_geP : OpP false X (compareOp .GtE) geP := op_int0 op_ge fun _ _ _ _ _ _ => rep_bl
theorem op_iaddP : OpP false X (inplaceOp .Add) (intB fun a b => some (.int (a + b))) := op_int0 iop_add fun _ _ _ _ _ _ => rep_int
theorem op_isubP : OpP false X (inplaceOp .Sub) subP := op_int0 iop_sub fun _ _ _ _ _ _ => rep_int
theorem op_fdivP : OpP false X (binaryOp .FloorDiv) fdivP := fun T => op_fdiv.weak fun v w H Q ⟨x, y, B, A, z, rx, ry, ez, q⟩ => by
  obtain ⟨a, b, rfl, rfl, e2⟩ := intB_some ez
  split at e2
  · rename_i h
    cases e2
    exact ⟨a, b, ri_int rx, ri_int ry, h, ans_val q fun _ => rep_int⟩
  · cases e2
theorem op_modP : OpP false X (binaryOp .Mod) modP := fun T => op_mod.weak fun v w H Q ⟨x, y, B, A, z, rx, ry, ez, q⟩ => by
  obtain ⟨a, b, rfl, rfl, e2⟩ := intB_some ez
  split at e2
  · rename_i h
    cases e2
    exact ⟨a, b, ri_int rx, ri_int ry, h, ans_val q fun _ => rep_int⟩
  · cases e2
theorem op_powP : OpP false X (binaryOp .Pow) powP := fun T => op_pow.weak fun v w H Q ⟨x, y, B, A, z, rx, ry, ez, q⟩ => by
  obtain ⟨a, b, rfl, rfl, e2⟩ := intB_some ez
  split at e2
  · rename_i h
    cases e2
    have s := of_decide_eq_true h.2.2
    exact ⟨a, b, ri_int rx, ri_int ry, ⟨h.1, by omega, by omega⟩, ans_val q fun _ => rep_int⟩
  · cases e2
theorem un_negP : UnP false X (unaryOp .USub) negP := fun T => un_neg.weak fun v H Q ⟨x, B, A, z, rx, ez, q⟩ => by
  cases x <;> first | cases ez
  exact ⟨_, ri_int rx, ans_val q fun _ => rep_int⟩
theorem str_app (a b : List Nat) : (⟨a.toArray⟩ : Str) ++ ⟨b.toArray⟩ = ⟨(a ++ b).toArray⟩ := by
  show Str.append _ _ = _
  unfold Str.append
  simp
theorem str_len (a : List Nat) : (⟨a.toArray⟩ : Str).length = a.length := by simp [Str.length]
theorem op_addP : OpP false X (binaryOp .Add) addP := fun T => (op_add.or (op_add_str.or op_catA)).weak fun v w H Q ⟨x, y, B, A, z, rx, ry, ez, q⟩ => by
  unfold addP at ez
  split at ez
  · cases ez
    exact .inl ⟨_, _, ri_int rx, ri_int ry, ans_val q fun _ => rep_int⟩
  · split at ez
    · rename_i a b h
      cases ez
      refine .inr (.inl ⟨_, _, ri_str rx, ri_str ry, by rw [str_len, str_len]; exact h, ?_⟩)
      rw [str_app]
      exact ans_val q fun _ => rep_str
    · cases ez
  · rename_i xs ys
    split at ez
    · rename_i h
      cases ez
      unfold RepI Rep at rx ry
      obtain ⟨p, vs, rfl, q1, l1, r1⟩ := rx
      obtain ⟨p2, vs2, rfl, q2, l2, r2⟩ := ry
      have nil : ∀ {xs : List Vl} {vs : List V} {A : Addr → Prop}, Reps X.K T A H xs vs → vs = [] → xs = [] := fun {xs vs A} r e => List.length_eq_zero_iff.mp (by rw [← r.len, e]; rfl)
      have hl : vs.length + vs2.length ≤ sizeLine := by
        rw [r1.len, r2.len]
        exact h
      refine .inr (.inr ⟨p, p2, vs, vs2, rfl, rfl, q1, q2, hl, fun e => ?_, fun n1 e => ?_, fun n1 ne pn np => ?_⟩)
      · have e1 := nil r1 e
        subst e1
        refine q _ H (Same.refl H) ?_
        rw [if_neg Bool.false_ne_true]
        refine .inl ?_
        unfold Rep
        exact ⟨p2, vs2, rfl, q2, l2, r2⟩
      · have e2 := nil r2 e
        subst e2
        refine q _ H (Same.refl H) ?_
        rw [if_neg Bool.false_ne_true]
        refine .inl ?_
        rw [List.append_nil]
        unfold Rep
        exact ⟨p, vs, rfl, q1, l1, r1⟩
      · refine q _ _ (same_new np) ?_
        rw [if_neg Bool.false_ne_true]
        refine .inl ?_
        unfold Rep
        refine ⟨pn, vs ++ vs2, rfl, SqT.of upd_same, by rw [List.length_append]; exact hl, rep_upd np (fun _ _ _ z => z) (Reps.append r1 r2)⟩
    · cases ez
  · cases ez
theorem op_catP : OpP true X (binaryOp .Add) catP := fun T => op_cat.weak fun v w H Q ⟨x, y, B, A, z, rx, ry, ez, q⟩ => by
  unfold catP at ez
  split at ez
  · split at ez
    · rename_i xs ys h
      cases ez
      unfold RepI at rx ry
      obtain ⟨p, vs, rfl, b1, q1, l1, r1⟩ := rx
      obtain ⟨p2, vs2, rfl, b2, q2, l2, r2⟩ := ry
      have hl : vs.length + vs2.length ≤ sizeLine := by
        rw [r1.len, r2.len]
        exact h
      refine ⟨p, p2, vs, vs2, rfl, rfl, q1, q2, hl, fun pn np => ?_⟩
      refine q _ _ (same_new np) ?_
      rw [if_pos rfl]
      unfold RepN
      exact ⟨pn, vs ++ vs2, rfl, np, upd_same, by rw [List.length_append]; exact hl, rep_upd np (fun a u e z => ⟨z, ne_of_none e np⟩) (Reps.append r1 r2)⟩
    · cases ez
  · cases ez
theorem foldl_cps (z : List Nat) : ∀ (k : Nat) (acc : Array Nat), (List.replicate k z.toArray).foldl (· ++ ·) acc = acc ++ ((List.replicate k z).flatten).toArray
  | 0, acc => by simp
  | k + 1, acc => by
    rw [List.replicate_succ, List.foldl_cons, foldl_cps z k, List.replicate_succ, List.flatten_cons]
    simp
theorem mul_flat (z : List Nat) (n : Int) : (⟨(List.replicate n.toNat z).flatten.toArray⟩ : Str) = PySem.Txt.mul ⟨z.toArray⟩ n := by
  unfold PySem.Txt.mul
  by_cases h1 : n < 1
  · rw [if_pos h1, Int.toNat_eq_zero.mpr (by omega)]
    rfl
  · rw [if_neg h1]
    by_cases h2 : (n == 1 || (⟨z.toArray⟩ : Str).length == 0) = true
    · rw [if_pos h2]
      rw [Bool.or_eq_true, beq_iff_eq, beq_iff_eq, str_len] at h2
      rcases h2 with h2 | h2
      · subst h2
        simp
      · have e : z = [] := List.length_eq_zero_iff.mp h2
        subst e
        simp
    · rw [if_neg h2, foldl_cps]
      simp
theorem notLong_of {k : Nat} (h : k ≤ sizeLine) : PySem.Builtin.Str.tooLong k = false := by
  unfold PySem.Builtin.Str.tooLong
  exact decide_eq_false (by omega)
theorem op_mulstr : OpR X (binaryOp .Mult) (fun v w H Q => ∃ (z : List Nat) (n : Int), v = .str ⟨z.toArray⟩ ∧ w = .int n ∧ (z.length * n.toNat ≤ sizeLine ∧ -(2 ^ 62) ≤ n ∧ n < 2 ^ 62) ∧ Q (.str ⟨(List.replicate n.toNat z).flatten.toArray⟩) H) := by
  intro pins s σ H x y v u Q I rx ry h
  obtain ⟨z, n, rfl, rfl, ⟨h1, h2, h3⟩, q⟩ := h
  obtain ⟨t, rfl⟩ := rx
  obtain ⟨t', rfl⟩ := ry
  have hsl : sizeLine = 16777216 := sizeLine_eq
  refine PySem.SB.mul ⟨by simp; omega, fun hn _ => ?_, fun hn _ => ?_⟩ fun t2 k => ⟨.str _, H, I.tok _, ⟨_, rfl⟩, ?_⟩
  · rw [str_len]
    have e : ((z.length * n.toNat : Nat) : Int) = (z.length : Int) * n := by
      rw [Int.natCast_mul, Int.toNat_of_nonneg (by omega)]
    have l : (z.length : Int) * n ≤ 2 ^ 63 - 1 := by
      rw [← e]
      omega
    have := (Int.le_ediv_iff_mul_le (show 0 < n by omega)).mpr l
    omega
  · rw [str_len]
    exact notLong_of h1
  · rw [← mul_flat]
    exact q
theorem Reps.rep {K : PySem.W.Frag} {T : Tk} {A : Addr → Prop} {H : Hp} {xs : List Vl} {vs : List V} (r : Reps K T A H xs vs) : ∀ n : Nat, Reps K T A H (List.replicate n xs).flatten (List.replicate n vs).flatten
  | 0 => Reps.nil
  | n + 1 => by
    rw [List.replicate_succ, List.replicate_succ, List.flatten_cons, List.flatten_cons]
    exact Reps.append r (Reps.rep r n)
theorem op_mulP : OpP false X (binaryOp .Mult) mulP := fun T => (op_mul.or (op_mulstr.or op_repT)).weak fun v w H Q ⟨x, y, B, A, z, rx, ry, ez, q⟩ => by
  unfold mulP at ez
  split at ez
  · split at ez
    · rename_i a b h
      cases ez
      exact .inl ⟨a, b, ri_int rx, ri_int ry, h.elim (fun h => .inl (of_decide_eq_true h)) (fun h => .inr (of_decide_eq_true h)), ans_val q fun _ => rep_int⟩
    · cases ez
  · split at ez
    · rename_i z' n h
      cases ez
      exact .inr (.inl ⟨z', n, ri_str rx, ri_int ry, h, ans_val q fun _ => rep_str⟩)
    · cases ez
  · split at ez
    · rename_i xs n h
      cases ez
      obtain ⟨h1, h2, h3, h4⟩ := h
      obtain ⟨p, us, rfl, hq, l, rs⟩ := (by unfold RepI Rep at rx; exact rx : ∃ p vs, v = .ref p ∧ SqT X.K H p vs ∧ vs.length ≤ sizeLine ∧ Reps X.K T A H xs vs)
      have ne : us ≠ [] := fun e => h1 (List.length_eq_zero_iff.mp (by rw [← rs.len, e]; rfl))
      refine .inr (.inr ⟨p, n, us, rfl, ri_int ry, hq, ne, h2, h3, by rw [rs.len]; exact h4, fun pn np => ?_⟩)
      refine q _ _ (same_new np) ?_
      rw [if_neg Bool.false_ne_true]
      refine .inl ?_
      unfold Rep
      refine ⟨pn, _, rfl, SqT.of upd_same, ?_, rep_upd np (fun _ _ _ z => z) (rs.rep n.toNat)⟩
      rw [PyProof.Rows.lm_len_rep_flat, rs.len]
      have a1 : n.toNat * xs.length ≤ 1000 * 1000 := Nat.mul_le_mul (by omega) h4
      exact Nat.le_trans a1 (by decide)
    · cases ez
  · cases ez
end
end PyA
/-! PyH: more operations: in, is, subscripts, slices, built-ins, methods. -/
namespace PyA
open PySem L2
section
variable {X : Cx} {C : Type} {g : Fx C} {N : Bool}
theorem room65 (hu : X.A.units + 65 < cLine) : X.A.units + 64 < cLine := by omega
def inP : Vl → Vl → Option Vl
  | .str [c], .str z => some (.bl (decide (c ∈ z)))
  | x, .lst ys => if shp deep x = true ∧ shp deep (.lst ys) = true then some (.bl (ys.any fun y => eqD y x)) else none
  | x, .tup ys => if shp deep x = true ∧ shp deep (.tup ys) = true then some (.bl (ys.any fun y => eqD y x)) else none
  | _, _ => none
def notV : Option Vl → Option Vl
  | some (.bl b) => some (.bl (!b))
  | _ => none
def notInP (x y : Vl) : Option Vl := notV (inP x y)
theorem toDs_any {x : Vl} : ∀ ys : List Vl, ((toDs ys).any fun z => PyData.eqv z (toD x)) = ys.any fun y => eqD y x
  | [] => by unfold toDs; rfl
  | y :: ys => by
    unfold toDs
    rw [List.any_cons, List.any_cons, toDs_any ys]
    rfl
def rInT (K : PySem.W.Frag) : R2 := fun x y H Q => ∃ d ds, Dp K H x d ∧ Dp K H y (.tuple ds) ∧ SeqAt.shaped d = true ∧ SeqAt.shaped (.tuple ds) = true ∧ Q (.bl (ds.any fun z => PyData.eqv z d)) H
def rNotInT (K : PySem.W.Frag) : R2 := fun x y H Q => ∃ d ds, Dp K H x d ∧ Dp K H y (.tuple ds) ∧ SeqAt.shaped d = true ∧ SeqAt.shaped (.tuple ds) = true ∧ Q (.bl (!ds.any fun z => PyData.eqv z d)) H
theorem room_inT {A : Around} {ds : List PyData} {d : PyData} (h : SeqAt.shaped d = true) (hu : A.units + 65 < cLine) : A.units + 1 + min (PyData.depthAll ds) d.depth < cLine := by
  have h1 := SeqAt.depth_of_shaped h
  have h2 : min (PyData.depthAll ds) d.depth ≤ d.depth := Nat.min_le_right _ _
  omega
theorem op_inT (hu : X.A.units + 65 < cLine) : OpR X (compareOp .In) (rInT X.K) := by
  intro pins s σ H x y v u Q I rx ry h
  obtain ⟨d, ds, hd, he, sd, se, q⟩ := h
  obtain ⟨as, r1⟩ := Dp.reads I d x v hd rx
  obtain ⟨bs, r2⟩ := Dp.reads I (.tuple ds) y u he ry
  exact SeqAt.in_tuple_reads r2 r1 (SeqAt.canLay_of_shaped se) (SeqAt.canLay_of_shaped sd) (room_inT sd hu) ⟨.bl _, H, I, rfl, q⟩
theorem op_notInT (hu : X.A.units + 65 < cLine) : OpR X (compareOp .NotIn) (rNotInT X.K) := by
  intro pins s σ H x y v u Q I rx ry h
  obtain ⟨d, ds, hd, he, sd, se, q⟩ := h
  obtain ⟨as, r1⟩ := Dp.reads I d x v hd rx
  obtain ⟨bs, r2⟩ := Dp.reads I (.tuple ds) y u he ry
  exact SeqAt.notIn_tuple_reads r2 r1 (SeqAt.canLay_of_shaped se) (SeqAt.canLay_of_shaped sd) (room_inT sd hu) ⟨.bl _, H, I, rfl, q⟩
/-- how one value lies in another -/
theorem inP_cases {K : PySem.W.Frag} {T : Tk} {A B : Addr → Prop} {H : Hp} {x y z : Vl} {v w : V} (e : inP x y = some z) (rx : RepI K T B A H x v) (ry : RepI K T B A H y w) :
    ∃ b, z = .bl b ∧ ((∃ c t, v = .str ⟨#[c]⟩ ∧ w = .str t ∧ b = decide (c ∈ t.cps.toList)) ∨ (∃ d ds, Dp K H v d ∧ Dp K H w (.list ds) ∧ SeqAt.shaped d = true ∧ SeqAt.shaped (.list ds) = true ∧ b = ds.any fun z => PyData.eqv z d) ∨
      ∃ d ds, Dp K H v d ∧ Dp K H w (.tuple ds) ∧ SeqAt.shaped d = true ∧ SeqAt.shaped (.tuple ds) = true ∧ b = ds.any fun z => PyData.eqv z d) := by
  unfold inP at e
  split at e
  · rename_i c t
    cases e
    exact ⟨_, rfl, .inl ⟨c, _, ri_str rx, ri_str ry, by simp⟩⟩
  · rename_i ys _
    split at e
    · rename_i h
      cases e
      have dy := ry.dp h.2
      have sy := shp_shaped h.2
      unfold toD at dy sy
      exact ⟨_, rfl, .inr (.inl ⟨_, _, rx.dp h.1, dy, shp_shaped h.1, sy, (toDs_any _).symm⟩)⟩
    · cases e
  · rename_i ys _
    split at e
    · rename_i h
      cases e
      have dy := ry.dp h.2
      have sy := shp_shaped h.2
      unfold toD at dy sy
      exact ⟨_, rfl, .inr (.inr ⟨_, _, rx.dp h.1, dy, shp_shaped h.1, sy, (toDs_any _).symm⟩)⟩
    · cases e
  · cases e
theorem op_inP (hu : X.A.units + 65 < cLine) : OpP false X (compareOp .In) inP := fun T => (op_in_sign.or ((op_inD hu).or (op_inT hu))).weak fun v w H Q ⟨x, y, B, A, z, rx, ry, e, q⟩ => by
  obtain ⟨b, rfl, h⟩ := inP_cases e rx ry
  have q := ans_val q fun _ => rep_bl
  rcases h with ⟨c, t, h1, h2, rfl⟩ | ⟨d, ds, h1, h2, h3, h4, rfl⟩ | ⟨d, ds, h1, h2, h3, h4, rfl⟩
  · exact .inl ⟨c, t, h1, h2, q⟩
  · exact .inr (.inl ⟨d, ds, h1, h2, h3, h4, q⟩)
  · exact .inr (.inr ⟨d, ds, h1, h2, h3, h4, q⟩)
theorem op_notInP (hu : X.A.units + 65 < cLine) : OpP false X (compareOp .NotIn) notInP := fun T => (op_notIn_sign.or ((op_notInD hu).or (op_notInT hu))).weak fun v w H Q ⟨x, y, B, A, z, rx, ry, e, q⟩ => by
  unfold notInP notV at e
  split at e
  · rename_i b0 e0
    cases e
    obtain ⟨b, eb, h⟩ := inP_cases e0 rx ry
    cases eb
    have q := ans_val q fun _ => rep_bl
    rcases h with ⟨c, t, h1, h2, rfl⟩ | ⟨d, ds, h1, h2, h3, h4, rfl⟩ | ⟨d, ds, h1, h2, h3, h4, rfl⟩
    · exact .inl ⟨c, t, h1, h2, q⟩
    · exact .inr (.inl ⟨d, ds, h1, h2, h3, h4, q⟩)
    · exact .inr (.inr ⟨d, ds, h1, h2, h3, h4, q⟩)
  · cases e
def isNon : Vl → Option Bool
  | .non => some true
  | .reg _ => none
  | _ => some false
def isP : Vl → Vl → Option Vl
  | x, .non => (isNon x).map Vl.bl
  | .bl a, .bl b => some (.bl (decide (a = b)))
  | _, _ => none
def isNotP (x y : Vl) : Option Vl := notV (isP x y)
theorem isNon_ok {K : PySem.W.Frag} {T : Tk} {A B : Addr → Prop} {H : Hp} {x : Vl} {b : Bool} {v : V} (e : isNon x = some b) (r : RepI K T B A H x v) : decide (v = V.non) = b := by
  cases x with
  | non => rw [ri_non r]; cases e; rfl
  | bl _ => rw [ri_bl r]; cases e; rfl
  | int _ => rw [ri_int r]; cases e; rfl
  | str _ => rw [ri_str r]; cases e; rfl
  | tup _ => unfold RepI Rep at r; obtain ⟨p, vs, rfl, _⟩ := r; cases e; rfl
  | lst _ => unfold RepI at r; obtain ⟨p, vs, rfl, _⟩ := r; cases e; rfl
  | dk _ _ => unfold RepI at r; obtain ⟨p, vs, rfl, _⟩ := r; cases e; rfl
  | reg _ => cases e
theorem isP_cases {K : PySem.W.Frag} {T : Tk} {A B : Addr → Prop} {H : Hp} {x y z : Vl} {v w : V} (e : isP x y = some z) (rx : RepI K T B A H x v) (ry : RepI K T B A H y w) :
    ∃ b, z = .bl b ∧ ((w = .non ∧ decide (v = .non) = b) ∨ ∃ a c : Bool, v = .bl a ∧ w = .bl c ∧ b = decide (a = c)) := by
  unfold isP at e
  split at e
  · cases e2 : isNon x with
    | none => rw [e2] at e; cases e
    | some b =>
      rw [e2] at e
      cases e
      exact ⟨b, rfl, .inl ⟨ri_non ry, isNon_ok e2 rx⟩⟩
  · cases e
    exact ⟨_, rfl, .inr ⟨_, _, ri_bl rx, ri_bl ry, rfl⟩⟩
  · cases e
theorem op_isP : OpP false X (compareOp .Is) isP := fun T => (op_isN.or op_isBl).weak fun v w H Q ⟨x, y, B, A, z, rx, ry, e, q⟩ => by
  obtain ⟨b, rfl, h⟩ := isP_cases e rx ry
  have q := ans_val q fun _ => rep_bl
  rcases h with ⟨h1, h2⟩ | ⟨a, c, h1, h2, rfl⟩
  · exact .inl ⟨h1, by rw [h2]; exact q⟩
  · exact .inr ⟨a, c, h1, h2, q⟩
theorem op_isNotP : OpP false X (compareOp .IsNot) isNotP := fun T => (op_notN.or op_notBl).weak fun v w H Q ⟨x, y, B, A, z, rx, ry, e, q⟩ => by
  unfold isNotP notV at e
  split at e
  · rename_i b0 e0
    cases e
    obtain ⟨b, eb, h⟩ := isP_cases e0 rx ry
    cases eb
    have q := ans_val q fun _ => rep_bl
    rcases h with ⟨h1, h2⟩ | ⟨a, c, h1, h2, rfl⟩
    · exact .inl ⟨h1, by rw [h2]; exact q⟩
    · exact .inr ⟨a, c, h1, h2, q⟩
  · cases e
/-! ### subscripts -/
def ixP : Vl → Vl → Option Vl
  | .lst xs, .int i => atI xs i
  | .tup xs, .int i => atI xs i
  | .str z, .int i => if z.length ≤ sizeLine then (atI z i).map fun c => .str [c] else none
  | _, _ => none
theorem atI_rep {K : PySem.W.Frag} {T : Tk} {A : Addr → Prop} {H : Hp} {xs : List Vl} {vs : List V} {i : Int} {x : Vl} (r : Reps K T A H xs vs) (e : atI xs i = some x) : ∃ v, atI vs i = some v ∧ Rep K T A H x v := by
  unfold atI at e ⊢
  rw [r.len]
  cases h : ixN xs.length i with
  | none => rw [h] at e; cases e
  | some j =>
    rw [h] at e
    exact r.get e
theorem ix_P : IxP X ixP := fun T => ix_seq.weak fun v w H Q ⟨x, y, B, A, z, rx, ry, e, q⟩ => by
  unfold ixP at e
  have fin : ∀ u, Rep X.K T A H z u → Q u H := fun u r => q u H (Same.refl H) (by
    rw [if_neg Bool.false_ne_true]
    exact .inl r)
  split at e
  · unfold RepI at rx
    obtain ⟨p, vs, rfl, b, hq, l, r⟩ := rx
    obtain ⟨u, eu, ru⟩ := atI_rep r e
    exact .inl ⟨p, vs, _, u, rfl, ri_int ry, SqL.of hq, eu, fin u ru⟩
  · unfold RepI Rep at rx
    obtain ⟨p, vs, rfl, hq, l, r⟩ := rx
    obtain ⟨u, eu, ru⟩ := atI_rep r e
    exact .inr (.inl ⟨p, vs, _, u, rfl, ri_int ry, hq, eu, fin u ru⟩)
  · rename_i z0 i
    split at e
    · rename_i hl
      cases e2 : atI z0 i with
      | none => rw [e2] at e; cases e
      | some c =>
        rw [e2] at e
        cases e
        exact .inr (.inr ⟨_, _, c, ri_str rx, ri_int ry, by rw [str_len]; exact hl, by simpa using e2, fin _ rep_str⟩)
    · cases e
  · cases e
/-- the part of a list between two places -/
def cutL {α : Type} (xs : List α) (lo hi : Option Int) : List α := (xs.drop (HT.sIx xs.length 0 lo)).take (HT.sIx xs.length xs.length hi - HT.sIx xs.length 0 lo)
def slP (x : Vl) (lo hi : Option Int) : Option Vl := match x with
  | .str z => if z.length ≤ sizeLine then some (.str (cutL z lo hi)) else none
  | .tup xs => some (.tup (cutL xs lo hi))
  | _ => none
def slL (x : Vl) (lo hi : Option Int) : Option Vl := match x with
  | .lst xs => some (.lst (cutL xs lo hi))
  | _ => none
def asI : Vl → Option Int
  | .int i => some i
  | _ => none
def oNone : PEnv → M C (Option Int) := fun _ => ret none
def oSome (f : FE C) : PEnv → M C (Option Int) := fun ρ => bnd (f ρ) fun x => bnd (opt (asI x)) fun i => ret (some i)
def fSl (op : Vl → Option Int → Option Int → Option Vl) (fa : FE C) (lo hi : PEnv → M C (Option Int)) : FE C := fun ρ => bnd (fa ρ) fun x => bnd (lo ρ) fun l => bnd (hi ρ) fun u => opt (op x l u)
def tO (g : Fx C) (f : PEnv → M C (Option Int)) : TO := fun σ H Q => ∃ ρ c, EI g ρ σ H ∧ g.r.held c H ∧ GoX g H (f ρ c) fun x _ H' => Q x H'
theorem _root_.L2.PO.weak {e : Option Expr} {t t' : TO} (h : PO X e t) (k : ∀ σ H Q, t' σ H Q → t σ H Q) : PO X e t' := ⟨fun pins s σ H Q I q => h.run pins s σ H Q I (k σ H Q q)⟩
theorem do_none : PO X none (tO g oNone) := po_none.weak fun σ H Q ⟨ρ, c, ei, hd, q⟩ => GoX.ret hd q
theorem do_some {e : Expr} {b : Bool} {f : FE C} (h : PE X e (tE g b f)) : PO X (some e) (tO g (oSome f)) := (po_some h).weak fun σ H Q ⟨ρ, c, ei, hd, q⟩ => ⟨ρ, c, ei, hd, (GoX.bind q).mono fun x c1 H1 k hd1 w v rv => by
  obtain ⟨i, e, w2⟩ := go_opt (GoX.bind w)
  cases x <;> first | cases e
  exact ⟨_, ri_int rv.i, GoX.ret hd1 (w2 H1 Kp.refl hd1)⟩⟩
/-- a slice, by values -/
def SlP (N : Bool) (X : Cx) (op : Vl → Option Int → Option Int → Option Vl) : Prop := ∀ T, SlR X (fun v lo hi H Q => ∃ x B A z, RepI X.K T B A H x v ∧ op x lo hi = some z ∧ Ans N X.K T A H z Q)
theorem _root_.L2.SlR.weak {r r' : V → Option Int → Option Int → Hp → VK → Prop} (h : SlR X r) (k : ∀ v lo hi H Q, r' v lo hi H Q → r v lo hi H Q) : SlR X r' := fun pins s σ H x v vl vu lo hi sl Q I rx hs pl pu q => h pins s σ H x v vl vu lo hi sl Q I rx hs pl pu (k _ _ _ _ _ q)
theorem cutL_len {α : Type} (xs : List α) (lo hi : Option Int) : (cutL xs lo hi).length ≤ xs.length := by
  unfold cutL
  rw [List.length_take, List.length_drop]
  omega
theorem cutL_reps {K : PySem.W.Frag} {T : Tk} {A : Addr → Prop} {H : Hp} {xs : List Vl} {vs : List V} {lo hi : Option Int} (r : Reps K T A H xs vs) : Reps K T A H (cutL xs lo hi) (cutV vs lo hi) := by
  unfold cutL cutV
  rw [r.len]
  exact (r.drop _).take _
theorem sl_P : SlP false X slP := fun T => (sl_tupA.or sl_str).weak fun v lo hi H Q ⟨x, B, A, z, rx, e, q⟩ => by
  unfold slP at e
  split at e
  · split at e
    · rename_i z0 hl
      cases e
      refine .inr ⟨_, ri_str rx, by rw [str_len]; exact hl, ?_⟩
      unfold cutS
      rw [str_len]
      exact ans_val q fun _ => rep_str
    · cases e
  · rename_i xs
    unfold RepI Rep at rx
    obtain ⟨p, vs, rfl, hq, l, r⟩ := rx
    cases e
    refine .inl ⟨p, vs, rfl, hq, fun hw => ?_, fun hw pn np => ?_⟩
    · refine q _ _ (Same.refl H) ?_
      rw [if_neg Bool.false_ne_true]
      refine .inl ?_
      have e : cutL xs lo hi = xs := by
        unfold cutL
        rw [← r.len, hw.1, hw.2, r.len, Nat.sub_zero, List.drop_zero, List.take_length]
      rw [e]
      unfold Rep
      exact ⟨p, vs, rfl, hq, l, r⟩
    · refine q _ _ (same_new np) ?_
      rw [if_neg Bool.false_ne_true]
      refine .inl ?_
      unfold Rep
      refine ⟨pn, _, rfl, SqT.of upd_same, Nat.le_trans (cutV_length _ _ _) l, rep_upd np (fun _ _ _ z => z) (cutL_reps r)⟩
  · cases e
theorem sl_L : SlP true X slL := fun T => sl_list.weak fun v lo hi H Q ⟨x, B, A, z, rx, e, q⟩ => by
  unfold slL at e
  split at e
  · rename_i xs
    cases e
    unfold RepI at rx
    obtain ⟨p, vs, rfl, b, hq, l, r⟩ := rx
    refine ⟨p, vs, rfl, SqL.of hq, fun pn np => ?_⟩
    refine q _ _ (same_new np) ?_
    rw [if_pos rfl]
    unfold RepN
    refine ⟨pn, _, rfl, np, upd_same, Nat.le_trans (cutV_length _ _ _) l, rep_upd np (fun a u e z => ⟨z, ne_of_none e np⟩) (cutL_reps r)⟩
  · cases e
theorem de_sl {e : Expr} {lo hi : Option Expr} {p2 pos : Pos} {op : Vl → Option Int → Option Int → Option Vl} {fa : FE C} {fl fh : PEnv → M C (Option Int)} {b : Bool} (hK : X.K = g.K) (hr : SlP N X op) (he : PE X e (tE g b fa)) (hl : PO X lo (tO g fl)) (hu : PO X hi (tO g fh)) :
    PE X (.Subscript e (.Slice lo hi none p2) pos) (tE g true (fSl op fa fl fh)) :=
  (pe_slice (hr g.r.T) he hl hu).weak fun σ H Q ⟨ρ, c, ei, hd, q⟩ => ⟨ρ, c, ei, hd, (GoX.bind q).mono fun x c1 H1 k hd1 w v rv => ⟨ρ, c1, ei.kp hd k, hd1, (GoX.bind w).mono fun l c2 H2 k2 hd2 w2 => ⟨ρ, c2, (ei.kp hd k).kp hd1 k2, hd2, (GoX.bind w2).mono fun u c3 H3 k3 hd3 w3 => by
    obtain ⟨z, ez, w4⟩ := go_opt w3
    rw [hK]
    exact ⟨x, _, _, z, ((rv.kp hd1 k2).kp hd2 k3).i, ez, tE_last (((ei.kp hd k).kp hd1 k2).kp hd2 k3) hd3 w4⟩⟩⟩⟩
theorem de_slN {e : Expr} {lo hi : Option Expr} {p2 pos : Pos} {op : Vl → Option Int → Option Int → Option Vl} {fa : FE C} {fl fh : PEnv → M C (Option Int)} {b : Bool} (hK : X.K = g.K) (hr : SlP true X op) (he : PE X e (tE g b fa)) (hl : PO X lo (tO g fl)) (hu : PO X hi (tO g fh)) :
    PE X (.Subscript e (.Slice lo hi none p2) pos) (tN g (fSl op fa fl fh)) :=
  (pe_slice (hr g.r.T) he hl hu).weak fun σ H Q ⟨ρ, c, ei, hd, q⟩ => ⟨ρ, c, ei, hd, (GoX.bind q).mono fun x c1 H1 k hd1 w v rv => ⟨ρ, c1, ei.kp hd k, hd1, (GoX.bind w).mono fun l c2 H2 k2 hd2 w2 => ⟨ρ, c2, (ei.kp hd k).kp hd1 k2, hd2, (GoX.bind w2).mono fun u c3 H3 k3 hd3 w3 => by
    obtain ⟨z, ez, w4⟩ := go_opt w3
    rw [hK]
    exact ⟨x, _, _, z, ((rv.kp hd1 k2).kp hd2 k3).i, ez, tN_last (f := fa) (((ei.kp hd k).kp hd1 k2).kp hd2 k3) hd3 ((k.trans k2).trans k3) w4⟩⟩⟩⟩
end
end PyA
/-! PyI: built-in functions, types, methods; isinstance; the register's list. -/
namespace PyA
open PySem L2
section
variable {X : Cx} {C : Type} {g : Fx C} {N : Bool}
section
variable {K : PySem.W.Frag} {T : Tk} {A B : Addr → Prop} {H : Hp}
theorem is_one {x : Vl} {vs : List V} (h : RepIs K T B A H [x] vs) : ∃ v, vs = [v] ∧ RepI K T B A H x v := by
  unfold RepIs at h
  obtain ⟨v, r, rfl, h1, h2⟩ := h
  unfold RepIs at h2
  subst h2
  exact ⟨v, rfl, h1⟩
theorem is_two {x y : Vl} {vs : List V} (h : RepIs K T B A H [x, y] vs) : ∃ v w, vs = [v, w] ∧ RepI K T B A H x v ∧ RepI K T B A H y w := by
  unfold RepIs at h
  obtain ⟨v, r, rfl, h1, h2⟩ := h
  obtain ⟨w, rfl, h3⟩ := is_one h2
  exact ⟨v, w, rfl, h1, h3⟩
theorem ri_lst {xs : List Vl} {v : V} (h : RepI K T B A H (.lst xs) v) : ∃ p vs, v = .ref p ∧ H p = some (.lst vs) ∧ vs.length ≤ sizeLine ∧ Reps K T A H xs vs := by
  unfold RepI at h
  obtain ⟨p, vs, e, b, q, l, r⟩ := h
  exact ⟨p, vs, e, q, l, r⟩
theorem ri_tup {xs : List Vl} {v : V} (h : RepI K T B A H (.tup xs) v) : ∃ p vs, v = .ref p ∧ SqT K H p vs ∧ vs.length ≤ sizeLine ∧ Reps K T A H xs vs := by
  unfold RepI Rep at h
  obtain ⟨p, vs, e, q, l, r⟩ := h
  exact ⟨p, vs, e, q, l, r⟩
end
def op1 (f : Vl → Option Vl) : List Vl → Option Vl
  | [x] => f x
  | _ => none
def op2 (f : Vl → Vl → Option Vl) : List Vl → Option Vl
  | [x, y] => f x y
  | _ => none
theorem op1_some {f : Vl → Option Vl} {xs : List Vl} {z : Vl} (h : op1 f xs = some z) : ∃ x, xs = [x] ∧ f x = some z := by
  unfold op1 at h
  split at h
  · exact ⟨_, rfl, h⟩
  · cases h
theorem op2_some {f : Vl → Vl → Option Vl} {xs : List Vl} {z : Vl} (h : op2 f xs = some z) : ∃ x y, xs = [x, y] ∧ f x y = some z := by
  unfold op2 at h
  split at h
  · exact ⟨_, _, rfl, h⟩
  · cases h
/-! ### of lists -/
def allM {α : Type} (f : Vl → Option α) : List Vl → Option (List α)
  | [] => some []
  | x :: r => (f x).bind fun a => (allM f r).map (a :: ·)
theorem allM_reps {α : Type} {f : Vl → Option α} {gv : α → V} {K : PySem.W.Frag} {T : Tk} {A : Addr → Prop} {H : Hp} (hf : ∀ x a v, f x = some a → Rep K T A H x v → v = gv a) : ∀ {xs : List Vl} {as : List α} {vs : List V}, allM f xs = some as → Reps K T A H xs vs → vs = as.map gv
  | [], as, vs, h, r => by
    cases h
    unfold Reps at r
    exact r
  | x :: xs, as, vs, h, r => by
    unfold Reps at r
    obtain ⟨v, r', rfl, h1, h2⟩ := r
    unfold allM at h
    cases e : f x with
    | none => rw [e] at h; cases h
    | some a =>
      rw [e] at h
      cases e2 : allM f xs with
      | none => rw [e2] at h; cases h
      | some bs =>
        rw [e2] at h
        cases h
        rw [hf x a v e h1, allM_reps hf e2 h2]
        rfl
def asS : Vl → Option (List Nat)
  | .str z => some z
  | _ => none
theorem asB_rep {K : PySem.W.Frag} {T : Tk} {A : Addr → Prop} {H : Hp} (x : Vl) (a : Bool) (v : V) (h : asB x = some a) (r : Rep K T A H x v) : v = .bl a := by
  cases x <;> first | cases h
  unfold Rep at r
  exact r
theorem asI_rep {K : PySem.W.Frag} {T : Tk} {A : Addr → Prop} {H : Hp} (x : Vl) (a : Int) (v : V) (h : asI x = some a) (r : Rep K T A H x v) : v = .int a := by
  cases x <;> first | cases h
  unfold Rep at r
  exact r
theorem asS_rep {K : PySem.W.Frag} {T : Tk} {A : Addr → Prop} {H : Hp} (x : Vl) (a : List Nat) (v : V) (h : asS x = some a) (r : Rep K T A H x v) : v = .str ⟨a.toArray⟩ := by
  cases x <;> first | cases h
  unfold Rep at r
  exact r
def onL {α : Type} (f : Vl → Option α) (k : List α → Option Vl) : Vl → Option Vl
  | .lst xs => (allM f xs).bind k
  | _ => none
theorem onL_some {α : Type} {f : Vl → Option α} {k : List α → Option Vl} {x z : Vl} (h : onL f k x = some z) : ∃ xs as, x = .lst xs ∧ allM f xs = some as ∧ k as = some z := by
  unfold onL at h
  split at h
  · rename_i xs
    cases e : allM f xs with
    | none => rw [e] at h; cases h
    | some as => rw [e] at h; exact ⟨xs, as, rfl, e, h⟩
  · cases h
def allP : List Vl → Option Vl := op1 (onL asB fun bs => some (.bl (bs.all id)))
def anyP : List Vl → Option Vl := op1 (onL asB fun bs => some (.bl (bs.any id)))
def sum1 : Vl → Option Vl
  | .lst xs => (allM asI xs).map fun ns => .int ns.sum
  | .tup xs => (allM asI xs).map fun ns => .int ns.sum
  | _ => none
def sumP : List Vl → Option Vl := op1 sum1
theorem cr_sumT (hc : X.calm = true) : CallR X (.builtin "sum") (fun vs H Q => ∃ (a : Addr) (ns : List Int), vs = [V.ref a] ∧ SqT X.K H a (ns.map V.int) ∧ Q (.int ns.sum) H) := by
  intro pins s σ H vs us Q I r h
  obtain ⟨a, ns, rfl, hs, q⟩ := h
  obtain ⟨its, rv, hl, _⟩ := I.tuple hs
  rw [Vals.ref1 r]
  obtain ⟨xs, e⟩ := rv.ints.allInts.items
  have hn : numsOf (intItems xs).toList = ns := by rw [← e]; exact rv.ints.numsOf
  rw [nums_intItems] at hn
  obtain ⟨o, h1, h2, h3⟩ := hl
  rw [e] at h3
  refine PySem.W.ktm_sumG (xs := xs) (I.ok.hd hc) ⟨o, h1, h2, h3⟩ fun h' tk t' hk => ?_
  rw [preSum_eq, List.take_of_length_le (by simp), hn]
  exact ⟨.int _, H, I.kept hk, ⟨_, rfl⟩, q⟩
def maxI : List Int → Int
  | [] => 0
  | n :: r => r.foldl max n
def minI : List Int → Int
  | [] => 0
  | n :: r => r.foldl min n
def maxP1 : Vl → Option Vl := onL asI fun ns => if ns = [] then none else some (.int (maxI ns))
def minP1 : Vl → Option Vl := onL asI fun ns => if ns = [] then none else some (.int (minI ns))
theorem foldl_max : ∀ (r : List Int) (n m : Int), (m = n ∨ m ∈ r) → n ≤ m → (∀ y ∈ r, y ≤ m) → r.foldl max n = m
  | [], n, m, h, _, _ => (h.elim (fun h => h) fun h => nomatch h).symm
  | a :: r, n, m, h, hn, hle => by
    rw [List.foldl_cons]
    have ha := hle a List.mem_cons_self
    refine foldl_max r (max n a) m ?_ (by omega) fun y hy => hle y (List.mem_cons_of_mem _ hy)
    rcases h with h | h
    · exact .inl (by omega)
    · rcases List.mem_cons.mp h with h | h
      · exact .inl (by omega)
      · exact .inr h
theorem foldl_min : ∀ (r : List Int) (n m : Int), (m = n ∨ m ∈ r) → m ≤ n → (∀ y ∈ r, m ≤ y) → r.foldl min n = m
  | [], n, m, h, _, _ => (h.elim (fun h => h) fun h => nomatch h).symm
  | a :: r, n, m, h, hn, hle => by
    rw [List.foldl_cons]
    have ha := hle a List.mem_cons_self
    refine foldl_min r (min n a) m ?_ (by omega) fun y hy => hle y (List.mem_cons_of_mem _ hy)
    rcases h with h | h
    · exact .inl (by omega)
    · rcases List.mem_cons.mp h with h | h
      · exact .inl (by omega)
      · exact .inr h
theorem call_allP (hc : X.calm = true) : CallP false X (.builtin "all") allP := fun T => (cr_all hc).weak fun vs H Q ⟨xs, B, A, z, r, e, q⟩ => by
  obtain ⟨x, rfl, e'⟩ := op1_some e
  clear e
  obtain ⟨v, rfl, rx⟩ := is_one r
  obtain ⟨ys, bs, rfl, e2, e3⟩ := onL_some e'
  cases e3
  obtain ⟨p, us, rfl, hq, l, rs⟩ := ri_lst rx
  rw [allM_reps (gv := V.bl) asB_rep e2 rs] at hq
  exact ⟨p, bs, rfl, SqL.of hq, ans_val q fun _ => rep_bl⟩
theorem call_anyP (hc : X.calm = true) : CallP false X (.builtin "any") anyP := fun T => (cr_any hc).weak fun vs H Q ⟨xs, B, A, z, r, e, q⟩ => by
  obtain ⟨x, rfl, e'⟩ := op1_some e
  clear e
  obtain ⟨v, rfl, rx⟩ := is_one r
  obtain ⟨ys, bs, rfl, e2, e3⟩ := onL_some e'
  cases e3
  obtain ⟨p, us, rfl, hq, l, rs⟩ := ri_lst rx
  rw [allM_reps (gv := V.bl) asB_rep e2 rs] at hq
  exact ⟨p, bs, rfl, SqL.of hq, ans_val q fun _ => rep_bl⟩
theorem call_sumP (hc : X.calm = true) : CallP false X (.builtin "sum") sumP := fun T => ((cr_sum hc).or (cr_sumT hc)).weak fun vs H Q ⟨xs, B, A, z, r, e, q⟩ => by
  obtain ⟨x, rfl, e'⟩ := op1_some e
  clear e
  obtain ⟨v, rfl, rx⟩ := is_one r
  unfold sum1 at e'
  split at e'
  · rename_i ys
    cases e2 : allM asI ys with
    | none => rw [e2] at e'; cases e'
    | some ns =>
      rw [e2] at e'
      cases e'
      obtain ⟨p, us, rfl, hq, l, rs⟩ := ri_lst rx
      rw [allM_reps (gv := V.int) asI_rep e2 rs] at hq
      exact .inl ⟨p, ns, rfl, SqL.of hq, ans_val q fun _ => rep_int⟩
  · rename_i ys
    cases e2 : allM asI ys with
    | none => rw [e2] at e'; cases e'
    | some ns =>
      rw [e2] at e'
      cases e'
      obtain ⟨p, us, rfl, hq, l, rs⟩ := ri_tup rx
      rw [allM_reps (gv := V.int) asI_rep e2 rs] at hq
      exact .inr ⟨p, ns, rfl, hq, ans_val q fun _ => rep_int⟩
  · cases e'
def min2P : Vl → Vl → Option Vl := intB fun a b => some (.int (min a b))
def max2P : Vl → Vl → Option Vl := intB fun a b => some (.int (max a b))
def maxP : List Vl → Option Vl
  | [x] => maxP1 x
  | [x, y] => max2P x y
  | _ => none
def minP : List Vl → Option Vl
  | [x] => minP1 x
  | [x, y] => min2P x y
  | _ => none
theorem call_maxP (hc : X.calm = true) : CallP false X (.builtin "max") maxP := fun T => ((cr_max hc).or (call_max2 hc)).weak fun vs H Q ⟨xs, B, A, z, r, e, q⟩ => by
  unfold maxP at e
  split at e
  · obtain ⟨v, rfl, rx⟩ := is_one r
    obtain ⟨ys, ns, rfl, e2, e3⟩ := onL_some e
    split at e3
    · cases e3
    · rename_i hne
      cases e3
      obtain ⟨p, us, rfl, hq, l, rs⟩ := ri_lst rx
      rw [allM_reps (gv := V.int) asI_rep e2 rs] at hq
      refine .inl ⟨p, ns, rfl, SqL.of hq, List.length_pos_iff.mpr hne, fun m hm hle => ?_⟩
      have : maxI ns = m := by
        cases ns with
        | nil => exact absurd rfl hne
        | cons n r => exact foldl_max r n m (List.mem_cons.mp hm) (hle n List.mem_cons_self) fun y hy => hle y (List.mem_cons_of_mem _ hy)
      rw [← this]
      exact ans_val q fun _ => rep_int
  · obtain ⟨v, w, rfl, rx, ry⟩ := is_two r
    obtain ⟨a, b, rfl, rfl, e2⟩ := intB_some e
    cases e2
    refine .inr ⟨a, b, by rw [ri_int rx, ri_int ry], ?_⟩
    have : (if b > a then b else a) = max a b := by split <;> omega
    rw [this]
    exact ans_val q fun _ => rep_int
  · cases e
theorem call_minP (hc : X.calm = true) : CallP false X (.builtin "min") minP := fun T => ((cr_min hc).or (call_min2 hc)).weak fun vs H Q ⟨xs, B, A, z, r, e, q⟩ => by
  unfold minP at e
  split at e
  · obtain ⟨v, rfl, rx⟩ := is_one r
    obtain ⟨ys, ns, rfl, e2, e3⟩ := onL_some e
    split at e3
    · cases e3
    · rename_i hne
      cases e3
      obtain ⟨p, us, rfl, hq, l, rs⟩ := ri_lst rx
      rw [allM_reps (gv := V.int) asI_rep e2 rs] at hq
      refine .inl ⟨p, ns, rfl, SqL.of hq, List.length_pos_iff.mpr hne, fun m hm hle => ?_⟩
      have : minI ns = m := by
        cases ns with
        | nil => exact absurd rfl hne
        | cons n r => exact foldl_min r n m (List.mem_cons.mp hm) (hle n List.mem_cons_self) fun y hy => hle y (List.mem_cons_of_mem _ hy)
      rw [← this]
      exact ans_val q fun _ => rep_int
  · obtain ⟨v, w, rfl, rx, ry⟩ := is_two r
    obtain ⟨a, b, rfl, rfl, e2⟩ := intB_some e
    cases e2
    refine .inr ⟨a, b, by rw [ri_int rx, ri_int ry], ?_⟩
    have : (if b < a then b else a) = min a b := by split <;> omega
    rw [this]
    exact ans_val q fun _ => rep_int
  · cases e
/-! ### len, tuple, list, abs, int, str -/
def len1 : Vl → Option Vl
  | .str z => if z.length ≤ sizeLine then some (.int z.length) else none
  | .tup xs => some (.int xs.length)
  | .lst xs => some (.int xs.length)
  | _ => none
def lenP : List Vl → Option Vl := op1 len1
theorem call_lenP : CallP false X (.builtin "len") lenP := fun T => (call_len_seq.or call_len_str).weak fun vs H Q ⟨xs, B, A, z, r, e, q⟩ => by
  obtain ⟨x, rfl, e'⟩ := op1_some e
  clear e
  obtain ⟨v, rfl, rx⟩ := is_one r
  unfold len1 at e'
  split at e'
  · rename_i t
    split at e'
    · rename_i h
      cases e'
      refine .inr ⟨_, by rw [ri_str rx], by rw [str_len]; exact h, ?_⟩
      rw [str_len]
      exact ans_val q fun _ => rep_int
    · cases e'
  · cases e'
    obtain ⟨p, us, rfl, hq, l, rs⟩ := ri_tup rx
    refine .inl ⟨p, us, rfl, .inr hq, ?_⟩
    rw [rs.len]
    exact ans_val q fun _ => rep_int
  · cases e'
    obtain ⟨p, us, rfl, hq, l, rs⟩ := ri_lst rx
    refine .inl ⟨p, us, rfl, .inl (SqL.of hq), ?_⟩
    rw [rs.len]
    exact ans_val q fun _ => rep_int
  · cases e'
def tuple1 : Vl → Option Vl
  | .tup xs => some (.tup xs)
  | .lst xs => some (.tup xs)
  | _ => none
def tupleP : List Vl → Option Vl := op1 tuple1
theorem call_tupleP : CallP false X (.type "tuple") tupleP := fun T => call_tuple_of.weak fun vs H Q ⟨xs, B, A, z, r, e, q⟩ => by
  obtain ⟨x, rfl, e'⟩ := op1_some e
  clear e
  obtain ⟨v, rfl, rx⟩ := is_one r
  unfold tuple1 at e'
  split at e'
  · cases e'
    have rx' := rx
    unfold RepI at rx'
    obtain ⟨p, us, rfl, hq, l, rs⟩ := ri_tup rx
    exact ⟨p, us, rfl, .inr ⟨hq, q _ H (Same.refl H) (by rw [if_neg Bool.false_ne_true]; exact .inl rx')⟩⟩
  · cases e'
    obtain ⟨p, us, rfl, hq, l, rs⟩ := ri_lst rx
    refine ⟨p, us, rfl, .inl ⟨SqL.of hq, fun pn np => q _ _ (same_new np) ?_⟩⟩
    rw [if_neg Bool.false_ne_true]
    refine .inl ?_
    unfold Rep
    exact ⟨pn, us, rfl, SqT.of upd_same, l, rep_upd np (fun _ _ _ z => z) rs⟩
  · cases e'
def list1 : Vl → Option Vl
  | .tup xs => some (.lst xs)
  | .lst xs => some (.lst xs)
  | _ => none
def listP : List Vl → Option Vl := op1 list1
theorem call_listP : CallP true X (.type "list") listP := fun T => call_list_of.weak fun vs H Q ⟨xs, B, A, z, r, e, q⟩ => by
  obtain ⟨x, rfl, e'⟩ := op1_some e
  clear e
  obtain ⟨v, rfl, rx⟩ := is_one r
  have fin : ∀ {ys us pn}, H pn = none → z = .lst ys → us.length ≤ sizeLine → Reps X.K T A H ys us → Q (.ref pn) (upd H pn (.lst us)) := fun {ys us pn} np ez l rs => by
    subst ez
    refine q _ _ (same_new np) ?_
    rw [if_pos rfl]
    unfold RepN
    exact ⟨pn, us, rfl, np, upd_same, l, rep_upd np (fun a u e z => ⟨z, ne_of_none e np⟩) rs⟩
  unfold list1 at e'
  split at e'
  · cases e'
    obtain ⟨p, us, rfl, hq, l, rs⟩ := ri_tup rx
    exact ⟨p, us, rfl, .inr hq, fun pn np => fin np rfl l rs⟩
  · cases e'
    obtain ⟨p, us, rfl, hq, l, rs⟩ := ri_lst rx
    exact ⟨p, us, rfl, .inl (SqL.of hq), fun pn np => fin np rfl l rs⟩
  · cases e'
def absP : List Vl → Option Vl := op1 fun x => (asI x).map fun i => .int (if i < 0 then -i else i)
theorem call_absP : CallP false X (.builtin "abs") absP := fun T => call_abs.weak fun vs H Q ⟨xs, B, A, z, r, e, q⟩ => by
  obtain ⟨x, rfl, e'⟩ := op1_some e
  clear e
  obtain ⟨v, rfl, rx⟩ := is_one r
  cases x <;> first | cases e'
  exact ⟨_, by rw [ri_int rx], ans_val q fun _ => rep_int⟩
def int1 : Vl → Option Vl
  | .int i => some (.int i)
  | .bl b => some (.int (if b then 1 else 0))
  | _ => none
def intP : List Vl → Option Vl := op1 int1
theorem call_intP : CallP false X (.type "int") intP := fun T => call_int1.weak fun vs H Q ⟨xs, B, A, z, r, e, q⟩ => by
  obtain ⟨x, rfl, e'⟩ := op1_some e
  clear e
  obtain ⟨v, rfl, rx⟩ := is_one r
  unfold int1 at e'
  split at e'
  · cases e'
    exact .inl ⟨_, by rw [ri_int rx], ans_val q fun _ => rep_int⟩
  · cases e'
    exact .inr ⟨_, by rw [ri_bl rx], ans_val q fun _ => rep_int⟩
  · cases e'
theorem call_str_str : CallR X (.type "str") (fun xs H Q => ∃ z, xs = [.str z] ∧ Q (.str z) H) := by
  intro pins s σ H xs us Q I r h
  obtain ⟨z, rfl, q⟩ := h
  obtain ⟨u, rfl, t, rfl⟩ := vals1 r
  exact PySem.P.str_of_str ⟨.str z, H, I, ⟨_, rfl⟩, q⟩
def strP : List Vl → Option Vl := op1 fun x => (asS x).map .str
theorem call_strP : CallP false X (.type "str") strP := fun T => call_str_str.weak fun vs H Q ⟨xs, B, A, z, r, e, q⟩ => by
  obtain ⟨x, rfl, e'⟩ := op1_some e
  clear e
  obtain ⟨v, rfl, rx⟩ := is_one r
  cases x <;> first | cases e'
  exact ⟨_, by rw [ri_str rx], ans_val q fun _ => rep_str⟩
/-! ### methods -/
def tyS : Vl → Option Unit
  | .str _ => some ()
  | _ => none
def tyL : Vl → Option Unit
  | .lst _ => some ()
  | _ => none
theorem tyS_ok (K : PySem.W.Frag) (T : Tk) (B A : Addr → Prop) (H : Hp) (x : Vl) (v : V) (h : tyS x = some ()) (r : RepI K T B A H x v) : tyV K "str" v H := by
  cases x <;> first | cases h
  rw [ri_str r]
  exact rfl
theorem tyL_ok (K : PySem.W.Frag) (T : Tk) (B A : Addr → Prop) (H : Hp) (x : Vl) (v : V) (h : tyL x = some ()) (r : RepI K T B A H x v) : tyV K "list" v H := by
  cases x <;> first | cases h
  obtain ⟨p, vs, rfl, hq, _⟩ := ri_lst r
  exact .inl ⟨rfl, _, SqL.of hq⟩
theorem de_met {o e : Expr} {es : List Expr} {name : Str} {apos cpos : Pos} {ty id : String} {tc : Vl → Option Unit} {op : Vl → List Vl → Option Vl} {bo bb : Bool} {fo : FE C} {fs : List (FE C)} (hK : X.K = g.K) (pa : PlainAttrs ty) (slot : Slot ty name id) (hty : typeOf (.builtin id) = pure (.type "method_descriptor")) (hm : MetP N X id op)
    (htc : ∀ (K : PySem.W.Frag) (T : Tk) (B A : Addr → Prop) (H : Hp) (x : Vl) (v : V), tc x = some () → RepI K T B A H x v → tyV K ty v H)
    (ho : PE X o (tE g bo fo)) (ha : PA X (e :: es) (tA g bb (seqA fs)))
    (hbase : attributeBase o name X.env (eval o X.env) = eval o X.env := by rfl)
    (hfew : ((backTo cpos (starEach (e :: es) X.env)).all (fun x => !x.1) && (backToKw cpos (keywordEach [] X.env)).all (fun x => x.1.isSome)
      && decide ((e :: es).length + ([] : List Keyword).length + (if ([] : List Keyword).isEmpty then 0 else 1) < 30)) = true := by rfl)
    (hline : (apos.endLine == cpos.line) = true := by rfl) (hs : starEach (e :: es) X.env = (false, eval e X.env) :: starEach es X.env := by rfl) (hplain : (backTo cpos (starEach es X.env)).any (·.1) = false := by rfl) :
    PE X (.Call (.Attribute o name apos) (e :: es) [] cpos) (tE g true (fMet tc op fo fs)) :=
  (pe_bm pa slot hty (hm g.r.T) ho ha hbase hfew hline hs hplain).weak fun σ H Q ⟨ρ, c, ei, hd, q⟩ => ⟨ρ, c, ei, hd, (GoX.bind q).mono fun x c1 H1 k hd1 w v rv => by
    have ei1 := ei.kp hd k
    obtain ⟨_, et, w1⟩ := go_opt (GoX.bind w)
    rw [hK]
    refine ⟨htc _ _ _ _ _ _ _ et rv.i, ρ, c1, ei1, hd1, (GoX.bind (w1 H1 Kp.refl hd1)).mono fun xs c2 H2 k2 hd2 w2 vs rs => ?_⟩
    obtain ⟨z, ez, w3⟩ := go_opt w2
    rw [← hK]
    rw [hK]
    exact ⟨x, xs, _, _, z, (rv.kp hd1 k2).i, rs.toIs, ez, tE_last (ei1.kp hd1 k2) hd2 w3⟩⟩
def join1 (x : Vl) (xs : List Vl) : Option Vl := match x, xs with
  | .str [], [y] => match items2 y with
    | some ys => match allM asS ys with
      | some zs => if (zs.map (·.length)).sum ≤ sizeLine then some (.str zs.flatten) else none
      | none => none
    | none => none
  | _, _ => none
where items2 : Vl → Option (List Vl)
  | .lst xs => some xs
  | .tup xs => some xs
  | _ => none
theorem joinL_nil : ∀ ps : List (List Nat), TL.joinL [] ps = ps.flatten
  | [] => rfl
  | [p] => by simp [TL.joinL]
  | p :: q :: r => by
    show p ++ ([] ++ TL.joinL [] (q :: r)) = _
    rw [List.nil_append, joinL_nil (q :: r)]
    rfl
theorem tl_str (z : List Nat) : TL.tl ⟨z.toArray⟩ = z := by
  unfold TL.tl
  simp
theorem join_flat (zs : List (List Nat)) : Txt.join ⟨#[]⟩ (zs.map fun z => (⟨z.toArray⟩ : Str)) = ⟨zs.flatten.toArray⟩ := by
  have h := TL.tl_join ⟨#[]⟩ (zs.map fun z => (⟨z.toArray⟩ : Str))
  rw [← TL.join_eq] at h
  have e1 : TL.tl (⟨#[]⟩ : Str) = [] := tl_str []
  rw [e1, joinL_nil, List.map_map, show (TL.tl ∘ fun z : List Nat => (⟨z.toArray⟩ : Str)) = id from funext tl_str, List.map_id] at h
  have h2 : (Txt.join ⟨#[]⟩ (zs.map fun z => (⟨z.toArray⟩ : Str))).cps = zs.flatten.toArray := by
    have := congrArg List.toArray h
    simpa [TL.tl] using this
  exact congrArg Str.mk h2
theorem met_join : MetP false X "str.join" join1 := fun T => mt_join.weak fun v vs H Q ⟨x, xs, B, A, z, rx, r, e, q⟩ => by
  unfold join1 at e
  split at e
  · rename_i y
    split at e
    · rename_i ys ey
      split at e
      · rename_i zs ez
        split at e
        · rename_i hl
          cases e
          obtain ⟨u, rfl, ry⟩ := is_one r
          have hz : (List.map (fun x => x.length) (zs.map fun z => (⟨z.toArray⟩ : Str))).sum + (zs.map fun z => (⟨z.toArray⟩ : Str)).length * (⟨#[]⟩ : Str).length ≤ 16777216 := by
            rw [List.map_map, show ((fun x : Str => x.length) ∘ fun z : List Nat => (⟨z.toArray⟩ : Str)) = fun z => z.length from funext str_len]
            have : sizeLine = 16777216 := sizeLine_eq
            show _ + _ * 0 ≤ _
            omega
          have q := ans_val q fun _ => rep_str
          rw [← join_flat] at q
          cases y <;> first | cases ey
          · obtain ⟨p, us, rfl, hq, l, rs⟩ := ri_tup ry
            rw [allM_reps (gv := fun z => V.str ⟨z.toArray⟩) asS_rep ez rs] at hq
            exact ⟨_, p, zs.map fun z => (⟨z.toArray⟩ : Str), ri_str rx, rfl, .inr (by rw [List.map_map]; exact hq), hz, q⟩
          · obtain ⟨p, us, rfl, hq, l, rs⟩ := ri_lst ry
            rw [allM_reps (gv := fun z => V.str ⟨z.toArray⟩) asS_rep ez rs] at hq
            exact ⟨_, p, zs.map fun z => (⟨z.toArray⟩ : Str), ri_str rx, rfl, .inl (by rw [List.map_map]; exact SqL.of hq), hz, q⟩
        · cases e
      · cases e
    · cases e
  · cases e
/-- xs.count(n) of a list of ints -/
def lcountP (x : Vl) (xs : List Vl) : Option Vl := match x, xs with
  | .lst ys, [.int k] => (allM asI ys).map fun ns => .int (ns.count k : Nat)
  | _, _ => none
theorem met_lcount : MetP false X "list.count" lcountP := fun T => mt_lcount.weak fun v vs H Q ⟨x, xs, B, A, z, rx, r, e, q⟩ => by
  unfold lcountP at e
  split at e
  · rename_i ys k
    cases e2 : allM asI ys with
    | none => rw [e2] at e; cases e
    | some ns =>
      rw [e2] at e
      cases e
      obtain ⟨u, rfl, ry⟩ := is_one r
      obtain ⟨p, us, rfl, hq, l, rs⟩ := ri_lst rx
      rw [allM_reps (gv := V.int) asI_rep e2 rs] at hq
      exact ⟨p, ns, k, rfl, by rw [ri_int ry], SqL.of hq, ans_val q fun _ => rep_int⟩
  · cases e
/-! ### isinstance -/
inductive Ty where
  | int | bool | str | tuple | list
def Ty.name : Ty → String
  | .int => "int"
  | .bool => "bool"
  | .str => "str"
  | .tuple => "tuple"
  | .list => "list"
def isa : Ty → Vl → Option Bool
  | _, .reg _ => none
  | _, .dk (.t _) _ => none
  | .int, .int _ => some true
  | .int, .bl _ => some true
  | .bool, .bl _ => some true
  | .str, .str _ => some true
  | .tuple, .tup _ => some true
  | .list, .lst _ => some true
  | _, _ => some false
def isaP (t : Ty) (x : Vl) : Option Vl := (isa t x).map .bl
def tyName : Vl → String
  | .non => "NoneType"
  | .bl _ => "bool"
  | .int _ => "int"
  | .str _ => "str"
  | .tup _ => "tuple"
  | .lst _ => "list"
  | .dk _ _ => "dict"
  | .reg _ => ""
theorem tyX_of {K : PySem.W.Frag} {T : Tk} {A B : Addr → Prop} {H : Hp} {x : Vl} {v : V} (hx : ∀ n, x ≠ .reg n) (hy : ∀ ks xs, x ≠ .dk (.t ks) xs) (r : RepI K T B A H x v) : TyX K H v (.type (tyName x)) := by
  cases x with
  | non => rw [ri_non r]; exact .base .non
  | bl b => rw [ri_bl r]; exact .base (.bl b)
  | int b => rw [ri_int r]; exact .base (.int b)
  | str b => rw [ri_str r]; exact .base (.str _)
  | tup xs =>
    obtain ⟨p, vs, rfl, hq, _⟩ := ri_tup r
    rcases hq with (h | ⟨o, h⟩) | ⟨o, its, n, h1, h2, _⟩
    · exact .base (.tup h)
    · exact .fTuple h
    · exact .kTuple h1 h2
  | lst xs =>
    obtain ⟨p, vs, rfl, hq, _⟩ := ri_lst r
    exact .base (.lst hq)
  | dk ks xs =>
    unfold RepI at r
    obtain ⟨p, vs, rfl, b, hq, l, m, _⟩ := r
    cases vs with
    | k vs => exact .base (.dK hq)
    | t p0 vs =>
      cases ks with
      | k ks => cases m.1
      | t ks => exact absurd rfl (hy ks xs)
  | reg n => exact absurd rfl (hx n)
theorem isa_kit {t : Ty} {x : Vl} {b : Bool} (h : isa t x = some b) : (∀ n, x ≠ .reg n) ∧ (∀ ks xs, x ≠ .dk (.t ks) xs) ∧ kitB (tyName x) t.name = some b := by
  have hx : ∀ n, x ≠ .reg n := fun n e => by
    subst e
    cases t <;> simp [isa] at h
  have hy : ∀ ks xs, x ≠ .dk (.t ks) xs := fun ks xs e => by
    subst e
    cases t <;> simp [isa] at h
  refine ⟨hx, hy, ?_⟩
  cases x with
  | reg n => exact absurd rfl (hx n)
  | dk ks xs =>
    cases ks with
    | t ks => exact absurd rfl (hy ks xs)
    | k ks => cases t <;> (simp only [isa, Option.some.injEq] at h; subst h; dsimp only [tyName, Ty.name]; decide +kernel)
  | _ => cases t <;> (simp only [isa, Option.some.injEq] at h; subst h; dsimp only [tyName, Ty.name]; decide +kernel)
theorem de_isa {e : Expr} {y : Str} {p p2 pos : Pos} {t : Ty} {b : Bool} {f : FE C} (hK : X.K = g.K) (hg : Gl X "isinstance") (hm : X.mg "isinstance" = none) (hy : Gl X y) (hmy : X.mg y = none) (hv : bootBuiltins y = some (.type t.name)) (he : PE X e (tE g b f))
    (hn : y ≠ "__name__" := by decide) (hdb : (y == ("__debug__" : Str)) = false := by decide)
    (hs : starEach [e, .Name y p2] X.env = (false, eval e X.env) :: starEach [.Name y p2] X.env := by rfl) (hs2 : starEach [.Name y p2] X.env = (false, eval (.Name y p2) X.env) :: starEach [] X.env := by rfl) (hpl : (backTo pos (starEach [.Name y p2] X.env)).any (·.1) = false := by rfl) :
    PE X (.Call (.Name "isinstance" p) [e, .Name y p2] [] pos) (tE g true (fUn (isaP t) f)) :=
  (pe_callB call_isi hg hm (by decide +kernel) (pa_cons he (pa_cons (pe_bltn (v := .ty t.name) hy hmy hv rfl hn hdb) pa_nil hs2) hs) (by decide) (by decide) hs hpl).weak fun σ H Q ⟨ρ, c, ei, hd, q⟩ => ⟨ρ, c, ei, hd, (GoX.bind q).mono fun x c1 H1 k hd1 w v rv => by
    obtain ⟨z, ez, w3⟩ := go_opt w
    unfold isaP at ez
    cases ei2 : isa t x with
    | none => rw [ei2] at ez; cases ez
    | some bb =>
      rw [ei2] at ez
      cases ez
      obtain ⟨h1, h1', h2⟩ := isa_kit ei2
      rw [hK]
      exact ⟨v, .ty t.name, .type (tyName x), .type t.name, bb, rfl, .ty _, tyX_of h1 h1' rv.i, kit_ty h2, w3 H1 Kp.refl hd1 _ (RepB.of rep_bl)⟩⟩
end
end PyA
/-! PyJ: zip and enumerate over lists, tuples and texts. -/
namespace PyA
open PySem L2
/-- what an iterator draws from -/
inductive Src where
  | L (a : Addr)
  | T (a : Addr)
  | S (x : Str) (t : Tok)
namespace Src
def it (z : Addr) (i : Nat) (h : Heap) : Src → Prop
  | L a => h.IsListIter z a i
  | T a => h.IsTupleIter z a i
  | S x t => h.IsStrIter z (PySem.strIterType x) x t i
def ext : Src → List Addr
  | L a => [a]
  | T a => [a]
  | S _ _ => []
def items (K : PySem.W.Frag) (H : Hp) : Src → List V → Prop
  | L a, vs => SqL K H a vs
  | T a, vs => SqT K H a vs
  | S x _, vs => vs = x.cps.toList.map fun c => V.str ⟨#[c]⟩
def val : Src → Value
  | L a => .ref a
  | T a => .ref a
  | S x t => .str x t
def obj : Src → Obj
  | L a => { cls := .type "list_iterator", data := .fields #[.ref a, .int 0 0] }
  | T a => { cls := .type "tuple_iterator", data := .fields #[.ref a, .int 0 0] }
  | S x t => { cls := .type (PySem.strIterType x), data := .fields #[.str x t, .int 0 0] }
theorem it_obj {z : Addr} {i : Nat} {h : Heap} {s : Src} (q : s.it z i h) : ∃ o, h.get? z = some o ∧ ∀ v, o.data ≠ .cell v := by
  cases s with
  | L a => obtain ⟨o, e, c, d⟩ := q; exact ⟨o, e, fun v w => by rw [d] at w; cases w⟩
  | T a => obtain ⟨o, e, c, d⟩ := q; exact ⟨o, e, fun v w => by rw [d] at w; cases w⟩
  | S x t => obtain ⟨o, e, c, d⟩ := q; exact ⟨o, e, fun v w => by rw [d] at w; cases w⟩
theorem it_keep {z : Addr} {i : Nat} {h h' : Heap} {s : Src} (k : ∀ o, h.get? z = some o → h'.get? z = some o) (q : s.it z i h) : s.it z i h' := by
  cases s with
  | L a => obtain ⟨o, e, r⟩ := q; exact ⟨o, k o e, r⟩
  | T a => obtain ⟨o, e, r⟩ := q; exact ⟨o, k o e, r⟩
  | S x t => obtain ⟨o, e, r⟩ := q; exact ⟨o, k o e, r⟩
theorem it_new {z : Addr} {h : Heap} {s : Src} (e : h.get? z = some s.obj) : s.it z 0 h := by
  cases s with
  | L a => exact ⟨_, e, rfl, rfl⟩
  | T a => exact ⟨_, e, rfl, rfl⟩
  | S x t => exact ⟨_, e, rfl, rfl⟩
section
variable {X : Cx} {pins : List (Addr × Obj)} {σ : L2.St} {H : Hp} {s : Shared} {vs : List V}
theorem inj (I : Inv X pins σ H s) : ∀ {src : Src} {vs ws : List V}, src.items X.K H vs → src.items X.K H ws → vs = ws
  | L a, _, _, h, h' => I.list_inj h h'
  | T a, _, _, h, h' => I.tuple_inj h h'
  | S x t, _, _, h, h' => h.trans h'.symm
theorem begins (I : Inv X pins σ H s) {src : Src} (h : src.items X.K H vs) : ∃ G : Heap → Prop, G s.heap ∧ Begins src.val src.obj G := by
  cases src with
  | L a =>
    obtain ⟨its, rv, p, _⟩ := I.list h
    exact ⟨_, p.isList, begins_list a its.toArray⟩
  | T a =>
    obtain ⟨its, rv, p, _⟩ := I.tuple h
    exact ⟨_, (show s.heap.IsTuple a its.toArray from p), begins_tuple a its.toArray⟩
  | S x t => exact ⟨_, trivial, begins_text x t⟩
theorem ext_lt (I : Inv X pins σ H s) {src : Src} (h : src.items X.K H vs) : ∀ b ∈ src.ext, b < s.heap.objs.size := by
  intro b hb
  cases src with
  | L a =>
    obtain ⟨its, rv, p, _⟩ := I.list h
    rw [List.mem_singleton.mp hb]
    exact p.lt
  | T a =>
    obtain ⟨its, rv, p, _⟩ := I.tuple h
    rw [List.mem_singleton.mp hb]
    obtain ⟨o, e, _⟩ := p
    exact Heap.lt_size e
  | S x t => exact absurd hb List.not_mem_nil
theorem draws (I : Inv X pins σ H s) (hc : X.calm = true) {src : Src} {z : Addr} (hne : ∀ b ∈ src.ext, b ≠ z) (h : src.items X.K H vs) :
    ∃ (P : Nat → Value → Prop) (St : Nat → Heap → Prop), Draws X.prog X.w X.A.in1 z (z :: src.ext) vs.length P St ∧ (∀ i, src.it z i s.heap → St i s.heap) ∧ (∀ i h, St i h → src.it z i h) ∧ ∀ i v, P i v → ∃ x, vs[i]? = some x ∧ RelV x v := by
  have hh : X.A.in1.handled = none := I.ok.hd hc
  cases src with
  | L a =>
    obtain ⟨its, rv, p, _⟩ := I.list h
    have e : vs.length = its.toArray.size := by rw [rv.length]; simp
    rw [e]
    refine ⟨_, _, Draws.list hh z a (hne a List.mem_cons_self) its.toArray, fun i q => ⟨q, p.isList⟩, fun i h q => q.1, fun i v q => ?_⟩
    have q : its[i]? = some v := by simpa using q
    have hi : i < its.length := (List.getElem?_eq_some_iff.mp q).1
    have hi' : i < vs.length := by rw [rv.length]; exact hi
    obtain ⟨u, hu, ru⟩ := rv.get (i := i) (x := vs[i]) (by simp [hi'])
    rw [q] at hu
    cases hu
    exact ⟨_, by simp [hi'], ru⟩
  | T a =>
    obtain ⟨its, rv, p, _⟩ := I.tuple h
    have e : vs.length = its.toArray.size := by rw [rv.length]; simp
    rw [e]
    refine ⟨_, _, Draws.tuple hh z a (hne a List.mem_cons_self) its.toArray, fun i q => ⟨q, (show s.heap.IsTuple a its.toArray from p)⟩, fun i h q => q.1, fun i v q => ?_⟩
    have q : its[i]? = some v := by simpa using q
    have hi : i < its.length := (List.getElem?_eq_some_iff.mp q).1
    have hi' : i < vs.length := by rw [rv.length]; exact hi
    obtain ⟨u, hu, ru⟩ := rv.get (i := i) (x := vs[i]) (by simp [hi'])
    rw [q] at hu
    cases hu
    exact ⟨_, by simp [hi'], ru⟩
  | S x t =>
    have h : vs = x.cps.toList.map fun c => V.str ⟨#[c]⟩ := h
    have e : vs.length = x.cps.size := by rw [h]; simp
    rw [e]
    refine ⟨_, _, Draws.text hh z x t, fun i q => q, fun i h q => q, fun i v ⟨c, u, q, ev⟩ => ?_⟩
    subst ev
    refine ⟨.str ⟨#[c]⟩, ?_, ⟨u, rfl⟩⟩
    rw [h, List.getElem?_map]
    have : x.cps.toList[i]? = some c := by simpa using q
    rw [this]
    rfl
end
end Src
/-! ### rows of what several sources give -/
def Cont (K : PySem.W.Frag) (H : Hp) : List Src → List (List V) → Prop
  | [], [] => True
  | s :: r, vs :: vss => s.items K H vs ∧ Cont K H r vss
  | _, _ => False
def minLen {α : Type} : List (List α) → Nat
  | [] => 0
  | [vs] => vs.length
  | vs :: r => min vs.length (minLen r)
def rowOf {α : Type} (i : Nat) : List (List α) → Option (List α)
  | [] => some []
  | vs :: r => (vs[i]?).bind fun x => (rowOf i r).map (x :: ·)
/-- en: the turn's number goes ahead -/
def mkRow (en : Bool) (i : Nat) (vss : List (List V)) : Option (List V) := (rowOf i vss).map fun r => if en = true then .int (i : Nat) :: r else r
def ItR (K : PySem.W.Frag) (en : Bool) (ss : List Src) : It :=
  ⟨fun i H => ∃ vss, Cont K H ss vss ∧ i < minLen vss,
    fun i H v H' => ∃ T xs, v = .ref T ∧ H T = none ∧ H' = upd H T (.tup xs) ∧ ∀ vss, Cont K H ss vss → mkRow en i vss = some xs,
    fun i H => ∃ vss, Cont K H ss vss ∧ i = minLen vss⟩
theorem Cont.inj {X : Cx} {pins : List (Addr × Obj)} {σ : L2.St} {H : Hp} {s : Shared} (I : Inv X pins σ H s) : ∀ {ss : List Src} {vss wss : List (List V)}, Cont X.K H ss vss → Cont X.K H ss wss → vss = wss
  | [], [], [], _, _ => rfl
  | [], [], _ :: _, _, h => h.elim
  | [], _ :: _, _, h, _ => h.elim
  | _ :: _, [], _, h, _ => h.elim
  | _ :: _, _ :: _, [], _, h => h.elim
  | x :: ss, vs :: vss, ws :: wss, h, h' => by rw [Src.inj I h.1 h'.1, Cont.inj I h.2 h'.2]
theorem turnR {P : Program} {w : World} {K : PySem.W.Frag} {elts : List Expr} {kk : Nat} {tpos : Pos} {en : Bool} {ss : List Src} {fp : List Addr} {z : Addr} {tn : Nat → Heap → Prop} (mem : z ∈ fp) (obj : ∀ i h, tn i h → ∀ b ∈ fp, ∃ o, h.get? b = some o ∧ ∀ v, o.data ≠ .cell v)
    (keep : ∀ i h h', tn i h → (∀ b ∈ fp, ∀ o, h.get? b = some o → h'.get? b = some o) → tn i h')
    (self : ∀ (A : Around) (i : Nat) (s : Shared) (Q : Value → Shared → Prop) (E : Value → Shared → Prop), tn i s.heap → Q (.ref z) s → wpAny (model P w) A (pyIter (.ref z)) Q E s)
    (walks : ∀ (X : Cx), X.prog = P → X.w = w → X.K = K → X.calm = true → ∀ (i : Nat) (pins : List (Addr × Obj)) (s : Shared) (σ : L2.St) (H : Hp) (vss : List (List V)), Inv X pins σ H s → tn i s.heap → Cont K H ss vss →
      ∃ (fpW wr : List Addr) (Pt : Nat → Array Value → Prop) (St : Nat → Heap → Prop) (Mid : Nat → Addr → Heap → Prop), WalksT X.prog X.w X.A z fpW wr (minLen vss) Pt St Mid ∧ St i s.heap ∧ (∀ b ∈ wr, b ∈ fp) ∧ (∀ h, St (i + 1) h → tn (i + 1) h) ∧
        ∀ vals, Pt i vals → ∃ xs, mkRow en i vss = some xs ∧ Vals xs vals.toList ∧ xs.length ≤ sizeLine) :
    Turn P w K (.Tuple elts kk tpos) (ItR K en ss) fp z tn where
  mem := mem
  obj := obj
  keep := keep
  self := self
  item := by
    intro X hP hw hK hc i pins s σ H E I hf st hg
    obtain ⟨vss, hC, hi⟩ := hg
    obtain ⟨fpW, wr, Pt, St, Mid, W, st', sub, back, row⟩ := walks X hP hw hK hc i pins s σ H vss I st hC
    subst hP hw hK
    refine W.item i s _ _ hi st' fun T vals h' tk hPt hT hTup hm hk => ?_
    obtain ⟨xs, ex, rv, hl⟩ := row vals hPt
    refine ⟨_, rfl, W.go elts kk tpos i T { s with heap := h', toks := tk } _ _ hm fun h'' st2 hk2 => ?_⟩
    have hn : H T = none := I.hok.fresh hT
    have kk : ∀ b o, b ∉ wr → s.heap.get? b = some o → h''.get? b = some o := fun b o hb e => hk2 b o hb (hk b o hb e)
    have hTw : T ∉ wr := W.apart i T h' hm
    have hT2 : h''.IsTuple T vals := hTup.at fun o e => hk2 T o hTw e
    have new : ObjOk X.prog X.w (upd H T (.tup xs)) h'' T (.tup xs) := ⟨hl, vals.toList, rv, hT2⟩
    have I1 : Inv X pins σ (upd H T (.tup xs)) { s with heap := h'', toks := tk } := I.turnedNew (t' := tk) (ch := wr) kk (fun b hb => hf b (sub b hb)) hT new
    refine ⟨.ref T, _, I1, rfl, ⟨T, xs, rfl, hn, rfl, fun wss hw => by rw [← Cont.inj I hC hw]; exact ex⟩, back h'' st2, fun b hb => ?_⟩
    obtain ⟨o, eo, _⟩ := obj i s.heap st b hb
    rw [upd_ne (Nat.ne_of_lt (Nat.lt_of_lt_of_le (Heap.lt_size eo) hT))]
    exact (hf b hb).1
  done := by
    intro X hP hw hK hc i pins s σ H E I hf st hg
    obtain ⟨vss, hC, hi⟩ := hg
    obtain ⟨fpW, wr, Pt, St, Mid, W, st', sub, back, row⟩ := walks X hP hw hK hc i pins s σ H vss I st hC
    subst hP hw hK
    rw [hi] at st'
    exact W.done s _ _ st' fun h' tk hk => ⟨rfl, I.turnedL (t' := tk) (ch := wr) hk fun b hb => hf b (sub b hb)⟩
/-! ### zip of two -/
def tnZip2 (s1 s2 : Src) (z TI TO i1 i2 : Addr) : Nat → Heap → Prop := fun i h => IsZip h z TI TO .none ∧ IsTupOf2 h TI (.ref i1) (.ref i2) ∧ (∃ a1 a2, IsTupOf2 h TO a1 a2) ∧ s1.it i1 i h ∧ s2.it i2 i h
theorem turn_zip2 {P : Program} {w : World} {K : PySem.W.Frag} {elts : List Expr} {kk : Nat} {tpos : Pos} {s1 s2 : Src} {M : Nat} (l1 : ∀ b ∈ s1.ext, b < M) (l2 : ∀ b ∈ s2.ext, b < M) :
    Turn P w K (.Tuple elts kk tpos) (ItR K false [s1, s2]) [M + 4, M + 2, M + 3, M, M + 1] (M + 4) (tnZip2 s1 s2 (M + 4) (M + 2) (M + 3) M (M + 1)) := by
  refine turnR (by simp) (fun i h st b hb => ?_) (fun i h h' st k => ?_) (fun A i s Q E st h => wpAny_pyIter_zip st.1 h) (fun X hP hw hK hc i pins s σ H vss I st hC => ?_)
  · obtain ⟨hz, hTI, ⟨x, y, hTO⟩, h1, h2⟩ := st
    have e' : b = M + 4 ∨ b = M + 2 ∨ b = M + 3 ∨ b = M ∨ b = M + 1 := by simpa using hb
    rcases e' with q | q | q | q | q
    · rw [q]; exact ⟨_, hz, fun v q => nomatch q⟩
    · rw [q]; exact ⟨_, hTI, fun v q => nomatch q⟩
    · rw [q]; exact ⟨_, hTO, fun v q => nomatch q⟩
    · rw [q]; exact Src.it_obj h1
    · rw [q]; exact Src.it_obj h2
  · obtain ⟨hz, hTI, ⟨x, y, hTO⟩, h1, h2⟩ := st
    exact ⟨k _ (by simp) _ hz, k _ (by simp) _ hTI, ⟨x, y, k _ (by simp) _ hTO⟩, Src.it_keep (k M (by simp)) h1, Src.it_keep (k (M + 1) (by simp)) h2⟩
  · obtain ⟨hz, hTI, hTO, h1, h2⟩ := st
    match vss, hC with
    | [v1, v2], hC =>
      obtain ⟨c1, c2, _⟩ := hC
      subst hK
      obtain ⟨P1, St1, D1, a1, b1, r1⟩ := Src.draws I hc (src := s1) (z := M) (fun b hb => Nat.ne_of_lt (l1 b hb)) c1
      obtain ⟨P2, St2, D2, a2, b2, r2⟩ := Src.draws I hc (src := s2) (z := M + 1) (fun b hb => Nat.ne_of_lt (Nat.lt_succ_of_lt (l2 b hb))) c2
      refine ⟨_, _, _, _, _, WalksT.zipD2 (zip_sep2 l1 l2) D1 D2, ⟨hz, hTI, hTO, a1 i h1, a2 i h2⟩, fun b hb => ?_, fun h ⟨q1, q2, q3, q4, q5⟩ => ⟨q1, q2, q3, b1 _ _ q4, b2 _ _ q5⟩, fun vals ⟨x1, x2, p1, p2, ev⟩ => ?_⟩
      · have e' : b = M + 4 ∨ b = M + 3 ∨ b = M ∨ b = M + 1 := by simpa using hb
        rcases e' with q | q | q | q <;> simp [q]
      · obtain ⟨y1, e1, ry1⟩ := r1 i x1 p1
        obtain ⟨y2, e2, ry2⟩ := r2 i x2 p2
        subst ev
        refine ⟨[y1, y2], ?_, .cons ry1 (.cons ry2 .nil), by show 2 ≤ sizeLine; decide⟩
        simp [mkRow, rowOf, e1, e2]
/-- a source by its value -/
inductive SrcV where
  | l (a : Addr)
  | t (a : Addr)
  | s (x : Str)
def SrcV.v : SrcV → V
  | .l a => .ref a
  | .t a => .ref a
  | .s x => .str x
def SrcV.src (k : Tok) : SrcV → Src
  | .l a => .L a
  | .t a => .T a
  | .s x => .S x k
theorem SrcV.val {k : SrcV} {u : Value} (r : RelV k.v u) : ∃ t, u = (k.src t).val := by
  cases k with
  | l a => exact ⟨0, r⟩
  | t a => exact ⟨0, r⟩
  | s x => obtain ⟨t, e⟩ := r; exact ⟨t, e⟩
def iZip2 (K : PySem.W.Frag) (ta : TA) : TI := fun σ H R => ta σ H fun vs H1 => ∃ (k1 k2 : SrcV) (x1 x2 : List V), vs = [k1.v, k2.v] ∧ (k1.src 0).items K H1 x1 ∧ (k2.src 0).items K H1 x2 ∧ ∀ t1 t2, R (ItR K false [k1.src t1, k2.src t2]) H1
theorem SrcV.items {k : SrcV} {t t' : Tok} {K : PySem.W.Frag} {H : Hp} {vs : List V} (h : (k.src t).items K H vs) : (k.src t').items K H vs := by
  cases k <;> exact h
theorem pi_zip2 {X : Cx} {e e2 : Expr} {ta : TA} {p pos tpos : Pos} {elts : List Expr} {kk : Nat} (hg : Gl X "zip") (hm : X.mg "zip" = none) (ha : PA X [e, e2] ta)
    (hs : starEach [e, e2] X.env = (false, eval e X.env) :: starEach [e2] X.env := by rfl) (hpl : (backTo pos (starEach [e2] X.env)).any (·.1) = false := by rfl) :
    PI X (.Tuple elts kk tpos) (.Call (.Name "zip" p) [e, e2] [] pos) (iZip2 X.K ta) := by
  refine ⟨fun pins s σ H R I h => ?_⟩
  refine PyProof.Rows.Call_ (ld_blt I hg hm PyProof.Rows.boot_zip (PyProof.Rows.callWith_type1 (thn (ha.run pos pins s σ H _ I h) fun us s1 ⟨vs, H1, I1, r1, q1⟩ => ?_) hs hpl))
  obtain ⟨k1, k2, x1, x2, ex, c1, c2, q⟩ := q1
  subst ex
  obtain ⟨u1, u2, rfl, ru1, ru2⟩ := vals2 r1
  obtain ⟨t1, e1⟩ := SrcV.val ru1
  obtain ⟨t2, e2⟩ := SrcV.val ru2
  subst e1
  subst e2
  have c1 : (k1.src t1).items X.K H1 x1 := SrcV.items c1
  have c2 : (k2.src t2).items X.K H1 x2 := SrcV.items c2
  obtain ⟨G1, g1, B1⟩ := Src.begins I1 c1
  obtain ⟨G2, g2, B2⟩ := Src.begins I1 c2
  refine zip_begins2 B1 B2 g1 g2 fun h' hz hTI hTO o1 o2 hsz hk => wpAny_pyIter_zip hz ?_
  have I2 : Inv X pins σ H1 { s1 with heap := h' } := I1.kept (t' := s1.toks) hk
  refine ⟨s1.heap.objs.size + 4, [s1.heap.objs.size + 4, s1.heap.objs.size + 2, s1.heap.objs.size + 3, s1.heap.objs.size, s1.heap.objs.size + 1], _, _, H1, rfl, I2, turn_zip2 (Src.ext_lt I1 c1) (Src.ext_lt I1 c2),
    ⟨hz, hTI, ⟨_, _, hTO⟩, Src.it_new o1, Src.it_new o2⟩, fun c hcm => ?_, q t1 t2⟩
  have hle : s1.heap.objs.size ≤ c := by
    have e' : c = s1.heap.objs.size + 4 ∨ c = s1.heap.objs.size + 2 ∨ c = s1.heap.objs.size + 3 ∨ c = s1.heap.objs.size ∨ c = s1.heap.objs.size + 1 := by simpa using hcm
    rcases e' with z | z | z | z | z
    · rw [z]; exact Nat.le_add_right _ _
    · rw [z]; exact Nat.le_add_right _ _
    · rw [z]; exact Nat.le_add_right _ _
    · rw [z]; exact Nat.le_refl _
    · rw [z]; exact Nat.le_add_right _ _
  exact I1.fpOk hle (I1.hok.fresh hle)
/-! ### enumerate -/
def tnEn (s1 : Src) (e i1 : Addr) : Nat → Heap → Prop := fun i h => (∃ old, IsEnum h e i1 (0 + (i : Int)) old) ∧ s1.it i1 i h
theorem turn_en {P : Program} {w : World} {K : PySem.W.Frag} {elts : List Expr} {kk : Nat} {tpos : Pos} {s1 : Src} {M : Nat} (l1 : ∀ b ∈ s1.ext, b < M) :
    Turn P w K (.Tuple elts kk tpos) (ItR K true [s1]) [M + 1, M] (M + 1) (tnEn s1 (M + 1) M) := by
  refine turnR (by simp) (fun i h st b hb => ?_) (fun i h h' st k => ?_) (fun A i s Q E st h => let ⟨_, q⟩ := st.1; wpAny_pyIter_enum q h) (fun X hP hw hK hc i pins s σ H vss I st hC => ?_)
  · obtain ⟨⟨old, he⟩, h1⟩ := st
    have e' : b = M + 1 ∨ b = M := by simpa using hb
    rcases e' with q | q
    · rw [q]; exact ⟨_, he, fun v q => nomatch q⟩
    · rw [q]; exact Src.it_obj h1
  · obtain ⟨⟨old, he⟩, h1⟩ := st
    exact ⟨⟨old, k _ (by simp) _ he⟩, Src.it_keep (k M (by simp)) h1⟩
  · obtain ⟨he, h1⟩ := st
    match vss, hC with
    | [v1], hC =>
      obtain ⟨c1, _⟩ := hC
      subst hK
      obtain ⟨P1, St1, D1, a1, b1, r1⟩ := Src.draws I hc (src := s1) (z := M) (fun b hb => Nat.ne_of_lt (l1 b hb)) c1
      refine ⟨_, _, _, _, _, WalksT.enumFrom 0 D1 (M + 1) (Nat.succ_ne_self M) (fun hm => ?_) List.mem_cons_self, ⟨he, a1 i h1⟩, fun b hb => hb, fun h ⟨q1, q2⟩ => ⟨q1, b1 _ _ q2⟩, fun vals ⟨t, x1, p1, ev⟩ => ?_⟩
      · rcases List.mem_cons.mp hm with q | q
        · exact absurd q (Nat.succ_ne_self M)
        · exact absurd (l1 _ q) (Nat.not_lt.mpr (Nat.le_succ M))
      · obtain ⟨y1, e1, ry1⟩ := r1 i x1 p1
        subst ev
        refine ⟨[.int (i : Nat), y1], ?_, .cons ⟨t, by rw [Int.zero_add]⟩ (.cons ry1 .nil), by show 2 ≤ sizeLine; decide⟩
        simp [mkRow, rowOf, e1]
theorem meets_enumT (l : Addr) (its : Array Value) (n : Nat) (dct : Option Addr) (sl : Array (Option Value)) :
    Meets (Builtin.«enumerate.__new__» ⟨[.type "enumerate", .ref l], []⟩) (fun _ R s => s.heap.get? l = some { cls := .type "tuple", dict := dct, data := .seq its n, slots := sl } ∧
      R (.ok (.ret (.ref (s.heap.push { cls := .type "tuple_iterator", data := .fields #[.ref l, .int 0 0] }).objs.size)))
        { s with heap := (s.heap.push { cls := .type "tuple_iterator", data := .fields #[.ref l, .int 0 0] }).push { cls := .type "enumerate", data := .fields #[.none, .bool false, .ref s.heap.objs.size, PySem.rawInt 0, .none, .none] } }) :=
  .of_wp fun prog w A R s h => by
    obtain ⟨hp, g, d, tk, os⟩ := s; obtain ⟨hl, h⟩ := h
    have hsub := PySem.sub_enumerate
    have hL : Heap.IsTuple (Shared.heap ⟨hp, g, d, tk, os⟩) l its := ⟨_, hl, rfl, n, rfl⟩
    wp_walk using PySem.AutoSeq1.wpAny_loadPart' hl
    refine PySem.wpAny_stack_any fun st => wpAny_pure ?_
    split
    · rename_i c _ _ _ _ _
      cases (c == Value.type "enumerate")
      · wp_walk using PySem.AutoSeq1.wpAny_loadPart' hl, PySem.wpAny_pyIter_tuple hL
        exact ⟨_, rfl, h⟩
      · wp_walk using PySem.AutoSeq1.wpAny_loadPart' hl, PySem.wpAny_pyIter_tuple hL
        exact ⟨_, rfl, h⟩
    · wp_walk using PySem.AutoSeq1.wpAny_loadPart' hl, PySem.wpAny_pyIter_tuple hL
      exact ⟨_, rfl, h⟩
theorem call_enumT {prog : Program} {w : World} {A : Around} {E : Value → Shared → Prop} {s : Shared} {l : Addr} {its : Array Value} {Q : Value → Shared → Prop} (hL : s.heap.IsTuple l its)
    (h : ∀ h', IsEnum h' (s.heap.objs.size + 1) s.heap.objs.size 0 .none → h'.IsTupleIter s.heap.objs.size l 0 → h'.objs.size = s.heap.objs.size + 2 →
      (∀ b o, s.heap.get? b = some o → h'.get? b = some o) → Q (.ref (s.heap.objs.size + 1)) { s with heap := h' }) :
    wpAny (model prog w) A (call (.type "enumerate") [.ref l]) Q E s := by
  obtain ⟨⟨c, dct, dt, sl⟩, hl, hc, n, hd⟩ := hL
  replace hc : c = .type "tuple" := hc
  replace hd : dt = .seq its n := hd
  subst hc hd
  refine PySem.callType_new PySem.F.called_enumerate (by decide) (PySem.F.typeCall_enumerate_1 _) (PySem.F.newCall_enumerate_1 _) (fun obj => PySem.F.args_object_init_2 obj _) PySem.F.entry_enumerate_new
    (meets_enumT l its n dct sl) ⟨hl, ?_⟩
  have hz : (s.heap.push { cls := .type "tuple_iterator", data := .fields #[.ref l, .int 0 0] }).objs.size = s.heap.objs.size + 1 := Heap.size_push ..
  show _ ∧ _
  rw [hz]
  have he : IsEnum ((s.heap.push { cls := .type "tuple_iterator", data := .fields #[.ref l, .int 0 0] }).push
      { cls := .type "enumerate", data := .fields #[.none, .bool false, .ref s.heap.objs.size, PySem.rawInt 0, .none, .none] }) (s.heap.objs.size + 1) s.heap.objs.size 0 .none := by
    have := Heap.get?_push_size (s.heap.push { cls := .type "tuple_iterator", data := .fields #[.ref l, .int 0 0] })
      (o := { cls := .type "enumerate", data := .fields #[.none, .bool false, .ref s.heap.objs.size, PySem.rawInt 0, .none, .none] }) rfl
    rw [hz] at this; exact this
  refine ⟨⟨_, he, rfl⟩, h _ he ⟨_, Heap.get?_push_of_some _ (Heap.get?_push_size _ rfl), rfl, rfl⟩ (by rw [Heap.size_push, hz]) fun b o x => Heap.get?_push_of_some _ (Heap.get?_push_of_some _ x)⟩
theorem call_enum1 {X : Cx} {pins : List (Addr × Obj)} {σ : L2.St} {H : Hp} {s : Shared} {vs : List V} {E : Value → Shared → Prop} {src : Src} {Q : Value → Shared → Prop} (I : Inv X pins σ H s) (c : src.items X.K H vs)
    (h : ∀ h', IsEnum h' (s.heap.objs.size + 1) s.heap.objs.size 0 .none → src.it s.heap.objs.size 0 h' → h'.objs.size = s.heap.objs.size + 2 → (∀ b o, s.heap.get? b = some o → h'.get? b = some o) → Q (.ref (s.heap.objs.size + 1)) { s with heap := h' }) :
    wpAny (model X.prog X.w) X.A (call (.type "enumerate") [src.val]) Q E s := by
  cases src with
  | L a =>
    obtain ⟨its, rv, p, _⟩ := I.list c
    exact PySem.call_enumerate_list p.isList h
  | T a =>
    obtain ⟨its, rv, p, _⟩ := I.tuple c
    exact call_enumT (show s.heap.IsTuple a its.toArray from p) h
  | S x t => exact PySem.call_enumerate_str h
def iEn (K : PySem.W.Frag) (ta : TA) : TI := fun σ H R => ta σ H fun vs H1 => ∃ (k1 : SrcV) (x1 : List V), vs = [k1.v] ∧ (k1.src 0).items K H1 x1 ∧ ∀ t1, R (ItR K true [k1.src t1]) H1
theorem pi_en {X : Cx} {e : Expr} {ta : TA} {p pos tpos : Pos} {elts : List Expr} {kk : Nat} (hg : Gl X "enumerate") (hm : X.mg "enumerate" = none) (ha : PA X [e] ta) (hs : starEach [e] X.env = [(false, eval e X.env)] := by rfl) :
    PI X (.Tuple elts kk tpos) (.Call (.Name "enumerate" p) [e] [] pos) (iEn X.K ta) := by
  refine ⟨fun pins s σ H R I h => ?_⟩
  refine PyProof.Rows.Call_ (ld_blt I hg hm PyProof.Rows.boot_enumerate (PyProof.Rows.callWith_type1 (thn (ha.run pos pins s σ H _ I h) fun us s1 ⟨vs, H1, I1, r1, q1⟩ => ?_) hs rfl))
  obtain ⟨k1, x1, ex, c1, q⟩ := q1
  subst ex
  obtain ⟨u1, rfl, ru1⟩ := vals1 r1
  obtain ⟨t1, e1⟩ := SrcV.val ru1
  subst e1
  have c1 : (k1.src t1).items X.K H1 x1 := SrcV.items c1
  refine call_enum1 I1 c1 fun h' he o1 hsz hk => wpAny_pyIter_enum he ?_
  have I2 : Inv X pins σ H1 { s1 with heap := h' } := I1.kept (t' := s1.toks) hk
  refine ⟨s1.heap.objs.size + 1, [s1.heap.objs.size + 1, s1.heap.objs.size], _, _, H1, rfl, I2, turn_en (Src.ext_lt I1 c1), ⟨⟨.none, he⟩, o1⟩, fun b hb => ?_, q t1⟩
  have e' : b = s1.heap.objs.size + 1 ∨ b = s1.heap.objs.size := by simpa using hb
  have hle : s1.heap.objs.size ≤ b := by
    rcases e' with z | z
    · rw [z]; exact Nat.le_add_right _ _
    · rw [z]; exact Nat.le_refl _
  exact I1.fpOk hle (I1.hok.fresh hle)
end PyA
/-! PyK: zip and enumerate as things that are walked. -/
namespace PyA
open PySem L2
section
variable {X : Cx} {C : Type} {g : Fx C} {ρ : PEnv} {σ : L2.St} {H H' : Hp} {cc : C}
theorem walkR {K : PySem.W.Frag} {en : Bool} {ss : List Src} {vss : List (List V)} (hu : ∀ H wss, Cont K H ss vss → Cont K H ss wss → wss = vss) :
    Walk (ItR K en ss) (minLen vss) (fun H => Cont K H ss vss) fun i H v H' => ∃ T xs, v = .ref T ∧ H T = none ∧ H' = upd H T (.tup xs) ∧ mkRow en i vss = some xs :=
  ⟨fun i H hi q => ⟨vss, q, hi⟩, fun H q => ⟨vss, q, rfl⟩, fun i H v H' _ q ⟨T, xs, e1, e2, e3, h⟩ => ⟨T, xs, e1, e2, e3, h vss q⟩⟩
/-- a value as a source: what must stay for it to stand -/
structure SrcIs (g : Fx C) (b : Bool) (ρ : PEnv) (σ : L2.St) (H : Hp) (xs : List Vl) (k : SrcV) (vs : List V) : Prop where
  reps : Reps g.K g.r.T (Ad g ρ σ) H xs vs
  len : vs.length ≤ sizeLine
  pins : ∃ L : List (Addr × HO), (∀ q ∈ L, H q.1 = some q.2 ∧ ¬ g.r.rg q.1 ∧ (b = true → ¬ Own g ρ σ q.1)) ∧ ∀ H' : Hp, (∀ q ∈ L, H' q.1 = some q.2) → ∀ t, (k.src t).items g.K H' vs
theorem src_is {b : Bool} {x : Vl} {v : V} {xs : List Vl} (ei : EI g ρ σ H) (hd : g.r.held cc H) (r : RepB g b ρ σ H x v) (e : items x = some xs) : ∃ k vs, v = SrcV.v k ∧ SrcIs g b ρ σ H xs k vs := by
  have ri := r.i
  cases x with
  | lst ys =>
    cases e
    unfold RepI at ri
    obtain ⟨p, vs, rfl, bp, hp, l, rs⟩ := ri
    refine ⟨.l p, vs, rfl, rs, l, [(p, .lst vs)], fun q hq => ?_, fun H' h t => SqL.of (h _ (List.mem_singleton.mpr rfl))⟩
    rw [List.mem_singleton.mp hq]
    refine ⟨hp, bp.2, fun hb => ?_⟩
    subst hb
    unfold RepB at r
    rw [if_pos rfl] at r
    unfold Rep at r
    obtain ⟨p', vs', e1, a1, _⟩ := r
    cases e1
    exact a1.2
  | tup ys =>
    cases e
    unfold RepI Rep at ri
    obtain ⟨p, vs, rfl, hp, l, rs⟩ := ri
    obtain ⟨L, hL, hL2⟩ := sq_pin hp
    refine ⟨.t p, vs, rfl, rs, l, L, fun q hq => ?_, fun H' h t => hL2 H' h⟩
    obtain ⟨h1, h2⟩ := hL q hq
    exact ⟨h1, nomut_rg hd h1 h2, fun _ => nomut_own ei h1 h2⟩
  | str z =>
    have e : (if z.length ≤ sizeLine then some (z.map fun c => Vl.str [c]) else none) = some xs := e
    by_cases l : z.length ≤ sizeLine
    · rw [if_pos l] at e
      cases e
      unfold RepI Rep at ri
      subst ri
      refine ⟨.s ⟨z.toArray⟩, z.map fun c => V.str ⟨#[c]⟩, rfl, Reps.of_get (by simp) fun i x v ex ev => ?_, by rw [List.length_map]; exact l, [], fun q hq => absurd hq List.not_mem_nil, fun H' _ t => by
        show _ = _
        simp⟩
      rw [List.getElem?_map] at ex ev
      cases ez : z[i]? with
      | none => rw [ez] at ex; cases ex
      | some c =>
        rw [ez] at ex ev
        cases ex
        cases ev
        unfold Rep
        rfl
    · rw [if_neg l] at e
      cases e
  | _ => cases e
theorem src_uniq {K : PySem.W.Frag} {H : Hp} : True := trivial
def zip2L (xs ys : List Vl) : List Vl := List.zipWith (fun a b => .tup [a, b]) xs ys
def zip2P : List Vl → Option (List Vl)
  | [x, y] => (items x).bind fun xs => (items y).map fun ys => zip2L xs ys
  | _ => none
def enL : Nat → List Vl → List Vl
  | _, [] => []
  | n, x :: r => .tup [.int (n : Nat), x] :: enL (n + 1) r
def enP : List Vl → Option (List Vl)
  | [x] => (items x).map (enL 0)
  | _ => none
theorem enL_get : ∀ (xs : List Vl) (n i : Nat), (enL n xs)[i]? = xs[i]?.map fun x => .tup [.int ((n + i : Nat) : Int), x]
  | [], n, i => by simp [enL]
  | x :: xs, n, 0 => by simp [enL]
  | x :: xs, n, i + 1 => by
    simp only [enL, List.getElem?_cons_succ]
    rw [enL_get xs (n + 1) i, show n + 1 + i = n + (i + 1) by omega]
theorem enL_len : ∀ (xs : List Vl) (n : Nat), (enL n xs).length = xs.length
  | [], n => rfl
  | x :: xs, n => by
    show (enL (n + 1) xs).length + 1 = xs.length + 1
    rw [enL_len xs (n + 1)]
theorem rep_pair {K : PySem.W.Frag} {T : Tk} {A : Addr → Prop} {Tt : Addr} {row : List V} {xs : List Vl} (n : H Tt = none) (hl : row.length ≤ sizeLine) (r : Reps K T A H xs row) : Rep K T A (upd H Tt (.tup row)) (.tup xs) (.ref Tt) := by
  unfold Rep
  exact ⟨Tt, row, rfl, SqT.of upd_same, hl, rep_upd n (fun _ _ _ z => z) r⟩
theorem gw_zip2 {b : Bool} {xs ys : List Vl} {k1 k2 : SrcV} {vs ws : List V} (s1 : SrcIs g b ρ σ H xs k1 vs) (s2 : SrcIs g b ρ σ H ys k2 ws) (t1 t2 : Tok) : GW g b ρ σ H (ItR g.K false [k1.src t1, k2.src t2]) (zip2L xs ys) := by
  obtain ⟨L1, p1, q1⟩ := s1.pins
  obtain ⟨L2', p2, q2⟩ := s2.pins
  have hn : (zip2L xs ys).length = minLen [vs, ws] := by
    unfold zip2L minLen minLen
    rw [List.length_zipWith, s1.reps.len, s2.reps.len]
  refine ⟨L1 ++ L2', fun q hq => (List.mem_append.mp hq).elim (p1 q) (p2 q), ?_, ?_⟩
  · rw [hn]
    unfold minLen
    exact Nat.le_trans (Nat.min_le_left _ _) s1.len
  · rw [hn]
    have W : Walk (ItR g.K false [k1.src t1, k2.src t2]) (minLen [vs, ws]) (fun H => Cont g.K H [k1.src t1, k2.src t2] [vs, ws]) fun i H v H' => ∃ T xs, v = .ref T ∧ H T = none ∧ H' = upd H T (.tup xs) ∧ mkRow false i [vs, ws] = some xs :=
      ⟨fun i H hi q => ⟨_, q, hi⟩, fun H q => ⟨_, q, rfl⟩, fun i H v H' _ q ⟨T, xs, e1, e2, e3, h⟩ => ⟨T, xs, e1, e2, e3, h _ q⟩⟩
    refine W.mono (fun H' h => ⟨q1 H' (fun q hq => h q (List.mem_append_left _ hq)) t1, q2 H' (fun q hq => h q (List.mem_append_right _ hq)) t2, trivial⟩) fun i H1 v H2 hi _ ⟨Tt, row, e1, n, e2, er⟩ => ?_
    subst e1
    subst e2
    refine ⟨same_new n, fun A' ka kb x ex => ?_⟩
    unfold zip2L at ex
    rw [List.getElem?_zipWith] at ex
    cases exi : xs[i]? with
    | none => rw [exi] at ex; cases ex
    | some a =>
      cases eyi : ys[i]? with
      | none => rw [exi, eyi] at ex; cases ex
      | some c =>
        rw [exi, eyi] at ex
        cases ex
        obtain ⟨va, eva, ra⟩ := s1.reps.get exi
        obtain ⟨vc, evc, rc⟩ := s2.reps.get eyi
        have : row = [va, vc] := by
          simp [mkRow, rowOf, eva, evc] at er
          exact er.symm
        subst this
        exact rep_pair n (by show 2 ≤ sizeLine; decide) (Reps.cons (ra.move ka kb) (Reps.cons (rc.move ka kb) Reps.nil))
theorem gw_en {b : Bool} {xs : List Vl} {k1 : SrcV} {vs : List V} (s1 : SrcIs g b ρ σ H xs k1 vs) (t1 : Tok) : GW g b ρ σ H (ItR g.K true [k1.src t1]) (enL 0 xs) := by
  obtain ⟨L1, p1, q1⟩ := s1.pins
  have hn : (enL 0 xs).length = minLen [vs] := by
    rw [enL_len]
    exact s1.reps.len.symm
  refine ⟨L1, p1, by rw [hn]; exact s1.len, ?_⟩
  rw [hn]
  have W : Walk (ItR g.K true [k1.src t1]) (minLen [vs]) (fun H => Cont g.K H [k1.src t1] [vs]) fun i H v H' => ∃ T xs, v = .ref T ∧ H T = none ∧ H' = upd H T (.tup xs) ∧ mkRow true i [vs] = some xs :=
    ⟨fun i H hi q => ⟨_, q, hi⟩, fun H q => ⟨_, q, rfl⟩, fun i H v H' _ q ⟨T, xs, e1, e2, e3, h⟩ => ⟨T, xs, e1, e2, e3, h _ q⟩⟩
  refine W.mono (fun H' h => ⟨q1 H' h t1, trivial⟩) fun i H1 v H2 hi _ ⟨Tt, row, e1, n, e2, er⟩ => ?_
  subst e1
  subst e2
  refine ⟨same_new n, fun A' ka kb x ex => ?_⟩
  rw [enL_get] at ex
  cases exi : xs[i]? with
  | none => rw [exi] at ex; cases ex
  | some a =>
    rw [exi] at ex
    cases ex
    obtain ⟨va, eva, ra⟩ := s1.reps.get exi
    have : row = [.int (i : Nat), va] := by
      simp [mkRow, rowOf, eva] at er
      exact er.symm
    subst this
    refine rep_pair n (by show 2 ≤ sizeLine; decide) (Reps.cons ?_ (Reps.cons (ra.move ka kb) Reps.nil))
    rw [Nat.zero_add]
    exact rep_int
variable {e e2 : Expr} {p pos tpos : Pos} {elts : List Expr} {kk : Nat}
theorem di_zip2 {b : Bool} {fs : List (FE C)} (hK : X.K = g.K) (hg : Gl X "zip") (hm : X.mg "zip" = none) (ha : PA X [e, e2] (tA g b (seqA fs)))
    (hs : starEach [e, e2] X.env = (false, eval e X.env) :: starEach [e2] X.env := by rfl) (hpl : (backTo pos (starEach [e2] X.env)).any (·.1) = false := by rfl) :
    PI X (.Tuple elts kk tpos) (.Call (.Name "zip" p) [e, e2] [] pos) (tI g b (iBlt zip2P fs)) :=
  (pi_zip2 hg hm ha hs hpl).weak fun σ H R ⟨ρ, c, ei, hd, q⟩ => ⟨ρ, c, ei, hd, (GoX.bind q).mono fun xs c1 H1 k hd1 w vs rs => by
    obtain ⟨z, ez, w3⟩ := go_opt w
    have ei1 := ei.kp hd k
    unfold zip2P at ez
    split at ez
    · rename_i x y
      cases e1 : items x with
      | none => rw [e1] at ez; cases ez
      | some xs =>
        cases e2 : items y with
        | none => rw [e1, e2] at ez; cases ez
        | some ys =>
          rw [e1, e2] at ez
          cases ez
          unfold RepBs at rs
          obtain ⟨v, r, rfl, h1, rs⟩ := rs
          unfold RepBs at rs
          obtain ⟨w', r, rfl, h2, rs⟩ := rs
          unfold RepBs at rs
          subst rs
          obtain ⟨k1, vs1, rfl, s1⟩ := src_is ei1 hd1 h1 e1
          obtain ⟨k2, vs2, rfl, s2⟩ := src_is ei1 hd1 h2 e2
          obtain ⟨L1, p1, q1⟩ := s1.pins
          obtain ⟨L2', p2, q2⟩ := s2.pins
          rw [hK]
          exact ⟨k1, k2, vs1, vs2, rfl, q1 H1 (fun q hq => (p1 q hq).1) 0, q2 H1 (fun q hq => (p2 q hq).1) 0, fun t1 t2 => w3 H1 Kp.refl hd1 _ (gw_zip2 s1 s2 t1 t2)⟩
    · cases ez⟩
theorem di_en {b : Bool} {fs : List (FE C)} (hK : X.K = g.K) (hg : Gl X "enumerate") (hm : X.mg "enumerate" = none) (ha : PA X [e] (tA g b (seqA fs))) (hs : starEach [e] X.env = [(false, eval e X.env)] := by rfl) :
    PI X (.Tuple elts kk tpos) (.Call (.Name "enumerate" p) [e] [] pos) (tI g b (iBlt enP fs)) :=
  (pi_en hg hm ha hs).weak fun σ H R ⟨ρ, c, ei, hd, q⟩ => ⟨ρ, c, ei, hd, (GoX.bind q).mono fun xs c1 H1 k hd1 w vs rs => by
    obtain ⟨z, ez, w3⟩ := go_opt w
    have ei1 := ei.kp hd k
    unfold enP at ez
    split at ez
    · rename_i x
      cases e1 : items x with
      | none => rw [e1] at ez; cases ez
      | some xs =>
        rw [e1] at ez
        cases ez
        unfold RepBs at rs
        obtain ⟨v, r, rfl, h1, rs⟩ := rs
        unfold RepBs at rs
        subst rs
        obtain ⟨k1, vs1, rfl, s1⟩ := src_is ei1 hd1 h1 e1
        obtain ⟨L1, p1, q1⟩ := s1.pins
        rw [hK]
        exact ⟨k1, vs1, rfl, q1 H1 (fun q hq => (p1 q hq).1) 0, fun t1 => w3 H1 Kp.refl hd1 _ (gw_en s1 t1)⟩
    · cases ez⟩
/-! ### the register: a list of two ints that goes on through calls -/
abbrev Cup := Int × Int
def cupR (a0 : Addr) : Rg Cup where
  T := fun n v => n = 0 ∧ v = .ref a0
  rg := fun a => a = a0
  held := fun c H => H a0 = some (.lst [.int c.1, .int c.2])
  hmut := fun c H a h e => by subst e; rw [h]; trivial
  hloc := fun c H H' h k => by rw [k a0 rfl]; exact h
theorem cup_of {g : Fx Cup} {a0 : Addr} (hr : g.r = cupR a0) {ρ : PEnv} {σ : L2.St} {H : Hp} {v : V} (h : Rep g.K g.r.T (Ad g ρ σ) H (.reg 0) v) : v = .ref a0 := by
  unfold Rep at h
  rw [hr] at h
  exact h.2
def isReg : Vl → Option Unit
  | .reg 0 => some ()
  | _ => none
def cupGet (k : Nat) : M Cup Vl := fun c => .ok (.int (if k = 0 then c.1 else c.2), c)
def fReg (i k : Nat) : FE Cup := fun ρ => bnd (opt (look ρ i)) fun x => bnd (opt (isReg x)) fun _ => cupGet k
/-- cup[k] -/
theorem de_reg {g : Fx Cup} {a0 : Addr} {i k : Nat} {x : Str} {p j p2} (hK : X.K = g.K) (hr : g.r = cupR a0) (hN : X.N[i]? = some x) (hv : Vis X.env.scope x) (ho : g.own i = false) (hk : k < 2) (hs : PlainIx (.Constant (.int (k : Int)) j p2)) (hd : (x == ("__debug__" : Str)) = false := by decide) (hcd : (x == ("__classdict__" : Str)) = false := by decide) :
    PE X (.Subscript (.Name x p) (.Constant (.int (k : Int)) j p2) pos) (tE g true (fReg i k)) :=
  (pe_ix ix_list (pe_var hN hv hd hcd) pe_int hs).weak fun σ H Q ⟨ρ, c, ei, hd, q⟩ => by
    obtain ⟨y, ey, q1⟩ := GoX.optAt q
    obtain ⟨_, er, q2⟩ := GoX.optAt q1
    obtain ⟨v, e1, r⟩ := ei.slot i y (look_some ey)
    rw [if_neg (by rw [ho]; exact Bool.false_ne_true)] at r
    have ey : y = .reg 0 := by
      unfold isReg at er
      split at er
      · rfl
      · cases er
    subst ey
    have ev := cup_of hr r
    subst ev
    have hh : H a0 = some (.lst [.int c.1, .int c.2]) := by
      rw [hr] at hd
      exact hd
    have q3 := q2 H Kp.refl hd (.int (if k = 0 then c.1 else c.2)) (RepB.of rep_int)
    refine ⟨.ref a0, e1, a0, _, _, .int (if k = 0 then c.1 else c.2), rfl, rfl, SqL.of hh, ?_, q3⟩
    match k, hk with
    | 0, _ => rfl
    | 1, _ => rfl
def cupSet (k : Nat) (x : Vl) : M Cup Unit := fun c => match x with
  | .int n => .ok ((), if k = 0 then (n, c.2) else (c.1, n))
  | _ => .bad
/-- cup[k] = e -/
def sReg (i k : Nat) (f : FE Cup) : FS Cup := fun ρ => bnd (f ρ) fun y => bnd (opt (look ρ i)) fun x => bnd (opt (isReg x)) fun _ => bnd (cupSet k y) fun _ => ret (.nx ρ)
theorem ds_reg {g : Fx Cup} {a0 : Addr} {i k : Nat} {x : Str} {f : FE Cup} {p0 p2 pt : Pos} {j} {b : Bool} (hK : X.K = g.K) (hr : g.r = cupR a0) (hN : X.N[i]? = some x) (hv : Vis X.env.scope x) (ho : g.own i = false) (hk : k < 2) (h : PE X e (tE g b f)) (hd1 : (x == ("__debug__" : Str)) = false := by decide) (hcd : (x == ("__classdict__" : Str)) = false := by decide)
    (ha : ∀ v, assign (.Subscript (.Name x p0) (.Constant (.int (k : Int)) j p2) pt) X.env v = (do
      let ov ← holding [v] (eval (.Name x p0) X.env)
      let iv ← holding [v, ov] (eval (.Constant (.int (k : Int)) j p2) X.env)
      standAt pt
      holding [v, ov, iv] (setItem ov iv v)
      release [v, ov, iv] []) := by intro _; rfl)
    (hs : swapsWithSole [.Subscript (.Name x p0) (.Constant (.int (k : Int)) j p2) pt] e pos.line X.env = pure false := by rfl) (hw : swappedStores [.Subscript (.Name x p0) (.Constant (.int (k : Int)) j p2) pt] e X.env = pure none := by rfl)
    (h1 : (assignEach [.Subscript (.Name x p0) (.Constant (.int (k : Int)) j p2) pt] X.env).map (·.2) = [assign (.Subscript (.Name x p0) (.Constant (.int (k : Int)) j p2) pt) X.env] := by rfl) :
    PS X (.Assign [.Subscript (.Name x p0) (.Constant (.int (k : Int)) j p2) pt] e pos) (tS g (sReg i k f)) :=
  (ps_asg h (pg_sub (pe_var hN hv hd1 hcd) pe_int set_list ha) hs hw h1).weak fun D σ H ⟨ρ, c, ei, hd, q⟩ => by
    refine ⟨ρ, c, ei, hd, (GoX.bind1 (GoS.bx ei q)).mono fun y c1 H1 k1 hd1 w v rv => ?_⟩
    have ei1 := ei.kp hd k1
    obtain ⟨z, ez, w1⟩ := GoS.bo w
    obtain ⟨_, er, w2⟩ := GoS.bo w1
    obtain ⟨u, e1, r⟩ := ei1.slot i z (look_some ez)
    rw [if_neg (by rw [ho]; exact Bool.false_ne_true)] at r
    have ey : z = .reg 0 := by
      unfold isReg at er
      split at er
      · rfl
      · cases er
    subst ey
    have ev := cup_of hr r
    subst ev
    have hh : H1 a0 = some (.lst [.int c1.1, .int c1.2]) := by
      rw [hr] at hd1
      exact hd1
    cases y with
    | int n =>
      have ev := ri_int rv.i
      subst ev
      have eset : ([V.int c1.1, V.int c1.2].set k (.int n)) = [V.int (if k = 0 then (n, c1.2) else (c1.1, n)).1, V.int (if k = 0 then (n, c1.2) else (c1.1, n)).2] := by
        match k, hk with
        | 0, _ => rfl
        | 1, _ => rfl
      have hd2 : g.r.held (if k = 0 then (n, c1.2) else (c1.1, n)) (upd H1 a0 (.lst ([V.int c1.1, V.int c1.2].set k (.int n)))) := by
        rw [hr, eset]
        exact upd_same
      have kp : Kp g.r.rg H1 (upd H1 a0 (.lst ([V.int c1.1, V.int c1.2].set k (.int n)))) := fun a u e nr => by
        have ne : a ≠ a0 := fun z => nr (by rw [hr]; exact z)
        rw [upd_ne ne]
        exact e
      refine ⟨.ref a0, e1, a0, _, _, k, rfl, rfl, hh, ?_, ?_⟩
      · match k, hk with
        | 0, _ => rfl
        | 1, _ => rfl
      · exact GoS.step (StepS.kp kp) w2 σ _ (ei1.kp hd1 kp) hd2 StepS.refl
    | _ => exact w2.elim
end
end PyA
/-! PyL: a, b = x, y where some of the names own their lists. -/
namespace PyA
open PySem L2
open Classical
section
variable {C : Type}
def storeF (own : Nat → Bool) : List Nat → List Vl → PEnv → Option PEnv
  | [], [], ρ => some ρ
  | i :: is, x :: xs, ρ => if own i = true ∧ ownable x = false then none else storeF own is xs (ρ.set i (some x))
  | _, _, _ => none
def sParF (own : Nat → Bool) (is : List Nat) (fs : List (FE C)) : FS C := fun ρ => bnd (seqA fs ρ) fun xs => bnd (opt (storeF own is xs ρ)) fun ρ' => ret (.nx ρ')
def setMany : L2.St → List Nat → List V → L2.St
  | σ, i :: is, v :: vs => setMany (σ.set i (some v)) is vs
  | σ, _, _ => σ
def fOwn (f : FE C) : FE C := fun ρ => bnd (f ρ) fun x => if ownable x = true then ret x else bad
def fCallF (F : List Vl → M Unit Vl) (fs : List (FE C)) : FE C := fun ρ => bnd (seqA fs ρ) fun xs => if imms xs = true then lif (F xs) else bad
variable {X : Cx} {g : Fx C} {e a b : Expr} {es : List Expr} {pos p : Pos} {n : Nat} {ρ ρ' : PEnv} {σ σ' : L2.St} {H H' H1 : Hp} {cc : C} {D : Ends}
/-- what is new since H -/
def tF (g : Fx C) (f : FE C) : TE := fun σ H Q => ∃ ρ c, EI g ρ σ H ∧ g.r.held c H ∧ GoX g H (f ρ c) fun x _ H' => ∀ v, Rep g.K g.r.T (fun a => H a = none) H' x v → Q v H'
theorem df_imm {bb : Bool} {f : FE C} (h : PE X e (tE g bb f)) : PE X e (tF g (fImm f)) := h.weak fun σ H Q ⟨ρ, c, ei, hd, q⟩ =>
  ⟨ρ, c, ei, hd, (GoX.bind q).mono fun x c1 H1 k hd1 w v r => by
    by_cases i : imm x = true
    · rw [if_pos i] at w
      exact GoX.ret hd1 w v (rep_imm i r.i)
    · rw [if_neg i] at w
      exact w.elim⟩
theorem df_new {f : FE C} (h : PE X e (tN g f)) : PE X e (tF g (fOwn f)) := h.weak fun σ H Q ⟨ρ, c, ei, hd, q⟩ =>
  ⟨ρ, c, ei, hd, (GoX.bind q).mono fun x c1 H1 k hd1 w v r => by
    by_cases i : ownable x = true
    · rw [if_pos i] at w
      refine GoX.ret hd1 w v ?_
      cases x with
      | lst xs =>
        unfold RepN at r
        unfold Rep
        obtain ⟨p, vs, e, n, q, l, rs⟩ := r
        exact ⟨p, vs, e, n, q, l, Reps.imm _ _ i rs⟩
      | dk ks xs =>
        unfold RepN at r
        unfold Rep
        obtain ⟨p, vs, e, n, q, l, m, rs⟩ := r
        exact ⟨p, vs, e, n, q, l, m, Reps.imm _ _ i rs⟩
      | _ => cases i
    · rw [if_neg i] at w
      exact w.elim⟩
theorem df_call {CX : CXT} {k : Nat} {f : Addr} {fd : FuncData} {ps : List Str} {x : Str} {F : List Vl → M Unit Vl} {fs : List (FE C)} {bb : Bool} (hK : X.K = g.K) (hm' : X.mg = g.mg) (G : FnOk X.prog X.w X.K X.mg X.base CX k f fd ps (spM X.K X.mg n rg0 F)) (hr : Room k X.A) (hg : Gl X x) (hm : X.mg x = some (.ref f)) (hk : PySem.W.keepIn X.K (.ref f) = true) (hb : Binds X.K fd ps [])
    (hx : Passes CX X g.EX) (hl : fs.length = n) (ha : PA X (e :: es) (tA g bb (seqA fs))) (hdb : (x == ("__debug__" : Str)) = false := by decide) (he : starEach (e :: es) X.env = (false, eval e X.env) :: starEach es X.env := by rfl)
    (hpl : (backTo pos (starEach es X.env)).any (·.1) = false := by rfl) : PE X (.Call (.Name x p) (e :: es) [] pos) (tF g (fCallF F fs)) :=
  (pe_call G hr hg hm hk hb .nil hx ha hdb he hpl).weak fun σ H Q ⟨ρ, c, ei, hd, q⟩ => by
    rw [hm']
    refine ⟨ρ, c, ei, hd, (GoX.bind q).len.mono fun xs c1 H1 k hd1 w vs rs => ?_⟩
    obtain ⟨l, w⟩ := w
    rw [List.append_nil, hK]
    by_cases i : imms xs = true
    · rw [if_pos i] at w
      refine ⟨g.r.T, xs, fun _ => False, (), l.trans hl, reps_of_imms i rs.toIs, fun a z => z.elim, trivial, ?_⟩
      have w := lif_go w
      cases e : F xs () with
      | ok r =>
        rw [e] at w
        exact fun v H' k2 _ rr => w H' (Kp.of (same_of_kp0 k2)) (Rg.same hd1 (same_of_kp0 k2)) v (rr.move (fun a u e _ => e) fun a _ _ z => k.none hd1 (z.elim (fun z => z.elim) fun z => z))
      | ex nm =>
        rw [e] at w
        exact fun H' k2 => w H' (Kp.of (same_of_kp0 k2))
      | bad =>
        rw [e] at w
        exact w
    · rw [if_neg i] at w
      exact w.elim
/-- each of them new, none with places of another -/
def FrA (g : Fx C) (H H' : Hp) (xs : List Vl) (vs : List V) : Prop := vs.length = xs.length ∧ ∃ S : Nat → Addr → Prop, (∀ i x v, xs[i]? = some x → vs[i]? = some v → Rep g.K g.r.T (S i) H' x v) ∧ (∀ i a, S i a → H a = none) ∧ ∀ i j a, i ≠ j → S i a → ¬ S j a
def tAF (g : Fx C) (fs : List (FE C)) : TA := fun σ H Q => ∃ ρ c, EI g ρ σ H ∧ g.r.held c H ∧ GoX g H (seqA fs ρ c) fun xs _ H' => ∀ vs, FrA g H H' xs vs → Q vs H'
theorem daf_nil : PA X [] (tAF g []) := pa_nil.weak fun σ H Q ⟨ρ, c, ei, hd, q⟩ => GoX.ret hd q [] ⟨rfl, fun _ _ => False, fun i x v e => by simp at e, fun _ _ z => z.elim, fun _ _ _ _ z => z.elim⟩
theorem daf_cons {fe : FE C} {fs : List (FE C)} (he : PE X e (tF g fe)) (hr : PA X es (tAF g fs)) (hs : starEach (e :: es) X.env = (false, eval e X.env) :: starEach es X.env := by rfl) : PA X (e :: es) (tAF g (fe :: fs)) :=
  (pa_cons he hr hs).weak fun σ H Q ⟨ρ, c, ei, hd, q⟩ => ⟨ρ, c, ei, hd, (GoX.bind q).mono fun x c1 H1 k hd1 w v rv => ⟨ρ, c1, ei.kp hd k, hd1, (GoX.bind w).mono fun xs c2 H2 k2 hd2 w2 vs ⟨ln, S, s1, s2, s3⟩ =>
    GoX.ret hd2 w2 (v :: vs) ⟨congrArg Nat.succ ln, fun i a => match i with
      | 0 => H a = none ∧ H1 a ≠ none
      | i + 1 => S i a, fun i y u ey eu => by
        cases i with
        | zero =>
          cases ey
          cases eu
          refine Rep.move (A := fun a => H a = none ∧ H1 a ≠ none) (fun a z e m => ?_) (fun a z e q => q) _ _ (Rep.move (A := fun a => H a = none) (A' := fun a => H a = none ∧ H1 a ≠ none) (fun a z e _ => e) (fun a z e q => ⟨q, by rw [e]; simp⟩) _ _ rv)
          by_cases zz : g.r.rg a
          · have mu := g.r.hmut c1 H1 a hd1 zz
            rw [e] at mu
            exact absurd zz (rg_some hd (m mu).1)
          · exact k2 a z e zz
        | succ i => exact s1 i y u ey eu, fun i a z => by
        cases i with
        | zero => exact z.1
        | succ i => exact k.none hd1 (s2 i a z), fun i j a ne zi zj => by
        cases i with
        | zero =>
          cases j with
          | zero => exact ne rfl
          | succ j => exact zi.2 (s2 j a zj)
        | succ i =>
          cases j with
          | zero => exact zj.2 (s2 i a zi)
          | succ j => exact s3 i j a (fun z => ne (congrArg Nat.succ z)) zi zj⟩⟩⟩
/-- the frame in which the places R are none of the def's -/
noncomputable abbrev Fx.hid (g : Fx C) (R : Addr → Prop) (H : Hp) : Fx C := ⟨g.K, g.r, g.own, fun a => g.A a ∧ ¬ R a, fun a => if R a then H a else g.H0 a, g.mg, g.EX⟩
theorem ad_hid {R : Addr → Prop} {u : HO} {a : Addr} (hu : H a = some u) : Ad (g.hid R H) ρ σ a ↔ Ad g ρ σ a ∧ ¬ R a := by
  constructor
  · rintro ⟨⟨h1, h2⟩, h3⟩
    have nr : ¬ R a := by
      rcases h1 with h1 | h1
      · exact h1.2
      · intro z
        have h1 : (if R a then H a else g.H0 a) = none := h1
        rw [if_pos z, hu] at h1
        cases h1
    refine ⟨⟨⟨?_, h2⟩, h3⟩, nr⟩
    rcases h1 with h1 | h1
    · exact .inl h1.1
    · have h1 : (if R a then H a else g.H0 a) = none := h1
      rw [if_neg nr] at h1
      exact .inr h1
  · rintro ⟨⟨⟨h1, h2⟩, h3⟩, nr⟩
    refine ⟨⟨?_, h2⟩, h3⟩
    rcases h1 with h1 | h1
    · exact .inl ⟨h1, nr⟩
    · exact .inr (show (if R a then H a else g.H0 a) = none by rw [if_neg nr]; exact h1)
theorem EI.hid {R : Addr → Prop} (ei : EI g ρ σ H) (hd : g.r.held cc H) (hR : ∀ a, R a → H a = none) (k : Kp g.r.rg H H') : EI (g.hid R H') ρ σ H' := by
  have nR : ∀ a u, H a = some u → ¬ R a := fun a u e z => by rw [hR a z] at e; cases e
  have kk : ∀ a u, H a = some u → (Mut (some u) → Ad g ρ σ a) → H' a = some u := Ad.keeps hd k
  refine ⟨ei.len, fun a u e nr => ?_, fun i x e => ?_, ei.dist⟩
  · by_cases z : R a
    · have e : (if R a then H' a else g.H0 a) = some u := e
      rw [if_pos z] at e
      exact e
    · have e : (if R a then H' a else g.H0 a) = some u := e
      rw [if_neg z] at e
      exact k a u (ei.keep a u e nr) nr
  · obtain ⟨v, e1, h⟩ := ei.slot i x e
    refine ⟨v, e1, ?_⟩
    have mv : ∀ {y : Vl} {w : V}, Rep g.K g.r.T (Ad g ρ σ) H y w → Rep g.K g.r.T (Ad (g.hid R H') ρ σ) H' y w := fun {y w} r =>
      (Rep.move (A' := fun a => Ad g ρ σ a ∧ ¬ R a) kk (fun a u e z => ⟨z, nR a u e⟩) _ _ r).move (fun a u e _ => e) fun a u e z => (ad_hid e).mpr z
    have mvs : ∀ {y : List Vl} {w : List V}, Reps g.K g.r.T (Ad g ρ σ) H y w → Reps g.K g.r.T (Ad (g.hid R H') ρ σ) H' y w := fun {y w} r =>
      (Reps.move (A' := fun a => Ad g ρ σ a ∧ ¬ R a) kk (fun a u e z => ⟨z, nR a u e⟩) _ _ r).move (fun a u e _ => e) fun a u e z => (ad_hid e).mpr z
    by_cases o : g.own i = true
    · rw [if_pos o] at h
      rw [if_pos (show (g.hid R H').own i = true from o)]
      cases x with
      | lst xs =>
        unfold OwnAt at h ⊢
        obtain ⟨p, vs, e2, n0, nr, q, l, r⟩ := h
        refine ⟨p, vs, e2, ?_, nr, k _ _ q nr, l, mvs r⟩
        show (if R p then H' p else g.H0 p) = none
        rw [if_neg (nR p _ q)]
        exact n0
      | dk ks xs =>
        unfold OwnAt at h ⊢
        obtain ⟨p, vs, e2, n0, nr, q, l, m, r⟩ := h
        refine ⟨p, vs, e2, ?_, nr, k _ _ q nr, l, fine_m m fun a u e nm => k a u e fun z => nm (e ▸ g.r.hmut _ _ _ hd z), mvs r⟩
        show (if R p then H' p else g.H0 p) = none
        rw [if_neg (nR p _ q)]
        exact n0
      | _ => exact h
    · rw [if_neg o] at h
      rw [if_neg (show ¬ (g.hid R H').own i = true from o)]
      exact mv h
/-- one store: what was hidden comes into the name's own -/
theorem EI.put {R R' : Addr → Prop} {S : Addr → Prop} {i : Nat} {x : Vl} {v : V} (ei : EI (g.hid R H) ρ σ H) (hd : g.r.held cc H) (hR0 : ∀ a, R a → g.H0 a = none) (hRS : ∀ a, R' a → R a) (hS : ∀ a, S a → R a ∧ ¬ R' a ∧ g.H0 a = none ∧ ¬ Own g ρ σ a) (r : Rep g.K g.r.T S H x v) (ho : g.own i = true → ownable x = true) (nrg : ∀ a, S a → ¬ g.r.rg a) :
    EI (g.hid R' H) (ρ.set i (some x)) (σ.set i (some v)) H ∧ ∀ a, Own g (ρ.set i (some x)) (σ.set i (some v)) a → Own g ρ σ a ∨ S a := by
  have hl0 : ∀ {y w : Option Vl}, (ρ.set i y)[i]? = some w → i < ρ.length := fun {y w} e => by
    by_cases hl : i < ρ.length
    · exact hl
    · rw [List.getElem?_eq_none (by rw [List.length_set]; omega)] at e
      cases e
  -- the new place, where the name owns
  have pS : g.own i = true → ∀ q, v = .ref q → S q := fun o q e => by
    have i2 := ho o
    cases x with
    | lst xs => unfold Rep at r; obtain ⟨p, vs, e2, s, _⟩ := r; rw [e] at e2; cases e2; exact s
    | dk ks xs => unfold Rep at r; obtain ⟨p, vs, e2, s, _⟩ := r; rw [e] at e2; cases e2; exact s
    | _ => cases i2
  have ow : ∀ a, Own g (ρ.set i (some x)) (σ.set i (some v)) a → Own g ρ σ a ∨ S a := fun a ⟨j, y, o, e1, e2⟩ => by
    by_cases hj : i = j
    · subst hj
      have hl : i < σ.length := by
        by_cases hl : i < σ.length
        · exact hl
        · rw [List.getElem?_eq_none (by rw [List.length_set]; omega)] at e2
          cases e2
      rw [List.getElem?_set_self hl] at e2
      exact .inr (pS o a (Option.some.inj (Option.some.inj e2)))
    · rw [List.getElem?_set_ne hj] at e1 e2
      exact .inl ⟨j, y, o, e1, e2⟩
  have mv : ∀ a u, H a = some u → Ad (g.hid R H) ρ σ a → Ad (g.hid R' H) (ρ.set i (some x)) (σ.set i (some v)) a := fun a u e z => by
    obtain ⟨z1, z2⟩ := (ad_hid e).mp z
    exact (ad_hid e).mpr ⟨⟨z1.1, fun y => (ow a y).elim z1.2 fun s => z2 (hS a s).1⟩, fun y => z2 (hRS a y)⟩
  refine ⟨⟨by rw [List.length_set, List.length_set]; exact ei.len, fun a u e nr => ?_, fun j y e => ?_, fun j l y z p oj ol e1 e2 e3 e4 => ?_⟩, ow⟩
  · by_cases z : R' a
    · have e : (if R' a then H a else g.H0 a) = some u := e
      rw [if_pos z] at e
      exact e
    · have e : (if R' a then H a else g.H0 a) = some u := e
      rw [if_neg z] at e
      by_cases zr : R a
      · rw [hR0 a zr] at e
        cases e
      · have q : (if R a then H a else g.H0 a) = some u → ¬ g.r.rg a → H a = some u := ei.keep a u
        rw [if_neg zr] at q
        exact q e nr
  · by_cases hj : i = j
    · subst hj
      have hl := hl0 e
      rw [List.getElem?_set_self hl] at e
      cases e
      refine ⟨v, by rw [List.getElem?_set_self (by rw [← ei.len]; exact hl)], ?_⟩
      by_cases o : g.own i = true
      · rw [if_pos (show (g.hid R' H).own i = true from o)]
        have i2 := ho o
        cases x with
        | lst xs =>
          unfold Rep at r
          unfold OwnAt
          obtain ⟨p, vs, e2, s, h, l, rs⟩ := r
          refine ⟨p, vs, e2, ?_, nrg p s, h, l, Reps.imm _ _ i2 rs⟩
          show (if R' p then H p else g.H0 p) = none
          rw [if_neg (hS p s).2.1]
          exact (hS p s).2.2.1
        | dk ks xs =>
          unfold Rep at r
          unfold OwnAt
          obtain ⟨p, vs, e2, s, h, l, m, rs⟩ := r
          refine ⟨p, vs, e2, ?_, nrg p s, h, l, m, Reps.imm _ _ i2 rs⟩
          show (if R' p then H p else g.H0 p) = none
          rw [if_neg (hS p s).2.1]
          exact (hS p s).2.2.1
        | _ => cases i2
      · rw [if_neg (show ¬ (g.hid R' H).own i = true from o)]
        have oF : g.own i = false := by
          cases h : g.own i with
          | true => exact absurd h o
          | false => rfl
        refine r.move (fun _ _ e _ => e) fun a u e z => (ad_hid e).mpr ⟨⟨⟨.inr (hS a z).2.2.1, nrg a z⟩, fun y => (hS a z).2.2.2 ((own_set oF).mp y)⟩, (hS a z).2.1⟩
    · rw [List.getElem?_set_ne hj] at e
      obtain ⟨w, e1, h⟩ := ei.slot j y e
      refine ⟨w, by rw [List.getElem?_set_ne hj]; exact e1, ?_⟩
      by_cases o : g.own j = true
      · rw [if_pos (show (g.hid R H).own j = true from o)] at h
        rw [if_pos (show (g.hid R' H).own j = true from o)]
        cases y with
        | lst ys =>
          unfold OwnAt at h ⊢
          obtain ⟨p, vs, e3, n, nr, hq, l, r⟩ := h
          refine ⟨p, vs, e3, ?_, nr, hq, l, r.move (fun _ _ e _ => e) mv⟩
          have n : (if R p then H p else g.H0 p) = none := n
          show (if R' p then H p else g.H0 p) = none
          by_cases zr : R p
          · rw [if_pos zr, hq] at n
            cases n
          · rw [if_neg zr] at n
            rw [if_neg fun z => zr (hRS p z)]
            exact n
        | dk ks ys =>
          unfold OwnAt at h ⊢
          obtain ⟨p, vs, e3, n, nr, hq, l, m, r⟩ := h
          refine ⟨p, vs, e3, ?_, nr, hq, l, m, r.move (fun _ _ e _ => e) mv⟩
          have n : (if R p then H p else g.H0 p) = none := n
          show (if R' p then H p else g.H0 p) = none
          by_cases zr : R p
          · rw [if_pos zr, hq] at n
            cases n
          · rw [if_neg zr] at n
            rw [if_neg fun z => zr (hRS p z)]
            exact n
        | _ => exact h
      · rw [if_neg (show ¬ (g.hid R H).own j = true from o)] at h
        rw [if_neg (show ¬ (g.hid R' H).own j = true from o)]
        exact h.move (fun _ _ e _ => e) mv
  · have sm : ∀ m w, g.own m = true → ρ[m]? = some (some w) → σ[m]? = some (some (.ref p)) → ¬ S p := fun m w om e1 e2 z => (hS p z).2.2.2 ⟨m, w, om, e1, e2⟩
    have self : ∀ m, i = m → g.own m = true → (σ.set i (some v))[m]? = some (some (.ref p)) → S p := fun m hm om e => by
      subst hm
      have hs : i < σ.length := by
        by_cases hl : i < σ.length
        · exact hl
        · rw [List.getElem?_eq_none (by rw [List.length_set]; omega)] at e
          cases e
      rw [List.getElem?_set_self hs] at e
      exact pS om p (Option.some.inj (Option.some.inj e))
    by_cases hj : i = j
    · by_cases hl : i = l
      · exact hj.symm.trans hl
      · rw [List.getElem?_set_ne hl] at e2 e4
        exact absurd (self j hj oj e3) (sm l z ol e2 e4)
    · rw [List.getElem?_set_ne hj] at e1 e3
      by_cases hl : i = l
      · exact absurd (self l hl ol e4) (sm j y oj e1 e3)
      · rw [List.getElem?_set_ne hl] at e2 e4
        exact ei.dist j l y z p oj ol e1 e2 e3 e4
theorem put_many : ∀ (is : List Nat) (xs : List Vl) (vs : List V) (ρ ρ' : PEnv) (σ : L2.St) (S : Nat → Addr → Prop), EI (g.hid (fun a => ∃ j, S j a) H) ρ σ H → g.r.held cc H → vs.length = xs.length → (∀ i x v, xs[i]? = some x → vs[i]? = some v → Rep g.K g.r.T (S i) H x v) →
    (∀ i a, S i a → g.H0 a = none ∧ ¬ g.r.rg a ∧ ¬ Own g ρ σ a) → (∀ i j a, i ≠ j → S i a → ¬ S j a) → storeF g.own is xs ρ = some ρ' →
    EI g ρ' (setMany σ is vs) H ∧ ∀ a, Own g ρ' (setMany σ is vs) a → Own g ρ σ a ∨ ∃ j, S j a
  | [], [], vs, ρ, ρ', σ, S, ei, hd, hl, hr, hS, dj, hs => by
    cases hs
    have e : setMany σ [] vs = σ := by cases vs <;> rfl
    rw [e]
    refine ⟨?_, fun a z => .inl z⟩
    -- nothing more is hidden that a name could show
    refine ⟨ei.len, fun a u ea nr => ?_, fun i x ex => ?_, ei.dist⟩
    · have nR : ¬ ∃ j, S j a := fun ⟨j, z⟩ => by rw [(hS j a z).1] at ea; cases ea
      exact ei.keep a u (show (if ∃ j, S j a then H a else g.H0 a) = some u by rw [if_neg nR]; exact ea) nr
    · obtain ⟨v, e1, h⟩ := ei.slot i x ex
      refine ⟨v, e1, ?_⟩
      have mv : ∀ a u, H a = some u → Ad (g.hid (fun a => ∃ j, S j a) H) ρ σ a → Ad g ρ σ a := fun a u e z => ((ad_hid e).mp z).1
      by_cases o : g.own i = true
      · rw [if_pos (show (g.hid (fun a => ∃ j, S j a) H).own i = true from o)] at h
        rw [if_pos o]
        cases x with
        | lst ys =>
          unfold OwnAt at h ⊢
          obtain ⟨p, vs, e3, n, nr, hq, l, r⟩ := h
          refine ⟨p, vs, e3, ?_, nr, hq, l, r.move (fun _ _ e _ => e) mv⟩
          have n : (if ∃ j, S j p then H p else g.H0 p) = none := n
          by_cases zr : ∃ j, S j p
          · rw [if_pos zr, hq] at n
            cases n
          · rw [if_neg zr] at n
            exact n
        | dk ks ys =>
          unfold OwnAt at h ⊢
          obtain ⟨p, vs, e3, n, nr, hq, l, m, r⟩ := h
          refine ⟨p, vs, e3, ?_, nr, hq, l, m, r.move (fun _ _ e _ => e) mv⟩
          have n : (if ∃ j, S j p then H p else g.H0 p) = none := n
          by_cases zr : ∃ j, S j p
          · rw [if_pos zr, hq] at n
            cases n
          · rw [if_neg zr] at n
            exact n
        | _ => exact h
      · rw [if_neg (show ¬ (g.hid (fun a => ∃ j, S j a) H).own i = true from o)] at h
        rw [if_neg o]
        exact h.move (fun _ _ e _ => e) mv
  | [], _ :: _, _, _, _, _, _, _, _, _, _, _, _, hs => by cases hs
  | _ :: _, [], _, _, _, _, _, _, _, _, _, _, _, hs => by cases hs
  | i :: is, x :: xs, [], _, _, _, _, _, _, hl, _, _, _, _ => by cases hl
  | i :: is, x :: xs, v :: vs, ρ, ρ', σ, S, ei, hd, hl, hr, hS, dj, hs => by
    have hs : (if g.own i = true ∧ ownable x = false then none else storeF g.own is xs (ρ.set i (some x))) = some ρ' := hs
    split at hs
    · cases hs
    · rename_i ho
      have ho : g.own i = true → ownable x = true := fun o => by
        cases h : ownable x with
        | true => rfl
        | false => exact absurd ⟨o, h⟩ ho
      obtain ⟨e1, ow⟩ := EI.put (R' := fun a => ∃ j, S (j + 1) a) (S := S 0) ei hd (fun a ⟨j, z⟩ => (hS j a z).1) (fun a ⟨j, z⟩ => ⟨j + 1, z⟩) (fun a z => ⟨⟨0, z⟩, fun ⟨j, w⟩ => dj 0 (j + 1) a (by omega) z w, (hS 0 a z).1, (hS 0 a z).2.2⟩) (hr 0 x v rfl rfl) ho fun a z => (hS 0 a z).2.1
      obtain ⟨e2, ow2⟩ := put_many is xs vs (ρ.set i (some x)) ρ' (σ.set i (some v)) (fun j => S (j + 1)) e1 hd (Nat.succ.inj hl) (fun j y u ey eu => hr (j + 1) y u ey eu) (fun j a z => ⟨(hS (j + 1) a z).1, (hS (j + 1) a z).2.1, fun o => (ow a o).elim (hS (j + 1) a z).2.2 fun w => dj 0 (j + 1) a (by omega) w z⟩) (fun j l a ne => dj (j + 1) (l + 1) a (by omega)) hs
      exact ⟨e2, fun a z => (ow2 a z).elim (fun o => (ow a o).elim .inl fun w => .inr ⟨0, w⟩) fun ⟨j, w⟩ => .inr ⟨j + 1, w⟩⟩
/-- the stores behind the new values -/
theorem parF_ok {is : List Nat} {fs : List (FE C)} {c : C} (ei : EI g ρ σ H) (hd : g.r.held c H) (q : GoS g ρ σ H (sParF g.own is fs ρ c) D) : GoX g H (seqA fs ρ c) fun xs c1 H1 => ∀ vs, FrA g H H1 xs vs → vs.length = is.length ∧ ∀ H2, Same H1 H2 → D.nx (setMany σ is vs) H2 := by
  have go : GoX g H (seqA fs ρ c) fun xs c1 H1 => GoS g ρ σ H (bnd (opt (storeF g.own is xs ρ)) (fun ρ' => ret (.nx ρ')) c1) D := by
    have q' : GoS g ρ σ H (bnd (seqA fs ρ) (fun xs => bnd (opt (storeF g.own is xs ρ)) fun ρ' => ret (.nx ρ')) c) D := q
    unfold bnd at q'
    cases e : seqA fs ρ c with
    | ok r => rw [e] at q'; exact fun H' kp hd => q'
    | ex n => rw [e] at q'; exact fun H' kp => q' H' (ei.keep.trans kp)
    | bad => rw [e] at q'; exact q'
  refine go.mono fun xs c1 H1 k hd1 w vs ⟨ln, S, s1, s2, s3⟩ => ?_
  obtain ⟨ρ', es, w2⟩ := GoS.bo w
  have lens : ∀ (is : List Nat) (xs : List Vl) (ρ ρ' : PEnv), storeF g.own is xs ρ = some ρ' → xs.length = is.length := by
    intro is
    induction is with
    | nil => intro xs ρ ρ' h; cases xs with
      | nil => rfl
      | cons _ _ => cases h
    | cons i is ih => intro xs ρ ρ' h; cases xs with
      | nil => cases h
      | cons x xs =>
        have h : (if g.own i = true ∧ ownable x = false then none else storeF g.own is xs (ρ.set i (some x))) = some ρ' := h
        split at h
        · cases h
        · exact congrArg Nat.succ (ih xs _ _ h)
  refine ⟨ln.trans (lens is xs ρ ρ' es), fun H2 sm => ?_⟩
  have hd2 := Rg.same hd1 sm
  have k2 : Kp g.r.rg H H2 := k.trans (Kp.of sm)
  have n0 : ∀ a, H a = none → g.H0 a = none := fun a n => by
    cases e : g.H0 a with
    | none => rfl
    | some u =>
      have := ei.keep a u e (rg_some hd n)
      rw [n] at this
      cases this
  obtain ⟨e1, ow⟩ := put_many is xs vs ρ ρ' σ S (ei.hid hd (fun a ⟨j, z⟩ => s2 j a z) k2) hd2 ln (fun i x v ex ev => (s1 i x v ex ev).move (fun a u e _ => sm a u e) fun _ _ _ z => z)
    (fun i a z => ⟨n0 a (s2 i a z), rg_some hd (s2 i a z), fun o => by
      obtain ⟨u, hu, _⟩ := ei.own_some o
      rw [s2 i a z] at hu
      cases hu⟩) s3 es
  exact w2 _ H2 e1 hd2 fun a u e n nr => ⟨k2 a u e nr, fun z => (ow a z).elim n fun ⟨j, w⟩ => by rw [s2 j a w] at e; cases e⟩
theorem ds_parF2 {i j : Nat} {x y : Str} {px py pt : Pos} {kt k2 pt2} {fs : List (FE C)} (hc : X.calm = true) (hN : X.N.Nodup) (hi : X.N[i]? = some x) (hj : X.N[j]? = some y) (hij : i ≠ j)
    (hx : X.env.scope.names.lookup x = some .local) (hy : X.env.scope.names.lookup y = some .local) (ha : PA X [a, b] (tAF g fs))
    (hw : swappedStores [.Tuple [.Name x px, .Name y py] kt pt] (.Tuple [a, b] k2 pt2) X.env = pure (some [x, y]))
    (hs : swapsWithSole [.Tuple [.Name x px, .Name y py] kt pt] (.Tuple [a, b] k2 pt2) pos.line X.env = pure false := by rfl) :
    PS X (.Assign [.Tuple [.Name x px, .Name y py] kt pt] (.Tuple [a, b] k2 pt2) pos) (tS g (sParF g.own [i, j] fs)) :=
  (ps_par hc hN hi hj hij hx hy ha hw hs).weak fun D σ H ⟨ρ, c, ei, hd, q⟩ => ⟨ρ, c, ei, hd, (parF_ok ei hd q).mono fun xs c1 H1 k hd1 w vs fr => by
    obtain ⟨l, w2⟩ := w vs fr
    match vs, l with
    | [u, v], _ => exact ⟨u, v, rfl, w2 H1 (Same.refl H1)⟩⟩
theorem ds_parF3 {i j l : Nat} {x y z : Str} {c0 : Expr} {px py pz pt : Pos} {kt k2 pt2} {fs : List (FE C)} (hc : X.calm = true) (hN : X.N.Nodup) (hi : X.N[i]? = some x) (hj : X.N[j]? = some y) (hl : X.N[l]? = some z) (hij : i ≠ j) (hil : i ≠ l) (hjl : j ≠ l)
    (hx : X.env.scope.names.lookup x = some .local) (hy : X.env.scope.names.lookup y = some .local) (hz : X.env.scope.names.lookup z = some .local) (ha : PA X [a, b, c0] (tAF g fs))
    (hw : swappedStores [.Tuple [.Name x px, .Name y py, .Name z pz] kt pt] (.Tuple [a, b, c0] k2 pt2) X.env = pure (some [x, y, z]))
    (hs : swapsWithSole [.Tuple [.Name x px, .Name y py, .Name z pz] kt pt] (.Tuple [a, b, c0] k2 pt2) pos.line X.env = pure false := by rfl) :
    PS X (.Assign [.Tuple [.Name x px, .Name y py, .Name z pz] kt pt] (.Tuple [a, b, c0] k2 pt2) pos) (tS g (sParF g.own [i, j, l] fs)) :=
  (ps_par3 hc hN hi hj hl hij hil hjl hx hy hz ha hw hs).weak fun D σ H ⟨ρ, c, ei, hd, q⟩ => ⟨ρ, c, ei, hd, (parF_ok ei hd q).mono fun xs c1 H1 k hd1 w vs fr => by
    obtain ⟨l, w2⟩ := w vs fr
    match vs, l with
    | [u, v, t], _ => exact ⟨u, v, t, rfl, w2 H1 (Same.refl H1)⟩⟩
/-- names as targets, whatever they own -/
def gNames : List Nat → TGs
  | [] => gNil
  | i :: is => gCons (gName i) (gNames is)
theorem gNames_ok : ∀ (is : List Nat) (vs : List V) (σ : L2.St) (H : Hp) (Q : L2.St → Hp → Prop), vs.length = is.length → Q (setMany σ is vs) H → gNames is vs σ H Q
  | [], [], _, _, _, _, q => ⟨rfl, q⟩
  | i :: is, v :: vs, σ, H, Q, l, q => ⟨v, vs, rfl, gNames_ok is vs (σ.set i (some v)) H Q (Nat.succ.inj l) q⟩
theorem ds_parFT {tgs : List Expr} {is : List Nat} {fs : List (FE C)} {kt k2 : Nat} {pt pt2 : Pos} (hK : X.K = g.K) (hc : X.calm = true) (hl : is.length ≤ sizeLine) (ha : PA X es (tAF g fs)) (hg : PGs X tgs (gNames is)) (hn : (assignEach tgs X.env).length = is.length := by rfl) (hst : (assignEach tgs X.env).findIdx? (·.1) = none := by rfl)
    (hs : swapsWithSole [.Tuple tgs kt pt] (.Tuple es k2 pt2) pos.line X.env = pure false := by rfl) (hw : swappedStores [.Tuple tgs kt pt] (.Tuple es k2 pt2) X.env = pure none := by rfl)
    (h1 : (assignEach [.Tuple tgs kt pt] X.env).map (·.2) = [assign (.Tuple tgs kt pt) X.env] := by rfl) : PS X (.Assign [.Tuple tgs kt pt] (.Tuple es k2 pt2) pos) (tS g (sParF g.own is fs)) :=
  (ps_asg (pe_tup ha) (pg_tup hc hg hn hst) hs hw h1).weak fun D σ H ⟨ρ, c, ei, hd, q⟩ => ⟨ρ, c, ei, hd, (parF_ok ei hd q).mono fun xs c1 H1 k hd1 w vs fr => by
    obtain ⟨l, w2⟩ := w vs fr
    exact ⟨by rw [l]; exact hl, fun p np => ⟨p, vs, rfl, SqT.of upd_same, l, gNames_ok is vs σ _ _ l (w2 _ (same_new np))⟩⟩⟩
end
end PyA
/-! PyM: what a program's top has left, in short; rules in the printed proofs' form. -/
namespace PyA
open PySem L2
/-- a def that keeps its promise, by its name -/
structure Has {C ι : Type} (P : Program) (w : World) (K : PySem.W.Frag) (mg : Str → Option Value) (base : Heap) (k : Nat) (x : Str) (n : Nat) (rgs : ι → Rg C) (F : List Vl → M C Vl) : Prop where
  ex : ∃ (f : Addr) (fd : FuncData) (ps : List Str), mg x = some (.ref f) ∧ PySem.W.keepIn K (.ref f) = true ∧ Binds K fd ps [] ∧ FnOk P w K mg base (L2.CX P w) k f fd ps (spM K mg n rgs F)
structure FunT (K : PySem.W.Frag) (mg : Str → Option Value) (x : Str) (st : Stmt) : Prop where
  ex : ∃ (f : Addr) (fd : FuncData), mg x = some (.ref f) ∧ Fun K x x st f fd
/-- a class of errors over ValueError -/
structure ExcT (K : PySem.W.Frag) (mg : Str → Option Value) (x : Str) : Prop where
  ex : ∃ C : Addr, mg x = some (.ref C) ∧ PySem.W.excIn K C [.type "ValueError", .type "Exception", .type "BaseException", .type "object"] "ValueError.__new__" = true ∧ PySem.W.keepIn K (.ref C) = true ∧
    PySem.W.subIn K (.ref C) (.type "BaseException") = some true ∧ PySem.W.typeIn K (.ref C) = some (.type "type")
def IntT (mg : Str → Option Value) (x : Str) (i : Int) : Prop := ∃ t, mg x = some (.int i t)
def StrT (mg : Str → Option Value) (x : Str) (z : List Nat) : Prop := ∃ t, mg x = some (.str ⟨z.toArray⟩ t)
abbrev ownL (l : List Nat) : Nat → Bool := fun i => l.contains i
section
variable {X : Cx} {C : Type} {g : Fx C} {e a b : Expr} {es : List Expr} {pos p : Pos} {n : Nat} {N : Bool}
theorem de_gint {x : Str} {i : Int} (h : IntT X.mg x i) (hg : Gl X x) (hd : (x == ("__debug__" : Str)) = false := by decide) : PE X (.Name x pos) (tE g true (fC (.int i))) := by
  obtain ⟨t, e⟩ := h
  exact de_glob (v := .int i) hg e ⟨t, rfl⟩ (fun _ _ _ => rep_int) hd
theorem de_gstr {x : Str} {z : List Nat} (h : StrT X.mg x z) (hg : Gl X x) (hd : (x == ("__debug__" : Str)) = false := by decide) : PE X (.Name x pos) (tE g true (fC (.str z))) := by
  obtain ⟨t, e⟩ := h
  exact de_glob (v := .str ⟨z.toArray⟩) hg e ⟨t, rfl⟩ (fun _ _ _ => rep_str) hd
theorem ds_rs {x m : Str} {j : Nat} {p2 p3 : Pos} (hm' : X.mg = g.mg) (hc : X.calm = true) (tk : Takes X fun cls d _ H => g.EX cls d H) (h : ExcT X.K X.mg x) (hg : Gl X x) (hdb : (x == ("__debug__" : Str)) = false := by decide) :
    PS X (.Raise (some (.Call (.Name x p) [.Constant (.str m) j p2] [] p3)) none pos) (tS g (sRaise x)) := by
  obtain ⟨C', g1, q, k, b, t⟩ := h.ex
  exact ds_raise hm' hc tk PySem.F.excBase_ValueError q g1 k (raises_own b t) hg hdb
section
variable {k : Nat} {x : Str} {ι : Type} {rgs : ι → Rg C}
theorem dc_M {F : List Vl → M C Vl} {fs : List (FE C)} (hK : X.K = g.K) (hm' : X.mg = g.mg) (G : Has X.prog X.w X.K X.mg X.base k x n rgs F) (hr : Room k X.A) (hg : Gl X x)
    (hx : Passes (L2.CX X.prog X.w) X g.EX) (j : ι) (hj : g.r = rgs j) (hl : fs.length = n) (ha : PA X (e :: es) (tA g true (seqA fs))) (hdb : (x == ("__debug__" : Str)) = false := by decide) (he : starEach (e :: es) X.env = (false, eval e X.env) :: starEach es X.env := by rfl)
    (hpl : (backTo pos (starEach es X.env)).any (·.1) = false := by rfl) : PE X (.Call (.Name x p) (e :: es) [] pos) (tE g true (fCall F fs)) := by
  obtain ⟨f, fd, ps, g1, kp, b, F'⟩ := G.ex
  exact de_callM hK hm' F' hr hg g1 kp b hx j hj hl ha hdb he hpl
theorem dc_P {F : List Vl → M Unit Vl} {fs : List (FE C)} (hK : X.K = g.K) (hm' : X.mg = g.mg) (G : Has X.prog X.w X.K X.mg X.base k x n rg0 F) (hr : Room k X.A) (hg : Gl X x)
    (hx : Passes (L2.CX X.prog X.w) X g.EX) (hl : fs.length = n) (ha : PA X (e :: es) (tA g true (seqA fs))) (hdb : (x == ("__debug__" : Str)) = false := by decide) (he : starEach (e :: es) X.env = (false, eval e X.env) :: starEach es X.env := by rfl)
    (hpl : (backTo pos (starEach es X.env)).any (·.1) = false := by rfl) : PE X (.Call (.Name x p) (e :: es) [] pos) (tE g true (fCallP F fs)) := by
  obtain ⟨f, fd, ps, g1, kp, b, F'⟩ := G.ex
  exact de_callP hK hm' F' hr hg g1 kp b hx hl ha hdb he hpl
theorem dc_I {F : List Vl → M Unit Vl} {fs : List (FE C)} {bb : Bool} (hK : X.K = g.K) (hm' : X.mg = g.mg) (G : Has X.prog X.w X.K X.mg X.base k x n rg0 F) (hr : Room k X.A) (hg : Gl X x)
    (hx : Passes (L2.CX X.prog X.w) X g.EX) (hl : fs.length = n) (ha : PA X (e :: es) (tA g bb (seqA fs))) (hdb : (x == ("__debug__" : Str)) = false := by decide) (he : starEach (e :: es) X.env = (false, eval e X.env) :: starEach es X.env := by rfl)
    (hpl : (backTo pos (starEach es X.env)).any (·.1) = false := by rfl) : PE X (.Call (.Name x p) (e :: es) [] pos) (tE g true (fImm (fCallP F fs))) := by
  obtain ⟨f, fd, ps, g1, kp, b, F'⟩ := G.ex
  exact de_callI hK hm' F' hr hg g1 kp b hx hl ha hdb he hpl
theorem dc_N {F : List Vl → M Unit Vl} {fs : List (FE C)} {bb : Bool} (hK : X.K = g.K) (hm' : X.mg = g.mg) (G : Has X.prog X.w X.K X.mg X.base k x n rg0 F) (hr : Room k X.A) (hg : Gl X x)
    (hx : Passes (L2.CX X.prog X.w) X g.EX) (hl : fs.length = n) (ha : PA X (e :: es) (tA g bb (seqA fs))) (hdb : (x == ("__debug__" : Str)) = false := by decide) (he : starEach (e :: es) X.env = (false, eval e X.env) :: starEach es X.env := by rfl)
    (hpl : (backTo pos (starEach es X.env)).any (·.1) = false := by rfl) : PE X (.Call (.Name x p) (e :: es) [] pos) (tN g (fCallN F fs)) := by
  obtain ⟨f, fd, ps, g1, kp, b, F'⟩ := G.ex
  exact de_callN hK hm' F' hr hg g1 kp b hx hl ha hdb he hpl
theorem dc_F {F : List Vl → M Unit Vl} {fs : List (FE C)} {bb : Bool} (hK : X.K = g.K) (hm' : X.mg = g.mg) (G : Has X.prog X.w X.K X.mg X.base k x n rg0 F) (hr : Room k X.A) (hg : Gl X x)
    (hx : Passes (L2.CX X.prog X.w) X g.EX) (hl : fs.length = n) (ha : PA X (e :: es) (tA g bb (seqA fs))) (hdb : (x == ("__debug__" : Str)) = false := by decide) (he : starEach (e :: es) X.env = (false, eval e X.env) :: starEach es X.env := by rfl)
    (hpl : (backTo pos (starEach es X.env)).any (·.1) = false := by rfl) : PE X (.Call (.Name x p) (e :: es) [] pos) (tF g (fCallF F fs)) := by
  obtain ⟨f, fd, ps, g1, kp, b, F'⟩ := G.ex
  exact df_call hK hm' F' hr hg g1 kp b hx hl ha hdb he hpl
end
end
section
variable {P : Program} {w : World} {K : PySem.W.Frag} {mg : Str → Option Value} {base : Heap} {N : List Str} {qual : Str} {sc : Scope} {f : Addr} {cd : Value} {A : Around} {outer : List Env} {s : Shared} {H : Hp} {E : XK}
theorem tk_cx : Takes (cxOf (L2.CX P w) P w K mg base N qual sc f cd A outer s H E) fun cls d _ H => E cls d H := takes_of rfl rfl rfl rfl
theorem px_cx : Passes (L2.CX P w) (cxOf (L2.CX P w) P w K mg base N qual sc f cd A outer s H E) E := passes_call tk_cx fun _ _ _ _ h => h
theorem po_cx : PassesOwn (model P w) (cxOf (L2.CX P w) P w K mg base N qual sc f cd A outer s H E).A (cxOf (L2.CX P w) P w K mg base N qual sc f cd A outer s H E).env (cxOf (L2.CX P w) P w K mg base N qual sc f cd A outer s H E).xe := passes_of rfl
theorem hu_cx {k : Nat} (hr : Room k A) : A.units + 65 < cLine := by
  have := hr.un
  omega
theorem hu4_cx {k : Nat} (hr : Room k A) : A.units + 64 < cLine := by
  have := hr.un
  omega
/-- the rule for a def of the text, with all that the callers want -/
theorem has_fn {C : Type} {x : Str} {st : Stmt} {ps : List Str} {n k : Nat} {ι : Type} (h : FunT K mg x st) (S : FnScope N ps (defScope st)) (rgs : ι → Rg C) (own : Nat → Bool) (fb : FS C)
    (hn : ps.length = n) (ho : ∀ i, i < n → own i = false) (hN : n ≤ N.length)
    (hb : ∀ (kV doc pm : Value) (an : Option Addr) (cdv ct : Value) (us : List Value), us.length = ps.length → bindArgs (PySem.W.fnOf x x (defArgs st) (defBody st) (defScope st) .none kV doc pm an cdv ct) ⟨us, []⟩ = pure (ps.zip us))
    (body : ∀ (f : Addr) (j : ι) (A0 : Addr → Prop) (cdv : Value) (A : Around) (outer : List Env) (s : Shared) (H : Hp) (E : XK), Room k (A.deeper (PyProof.Rows.envOfC x (defScope st) s.heap.objs.size f cdv)) →
      PSs (cxOf (L2.CX P w) P w K mg base N x (defScope st) f cdv A outer s H E) (defBody st) (tS ⟨K, rgs j, own, A0, H, mg, E⟩ fb)) : Has P w K mg base (k + 1) x n rgs (mkF N.length fb) := by
  obtain ⟨f, fd, g1, F⟩ := h.ex
  exact ⟨f, fd, ps, g1, F.kp, F.binds hb, fn_ok F S rgs own fb hn ho hN (body f)⟩
theorem has_bad {C : Type} {x : Str} {st : Stmt} {N ps : List Str} {n k : Nat} {ι : Type} (h : FunT K mg x st) (S : FnScope N ps (defScope st)) (rgs : ι → Rg C) (hn : ps.length = n)
    (hb : ∀ (kV doc pm : Value) (an : Option Addr) (cdv ct : Value) (us : List Value), us.length = ps.length → bindArgs (PySem.W.fnOf x x (defArgs st) (defBody st) (defScope st) .none kV doc pm an cdv ct) ⟨us, []⟩ = pure (ps.zip us)) :
    Has P w K mg base k x n rgs (fun _ => bad (C := C)) := by
  obtain ⟨f, fd, g1, F⟩ := h.ex
  exact ⟨f, fd, ps, g1, F.kp, F.binds hb, ⟨fun vs H Q E ⟨_, _, _, _, _, _, _, _, z⟩ => z.elim, fun A outer s H args us vs Q E _ _ _ _ ⟨_, _, _, _, _, _, _, _, z⟩ => z.elim⟩⟩
end
end PyA
/-! PyN: the law's own two defs: the one that makes the register of the script, and the law. -/
namespace PyA
open PySem L2
/-- the number that the script gives -/
def cellOf : List Int → Int
  | [] => 0
  | x :: _ => if x < 0 then -x else x
theorem cellOf_nn : ∀ ns, 0 ≤ cellOf ns
  | [] => Int.le_refl 0
  | x :: _ => by
    unfold cellOf
    split <;> omega
theorem atI_zero {α : Type} {xs : List α} {v : α} (h : xs[0]? = some v) : atI xs 0 = some v := atI_nat (j := 0) h
/-- the reading of: cell = abs((list(script) + [0])[0]) -/
def tCell (K : PySem.W.Frag) : TS := fun D σ H => ∃ a ns, σ[0]? = some (some (.ref a)) ∧ SqL K H a (ns.map V.int) ∧ ns.length ≤ 63 ∧ ∀ H1, Same H H1 → D.nx (σ.set 1 (some (.int (cellOf ns)))) H1
section
variable {X : Cx} {nl na : Str} {pos p p1 p2 p3 p4 p5 p6 p7 p8 p9 : Pos} {j0 j1}
theorem ds_cell (hN : X.N = (["script", "cell"] : List Str)) (hnd : X.N.Nodup) (hs : X.env.scope.names.lookup ("script" : Str) = some .local) (hc : X.env.scope.names.lookup ("cell" : Str) = some .local) (gl : Gl X "list") (ml : X.mg "list" = none) (ga : Gl X "abs") (ma : X.mg "abs" = none)
    (hsw : swapsWith (.Call (.Name "abs" p1) [.Subscript (.BinOp (.Call (.Name "list" p2) [.Name "script" p3] [] p4) .Add (.List [.Constant (.int 0) j0 p5] p6) p7) (.Constant (.int 0) j1 p8) p9] [] p) (some (.Name "cell" pos)) p1.line X.env = pure false := by rfl)
    {sp : Pos} (hl : sp.line = p1.line := by rfl) (hix : PlainIx (.Constant (.int 0) j1 p8) := by intro _ _; rfl) :
    PS X (.Assign [.Name "cell" pos] (.Call (.Name "abs" p1) [.Subscript (.BinOp (.Call (.Name "list" p2) [.Name "script" p3] [] p4) .Add (.List [.Constant (.int 0) j0 p5] p6) p7) (.Constant (.int 0) j1 p8) p9] [] p) sp) (tCell X.K) :=
  (ps_set (i := 1) hnd (by rw [hN]; rfl) (.inl hc) (pe_callB call_abs ga ma (by decide +kernel) (pa_cons (pe_ix ix_list (pe_op op_cat (pe_callTy call_list_of gl ml (by decide +kernel) (pa_cons (pe_var (i := 0) (by rw [hN]; rfl) (.inl hs)) pa_nil)) (pe_lst (pa_cons pe_int pa_nil))) pe_int hix) pa_nil)) (by rw [hl]; exact hsw) (.inr hc)).weak fun D σ H ⟨a, ns, e, hS, hlen, q⟩ => by
    refine ⟨.ref a, e, a, ns.map V.int, rfl, .inl hS, fun l nl => ?_⟩
    have s1 : Same H (upd H l (.lst (ns.map V.int))) := same_new nl
    refine ⟨by decide, fun z nz => ?_⟩
    have s2 : Same (upd H l (.lst (ns.map V.int))) (upd (upd H l (.lst (ns.map V.int))) z (.lst [.int 0])) := same_new nz
    have nlz : l ≠ z := fun e => by
      rw [← e, upd_same] at nz
      cases nz
    refine ⟨l, z, ns.map V.int, [.int 0], rfl, rfl, by rw [upd_ne nlz, upd_same], upd_same, by
      rw [List.length_map]
      exact Nat.le_trans (Nat.add_le_add_right hlen 1) (by decide), fun q0 nq => ?_⟩
    have s3 := same_new (o := .lst (ns.map V.int ++ [V.int 0])) nq
    match ns, q with
    | [], q => exact ⟨q0, _, 0, .int 0, rfl, rfl, SqL.of upd_same, rfl, 0, rfl, q _ (fun b o e => s3 _ _ (s2 _ _ (s1 _ _ e)))⟩
    | x :: r, q => exact ⟨q0, _, 0, .int x, rfl, rfl, SqL.of upd_same, atI_zero rfl, x, rfl, q _ (fun b o e => s3 _ _ (s2 _ _ (s1 _ _ e)))⟩
end
/-! ### the register's maker -/
def spCup (K : PySem.W.Frag) (fb : FS Unit) : Sp := fun vs H Q _ => ∃ a ns c0 c1, vs = [.ref a] ∧ SqL K H a (ns.map V.int) ∧ ns.length ≤ 63 ∧ fb [none, some (.int (cellOf ns))] () = .ok (.rt (.lst [.int c0, .int c1]), ()) ∧
  ∀ H' p, Same H H' → H p = none → H' p = some (.lst [.int c0, .int c1]) → Q (.ref p) H'
theorem EI.nil {C : Type} {g : Fx C} {σ : L2.St} {H : Hp} (k : Kp g.r.rg g.H0 H) : EI g (List.replicate σ.length none) σ H := by
  have no : ∀ (i : Nat) (x : Vl), ¬ (List.replicate σ.length (none : Option Vl))[i]? = some (some x) := fun i x e => by
    rw [List.getElem?_replicate] at e
    split at e <;> cases e
  exact ⟨List.length_replicate, k, fun i x e => absurd e (no i x), fun i j x y p _ _ e _ _ _ => absurd e (no i x)⟩
theorem reps_two {K : PySem.W.Frag} {T : Tk} {A : Addr → Prop} {H : Hp} {a b : Int} {vs : List V} (r : Reps K T A H [.int a, .int b] vs) : vs = [.int a, .int b] := by
  unfold Reps at r
  obtain ⟨u, l, rfl, r1, r⟩ := r
  unfold Reps at r
  obtain ⟨v, l, rfl, r2, r⟩ := r
  unfold Reps at r
  unfold Rep at r1 r2
  rw [r, r1, r2]
section
variable {P : Program} {w : World} {K : PySem.W.Frag} {mg : Str → Option Value} {base : Heap} {k : Nat}
theorem cup_fn {x : Str} {st s1 : Stmt} {s2 : List Stmt} {f : Addr} {fd : FuncData} (F : Fun K x x st f fd) (S : FnScope ["script", "cell"] ["script"] (defScope st)) (fb : FS Unit) (hst : defBody st = s1 :: s2)
    (h1 : ∀ (f : Addr) (cdv : Value) (A : Around) (outer : List Env) (s : Shared) (H : Hp) (E : XK), PS (cxOf (L2.CX P w) P w K mg base ["script", "cell"] x (defScope st) f cdv A outer s H E) s1 (tCell K))
    (h2 : ∀ (f : Addr) (A0 : Addr → Prop) (cdv : Value) (A : Around) (outer : List Env) (s : Shared) (H : Hp) (E : XK), Room k (A.deeper (PyProof.Rows.envOfC x (defScope st) s.heap.objs.size f cdv)) →
      PSs (cxOf (L2.CX P w) P w K mg base ["script", "cell"] x (defScope st) f cdv A outer s H E) s2 (tS ⟨K, rg0 (fun _ _ => False), ownL [], A0, H, mg, E⟩ fb)) :
    FnOk P w K mg base (L2.CX P w) (k + 1) f fd ["script"] (spCup K fb) := by
  refine F.okX S (fun vs H Q E h => ?_) (fun cdv A outer s H vs Q E hr h => ?_)
  · obtain ⟨a, ns, c0, c1, rfl, _⟩ := h
    rfl
  · obtain ⟨a, ns, c0, c1, rfl, hS, hl, e, q⟩ := h
    rw [hst]
    refine ⟨_, pss_cons (h1 f cdv A outer s H E) (h2 f (fun _ => False) cdv A outer s H E hr), a, ns, rfl, hS, hl, fun H1 sm => ?_⟩
    refine ⟨[none, some (.int (cellOf ns))], (), ?_, trivial, ?_⟩
    · exact ((EI.nil (g := ⟨K, rg0 (fun _ _ => False), ownL [], fun _ => False, H, mg, E⟩) (σ := [some (.ref a), none]) (Kp.of sm)).set (i := 1) rfl (y := some (.int (cellOf ns))) (w := some (.int (cellOf ns))) fun x ex => ⟨_, rfl, by cases ex; exact rep_int⟩)
    · rw [e]
      intro v H' kp hd r
      unfold Rep at r
      obtain ⟨p, vs, rfl, ap, hp, _, rs⟩ := r
      rw [reps_two rs] at hp
      refine q H' p (fun a u ea => kp a u ea fun z => z) ?_ hp
      rcases ap.1 with z | z
      · exact z.elim
      · exact z
/-! ### the law -/
def spLaw (K : PySem.W.Frag) : Sp := fun vs H Q _ => ∃ (a : Addr) (ns : List Int), vs = [.ref a] ∧ SqL K H a (ns.map V.int) ∧ ns.length ≤ 63 ∧ ∀ H', Q (.bl true) H'
/-- the law's first statement: the register -/
theorem ds_cup {X : Cx} {x : Str} {fb : FS Unit} {f : Addr} {fd : FuncData} {k : Nat} {p p1 p2 pos sp : Pos} {E : XK} (hN : X.N[1]? = some ("cup" : Str)) (hN0 : X.N[0]? = some ("script" : Str)) (hnd : X.N.Nodup) (hs : X.env.scope.names.lookup ("script" : Str) = some .local) (hc : Loc X.env.scope "cup") (hf : X.fn "cup" = true ∨ X.env.scope.names.lookup ("cup" : Str) = some .local)
    (F : FnOk X.prog X.w X.K X.mg X.base (L2.CX X.prog X.w) k f fd ["script"] (spCup X.K fb)) (hr : Room k X.A) (hg : Gl X x) (hm : X.mg x = some (.ref f)) (hk : PySem.W.keepIn X.K (.ref f) = true) (hb : Binds X.K fd ["script"] []) (hx : Passes (L2.CX X.prog X.w) X E)
    (hdb : (x == ("__debug__" : Str)) = false := by decide) :
    PS X (.Assign [.Name "cup" p1] (.Call (.Name x p) [.Name "script" p2] [] pos) sp) (tAsg (tCall (spCup X.K fb) [] E (tCons (tVar 0) tNil)) (gName 1)) :=
  ps_set (i := 1) hnd hN hc (pe_call F hr hg hm hk hb .nil hx (pa_cons (pe_var (i := 0) hN0 (.inl hs)) pa_nil) hdb) (by rfl) hf
theorem law_fn {x : Str} {st s1 : Stmt} {s2 : List Stmt} {N : List Str} {f : Addr} {fd : FuncData} (F : Fun K x x st f fd) (S : FnScope N ["script"] (defScope st)) (fc : FS Unit) (fb : FS Cup) (own : Nat → Bool) (hst : defBody st = s1 :: s2) (hn : 2 ≤ N.length) (ho1 : own 1 = false)
    (h1 : ∀ (f : Addr) (cdv : Value) (A : Around) (outer : List Env) (s : Shared) (H : Hp) (E : XK), Room k (A.deeper (PyProof.Rows.envOfC x (defScope st) s.heap.objs.size f cdv)) →
      PS (cxOf (L2.CX P w) P w K mg base N x (defScope st) f cdv A outer s H E) s1 (tAsg (tCall (spCup K fc) [] E (tCons (tVar 0) tNil)) (gName 1)))
    (h2 : ∀ (f : Addr) (j : Addr) (A0 : Addr → Prop) (cdv : Value) (A : Around) (outer : List Env) (s : Shared) (H : Hp) (E : XK), Room k (A.deeper (PyProof.Rows.envOfC x (defScope st) s.heap.objs.size f cdv)) →
      PSs (cxOf (L2.CX P w) P w K mg base N x (defScope st) f cdv A outer s H E) s2 (tS ⟨K, cupR j, own, A0, H, mg, E⟩ fb))
    (hc : ∀ ns, ∃ c0 c1 c', fc [none, some (.int (cellOf ns))] () = .ok (.rt (.lst [.int c0, .int c1]), ()) ∧ fb ((List.replicate N.length none).set 1 (some (.reg 0))) (c0, c1) = .ok (.rt (.bl true), c')) :
    FnOk P w K mg base (L2.CX P w) (k + 1) f fd ["script"] (spLaw K) := by
  refine F.okX S (fun vs H Q E h => ?_) (fun cdv A outer s H vs Q E hr h => ?_)
  · obtain ⟨a, ns, rfl, _⟩ := h
    rfl
  · obtain ⟨a, ns, rfl, hS, hl, q⟩ := h
    obtain ⟨c0, c1, c', e1, e2⟩ := hc ns
    rw [hst]
    refine ⟨_, pss_cons (u := fun D σ H1 => ∃ j, tS ⟨K, cupR j, own, fun _ => False, H, mg, E⟩ fb D σ H1) (h1 f cdv A outer s H E hr) ⟨fun pins s' σ H' D I ⟨j, q⟩ => (h2 f j (fun _ => False) cdv A outer s H E hr).run pins s' σ H' D I q⟩, .ref a, ?_, a, ns, c0, c1, rfl, hS, hl, e1, fun H1 p sm np ep => ?_⟩
    · cases hN : N.length with
      | zero => omega
      | succ m =>
        unfold L2.start
        rfl
    · refine ⟨p, (List.replicate N.length none).set 1 (some (.reg 0)), (c0, c1), ?_, ep, ?_⟩
      · have el : (L2.start N [V.ref a]).length = N.length := by
          unfold L2.start
          simp
          omega
        have ei := EI.nil (g := ⟨K, cupR p, own, fun _ => False, H, mg, E⟩) (σ := L2.start N [V.ref a]) (H := H1) (Kp.of sm)
        rw [el] at ei
        exact ei.set (i := 1) ho1 (y := some (.reg 0)) (w := some (.ref p)) fun x ex => ⟨_, rfl, by
          cases ex
          unfold Rep
          exact ⟨rfl, rfl⟩⟩
      · rw [e2]
        intro v H' kp hd r
        unfold Rep at r
        subst r
        exact q H'
end
section
variable {K : PySem.W.Frag} {h : Heap} {mg : Str → Option Value}
theorem funT_of {x : Str} {st : Stmt} {f : Addr} {oc : Value} {od an : Option Addr} {osl : Array (Option Value)} {kV doc pm cdv ct : Value} (X : K.In h) (G : h.Ns mainGlobals mg) (a : PySem.W.nsIn K mainGlobals x = some (some (.ref f)))
    (l : K.lookup f = some ⟨oc, od, .func (PySem.W.fnOf x x (defArgs st) (defBody st) (defScope st) .none kV doc pm an cdv ct), osl⟩) (c : PySem.W.codeIn K cdv x = true) (k : PySem.W.keepIn K (.ref f) = true) : FunT K mg x st :=
  ⟨f, _, PySem.W.mg_of X G a, fun_mk l c k⟩
theorem excT_of {x : Str} {C : Addr} (X : K.In h) (G : h.Ns mainGlobals mg) (a : PySem.W.nsIn K mainGlobals x = some (some (.ref C))) (e : PySem.W.excIn K C [.type "ValueError", .type "Exception", .type "BaseException", .type "object"] "ValueError.__new__" = true)
    (k : PySem.W.keepIn K (.ref C) = true) (b : PySem.W.subIn K (.ref C) (.type "BaseException") = some true) (t : PySem.W.typeIn K (.ref C) = some (.type "type")) : ExcT K mg x := ⟨C, PySem.W.mg_of X G a, e, k, b, t⟩
theorem intT_of {x : Str} {i : Int} {t : Tok} (X : K.In h) (G : h.Ns mainGlobals mg) (a : PySem.W.nsIn K mainGlobals x = some (some (.int i t))) : IntT mg x i := ⟨t, PySem.W.mg_of X G a⟩
theorem strT_of {x : Str} {z : List Nat} {t : Tok} (X : K.In h) (G : h.Ns mainGlobals mg) (a : PySem.W.nsIn K mainGlobals x = some (some (.str ⟨z.toArray⟩ t))) : StrT mg x z := ⟨t, PySem.W.mg_of X G a⟩
theorem none_of {x : Str} (X : K.In h) (G : h.Ns mainGlobals mg) (a : PySem.W.nsIn K mainGlobals x = some none) : mg x = none := PySem.W.mg_none_of X G a
theorem law_mk {P : Program} {w : World} {k : Nat} {fa f : Addr} {st : Stmt} {oc : Value} {od an : Option Addr} {osl : Array (Option Value)} {kV doc pm cdv ct : Value} (X : K.In h) (G : h.Ns mainGlobals mg) (hfa : mg ("law" : Str) = some (.ref fa)) (a : PySem.W.nsIn K mainGlobals ("law" : Str) = some (some (.ref f)))
    (l : K.lookup f = some ⟨oc, od, .func (PySem.W.fnOf "law" "law" (defArgs st) (defBody st) (defScope st) .none kV doc pm an cdv ct), osl⟩) (c : PySem.W.codeIn K cdv "law" = true) (kk : PySem.W.keepIn K (.ref f) = true)
    (hb : ∀ (s : Shared) (v : Value), BindsTo s (PySem.W.fnOf "law" "law" (defArgs st) (defBody st) (defScope st) .none kV doc pm an cdv ct) ⟨[v], []⟩ [("script", v)])
    (hF : ∀ {base : Heap} {f : Addr} {fd : FuncData}, Fun K "law" "law" st f fd → FnOk P w K mg base (L2.CX P w) k f fd ["script"] (spLaw K)) :
    ∃ fd : FuncData, (∀ (s : Shared) (v : Value), BindsTo s fd ⟨[v], []⟩ [("script", v)]) ∧ ∀ base : Heap, K.In base → base.Ns mainGlobals mg → FnOk P w K mg base (L2.CX P w) k fa fd ["script"] (spLaw K) := by
  have e := hfa.symm.trans (PySem.W.mg_of X G a)
  cases e
  exact ⟨_, hb, fun base _ _ => hF (fun_mk l c kk)⟩
theorem cx_no {P : Program} {w : World} {H : Hp} {s : Shared} {e : Value} {s' : Shared} (h : L2.CX P w [] H s (fun _ _ _ => False) e s') : False := by
  obtain ⟨_, _, _, _, _, _, _, _, _, _, _, _, z⟩ := h
  exact z
/-- the register's maker, by its name -/
structure HasC (P : Program) (w : World) (K : PySem.W.Frag) (mg : Str → Option Value) (base : Heap) (k : Nat) (x : Str) (fb : FS Unit) : Prop where
  ex : ∃ (f : Addr) (fd : FuncData), mg x = some (.ref f) ∧ PySem.W.keepIn K (.ref f) = true ∧ Binds K fd ["script"] [] ∧ FnOk P w K mg base (L2.CX P w) k f fd ["script"] (spCup K fb)
end
end PyA
/-! PyO: a display of a dict that is asked at once; sorted. -/
namespace PyA
open PySem L2
def kOf : Vl → Option Key
  | .int i => some (.inl i)
  | .str z => some (.inr ⟨z.toArray⟩)
  | _ => none
def cV : Vl → V
  | .int i => .int i
  | .str z => .str ⟨z.toArray⟩
  | .bl b => .bl b
  | _ => .non
def plainC : Vl → Bool
  | .int _ => true
  | .str _ => true
  | .bl _ => true
  | .non => true
  | _ => false
abbrev dTrs (kvs : List (Key × Vl)) : List (TE × TE) := kvs.map fun kv => (tC (kV kv.1), tC (cV kv.2))
abbrev dVs (kvs : List (Key × Vl)) : List (Key × V) := kvs.map fun kv => (kv.1, cV kv.2)
def dixP (kvs : List (Key × Vl)) (y : Vl) : Option Vl := (kOf y).bind fun k => (kvs.find? fun kv => decide (kv.1 = k)).map (·.2)
section
variable {X : Cx} {C : Type} {g : Fx C} {e a b : Expr} {es : List Expr} {pos p : Pos} {n : Nat} {N : Bool}
theorem pe_negc {i : Int} {j p2} : PE X (.UnaryOp .USub (.Constant (.int i) j p2) pos) (tC (.int (-i))) := (pe_un un_neg pe_int).weak fun σ H Q q => ⟨i, rfl, q⟩
theorem pairs_dv : ∀ (kvs : List (Key × Vl)) (σ : L2.St) (H : Hp) (Q : List (V × V) → Hp → Prop), Q ((dVs kvs).map fun kv => (kV kv.1, kv.2)) H → tPairs (dTrs kvs) σ H Q
  | [], _, _, _, q => q
  | kv :: r, σ, H, Q, q => pairs_dv r σ H (fun ps H3 => Q ((kV kv.1, cV kv.2) :: ps) H3) q
theorem rep_kOf {K : PySem.W.Frag} {T : Tk} {B A : Addr → Prop} {H : Hp} {y : Vl} {v : V} {k : Key} (e : kOf y = some k) (r : RepI K T B A H y v) : v = kV k := by
  cases y <;> first | cases e
  · exact ri_int r
  · exact ri_str r
theorem rep_cV {K : PySem.W.Frag} {T : Tk} {A : Addr → Prop} {H : Hp} {x : Vl} (h : plainC x = true) : Rep K T A H x (cV x) := by
  cases x <;> first | (unfold Rep; rfl) | cases h
theorem find_dv (k : Key) : ∀ (kvs : List (Key × Vl)) (x : Vl), (kvs.find? fun kv => decide (kv.1 = k)).map (·.2) = some x → valV (dVs kvs) k = some (cV x)
  | [], x, h => by cases h
  | kv :: r, x, h => by
    rw [List.find?_cons] at h
    show valV ((kv.1, cV kv.2) :: dVs r) k = _
    by_cases hk : kv.1 = k
    · rw [decide_eq_true hk] at h
      cases h
      exact valV_pos hk
    · rw [decide_eq_false hk] at h
      rw [valV_neg hk]
      exact find_dv k r x h
/-- {k: v, ..}[e] -/
theorem de_dix {keys : List (Option Expr)} {values : List Expr} {dpos : Pos} {f : FE C} {bb : Bool} (kvs : List (Key × Vl)) (hu : X.A.units + 1 < cLine) (h : PPs X dpos keys values (dTrs kvs)) (he : PE X e (tE g bb f)) (hs : NoSl e)
    (hp : (kvs.all fun kv => plainC kv.2) = true) (hm : mergeK [] (dVs kvs) = dVs kvs) (h15 : keys.length ≤ 15) (hk15 : kvs.length ≤ 15) (hall : keys.all (·.isSome) = true := by rfl) (hl : keys.length = values.length := by rfl) (h0 : keys ≠ [] := by intro z; cases z) :
    PE X (.Subscript (.Dict keys values dpos) e pos) (tE g true (fUn (dixP kvs) f)) :=
  (pe_dget hu (pe_disp h hall hl h0 h15) he hs).weak fun σ H Q ⟨ρ, c, ei, hd, q⟩ => fun p np => pairs_dv kvs σ _ _ ⟨upd_same, dVs kvs, rfl, by rw [List.length_map]; exact hk15, by
    rw [hm]
    have s1 : Same H (upd (upd H p (.dK [])) p (.dK (dVs kvs))) := fun b u e => by
      have ne := ne_of_none e np
      rw [upd_ne ne, upd_ne ne]
      exact e
    have nr : ¬ g.r.rg p := rg_some hd np
    refine ⟨ρ, c, ei.kp hd (Kp.of s1), Rg.same hd s1, (GoX.kp (Kp.of s1) (GoX.bind q)).mono fun y c1 H1 k1 hd1 w v rv => ?_⟩
    obtain ⟨z, ez, w2⟩ := go_opt w
    unfold dixP at ez
    cases ek : kOf y with
    | none => rw [ek] at ez; cases ez
    | some k =>
      rw [ek] at ez
      have ez : (kvs.find? fun kv => decide (kv.1 = k)).map (·.2) = some z := ez
      have hz : plainC z = true := by
        cases ef : kvs.find? fun kv => decide (kv.1 = k) with
        | none => rw [ef] at ez; cases ez
        | some kv =>
          rw [ef] at ez
          cases ez
          exact List.all_eq_true.mp hp kv (List.mem_of_find?_eq_some ef)
      refine ⟨p, cV z, rfl, ?_, w2 H1 Kp.refl hd1 _ (RepB.of (rep_cV hz))⟩
      rw [rep_kOf ek rv.i, ← find_dv k kvs z ez]
      exact DGet.k (k1 _ _ upd_same nr)⟩
end
end PyA
namespace PySem
open PyProof.Rows
section
variable {prog : Program} {w : World} {A : Around} {E : Value → Shared → Prop} {s : Shared}
/-- a tuple's items, gathered -/
theorem gather_tup {l : Addr} {vs : List Value} {Q : List Value → Shared → Prop} (hl : s.heap.IsTuple l vs.toArray) (h : Q vs { s with heap := (s.heap.push (seqObj "list" #[] 0)).update s.heap.objs.size (Obj.mapSeq (· ++ vs.toArray)) })
    (hz : vs.length ≤ sizeLine) : wpAny (model prog w) A (collect (.ref l)) Q E s := by
  obtain ⟨o, ho, hc, n, hd⟩ := id hl
  unfold collect; refine wpAny_bind (wpAny_runValue (codeAny_builtin entry_proto_collect' ?_))
  show wpAny _ _ (do again (.builtin "list.__iadd__" ⟨[← newList [], .ref l], []⟩)) _ _ s; refine wpAny_bind (wpAny_newList (wpAny_pure ⟨Code.quiet_builtin _ (by decide +kernel), codeAny_builtin entry_list_iadd' ?_⟩))
  show wpAny _ _ (Builtin.List.listExtendWith (.ref s.heap.objs.size) (.ref l) (.ref s.heap.objs.size)) _ _ { s with heap := s.heap.push (seqObj "list" #[] 0) }; unfold Builtin.List.listExtendWith
  have ho' : (s.heap.push (seqObj "list" #[] 0)).get? l = some o := Heap.get?_push_of_some _ ho
  refine wpAny_bind (wpAny_typeOf (T := "tuple") ⟨o, ho', hc⟩ ?_); rw [if_pos (by rw [show (Value.type "tuple" == Value.type "tuple") = true from rfl, Bool.or_true])]
  refine wpAny_bind (listItems_at ho' hd ?_); refine wpAny_bind (listItems_at (xs := #[]) (n := 0) (Heap.get?_push_size _ rfl) rfl ?_); rw [if_neg (by simp)]
  refine wpAny_bind (listUpdate_at (xs := #[]) (n := 0) (Heap.get?_push_size _ rfl) rfl ?_ (Nat.zero_le _) (by show (#[] ++ vs.toArray).size ≤ sizeLine + 1; simp only [Array.size_append, List.size_toArray, List.length_nil]; omega)); refine wpAny_pure ?_
  show wpAny (model prog w) A (do let o ← load s.heap.objs.size; match o.data with | .seq xs _ => pure xs.toList | _ => unsupported "internal:collect") Q E { s with heap := (s.heap.push (seqObj "list" #[] 0)).update s.heap.objs.size (Obj.mapSeq (· ++ vs.toArray)) }
  refine wpAny_bind (wpAny_load (get?_update_seq (Heap.get?_push_size _ rfl) _) ?_); show wpAny _ _ (pure ((#[] : Array Value) ++ vs.toArray).toList) Q E _
  rw [show ((#[] : Array Value) ++ vs.toArray).toList = vs by simp]; exact wpAny_pure h
theorem sorted_ordT {l : Addr} {vs : List Value} {ltv : Value → Value → Bool} {Q : Value → Shared → Prop} (O : SrtO.Swo ltv) (hl : s.heap.IsTuple l vs.toArray) (hz : vs.length ≤ sizeLine)
    (hS : 2 ≤ vs.length → ∀ (h1 : Heap) (a : Addr), h1.get? a = some (seqObj "list" vs.toArray 0) → (∀ b o, s.heap.get? b = some o → b ≠ a ∧ h1.get? b = some o) → SrtO.SortableO prog w A.in1.in1 { s with heap := h1 } a vs ltv)
    (h : ∀ out : List Value, SrtO.Srtd ltv out → SrtO.Stb ltv out vs → Q (.ref (s.heap.objs.size + 1)) { s with heap := sortedAll s.heap vs out.toArray }) : wpAny (model prog w) A (call (.builtin "sorted") [.ref l]) Q E s := by
  refine Calls.call_function_entry kind_sorted plain_sorted entry_sorted (args_sorted1 _) ?_; unfold Builtin.«sorted»
  refine wpAny_bind (m := checkCount "sorted" 1 1 _) (wpAny_pure ?_); refine wpAny_bind (gather_tup hl ?_ hz); refine wpAny_bind (wpAny_newList ?_ hz)
  have hsz : ((s.heap.push (seqObj "list" #[] 0)).update s.heap.objs.size (Obj.mapSeq (· ++ vs.toArray))).objs.size = s.heap.objs.size + 1 := by (rw [Heap.size_update, size_push'])
  have hoL : (((s.heap.push (seqObj "list" #[] 0)).update s.heap.objs.size (Obj.mapSeq (· ++ vs.toArray))).push (seqObj "list" vs.toArray 0)).get? (s.heap.objs.size + 1) = some (seqObj "list" vs.toArray 0) := by (rw [← hsz]; exact Heap.get?_push_size _ rfl)
  have keep : ∀ b o, s.heap.get? b = some o → b ≠ s.heap.objs.size + 1 ∧ (((s.heap.push (seqObj "list" #[] 0)).update s.heap.objs.size (Obj.mapSeq (· ++ vs.toArray))).push (seqObj "list" vs.toArray 0)).get? b = some o := fun b o q => by
    have hlt : b < s.heap.objs.size := Heap.lt_size q
    refine ⟨Nat.ne_of_lt (Nat.lt_succ_of_lt hlt), Heap.get?_push_of_some _ ?_⟩; rw [Heap.get?_update_ne _ _ _ _ (Nat.ne_of_lt hlt)]; exact Heap.get?_push_of_some _ q
  show wpAny _ _ _ _ _ { s with heap := ((s.heap.push (seqObj "list" #[] 0)).update s.heap.objs.size (Obj.mapSeq (· ++ vs.toArray))).push (seqObj "list" vs.toArray 0) }; rw [hsz]
  refine wpAny_bind (wpAny_holding (wpAny_call_entry slot_list_sort ⟨_, hoL, rfl⟩ entry_list_sort (SrtO.list_sort_ord O hoL hz (fun h2 => hS h2 _ _ hoL keep) fun out hs hb => ⟨_, rfl, ?_⟩) (args_list_sort _))); exact wpAny_pure ⟨_, rfl, h out hs hb⟩
end
end PySem
namespace PyA
open PySem L2
/-- what sorted gives of ints -/
def ins (a : Int) : List Int → List Int
  | [] => [a]
  | b :: r => if a ≤ b then a :: b :: r else b :: ins a r
def srt : List Int → List Int
  | [] => []
  | a :: r => ins a (srt r)
theorem ins_perm (a : Int) : ∀ l, (ins a l).Perm (a :: l)
  | [] => List.Perm.refl _
  | b :: r => by
    unfold ins
    split
    · exact List.Perm.refl _
    · exact ((ins_perm a r).cons b).trans (List.Perm.swap a b r)
theorem srt_perm : ∀ l, (srt l).Perm l
  | [] => List.Perm.refl _
  | a :: r => (ins_perm a (srt r)).trans ((srt_perm r).cons a)
theorem ins_le (a : Int) : ∀ l : List Int, l.Pairwise (· ≤ ·) → (ins a l).Pairwise (· ≤ ·)
  | [], _ => by simp [ins]
  | b :: r, h => by
    unfold ins
    rw [List.pairwise_cons] at h
    split
    · rename_i hab
      refine List.pairwise_cons.mpr ⟨fun x hx => ?_, List.pairwise_cons.mpr h⟩
      rcases List.mem_cons.mp hx with rfl | hx
      · exact hab
      · exact Int.le_trans hab (h.1 x hx)
    · rename_i hab
      refine List.pairwise_cons.mpr ⟨fun x hx => ?_, ins_le a r h.2⟩
      rcases List.mem_cons.mp ((ins_perm a r).mem_iff.mp hx) with rfl | hx
      · omega
      · exact h.1 x hx
theorem srt_le : ∀ l, (srt l).Pairwise (· ≤ ·)
  | [] => List.Pairwise.nil
  | a :: r => ins_le a _ (srt_le r)
theorem sorted_eq : ∀ {a b : List Int}, a.Perm b → a.Pairwise (· ≤ ·) → b.Pairwise (· ≤ ·) → a = b
  | [], b, p, _, _ => (List.perm_nil.mp p.symm).symm
  | x :: a, b, p, ha, hb => by
    cases b with
    | nil => exact (nomatch List.perm_nil.mp p)
    | cons y b =>
      rw [List.pairwise_cons] at ha hb
      have h1 : x ≤ y := by
        rcases List.mem_cons.mp (p.mem_iff.mpr (List.mem_cons_self (a := y))) with e | e
        · omega
        · exact ha.1 y e
      have h2 : y ≤ x := by
        rcases List.mem_cons.mp (p.mem_iff.mp (List.mem_cons_self (a := x))) with e | e
        · omega
        · exact hb.1 x e
      have e : x = y := by omega
      subst e
      rw [sorted_eq ((List.perm_cons x).mp p) ha.2 hb.2]
def sorted1 : Vl → Option Vl
  | .lst xs => (allM asI xs).map fun ns => .lst ((srt ns).map Vl.int)
  | .tup xs => (allM asI xs).map fun ns => .lst ((srt ns).map Vl.int)
  | _ => none
def sortedP : List Vl → Option Vl := op1 sorted1
section
variable {X : Cx}
theorem cr_sortedTI : CallR X (.builtin "sorted") (fun vs H Q => ∃ (a : Addr) (ns : List Int), vs = [V.ref a] ∧ SqT X.K H a (ns.map V.int) ∧
    ∀ (ns' : List Int) (p : Addr), ns'.Perm ns → ns'.Pairwise (· ≤ ·) → H p = none → Q (.ref p) (upd H p (.lst (ns'.map V.int)))) := by
  intro pins s σ H vs us Q I r h
  obtain ⟨a, ns, rfl, hs, q⟩ := h
  obtain ⟨its, rv, hl, hz⟩ := I.tuple hs
  rw [Vals.ref1 r]
  have hi := rv.ints
  refine PySem.sorted_ordT SrtO.swo_int (l := a) hl (by rw [← rv.length]; exact hz) (fun h2 h1 a' _ _ => SrtO.ints_sortable hi h2) fun out h1 h2 => ?_
  obtain ⟨k1, k2, k3⟩ := SrtO.ints_out hi h1 h2
  obtain ⟨ep, he⟩ := PyProof.Rows.sortedAll_at s.heap its out.toArray
  have hlen : ((out.map SrtO.iv).map V.int).length ≤ sizeLine := by (rw [List.length_map, k2.length_eq]; rw [List.length_map] at hz; exact hz)
  exact ⟨.ref _, _, I.laid (a := s.heap.objs.size + 1) (o := .lst ((out.map SrtO.iv).map V.int)) (t' := s.toks) (fun _ _ => PyProof.Rows.sortedAll_old) (Nat.le_succ _) ⟨hlen, out, ep, vals_of_ints k1, he⟩, rfl, q _ _ k2 k3 (I.hok.fresh (Nat.le_succ _))⟩
theorem call_sortedP : CallP true X (.builtin "sorted") sortedP := fun T => (cr_sortedI.or cr_sortedTI).weak fun vs H Q ⟨xs, B, A, z, r, e, q⟩ => by
  obtain ⟨x, rfl, e'⟩ := op1_some e
  clear e
  obtain ⟨v, rfl, rx⟩ := is_one r
  have fin : ∀ {ns ns' : List Int} {p : Addr}, z = .lst ((srt ns).map Vl.int) → ns'.Perm ns → ns'.Pairwise (· ≤ ·) → ns.length ≤ sizeLine → H p = none → Q (.ref p) (upd H p (.lst (ns'.map V.int))) := fun {ns ns' p} ez hp hs hl np => by
    have e := sorted_eq (hp.trans (srt_perm ns).symm) hs (srt_le ns)
    subst e ez
    refine q _ _ (same_new np) ?_
    rw [if_pos rfl]
    unfold RepN
    refine ⟨p, _, rfl, np, upd_same, by rw [List.length_map, hp.length_eq]; exact hl, Reps.of_get (by simp) fun i x v ex ev => ?_⟩
    rw [List.getElem?_map] at ex ev
    cases en : (srt ns)[i]? with
    | none => rw [en] at ex; cases ex
    | some n =>
      rw [en] at ex ev
      cases ex
      cases ev
      exact rep_int
  unfold sorted1 at e'
  split at e'
  · rename_i ys
    cases e2 : allM asI ys with
    | none => rw [e2] at e'; cases e'
    | some ns =>
      rw [e2] at e'
      cases e'
      obtain ⟨p, us, rfl, hq, l, rs⟩ := ri_lst rx
      rw [allM_reps (gv := V.int) asI_rep e2 rs] at hq l
      rw [List.length_map] at l
      exact .inl ⟨p, ns, rfl, SqL.of hq, fun ns' p2 hp hs np => fin rfl hp hs l np⟩
  · rename_i ys
    cases e2 : allM asI ys with
    | none => rw [e2] at e'; cases e'
    | some ns =>
      rw [e2] at e'
      cases e'
      obtain ⟨p, us, rfl, hq, l, rs⟩ := ri_tup rx
      rw [allM_reps (gv := V.int) asI_rep e2 rs] at hq l
      rw [List.length_map] at l
      exact .inr ⟨p, ns, rfl, hq, fun ns' p2 hp hs np => fin rfl hp hs l np⟩
  · cases e'
end
/-! ### a tuple that the top has made -/
def TupT (K : PySem.W.Frag) (mg : Str → Option Value) (x : Str) (v : Vl) : Prop := ∃ a : Addr, mg x = some (.ref a) ∧ ∀ (T : Tk) (A : Addr → Prop) (H : Hp), Rep K T A H v (.ref a)
section
variable {X : Cx} {C : Type} {g : Fx C} {p pos : Pos}
theorem de_gtup {x : Str} {v : Vl} (hK : X.K = g.K) (h : TupT X.K X.mg x v) (hg : Gl X x) (hd : (x == ("__debug__" : Str)) = false := by decide) : PE X (.Name x pos) (tE g true (fC v)) := by
  obtain ⟨a, e, r⟩ := h
  exact de_glob (v := .ref a) hg e rfl (fun T A H => hK ▸ r T A H) hd
theorem hu1_of {n : Nat} (h : n + 64 < cLine) : n + 1 < cLine := by omega
end
/-- what a value of the top stands for -/
def RepK (K : PySem.W.Frag) (x : Vl) (u : Value) : Prop := ∃ v : V, RelV v u ∧ ∀ (T : Tk) (A : Addr → Prop) (H : Hp), Rep K T A H x v
theorem repK_int {K : PySem.W.Frag} {i : Int} {t : Tok} : RepK K (.int i) (.int i t) := ⟨.int i, ⟨t, rfl⟩, fun _ _ _ => rep_int⟩
theorem repK_str {K : PySem.W.Frag} {z : List Nat} {t : Tok} : RepK K (.str z) (.str ⟨z.toArray⟩ t) := ⟨.str ⟨z.toArray⟩, ⟨t, rfl⟩, fun _ _ _ => rep_str⟩
inductive RepKs (K : PySem.W.Frag) : List Vl → List Value → Prop where
  | nil : RepKs K [] []
  | cons {x : Vl} {u : Value} {xs : List Vl} {us : List Value} : RepK K x u → RepKs K xs us → RepKs K (x :: xs) (u :: us)
theorem RepKs.all {K : PySem.W.Frag} {xs : List Vl} {us : List Value} (h : RepKs K xs us) : ∃ vs : List V, Vals vs us ∧ ∀ (T : Tk) (A : Addr → Prop) (H : Hp), Reps K T A H xs vs := by
  induction h with
  | nil => exact ⟨[], .nil, fun _ _ _ => Reps.nil⟩
  | cons h _ ih =>
    obtain ⟨v, r, q⟩ := h
    obtain ⟨vs, rs, qs⟩ := ih
    exact ⟨v :: vs, .cons r rs, fun T A H => Reps.cons (q T A H) (qs T A H)⟩
theorem repK_tup {K : PySem.W.Frag} {a : Addr} {od : Option Addr} {us : List Value} {n : Nat} {sl : Array (Option Value)} {xs : List Vl} (l : K.lookup a = some ⟨.type "tuple", od, .seq us.toArray n, sl⟩) (h : RepKs K xs us) (hz : us.length ≤ 1000 := by exact Nat.le_of_ble_eq_true rfl) : RepK K (.tup xs) (.ref a) := by
  obtain ⟨vs, r, q⟩ := h.all
  have hl : vs.length ≤ 1000 := by (rw [r.length]; exact hz)
  refine ⟨.ref a, rfl, fun T A H => ?_⟩
  unfold Rep
  exact ⟨a, vs, rfl, .inr ⟨_, us.toArray, n, l, rfl, rfl, by (rw [List.size_toArray]; exact Nat.le_trans hz (by decide)), r⟩, Nat.le_trans hl (by decide), q T A H⟩
theorem tupT_of {K : PySem.W.Frag} {h : Heap} {mg : Str → Option Value} {x : Str} {a : Addr} {v : Vl} (Y : K.In h) (G : h.Ns mainGlobals mg) (e : PySem.W.nsIn K mainGlobals x = some (some (.ref a))) (r : RepK K v (.ref a)) : TupT K mg x v := by
  obtain ⟨w, r1, r2⟩ := r
  refine ⟨a, PySem.W.mg_of Y G e, fun T A H => ?_⟩
  have e : w = .ref a := by
    cases w with
    | ref b => cases r1; rfl
    | non => cases r1
    | bl b => cases r1
    | ty b => cases r1
    | _ => obtain ⟨_, r1⟩ := r1; cases r1
  exact e ▸ r2 T A H
end PyA
/-! PyP: the mirrors' plain laws: how they run. -/
namespace PyA
open PySem L2
section
variable {C α β γ : Type}
@[simp] theorem r_bnd (a : α) (k : α → M C β) : bnd (ret a) k = k a := rfl
@[simp] theorem b_bnd (k : α → M C β) : bnd (bad : M C α) k = bad := rfl
@[simp] theorem bb (m : M C α) (k : α → M C β) (l : β → M C γ) : bnd (bnd m k) l = bnd m fun x => bnd (k x) l := bnd_assoc m k l
@[simp] theorem o_some (a : α) : (opt (some a) : M C α) = ret a := rfl
@[simp] theorem o_none : (opt none : M C α) = bad := rfl
@[simp] theorem l_ret (a : α) : (lif (ret a) : M C α) = ret a := rfl
@[simp] theorem n_ret (a : α) : noEx (ret a : M C α) = ret a := rfl
@[simp] theorem fVar_ap (i : Nat) (ρ : PEnv) : (fVar i ρ : M C Vl) = opt (look ρ i) := rfl
@[simp] theorem fC_ap (x : Vl) (ρ : PEnv) : (fC x ρ : M C Vl) = ret x := rfl
@[simp] theorem fOp_ap (op : Vl → Vl → Option Vl) (a b : FE C) (ρ : PEnv) : fOp op a b ρ = bnd (a ρ) fun x => bnd (b ρ) fun y => opt (op x y) := rfl
@[simp] theorem fUn_ap (op : Vl → Option Vl) (a : FE C) (ρ : PEnv) : fUn op a ρ = bnd (a ρ) fun x => opt (op x) := rfl
@[simp] theorem fIf_ap (t : FT C) (a b : FE C) (ρ : PEnv) : fIf t a b ρ = bnd (t ρ) fun k => if k = true then a ρ else b ρ := rfl
@[simp] theorem fAnd_ap (a b : FE C) (ρ : PEnv) : fAnd a b ρ = bnd (a ρ) fun x => bnd (opt (asB x)) fun k => if k = true then b ρ else ret (.bl false) := rfl
@[simp] theorem fOr_ap (a b : FE C) (ρ : PEnv) : fOr a b ρ = bnd (a ρ) fun x => bnd (opt (asB x)) fun k => if k = true then ret (.bl true) else b ρ := rfl
@[simp] theorem fNot_ap (a : FE C) (ρ : PEnv) : fNot a ρ = bnd (a ρ) fun x => bnd (opt (asB x)) fun k => ret (.bl (!k)) := rfl
@[simp] theorem gB_ap (a : FE C) (ρ : PEnv) : gB a ρ = bnd (a ρ) fun x => opt (asB x) := rfl
@[simp] theorem gV_ap (a : FE C) (ρ : PEnv) : gV a ρ = bnd (a ρ) fun x => opt (truth x) := rfl
@[simp] theorem gAnd_ap (a b : FT C) (ρ : PEnv) : gAnd a b ρ = bnd (a ρ) fun k => if k = true then b ρ else ret false := rfl
@[simp] theorem gOr_ap (a b : FT C) (ρ : PEnv) : gOr a b ρ = bnd (a ρ) fun k => if k = true then ret true else b ρ := rfl
@[simp] theorem gNot_ap (a : FT C) (ρ : PEnv) : gNot a ρ = bnd (a ρ) fun k => ret (!k) := rfl
@[simp] theorem gYes_ap (ρ : PEnv) : (gYes ρ : M C Bool) = ret true := rfl
@[simp] theorem seqA_nil (ρ : PEnv) : (seqA [] ρ : M C (List Vl)) = ret [] := rfl
@[simp] theorem seqA_cons (f : FE C) (r : List (FE C)) (ρ : PEnv) : seqA (f :: r) ρ = bnd (f ρ) fun x => bnd (seqA r ρ) fun xs => ret (x :: xs) := rfl
@[simp] theorem fTup_ap (fs : List (FE C)) (ρ : PEnv) : fTup fs ρ = bnd (seqA fs ρ) fun xs => ret (.tup xs) := rfl
@[simp] theorem fLst_ap (fs : List (FE C)) (ρ : PEnv) : fLst fs ρ = bnd (seqA fs ρ) fun xs => ret (.lst xs) := rfl
@[simp] theorem fImm_ap (f : FE C) (ρ : PEnv) : fImm f ρ = bnd (f ρ) fun x => if imm x = true then ret x else bad := rfl
@[simp] theorem fOwn_ap (f : FE C) (ρ : PEnv) : fOwn f ρ = bnd (f ρ) fun x => if ownable x = true then ret x else bad := rfl
@[simp] theorem fCall_ap (F : List Vl → M C Vl) (fs : List (FE C)) (ρ : PEnv) : fCall F fs ρ = bnd (seqA fs ρ) F := rfl
@[simp] theorem fCallP_ap (F : List Vl → M Unit Vl) (fs : List (FE C)) (ρ : PEnv) : fCallP F fs ρ = bnd (seqA fs ρ) fun xs => lif (F xs) := rfl
@[simp] theorem fCallF_ap (F : List Vl → M Unit Vl) (fs : List (FE C)) (ρ : PEnv) : fCallF F fs ρ = bnd (seqA fs ρ) fun xs => if imms xs = true then lif (F xs) else bad := rfl
@[simp] theorem fCallN_ap (F : List Vl → M Unit Vl) (fs : List (FE C)) (ρ : PEnv) : fCallN F fs ρ = bnd (seqA fs ρ) fun xs => if imms xs = true then bnd (lif (F xs)) fun z => (if ownable z = true then ret z else bad) else bad := rfl
@[simp] theorem fBlt_ap (op : List Vl → Option Vl) (fs : List (FE C)) (ρ : PEnv) : fBlt op fs ρ = bnd (seqA fs ρ) fun xs => opt (op xs) := rfl
@[simp] theorem fMet_ap (ty : Vl → Option Unit) (op : Vl → List Vl → Option Vl) (o : FE C) (fs : List (FE C)) (ρ : PEnv) : fMet ty op o fs ρ = bnd (o ρ) fun x => bnd (opt (ty x)) fun _ => bnd (seqA fs ρ) fun xs => opt (op x xs) := rfl
@[simp] theorem fChain_ap (op op' : Vl → Vl → Option Vl) (a b c : FE C) (ρ : PEnv) : fChain op op' a b c ρ = bnd (a ρ) fun x => bnd (b ρ) fun y => bnd (opt (op x y)) fun z => bnd (opt (asB z)) fun k =>
  if k = true then bnd (c ρ) fun w => opt (op' y w) else ret (.bl false) := rfl
@[simp] theorem fLc_ap (it : PEnv → M C (List Vl)) (vs : List Nat) (bd : Bnd) (t : FT C) (f : FE C) (ρ : PEnv) : fLc it vs bd t f ρ = bnd (it ρ) fun xs => bnd (compL bd t f (wipeE ρ vs) xs) fun ys => ret (.lst ys) := rfl
@[simp] theorem iAny_ap (f : FE C) (ρ : PEnv) : iAny f ρ = bnd (f ρ) fun x => opt (items x) := rfl
@[simp] theorem iBlt_ap (op : List Vl → Option (List Vl)) (fs : List (FE C)) (ρ : PEnv) : iBlt op fs ρ = bnd (seqA fs ρ) fun xs => opt (op xs) := rfl
@[simp] theorem fSl_ap (op : Vl → Option Int → Option Int → Option Vl) (fa : FE C) (lo hi : PEnv → M C (Option Int)) (ρ : PEnv) : fSl op fa lo hi ρ = bnd (fa ρ) fun x => bnd (lo ρ) fun l => bnd (hi ρ) fun u => opt (op x l u) := rfl
@[simp] theorem oNone_ap (ρ : PEnv) : (oNone ρ : M C (Option Int)) = ret none := rfl
@[simp] theorem oSome_ap (f : FE C) (ρ : PEnv) : oSome f ρ = bnd (f ρ) fun x => bnd (opt (asI x)) fun i => ret (some i) := rfl
@[simp] theorem sSeq_ap (a b : FS C) (ρ : PEnv) : sSeq a b ρ = bnd (a ρ) (sThen b) := rfl
@[simp] theorem sThen_nx (f : FS C) (ρ : PEnv) : sThen f (.nx ρ) = f ρ := rfl
@[simp] theorem sThen_rt (f : FS C) (x : Vl) : sThen f (.rt x) = ret (.rt x) := rfl
@[simp] theorem sThen_bk (f : FS C) (ρ : PEnv) : sThen f (.bk ρ) = ret (.bk ρ) := rfl
@[simp] theorem sThen_ct (f : FS C) (ρ : PEnv) : sThen f (.ct ρ) = ret (.ct ρ) := rfl
@[simp] theorem sNil_ap (ρ : PEnv) : (sNil ρ : M C Out) = ret (.nx ρ) := rfl
@[simp] theorem sRet_ap (f : FE C) (ρ : PEnv) : sRet f ρ = bnd (f ρ) fun x => ret (.rt x) := rfl
@[simp] theorem sRetN_ap (ρ : PEnv) : (sRetN ρ : M C Out) = ret (.rt .non) := rfl
@[simp] theorem sDrop_ap (f : FE C) (ρ : PEnv) : sDrop f ρ = bnd (f ρ) fun _ => ret (.nx ρ) := rfl
@[simp] theorem sIf_ap (t : FT C) (a b : FS C) (ρ : PEnv) : sIf t a b ρ = bnd (t ρ) fun k => if k = true then a ρ else b ρ := rfl
@[simp] theorem sSet_ap (i : Nat) (f : FE C) (ρ : PEnv) : sSet i f ρ = bnd (f ρ) fun x => ret (.nx (ρ.set i (some x))) := rfl
@[simp] theorem sBind_ap (bd : Bnd) (f : FE C) (ρ : PEnv) : sBind bd f ρ = bnd (f ρ) fun x => bnd (opt (bd x ρ)) fun ρ' => ret (.nx ρ') := rfl
@[simp] theorem sBreak_ap (ρ : PEnv) : (sBreak ρ : M C Out) = ret (.bk ρ) := rfl
@[simp] theorem sCont_ap (ρ : PEnv) : (sCont ρ : M C Out) = ret (.ct ρ) := rfl
@[simp] theorem sAug_ap (i : Nat) (op : Vl → Vl → Option Vl) (f : FE C) (ρ : PEnv) : sAug i op f ρ = bnd (opt (look ρ i)) fun x => bnd (f ρ) fun y => bnd (opt (op x y)) fun z => ret (.nx (ρ.set i (some z))) := rfl
@[simp] theorem sPar_ap (i j : Nat) (a b : FE C) (ρ : PEnv) : sPar i j a b ρ = bnd (a ρ) fun x => bnd (b ρ) fun y => ret (.nx ((ρ.set i (some x)).set j (some y))) := rfl
@[simp] theorem sFor_ap (it : PEnv → M C (List Vl)) (bd : Bnd) (body : FS C) (ρ : PEnv) : sFor it bd body ρ = bnd (it ρ) fun xs => forL bd body xs ρ := rfl
@[simp] theorem sApp_ap (i : Nat) (f : FE C) (ρ : PEnv) : sApp i f ρ = bnd (opt (lstAt ρ i)) fun _ => bnd (f ρ) fun y => bnd (opt (appAt ρ i y)) fun ρ' => ret (.nx ρ') := rfl
@[simp] theorem sPut_ap (i : Nat) (fk f : FE C) (ρ : PEnv) : sPut i fk f ρ = bnd (f ρ) fun y => bnd (opt (lstAt ρ i)) fun _ => bnd (fk ρ) fun k => bnd (opt (setAt ρ i k y)) fun ρ' => ret (.nx ρ') := rfl
@[simp] theorem sAugIx_ap (i : Nat) (op : Vl → Vl → Option Vl) (fk f : FE C) (ρ : PEnv) : sAugIx i op fk f ρ = bnd (opt (lstAt ρ i)) fun _ => bnd (fk ρ) fun k => bnd (opt (getAt ρ i k)) fun x => bnd (f ρ) fun y => bnd (opt (op x y)) fun z => bnd (opt (setAt ρ i k z)) fun ρ' => ret (.nx ρ') := rfl
@[simp] theorem sParF_ap (own : Nat → Bool) (is : List Nat) (fs : List (FE C)) (ρ : PEnv) : sParF own is fs ρ = bnd (seqA fs ρ) fun xs => bnd (opt (storeF own is xs ρ)) fun ρ' => ret (.nx ρ') := rfl
@[simp] theorem defOut_nx (ρ : PEnv) : (defOut (.nx ρ) : M C Vl) = ret .non := rfl
@[simp] theorem defOut_rt (v : Vl) : (defOut (.rt v) : M C Vl) = ret v := rfl
@[simp] theorem mkF_ap (n : Nat) (f : FS C) (xs : List Vl) : mkF n f xs = bnd (f (startE n xs)) defOut := rfl
@[simp] theorem forOut_nx (k : PEnv → M C Out) (ρ : PEnv) : forOut k (.nx ρ) = k ρ := rfl
@[simp] theorem forOut_ct (k : PEnv → M C Out) (ρ : PEnv) : forOut k (.ct ρ) = k ρ := rfl
@[simp] theorem forOut_bk (k : PEnv → M C Out) (ρ : PEnv) : forOut k (.bk ρ) = ret (.nx ρ) := rfl
@[simp] theorem forOut_rt (k : PEnv → M C Out) (v : Vl) : forOut k (.rt v) = ret (.rt v) := rfl
@[simp] theorem forL_nil (bd : Bnd) (body : FS C) (ρ : PEnv) : forL bd body [] ρ = ret (.nx ρ) := rfl
theorem forL_cons (bd : Bnd) (body : FS C) (x : Vl) (r : List Vl) (ρ : PEnv) : forL bd body (x :: r) ρ = bnd (opt (bd x ρ)) fun ρ1 => bnd (body ρ1) (forOut (forL bd body r)) := rfl
@[simp] theorem compL_nil (bd : Bnd) (t : FT C) (f : FE C) (ρ : PEnv) : compL bd t f ρ [] = ret [] := rfl
theorem compL_cons (bd : Bnd) (t : FT C) (f : FE C) (ρ : PEnv) (x : Vl) (r : List Vl) : compL bd t f ρ (x :: r) = bnd (opt (bd x ρ)) fun ρ1 => bnd (noEx (t ρ1)) fun k =>
      if k = true then bnd (noEx (f ρ1)) fun y => bnd (compL bd t f ρ r) fun ys => ret (y :: ys) else compL bd t f ρ r := rfl
@[simp] theorem bName_ap (i : Nat) (x : Vl) (ρ : PEnv) : bName i x ρ = some (ρ.set i (some x)) := rfl
@[simp] theorem bTup_ap (bs : List Bnd) (xs : List Vl) (ρ : PEnv) : bTup bs (.tup xs) ρ = bAll bs xs ρ := rfl
@[simp] theorem bAll_nil (ρ : PEnv) : bAll [] [] ρ = some ρ := rfl
@[simp] theorem bAll_cons (b : Bnd) (bs : List Bnd) (x : Vl) (xs : List Vl) (ρ : PEnv) : bAll (b :: bs) (x :: xs) ρ = (b x ρ).bind fun ρ1 => bAll bs xs ρ1 := rfl
@[simp] theorem look_0 (x : Vl) (r : PEnv) : look (some x :: r) 0 = some x := rfl
@[simp] theorem look_s (y : Option Vl) (r : PEnv) (i : Nat) : look (y :: r) (i + 1) = look r i := rfl
@[simp] theorem wipe_nil (ρ : PEnv) : wipeE ρ [] = ρ := rfl
@[simp] theorem wipe_cons (ρ : PEnv) (v : Nat) (vs : List Nat) : wipeE ρ (v :: vs) = (wipeE ρ vs).set v none := rfl
@[simp] theorem asB_bl (b : Bool) : asB (.bl b) = some b := rfl
@[simp] theorem asI_int (b : Int) : asI (.int b) = some b := rfl
@[simp] theorem asS_str (b : List Nat) : asS (.str b) = some b := rfl
@[simp] theorem items_lst (xs : List Vl) : items (.lst xs) = some xs := rfl
@[simp] theorem items_tup (xs : List Vl) : items (.tup xs) = some xs := rfl
theorem items_str {z : List Nat} (h : z.length ≤ sizeLine) : items (.str z) = some (z.map fun c => .str [c]) := if_pos h
@[simp] theorem tyS_str (z : List Nat) : tyS (.str z) = some () := rfl
@[simp] theorem tyL_lst (z : List Vl) : tyL (.lst z) = some () := rfl
/-- a comprehension whose turns are plain -/
theorem comp_ret {bd : Bnd} {t : FT C} {f : FE C} {ρ : PEnv} {p : Vl → Bool} {h : Vl → Vl} : ∀ (xs : List Vl), (∀ x ∈ xs, ∃ ρ1, bd x ρ = some ρ1 ∧ noEx (t ρ1) = ret (p x) ∧ (p x = true → noEx (f ρ1) = ret (h x))) → compL bd t f ρ xs = ret ((xs.filter p).map h)
  | [], _ => rfl
  | x :: r, q => by
    obtain ⟨ρ1, e1, e2, e3⟩ := q x List.mem_cons_self
    rw [compL_cons, e1, o_some, r_bnd, e2, r_bnd, comp_ret r fun y hy => q y (List.mem_cons_of_mem _ hy), List.filter_cons]
    cases e : p x with
    | true => rw [if_pos rfl, if_pos rfl, e3 e]; rfl
    | false => rfl
theorem comp_map {bd : Bnd} {f : FE C} {ρ : PEnv} {h : Vl → Vl} (xs : List Vl) (q : ∀ x ∈ xs, ∃ ρ1, bd x ρ = some ρ1 ∧ noEx (f ρ1) = ret (h x)) : compL bd gYes f ρ xs = ret (xs.map h) := by
  rw [comp_ret (p := fun _ => true) (h := h) xs fun x hx => ?_]
  · rw [List.filter_eq_self.mpr fun _ _ => rfl]
  · obtain ⟨ρ1, e1, e2⟩ := q x hx
    exact ⟨ρ1, e1, rfl, fun _ => e2⟩
/-- .. over things of a type -/
theorem comp_on {τ : Type} {bd : Bnd} {t : FT C} {f : FE C} {ρ : PEnv} (e : τ → Vl) (p : τ → Bool) (h : τ → Vl) : ∀ (xs : List τ), (∀ x ∈ xs, ∃ ρ1, bd (e x) ρ = some ρ1 ∧ noEx (t ρ1) = ret (p x) ∧ (p x = true → noEx (f ρ1) = ret (h x))) → compL bd t f ρ (xs.map e) = ret ((xs.filter p).map h)
  | [], _ => rfl
  | x :: r, q => by
    obtain ⟨ρ1, e1, e2, e3⟩ := q x List.mem_cons_self
    rw [List.map_cons, compL_cons, e1, o_some, r_bnd, e2, r_bnd, comp_on e p h r fun y hy => q y (List.mem_cons_of_mem _ hy), List.filter_cons]
    cases ep : p x with
    | true => rw [if_pos rfl, if_pos rfl, e3 ep]; rfl
    | false => rfl
theorem compA {τ : Type} {bd : Bnd} {f : FE C} {ρ : PEnv} (e : τ → Vl) (h : τ → Vl) (xs : List τ) (q : ∀ x ∈ xs, ∃ ρ1, bd (e x) ρ = some ρ1 ∧ noEx (f ρ1) = ret (h x)) : compL bd gYes f ρ (xs.map e) = ret (xs.map h) := by
  rw [comp_on e (fun _ => true) h xs fun x hx => ?_]
  · rw [List.filter_eq_self.mpr fun _ _ => rfl]
  · obtain ⟨ρ1, e1, e2⟩ := q x hx
    exact ⟨ρ1, e1, rfl, fun _ => e2⟩
/-- a for loop whose turns are plain, by the state s that the names stand for -/
theorem for_ret {τ σ : Type} {bd : Bnd} {body : FS C} (e : τ → Vl) (E : σ → PEnv) (g : τ → σ → σ) (P : σ → List τ → Prop) (hs : ∀ x r s, P s (x :: r) → P (g x s) r ∧ ∃ ρ1, bd (e x) (E s) = some ρ1 ∧ body ρ1 = ret (.nx (E (g x s)))) :
    ∀ (xs : List τ) (s : σ), P s xs → forL bd body (xs.map e) (E s) = ret (.nx (E (xs.foldl (fun s x => g x s) s)))
  | [], s, _ => rfl
  | x :: r, s, p => by
    obtain ⟨p1, ρ1, e1, e2⟩ := hs x r s p
    rw [List.map_cons, forL_cons, e1, o_some, r_bnd, e2, r_bnd, forOut_nx, for_ret e E g P hs r _ p1, List.foldl_cons]
/-! ### with a state -/
def Tot (m : M C α) (c : C) (Φ : α → C → Prop) : Prop := ∃ a c', m c = .ok (a, c') ∧ Φ a c'
theorem Tot.mono {m : M C α} {c : C} {Φ Ψ : α → C → Prop} (h : Tot m c Φ) (k : ∀ a c', Φ a c' → Ψ a c') : Tot m c Ψ := let ⟨a, c', e, q⟩ := h; ⟨a, c', e, k _ _ q⟩
@[simp] theorem tot_ret (a : α) (c : C) (Φ : α → C → Prop) : Tot (ret a) c Φ ↔ Φ a c := ⟨fun ⟨_, _, e, q⟩ => by cases e; exact q, fun q => ⟨a, c, rfl, q⟩⟩
theorem Tot.bnd {m : M C α} {k : α → M C β} {c : C} {Φ : β → C → Prop} (h : Tot m c fun a c' => Tot (k a) c' Φ) : Tot (bnd m k) c Φ := by
  obtain ⟨a, c', e, b, c2, e2, q⟩ := h
  exact ⟨b, c2, by unfold PyA.bnd; rw [e]; exact e2, q⟩
theorem Tot.noEx {m : M C α} {c : C} {Φ : α → C → Prop} (h : Tot m c Φ) : Tot (noEx m) c Φ := by
  obtain ⟨a, c', e, q⟩ := h
  exact ⟨a, c', by unfold PyA.noEx; rw [e], q⟩
/-- a list by turns that keep G, each answer under Q -/
theorem Tot.comp {τ : Type} {bd : Bnd} {f : FE C} {ρ : PEnv} {e : τ → Vl} {G : C → Prop} {Q : τ → Vl → Prop} : ∀ (xs : List τ) (c : C), G c → (∀ x ∈ xs, ∀ c, G c → ∃ ρ1, bd (e x) ρ = some ρ1 ∧ Tot (f ρ1) c fun y c' => G c' ∧ Q x y) →
    Tot (compL bd gYes f ρ (xs.map e)) c fun ys c' => G c' ∧ ys.length = xs.length ∧ ∀ (i : Nat) (x : τ) (y : Vl), xs[i]? = some x → ys[i]? = some y → Q x y
  | [], c, g, _ => ⟨_, _, rfl, g, rfl, fun i x y h => by simp at h⟩
  | x :: r, c, g, q => by
    obtain ⟨ρ1, e1, h⟩ := q x List.mem_cons_self c g
    rw [List.map_cons, compL_cons, e1, o_some, r_bnd]
    rw [show PyA.noEx (gYes ρ1 : M C Bool) = ret true from rfl, r_bnd, if_pos rfl]
    refine Tot.bnd (h.noEx.mono fun y c1 ⟨g1, qy⟩ => ?_)
    refine Tot.bnd ((Tot.comp r c1 g1 fun z hz => q z (List.mem_cons_of_mem _ hz)).mono fun ys c2 ⟨g2, l, qs⟩ => ?_)
    refine (tot_ret _ _ _).mpr ⟨g2, by simp [l], fun i x' y' h1 h2 => ?_⟩
    cases i with
    | zero => cases h1; cases h2; exact qy
    | succ i => exact qs i x' y' h1 h2
/-- a for loop under an invariant -/
theorem Tot.for {τ : Type} {bd : Bnd} {body : FS C} {e : τ → Vl} {I : Nat → PEnv → C → Prop} : ∀ (xs : List τ) (n : Nat) (ρ : PEnv) (c : C), I n ρ c → (∀ i x, xs[i]? = some x → ∀ ρ c, I (n + i) ρ c → ∃ ρ1, bd (e x) ρ = some ρ1 ∧ Tot (body ρ1) c fun o c' => ∃ ρ', (o = .nx ρ' ∨ o = .ct ρ') ∧ I (n + i + 1) ρ' c') →
    Tot (forL bd body (xs.map e) ρ) c fun o c' => ∃ ρ', o = .nx ρ' ∧ I (n + xs.length) ρ' c'
  | [], n, ρ, c, i, _ => ⟨_, _, rfl, ρ, rfl, i⟩
  | x :: r, n, ρ, c, i, h => by
    obtain ⟨ρ1, e1, t⟩ := h 0 x rfl ρ c i
    rw [List.map_cons, forL_cons, e1, o_some, r_bnd]
    refine Tot.bnd (t.mono fun o c1 ⟨ρ', eo, i1⟩ => ?_)
    have ih := Tot.for r (n + 1) ρ' c1 i1 fun i z hz ρ c hi => by
      have := h (i + 1) z hz ρ c (by rw [show n + (i + 1) = n + 1 + i by omega]; exact hi)
      rw [show n + (i + 1) + 1 = n + 1 + i + 1 by omega] at this
      exact this
    rw [List.length_cons, show n + (r.length + 1) = n + 1 + r.length by omega]
    rcases eo with rfl | rfl <;> exact ih
end
end PyA
/-! PyQ: what the built-ins give on plain values; the register's good states. -/
namespace PyA
open PySem L2
abbrev eN (n : Nat) : Vl := .int (n : Int)
abbrev eS (c : Nat) : Vl := .str [c]
abbrev eC (c : Nat) : Vl := .str [c]
theorem szl {n k : Nat} (h : n ≤ k) (hk : k ≤ 16777216 := by decide) : n ≤ sizeLine := Nat.le_trans h (Nat.le_trans hk (by decide))
section
variable {α τ : Type}
theorem allM_map {f : Vl → Option α} {g : τ → Vl} {h : τ → α} (q : ∀ x, f (g x) = some (h x)) : ∀ xs : List τ, allM f (xs.map g) = some (xs.map h)
  | [] => rfl
  | x :: r => by rw [List.map_cons, allM, q, allM_map q r]; rfl
theorem allP_map {p : τ → Bool} {xs : List τ} : allP [.lst (xs.map fun x => .bl (p x))] = some (.bl (xs.all p)) := by
  show (allM asB _).bind _ = _
  rw [allM_map (h := p) fun _ => rfl]
  simp [Function.comp]
theorem anyP_map {p : τ → Bool} {xs : List τ} : anyP [.lst (xs.map fun x => .bl (p x))] = some (.bl (xs.any p)) := by
  show (allM asB _).bind _ = _
  rw [allM_map (h := p) fun _ => rfl]
  simp [Function.comp]
theorem sumP_map {p : τ → Int} {xs : List τ} : sumP [.lst (xs.map fun x => .int (p x))] = some (.int (xs.map p).sum) := by
  show (allM asI _).map _ = _
  rw [allM_map (h := p) fun _ => rfl]
  rfl
theorem sumP_mapT {p : τ → Int} {xs : List τ} : sumP [.tup (xs.map fun x => .int (p x))] = some (.int (xs.map p).sum) := by
  show (allM asI _).map _ = _
  rw [allM_map (h := p) fun _ => rfl]
  rfl
theorem join_map {p : τ → List Nat} {xs : List τ} (h : ((xs.map p).map (·.length)).sum ≤ sizeLine) : join1 (.str []) [.lst (xs.map fun x => .str (p x))] = some (.str (xs.map p).flatten) := by
  show (match allM asS _ with | some zs => _ | none => _) = _
  rw [allM_map (h := p) fun _ => rfl]
  exact if_pos h
end
@[simp] theorem lenP_tup (xs : List Vl) : lenP [.tup xs] = some (.int xs.length) := rfl
@[simp] theorem lenP_lst (xs : List Vl) : lenP [.lst xs] = some (.int xs.length) := rfl
theorem lenP_str {z : List Nat} (h : z.length ≤ sizeLine) : lenP [.str z] = some (.int z.length) := if_pos h
@[simp] theorem tupleP_lst (xs : List Vl) : tupleP [.lst xs] = some (.tup xs) := rfl
@[simp] theorem tupleP_tup (xs : List Vl) : tupleP [.tup xs] = some (.tup xs) := rfl
@[simp] theorem intP_int (i : Int) : intP [.int i] = some (.int i) := rfl
@[simp] theorem strP_str (z : List Nat) : strP [.str z] = some (.str z) := rfl
@[simp] theorem eqP_str (a b : List Nat) : eqP (.str a) (.str b) = some (.bl (decide (a = b))) := rfl
@[simp] theorem eqP_int (a b : Int) : eqP (.int a) (.int b) = some (.bl (decide (a = b))) := rfl
@[simp] theorem neP_str (a b : List Nat) : neP (.str a) (.str b) = some (.bl (!decide (a = b))) := rfl
@[simp] theorem neP_int (a b : Int) : neP (.int a) (.int b) = some (.bl (!decide (a = b))) := rfl
@[simp] theorem addP_int (a b : Int) : addP (.int a) (.int b) = some (.int (a + b)) := rfl
theorem addP_str {a b : List Nat} (h : a.length + b.length ≤ sizeLine) : addP (.str a) (.str b) = some (.str (a ++ b)) := if_pos h
@[simp] theorem subP_int (a b : Int) : subP (.int a) (.int b) = some (.int (a - b)) := rfl
@[simp] theorem iadd_int (a b : Int) : intB (fun a b => some (.int (a + b))) (.int a) (.int b) = some (.int (a + b)) := rfl
@[simp] theorem negP_int (a : Int) : negP (.int a) = some (.int (-a)) := rfl
@[simp] theorem ltP_int (a b : Int) : ltP (.int a) (.int b) = some (.bl (decide (a < b))) := rfl
@[simp] theorem leP_int (a b : Int) : leP (.int a) (.int b) = some (.bl (decide (a ≤ b))) := rfl
@[simp] theorem gtP_int (a b : Int) : gtP (.int a) (.int b) = some (.bl (decide (b < a))) := rfl
@[simp] theorem geP_int (a b : Int) : geP (.int a) (.int b) = some (.bl (decide (b ≤ a))) := rfl
theorem modP_int {a b : Int} (h : 0 < b) : modP (.int a) (.int b) = some (.int (a % b)) := if_pos h
theorem fdivP_int {a b : Int} (h : 0 < b) (h2 : b < 1073741824) : fdivP (.int a) (.int b) = some (.int (a / b)) := if_pos ⟨h, h2⟩
theorem mulP_l {a b : Int} (h : -(2 ^ 64) < a) (h2 : a < 2 ^ 64) : mulP (.int a) (.int b) = some (.int (a * b)) := if_pos (.inl (decide_eq_true ⟨h, h2⟩))
theorem mulP_r {a b : Int} (h : -(2 ^ 64) < b) (h2 : b < 2 ^ 64) : mulP (.int a) (.int b) = some (.int (a * b)) := if_pos (.inr (decide_eq_true ⟨h, h2⟩))
theorem mulP_s1 {c : Nat} {n : Nat} (h : n ≤ 16777216) : mulP (.str [c]) (.int n) = some (.str (List.replicate n c)) := by
  have e : (if ([c] : List Nat).length * (n : Int).toNat ≤ sizeLine ∧ -(2 ^ 62) ≤ (n : Int) ∧ (n : Int) < 2 ^ 62 then some (Vl.str (List.replicate (n : Int).toNat [c]).flatten) else none) = some (.str (List.replicate n c)) := by
    rw [if_pos]
    · rw [Int.toNat_natCast]
      congr 2
      clear h
      induction n with
      | zero => rfl
      | succ n ih => rw [List.replicate_succ, List.flatten_cons, ih, List.replicate_succ]; rfl
    · rw [Int.toNat_natCast, List.length_singleton, Nat.one_mul]
      exact ⟨szl h, by omega, by omega⟩
  exact e
@[simp] theorem ixP_lst (xs : List Vl) (i : Int) : ixP (.lst xs) (.int i) = atI xs i := rfl
@[simp] theorem ixP_tup (xs : List Vl) (i : Int) : ixP (.tup xs) (.int i) = atI xs i := rfl
theorem ixP_str {z : List Nat} {i : Int} {c : Nat} (h : z.length ≤ sizeLine) (e : atI z i = some c) : ixP (.str z) (.int i) = some (.str [c]) := by
  show (if z.length ≤ sizeLine then _ else none) = _
  rw [if_pos h, e]
  rfl
theorem atI_lt {α : Type} {xs : List α} {i : Nat} (h : i < xs.length) : atI xs (i : Int) = some xs[i] := atI_nat (j := i) (List.getElem?_eq_getElem h)
theorem atI_int {α : Type} {xs : List α} {i : Int} (h0 : 0 ≤ i) (h : i < xs.length) : ∃ x, atI xs i = some x ∧ x ∈ xs := by
  obtain ⟨n, rfl⟩ := Int.eq_ofNat_of_zero_le h0
  have hn : n < xs.length := by omega
  exact ⟨xs[n], atI_lt hn, List.getElem_mem hn⟩
theorem atI_map {α β : Type} {f : α → β} {xs : List α} {i : Int} {x : α} (h : atI xs i = some x) : atI (xs.map f) i = some (f x) := by
  unfold atI at h ⊢
  rw [List.length_map]
  cases e : ixN xs.length i with
  | none => rw [e] at h; cases h
  | some j =>
    rw [e] at h
    have h : xs[j]? = some x := h
    show (xs.map f)[j]? = some (f x)
    rw [List.getElem?_map, h]
    rfl
theorem atI_neg1 {α : Type} (xs : List α) (x : α) : atI (xs ++ [x]) (-1) = some x := atI_last xs x
theorem range1 {n : Nat} (h : n ≤ 16777216) : iRange1 [.int (n : Int)] = some ((List.range n).map fun k => .int (k : Int)) := by
  have e : (if ((n : Int) - 0).toNat ≤ sizeLine ∧ -(2 ^ 62) ≤ (n : Int) ∧ (n : Int) < 2 ^ 62 then some (rangeI 0 n) else none) = some ((List.range n).map fun k => .int (k : Int)) := by
    rw [if_pos ⟨by rw [Int.sub_zero, Int.toNat_natCast]; exact szl h, by omega, by omega⟩]
    unfold rangeI
    rw [Int.sub_zero, Int.toNat_natCast]
    congr 1
    exact List.map_congr_left fun k _ => by rw [Int.zero_add]
  exact e
@[simp] theorem isP_non : isP .non .non = some (.bl true) := rfl
theorem inP_str (c : Nat) (z : List Nat) : inP (.str [c]) (.str z) = some (.bl (decide (c ∈ z))) := rfl
theorem notInP_str (c : Nat) (z : List Nat) : notInP (.str [c]) (.str z) = some (.bl (!decide (c ∈ z))) := rfl
/-! ### the register -/
def Good (c : Cup) : Prop := 0 ≤ c.1 ∧ 0 ≤ c.2 ∧ c.2 < 4294967296
def OkV (v : Vl) (Q : Vl → Prop) (c' : Cup) : Prop := Good c' ∧ Q v
@[simp] theorem cupGet_0 (c : Cup) (k : Vl → M Cup α) : bnd (cupGet 0) k c = k (.int c.1) c := rfl
@[simp] theorem cupGet_1 (c : Cup) (k : Vl → M Cup α) : bnd (cupGet 1) k c = k (.int c.2) c := rfl
@[simp] theorem cupSet_0 (n : Int) (c : Cup) (k : Unit → M Cup α) : bnd (cupSet 0 (.int n)) k c = k () (n, c.2) := rfl
@[simp] theorem cupSet_1 (n : Int) (c : Cup) (k : Unit → M Cup α) : bnd (cupSet 1 (.int n)) k c = k () (c.1, n) := rfl
@[simp] theorem fReg_ap (i k : Nat) (ρ : PEnv) : fReg i k ρ = bnd (opt (look ρ i)) fun x => bnd (opt (isReg x)) fun _ => cupGet k := rfl
@[simp] theorem isReg_0 : isReg (.reg 0) = some () := rfl
@[simp] theorem sReg_ap (i k : Nat) (f : FE Cup) (ρ : PEnv) : sReg i k f ρ = bnd (f ρ) fun y => bnd (opt (look ρ i)) fun x => bnd (opt (isReg x)) fun _ => bnd (cupSet k y) fun _ => ret (.nx ρ) := rfl
@[simp] theorem tot_cg0 {c : Cup} {Φ : Vl → Cup → Prop} : Tot (cupGet 0) c Φ ↔ Φ (.int c.1) c := ⟨fun ⟨_, _, e, q⟩ => by cases e; exact q, fun h => ⟨_, _, rfl, h⟩⟩
@[simp] theorem tot_cg1 {c : Cup} {Φ : Vl → Cup → Prop} : Tot (cupGet 1) c Φ ↔ Φ (.int c.2) c := ⟨fun ⟨_, _, e, q⟩ => by cases e; exact q, fun h => ⟨_, _, rfl, h⟩⟩
@[simp] theorem tot_cs0 {c : Cup} {n : Int} {Φ : Unit → Cup → Prop} : Tot (cupSet 0 (.int n)) c Φ ↔ Φ () (n, c.2) := ⟨fun ⟨_, _, e, q⟩ => by cases e; exact q, fun h => ⟨_, _, rfl, h⟩⟩
@[simp] theorem tot_cs1 {c : Cup} {n : Int} {Φ : Unit → Cup → Prop} : Tot (cupSet 1 (.int n)) c Φ ↔ Φ () (c.1, n) := ⟨fun ⟨_, _, e, q⟩ => by cases e; exact q, fun h => ⟨_, _, rfl, h⟩⟩
@[simp] theorem tot_bnd {C α β : Type} {m : M C α} {k : α → M C β} {c : C} {Φ : β → C → Prop} : Tot (bnd m k) c Φ ↔ Tot m c fun a c' => Tot (k a) c' Φ := by
  refine ⟨fun ⟨b, c2, e, q⟩ => ?_, Tot.bnd⟩
  unfold bnd at e
  cases h : m c with
  | ok p => rw [h] at e; exact ⟨p.1, p.2, h, b, c2, e, q⟩
  | ex n => rw [h] at e; cases e
  | bad => rw [h] at e; cases e
@[simp] theorem tot_ite {C α : Type} {p : Prop} [Decidable p] {a b : M C α} {c : C} {Φ : α → C → Prop} : Tot (if p then a else b) c Φ ↔ if p then Tot a c Φ else Tot b c Φ := by
  split <;> rfl
/-- what is asked behind, set aside -/
theorem Tot.hide {C α : Type} {m : M C α} {c : C} {Φ : α → C → Prop} (h : ∀ Ψ : α → C → Prop, (∀ a c', Φ a c' → Ψ a c') → Tot m c Ψ) : Tot m c Φ := h Φ fun _ _ h => h
/-- for_ret, the loop's start as it stands -/
theorem for_eq {C τ σ : Type} {bd : Bnd} {body : FS C} {ρ : PEnv} (e : τ → Vl) (E : σ → PEnv) (g : τ → σ → σ) (P : σ → List τ → Prop) (s : σ) (xs : List τ) (hρ : ρ = E s) (hP : P s xs)
    (hs : ∀ x r s, P s (x :: r) → P (g x s) r ∧ ∃ ρ1, bd (e x) (E s) = some ρ1 ∧ body ρ1 = ret (.nx (E (g x s)))) : forL bd body (xs.map e) ρ = ret (.nx (E (xs.foldl (fun s x => g x s) s))) := by
  rw [hρ]
  exact for_ret e E g P hs xs s hP
/-- a for loop whose turns are plain, by what holds of the state and of what is still to come -/
theorem for_ex {C τ σ : Type} {bd : Bnd} {body : FS C} {ρ : PEnv} (e : τ → Vl) (E : σ → PEnv) (P : σ → List τ → Prop) (s : σ) (xs : List τ) (hρ : ρ = E s) (hP : P s xs)
    (hs : ∀ x r s, P s (x :: r) → ∃ s', P s' r ∧ ∃ ρ1, bd (e x) (E s) = some ρ1 ∧ body ρ1 = ret (.nx (E s'))) : ∃ s', P s' [] ∧ forL bd body (xs.map e) ρ = ret (.nx (E s')) := by
  subst hρ
  induction xs generalizing s with
  | nil => exact ⟨s, hP, rfl⟩
  | cons x r ih =>
    obtain ⟨s1, p1, ρ1, e1, e2⟩ := hs x r s hP
    obtain ⟨s2, p2, e3⟩ := ih s1 p1
    exact ⟨s2, p2, by rw [List.map_cons, forL_cons, e1, o_some, r_bnd, e2, r_bnd, forOut_nx, e3]⟩
/-! ### step by step -/
section
variable {C : Type} {ρ ρ' : PEnv} {c : C} {Φ : Out → C → Prop} {f : FE C} {t : FT C} {a b s1 s2 : FS C} {x : Vl} {i n : Nat} {bd : Bnd}
theorem t_fn {xs : List Vl} {Φ : Vl → C → Prop} (h : Tot (b (startE n xs)) c fun o c' => Tot (defOut o) c' Φ) : Tot (mkF n b xs) c Φ := Tot.bnd h
theorem t_seq (h : Tot (s1 ρ) c fun o c' => Tot (sThen s2 o) c' Φ) : Tot (sSeq s1 s2 ρ) c Φ := Tot.bnd h
theorem t_set (h : f ρ = ret x) (k : Tot (s2 (ρ.set i (some x))) c Φ) : Tot (sSeq (sSet i f) s2 ρ) c Φ := by
  rw [sSeq_ap, sSet_ap, h]; exact k
theorem t_setT (h : Tot (f ρ) c fun x c' => Tot (s2 (ρ.set i (some x))) c' Φ) : Tot (sSeq (sSet i f) s2 ρ) c Φ := by
  rw [sSeq_ap, sSet_ap, bb]; exact Tot.bnd h
theorem t_bind (h : f ρ = ret x) (h2 : bd x ρ = some ρ') (k : Tot (s2 ρ') c Φ) : Tot (sSeq (sBind bd f) s2 ρ) c Φ := by
  rw [sSeq_ap, sBind_ap, h, r_bnd, h2]; exact k
theorem t_bindT (h : Tot (f ρ) c fun x c' => ∃ ρ', bd x ρ = some ρ' ∧ Tot (s2 ρ') c' Φ) : Tot (sSeq (sBind bd f) s2 ρ) c Φ := by
  rw [sSeq_ap, sBind_ap, bb]
  refine Tot.bnd (h.mono fun x c' ⟨ρ', e, q⟩ => ?_)
  rw [e]
  exact q
theorem t_for {it : PEnv → M C (List Vl)} {xs : List Vl} (h : it ρ = ret xs) (h2 : forL bd a xs ρ = ret (.nx ρ')) (k : Tot (s2 ρ') c Φ) : Tot (sSeq (sFor it bd a) s2 ρ) c Φ := by
  rw [sSeq_ap, sFor_ap, h, r_bnd, h2]
  exact k
theorem for_keep {I : PEnv → Prop} : ∀ (xs : List Vl) (ρ : PEnv), I ρ → (∀ x ∈ xs, ∀ ρ, I ρ → ∃ ρ1, bd x ρ = some ρ1 ∧ ∃ o ρ', a ρ1 = (ret o : M C Out) ∧ (o = .nx ρ' ∨ o = .ct ρ') ∧ I ρ') → ∃ ρ', forL bd a xs ρ = ret (.nx ρ') ∧ I ρ'
  | [], ρ, i, _ => ⟨ρ, rfl, i⟩
  | x :: r, ρ, i, h => by
    obtain ⟨ρ1, e1, o, ρ', e2, eo, i2⟩ := h x List.mem_cons_self ρ i
    obtain ⟨ρ2, e3, i3⟩ := for_keep r ρ' i2 fun y hy => h y (List.mem_cons_of_mem _ hy)
    refine ⟨ρ2, ?_, i3⟩
    rw [forL_cons, e1, o_some, r_bnd, e2, r_bnd]
    rcases eo with rfl | rfl <;> exact e3
theorem t_drop (h : f ρ = ret x) (k : Tot (s2 ρ) c Φ) : Tot (sSeq (sDrop f) s2 ρ) c Φ := by
  rw [sSeq_ap, sDrop_ap, h]; exact k
theorem t_pass (h : t ρ = ret false) (k : Tot (s2 ρ) c Φ) : Tot (sSeq (sIf t a sNil) s2 ρ) c Φ := by
  rw [sSeq_ap, sIf_ap, h]; exact k
theorem t_take (h : t ρ = ret true) (k : Tot (a ρ) c fun o c' => Tot (sThen s2 o) c' Φ) : Tot (sSeq (sIf t a b) s2 ρ) c Φ := by
  rw [sSeq_ap, sIf_ap, h]; exact Tot.bnd k
theorem t_else (h : t ρ = ret false) (k : Tot (b ρ) c fun o c' => Tot (sThen s2 o) c' Φ) : Tot (sSeq (sIf t a b) s2 ρ) c Φ := by
  rw [sSeq_ap, sIf_ap, h]; exact Tot.bnd k
theorem t_ifT (h : Tot (t ρ) c fun k c' => Tot (sSeq (if k = true then a else b) s2 ρ) c' Φ) : Tot (sSeq (sIf t a b) s2 ρ) c Φ := by
  rw [sSeq_ap, sIf_ap, bb]
  refine Tot.bnd (h.mono fun k c' q => ?_)
  cases k <;> exact q
theorem t_ret (h : f ρ = ret x) (k : Φ (.rt x) c) : Tot (sRet f ρ) c Φ := by
  rw [sRet_ap, h]; exact ⟨_, _, rfl, k⟩
theorem t_retT (h : Tot (f ρ) c fun x c' => Φ (.rt x) c') : Tot (sRet f ρ) c Φ := by
  rw [sRet_ap]; exact Tot.bnd (h.mono fun x c' q => ⟨_, _, rfl, q⟩)
theorem e_set (h : f ρ = ret x) : sSeq (sSet i f) s2 ρ = s2 (ρ.set i (some x)) := by rw [sSeq_ap, sSet_ap, h]; rfl
theorem e_bind (h : f ρ = ret x) (h2 : bd x ρ = some ρ') : sSeq (sBind bd f) s2 ρ = s2 ρ' := by rw [sSeq_ap, sBind_ap, h, r_bnd, h2]; rfl
theorem e_parF {own : Nat → Bool} {is : List Nat} {fs : List (FE C)} {xs : List Vl} (h : seqA fs ρ = ret xs) (h2 : storeF own is xs ρ = some ρ') : sSeq (sParF own is fs) s2 ρ = s2 ρ' := by rw [sSeq_ap, sParF_ap, h, r_bnd, h2]; rfl
theorem e_drop (h : f ρ = ret x) : sSeq (sDrop f) s2 ρ = s2 ρ := by rw [sSeq_ap, sDrop_ap, h]; rfl
theorem e_pass (h : t ρ = ret false) : sSeq (sIf t a sNil) s2 ρ = s2 ρ := by rw [sSeq_ap, sIf_ap, h]; rfl
theorem e_take (h : t ρ = ret true) : sSeq (sIf t a b) s2 ρ = bnd (a ρ) (sThen s2) := by rw [sSeq_ap, sIf_ap, h]; rfl
theorem e_else (h : t ρ = ret false) : sSeq (sIf t a b) s2 ρ = bnd (b ρ) (sThen s2) := by rw [sSeq_ap, sIf_ap, h]; rfl
theorem e_for {it : PEnv → M C (List Vl)} {xs : List Vl} (h : it ρ = ret xs) : sSeq (sFor it bd a) s2 ρ = bnd (forL bd a xs ρ) (sThen s2) := by rw [sSeq_ap, sFor_ap, h]; rfl
theorem e_ret (h : f ρ = ret x) : sRet f ρ = ret (.rt x) := by rw [sRet_ap, h]; rfl
theorem e_fn {xs : List Vl} : mkF n b xs = bnd (b (startE n xs)) defOut := rfl
end
theorem cut_take {α : Type} (xs : List α) (k : Nat) : cutL xs none (some (k : Int)) = xs.take k := by
  unfold cutL
  rw [HT.sIx_nat, HT.sIx_none, Nat.sub_zero, List.drop_zero, List.take_eq_take_iff]
  omega
theorem cut_drop {α : Type} (xs : List α) (k : Nat) : cutL xs (some (k : Int)) none = xs.drop k := by
  unfold cutL
  rw [HT.sIx_nat, HT.sIx_none]
  by_cases h : k ≤ xs.length
  · rw [Nat.min_eq_left h, List.take_of_length_le (by rw [List.length_drop]; omega)]
  · rw [Nat.min_eq_right (by omega), Nat.sub_self, List.take_zero, List.drop_eq_nil_of_le (by omega)]
theorem slT_take (xs : List Vl) (k : Nat) : slP (.tup xs) none (some (k : Int)) = some (.tup (xs.take k)) := by
  rw [← cut_take]; rfl
theorem slT_drop (xs : List Vl) (k : Nat) : slP (.tup xs) (some (k : Int)) none = some (.tup (xs.drop k)) := by
  rw [← cut_drop]; rfl
theorem addP_tup {xs ys : List Vl} (h : xs.length + ys.length ≤ 1000000) : addP (.tup xs) (.tup ys) = some (.tup (xs ++ ys)) := if_pos (szl h)
theorem flat1 {α : Type} : ∀ zs : List α, (zs.map fun p => [p]).flatten = zs
  | [] => rfl
  | a :: r => by rw [List.map_cons, List.flatten_cons, flat1 r]; rfl
theorem each_of {α β : Type} {e : α → β} {Q : α → Prop} : ∀ ys : List β, (∀ y ∈ ys, ∃ t, y = e t ∧ Q t) → ∃ ts : List α, ys = ts.map e ∧ ts.length = ys.length ∧ ∀ t ∈ ts, Q t
  | [], _ => ⟨[], rfl, rfl, fun _ h => nomatch h⟩
  | y :: ys, h => by
    obtain ⟨t, rfl, ht⟩ := h y List.mem_cons_self
    obtain ⟨ts, rfl, l, q⟩ := each_of ys fun z hz => h z (List.mem_cons_of_mem _ hz)
    exact ⟨t :: ts, rfl, congrArg Nat.succ l, fun c hc => (List.mem_cons.mp hc).elim (fun e => e ▸ ht) (q c)⟩
/-- a list by turns that keep G, each answer an e of what is under Q -/
theorem Tot.list {C τ β : Type} {bd : Bnd} {f : FE C} {ρ : PEnv} {e : τ → Vl} {d : β → Vl} {G : C → Prop} {Q : β → Prop} (xs : List τ) (c : C) (g : G c) (h : ∀ x ∈ xs, ∀ c, G c → ∃ ρ1, bd (e x) ρ = some ρ1 ∧ Tot (f ρ1) c fun y c' => G c' ∧ ∃ t, y = d t ∧ Q t) :
    Tot (compL bd gYes f ρ (xs.map e)) c fun ys c' => G c' ∧ ∃ ts : List β, ys = ts.map d ∧ ts.length = xs.length ∧ ∀ t ∈ ts, Q t := by
  refine (Tot.comp (Q := fun _ y => ∃ t, y = d t ∧ Q t) xs c g h).mono fun ys c' ⟨g', l, q⟩ => ⟨g', ?_⟩
  obtain ⟨ts, e1, l1, q1⟩ := each_of (e := d) (Q := Q) ys fun y hy => by
    obtain ⟨i, hi, e⟩ := List.getElem_of_mem hy
    exact q i _ y (List.getElem?_eq_getElem (l ▸ hi)) (by rw [List.getElem?_eq_getElem hi, e])
  exact ⟨ts, e1, l1.trans l, q1⟩
@[simp] theorem all_true {α : Type} (xs : List α) : (xs.all fun _ => true) = true := by
  induction xs with
  | nil => rfl
  | cons a r ih => rw [List.all_cons, ih]; rfl
end PyA
/-! PyR: sorted(set(..)) of ints, what is not covered, xs += ys. -/
namespace L2
open PySem PySem.Spec PyProof.Rows
/-- a new set, as it is laid -/
abbrev newS (w : World) : Obj := { cls := .type "set", dict := none, data := .set #[] 0 (.fresh 0 0 (!w.params.followText "set-order")) }
section
variable {P : Program} {w : World} {A : Around} {E : Value → Shared → Prop} {s : Shared}
set_option maxHeartbeats 8000000 in
/-- set(xs), xs a list of ints -/
theorem set_of_list {l : Addr} {us : Array Value} (ns : List Int) {Q : Value → Shared → Prop} (hh : A.handled = none) (isl : s.heap.IsList l us) (hint : IntsAre us.toList ns) (few : ns.length + 1 < scanBound)
    (fin : ∀ (h2 : Heap) (tk c : Nat), SetR w h2 s.heap.objs.size (fun j => decide (j ∈ ns)) c → c ≤ ns.length → (∀ b o, s.heap.get? b = some o → h2.get? b = some o) → Q (.ref s.heap.objs.size) { s with heap := h2, toks := tk }) :
    wpAny (model P w) A (call (.type "set") [.ref l]) Q E s := by
  have sz : us.size = ns.length := by (have q := IntsAre.length hint; rwa [Array.length_toList] at q)
  obtain ⟨c, tl, hmro⟩ := F.called_set.mro
  have f1 := F.called_set.made; have f2 := F.called_set.sub; have f3 := F.called_set.notType; have f4 := F.called_set.canCreate; have f5 := F.typeCall_set_1 (.ref l)
  refine wpAny_call (codeAny_of_tree ?_); show wpAny _ _ (callAny (.type "set") _) _ _ _
  refine wpAny_pure ⟨Code.quiet_builtin _ (by decide +kernel), codeAny_builtin F.entry_type_call ?_⟩; rw [Around.under_plain (weight_type_call_type "set" [.ref l] []) rfl]
  repeat (any_goals (first | assumption | wp_step)) -- the class is asked
  refine codeAny_mono (code_set_led1 (.ref l) (E := E) (Q₁ := fun x t => x = .ref s.heap.objs.size ∧ t = { s with heap := s.heap.push (newS w) }) ⟨rfl, rfl⟩) fun r t hr => ?_
  match r, hr with
  | .error e, hr => exact hr
  | .ok (.ret x), hr =>
    obtain ⟨rfl, rfl⟩ := hr
    have at0 : (s.heap.push (newS w)).get? s.heap.objs.size = some (newS w) := Heap.get?_push_size _ rfl
    have ty0 : Shared.TypeIs { s with heap := s.heap.push (newS w) } (.ref s.heap.objs.size) "set" := ⟨_, at0, rfl⟩
    have g1 := F.called_set.init.lookup; have g2 := F.called_set.init.bind (.ref s.heap.objs.size)
    repeat (any_goals (first | assumption | wp_step)) -- up to __init__
    refine codeAny_mono (codeAny_call_builtin (R := wants (fun r t => r = .none ∧ ∃ h2 tk c, t = { s with heap := h2, toks := tk } ∧ SetR w h2 s.heap.objs.size (fun j => decide (j ∈ ns)) c ∧ c ≤ ns.length ∧
        (∀ b o, s.heap.get? b = some o → h2.get? b = some o)) E) F.called_set.init.plain F.entry_set_init (check_set_init_1 ty0 ?_)) fun r2 t2 hr2 => ?_
    · obtain ⟨⟨oc, od, odt, osl⟩, hol, hcl, nl, hdl⟩ := isl
      simp only at hcl hdl; subst hcl hdl
      have hol2 : (s.heap.push (newS w)).get? l = some { cls := .type "list", dict := od, data := .seq us nl, slots := osl } := Heap.get?_push_of_some _ hol
      have q1 := F.sub_list_set; have q2 := F.sub_list_frozenset; have q3 : (Value.type "list" == Value.type "dict") = false := by decide
      have isl2 : (s.heap.push (newS w)).IsList l us := ⟨_, hol2, rfl, nl, rfl⟩
      unfold Builtin.«set.__init__» noKeywords Builtin.Frozenset.updateFrom; generalize e0 : pyIter = PI
      wp_walk; subst e0; refine wpAny_pyIter_list isl2 ?_; refine wpAny_bind (wpAny_runValue ?_)
      have lt : l < s.heap.objs.size := Heap.lt_size hol
      have hz : (s.heap.push (newS w)).objs.size = s.heap.objs.size + 1 := Heap.size_push ..
      have ne1 : l ≠ (s.heap.push (newS w)).objs.size := by (rw [hz]; exact Nat.ne_of_lt (Nat.lt_succ_of_lt lt))
      have nin : s.heap.objs.size ∉ [(s.heap.push (newS w)).objs.size, l] := by (rw [hz]; simp only [List.mem_cons, List.not_mem_nil, or_false, not_or]; exact ⟨Nat.ne_of_lt (Nat.lt_succ_self _), Nat.ne_of_gt lt⟩)
      have each : ∀ (i : Nat) (v : Value), us[i]? = some v → ∃ k t, ns[i]? = some k ∧ v = .int k t := fun i v hv => by
        have hi : i < ns.length := by (rw [← sz]; exact (Array.getElem?_eq_some_iff.mp hv).1)
        obtain ⟨t, e⟩ := PyProof.Rows.IntsAre.int_at hint i v (by rw [Array.getElem?_toList]; exact hv)
        exact ⟨ns[i], t, List.getElem?_eq_getElem hi, by rw [e, List.getD_eq_getElem?_getD, List.getElem?_eq_getElem hi] <;> rfl⟩
      have at1 : ((s.heap.push (newS w)).push { cls := .type "list_iterator", data := .fields #[.ref l, .int 0 0] }).get? s.heap.objs.size = some (newS w) := Heap.get?_push_of_some _ at0
      refine set_update_ints ((Walks.list (by simp [hh]) _ l ne1 us).toS) s.heap.objs.size nin ns sz few each (us.size - 0) 0 _ (by omega) (Nat.zero_le _) ⟨⟨_, Heap.get?_push_size _ rfl, rfl, rfl⟩, (isl2.push _)⟩ ⟨0, Nat.le_refl 0, setR_new_at at1⟩ fun s2 c2 mv hc2 r2 => ?_
      obtain ⟨h2, g2, d2, tk2, os2⟩ := s2
      obtain rfl : g2 = s.gens := mv.gens
      obtain rfl : d2 = s.drawn := mv.drawn
      obtain rfl : os2 = s.os := mv.os
      refine wpAny_pure ?_; refine wpAny_pure ⟨rfl, h2, tk2, c2, rfl, r2, by omega, fun b o e => ?_⟩
      have lb : b < s.heap.objs.size := Heap.lt_size e
      exact mv.heap b o (by rw [hz]; simp only [List.mem_cons, List.not_mem_nil, or_false, not_or]; exact ⟨Nat.ne_of_lt lb, Nat.ne_of_lt (Nat.lt_succ_of_lt lb)⟩) (Heap.get?_push_of_some _ (Heap.get?_push_of_some _ e))
    · match r2, hr2 with
      | .error e, hr2 => exact hr2
      | .ok (.ret x), hr2 =>
        obtain ⟨rfl, h2, tk, c, rfl, a1, a2, a3⟩ := hr2
        repeat (any_goals (first | assumption | wp_step)) -- back to the call
        exact fin _ _ _ a1 a2 a3
end
end L2
namespace PyA
open PySem L2
/-! ### ascending, each once -/
def insU (a : Int) : List Int → List Int
  | [] => [a]
  | b :: r => if a < b then a :: b :: r else if a = b then b :: r else b :: insU a r
def srtU : List Int → List Int
  | [] => []
  | a :: r => insU a (srtU r)
theorem insU_mem {a x : Int} : ∀ {l : List Int}, x ∈ insU a l ↔ x = a ∨ x ∈ l
  | [] => by simp [insU]
  | b :: r => by
    unfold insU
    split
    · simp
    · split
      · rename_i h
        subst h
        simp
      · rw [List.mem_cons, insU_mem (l := r), List.mem_cons]
        grind
theorem srtU_mem {x : Int} : ∀ {l : List Int}, x ∈ srtU l ↔ x ∈ l
  | [] => Iff.rfl
  | a :: r => by rw [srtU, insU_mem, srtU_mem (l := r), List.mem_cons]
theorem insU_lt {a : Int} : ∀ {l : List Int}, l.Pairwise (· < ·) → (insU a l).Pairwise (· < ·)
  | [], _ => by simp [insU]
  | b :: r, h => by
    unfold insU
    have h' := List.pairwise_cons.mp h
    split
    · rename_i hab
      refine List.pairwise_cons.mpr ⟨fun x hx => ?_, h⟩
      rcases List.mem_cons.mp hx with rfl | hx
      · exact hab
      · exact Int.lt_trans hab (h'.1 x hx)
    · split
      · exact h
      · refine List.pairwise_cons.mpr ⟨fun x hx => ?_, insU_lt h'.2⟩
        rcases insU_mem.mp hx with rfl | hx
        · omega
        · exact h'.1 x hx
theorem srtU_lt : ∀ l : List Int, (srtU l).Pairwise (· < ·)
  | [] => List.Pairwise.nil
  | _ :: r => insU_lt (srtU_lt r)
/-- strictly ascending lists of the same things are one -/
theorem asc_eq : ∀ {a b : List Int}, a.Pairwise (· < ·) → b.Pairwise (· < ·) → (∀ x, x ∈ a ↔ x ∈ b) → a = b
  | [], b, _, _, h => by
    cases b with
    | nil => rfl
    | cons y b => exact absurd ((h y).mpr List.mem_cons_self) (by simp)
  | x :: a, b, ha, hb, h => by
    cases b with
    | nil => exact absurd ((h x).mp List.mem_cons_self) (by simp)
    | cons y b =>
      rw [List.pairwise_cons] at ha hb
      have e : x = y := by
        rcases List.mem_cons.mp ((h x).mp List.mem_cons_self) with e | e
        · exact e
        · rcases List.mem_cons.mp ((h y).mpr List.mem_cons_self) with e2 | e2
          · exact e2.symm
          · have h1 := ha.1 y e2
            have h2 := hb.1 x e
            omega
      subst e
      rw [asc_eq ha.2 hb.2 fun z => ?_]
      constructor
      · intro hz
        rcases List.mem_cons.mp ((h z).mp (List.mem_cons_of_mem _ hz)) with e | e
        · subst e
          exact absurd (ha.1 z hz) (by omega)
        · exact e
      · intro hz
        rcases List.mem_cons.mp ((h z).mpr (List.mem_cons_of_mem _ hz)) with e | e
        · subst e
          exact absurd (hb.1 z hz) (by omega)
        · exact e
theorem srtU_id {l : List Int} (h : l.Pairwise (· < ·)) : srtU l = l := asc_eq (srtU_lt l) h fun _ => srtU_mem
theorem srtU_len (l : List Int) : (srtU l).length ≤ l.length := by
  have hi : ∀ (a : Int) (r : List Int), (insU a r).length ≤ r.length + 1 := fun a r => by
    induction r with
    | nil => simp [insU]
    | cons b r ih =>
      unfold insU
      split
      · simp
      · split
        · simp
        · simp only [List.length_cons]
          omega
  induction l with
  | nil => exact Nat.le_refl _
  | cons a r ih =>
    have := hi a (srtU r)
    rw [srtU, List.length_cons]
    omega
theorem nodup_len : ∀ {a b : List Int}, a.Nodup → (∀ x ∈ a, x ∈ b) → a.length ≤ b.length
  | [], _, _, _ => Nat.zero_le _
  | x :: a, b, h, s => by
    rw [List.nodup_cons] at h
    have hx := s x List.mem_cons_self
    have ih := nodup_len (b := b.erase x) h.2 fun y hy => (List.mem_erase_of_ne (by rintro rfl; exact h.1 hy)).mpr (s y (List.mem_cons_of_mem _ hy))
    rw [List.length_erase_of_mem hx] at ih
    have := List.length_pos_of_mem hx
    rw [List.length_cons]
    omega
def itemsOf : Vl → Option (List Vl)
  | .lst xs => some xs
  | .tup xs => some xs
  | _ => none
def sortedSet1 (x : Vl) : Option Vl := (itemsOf x).bind fun xs => (allM asI xs).bind fun ns => if ns.length ≤ 1000 ∧ (srtU ns).length < 64 then some (.lst ((srtU ns).map Vl.int)) else none
section
variable {X : Cx}
def tSortedSet (K : PySem.W.Frag) (ta : TE) : TE := fun σ H Q => ta σ H fun x H1 => ∃ (l : Addr) (ns : List Int), x = V.ref l ∧ (SqL K H1 l (ns.map V.int) ∨ SqT K H1 l (ns.map V.int)) ∧ ns.length ≤ 1000 ∧ (srtU ns).length < 64 ∧
  ∀ p, H1 p = none → Q (.ref p) (upd H1 p (.lst ((srtU ns).map V.int)))
theorem pe_sortedSet {a : Expr} {ta : TE} {p p2 q pos : Pos} (hc : X.calm = true) (hg : Gl X "sorted") (hm : X.mg "sorted" = none) (hg2 : Gl X "set") (hm2 : X.mg "set" = none) (hb : bootBuiltins "sorted" = some (.builtin "sorted") := by decide +kernel) (ha : PE X a ta)
    (na : starEach [a] X.env = (false, eval a X.env) :: starEach [] X.env := by rfl) : PE X (.Call (.Name "sorted" p) [.Call (.Name "set" p2) [a] [] q] [] pos) (tSortedSet X.K ta) := by
  refine ⟨fun pins s σ H Q I h => ?_⟩
  refine PyProof.Rows.Call_ (ld_blt I hg hm hb ?_)
  refine PyProof.Rows.callWith_builtin1 (PyProof.Rows.args_cons ?_ rfl) rfl rfl
  refine PyProof.Rows.Call_ (ld_blt I hg2 hm2 PyProof.Rows.boot_set ?_)
  refine PyProof.Rows.callWith_type1 (PyProof.Rows.args_cons (thn (ha.run pins s σ H _ I h) fun v s1 ⟨x, H1, I1, r1, q1⟩ => PyProof.Rows.args_nil ?_) na) na rfl
  obtain ⟨l, ns, rfl, hq, h1, h2, q1⟩ := q1
  cases r1
  have fin : ∀ (h2 : Heap) (tk c : Nat), SetR X.w h2 s1.heap.objs.size (fun j => decide (j ∈ ns)) c → c ≤ ns.length → (∀ b o, s1.heap.get? b = some o → h2.get? b = some o) →
      wpAny (model X.prog X.w) X.A (spliced (backTo pos (starEach [] X.env))) (fun vs s₂ => wpAny (model X.prog X.w) X.A (call (.builtin "sorted") (Value.ref s1.heap.objs.size :: vs)) (EP X pins σ Q) X.xe s₂) X.xe { s1 with heap := h2, toks := tk } := fun h3 tk c R hcn kp => by
    refine PyProof.Rows.args_nil ?_
    have I2 : Inv X pins σ H1 { s1 with heap := h3, toks := tk } := I1.kept fun b o e => kp b o e
    have c64 : c < 64 := by
      obtain ⟨o, es, ep, t, ho, hex, hd, g, nd, hm, hb, hf, hn, hr, hl⟩ := R
      have e1 : (es.toList.map keyOf).length ≤ (srtU ns).length := by
        refine nodup_len nd fun k hk => ?_
        exact srtU_mem.mpr (of_decide_eq_true ((hm k).mpr hk))
      rw [List.length_map, Array.length_toList] at e1
      omega
    refine sorted_set R (I2.ok.hd hc) c64 fun s' p out cc ms k g o hp hgp hi hs hm hl => ?_
    have em : ms = srtU ns := asc_eq hs (srtU_lt ns) fun k => by rw [hm, srtU_mem, decide_eq_true_eq]
    subst em
    have hlen : ((srtU ns).map V.int).length ≤ sizeLine := by (rw [List.length_map, PySem.sizeLine_eq]; omega)
    have hn : H1 p = none := I2.hok.fresh hp
    have J := Inv.call (s := { s1 with heap := h3, toks := tk }) (h' := s'.heap) (g' := s'.gens) (d' := s'.drawn) (t' := s'.toks) (ch := []) I2 (Un.laid k hp hn) (I2.hok.laid k hp (o := .lst ((srtU ns).map V.int)) ⟨hlen, out.toList, cc, vals_of_ints hi, hgp⟩) (by rw [g]; exact I2.bare) (fun _ z => nomatch z)
    have e : s' = { s1 with heap := s'.heap, gens := s'.gens, drawn := s'.drawn, toks := s'.toks } := by
      have : s'.os = s1.os := o
      obtain ⟨_, _, _, _, _⟩ := s'
      cases this
      rfl
    rw [e]
    exact ⟨.ref p, _, J, rfl, q1 p hn⟩
  rcases hq with hq | hq
  · obtain ⟨its, r, pl, hz⟩ := I1.list hq
    exact set_of_list ns (I1.ok.hd hc) pl.isList (by simpa using r.ints) (by unfold scanBound; omega) fin
  · obtain ⟨its, r, pl, hz⟩ := I1.tuple hq
    exact call_set_tupI ns (I1.ok.hd hc) pl (by simpa using r.ints) (by unfold scanBound; omega) fin
variable {C : Type} {g : Fx C} {e : Expr} {p p2 q pos : Pos}
theorem de_sortedSet {f : FE C} {bb : Bool} (hK : X.K = g.K) (hc : X.calm = true) (hg : Gl X "sorted") (hm : X.mg "sorted" = none) (hg2 : Gl X "set") (hm2 : X.mg "set" = none) (ha : PE X e (tE g bb f))
    (na : starEach [e] X.env = (false, eval e X.env) :: starEach [] X.env := by rfl) : PE X (.Call (.Name "sorted" p) [.Call (.Name "set" p2) [e] [] q] [] pos) (tN g (fUn sortedSet1 f)) :=
  (pe_sortedSet hc hg hm hg2 hm2 (ha := ha) (na := na)).weak fun σ H Q ⟨ρ, c, ei, hd, q⟩ => ⟨ρ, c, ei, hd, (GoX.bind q).mono fun x c1 H1 k hd1 w v rv => by
    obtain ⟨z, ez, w2⟩ := go_opt w
    unfold sortedSet1 at ez
    obtain ⟨xs, e1, ez⟩ := Option.bind_eq_some_iff.mp ez
    obtain ⟨ns, e2, ez⟩ := Option.bind_eq_some_iff.mp ez
    split at ez
    · rename_i hn
      cases ez
      have fin : ∀ p, H1 p = none → Q (.ref p) (upd H1 p (.lst ((srtU ns).map V.int))) := fun p np => by
        refine tN_last (f := f) (ei.kp hd k) hd1 k w2 (.ref p) _ (same_new np) ?_
        rw [if_pos rfl]
        unfold RepN
        refine ⟨p, _, rfl, np, upd_same, by rw [List.length_map]; exact szl (k := 1000) (by omega), Reps.of_get (by simp) fun i x v ex ev => ?_⟩
        rw [List.getElem?_map] at ex ev
        cases en : (srtU ns)[i]? with
        | none => rw [en] at ex; cases ex
        | some n =>
          rw [en] at ex ev
          cases ex
          cases ev
          exact rep_int
      rw [hK]
      cases x with
      | lst ys =>
        cases e1
        obtain ⟨p, us, rfl, hq, l, rs⟩ := ri_lst rv.i
        rw [allM_reps (gv := V.int) asI_rep e2 rs] at hq
        exact ⟨p, ns, rfl, .inl (SqL.of hq), hn.1, hn.2, fin⟩
      | tup ys =>
        cases e1
        obtain ⟨p, us, rfl, hq, l, rs⟩ := ri_tup rv.i
        rw [allM_reps (gv := V.int) asI_rep e2 rs] at hq
        exact ⟨p, ns, rfl, .inr hq, hn.1, hn.2, fin⟩
      | _ => cases e1
    · cases ez⟩
/-! ### what is not covered -/
def fBad {C : Type} : FE C := fun _ => bad
def sBad {C : Type} : FS C := fun _ => bad
theorem de_bad {bb : Bool} : PE X e (tE g bb fBad) := ⟨fun pins s σ H Q I ⟨_, _, _, _, z⟩ => z.elim⟩
theorem ds_bad {st : Stmt} : PS X st (tS g sBad) := ⟨fun pins s σ H D I ⟨_, _, _, _, z⟩ => z.elim⟩
/-! ### xs += ys -/
def extAt (ρ : PEnv) (i : Nat) (y : Vl) : Option PEnv := match look ρ i, y with
  | some (.lst xs), .lst ys => if xs.length + ys.length ≤ sizeLine then some (ρ.set i (some (.lst (xs ++ ys)))) else none
  | _, _ => none
def sExt {C : Type} (i : Nat) (f : FE C) : FS C := fun ρ => bnd (opt (lstAt ρ i)) fun _ => bnd (f ρ) fun y => bnd (opt (extAt ρ i y)) fun ρ' => ret (.nx ρ')
theorem ds_augL {i : Nat} {x : Str} {f : FE C} {p0 : Pos} (hK : X.K = g.K) (hN : X.N.Nodup) (hi : X.N[i]? = some x) (hx : Loc X.env.scope x) (ho : g.own i = true) (h : PE X e (tE g true f))
    (hf : X.fn x = true ∨ X.env.scope.names.lookup x = some .local := by first | exact .inl rfl | exact .inr rfl | assumption) : PS X (.AugAssign (.Name x p0) .Add e pos) (tS g (sExt i f)) :=
  (ps_aug hN hi hx h (ip_of iop_ext) hf).weak fun D σ H ⟨ρ, c, ei, hd, q⟩ => by
    obtain ⟨xs, q0, vs, e0, e1, hq, l, rs, q⟩ := ei.lstFirst hd ho q
    refine ⟨.ref q0, e1, ρ, c, ei, hd, (GoX.bind1 (GoS.bx ei q)).mono fun y c1 H1 k hd1 w v rv => ?_⟩
    have ei1 := ei.kp hd k
    obtain ⟨ρ', er, w2⟩ := GoX.opt hd1 (GoS.bx ei1 w)
    unfold extAt at er
    rw [look_of e0] at er
    cases y with
    | lst ys =>
      dsimp only at er
      by_cases hl : xs.length + ys.length ≤ sizeLine
      · rw [if_pos hl] at er
        cases er
        have nr := (ei.own_some ⟨i, _, ho, e0, e1⟩).choose_spec.2.2.2
        have h1 := k _ _ hq nr
        unfold RepB at rv
        rw [if_pos rfl] at rv
        unfold Rep at rv
        obtain ⟨p, us, rfl, ap, hp, lp, rp⟩ := rv
        have hl' : (vs ++ us).length ≤ sizeLine := by (rw [List.length_append, rs.len, rp.len]; exact hl)
        refine ⟨q0, p, vs, us, rfl, rfl, h1, hp, by rw [rs.len, rp.len]; exact hl, ?_⟩
        obtain ⟨a1, a2, a3⟩ := ei1.mut hd1 ho e0 e1 (xs' := xs ++ ys) (vs' := vs ++ us) hl' (Reps.append (rs.kp hd k) rp)
        have es : σ.set i (some (.ref q0)) = σ := List.ext_getElem? fun j => by
          rw [List.getElem?_set]
          split
          · rename_i hj
            subst hj
            split
            · exact e1.symm
            · rename_i hlt
              rw [List.getElem?_eq_none (by omega)] at e1
              cases e1
          · rfl
        rw [es]
        exact w2 σ _ a1 a3 a2
      · rw [if_neg hl] at er
        cases er
    | _ => cases er
end
end PyA
/-! PyS: count and index of a sign. -/
namespace PyA
open PySem L2
section
open PySem.StrLaws PySem.Builtin PySem.Builtin.Str
theorem occ_sign (x : Str) (c lim : Nat) : ∀ (n lo free : Nat) (acc : Array Nat), free ≤ lo → acc.size ≤ lim →
    (forIn (List.range' lo n) (acc, free) (occBody x ⟨#[c]⟩ x.length lim)).run.fst.toList = (acc.toList ++ (List.range' lo n).filter fun i => decide (x.cps.toList[i]? = some c)).take lim
  | 0, lo, free, acc, _, h => by
    show acc.toList = _
    rw [List.range'_zero, List.filter_nil, List.append_nil, List.take_of_length_le (by rw [Array.length_toList]; exact h)]
  | n + 1, lo, free, acc, hf, h => by
    rw [List.range'_succ, List.forIn_cons, List.filter_cons]
    unfold occBody
    have sa := subAt_one x c lo
    by_cases hc : x.cps.toList[lo]? = some c
    · rw [decide_eq_true hc, if_pos (rfl : true = true)]
      by_cases hs : acc.size < lim
      · rw [if_pos ⟨⟨⟨hs, hf⟩, (sa.mpr hc).1⟩, (sa.mpr hc).2⟩]
        refine (occ_sign x c lim n (lo + 1) (lo + 1) (acc.push lo) (Nat.le_refl _) (by rw [Array.size_push]; exact hs)).trans ?_
        rw [Array.toList_push, List.append_assoc]
        rfl
      · rw [if_neg fun z => hs z.1.1.1]
        refine (occ_sign x c lim n (lo + 1) free acc (by omega) h).trans ?_
        have el : acc.toList.length = lim := by rw [Array.length_toList]; omega
        rw [← el, List.take_left, List.take_left]
    · rw [decide_eq_false hc, if_neg (c := false = true) Bool.false_ne_true, if_neg fun z => hc (sa.mp ⟨z.1.2, z.2⟩)]
      exact occ_sign x c lim n (lo + 1) free acc (by omega) h
theorem count_sign (z : List Nat) (c : Nat) : ∀ n, ((List.range n).filter fun i => decide (z[i]? = some c)).length = (z.take n).count c
  | 0 => by simp
  | n + 1 => by
    rw [List.range_succ, List.filter_append, List.length_append, count_sign z c n, List.take_add_one, List.count_append]
    congr 1
    cases e : z[n]? with
    | none => simp [e]
    | some d =>
      by_cases h : d = c
      · subst h
        simp [e]
      · simp [e, h]
theorem txt_count (z : List Nat) (c : Nat) : Txt.count ⟨z.toArray⟩ ⟨[c].toArray⟩ = (z.count c : Nat) := by
  show (((occurrences ⟨z.toArray⟩ ⟨#[c]⟩ 0 z.toArray.size (z.toArray.size + 1)).length : Nat) : Int) = _
  rw [occ_eq, List.size_toArray, show (z.length : Nat) = (⟨z.toArray⟩ : Str).length from (str_len z).symm, occ_sign _ c _ _ 0 0 #[] (Nat.le_refl _) (Nat.zero_le _), str_len]
  rw [show (#[] : Array Nat).toList = [] from rfl, List.nil_append, List.length_take, Nat.sub_zero, ← List.range_eq_range', count_sign, List.take_of_length_le (by simp)]
  have := List.count_le_length (a := c) (l := z)
  exact congrArg (fun n : Nat => (n : Int)) (Nat.min_eq_right (Nat.le_trans this (Nat.le_succ _)))
theorem occ_first {z : List Nat} {c : Nat} (h : c ∈ z) : ∃ rest, occurrences (⟨z.toArray⟩ : Str) ⟨[c].toArray⟩ 0 (⟨z.toArray⟩ : Str).length 1 = z.idxOf c :: rest := by
  rw [occ_eq, show (⟨[c].toArray⟩ : Str) = ⟨#[c]⟩ from rfl, occ_sign _ c _ _ 0 0 #[] (Nat.le_refl _) (Nat.zero_le _), str_len]
  rw [show (#[] : Array Nat).toList = [] from rfl, List.nil_append, Nat.sub_zero, ← List.range_eq_range']
  have hi := List.idxOf_lt_length_of_mem h
  have e : ((List.range (z.length + 1)).filter fun i => decide (z[i]? = some c)).head? = some (z.idxOf c) := by
    rw [List.head?_filter, List.find?_range_eq_some]
    refine ⟨by simp [List.getElem?_eq_getElem hi], List.mem_range.mpr (by omega), fun j hj => ?_⟩
    have hj2 : j < z.length := by omega
    rw [List.getElem?_eq_getElem hj2]
    have := List.not_of_lt_findIdx (xs := z) (p := fun x => x == c) (i := j) (by simpa [List.idxOf] using hj)
    simpa using this
  show ∃ rest, List.take 1 ((List.range (z.length + 1)).filter fun i => decide (z[i]? = some c)) = _
  cases e2 : (List.range (z.length + 1)).filter fun i => decide (z[i]? = some c) with
  | nil => rw [e2] at e; cases e
  | cons a r =>
    rw [e2] at e
    cases e
    exact ⟨[], rfl⟩
end
section
variable {X : Cx}
def scountP (x : Vl) (xs : List Vl) : Option Vl := match x, xs with
  | .str z, [.str [c]] => some (.int (z.count c : Nat))
  | _, _ => none
theorem met_scount : MetP false X "str.count" scountP := fun T => mt_count.weak fun v vs H Q ⟨x, xs, B, A, z, rx, r, e, q⟩ => by
  unfold scountP at e
  split at e
  · rename_i z c
    cases e
    obtain ⟨u, rfl, ry⟩ := is_one r
    refine ⟨_, _, ri_str rx, by rw [ri_str ry], ?_⟩
    rw [txt_count]
    exact ans_val q fun _ => rep_int
  · cases e
def sindexP (x : Vl) (xs : List Vl) : Option Vl := match x, xs with
  | .str z, [.str [c]] => if c ∈ z then some (.int (z.idxOf c : Nat)) else none
  | _, _ => none
theorem met_sindex : MetP false X "str.index" sindexP := fun T => mt_sindex.weak fun v vs H Q ⟨x, xs, B, A, z, rx, r, e, q⟩ => by
  unfold sindexP at e
  split at e
  · rename_i z c
    split at e
    · rename_i hc
      cases e
      obtain ⟨u, rfl, ry⟩ := is_one r
      obtain ⟨rest, e⟩ := occ_first hc
      exact ⟨_, _, _, rest, ri_str rx, by rw [ri_str ry], e, ans_val q fun _ => rep_int⟩
    · cases e
  · cases e
end
end PyA
/-! PyT: plain tools: while, several stores under Tot, equality. -/
namespace PyA
open PySem L2
section
variable {C : Type} {ρ ρ' : PEnv} {c : C} {Φ : Out → C → Prop} {f : FE C} {t : FT C} {a b s1 s2 : FS C} {x : Vl} {i j n : Nat} {bd : Bnd}
/-- a while loop whose n turns are plain -/
theorem while_run {t : FT C} {body : FS C} (E : Nat → PEnv) (n : Nat) (h1 : ∀ k, k < n → t (E k) = ret true ∧ body (E k) = ret (.nx (E (k + 1)))) (h2 : t (E n) = ret false) (m : Nat) (hm : n < m) : whileL t body m (E 0) = ret (.nx (E n)) := by
  have go : ∀ d k, k + d = n → ∀ m, d < m → whileL t body m (E k) = ret (.nx (E n)) := fun d => by
    induction d with
    | zero =>
      intro k hk m hm
      obtain ⟨m, rfl⟩ : ∃ m', m = m' + 1 := ⟨m - 1, by omega⟩
      have : k = n := by omega
      subst this
      rw [whileL, h2]
      rfl
    | succ d ih =>
      intro k hk m hm
      obtain ⟨m, rfl⟩ : ∃ m', m = m' + 1 := ⟨m - 1, by omega⟩
      obtain ⟨e1, e2⟩ := h1 k (by omega)
      rw [whileL, e1, r_bnd, if_pos rfl, e2, r_bnd, forOut_nx]
      exact ih (k + 1) (by omega) m (by omega)
  exact go n 0 (by omega) m hm
theorem t_while {body : FS C} (h : whileL t body n ρ = ret (.nx ρ')) (k : Tot (s2 ρ') c Φ) : Tot (sSeq (whileL t body n) s2 ρ) c Φ := by
  rw [sSeq_ap, h]
  exact k
theorem e_while {body : FS C} (h : whileL t body n ρ = ret (.nx ρ')) : sSeq (whileL t body n) s2 ρ = s2 ρ' := by
  rw [sSeq_ap, h]
  rfl
theorem t_par2 {f g : FE C} (h : Tot (f ρ) c fun x c1 => Tot (g ρ) c1 fun y c2 => Tot (s2 ((ρ.set i (some x)).set j (some y))) c2 Φ) : Tot (sSeq (sPar i j f g) s2 ρ) c Φ := by
  rw [sSeq_ap, sPar_ap, bb]
  refine Tot.bnd (h.mono fun x c1 h => ?_)
  rw [bb]
  exact Tot.bnd (h.mono fun y c2 h => h)
theorem t_parF {own : Nat → Bool} {is : List Nat} {fs : List (FE C)} (h : Tot (seqA fs ρ) c fun xs c1 => ∃ ρ', storeF own is xs ρ = some ρ' ∧ Tot (s2 ρ') c1 Φ) : Tot (sSeq (sParF own is fs) s2 ρ) c Φ := by
  rw [sSeq_ap, sParF_ap, bb]
  refine Tot.bnd (h.mono fun xs c1 ⟨ρ', e, q⟩ => ?_)
  rw [bb, e]
  exact q
theorem t_passE (h : t ρ = ret false) (k : Φ (.nx ρ) c) : Tot (sIf t a sNil ρ) c Φ := by
  rw [sIf_ap, h]
  exact ⟨_, _, rfl, k⟩
theorem e_passE (h : t ρ = ret false) : sIf t a sNil ρ = ret (.nx ρ) := by
  rw [sIf_ap, h]
  rfl
theorem t_forT {it : PEnv → M C (List Vl)} {xs : List Vl} (h : it ρ = ret xs) (h2 : Tot (forL bd a xs ρ) c fun o c' => ∃ ρ', o = .nx ρ' ∧ Tot (s2 ρ') c' Φ) : Tot (sSeq (sFor it bd a) s2 ρ) c Φ := by
  rw [sSeq_ap, sFor_ap, h, r_bnd]
  exact Tot.bnd (h2.mono fun o c' ⟨ρ', e, q⟩ => by subst e; exact q)
end
/-! ### equality -/
def eqDs (xs ys : List Vl) : Bool := PyData.eqvAll (toDs xs) (toDs ys)
@[simp] theorem eqD_int (a b : Int) : eqD (.int a) (.int b) = decide (a = b) := by
  simp [eqD, toD, PyData.eqv]
  rw [Bool.eq_iff_iff]
  simp
@[simp] theorem eqD_str (a b : List Nat) : eqD (.str a) (.str b) = decide (a = b) := by
  simp [eqD, toD, PyData.eqv]
  rw [Bool.eq_iff_iff]
  simp
@[simp] theorem eqD_bl (a b : Bool) : eqD (.bl a) (.bl b) = decide (a = b) := by
  cases a <;> cases b <;> rfl
@[simp] theorem eqD_tup (xs ys : List Vl) : eqD (.tup xs) (.tup ys) = eqDs xs ys := by simp [eqD, toD, eqDs, PyData.eqv]
@[simp] theorem eqD_lst (xs ys : List Vl) : eqD (.lst xs) (.lst ys) = eqDs xs ys := by simp [eqD, toD, eqDs, PyData.eqv]
@[simp] theorem eqDs_nil : eqDs [] [] = true := by simp [eqDs, toDs, PyData.eqvAll]
@[simp] theorem eqDs_cons (x y : Vl) (xs ys : List Vl) : eqDs (x :: xs) (y :: ys) = (eqD x y && eqDs xs ys) := by simp [eqDs, toDs, eqD, PyData.eqvAll]
@[simp] theorem eqDs_nc (y : Vl) (ys : List Vl) : eqDs [] (y :: ys) = false := by simp [eqDs, toDs, PyData.eqvAll]
@[simp] theorem eqDs_cn (y : Vl) (ys : List Vl) : eqDs (y :: ys) [] = false := by simp [eqDs, toDs, PyData.eqvAll]
theorem eqDs_map {τ : Type} [DecidableEq τ] {e : τ → Vl} (h : ∀ a b, eqD (e a) (e b) = decide (a = b)) : ∀ xs ys : List τ, eqDs (xs.map e) (ys.map e) = decide (xs = ys)
  | [], [] => by simp
  | [], y :: ys => by simp
  | x :: xs, [] => by simp
  | x :: xs, y :: ys => by
    rw [List.map_cons, List.map_cons, eqDs_cons, h, eqDs_map h xs ys, Bool.eq_iff_iff]
    simp
theorem eqP_of {x y : Vl} (hx : shp deep x = true) (hy : shp deep y = true) (ns : (∃ a, x = .tup a) ∨ ∃ a, x = .lst a) : eqP x y = some (.bl (eqD x y)) := by
  rcases ns with ⟨a, rfl⟩ | ⟨a, rfl⟩ <;> exact if_pos ⟨hx, hy⟩
theorem neP_of {x y : Vl} (hx : shp deep x = true) (hy : shp deep y = true) (ns : (∃ a, x = .tup a) ∨ ∃ a, x = .lst a) : neP x y = some (.bl (!eqD x y)) := by
  unfold neP
  rw [eqP_of hx hy ns]
theorem eqP_tups {τ : Type} [DecidableEq τ] {e : τ → Vl} (h : ∀ a b, eqD (e a) (e b) = decide (a = b)) (hs : ∀ x, shp 11 (e x) = true) (xs ys : List τ) : eqP (.tup (xs.map e)) (.tup (ys.map e)) = some (.bl (decide (xs = ys))) := by
  have k : ∀ zs : List τ, shp deep (.tup (zs.map e)) = true := fun zs => by
    show (zs.map e).all (shp 11) = true
    rw [List.all_map, List.all_eq_true]
    exact fun x _ => hs x
  rw [eqP_of (k xs) (k ys) (.inl ⟨_, rfl⟩), eqD_tup, eqDs_map h]
theorem eqP_lsts {τ : Type} [DecidableEq τ] {e : τ → Vl} (h : ∀ a b, eqD (e a) (e b) = decide (a = b)) (hs : ∀ x, shp 11 (e x) = true) (xs ys : List τ) : eqP (.lst (xs.map e)) (.lst (ys.map e)) = some (.bl (decide (xs = ys))) := by
  have k : ∀ zs : List τ, shp deep (.lst (zs.map e)) = true := fun zs => by
    show (zs.map e).all (shp 11) = true
    rw [List.all_map, List.all_eq_true]
    exact fun x _ => hs x
  rw [eqP_of (k xs) (k ys) (.inr ⟨_, rfl⟩), eqD_lst, eqDs_map h]
/-! ### the set's list of numbers -/
theorem sortedSet_eN (ns : List Nat) (h : ns.length < 64) : ∃ ms : List Nat, sortedSet1 (.lst (ns.map eN)) = some (.lst (ms.map eN)) ∧ ms.Pairwise (· < ·) ∧ (∀ x, x ∈ ms ↔ x ∈ ns) ∧ ms.length ≤ ns.length := by
  have ha : allM asI (ns.map eN) = some (ns.map fun n : Nat => (n : Int)) := allM_map (h := fun n : Nat => (n : Int)) (fun _ => rfl) ns
  obtain ⟨ms, e, _, _⟩ := each_of (e := fun n : Nat => (n : Int)) (Q := fun _ => True) (srtU (ns.map fun n : Nat => (n : Int))) fun x hx => by
    obtain ⟨n, _, rfl⟩ := List.mem_map.mp (srtU_mem.mp hx)
    exact ⟨n, rfl, trivial⟩
  have l := srtU_len (ns.map fun n : Nat => (n : Int))
  rw [List.length_map] at l
  have l2 : ms.length = (srtU (ns.map fun n : Nat => (n : Int))).length := by rw [e, List.length_map]
  refine ⟨ms, ?_, ?_, fun x => ?_, by omega⟩
  · unfold sortedSet1
    simp only [itemsOf, Option.bind_some, ha]
    rw [if_pos ⟨by rw [List.length_map]; omega, by omega⟩, e, List.map_map]
    rfl
  · have := srtU_lt (ns.map fun n : Nat => (n : Int))
    rw [e, List.pairwise_map] at this
    exact this.imp fun h => by omega
  · have := srtU_mem (x := (x : Int)) (l := ns.map fun n : Nat => (n : Int))
    rw [e, List.mem_map, List.mem_map] at this
    constructor
    · intro hx
      obtain ⟨a, ha, ea⟩ := this.mp ⟨x, hx, rfl⟩
      exact (Int.ofNat_inj.mp ea) ▸ ha
    · intro hx
      obtain ⟨a, ha, ea⟩ := this.mpr ⟨x, hx, rfl⟩
      exact (Int.ofNat_inj.mp ea) ▸ ha
end PyA
/-! PyU: order of plain data: min, max, sorted of lists of tuples, texts. -/
namespace PyA
open PySem L2
def ltV (x y : Vl) : Bool := PySem.W.dataLt (toD x) (toD y)
def alikeV (x y : Vl) : Bool := PySem.W.alike (toD x) (toD y)
def isN : Vl → Bool
  | .non => true
  | _ => false
/-- data that can be compared with one another -/
def ordV (xs : List Vl) : Bool := xs.all (shp 11) && xs.all fun x => !isN x && xs.all fun y => alikeV x y
def minF (a : Vl) (r : List Vl) : Vl := r.foldl (fun m y => if ltV y m = true then y else m) a
def maxF (a : Vl) (r : List Vl) : Vl := r.foldl (fun m y => if ltV m y = true then y else m) a
def min1V (x : Vl) : Option Vl := (itemsOf x).bind fun
  | [] => none
  | a :: r => if ordV (a :: r) = true then some (minF a r) else none
def max1V (x : Vl) : Option Vl := (itemsOf x).bind fun
  | [] => none
  | a :: r => if ordV (a :: r) = true then some (maxF a r) else none
def minV : List Vl → Option Vl := op1 min1V
def maxV : List Vl → Option Vl := op1 max1V
mutual
theorem toD_inj : ∀ (x y : Vl) (n m : Nat), shp n x = true → shp m y = true → toD x = toD y → x = y
  | .non, y, n, m, h, k, e => by cases y <;> first | rfl | (unfold toD at e; cases e; done) | (cases m <;> simp [shp] at k)
  | .bl b, y, n, m, h, k, e => by cases y <;> first | (unfold toD at e; cases e; done) | (unfold toD at e; cases e; rfl)
  | .int b, y, n, m, h, k, e => by cases y <;> first | (unfold toD at e; cases e; done) | (unfold toD at e; cases e; rfl)
  | .str b, y, n, m, h, k, e => by
    cases y <;> first | (unfold toD at e; cases e; done) | skip
    rename_i z
    unfold toD at e
    have e := congrArg (fun d : PyData => match d with | .str s => s.cps.toList | _ => []) e
    simp at e
    rw [e]
  | .tup xs, y, n, m, h, k, e => by
    cases y <;> first | (unfold toD at e; cases e; done) | skip
    rename_i ys
    cases n <;> cases m <;> first | (simp [shp] at h; done) | (simp [shp] at k; done) | skip
    rename_i n m
    have h : xs.all (shp n) = true := h
    have k : ys.all (shp m) = true := k
    unfold toD at e
    rw [toDs_inj xs ys n m h k (by injection e)]
  | .lst xs, y, n, m, h, k, e => by
    cases y <;> first | (unfold toD at e; cases e; done) | skip
    rename_i ys
    cases n <;> cases m <;> first | (simp [shp] at h; done) | (simp [shp] at k; done) | skip
    rename_i n m
    have h : xs.all (shp n) = true := h
    have k : ys.all (shp m) = true := k
    unfold toD at e
    rw [toDs_inj xs ys n m h k (by injection e)]
  | .dk _ _, y, n, m, h, k, e => by cases n <;> simp [shp] at h
  | .reg _, y, n, m, h, k, e => by cases n <;> simp [shp] at h
theorem toDs_inj : ∀ (xs ys : List Vl) (n m : Nat), xs.all (shp n) = true → ys.all (shp m) = true → toDs xs = toDs ys → xs = ys
  | [], [], _, _, _, _, _ => rfl
  | [], y :: ys, _, _, _, _, e => by unfold toDs at e; cases e
  | x :: xs, [], _, _, _, _, e => by unfold toDs at e; cases e
  | x :: xs, y :: ys, n, m, h, k, e => by
    rw [List.all_cons, Bool.and_eq_true] at h k
    unfold toDs at e
    injection e with e1 e2
    rw [toD_inj x y n m h.1 k.1 e1, toDs_inj xs ys n m h.2 k.2 e2]
end
theorem toDs_eq : ∀ xs : List Vl, toDs xs = xs.map toD
  | [] => by unfold toDs; rfl
  | x :: r => by unfold toDs; rw [toDs_eq r]; rfl
theorem minD_eq : ∀ (r : List Vl) (a : Vl), PySem.W.minD (toD a) (r.map toD) = toD (minF a r)
  | [], a => rfl
  | y :: r, a => by
    have := minD_eq r (if ltV y a = true then y else a)
    unfold PySem.W.minD minF at this ⊢
    rw [List.map_cons, List.foldl_cons, List.foldl_cons, ← this]
    congr 1
    unfold ltV
    split <;> rfl
theorem maxD_eq : ∀ (r : List Vl) (a : Vl), PySem.W.maxD (toD a) (r.map toD) = toD (maxF a r)
  | [], a => rfl
  | y :: r, a => by
    have := maxD_eq r (if ltV a y = true then y else a)
    unfold PySem.W.maxD maxF at this ⊢
    rw [List.map_cons, List.foldl_cons, List.foldl_cons, ← this]
    congr 1
    unfold ltV
    split <;> rfl
theorem minF_mem : ∀ (r : List Vl) (a : Vl), minF a r ∈ a :: r
  | [], a => List.mem_cons_self
  | y :: r, a => by
    have := minF_mem r (if ltV y a = true then y else a)
    unfold minF at this ⊢
    rw [List.foldl_cons]
    rcases List.mem_cons.mp this with h | h
    · rw [h]
      split <;> simp
    · simp [h]
theorem maxF_mem : ∀ (r : List Vl) (a : Vl), maxF a r ∈ a :: r
  | [], a => List.mem_cons_self
  | y :: r, a => by
    have := maxF_mem r (if ltV a y = true then y else a)
    unfold maxF at this ⊢
    rw [List.foldl_cons]
    rcases List.mem_cons.mp this with h | h
    · rw [h]
      split <;> simp
    · simp [h]
theorem ordV_of {xs : List Vl} (h : ordV xs = true) : xs.all (shp 11) = true ∧ PySem.W.AlikeAll (xs.map toD) ∧ PyData.depthAll (xs.map toD) ≤ 11 := by
  unfold ordV at h
  rw [Bool.and_eq_true] at h
  obtain ⟨h1, h2⟩ := h
  rw [List.all_eq_true] at h2
  refine ⟨h1, ⟨fun d hd e he => ?_, fun d hd => ?_⟩, ?_⟩
  · obtain ⟨x, hx, rfl⟩ := List.mem_map.mp hd
    obtain ⟨y, hy, rfl⟩ := List.mem_map.mp he
    have := h2 x hx
    rw [Bool.and_eq_true, List.all_eq_true] at this
    exact this.2 y hy
  · obtain ⟨x, hx, rfl⟩ := List.mem_map.mp hd
    have := h2 x hx
    rw [Bool.and_eq_true] at this
    have hs := List.all_eq_true.mp h1 x hx
    intro e
    cases x <;> first | (unfold toD at e; cases e; done) | (simp [isN] at this; done) | (simp [shp] at hs; done)
  · have k := shp_ok 12 (.tup xs) h1
    have k2 := k.2
    unfold toD PyData.depth at k2
    rw [toDs_eq] at k2
    omega
section
variable {X : Cx}
theorem cr_minD (hc : X.calm = true) (hu : X.A.units + 64 < cLine) : CallR X (.builtin "min") (fun vs H Q => ∃ (a : Addr) (us : List V) (d : PyData) (ds : List PyData), vs = [V.ref a] ∧ (SqL X.K H a us ∨ SqT X.K H a us) ∧ DpAll X.K H us (d :: ds) ∧ PySem.W.AlikeAll (d :: ds) ∧ PyData.depthAll (d :: ds) ≤ 11 ∧
    ∀ (i : Nat) (u : V) (e : PyData), us[i]? = some u → (d :: ds)[i]? = some e → e = PySem.W.minD d ds → Q u H) := by
  intro pins s σ H vs us Q I r h
  obtain ⟨a, ws, d, ds, rfl, hq, dp, al, dd, q⟩ := h
  rw [Vals.ref1 r]
  have fin : ∀ (its : List Value), Vals ws its → ∃ as, ReadsAll s.heap its.toArray.toList (d :: ds) as ∧ ∀ (i : Nat) (v : Value) (h' : Heap) (tk : Nat) (bs : List Addr), its.toArray[i]? = some v → Reads h' v (PySem.W.minD d ds) bs → (∀ b o, s.heap.get? b = some o → h'.get? b = some o) → EP X pins σ Q v { s with heap := h', toks := tk } := fun its rv => by
    obtain ⟨as, ra⟩ := Dp.readsAll I _ _ _ dp rv
    have ra : ReadsAll s.heap its.toArray.toList (d :: ds) as := by simpa using ra
    refine ⟨as, ra, fun i v h' tk bs e rd hk => ?_⟩
    obtain ⟨cs, r1, hi, hm, _⟩ := PySem.W.readsAll_atA ra i v e
    have eq : (d :: ds).getD i .none = PySem.W.minD d ds := by
      refine PySem.W.alike_unique _ _ _ _ _ (al.1 _ hm _ ?_) (PySem.W.reads_keeps hk r1) rd
      unfold PySem.W.minD
      have go : ∀ (ys : List PyData) (x : PyData), ys.foldl (fun a y => if PySem.W.dataLt y a then y else a) x ∈ x :: ys := fun ys => by
        induction ys with
        | nil => exact fun x => List.mem_cons_self
        | cons y ys ih =>
          intro x
          rw [List.foldl_cons]
          rcases List.mem_cons.mp (ih (if PySem.W.dataLt y x then y else x)) with h | h
          · rw [h]
            split <;> simp
          · simp [h]
      exact go ds d
    have e' : its[i]? = some v := by simpa using e
    obtain ⟨u, eu, ru⟩ : ∃ u, ws[i]? = some u ∧ RelV u v := by
      cases ew : ws[i]? with
      | none => rw [rv.none_of ew] at e'; cases e'
      | some u =>
        obtain ⟨v', e1, e2⟩ := rv.get ew
        rw [e'] at e1
        cases e1
        exact ⟨u, rfl, e2⟩
    refine ⟨u, H, I.kept (t' := tk) hk, ru, q i u _ eu ?_ eq⟩
    rw [List.getD_eq_getElem?_getD, List.getElem?_eq_getElem hi]
    rfl
  rcases hq with hq | hq
  · obtain ⟨its, rv, hl, _⟩ := I.list hq
    obtain ⟨as, ra, k⟩ := fin its rv
    exact PySem.W.min_list_data (I.ok.hd hc) hl.isList ra al (by omega) k
  · obtain ⟨its, rv, hl, _⟩ := I.tuple hq
    obtain ⟨as, ra, k⟩ := fin its rv
    exact PySem.W.min_tuple_data (I.ok.hd hc) hl ra al (by omega) k
theorem cr_maxD (hc : X.calm = true) (hu : X.A.units + 64 < cLine) : CallR X (.builtin "max") (fun vs H Q => ∃ (a : Addr) (us : List V) (d : PyData) (ds : List PyData), vs = [V.ref a] ∧ (SqL X.K H a us ∨ SqT X.K H a us) ∧ DpAll X.K H us (d :: ds) ∧ PySem.W.AlikeAll (d :: ds) ∧ PyData.depthAll (d :: ds) ≤ 11 ∧
    ∀ (i : Nat) (u : V) (e : PyData), us[i]? = some u → (d :: ds)[i]? = some e → e = PySem.W.maxD d ds → Q u H) := by
  intro pins s σ H vs us Q I r h
  obtain ⟨a, ws, d, ds, rfl, hq, dp, al, dd, q⟩ := h
  rw [Vals.ref1 r]
  have fin : ∀ (its : List Value), Vals ws its → ∃ as, ReadsAll s.heap its.toArray.toList (d :: ds) as ∧ ∀ (i : Nat) (v : Value) (h' : Heap) (tk : Nat) (bs : List Addr), its.toArray[i]? = some v → Reads h' v (PySem.W.maxD d ds) bs → (∀ b o, s.heap.get? b = some o → h'.get? b = some o) → EP X pins σ Q v { s with heap := h', toks := tk } := fun its rv => by
    obtain ⟨as, ra⟩ := Dp.readsAll I _ _ _ dp rv
    have ra : ReadsAll s.heap its.toArray.toList (d :: ds) as := by simpa using ra
    refine ⟨as, ra, fun i v h' tk bs e rd hk => ?_⟩
    obtain ⟨cs, r1, hi, hm, _⟩ := PySem.W.readsAll_atA ra i v e
    have eq : (d :: ds).getD i .none = PySem.W.maxD d ds := by
      refine PySem.W.alike_unique _ _ _ _ _ (al.1 _ hm _ ?_) (PySem.W.reads_keeps hk r1) rd
      unfold PySem.W.maxD
      have go : ∀ (ys : List PyData) (x : PyData), ys.foldl (fun a y => if PySem.W.dataLt a y then y else a) x ∈ x :: ys := fun ys => by
        induction ys with
        | nil => exact fun x => List.mem_cons_self
        | cons y ys ih =>
          intro x
          rw [List.foldl_cons]
          rcases List.mem_cons.mp (ih (if PySem.W.dataLt x y then y else x)) with h | h
          · rw [h]
            split <;> simp
          · simp [h]
      exact go ds d
    have e' : its[i]? = some v := by simpa using e
    obtain ⟨u, eu, ru⟩ : ∃ u, ws[i]? = some u ∧ RelV u v := by
      cases ew : ws[i]? with
      | none => rw [rv.none_of ew] at e'; cases e'
      | some u =>
        obtain ⟨v', e1, e2⟩ := rv.get ew
        rw [e'] at e1
        cases e1
        exact ⟨u, rfl, e2⟩
    refine ⟨u, H, I.kept (t' := tk) hk, ru, q i u _ eu ?_ eq⟩
    rw [List.getD_eq_getElem?_getD, List.getElem?_eq_getElem hi]
    rfl
  rcases hq with hq | hq
  · obtain ⟨its, rv, hl, _⟩ := I.list hq
    obtain ⟨as, ra, k⟩ := fin its rv
    exact PySem.W.max_list_data (I.ok.hd hc) hl.isList ra al (by omega) k
  · obtain ⟨its, rv, hl, _⟩ := I.tuple hq
    obtain ⟨as, ra, k⟩ := fin its rv
    exact PySem.W.max_tuple_data (I.ok.hd hc) hl ra al (by omega) k
theorem best_fin {K : PySem.W.Frag} {T : Tk} {A : Addr → Prop} {H : Hp} {Q : VK} {xs : List Vl} {us : List V} {z : Vl} (hz : z ∈ xs) (hs : xs.all (shp 11) = true) (rs : Reps K T A H xs us) (q : Ans false K T A H z Q) (i : Nat) (u : V) (e : PyData) (eu : us[i]? = some u) (ee : (xs.map toD)[i]? = some e) (ez : e = toD z) : Q u H := by
  have hs' := List.all_eq_true.mp hs
  rw [List.getElem?_map] at ee
  cases ex : xs[i]? with
  | none => rw [ex] at ee; cases ee
  | some x =>
    rw [ex] at ee
    cases ee
    have hx : x ∈ xs := List.mem_of_getElem? ex
    have : x = z := toD_inj x z 11 11 (hs' x hx) (hs' z hz) ez
    subst this
    obtain ⟨u', e1, r1⟩ := rs.get ex
    rw [eu] at e1
    cases e1
    exact q u H (Same.refl H) (by rw [if_neg Bool.false_ne_true]; exact .inl r1)
theorem items_rep {K : PySem.W.Frag} {T : Tk} {B A : Addr → Prop} {H : Hp} {x : Vl} {xs : List Vl} {v : V} (e : itemsOf x = some xs) (r : RepI K T B A H x v) : ∃ p us, v = .ref p ∧ (SqL K H p us ∨ SqT K H p us) ∧ us.length ≤ sizeLine ∧ Reps K T A H xs us := by
  cases x <;> first | cases e | skip
  · obtain ⟨p, us, rfl, hq, l, rs⟩ := ri_tup r
    exact ⟨p, us, rfl, .inr hq, l, rs⟩
  · obtain ⟨p, us, rfl, hq, l, rs⟩ := ri_lst r
    exact ⟨p, us, rfl, .inl (SqL.of hq), l, rs⟩
theorem call_minV (hc : X.calm = true) (hu : X.A.units + 64 < cLine) : CallP false X (.builtin "min") minV := fun T => (cr_minD hc hu).weak fun vs H Q ⟨xs, B, A, z, r, e, q⟩ => by
  obtain ⟨x, rfl, e'⟩ := op1_some e
  clear e
  obtain ⟨v, rfl, rx⟩ := is_one r
  unfold min1V at e'
  obtain ⟨ys, e1, e2⟩ := Option.bind_eq_some_iff.mp e'
  obtain ⟨p, us, rfl, hq, l, rs⟩ := items_rep e1 rx
  cases ys with
  | nil => cases e2
  | cons a r =>
    dsimp only at e2
    split at e2
    · rename_i ho
      cases e2
      obtain ⟨o1, o2, o3⟩ := ordV_of ho
      have dp := Reps.dp _ _ 11 o1 rs
      rw [toDs_eq] at dp
      exact ⟨p, us, toD a, r.map toD, rfl, hq, dp, o2, o3, fun i u e eu ee ez => best_fin (minF_mem r a) o1 rs q i u e eu ee (by rw [ez, minD_eq])⟩
    · cases e2
theorem call_maxV (hc : X.calm = true) (hu : X.A.units + 64 < cLine) : CallP false X (.builtin "max") maxV := fun T => (cr_maxD hc hu).weak fun vs H Q ⟨xs, B, A, z, r, e, q⟩ => by
  obtain ⟨x, rfl, e'⟩ := op1_some e
  clear e
  obtain ⟨v, rfl, rx⟩ := is_one r
  unfold max1V at e'
  obtain ⟨ys, e1, e2⟩ := Option.bind_eq_some_iff.mp e'
  obtain ⟨p, us, rfl, hq, l, rs⟩ := items_rep e1 rx
  cases ys with
  | nil => cases e2
  | cons a r =>
    dsimp only at e2
    split at e2
    · rename_i ho
      cases e2
      obtain ⟨o1, o2, o3⟩ := ordV_of ho
      have dp := Reps.dp _ _ 11 o1 rs
      rw [toDs_eq] at dp
      exact ⟨p, us, toD a, r.map toD, rfl, hq, dp, o2, o3, fun i u e eu ee ez => best_fin (maxF_mem r a) o1 rs q i u e eu ee (by rw [ez, maxD_eq])⟩
    · cases e2
/-! ### sorted -/
def sortF (xs : List Vl) : List Vl := xs.mergeSort (PySem.W.dataLe false toD)
def isTC : Vl → Bool
  | .tup (_ :: _) => true
  | _ => false
def notT : Vl → Bool
  | .tup _ => false
  | .non => false
  | _ => true
def sortV1 : Vl → Option Vl
  | .lst xs => if ordV xs = true ∧ (xs.all isTC || xs.all notT) = true then some (.lst (sortF xs)) else none
  | _ => none
def sortV : List Vl → Option Vl := op1 sortV1
theorem cr_sortD (hu : X.A.units + 64 < cLine) : CallR X (.builtin "sorted") (fun vs H Q => ∃ (a : Addr) (us : List V) (xs : List Vl), vs = [V.ref a] ∧ SqL X.K H a us ∧ us.length ≤ sizeLine ∧ us.length = xs.length ∧ DpAll X.K H us (xs.map toD) ∧ PySem.W.AlikeAll (xs.map toD) ∧ PyData.depthAll (xs.map toD) ≤ 11 ∧ PySem.W.Sortable (xs.map toD) ∧
    ∀ p, H p = none → Q (.ref p) (upd H p (.lst (((us.zip xs).mergeSort (PySem.W.dataLe false fun b => toD b.2)).map (·.1))))) := by
  intro pins s σ H vs us Q I r h
  obtain ⟨a, ws, xs, rfl, hq, hl0, hlen, dp, al, dd, so, q⟩ := h
  rw [Vals.ref1 r]
  obtain ⟨its, rv, hl, hz⟩ := I.list hq
  obtain ⟨as, ra⟩ := Dp.readsAll I _ _ _ dp rv
  have e1 : ∀ (ws : List V) (its : List Value) (xs : List Vl), Vals ws its → ws.length = xs.length → PySem.W.EachIs (fun v (b : V × Vl) => RelV b.1 v) its (ws.zip xs) := fun ws => by
    induction ws with
    | nil => intro its xs rv _; cases rv; exact .nil
    | cons w ws ih =>
      intro its xs rv hl
      cases xs with
      | nil => cases hl
      | cons x xs =>
        cases rv with
        | cons r t => exact .cons r (ih _ xs t (Nat.succ.inj hl))
  have e2 : ∀ (ws : List V) (its : List Value) (xs : List Vl) (as : List Addr), ReadsAll s.heap its (xs.map toD) as → ws.length = xs.length → PySem.W.EachIs (fun v (b : V × Vl) => ∃ as, Reads s.heap v (toD b.2) as) its (ws.zip xs) := fun ws its xs => by
    induction xs generalizing ws its with
    | nil => intro as ra hl; cases ra; cases ws with | nil => exact .nil | cons _ _ => cases hl
    | cons x xs ih =>
      intro as ra hl
      cases ws with
      | nil => cases hl
      | cons w ws =>
        cases ra with
        | cons r t => exact .cons ⟨_, r⟩ (ih ws _ _ t (Nat.succ.inj hl))
  have em : (ws.zip xs).map (fun b => toD b.2) = xs.map toD := by
    have h := List.map_snd_zip (l₁ := ws) (l₂ := xs) (by omega)
    show List.map (toD ∘ Prod.snd) _ = _
    rw [← List.map_map, h]
  have ez : (ws.zip xs).length = ws.length := by rw [List.length_zip]; omega
  refine PySem.W.sorted_data (enc := fun b : V × Vl => toD b.2) (bs := ws.zip xs) (vs := its) hl.isList (e1 ws its xs rv hlen) (e2 ws its xs as ra hlen) (by rw [em]; exact al.1) (by rw [em]; exact so) (by rw [ez]; exact hl0) (fun b hb => ?_) fun out ol ei => ?_
  · have h1 : toD b.2 ∈ xs.map toD := List.mem_map.mpr ⟨b.2, (List.of_mem_zip hb).2, rfl⟩
    have h2 : (toD b.2).depth ≤ PyData.depthAll (xs.map toD) := by
      have go : ∀ (l : List PyData) (d : PyData), d ∈ l → d.depth ≤ PyData.depthAll l := fun l => by
        induction l with
        | nil => intro d h; cases h
        | cons y l ih =>
          intro d h
          unfold PyData.depthAll
          rcases List.mem_cons.mp h with rfl | h
          · exact Nat.le_max_left _ _
          · exact Nat.le_trans (ih d h) (Nat.le_max_right _ _)
      exact go _ _ h1
    omega
  · obtain ⟨ep, he⟩ := PyProof.Rows.sortedAll_at s.heap its out.toArray
    have vl : ∀ (bs : List (V × Vl)) (out : List Value), PySem.W.EachIs (fun v (b : V × Vl) => RelV b.1 v) out bs → Vals (bs.map (·.1)) out := fun bs => by
      induction bs with
      | nil => intro out e; cases e; exact .nil
      | cons b bs ih =>
        intro out e
        cases e with
        | cons r t => exact .cons r (ih _ t)
    have hlen2 : (((ws.zip xs).mergeSort (PySem.W.dataLe false fun b => toD b.2)).map (·.1)).length ≤ sizeLine := by rw [List.length_map, List.length_mergeSort, ez]; exact hl0
    exact ⟨.ref _, _, I.laid (a := s.heap.objs.size + 1) (o := .lst _) (t' := s.toks) (fun _ _ => PyProof.Rows.sortedAll_old) (Nat.le_succ _) ⟨hlen2, out, ep, vl _ _ ei, he⟩, rfl, q _ (I.hok.fresh (Nat.le_succ _))⟩
theorem reps_zip {K : PySem.W.Frag} {T : Tk} {A : Addr → Prop} {H : Hp} : ∀ {xs : List Vl} {us : List V}, Reps K T A H xs us → ∀ b ∈ us.zip xs, Rep K T A H b.2 b.1
  | [], us, h => by unfold Reps at h; subst h; simp
  | x :: xs, us, h => by
    unfold Reps at h
    obtain ⟨v, r, rfl, h1, h2⟩ := h
    intro b hb
    rw [List.zip_cons_cons] at hb
    rcases List.mem_cons.mp hb with rfl | hb
    · exact h1
    · exact reps_zip h2 b hb
theorem reps_of_zip {K : PySem.W.Frag} {T : Tk} {A : Addr → Prop} {H : Hp} : ∀ {bs : List (V × Vl)}, (∀ b ∈ bs, Rep K T A H b.2 b.1) → Reps K T A H (bs.map (·.2)) (bs.map (·.1))
  | [], _ => Reps.nil
  | b :: bs, h => Reps.cons (h b List.mem_cons_self) (reps_of_zip fun c hc => h c (List.mem_cons_of_mem _ hc))
theorem call_sortV (hu : X.A.units + 64 < cLine) : CallP true X (.builtin "sorted") sortV := fun T => (cr_sortD hu).weak fun vs H Q ⟨xs, B, A, z, r, e, q⟩ => by
  obtain ⟨x, rfl, e'⟩ := op1_some e
  clear e
  obtain ⟨v, rfl, rx⟩ := is_one r
  unfold sortV1 at e'
  split at e'
  · rename_i ys
    split at e'
    · rename_i ho
      cases e'
      obtain ⟨o1, o2, o3⟩ := ordV_of ho.1
      obtain ⟨p, us, rfl, hq, l, rs⟩ := ri_lst rx
      have dp := Reps.dp _ _ 11 o1 rs
      rw [toDs_eq] at dp
      refine ⟨p, us, ys, rfl, SqL.of hq, l, rs.len, dp, o2, o3, ?_, fun pn np => q _ _ (same_new np) ?_⟩
      · rcases (Bool.or_eq_true _ _).mp ho.2 with h | h
        · refine .inl fun d hd => ?_
          obtain ⟨x, hx, rfl⟩ := List.mem_map.mp hd
          have := List.all_eq_true.mp h x hx
          cases x <;> first | cases this | skip
          rename_i zs
          cases zs with
          | nil => cases this
          | cons a b => exact ⟨_, _, by unfold toD toDs; rfl⟩
        · refine .inr fun d hd => ?_
          obtain ⟨x, hx, rfl⟩ := List.mem_map.mp hd
          have h1 := List.all_eq_true.mp h x hx
          have h2 := List.all_eq_true.mp o1 x hx
          cases x <;> first | (cases h1; done) | (simp [shp] at h2; done) | (unfold toD; exact ⟨nofun, fun _ => nofun⟩)
      · rw [if_pos rfl]
        unfold RepN
        have em : sortF ys = ((us.zip ys).mergeSort (PySem.W.dataLe false fun b => toD b.2)).map (·.2) := by
          have h := List.map_mergeSort (r := PySem.W.dataLe false fun b : V × Vl => toD b.2) (s := PySem.W.dataLe false toD) (f := Prod.snd) (l := us.zip ys) (fun a _ b _ => rfl)
          rw [h, List.map_snd_zip (by have := rs.len; omega)]
          rfl
        have rz : Reps X.K T A H (sortF ys) (((us.zip ys).mergeSort (PySem.W.dataLe false fun b => toD b.2)).map (·.1)) := by
          rw [em]
          exact reps_of_zip fun b hb => reps_zip rs b (List.mem_mergeSort.mp hb)
        exact ⟨pn, _, rfl, np, upd_same, by rw [rz.len, sortF, List.length_mergeSort, ← rs.len]; exact l, rep_upd np (fun a u e z => ⟨z, ne_of_none e np⟩) rz⟩
    · cases e'
  · cases e'
end
end PyA
namespace PyA
open PySem L2
/-! ### how alike things stand to one another -/
theorem ltV_int (a b : Int) : ltV (.int a) (.int b) = decide (a < b) := PySem.W.dataLt_int a b
theorem ltV_str (a b : List Nat) : ltV (.str a) (.str b) = decide (a < b) := PySem.W.dataLt_str ⟨a.toArray⟩ ⟨b.toArray⟩
@[simp] theorem alikeV_int (a b : Int) : alikeV (.int a) (.int b) = true := rfl
@[simp] theorem alikeV_str (a b : List Nat) : alikeV (.str a) (.str b) = true := rfl
def alikeVs (xs ys : List Vl) : Bool := PySem.W.alikeAll (toDs xs) (toDs ys)
def ltVs (xs ys : List Vl) : Bool := ltV (.tup xs) (.tup ys)
@[simp] theorem alikeV_tup (xs ys : List Vl) : alikeV (.tup xs) (.tup ys) = alikeVs xs ys := by
  unfold alikeV alikeVs toD
  rw [PySem.W.alike]
@[simp] theorem alikeVs_cons (x y : Vl) (xs ys : List Vl) : alikeVs (x :: xs) (y :: ys) = (alikeV x y && alikeVs xs ys) := by
  unfold alikeVs alikeV
  rw [toDs, toDs, PySem.W.alikeAll]
@[simp] theorem alikeVs_nil (ys : List Vl) : alikeVs [] ys = true := by
  unfold alikeVs
  rw [toDs]
  cases toDs ys <;> rw [PySem.W.alikeAll]
@[simp] theorem alikeVs_nil2 (x : Vl) (xs : List Vl) : alikeVs (x :: xs) [] = true := by
  unfold alikeVs
  rw [toDs, toDs, PySem.W.alikeAll]
theorem ltV_tup (xs ys : List Vl) : ltV (.tup xs) (.tup ys) = ltVs xs ys := rfl
theorem ltVs_cons {x y : Vl} (xs ys : List Vl) (h : alikeV x y = true) : ltVs (x :: xs) (y :: ys) = if eqD x y = true then ltVs xs ys else ltV x y := by
  unfold ltVs ltV
  rw [toD, toD, toDs, toDs, PySem.W.dataLt_tuple, toD, toD, PySem.W.dataLt_tuple]
  by_cases e : eqD x y = true
  · rw [if_pos e]
    exact PySem.W.dataLt_all_yes h e
  · rw [if_neg e]
    exact PySem.W.dataLt_all_no h (by simpa [eqD] using e)
@[simp] theorem ltVs_nil : ltVs [] [] = false := by
  unfold ltVs ltV PySem.W.dataLt
  exact PyProof.Rows.lex_irrefl _
theorem leV_eq (x y : Vl) : PySem.W.dataLe false toD x y = !ltV y x := rfl
/-- min of encoded things: by an order of one's own -/
theorem minF_map {τ : Type} {e : τ → Vl} {lt : τ → τ → Bool} (h : ∀ a b, ltV (e a) (e b) = lt a b) (a : τ) : ∀ r : List τ, minF (e a) (r.map e) = e (r.foldl (fun m y => if lt y m = true then y else m) a) := fun r => by
  induction r generalizing a with
  | nil => rfl
  | cons y r ih =>
    unfold minF at ih ⊢
    rw [List.map_cons, List.foldl_cons, List.foldl_cons, h, ← ih]
    congr 1
    split <;> rfl
/-- the first least one -/
def least {τ : Type} (lt : τ → τ → Bool) (a : τ) (r : List τ) : τ := r.foldl (fun m y => if lt y m = true then y else m) a
theorem least_mem {τ : Type} (lt : τ → τ → Bool) : ∀ (r : List τ) (a : τ), least lt a r ∈ a :: r
  | [], a => List.mem_cons_self
  | y :: r, a => by
    have := least_mem lt r (if lt y a = true then y else a)
    unfold least at this ⊢
    rw [List.foldl_cons]
    rcases List.mem_cons.mp this with h | h
    · rw [h]
      split <;> simp
    · simp [h]
theorem least_le {τ : Type} {lt : τ → τ → Bool} (as : ∀ x y, lt x y = true → lt y x = false) (tr : ∀ x y z, lt x y = false → lt y z = false → lt x z = false) : ∀ (r : List τ) (a : τ), ∀ x ∈ a :: r, lt x (least lt a r) = false := fun r => by
  have ir : ∀ x, lt x x = false := fun x => by
    cases h : lt x x with
    | false => rfl
    | true => rw [as x x h] at h; cases h
  induction r with
  | nil =>
    intro a x hx
    obtain rfl := List.mem_singleton.mp hx
    exact ir _
  | cons y r ih =>
    intro a x hx
    have ih := ih (if lt y a = true then y else a)
    show lt x (least lt (if lt y a = true then y else a) r) = false
    have h0 := ih _ List.mem_cons_self
    rcases List.mem_cons.mp hx with rfl | hx
    · refine tr _ _ _ ?_ h0
      split
      · rename_i h
        exact as _ _ h
      · exact ir _
    · rcases List.mem_cons.mp hx with rfl | hx
      · refine tr _ _ _ ?_ h0
        split
        · exact ir _
        · rename_i h
          simpa using h
      · exact ih x (List.mem_cons_of_mem _ hx)
end PyA
/-! PyV: [::-1], tuple(range(..)). -/
namespace L2
open PySem PySem.Spec PyProof.Rows
section
variable {prog : Program} {w : World} {A : Around} {E : Value → Shared → Prop} {s : Shared}
theorem back_get {α : Type} (xs : Array α) : ((List.range xs.size).map fun k => xs.size - 1 - k).filterMap (xs[·]?) = xs.toList.reverse := by
  rw [PySem.W.krv_range, List.filterMap_reverse, PySem.W.krv_all]
theorem back_tup {α : Type} (xs : Array α) : ((List.range xs.size).filterMap fun (m : Nat) => xs[(((xs.size : Int) - 1) + (m : Int) * (-1)).toNat]?) = xs.toList.reverse := by
  rw [← back_get, List.filterMap_map]
  congr 1
  funext m
  show _ = xs[xs.size - 1 - m]?
  rw [show (((xs.size : Int) - 1) + (m : Int) * (-1)).toNat = xs.size - 1 - m by omega]
theorem backPlaces (n : Nat) : Builtin.Slice.slicePlaces ((n : Int) - 1) (-1) (-1) = n := by
  unfold Builtin.Slice.slicePlaces
  have h1 : ¬ ((-1 : Int) > 0) := by omega
  simp only [h1, if_false]
  by_cases h : (n : Int) - 1 > -1
  · rw [if_pos h, show (-(-1) : Int) = 1 from rfl, Int.ediv_one]
    omega
  · rw [if_neg h]
    omega
/-- t[::-1] of a tuple -/
theorem getItem_tup_back {t sl : Addr} {xs : Array Value} {vs : Value} {Q : Value → Shared → Prop} (ht : IsTup s.heap t xs) (hs : s.heap.IsSliceOf sl .none .none vs) (ps : IsPart vs (some (-1)))
    (h : Q (.ref s.heap.objs.size) { s with heap := s.heap.push { cls := .type "tuple", data := .seq xs.toList.reverse.toArray } }) (fit : xs.size ≤ sizeLine) : wpAny (model prog w) A (getItem (.ref t) (.ref sl)) Q E s := by
  obtain ⟨os, hos, hcs, hds⟩ := id hs
  have tyS : s.TypeIs (.ref sl) "slice" := ⟨os, hos, hcs⟩
  have so : sizeOk (.seq xs.toList.reverse.toArray) := by (show xs.toList.reverse.toArray.size ≤ sizeLine; simpa using fit)
  unfold getItem; try with_reducible refine wpAny_holding ?_
  first | refine wpAny_bind (wpAny_pure ?_) | skip
  refine wpAny_bind (wpAny_sequenceKey ht.typeIs (by decide) ?_); refine wpAny_bind (wpAny_callSpecial?_slot (name := Str.ofString "__getitem__") ht.typeIs PyProof.Rows.slot_tuple_getitem (wpAny_call_entry PyProof.Rows.slot_tuple_getitem ht.typeIs entry_tuple_getitem ?_ (args_tuple_getitem _ _)))
  show wpAny _ _ (Builtin.Tuple.tupleItemsOf (.ref t) >>= _) _ _ s; refine wpAny_bind (tupleItemsOf_ ht ?_); refine wpAny_bind (wpAny_typeOf tyS ?_); rw [if_pos (by decide)]
  have app : ∀ {B : Around} {R : Int × Int × Nat → Shared → Prop}, R ((xs.size : Int) - 1, -1, xs.size) s → wpAny (model prog w) B (Builtin.Slice.sliceApplied (.ref sl) (pure (xs.size : Int))) R E s := fun {B R} hR => by
    unfold Builtin.Slice.sliceApplied Builtin.Slice.sliceFields
    refine wpAny_bind (wpAny_bind (wpAny_field hos hds (x := .none) rfl (wpAny_bind (wpAny_field hos hds (x := .none) rfl (wpAny_bind (wpAny_field hos hds (x := vs) rfl (wpAny_pure ?_)))))))
    refine wpAny_bind (HT.slicePart_ ps ?_)
    show wpAny _ _ (if ((-1 : Int) == 0) = true then _ else _) _ _ s; rw [if_neg (by decide)]
    refine wpAny_bind (HT.slicePart_ .none (wpAny_bind (HT.slicePart_ .none (wpAny_bind (wpAny_pure ?_)))))
    have e := backPlaces xs.size
    show wpAny _ _ (pure ((xs.size : Int) - 1, (-1 : Int), Builtin.Slice.slicePlaces ((xs.size : Int) - 1) (-1) (-1))) _ _ s; rw [e]
    exact wpAny_pure hR
  refine wpAny_bind (app ?_)
  have hno : ¬ ((((xs.size : Int) - 1 == 0 && (-1 : Int) == 1 && xs.size == xs.size)) = true) := by simp
  show wpAny _ _ (if ((xs.size : Int) - 1 == 0 && (-1 : Int) == 1 && xs.size == xs.size) = true then _ else _) _ _ s; rw [if_neg hno, back_tup]
  first
    | exact wpAny_bind (m := Builtin.Tuple.tupleExact _) (wpAny_newObj_type (wpAny_pure ⟨_, rfl, wpAny_pure h⟩) so)
    | exact wpAny_bind (wpAny_bind (m := Builtin.Tuple.tupleExact _) (wpAny_newObj_type (wpAny_pure (wpAny_pure ⟨_, rfl, wpAny_pure h⟩)) so))
    | exact wpAny_bind (wpAny_bind (m := Builtin.Tuple.tupleExact _) (wpAny_newObj_type (wpAny_pure ⟨_, rfl, wpAny_pure h⟩) so))
    | exact wpAny_bind (m := Builtin.Tuple.tupleExact _) (wpAny_newObj_type (wpAny_bind (wpAny_pure (wpAny_pure ⟨_, rfl, wpAny_pure h⟩))) so)
end
section
variable {X : Cx} {e : Expr} {te : TE} {k : Nat} {p1 p2 p3 pos : Pos}
/-- [::-1] of a tuple or of a text -/
def tBack (K : PySem.W.Frag) (te : TE) : TE := fun σ H Q => te σ H fun x H1 => (∃ a xs, x = .ref a ∧ SqT K H1 a xs ∧ ∀ p, H1 p = none → Q (.ref p) (upd H1 p (.tup xs.reverse))) ∨ (∃ a xs, x = .ref a ∧ SqL K H1 a xs ∧ ∀ p, H1 p = none → Q (.ref p) (upd H1 p (.lst xs.reverse))) ∨ ∃ z : List Nat, x = .str ⟨z.toArray⟩ ∧ z.length ≤ sizeLine ∧ Q (.str ⟨z.reverse.toArray⟩) H1
theorem pe_back (he : PE X e te) : PE X (.Subscript e (.Slice none none (some (.UnaryOp .USub (.Constant (.int 1) k p1) p2)) p3) pos) (tBack X.K te) := by
  refine ⟨fun pins s σ H Q I h => ?_⟩
  refine Subscript_ (thn (he.run pins s σ H _ I h) fun v s1 ⟨x, H1, I1, r1, q1⟩ => ?_)
  have hst : PO X (some (.UnaryOp .USub (.Constant (.int 1) k p1) p2)) (tPart (tUn (rU fun i => .int (-i)) (tC (.int 1)))) := po_some (pe_un un_neg pe_int)
  refine wpAny_Slice (thn (po_none.run pins s1 σ H1 (fun o H2 => o = none ∧ H2 = H1) I1 ⟨rfl, rfl⟩) fun vl s2 ⟨l, H2, I2, pl, el, e2⟩ => ?_)
  subst el e2; refine thn (po_none.run pins s2 σ H2 (fun o H3 => o = none ∧ H3 = H2) I2 ⟨rfl, rfl⟩) fun vu s3 ⟨u, H3, I3, pu, eu, e3⟩ => ?_
  subst eu e3; refine thn (hst.run pins s3 σ H3 (fun o H4 => o = some (-1) ∧ H4 = H3) I3 ⟨1, rfl, -1, rfl, rfl, rfl⟩) fun vs s4 ⟨o, H4, I4, ps, eo, e4⟩ => ?_
  subst eo e4; have I5 : Inv X pins σ H4 { s4 with heap := s4.heap.push { cls := .type "slice", data := .fields #[vl, vu, vs] } } := I4.kept (t' := s4.toks) fun b ob q => Heap.get?_push_of_some _ q
  cases pl; cases pu
  show wpAny (model X.prog X.w) X.A (subscriptTail e (.Slice none none (some (.UnaryOp .USub (.Constant (.int 1) k p1) p2)) p3) v (.ref s4.heap.objs.size)) (EP X pins σ Q) X.xe { s4 with heap := s4.heap.push { cls := .type "slice", data := .fields #[.none, .none, vs] } }
  rcases q1 with ⟨a, xs, ex, hx, q⟩ | ⟨a, xs, ex, hx, q⟩ | ⟨z, ex, hz, q⟩
  · subst ex; cases r1
    obtain ⟨its, r, ht, hz⟩ := I5.tuple hx
    have lz : its.toArray.size ≤ sizeLine := by (rw [List.size_toArray, ← r.length]; exact hz)
    refine tail_any (ops := [.ref a, .ref s4.heap.objs.size]) ht.typeIs (PyProof.Rows.slot_tuple_getitem.lookup) ?_ (by with_unfolding_all rfl)
    refine getItem_tup_back ht (Heap.IsSliceOf.new _ .none .none vs) ps ?_ lz
    refine ⟨.ref _, _, I5.laid (t' := s4.toks) (o := .tup xs.reverse) (fun b ob q => Heap.get?_push_of_some _ q) (Nat.le_refl _) ?_, rfl, q _ (I5.hok.fresh (Nat.le_refl _))⟩
    exact ⟨by rw [List.length_reverse]; exact hz, _, r.reverse, IsTup.new _ _⟩
  · subst ex; cases r1
    obtain ⟨its, r, ht, hz⟩ := I5.list hx
    refine tail_any (ops := [.ref a, .ref s4.heap.objs.size]) ht.isList.typeIs (PySem.slot_list_getitem.lookup) ?_ (by with_unfolding_all rfl)
    refine wpAny_getItem_list_slice ht.isList (Heap.IsSliceOf.new _ .none .none vs) .none .none ps (by decide) ?_ (by rw [List.size_toArray, ← r.length]; exact hz)
    rw [PySem.W.krv_pick]
    refine ⟨.ref _, _, I5.laid (t' := s4.toks) (o := .lst xs.reverse) (fun b ob q => Heap.get?_push_of_some _ q) (Nat.le_refl _) ?_, rfl, q _ (I5.hok.fresh (Nat.le_refl _))⟩
    exact ⟨by rw [List.length_reverse]; exact hz, _, 0, r.reverse, Heap.get?_push_size _ rfl⟩
  · subst ex
    obtain ⟨t, rfl⟩ := r1
    obtain ⟨tk, rfl⟩ : ∃ tk, vs = .int (-1) tk := by (cases ps; exact ⟨_, rfl⟩)
    refine tail_any (ops := [.str ⟨z.toArray⟩ t, .ref s4.heap.objs.size]) (typeIs_str _ _ _) (PySem.F.slot_str_getitem.lookup) ?_ (by with_unfolding_all rfl)
    refine PySem.wpAny_getItem_str_slice (l := none) (u := none) (st := some (-1, tk)) ⟨_, Heap.get?_push_size _ rfl, rfl, rfl⟩ rfl ?_
    have pk : (PySem.slicePicked ⟨z.toArray⟩ none none (some (-1, tk))).filterMap (z.toArray[·]?) = z.reverse := by
      have e : PySem.slicePicked ⟨z.toArray⟩ none none (some (-1, tk)) = (List.range z.toArray.size).map fun k => z.toArray.size - 1 - k := PySem.W.krv_sliceRange z.toArray.size
      rw [e, back_get]
    have md : PySem.sliceMade ⟨z.toArray⟩ t none none (some (-1, tk)) = .str ⟨z.reverse.toArray⟩ := by
      unfold PySem.sliceMade
      rw [show (⟨z.toArray⟩ : Str).cps = z.toArray from rfl, pk]
      exact if_neg (by simp)
    rw [md]
    exact ⟨by (show z.reverse.toArray.size ≤ sizeLine; rw [List.size_toArray, List.length_reverse]; exact hz), .str ⟨z.reverse.toArray⟩, H4, I5.tok _, ⟨_, rfl⟩, q⟩
end
end L2
namespace PyA
open PySem L2
def backP : Vl → Option Vl
  | .tup xs => some (.tup xs.reverse)
  | .lst xs => some (.lst xs.reverse)
  | .str z => if z.length ≤ sizeLine then some (.str z.reverse) else none
  | _ => none
def backL : Vl → Option Vl
  | .lst xs => some (.lst xs.reverse)
  | _ => none
section
variable {X : Cx} {C : Type} {g : Fx C} {e : Expr} {k : Nat} {p p1 p2 p3 pos : Pos}
theorem de_back {f : FE C} {bb : Bool} (hK : X.K = g.K) (h : PE X e (tE g bb f)) : PE X (.Subscript e (.Slice none none (some (.UnaryOp .USub (.Constant (.int 1) k p1) p2)) p3) pos) (tE g true (fUn backP f)) :=
  (pe_back h).weak fun σ H Q ⟨ρ, c, ei, hd, q⟩ => ⟨ρ, c, ei, hd, (GoX.bind q).mono fun x c1 H1 kp hd1 w v rv => by
    obtain ⟨z, ez, w2⟩ := go_opt w
    have la : Ans false g.K g.r.T (Ad g ρ σ) H1 z Q := tE_last (ei.kp hd kp) hd1 w2
    rw [hK]
    cases x with
    | tup xs =>
      cases ez
      obtain ⟨p, us, rfl, hq, l, rs⟩ := ri_tup rv.i
      refine .inl ⟨p, us, rfl, hq, fun pn np => la _ _ (same_new np) ?_⟩
      rw [if_neg Bool.false_ne_true]
      refine .inl ?_
      unfold Rep
      exact ⟨pn, us.reverse, rfl, SqT.of upd_same, by rw [List.length_reverse]; exact l, rep_upd np (fun _ _ _ z => z) rs.reverse⟩
    | lst xs =>
      cases ez
      obtain ⟨p, us, rfl, hq, l, rs⟩ := ri_lst rv.i
      refine .inr (.inl ⟨p, us, rfl, SqL.of hq, fun pn np => la _ _ (same_new np) ?_⟩)
      rw [if_neg Bool.false_ne_true]
      refine .inr ?_
      unfold RepN
      exact ⟨pn, us.reverse, rfl, np, upd_same, by rw [List.length_reverse]; exact l, rep_upd np (fun a u e z => ⟨z, ne_of_none e np⟩) rs.reverse⟩
    | str z =>
      unfold backP at ez
      dsimp only at ez
      split at ez
      · rename_i hz
        cases ez
        exact .inr (.inr ⟨z, ri_str rv.i, hz, ans_val la fun _ => rep_str⟩)
      · cases ez
    | _ => cases ez⟩
theorem de_backL {f : FE C} {bb : Bool} (hK : X.K = g.K) (h : PE X e (tE g bb f)) : PE X (.Subscript e (.Slice none none (some (.UnaryOp .USub (.Constant (.int 1) k p1) p2)) p3) pos) (tN g (fUn backL f)) :=
  (pe_back h).weak fun σ H Q ⟨ρ, c, ei, hd, q⟩ => ⟨ρ, c, ei, hd, (GoX.bind q).mono fun x c1 H1 kp hd1 w v rv => by
    obtain ⟨z, ez, w2⟩ := go_opt w
    have la : Ans true g.K g.r.T (Ad g ρ σ) H1 z Q := tN_last (f := f) (ei.kp hd kp) hd1 kp w2
    rw [hK]
    cases x with
    | lst xs =>
      cases ez
      obtain ⟨p, us, rfl, hq, l, rs⟩ := ri_lst rv.i
      refine .inr (.inl ⟨p, us, rfl, SqL.of hq, fun pn np => la _ _ (same_new np) ?_⟩)
      rw [if_pos rfl]
      unfold RepN
      exact ⟨pn, us.reverse, rfl, np, upd_same, by rw [List.length_reverse]; exact l, rep_upd np (fun a u e z => ⟨z, ne_of_none e np⟩) rs.reverse⟩
    | _ => cases ez⟩
/-- tuple(range(n)) -/
def tupR : Vl → Option Vl
  | .int n => if 0 ≤ n ∧ n ≤ 16777216 then some (.tup ((List.range n.toNat).map fun k : Nat => Vl.int (k : Int))) else none
  | _ => none
theorem de_tupR {f : FE C} {bb : Bool} (hK : X.K = g.K) (hc : X.calm = true) (hg : Gl X "tuple") (hm : X.mg "tuple" = none) (hg2 : Gl X "range") (hm2 : X.mg "range" = none) (h : PE X e (tE g bb f))
    (na : starEach [e] X.env = (false, eval e X.env) :: starEach [] X.env := by rfl) (na2 : starEach [Expr.Call (.Name "range" p2) [e] [] p3] X.env = (false, eval (.Call (.Name "range" p2) [e] [] p3) X.env) :: starEach [] X.env := by rfl) :
    PE X (.Call (.Name "tuple" p) [.Call (.Name "range" p2) [e] [] p3] [] pos) (tE g true (fUn tupR f)) :=
  (pe_tupRg hc hg hm (prg_1 hg2 hm2 h na) na2).weak fun σ H Q ⟨ρ, c, ei, hd, q⟩ => ⟨ρ, c, ei, hd, (GoX.bind q).mono fun x c1 H1 kp hd1 w v rv => by
    obtain ⟨z, ez, w2⟩ := go_opt w
    have la : Ans false g.K g.r.T (Ad g ρ σ) H1 z Q := tE_last (ei.kp hd kp) hd1 w2
    cases x with
    | int n =>
      unfold tupR at ez
      dsimp only at ez
      split at ez
      · rename_i hn
        cases ez
        refine ⟨n, ri_int rv.i, RgOk.of_le (by decide) hn.2 (by decide) hn.1, fun pn np => la _ _ (same_new np) ?_⟩
        rw [if_neg Bool.false_ne_true]
        refine .inl ?_
        unfold Rep
        refine ⟨pn, _, rfl, SqT.of upd_same, by rw [rgV_length]; rw [PySem.sizeLine_eq]; omega, Reps.of_get (by rw [rgV_length]; simp) fun i x v ex ev => ?_⟩
        unfold rgV at ev
        rw [List.getElem?_map] at ex ev
        rw [Int.sub_zero] at ev
        cases en : (List.range n.toNat)[i]? with
        | none => rw [en] at ex; cases ex
        | some m =>
          rw [en] at ex ev
          cases ex
          cases ev
          show Rep _ _ _ _ (.int (m : Int)) (V.int (0 + (m : Int)))
          rw [Int.zero_add]
          exact rep_int
      · cases ez
    | _ => cases ez⟩
end
end PyA
/-! PyW: what a name owns goes over to another one. -/
namespace PyA
open PySem L2
section
variable {X : Cx} {C : Type} {g : Fx C} {e : Expr} {pos : Pos} {ρ : PEnv} {σ : L2.St} {H : Hp} {cc : C}
theorem own_none {i : Nat} {a : Addr} (h : Own g (ρ.set i none) σ a) : Own g ρ σ a ∧ ∃ j x, j ≠ i ∧ g.own j = true ∧ ρ[j]? = some (some x) ∧ σ[j]? = some (some (.ref a)) := by
  obtain ⟨j, x, o, e1, e2⟩ := h
  have hj : j ≠ i := fun hj => by
    subst hj
    rw [List.getElem?_set] at e1
    simp only [if_true] at e1
    split at e1 <;> cases e1
  rw [List.getElem?_set_ne (Ne.symm hj)] at e1
  exact ⟨⟨j, x, o, e1, e2⟩, j, x, hj, o, e1, e2⟩
theorem ad_none {i : Nat} {a : Addr} (h : Ad g ρ σ a) : Ad g (ρ.set i none) σ a := ⟨h.1, fun z => h.2 (own_none z).1⟩
theorem OwnAt.none {i : Nat} {x : Vl} {v : V} (h : OwnAt g ρ σ H x v) : OwnAt g (ρ.set i none) σ H x v := by
  cases x with
  | lst xs =>
    unfold OwnAt at h ⊢
    obtain ⟨p, vs, e, n, nr, q, l, r⟩ := h
    exact ⟨p, vs, e, n, nr, q, l, r.move (fun _ _ e _ => e) fun a _ _ z => ad_none z⟩
  | dk ks xs =>
    unfold OwnAt at h ⊢
    obtain ⟨p, vs, e, n, nr, q, l, m, r⟩ := h
    exact ⟨p, vs, e, n, nr, q, l, m, r.move (fun _ _ e _ => e) fun a _ _ z => ad_none z⟩
  | _ => exact h
/-- a name is forgotten -/
theorem EI.forget (ei : EI g ρ σ H) (i : Nat) : EI g (ρ.set i none) σ H := by
  refine ⟨by rw [List.length_set]; exact ei.len, ei.keep, fun j x e => ?_, fun j k x y p oj ok e1 e2 e3 e4 => ?_⟩
  · have hj : i ≠ j := fun hj => by
      subst hj
      rw [List.getElem?_set] at e
      simp only [if_true] at e
      split at e <;> cases e
    rw [List.getElem?_set_ne hj] at e
    obtain ⟨v, e1, h⟩ := ei.slot j x e
    refine ⟨v, e1, ?_⟩
    by_cases o : g.own j = true
    · rw [if_pos o] at h ⊢
      exact h.none
    · rw [if_neg o] at h ⊢
      exact h.move (fun _ _ e _ => e) fun a _ _ z => ad_none z
  · have nn : ∀ {l : Nat} {z : Vl}, (ρ.set i none)[l]? = some (some z) → ρ[l]? = some (some z) := fun {l z} h => by
      rw [List.getElem?_set] at h
      split at h
      · split at h <;> cases h
      · exact h
    exact ei.dist j k x y p oj ok (nn e1) (nn e2) e3 e4
/-- what it held, then -/
theorem EI.taken {i : Nat} {x : Vl} (ei : EI g ρ σ H) (ho : g.own i = true) (e : ρ[i]? = some (some x)) : ∃ v, σ[i]? = some (some v) ∧ Rep g.K g.r.T (Ad g (ρ.set i none) σ) H x v := by
  obtain ⟨v, e1, h⟩ := ei.slot i x e
  rw [if_pos ho] at h
  refine ⟨v, e1, ?_⟩
  have na : ∀ p, v = .ref p → ¬ Own g (ρ.set i none) σ p := fun p hp z => by
    obtain ⟨_, j, y, hj, oj, e2, e3⟩ := own_none z
    subst hp
    exact hj (ei.dist j i y x p oj ho e2 e e3 e1)
  cases x with
  | lst xs =>
    unfold OwnAt at h
    unfold Rep
    obtain ⟨p, vs, rfl, n, nr, q, l, r⟩ := h
    exact ⟨p, vs, rfl, ⟨⟨.inr n, nr⟩, na p rfl⟩, q, l, r.move (fun _ _ e _ => e) fun a _ _ z => ad_none z⟩
  | dk ks xs =>
    unfold OwnAt at h
    unfold Rep
    obtain ⟨p, vs, rfl, n, nr, q, l, m, r⟩ := h
    exact ⟨p, vs, rfl, ⟨⟨.inr n, nr⟩, na p rfl⟩, q, l, m, r.move (fun _ _ e _ => e) fun a _ _ z => ad_none z⟩
  | _ => exact h.elim
theorem StepS.none {i : Nat} : StepS g ρ σ H (ρ.set i none) σ H := fun a u e n _ => ⟨e, fun z => n (own_none z).1⟩
def sMove {C : Type} (j i : Nat) : FS C := fun ρ => bnd (opt (look ρ i)) fun x => ret (.nx ((ρ.set i none).set j (some x)))
/-- x = y, where y owns its list: it is forgotten -/
theorem ds_move {i j : Nat} {x y : Str} {pos' p0 : Pos} (hN : X.N.Nodup) (hj : X.N[j]? = some x) (hx : Loc X.env.scope x) (oj : g.own j = false) (hi : X.N[i]? = some y) (hv : Vis X.env.scope y) (oi : g.own i = true)
    (hd1 : (y == ("__debug__" : Str)) = false := by decide) (hcd : (y == ("__classdict__" : Str)) = false := by decide) (hs : swapsWith (.Name y p0) (some (.Name x pos')) pos.line X.env = pure false := by rfl)
    (hf : X.fn x = true ∨ X.env.scope.names.lookup x = some .local := by first | exact .inl rfl | exact .inr rfl | assumption) : PS X (.Assign [.Name x pos'] (.Name y p0) pos) (tS g (sMove j i)) :=
  (ps_set hN hj hx (pe_var hi hv hd1 hcd) hs hf).weak fun D σ H ⟨ρ, c, ei, hd, q⟩ => by
    obtain ⟨z, e, q1⟩ := GoX.opt hd (GoS.bx ei q)
    obtain ⟨v, e1, r⟩ := ei.taken oi (look_some e)
    exact ⟨v, e1, q1 _ H ((ei.forget i).set oj fun y ey => ⟨v, rfl, by cases ey; exact r⟩) hd (StepS.none.trans (StepS.sets (Sets.one oj) Kp.refl))⟩
end
@[simp] theorem sMove_ap {C : Type} (j i : Nat) (ρ : PEnv) : (sMove j i ρ : M C Out) = bnd (opt (look ρ i)) fun x => ret (.nx ((ρ.set i none).set j (some x))) := rfl
@[simp] theorem sExt_ap {C : Type} (i : Nat) (f : FE C) (ρ : PEnv) : sExt i f ρ = bnd (opt (lstAt ρ i)) fun _ => bnd (f ρ) fun y => bnd (opt (extAt ρ i y)) fun ρ' => ret (.nx ρ') := rfl
end PyA
/-! PyX: xs.index(x) of data of any depth. -/
namespace PyA
open PySem L2
theorem toDs_get : ∀ (ys : List Vl) (j : Nat), (toDs ys)[j]? = (ys[j]?).map toD
  | [], _ => by simp [toDs]
  | y :: ys, 0 => by simp [toDs]
  | y :: ys, j + 1 => by
    unfold toDs
    rw [List.getElem?_cons_succ, List.getElem?_cons_succ, toDs_get ys j]
/-- xs.index(x): the first place of an equal one -/
def lindexP (x : Vl) (xs : List Vl) : Option Vl := match x, xs with
  | .lst ys, [y] => if shp deep y = true ∧ shp deep (.lst ys) = true ∧ ys.findIdx (fun z => eqD z y) < ys.length then some (.int (ys.findIdx fun z => eqD z y : Nat)) else none
  | _, _ => none
theorem met_lindex {X : Cx} (hu : X.A.units + 65 < cLine) : MetP false X "list.index" lindexP := fun T => (mt_indexD hu).weak fun v vs H Q ⟨x, xs, B, A, z, rx, r, e, q⟩ => by
  unfold lindexP at e
  split at e
  · rename_i ys y
    split at e
    · rename_i h
      cases e
      obtain ⟨u, rfl, ry⟩ := is_one r
      have dl := RepI.dp h.2.1 rx
      have sl := shp_shaped h.2.1
      unfold toD at dl sl
      obtain ⟨p, us, rfl, _⟩ := ri_lst rx
      refine ⟨p, u, toD y, toDs ys, ys.findIdx (fun z => eqD z y), toD (ys[ys.findIdx (fun z => eqD z y)]'h.2.2), rfl, rfl, dl, ry.dp h.1, sl, shp_shaped h.1, ?_, ?_, fun m z' hm hz => ?_, ans_val q fun _ => rep_int⟩
      · rw [toDs_get, List.getElem?_eq_getElem h.2.2]
        rfl
      · exact List.findIdx_getElem (p := fun z => eqD z y) (w := h.2.2)
      · rw [toDs_get] at hz
        have hml : m < ys.length := Nat.lt_trans hm h.2.2
        rw [List.getElem?_eq_getElem hml] at hz
        cases hz
        have := List.not_of_lt_findIdx (p := fun z => eqD z y) hm
        simpa [eqD] using this
    · cases e
  · cases e
end PyA
/-! PyXa: dicts whose keys are tuples (of tuples) of ints: the library's rules over NkO. -/
namespace PyA
open PySem L2
abbrev KTs := List (NestedKey × Addr × V)
def lookT (kvs : KTs) (k : NestedKey) : Option V := (kvs.find? fun x => decide (x.1 = k)).map (·.2.2)
def putT (kvs : KTs) (k : NestedKey) (b : Addr) (v : V) : KTs := if (kvs.any fun x => decide (x.1 = k)) = true then kvs.map fun x => if x.1 = k then (x.1, x.2.1, v) else x else kvs ++ [(k, b, v)]
abbrev PT2 : KTs → List (NestedKey × Addr × Value) → Prop := Paired fun (a : NestedKey × Addr × V) (b : NestedKey × Addr × Value) => a.1 = b.1 ∧ a.2.1 = b.2.1 ∧ RelV a.2.2 b.2.2
theorem PT2.keys : ∀ {kvs : KTs} {xs : List (NestedKey × Addr × Value)}, PT2 kvs xs → kvs.map (·.1) = xs.map (·.1)
  | _, _, .nil => rfl
  | _, _, .cons r t => by rw [List.map_cons, List.map_cons, r.1, PT2.keys t]
theorem PT2.val (k : NestedKey) : ∀ {kvs : KTs} {xs : List (NestedKey × Addr × Value)}, PT2 kvs xs → RelO (lookT kvs k) ((atKey xs k).map (·.2))
  | _, _, .nil => by simp [lookT, atKey, RelO]
  | _, _, @Paired.cons _ _ _ p q ps qs r t => by
    have ih := PT2.val k t
    unfold lookT atKey at ih ⊢
    rw [List.find?_cons, List.find?_cons, ← r.1]
    by_cases h : p.1 = k
    · simp only [h, decide_true]
      exact r.2.2
    · simp only [h, decide_false]
      exact ih
theorem PT2.any (k : NestedKey) {kvs : KTs} {xs : List (NestedKey × Addr × Value)} (r : PT2 kvs xs) : (kvs.any fun x => decide (x.1 = k)) = (atKey xs k).isSome := by
  have e : ∀ (kvs : KTs), (kvs.any fun x => decide (x.1 = k)) = (kvs.map (·.1)).any fun j => decide (j = k) := fun kvs => by rw [List.any_map]; rfl
  rw [e, PT2.keys r]
  clear r e
  induction xs with
  | nil => rfl
  | cons x xs ih =>
    unfold atKey at ih ⊢
    rw [List.map_cons, List.any_cons, ih, List.find?_cons]
    by_cases h : x.1 = k
    · simp [h]
    · simp [h]
theorem PT2.put {k : NestedKey} {b : Addr} {v : V} {u : Value} (rv : RelV v u) {kvs : KTs} {xs : List (NestedKey × Addr × Value)} (r : PT2 kvs xs) : PT2 (putT kvs k b v) (storedH xs k b u) := by
  unfold putT storedH
  rw [r.any k]
  by_cases h : (atKey xs k).isSome = true
  · rw [if_pos h, if_pos h]
    clear h
    induction r with
    | nil => exact .nil
    | @cons p q ps qs r t ih =>
      rw [List.map_cons, List.map_cons]
      refine .cons ?_ ih
      unfold putAt
      rw [← r.1]
      by_cases e : p.1 = k
      · rw [if_pos e, if_pos e]
        exact ⟨rfl, r.2.1, rv⟩
      · rw [if_neg e, if_neg e]
        exact r
  · rw [if_neg h, if_neg h]
    exact Paired.snoc r ⟨rfl, rfl, rv⟩
theorem putT_keys (kvs : KTs) (k : NestedKey) (b : Addr) (v : V) : (putT kvs k b v).map (·.1) = if (kvs.any fun x => decide (x.1 = k)) = true then kvs.map (·.1) else kvs.map (·.1) ++ [k] := by
  unfold putT
  by_cases h : (kvs.any fun x => decide (x.1 = k)) = true
  · rw [if_pos h, if_pos h, List.map_map]
    refine List.map_congr_left fun x _ => ?_
    show (if x.1 = k then (x.1, x.2.1, v) else x).1 = x.1
    split <;> rfl
  · rw [if_neg h, if_neg h, List.map_append]
    rfl
theorem putT_nodup {kvs : KTs} {k : NestedKey} {b : Addr} {v : V} (h : (kvs.map (·.1)).Nodup) : ((putT kvs k b v).map (·.1)).Nodup := by
  rw [putT_keys]
  by_cases q : (kvs.any fun x => decide (x.1 = k)) = true
  · rw [if_pos q]; exact h
  · rw [if_neg q, List.nodup_append]
    refine ⟨h, List.nodup_cons.mpr ⟨nofun, List.nodup_nil⟩, fun a ha c hc e => q ?_⟩
    rw [List.mem_singleton.mp hc] at e
    subst e
    obtain ⟨x, hx, ex⟩ := List.mem_map.mp ha
    exact List.any_eq_true.mpr ⟨x, hx, by simp [ex]⟩
theorem putT_len (kvs : KTs) (k : NestedKey) (b : Addr) (v : V) : (putT kvs k b v).length ≤ kvs.length + 1 := by
  unfold putT
  split
  · rw [List.length_map]; omega
  · rw [List.length_append]; simp
theorem putT_mem {kvs : KTs} {k : NestedKey} {b : Addr} {v : V} {x : NestedKey × Addr × V} (h : x ∈ putT kvs k b v) : (∃ y ∈ kvs, y.1 = x.1 ∧ y.2.1 = x.2.1) ∨ (x.1 = k ∧ x.2.1 = b) := by
  unfold putT at h
  split at h
  · obtain ⟨y, hy, rfl⟩ := List.mem_map.mp h
    refine .inl ⟨y, hy, ?_⟩
    split <;> exact ⟨rfl, rfl⟩
  · rcases List.mem_append.mp h with h | h
    · exact .inl ⟨x, h, rfl, rfl⟩
    · rw [List.mem_singleton.mp h]; exact .inr ⟨rfl, rfl⟩
section
variable {X : Cx} {pins : List (Addr × Obj)} {σ : L2.St} {H : Hp} {s : Shared} {a : Addr} {A : Around} {E : Value → Shared → Prop}
mutual
theorem nkv_is (I : Inv X pins σ H s) : ∀ (k : NestedKey) (v : V) (u : Value), NKV X.K H k v → RelV v u → NestedIs s.heap k u
  | .none, _, _, h, r => by unfold NKV at h; subst h; cases r; exact .none
  | .num i, _, _, h, r => by unfold NKV at h; subst h; obtain ⟨t, rfl⟩ := r; exact .int _ _
  | .text _, _, _, h, _ => by unfold NKV at h; exact h.elim
  | .tup ks, _, _, h, r => by
    unfold NKV at h
    obtain ⟨p, vs, rfl, q, rs⟩ := h
    cases (show _ = Value.ref p from r)
    obtain ⟨its, rv, ⟨o, e, c, n, d⟩, _⟩ := I.tuple q
    exact .tup e c d (by simpa using nkvs_is I ks vs its rs rv)
theorem nkvs_is (I : Inv X pins σ H s) : ∀ (ks : List NestedKey) (vs : List V) (us : List Value), NKVs X.K H ks vs → Vals vs us → NestedAll s.heap ks us
  | [], _, _, h, r => by unfold NKVs at h; subst h; cases r; exact .nil
  | k :: ks, _, _, h, r => by
    unfold NKVs at h
    obtain ⟨v, vs, rfl, h1, h2⟩ := h
    cases r with
    | cons r1 r2 => exact .cons (nkv_is I k v _ h1 r1) (nkvs_is I ks vs _ h2 r2)
end
theorem goodK_d {k : NestedKey} (h : goodK k = true) : noTx k = true ∧ k.depth ≤ 8 := by
  unfold goodK at h
  rw [Bool.and_eq_true, decide_eq_true_eq] at h
  exact h
/-- a dict with tuple keys: as it stands, or the empty one of either kind -/
def TD (K : PySem.W.Frag) (H : Hp) (a : Addr) (kvs : KTs) : Prop := (H a = some (NkO a kvs) ∧ ∀ x ∈ kvs, NKV K H x.1 (.ref x.2.1) ∧ goodK x.1 = true) ∨ (H a = some (.dK []) ∧ kvs = [])
theorem td_rd {kvs : KTs} (I : Inv X pins σ H s) (h : TD X.K H a kvs) : (a == sysModules) = false ∧ (kvs.map (·.1)).Nodup ∧ ∃ xs, PT2 kvs xs ∧ s.heap.DictOfH (nestedKind X.prog X.w) a xs := by
  rcases h with ⟨h, f⟩ | ⟨h, rfl⟩
  · obtain ⟨⟨xs, o, es, ep, r, h1, h2, h3, h4, h5, h6⟩, _, _⟩ := I.hok a _ h
    refine ⟨h6, h5, xs, r, o, es, ep, h1, h2, h3, ?_, ?_, by rw [← PT2.keys r]; exact h5⟩
    · rw [h4]
      have : ∀ {kvs : KTs} {xs : List (NestedKey × Addr × Value)}, PT2 kvs xs → (∀ x ∈ kvs, NKV X.K H x.1 (.ref x.2.1) ∧ goodK x.1 = true) → xs.map (fun x => (⟨nhash x.1, .ref x.2.1, x.2.2⟩ : DictEntry)) = xs.map (entryOfKey (nestedKind X.prog X.w)) := by
        intro kvs xs r
        induction r with
        | nil => exact fun _ => rfl
        | @cons p q ps qs r t ih =>
          intro f
          rw [List.map_cons, List.map_cons, ih fun x hx => f x (List.mem_cons_of_mem _ hx)]
          congr 1
          have g := goodK_d (f p List.mem_cons_self).2
          unfold entryOfKey
          rw [← r.1]
          show _ = (⟨p.1.hash X.w, _, _⟩ : DictEntry)
          rw [nhash_eq X.w p.1 g.1]
      exact this r f
    · have : ∀ {kvs : KTs} {xs : List (NestedKey × Addr × Value)}, PT2 kvs xs → (∀ x ∈ kvs, NKV X.K H x.1 (.ref x.2.1) ∧ goodK x.1 = true) → ∀ x ∈ xs, (nestedKind X.prog X.w).is s.heap x.1 x.2.1 := by
        intro kvs xs r
        induction r with
        | nil => exact fun _ x hx => nomatch hx
        | @cons p q ps qs r t ih =>
          intro f x hx
          rcases List.mem_cons.mp hx with rfl | hx
          · have g := f p List.mem_cons_self
            rw [← r.1, ← r.2.1]
            exact ⟨nkv_is I _ _ _ g.1 rfl, (goodK_d g.2).2⟩
          · exact ih (fun x hx => f x (List.mem_cons_of_mem _ hx)) x hx
      exact this r f
  · obtain ⟨_, hd, vs, rel, o, es, ep, h1, h2, h3, h4, h5, h6⟩ := dk_of I.hok h
    cases rel
    refine ⟨hd, List.nodup_nil, [], .nil, o, es, ep, h1, h2, h3, ?_, (fun x hx => by cases hx), List.nodup_nil⟩
    cases h7 : es.toList with
    | nil => rfl
    | cons e r => rw [h7] at h5; cases h5
theorem room_nk (hu : A.units + 64 < cLine) : (nestedKind X.prog X.w).room A.in1 := by
  show A.units + 1 + 8 < cLine
  omega
theorem key_nk {k : NestedKey} {b : Addr} (I : Inv X pins σ H s) (h : NKV X.K H k (.ref b)) (g : goodK k = true) : (nestedKind X.prog X.w).is s.heap k b := ⟨nkv_is I _ _ _ h rfl, (goodK_d g).2⟩
theorem t_getItem {kvs : KTs} {k : NestedKey} {b : Addr} {v : V} {Q : Value → Shared → Prop} (hu : A.units + 64 < cLine) (I : Inv X pins σ H s) (h : TD X.K H a kvs) (hk : NKV X.K H k (.ref b)) (g : goodK k = true) (l : lookT kvs k = some v) (q : ∀ w' s', Inv X pins σ H s' → RelV v w' → Q w' s') :
    wpAny (model X.prog X.w) A (getItem (.ref a) (.ref b)) Q E s := by
  obtain ⟨hd, _, xs, r, dd⟩ := td_rd I h
  obtain ⟨w', hw, rw'⟩ := RelO.some_of (v := v) (o := (atKey xs k).map (·.2)) (by rw [← l]; exact r.val k)
  obtain ⟨p, hp, hp2⟩ := Option.map_eq_some_iff.mp hw
  refine wpAny_getItem_heap (room_nk hu) (key_nk I hk g) dd hp ?_
  rw [hp2]
  exact q w' _ (I.tok _) rw'
theorem t_in {kvs : KTs} {k : NestedKey} {b : Addr} {Q : Value → Shared → Prop} (hu : A.units + 64 < cLine) (I : Inv X pins σ H s) (h : TD X.K H a kvs) (hk : NKV X.K H k (.ref b)) (g : goodK k = true) (q : ∀ s', Inv X pins σ H s' → Q (.bool (lookT kvs k).isSome) s') :
    wpAny (model X.prog X.w) A (compareOp .In (.ref b) (.ref a)) Q E s := by
  obtain ⟨hd, _, xs, r, dd⟩ := td_rd I h
  refine wpAny_in_heap (room_nk hu) (key_nk I hk g) hd dd ?_
  have e := (r.val k).isSome_eq
  rw [Option.isSome_map] at e
  rw [← e]
  exact q _ (I.tok _)
theorem t_notIn {kvs : KTs} {k : NestedKey} {b : Addr} {Q : Value → Shared → Prop} (hu : A.units + 64 < cLine) (I : Inv X pins σ H s) (h : TD X.K H a kvs) (hk : NKV X.K H k (.ref b)) (g : goodK k = true) (q : ∀ s', Inv X pins σ H s' → Q (.bool (!(lookT kvs k).isSome)) s') :
    wpAny (model X.prog X.w) A (compareOp .NotIn (.ref b) (.ref a)) Q E s := by
  obtain ⟨hd, _, xs, r, dd⟩ := td_rd I h
  refine PyProof.Rows.wpAny_notIn_heap (room_nk hu) (key_nk I hk g) hd dd ?_
  have e := (r.val k).isSome_eq
  rw [Option.isSome_map] at e
  rw [← e]
  exact q _ (I.tok _)
theorem t_get1 {kvs : KTs} {k : NestedKey} {b : Addr} {Q : Value → Shared → Prop} (hu : A.units + 64 < cLine) (I : Inv X pins σ H s) (h : TD X.K H a kvs) (hk : NKV X.K H k (.ref b)) (g : goodK k = true) (q : ∀ w' s', Inv X pins σ H s' → RelV ((lookT kvs k).getD .non) w' → Q w' s') :
    wpAny (model X.prog X.w) A (call (.builtin "dict.get") [.ref a, .ref b]) Q E s := by
  obtain ⟨hd, _, xs, r, dd⟩ := td_rd I h
  refine call_meetsIn PySem.F.slot_dict_get dd.typeIs PySem.F.entry_dict_get (PySem.F.args_dict_get_2 _ _) (meetsH_dict_get (nestedKind X.prog X.w) a b hd) ⟨room_nk hu, k, xs, key_nk I hk g, dd, q _ _ (I.tok _) ?_⟩
  have e := r.val k
  cases h1 : lookT kvs k with
  | none =>
    rw [h1] at e
    cases h2 : (atKey xs k).map (·.2) with
    | none => rfl
    | some z => rw [h2] at e; exact e.elim
  | some v =>
    rw [h1] at e
    cases h2 : (atKey xs k).map (·.2) with
    | none => rw [h2] at e; exact e.elim
    | some z => rw [h2] at e; exact e
theorem t_get2 {kvs : KTs} {k : NestedKey} {b : Addr} {d : V} {r : Value} {Q : Value → Shared → Prop} (hu : A.units + 64 < cLine) (I : Inv X pins σ H s) (h : TD X.K H a kvs) (hk : NKV X.K H k (.ref b)) (g : goodK k = true) (rr : RelV d r) (q : ∀ w' s', Inv X pins σ H s' → RelV ((lookT kvs k).getD d) w' → Q w' s') :
    wpAny (model X.prog X.w) A (call (.builtin "dict.get") [.ref a, .ref b, r]) Q E s := by
  obtain ⟨hd, _, xs, rel, dd⟩ := td_rd I h
  refine call_meetsIn PySem.F.slot_dict_get dd.typeIs PySem.F.entry_dict_get (PySem.F.args_dict_get_3 _ _ _) (meetsH_dict_get_default (nestedKind X.prog X.w) a b hd r) ⟨room_nk hu, k, xs, key_nk I hk g, dd, q _ _ (I.tok _) ?_⟩
  have e := rel.val k
  cases h1 : lookT kvs k with
  | none =>
    rw [h1] at e
    cases h2 : (atKey xs k).map (·.2) with
    | none => exact rr
    | some z => rw [h2] at e; exact e.elim
  | some v =>
    rw [h1] at e
    cases h2 : (atKey xs k).map (·.2) with
    | none => rw [h2] at e; exact e.elim
    | some z => rw [h2] at e; exact e
theorem nk_ok {kvs : KTs} {xs : List (NestedKey × Addr × Value)} {h' : Heap} {H' : Hp} (r : PT2 kvs xs) (g : ∀ x ∈ kvs, goodK x.1 = true) (hd : (a == sysModules) = false) (hn : (kvs.map (·.1)).Nodup) (dd : h'.DictOfH (nestedKind X.prog X.w) a xs) : ObjOk X.prog X.w H' h' a (NkO a kvs) := by
  obtain ⟨o, es, ep, h1, h2, h3, h4, _, _⟩ := dd
  refine ⟨⟨xs, o, es, ep, r, h1, h2, h3, ?_, hn, hd⟩, ⟨o, h1⟩, fun hA hB ⟨xs, o, es, ep, r, h1, h2⟩ st => ⟨xs, o, es, ep, r, st _ h1, h2⟩⟩
  rw [h4]
  have : ∀ {kvs : KTs} {xs : List (NestedKey × Addr × Value)}, PT2 kvs xs → (∀ x ∈ kvs, goodK x.1 = true) → xs.map (entryOfKey (nestedKind X.prog X.w)) = xs.map (fun x => (⟨nhash x.1, .ref x.2.1, x.2.2⟩ : DictEntry)) := by
    intro kvs xs r
    induction r with
    | nil => exact fun _ => rfl
    | @cons p q ps qs r t ih =>
      intro f
      rw [List.map_cons, List.map_cons, ih fun x hx => f x (List.mem_cons_of_mem _ hx)]
      congr 1
      have g := goodK_d (f p List.mem_cons_self)
      unfold entryOfKey
      rw [← r.1]
      show (⟨p.1.hash X.w, _, _⟩ : DictEntry) = _
      rw [nhash_eq X.w p.1 g.1]
  exact this r g
theorem td_good {K : PySem.W.Frag} {kvs : KTs} (h : TD K H a kvs) : ∀ x ∈ kvs, NKV K H x.1 (.ref x.2.1) ∧ goodK x.1 = true := by
  rcases h with ⟨_, f⟩ | ⟨_, rfl⟩
  · exact f
  · exact fun x hx => nomatch hx
theorem td_mut {K : PySem.W.Frag} {kvs : KTs} (h : TD K H a kvs) : Mut (H a) := by
  rcases h with ⟨h, _⟩ | ⟨h, _⟩ <;> (rw [h]; exact True.intro)
theorem t_setItem {kvs : KTs} {k : NestedKey} {b : Addr} {v : V} {r : Value} {Q : Unit → Shared → Prop} (hu : A.units + 64 < cLine) (I : Inv X pins σ H s) (h : TD X.K H a kvs) (hk : NKV X.K H k (.ref b)) (g : goodK k = true) (rv : RelV v r) (hl : kvs.length ≤ sizeLine) (q : ∀ s', Inv X pins σ (upd H a (NkO a (putT kvs k b v))) s' → Q () s') :
    wpAny (model X.prog X.w) A (setItem (.ref a) (.ref b) r) Q E s := by
  obtain ⟨hd, hn, xs, rel, dd⟩ := td_rd I h
  have hz : xs.length ≤ sizeLine := by rw [← Paired.length rel]; exact hl
  refine wpAny_setItem_heap (hsz := hz) (room_nk hu) (key_nk I hk g) dd fun h' dd' hs => q _ ?_
  obtain ⟨o, es, ep, hq, _⟩ := id dd'
  refine d_write I (td_mut h) hs ⟨o, hq⟩ (nk_ok (PT2.put rv rel) (fun x hx => ?_) hd (putT_nodup hn) dd')
  rcases putT_mem hx with ⟨y, hy, e, _⟩ | ⟨e, _⟩
  · rw [← e]; exact (td_good h y hy).2
  · rw [e]; exact g
end
/-! ### keys as values -/
mutual
def kOfV : Vl → Option NestedKey
  | .non => some .none
  | .int i => some (.num i)
  | .tup xs => (kOfVs xs).map .tup
  | _ => none
def kOfVs : List Vl → Option (List NestedKey)
  | [] => some []
  | x :: xs => (kOfV x).bind fun k => (kOfVs xs).map fun ks => k :: ks
end
section
variable {K : PySem.W.Frag} {T : Tk} {A B : Addr → Prop} {H : Hp}
mutual
theorem kOfV_rep : ∀ (x : Vl) (v : V) (k : NestedKey), kOfV x = some k → Rep K T A H x v → NKV K H k v
  | .non, v, k, e, r => by unfold kOfV at e; cases e; unfold Rep at r; unfold NKV; exact r
  | .int i, v, k, e, r => by unfold kOfV at e; cases e; unfold Rep at r; unfold NKV; exact r
  | .tup xs, v, k, e, r => by
    unfold kOfV at e
    obtain ⟨ks, e1, rfl⟩ := Option.map_eq_some_iff.mp e
    unfold Rep at r
    obtain ⟨p, vs, rfl, q, l, rs⟩ := r
    unfold NKV
    exact ⟨p, vs, rfl, q, kOfVs_rep xs vs ks e1 rs⟩
  | .bl _, _, _, e, _ => by unfold kOfV at e; cases e
  | .str _, _, _, e, _ => by unfold kOfV at e; cases e
  | .lst _, _, _, e, _ => by unfold kOfV at e; cases e
  | .dk _ _, _, _, e, _ => by unfold kOfV at e; cases e
  | .reg _, _, _, e, _ => by unfold kOfV at e; cases e
theorem kOfVs_rep : ∀ (xs : List Vl) (vs : List V) (ks : List NestedKey), kOfVs xs = some ks → Reps K T A H xs vs → NKVs K H ks vs
  | [], vs, ks, e, r => by unfold kOfVs at e; cases e; unfold Reps at r; unfold NKVs; exact r
  | x :: xs, vs, ks, e, r => by
    unfold kOfVs at e
    obtain ⟨k, e1, e⟩ := Option.bind_eq_some_iff.mp e
    obtain ⟨ks', e2, rfl⟩ := Option.map_eq_some_iff.mp e
    unfold Reps at r
    obtain ⟨v, vs', rfl, r1, r2⟩ := r
    unfold NKVs
    exact ⟨v, vs', rfl, kOfV_rep x v k e1 r1, kOfVs_rep xs vs' ks' e2 r2⟩
end
def tkey : Vl → Option NestedKey
  | .tup xs => (kOfVs xs).bind fun ks => if goodK (.tup ks) = true then some (.tup ks) else none
  | _ => none
theorem tkey_rep {x : Vl} {v : V} {k : NestedKey} (e : tkey x = some k) (r : RepI K T B A H x v) : ∃ b, v = .ref b ∧ NKV K H k (.ref b) ∧ goodK k = true := by
  unfold tkey at e
  split at e
  · rename_i xs
    obtain ⟨ks, e1, e⟩ := Option.bind_eq_some_iff.mp e
    split at e
    · rename_i hg
      cases e
      unfold RepI at r
      have r2 := r
      unfold Rep at r2
      obtain ⟨p, vs, rfl, _⟩ := r2
      refine ⟨p, rfl, ?_, hg⟩
      refine kOfV_rep (.tup xs) _ _ ?_ r
      unfold kOfV
      rw [e1]
      rfl
    · cases e
  · cases e
/-- what stands at a key -/
def dlook : List NestedKey → List Vl → NestedKey → Option Vl
  | j :: ks, x :: xs, k => if j = k then some x else dlook ks xs k
  | _, _, _ => none
theorem dlook_rep (k : NestedKey) : ∀ (kvs : KTs) (xs : List Vl), Reps K T A H xs (kvs.map (·.2.2)) → (lookT kvs k = none ∧ dlook (kvs.map (·.1)) xs k = none) ∨ ∃ v x, lookT kvs k = some v ∧ dlook (kvs.map (·.1)) xs k = some x ∧ Rep K T A H x v
  | [], xs, _ => .inl ⟨rfl, by cases xs <;> rfl⟩
  | p :: kvs, [], r => by unfold Reps at r; cases r
  | p :: kvs, x :: xs, r => by
    rw [List.map_cons] at r
    unfold Reps at r
    obtain ⟨v, vs, e, r1, r2⟩ := r
    injection e with e1 e2
    subst e1 e2
    have ih := dlook_rep k kvs xs r2
    rw [List.map_cons]
    unfold dlook
    unfold lookT at ih ⊢
    rw [List.find?_cons]
    by_cases h : p.1 = k
    · rw [if_pos h]
      simp only [h, decide_true]
      exact .inr ⟨_, _, rfl, rfl, r1⟩
    · rw [if_neg h]
      simp only [h, decide_false]
      exact ih
theorem dlook_any (k : NestedKey) {kvs : KTs} {xs : List Vl} (r : Reps K T A H xs (kvs.map (·.2.2))) : (lookT kvs k).isSome = (kvs.map (·.1)).any fun j => decide (j = k) := by
  unfold lookT
  rw [Option.isSome_map, List.any_map]
  clear r
  induction kvs with
  | nil => rfl
  | cons p kvs ih =>
    rw [List.find?_cons, List.any_cons, ← ih]
    by_cases h : p.1 = k <;> simp [h, Function.comp]
/-- a dict of tuple keys, or an empty one, as a value -/
theorem td_of {ks : List NestedKey} {xs : List Vl} {v : V} (r : RepI K T B A H (.dk (.t ks) xs) v) : ∃ p kvs, v = .ref p ∧ TD K H p kvs ∧ kvs.map (·.1) = ks ∧ Reps K T A H xs (kvs.map (·.2.2)) ∧ kvs.length ≤ sizeLine ∧ B p ∧ H p = some (NkO p kvs) := by
  unfold RepI at r
  obtain ⟨p, kvs, rfl, b, hq, l, m, rs⟩ := r
  cases kvs with
  | k kvs => cases m.1
  | t p0 kvs =>
    obtain ⟨m1, rfl, f⟩ := m
    injection m1 with m1
    refine ⟨p0, kvs, rfl, .inl ⟨hq, f⟩, m1, rs, ?_, b, hq⟩
    have l : (kvs.map (·.2.2)).length ≤ sizeLine := l
    rwa [List.length_map] at l
theorem td_of0 {xs : List Vl} {v : V} (r : RepI K T B A H (.dk (.k []) xs) v) : ∃ p, v = .ref p ∧ TD K H p [] ∧ xs = [] ∧ B p := by
  unfold RepI at r
  obtain ⟨p, kvs, rfl, b, hq, l, m, rs⟩ := r
  cases kvs with
  | t p0 kvs => cases m.1
  | k kvs =>
    have m1 : kvs.map (·.1) = [] := by injection m.1
    have : kvs = [] := List.map_eq_nil_iff.mp m1
    subst this
    refine ⟨p, rfl, .inr ⟨hq, rfl⟩, ?_, b⟩
    cases xs with
    | nil => rfl
    | cons x xs => unfold Reps at rs; obtain ⟨_, _, e, _⟩ := rs; cases e
end
theorem td_ext {K : PySem.W.Frag} {H H' : Hp} {a : Addr} {kvs : KTs} (h : TD K H a kvs) (e : H' a = H a) (k : ∀ b u, H b = some u → ¬ Mut (some u) → H' b = some u) : TD K H' a kvs := by
  rcases h with ⟨h, f⟩ | ⟨h, e2⟩
  · exact .inl ⟨by rw [e]; exact h, fun x hx => ⟨NKV.move k _ _ (f x hx).1, (f x hx).2⟩⟩
  · exact .inr ⟨by rw [e]; exact h, e2⟩
/-- what a dict holds at a key, whatever its keys are -/
def GetR (K : PySem.W.Frag) (H : Hp) (a : Addr) (y : V) (o : Option V) : Prop := DGet H a y o ∨ ∃ kvs k b, TD K H a kvs ∧ y = .ref b ∧ NKV K H k (.ref b) ∧ goodK k = true ∧ o = lookT kvs k
/-- the heap behind a[y] = v -/
def PutR (K : PySem.W.Frag) (H : Hp) (a : Addr) (y v : V) (H' : Hp) : Prop := DPut H a y v H' ∨ ∃ kvs k b, TD K H a kvs ∧ y = .ref b ∧ NKV K H k (.ref b) ∧ goodK k = true ∧ kvs.length ≤ sizeLine ∧ H' = upd H a (NkO a (putT kvs k b v))
section
variable {X : Cx} {pins : List (Addr × Obj)} {σ : L2.St} {H : Hp} {s : Shared} {a : Addr} {y v d : V} {u r : Value} {o : Option V} {A : Around} {E : Value → Shared → Prop}
theorem g_getItem {Q : Value → Shared → Prop} (hu : A.units + 64 < cLine) (I : Inv X pins σ H s) (g : GetR X.K H a y (some v)) (ry : RelV y u) (h : ∀ w' s', Inv X pins σ H s' → RelV v w' → Q w' s') : wpAny (model X.prog X.w) A (getItem (.ref a) u) Q E s := by
  rcases g with g | ⟨kvs, k, b, t, rfl, n, gk, l⟩
  · exact d_getItem (by omega) I g ry h
  · cases (show u = Value.ref b from ry)
    exact t_getItem hu I t n gk l.symm h
theorem g_in {Q : Value → Shared → Prop} (hu : A.units + 64 < cLine) (I : Inv X pins σ H s) (g : GetR X.K H a y o) (ry : RelV y u) (h : ∀ s', Inv X pins σ H s' → Q (.bool o.isSome) s') : wpAny (model X.prog X.w) A (compareOp .In u (.ref a)) Q E s := by
  rcases g with g | ⟨kvs, k, b, t, rfl, n, gk, rfl⟩
  · exact d_in (by omega) I g ry h
  · cases (show u = Value.ref b from ry)
    exact t_in hu I t n gk h
theorem g_notIn {Q : Value → Shared → Prop} (hu : A.units + 64 < cLine) (I : Inv X pins σ H s) (g : GetR X.K H a y o) (ry : RelV y u) (h : ∀ s', Inv X pins σ H s' → Q (.bool (!o.isSome)) s') : wpAny (model X.prog X.w) A (compareOp .NotIn u (.ref a)) Q E s := by
  rcases g with g | ⟨kvs, k, b, t, rfl, n, gk, rfl⟩
  · exact d_notIn (by omega) I g ry h
  · cases (show u = Value.ref b from ry)
    exact t_notIn hu I t n gk h
theorem g_get1 {Q : Value → Shared → Prop} (hu : A.units + 64 < cLine) (I : Inv X pins σ H s) (g : GetR X.K H a y o) (ry : RelV y u) (h : ∀ w' s', Inv X pins σ H s' → RelV (o.getD .non) w' → Q w' s') : wpAny (model X.prog X.w) A (call (.builtin "dict.get") [.ref a, u]) Q E s := by
  rcases g with g | ⟨kvs, k, b, t, rfl, n, gk, rfl⟩
  · exact d_get1 (by omega) I g ry h
  · cases (show u = Value.ref b from ry)
    exact t_get1 hu I t n gk h
theorem g_get2 {Q : Value → Shared → Prop} (hu : A.units + 64 < cLine) (I : Inv X pins σ H s) (g : GetR X.K H a y o) (ry : RelV y u) (rd : RelV d r) (h : ∀ w' s', Inv X pins σ H s' → RelV (o.getD d) w' → Q w' s') : wpAny (model X.prog X.w) A (call (.builtin "dict.get") [.ref a, u, r]) Q E s := by
  rcases g with g | ⟨kvs, k, b, t, rfl, n, gk, rfl⟩
  · exact d_get2 (by omega) I g ry rd h
  · cases (show u = Value.ref b from ry)
    exact t_get2 hu I t n gk rd h
theorem g_setItem {H' : Hp} {Q : Unit → Shared → Prop} (hu : A.units + 64 < cLine) (I : Inv X pins σ H s) (g : PutR X.K H a y v H') (ry : RelV y u) (rv : RelV v r) (h : ∀ s', Inv X pins σ H' s' → Q () s') : wpAny (model X.prog X.w) A (setItem (.ref a) u r) Q E s := by
  rcases g with g | ⟨kvs, k, b, t, rfl, n, gk, l, rfl⟩
  · exact d_setItem (by omega) I g ry rv h
  · cases (show u = Value.ref b from ry)
    exact t_setItem hu I t n gk rv l h
theorem get_typeIs (I : Inv X pins σ H s) (g : GetR X.K H a y o) : s.TypeIs (.ref a) "dict" := by
  rcases g with g | ⟨kvs, k, b, t, _⟩
  · exact dict_typeIs I g
  · obtain ⟨_, _, xs, _, dd⟩ := td_rd I t
    exact dd.typeIs
end
/-- d[y], d[y] = v -/
def tGet (K : PySem.W.Frag) (td ty : TE) : TE := fun σ H Q => td σ H fun x H1 => ty σ H1 fun y H2 => ∃ a v, x = .ref a ∧ GetR K H2 a y (some v) ∧ Q v H2
def sPutG (K : PySem.W.Frag) (td ty tv : TE) : TS := fun D σ H => tv σ H fun v H1 => td σ H1 fun x H2 => ty σ H2 fun y H3 => ∃ a H4, x = .ref a ∧ PutR K H3 a y v H4 ∧ D.nx σ H4
/-- a is a dict -/
def IsDt (K : PySem.W.Frag) (H : Hp) (a : Addr) : Prop := IsD H a ∨ ∃ kvs, TD K H a kvs
theorem isDt_at {X : Cx} {pins : List (Addr × Obj)} {σ : L2.St} {H : Hp} {s : Shared} {a : Addr} (I : Inv X pins σ H s) (d : IsDt X.K H a) :
    s.TypeIs (.ref a) "dict" ∧ (∀ b, Value.ref a = .ref b → ∃ ob, s.heap.get? b = some ob ∧ ob.dict = none) ∧ (a == sysModules) = false := by
  rcases d with d | ⟨kvs, t⟩
  · exact isD_at I d
  · obtain ⟨hd, _, xs, _, dd⟩ := td_rd I t
    refine ⟨dd.typeIs, fun b q => ?_, hd⟩
    cases q
    obtain ⟨ob, _, _, h1, h2, _⟩ := dd
    exact ⟨ob, h1, h2.2.1⟩
def tGet1 (K : PySem.W.Frag) (td ty : TE) : TE := fun σ H Q => td σ H fun x H1 => ∃ a, x = .ref a ∧ IsDt K H1 a ∧ ty σ H1 fun y H2 => ∃ o, GetR K H2 a y o ∧ Q (o.getD .non) H2
def tGet2 (K : PySem.W.Frag) (td ty tx : TE) : TE := fun σ H Q => td σ H fun x H1 => ∃ a, x = .ref a ∧ IsDt K H1 a ∧ ty σ H1 fun y H2 => tx σ H2 fun z H3 => ∃ o, GetR K H3 a y o ∧ Q (o.getD z) H3
section
variable {X : Cx} {o i e f value : Expr} {pos pos' apos cpos : Pos} {td ty tv tx : TE}
theorem pe_getG (hu : X.A.units + 64 < cLine) (ho : PE X o td) (hi : PE X i ty) (hs : NoSl i) : PE X (.Subscript o i pos) (tGet X.K td ty) := by
  refine ⟨fun pins s σ H Q I h => ?_⟩
  refine subD_of PySem.F.slot_dict_getitem.lookup hs (thn (ho.run pins s σ H _ I h) fun u s1 ⟨x, H1, I1, rx, q1⟩ => thn (hi.run pins s1 σ H1 _ I1 q1) fun iv s2 ⟨y, H2, I2, ry, a, v, ex, g, q2⟩ => ?_)
  subst ex
  obtain rfl : u = Value.ref a := rx
  exact ⟨get_typeIs I2 g, g_getItem hu I2 g ry fun w' s3 I3 rw' => ⟨v, H2, I3, rw', q2⟩⟩
theorem ps_putG (hu : X.A.units + 64 < cLine) (ho : PE X o td) (hi : PE X i ty) (hv : PE X value tv) (hs : swapsWith value (some (.Subscript o i pos')) pos.line X.env = pure false) :
    PS X (.Assign [.Subscript o i pos'] value pos) (sPutG X.K td ty tv) := by
  refine ⟨fun pins s σ H D I h => ?_⟩
  refine wpAny_Assign_Subscript (thn (hv.run pins s σ H _ I h) fun r s1 ⟨v, H1, I1, rv, q1⟩ => thn (ho.run pins s1 σ H1 _ I1 q1) fun u s2 ⟨x, H2, I2, rx, q2⟩ => thn (hi.run pins s2 σ H2 _ I2 q2) fun iv s3 ⟨y, H3, I3, ry, a, H4, ex, g, q3⟩ => ?_) hs
  subst ex
  obtain rfl : u = Value.ref a := rx
  exact g_setItem hu I3 g ry rv fun s4 I4 => ⟨σ, H4, I4, q3⟩
theorem pe_getG1 (hu : X.A.units + 64 < cLine) (ho : PE X o td) (he : PE X e ty) (m : M1 X o "get" apos e cpos) : PE X (.Call (.Attribute o "get" apos) [e] [] cpos) (tGet1 X.K td ty) := by
  refine ⟨fun pins s σ H Q I h => ?_⟩
  refine wpAny_Call_method m.base m.few m.line PySem.F.plainAttrs_dict PySem.F.slot_dict_get PySem.F.type_dict_get (thn (ho.run pins s σ H _ I h) fun u s1 ⟨x, H1, I1, rx, a, ex, d, q1⟩ => ?_)
  subst ex
  obtain rfl : u = Value.ref a := rx
  obtain ⟨t1, t2, _⟩ := isDt_at I1 d
  refine ⟨t1, t2, ?_⟩
  rw [m.trees]
  refine Calls.callWith_builtin rfl (Calls.evalArgs_plain (Calls.spliced_cons (thn (he.run pins s1 σ H1 _ I1 q1) fun iv s2 ⟨y, H2, I2, ry, ov, g, q2⟩ => Calls.spliced_nil ?_)))
  exact g_get1 hu I2 g ry fun w' s3 I3 rw' => ⟨_, H2, I3, rw', q2⟩
theorem pe_getG2 (hu : X.A.units + 64 < cLine) (ho : PE X o td) (he : PE X e ty) (hf : PE X f tx) (m : M2 X o "get" apos e f cpos) : PE X (.Call (.Attribute o "get" apos) [e, f] [] cpos) (tGet2 X.K td ty tx) := by
  refine ⟨fun pins s σ H Q I h => ?_⟩
  refine wpAny_Call_method m.base m.few m.line PySem.F.plainAttrs_dict PySem.F.slot_dict_get PySem.F.type_dict_get (thn (ho.run pins s σ H _ I h) fun u s1 ⟨x, H1, I1, rx, a, ex, d, q1⟩ => ?_)
  subst ex
  obtain rfl : u = Value.ref a := rx
  obtain ⟨t1, t2, _⟩ := isDt_at I1 d
  refine ⟨t1, t2, ?_⟩
  rw [m.trees]
  refine Calls.callWith_builtin rfl (Calls.evalArgs_plain (Calls.spliced_cons (thn (he.run pins s1 σ H1 _ I1 q1) fun iv s2 ⟨y, H2, I2, ry, q2⟩ =>
    Calls.spliced_cons (thn (hf.run pins s2 σ H2 _ I2 q2) fun fv s3 ⟨z, H3, I3, rz, ov, g, q3⟩ => Calls.spliced_nil ?_))))
  exact g_get2 hu I3 g ry rz fun w' s4 I4 rw' => ⟨_, H3, I4, rw', q3⟩
def rInG (K : PySem.W.Frag) : R2 := fun x y H Q => ∃ a o, y = .ref a ∧ GetR K H a x o ∧ Q (.bl o.isSome) H
def rNotInG (K : PySem.W.Frag) : R2 := fun x y H Q => ∃ a o, y = .ref a ∧ GetR K H a x o ∧ Q (.bl (!o.isSome)) H
theorem op_inG (hu : X.A.units + 64 < cLine) : OpR X (compareOp .In) (rInG X.K) := by
  intro pins s σ H x y v u Q I rx ry h
  obtain ⟨a, o, rfl, hg, q⟩ := h
  cases ry
  exact g_in hu I hg rx fun s3 I3 => ⟨.bl o.isSome, H, I3, rfl, q⟩
theorem op_notInG (hu : X.A.units + 64 < cLine) : OpR X (compareOp .NotIn) (rNotInG X.K) := by
  intro pins s σ H x y v u Q I rx ry h
  obtain ⟨a, o, rfl, hg, q⟩ := h
  cases ry
  exact g_notIn hu I hg rx fun s3 I3 => ⟨.bl (!o.isSome), H, I3, rfl, q⟩
end
end PyA
/-! PyY: dicts that a name owns: {}, d[k] = v, sorted(d). -/
namespace PyA
open PySem L2
section
variable {κ α : Type} [DecidableEq κ]
/-- in its place, or at the end -/
def putV (ks : List κ) (xs : List α) (k : κ) (y : α) : List κ × List α :=
  if (ks.any fun j => decide (j = k)) = true then (ks, List.zipWith (fun j x => if j = k then y else x) ks xs) else (ks ++ [k], xs ++ [y])
theorem put_any (kvs : List (κ × V)) (k : κ) : ((kvs.map (·.1)).any fun j => decide (j = k)) = kvs.any fun kv => decide (kv.1 = k) := by
  rw [List.any_map]
  rfl
theorem putK_keys (kvs : List (κ × V)) (k : κ) (v : V) : (putK kvs k v).map (·.1) = (putV (kvs.map (·.1)) (kvs.map (·.2)) k v).1 := by
  unfold putK putV
  rw [put_any]
  by_cases h : (kvs.any fun kv => decide (kv.1 = k)) = true
  · rw [if_pos h, if_pos h, List.map_map]
    refine List.map_congr_left fun kv _ => ?_
    show (if kv.1 = k then (kv.1, v) else kv).1 = kv.1
    split <;> rfl
  · rw [if_neg h, if_neg h, List.map_append]
    rfl
theorem put_zip (k : κ) (v : V) : ∀ kvs : List (κ × V), (kvs.map fun kv => if kv.1 = k then (kv.1, v) else kv).map (·.2) = List.zipWith (fun j x => if j = k then v else x) (kvs.map (·.1)) (kvs.map (·.2))
  | [] => rfl
  | kv :: r => by
    have ih := put_zip k v r
    rw [List.map_cons, List.map_cons, List.map_cons, List.map_cons, List.zipWith_cons_cons, ih]
    congr 1
    split <;> rfl
theorem putK_vals (kvs : List (κ × V)) (k : κ) (v : V) : (putK kvs k v).map (·.2) = (putV (kvs.map (·.1)) (kvs.map (·.2)) k v).2 := by
  unfold putK putV
  rw [put_any]
  by_cases h : (kvs.any fun kv => decide (kv.1 = k)) = true
  · rw [if_pos h, if_pos h, put_zip]
  · rw [if_neg h, if_neg h, List.map_append]
    rfl
variable {K : PySem.W.Frag} {T : Tk} {A : Addr → Prop} {H : Hp} {y : Vl} {v : V}
theorem reps_zipW (k : κ) (ry : Rep K T A H y v) : ∀ {ks : List κ} {xs : List Vl} {vs : List V}, Reps K T A H xs vs → Reps K T A H (List.zipWith (fun j x => if j = k then y else x) ks xs) (List.zipWith (fun j x => if j = k then v else x) ks vs)
  | [], xs, vs, _ => by rw [List.zipWith_nil_left, List.zipWith_nil_left]; exact Reps.nil
  | j :: ks, [], vs, h => by
    unfold Reps at h
    subst h
    exact Reps.nil
  | j :: ks, x :: xs, vs, h => by
    unfold Reps at h
    obtain ⟨u, r, rfl, h1, h2⟩ := h
    rw [List.zipWith_cons_cons, List.zipWith_cons_cons]
    refine Reps.cons ?_ (reps_zipW k ry h2)
    split
    · exact ry
    · exact h1
theorem reps_putV (ks : List κ) (k : κ) {xs : List Vl} {vs : List V} (ry : Rep K T A H y v) (h : Reps K T A H xs vs) : Reps K T A H (putV ks xs k y).2 (putV ks vs k v).2 := by
  unfold putV
  split
  · exact reps_zipW k ry h
  · exact Reps.append h (Reps.cons ry Reps.nil)
end
def ckey : Vl → Option Key
  | .int i => some (.inl i)
  | .str z => some (.inr ⟨z.toArray⟩)
  | _ => none
def dputP : Vl → Vl → Vl → Option Vl
  | .dk (.k ks) xs, key, y => match ckey key with
    | some k => if ks.length < sizeLine then some (.dk (.k (putV ks xs k y).1) (putV ks xs k y).2) else none
    | none => if ks = [] then (tkey key).map fun k => .dk (.t [k]) [y] else none
  | .dk (.t ks) xs, key, y => match tkey key with
    | some k => if ks.length < sizeLine then some (.dk (.t (putV ks xs k y).1) (putV ks xs k y).2) else none
    | none => none
  | _, _, _ => none
theorem putT_keyV (kvs : KTs) (k : NestedKey) (b : Addr) (v : V) : (putT kvs k b v).map (·.1) = (putV (kvs.map (·.1)) (kvs.map (·.2.2)) k v).1 := by
  rw [putT_keys]
  unfold putV
  rw [List.any_map]
  have e : (kvs.any fun x => decide (x.1 = k)) = kvs.any ((fun j => decide (j = k)) ∘ fun x => x.1) := rfl
  rw [e]
  split <;> rfl
theorem putT_vals (kvs : KTs) (k : NestedKey) (b : Addr) (v : V) : (putT kvs k b v).map (·.2.2) = (putV (kvs.map (·.1)) (kvs.map (·.2.2)) k v).2 := by
  unfold putT putV
  rw [List.any_map]
  have e : (kvs.any fun x => decide (x.1 = k)) = kvs.any ((fun j => decide (j = k)) ∘ fun x => x.1) := rfl
  rw [e]
  by_cases h : (kvs.any ((fun j => decide (j = k)) ∘ fun x => x.1)) = true
  · rw [if_pos h, if_pos h]
    clear h e
    induction kvs with
    | nil => rfl
    | cons p kvs ih =>
      rw [List.map_cons, List.map_cons, List.map_cons, List.map_cons, List.zipWith_cons_cons, ih]
      congr 1
      split <;> rfl
  · rw [if_neg h, if_neg h, List.map_append]
    rfl
def dctAt (ρ : PEnv) (i : Nat) : Option Unit := match look ρ i with
  | some (.dk _ _) => some ()
  | _ => none
def dputAt (ρ : PEnv) (i : Nat) (k y : Vl) : Option PEnv := (look ρ i).bind fun d => (dputP d k y).map fun d' => ρ.set i (some d')
/-- d[k] = e -/
def sDPut {C : Type} (i : Nat) (fk f : FE C) : FS C := fun ρ => bnd (f ρ) fun y => bnd (opt (dctAt ρ i)) fun _ => bnd (fk ρ) fun k => bnd (opt (dputAt ρ i k y)) fun ρ' => ret (.nx ρ')
/-- {} -/
def fDk0 {C : Type} : FE C := fC (.dk (.k []) [])
theorem ckey_rep {K : PySem.W.Frag} {T : Tk} {B A : Addr → Prop} {H : Hp} {x : Vl} {v : V} {k : Key} (e : ckey x = some k) (r : RepI K T B A H x v) : v = kV k := by
  cases x <;> first | cases e | skip
  · rw [ri_int r]; rfl
  · rw [ri_str r]; rfl
section
variable {X : Cx} {C : Type} {g : Fx C} {e : Expr} {pos : Pos} {ρ : PEnv} {σ : L2.St} {H : Hp} {cc : C} {D : Ends}
theorem EI.mutG {i : Nat} {x x' : Vl} {ob : HO} {q : Addr} (ei : EI g ρ σ H) (hd : g.r.held cc H) (ho : g.own i = true) (e : ρ[i]? = some (some x)) (eq : σ[i]? = some (some (.ref q)))
    (hx : g.H0 q = none → ¬ g.r.rg q → (∀ a u, H a = some u → (Mut (some u) → Ad g ρ σ a) → (upd H q ob) a = some u) → (∀ a, Ad g ρ σ a → Ad g (ρ.set i (some x')) σ a) → OwnAt g (ρ.set i (some x')) σ (upd H q ob) x' (.ref q)) :
    EI g (ρ.set i (some x')) σ (upd H q ob) ∧ StepS g ρ σ H (ρ.set i (some x')) σ (upd H q ob) ∧ g.r.held cc (upd H q ob) := by
  have ow : Own g ρ σ q := ⟨i, _, ho, e, eq⟩
  obtain ⟨u0, hu0, mu0, n0, nr0⟩ := ei.own_some ow
  have oi : ∀ a, Own g (ρ.set i (some x')) σ a ↔ Own g ρ σ a := fun a => by
    constructor
    · rintro ⟨j, y, o, e1, e2⟩
      by_cases hj : i = j
      · subst hj
        exact ⟨i, _, o, e, e2⟩
      · rw [List.getElem?_set_ne hj] at e1
        exact ⟨j, y, o, e1, e2⟩
    · rintro ⟨j, y, o, e1, e2⟩
      by_cases hj : i = j
      · subst hj
        have hl : i < ρ.length := (List.getElem?_eq_some_iff.mp e).1
        exact ⟨i, x', o, by rw [List.getElem?_set_self hl], e2⟩
      · exact ⟨j, y, o, by rw [List.getElem?_set_ne hj]; exact e1, e2⟩
  have ad : ∀ a, Ad g ρ σ a → Ad g (ρ.set i (some x')) σ a := fun a z => ⟨z.1, fun y => z.2 ((oi a).mp y)⟩
  have kb : ∀ a u, H a = some u → a ≠ q → (upd H q ob) a = some u := fun a u e ne => by rw [upd_ne ne]; exact e
  have mv : ∀ a u, H a = some u → (Mut (some u) → Ad g ρ σ a) → (upd H q ob) a = some u := fun a u e m => by
    by_cases z : a = q
    · subst z
      rw [hu0] at e
      cases e
      exact absurd ow (m mu0).2
    · exact kb a u e z
  refine ⟨⟨by rw [List.length_set]; exact ei.len, fun a u e nr => ?_, fun j y e1 => ?_, fun j l y z p oj ol e1 e2 e3 e4 => ?_⟩, fun a u e n nr => ⟨kb a u e fun z => n (z ▸ ow), fun z => n ((oi a).mp z)⟩, Rg.new hd nr0⟩
  · have ne : a ≠ q := fun z => by
      subst z
      rw [n0] at e
      cases e
    exact kb a u (ei.keep a u e nr) ne
  · by_cases hj : i = j
    · subst hj
      have hl' : i < ρ.length := (List.getElem?_eq_some_iff.mp e).1
      rw [List.getElem?_set_self hl'] at e1
      cases e1
      refine ⟨_, eq, ?_⟩
      rw [if_pos ho]
      exact hx n0 nr0 mv ad
    · rw [List.getElem?_set_ne hj] at e1
      obtain ⟨w, e2, h⟩ := ei.slot j y e1
      refine ⟨w, e2, ?_⟩
      by_cases o : g.own j = true
      · rw [if_pos o] at h ⊢
        have nq : ∀ p, w = .ref p → p ≠ q := fun p ep z => by
          subst ep
          subst z
          exact hj (ei.dist i j _ _ p ho o e e1 eq e2)
        cases y with
        | lst ys =>
          unfold OwnAt at h ⊢
          obtain ⟨p, vs, e3, n, nr, hq, l, r⟩ := h
          exact ⟨p, vs, e3, n, nr, kb _ _ hq (nq p e3), l, r.move mv fun a _ _ z => ad a z⟩
        | dk ks ys =>
          unfold OwnAt at h ⊢
          obtain ⟨p, vs, e3, n, nr, hq, l, m, r⟩ := h
          exact ⟨p, vs, e3, n, nr, kb _ _ hq (nq p e3), l, fine_m m fun a u e nm => mv a u e fun z => absurd z nm, r.move mv fun a _ _ z => ad a z⟩
        | _ => exact h
      · rw [if_neg o] at h ⊢
        exact h.move mv fun a _ _ z => ad a z
  · have back : ∀ m w, (ρ.set i (some x'))[m]? = some (some w) → ∃ w', ρ[m]? = some (some w') := fun m w h => by
      by_cases hm : i = m
      · subst hm
        exact ⟨_, e⟩
      · rw [List.getElem?_set_ne hm] at h
        exact ⟨w, h⟩
    obtain ⟨y', ey⟩ := back j y e1
    obtain ⟨z', ez⟩ := back l z e2
    exact ei.dist j l y' z' p oj ol ey ez e3 e4
theorem EI.dctFirst {i : Nat} {k : M C Out} (ei : EI g ρ σ H) (hd : g.r.held cc H) (ho : g.own i = true) (q : GoS g ρ σ H (bnd (opt (dctAt ρ i)) (fun _ => k) cc) D) :
    ∃ ks xs q0 kvs, ρ[i]? = some (some (.dk ks xs)) ∧ σ[i]? = some (some (.ref q0)) ∧ H q0 = some (DKV.ob kvs) ∧ kvs.len ≤ sizeLine ∧ (kvs.keys = ks ∧ kvs.fine g.K H q0) ∧ Reps g.K g.r.T (Ad g ρ σ) H xs kvs.vals ∧ GoS g ρ σ H (k cc) D := by
  obtain ⟨_, e1, w⟩ := GoX.opt hd (GoS.bx ei q)
  unfold dctAt at e1
  split at e1
  · rename_i ks xs e
    have e0 := look_some e
    obtain ⟨v, e2, h⟩ := ei.slot i _ e0
    rw [if_pos ho] at h
    unfold OwnAt at h
    obtain ⟨p, vs, rfl, n, nr, hq, l, m, r⟩ := h
    exact ⟨ks, xs, p, vs, e0, e2, hq, l, m, r, w⟩
  · cases e1
theorem sizeL_pos : 1 ≤ sizeLine := by decide
/-- a store in a dict that a name owns: the heap behind it -/
theorem dput_ok {i : Nat} {ks : DKeys} {xs : List Vl} {q0 : Addr} {kvs : DKV} {kx y d' : Vl} {kv v : V} (ei : EI g ρ σ H) (hd : g.r.held cc H) (ho : g.own i = true) (e0 : ρ[i]? = some (some (.dk ks xs))) (e1 : σ[i]? = some (some (.ref q0)))
    (hq : H q0 = some (DKV.ob kvs)) (l : kvs.len ≤ sizeLine) (m : kvs.keys = ks ∧ kvs.fine g.K H q0) (rs : Reps g.K g.r.T (Ad g ρ σ) H xs kvs.vals) (rk : RepI g.K g.r.T (Bd g) (Ad g ρ σ) H kx kv) (rv : Rep g.K g.r.T (Ad g ρ σ) H y v) (ed : dputP (.dk ks xs) kx y = some d') :
    ∃ H', PutR g.K H q0 kv v H' ∧ EI g (ρ.set i (some d')) σ H' ∧ StepS g ρ σ H (ρ.set i (some d')) σ H' ∧ g.r.held cc H' := by
  cases ks with
  | t ks =>
    cases kvs with
    | k kvs => cases m.1
    | t p0 kvs =>
    obtain ⟨m1, rfl, f⟩ := m
    have m1 : kvs.map (·.1) = ks := by injection m1
    unfold dputP at ed
    dsimp only at ed
    cases ek : tkey kx with
    | none => rw [ek] at ed; cases ed
    | some kk =>
      rw [ek] at ed
      dsimp only at ed
      by_cases hl : ks.length < sizeLine
      · rw [if_pos hl] at ed
        cases ed
        obtain ⟨b, rfl, n, gk⟩ := tkey_rep ek rk
        have hl' : kvs.length < sizeLine := by rw [← m1, List.length_map] at hl; exact hl
        refine ⟨_, .inr ⟨kvs, kk, b, .inl ⟨hq, f⟩, rfl, n, gk, Nat.le_of_lt hl', rfl⟩, ?_⟩
        refine ei.mutG hd ho e0 e1 (x' := .dk (.t (putV ks xs kk y).1) (putV ks xs kk y).2) (ob := NkO p0 (putT kvs kk b v)) fun n0 nr0 mv ad => ?_
        unfold OwnAt
        have r2 := reps_putV ks kk rv rs
        refine ⟨p0, .t p0 (putT kvs kk b v), rfl, n0, nr0, upd_same, ?_, ⟨?_, rfl, fun x hx => ?_⟩, ?_⟩
        · show ((putT kvs kk b v).map (·.2.2)).length ≤ sizeLine
          rw [List.length_map]
          exact Nat.le_trans (putT_len kvs kk b v) hl'
        · show DKeys.t ((putT kvs kk b v).map (·.1)) = _
          rw [putT_keyV, m1]
          congr 1
          unfold putV
          split <;> rfl
        · have mv2 : ∀ a u, H a = some u → ¬ Mut (some u) → (upd H p0 (NkO p0 (putT kvs kk b v))) a = some u := fun a u e nm => mv a u e fun z => absurd z nm
          rcases putT_mem hx with ⟨z, hz, e2, e3⟩ | ⟨e2, e3⟩
          · rw [← e2, ← e3]
            exact ⟨NKV.move mv2 _ _ (f z hz).1, (f z hz).2⟩
          · rw [e2, e3]
            exact ⟨NKV.move mv2 _ _ n, gk⟩
        · show Reps _ _ _ _ _ ((putT kvs kk b v).map (·.2.2))
          rw [putT_vals, m1]
          exact r2.move mv fun a _ _ z => ad a z
      · rw [if_neg hl] at ed
        cases ed
  | k ks =>
    cases kvs with
    | t p0 kvs => cases m.1
    | k kvs =>
    have m : kvs.map (·.1) = ks := by injection m.1
    unfold dputP at ed
    dsimp only at ed
    cases ek : ckey kx with
    | none =>
      rw [ek] at ed
      dsimp only at ed
      split at ed
      · rename_i ke
        subst ke
        obtain ⟨kk, ek2, rfl⟩ := Option.map_eq_some_iff.mp ed
        obtain ⟨b, rfl, n, gk⟩ := tkey_rep ek2 rk
        have hk0 : kvs = [] := List.map_eq_nil_iff.mp m
        subst hk0
        refine ⟨_, .inr ⟨[], kk, b, .inr ⟨hq, rfl⟩, rfl, n, gk, Nat.zero_le _, rfl⟩, ?_⟩
        refine ei.mutG hd ho e0 e1 (x' := .dk (.t [kk]) [y]) (ob := NkO q0 (putT [] kk b v)) fun n0 nr0 mv ad => ?_
        unfold OwnAt
        refine ⟨q0, .t q0 [(kk, b, v)], rfl, n0, nr0, upd_same, sizeL_pos, ⟨rfl, rfl, fun x hx => ?_⟩, Reps.cons (rv.move mv fun a _ _ z => ad a z) Reps.nil⟩
        rw [List.mem_singleton.mp hx]
        exact ⟨NKV.move (fun a u e nm => mv a u e fun z => absurd z nm) _ _ n, gk⟩
      · cases ed
    | some kk =>
      rw [ek] at ed
      dsimp only at ed
      by_cases hl : ks.length < sizeLine
      · rw [if_pos hl] at ed
        cases ed
        obtain rfl := ckey_rep ek rk
        have hl' : kvs.length < sizeLine := by rw [← m, List.length_map] at hl; exact hl
        refine ⟨_, .inl (DPut.k hq hl'), ?_⟩
        refine ei.mutG hd ho e0 e1 (x' := .dk (.k (putV ks xs kk y).1) (putV ks xs kk y).2) (ob := .dK (putK kvs kk v)) fun n0 nr0 mv ad => ?_
        unfold OwnAt
        have r2 := reps_putV ks kk rv rs
        refine ⟨q0, .k (putK kvs kk v), rfl, n0, nr0, upd_same, ?_, ⟨?_, trivial⟩, ?_⟩
        · show ((putK kvs kk v).map (·.2)).length ≤ sizeLine
          rw [List.length_map]
          exact Nat.le_trans (length_putK kvs kk v) hl'
        · show DKeys.k ((putK kvs kk v).map (·.1)) = _
          rw [putK_keys, m]
          congr 1
          unfold putV
          split <;> rfl
        · show Reps _ _ _ _ _ ((putK kvs kk v).map (·.2))
          rw [putK_vals, m]
          exact r2.move mv fun a _ _ z => ad a z
      · rw [if_neg hl] at ed
        cases ed
theorem ds_dput {i : Nat} {x : Str} {ik : Expr} {f fk : FE C} {p0 pt : Pos} {bk : Bool} (hu : X.A.units + 64 < cLine) (hK : X.K = g.K) (hN : X.N[i]? = some x) (hv : Vis X.env.scope x) (ho : g.own i = true) (h : PE X e (tE g true f)) (hk : PE X ik (tE g bk fk)) (hd1 : (x == ("__debug__" : Str)) = false := by decide) (hcd : (x == ("__classdict__" : Str)) = false := by decide)
    (hs : swapsWith e (some (.Subscript (.Name x p0) ik pt)) pos.line X.env = pure false := by rfl) :
    PS X (.Assign [.Subscript (.Name x p0) ik pt] e pos) (tS g (sDPut i fk f)) :=
  (ps_putG hu (pe_var hN hv hd1 hcd) hk h hs).weak fun D σ H ⟨ρ, c, ei, hd, q⟩ => by
    rw [hK]
    refine ⟨ρ, c, ei, hd, (GoX.bind1 (GoS.bx ei q)).mono fun y c1 H1 k hd1 w v rv => ?_⟩
    have ei1 := ei.kp hd k
    obtain ⟨ks, xs, q0, kvs, e0, e1, hq, l, m, rs, w⟩ := ei1.dctFirst hd1 ho w
    refine ⟨.ref q0, e1, ?_⟩
    refine ⟨ρ, c1, ei1, hd1, (GoX.bind1 (GoS.bx ei1 w)).mono fun kx c2 H2 k2 hd2 w2 kv rk => ?_⟩
    have ei2 := ei1.kp hd1 k2
    obtain ⟨ρ', er, w3⟩ := GoX.opt hd2 (GoS.bx ei2 w2)
    unfold dputAt at er
    rw [look_of e0] at er
    obtain ⟨d', ed, er⟩ := Option.map_eq_some_iff.mp er
    subst er
    have h2 := k2 _ _ hq (ei1.own_some ⟨i, _, ho, e0, e1⟩).choose_spec.2.2.2
    obtain ⟨H', pr, a1, a2, a3⟩ := dput_ok ei2 hd2 ho e0 e1 h2 l (fine_m m fun a u e nm => k2 a u e fun z => nm (e ▸ g.r.hmut _ _ _ hd1 z)) (rs.kp hd1 k2) rk.i (rv.kp hd1 k2) ed
    exact ⟨q0, H', rfl, pr, w3 σ _ a1 a3 a2⟩
theorem de_dk0 : PE X (.Dict [] [] pos) (tN g fDk0) :=
  pe_dnewK.weak fun σ H Q ⟨ρ, c, ei, hd, q⟩ => fun p np => by
    refine q (upd H p (.dK [])) (Kp.of (same_new np)) (Rg.same hd (same_new np)) _ ?_
    unfold RepN
    exact ⟨p, .k [], rfl, np, upd_same, Nat.zero_le _, ⟨rfl, trivial⟩, Reps.nil⟩
end
/-! ### sorted(d), the keys texts -/
def kstr : Key → Option (List Nat)
  | .inr z => some z.cps.toList
  | _ => none
def kstrM : List Key → Option (List (List Nat))
  | [] => some []
  | k :: ks => (kstr k).bind fun z => (kstrM ks).map fun r => z :: r
def sV : Vl → V
  | .str z => .str ⟨z.toArray⟩
  | _ => .non
def sortDP : List Vl → Option Vl
  | [.dk (.k ks) _] => match kstrM ks with
    | some zs => if zs.length ≤ sizeLine ∧ ordV (zs.map Vl.str) = true then some (.lst (sortF (zs.map Vl.str))) else none
    | none => none
  | _ => none
section
variable {X : Cx}
theorem ordV_strs {zs : List (List Nat)} : PySem.W.Sortable ((zs.map Vl.str).map toD) := .inr fun d hd => by
  obtain ⟨x, hx, rfl⟩ := List.mem_map.mp hd
  obtain ⟨z, _, rfl⟩ := List.mem_map.mp hx
  unfold toD
  exact ⟨nofun, fun _ => nofun⟩
theorem cr_sortedDK (hcalm : X.calm = true) (hu : X.A.units + 64 < cLine) : CallR X (.builtin "sorted") (fun xs H Q => ∃ (a : Addr) (kvs : List (Key × V)) (zs : List (List Nat)), xs = [.ref a] ∧ Rd H a (.dK kvs) ∧ kvs.map (·.1) = zs.map (fun z => Sum.inr (⟨z.toArray⟩ : Str)) ∧ zs.length ≤ sizeLine ∧ ordV (zs.map Vl.str) = true ∧
    ∀ p, H p = none → Q (.ref p) (upd H p (.lst ((sortF (zs.map Vl.str)).map sV)))) := by
  intro pins s σ H xs us Q I r q
  obtain ⟨a, kvs, zs, ex, hd, hks, hz, ho, q⟩ := q
  subst ex
  obtain ⟨u, eu, rx⟩ := vals1 r
  subst eu
  cases rx
  obtain ⟨z, lo, vs, rel, dd⟩ := dk_rd I.hok hd
  obtain ⟨ep, hat⟩ := dd.dictAt
  have hkeys : vs.map (·.1) = zs.map (fun z => Sum.inr (⟨z.toArray⟩ : Str)) := rel.keys.symm.trans hks
  have hl : vs.length = zs.length := by
    have e := congrArg List.length hkeys
    rw [List.length_map, List.length_map] at e
    exact e
  have h16 : vs.length ≤ sizeLine := by rw [hl]; exact hz
  refine Calls.call_function_entry PyProof.Rows.kind_sorted PyProof.Rows.plain_sorted PyProof.Rows.entry_sorted (PyProof.Rows.args_sorted1 _) ?_
  unfold Builtin.«sorted»
  refine wpAny_bind (m := checkCount "sorted" 1 1 _) (wpAny_pure ?_)
  refine wpAny_bind (PySem.W.kdu_collect (A := X.A.in1) (PySem.W.kdl_dict (knd := mixKind X.prog X.w) (kvs := vs) (ep := ep) lo) (I.ok.hd hcalm) hat h16 fun h' tk acc hk hacc => ?_)
  have hal : acc.toList.length = zs.length := by rw [Array.length_toList, hacc.1, hl]
  have go : ∀ (zs : List (List Nat)) (us : List Value), us.length = zs.length → (∀ (j : Nat) (v : Value), us[j]? = some v → ∃ z, zs[j]? = some z ∧ RelV (V.str ⟨z.toArray⟩) v) → PySem.W.EachIs (fun v (b : Vl) => ∃ z, b = .str z ∧ RelV (V.str ⟨z.toArray⟩) v) us (zs.map Vl.str) := fun zs => by
    induction zs with
    | nil => intro us l _; cases us with | nil => exact .nil | cons _ _ => cases l
    | cons z zs ih =>
      intro us l h
      cases us with
      | nil => cases l
      | cons u us =>
        obtain ⟨z', e1, e2⟩ := h 0 u rfl
        cases e1
        exact .cons ⟨z, rfl, e2⟩ (ih us (Nat.succ.inj l) fun j v e => h (j + 1) v e)
  have hS := go zs acc.toList hal fun j v e => by
    obtain ⟨k, x, e1, e2⟩ := hacc.2 j v (by rw [← Array.getElem?_toList]; exact e)
    have e3 : (vs.map (·.1))[j]? = some k := by rw [List.getElem?_map, e1]; all_goals rfl
    rw [hkeys, List.getElem?_map] at e3
    cases e4 : zs[j]? with
    | none => rw [e4] at e3; cases e3
    | some y =>
      rw [e4] at e3
      have e5 : Sum.inr (⟨y.toArray⟩ : Str) = k := Option.some.inj e3
      subst e5
      obtain ⟨t, ev⟩ := Value.isStrOf_shape (x := ⟨y.toArray⟩) (v := v) e2
      exact ⟨y, rfl, t, ev⟩
  have I1 : Inv X pins σ H { s with heap := h', toks := tk } := I.kept hk
  refine wpAny_bind (wpAny_newList ?_ (by rw [hal]; exact hz))
  have hoL : (h'.push (PyProof.Rows.seqObj "list" acc.toList.toArray 0)).get? h'.objs.size = some (PyProof.Rows.seqObj "list" acc.toList.toArray 0) := Heap.get?_push_size _ rfl
  obtain ⟨o1, o2, o3⟩ := ordV_of ho
  have hlb : (zs.map Vl.str).length ≤ sizeLine := by rw [List.length_map]; exact hz
  show wpAny _ _ _ _ _ { s with heap := h'.push (PyProof.Rows.seqObj "list" acc.toList.toArray 0), toks := tk }
  refine wpAny_bind (wpAny_holding (PySem.W.list_sort_data (s := { s with heap := h'.push (PyProof.Rows.seqObj "list" acc.toList.toArray 0), toks := tk }) (enc := toD) hoL hS (hS.mono fun v b ⟨z, e, t, ev⟩ => by
      subst e
      subst ev
      exact ⟨[], by unfold toD; exact .str _ _, nofun⟩) o2.1 ordV_strs hlb (fun b hb => by
      obtain ⟨z, _, rfl⟩ := List.mem_map.mp hb
      have : (toD (.str z)).depth = 0 := by unfold toD; rfl
      rw [this]
      show X.A.units + 1 + 1 + 0 < cLine
      omega) fun out ol ei => ?_))
  obtain ⟨e', he'⟩ := PyProof.Rows.sortedHeap_at (vs := acc.toList) (out := out.toArray) hoL
  have vl : ∀ (bs : List Vl) (out : List Value), PySem.W.EachIs (fun v (b : Vl) => ∃ z, b = .str z ∧ RelV (V.str ⟨z.toArray⟩) v) out bs → Vals (bs.map sV) out := fun bs => by
    induction bs with
    | nil => intro out e; cases e; exact .nil
    | cons b bs ih =>
      intro out e
      cases e with
      | cons r t =>
        obtain ⟨z, rfl, r⟩ := r
        exact .cons r (ih _ t)
  have hlen : ((sortF (zs.map Vl.str)).map sV).length ≤ sizeLine := by
    rw [List.length_map, sortF, List.length_mergeSort]
    exact hlb
  refine wpAny_pure ⟨_, rfl, ?_⟩
  refine ⟨.ref h'.objs.size, upd H h'.objs.size (.lst ((sortF (zs.map Vl.str)).map sV)), I1.laid (t' := tk) (fun b u e => ?_) (Nat.le_refl _)
    (show ObjOk X.prog X.w _ _ _ (.lst _) from ⟨hlen, out, e', vl _ _ ei, he'⟩), rfl, q _ (I1.hok.fresh (Nat.le_refl _))⟩
  have hb : b < h'.objs.size := Heap.lt_size e
  rw [PyProof.Rows.sortedHeap_old (Nat.ne_of_lt hb) (by show b < (h'.push _).objs.size; rw [PyProof.Rows.size_push']; exact Nat.lt_succ_of_lt hb)]
  exact Heap.get?_push_of_some _ e
theorem kstrs : ∀ {ks : List Key} {zs : List (List Nat)}, kstrM ks = some zs → ks = zs.map fun z => Sum.inr (⟨z.toArray⟩ : Str)
  | [], zs, h => by cases h; rfl
  | k :: ks, zs, h => by
    unfold kstrM at h
    obtain ⟨z, e1, h⟩ := Option.bind_eq_some_iff.mp h
    obtain ⟨r, e2, rfl⟩ := Option.map_eq_some_iff.mp h
    rw [List.map_cons, ← kstrs e2]
    congr 1
    cases k with
    | inl i => cases e1
    | inr s =>
      cases e1
      rfl
theorem call_sortDP (hcalm : X.calm = true) (hu : X.A.units + 64 < cLine) : CallP true X (.builtin "sorted") sortDP := fun T => (cr_sortedDK hcalm hu).weak fun vs H Q ⟨xs, B, A, z, r, e, q⟩ => by
  unfold sortDP at e
  split at e
  · rename_i ks ys
    cases ez : kstrM ks with
    | none => rw [ez] at e; cases e
    | some zs =>
      rw [ez] at e
      dsimp only at e
      split at e
      · rename_i h
        cases e
        obtain ⟨v, rfl, rx⟩ := is_one r
        unfold RepI at rx
        obtain ⟨p, kvs, rfl, b, hq, l, m, rs⟩ := rx
        cases kvs with
        | t p0 kvs => cases m.1
        | k kvs =>
        have m : kvs.map (·.1) = ks := by injection m.1
        refine ⟨p, kvs, zs, rfl, .inl hq, by rw [m]; exact kstrs ez, h.1, h.2, fun pn np => q _ _ (same_new np) ?_⟩
        rw [if_pos rfl]
        unfold RepN
        have rz : ∀ ys : List Vl, (∀ y ∈ ys, ∃ z, y = .str z) → Reps X.K T (fun a => A a ∧ a ≠ pn) (upd H pn (.lst ((sortF (zs.map Vl.str)).map sV))) ys (ys.map sV) := fun ys => by
          induction ys with
          | nil => exact fun _ => Reps.nil
          | cons y ys ih =>
            intro h
            obtain ⟨z, rfl⟩ := h y List.mem_cons_self
            exact Reps.cons rep_str (ih fun x hx => h x (List.mem_cons_of_mem _ hx))
        refine ⟨pn, _, rfl, np, upd_same, by rw [List.length_map, sortF, List.length_mergeSort, List.length_map]; exact h.1, rz _ fun y hy => ?_⟩
        obtain ⟨z, _, rfl⟩ := List.mem_map.mp (List.mem_mergeSort.mp hy)
        exact ⟨z, rfl⟩
      · cases e
  · cases e
end
end PyA
/-! PyZ: xs[i], xs[j] = a, b. -/
namespace PyA
open PySem L2
def two : Vl → Option (Int × Int)
  | .tup [.int a, .int b] => some (a, b)
  | _ => none
def sPut2 {C : Type} (i : Nat) (k1 k2 fa fb : FE C) : FS C := fun ρ => bnd (fTup [fa, fb] ρ) fun t => bnd (opt (two t)) fun p => bnd (opt (lstAt ρ i)) fun _ => bnd (k1 ρ) fun k => bnd (opt (setAt ρ i k (.int p.1))) fun ρ1 =>
  bnd (opt (lstAt ρ1 i)) fun _ => bnd (k2 ρ1) fun k => bnd (opt (setAt ρ1 i k (.int p.2))) fun ρ2 => ret (.nx ρ2)
section
variable {X : Cx} {C : Type} {g : Fx C} {a b : Expr} {pos : Pos}
theorem two_some {t : Vl} {p : Int × Int} (h : two t = some p) : t = .tup [.int p.1, .int p.2] := by
  unfold two at h
  split at h
  · cases h; rfl
  · cases h
theorem ds_put2 {i : Nat} {x : Str} {ik jk : Expr} {fa fb fk fk2 : FE C} {p0 p1 pt pt1 pt0 : Pos} {bk bk2 : Bool} {n1 n2 : Nat} {pt2 : Pos} (hK : X.K = g.K) (hc : X.calm = true) (hN : X.N[i]? = some x) (hv : Vis X.env.scope x) (ho : g.own i = true) (h : PE X (.Tuple [a, b] n2 pt2) (tE g true (fTup [fa, fb])))
    (hk : PE X ik (tE g bk fk)) (hk2 : PE X jk (tE g bk2 fk2)) (hd1 : (x == ("__debug__" : Str)) = false := by decide) (hcd : (x == ("__classdict__" : Str)) = false := by decide)
    (ha : ∀ v, assign (.Subscript (.Name x p0) ik pt) X.env v = (do
      let ov ← holding [v] (eval (.Name x p0) X.env)
      let iv ← holding [v, ov] (eval ik X.env)
      standAt pt
      holding [v, ov, iv] (setItem ov iv v)
      release [v, ov, iv] []) := by intro _; rfl)
    (ha2 : ∀ v, assign (.Subscript (.Name x p1) jk pt1) X.env v = (do
      let ov ← holding [v] (eval (.Name x p1) X.env)
      let iv ← holding [v, ov] (eval jk X.env)
      standAt pt1
      holding [v, ov, iv] (setItem ov iv v)
      release [v, ov, iv] []) := by intro _; rfl)
    (hs3 : (assignEach [.Subscript (.Name x p0) ik pt, .Subscript (.Name x p1) jk pt1] X.env).map (·.2) = assign (.Subscript (.Name x p0) ik pt) X.env :: (assignEach [.Subscript (.Name x p1) jk pt1] X.env).map (·.2) := by rfl)
    (hs4 : (assignEach [.Subscript (.Name x p1) jk pt1] X.env).map (·.2) = assign (.Subscript (.Name x p1) jk pt1) X.env :: (assignEach [] X.env).map (·.2) := by rfl)
    (hn : (assignEach [.Subscript (.Name x p0) ik pt, .Subscript (.Name x p1) jk pt1] X.env).length = 2 := by rfl) (hst : (assignEach [.Subscript (.Name x p0) ik pt, .Subscript (.Name x p1) jk pt1] X.env).findIdx? (·.1) = none := by rfl)
    (hs : swapsWithSole [.Tuple [.Subscript (.Name x p0) ik pt, .Subscript (.Name x p1) jk pt1] n1 pt0] (.Tuple [a, b] n2 pt2) pos.line X.env = pure false := by rfl) (hw : swappedStores [.Tuple [.Subscript (.Name x p0) ik pt, .Subscript (.Name x p1) jk pt1] n1 pt0] (.Tuple [a, b] n2 pt2) X.env = pure none := by rfl)
    (h1 : (assignEach [.Tuple [.Subscript (.Name x p0) ik pt, .Subscript (.Name x p1) jk pt1] n1 pt0] X.env).map (·.2) = [assign (.Tuple [.Subscript (.Name x p0) ik pt, .Subscript (.Name x p1) jk pt1] n1 pt0) X.env] := by rfl) :
    PS X (.Assign [.Tuple [.Subscript (.Name x p0) ik pt, .Subscript (.Name x p1) jk pt1] n1 pt0] (.Tuple [a, b] n2 pt2) pos) (tS g (sPut2 i fk fk2 fa fb)) :=
  (ps_asg h (pg_tup hc (pgs_cons (pg_sub (pe_var hN hv hd1 hcd) hk set_list ha) (pgs_cons (pg_sub (pe_var hN hv hd1 hcd) hk2 set_list ha2) pgs_nil hs4) hs3) hn hst) hs hw h1).weak fun D σ H ⟨ρ, c, ei, hd, q⟩ => by
    refine ⟨ρ, c, ei, hd, (GoX.bind1 (GoS.bx ei q)).mono fun t c1 H1 k hd1 w v rv => ?_⟩
    have ei1 := ei.kp hd k
    obtain ⟨p, et, w⟩ := GoX.opt hd1 (GoS.bx ei1 w)
    obtain rfl := two_some et
    obtain ⟨A, B⟩ := p
    have rv := rv.i
    obtain ⟨pp, us, rfl, sq, l, rs⟩ := ri_tup rv
    unfold Reps at rs
    obtain ⟨u1, r1, rfl, h1, rs⟩ := rs
    unfold Reps at rs
    obtain ⟨u2, r2, rfl, h2, rs⟩ := rs
    unfold Reps at rs
    subst rs
    unfold Rep at h1 h2
    subst h1 h2
    obtain ⟨xs, q0, vs, e0, e1, hq, l1, rs, w⟩ := ei1.lstFirst hd1 ho w
    rw [hK]
    refine ⟨pp, _, rfl, sq, rfl, .int A, _, rfl, .ref q0, e1, ?_⟩
    refine ⟨ρ, c1, ei1, hd1, (GoX.bind1 (GoS.bx ei1 w)).mono fun kx c2 H2 k2 hd2 w2 kv rk => ?_⟩
    have ei2 := ei1.kp hd1 k2
    obtain ⟨ρ', er, w3⟩ := GoX.opt hd2 (GoS.bx ei2 w2)
    unfold setAt at er
    rw [look_of e0] at er
    cases kx with
    | int kk =>
      dsimp only at er
      cases ej : ixN xs.length kk with
      | none => rw [ej] at er; cases er
      | some j =>
        rw [ej] at er
        cases er
        have rk := rk.i
        unfold RepI Rep at rk
        subst rk
        have h2 := k2 _ _ hq (ei1.own_some ⟨i, _, ho, e0, e1⟩).choose_spec.2.2.2
        refine ⟨q0, vs, kk, j, rfl, rfl, h2, by rw [rs.len]; exact ej, ?_⟩
        obtain ⟨a1, a2, a3⟩ := ei2.mut hd2 ho e0 e1 (xs' := xs.set j (.int A)) (vs' := vs.set j (.int A)) (by rw [List.length_set]; exact l1) (Reps.set rep_int j (rs.kp hd1 k2))
        have w4 := GoS.step a2 w3
        obtain ⟨xs2, q2, vs2, f0, f1, fq, fl, fs, w5⟩ := a1.lstFirst a3 ho w4
        refine ⟨.int B, [], rfl, .ref q2, f1, ?_⟩
        refine ⟨_, c2, a1, a3, (GoX.bind1 (GoS.bx a1 w5)).mono fun kx c3 H3 k3 hd3 w6 kv rk => ?_⟩
        have ei3 := a1.kp a3 k3
        obtain ⟨ρ3, er, w7⟩ := GoX.opt hd3 (GoS.bx ei3 w6)
        unfold setAt at er
        rw [look_of f0] at er
        cases kx with
        | int kk2 =>
          dsimp only at er
          cases ej2 : ixN xs2.length kk2 with
          | none => rw [ej2] at er; cases er
          | some j2 =>
            rw [ej2] at er
            cases er
            have rk := rk.i
            unfold RepI Rep at rk
            subst rk
            have h3 := k3 _ _ fq (a1.own_some ⟨i, _, ho, f0, f1⟩).choose_spec.2.2.2
            refine ⟨q2, vs2, kk2, j2, rfl, rfl, h3, by rw [fs.len]; exact ej2, ?_⟩
            obtain ⟨b1, b2, b3⟩ := ei3.mut hd3 ho f0 f1 (xs' := xs2.set j2 (.int B)) (vs' := vs2.set j2 (.int B)) (by rw [List.length_set]; exact fl) (Reps.set rep_int j2 (fs.kp a3 k3))
            exact ⟨rfl, w7 σ _ b1 b3 b2⟩
        | _ => cases er
    | _ => cases er
end
end PyA
/-! PyZa: k in d, k not in d; {k: v}; d[k], d.get(k), d.get(k, v). -/
namespace PyA
open PySem L2
section
variable {X : Cx} {C : Type} {g : Fx C}
def inDkP : Vl → Vl → Option Vl
  | x, .dk (.k ks) _ => match ckey x with
    | some k => some (.bl (ks.any fun j => decide (j = k)))
    | none => if ks = [] then (tkey x).map fun _ => .bl false else none
  | x, .dk (.t ks) _ => (tkey x).map fun k => .bl (ks.any fun j => decide (j = k))
  | _, _ => none
def notInDkP (x y : Vl) : Option Vl := notV (inDkP x y)
theorem inDkP_ok {K : PySem.W.Frag} {T : Tk} {A B : Addr → Prop} {H : Hp} {x y z : Vl} {v w : V} (e : inDkP x y = some z) (rx : RepI K T B A H x v) (ry : RepI K T B A H y w) : ∃ a o, w = .ref a ∧ GetR K H a v o ∧ z = .bl o.isSome := by
  unfold inDkP at e
  split at e
  · rename_i ks xs
    cases ek : ckey x with
    | none =>
      rw [ek] at e
      dsimp only at e
      split at e
      · rename_i ke
        subst ke
        obtain ⟨k, ek2, rfl⟩ := Option.map_eq_some_iff.mp e
        obtain ⟨b, rfl, n, gk⟩ := tkey_rep ek2 rx
        obtain ⟨p, rfl, t, _, _⟩ := td_of0 ry
        exact ⟨p, none, rfl, .inr ⟨[], k, b, t, rfl, n, gk, rfl⟩, rfl⟩
      · cases e
    | some k =>
      rw [ek] at e
      cases e
      obtain rfl := ckey_rep ek rx
      unfold RepI at ry
      obtain ⟨p, kvs, rfl, b, hq, l, m, r⟩ := ry
      cases kvs with
      | t p0 kvs => cases m.1
      | k kvs =>
      have m : kvs.map (·.1) = ks := by injection m.1
      refine ⟨p, valV kvs k, rfl, .inl (DGet.k hq), ?_⟩
      rw [← valV_any, ← put_any, m]
  · rename_i ks xs
    obtain ⟨k, ek, rfl⟩ := Option.map_eq_some_iff.mp e
    obtain ⟨b, rfl, n, gk⟩ := tkey_rep ek rx
    obtain ⟨p, kvs, rfl, t, m, rs, _⟩ := td_of ry
    refine ⟨p, lookT kvs k, rfl, .inr ⟨kvs, k, b, t, rfl, n, gk, rfl⟩, ?_⟩
    rw [dlook_any k rs, m]
  · cases e
theorem op_inDkP (hu : X.A.units + 64 < cLine) : OpP false X (compareOp .In) inDkP := fun T => (op_inG hu).weak fun v w H Q ⟨x, y, B, A, z, rx, ry, e, q⟩ => by
  obtain ⟨a, o, rfl, hg, rfl⟩ := inDkP_ok e rx ry
  exact ⟨a, o, rfl, hg, ans_val q fun _ => rep_bl⟩
theorem op_notInDkP (hu : X.A.units + 64 < cLine) : OpP false X (compareOp .NotIn) notInDkP := fun T => (op_notInG hu).weak fun v w H Q ⟨x, y, B, A, z, rx, ry, e, q⟩ => by
  unfold notInDkP notV at e
  split at e
  · rename_i b0 e0
    cases e
    obtain ⟨a, o, rfl, hg, eb⟩ := inDkP_ok e0 rx ry
    cases eb
    exact ⟨a, o, rfl, hg, ans_val q fun _ => rep_bl⟩
  · cases e
/-- {k: v} -/
def flatC : Vl → Bool
  | .non => true
  | .bl _ => true
  | .int _ => true
  | .str _ => true
  | _ => false
theorem rep_flat {K : PySem.W.Frag} {T : Tk} {A A' : Addr → Prop} {H H' : Hp} {x : Vl} {v : V} (h : flatC x = true) (r : Rep K T A H x v) : Rep K T A' H' x v := by
  cases x <;> first | (cases h; done) | (unfold Rep at r ⊢; exact r)
def dk1P (k v : Vl) : Option Vl := if flatC v = true then match ckey k with
    | some k => some (.dk (.k [k]) [v])
    | none => (tkey k).map fun k => .dk (.t [k]) [v]
  else none
def fDk1 (fk fv : FE C) : FE C := fun ρ => bnd (fk ρ) fun k => bnd (fv ρ) fun v => opt (dk1P k v)
def fDk1k (fk fv : FE C) : FE C := fun ρ => bnd (fk ρ) fun k => bnd (fv ρ) fun v => opt (if flatC v = true then (ckey k).map fun k => .dk (.k [k]) [v] else none)
def fDk1t (fk fv : FE C) : FE C := fun ρ => bnd (fk ρ) fun k => bnd (fv ρ) fun v => opt (if flatC v = true then (tkey k).map fun k => .dk (.t [k]) [v] else none)
theorem pe_disp1T {k v : Expr} {pos : Pos} {tk tv : TE} (hu : X.A.units + 64 < cLine) (hk : PE X k tk) (hv : PE X v tv) :
    PE X (.Dict [some k] [v] pos) (fun σ H Q => ∀ p, H p = none → tk σ (upd H p (.dK [])) fun x H1 => tv σ H1 fun y H2 => ∃ kk b, x = .ref b ∧ NKV X.K H2 kk (.ref b) ∧ goodK kk = true ∧ H2 p = some (.dK []) ∧ Q (.ref p) (upd H2 p (NkO p [(kk, b, y)]))) := by
  refine ⟨fun pins s σ H Q I q => ?_⟩
  have hn := I.hok.fresh (Nat.le_refl s.heap.objs.size)
  have I1 := I.laid (a := s.heap.objs.size) (o := .dK []) (h' := s.heap.push { cls := .type "dict", data := .dict #[] }) (t' := s.toks) (fun _ _ q => Heap.get?_push_of_some _ q) (Nat.le_refl _) (dk_empty s.heap I.big)
  have hz := zip_pairTrees [some k] [v] X.env pos rfl rfl
  rw [arm_eval_Dict, hz, dictDisplay_pairs _ (by intro z; cases z) (by show 1 < 17; decide)]
  have hroom : (nestedKind X.prog X.w).room X.A := by show X.A.units + 8 < cLine; omega
  refine wpAny_bind (wpAny_standAt (wpAny_bind (wpAny_subDictH (knd := nestedKind X.prog X.w) hroom (by show 1 ≤ 15; decide) ?_)))
  refine pairTrees_cons_walk (thn (hk.run pins _ σ _ _ I1 (q _ hn)) fun u s2 ⟨x, H2, I2, rx, q2⟩ => thn (hv.run pins s2 σ H2 _ I2 q2) fun w s3 ⟨y, H3, I3, ry, kk, b, ex, n, gk, hp, q3⟩ => pairTrees_nil_walk ?_)
  subst ex
  cases (show u = Value.ref b from rx)
  obtain ⟨hd, _, xs0, r0, dd⟩ := td_rd (kvs := []) I3 (.inr ⟨hp, rfl⟩)
  cases r0
  refine ⟨[(kk, b, w)], ⟨rfl, rfl, key_nk I3 n gk, trivial⟩, dd, fun h' tk dd' hs => ?_⟩
  refine wpAny_pure ⟨.ref s.heap.objs.size, _, ?_, rfl, q3⟩
  have dd2 : h'.DictOfH (nestedKind X.prog X.w) s.heap.objs.size [(kk, b, w)] := dd'
  obtain ⟨o, es, ep, ho, _⟩ := id dd2
  exact d_write I3 (by rw [hp]; exact True.intro) hs ⟨o, ho⟩ (nk_ok (kvs := [(kk, b, y)]) (.cons ⟨rfl, rfl, ry⟩ .nil) (fun x hx => by rw [List.mem_singleton.mp hx]; exact gk) hd (List.nodup_cons.mpr ⟨nofun, List.nodup_nil⟩) dd2)
theorem de_dk1k {k v : Expr} {pos : Pos} {fk fv : FE C} {bk : Bool} (hk : PE X k (tE g bk fk)) (hv : PE X v (tE g true fv)) : PE X (.Dict [some k] [v] pos) (tN g (fDk1k fk fv)) :=
  (pe_disp (pps_cons hk hv pps_nil) rfl rfl (by intro z; cases z) (by show 1 ≤ 15; decide)).weak fun σ H Q ⟨ρ, c, ei, hd, q⟩ => fun p np => by
    have s1 : Same H (upd H p (.dK [])) := same_new np
    have nr : ¬ g.r.rg p := rg_some hd np
    have ei0 := ei.kp hd (Kp.of s1)
    have hd0 := Rg.same hd s1
    refine ⟨ρ, c, ei0, hd0, ?_⟩
    unfold fDk1k bnd at q
    cases e1 : fk ρ c with
    | bad => rw [e1] at q; exact q
    | ex n => rw [e1] at q; exact fun H' kp => q H' ((Kp.of s1).trans kp)
    | ok r1 =>
      rw [e1] at q
      intro H1 k1 hd1 x rx
      have ei1 := ei0.kp hd0 k1
      refine ⟨ρ, r1.2, ei1, hd1, ?_⟩
      dsimp only at q
      cases e2 : fv ρ r1.2 with
      | bad => rw [e2] at q; exact q
      | ex n => rw [e2] at q; exact fun H' kp => q H' (((Kp.of s1).trans k1).trans kp)
      | ok r2 =>
        rw [e2] at q
        intro H2 k2 hd2 y ry
        dsimp only at q
        unfold opt at q
        by_cases hf : flatC r2.1 = true
        case neg => rw [if_neg hf] at q; exact q.elim
        rw [if_pos hf] at q
        cases ek : ckey r1.1 with
        | none => rw [ek] at q; exact q.elim
        | some kk =>
          rw [ek] at q
          have hp : H2 p = some (.dK []) := k2 _ _ (k1 _ _ upd_same nr) nr
          obtain rfl := ckey_rep ek rx.i
          refine ⟨hp, [(kk, y)], rfl, by show 1 ≤ 15; decide, ?_⟩
          have kf : Kp g.r.rg H (upd H2 p (.dK [(kk, y)])) := fun a u e n => by
            have ne := ne_of_none e np
            rw [upd_ne ne]
            exact k2 _ _ (k1 _ _ (by rw [upd_ne ne]; exact e) n) n
          refine q _ kf (Rg.new hd2 nr) _ ?_
          unfold RepN
          refine ⟨p, .k [(kk, y)], rfl, np, upd_same, by show 1 ≤ sizeLine; decide, ⟨rfl, trivial⟩, Reps.cons ?_ Reps.nil⟩
          have ry' : Rep g.K g.r.T (Ad g ρ σ) H2 r2.1 y := ry
          exact rep_flat hf ry'
theorem de_dk1t {k v : Expr} {pos : Pos} {fk fv : FE C} {bk : Bool} (hu : X.A.units + 64 < cLine) (hK : X.K = g.K) (hk : PE X k (tE g bk fk)) (hv : PE X v (tE g true fv)) : PE X (.Dict [some k] [v] pos) (tN g (fDk1t fk fv)) :=
  (pe_disp1T hu hk hv).weak fun σ H Q ⟨ρ, c, ei, hd, q⟩ => fun p np => by
    have s1 : Same H (upd H p (.dK [])) := same_new np
    have nr : ¬ g.r.rg p := rg_some hd np
    have ei0 := ei.kp hd (Kp.of s1)
    have hd0 := Rg.same hd s1
    refine ⟨ρ, c, ei0, hd0, ?_⟩
    unfold fDk1t bnd at q
    cases e1 : fk ρ c with
    | bad => rw [e1] at q; exact q
    | ex n => rw [e1] at q; exact fun H' kp => q H' ((Kp.of s1).trans kp)
    | ok r1 =>
      rw [e1] at q
      intro H1 k1 hd1 x rx
      have ei1 := ei0.kp hd0 k1
      refine ⟨ρ, r1.2, ei1, hd1, ?_⟩
      dsimp only at q
      cases e2 : fv ρ r1.2 with
      | bad => rw [e2] at q; exact q
      | ex n => rw [e2] at q; exact fun H' kp => q H' (((Kp.of s1).trans k1).trans kp)
      | ok r2 =>
        rw [e2] at q
        intro H2 k2 hd2 y ry
        dsimp only at q
        unfold opt at q
        by_cases hf : flatC r2.1 = true
        case neg => rw [if_neg hf] at q; exact q.elim
        rw [if_pos hf] at q
        cases ek : tkey r1.1 with
        | none => rw [ek] at q; exact q.elim
        | some kk =>
          rw [ek] at q
          have hp : H2 p = some (.dK []) := k2 _ _ (k1 _ _ upd_same nr) nr
          obtain ⟨b, rfl, n, gk⟩ := tkey_rep ek rx.i
          have n2 := NKV.move (fun a u e nm => k2 a u e fun z => nm (e ▸ g.r.hmut _ _ _ hd1 z)) _ _ n
          rw [hK]
          refine ⟨kk, b, rfl, n2, gk, hp, ?_⟩
          have kf : Kp g.r.rg H (upd H2 p (NkO p [(kk, b, y)])) := fun a u e n => by
            have ne := ne_of_none e np
            rw [upd_ne ne]
            exact k2 _ _ (k1 _ _ (by rw [upd_ne ne]; exact e) n) n
          refine q _ kf (Rg.new hd2 nr) _ ?_
          unfold RepN
          refine ⟨p, .t p [(kk, b, y)], rfl, np, upd_same, by show 1 ≤ sizeLine; decide, ⟨rfl, rfl, fun x hx => ?_⟩, Reps.cons ?_ Reps.nil⟩
          · rw [List.mem_singleton.mp hx]
            exact ⟨NKV.move (fun a u e nm => by
              by_cases z : a = p
              · subst z; rw [hp] at e; cases e; exact absurd True.intro nm
              · rw [upd_ne z]; exact e) _ _ n2, gk⟩
          · have ry' : Rep g.K g.r.T (Ad g ρ σ) H2 r2.1 y := ry
            exact rep_flat hf ry'
/-- {k: v} -/
theorem de_dk1 {k v : Expr} {pos : Pos} {fk fv : FE C} {bk : Bool} (hu : X.A.units + 64 < cLine) (hK : X.K = g.K) (hk : PE X k (tE g bk fk)) (hv : PE X v (tE g true fv)) : PE X (.Dict [some k] [v] pos) (tN g (fDk1 fk fv)) := by
  refine ⟨fun pins s σ H Q I h => ?_⟩
  obtain ⟨ρ, c, ei, hd, q⟩ := h
  by_cases hk2 : ∃ r1, fk ρ c = .ok r1 ∧ ckey r1.1 = none
  · refine (de_dk1t hu hK hk hv).run pins s σ H Q I ⟨ρ, c, ei, hd, ?_⟩
    obtain ⟨r1, e1, ek⟩ := hk2
    unfold fDk1 bnd at q
    unfold fDk1t bnd
    rw [e1] at q ⊢
    dsimp only at q ⊢
    cases e2 : fv ρ r1.2 with
    | bad => rw [e2] at q; exact q
    | ex n => rw [e2] at q; exact q
    | ok r2 =>
      rw [e2] at q
      dsimp only at q ⊢
      unfold dk1P at q
      rw [ek] at q
      exact q
  · refine (de_dk1k hk hv).run pins s σ H Q I ⟨ρ, c, ei, hd, ?_⟩
    unfold fDk1 bnd at q
    unfold fDk1k bnd
    cases e1 : fk ρ c with
    | bad => rw [e1] at q; exact q
    | ex n => rw [e1] at q; exact q
    | ok r1 =>
      rw [e1] at q
      dsimp only at q ⊢
      cases e2 : fv ρ r1.2 with
      | bad => rw [e2] at q; exact q
      | ex n => rw [e2] at q; exact q
      | ok r2 =>
        rw [e2] at q
        dsimp only at q ⊢
        unfold dk1P at q
        cases ek : ckey r1.1 with
        | none => exact absurd ⟨r1, e1, ek⟩ hk2
        | some kk => rw [ek] at q; exact q
end
end PyA
/-! PyZb: d[k]; {k: v for ..}. -/
namespace PyA
open PySem L2
/-! ### d[k] -/
def dlookK : List Key → List Vl → Key → Option Vl
  | j :: ks, x :: xs, k => if j = k then some x else dlookK ks xs k
  | _, _, _ => none
theorem dlookK_rep {K : PySem.W.Frag} {T : Tk} {A : Addr → Prop} {H : Hp} (k : Key) : ∀ (kvs : List (Key × V)) (xs : List Vl), Reps K T A H xs (kvs.map (·.2)) → (valV kvs k = none ∧ dlookK (kvs.map (·.1)) xs k = none) ∨ ∃ v x, valV kvs k = some v ∧ dlookK (kvs.map (·.1)) xs k = some x ∧ Rep K T A H x v
  | [], xs, _ => .inl ⟨rfl, by cases xs <;> rfl⟩
  | p :: kvs, [], r => by unfold Reps at r; cases r
  | p :: kvs, x :: xs, r => by
    rw [List.map_cons] at r
    unfold Reps at r
    obtain ⟨v, vs, e, r1, r2⟩ := r
    injection e with e1 e2
    subst e1 e2
    have ih := dlookK_rep k kvs xs r2
    rw [List.map_cons]
    unfold dlookK
    unfold valV at ih ⊢
    rw [List.find?_cons]
    by_cases h : p.1 = k
    · rw [if_pos h]
      simp only [h, decide_true]
      exact .inr ⟨_, _, rfl, rfl, r1⟩
    · rw [if_neg h]
      simp only [h, decide_false]
      exact ih
/-- what a dict holds at a key: none if it is no such question -/
def dgetO : Vl → Vl → Option (Option Vl)
  | .dk (.k ks) xs, key => match ckey key with
    | some k => some (dlookK ks xs k)
    | none => if ks = [] then (tkey key).map fun _ => none else none
  | .dk (.t ks) xs, key => (tkey key).map fun k => dlook ks xs k
  | _, _ => none
def dgetP (d key : Vl) : Option Vl := (dgetO d key).bind fun o => o
theorem dgetO_ok {K : PySem.W.Frag} {T : Tk} {A B : Addr → Prop} {H : Hp} {x y : Vl} {o : Option Vl} {v w : V} (e : dgetO x y = some o) (rx : RepI K T B A H x v) {T2 : Tk} {A2 B2 : Addr → Prop} (ry : RepI K T2 B2 A2 H y w) :
    ∃ a, v = .ref a ∧ IsDt K H a ∧ ((o = none ∧ GetR K H a w none) ∨ ∃ z u, o = some z ∧ GetR K H a w (some u) ∧ Rep K T A H z u) := by
  unfold dgetO at e
  split at e
  · rename_i ks xs
    cases ek : ckey y with
    | none =>
      rw [ek] at e
      dsimp only at e
      split at e
      · rename_i ke
        subst ke
        obtain ⟨k, ek2, rfl⟩ := Option.map_eq_some_iff.mp e
        obtain ⟨b, rfl, n, gk⟩ := tkey_rep ek2 ry
        obtain ⟨p, rfl, t, _, _⟩ := td_of0 rx
        exact ⟨p, rfl, .inr ⟨_, t⟩, .inl ⟨rfl, .inr ⟨[], k, b, t, rfl, n, gk, rfl⟩⟩⟩
      · cases e
    | some k =>
      rw [ek] at e
      cases e
      obtain rfl := ckey_rep ek ry
      unfold RepI at rx
      obtain ⟨p, kvs, rfl, b, hq, l, m, r⟩ := rx
      cases kvs with
      | t p0 kvs => cases m.1
      | k kvs =>
      have m : kvs.map (·.1) = ks := by injection m.1
      refine ⟨p, rfl, .inl (.inl ⟨_, Rd.of hq⟩), ?_⟩
      rcases dlookK_rep k kvs xs r with ⟨h1, h2⟩ | ⟨u, z, h1, h2, h3⟩
      · rw [m] at h2
        exact .inl ⟨h2, .inl (h1 ▸ DGet.k hq)⟩
      · rw [m] at h2
        exact .inr ⟨z, u, h2, .inl (h1 ▸ DGet.k hq), h3⟩
  · rename_i ks xs
    obtain ⟨k, ek, rfl⟩ := Option.map_eq_some_iff.mp e
    obtain ⟨b, rfl, n, gk⟩ := tkey_rep ek ry
    obtain ⟨p, kvs, rfl, t, m, rs, _⟩ := td_of rx
    refine ⟨p, rfl, .inr ⟨_, t⟩, ?_⟩
    rcases dlook_rep k kvs xs rs with ⟨h1, h2⟩ | ⟨u, z, h1, h2, h3⟩
    · rw [m] at h2
      exact .inl ⟨h2, .inr ⟨kvs, k, b, t, rfl, n, gk, h1.symm⟩⟩
    · rw [m] at h2
      exact .inr ⟨z, u, h2, .inr ⟨kvs, k, b, t, rfl, n, gk, h1.symm⟩, h3⟩
  · cases e
section
variable {X : Cx} {C : Type} {g : Fx C} {o i : Expr} {pos : Pos}
theorem de_dget {ba bb : Bool} {fa fb : FE C} (hu : X.A.units + 64 < cLine) (hK : X.K = g.K) (ha : PE X o (tE g ba fa)) (hb : PE X i (tE g bb fb)) (hs : NoSl i) : PE X (.Subscript o i pos) (tE g true (fOp dgetP fa fb)) :=
  (pe_getG hu ha hb hs).weak fun σ H Q ⟨ρ, c, ei, hd, q⟩ => ⟨ρ, c, ei, hd, (GoX.bind q).mono fun x c1 H1 k hd1 w v rv => ⟨ρ, c1, ei.kp hd k, hd1, (GoX.bind w).mono fun y c2 H2 k2 hd2 w2 u ru => by
    obtain ⟨z, ez, w3⟩ := go_opt w2
    unfold dgetP at ez
    obtain ⟨oz, e1, e2⟩ := Option.bind_eq_some_iff.mp ez
    obtain ⟨a, rfl, _, h⟩ := dgetO_ok e1 (rv.kp hd1 k2).i ru.i
    rcases h with ⟨e3, _⟩ | ⟨z', u', e3, gt, r⟩
    · rw [e3] at e2; cases e2
    · rw [e3] at e2
      cases e2
      rw [hK]
      refine ⟨a, u', rfl, gt, tE_last (N := false) ((ei.kp hd k).kp hd1 k2) hd2 w3 u' H2 (Same.refl H2) ?_⟩
      rw [if_neg Bool.false_ne_true]
      exact .inl r⟩⟩
end
/-! ### {k: v for ..} -/
/-- the heap behind D[y] = v, D a dict of our own -/
def PutN (K : PySem.W.Frag) (H : Hp) (D : Addr) (y v : V) (H' : Hp) : Prop := (∃ kvs k, y = kV k ∧ H D = some (.dK kvs) ∧ kvs.length < sizeLine ∧ H' = upd H D (.dK (putK kvs k v))) ∨
  ∃ kvs k b, TD K H D kvs ∧ y = .ref b ∧ NKV K H k (.ref b) ∧ goodK k = true ∧ kvs.length ≤ sizeLine ∧ H' = upd H D (NkO D (putT kvs k b v))
section
variable {X : Cx} {pins : List (Addr × Obj)} {σ : L2.St} {H : Hp} {s : Shared} {E : Value → Shared → Prop} {D : Addr} {y v : V} {u r : Value} {Q : Unit → Shared → Prop}
theorem g_dictSet {A : Around} {H' : Hp} (hu : A.units + 64 < cLine) (I : Inv X pins σ H s) (g : PutN X.K H D y v H') (ry : RelV y u) (rv : RelV v r) (h : ∀ s', Inv X pins σ H' s' → Q () s') : wpAny (model X.prog X.w) A (dictSet D u r) Q E s := by
  rcases g with ⟨kvs, k, rfl, hD, hz, rfl⟩ | ⟨kvs, k, b, t, rfl, n, gk, l, rfl⟩
  · obtain ⟨z, hd, vs, rel, dd⟩ := dk_of I.hok hD
    refine PySem.wpAny_dictSet_pairs (hsz := by rw [← rel.length]; exact z) (kV_is ry) dd fun h' dd' hs => h _ ?_
    obtain ⟨q, _, _, hq, _⟩ := id dd'
    exact d_write I (by rw [hD]; exact True.intro) hs ⟨q, hq⟩ (dk_new (by have := length_putK kvs k v; omega) hd (rel.put k rv) dd')
  · cases (show u = Value.ref b from ry)
    obtain ⟨hd, hn, xs, rel, dd⟩ := td_rd I t
    have hu1 : (nestedKind X.prog X.w).room A := by show A.units + 8 < cLine; omega
    refine PySem.wpAny_dictSet_heap (hsz := by rw [← Paired.length rel]; exact l) hu1 (key_nk I n gk) dd fun h' dd' hs => h _ ?_
    obtain ⟨o, es, ep, hq, _⟩ := id dd'
    refine d_write I (td_mut t) hs ⟨o, hq⟩ (nk_ok (PT2.put rv rel) (fun x hx => ?_) hd (putT_nodup hn) dd')
    rcases putT_mem hx with ⟨y, hy, e, _⟩ | ⟨e, _⟩
    · rw [← e]; exact (td_good t y hy).2
    · rw [e]; exact gk
end
/-- a store in a dict that is being made -/
theorem dput_rep {K : PySem.W.Frag} {T : Tk} {A B A2 : Addr → Prop} {H : Hp} {D : Addr} {ks : DKeys} {xs : List Vl} {kvs : DKV} {kx y d' : Vl} {kv v : V} (nA : ¬ A D) (hq : H D = some (DKV.ob kvs)) (l : kvs.len ≤ sizeLine) (m : kvs.keys = ks ∧ kvs.fine K H D)
    (rs : Reps K T A H xs kvs.vals) (rk : RepI K T B A2 H kx kv) (rv : Rep K T A H y v) (ed : dputP (.dk ks xs) kx y = some d') :
    ∃ ks' xs' kvs', d' = .dk ks' xs' ∧ PutN K H D kv v (upd H D (DKV.ob kvs')) ∧ kvs'.len ≤ sizeLine ∧ (kvs'.keys = ks' ∧ kvs'.fine K (upd H D (DKV.ob kvs')) D) ∧ Reps K T A (upd H D (DKV.ob kvs')) xs' kvs'.vals := by
  have mu : Mut (H D) := by rw [hq]; cases kvs <;> exact True.intro
  have mvO : ∀ ob : HO, ∀ a u, H a = some u → (Mut (some u) → A a) → (upd H D ob) a = some u := fun ob a u e mm => by
    by_cases z : a = D
    · subst z; rw [e] at mu; exact absurd (mm mu) nA
    · rw [upd_ne z]; exact e
  have mvI : ∀ ob : HO, ∀ a u, H a = some u → ¬ Mut (some u) → (upd H D ob) a = some u := fun ob a u e nm => mvO ob a u e fun z => absurd z nm
  cases ks with
  | t ks =>
    cases kvs with
    | k kvs => cases m.1
    | t p0 kvs =>
    obtain ⟨m1, rfl, f⟩ := m
    have m1 : kvs.map (·.1) = ks := by injection m1
    unfold dputP at ed
    dsimp only at ed
    cases ek : tkey kx with
    | none => rw [ek] at ed; cases ed
    | some kk =>
      rw [ek] at ed
      dsimp only at ed
      by_cases hl : ks.length < sizeLine
      · rw [if_pos hl] at ed
        cases ed
        obtain ⟨b, rfl, n, gk⟩ := tkey_rep ek rk
        have hl' : kvs.length < sizeLine := by rw [← m1, List.length_map] at hl; exact hl
        refine ⟨_, _, .t p0 (putT kvs kk b v), rfl, .inr ⟨kvs, kk, b, .inl ⟨hq, f⟩, rfl, n, gk, Nat.le_of_lt hl', rfl⟩, ?_, ⟨?_, rfl, fun x hx => ?_⟩, ?_⟩
        · show ((putT kvs kk b v).map (·.2.2)).length ≤ sizeLine
          rw [List.length_map]
          exact Nat.le_trans (putT_len kvs kk b v) hl'
        · show DKeys.t ((putT kvs kk b v).map (·.1)) = _
          rw [putT_keyV, m1]
          congr 1
          unfold putV
          split <;> rfl
        · rcases putT_mem hx with ⟨z, hz, e2, e3⟩ | ⟨e2, e3⟩
          · rw [← e2, ← e3]
            exact ⟨NKV.move (mvI _) _ _ (f z hz).1, (f z hz).2⟩
          · rw [e2, e3]
            exact ⟨NKV.move (mvI _) _ _ n, gk⟩
        · show Reps _ _ _ _ _ ((putT kvs kk b v).map (·.2.2))
          rw [putT_vals, m1]
          exact (reps_putV ks kk rv rs).move (mvO _) fun _ _ _ z => z
      · rw [if_neg hl] at ed
        cases ed
  | k ks =>
    cases kvs with
    | t p0 kvs => cases m.1
    | k kvs =>
    have m : kvs.map (·.1) = ks := by injection m.1
    unfold dputP at ed
    dsimp only at ed
    cases ek : ckey kx with
    | none =>
      rw [ek] at ed
      dsimp only at ed
      split at ed
      · rename_i ke
        subst ke
        obtain ⟨kk, ek2, rfl⟩ := Option.map_eq_some_iff.mp ed
        obtain ⟨b, rfl, n, gk⟩ := tkey_rep ek2 rk
        have hk0 : kvs = [] := List.map_eq_nil_iff.mp m
        subst hk0
        refine ⟨_, _, .t D (putT [] kk b v), rfl, .inr ⟨[], kk, b, .inr ⟨hq, rfl⟩, rfl, n, gk, Nat.zero_le _, rfl⟩, sizeL_pos, ⟨rfl, rfl, fun x hx => ?_⟩, Reps.cons (rv.move (mvO _) fun _ _ _ z => z) Reps.nil⟩
        rw [List.mem_singleton.mp hx]
        exact ⟨NKV.move (mvI _) _ _ n, gk⟩
      · cases ed
    | some kk =>
      rw [ek] at ed
      dsimp only at ed
      by_cases hl : ks.length < sizeLine
      · rw [if_pos hl] at ed
        cases ed
        obtain rfl := ckey_rep ek rk
        have hl' : kvs.length < sizeLine := by rw [← m, List.length_map] at hl; exact hl
        refine ⟨_, _, .k (putK kvs kk v), rfl, .inl ⟨kvs, kk, rfl, hq, hl', rfl⟩, ?_, ⟨?_, trivial⟩, ?_⟩
        · show ((putK kvs kk v).map (·.2)).length ≤ sizeLine
          rw [List.length_map]
          exact Nat.le_trans (length_putK kvs kk v) hl'
        · show DKeys.k ((putK kvs kk v).map (·.1)) = _
          rw [putK_keys, m]
          congr 1
          unfold putV
          split <;> rfl
        · show Reps _ _ _ _ _ ((putK kvs kk v).map (·.2))
          rw [putK_vals, m]
          exact (reps_putV ks kk rv rs).move (mvO _) fun _ _ _ z => z
      · rw [if_neg hl] at ed
        cases ed
end PyA
/-! PyZc: dict comprehensions, keys of both kinds. -/
namespace PyA
open PySem L2
section
variable {X : Cx}
/-- {k: v for target in iter if ..}: D the new dict -/
def tDcG (K : PySem.W.Frag) (wi : TI) (g : TG) (tt : TT) (tk tv : TE) (vs : List Nat) : TE := fun σ H Q => wi σ H fun J H1 => ∀ D, H1 D = none → ∃ W : Nat → Nat → Hp → Prop, (∃ m, W 0 m (upd H1 D (.dK []))) ∧ ∀ i m H, W i m H →
  (J.stop i H ∧ Q (.ref D) H) ∨ (J.go i H ∧ ∃ Nx : Hp → Prop, (∀ H', Nx H' → ∃ m', m' < m ∧ W (i + 1) m' H') ∧ ∀ x H', J.yld i H x H' → g x (wipe σ vs) H' fun σ2 H2 => wipe σ2 vs = wipe σ vs ∧ tt σ2 H2 fun b H3 =>
    if b = true then tk σ2 H3 fun y H4 => tv σ2 H4 fun z H5 => ∃ H6, PutN K H5 D y z H6 ∧ Nx H6 else Nx H3)
abbrev BlkAll (X : Cx) (scope : Scope) (p : Cx → Prop) : Prop := ∀ (s : Shared) (H : Hp) (C : Addr) (cl : List (Str × Addr)) (fp : List Addr), p (X.blk s H scope (compEnvC scope cl C X.env) fp)
theorem dcG_core {pins : List (Addr × Obj)} {s : Shared} {σ : L2.St} {H : Hp} {Q : VK} {kx vx tg iter : Expr} {ifs : List Expr} {scope : Scope} {own : List (Str × Nat)} {pos pos' : Pos} {wi : TI} {g : TG} {tt : TT} {tk tv : TE} {use : Option (Value → Sem Unit)} {Qf : Value → Shared → Prop}
    (hu : X.A.units + 64 < cLine) (hc : X.calm = true) (hN : X.N.Nodup) (I : Inv X pins σ H s) (hi : PI X tg iter wi) (ok : BlkOk X.N X.env.scope scope own)
    (hg : BlkAll X scope fun Y => PG Y tg g) (ht : BlkAll X scope fun Y => PTs Y ifs tt) (hk : BlkAll X scope fun Y => PE Y kx tk) (he : BlkAll X scope fun Y => PE Y vx tv) (hs : ∀ x, foldedSetIterable iter X.env x = pure x)
    (h : tDcG X.K wi g tt tk tv (own.map (·.2)) σ H Q)
    (hRR : ∀ D C s' m H', Inv X pins σ H' s' → Q (.ref D) H' → s'.heap.Ns C m → FpOk X pins H' C → compPost (model X.prog X.w) X.A X.xe use Qf (.ref D) C (.ok .next) s') :
    wpAny (model X.prog X.w) X.A (comprehension (.DictComp kx vx [⟨tg, iter, ifs, 0⟩] scope pos) scope X.env pos' newDict false (eval iter X.env) use) Qf X.xe s := by
  have free : ∀ y ∈ scope.names, y.2 = .free → ∃ c, X.env.cells.lookup y.1 = some c := fun y hy e => (ok.free y hy e).elim (fun k => I.ok.has _ (.inl k)) (fun k => I.ok.has _ (.inr k))
  refine wpAny_comprehension_free (use := use) rfl hs (closure_ok free) ok.kind (fun y hy e => by rw [ok.uniq y hy, e])
    (thn (hi.run pins s σ H _ I h) fun xv s1 hx => thn hx fun itv s2 h2 => ?_)
  obtain ⟨it, fp, tn, J, H2, rfl, I2, T, st2, f2, q⟩ := h2
  refine wpAny_newObj_type (newEnv_comp ?_)
  generalize hD : s2.heap.objs.size = D
  have nD : H2 D = none := I2.hok.fresh (Nat.le_of_eq hD)
  obtain ⟨W, ⟨m0, w0⟩, turn⟩ := q D nD
  -- the new dict stands at D
  generalize e3 : ({ s2 with heap := s2.heap.push { cls := .type "dict", data := .dict #[] } } : Shared) = s3
  have hp3 : s3.heap = s2.heap.push { cls := .type "dict", data := .dict #[] } := by rw [← e3]
  have I3 : Inv X pins σ (upd H2 D (.dK [])) s3 := by
    rw [← e3]
    refine I2.laid (t' := s2.toks) (fun b o e => Heap.get?_push_of_some _ e) (Nat.le_of_eq hD) ?_
    rw [← hD]
    exact dk_empty s2.heap I2.big
  have small : ∀ b ∈ fp, b < s2.heap.objs.size := fun b hb => (T.obj _ _ st2 b hb).elim fun o e => Heap.lt_size e.1
  have f3 : ∀ b ∈ fp, FpOk X pins (upd H2 D (.dK [])) b ∧ b < s3.heap.objs.size := fun b hb => by
    have lt := small b hb
    refine ⟨⟨?_, (f2 b hb).2⟩, by rw [hp3, Heap.size_push]; exact Nat.lt_succ_of_lt lt⟩
    rw [upd_ne (by rw [← hD]; exact Nat.ne_of_lt lt)]
    exact (f2 b hb).1
  have st3 : tn 0 s3.heap := T.keep _ _ _ st2 fun b _ o e => by rw [hp3]; exact Heap.get?_push_of_some _ e
  generalize eH : upd H2 D (.dK []) = H3 at I3 f3 w0
  -- the block's names
  have I4 := block_start I3 ok hN f3
  have pg := hg s3 H3 s3.heap.objs.size (cellsFrom (s3.heap.objs.size + 1) scope.names (cloFrom X.env.cells scope.names [])) fp
  have pt := ht s3 H3 s3.heap.objs.size (cellsFrom (s3.heap.objs.size + 1) scope.names (cloFrom X.env.cells scope.names [])) fp
  have pk := hk s3 H3 s3.heap.objs.size (cellsFrom (s3.heap.objs.size + 1) scope.names (cloFrom X.env.cells scope.names [])) fp
  have pv := he s3 H3 s3.heap.objs.size (cellsFrom (s3.heap.objs.size + 1) scope.names (cloFrom X.env.cells scope.names [])) fp
  show codeAny _ _ (.compStart (.DictComp kx vx [⟨tg, iter, ifs, 0⟩] scope pos) 0 (.ref it) (.ref D) (compEnvC scope (cellsFrom (s3.heap.objs.size + 1) scope.names (cloFrom X.env.cells scope.names [])) s3.heap.objs.size X.env)) (compPost (model X.prog X.w) X.A X.xe use Qf (.ref D) s3.heap.objs.size) { s3 with heap := pushCells (s3.heap.push { cls := .type "dict", data := .dict #[] }) scope.names }
  generalize hce : compEnvC scope (cellsFrom (s3.heap.objs.size + 1) scope.names (cloFrom X.env.cells scope.names [])) s3.heap.objs.size X.env = ce at I4 pg pt pk pv ⊢
  have cL : ce.locals = s3.heap.objs.size := by subst hce; rfl
  generalize e4 : ({ s3 with heap := pushCells (s3.heap.push { cls := .type "dict", data := .dict #[] }) scope.names } : Shared) = s4 at I4 ⊢
  have st4 : tn 0 s4.heap := T.keep _ _ _ st3 fun b _ o e => by rw [← e4]; exact pushCells_keeps _ _ _ _ (Heap.get?_push_of_some _ e)
  have fpo : ∀ {σ' : L2.St} {H' : Hp} {s' : Shared}, Inv (X.blk s3 H3 scope ce fp) [] σ' H' s' → (∀ b ∈ fp, H' b = none) → ∀ b ∈ fp, FpOk (X.blk s3 H3 scope ce fp) [] H' b := fun {σ' H' s'} I' hn b hb =>
    ⟨hn b hb, (I'.ok.exf b hb).1, I'.ok.exfs b hb, .inl hb, fun x c e => (I'.ok.exf b hb).2 x c e, fun p hp => absurd (show p ∈ ([] : List (Addr × Obj)) ++ [] from hp) (by simp)⟩
  have loop : codeAny (model X.prog X.w) X.A (.compLoop (.DictComp kx vx [⟨tg, iter, ifs, 0⟩] scope pos) 0 (.ref it) (.ref D) ce) (compPost (model X.prog X.w) X.A X.xe use Qf (.ref D) s3.heap.objs.size) s4 := by
    refine compLoop_anyD (fun n s' => ∃ i H', Inv (X.blk s3 H3 scope ce fp) [] (wipe σ (own.map (·.2))) H' s' ∧ tn i s'.heap ∧ (∀ b ∈ fp, H' b = none) ∧ W i n H') ?_ m0 ⟨0, H3, I4, st4, fun b hb => (f3 b hb).1.1, w0⟩
    rintro n s5 ⟨i, H5, I5, st5, n5, w5⟩
    rcases turn i n H5 w5 with ⟨stop, qq⟩ | ⟨go, Nx, hNx, step⟩
    · refine thnF (T.done (X.blk s3 H3 scope ce fp) rfl rfl rfl hc i [] s5 _ H5 (fun _ _ => False) I5 (fpo I5 n5) st5 stop) fun r s6 ⟨hr, I6⟩ => ?_
      subst hr
      -- out of the block
      have I7 : Inv X pins σ H5 s6 := I3.call' (ch := fp) I6.os I6.base I6.hok I6.bare fun b hb => ⟨(f3 b hb).1.2.2.2.1, (f3 b hb).1.2.1, (f3 b hb).1.2.2.2.2.1, (f3 b hb).1.2.2.2.2.2⟩
      have nC : H5 ce.locals = none := I6.free
      obtain ⟨m, hn, _⟩ := I6.loc
      have hn : s6.heap.Ns ce.locals m := hn
      rw [cL] at hn nC
      exact hRR D _ s6 m H5 I7 qq hn (I3.fpOk (Nat.le_refl _) nC)
    · refine thnF (T.item (X.blk s3 H3 scope ce fp) rfl rfl rfl hc i [] s5 _ H5 (fun _ _ => False) I5 (fpo I5 n5) st5 go) fun r s6 ⟨u, hr, h6⟩ => ?_
      subst hr
      refine thnF h6 fun _ s7 ⟨x, H7, I7, r7, y7, st7, n7⟩ => ?_
      have I7' := I7.pinned (fpo I7 n7) (T.obj _ _ st7)
      refine thnF (pg.run _ s7 _ H7 x u _ I7' r7 (step x H7 y7)) fun _ s8 ⟨σ8, H8, I8, hw8, q8⟩ => ?_
      refine thnF (pt.run _ s8 σ8 H8 _ I8 q8) fun b s9 ⟨H9, I9, q9⟩ => ?_
      have next : ∀ {s' : Shared} {H' : Hp}, Inv (X.blk s3 H3 scope ce fp) ([] ++ pinsAt fp s7.heap) σ8 H' s' → Nx H' → ∃ m, m < n ∧ ∃ i H', Inv (X.blk s3 H3 scope ce fp) [] (wipe σ (own.map (·.2))) H' s' ∧ tn i s'.heap ∧ (∀ b ∈ fp, H' b = none) ∧ W i m H' := fun {s' H'} I' nx => by
        obtain ⟨m', hm, w'⟩ := hNx H' nx
        have kept : ∀ b ∈ fp, ∀ o, s7.heap.get? b = some o → s'.heap.get? b = some o ∧ H' b = none := fun b hb o e =>
          let z := I'.pin (b, o) (List.mem_append_right _ (List.mem_append_right _ (mem_pinsAt hb e)))
          ⟨z.1, z.2.1⟩
        refine ⟨m', hm, i + 1, H', (I'.unpinned (pins := [])).weak (by rw [← hw8, wipe_length]) (fun j v e => ?_), T.keep _ _ _ st7 fun b hb o e => (kept b hb o e).1, fun b hb => ?_, w'⟩
        · rw [← hw8] at e
          exact (wipe_some e).1
        · obtain ⟨o, e, _⟩ := T.obj _ _ st7 b hb
          exact (kept b hb o e).2
      cases b with
      | false =>
        simp only [Bool.false_eq_true, if_false] at q9 ⊢
        exact next I9 q9
      | true =>
        simp only [if_true] at q9 ⊢
        refine thnF (pk.run _ s9 σ8 H9 _ I9 q9) fun z s10 ⟨yk, H10, I10, r10, q10⟩ => ?_
        refine thnF (pv.run _ s10 σ8 H10 _ I10 q10) fun z2 s11 ⟨yv, H11, I11, r11, H12, put, nx⟩ => ?_
        exact g_dictSet (X := X.blk s3 H3 scope ce fp) hu I11 put r10 r11 fun s12 I12 => next I12 nx
  exact codeAny_compStart_dict loop (T.self X.A 0 _ _ _ st4 loop)
theorem pe_dcG {kx vx tg iter : Expr} {ifs : List Expr} {scope : Scope} {own : List (Str × Nat)} {pos : Pos} {wi : TI} {g : TG} {tt : TT} {tk tv : TE} (hu : X.A.units + 64 < cLine) (hc : X.calm = true) (hN : X.N.Nodup) (hi : PI X tg iter wi) (ok : BlkOk X.N X.env.scope scope own)
    (hg : BlkAll X scope fun Y => PG Y tg g) (ht : BlkAll X scope fun Y => PTs Y ifs tt) (hk : BlkAll X scope fun Y => PE Y kx tk) (he : BlkAll X scope fun Y => PE Y vx tv) (hs : ∀ x, foldedSetIterable iter X.env x = pure x := by intro _; rfl) :
    PE X (.DictComp kx vx [⟨tg, iter, ifs, 0⟩] scope pos) (tDcG X.K wi g tt tk tv (own.map (·.2))) := by
  refine ⟨fun pins s σ H Q I h => ?_⟩
  rw [arm_eval_DictComp]
  refine dcG_core hu hc hN I hi ok hg ht hk he hs h fun D C s' m H' I' q hn f => ⟨m, hn, fun h'' sb => ?_⟩
  obtain ⟨f0, f1, f2, f3, f4, f5⟩ := f
  exact ⟨.ref D, H', I'.turned (t' := s'.toks) (fun b o hb e => (sb.2 b hb).trans e) f0 f1 f3 f4 f5, rfl, q⟩
end
/-! ### as values -/
section
variable {C : Type}
def compD (bd : Bnd) (t : FT C) (fk fv : FE C) (ρ : PEnv) : Vl → List Vl → M C Vl
  | d, [] => ret d
  | d, x :: r => bnd (opt (bd x ρ)) fun ρ1 => bnd (noEx (t ρ1)) fun k =>
      if k = true then bnd (noEx (fk ρ1)) fun y => bnd (noEx (fv ρ1)) fun z => bnd (opt (dputP d y z)) fun d' => compD bd t fk fv ρ d' r else compD bd t fk fv ρ d r
def fDc (it : PEnv → M C (List Vl)) (vs : List Nat) (bd : Bnd) (t : FT C) (fk fv : FE C) : FE C := fun ρ => bnd (it ρ) fun xs => compD bd t fk fv (wipeE ρ vs) (.dk (.k []) []) xs
theorem dc_it {K : PySem.W.Frag} {J : It} {n : Nat} {G : Hp → Prop} {Y : Nat → Hp → V → Hp → Prop} (w : Walk J n G Y) {g : TG} {tt : TT} {tk tv : TE} {vs : List Nat} {σ : L2.St} {H1 : Hp} {D : Addr} {Qd : Hp → Prop} (Pv : Nat → Hp → Prop) (h0 : Pv 0 (upd H1 D (.dK []))) (hG : ∀ i H, i ≤ n → Pv i H → G H)
    (hs : ∀ i x H H', i < n → Pv i H → Y i H x H' → g x (wipe σ vs) H' fun σ2 H2 => wipe σ2 vs = wipe σ vs ∧ tt σ2 H2 fun b H3 =>
      if b = true then tk σ2 H3 fun y H4 => tv σ2 H4 fun z H5 => ∃ H6, PutN K H5 D y z H6 ∧ Pv (i + 1) H6 else Pv (i + 1) H3) (hd : ∀ H, Pv n H → Qd H) :
    ∃ W : Nat → Nat → Hp → Prop, (∃ m, W 0 m (upd H1 D (.dK []))) ∧ ∀ i m H, W i m H →
      (J.stop i H ∧ Qd H) ∨ (J.go i H ∧ ∃ Nx : Hp → Prop, (∀ H', Nx H' → ∃ m', m' < m ∧ W (i + 1) m' H') ∧ ∀ x H', J.yld i H x H' → g x (wipe σ vs) H' fun σ2 H2 => wipe σ2 vs = wipe σ vs ∧ tt σ2 H2 fun b H3 =>
        if b = true then tk σ2 H3 fun y H4 => tv σ2 H4 fun z H5 => ∃ H6, PutN K H5 D y z H6 ∧ Nx H6 else Nx H3) := by
  refine ⟨fun i m H => m = n - i ∧ i ≤ n ∧ Pv i H, ⟨n, by simp, Nat.zero_le _, h0⟩, ?_⟩
  rintro i m H ⟨rfl, hi, p⟩
  have q := hG i H hi p
  by_cases hlt : i < n
  · exact .inr ⟨w.goes i H hlt q, Pv (i + 1), fun H' p' => ⟨n - (i + 1), by omega, rfl, hlt, p'⟩, fun x H' y => hs i x H H' hlt p (w.yields i H x H' hlt q y)⟩
  · have e : i = n := by omega
    subst e
    exact .inl ⟨w.stops H q, hd H p⟩
variable {X : Cx} {g : Fx C}
theorem hide_put {D : Addr} {H H' : Hp} {kvs kvs' : DKV} {A : Addr → Prop} (hD : H D = some kvs.ob) (hA : ∀ a, A a → a ≠ D) : ∀ a u, H a = some u → (Mut (some u) → A a) → (upd H D kvs'.ob) a = some u := fun a u e m => by
  by_cases z : a = D
  · subst z
    rw [hD] at e
    cases e
    exact absurd rfl (hA _ (m (by cases kvs <;> exact True.intro)))
  · rw [upd_ne z]; exact e
theorem de_dc {kx vx tg iter : Expr} {ifs : List Expr} {scope : Scope} {own : List (Str × Nat)} {pos : Pos} {ba bk : Bool} {it : PEnv → M C (List Vl)} {bd : Bnd} {ft : FT C} {fk fv : FE C} {ws : List Nat} (hu : X.A.units + 64 < cLine) (hK : X.K = g.K) (hc : X.calm = true) (hN : X.N.Nodup) (hi : PI X tg iter (tI g ba it)) (ok : BlkOk X.N X.env.scope scope own)
    (hws0 : (ws.all fun i => (own.map (·.2)).contains i) = true) (hown0 : ((own.map (·.2)).all fun i => !g.own i) = true)
    (hg : ∀ A0 H0 s H Ca cl fp, PG (X.blk s H scope (compEnvC scope cl Ca X.env) fp) tg (tG (g.at A0 H0) ws bd)) (ht : ∀ A0 H0 s H Ca cl fp, PTs (X.blk s H scope (compEnvC scope cl Ca X.env) fp) ifs (tT (g.at A0 H0) ft))
    (hk : ∀ A0 H0 s H Ca cl fp, PE (X.blk s H scope (compEnvC scope cl Ca X.env) fp) kx (tE (g.at A0 H0) bk fk))
    (he : ∀ A0 H0 s H Ca cl fp, PE (X.blk s H scope (compEnvC scope cl Ca X.env) fp) vx (tE (g.at A0 H0) true fv)) (hs : ∀ x, foldedSetIterable iter X.env x = pure x := by intro _; rfl) :
    PE X (.DictComp kx vx [⟨tg, iter, ifs, 0⟩] scope pos) (tN g (fDc it (own.map (·.2)) bd ft fk fv)) := by
  have hws : ∀ i ∈ ws, i ∈ own.map (·.2) := fun i h => List.contains_iff_mem.mp (List.all_eq_true.mp hws0 i h)
  have hown : ∀ i ∈ own.map (·.2), g.own i = false := fun i h => by
    have := List.all_eq_true.mp hown0 i h
    simpa using this
  let G : TG := fun v σ H Q => ∃ A0 H0, tG (g.at A0 H0) ws bd v σ H Q
  let TTt : TT := fun σ H Q => ∃ A0 H0, tT (g.at A0 H0) ft σ H Q
  let TEk : TE := fun σ H Q => ∃ A0 H0, tE (g.at A0 H0) bk fk σ H Q
  let TEv : TE := fun σ H Q => ∃ A0 H0, tE (g.at A0 H0) true fv σ H Q
  refine (pe_dcG (g := G) (tt := TTt) (tk := TEk) (tv := TEv) hu hc hN hi ok (fun s H Ca cl fp => ⟨fun pins s' σ H' v u Q I r ⟨A0, H0, q⟩ => (hg A0 H0 s H Ca cl fp).run pins s' σ H' v u Q I r q⟩) (fun s H Ca cl fp => ⟨fun pins s' σ H' Q I ⟨A0, H0, q⟩ => (ht A0 H0 s H Ca cl fp).run pins s' σ H' Q I q⟩)
    (fun s H Ca cl fp => ⟨fun pins s' σ H' Q I ⟨A0, H0, q⟩ => (hk A0 H0 s H Ca cl fp).run pins s' σ H' Q I q⟩) (fun s H Ca cl fp => ⟨fun pins s' σ H' Q I ⟨A0, H0, q⟩ => (he A0 H0 s H Ca cl fp).run pins s' σ H' Q I q⟩) hs).weak ?_
  intro σ H Q ⟨ρ, c, ei, hd, q⟩
  refine ⟨ρ, c, ei, hd, (GoX.bind q).mono fun its c1 H1 k hd1 w J gw D nD => ?_⟩
  obtain ⟨L, hL, hl, wk⟩ := gw
  have ei1 := ei.kp hd k
  have eiw := ei1.wipe hown
  have nrD : ¬ g.r.rg D := rg_some hd1 nD
  have nDH : H D = none := k.none hd1 nD
  have adw : ∀ a, Ad g ρ σ a → Ad g (wipeE ρ (own.map (·.2))) (wipe σ (own.map (·.2))) a := fun a z => ⟨z.1, fun y => z.2 ((Sets.wipe hown a).mp y)⟩
  have adw' : ∀ a, Ad g (wipeE ρ (own.map (·.2))) (wipe σ (own.map (·.2))) a → Ad g ρ σ a := fun a z => ⟨z.1, fun y => z.2 ((Sets.wipe hown a).mpr y)⟩
  refine dc_it (g := G) (tt := TTt) (tk := TEk) (tv := TEv) (vs := own.map (·.2)) (σ := σ) (Qd := fun H' => Q (.ref D) H') wk (fun i H' => ∃ (kvs : DKV) (ks : DKeys) (xs : List Vl) (c' : C), H' D = some kvs.ob ∧ kvs.len ≤ sizeLine ∧ (kvs.keys = ks ∧ kvs.fine g.K H' D) ∧ Reps g.K g.r.T (fun a => Ad g ρ σ a ∧ a ≠ D) H' xs kvs.vals ∧ Kp g.r.rg H1 H' ∧ g.r.held c' H' ∧
    GoX g H1 (compD bd ft fk fv (wipeE ρ (own.map (·.2))) (.dk ks xs) (its.drop i) c') fun x _ H' => ∀ v, RepN g.K g.r.T (Ad g ρ σ) H H' x v → Q v H')
    ⟨.k [], .k [], [], c1, upd_same, Nat.zero_le _, ⟨rfl, trivial⟩, Reps.nil, Kp.of (same_new nD), Rg.new hd1 nrD, w⟩ ?_ ?_ ?_
  · rintro i H' hi ⟨kvs, ks, xs, c', hD, ln, fi, ra, k', hd', w'⟩ q hq
    exact k' _ _ (hL q hq).1 (hL q hq).2.1
  · rintro i v H' H2 hi ⟨kvs, ks, xs, c', hD, ln, fi, ra, k', hd', w'⟩ ⟨sm, rx⟩
    obtain ⟨x, ex, ed⟩ := drop_at hi
    rw [ed] at w'
    rw [show compD bd ft fk fv (wipeE ρ (own.map (·.2))) (.dk ks xs) (x :: its.drop (i + 1)) = bnd (opt (bd x (wipeE ρ (own.map (·.2))))) fun ρ1 => bnd (noEx (ft ρ1)) fun k =>
      if k = true then bnd (noEx (fk ρ1)) fun y => bnd (noEx (fv ρ1)) fun z => bnd (opt (dputP (.dk ks xs) y z)) fun d' => compD bd ft fk fv (wipeE ρ (own.map (·.2))) d' (its.drop (i + 1)) else compD bd ft fk fv (wipeE ρ (own.map (·.2))) (.dk ks xs) (its.drop (i + 1)) from rfl] at w'
    obtain ⟨ρ1, e1, w1⟩ := GoX.optAt w'
    have k2 : Kp g.r.rg H1 H2 := k'.trans (Kp.of sm)
    have hd2 := Rg.same hd' sm
    have hD2 : H2 D = some kvs.ob := sm _ _ hD
    have eih := eiw.hide (H' := H2) hd1 nD k2 hD2
    have fi2 : kvs.keys = ks ∧ kvs.fine g.K H2 D := fine_m fi fun a u e nm => sm a u e
    have ra2 : Reps g.K g.r.T (fun a => Ad g ρ σ a ∧ a ≠ D) H2 xs kvs.vals := ra.move (fun a u e _ => sm a u e) fun _ _ _ z => z
    refine ⟨_, _, wipeE ρ (own.map (·.2)), c', x, ρ1, eih, hd2, ?_, e1, fun σ2 ei2 st => ⟨?_, ?_⟩⟩
    · refine rx (Ad (g.hide D H2) (wipeE ρ (own.map (·.2))) (wipe σ (own.map (·.2)))) (fun a u e m => ?_) (fun a u e z => (ad_hide hD2).mpr ⟨adw a z, ne_of_none e nD⟩) x ex
      exact Ad.keeps (g := g) (ρ := ρ) (σ := σ) hd1 k' a u e m
    · rw [st.wip _ hws]
      exact wipe_wipe fun _ h => h
    · refine ⟨_, _, ρ1, c', ei2, hd2, (GoX.noEx (GoX.at k2 w1)).mono fun b c3 H3 k3 hd3 w3 => ?_⟩
      have k3' : Kp g.r.rg H2 H3 := k3
      have ra3 : Reps g.K g.r.T (fun a => Ad g ρ σ a ∧ a ≠ D) H3 xs kvs.vals := ra2.move (fun a u e m => Ad.keeps (g := g) (ρ := ρ) (σ := σ) hd2 k3' a u e fun z => (m z).1) fun _ _ _ z => z
      have fi3 : kvs.keys = ks ∧ kvs.fine g.K H3 D := fine_m fi2 fun a u e nm => k3' a u e fun z => nm (e ▸ g.r.hmut _ _ _ hd2 z)
      have hD3 := k3' _ _ hD2 nrD
      cases b with
      | false =>
        rw [if_neg Bool.false_ne_true] at w3
        exact iteF ⟨kvs, ks, xs, c3, hD3, ln, fi3, ra3, k2.trans k3', hd3, w3⟩
      | true =>
        rw [if_pos rfl] at w3
        refine iteT ⟨_, _, ρ1, c3, ei2.kp hd2 k3, hd3, (GoX.noEx (GoX.at (k2.trans k3') w3)).mono fun y c4 H4 k4 hd4 w4 vy ry => ?_⟩
        have k4' : Kp g.r.rg H3 H4 := k4
        have hD4 := k4' _ _ hD3 nrD
        have ra4 : Reps g.K g.r.T (fun a => Ad g ρ σ a ∧ a ≠ D) H4 xs kvs.vals := ra3.move (fun a u e m => Ad.keeps (g := g) (ρ := ρ) (σ := σ) hd3 k4' a u e fun z => (m z).1) fun _ _ _ z => z
        have fi4 : kvs.keys = ks ∧ kvs.fine g.K H4 D := fine_m fi3 fun a u e nm => k4' a u e fun z => nm (e ▸ g.r.hmut _ _ _ hd3 z)
        refine ⟨_, _, ρ1, c4, (ei2.kp hd2 k3).kp hd3 k4, hd4, (GoX.noEx (GoX.at ((k2.trans k3').trans k4') w4)).mono fun z c5 H5 k5 hd5 w5 vz rz => ?_⟩
        have k5' : Kp g.r.rg H4 H5 := k5
        have hD5 := k5' _ _ hD4 nrD
        have ra5 : Reps g.K g.r.T (fun a => Ad g ρ σ a ∧ a ≠ D) H5 xs kvs.vals := ra4.move (fun a u e m => Ad.keeps (g := g) (ρ := ρ) (σ := σ) hd4 k5' a u e fun z => (m z).1) fun _ _ _ z => z
        have fi5 : kvs.keys = ks ∧ kvs.fine g.K H5 D := fine_m fi4 fun a u e nm => k5' a u e fun z => nm (e ▸ g.r.hmut _ _ _ hd4 z)
        obtain ⟨d', e2, w6⟩ := GoX.optAt w5
        have ry5 := (ry.kp hd4 k5).i
        have rz2 : Rep g.K g.r.T (Ad (g.hide D H2) ρ1 σ2) H5 z vz := rz
        have rz3 : Rep g.K g.r.T (fun a => Ad g ρ σ a ∧ a ≠ D) H5 z vz := Rep.move (A := Ad (g.hide D H2) ρ1 σ2) (fun a u e _ => e) (fun a u e q => by
          obtain ⟨z1, z2⟩ := (ad_hide hD2).mp (st.ad.mpr q)
          exact ⟨adw' a z1, z2⟩) _ _ rz2
        obtain ⟨ks', xs', kvs', rfl, put, ln', fi', ra'⟩ := dput_rep (fun z => z.2 rfl) hD5 ln fi5 ra5 ry5 rz3 e2
        rw [hK]
        refine ⟨_, put, kvs', ks', xs', c5, upd_same, ln', fi', ra', ?_, Rg.new hd5 nrD, w6⟩
        exact fun a u e nr => by
          rw [upd_ne (ne_of_none e nD)]
          exact k5' _ _ (k4' _ _ (k3' _ _ (k2 a u e nr) nr) nr) nr
  · rintro H' ⟨kvs, ks, xs, c', hD, ln, fi, ra, k', hd', w'⟩
    rw [List.drop_length] at w'
    refine (show GoX g H1 (ret (Vl.dk ks xs) c') _ from w') H' k' hd' (.ref D) ?_
    unfold RepN
    exact ⟨D, kvs, rfl, nDH, hD, ln, fi, ra⟩
end
end PyA
/-! PyZd: sorted(d) of tuple keys; sorted(set(tuples)), len(set(tuples)); dict(pairs). -/
namespace PyA
open PySem L2
mutual
def vOfK : NestedKey → Vl
  | .none => .non
  | .num i => .int i
  | .text _ => .non
  | .tup ks => .tup (vOfKs ks)
def vOfKs : List NestedKey → List Vl
  | [] => []
  | k :: ks => vOfK k :: vOfKs ks
end
theorem vOfKs_eq : ∀ ks : List NestedKey, vOfKs ks = ks.map vOfK
  | [] => by unfold vOfKs; rfl
  | k :: ks => by unfold vOfKs; rw [vOfKs_eq ks]; rfl
mutual
theorem vOfK_of : ∀ (x : Vl) (k : NestedKey), kOfV x = some k → vOfK k = x
  | .non, k, e => by unfold kOfV at e; cases e; unfold vOfK; rfl
  | .int i, k, e => by unfold kOfV at e; cases e; unfold vOfK; rfl
  | .tup xs, k, e => by
    unfold kOfV at e
    obtain ⟨ks, e1, rfl⟩ := Option.map_eq_some_iff.mp e
    unfold vOfK
    rw [vOfKs_of xs ks e1]
  | .bl _, _, e => by unfold kOfV at e; cases e
  | .str _, _, e => by unfold kOfV at e; cases e
  | .lst _, _, e => by unfold kOfV at e; cases e
  | .dk _ _, _, e => by unfold kOfV at e; cases e
  | .reg _, _, e => by unfold kOfV at e; cases e
theorem vOfKs_of : ∀ (xs : List Vl) (ks : List NestedKey), kOfVs xs = some ks → vOfKs ks = xs
  | [], ks, e => by unfold kOfVs at e; cases e; unfold vOfKs; rfl
  | x :: xs, ks, e => by
    unfold kOfVs at e
    obtain ⟨k, e1, e⟩ := Option.bind_eq_some_iff.mp e
    obtain ⟨r, e2, rfl⟩ := Option.map_eq_some_iff.mp e
    unfold vOfKs
    rw [vOfK_of x k e1, vOfKs_of xs r e2]
end
section
variable {X : Cx} {pins : List (Addr × Obj)} {σ : L2.St} {H : Hp} {s : Shared} {T : Tk} {A : Addr → Prop}
mutual
theorem nkv_rep (I : Inv X pins σ H s) : ∀ (k : NestedKey) (v : V), NKV X.K H k v → Rep X.K T A H (vOfK k) v
  | .none, _, h => by unfold NKV at h; unfold vOfK Rep; exact h
  | .num i, _, h => by unfold NKV at h; unfold vOfK Rep; exact h
  | .text _, _, h => by unfold NKV at h; exact h.elim
  | .tup ks, _, h => by
    unfold NKV at h
    obtain ⟨p, vs, rfl, q, rs⟩ := h
    unfold vOfK Rep
    obtain ⟨_, _, _, l⟩ := I.tuple q
    exact ⟨p, vs, rfl, q, l, nkvs_rep I ks vs rs⟩
theorem nkvs_rep (I : Inv X pins σ H s) : ∀ (ks : List NestedKey) (vs : List V), NKVs X.K H ks vs → Reps X.K T A H (vOfKs ks) vs
  | [], _, h => by unfold NKVs at h; unfold vOfKs Reps; exact h
  | k :: ks, _, h => by
    unfold NKVs at h
    obtain ⟨v, vs, rfl, h1, h2⟩ := h
    unfold vOfKs
    exact Reps.cons (nkv_rep I k v h1) (nkvs_rep I ks vs h2)
end
/-- what is left of sorted() once the things stand in a row -/
def srest (vs : List Value) : Sem PySem.Fin := do
  let l ← newList vs
  let _ ← holding [l] (call (.builtin "list.sort") [l] [])
  PySem.ret l
theorem sort_fin {A1 : Around} {P : PySem.Fin → Shared → Prop} {E : Value → Shared → Prop} {Q : VK} {us : List V} {xs : List Vl} {vs : List Value} (hu : A1.units + 32 < cLine) (I : Inv X pins σ H s) (rv : Vals us vs) (rs : Reps X.K T A H xs us) (ho : ordV xs = true) (so : PySem.W.Sortable (xs.map toD)) (hl0 : us.length ≤ sizeLine)
    (hP : ∀ v s', (∃ x H', Inv X pins σ H' s' ∧ RelV x v ∧ Q x H') → wpAny (model X.prog X.w) A1 (PySem.ret v) P E s')
    (q : ∀ p ws, H p = none → Reps X.K T A H (sortF xs) ws → Q (.ref p) (upd H p (.lst ws))) : wpAny (model X.prog X.w) A1 (srest vs) P E s := by
  obtain ⟨o1, al, o3⟩ := ordV_of ho
  have dp := Reps.dp _ _ 11 o1 rs
  rw [toDs_eq] at dp
  obtain ⟨as, ra⟩ := Dp.readsAll I _ _ _ dp rv
  have hlen := rs.len
  have e1 : ∀ (ws : List V) (its : List Value) (xs : List Vl), Vals ws its → ws.length = xs.length → PySem.W.EachIs (fun v (b : V × Vl) => RelV b.1 v) its (ws.zip xs) := fun ws => by
    induction ws with
    | nil => intro its xs rv _; cases rv; exact .nil
    | cons w ws ih =>
      intro its xs rv hl
      cases xs with
      | nil => cases hl
      | cons x xs =>
        cases rv with
        | cons r t => exact .cons r (ih _ xs t (Nat.succ.inj hl))
  have e2 : ∀ (h : Heap) (ws : List V) (its : List Value) (xs : List Vl) (as : List Addr), (∀ b o, s.heap.get? b = some o → h.get? b = some o) → ReadsAll s.heap its (xs.map toD) as → ws.length = xs.length → PySem.W.EachIs (fun v (b : V × Vl) => ∃ as, Reads h v (toD b.2) as ∧ s.heap.objs.size ∉ as) its (ws.zip xs) := fun h ws its xs => by
    induction xs generalizing ws its with
    | nil => intro as hk ra hl; cases ra; cases ws with | nil => exact .nil | cons _ _ => cases hl
    | cons x xs ih =>
      intro as hk ra hl
      cases ws with
      | nil => cases hl
      | cons w ws =>
        cases ra with
        | cons r t => exact .cons ⟨_, PyProof.Rows.Reads.keeps hk r, fun hm => (PyProof.On.reads_mem_get r _ hm).elim fun o e => Nat.lt_irrefl _ (Heap.lt_size e)⟩ (ih ws _ _ hk t (Nat.succ.inj hl))
  have hvl : vs.length = us.length := rv.length.symm
  have em : (us.zip xs).map (fun b => toD b.2) = xs.map toD := by
    have h := List.map_snd_zip (l₁ := us) (l₂ := xs) (by omega)
    show List.map (toD ∘ Prod.snd) _ = _
    rw [← List.map_map, h]
  have ez : (us.zip xs).length = us.length := by rw [List.length_zip]; omega
  have n1 : H s.heap.objs.size = none := I.hok.fresh (Nat.le_refl _)
  have hoL : (s.heap.push (PyProof.Rows.seqObj "list" vs.toArray 0)).get? s.heap.objs.size = some (PyProof.Rows.seqObj "list" vs.toArray 0) := Heap.get?_push_size _ rfl
  unfold srest
  refine wpAny_bind (wpAny_newList ?_ (by rw [hvl]; exact hl0))
  refine wpAny_bind (wpAny_holding (PySem.W.list_sort_data (s := { s with heap := s.heap.push (PyProof.Rows.seqObj "list" vs.toArray 0) }) (enc := fun b : V × Vl => toD b.2) (bs := us.zip xs) (vs := vs) hoL (e1 us vs xs rv hlen) (e2 _ us vs xs as (fun b o e => Heap.get?_push_of_some _ e) ra hlen) (by rw [em]; exact al.1) (by rw [em]; exact so) (by rw [ez]; exact hl0) (fun b hb => ?_) fun out ol ei => ?_))
  · have h1 : toD b.2 ∈ xs.map toD := List.mem_map.mpr ⟨b.2, (List.of_mem_zip hb).2, rfl⟩
    have h2 : (toD b.2).depth ≤ PyData.depthAll (xs.map toD) := by
      have go : ∀ (l : List PyData) (d : PyData), d ∈ l → d.depth ≤ PyData.depthAll l := fun l => by
        induction l with
        | nil => intro d h; cases h
        | cons y l ih =>
          intro d h
          unfold PyData.depthAll
          rcases List.mem_cons.mp h with rfl | h
          · exact Nat.le_max_left _ _
          · exact Nat.le_trans (ih d h) (Nat.le_max_right _ _)
      exact go _ _ h1
    omega
  · obtain ⟨e', he'⟩ := PyProof.Rows.sortedHeap_at (vs := vs) (out := out.toArray) hoL
    have vl : ∀ (bs : List (V × Vl)) (out : List Value), PySem.W.EachIs (fun v (b : V × Vl) => RelV b.1 v) out bs → Vals (bs.map (·.1)) out := fun bs => by
      induction bs with
      | nil => intro out e; cases e; exact .nil
      | cons b bs ih =>
        intro out e
        cases e with
        | cons r t => exact .cons r (ih _ t)
    have hsl : (((us.zip xs).mergeSort (PySem.W.dataLe false fun b => toD b.2)).map (·.1)).length ≤ sizeLine := by rw [List.length_map, List.length_mergeSort, ez]; exact hl0
    have em2 : sortF xs = ((us.zip xs).mergeSort (PySem.W.dataLe false fun b => toD b.2)).map (·.2) := by
      have h := List.map_mergeSort (r := PySem.W.dataLe false fun b : V × Vl => toD b.2) (s := PySem.W.dataLe false toD) (f := Prod.snd) (l := us.zip xs) (fun a _ b _ => rfl)
      rw [h, List.map_snd_zip (by omega)]
      rfl
    have rz : Reps X.K T A H (sortF xs) (((us.zip xs).mergeSort (PySem.W.dataLe false fun b => toD b.2)).map (·.1)) := by
      rw [em2]
      exact reps_of_zip fun b hb => reps_zip rs b (List.mem_mergeSort.mp hb)
    refine hP _ _ ⟨.ref s.heap.objs.size, upd H s.heap.objs.size (.lst _), I.laid (t' := s.toks) (fun b u e => ?_) (Nat.le_refl _) (show ObjOk X.prog X.w _ _ _ (.lst (((us.zip xs).mergeSort (PySem.W.dataLe false fun b => toD b.2)).map (·.1))) from ⟨hsl, out, e', vl _ _ ei, he'⟩), rfl, q _ _ n1 rz⟩
    have hb : b < s.heap.objs.size := Heap.lt_size e
    rw [PyProof.Rows.sortedHeap_old (Nat.ne_of_lt hb) (by show b < (s.heap.push _).objs.size; rw [PyProof.Rows.size_push']; exact Nat.lt_succ_of_lt hb)]
    exact Heap.get?_push_of_some _ e
end
/-! ### sorted(d), the keys tuples -/
theorem kdl_raw {P : Program} {w : World} {d : Addr} {es : Array DictEntry} {ep : Nat} (lo : (d == sysModules) = false) : PySem.W.KdlSrc P w "dict" d d es.size (fun i v => ∃ hi : i < es.size, v = es[i].key) (fun h => h.DictRaw d es ep) where
  type := fun _ hm => hm.typeIs
  there := fun _ hm => let ⟨_, ho, _⟩ := hm; ⟨Heap.lt_size ho, Heap.lt_size ho⟩
  keep := fun _ _ hm hk => hm.at fun o e => hk d (.inl rfl) o e
  notList := by decide
  notTuple := by decide
  hint := fun _ _ _ _ hm hq => PySem.W.kdl_hint_dict hm.typeIs hq
  iter := fun A s hh hm => ⟨_, _, (fun _ _ hq => wpAny_pyIter_dict_raw lo hm hq), Walks.rawKeys hh _ d (Nat.ne_of_lt (let ⟨_, ho, _⟩ := hm; Heap.lt_size ho)) es ep, ⟨⟨_, Heap.get?_push_size _ rfl, rfl, rfl⟩, hm.at fun o e => Heap.get?_push_of_some _ e⟩⟩
theorem sortable_of {ys : List Vl} (o1 : ys.all (shp 11) = true) (h : (ys.all isTC || ys.all notT) = true) : PySem.W.Sortable (ys.map toD) := by
  rcases (Bool.or_eq_true _ _).mp h with h | h
  · refine .inl fun d hd => ?_
    obtain ⟨x, hx, rfl⟩ := List.mem_map.mp hd
    have := List.all_eq_true.mp h x hx
    cases x <;> first | cases this | skip
    rename_i zs
    cases zs with
    | nil => cases this
    | cons a b => exact ⟨_, _, by unfold toD toDs; rfl⟩
  · refine .inr fun d hd => ?_
    obtain ⟨x, hx, rfl⟩ := List.mem_map.mp hd
    have h1 := List.all_eq_true.mp h x hx
    have h2 := List.all_eq_true.mp o1 x hx
    cases x <;> first | (cases h1; done) | (simp [shp] at h2; done) | (unfold toD; exact ⟨nofun, fun _ => nofun⟩)
/-- what sorted() makes of things that can be put in order -/
def sortX (ys : List Vl) : Option Vl := if ordV ys = true ∧ (ys.all isTC || ys.all notT) = true then some (.lst (sortF ys)) else none
def sortTP : List Vl → Option Vl
  | [.dk (.t ks) xs] => sortX (vOfKs ks)
  | vs => sortDP vs
section
variable {X : Cx}
theorem PT2.addr : ∀ {kvs : KTs} {xs : List (NestedKey × Addr × Value)}, PT2 kvs xs → ∀ j : Nat, (kvs[j]?).map (·.2.1) = (xs[j]?).map (·.2.1)
  | _, _, .nil, j => by rfl
  | _, _, .cons r t, 0 => congrArg some r.2.1
  | _, _, .cons r t, j + 1 => PT2.addr t j
theorem vals_refs : ∀ kvs : KTs, Vals (kvs.map fun x => V.ref x.2.1) (kvs.map fun x => Value.ref x.2.1)
  | [] => .nil
  | x :: kvs => .cons rfl (vals_refs kvs)
theorem td_keys {pins : List (Addr × Obj)} {σ : L2.St} {H : Hp} {s : Shared} {T : Tk} {A : Addr → Prop} (I : Inv X pins σ H s) : ∀ {kvs : KTs}, (∀ x ∈ kvs, NKV X.K H x.1 (.ref x.2.1) ∧ goodK x.1 = true) → Reps X.K T A H (vOfKs (kvs.map (·.1))) (kvs.map fun x => V.ref x.2.1)
  | [], _ => by unfold vOfKs; exact Reps.nil
  | x :: kvs, h => by
    rw [List.map_cons, List.map_cons]
    unfold vOfKs
    exact Reps.cons (nkv_rep I _ _ (h x List.mem_cons_self).1) (td_keys I fun y hy => h y (List.mem_cons_of_mem _ hy))
theorem call_sortTP (hcalm : X.calm = true) (hu : X.A.units + 64 < cLine) : CallP true X (.builtin "sorted") sortTP := by
  intro T pins s σ H vs us Q I r h
  obtain ⟨xs, B, A, z, rx, e, q⟩ := h
  unfold sortTP at e
  split at e
  · rename_i ks ys
    unfold sortX at e
    by_cases ho : ordV (vOfKs ks) = true ∧ ((vOfKs ks).all isTC || (vOfKs ks).all notT) = true
    case neg => rw [if_neg ho] at e; cases e
    rw [if_pos ho] at e
    cases e
    obtain ⟨v, rfl, rx2⟩ := is_one rx
    obtain ⟨p, kvs, rfl, td, m, _, hl, _, _⟩ := td_of rx2
    obtain ⟨u, eu, ru⟩ := vals1 r
    subst eu
    cases ru
    obtain ⟨hd, hn, xs, rel, dd⟩ := td_rd I td
    obtain ⟨es, ep, raw, hsz, hes⟩ := dd.raw
    have hxl : xs.length = kvs.length := (Paired.length rel).symm
    refine Calls.call_function_entry PyProof.Rows.kind_sorted PyProof.Rows.plain_sorted PyProof.Rows.entry_sorted (PyProof.Rows.args_sorted1 _) ?_
    unfold Builtin.«sorted»
    refine wpAny_bind (m := checkCount "sorted" 1 1 _) (wpAny_pure ?_)
    refine wpAny_bind (PySem.W.kdu_collect (A := X.A.in1) (kdl_raw hd) (I.ok.hd hcalm) raw (by rw [hsz, hxl]; exact hl) fun h' tk acc hk hacc => ?_)
    have I1 : Inv X pins σ H { s with heap := h', toks := tk } := I.kept hk
    have hal : acc.toList.length = kvs.length := by rw [Array.length_toList, hacc.1, hsz, hxl]
    have eacc : acc.toList = kvs.map fun x => Value.ref x.2.1 := by
      refine List.ext_getElem? fun j => ?_
      by_cases hj : j < kvs.length
      · have h1 : j < acc.size := by rw [Array.length_toList] at hal; omega
        obtain ⟨hi, ev⟩ := hacc.2 j acc[j] (by simp [h1])
        obtain ⟨y, hy, ek, _⟩ := hes j hi
        rw [Array.getElem?_toList, Array.getElem?_eq_getElem h1, ev, ek, List.getElem?_map, List.getElem?_eq_getElem hj]
        have := PT2.addr rel j
        rw [hy, List.getElem?_eq_getElem hj] at this
        have e2 : kvs[j].2.1 = y.2.1 := Option.some.inj this
        show some (Value.ref y.2.1) = some (Value.ref kvs[j].2.1)
        rw [e2]
      · rw [List.getElem?_eq_none (by omega), List.getElem?_eq_none (by rw [List.length_map]; omega)]
    have rv : Vals (kvs.map fun x => V.ref x.2.1) acc.toList := by rw [eacc]; exact vals_refs kvs
    have rs : Reps X.K T A H (vOfKs ks) (kvs.map fun x => V.ref x.2.1) := by
      rw [← m]
      exact td_keys I (td_good td)
    exact sort_fin (A1 := X.A.in1) (by show X.A.units + 1 + 32 < cLine; omega) I1 rv rs ho.1 (sortable_of (ordV_of ho.1).1 ho.2) (by rw [List.length_map]; exact hl) (fun v s' h => wpAny_pure ⟨_, rfl, h⟩) fun p ws np rw' => q _ _ (same_new np) (by
      rw [if_pos rfl]
      unfold RepN
      refine ⟨p, ws, rfl, np, upd_same, ?_, ?_⟩
      · rw [rw'.len, sortF, List.length_mergeSort, ← rs.len, List.length_map]; exact hl
      · exact rep_upd np (fun a u e z => ⟨z, ne_of_none e np⟩) rw')
  · exact call_sortDP hcalm hu T pins s σ H vs us Q I r ⟨xs, B, A, z, rx, e, q⟩
end
/-! ### sets of tuples of ints -/
def asTI : Vl → Option (List Int)
  | .tup xs => allM asI xs
  | _ => none
def eI (ns : List Int) : Vl := .tup (ns.map .int)
def ltLI : List Int → List Int → Bool
  | [], [] => false
  | [], _ :: _ => true
  | _ :: _, [] => false
  | a :: x, b :: y => if a = b then ltLI x y else decide (a < b)
def dedT : List (List Int) → List (List Int)
  | [] => []
  | a :: r => if a ∈ dedT r then dedT r else a :: dedT r
def srtT (ns : List (List Int)) : List (List Int) := (dedT ns).mergeSort fun a b => !ltLI b a
theorem dedT_mem {x : List Int} : ∀ {l : List (List Int)}, x ∈ dedT l ↔ x ∈ l
  | [] => Iff.rfl
  | a :: r => by
    unfold dedT
    split
    · rename_i h
      rw [dedT_mem (l := r), List.mem_cons]
      exact ⟨.inr, fun q => q.elim (fun e => e ▸ dedT_mem.mp h) id⟩
    · rw [List.mem_cons, List.mem_cons, dedT_mem (l := r)]
theorem dedT_nodup : ∀ l : List (List Int), (dedT l).Nodup
  | [] => List.nodup_nil
  | a :: r => by
    unfold dedT
    split
    · exact dedT_nodup r
    · exact List.nodup_cons.mpr ⟨‹_›, dedT_nodup r⟩
theorem ltLI_irr : ∀ a : List Int, ltLI a a = false
  | [] => rfl
  | a :: x => by unfold ltLI; rw [if_pos rfl]; exact ltLI_irr x
theorem ltLI_tot : ∀ a b : List Int, ltLI a b = false → ltLI b a = false → a = b
  | [], [], _, _ => rfl
  | [], _ :: _, h, _ => by cases h
  | _ :: _, [], _, h => by cases h
  | a :: x, b :: y, h1, h2 => by
    unfold ltLI at h1 h2
    by_cases e : a = b
    · subst e
      rw [if_pos rfl] at h1 h2
      rw [ltLI_tot x y h1 h2]
    · rw [if_neg e, decide_eq_false_iff_not] at h1
      rw [if_neg (Ne.symm e), decide_eq_false_iff_not] at h2
      omega
theorem ltLI_asym : ∀ a b : List Int, ltLI a b = true → ltLI b a = false
  | [], [], h => by cases h
  | [], _ :: _, _ => rfl
  | _ :: _, [], h => by cases h
  | a :: x, b :: y, h => by
    unfold ltLI at h ⊢
    by_cases e : a = b
    · subst e
      rw [if_pos rfl] at h ⊢
      exact ltLI_asym x y h
    · rw [if_neg e, decide_eq_true_eq] at h
      rw [if_neg (Ne.symm e), decide_eq_false_iff_not]
      omega
theorem ltLI_trans : ∀ a b c : List Int, ltLI b a = false → ltLI c b = false → ltLI c a = false
  | [], b, c, _, h2 => by
    cases c with
    | nil => rfl
    | cons z c => rfl
  | a :: x, [], c, h1, h2 => by cases h1
  | a :: x, b :: y, [], h1, h2 => by cases h2
  | a :: x, b :: y, c :: z, h1, h2 => by
    unfold ltLI at h1 h2 ⊢
    by_cases e1 : b = a <;> by_cases e2 : c = b
    · subst e1 e2
      rw [if_pos rfl] at h1 h2 ⊢
      exact ltLI_trans x y z h1 h2
    · subst e1
      rw [if_neg e2] at h2 ⊢
      exact h2
    · subst e2
      rw [if_neg e1] at h1 ⊢
      exact h1
    · rw [if_neg e1, decide_eq_false_iff_not] at h1
      rw [if_neg e2, decide_eq_false_iff_not] at h2
      have : c ≠ a := by omega
      rw [if_neg this, decide_eq_false_iff_not]
      omega
theorem ltV_eI : ∀ a b : List Int, ltV (eI a) (eI b) = ltLI a b
  | [], [] => rfl
  | [], _ :: _ => rfl
  | _ :: _, [] => rfl
  | a :: x, b :: y => by
    have ih := ltV_eI x y
    show ltVs (.int a :: x.map .int) (.int b :: y.map .int) = _
    rw [ltVs_cons _ _ (alikeV_int a b)]
    unfold ltLI
    by_cases e : a = b
    · subst e
      rw [if_pos rfl, if_pos (by rw [eqD_int, decide_eq_true_eq])]
      exact ih
    · rw [if_neg e, if_neg (by rw [eqD_int, decide_eq_true_eq]; exact e), ltV_int]
theorem sortF_eI (ns : List (List Int)) : sortF (ns.map eI) = (ns.mergeSort fun a b => !ltLI b a).map eI := by
  unfold sortF
  rw [List.map_mergeSort (s := PySem.W.dataLe false toD) fun a _ b _ => ?_]
  rw [leV_eq, ltV_eI]
theorem alikeV_eI : ∀ a b : List Int, alikeV (eI a) (eI b) = true
  | [], b => by unfold eI; rw [alikeV_tup]; simp
  | a :: x, [] => by unfold eI; rw [alikeV_tup]; simp
  | a :: x, b :: y => by
    have ih := alikeV_eI x y
    unfold eI at ih ⊢
    rw [alikeV_tup] at ih ⊢
    simpa using ih
theorem ordV_eI (ns : List (List Int)) : ordV (ns.map eI) = true := by
  unfold ordV
  rw [Bool.and_eq_true]
  constructor
  · rw [List.all_map]
    refine List.all_eq_true.mpr fun x _ => ?_
    show shp 11 (eI x) = true
    unfold eI shp
    rw [List.all_map]
    exact List.all_eq_true.mpr fun _ _ => rfl
  · rw [List.all_map]
    refine List.all_eq_true.mpr fun x _ => ?_
    show (!isN (eI x) && _) = true
    rw [Bool.and_eq_true]
    refine ⟨rfl, ?_⟩
    rw [List.all_map]
    exact List.all_eq_true.mpr fun y _ => alikeV_eI x y
theorem srtT_of {ns L : List (List Int)} (nd : L.Nodup) (h : ∀ x, x ∈ L ↔ x ∈ ns) : (L.mergeSort fun a b => !ltLI b a) = srtT ns := by
  unfold srtT
  have hp : L.Perm (dedT ns) := (List.perm_ext_iff_of_nodup nd (dedT_nodup ns)).mpr fun x => by rw [h, dedT_mem]
  have tr : ∀ a b c : List Int, (!ltLI b a) = true → (!ltLI c b) = true → (!ltLI c a) = true := fun a b c h1 h2 => by
    simp only [Bool.not_eq_true'] at h1 h2 ⊢
    exact ltLI_trans a b c h1 h2
  have tt : ∀ a b : List Int, ((!ltLI b a) || !ltLI a b) = true := fun a b => by
    cases e : ltLI b a with
    | false => rfl
    | true => rw [ltLI_asym b a e]; rfl
  refine List.Perm.eq_of_pairwise (le := fun a b => (!ltLI b a) = true) (fun a b _ _ h1 h2 => ?_) (List.pairwise_mergeSort tr tt L) (List.pairwise_mergeSort tr tt _) (((List.mergeSort_perm L _).trans hp).trans (List.mergeSort_perm _ _).symm)
  simp only [Bool.not_eq_true'] at h1 h2
  exact ltLI_tot a b h2 h1
theorem dedT_len {ns L : List (List Int)} (nd : L.Nodup) (h : ∀ x, x ∈ L ↔ x ∈ ns) : L.length = (dedT ns).length :=
  List.Perm.length_eq ((List.perm_ext_iff_of_nodup nd (dedT_nodup ns)).mpr fun x => by rw [h, dedT_mem])
def lstOf : Vl → Option (List Vl)
  | .lst xs => some xs
  | _ => none
def sortSetT (x : Vl) : Option Vl := (lstOf x).bind fun xs => (allM asTI xs).bind fun ns => if ns.length < 64 ∧ ns.all (fun n => !n.isEmpty) = true then some (.lst ((srtT ns).map eI)) else none
def lenSetT (x : Vl) : Option Vl := (lstOf x).bind fun xs => (allM asTI xs).bind fun ns => if ns.length < 64 then some (.int (dedT ns).length) else none
theorem perm_map_inv {α β : Type} {f : α → β} {l : List α} {vs : List β} (h : vs.Perm (l.map f)) : ∃ l' : List α, l'.Perm l ∧ vs = l'.map f := by
  generalize e : l.map f = m at h
  induction h generalizing l with
  | nil => exact ⟨[], by rw [List.map_eq_nil_iff.mp e], rfl⟩
  | @cons x a b h ih =>
    cases l with
    | nil => cases e
    | cons y l =>
      injection e with e1 e2
      obtain ⟨l', p, rfl⟩ := ih e2
      exact ⟨y :: l', p.cons y, by rw [List.map_cons, e1]⟩
  | swap x y a =>
    match l, e with
    | u :: v :: l, e =>
      injection e with e1 e2
      injection e2 with e2 e3
      exact ⟨v :: u :: l, List.Perm.swap u v l, by rw [List.map_cons, List.map_cons, e1, e2, e3]⟩
  | trans h1 h2 ih1 ih2 =>
    obtain ⟨l2, p2, e2⟩ := ih2 e
    obtain ⟨l1, p1, e1⟩ := ih1 e2.symm
    exact ⟨l1, p1.trans p2, e1⟩
section
variable {X : Cx}
def tSortSetT (K : PySem.W.Frag) (T : Tk) (ta : TE) : TE := fun σ H Q => ta σ H fun x H1 => ∃ (l : Addr) (ks : List (Addr × List Int)), x = V.ref l ∧ SqL K H1 l (ks.map fun p => V.ref p.1) ∧ (∀ p ∈ ks, SqT K H1 p.1 (p.2.map V.int)) ∧ ks.length < 64 ∧ (∀ p ∈ ks, p.2 ≠ []) ∧
  ∀ p ws, H1 p = none → Reps K T (fun _ => False) H1 ((srtT (ks.map (·.2))).map eI) ws → ws.length ≤ sizeLine → Q (.ref p) (upd H1 p (.lst ws))
theorem len_int {l : List Int} (h : l.length ≤ sizeLine) : True := True.intro
theorem reps_eI {K : PySem.W.Frag} {T : Tk} {A : Addr → Prop} {H : Hp} : ∀ {L : List (Addr × List Int)}, (∀ p ∈ L, SqT K H p.1 (p.2.map V.int) ∧ p.2.length ≤ sizeLine) → Reps K T A H (L.map fun p => eI p.2) (L.map fun p => V.ref p.1)
  | [], _ => Reps.nil
  | p :: L, h => by
    have intsR : ∀ ns : List Int, Reps K T A H (ns.map Vl.int) (ns.map V.int) := fun ns => by
      induction ns with
      | nil => exact Reps.nil
      | cons n ns ih => exact Reps.cons rep_int ih
    refine Reps.cons ?_ (reps_eI fun q hq => h q (List.mem_cons_of_mem _ hq))
    obtain ⟨h1, h2⟩ := h p List.mem_cons_self
    unfold eI Rep
    exact ⟨p.1, _, rfl, h1, by rw [List.length_map]; exact h2, intsR _⟩
theorem pe_sortSetT {T : Tk} {a : Expr} {ta : TE} {p p2 q pos : Pos} (hu : X.A.units + 64 < cLine) (hc : X.calm = true) (hg : Gl X "sorted") (hm : X.mg "sorted" = none) (hg2 : Gl X "set") (hm2 : X.mg "set" = none) (hb : bootBuiltins "sorted" = some (.builtin "sorted") := by decide +kernel) (ha : PE X a ta)
    (na : starEach [a] X.env = (false, eval a X.env) :: starEach [] X.env := by rfl) : PE X (.Call (.Name "sorted" p) [.Call (.Name "set" p2) [a] [] q] [] pos) (tSortSetT X.K T ta) := by
  refine ⟨fun pins s σ H Q I h => ?_⟩
  refine PyProof.Rows.Call_ (ld_blt I hg hm hb ?_)
  refine PyProof.Rows.callWith_builtin1 (PyProof.Rows.args_cons ?_ rfl) rfl rfl
  refine PyProof.Rows.Call_ (ld_blt I hg2 hm2 PyProof.Rows.boot_set ?_)
  refine PyProof.Rows.callWith_type1 (PyProof.Rows.args_cons (thn (ha.run pins s σ H _ I h) fun v s1 ⟨x, H1, I1, r1, q1⟩ => PyProof.Rows.args_nil ?_) na) na rfl
  obtain ⟨l, ks, rfl, hl, hk, hf, hne, q1⟩ := q1
  cases r1
  obtain ⟨its, rv, pl, hz⟩ := I1.list hl
  refine call_set_tups (P := X.prog) (w := X.w) ks (I1.ok.hd hc) pl.isList (by simpa using refs_of_vals rv) (fun p hp => I1.isT (hk p hp)) hf (by omega) fun h3 tk L es ep t R gt kp => ?_
  refine PyProof.Rows.args_nil ?_
  have I2 : Inv X pins σ H1 { s1 with heap := h3, toks := tk } := I1.kept kp
  obtain ⟨o, ho, hex, hd⟩ := R.ob
  refine Calls.call_function_entry PyProof.Rows.kind_sorted PyProof.Rows.plain_sorted PyProof.Rows.entry_sorted (PyProof.Rows.args_sorted1 _) ?_
  unfold Builtin.«sorted»
  refine wpAny_bind (m := checkCount "sorted" 1 1 _) (wpAny_pure ?_)
  have hfew := R.few
  have hsz : es.size = L.length := SetTR.size (s := { s1 with heap := h3, toks := tk }) R
  refine wpAny_bind (collect_set (A := X.A.in1) (I2.ok.hd hc) ⟨o, ho, hex.1, hd⟩ (SetTR.fits (s := { s1 with heap := h3, toks := tk }) R) (by unfold scanBound; omega) R.tab.ris R.led fun s2 vs k1 hz2 g1 o1 pm => ?_)
  have hes : es.toList.map (·.2) = L.map fun q => Value.ref q.1 := by
    rw [R.rows]
    unfold rowsOf
    rw [List.map_map] <;> rfl
  rw [hes] at pm
  obtain ⟨L', pL, rfl⟩ := perm_map_inv pm
  have I3 : Inv X pins σ H1 { s1 with heap := s2.heap, gens := s2.gens, drawn := s2.drawn, toks := s2.toks } := by
    have J := Inv.call (s := { s1 with heap := h3, toks := tk }) (h' := s2.heap) (g' := s2.gens) (d' := s2.drawn) (t' := s2.toks) (ch := []) I2 (Un.kept k1) (I2.hok.kept k1) (by rw [g1]; exact I2.bare) (fun _ z => nomatch z)
    exact J
  have e2 : s2 = { s1 with heap := s2.heap, gens := s2.gens, drawn := s2.drawn, toks := s2.toks } := by
    have : s2.os = s1.os := o1
    obtain ⟨_, _, _, _, _⟩ := s2
    cases this
    rfl
  rw [e2]
  have inks : ∀ q ∈ L', q ∈ ks := fun q hq => List.mem_of_mem_take (gt.sub q (pL.mem_iff.mp hq))
  have rs : Reps X.K T (fun _ => False) H1 (L'.map fun p => eI p.2) (L'.map fun p => V.ref p.1) := reps_eI fun q hq => ⟨hk q (inks q hq), by
    obtain ⟨_, _, _, z⟩ := I1.tuple (hk q (inks q hq))
    rwa [List.length_map] at z⟩
  have eL : (L'.map fun p => eI p.2) = (L'.map (·.2)).map eI := by rw [List.map_map]; rfl
  rw [eL] at rs
  have nd' : (L'.map (·.2)).Nodup := (pL.map (·.2)).nodup_iff.mpr R.nd
  have same : ∀ x, x ∈ L'.map (·.2) ↔ x ∈ ks.map (·.2) := fun x => by
    constructor
    · intro hx
      obtain ⟨q, hq, rfl⟩ := List.mem_map.mp hx
      exact List.mem_map.mpr ⟨q, inks q hq, rfl⟩
    · intro hx
      obtain ⟨q, hq, rfl⟩ := List.mem_map.mp hx
      exact (pL.map (·.2)).mem_iff.mpr (gt.all q (by rw [List.take_length]; exact hq))
  have l64 : (L'.map fun q => V.ref q.1).length ≤ sizeLine := by rw [List.length_map, pL.length_eq, PySem.sizeLine_eq]; omega
  refine sort_fin (T := T) (A := fun _ => False) (s := { s1 with heap := s2.heap, gens := s2.gens, drawn := s2.drawn, toks := s2.toks }) (A1 := X.A.in1) (by show X.A.units + 1 + 32 < cLine; omega) I3 (vals_of_refs L') rs (ordV_eI _) (sortable_of (ordV_of (ordV_eI _)).1 ?_) l64 (fun v s' h => wpAny_pure ⟨_, rfl, h⟩) fun p ws np rw' => ?_
  · rw [Bool.or_eq_true]
    refine .inl (List.all_eq_true.mpr fun x hx => ?_)
    obtain ⟨n, hn, rfl⟩ := List.mem_map.mp hx
    obtain ⟨q, hq, rfl⟩ := List.mem_map.mp hn
    have := hne q (inks q hq)
    unfold eI
    cases e : q.2 with
    | nil => exact absurd e this
    | cons a r => rfl
  · have hw : ws.length ≤ sizeLine := by
      rw [rw'.len, sortF, List.length_mergeSort, List.length_map, List.length_map, pL.length_eq, PySem.sizeLine_eq]; omega
    rw [sortF_eI, srtT_of nd' same] at rw'
    exact q1 p ws np rw' hw
theorem asTI_reps {K : PySem.W.Frag} {T : Tk} {A : Addr → Prop} {H : Hp} : ∀ {xs : List Vl} {ns : List (List Int)} {us : List V}, allM asTI xs = some ns → Reps K T A H xs us → ∃ ks : List (Addr × List Int), us = ks.map (fun p => V.ref p.1) ∧ (∀ p ∈ ks, SqT K H p.1 (p.2.map V.int)) ∧ ks.map (·.2) = ns
  | [], ns, us, e, r => by
    cases e
    unfold Reps at r
    subst r
    exact ⟨[], rfl, (fun _ h => nomatch h), rfl⟩
  | x :: xs, ns, us, e, r => by
    unfold allM at e
    obtain ⟨n, e1, e⟩ := Option.bind_eq_some_iff.mp e
    obtain ⟨m, e2, rfl⟩ := Option.map_eq_some_iff.mp e
    unfold Reps at r
    obtain ⟨v, vs, rfl, r1, r2⟩ := r
    obtain ⟨ks, rfl, h, rfl⟩ := asTI_reps e2 r2
    cases x with
    | tup ys =>
      have e1 : allM asI ys = some n := e1
      unfold Rep at r1
      obtain ⟨p, ws, rfl, sq, l, rs⟩ := r1
      rw [allM_reps (gv := V.int) asI_rep e1 rs] at sq
      refine ⟨(p, n) :: ks, rfl, fun q hq => ?_, rfl⟩
      rcases List.mem_cons.mp hq with rfl | hq
      · exact sq
      · exact h q hq
    | _ => cases e1
variable {C : Type} {g : Fx C} {e : Expr} {p p2 q pos : Pos}
theorem de_sortSetT {f : FE C} {bb : Bool} (hK : X.K = g.K) (hu : X.A.units + 64 < cLine) (hc : X.calm = true) (hg : Gl X "sorted") (hm : X.mg "sorted" = none) (hg2 : Gl X "set") (hm2 : X.mg "set" = none) (ha : PE X e (tE g bb f))
    (na : starEach [e] X.env = (false, eval e X.env) :: starEach [] X.env := by rfl) : PE X (.Call (.Name "sorted" p) [.Call (.Name "set" p2) [e] [] q] [] pos) (tN g (fUn sortSetT f)) :=
  (pe_sortSetT (T := g.r.T) hu hc hg hm hg2 hm2 (ha := ha) (na := na)).weak fun σ H Q ⟨ρ, c, ei, hd, q⟩ => ⟨ρ, c, ei, hd, (GoX.bind q).mono fun x c1 H1 k hd1 w v rv => by
    obtain ⟨z, ez, w2⟩ := go_opt w
    unfold sortSetT at ez
    obtain ⟨xs, e1, ez⟩ := Option.bind_eq_some_iff.mp ez
    obtain ⟨ns, e2, ez⟩ := Option.bind_eq_some_iff.mp ez
    split at ez
    · rename_i hn
      cases ez
      cases x with
      | lst ys =>
        cases e1
        obtain ⟨p, us, rfl, hq, l, rs⟩ := ri_lst rv.i
        obtain ⟨ks, rfl, h, ek⟩ := asTI_reps e2 rs
        rw [hK]
        refine ⟨p, ks, rfl, SqL.of hq, h, by rw [← List.length_map (f := (·.2)), ek]; exact hn.1, fun p hp z => ?_, fun pn ws np rw' hw => ?_⟩
        · have h1 := List.all_eq_true.mp hn.2 p.2 (ek ▸ List.mem_map.mpr ⟨p, hp, rfl⟩)
          rw [z] at h1
          cases h1
        have np : H1 pn = none := np
        refine tN_last (f := f) (ei.kp hd k) hd1 k w2 (.ref pn) _ (same_new np) ?_
        rw [if_pos rfl]
        unfold RepN
        rw [ek] at rw'
        exact ⟨pn, ws, rfl, np, upd_same, hw, rep_upd np (fun a u e z => z.elim) rw'⟩
      | _ => cases e1
    · cases ez⟩
def tLenSetT (K : PySem.W.Frag) (ta : TE) : TE := fun σ H Q => ta σ H fun x H1 => ∃ (l : Addr) (ks : List (Addr × List Int)), x = V.ref l ∧ SqL K H1 l (ks.map fun p => V.ref p.1) ∧ (∀ p ∈ ks, SqT K H1 p.1 (p.2.map V.int)) ∧ ks.length < 64 ∧ Q (.int (dedT (ks.map (·.2))).length) H1
theorem pe_lenSetT {a : Expr} {ta : TE} {p p2 q pos : Pos} (hu : X.A.units + 64 < cLine) (hc : X.calm = true) (hg : Gl X "len") (hm : X.mg "len" = none) (hg2 : Gl X "set") (hm2 : X.mg "set" = none) (ha : PE X a ta)
    (na : starEach [a] X.env = (false, eval a X.env) :: starEach [] X.env := by rfl) : PE X (.Call (.Name "len" p) [.Call (.Name "set" p2) [a] [] q] [] pos) (tLenSetT X.K ta) := by
  refine ⟨fun pins s σ H Q I h => ?_⟩
  refine PyProof.Rows.Call_ (ld_blt I hg hm PySem.boot_len ?_)
  refine PyProof.Rows.callWith_builtin1 (PyProof.Rows.args_cons ?_ rfl) rfl rfl
  refine PyProof.Rows.Call_ (ld_blt I hg2 hm2 PyProof.Rows.boot_set ?_)
  refine PyProof.Rows.callWith_type1 (PyProof.Rows.args_cons (thn (ha.run pins s σ H _ I h) fun v s1 ⟨x, H1, I1, r1, q1⟩ => PyProof.Rows.args_nil ?_) na) na rfl
  obtain ⟨l, ks, rfl, hl, hk, hf, q1⟩ := q1
  cases r1
  obtain ⟨its, rv, pl, hz⟩ := I1.list hl
  refine call_set_tups (P := X.prog) (w := X.w) ks (I1.ok.hd hc) pl.isList (by simpa using refs_of_vals rv) (fun p hp => I1.isT (hk p hp)) hf (by omega) fun h3 tk L es ep t R gt kp => ?_
  refine PyProof.Rows.args_nil ?_
  have I2 : Inv X pins σ H1 { s1 with heap := h3, toks := tk } := I1.kept kp
  obtain ⟨o, ho, hex, hd⟩ := R.ob
  have hsz : es.size = L.length := SetTR.size (s := { s1 with heap := h3, toks := tk }) R
  have hfew := R.few
  have e : L.length = (dedT (ks.map (·.2))).length := by
    rw [← List.length_map (f := (·.2)) (as := L)]
    refine dedT_len R.nd fun x => ?_
    constructor
    · intro hx
      obtain ⟨q, hq, rfl⟩ := List.mem_map.mp hx
      exact List.mem_map.mpr ⟨q, List.mem_of_mem_take (gt.sub q hq), rfl⟩
    · intro hx
      obtain ⟨q, hq, rfl⟩ := List.mem_map.mp hx
      exact gt.all q (by rw [List.take_length]; exact hq)
  exact call_len_set ho hex hd (SetTR.fits (s := { s1 with heap := h3, toks := tk }) R) (by rw [hsz]; omega) ⟨.int (dedT (ks.map (·.2))).length, H1, I2.tok _, ⟨_, by rw [hsz, e]⟩, q1⟩
theorem de_lenSetT {f : FE C} {bb : Bool} (hK : X.K = g.K) (hu : X.A.units + 64 < cLine) (hc : X.calm = true) (hg : Gl X "len") (hm : X.mg "len" = none) (hg2 : Gl X "set") (hm2 : X.mg "set" = none) (ha : PE X e (tE g bb f))
    (na : starEach [e] X.env = (false, eval e X.env) :: starEach [] X.env := by rfl) : PE X (.Call (.Name "len" p) [.Call (.Name "set" p2) [e] [] q] [] pos) (tE g true (fUn lenSetT f)) :=
  (pe_lenSetT hu hc hg hm hg2 hm2 (ha := ha) (na := na)).weak fun σ H Q ⟨ρ, c, ei, hd, q⟩ => ⟨ρ, c, ei, hd, (GoX.bind q).mono fun x c1 H1 k hd1 w v rv => by
    obtain ⟨z, ez, w2⟩ := go_opt w
    unfold lenSetT at ez
    obtain ⟨xs, e1, ez⟩ := Option.bind_eq_some_iff.mp ez
    obtain ⟨ns, e2, ez⟩ := Option.bind_eq_some_iff.mp ez
    split at ez
    · rename_i hn
      cases ez
      cases x with
      | lst ys =>
        cases e1
        obtain ⟨p, us, rfl, hq, l, rs⟩ := ri_lst rv.i
        obtain ⟨ks, rfl, h, ek⟩ := asTI_reps e2 rs
        rw [hK]
        refine ⟨p, ks, rfl, SqL.of hq, h, by rw [← List.length_map (f := (·.2)), ek]; exact hn, ?_⟩
        rw [ek]
        refine tE_last (N := false) (ei.kp hd k) hd1 w2 _ _ (Same.refl H1) ?_
        rw [if_neg Bool.false_ne_true]
        exact .inl rep_int
      | _ => cases e1
    · cases ez⟩
/-! ### dict(pairs), the keys tuples -/
def pairT : Vl → Option (NestedKey × Vl)
  | .tup [k, v] => (tkey k).map fun k => (k, v)
  | _ => none
def dfold (kx : List (NestedKey × Vl)) : List NestedKey × List Vl := kx.foldl (fun acc p => putV acc.1 acc.2 p.1 p.2) ([], [])
def dictP : List Vl → Option Vl
  | [.lst ps] => (allM pairT ps).map fun kx => if kx = [] then .dk (.k []) [] else .dk (.t (dfold kx).1) (dfold kx).2
  | _ => none
abbrev Row := Addr × NestedKey × Addr × V × Value
theorem pair_rows {pins : List (Addr × Obj)} {σ : L2.St} {H : Hp} {s : Shared} {T : Tk} {A : Addr → Prop} (I : Inv X pins σ H s) : ∀ {ps : List Vl} {kx : List (NestedKey × Vl)} {us : List V}, allM pairT ps = some kx → Reps X.K T A H ps us →
    ∃ rows : List Row, us = rows.map (fun r => V.ref r.1) ∧ (∀ r ∈ rows, PairAt s.heap r.1 (.ref r.2.2.1) r.2.2.2.2 ∧ NKV X.K H r.2.1 (.ref r.2.2.1) ∧ goodK r.2.1 = true ∧ RelV r.2.2.2.1 r.2.2.2.2) ∧ kx.map (·.1) = rows.map (·.2.1) ∧ Reps X.K T A H (kx.map (·.2)) (rows.map (·.2.2.2.1))
  | [], kx, us, e, r => by
    cases e
    unfold Reps at r
    subst r
    exact ⟨[], rfl, (fun _ h => nomatch h), rfl, Reps.nil⟩
  | x :: ps, kx, us, e, r => by
    unfold allM at e
    obtain ⟨n, e1, e⟩ := Option.bind_eq_some_iff.mp e
    obtain ⟨m, e2, rfl⟩ := Option.map_eq_some_iff.mp e
    unfold Reps at r
    obtain ⟨v, vs, rfl, r1, r2⟩ := r
    obtain ⟨rows, rfl, h, ek, rr⟩ := pair_rows I e2 r2
    unfold pairT at e1
    split at e1
    · rename_i k y
      obtain ⟨kk, e3, rfl⟩ := Option.map_eq_some_iff.mp e1
      unfold Rep at r1
      obtain ⟨p, ws, rfl, sq, l, rs⟩ := r1
      unfold Reps at rs
      obtain ⟨vk, r3, rfl, rk, rs⟩ := rs
      unfold Reps at rs
      obtain ⟨vy, r4, rfl, ry, rs⟩ := rs
      unfold Reps at rs
      subst rs
      obtain ⟨b, rfl, nk, gk⟩ := tkey_rep e3 (T := T) (B := A) (A := A) (by
        have := rk
        cases k <;> first | (unfold tkey at e3; cases e3; done) | (unfold RepI; exact this))
      obtain ⟨its, rv, pl, hz⟩ := I.tuple sq
      cases rv with
      | cons r5 rv =>
        cases rv with
        | cons r6 rv =>
          cases rv
          cases r5
          rename_i vb
          refine ⟨(p, kk, b, vy, vb) :: rows, rfl, fun q hq => ?_, by rw [List.map_cons, List.map_cons, ek], Reps.cons ry rr⟩
          rcases List.mem_cons.mp hq with rfl | hq
          · exact ⟨.inl pl, nk, gk, r6⟩
          · exact h q hq
    · cases e1
def foldV (rows : List Row) (acc : KTs) : KTs := rows.foldl (fun acc r => putT acc r.2.1 r.2.2.1 r.2.2.2.1) acc
theorem foldV_rel : ∀ {rows : List Row} {acc : KTs} {xs : List (NestedKey × Addr × Value)}, (∀ r ∈ rows, RelV r.2.2.2.1 r.2.2.2.2) → PT2 acc xs → PT2 (foldV rows acc) (storedAllH xs (rows.map fun r => (r.2.1, r.2.2.1, r.2.2.2.2)))
  | [], _, _, _, r => r
  | q :: rows, _, _, h, r => foldV_rel (rows := rows) (fun x hx => h x (List.mem_cons_of_mem _ hx)) (PT2.put (h q List.mem_cons_self) r)
theorem foldV_good {p : NestedKey → Addr → Prop} : ∀ {rows : List Row} {acc : KTs}, (∀ r ∈ rows, p r.2.1 r.2.2.1) → (∀ x ∈ acc, p x.1 x.2.1) → ∀ x ∈ foldV rows acc, p x.1 x.2.1
  | [], _, _, h => h
  | q :: rows, acc, h, h2 => foldV_good (rows := rows) (acc := putT acc q.2.1 q.2.2.1 q.2.2.2.1) (fun x hx => h x (List.mem_cons_of_mem _ hx)) fun x hx => by
    rcases putT_mem hx with ⟨y, hy, e1, e2⟩ | ⟨e1, e2⟩
    · rw [← e1, ← e2]; exact h2 y hy
    · rw [e1, e2]; exact h q List.mem_cons_self
theorem foldV_nodup : ∀ {rows : List Row} {acc : KTs}, (acc.map (·.1)).Nodup → ((foldV rows acc).map (·.1)).Nodup
  | [], _, h => h
  | q :: rows, acc, h => foldV_nodup (rows := rows) (acc := putT acc q.2.1 q.2.2.1 q.2.2.2.1) (putT_nodup h)
theorem foldV_len : ∀ {rows : List Row} {acc : KTs}, (foldV rows acc).length ≤ acc.length + rows.length
  | [], _ => Nat.le_refl _
  | q :: rows, acc => Nat.le_trans (foldV_len (rows := rows) (acc := putT acc q.2.1 q.2.2.1 q.2.2.2.1)) (by have := putT_len acc q.2.1 q.2.2.1 q.2.2.2.1; rw [List.length_cons]; omega)
theorem putV_fst {κ α : Type} [DecidableEq κ] (ks : List κ) (xs : List α) (k : κ) (y : α) : (putV ks xs k y).1 = if (ks.any fun j => decide (j = k)) = true then ks else ks ++ [k] := by
  unfold putV
  split <;> rfl
theorem foldV_rep {K : PySem.W.Frag} {T : Tk} {A : Addr → Prop} {H : Hp} : ∀ {rows : List Row} {kx : List (NestedKey × Vl)} {acc : KTs} {ks : List NestedKey} {xs : List Vl}, kx.map (·.1) = rows.map (·.2.1) → Reps K T A H (kx.map (·.2)) (rows.map (·.2.2.2.1)) → acc.map (·.1) = ks → Reps K T A H xs (acc.map (·.2.2)) →
    (foldV rows acc).map (·.1) = (kx.foldl (fun acc p => putV acc.1 acc.2 p.1 p.2) (ks, xs)).1 ∧ Reps K T A H (kx.foldl (fun acc p => putV acc.1 acc.2 p.1 p.2) (ks, xs)).2 ((foldV rows acc).map (·.2.2))
  | [], [], acc, ks, xs, _, _, h1, h2 => ⟨h1, h2⟩
  | [], _ :: _, _, _, _, h, _, _, _ => by cases h
  | _ :: _, [], _, _, _, h, _, _, _ => by cases h
  | q :: rows, p :: kx, acc, ks, xs, h, hr, h1, h2 => by
    rw [List.map_cons, List.map_cons] at h hr
    injection h with e1 e2
    unfold Reps at hr
    obtain ⟨v, vs, e3, r1, r2⟩ := hr
    injection e3 with e3 e4
    subst e3 e4
    have hk := putT_keyV acc q.2.1 q.2.2.1 q.2.2.2.1
    have hv := putT_vals acc q.2.1 q.2.2.1 q.2.2.2.1
    have pv := reps_putV (acc.map (·.1)) q.2.1 r1 h2
    have f1 : (putT acc q.2.1 q.2.2.1 q.2.2.2.1).map (·.1) = (putV ks xs p.1 p.2).1 := by
      rw [hk, h1, putV_fst, putV_fst, e1]
    have f2 : Reps K T A H (putV ks xs p.1 p.2).2 ((putT acc q.2.1 q.2.2.1 q.2.2.2.1).map (·.2.2)) := by
      rw [hv, ← h1, e1]
      exact pv
    exact foldV_rep (rows := rows) (kx := kx) (acc := putT acc q.2.1 q.2.2.1 q.2.2.2.1) (ks := (putV ks xs p.1 p.2).1) (xs := (putV ks xs p.1 p.2).2) e2 r2 f1 f2
section
variable {X : Cx}
theorem call_dictP (hc : X.calm = true) (hu : X.A.units + 64 < cLine) : CallP true X (.type "dict") dictP := by
  intro T pins s σ H vs us Q I r h
  obtain ⟨xs, B, A, z, rx, e, q⟩ := h
  unfold dictP at e
  split at e
  case h_2 => cases e
  rename_i ps
  obtain ⟨kx, e1, rfl⟩ := Option.map_eq_some_iff.mp e
  obtain ⟨v, rfl, rx2⟩ := is_one rx
  obtain ⟨l, ws, rfl, hq, hl, rs⟩ := ri_lst rx2
  obtain ⟨u, eu, ru⟩ := vals1 r
  subst eu
  cases ru
  obtain ⟨rows, rfl, hr, ek, rr⟩ := pair_rows I e1 rs
  obtain ⟨its, rv, ⟨o, n, ho, ho2, ho3, ho4⟩, hz⟩ := I.list (SqL.of hq)
  have eits : its = rows.map fun r => Value.ref r.1 := by
    have : ∀ (rows : List Row) (its : List Value), Vals (rows.map fun r => V.ref r.1) its → its = rows.map fun r => Value.ref r.1 := fun rows => by
      induction rows with
      | nil => intro its r; cases r; rfl
      | cons x rows ih => intro its r; cases r with | cons a b => cases a; rw [ih _ b]; rfl
    exact this rows its rv
  have lr : rows.length ≤ sizeLine := by rw [List.length_map] at hz; exact hz
  have P := PairArg.list (prog := X.prog) (w := X.w) l its.toArray (fun j => (rows.map (·.1)).getD j 0) (rows.map fun r => (Value.ref r.2.2.1, r.2.2.2.2))
  refine call_dict_pairsH (knd := nestedKind X.prog X.w) (ps := rows.map fun r => (r.2.1, r.2.2.1, r.2.2.2.2)) P (I.ok.hd hc) (by show X.A.units + 1 + 1 + 8 < cLine; omega) ⟨⟨o, n, ho, ho2, ho3, ho4⟩, by rw [eits]; simp, fun j k v hj => ?_⟩ ⟨by simp, fun i k v hi => ?_⟩ (fun h' hk x hx => ?_) (by rw [List.length_map]; exact lr) fun h' tk hd' hk => ?_
  · rw [List.getElem?_map] at hj
    obtain ⟨row, h1, h2⟩ := Option.map_eq_some_iff.mp hj
    injection h2 with h2 h3
    subst h2 h3
    have hg : (rows.map (·.1)).getD j 0 = row.1 := by rw [List.getD_eq_getElem?_getD, List.getElem?_map, h1]; rfl
    dsimp only
    rw [hg, eits]
    exact ⟨by simp [h1], (hr row (List.mem_of_getElem? h1)).1⟩
  · have hi : (rows.map fun r => (Value.ref r.2.2.1, r.2.2.2.2))[i]? = some (k, v) := hi
    rw [List.getElem?_map] at hi
    obtain ⟨row, h1, h2⟩ := Option.map_eq_some_iff.mp hi
    injection h2 with h2 h3
    subst h2 h3
    exact ⟨row.2.1, row.2.2.1, by rw [List.getElem?_map, h1]; rfl, rfl⟩
  · obtain ⟨row, h1, rfl⟩ := List.mem_map.mp hx
    have h2 := hr row h1
    exact key_nk (s := { s with heap := h', toks := s.toks }) (I.kept fun b o e => hk b o (Nat.ne_of_lt (Heap.lt_size e)) (fun z => nomatch z) e) h2.2.1 h2.2.2.1
  · have hn : H s.heap.objs.size = none := I.hok.fresh (Nat.le_refl _)
    have rel := foldV_rel (rows := rows) (acc := []) (xs := []) (fun r h => (hr r h).2.2.2) .nil
    have good := foldV_good (p := fun k b => NKV X.K H k (.ref b) ∧ goodK k = true) (rows := rows) (acc := []) (fun r h => ⟨(hr r h).2.1, (hr r h).2.2.1⟩) (fun x h => nomatch h)
    have ⟨fk, fv⟩ := foldV_rep (rows := rows) (kx := kx) (acc := []) (ks := []) (xs := []) ek rr rfl Reps.nil
    have nd := foldV_nodup (rows := rows) (acc := []) List.nodup_nil
    have len := foldV_len (rows := rows) (acc := [])
    have k2 : ∀ b o, s.heap.get? b = some o → h'.get? b = some o := fun b o e => hk b o (fun z => nomatch z) e
    have hs0 : (s.heap.objs.size == sysModules) = false := beq_eq_false_iff_ne.mpr (Ne.symm (Nat.ne_of_lt I.big))
    have ok : ObjOk X.prog X.w (upd H s.heap.objs.size (NkO s.heap.objs.size (foldV rows []))) h' s.heap.objs.size (NkO s.heap.objs.size (foldV rows [])) := nk_ok rel (fun x hx => (good x hx).2) hs0 nd hd'
    have ll : (foldV rows []).length ≤ sizeLine := Nat.le_trans len (by simpa using lr)
    by_cases h0 : kx = []
    · have h1 : rows = [] := by
        rw [h0] at ek
        exact List.map_eq_nil_iff.mp ek.symm
      subst h1
      rw [if_pos h0] at q
      have ok0 : ObjOk X.prog X.w (upd H s.heap.objs.size (.dK [])) h' s.heap.objs.size (.dK []) := by
        obtain ⟨o, es, ep, a1, a2, a3, a4, a5, a6⟩ := hd'
        have a4 : es.toList = [] := a4
        refine ⟨Nat.zero_le _, hs0, [], .nil, o, es, ep, a1, a2, a3, ?_, by rw [a4]; exact .nil, List.nodup_nil⟩
        have : es = #[] := Array.toList_inj.mp a4
        subst this
        exact fun e he => by simp at he
      refine ⟨.ref s.heap.objs.size, _, I.laid (t' := tk) k2 (Nat.le_refl _) ok0, rfl, q _ _ (same_new hn) ?_⟩
      rw [if_pos rfl]
      unfold RepN
      exact ⟨s.heap.objs.size, .k [], rfl, hn, upd_same, Nat.zero_le _, ⟨rfl, trivial⟩, Reps.nil⟩
    rw [if_neg h0] at q
    refine ⟨.ref s.heap.objs.size, _, I.laid (t' := tk) k2 (Nat.le_refl _) ok, rfl, q _ _ (same_new hn) ?_⟩
    rw [if_pos rfl]
    unfold RepN
    have mv : ∀ a u, H a = some u → (upd H s.heap.objs.size (NkO s.heap.objs.size (foldV rows []))) a = some u := fun a u e => by rw [upd_ne (ne_of_none e hn)]; exact e
    refine ⟨s.heap.objs.size, .t s.heap.objs.size (foldV rows []), rfl, hn, upd_same, by show ((foldV rows []).map (·.2.2)).length ≤ sizeLine; rw [List.length_map]; exact ll, ⟨?_, rfl, fun x hx => ⟨NKV.move (fun a u e _ => mv a u e) _ _ (good x hx).1, (good x hx).2⟩⟩, ?_⟩
    · show DKeys.t ((foldV rows []).map (·.1)) = _
      rw [fk]
      rfl
    · exact rep_upd hn (fun a u e z => ⟨z, ne_of_none e hn⟩) fv
end
end
end PyA
/-! PyNa: plain functions on typed values under a mirror: what refines what (RefG), names by slot (Kn), the rules. -/
namespace PyA
open PySem L2
section
variable {C α β γ τ σ τ1 τ2 τ3 τ4 : Type}
/-- m runs as n says, its answers under G; where n is bad nothing is said -/
def RefG (G : α → τ → Prop) (m : M C α) (n : M C τ) : Prop := ∀ c, match n c with
  | .ok p => ∃ a, m c = .ok (a, p.2) ∧ G a p.1
  | .ex k => m c = .ex k
  | .bad => True
theorem RefG.ret {G : α → τ → Prop} {a : α} {x : τ} (h : G a x) : RefG (C := C) G (ret a) (ret x) := fun c => ⟨a, rfl, h⟩
theorem RefG.badR {G : α → τ → Prop} {m : M C α} : RefG G m bad := fun _ => trivial
theorem RefG.bnd {G : α → τ → Prop} {G' : β → σ → Prop} {m : M C α} {n : M C τ} {k : α → M C β} {k' : τ → M C σ} (h : RefG G m n) (hk : ∀ a x, G a x → RefG G' (k a) (k' x)) : RefG G' (bnd m k) (bnd n k') := fun c => by
  have h := h c
  unfold PyA.bnd
  cases e : n c with
  | ok p =>
    rw [e] at h
    obtain ⟨a, e1, g⟩ := h
    rw [e1]
    exact hk a p.1 g p.2
  | ex n => rw [e] at h; dsimp only at h ⊢; rw [h]
  | bad => trivial
theorem RefG.opt {G : α → τ → Prop} {o : Option α} {p : Option τ} (h : ∀ x, p = some x → ∃ a, o = some a ∧ G a x) : RefG (C := C) G (opt o) (opt p) := fun c => by
  cases p with
  | none => exact trivial
  | some x =>
    obtain ⟨a, e, g⟩ := h x rfl
    subst e
    exact ⟨a, rfl, g⟩
theorem RefG.mono {G G' : α → τ → Prop} {m : M C α} {n : M C τ} (h : RefG G m n) (k : ∀ a x, G a x → G' a x) : RefG G' m n := fun c => by
  have h := h c
  cases e : n c with
  | ok p => rw [e] at h; obtain ⟨a, e1, g⟩ := h; exact ⟨a, e1, k _ _ g⟩
  | ex n => rw [e] at h; exact h
  | bad => trivial
theorem RefG.noEx {G : α → τ → Prop} {m : M C α} {n : M C τ} (h : RefG G m n) : RefG G (noEx m) (noEx n) := fun c => by
  have h := h c
  unfold PyA.noEx
  cases e : n c with
  | ok p => rw [e] at h; obtain ⟨a, e1, g⟩ := h; exact ⟨a, by rw [e1], g⟩
  | ex n => trivial
  | bad => trivial
theorem RefG.lif {G : α → τ → Prop} {m : M Unit α} {n : M Unit τ} (h : RefG G m n) : RefG (C := C) G (lif m) (lif n) := fun c => by
  have h := h ()
  unfold PyA.lif
  cases e : n () with
  | ok p => rw [e] at h; obtain ⟨a, e1, g⟩ := h; exact ⟨a, by rw [e1], g⟩
  | ex n => rw [e] at h; dsimp only at h ⊢; rw [h]
  | bad => trivial
theorem RefG.eqL {G : α → τ → Prop} {m m' : M C α} {n : M C τ} (e : m = m') (h : RefG G m' n) : RefG G m n := e ▸ h
theorem RefG.eqR {G : α → τ → Prop} {m : M C α} {n n' : M C τ} (e : n = n') (h : RefG G m n') : RefG G m n := e ▸ h
theorem RefG.ite {G : α → τ → Prop} {p : Prop} [Decidable p] {m : M C α} {a b : M C τ} (ha : p → RefG G m a) (hb : ¬ p → RefG G m b) : RefG G m (if p then a else b) := by
  split
  · exact ha ‹_›
  · exact hb ‹_›
/-- an answer that an expression gives -/
def Em (e : τ → Vl) : Vl → τ → Prop := fun v x => v = e x
def Eml (e : τ → Vl) : List Vl → List τ → Prop := fun vs xs => vs = xs.map e
theorem RefG.val {e : τ → Vl} {m : M C Vl} {n : M C τ} {x : τ} (h : RefG (Em e) m n) (hn : n = PyA.ret x) : m = PyA.ret (e x) := by
  subst hn
  funext c
  obtain ⟨a, e1, g⟩ := h c
  rw [e1, g]
  rfl
theorem RefG.tot {e : τ → Vl} {m : M C Vl} {n : M C τ} {c : C} {Φ : Vl → C → Prop} (h : RefG (Em e) m n) (hn : Tot n c fun x c' => Φ (e x) c') : Tot m c Φ := by
  obtain ⟨x, c', e1, q⟩ := hn
  have h := h c
  rw [e1] at h
  obtain ⟨a, e2, g⟩ := h
  exact ⟨a, c', e2, g ▸ q⟩
/-- one step of a run: what is asked first is plain (B0), or runs by itself (B1) -/
theorem B0 {G : β → σ → Prop} {m : M C α} {a : α} {k : α → M C β} {n : M C σ} (h : m = PyA.ret a) (hk : RefG G (k a) n) : RefG G (bnd m k) n := by
  subst h
  exact hk
theorem B1 {e : τ → Vl} {G : β → σ → Prop} {m : M C Vl} {n : M C τ} {k : Vl → M C β} {k' : τ → M C σ} (h : RefG (Em e) m n) (hk : ∀ x, RefG G (k (e x)) (k' x)) : RefG G (PyA.bnd m k) (PyA.bnd n k') := h.bnd fun a x g => by
  rw [show a = e x from g]
  exact hk x
theorem B1q {G : β → σ → Prop} {m : M C α} {n : M C α} {k : α → M C β} {k' : α → M C σ} (h : RefG Eq m n) (hk : ∀ x, RefG G (k x) (k' x)) : RefG G (PyA.bnd m k) (PyA.bnd n k') := h.bnd fun a x g => by
  subst g
  exact hk a
theorem B1l {e : τ → Vl} {G : β → σ → Prop} {m : M C (List Vl)} {n : M C (List τ)} {k : List Vl → M C β} {k' : List τ → M C σ} (h : RefG (Eml e) m n) (hk : ∀ x, RefG G (k (x.map e)) (k' x)) : RefG G (PyA.bnd m k) (PyA.bnd n k') := h.bnd fun a x g => by
  rw [show a = x.map e from g]
  exact hk x
theorem Bo {G : β → σ → Prop} {o : Option α} {a : α} {k : α → M C β} {n : M C σ} (h : o = some a) (hk : RefG G (k a) n) : RefG G (PyA.bnd (PyA.opt o) k) n := by
  subst h
  exact hk
theorem RefG.pure {G : α → τ → Prop} {m : M C α} {a : α} {x : τ} (h : m = PyA.ret a) (g : G a x) : RefG G m (PyA.ret x) := by
  subst h
  exact RefG.ret g
theorem RefG.of {e : τ → Vl} {m : M C Vl} {x : τ} (h : m = PyA.ret (e x)) : RefG (Em e) m (PyA.ret x) := RefG.pure h rfl
theorem RefG.ofl {e : τ → Vl} {m : M C (List Vl)} {x : List τ} (h : m = PyA.ret (x.map e)) : RefG (Eml e) m (PyA.ret x) := RefG.pure h rfl
/-! ### what stands for typed values -/
abbrev eLs (e : τ → Vl) (xs : List τ) : Vl := .lst (xs.map e)
abbrev eVt (e : τ → Vl) (xs : List τ) : Vl := .tup (xs.map e)
abbrev eT1 (e1 : τ1 → Vl) (p : τ1) : Vl := .tup [e1 p]
abbrev eT2 (e1 : τ1 → Vl) (e2 : τ2 → Vl) (p : τ1 × τ2) : Vl := .tup [e1 p.1, e2 p.2]
abbrev eT3 (e1 : τ1 → Vl) (e2 : τ2 → Vl) (e3 : τ3 → Vl) (p : τ1 × τ2 × τ3) : Vl := .tup [e1 p.1, e2 p.2.1, e3 p.2.2]
abbrev eT4 (e1 : τ1 → Vl) (e2 : τ2 → Vl) (e3 : τ3 → Vl) (e4 : τ4 → Vl) (p : τ1 × τ2 × τ3 × τ4) : Vl := .tup [e1 p.1, e2 p.2.1, e3 p.2.2.1, e4 p.2.2.2]
def eO (e : τ → Vl) : Option τ → Vl
  | none => .non
  | some x => e x
abbrev eU : Unit → Vl := fun _ => .non
abbrev eX : Vl → Vl := fun x => x
abbrev eR : Unit → Vl := fun _ => .reg 0
/-! ### names by slot -/
def lk : List (Nat × Vl) → Nat → Option Vl
  | [], _ => none
  | (j, v) :: r, i => if j = i then some v else lk r i
def Kn (N : Nat) (l : List (Nat × Vl)) (ρ : PEnv) : Prop := ρ.length = N ∧ ∀ i v, lk l i = some v → ρ[i]? = some (some v)
variable {N : Nat} {l l' : List (Nat × Vl)} {ρ : PEnv} {i : Nat} {v : Vl}
theorem Kn.look (k : Kn N l ρ) (h : lk l i = some v) : look ρ i = some v := by
  unfold PyA.look
  rw [k.2 i v h]
theorem Kn.var (k : Kn N l ρ) (h : lk l i = some v) : (fVar i ρ : M C Vl) = ret v := by
  rw [fVar_ap, k.look h]
  rfl
theorem Kn.set (k : Kn N l ρ) (hi : Nat.blt i N = true) : Kn N ((i, v) :: l) (ρ.set i (some v)) := by
  have hi : i < N := Nat.blt_eq.mp hi
  refine ⟨by rw [List.length_set]; exact k.1, fun j u h => ?_⟩
  unfold lk at h
  rw [List.getElem?_set]
  by_cases e : i = j
  · rw [if_pos e] at h
    subst e
    injection h with h
    subst h
    rw [if_pos rfl, if_pos (by rw [k.1]; exact hi)]
  · rw [if_neg e] at h
    rw [if_neg e]
    exact k.2 j u h
theorem Kn.nil (k : Kn N l ρ) : Kn N [] ρ := ⟨k.1, fun _ _ h => nomatch h⟩
theorem Kn.cons (k : Kn N l ρ) (h : lk l i = some v) (k' : Kn N l' ρ) : Kn N ((i, v) :: l') ρ := ⟨k.1, fun j u h' => by
  unfold lk at h'
  by_cases e : i = j
  · rw [if_pos e] at h'
    subst e
    injection h' with h'
    subst h'
    exact k.2 i v h
  · rw [if_neg e] at h'
    exact k'.2 j u h'⟩
def subL : List (Nat × Vl) → List (Nat × Vl) → Prop
  | _, [] => True
  | l, (i, v) :: r => lk l i = some v ∧ subL l r
theorem Kn.sub : ∀ {l' : List (Nat × Vl)}, Kn N l ρ → subL l l' → Kn N l' ρ
  | [], k, _ => k.nil
  | (i, v) :: r, k, h => k.cons h.1 (Kn.sub k h.2)
theorem wipe_len : ∀ (vs : List Nat) (ρ : PEnv), (wipeE ρ vs).length = ρ.length
  | [], _ => rfl
  | v :: vs, ρ => by rw [wipe_cons, List.length_set, wipe_len vs]
theorem wipe_get : ∀ (vs : List Nat) (ρ : PEnv) (i : Nat), vs.contains i = false → (wipeE ρ vs)[i]? = ρ[i]?
  | [], _, _, _ => rfl
  | v :: vs, ρ, i, h => by
    simp only [List.contains_cons, Bool.or_eq_false_iff] at h
    rw [wipe_cons, List.getElem?_set, wipe_get vs ρ i h.2, if_neg]
    intro e
    subst e
    simp at h
def subW (vs : List Nat) : List (Nat × Vl) → List (Nat × Vl) → Prop
  | _, [] => True
  | l, (i, v) :: r => (lk l i = some v ∧ vs.contains i = false) ∧ subW vs l r
theorem Kn.wipe (k : Kn N l ρ) (vs : List Nat) : ∀ {l' : List (Nat × Vl)}, subW vs l l' → Kn N l' (wipeE ρ vs)
  | [], _ => ⟨by rw [wipe_len]; exact k.1, fun _ _ h => nomatch h⟩
  | (i, v) :: r, h => ⟨by rw [wipe_len]; exact k.1, fun j u h' => by
    unfold lk at h'
    by_cases e : i = j
    · rw [if_pos e] at h'
      subst e
      injection h' with h'
      subst h'
      rw [wipe_get vs ρ i h.1.2]
      exact k.2 i v h.1.1
    · rw [if_neg e] at h'
      exact (Kn.wipe k vs h.2).2 j u h'⟩
theorem Kn.start {xs : List Vl} {l : List (Nat × Vl)} (hl : xs.length ≤ N) (h : ∀ i v, lk l i = some v → xs[i]? = some v) : Kn N l (startE N xs) := by
  refine ⟨?_, fun i v hi => ?_⟩
  · unfold startE
    rw [List.length_append, List.length_map, List.length_replicate]
    omega
  · have h := h i v hi
    unfold startE
    obtain ⟨h1, h2⟩ := List.getElem?_eq_some_iff.mp h
    rw [List.getElem?_append_left (by rw [List.length_map]; exact h1), List.getElem?_map, h]
    rfl
theorem lk_one {v1 : Vl} : ∀ i v, lk [(0, v1)] i = some v → [v1][i]? = some v := fun i v h => by
  unfold lk at h
  split at h
  · rename_i e; subst e; exact h
  · cases h
def lks : Nat → List Vl → List (Nat × Vl)
  | _, [] => []
  | n, v :: r => (n, v) :: lks (n + 1) r
theorem lks_get : ∀ (xs : List Vl) (n i : Nat) (v : Vl), lk (lks n xs) i = some v → n ≤ i ∧ xs[i - n]? = some v
  | [], _, _, _, h => nomatch h
  | x :: xs, n, i, v, h => by
    unfold lks lk at h
    by_cases e : n = i
    · rw [if_pos e] at h
      subst e
      rw [Nat.sub_self]
      exact ⟨Nat.le_refl _, h⟩
    · rw [if_neg e] at h
      obtain ⟨h1, h2⟩ := lks_get xs (n + 1) i v h
      refine ⟨by omega, ?_⟩
      rw [show i - n = (i - (n + 1)) + 1 by omega]
      exact h2
theorem Kn.args {xs : List Vl} (hl : Nat.ble xs.length N = true) : Kn N (lks 0 xs) (startE N xs) := Kn.start (Nat.ble_eq.mp hl) fun i v h => (lks_get xs 0 i v h).2
/-! ### statements -/
inductive Fl (σ τ : Type) where
  | nx (s : σ)
  | rt (x : τ)
  | bk (s : σ)
  | ct (s : σ)
/-- a block that goes on -/
def GP (J : σ → PEnv → Prop) : Out → σ → Prop := fun o s => ∃ ρ', o = .nx ρ' ∧ J s ρ'
/-- a block that may return, break off or go on with the loop -/
def GS (J : σ → PEnv → Prop) (e : τ → Vl) : Out → Fl σ τ → Prop := fun o f => match f with
  | .nx s => ∃ ρ', o = .nx ρ' ∧ J s ρ'
  | .rt x => o = .rt (e x)
  | .bk s => ∃ ρ', o = .bk ρ' ∧ J s ρ'
  | .ct s => ∃ ρ', o = .ct ρ' ∧ J s ρ'
/-- a block that returns (or ends the def) -/
def GR (e : τ → Vl) : Out → τ → Prop := fun o x => (defOut o : M Unit Vl) = ret (e x)
theorem def_ret {e : τ → Vl} {o : Out} {x : τ} (h : GR e o x) : (defOut o : M C Vl) = ret (e x) := by
  cases o with
  | nx ρ => have h : (ret Vl.non : M Unit Vl) = ret (e x) := h; have h := congrFun h (); injection h with h; injection h with h; show ret _ = _; rw [h]
  | rt v => have h : (ret v : M Unit Vl) = ret (e x) := h; have h := congrFun h (); injection h with h; injection h with h; show ret _ = _; rw [h]
  | bk ρ => have h := congrFun h (); cases h
  | ct ρ => have h := congrFun h (); cases h
theorem ref_fn {b : FS C} {xs : List Vl} {e : τ → Vl} {n : M C τ} (h : RefG (GR e) (b (startE N xs)) n) : RefG (Em e) (mkF N b xs) n := fun c => by
  have h := h c
  rw [mkF_ap]
  unfold PyA.bnd
  cases e1 : n c with
  | ok p =>
    rw [e1] at h
    obtain ⟨a, e2, g⟩ := h
    refine ⟨e p.1, ?_, rfl⟩
    rw [e2]
    show defOut a p.2 = _
    rw [def_ret g]
    rfl
  | ex k => rw [e1] at h; dsimp only at h ⊢; rw [h]
  | bad => trivial
theorem seq_assoc (a b c : FS C) (ρ : PEnv) : sSeq (sSeq a b) c ρ = sSeq a (sSeq b c) ρ := by
  rw [sSeq_ap, sSeq_ap, sSeq_ap, bnd_assoc]
  congr 1
  funext o
  cases o <;> rfl
theorem seq_nil (a : FS C) (ρ : PEnv) : sSeq a sNil ρ = a ρ := by
  rw [sSeq_ap]
  unfold bnd
  funext c
  cases e : a ρ c with
  | ok p => obtain ⟨o, c'⟩ := p; cases o <;> rfl
  | ex n => rfl
  | bad => rfl
variable {G : Out → τ → Prop} {n : M C τ} {a b s1 s2 : FS C} {f : FE C} {x : Vl} {t : FT C} {k : Bool} {bd : Bnd}
theorem u_assoc {c : FS C} (h : RefG G (sSeq a (sSeq b c) ρ) n) : RefG G (sSeq (sSeq a b) c ρ) n := seq_assoc a b c ρ ▸ h
theorem u_last (h : RefG G (sSeq a sNil ρ) n) : RefG G (a ρ) n := seq_nil a ρ ▸ h
theorem u_nil (h : RefG G (b ρ) n) : RefG G (sSeq sNil b ρ) n := h
theorem u_ret {e : τ → Vl} (h : RefG (Em e) (f ρ) n) : RefG (GR e) (sSeq (sRet f) b ρ) n := fun c => by
  have h := h c
  unfold sSeq sRet PyA.bnd
  cases e1 : n c with
  | ok p =>
    rw [e1] at h
    obtain ⟨a, e2, g⟩ := h
    rw [e2]
    exact ⟨.rt a, rfl, by rw [g]; rfl⟩
  | ex k => rw [e1] at h; dsimp only at h ⊢; rw [h]
  | bad => trivial
theorem u_retN : RefG (GR (eU : Unit → Vl)) (sSeq (sRetN : FS C) b ρ) (ret ()) := RefG.ret rfl
theorem u_retNO {e : τ → Vl} : RefG (GR (eO e)) (sSeq (sRetN : FS C) b ρ) (ret none) := RefG.ret rfl
theorem u_end : RefG (GR (eU : Unit → Vl)) ((sNil : FS C) ρ) (ret ()) := RefG.ret rfl
theorem u_endO {e : τ → Vl} : RefG (GR (eO e)) ((sNil : FS C) ρ) (ret none) := RefG.ret rfl
def rais (n : Str) : M C τ := fun _ => .ex n
theorem u_raise {nm : Str} : RefG G (sSeq (sRaise nm : FS C) b ρ) (rais nm) := fun _ => rfl
theorem u_bad : RefG G (a ρ) bad := fun _ => trivial
/-- one name stored -/
theorem u_set0 (h : f ρ = ret x) (hk : RefG G (b (ρ.set i (some x))) n) : RefG G (sSeq (sSet i f) b ρ) n := by
  rw [sSeq_ap, sSet_ap, h]
  exact hk
theorem u_set1 {e : σ → Vl} {m : M C σ} {k : σ → M C τ} (h : RefG (Em e) (f ρ) m) (hk : ∀ x, RefG G (b (ρ.set i (some (e x)))) (k x)) : RefG G (sSeq (sSet i f) b ρ) (bnd m k) := by
  rw [sSeq_ap, sSet_ap, bb]
  exact B1 h hk
theorem u_bind0 {ρ' : PEnv} (h : f ρ = ret x) (h2 : bd x ρ = some ρ') (hk : RefG G (b ρ') n) : RefG G (sSeq (sBind bd f) b ρ) n := by
  rw [sSeq_ap, sBind_ap, h, r_bnd, h2]
  exact hk
theorem u_bind1 {e : σ → Vl} {m : M C σ} {k : σ → M C τ} {ρ' : σ → PEnv} (h : RefG (Em e) (f ρ) m) (h2 : ∀ x, bd (e x) ρ = some (ρ' x)) (hk : ∀ x, RefG G (b (ρ' x)) (k x)) : RefG G (sSeq (sBind bd f) b ρ) (bnd m k) := by
  rw [sSeq_ap, sBind_ap, bb]
  refine B1 h fun x => ?_
  rw [h2]
  exact hk x
theorem u_drop0 (h : f ρ = ret x) (hk : RefG G (b ρ) n) : RefG G (sSeq (sDrop f) b ρ) n := by
  rw [sSeq_ap, sDrop_ap, h]
  exact hk
theorem u_drop1 {e : σ → Vl} {m : M C σ} {k : σ → M C τ} (h : RefG (Em e) (f ρ) m) (hk : ∀ x, RefG G (b ρ) (k x)) : RefG G (sSeq (sDrop f) b ρ) (bnd m k) := by
  rw [sSeq_ap, sDrop_ap, bb]
  exact B1 h hk
/-- if: both ways go on with what is left -/
theorem u_if0 {na nb : M C τ} (h : t ρ = ret k) (ha : k = true → RefG G (sSeq s1 b ρ) na) (hb : k = false → RefG G (sSeq s2 b ρ) nb) : RefG G (sSeq (sIf t s1 s2) b ρ) (if k = true then na else nb) := by
  rw [sSeq_ap, sIf_ap, h, r_bnd]
  cases k with
  | true => exact ha rfl
  | false => exact hb rfl
theorem u_if1 {m : M C Bool} {na nb : M C τ} (h : RefG Eq (t ρ) m) (ha : RefG G (sSeq s1 b ρ) na) (hb : RefG G (sSeq s2 b ρ) nb) : RefG G (sSeq (sIf t s1 s2) b ρ) (bnd m fun k => if k = true then na else nb) := by
  rw [sSeq_ap, sIf_ap, bb]
  refine B1q h fun k => ?_
  cases k with
  | true => exact ha
  | false => exact hb
/-- if: both ways come together -/
theorem u_join {J : σ → PEnv → Prop} {m : M C σ} {k : σ → M C τ} (h : RefG (GP J) (a ρ) m) (hk : ∀ s ρ', J s ρ' → RefG G (b ρ') (k s)) : RefG G (sSeq a b ρ) (bnd m k) := h.bnd fun o s ⟨ρ', e, j⟩ => by
  subst e
  exact hk s ρ' j
theorem p_if0 {J : σ → PEnv → Prop} {na nb : M C σ} (h : t ρ = ret k) (ha : k = true → RefG (GP J) (s1 ρ) na) (hb : k = false → RefG (GP J) (s2 ρ) nb) : RefG (GP J) (sIf t s1 s2 ρ) (if k = true then na else nb) := by
  rw [sIf_ap, h, r_bnd]
  cases k with
  | true => exact ha rfl
  | false => exact hb rfl
theorem p_if1 {J : σ → PEnv → Prop} {m : M C Bool} {na nb : M C σ} (h : RefG Eq (t ρ) m) (ha : RefG (GP J) (s1 ρ) na) (hb : RefG (GP J) (s2 ρ) nb) : RefG (GP J) (sIf t s1 s2 ρ) (bnd m fun k => if k = true then na else nb) := by
  rw [sIf_ap]
  refine B1q h fun k => ?_
  cases k with
  | true => exact ha
  | false => exact hb
theorem p_end {J : σ → PEnv → Prop} {s : σ} (h : J s ρ) : RefG (GP J) ((sNil : FS C) ρ) (ret s) := RefG.ret ⟨ρ, rfl, h⟩
/-! flow -/
theorem f_end {J : σ → PEnv → Prop} {e : τ → Vl} {s : σ} (h : J s ρ) : RefG (GS J e) ((sNil : FS C) ρ) (ret (.nx s)) := RefG.ret ⟨ρ, rfl, h⟩
theorem f_ret0 {J : σ → PEnv → Prop} {e : τ → Vl} {y : τ} (h : f ρ = ret (e y)) : RefG (GS J e) (sSeq (sRet f) b ρ) (ret (.rt y)) := by
  rw [sSeq_ap, sRet_ap, h]
  exact RefG.ret (a := Out.rt (e y)) rfl
theorem f_ret1 {J : σ → PEnv → Prop} {e : τ → Vl} {m : M C τ} (h : RefG (Em e) (f ρ) m) : RefG (GS J e) (sSeq (sRet f) b ρ) (bnd m fun y => ret (.rt y)) := by
  rw [sSeq_ap, sRet_ap, bb]
  exact B1 h fun y => RefG.ret rfl
theorem f_retN {J : σ → PEnv → Prop} {e : τ → Vl} : RefG (GS J (eO e)) (sSeq (sRetN : FS C) b ρ) (ret (.rt none)) := RefG.ret rfl
theorem f_break {J : σ → PEnv → Prop} {e : τ → Vl} {s : σ} (h : J s ρ) : RefG (GS J e) (sSeq (sBreak : FS C) b ρ) (ret (.bk s)) := RefG.ret ⟨ρ, rfl, h⟩
theorem f_cont {J : σ → PEnv → Prop} {e : τ → Vl} {s : σ} (h : J s ρ) : RefG (GS J e) (sSeq (sCont : FS C) b ρ) (ret (.ct s)) := RefG.ret ⟨ρ, rfl, h⟩
end
/-! ### loops -/
section
variable {C σ τ υ : Type}
def foldN (step : σ → υ → M C σ) : List υ → σ → M C σ
  | [], s => ret s
  | x :: r, s => bnd (step s x) fun s' => foldN step r s'
def loopN (step : σ → υ → M C (Fl σ τ)) : List υ → σ → M C (Fl σ τ)
  | [], s => ret (.nx s)
  | x :: r, s => bnd (step s x) fun
    | .nx s' => loopN step r s'
    | .ct s' => loopN step r s'
    | .bk s' => ret (.nx s')
    | .rt y => ret (.rt y)
def whileN (t : σ → M C Bool) (step : σ → M C σ) : Nat → σ → M C σ
  | 0, _ => bad
  | n + 1, s => bnd (t s) fun k => if k = true then bnd (step s) fun s' => whileN t step n s' else ret s
def wloopN (t : σ → M C Bool) (step : σ → M C (Fl σ τ)) : Nat → σ → M C (Fl σ τ)
  | 0, _ => bad
  | n + 1, s => bnd (t s) fun k => if k = true then bnd (step s) (fun
    | .nx s' => wloopN t step n s'
    | .ct s' => wloopN t step n s'
    | .bk s' => ret (.nx s')
    | .rt y => ret (.rt y)) else ret (.nx s)
/-- behind a loop that may return -/
def thenN {ω : Type} (k : σ → M C ω) (r : τ → M C ω) : Fl σ τ → M C ω
  | .nx s => k s
  | .rt y => r y
  | _ => bad
variable {J : σ → PEnv → Prop} {e : τ → Vl} {ex : υ → Vl} {bd : Bnd} {body : FS C} {ρ : PEnv}
theorem l_for {it : PEnv → M C (List Vl)} {xs : M C (List υ)} {step : σ → υ → M C σ} {s0 : σ} (hi : RefG (Eml ex) (it ρ) xs) (h0 : J s0 ρ) (hs : ∀ s x ρ, J s ρ → ∃ ρ1, bd (ex x) ρ = some ρ1 ∧ RefG (GP J) (body ρ1) (step s x)) :
    RefG (GP J) (sFor it bd body ρ) (bnd xs fun xs => foldN step xs s0) := by
  rw [sFor_ap]
  refine B1l hi fun xs => ?_
  clear hi
  induction xs generalizing s0 ρ with
  | nil => exact RefG.ret ⟨ρ, rfl, h0⟩
  | cons x r ih =>
    obtain ⟨ρ1, e1, h1⟩ := hs s0 x ρ h0
    rw [List.map_cons, forL_cons, e1, o_some, r_bnd]
    refine h1.bnd fun o s ⟨ρ', eo, j⟩ => ?_
    subst eo
    exact ih j
theorem l_forF {it : PEnv → M C (List Vl)} {xs : M C (List υ)} {step : σ → υ → M C (Fl σ τ)} {s0 : σ} (hi : RefG (Eml ex) (it ρ) xs) (h0 : J s0 ρ) (hs : ∀ s x ρ, J s ρ → ∃ ρ1, bd (ex x) ρ = some ρ1 ∧ RefG (GS J e) (body ρ1) (step s x)) :
    RefG (GS J e) (sFor it bd body ρ) (bnd xs fun xs => loopN step xs s0) := by
  rw [sFor_ap]
  refine B1l hi fun xs => ?_
  clear hi
  induction xs generalizing s0 ρ with
  | nil => exact RefG.ret ⟨ρ, rfl, h0⟩
  | cons x r ih =>
    obtain ⟨ρ1, e1, h1⟩ := hs s0 x ρ h0
    rw [List.map_cons, forL_cons, e1, o_some, r_bnd]
    refine h1.bnd fun o s g => ?_
    cases s with
    | nx s => obtain ⟨ρ', eo, j⟩ := g; subst eo; exact ih j
    | ct s => obtain ⟨ρ', eo, j⟩ := g; subst eo; exact ih j
    | bk s => obtain ⟨ρ', eo, j⟩ := g; subst eo; exact RefG.ret ⟨ρ', rfl, j⟩
    | rt y => subst g; exact RefG.ret rfl
theorem l_while {t : FT C} {tn : σ → M C Bool} {step : σ → M C σ} {s0 : σ} (k : Nat) (h0 : J s0 ρ) (ht : ∀ s ρ, J s ρ → RefG Eq (t ρ) (tn s)) (hs : ∀ s ρ, J s ρ → RefG (GP J) (body ρ) (step s)) :
    RefG (GP J) (whileL t body k ρ) (whileN tn step k s0) := by
  induction k generalizing s0 ρ with
  | zero => exact fun _ => trivial
  | succ k ih =>
    refine B1q (ht s0 ρ h0) fun b => ?_
    cases b with
    | false => exact RefG.ret ⟨ρ, rfl, h0⟩
    | true =>
      rw [if_pos rfl, if_pos rfl]
      refine (hs s0 ρ h0).bnd fun o s ⟨ρ', eo, j⟩ => ?_
      subst eo
      exact ih j
theorem l_whileF {t : FT C} {tn : σ → M C Bool} {step : σ → M C (Fl σ τ)} {s0 : σ} (k : Nat) (h0 : J s0 ρ) (ht : ∀ s ρ, J s ρ → RefG Eq (t ρ) (tn s)) (hs : ∀ s ρ, J s ρ → RefG (GS J e) (body ρ) (step s)) :
    RefG (GS J e) (whileL t body k ρ) (wloopN tn step k s0) := by
  induction k generalizing s0 ρ with
  | zero => exact fun _ => trivial
  | succ k ih =>
    refine B1q (ht s0 ρ h0) fun b => ?_
    cases b with
    | false => exact RefG.ret ⟨ρ, rfl, h0⟩
    | true =>
      rw [if_pos rfl, if_pos rfl]
      refine (hs s0 ρ h0).bnd fun o s g => ?_
      cases s with
      | nx s => obtain ⟨ρ', eo, j⟩ := g; subst eo; exact ih j
      | ct s => obtain ⟨ρ', eo, j⟩ := g; subst eo; exact ih j
      | bk s => obtain ⟨ρ', eo, j⟩ := g; subst eo; exact RefG.ret ⟨ρ', rfl, j⟩
      | rt y => subst g; exact RefG.ret rfl
/-- a loop that may return, and what is left: in a def's own block, in a loop's block -/
theorem u_loop {a b : FS C} {m : M C (Fl σ τ)} {k : σ → M C τ} (h : RefG (GS J e) (a ρ) m) (hk : ∀ s ρ', J s ρ' → RefG (GR e) (b ρ') (k s)) : RefG (GR e) (sSeq a b ρ) (bnd m (thenN k ret)) := h.bnd fun o f g => by
  cases f with
  | nx s => obtain ⟨ρ', eo, j⟩ := g; subst eo; exact hk s ρ' j
  | rt y => subst g; exact RefG.ret rfl
  | bk s => exact fun _ => trivial
  | ct s => exact fun _ => trivial
theorem f_loop {σ' : Type} {J' : σ' → PEnv → Prop} {a b : FS C} {m : M C (Fl σ τ)} {k : σ → M C (Fl σ' τ)} (h : RefG (GS J e) (a ρ) m) (hk : ∀ s ρ', J s ρ' → RefG (GS J' e) (b ρ') (k s)) : RefG (GS J' e) (sSeq a b ρ) (bnd m (thenN k fun y => ret (.rt y))) := h.bnd fun o f g => by
  cases f with
  | nx s => obtain ⟨ρ', eo, j⟩ := g; subst eo; exact hk s ρ' j
  | rt y => subst g; exact RefG.ret rfl
  | bk s => exact fun _ => trivial
  | ct s => exact fun _ => trivial
end
end PyA
/-! PyNb: RefG of expressions: rules by construct, operations on typed values. -/
namespace PyA
open PySem L2
section
variable {C α β γ τ σ υ τ1 τ2 τ3 τ4 : Type} {N : Nat} {l : List (Nat × Vl)} {ρ : PEnv}
/-! ### plain ones -/
section
variable {f fa fb fc : FE C} {x y z w : Vl} {op op' : Vl → Vl → Option Vl} {t : FT C} {k k2 : Bool}
theorem x_op (ha : fa ρ = ret x) (hb : fb ρ = ret y) (h : op x y = some z) : (fOp op fa fb ρ : M C Vl) = ret z := by rw [fOp_ap, ha, r_bnd, hb, r_bnd, h]; rfl
theorem x_un {op : Vl → Option Vl} (ha : fa ρ = ret x) (h : op x = some z) : (fUn op fa ρ : M C Vl) = ret z := by rw [fUn_ap, ha, r_bnd, h]; rfl
theorem x_imm (ha : fa ρ = ret x) (h : imm x = true) : (fImm fa ρ : M C Vl) = ret x := by rw [fImm_ap, ha, r_bnd, if_pos h]
theorem x_own (ha : fa ρ = ret x) (h : ownable x = true) : (fOwn fa ρ : M C Vl) = ret x := by rw [fOwn_ap, ha, r_bnd, if_pos h]
theorem a_nil : (seqA [] ρ : M C (List Vl)) = ret [] := rfl
theorem a_cons {fs : List (FE C)} {xs : List Vl} (ha : fa ρ = ret x) (hr : seqA fs ρ = ret xs) : (seqA (fa :: fs) ρ : M C (List Vl)) = ret (x :: xs) := by rw [seqA_cons, ha, r_bnd, hr]; rfl
theorem x_tup {fs : List (FE C)} {xs : List Vl} (h : seqA fs ρ = ret xs) : (fTup fs ρ : M C Vl) = ret (.tup xs) := by rw [fTup_ap, h]; rfl
theorem x_lst {fs : List (FE C)} {xs : List Vl} (h : seqA fs ρ = ret xs) : (fLst fs ρ : M C Vl) = ret (.lst xs) := by rw [fLst_ap, h]; rfl
theorem x_blt {op : List Vl → Option Vl} {fs : List (FE C)} {xs : List Vl} (h : seqA fs ρ = ret xs) (ho : op xs = some z) : (fBlt op fs ρ : M C Vl) = ret z := by rw [fBlt_ap, h, r_bnd, ho]; rfl
theorem x_met {ty : Vl → Option Unit} {op : Vl → List Vl → Option Vl} {fs : List (FE C)} {xs : List Vl} (ha : fa ρ = ret x) (ht : ty x = some ()) (h : seqA fs ρ = ret xs) (ho : op x xs = some z) : (fMet ty op fa fs ρ : M C Vl) = ret z := by rw [fMet_ap, ha, r_bnd, ht, o_some, r_bnd, h, r_bnd, ho]; rfl
theorem x_and (ha : fa ρ = ret (.bl k)) (hb : fb ρ = ret (.bl k2)) : (fAnd fa fb ρ : M C Vl) = ret (.bl (k && k2)) := by
  rw [fAnd_ap, ha]; cases k <;> simp [hb]
theorem x_or (ha : fa ρ = ret (.bl k)) (hb : fb ρ = ret (.bl k2)) : (fOr fa fb ρ : M C Vl) = ret (.bl (k || k2)) := by
  rw [fOr_ap, ha]; cases k <;> simp [hb]
theorem x_not (ha : fa ρ = ret (.bl k)) : (fNot fa ρ : M C Vl) = ret (.bl (!k)) := by rw [fNot_ap, ha]; rfl
theorem t_B (ha : fa ρ = ret (.bl k)) : (gB fa ρ : M C Bool) = ret k := by rw [gB_ap, ha]; rfl
theorem t_and {a b : FT C} (ha : a ρ = ret k) (hb : b ρ = ret k2) : (gAnd a b ρ : M C Bool) = ret (k && k2) := by rw [gAnd_ap, ha]; cases k <;> simp [hb]
theorem t_or {a b : FT C} (ha : a ρ = ret k) (hb : b ρ = ret k2) : (gOr a b ρ : M C Bool) = ret (k || k2) := by rw [gOr_ap, ha]; cases k <;> simp [hb]
theorem t_not {a : FT C} (ha : a ρ = ret k) : (gNot a ρ : M C Bool) = ret (!k) := by rw [gNot_ap, ha]; rfl
theorem x_if {e : τ → Vl} {a b : τ} (ht : t ρ = ret k) (ha : fa ρ = ret (e a)) (hb : fb ρ = ret (e b)) : (fIf t fa fb ρ : M C Vl) = ret (e (if k = true then a else b)) := by rw [fIf_ap, ht, r_bnd]; cases k <;> simp [ha, hb]
theorem x_chain (ha : fa ρ = ret x) (hb : fb ρ = ret y) (hc : fc ρ = ret z) (h : op x y = some (.bl k)) (h2 : op' y z = some (.bl k2)) : (fChain op op' fa fb fc ρ : M C Vl) = ret (.bl (k && k2)) := by
  rw [fChain_ap, ha, r_bnd, hb, r_bnd, h]
  cases k <;> simp [hc, h2]
theorem o_nil : (oNone ρ : M C (Option Int)) = ret none := rfl
theorem o_val {i : Int} (ha : fa ρ = ret (.int i)) : (oSome fa ρ : M C (Option Int)) = ret (some i) := by rw [oSome_ap, ha]; rfl
theorem x_sl {op : Vl → Option Int → Option Int → Option Vl} {lo hi : PEnv → M C (Option Int)} {u v : Option Int} (ha : fa ρ = ret x) (hl : lo ρ = ret u) (hh : hi ρ = ret v) (h : op x u v = some z) : (fSl op fa lo hi ρ : M C Vl) = ret z := by rw [fSl_ap, ha, r_bnd, hl, r_bnd, hh, r_bnd, h]; rfl
theorem i_any {xs : List Vl} (ha : fa ρ = ret x) (h : items x = some xs) : (iAny fa ρ : M C (List Vl)) = ret xs := by rw [iAny_ap, ha, r_bnd, h]; rfl
theorem i_blt {op : List Vl → Option (List Vl)} {fs : List (FE C)} {xs ys : List Vl} (h : seqA fs ρ = ret xs) (ho : op xs = some ys) : (iBlt op fs ρ : M C (List Vl)) = ret ys := by rw [iBlt_ap, h, r_bnd, ho]; rfl
end
/-! ### ones that run by themselves: what is asked first goes first -/
section
variable {f fa fb fc : FE C} {x y z w : Vl} {op op' : Vl → Vl → Option Vl} {t : FT C} {k k2 : Bool} {G : β → σ → Prop} {n : M C σ}
/-- the end of a run -/
theorem e_fin0 {e : σ → Vl} {o : Option Vl} {z : σ} (h : o = some (e z)) : RefG (C := C) (Em e) (opt o) (ret z) := by subst h; exact RefG.ret rfl
theorem e_fin1 {e : σ → Vl} {o : Option Vl} {p : Option σ} (h : ∀ z, p = some z → o = some (e z)) : RefG (C := C) (Em e) (opt o) (opt p) := RefG.opt fun z hz => ⟨_, h z hz, rfl⟩
theorem e_fin0l {e : σ → Vl} {o : Option (List Vl)} {z : List σ} (h : o = some (z.map e)) : RefG (C := C) (Eml e) (opt o) (ret z) := by subst h; exact RefG.ret rfl
theorem e_fin1l {e : σ → Vl} {o : Option (List Vl)} {p : Option (List σ)} (h : ∀ z, p = some z → o = some (z.map e)) : RefG (C := C) (Eml e) (opt o) (opt p) := RefG.opt fun z hz => ⟨_, h z hz, rfl⟩
theorem e_fin0b {o : Option Bool} {k : Bool} (h : o = some k) : RefG (C := C) Eq (opt o) (ret k) := by subst h; exact RefG.ret rfl
theorem e_op {G : Vl → σ → Prop} (h : RefG G (bnd (fa ρ) fun x => bnd (fb ρ) fun y => opt (op x y)) n) : RefG G (fOp op fa fb ρ) n := h
theorem e_un {G : Vl → σ → Prop} {op : Vl → Option Vl} (h : RefG G (bnd (fa ρ) fun x => opt (op x)) n) : RefG G (fUn op fa ρ) n := h
theorem e_imm {e : σ → Vl} (h : RefG (Em e) (fa ρ) n) (hi : ∀ x, imm (e x) = true) : RefG (Em e) (fImm fa ρ) n := fun c => by
  have h := h c
  unfold fImm PyA.bnd
  cases e1 : n c with
  | ok p => rw [e1] at h; obtain ⟨a, e2, g⟩ := h; rw [e2]; dsimp only; rw [show a = e p.1 from g, if_pos (hi _)]; exact ⟨_, rfl, rfl⟩
  | ex n => rw [e1] at h; dsimp only at h ⊢; rw [h]
  | bad => trivial
theorem e_own {e : σ → Vl} (h : RefG (Em e) (fa ρ) n) (hi : ∀ x, ownable (e x) = true) : RefG (Em e) (fOwn fa ρ) n := fun c => by
  have h := h c
  unfold fOwn PyA.bnd
  cases e1 : n c with
  | ok p => rw [e1] at h; obtain ⟨a, e2, g⟩ := h; rw [e2]; dsimp only; rw [show a = e p.1 from g, if_pos (hi _)]; exact ⟨_, rfl, rfl⟩
  | ex n => rw [e1] at h; dsimp only at h ⊢; rw [h]
  | bad => trivial
theorem s_nil {K : List Vl → M C β} (h : RefG G (K []) n) : RefG G (bnd (seqA [] ρ) K) n := h
theorem s_cons0 {fs : List (FE C)} {K : List Vl → M C β} (ha : fa ρ = ret x) (h : RefG G (bnd (seqA fs ρ) fun xs => K (x :: xs)) n) : RefG G (bnd (seqA (fa :: fs) ρ) K) n := by
  rw [seqA_cons, ha, r_bnd, bb]
  exact h
theorem s_cons1 {e : τ → Vl} {fs : List (FE C)} {K : List Vl → M C β} {m : M C τ} {k : τ → M C σ} (ha : RefG (Em e) (fa ρ) m) (h : ∀ x, RefG G (bnd (seqA fs ρ) fun xs => K (e x :: xs)) (k x)) : RefG G (bnd (seqA (fa :: fs) ρ) K) (bnd m k) := by
  rw [seqA_cons, bb]
  refine B1 ha fun x => ?_
  rw [bb]
  exact h x
theorem e_tup {G : Vl → σ → Prop} {fs : List (FE C)} (h : RefG G (bnd (seqA fs ρ) fun xs => ret (.tup xs)) n) : RefG G (fTup fs ρ) n := h
theorem e_lst {G : Vl → σ → Prop} {fs : List (FE C)} (h : RefG G (bnd (seqA fs ρ) fun xs => ret (.lst xs)) n) : RefG G (fLst fs ρ) n := h
theorem e_blt {G : Vl → σ → Prop} {op : List Vl → Option Vl} {fs : List (FE C)} (h : RefG G (bnd (seqA fs ρ) fun xs => opt (op xs)) n) : RefG G (fBlt op fs ρ) n := h
theorem e_met {G : Vl → σ → Prop} {ty : Vl → Option Unit} {op : Vl → List Vl → Option Vl} {fs : List (FE C)} (h : RefG G (bnd (fa ρ) fun x => bnd (opt (ty x)) fun _ => bnd (seqA fs ρ) fun xs => opt (op x xs)) n) : RefG G (fMet ty op fa fs ρ) n := h
theorem e_call {G : Vl → σ → Prop} {F : List Vl → M C Vl} {fs : List (FE C)} (h : RefG G (bnd (seqA fs ρ) F) n) : RefG G (fCall F fs ρ) n := h
theorem e_callP {G : Vl → σ → Prop} {F : List Vl → M Unit Vl} {fs : List (FE C)} (h : RefG G (bnd (seqA fs ρ) fun xs => lif (F xs)) n) : RefG G (fCallP F fs ρ) n := h
theorem e_callF {G : Vl → σ → Prop} {F : List Vl → M Unit Vl} {fs : List (FE C)} (h : RefG G (bnd (seqA fs ρ) fun xs => if imms xs = true then lif (F xs) else bad) n) : RefG G (fCallF F fs ρ) n := h
theorem e_callN {G : Vl → σ → Prop} {F : List Vl → M Unit Vl} {fs : List (FE C)} (h : RefG G (bnd (seqA fs ρ) fun xs => if imms xs = true then bnd (lif (F xs)) fun z => (if ownable z = true then ret z else bad) else bad) n) : RefG G (fCallN F fs ρ) n := h
theorem e_ims {xs : List Vl} {m : M C β} (hi : imms xs = true) (h : RefG G m n) : RefG G (if imms xs = true then m else bad) n := by rw [if_pos hi]; exact h
theorem e_ownR {e : σ → Vl} {m : M C Vl} (h : RefG (Em e) m n) (hi : ∀ x, ownable (e x) = true) : RefG (Em e) (bnd m fun z => if ownable z = true then ret z else bad) n := fun c => by
  have h := h c
  unfold PyA.bnd
  cases e1 : n c with
  | ok p => rw [e1] at h; obtain ⟨a, e2, g⟩ := h; rw [e2]; dsimp only; rw [show a = e p.1 from g, if_pos (hi _)]; exact ⟨_, rfl, rfl⟩
  | ex n => rw [e1] at h; dsimp only at h ⊢; rw [h]
  | bad => trivial
theorem e_if0 {na nb : M C σ} {G : Vl → σ → Prop} (ht : t ρ = ret k) (ha : k = true → RefG G (fa ρ) na) (hb : k = false → RefG G (fb ρ) nb) : RefG G (fIf t fa fb ρ) (if k = true then na else nb) := by
  rw [fIf_ap, ht, r_bnd]
  cases k with
  | true => exact ha rfl
  | false => exact hb rfl
theorem e_if1 {m : M C Bool} {na nb : M C σ} {G : Vl → σ → Prop} (ht : RefG Eq (t ρ) m) (ha : RefG G (fa ρ) na) (hb : RefG G (fb ρ) nb) : RefG G (fIf t fa fb ρ) (bnd m fun k => if k = true then na else nb) := by
  rw [fIf_ap]
  refine B1q ht fun k => ?_
  cases k with
  | true => exact ha
  | false => exact hb
theorem e_and {m m2 : M C Bool} (ha : RefG (Em Vl.bl) (fa ρ) m) (hb : RefG (Em Vl.bl) (fb ρ) m2) : RefG (Em Vl.bl) (fAnd fa fb ρ) (bnd m fun k => if k = true then m2 else ret false) := by
  rw [fAnd_ap]
  refine B1 ha fun k => ?_
  rw [asB_bl, o_some, r_bnd]
  cases k with
  | true => exact hb
  | false => exact RefG.ret rfl
theorem e_or {m m2 : M C Bool} (ha : RefG (Em Vl.bl) (fa ρ) m) (hb : RefG (Em Vl.bl) (fb ρ) m2) : RefG (Em Vl.bl) (fOr fa fb ρ) (bnd m fun k => if k = true then ret true else m2) := by
  rw [fOr_ap]
  refine B1 ha fun k => ?_
  rw [asB_bl, o_some, r_bnd]
  cases k with
  | true => exact RefG.ret rfl
  | false => exact hb
theorem e_not {m : M C Bool} (ha : RefG (Em Vl.bl) (fa ρ) m) : RefG (Em Vl.bl) (fNot fa ρ) (bnd m fun k => ret (!k)) := by
  rw [fNot_ap]
  refine B1 ha fun k => ?_
  exact RefG.ret (a := Vl.bl (!k)) rfl
theorem g_B {m : M C Bool} (ha : RefG (Em Vl.bl) (fa ρ) m) : RefG Eq (gB fa ρ) m := fun c => by
  have h := ha c
  rw [gB_ap]
  unfold PyA.bnd
  cases e1 : m c with
  | ok p => rw [e1] at h; obtain ⟨a, e2, g⟩ := h; rw [e2, show a = .bl p.1 from g]; exact ⟨_, rfl, rfl⟩
  | ex n => rw [e1] at h; dsimp only at h ⊢; rw [h]
  | bad => trivial
theorem g_and {a b : FT C} {m m2 : M C Bool} (ha : RefG Eq (a ρ) m) (hb : RefG Eq (b ρ) m2) : RefG Eq (gAnd a b ρ) (bnd m fun k => if k = true then m2 else ret false) := by
  rw [gAnd_ap]
  refine B1q ha fun k => ?_
  cases k with
  | true => exact hb
  | false => exact RefG.ret rfl
theorem g_or {a b : FT C} {m m2 : M C Bool} (ha : RefG Eq (a ρ) m) (hb : RefG Eq (b ρ) m2) : RefG Eq (gOr a b ρ) (bnd m fun k => if k = true then ret true else m2) := by
  rw [gOr_ap]
  refine B1q ha fun k => ?_
  cases k with
  | true => exact RefG.ret rfl
  | false => exact hb
theorem g_not {a : FT C} {m : M C Bool} (ha : RefG Eq (a ρ) m) : RefG Eq (gNot a ρ) (bnd m fun k => ret (!k)) := by
  rw [gNot_ap]
  exact B1q ha fun k => RefG.ret rfl
/-- another type's view of an answer -/
theorem RefG.co {e : τ → Vl} {e' : σ → Vl} {m : M C Vl} {n : M C τ} {g : τ → σ} (h : RefG (Em e) m n) (hg : ∀ x, e x = e' (g x)) : RefG (Em e') m (PyA.bnd n fun x => PyA.ret (g x)) := fun c => by
  have h := h c
  unfold PyA.bnd
  cases e1 : n c with
  | ok p => rw [e1] at h; obtain ⟨a, e2, k⟩ := h; exact ⟨a, e2, (show a = e p.1 from k).trans (hg _)⟩
  | ex n => rw [e1] at h; exact h
  | bad => trivial
theorem e_chain {m : M C Bool} (ha : fa ρ = ret x) (hb : fb ρ = ret y) (h : op x y = some (.bl k)) (hc : RefG (Em Vl.bl) (bnd (fc ρ) fun w => opt (op' y w)) m) : RefG (Em Vl.bl) (fChain op op' fa fb fc ρ) (if k = true then m else ret false) := by
  rw [fChain_ap, ha, r_bnd, hb, r_bnd, h, o_some, r_bnd, asB_bl, o_some, r_bnd]
  cases k with
  | true => exact hc
  | false => exact RefG.ret rfl
theorem e_sl {G : Vl → σ → Prop} {op : Vl → Option Int → Option Int → Option Vl} {lo hi : PEnv → M C (Option Int)} (h : RefG G (bnd (fa ρ) fun x => bnd (lo ρ) fun l => bnd (hi ρ) fun u => opt (op x l u)) n) : RefG G (fSl op fa lo hi ρ) n := h
theorem q_o {K : Option Int → M C β} {m : M C Int} {k : Int → M C σ} (ha : RefG (Em Vl.int) (fa ρ) m) (h : ∀ i, RefG G (K (some i)) (k i)) : RefG G (bnd (oSome fa ρ) K) (bnd m k) := by
  rw [oSome_ap, bb]
  refine B1 ha fun i => ?_
  exact h i
theorem i_any1 {e : τ → Vl} {m : M C σ} {e' : σ → Vl} {k : σ → M C (List τ)} (ha : RefG (Em e') (fa ρ) m) (h : ∀ x, RefG (Eml e) (opt (items (e' x))) (k x)) : RefG (Eml e) (iAny fa ρ) (bnd m k) := by
  rw [iAny_ap]
  exact B1 ha h
theorem i_any0 {e : τ → Vl} {m : M C (List τ)} (ha : fa ρ = ret x) (h : RefG (Eml e) (opt (items x)) m) : RefG (Eml e) (iAny fa ρ) m := by
  rw [iAny_ap, ha, r_bnd]
  exact h
theorem i_bltm {e : τ → Vl} {op : List Vl → Option (List Vl)} {fs : List (FE C)} {m : M C (List τ)} (h : RefG (Eml e) (bnd (seqA fs ρ) fun xs => opt (op xs)) m) : RefG (Eml e) (iBlt op fs ρ) m := h
end
/-! ### names bound, comprehensions -/
section
variable {i : Nat} {v : Vl} {l' l1 l2 lw : List (Nat × Vl)} {bd b : Bnd}
def BdK (N : Nat) (bd : Bnd) (v : Vl) (l l' : List (Nat × Vl)) : Prop := ∀ ρ, Kn N l ρ → ∃ ρ1, bd v ρ = some ρ1 ∧ Kn N l' ρ1
def BdKs (N : Nat) (bs : List Bnd) (vs : List Vl) (l l' : List (Nat × Vl)) : Prop := ∀ ρ, Kn N l ρ → ∃ ρ1, bAll bs vs ρ = some ρ1 ∧ Kn N l' ρ1
theorem k_name (hi : Nat.blt i N = true) : BdK N (bName i) v l ((i, v) :: l) := fun ρ k => ⟨_, rfl, k.set hi⟩
theorem k_nil : BdKs N [] [] l l := fun ρ k => ⟨_, rfl, k⟩
theorem k_cons {bs : List Bnd} {vs : List Vl} (h : BdK N b v l l1) (hr : BdKs N bs vs l1 l2) : BdKs N (b :: bs) (v :: vs) l l2 := fun ρ k => by
  obtain ⟨ρ1, e1, k1⟩ := h ρ k
  obtain ⟨ρ2, e2, k2⟩ := hr ρ1 k1
  exact ⟨ρ2, by rw [bAll_cons, e1]; exact e2, k2⟩
theorem k_tup {bs : List Bnd} {vs : List Vl} (h : BdKs N bs vs l l') : BdK N (bTup bs) (.tup vs) l l' := fun ρ k => h ρ k
/-- a list by turns -/
def compN (t : υ → M C Bool) (f : υ → M C τ) : List υ → M C (List τ)
  | [] => ret []
  | x :: r => bnd (noEx (t x)) fun k => if k = true then bnd (noEx (f x)) fun y => bnd (compN t f r) fun ys => ret (y :: ys) else compN t f r
def mapN (f : υ → M C τ) : List υ → M C (List τ)
  | [] => ret []
  | x :: r => bnd (noEx (f x)) fun y => bnd (mapN f r) fun ys => ret (y :: ys)
variable {e : τ → Vl} {ex : υ → Vl} {it : PEnv → M C (List Vl)} {vs : List Nat} {t : FT C} {f : FE C} {kl : υ → List (Nat × Vl)}
theorem comp0 {p : υ → Bool} {h : υ → τ} (kw : Kn N lw ρ) (hb : ∀ x, BdK N bd (ex x) lw (kl x)) (ht : ∀ x ρ, Kn N (kl x) ρ → t ρ = ret (p x)) (hf : ∀ x ρ, Kn N (kl x) ρ → f ρ = ret (e (h x))) (xs : List υ) : (compL bd t f ρ (xs.map ex) : M C (List Vl)) = ret (((xs.filter p).map h).map e) := by
  rw [comp_on ex p (fun x => e (h x)) xs fun x _ => ?_, List.map_map]
  · rfl
  · obtain ⟨ρ1, e1, k1⟩ := hb x ρ kw
    exact ⟨ρ1, e1, by rw [ht x ρ1 k1]; rfl, fun _ => by rw [hf x ρ1 k1]; rfl⟩
theorem comp0a {h : υ → τ} (kw : Kn N lw ρ) (hb : ∀ x, BdK N bd (ex x) lw (kl x)) (hf : ∀ x ρ, Kn N (kl x) ρ → f ρ = ret (e (h x))) (xs : List υ) : (compL bd gYes f ρ (xs.map ex) : M C (List Vl)) = ret ((xs.map h).map e) := by
  rw [compA ex (fun x => e (h x)) xs fun x _ => ?_, List.map_map]
  · rfl
  · obtain ⟨ρ1, e1, k1⟩ := hb x ρ kw
    exact ⟨ρ1, e1, by rw [hf x ρ1 k1]; rfl⟩
theorem comp1 {tn : υ → M C Bool} {fn : υ → M C τ} (kw : Kn N lw ρ) (hb : ∀ x, BdK N bd (ex x) lw (kl x)) (ht : ∀ x ρ, Kn N (kl x) ρ → RefG Eq (t ρ) (tn x)) (hf : ∀ x ρ, Kn N (kl x) ρ → RefG (Em e) (f ρ) (fn x)) : ∀ xs : List υ, RefG (Eml e) (compL bd t f ρ (xs.map ex)) (compN tn fn xs)
  | [] => RefG.ret rfl
  | x :: r => by
    obtain ⟨ρ1, e1, k1⟩ := hb x ρ kw
    rw [List.map_cons, compL_cons, e1, o_some, r_bnd]
    refine B1q (ht x ρ1 k1).noEx fun k => ?_
    cases k with
    | true =>
      rw [if_pos rfl, if_pos rfl]
      refine B1 (hf x ρ1 k1).noEx fun y => ?_
      refine B1l (comp1 kw hb ht hf r) fun ys => ?_
      exact RefG.ret rfl
    | false => exact comp1 kw hb ht hf r
theorem comp1a {fn : υ → M C τ} (kw : Kn N lw ρ) (hb : ∀ x, BdK N bd (ex x) lw (kl x)) (hf : ∀ x ρ, Kn N (kl x) ρ → RefG (Em e) (f ρ) (fn x)) : ∀ xs : List υ, RefG (Eml e) (compL bd gYes f ρ (xs.map ex)) (mapN fn xs)
  | [] => RefG.ret rfl
  | x :: r => by
    obtain ⟨ρ1, e1, k1⟩ := hb x ρ kw
    rw [List.map_cons, compL_cons, e1, o_some, r_bnd]
    rw [show PyA.noEx (gYes ρ1 : M C Bool) = ret true from rfl, r_bnd, if_pos rfl]
    refine B1 (hf x ρ1 k1).noEx fun y => ?_
    refine B1l (comp1a kw hb hf r) fun ys => ?_
    exact RefG.ret rfl
/-- [f(x) for x in it if t(x)] -/
theorem x_lc {xs : List υ} {p : υ → Bool} {h : υ → τ} (k : Kn N l ρ) (hi : it ρ = ret (xs.map ex)) (hw : subW vs l lw) (hb : ∀ x, BdK N bd (ex x) lw (kl x)) (ht : ∀ x ρ, Kn N (kl x) ρ → t ρ = ret (p x)) (hf : ∀ x ρ, Kn N (kl x) ρ → f ρ = ret (e (h x))) :
    (fLc it vs bd t f ρ : M C Vl) = ret (.lst (((xs.filter p).map h).map e)) := by
  rw [fLc_ap, hi, r_bnd, comp0 (k.wipe vs hw) hb ht hf]
  rfl
theorem x_lca {xs : List υ} {h : υ → τ} (k : Kn N l ρ) (hi : it ρ = ret (xs.map ex)) (hw : subW vs l lw) (hb : ∀ x, BdK N bd (ex x) lw (kl x)) (hf : ∀ x ρ, Kn N (kl x) ρ → f ρ = ret (e (h x))) :
    (fLc it vs bd gYes f ρ : M C Vl) = ret (.lst ((xs.map h).map e)) := by
  rw [fLc_ap, hi, r_bnd, comp0a (k.wipe vs hw) hb hf]
  rfl
theorem e_lc {m : M C (List υ)} {p : υ → Bool} {h : υ → τ} (k : Kn N l ρ) (hi : RefG (Eml ex) (it ρ) m) (hw : subW vs l lw) (hb : ∀ x, BdK N bd (ex x) lw (kl x)) (ht : ∀ x ρ, Kn N (kl x) ρ → t ρ = ret (p x)) (hf : ∀ x ρ, Kn N (kl x) ρ → f ρ = ret (e (h x))) :
    RefG (Em (eLs e)) (fLc it vs bd t f ρ) (bnd m fun xs => ret ((xs.filter p).map h)) := by
  rw [fLc_ap]
  refine B1l hi fun xs => ?_
  rw [comp0 (k.wipe vs hw) hb ht hf]
  exact RefG.ret (a := Vl.lst _) rfl
theorem e_lca {m : M C (List υ)} {h : υ → τ} (k : Kn N l ρ) (hi : RefG (Eml ex) (it ρ) m) (hw : subW vs l lw) (hb : ∀ x, BdK N bd (ex x) lw (kl x)) (hf : ∀ x ρ, Kn N (kl x) ρ → f ρ = ret (e (h x))) :
    RefG (Em (eLs e)) (fLc it vs bd gYes f ρ) (bnd m fun xs => ret (xs.map h)) := by
  rw [fLc_ap]
  refine B1l hi fun xs => ?_
  rw [comp0a (k.wipe vs hw) hb hf]
  exact RefG.ret (a := Vl.lst _) rfl
theorem lst_eml {m : M C (List Vl)} {n : M C (List τ)} (h : RefG (Eml e) m n) : RefG (Em (eLs e)) (bnd m fun ys => ret (.lst ys)) n := fun c => by
  have h := h c
  unfold PyA.bnd
  cases e1 : n c with
  | ok p => rw [e1] at h; obtain ⟨a, e2, g⟩ := h; rw [e2]; exact ⟨_, rfl, by rw [show a = p.1.map e from g]; rfl⟩
  | ex n => rw [e1] at h; dsimp only at h ⊢; rw [h]
  | bad => trivial
theorem e_lm {m : M C (List υ)} {tn : υ → M C Bool} {fn : υ → M C τ} (k : Kn N l ρ) (hi : RefG (Eml ex) (it ρ) m) (hw : subW vs l lw) (hb : ∀ x, BdK N bd (ex x) lw (kl x)) (ht : ∀ x ρ, Kn N (kl x) ρ → RefG Eq (t ρ) (tn x)) (hf : ∀ x ρ, Kn N (kl x) ρ → RefG (Em e) (f ρ) (fn x)) :
    RefG (Em (eLs e)) (fLc it vs bd t f ρ) (bnd m fun xs => compN tn fn xs) := by
  rw [fLc_ap]
  refine B1l hi fun xs => ?_
  exact lst_eml (comp1 (k.wipe vs hw) hb ht hf xs)
theorem e_lma {m : M C (List υ)} {fn : υ → M C τ} (k : Kn N l ρ) (hi : RefG (Eml ex) (it ρ) m) (hw : subW vs l lw) (hb : ∀ x, BdK N bd (ex x) lw (kl x)) (hf : ∀ x ρ, Kn N (kl x) ρ → RefG (Em e) (f ρ) (fn x)) :
    RefG (Em (eLs e)) (fLc it vs bd gYes f ρ) (bnd m fun xs => mapN fn xs) := by
  rw [fLc_ap]
  refine B1l hi fun xs => ?_
  exact lst_eml (comp1a (k.wipe vs hw) hb hf xs)
end
end
end PyA
/-! PyNc: RefG of statements by names (Kn); operations on typed values. -/
namespace PyA
open PySem L2
section
variable {C α β γ τ σ υ τ1 τ2 τ3 τ4 : Type} {N : Nat} {l l' : List (Nat × Vl)} {ρ : PEnv} {G : Out → τ → Prop} {n : M C τ} {a b s1 s2 : FS C} {f : FE C} {x v : Vl} {t : FT C} {k : Bool} {bd : Bnd} {i j : Nat}
theorem v_set0 (kn : Kn N l ρ) (h : f ρ = ret x) (hi : Nat.blt i N = true) (hk : ∀ ρ', Kn N ((i, x) :: l) ρ' → RefG G (b ρ') n) : RefG G (sSeq (sSet i f) b ρ) n := u_set0 h (hk _ (kn.set hi))
theorem v_set1 {e : σ → Vl} {m : M C σ} {k : σ → M C τ} (kn : Kn N l ρ) (h : RefG (Em e) (f ρ) m) (hi : Nat.blt i N = true) (hk : ∀ x ρ', Kn N ((i, e x) :: l) ρ' → RefG G (b ρ') (k x)) : RefG G (sSeq (sSet i f) b ρ) (bnd m k) := u_set1 h fun x => hk x _ (kn.set hi)
theorem v_bind0 (kn : Kn N l ρ) (h : f ρ = ret x) (h2 : BdK N bd x l l') (hk : ∀ ρ', Kn N l' ρ' → RefG G (b ρ') n) : RefG G (sSeq (sBind bd f) b ρ) n := by
  obtain ⟨ρ1, e1, k1⟩ := h2 ρ kn
  exact u_bind0 h e1 (hk ρ1 k1)
theorem v_bind1 {e : σ → Vl} {m : M C σ} {k : σ → M C τ} {l' : σ → List (Nat × Vl)} (kn : Kn N l ρ) (h : RefG (Em e) (f ρ) m) (h2 : ∀ x, BdK N bd (e x) l (l' x)) (hk : ∀ x ρ', Kn N (l' x) ρ' → RefG G (b ρ') (k x)) : RefG G (sSeq (sBind bd f) b ρ) (bnd m k) := by
  rw [sSeq_ap, sBind_ap, bb]
  refine B1 h fun x => ?_
  obtain ⟨ρ1, e1, k1⟩ := h2 x ρ kn
  rw [e1]
  exact hk x ρ1 k1
/-- a value that comes by one run and is looked at in parts -/
theorem v_par0 {fa fb : FE C} {y : Vl} (kn : Kn N l ρ) (ha : fa ρ = ret x) (hb : fb ρ = ret y) (hi : Nat.blt i N = true) (hj : Nat.blt j N = true) (hk : ∀ ρ', Kn N ((j, y) :: (i, x) :: l) ρ' → RefG G (b ρ') n) : RefG G (sSeq (sPar i j fa fb) b ρ) n := by
  rw [sSeq_ap, sPar_ap, ha, r_bnd, hb]
  exact hk _ ((kn.set hi).set hj)
theorem v_parc {fa fb : FE C} (kn : Kn N l ρ) (hi : Nat.blt i N = true) (hj : Nat.blt j N = true) (h : RefG G (bnd (fa ρ) fun x => bnd (fb ρ) fun y => sThen b (.nx ((ρ.set i (some x)).set j (some y)))) n) : RefG G (sSeq (sPar i j fa fb) b ρ) n := by
  rw [sSeq_ap, sPar_ap, bb]
  simp only [bb]
  exact h
theorem v_parf {y : Vl} (kn : Kn N l ρ) (hi : Nat.blt i N = true) (hj : Nat.blt j N = true) (hk : ∀ ρ', Kn N ((j, y) :: (i, x) :: l) ρ' → RefG G (b ρ') n) : RefG G (sThen b (.nx ((ρ.set i (some x)).set j (some y)))) n := hk _ ((kn.set hi).set hj)
theorem v_drop0 (h : f ρ = ret x) (hk : RefG G (b ρ) n) : RefG G (sSeq (sDrop f) b ρ) n := u_drop0 h hk
theorem v_aug0 {op : Vl → Vl → Option Vl} {y z : Vl} (kn : Kn N l ρ) (hv : lk l i = some v) (h : f ρ = ret y) (ho : op v y = some z) (hi : Nat.blt i N = true) (hk : ∀ ρ', Kn N ((i, z) :: l) ρ' → RefG G (b ρ') n) : RefG G (sSeq (sAug i op f) b ρ) n := by
  rw [sSeq_ap, sAug_ap, kn.look hv, o_some, r_bnd, h, r_bnd, ho]
  exact hk _ (kn.set hi)
theorem v_aug1 {op : Vl → Vl → Option Vl} {e : σ → Vl} {m : M C σ} {k : σ → M C τ} (kn : Kn N l ρ) (hv : lk l i = some v) (h : RefG (Em e) (bnd (f ρ) fun y => opt (op v y)) m) (hi : Nat.blt i N = true) (hk : ∀ x ρ', Kn N ((i, e x) :: l) ρ' → RefG G (b ρ') (k x)) : RefG G (sSeq (sAug i op f) b ρ) (bnd m k) := by
  rw [sSeq_ap, sAug_ap, kn.look hv, o_some, r_bnd]
  have e1 : (bnd (bnd (f ρ) fun y => bnd (opt (op v y)) fun z => (ret (.nx (ρ.set i (some z))) : M C Out)) (sThen b)) = bnd (bnd (f ρ) fun y => opt (op v y)) fun z => b (ρ.set i (some z)) := by
    simp only [bb, r_bnd, sThen_nx]
  rw [e1]
  exact B1 h fun x => hk x _ (kn.set hi)
/-- xs.append(y) -/
def appO (xs : List σ) (y : σ) : Option (List σ) := if xs.length < sizeLine then some (xs ++ [y]) else none
theorem app_at {e : σ → Vl} {xs zs : List σ} {y : σ} (kn : Kn N l ρ) (hv : lk l i = some (eLs e xs)) (h : appO xs y = some zs) : appAt ρ i (e y) = some (ρ.set i (some (eLs e zs))) := by
  unfold appO at h
  unfold appAt
  rw [kn.look hv]
  dsimp only [eLs]
  rw [List.length_map]
  by_cases hl : xs.length < sizeLine
  · rw [if_pos hl] at h ⊢
    injection h with h
    subst h
    rw [List.map_append]
    rfl
  · rw [if_neg hl] at h
    cases h
theorem lst_at {e : σ → Vl} {xs : List σ} (kn : Kn N l ρ) (hv : lk l i = some (eLs e xs)) : lstAt ρ i = some () := by
  unfold lstAt
  rw [kn.look hv]
theorem v_app0 {e : σ → Vl} {xs : List σ} {y : σ} {k : List σ → M C τ} (kn : Kn N l ρ) (hv : lk l i = some (eLs e xs)) (h : f ρ = ret (e y)) (hi : Nat.blt i N = true) (hk : ∀ x ρ', Kn N ((i, eLs e x) :: l) ρ' → RefG G (b ρ') (k x)) : RefG G (sSeq (sApp i f) b ρ) (bnd (opt (appO xs y)) k) := by
  rw [sSeq_ap, sApp_ap, lst_at kn hv, o_some, r_bnd, h, r_bnd, bb]
  refine RefG.bnd (G := fun ρ' zs => ρ' = ρ.set i (some (eLs e zs))) (RefG.opt fun zs hz => ⟨_, app_at kn hv hz, rfl⟩) fun ρ' zs g => ?_
  subst g
  exact hk zs _ (kn.set hi)
theorem v_app1 {e : σ → Vl} {xs : List σ} {m : M C σ} {k : List σ → M C τ} (kn : Kn N l ρ) (hv : lk l i = some (eLs e xs)) (h : RefG (Em e) (f ρ) m) (hi : Nat.blt i N = true) (hk : ∀ x ρ', Kn N ((i, eLs e x) :: l) ρ' → RefG G (b ρ') (k x)) : RefG G (sSeq (sApp i f) b ρ) (bnd m fun y => bnd (opt (appO xs y)) k) := by
  rw [sSeq_ap, sApp_ap, lst_at kn hv, o_some, r_bnd, bb]
  refine B1 h fun y => ?_
  rw [bb]
  refine RefG.bnd (G := fun ρ' zs => ρ' = ρ.set i (some (eLs e zs))) (RefG.opt fun zs hz => ⟨_, app_at kn hv hz, rfl⟩) fun ρ' zs g => ?_
  subst g
  exact hk zs _ (kn.set hi)
/-- xs[k] = y -/
def putO (xs : List σ) (k : Int) (y : σ) : Option (List σ) := (ixN xs.length k).map fun j => xs.set j y
theorem set_at {e : σ → Vl} {xs zs : List σ} {k : Int} {y : σ} (kn : Kn N l ρ) (hv : lk l i = some (eLs e xs)) (h : putO xs k y = some zs) : setAt ρ i (.int k) (e y) = some (ρ.set i (some (eLs e zs))) := by
  unfold putO at h
  unfold setAt
  rw [kn.look hv]
  dsimp only [eLs]
  rw [List.length_map]
  cases hx : ixN xs.length k with
  | none => rw [hx] at h; cases h
  | some j =>
    rw [hx] at h
    injection h with h
    subst h
    dsimp only
    rw [List.map_set]
theorem v_put {fk : FE C} {e : σ → Vl} {xs : List σ} {y : σ} {kk : Int} {k : List σ → M C τ} (kn : Kn N l ρ) (hv : lk l i = some (eLs e xs)) (h : f ρ = ret (e y)) (hf : fk ρ = ret (.int kk)) (hi : Nat.blt i N = true) (hk : ∀ x ρ', Kn N ((i, eLs e x) :: l) ρ' → RefG G (b ρ') (k x)) : RefG G (sSeq (sPut i fk f) b ρ) (bnd (opt (putO xs kk y)) k) := by
  rw [sSeq_ap, sPut_ap, h, r_bnd, lst_at kn hv, o_some, r_bnd, hf, r_bnd, bb]
  refine RefG.bnd (G := fun ρ' zs => ρ' = ρ.set i (some (eLs e zs))) (RefG.opt fun zs hz => ⟨_, set_at kn hv hz, rfl⟩) fun ρ' zs g => ?_
  subst g
  exact hk zs _ (kn.set hi)
theorem v_put1 {fk : FE C} {e : σ → Vl} {xs : List σ} {m : M C σ} {kk : Int} {k : List σ → M C τ} (kn : Kn N l ρ) (hv : lk l i = some (eLs e xs)) (h : RefG (Em e) (f ρ) m) (hf : fk ρ = ret (.int kk)) (hi : Nat.blt i N = true) (hk : ∀ x ρ', Kn N ((i, eLs e x) :: l) ρ' → RefG G (b ρ') (k x)) : RefG G (sSeq (sPut i fk f) b ρ) (bnd m fun y => bnd (opt (putO xs kk y)) k) := by
  rw [sSeq_ap, sPut_ap, bb]
  refine B1 h fun y => ?_
  rw [lst_at kn hv, o_some, r_bnd, hf, r_bnd, bb]
  refine RefG.bnd (G := fun ρ' zs => ρ' = ρ.set i (some (eLs e zs))) (RefG.opt fun zs hz => ⟨_, set_at kn hv hz, rfl⟩) fun ρ' zs g => ?_
  subst g
  exact hk zs _ (kn.set hi)
theorem v_putk {fk : FE C} {e : σ → Vl} {xs : List σ} {y : σ} {m : M C Int} {k : List σ → M C τ} (kn : Kn N l ρ) (hv : lk l i = some (eLs e xs)) (h : f ρ = ret (e y)) (hf : RefG (Em Vl.int) (fk ρ) m) (hi : Nat.blt i N = true) (hk : ∀ x ρ', Kn N ((i, eLs e x) :: l) ρ' → RefG G (b ρ') (k x)) : RefG G (sSeq (sPut i fk f) b ρ) (bnd m fun kk => bnd (opt (putO xs kk y)) k) := by
  rw [sSeq_ap, sPut_ap, h, r_bnd, lst_at kn hv, o_some, r_bnd, bb]
  refine B1 hf fun kk => ?_
  rw [bb]
  refine RefG.bnd (G := fun ρ' zs => ρ' = ρ.set i (some (eLs e zs))) (RefG.opt fun zs hz => ⟨_, set_at kn hv hz, rfl⟩) fun ρ' zs g => ?_
  subst g
  exact hk zs _ (kn.set hi)
theorem v_putkk {fk : FE C} {e : σ → Vl} {xs : List σ} {m1 : M C σ} {m : M C Int} {k : List σ → M C τ} (kn : Kn N l ρ) (hv : lk l i = some (eLs e xs)) (h : RefG (Em e) (f ρ) m1) (hf : RefG (Em Vl.int) (fk ρ) m) (hi : Nat.blt i N = true) (hk : ∀ x ρ', Kn N ((i, eLs e x) :: l) ρ' → RefG G (b ρ') (k x)) : RefG G (sSeq (sPut i fk f) b ρ) (bnd m1 fun y => bnd m fun kk => bnd (opt (putO xs kk y)) k) := by
  rw [sSeq_ap, sPut_ap, bb]
  refine B1 h fun y => ?_
  rw [lst_at kn hv, o_some, r_bnd, bb]
  refine B1 hf fun kk => ?_
  rw [bb]
  refine RefG.bnd (G := fun ρ' zs => ρ' = ρ.set i (some (eLs e zs))) (RefG.opt fun zs hz => ⟨_, set_at kn hv hz, rfl⟩) fun ρ' zs g => ?_
  subst g
  exact hk zs _ (kn.set hi)
/-- xs[k] += y -/
theorem v_augix {op : Vl → Vl → Option Vl} {fk : FE C} {e : σ → Vl} {xs : List σ} {y : Vl} {kk : Int} {k : List σ → M C τ} {g : σ → σ} (kn : Kn N l ρ) (hv : lk l i = some (eLs e xs)) (hf : fk ρ = ret (.int kk)) (h : f ρ = ret y) (ho : ∀ x, op (e x) y = some (e (g x))) (hi : Nat.blt i N = true) (hk : ∀ x ρ', Kn N ((i, eLs e x) :: l) ρ' → RefG G (b ρ') (k x)) :
    RefG G (sSeq (sAugIx i op fk f) b ρ) (bnd (opt ((atI xs kk).bind fun x => putO xs kk (g x))) k) := by
  rw [sSeq_ap, sAugIx_ap, lst_at kn hv, o_some, r_bnd, hf, r_bnd, bb]
  have ga : getAt ρ i (.int kk) = (atI xs kk).map e := by
    unfold getAt
    rw [kn.look hv]
    dsimp only [eLs]
    cases hx : atI xs kk with
    | none =>
      unfold atI at hx ⊢
      rw [List.length_map]
      cases h2 : ixN xs.length kk with
      | none => rfl
      | some j =>
        rw [h2] at hx
        have hx : xs[j]? = none := hx
        show (xs.map e)[j]? = _
        rw [List.getElem?_map, hx]
    | some x => exact atI_map hx
  rw [ga]
  cases hx : atI xs kk with
  | none => exact fun _ => trivial
  | some x =>
    show RefG G (bnd (opt (some (e x))) _) (bnd (opt (putO xs kk (g x))) k)
    rw [o_some, r_bnd, bb, h, r_bnd, bb, ho, o_some, r_bnd, bb]
    refine RefG.bnd (G := fun ρ' zs => ρ' = ρ.set i (some (eLs e zs))) (RefG.opt fun zs hz => ⟨_, set_at kn hv hz, rfl⟩) fun ρ' zs g => ?_
    subst g
    exact hk zs _ (kn.set hi)
/-- xs += ys -/
def extO (xs ys : List σ) : Option (List σ) := if xs.length + ys.length ≤ sizeLine then some (xs ++ ys) else none
theorem ext_at {e : σ → Vl} {xs ys zs : List σ} (kn : Kn N l ρ) (hv : lk l i = some (eLs e xs)) (h : extO xs ys = some zs) : extAt ρ i (eLs e ys) = some (ρ.set i (some (eLs e zs))) := by
  unfold extO at h
  unfold extAt
  rw [kn.look hv]
  dsimp only [eLs]
  rw [List.length_map, List.length_map]
  by_cases hl : xs.length + ys.length ≤ sizeLine
  · rw [if_pos hl] at h ⊢
    injection h with h
    subst h
    rw [List.map_append]
  · rw [if_neg hl] at h
    cases h
theorem v_ext0 {e : σ → Vl} {xs ys : List σ} {k : List σ → M C τ} (kn : Kn N l ρ) (hv : lk l i = some (eLs e xs)) (h : f ρ = ret (eLs e ys)) (hi : Nat.blt i N = true) (hk : ∀ x ρ', Kn N ((i, eLs e x) :: l) ρ' → RefG G (b ρ') (k x)) : RefG G (sSeq (sExt i f) b ρ) (bnd (opt (extO xs ys)) k) := by
  unfold sExt
  rw [sSeq_ap, lst_at kn hv, o_some, r_bnd, h, r_bnd, bb]
  refine RefG.bnd (G := fun ρ' zs => ρ' = ρ.set i (some (eLs e zs))) (RefG.opt fun zs hz => ⟨_, ext_at kn hv hz, rfl⟩) fun ρ' zs g => ?_
  subst g
  exact hk zs _ (kn.set hi)
theorem v_ext1 {e : σ → Vl} {xs : List σ} {m : M C (List σ)} {k : List σ → M C τ} (kn : Kn N l ρ) (hv : lk l i = some (eLs e xs)) (h : RefG (Em (eLs e)) (f ρ) m) (hi : Nat.blt i N = true) (hk : ∀ x ρ', Kn N ((i, eLs e x) :: l) ρ' → RefG G (b ρ') (k x)) : RefG G (sSeq (sExt i f) b ρ) (bnd m fun ys => bnd (opt (extO xs ys)) k) := by
  unfold sExt
  rw [sSeq_ap, lst_at kn hv, o_some, r_bnd, bb]
  refine B1 h fun ys => ?_
  rw [bb]
  refine RefG.bnd (G := fun ρ' zs => ρ' = ρ.set i (some (eLs e zs))) (RefG.opt fun zs hz => ⟨_, ext_at kn hv hz, rfl⟩) fun ρ' zs g => ?_
  subst g
  exact hk zs _ (kn.set hi)
/-- xs[i], xs[j] = a, b -/
theorem v_put2 {k1 k2 fa fb : FE C} {xs : List σ} {e : σ → Vl} {ma mb : M C σ} {i1 i2 : Int} {k : List σ → M C τ} {g : σ → Int} (kn : Kn N l ρ) (hv : lk l i = some (eLs e xs)) (he : ∀ x, e x = .int (g x)) (ha : RefG (Em e) (fa ρ) ma) (hb : RefG (Em e) (fb ρ) mb) (h1 : k1 ρ = ret (.int i1)) (h2 : ∀ zs ρ', Kn N ((i, eLs e zs) :: l) ρ' → k2 ρ' = ret (.int i2)) (hi : Nat.blt i N = true)
    (hk : ∀ x ρ', Kn N ((i, eLs e x) :: l) ρ' → RefG G (b ρ') (k x)) : RefG G (sSeq (sPut2 i k1 k2 fa fb) b ρ) (bnd ma fun p => bnd mb fun q => bnd (opt ((putO xs i1 p).bind fun ys => putO ys i2 q)) k) := by
  unfold sPut2
  rw [sSeq_ap, fTup_ap, seqA_cons, seqA_cons, seqA_nil]
  simp only [r_bnd, bb]
  refine B1 ha fun p => B1 hb fun q => ?_
  rw [show two (.tup [e p, e q]) = some (g p, g q) by rw [he, he]; rfl, o_some, r_bnd, lst_at kn hv, o_some, r_bnd, h1, r_bnd]
  cases hx : ixN xs.length i1 with
  | none =>
    have : putO xs i1 p = none := by unfold putO; rw [hx]; rfl
    rw [this]
    exact fun _ => trivial
  | some j =>
    have e1 : putO xs i1 p = some (xs.set j p) := by unfold putO; rw [hx]; rfl
    have s1 := set_at kn hv e1
    rw [he] at s1
    rw [s1, o_some, r_bnd]
    have kn1 := kn.set (v := eLs e (xs.set j p)) hi
    have lk1 : lk ((i, eLs e (xs.set j p)) :: l) i = some (eLs e (xs.set j p)) := by unfold lk; rw [if_pos rfl]
    rw [show lstAt (ρ.set i (some (eLs e (xs.set j p)))) i = some () from lst_at kn1 lk1]
    rw [e1]
    simp only [o_some, r_bnd, h2 _ _ kn1, Option.bind_some]
    refine RefG.bnd (G := fun ρ' zs => ρ' = (ρ.set i (some (eLs e (xs.set j p)))).set i (some (eLs e zs))) (RefG.opt fun zs hz => ⟨_, ?_, rfl⟩) fun ρ' zs g => ?_
    · have := set_at kn1 lk1 hz
      rwa [he] at this
    · subst g
      have := kn.set (v := eLs e zs) hi
      rw [List.set_set]
      exact hk zs _ this
theorem ref_def {b : FS C} {xs : List Vl} {e : τ → Vl} {n : M C τ} (h : ∀ ρ, Kn N (lks 0 xs) ρ → RefG (GR e) (b ρ) n) (hl : Nat.ble xs.length N = true := by rfl) : RefG (Em e) (mkF N b xs) n := ref_fn (h _ (Kn.args hl))
theorem l_bd {l' : List (Nat × Vl)} {G : Out → τ → Prop} {n : M C τ} (h : BdK N bd v l l') (k : Kn N l ρ) (hb : ∀ ρ1, Kn N l' ρ1 → RefG G (b ρ1) n) : ∃ ρ1, bd v ρ = some ρ1 ∧ RefG G (b ρ1) n := by
  obtain ⟨ρ1, e1, k1⟩ := h ρ k
  exact ⟨ρ1, e1, hb ρ1 k1⟩
/-- several stores at once -/
def WSt (N : Nat) (own : Nat → Bool) (is : List Nat) (xs : List Vl) (l : List (Nat × Vl)) (G : Out → τ → Prop) (b : FS C) (n : M C τ) : Prop := ∀ ρ, Kn N l ρ → RefG G (bnd (opt (storeF own is xs ρ)) fun ρ' => b ρ') n
theorem w_nil {own : Nat → Bool} (h : ∀ ρ, Kn N l ρ → RefG G (b ρ) n) : WSt N own [] [] l G b n := fun ρ k => h ρ k
theorem w_cons {own : Nat → Bool} {is : List Nat} {xs : List Vl} (ho : own i = false ∨ ownable x = true) (hi : Nat.blt i N = true) (h : WSt N own is xs ((i, x) :: l) G b n) : WSt N own (i :: is) (x :: xs) l G b n := fun ρ k => by
  have e : storeF own (i :: is) (x :: xs) ρ = storeF own is xs (ρ.set i (some x)) := by
    show (if own i = true ∧ ownable x = false then none else storeF own is xs (ρ.set i (some x))) = _
    rw [if_neg]
    rintro ⟨h1, h2⟩
    rcases ho with ho | ho
    · rw [ho] at h1; cases h1
    · rw [ho] at h2; cases h2
  rw [e]
  exact h _ (k.set hi)
theorem w_run {own : Nat → Bool} {is : List Nat} {xs : List Vl} (k : Kn N l ρ) (h : WSt N own is xs l G b n) : RefG G (bnd (opt (storeF own is xs ρ)) fun ρ' => b ρ') n := h ρ k
theorem v_parF {own : Nat → Bool} {is : List Nat} {fs : List (FE C)} (h : RefG G (bnd (seqA fs ρ) fun xs => bnd (opt (storeF own is xs ρ)) fun ρ' => b ρ') n) : RefG G (sSeq (sParF own is fs) b ρ) n := by
  rw [sSeq_ap, sParF_ap]
  simp only [bb, r_bnd, sThen_nx]
  exact h
theorem v_move {l' : List (Nat × Vl)} (kn : Kn N l ρ) (hv : lk l i = some v) (hw : subW [i] l l') (hi : Nat.blt i N = true) (hj : Nat.blt j N = true) (hk : ∀ ρ', Kn N ((j, v) :: l') ρ' → RefG G (b ρ') n) : RefG G (sSeq (sMove j i) b ρ) n := by
  unfold sMove
  rw [sSeq_ap, kn.look hv, o_some, r_bnd, r_bnd, sThen_nx]
  have := kn.wipe [i] hw
  rw [wipe_cons, wipe_nil] at this
  exact hk _ (this.set hj)
/-- a loop that may break off but never returns -/
theorem u_loopB {J : σ → PEnv → Prop} {e : υ → Vl} {m : M C (Fl σ υ)} {k : σ → M C τ} (h : RefG (GS J e) (a ρ) m) (hk : ∀ s ρ', J s ρ' → RefG G (b ρ') (k s)) : RefG G (sSeq a b ρ) (bnd m (thenN k fun _ => bad)) := h.bnd fun o f g => by
  cases f with
  | nx s => obtain ⟨ρ', eo, j⟩ := g; subst eo; exact hk s ρ' j
  | rt y => exact fun _ => trivial
  | bk s => exact fun _ => trivial
  | ct s => exact fun _ => trivial
end
end PyA
/-! PyNd: operations on typed values. -/
namespace PyA
open PySem L2
section
variable {C α β γ τ σ υ τ1 τ2 τ3 τ4 : Type}
/-! ints -/
theorem mulP_k {k x : Int} (h : -(2 ^ 64) < k) (h2 : k < 2 ^ 64) : mulP (.int k) (.int x) = some (.int (k * x)) := mulP_l h h2
def mulO (x y : Int) : Option Int := if small x = true ∨ small y = true then some (x * y) else none
theorem mulO_r {x y : Int} : ∀ z, mulO x y = some z → mulP (.int x) (.int y) = some (.int z) := fun z h => by
  unfold mulO at h
  show (if small x = true ∨ small y = true then some (Vl.int (x * y)) else none) = _
  split at h
  · rename_i hs; rw [if_pos hs]; injection h with h; rw [h]
  · cases h
def mulNO (x y : Nat) : Option Nat := if small x = true ∨ small y = true then some (x * y) else none
theorem mulNO_r {x y : Nat} : ∀ z, mulNO x y = some z → mulP (eN x) (eN y) = some (eN z) := fun z h => by
  unfold mulNO at h
  show (if small (x : Int) = true ∨ small (y : Int) = true then some (Vl.int ((x : Int) * y)) else none) = _
  split at h
  · rename_i hs; rw [if_pos hs]; injection h with h; rw [← h]; rfl
  · cases h
def modO (x y : Int) : Option Int := if 0 < y then some (x % y) else none
theorem modO_r {x y : Int} : ∀ z, modO x y = some z → modP (.int x) (.int y) = some (.int z) := fun z h => by
  unfold modO at h
  split at h
  · rename_i hs; rw [modP_int hs]; injection h with h; rw [h]
  · cases h
def modNO (x y : Nat) : Option Nat := if 0 < y then some (x % y) else none
theorem modNO_r {x y : Nat} : ∀ z, modNO x y = some z → modP (eN x) (eN y) = some (eN z) := fun z h => by
  unfold modNO at h
  split at h
  · rename_i hs
    rw [show modP (eN x) (eN y) = some (.int ((x : Int) % (y : Int))) from modP_int (by omega)]
    injection h with h; rw [← h]; rfl
  · cases h
def fdivO (x y : Int) : Option Int := if 0 < y ∧ y < 1073741824 then some (x / y) else none
theorem fdivO_r {x y : Int} : ∀ z, fdivO x y = some z → fdivP (.int x) (.int y) = some (.int z) := fun z h => by
  unfold fdivO at h
  split at h
  · rename_i hs; rw [fdivP_int hs.1 hs.2]; injection h with h; rw [h]
  · cases h
def fdivNO (x y : Nat) : Option Nat := if 0 < y ∧ y < 1073741824 then some (x / y) else none
theorem fdivNO_r {x y : Nat} : ∀ z, fdivNO x y = some z → fdivP (eN x) (eN y) = some (eN z) := fun z h => by
  unfold fdivNO at h
  split at h
  · rename_i hs
    rw [show fdivP (eN x) (eN y) = some (.int ((x : Int) / (y : Int))) from fdivP_int (by omega) (by omega)]
    injection h with h; rw [← h]; rfl
  · cases h
theorem fdivP_N {x k : Nat} (h : 0 < (k : Int)) (h2 : (k : Int) < 1073741824) : fdivP (eN x) (eN k) = some (eN (x / k)) := fdivP_int h h2
theorem modP_N {x k : Nat} (h : 0 < (k : Int)) : modP (eN x) (eN k) = some (eN (x % k)) := modP_int h
theorem addP_N (x y : Nat) : addP (eN x) (eN y) = some (eN (x + y)) := rfl
theorem ltP_N (x y : Nat) : ltP (eN x) (eN y) = some (.bl (decide (x < y))) := by rw [ltP_int]; congr 2; rw [decide_eq_decide]; omega
theorem leP_N (x y : Nat) : leP (eN x) (eN y) = some (.bl (decide (x ≤ y))) := by rw [leP_int]; congr 2; rw [decide_eq_decide]; omega
theorem gtP_N (x y : Nat) : gtP (eN x) (eN y) = some (.bl (decide (y < x))) := by rw [gtP_int]; congr 2; rw [decide_eq_decide]; omega
theorem geP_N (x y : Nat) : geP (eN x) (eN y) = some (.bl (decide (y ≤ x))) := by rw [geP_int]; congr 2; rw [decide_eq_decide]; omega
theorem eqP_N (x y : Nat) : eqP (eN x) (eN y) = some (.bl (decide (x = y))) := by rw [eqP_int]; congr 2; rw [decide_eq_decide]; omega
theorem neP_N (x y : Nat) : neP (eN x) (eN y) = some (.bl (!decide (x = y))) := by unfold neP; rw [eqP_N]
theorem eqP_C (x y : Nat) : eqP (eC x) (eC y) = some (.bl (decide (x = y))) := by rw [eqP_str]; congr 2; rw [decide_eq_decide]; simp
theorem neP_C (x y : Nat) : neP (eC x) (eC y) = some (.bl (!decide (x = y))) := by unfold neP; rw [eqP_C]
theorem absP_I (x : Int) : absP [.int x] = some (eN x.natAbs) := by
  show some (Vl.int (if x < 0 then -x else x)) = _
  congr 2
  split <;> omega
theorem min2_N (x y : Nat) : minP [eN x, eN y] = some (eN (min x y)) := by
  show some (Vl.int (min (x : Int) (y : Int))) = _
  congr 2
  omega
theorem max2_N (x y : Nat) : maxP [eN x, eN y] = some (eN (max x y)) := by
  show some (Vl.int (max (x : Int) (y : Int))) = _
  congr 2
  omega
/-! texts -/
def catS (a b : List Nat) : Option (List Nat) := if a.length + b.length ≤ sizeLine then some (a ++ b) else none
theorem catS_r {a b : List Nat} : ∀ z, catS a b = some z → addP (.str a) (.str b) = some (.str z) := fun z h => by
  unfold catS at h
  split at h
  · rename_i hs; rw [addP_str hs]; injection h with h; rw [h]
  · cases h
def repS (z : List Nat) (n : Int) : Option (List Nat) := if z.length * n.toNat ≤ sizeLine ∧ -(2 ^ 62) ≤ n ∧ n < 2 ^ 62 then some (List.replicate n.toNat z).flatten else none
theorem repS_r {z : List Nat} {n : Int} : ∀ y, repS z n = some y → mulP (.str z) (.int n) = some (.str y) := fun y h => by
  unfold repS at h
  show (if z.length * n.toNat ≤ sizeLine ∧ -(2 ^ 62) ≤ n ∧ n < 2 ^ 62 then some (Vl.str (List.replicate n.toNat z).flatten) else none) = _
  split at h
  · rename_i hs; rw [if_pos hs]; injection h with h; rw [h]
  · cases h
/-- one sign, so often -/
def repC (c : Nat) (n : Nat) : Option (List Nat) := if n ≤ 16777216 then some (List.replicate n c) else none
theorem repC_r {c n : Nat} : ∀ y, repC c n = some y → mulP (eC c) (eN n) = some (.str y) := fun y h => by
  unfold repC at h
  split at h
  · rename_i hs; rw [mulP_s1 hs]; injection h with h; rw [h]
  · cases h
def szO {α : Type} (z : List Nat) (x : α) : Option α := if z.length ≤ sizeLine then some x else none
theorem lenS_r {z : List Nat} : ∀ y, szO z z.length = some y → lenP [.str z] = some (eN y) := fun y h => by
  unfold szO at h
  split at h
  · rename_i hs; rw [lenP_str hs]; injection h with h; rw [h]
  · cases h
theorem itS_r {z : List Nat} : ∀ y, szO z z = some y → items (.str z) = some (y.map eC) := fun y h => by
  unfold szO at h
  split at h
  · rename_i hs; rw [items_str hs]; injection h with h; rw [h]
  · cases h
theorem slS_r {z : List Nat} {u v : Option Int} : ∀ y, szO z (cutL z u v) = some y → slP (.str z) u v = some (.str y) := fun y h => by
  unfold szO at h
  show (if z.length ≤ sizeLine then some (Vl.str (cutL z u v)) else none) = _
  split at h
  · rename_i hs; rw [if_pos hs]; injection h with h; rw [h]
  · cases h
theorem cut_mid {α : Type} (xs : List α) (a b : Nat) : cutL xs (some (a : Int)) (some (b : Int)) = (xs.drop a).take (b - a) := by
  unfold cutL
  rw [HT.sIx_nat, HT.sIx_nat]
  by_cases ha : a ≤ xs.length
  · rw [Nat.min_eq_left ha]
    by_cases hb : b ≤ xs.length
    · rw [Nat.min_eq_left hb]
    · rw [Nat.min_eq_right (by omega), List.take_of_length_le (by rw [List.length_drop]; omega), List.take_of_length_le (by rw [List.length_drop]; omega)]
  · rw [List.drop_eq_nil_of_le (by omega : xs.length ≤ min a xs.length), List.drop_eq_nil_of_le (by omega : xs.length ≤ a), List.take_nil, List.take_nil]
theorem slS_take {z : List Nat} {k : Nat} : ∀ y, szO z (z.take k) = some y → slP (.str z) none (some (k : Int)) = some (.str y) := fun y h => slS_r y (by rw [cut_take]; exact h)
theorem slS_drop {z : List Nat} {k : Nat} : ∀ y, szO z (z.drop k) = some y → slP (.str z) (some (k : Int)) none = some (.str y) := fun y h => slS_r y (by rw [cut_drop]; exact h)
theorem slS_mid {z : List Nat} {a b : Nat} : ∀ y, szO z ((z.drop a).take (b - a)) = some y → slP (.str z) (some (a : Int)) (some (b : Int)) = some (.str y) := fun y h => slS_r y (by rw [cut_mid]; exact h)
theorem back_S {z : List Nat} : ∀ y, szO z z.reverse = some y → backP (.str z) = some (.str y) := fun y h => by
  unfold szO at h
  show (if z.length ≤ sizeLine then some (Vl.str z.reverse) else none) = _
  split at h
  · rename_i hs; rw [if_pos hs]; injection h with h; rw [h]
  · cases h
def ixS (z : List Nat) (i : Int) : Option Nat := if z.length ≤ sizeLine then atI z i else none
theorem ixS_r {z : List Nat} {i : Int} : ∀ y, ixS z i = some y → ixP (.str z) (.int i) = some (eC y) := fun y h => by
  unfold ixS at h
  split at h
  · rename_i hs; exact ixP_str hs h
  · cases h
def joinO (zs : List (List Nat)) : Option (List Nat) := if (zs.map (·.length)).sum ≤ sizeLine then some zs.flatten else none
theorem joinO_r {zs : List (List Nat)} : ∀ y, joinO zs = some y → join1 (.str []) [eLs Vl.str zs] = some (.str y) := fun y h => by
  unfold joinO at h
  split at h
  · rename_i hs
    have := join_map (p := fun z : List Nat => z) (xs := zs) (by simpa using hs)
    rw [this]
    injection h with h
    rw [← h]
    simp
  · cases h
theorem sumOne : ∀ zs : List Nat, (zs.map fun _ => 1).sum = zs.length
  | [] => rfl
  | _ :: r => by rw [List.map_cons, List.sum_cons, sumOne r, List.length_cons]; omega
def joinC (zs : List Nat) : Option (List Nat) := if zs.length ≤ sizeLine then some zs else none
theorem joinC_r {zs : List Nat} : ∀ y, joinC zs = some y → join1 (.str []) [eLs eC zs] = some (.str y) := fun y h => by
  unfold joinC at h
  split at h
  · rename_i hs
    have := join_map (p := fun z : Nat => [z]) (xs := zs) (by rw [List.map_map, show ((fun z : List Nat => z.length) ∘ fun z : Nat => [z]) = fun _ => 1 from rfl, sumOne]; exact hs)
    rw [this]
    injection h with h
    rw [← h, flat1]
  · cases h
theorem countS_C (z : List Nat) (c : Nat) : scountP (.str z) [eC c] = some (eN (z.count c)) := rfl
/-! lists and tuples -/
theorem len_map (e : τ → Vl) (xs : List τ) : lenP [eLs e xs] = some (eN xs.length) := by rw [lenP_lst, List.length_map]
theorem len_mapT (e : τ → Vl) (xs : List τ) : lenP [eVt e xs] = some (eN xs.length) := by rw [lenP_tup, List.length_map]
def catL (a b : List τ) : Option (List τ) := if a.length + b.length ≤ sizeLine then some (a ++ b) else none
theorem catL_r {e : τ → Vl} {a b : List τ} : ∀ z, catL a b = some z → catP (eLs e a) (eLs e b) = some (eLs e z) := fun z h => by
  unfold catL at h
  show (if (a.map e).length + (b.map e).length ≤ sizeLine then some (Vl.lst (a.map e ++ b.map e)) else none) = _
  rw [List.length_map, List.length_map]
  split at h
  · rename_i hs; rw [if_pos hs]; injection h with h; rw [← h, ← List.map_append]
  · cases h
theorem catV_r {e : τ → Vl} {a b : List τ} : ∀ z, catL a b = some z → addP (eVt e a) (eVt e b) = some (eVt e z) := fun z h => by
  unfold catL at h
  show (if (a.map e).length + (b.map e).length ≤ sizeLine then some (Vl.tup (a.map e ++ b.map e)) else none) = _
  rw [List.length_map, List.length_map]
  split at h
  · rename_i hs; rw [if_pos hs]; injection h with h; rw [← h, ← List.map_append]
  · cases h
theorem catT_r {xs ys : List Vl} (h : Nat.ble (xs.length + ys.length) 16777216 = true) : addP (.tup xs) (.tup ys) = some (.tup (xs ++ ys)) := if_pos (szl (Nat.ble_eq.mp h))
theorem atI_ap {e : τ → Vl} {xs : List τ} {i : Int} : ∀ y, atI xs i = some y → ixP (eLs e xs) (.int i) = some (e y) := fun y h => by rw [ixP_lst]; exact atI_map h
theorem atI_apT {e : τ → Vl} {xs : List τ} {i : Int} : ∀ y, atI xs i = some y → ixP (eVt e xs) (.int i) = some (e y) := fun y h => by rw [ixP_tup]; exact atI_map h
theorem at_n {xs : List τ} {i : Nat} : ∀ y, xs[i]? = some y → atI xs (i : Int) = some y := fun y h => L2.atI_nat h
theorem ix_n {e : τ → Vl} {xs : List τ} {i : Nat} : ∀ y, xs[i]? = some y → ixP (eLs e xs) (eN i) = some (e y) := fun y h => atI_ap y (at_n y h)
theorem ix_nT {e : τ → Vl} {xs : List τ} {i : Nat} : ∀ y, xs[i]? = some y → ixP (eVt e xs) (eN i) = some (e y) := fun y h => atI_apT y (at_n y h)
theorem ix_last {e : τ → Vl} {xs : List τ} : ∀ y, xs.getLast? = some y → ixP (eLs e xs) (.int (-1)) = some (e y) := fun y h => by
  obtain ⟨ys, rfl⟩ := List.getLast?_eq_some_iff.mp h
  exact atI_ap y (atI_neg1 ys y)
theorem ix_lastT {e : τ → Vl} {xs : List τ} : ∀ y, xs.getLast? = some y → ixP (eVt e xs) (.int (-1)) = some (e y) := fun y h => by
  obtain ⟨ys, rfl⟩ := List.getLast?_eq_some_iff.mp h
  exact atI_apT y (atI_neg1 ys y)
theorem ix_0 (x : Vl) (r : List Vl) : ixP (.tup (x :: r)) (.int 0) = some x := L2.atI_nat (j := 0) rfl
theorem ix_1 (x y : Vl) (r : List Vl) : ixP (.tup (x :: y :: r)) (.int 1) = some y := L2.atI_nat (j := 1) rfl
theorem ix_2 (x y z : Vl) (r : List Vl) : ixP (.tup (x :: y :: z :: r)) (.int 2) = some z := L2.atI_nat (j := 2) rfl
theorem ix_3 (x y z w : Vl) (r : List Vl) : ixP (.tup (x :: y :: z :: w :: r)) (.int 3) = some w := L2.atI_nat (j := 3) rfl
theorem cutL_map (e : τ → Vl) (xs : List τ) (u v : Option Int) : cutL (xs.map e) u v = (cutL xs u v).map e := by
  unfold cutL
  rw [List.length_map, List.map_take, List.map_drop]
theorem slL_r {e : τ → Vl} {xs : List τ} {u v : Option Int} : slL (eLs e xs) u v = some (eLs e (cutL xs u v)) := by
  show some (Vl.lst (cutL (xs.map e) u v)) = _
  rw [cutL_map]
theorem slV_r {e : τ → Vl} {xs : List τ} {u v : Option Int} : slP (eVt e xs) u v = some (eVt e (cutL xs u v)) := by
  show some (Vl.tup (cutL (xs.map e) u v)) = _
  rw [cutL_map]
theorem slL_take {e : τ → Vl} {xs : List τ} {k : Nat} : slL (eLs e xs) none (some (k : Int)) = some (eLs e (xs.take k)) := by rw [slL_r, cut_take]
theorem slL_drop {e : τ → Vl} {xs : List τ} {k : Nat} : slL (eLs e xs) (some (k : Int)) none = some (eLs e (xs.drop k)) := by rw [slL_r, cut_drop]
theorem slL_mid {e : τ → Vl} {xs : List τ} {a b : Nat} : slL (eLs e xs) (some (a : Int)) (some (b : Int)) = some (eLs e ((xs.drop a).take (b - a))) := by rw [slL_r, cut_mid]
theorem slV_take {e : τ → Vl} {xs : List τ} {k : Nat} : slP (eVt e xs) none (some (k : Int)) = some (eVt e (xs.take k)) := by rw [slV_r, cut_take]
theorem slV_drop {e : τ → Vl} {xs : List τ} {k : Nat} : slP (eVt e xs) (some (k : Int)) none = some (eVt e (xs.drop k)) := by rw [slV_r, cut_drop]
theorem slV_mid {e : τ → Vl} {xs : List τ} {a b : Nat} : slP (eVt e xs) (some (a : Int)) (some (b : Int)) = some (eVt e ((xs.drop a).take (b - a))) := by rw [slV_r, cut_mid]
theorem back_L {e : τ → Vl} {xs : List τ} : backL (eLs e xs) = some (eLs e xs.reverse) := by
  show some (Vl.lst (xs.map e).reverse) = _
  rw [← List.map_reverse]
theorem back_V {e : τ → Vl} {xs : List τ} : backP (eVt e xs) = some (eVt e xs.reverse) := by
  show some (Vl.tup (xs.map e).reverse) = _
  rw [← List.map_reverse]
theorem all_B (xs : List Bool) : allP [eLs Vl.bl xs] = some (.bl (xs.all id)) := allP_map (p := fun b : Bool => b)
theorem any_B (xs : List Bool) : anyP [eLs Vl.bl xs] = some (.bl (xs.any id)) := anyP_map (p := fun b : Bool => b)
theorem sum_I (xs : List Int) : sumP [eLs Vl.int xs] = some (.int xs.sum) := by
  have := sumP_map (p := fun i : Int => i) (xs := xs)
  simpa using this
theorem sumCast : ∀ xs : List Nat, (xs.map fun n : Nat => (n : Int)).sum = (xs.sum : Nat)
  | [] => rfl
  | a :: r => by rw [List.map_cons, List.sum_cons, List.sum_cons, sumCast r]; rfl
theorem sum_N (xs : List Nat) : sumP [eLs eN xs] = some (eN xs.sum) := by
  have := sumP_map (p := fun i : Nat => (i : Int)) (xs := xs)
  rw [this, sumCast]
theorem sum_IV (xs : List Int) : sumP [eVt Vl.int xs] = some (.int xs.sum) := by
  have := sumP_mapT (p := fun i : Int => i) (xs := xs)
  simpa using this
theorem sum_NV (xs : List Nat) : sumP [eVt eN xs] = some (eN xs.sum) := by
  have := sumP_mapT (p := fun i : Nat => (i : Int)) (xs := xs)
  rw [this, sumCast]
def minNO : List Nat → Option Nat
  | [] => none
  | a :: r => some (r.foldl min a)
def maxNO : List Nat → Option Nat
  | [] => none
  | a :: r => some (r.foldl max a)
def minIO (xs : List Int) : Option Int := if xs = [] then none else some (minI xs)
def maxIO (xs : List Int) : Option Int := if xs = [] then none else some (maxI xs)
theorem minIO_r {xs : List Int} : ∀ y, minIO xs = some y → minP [eLs Vl.int xs] = some (.int y) := fun y h => by
  show (allM asI (xs.map Vl.int)).bind _ = _
  rw [allM_map (h := fun i : Int => i) fun _ => rfl, List.map_id']
  unfold minIO at h
  show (if xs = [] then none else some (Vl.int (minI xs))) = _
  split at h
  · cases h
  · rename_i hs; rw [if_neg hs]; injection h with h; rw [h]
theorem maxIO_r {xs : List Int} : ∀ y, maxIO xs = some y → maxP [eLs Vl.int xs] = some (.int y) := fun y h => by
  show (allM asI (xs.map Vl.int)).bind _ = _
  rw [allM_map (h := fun i : Int => i) fun _ => rfl, List.map_id']
  unfold maxIO at h
  show (if xs = [] then none else some (Vl.int (maxI xs))) = _
  split at h
  · cases h
  · rename_i hs; rw [if_neg hs]; injection h with h; rw [h]
theorem foldl_minC : ∀ (r : List Nat) (a : Nat), (r.map fun n : Nat => (n : Int)).foldl min (a : Int) = ((r.foldl min a : Nat) : Int)
  | [], _ => rfl
  | b :: r, a => by
    rw [List.map_cons, List.foldl_cons, List.foldl_cons, show min (a : Int) (b : Int) = ((min a b : Nat) : Int) by omega, foldl_minC r]
theorem foldl_maxC : ∀ (r : List Nat) (a : Nat), (r.map fun n : Nat => (n : Int)).foldl max (a : Int) = ((r.foldl max a : Nat) : Int)
  | [], _ => rfl
  | b :: r, a => by
    rw [List.map_cons, List.foldl_cons, List.foldl_cons, show max (a : Int) (b : Int) = ((max a b : Nat) : Int) by omega, foldl_maxC r]
theorem minNO_r {xs : List Nat} : ∀ y, minNO xs = some y → minP [eLs eN xs] = some (eN y) := fun y h => by
  cases xs with
  | nil => cases h
  | cons a r =>
    injection h with h
    show (allM asI ((a :: r).map eN)).bind _ = _
    rw [allM_map (h := fun i : Nat => (i : Int)) fun _ => rfl]
    show some (Vl.int ((r.map fun n : Nat => (n : Int)).foldl min (a : Int))) = _
    rw [foldl_minC, h]
theorem maxNO_r {xs : List Nat} : ∀ y, maxNO xs = some y → maxP [eLs eN xs] = some (eN y) := fun y h => by
  cases xs with
  | nil => cases h
  | cons a r =>
    injection h with h
    show (allM asI ((a :: r).map eN)).bind _ = _
    rw [allM_map (h := fun i : Nat => (i : Int)) fun _ => rfl]
    show some (Vl.int ((r.map fun n : Nat => (n : Int)).foldl max (a : Int))) = _
    rw [foldl_maxC, h]
theorem cnt_cast (xs : List Nat) (k : Nat) : (xs.map fun n : Nat => (n : Int)).count (k : Int) = xs.count k := by
  induction xs with
  | nil => rfl
  | cons a r ih =>
    rw [List.map_cons, List.count_cons, List.count_cons, ih]
    congr 1
    by_cases h : a = k
    · simp [h]
    · have : ¬ (a : Int) = (k : Int) := by omega
      simp [h, this]
theorem count_N (xs : List Nat) (k : Nat) : lcountP (eLs eN xs) [eN k] = some (eN (xs.count k)) := by
  show (allM asI (xs.map eN)).map _ = _
  rw [allM_map (h := fun i : Nat => (i : Int)) fun _ => rfl]
  show some (Vl.int _) = _
  rw [cnt_cast]
theorem count_I (xs : List Int) (k : Int) : lcountP (eLs Vl.int xs) [.int k] = some (eN (xs.count k)) := by
  show (allM asI (xs.map Vl.int)).map _ = _
  rw [allM_map (h := fun i : Int => i) fun _ => rfl, List.map_id']
  rfl
/-! equality of data -/
def Dat [DecidableEq τ] (e : τ → Vl) : Prop := ∀ a b, eqD (e a) (e b) = decide (a = b)
def Sh (d : Nat) (e : τ → Vl) : Prop := ∀ x, shp d (e x) = true
theorem dat_I : Dat Vl.int := eqD_int
theorem dat_N : Dat eN := fun a b => by rw [eqD_int, decide_eq_decide]; omega
theorem dat_B : Dat Vl.bl := eqD_bl
theorem dat_S : Dat Vl.str := eqD_str
theorem dat_C : Dat eC := fun a b => by rw [eqD_str, decide_eq_decide]; simp
variable [DecidableEq τ] [DecidableEq τ1] [DecidableEq τ2] [DecidableEq τ3] [DecidableEq τ4] {e : τ → Vl} {e1 : τ1 → Vl} {e2 : τ2 → Vl} {e3 : τ3 → Vl} {e4 : τ4 → Vl} {d : Nat}
theorem dat_T2 (h1 : Dat e1) (h2 : Dat e2) : Dat (eT2 e1 e2) := fun a b => by
  rw [eqD_tup, eqDs_cons, eqDs_cons, eqDs_nil, h1, h2, Bool.eq_iff_iff]
  obtain ⟨a1, a2⟩ := a; obtain ⟨b1, b2⟩ := b
  simp
theorem dat_T3 (h1 : Dat e1) (h2 : Dat e2) (h3 : Dat e3) : Dat (eT3 e1 e2 e3) := fun a b => by
  rw [eqD_tup, eqDs_cons, eqDs_cons, eqDs_cons, eqDs_nil, h1, h2, h3, Bool.eq_iff_iff]
  obtain ⟨a1, a2, a3⟩ := a; obtain ⟨b1, b2, b3⟩ := b
  simp
theorem dat_T4 (h1 : Dat e1) (h2 : Dat e2) (h3 : Dat e3) (h4 : Dat e4) : Dat (eT4 e1 e2 e3 e4) := fun a b => by
  rw [eqD_tup, eqDs_cons, eqDs_cons, eqDs_cons, eqDs_cons, eqDs_nil, h1, h2, h3, h4, Bool.eq_iff_iff]
  obtain ⟨a1, a2, a3, a4⟩ := a; obtain ⟨b1, b2, b3, b4⟩ := b
  simp
theorem dat_L (h : Dat e) : Dat (eLs e) := fun a b => by rw [eqD_lst, eqDs_map h]
theorem dat_V (h : Dat e) : Dat (eVt e) := fun a b => by rw [eqD_tup, eqDs_map h]
theorem sh_I : Sh d Vl.int := fun _ => by cases d <;> rfl
theorem sh_N : Sh d eN := fun _ => by cases d <;> rfl
theorem sh_B : Sh d Vl.bl := fun _ => by cases d <;> rfl
theorem sh_T2 (h1 : Sh d e1) (h2 : Sh d e2) : Sh (d + 1) (eT2 e1 e2) := fun x => by
  show ([e1 x.1, e2 x.2]).all (shp d) = true
  simp [h1 x.1, h2 x.2]
theorem sh_T3 (h1 : Sh d e1) (h2 : Sh d e2) (h3 : Sh d e3) : Sh (d + 1) (eT3 e1 e2 e3) := fun x => by
  show ([e1 x.1, e2 x.2.1, e3 x.2.2]).all (shp d) = true
  simp [h1 x.1, h2 x.2.1, h3 x.2.2]
theorem sh_T4 (h1 : Sh d e1) (h2 : Sh d e2) (h3 : Sh d e3) (h4 : Sh d e4) : Sh (d + 1) (eT4 e1 e2 e3 e4) := fun x => by
  show ([e1 x.1, e2 x.2.1, e3 x.2.2.1, e4 x.2.2.2]).all (shp d) = true
  simp [h1 x.1, h2 x.2.1, h3 x.2.2.1, h4 x.2.2.2]
theorem sh_L (h : Sh d e) : Sh (d + 1) (eLs e) := fun x => by
  show (x.map e).all (shp d) = true
  rw [List.all_map, List.all_eq_true]
  exact fun y _ => h y
theorem sh_V (h : Sh d e) : Sh (d + 1) (eVt e) := fun x => by
  show (x.map e).all (shp d) = true
  rw [List.all_map, List.all_eq_true]
  exact fun y _ => h y
theorem eqP_gen {x y : Vl} (hx : shp deep x = true) (hy : shp deep y = true) : eqP x y = some (.bl (eqD x y)) := by
  unfold eqP
  split
  · rw [eqD_str]
  · rw [eqD_int]
  · rw [if_pos ⟨hx, hy⟩]
theorem eq_D (h : Dat e) (s : Sh 12 e) (x y : τ) : eqP (e x) (e y) = some (.bl (decide (x = y))) := by rw [eqP_gen (s x) (s y), h]
theorem ne_D (h : Dat e) (s : Sh 12 e) (x y : τ) : neP (e x) (e y) = some (.bl (!decide (x = y))) := by unfold neP; rw [eq_D h s]
/-- where texts are among them -/
def eqO (e : τ → Vl) (x y : τ) : Option Bool := if shp deep (e x) = true ∧ shp deep (e y) = true then some (decide (x = y)) else none
def neO (e : τ → Vl) (x y : τ) : Option Bool := if shp deep (e x) = true ∧ shp deep (e y) = true then some (!decide (x = y)) else none
theorem eqO_r (h : Dat e) {x y : τ} : ∀ k, eqO e x y = some k → eqP (e x) (e y) = some (.bl k) := fun k hk => by
  unfold eqO at hk
  split at hk
  · rename_i s; rw [eqP_gen s.1 s.2, h]; injection hk with hk; rw [hk]
  · cases hk
theorem neO_r (h : Dat e) {x y : τ} : ∀ k, neO e x y = some k → neP (e x) (e y) = some (.bl k) := fun k hk => by
  unfold neO at hk
  split at hk
  · rename_i s; unfold neP; rw [eqP_gen s.1 s.2, h]; injection hk with hk; rw [← hk]
  · cases hk
theorem any_D (h : Dat e) (x : τ) (ys : List τ) : (ys.map e).any (fun y => eqD y (e x)) = decide (x ∈ ys) := by
  rw [List.any_map, Bool.eq_iff_iff, List.any_eq_true, decide_eq_true_eq]
  constructor
  · rintro ⟨y, hy, q⟩
    have q : eqD (e y) (e x) = true := q
    rw [h, decide_eq_true_eq] at q
    exact q ▸ hy
  · intro hx
    exact ⟨x, hx, by show eqD (e x) (e x) = true; rw [h, decide_eq_true rfl]⟩
theorem inP_lst {x : Vl} {ys : List Vl} (hx : shp deep x = true) (hy : shp deep (.lst ys) = true) : inP x (.lst ys) = some (.bl (ys.any fun y => eqD y x)) := by
  have : inP x (.lst ys) = if shp deep x = true ∧ shp deep (.lst ys) = true then some (.bl (ys.any fun y => eqD y x)) else none := by
    cases x with
    | str z =>
      match z with
      | [] => rfl
      | [_] => rfl
      | _ :: _ :: _ => rfl
    | _ => rfl
  rw [this, if_pos ⟨hx, hy⟩]
theorem inP_tupl {x : Vl} {ys : List Vl} (hx : shp deep x = true) (hy : shp deep (.tup ys) = true) : inP x (.tup ys) = some (.bl (ys.any fun y => eqD y x)) := by
  have : inP x (.tup ys) = if shp deep x = true ∧ shp deep (.tup ys) = true then some (.bl (ys.any fun y => eqD y x)) else none := by
    cases x with
    | str z =>
      match z with
      | [] => rfl
      | [_] => rfl
      | _ :: _ :: _ => rfl
    | _ => rfl
  rw [this, if_pos ⟨hx, hy⟩]
theorem in_L (h : Dat e) (s : Sh 12 e) (s' : Sh 11 e) (x : τ) (ys : List τ) : inP (e x) (eLs e ys) = some (.bl (decide (x ∈ ys))) := by rw [inP_lst (s x) (sh_L s' ys), any_D h]
theorem in_V (h : Dat e) (s : Sh 12 e) (s' : Sh 11 e) (x : τ) (ys : List τ) : inP (e x) (eVt e ys) = some (.bl (decide (x ∈ ys))) := by rw [inP_tupl (s x) (sh_V s' ys), any_D h]
theorem nin_L (h : Dat e) (s : Sh 12 e) (s' : Sh 11 e) (x : τ) (ys : List τ) : notInP (e x) (eLs e ys) = some (.bl (!decide (x ∈ ys))) := by unfold notInP; rw [in_L h s s']; rfl
theorem nin_V (h : Dat e) (s : Sh 12 e) (s' : Sh 11 e) (x : τ) (ys : List τ) : notInP (e x) (eVt e ys) = some (.bl (!decide (x ∈ ys))) := by unfold notInP; rw [in_V h s s']; rfl
end
/-! walks -/
section
variable {τ σ : Type}
theorem range_N {n : Nat} : ∀ z, (if n ≤ 16777216 then some (List.range n) else none) = some z → iRange1 [eN n] = some (z.map eN) := fun z h => by
  split at h
  · rename_i hs; injection h with h; rw [range1 hs, ← h]
  · cases h
def rngO (n : Nat) : Option (List Nat) := if n ≤ 16777216 then some (List.range n) else none
theorem rngO_r {n : Nat} : ∀ z, rngO n = some z → iRange1 [eN n] = some (z.map eN) := range_N
def rng2O (a b : Nat) : Option (List Nat) := if a ≤ 16777216 ∧ b ≤ 16777216 then some (List.range' a (b - a)) else none
theorem rng2O_r {a b : Nat} : ∀ z, rng2O a b = some z → iRange2 [eN a, eN b] = some (z.map eN) := fun z h => by
  unfold rng2O at h
  split at h
  · rename_i hs
    injection h with h
    obtain ⟨h1, h2⟩ := hs
    show (if ((b : Int) - a).toNat ≤ sizeLine ∧ -(2 ^ 62) ≤ (a : Int) ∧ (a : Int) < 2 ^ 62 ∧ -(2 ^ 62) ≤ (b : Int) ∧ (b : Int) < 2 ^ 62 then some (rangeI a b) else none) = _
    rw [if_pos ⟨szl (k := 16777216) (by omega), by omega, by omega, by omega, by omega⟩, ← h]
    congr 1
    unfold rangeI
    rw [show ((b : Int) - a).toNat = b - a by omega, List.range'_eq_map_range, List.map_map]
    rfl
  · cases h
def rngI (a b : Int) : List Int := (List.range (b - a).toNat).map fun k : Nat => a + k
def rngIO (a b : Int) : Option (List Int) := if (b - a).toNat ≤ sizeLine ∧ -(2 ^ 62) ≤ a ∧ a < 2 ^ 62 ∧ -(2 ^ 62) ≤ b ∧ b < 2 ^ 62 then some (rngI a b) else none
theorem rngIO_r {a b : Int} : ∀ z, rngIO a b = some z → iRange2 [.int a, .int b] = some (z.map Vl.int) := fun z h => by
  unfold rngIO at h
  show (if (b - a).toNat ≤ sizeLine ∧ -(2 ^ 62) ≤ a ∧ a < 2 ^ 62 ∧ -(2 ^ 62) ≤ b ∧ b < 2 ^ 62 then some (rangeI a b) else none) = _
  split at h
  · rename_i hs; rw [if_pos hs]; injection h with h; rw [← h]; unfold rangeI rngI; rw [List.map_map]; rfl
  · cases h
theorem rngI1_r {b : Int} : ∀ z, rngIO 0 b = some z → iRange1 [.int b] = some (z.map Vl.int) := fun z h => by
  unfold rngIO at h
  show (if (b - 0).toNat ≤ sizeLine ∧ -(2 ^ 62) ≤ b ∧ b < 2 ^ 62 then some (rangeI 0 b) else none) = _
  split at h
  · rename_i hs; rw [if_pos ⟨hs.1, hs.2.2.2⟩]; injection h with h; rw [← h]; unfold rangeI rngI; rw [List.map_map]; rfl
  · cases h
theorem zip_LL (e : τ → Vl) (f : σ → Vl) : ∀ (xs : List τ) (ys : List σ), zip2L (xs.map e) (ys.map f) = (xs.zip ys).map (eT2 e f)
  | [], _ => by simp [zip2L]
  | _ :: _, [] => by simp [zip2L]
  | x :: xs, y :: ys => by
    have := zip_LL e f xs ys
    unfold zip2L at this ⊢
    simp [this]
theorem zip_of {u v : Vl} {xs ys : List Vl} (hu : items u = some xs) (hv : items v = some ys) : zip2P [u, v] = some (zip2L xs ys) := by
  show (items u).bind _ = _
  rw [hu]
  show (items v).map _ = _
  rw [hv]
  rfl
def enN : Nat → List τ → List (Nat × τ)
  | _, [] => []
  | n, x :: r => (n, x) :: enN (n + 1) r
theorem enL_map (e : τ → Vl) : ∀ (xs : List τ) (n : Nat), enL n (xs.map e) = (enN n xs).map (eT2 eN e)
  | [], _ => rfl
  | x :: r, n => by rw [List.map_cons, enL, enL_map e r, enN, List.map_cons]
theorem en_of {u : Vl} {xs : List Vl} (hu : items u = some xs) : enP [u] = some (enL 0 xs) := by
  show (items u).map _ = _
  rw [hu]
  rfl
theorem en_L (e : τ → Vl) (xs : List τ) : enP [eLs e xs] = some ((enN 0 xs).map (eT2 eN e)) := by rw [en_of rfl, enL_map]
theorem en_V (e : τ → Vl) (xs : List τ) : enP [eVt e xs] = some ((enN 0 xs).map (eT2 eN e)) := by rw [en_of rfl, enL_map]
theorem en_S {z : List Nat} : ∀ y, szO z (enN 0 z) = some y → enP [.str z] = some (y.map (eT2 eN eC)) := fun y h => by
  unfold szO at h
  split at h
  · rename_i hs; rw [en_of (items_str hs), enL_map]; injection h with h; rw [h]
  · cases h
theorem zip_S {z : List Nat} {v : Vl} {f : σ → Vl} {ys : List σ} (hv : items v = some (ys.map f)) : ∀ y, szO z (z.zip ys) = some y → zip2P [.str z, v] = some (y.map (eT2 eC f)) := fun y h => by
  unfold szO at h
  split at h
  · rename_i hs; rw [zip_of (items_str hs) hv, zip_LL]; injection h with h; rw [h]
  · cases h
theorem zip_S2 {z : List Nat} {v : Vl} {f : σ → Vl} {ys : List σ} (hv : items v = some (ys.map f)) : ∀ y, szO z (ys.zip z) = some y → zip2P [v, .str z] = some (y.map (eT2 f eC)) := fun y h => by
  unfold szO at h
  split at h
  · rename_i hs; rw [zip_of hv (items_str hs), zip_LL]; injection h with h; rw [h]
  · cases h
theorem zip_SS {z y : List Nat} : ∀ w, szO z (if y.length ≤ sizeLine then z.zip y else []) = some w → y.length ≤ sizeLine → zip2P [.str z, .str y] = some (w.map (eT2 eC eC)) := fun w h hy => by
  unfold szO at h
  split at h
  · rename_i hs; rw [zip_of (items_str hs) (items_str hy), zip_LL]; injection h with h; rw [← h]
  · cases h
theorem zip_any {u v : Vl} {e : τ → Vl} {f : σ → Vl} {xs : List τ} {ys : List σ} (hu : items u = some (xs.map e)) (hv : items v = some (ys.map f)) : zip2P [u, v] = some ((xs.zip ys).map (eT2 e f)) := by rw [zip_of hu hv, zip_LL]
/-! plain values -/
theorem im_T2 {τ1 τ2 : Type} {e1 : τ1 → Vl} {e2 : τ2 → Vl} (h1 : ∀ x, imm (e1 x) = true) (h2 : ∀ x, imm (e2 x) = true) (p : τ1 × τ2) : imm (eT2 e1 e2 p) = true := by
  show imms [_, _] = true
  simp [imms, h1 p.1, h2 p.2]
theorem im_T3 {τ1 τ2 τ3 : Type} {e1 : τ1 → Vl} {e2 : τ2 → Vl} {e3 : τ3 → Vl} (h1 : ∀ x, imm (e1 x) = true) (h2 : ∀ x, imm (e2 x) = true) (h3 : ∀ x, imm (e3 x) = true) (p : τ1 × τ2 × τ3) : imm (eT3 e1 e2 e3 p) = true := by
  show imms [_, _, _] = true
  simp [imms, h1 p.1, h2 p.2.1, h3 p.2.2]
theorem im_T4 {τ1 τ2 τ3 τ4 : Type} {e1 : τ1 → Vl} {e2 : τ2 → Vl} {e3 : τ3 → Vl} {e4 : τ4 → Vl} (h1 : ∀ x, imm (e1 x) = true) (h2 : ∀ x, imm (e2 x) = true) (h3 : ∀ x, imm (e3 x) = true) (h4 : ∀ x, imm (e4 x) = true) (p : τ1 × τ2 × τ3 × τ4) : imm (eT4 e1 e2 e3 e4 p) = true := by
  show imms [_, _, _, _] = true
  simp [imms, h1 p.1, h2 p.2.1, h3 p.2.2.1, h4 p.2.2.2]
theorem ims_map {e : τ → Vl} (h : ∀ x, imm (e x) = true) : ∀ xs : List τ, imms (xs.map e) = true
  | [] => rfl
  | x :: r => by rw [List.map_cons, imms, h x, ims_map h r]; rfl
theorem im_V {e : τ → Vl} (h : ∀ x, imm (e x) = true) (xs : List τ) : imm (eVt e xs) = true := ims_map h xs
theorem im_O {e : τ → Vl} (h : ∀ x, imm (e x) = true) (x : Option τ) : imm (eO e x) = true := by cases x with | none => rfl | some y => exact h y
theorem im_I (x : Int) : imm (Vl.int x) = true := rfl
theorem im_N (x : Nat) : imm (eN x) = true := rfl
theorem im_B (x : Bool) : imm (Vl.bl x) = true := rfl
theorem im_S (x : List Nat) : imm (Vl.str x) = true := rfl
theorem im_C (x : Nat) : imm (eC x) = true := rfl
theorem im_U (x : Unit) : imm (eU x) = true := rfl
theorem im_A {e : τ → Vl} (h : ∀ x, imm (e x) = true := by intro x; rfl) : ∀ x, imm (e x) = true := h
theorem ow_L {e : τ → Vl} (h : ∀ x, imm (e x) = true) (xs : List τ) : ownable (eLs e xs) = true := ims_map h xs
theorem ims_nil : imms [] = true := rfl
theorem ims_cons {x : Vl} {xs : List Vl} (h : imm x = true) (h2 : imms xs = true) : imms (x :: xs) = true := by rw [imms, h, h2]; rfl
end
end PyA
/-! PyNe: facts on defs proved by hand, as plain functions; the register's draws. -/
namespace PyA
open PySem L2
section
variable {C α β γ τ σ υ : Type}
open Classical in
noncomputable def extN (p : Prop) (r : τ) : M Unit τ := if p then ret r else bad
theorem ext_ok {p : Prop} {r : τ} (h : p) : extN p r = ret r := if_pos h
theorem ext_r {p : Prop} {r : τ} {m : M Unit Vl} {e : τ → Vl} (h : p → m = ret (e r)) : RefG (Em e) m (extN p r) := by
  unfold extN
  split
  · rename_i hp
    rw [h hp]
    exact RefG.ret rfl
  · exact fun _ => trivial
/-- a mirror's own answer, looked at -/
def viaM (dec : Vl → Option τ) (m : M C Vl) : M C τ := bnd m fun v => opt (dec v)
theorem via_r {dec : Vl → Option τ} {m : M C Vl} {e : τ → Vl} (h : ∀ v x, dec v = some x → v = e x) : RefG (Em e) m (viaM dec m) := fun c => by
  unfold viaM bnd
  cases hm : m c with
  | ok p =>
    dsimp only
    cases hd : dec p.1 with
    | none => exact trivial
    | some x => exact ⟨p.1, rfl, h _ _ hd⟩
  | ex n => rfl
  | bad => trivial
theorem via_tot {dec : Vl → Option τ} {m : M C Vl} {c : C} {Φ : τ → C → Prop} (h : Tot m c fun v c' => ∃ x, dec v = some x ∧ Φ x c') : Tot (viaM dec m) c Φ := by
  unfold viaM
  refine Tot.bnd (h.mono fun v c' ⟨x, e, q⟩ => ?_)
  rw [e, o_some, tot_ret]
  exact q
theorem via_val {dec : Vl → Option τ} {m : M C Vl} {v : Vl} {x : τ} (h : m = ret v) (hd : dec v = some x) : viaM dec m = ret x := by
  unfold viaM
  rw [h, r_bnd, hd]
  rfl
theorem asI_r : ∀ v x, asI v = some x → v = .int x := fun v x h => by cases v <;> simp [asI] at h; rw [h]
theorem asS_r : ∀ v x, asS v = some x → v = .str x := fun v x h => by cases v <;> simp [asS] at h; rw [h]
theorem asB_r : ∀ v x, asB v = some x → v = .bl x := fun v x h => by cases v <;> simp [asB] at h; rw [h]
/-! under Tot -/
theorem Tot.ret {a : α} {c : C} {Φ : α → C → Prop} (h : Φ a c) : Tot (ret a) c Φ := ⟨a, c, rfl, h⟩
theorem Tot.eq {m m' : M C α} {c : C} {Φ : α → C → Prop} (e : m = m') (h : Tot m' c Φ) : Tot m c Φ := e ▸ h
theorem Tot.bnd0 {m : M C α} {a : α} {k : α → M C β} {c : C} {Φ : β → C → Prop} (e : m = PyA.ret a) (h : Tot (k a) c Φ) : Tot (PyA.bnd m k) c Φ := by
  subst e
  exact h
theorem Tot.bind {m : M C α} {k : α → M C β} {c : C} {Φ : β → C → Prop} {Ψ : α → C → Prop} (h : Tot m c Ψ) (hk : ∀ a c', Ψ a c' → Tot (k a) c' Φ) : Tot (PyA.bnd m k) c Φ := Tot.bnd (h.mono hk)
/-- a loop under an invariant of its state -/
theorem Tot.foldN {step : σ → υ → M C σ} {I : List υ → σ → C → Prop} (hs : ∀ x r s c, I (x :: r) s c → Tot (step s x) c fun s' c' => I r s' c') : ∀ (xs : List υ) (s : σ) (c : C), I xs s c → Tot (PyA.foldN step xs s) c fun s' c' => I [] s' c'
  | [], s, c, i => Tot.ret i
  | x :: r, s, c, i => Tot.bind (hs x r s c i) fun s' c' i' => Tot.foldN hs r s' c' i'
/-- a loop that may return (never here), under an invariant -/
theorem Tot.loopN {ρ : Type} {step : σ → υ → M C (Fl σ ρ)} {I : List υ → σ → C → Prop} (hs : ∀ x r s c, I (x :: r) s c → Tot (step s x) c fun f c' => ∃ s', (f = .nx s' ∨ f = .ct s') ∧ I r s' c') : ∀ (xs : List υ) (s : σ) (c : C), I xs s c → Tot (PyA.loopN step xs s) c fun f c' => ∃ s', f = .nx s' ∧ I [] s' c'
  | [], s, c, i => Tot.ret ⟨s, rfl, i⟩
  | x :: r, s, c, i => Tot.bind (hs x r s c i) fun f c' ⟨s', e, i'⟩ => by
    rcases e with rfl | rfl <;> exact Tot.loopN hs r s' c' i'
theorem foldN_ok {step : σ → υ → M C σ} {g : σ → υ → σ} {P : List υ → σ → Prop} (hs : ∀ x r s, P (x :: r) s → step s x = ret (g s x) ∧ P r (g s x)) : ∀ (xs : List υ) (s : σ), P xs s → foldN step xs s = ret (xs.foldl g s) ∧ P [] (xs.foldl g s)
  | [], s, p => ⟨rfl, p⟩
  | x :: r, s, p => by
    obtain ⟨e, p'⟩ := hs x r s p
    obtain ⟨e2, p2⟩ := foldN_ok hs r _ p'
    exact ⟨by rw [foldN, e, r_bnd, e2]; rfl, p2⟩
/-- .. by what holds of the state and of what is still to come -/
theorem foldN_ex {step : σ → υ → M C σ} {P : List υ → σ → Prop} (hs : ∀ x r s, P (x :: r) s → ∃ s', step s x = ret s' ∧ P r s') : ∀ (xs : List υ) (s : σ), P xs s → ∃ s', foldN step xs s = ret s' ∧ P [] s'
  | [], s, p => ⟨s, rfl, p⟩
  | x :: r, s, p => by
    obtain ⟨s1, e, p1⟩ := hs x r s p
    obtain ⟨s2, e2, p2⟩ := foldN_ex hs r s1 p1
    exact ⟨s2, by rw [foldN, e, r_bnd, e2], p2⟩
theorem mapN_ok {f : υ → M C τ} {g : υ → τ} : ∀ (xs : List υ), (∀ x ∈ xs, f x = ret (g x)) → mapN f xs = ret (xs.map g)
  | [], _ => rfl
  | x :: r, h => by
    rw [mapN, h x List.mem_cons_self, n_ret, r_bnd, mapN_ok r fun y hy => h y (List.mem_cons_of_mem _ hy)]
    rfl
theorem compN_ok {t : υ → M C Bool} {f : υ → M C τ} {p : υ → Bool} {g : υ → τ} : ∀ (xs : List υ), (∀ x ∈ xs, t x = ret (p x)) → (∀ x ∈ xs, p x = true → f x = ret (g x)) → compN t f xs = ret ((xs.filter p).map g)
  | [], _, _ => rfl
  | x :: r, ht, hf => by
    rw [compN, ht x List.mem_cons_self, n_ret, r_bnd, compN_ok r (fun y hy => ht y (List.mem_cons_of_mem _ hy)) fun y hy => hf y (List.mem_cons_of_mem _ hy), List.filter_cons]
    cases h : p x with
    | true => rw [if_pos rfl, if_pos rfl, hf x List.mem_cons_self h]; rfl
    | false => rfl
theorem appO_ok {xs : List σ} {y : σ} (h : xs.length ≤ 1000000) : appO xs y = some (xs ++ [y]) := if_pos (Nat.lt_of_le_of_lt h (by decide))
theorem extO_ok {xs ys : List σ} (h : xs.length + ys.length ≤ 1000000) : extO xs ys = some (xs ++ ys) := if_pos (szl h)
theorem catL_ok {xs ys : List σ} (h : xs.length + ys.length ≤ 1000000) : catL xs ys = some (xs ++ ys) := if_pos (szl h)
theorem catS_ok {xs ys : List Nat} (h : xs.length + ys.length ≤ 1000000) : catS xs ys = some (xs ++ ys) := if_pos (szl h)
theorem szO_ok {z : List Nat} {x : α} (h : z.length ≤ 1000000) : szO z x = some x := if_pos (szl h)
theorem joinO_ok {zs : List (List Nat)} (h : (zs.map (·.length)).sum ≤ 1000000) : joinO zs = some zs.flatten := if_pos (szl h)
theorem joinC_ok {zs : List Nat} (h : zs.length ≤ 1000000) : joinC zs = some zs := if_pos (szl h)
theorem rngO_ok {n : Nat} (h : n ≤ 1000000) : rngO n = some (List.range n) := if_pos (by omega)
theorem rng2O_ok {a b : Nat} (h : a ≤ 1000000) (h2 : b ≤ 1000000) : rng2O a b = some (List.range' a (b - a)) := if_pos (by omega)
theorem repC_ok {c n : Nat} (h : n ≤ 1000000) : repC c n = some (List.replicate n c) := if_pos (by omega)
theorem ixS_ok {z : List Nat} {i : Int} (h : z.length ≤ 1000000) : ixS z i = atI z i := if_pos (szl h)
theorem put_ok {xs : List σ} {i : Nat} {y : σ} (h : i < xs.length) : putO xs (i : Int) y = some (xs.set i y) := by
  unfold putO
  have : ixN xs.length (i : Int) = some i := by
    unfold ixN
    rw [if_pos (by omega), if_pos (by omega)]
    rfl
  rw [this]
  rfl
theorem atI_ok {xs : List σ} {i : Nat} (h : i < xs.length) : atI xs (i : Int) = some xs[i] := atI_lt h
end
end PyA
/-! PyNf: dicts with keys that are ints or texts, order, answers seen as of another type. -/
namespace PyA
open PySem L2
section
variable {C α β γ τ σ υ κ : Type} {N : Nat} {l : List (Nat × Vl)} {ρ : PEnv} {i : Nat}
def toN (x : Int) : Option Nat := if 0 ≤ x then some x.toNat else none
theorem toN_ok {n : Nat} : toN (n : Int) = some n := by
  unfold toN
  rw [if_pos (by omega), Int.toNat_natCast]
theorem toN_sub {a b : Nat} (h : b ≤ a) : toN ((a : Int) - (b : Int)) = some (a - b) := by
  rw [show (a : Int) - (b : Int) = ((a - b : Nat) : Int) by omega, toN_ok]
theorem RefG.toN {m : M C Vl} {x : Int} (h : m = PyA.ret (.int x)) : RefG (Em eN) m (PyA.opt (PyA.toN x)) := by
  subst h
  unfold PyA.toN
  split
  · refine RefG.pure rfl ?_
    show Vl.int x = Vl.int _
    congr 1
    omega
  · exact fun _ => trivial
theorem RefG.toNm {m : M C Vl} {n : M C Int} (h : RefG (Em Vl.int) m n) : RefG (Em eN) m (PyA.bnd n fun x => PyA.opt (PyA.toN x)) := fun c => by
  have h := h c
  unfold PyA.bnd
  cases e1 : n c with
  | ok p =>
    rw [e1] at h
    obtain ⟨a, e2, g⟩ := h
    dsimp only
    by_cases hp : 0 ≤ p.1
    · rw [show PyA.toN p.1 = some p.1.toNat from if_pos hp]
      refine ⟨a, e2, ?_⟩
      rw [show a = Vl.int p.1 from g]
      show Vl.int p.1 = Vl.int _
      congr 1
      omega
    · rw [show PyA.toN p.1 = none from if_neg hp]
      exact trivial
  | ex n => rw [e1] at h; exact h
  | bad => trivial
theorem RefG.unO {m : M C Vl} {e : τ → Vl} {x : Option τ} (h : m = PyA.ret (eO e x)) : RefG (Em e) m (PyA.opt x) := by
  subst h
  cases x with
  | none => exact fun _ => trivial
  | some y => exact RefG.ret rfl
theorem RefG.unOm {m : M C Vl} {e : τ → Vl} {n : M C (Option τ)} (h : RefG (Em (eO e)) m n) : RefG (Em e) m (PyA.bnd n fun x => PyA.opt x) := fun c => by
  have h := h c
  unfold PyA.bnd
  cases e1 : n c with
  | ok p =>
    rw [e1] at h
    obtain ⟨a, e2, g⟩ := h
    obtain ⟨x, c'⟩ := p
    dsimp only at g ⊢
    cases x with
    | none => exact trivial
    | some y => exact ⟨a, e2, g⟩
  | ex n => rw [e1] at h; exact h
  | bad => trivial
theorem isN_of {e : τ → Vl} (h : ∀ x, isNon (e x) = some false) (x : Option τ) : isP (eO e x) .non = some (.bl x.isNone) := by
  cases x with
  | none => rfl
  | some y => show (isNon (e y)).map Vl.bl = _; rw [h]; rfl
theorem isP_O {e : τ → Vl} (x : Option τ) (h : ∀ x, isNon (e x) = some false) : isP (eO e x) .non = some (.bl x.isNone) := isN_of h x
theorem isNotP_O {e : τ → Vl} (x : Option τ) (h : ∀ x, isNon (e x) = some false) : isNotP (eO e x) .non = some (.bl (!x.isNone)) := by
  unfold isNotP
  rw [isN_of h]
  rfl
/-! dicts -/
def eDk (ke : κ → Key) (e : τ → Vl) (d : List (κ × τ)) : Vl := .dk (.k (d.map fun p => ke p.1)) (d.map fun p => e p.2)
abbrev kS (z : List Nat) : Key := .inr ⟨z.toArray⟩
abbrev kC (c : Nat) : Key := .inr ⟨[c].toArray⟩
abbrev kI (i : Int) : Key := .inl i
abbrev kN (i : Nat) : Key := .inl (i : Int)
def KInj (ke : κ → Key) : Prop := ∀ a b, ke a = ke b → a = b
theorem ki_S : KInj kS := fun a b h => by injection h with h; injection h with h; exact congrArg Array.toList h
theorem ki_C : KInj kC := fun a b h => by injection h with h; injection h with h; have := congrArg Array.toList h; injection this
theorem ki_I : KInj kI := fun a b h => by injection h
theorem ki_N : KInj kN := fun a b h => by injection h with h; omega
variable [DecidableEq κ]
def dset (d : List (κ × τ)) (k : κ) (y : τ) : List (κ × τ) := if (d.any fun p => decide (p.1 = k)) = true then d.map fun p => if p.1 = k then (p.1, y) else p else d ++ [(k, y)]
def dhas (d : List (κ × τ)) (k : κ) : Bool := d.any fun p => decide (p.1 = k)
def dget (d : List (κ × τ)) (k : κ) : Option τ := (d.find? fun p => decide (p.1 = k)).map (·.2)
def dputO (d : List (κ × τ)) (k : κ) (y : τ) : Option (List (κ × τ)) := if d.length < sizeLine then some (dset d k y) else none
theorem any_ke {ke : κ → Key} (hk : KInj ke) (k : κ) : ∀ d : List (κ × τ), ((d.map fun p => ke p.1).any fun j => decide (j = ke k)) = d.any fun p => decide (p.1 = k)
  | [] => rfl
  | p :: d => by
    rw [List.map_cons, List.any_cons, List.any_cons, any_ke hk k d]
    congr 1
    rw [decide_eq_decide]
    exact ⟨fun h => hk _ _ h, fun h => by rw [h]⟩
theorem zipW_ke {ke : κ → Key} (hk : KInj ke) {e : τ → Vl} (k : κ) (y : τ) : ∀ d : List (κ × τ), List.zipWith (fun j x => if j = ke k then e y else x) (d.map fun p => ke p.1) (d.map fun p => e p.2) = (d.map fun p => if p.1 = k then (p.1, y) else p).map fun p => e p.2
  | [] => rfl
  | p :: d => by
    rw [List.map_cons, List.map_cons, List.zipWith_cons_cons, List.map_cons, List.map_cons, zipW_ke hk k y d]
    congr 1
    by_cases h : p.1 = k
    · rw [if_pos h, if_pos (by rw [h])]
    · rw [if_neg h, if_neg fun z => h (hk _ _ z)]
theorem dput_r {ke : κ → Key} (hk : KInj ke) {e : τ → Vl} {vk : κ → Vl} (hv : ∀ k, ckey (vk k) = some (ke k)) {d : List (κ × τ)} {k : κ} {y : τ} : ∀ z, dputO d k y = some z → dputP (eDk ke e d) (vk k) (e y) = some (eDk ke e z) := fun z h => by
  unfold dputO at h
  have e0 : dputP (eDk ke e d) (vk k) (e y) = if (d.map fun p => ke p.1).length < sizeLine then some (Vl.dk (.k (putV (d.map fun p => ke p.1) (d.map fun p => e p.2) (ke k) (e y)).1) (putV (d.map fun p => ke p.1) (d.map fun p => e p.2) (ke k) (e y)).2) else none := by
    show (match ckey (vk k) with | some k => _ | none => _) = _
    rw [hv]
  rw [e0, List.length_map]
  split at h
  · rename_i hl
    injection h with h
    subst h
    rw [if_pos hl]
    unfold putV dset
    rw [any_ke hk]
    by_cases ha : (d.any fun p => decide (p.1 = k)) = true
    · rw [if_pos ha, if_pos ha, zipW_ke hk]
      unfold eDk
      rw [show ((d.map fun p => if p.1 = k then (p.1, y) else p).map fun p => ke p.1) = d.map fun p => ke p.1 by
        rw [List.map_map]
        refine List.map_congr_left fun p _ => ?_
        show ke (if p.1 = k then (p.1, y) else p).1 = ke p.1
        split <;> rfl]
    · rw [if_neg ha, if_neg ha]
      unfold eDk
      rw [List.map_append, List.map_append]
      rfl
  · cases h
theorem ck_S (z : List Nat) : ckey (.str z) = some (kS z) := rfl
theorem ck_C (c : Nat) : ckey (eC c) = some (kC c) := rfl
theorem ck_I (i : Int) : ckey (.int i) = some (kI i) := rfl
theorem ck_N (i : Nat) : ckey (eN i) = some (kN i) := rfl
theorem inDk_r {ke : κ → Key} (hk : KInj ke) {e : τ → Vl} {vk : κ → Vl} (hv : ∀ k, ckey (vk k) = some (ke k)) (d : List (κ × τ)) (k : κ) : inDkP (vk k) (eDk ke e d) = some (.bl (dhas d k)) := by
  show (match ckey (vk k) with | some k => _ | none => _) = _
  rw [hv]
  show some (Vl.bl _) = _
  rw [any_ke hk]
  rfl
/-- what holds of dicts of a kind -/
structure DL (E : List (κ × τ) → Vl) (vk : κ → Vl) (e : τ → Vl) : Prop where
  put : ∀ d k y z, dputO d k y = some z → dputP (E d) (vk k) (e y) = some (E z)
  has : ∀ d k, inDkP (vk k) (E d) = some (.bl (dhas d k))
  get : ∀ d k, dgetO (E d) (vk k) = some ((dget d k).map e)
  dct : ∀ d, ∃ ks, E d = .dk ks (d.map fun p => e p.2)
  nil : E [] = .dk (.k []) []
  one : ∀ k y, flatC (e y) = true → dk1P (vk k) (e y) = some (E [(k, y)])
theorem dlookK_ke {ke : κ → Key} (hk : KInj ke) {e : τ → Vl} (k : κ) : ∀ d : List (κ × τ), dlookK (d.map fun p => ke p.1) (d.map fun p => e p.2) (ke k) = (dget d k).map e
  | [] => rfl
  | p :: d => by
    rw [List.map_cons, List.map_cons]
    unfold dlookK dget
    rw [List.find?_cons]
    by_cases h : p.1 = k
    · rw [if_pos (by rw [h])]
      simp [h]
    · rw [if_neg fun z => h (hk _ _ z)]
      simp only [h, decide_false]
      exact dlookK_ke hk k d
theorem dl_k {ke : κ → Key} (hk : KInj ke) {e : τ → Vl} {vk : κ → Vl} (hv : ∀ k, ckey (vk k) = some (ke k)) : DL (eDk ke e) vk e where
  put := fun d k y z h => dput_r hk hv z h
  has := inDk_r hk hv
  get := fun d k => by
    show (match ckey (vk k) with | some k => _ | none => _) = _
    rw [hv]
    show some (dlookK _ _ _) = _
    rw [dlookK_ke hk]
  dct := fun d => ⟨_, rfl⟩
  nil := rfl
  one := fun k y hf => by
    unfold dk1P
    rw [if_pos hf, hv]
    rfl
/-- tuples as keys -/
def eDt (kt : κ → NestedKey) (e : τ → Vl) : List (κ × τ) → Vl
  | [] => .dk (.k []) []
  | p :: d => .dk (.t ((p :: d).map fun p => kt p.1)) ((p :: d).map fun p => e p.2)
def TInj (kt : κ → NestedKey) : Prop := ∀ a b, kt a = kt b → a = b
def TK (vk : κ → Vl) (kt : κ → NestedKey) : Prop := ∀ k, ckey (vk k) = none ∧ tkey (vk k) = some (kt k)
theorem any_kt {kt : κ → NestedKey} (hk : TInj kt) (k : κ) (d : List (κ × τ)) : ((d.map fun p => kt p.1).any fun j => decide (j = kt k)) = d.any fun p => decide (p.1 = k) := by
  induction d with
  | nil => rfl
  | cons p d ih =>
    rw [List.map_cons, List.any_cons, List.any_cons, ih]
    congr 1
    rw [decide_eq_decide]
    exact ⟨fun h => hk _ _ h, fun h => by rw [h]⟩
theorem zipW_kt {kt : κ → NestedKey} (hk : TInj kt) {e : τ → Vl} (k : κ) (y : τ) : ∀ d : List (κ × τ), List.zipWith (fun j x => if j = kt k then e y else x) (d.map fun p => kt p.1) (d.map fun p => e p.2) = (d.map fun p => if p.1 = k then (p.1, y) else p).map fun p => e p.2
  | [] => rfl
  | p :: d => by
    rw [List.map_cons, List.map_cons, List.zipWith_cons_cons, List.map_cons, List.map_cons, zipW_kt hk k y d]
    congr 1
    by_cases h : p.1 = k
    · rw [if_pos h, if_pos (by rw [h])]
    · rw [if_neg h, if_neg fun z => h (hk _ _ z)]
theorem dlook_kt {kt : κ → NestedKey} (hk : TInj kt) {e : τ → Vl} (k : κ) : ∀ d : List (κ × τ), dlook (d.map fun p => kt p.1) (d.map fun p => e p.2) (kt k) = (dget d k).map e
  | [] => rfl
  | p :: d => by
    rw [List.map_cons, List.map_cons]
    unfold dlook dget
    rw [List.find?_cons]
    by_cases h : p.1 = k
    · rw [if_pos (by rw [h])]
      simp [h]
    · rw [if_neg fun z => h (hk _ _ z)]
      simp only [h, decide_false]
      exact dlook_kt hk k d
theorem eDt_ne {kt : κ → NestedKey} {e : τ → Vl} {d : List (κ × τ)} (h : d ≠ []) : eDt kt e d = .dk (.t (d.map fun p => kt p.1)) (d.map fun p => e p.2) := by
  cases d with
  | nil => exact absurd rfl h
  | cons p d => rfl
theorem dset_ne (d : List (κ × τ)) (k : κ) (y : τ) : dset d k y ≠ [] := by
  unfold dset
  split
  · rename_i h
    intro z
    rw [List.map_eq_nil_iff.mp z] at h
    cases h
  · simp
theorem dl_t {kt : κ → NestedKey} (hk : TInj kt) {e : τ → Vl} {vk : κ → Vl} (hv : TK vk kt) : DL (eDt kt e) vk e where
  put := fun d k y z h => by
    unfold dputO at h
    split at h
    case isFalse => cases h
    rename_i hl
    injection h with h
    subst h
    rw [eDt_ne (dset_ne d k y)]
    cases d with
    | nil =>
      show (match ckey (vk k) with | some k => _ | none => _) = _
      rw [(hv k).1]
      show (if ([] : List Key) = [] then (tkey (vk k)).map fun k => Vl.dk (.t [k]) [e y] else none) = _
      rw [if_pos rfl, (hv k).2]
      rfl
    | cons p d =>
      show (match tkey (vk k) with | some k => _ | none => _) = _
      rw [(hv k).2]
      show (if ((p :: d).map fun p => kt p.1).length < sizeLine then some (Vl.dk (.t (putV ((p :: d).map fun p => kt p.1) ((p :: d).map fun p => e p.2) (kt k) (e y)).1) (putV ((p :: d).map fun p => kt p.1) ((p :: d).map fun p => e p.2) (kt k) (e y)).2) else none) = _
      rw [if_pos (by rw [List.length_map]; exact hl)]
      generalize p :: d = d
      unfold putV dset
      rw [any_kt hk]
      by_cases ha : (d.any fun p => decide (p.1 = k)) = true
      · rw [if_pos ha, if_pos ha, zipW_kt hk]
        rw [show ((d.map fun p => if p.1 = k then (p.1, y) else p).map fun p => kt p.1) = d.map fun p => kt p.1 by
          rw [List.map_map]
          refine List.map_congr_left fun p _ => ?_
          show kt (if p.1 = k then (p.1, y) else p).1 = kt p.1
          split <;> rfl]
      · rw [if_neg ha, if_neg ha]
        rw [List.map_append, List.map_append]
        rfl
  has := fun d k => by
    cases d with
    | nil =>
      show (match ckey (vk k) with | some k => _ | none => _) = _
      rw [(hv k).1]
      show (if ([] : List Key) = [] then (tkey (vk k)).map fun _ => Vl.bl false else none) = _
      rw [if_pos rfl, (hv k).2]
      rfl
    | cons p d =>
      show (tkey (vk k)).map _ = _
      rw [(hv k).2]
      show some (Vl.bl _) = _
      rw [any_kt hk]
      rfl
  get := fun d k => by
    cases d with
    | nil =>
      show (match ckey (vk k) with | some k => _ | none => _) = _
      rw [(hv k).1]
      show (if ([] : List Key) = [] then (tkey (vk k)).map fun _ => none else none) = _
      rw [if_pos rfl, (hv k).2]
      rfl
    | cons p d =>
      show (tkey (vk k)).map _ = _
      rw [(hv k).2]
      show some (dlook _ _ _) = _
      rw [dlook_kt hk]
  dct := fun d => by cases d <;> exact ⟨_, rfl⟩
  nil := rfl
  one := fun k y hf => by
    unfold dk1P
    rw [if_pos hf, (hv k).1, (hv k).2]
    rfl
section
variable {E : List (κ × τ) → Vl} {vk : κ → Vl} {e : τ → Vl}
theorem inD_r (D : DL E vk e) (d : List (κ × τ)) (k : κ) : inDkP (vk k) (E d) = some (.bl (dhas d k)) := D.has d k
theorem ninD_r (D : DL E vk e) (d : List (κ × τ)) (k : κ) : notInDkP (vk k) (E d) = some (.bl (!dhas d k)) := by
  unfold notInDkP
  rw [D.has]
  rfl
theorem dget_r (D : DL E vk e) (d : List (κ × τ)) (k : κ) : ∀ z, dget d k = some z → dgetP (E d) (vk k) = some (e z) := fun z h => by
  unfold dgetP
  rw [D.get, h]
  rfl
theorem dk1_r {fk fv : FE C} {k : κ} {y : τ} (D : DL E vk e) (h1 : fk ρ = ret (vk k)) (h2 : fv ρ = ret (e y)) (hf : flatC (e y) = true) : (fDk1 fk fv ρ : M C Vl) = ret (E [(k, y)]) := by
  unfold fDk1
  rw [h1, r_bnd, h2, r_bnd, D.one k y hf]
  rfl
theorem dct_at {d : List (κ × τ)} (D : DL E vk e) (kn : Kn N l ρ) (hv : lk l i = some (E d)) : dctAt ρ i = some () := by
  unfold dctAt
  obtain ⟨ks, h⟩ := D.dct d
  rw [kn.look hv, h]
end
variable {G : Out → σ → Prop} {b : FS C}
theorem v_dput {fk f : FE C} {E : List (κ × τ) → Vl} {e : τ → Vl} {vk : κ → Vl} {d : List (κ × τ)} {kk : κ} {y : τ} {k : List (κ × τ) → M C σ} (kn : Kn N l ρ) (hv : lk l i = some (E d)) (D : DL E vk e) (h : f ρ = ret (e y)) (hf : fk ρ = ret (vk kk)) (hi : Nat.blt i N = true) (hn : ∀ x ρ', Kn N ((i, E x) :: l) ρ' → RefG G (b ρ') (k x)) :
    RefG G (sSeq (sDPut i fk f) b ρ) (bnd (opt (dputO d kk y)) k) := by
  unfold sDPut
  rw [sSeq_ap, h, r_bnd, dct_at D kn hv, o_some, r_bnd, hf, r_bnd, bb]
  refine RefG.bnd (G := fun ρ' zs => ρ' = ρ.set i (some (E zs))) (RefG.opt fun zs hz => ⟨_, ?_, rfl⟩) fun ρ' zs g => ?_
  · unfold dputAt
    rw [kn.look hv]
    show (dputP (E d) (vk kk) (e y)).map _ = _
    rw [D.put _ _ _ zs hz]
    rfl
  · subst g
    exact hn zs _ (kn.set hi)
theorem v_dput1 {fk f : FE C} {E : List (κ × τ) → Vl} {e : τ → Vl} {vk : κ → Vl} {d : List (κ × τ)} {m : M C κ} {y : τ} {k : List (κ × τ) → M C σ} (kn : Kn N l ρ) (hv : lk l i = some (E d)) (D : DL E vk e) (h : f ρ = ret (e y)) (hf : RefG (Em vk) (fk ρ) m) (hi : Nat.blt i N = true) (hn : ∀ x ρ', Kn N ((i, E x) :: l) ρ' → RefG G (b ρ') (k x)) :
    RefG G (sSeq (sDPut i fk f) b ρ) (bnd m fun kk => bnd (opt (dputO d kk y)) k) := by
  unfold sDPut
  rw [sSeq_ap, h, r_bnd, dct_at D kn hv, o_some, r_bnd, bb]
  refine B1 hf fun kk => ?_
  rw [bb]
  refine RefG.bnd (G := fun ρ' zs => ρ' = ρ.set i (some (E zs))) (RefG.opt fun zs hz => ⟨_, ?_, rfl⟩) fun ρ' zs g => ?_
  · unfold dputAt
    rw [kn.look hv]
    show (dputP (E d) (vk kk) (e y)).map _ = _
    rw [D.put _ _ _ zs hz]
    rfl
  · subst g
    exact hn zs _ (kn.set hi)
theorem ow_Dt {kt : κ → NestedKey} {e : τ → Vl} (h : ∀ x, imm (e x) = true) (d : List (κ × τ)) : ownable (eDt kt e d) = true := by
  have := ims_map (e := fun p : κ × τ => e p.2) (fun p => h p.2) d
  cases d with
  | nil => rfl
  | cons p d => exact this
theorem ow_D {ke : κ → Key} {e : τ → Vl} (h : ∀ x, imm (e x) = true) (d : List (κ × τ)) : ownable (eDk ke e d) = true := by
  show imms (d.map fun p => e p.2) = true
  have := ims_map (e := fun p : κ × τ => e p.2) (fun p => h p.2) d
  exact this
end
/-! order -/
section
variable {τ τ1 τ2 τ3 τ4 : Type}
def Lt (e : τ → Vl) (lt : τ → τ → Bool) : Prop := (∀ a b, ltV (e a) (e b) = lt a b) ∧ (∀ a b, alikeV (e a) (e b) = true)
def ltI (a b : Int) : Bool := decide (a < b)
def ltN (a b : Nat) : Bool := decide (a < b)
def ltC (a b : Nat) : Bool := decide (a < b)
def ltS (a b : List Nat) : Bool := decide (a < b)
def ltT2 [DecidableEq τ1] (l1 : τ1 → τ1 → Bool) (l2 : τ2 → τ2 → Bool) (a b : τ1 × τ2) : Bool := if a.1 = b.1 then l2 a.2 b.2 else l1 a.1 b.1
def ltT3 [DecidableEq τ1] [DecidableEq τ2] (l1 : τ1 → τ1 → Bool) (l2 : τ2 → τ2 → Bool) (l3 : τ3 → τ3 → Bool) (a b : τ1 × τ2 × τ3) : Bool := if a.1 = b.1 then ltT2 l2 l3 a.2 b.2 else l1 a.1 b.1
theorem lt_I : Lt Vl.int ltI := ⟨ltV_int, alikeV_int⟩
theorem lt_N : Lt eN ltN := ⟨fun a b => by rw [ltV_int]; unfold ltN; rw [decide_eq_decide]; omega, fun _ _ => rfl⟩
theorem lt_S : Lt Vl.str ltS := ⟨ltV_str, alikeV_str⟩
theorem lt_C : Lt eC ltC := ⟨fun a b => by rw [ltV_str]; unfold ltC; rw [decide_eq_decide]; simp [List.cons_lt_cons_iff], fun _ _ => rfl⟩
theorem lt_T2 [DecidableEq τ1] {e1 : τ1 → Vl} {e2 : τ2 → Vl} {l1 : τ1 → τ1 → Bool} {l2 : τ2 → τ2 → Bool} (d1 : Dat e1) (h1 : Lt e1 l1) (h2 : Lt e2 l2) (hx : ∀ x y, ltVs [e2 x] [e2 y] = l2 x y) : Lt (eT2 e1 e2) (ltT2 l1 l2) := ⟨fun a b => by
  rw [ltV_tup, ltVs_cons _ _ (h1.2 _ _), d1, h1.1, hx]
  unfold ltT2
  by_cases h : a.1 = b.1 <;> simp [h], fun a b => by rw [alikeV_tup, alikeVs_cons, alikeVs_cons, h1.2, h2.2]; simp⟩
theorem one_lt {e : τ → Vl} {l : τ → τ → Bool} [DecidableEq τ] (d : Dat e) (h : Lt e l) (ir : ∀ x, l x x = false) (x y : τ) : ltVs [e x] [e y] = l x y := by
  rw [ltVs_cons _ _ (h.2 _ _), d, h.1, ltVs_nil]
  by_cases q : x = y
  · subst q; simp [ir]
  · simp [q]
theorem lt_T3 [DecidableEq τ1] [DecidableEq τ2] {e1 : τ1 → Vl} {e2 : τ2 → Vl} {e3 : τ3 → Vl} {l1 : τ1 → τ1 → Bool} {l2 : τ2 → τ2 → Bool} {l3 : τ3 → τ3 → Bool} (d1 : Dat e1) (d2 : Dat e2) (h1 : Lt e1 l1) (h2 : Lt e2 l2) (h3 : Lt e3 l3) (hx : ∀ x y, ltVs [e3 x] [e3 y] = l3 x y) : Lt (eT3 e1 e2 e3) (ltT3 l1 l2 l3) := ⟨fun a b => by
  rw [ltV_tup, ltVs_cons _ _ (h1.2 _ _), d1, h1.1, ltVs_cons _ _ (h2.2 _ _), d2, h2.1, hx]
  unfold ltT3 ltT2
  by_cases h : a.1 = b.1 <;> by_cases h' : a.2.1 = b.2.1 <;> simp [h, h'], fun a b => by rw [alikeV_tup, alikeVs_cons, alikeVs_cons, alikeVs_cons, h1.2, h2.2, h3.2]; simp⟩
def minVO (e : τ → Vl) (lt : τ → τ → Bool) : List τ → Option τ
  | [] => none
  | a :: r => if ordV ((a :: r).map e) = true then some (least lt a r) else none
theorem minVO_r {e : τ → Vl} {lt : τ → τ → Bool} (h : Lt e lt) {xs : List τ} : ∀ z, minVO e lt xs = some z → minV [eLs e xs] = some (e z) := fun z hz => by
  cases xs with
  | nil => cases hz
  | cons a r =>
    have hz : (if ordV ((a :: r).map e) = true then some (least lt a r) else none) = some z := hz
    show (if ordV (e a :: r.map e) = true then some (minF (e a) (r.map e)) else none) = _
    split at hz
    · rename_i ho
      rw [if_pos (by exact ho), minF_map h.1]
      injection hz with hz
      rw [← hz]
      rfl
    · cases hz
theorem minVO_rT {e : τ → Vl} {lt : τ → τ → Bool} (h : Lt e lt) {xs : List τ} : ∀ z, minVO e lt xs = some z → minV [eVt e xs] = some (e z) := fun z hz => minVO_r (xs := xs) h z hz
theorem alikeAll {e : τ → Vl} {lt : τ → τ → Bool} (h : Lt e lt) (hn : ∀ x, isN (e x) = false) (hs : Sh 11 e) (xs : List τ) : ordV (xs.map e) = true := by
  unfold ordV
  rw [Bool.and_eq_true, List.all_map, List.all_map, List.all_eq_true, List.all_eq_true]
  refine ⟨fun x _ => hs x, fun x _ => ?_⟩
  show (!isN (e x) && (xs.map e).all fun y => alikeV (e x) y) = true
  rw [hn, List.all_map, List.all_eq_true.mpr fun y _ => by exact h.2 x y]
  rfl
theorem ordS {zs : List (List Nat)} (h : ∀ z ∈ zs, ∀ c ∈ z, c < 1048576) : ordV (zs.map Vl.str) = true := by
  unfold ordV
  rw [Bool.and_eq_true, List.all_map, List.all_map, List.all_eq_true, List.all_eq_true]
  refine ⟨fun x hx => ?_, fun x _ => ?_⟩
  · show shp 11 (Vl.str x) = true
    simp [shp]
    exact h x hx
  · show (!isN (Vl.str x) && (zs.map Vl.str).all fun y => alikeV (.str x) y) = true
    rw [List.all_map, Bool.and_eq_true, List.all_eq_true]
    exact ⟨rfl, fun y _ => alikeV_str x y⟩
/-- sorted(d), text keys -/
def sortDS (d : List (List Nat × τ)) : Option (List (List Nat)) := if d.length ≤ sizeLine ∧ ordV ((d.map (·.1)).map Vl.str) = true then some ((d.map (·.1)).mergeSort fun a b => decide (a ≤ b)) else none
theorem kstrM_kS : ∀ zs : List (List Nat), kstrM (zs.map kS) = some zs
  | [] => rfl
  | z :: zs => by
    rw [List.map_cons, kstrM, kstrM_kS zs]
    simp [kstr]
theorem sortFS (zs : List (List Nat)) : sortF (zs.map Vl.str) = (zs.mergeSort fun a b => decide (a ≤ b)).map Vl.str := by
  unfold sortF
  rw [List.map_mergeSort (r := fun a b : List Nat => decide (a ≤ b)) (s := PySem.W.dataLe false toD) (f := Vl.str) (l := zs) fun a _ b _ => ?_]
  show decide (a ≤ b) = PySem.W.dataLe false toD (.str a) (.str b)
  rw [leV_eq, ltV_str, ← decide_not]
  rfl
theorem sortDS_r {e : τ → Vl} {d : List (List Nat × τ)} : ∀ z, sortDS d = some z → sortTP [eDk kS e d] = some (eLs Vl.str z) := fun z h => by
  unfold sortDS at h
  show (match kstrM (d.map fun p => kS p.1) with
    | some zs => if zs.length ≤ sizeLine ∧ ordV (zs.map Vl.str) = true then some (Vl.lst (sortF (zs.map Vl.str))) else none
    | none => none) = _
  rw [show (d.map fun p => kS p.1) = (d.map (·.1)).map kS by rw [List.map_map]; rfl, kstrM_kS]
  dsimp only
  rw [List.length_map]
  split at h
  · rename_i hs; rw [if_pos hs, sortFS]; injection h with h; rw [h]
  · cases h
def sortVO (e : τ → Vl) (lt : τ → τ → Bool) (xs : List τ) : Option (List τ) := if ordV (xs.map e) = true ∧ ((xs.map e).all isTC || (xs.map e).all notT) = true then some (xs.mergeSort fun a b => !lt b a) else none
theorem sortVO_r {e : τ → Vl} {lt : τ → τ → Bool} (h : Lt e lt) {xs : List τ} : ∀ z, sortVO e lt xs = some z → sortV [eLs e xs] = some (eLs e z) := fun z hz => by
  unfold sortVO at hz
  show (if ordV (xs.map e) = true ∧ ((xs.map e).all isTC || (xs.map e).all notT) = true then some (Vl.lst (sortF (xs.map e))) else none) = _
  split at hz
  · rename_i hs
    rw [if_pos hs]
    injection hz with hz
    unfold sortF
    rw [← hz, ← List.map_mergeSort (r := fun a b => !lt b a) (s := PySem.W.dataLe false toD) (f := e) (l := xs) fun a _ b _ => ?_]
    rw [leV_eq, h.1]
  · cases hz
end
end PyA
/-! PyNg: dicts with tuple keys, dict comprehensions, sets of tuples, as typed functions. -/
namespace PyA
open PySem L2
section
variable {C α β γ τ σ υ κ τ1 τ2 τ3 : Type} {N : Nat} {l : List (Nat × Vl)} {ρ : PEnv} {i : Nat}
/-- e stands for keys k: of depth n at most -/
structure KD (n : Nat) (e : τ → Vl) (k : τ → NestedKey) : Prop where
  of : ∀ x, kOfV (e x) = some (k x)
  tx : ∀ x, noTx (k x) = true
  dp : ∀ x, (k x).depth ≤ n
  inj : ∀ a b, k a = k b → a = b
abbrev ktI (i : Int) : NestedKey := .num i
abbrev ktN (i : Nat) : NestedKey := .num (i : Int)
abbrev ktT2 (k1 : τ1 → NestedKey) (k2 : τ2 → NestedKey) (p : τ1 × τ2) : NestedKey := .tup [k1 p.1, k2 p.2]
abbrev ktT3 (k1 : τ1 → NestedKey) (k2 : τ2 → NestedKey) (k3 : τ3 → NestedKey) (p : τ1 × τ2 × τ3) : NestedKey := .tup [k1 p.1, k2 p.2.1, k3 p.2.2]
theorem kd_I : KD 0 Vl.int ktI := ⟨fun _ => by unfold kOfV; rfl, fun _ => by unfold noTx; rfl, fun _ => Nat.le_of_eq (by unfold NestedKey.depth; rfl), fun a b h => by injection h⟩
theorem kd_N : KD 0 eN ktN := ⟨fun _ => by unfold eN kOfV; rfl, fun _ => by unfold noTx; rfl, fun _ => Nat.le_of_eq (by unfold NestedKey.depth; rfl), fun a b h => by injection h with h; omega⟩
theorem kd_T2 {n : Nat} {e1 : τ1 → Vl} {e2 : τ2 → Vl} {k1 : τ1 → NestedKey} {k2 : τ2 → NestedKey} {n1 n2 : Nat} (a : KD n1 e1 k1) (b : KD n2 e2 k2) (h1 : n1 < n) (h2 : n2 < n) : KD n (eT2 e1 e2) (ktT2 k1 k2) where
  of := fun x => by
    unfold eT2 kOfV kOfVs
    rw [a.of]
    unfold kOfVs
    rw [b.of]
    unfold kOfVs
    rfl
  tx := fun x => by
    unfold ktT2 noTx noTxs noTxs noTxs
    rw [a.tx, b.tx]
    rfl
  dp := fun x => by
    have := a.dp x.1
    have := b.dp x.2
    simp only [ktT2, NestedKey.depth, NestedKey.depthAll]
    omega
  inj := fun x y h => by
    injection h with h
    injection h with h1 h
    injection h with h2 h
    exact Prod.ext (a.inj _ _ h1) (b.inj _ _ h2)
theorem kd_T3 {n : Nat} {e1 : τ1 → Vl} {e2 : τ2 → Vl} {e3 : τ3 → Vl} {k1 : τ1 → NestedKey} {k2 : τ2 → NestedKey} {k3 : τ3 → NestedKey} {n1 n2 n3 : Nat} (a : KD n1 e1 k1) (b : KD n2 e2 k2) (c : KD n3 e3 k3) (h1 : n1 < n) (h2 : n2 < n) (h3 : n3 < n) : KD n (eT3 e1 e2 e3) (ktT3 k1 k2 k3) where
  of := fun x => by
    unfold eT3 kOfV kOfVs
    rw [a.of]
    unfold kOfVs
    rw [b.of]
    unfold kOfVs
    rw [c.of]
    unfold kOfVs
    rfl
  tx := fun x => by
    unfold ktT3 noTx noTxs noTxs noTxs noTxs
    rw [a.tx, b.tx, c.tx]
    rfl
  dp := fun x => by
    have := a.dp x.1
    have := b.dp x.2.1
    have := c.dp x.2.2
    simp only [ktT3, NestedKey.depth, NestedKey.depthAll]
    omega
  inj := fun x y h => by
    injection h with h
    injection h with h1 h
    injection h with h2 h
    injection h with h3 h
    exact Prod.ext (a.inj _ _ h1) (Prod.ext (b.inj _ _ h2) (c.inj _ _ h3))
/-- e gives tuples -/
def IsT (e : τ → Vl) : Prop := ∀ x, ∃ xs, e x = .tup xs
theorem tk_of {n : Nat} {e : τ → Vl} {k : τ → NestedKey} (h : KD n e k) (t : IsT e) (hn : n ≤ 8) : TK e k := fun x => by
  obtain ⟨xs, ex⟩ := t x
  have h1 := h.of x
  have h2 := h.tx x
  have h3 := h.dp x
  rw [ex] at h1 ⊢
  refine ⟨rfl, ?_⟩
  unfold kOfV at h1
  obtain ⟨ks, e1, e2⟩ := Option.map_eq_some_iff.mp h1
  show (kOfVs xs).bind _ = _
  rw [e1, ← e2]
  rw [← e2] at h2 h3
  show (if goodK (.tup ks) = true then some (NestedKey.tup ks) else none) = _
  rw [if_pos]
  unfold goodK
  rw [h2, Bool.true_and, decide_eq_true_eq]
  omega
theorem dl_T [DecidableEq κ] {n : Nat} {vk : κ → Vl} {e : τ → Vl} {k : κ → NestedKey} (h : KD n vk k) (t : IsT vk) (hn : n ≤ 8) : DL (eDt k e) vk e := dl_t h.inj (tk_of h t hn)
theorem is_T2 (e1 : τ1 → Vl) (e2 : τ2 → Vl) : IsT (eT2 e1 e2) := fun x => ⟨_, rfl⟩
theorem is_T3 (e1 : τ1 → Vl) (e2 : τ2 → Vl) (e3 : τ3 → Vl) : IsT (eT3 e1 e2 e3) := fun x => ⟨_, rfl⟩
variable [DecidableEq κ]
/-! dict comprehensions -/
def dcN (t : υ → M C Bool) (fk : υ → M C κ) (fv : υ → M C τ) : List (κ × τ) → List υ → M C (List (κ × τ))
  | d, [] => ret d
  | d, x :: r => bnd (noEx (t x)) fun b => if b = true then bnd (noEx (fk x)) fun k => bnd (noEx (fv x)) fun y => bnd (opt (dputO d k y)) fun d' => dcN t fk fv d' r else dcN t fk fv d r
section
variable {lw : List (Nat × Vl)} {bd : Bnd} {e : τ → Vl} {ex : υ → Vl} {it : PEnv → M C (List Vl)} {vs : List Nat} {t : FT C} {fk fv : FE C} {kl : υ → List (Nat × Vl)} {E : List (κ × τ) → Vl} {vk : κ → Vl}
theorem dc1 (D : DL E vk e) {tn : υ → M C Bool} {kn : υ → M C κ} {fn : υ → M C τ} (kw : Kn N lw ρ) (hb : ∀ x, BdK N bd (ex x) lw (kl x)) (ht : ∀ x ρ, Kn N (kl x) ρ → RefG Eq (t ρ) (tn x)) (hk : ∀ x ρ, Kn N (kl x) ρ → RefG (Em vk) (fk ρ) (kn x)) (hf : ∀ x ρ, Kn N (kl x) ρ → RefG (Em e) (fv ρ) (fn x)) : ∀ (xs : List υ) (d : List (κ × τ)), RefG (Em E) (compD bd t fk fv ρ (E d) (xs.map ex)) (dcN tn kn fn d xs)
  | [], d => RefG.ret rfl
  | x :: r, d => by
    obtain ⟨ρ1, e1, k1⟩ := hb x ρ kw
    rw [List.map_cons, show compD bd t fk fv ρ (E d) (ex x :: r.map ex) = bnd (opt (bd (ex x) ρ)) fun ρ1 => bnd (noEx (t ρ1)) fun k => if k = true then bnd (noEx (fk ρ1)) fun y => bnd (noEx (fv ρ1)) fun z => bnd (opt (dputP (E d) y z)) fun d' => compD bd t fk fv ρ d' (r.map ex) else compD bd t fk fv ρ (E d) (r.map ex) from rfl, e1, o_some, r_bnd]
    refine B1q (ht x ρ1 k1).noEx fun k => ?_
    cases k with
    | true =>
      rw [if_pos rfl, if_pos rfl]
      refine B1 (hk x ρ1 k1).noEx fun y => ?_
      refine B1 (hf x ρ1 k1).noEx fun z => ?_
      refine B1 (e := E) (RefG.opt fun zs hz => ⟨_, D.put _ _ _ zs hz, rfl⟩) fun d' => ?_
      exact dc1 D kw hb ht hk hf r d'
    | false => exact dc1 D kw hb ht hk hf r d
theorem e_dc (D : DL E vk e) {m : M C (List υ)} {tn : υ → M C Bool} {kn : υ → M C κ} {fn : υ → M C τ} (k : Kn N l ρ) (hi : RefG (Eml ex) (it ρ) m) (hw : subW vs l lw) (hb : ∀ x, BdK N bd (ex x) lw (kl x)) (ht : ∀ x ρ, Kn N (kl x) ρ → RefG Eq (t ρ) (tn x)) (hk : ∀ x ρ, Kn N (kl x) ρ → RefG (Em vk) (fk ρ) (kn x)) (hf : ∀ x ρ, Kn N (kl x) ρ → RefG (Em e) (fv ρ) (fn x)) :
    RefG (Em E) (fDc it vs bd t fk fv ρ) (bnd m fun xs => dcN tn kn fn [] xs) := by
  unfold fDc
  refine B1l hi fun xs => ?_
  rw [← D.nil]
  exact dc1 D (k.wipe vs hw) hb ht hk hf xs []
end
theorem yes_r {x : PEnv} : RefG (C := C) Eq (gYes x) (ret true) := RefG.ret rfl
/-! dict(pairs) -/
def dmk (ps : List (κ × τ)) : List (κ × τ) := ps.foldl (fun d p => dset d p.1 p.2) []
theorem allM_pair {vk : κ → Vl} {kt : κ → NestedKey} {e : τ → Vl} (hv : TK vk kt) : ∀ ps : List (κ × τ), allM pairT (ps.map (eT2 vk e)) = some (ps.map fun p => (kt p.1, e p.2))
  | [] => rfl
  | p :: ps => by
    rw [List.map_cons, List.map_cons]
    show (pairT (eT2 vk e p)).bind _ = _
    rw [show pairT (eT2 vk e p) = (tkey (vk p.1)).map (fun k => (k, e p.2)) from rfl, (hv p.1).2]
    show (allM pairT (ps.map (eT2 vk e))).map _ = _
    rw [allM_pair hv ps]
    rfl
theorem put_dset {kt : κ → NestedKey} (hk : TInj kt) {e : τ → Vl} (d : List (κ × τ)) (k : κ) (y : τ) : putV (d.map fun p => kt p.1) (d.map fun p => e p.2) (kt k) (e y) = ((dset d k y).map fun p => kt p.1, (dset d k y).map fun p => e p.2) := by
  unfold putV dset
  rw [any_kt hk]
  by_cases ha : (d.any fun p => decide (p.1 = k)) = true
  · rw [if_pos ha, if_pos ha, zipW_kt hk]
    rw [show ((d.map fun p => if p.1 = k then (p.1, y) else p).map fun p => kt p.1) = d.map fun p => kt p.1 by
      rw [List.map_map]
      refine List.map_congr_left fun p _ => ?_
      show kt (if p.1 = k then (p.1, y) else p).1 = kt p.1
      split <;> rfl]
  · rw [if_neg ha, if_neg ha, List.map_append, List.map_append]
    rfl
theorem fold_dset {kt : κ → NestedKey} (hk : TInj kt) {e : τ → Vl} : ∀ (ps d : List (κ × τ)), (ps.map fun p => (kt p.1, e p.2)).foldl (fun acc p => putV acc.1 acc.2 p.1 p.2) (d.map fun p => kt p.1, d.map fun p => e p.2) = ((ps.foldl (fun d p => dset d p.1 p.2) d).map fun p => kt p.1, (ps.foldl (fun d p => dset d p.1 p.2) d).map fun p => e p.2)
  | [], d => rfl
  | p :: ps, d => by
    rw [List.map_cons, List.foldl_cons, List.foldl_cons]
    show (ps.map fun p => (kt p.1, e p.2)).foldl (fun acc p => putV acc.1 acc.2 p.1 p.2) (putV (d.map fun p => kt p.1) (d.map fun p => e p.2) (kt p.1) (e p.2)) = _
    rw [put_dset hk]
    exact fold_dset hk ps _
theorem foldl_ne : ∀ (ps d : List (κ × τ)), d ≠ [] → ps.foldl (fun d p => dset d p.1 p.2) d ≠ []
  | [], d, h => h
  | p :: ps, d, h => foldl_ne ps _ (dset_ne d p.1 p.2)
theorem dmk_r {vk : κ → Vl} {kt : κ → NestedKey} {e : τ → Vl} (hk : TInj kt) (hv : TK vk kt) (ps : List (κ × τ)) : dictP [eLs (eT2 vk e) ps] = some (eDt kt e (dmk ps)) := by
  show (allM pairT (ps.map (eT2 vk e))).map _ = _
  rw [allM_pair hv]
  cases ps with
  | nil => rfl
  | cons p ps =>
    show some (if _ then _ else _) = _
    rw [if_neg (by simp)]
    have h := fold_dset hk (e := e) (p :: ps) []
    have h : dfold ((p :: ps).map fun p => (kt p.1, e p.2)) = ((dmk (p :: ps)).map fun p => kt p.1, (dmk (p :: ps)).map fun p => e p.2) := h
    rw [h, eDt_ne (by unfold dmk; rw [List.foldl_cons]; exact foldl_ne ps _ (dset_ne _ _ _))]
/-! sorted(d) -/
theorem vk_of {vk : κ → Vl} {kt : κ → NestedKey} (hv : TK vk kt) (k : κ) : vOfK (kt k) = vk k := by
  have h := (hv k).2
  unfold tkey at h
  split at h
  · rename_i xs e
    obtain ⟨ks, e1, h⟩ := Option.bind_eq_some_iff.mp h
    split at h
    · injection h with h
      rw [← h]
      unfold vOfK
      rw [vOfKs_of xs ks e1, e]
    · cases h
  · cases h
theorem sortT_r {vk : κ → Vl} {kt : κ → NestedKey} {e : τ → Vl} {lt : κ → κ → Bool} (hv : TK vk kt) (h : Lt vk lt) {d : List (κ × τ)} : ∀ z, sortVO vk lt (d.map (·.1)) = some z → sortTP [eDt kt e d] = some (eLs vk z) := fun z hz => by
  have h1 := sortVO_r h z hz
  cases d with
  | nil =>
    have : z = [] := by
      unfold sortVO at hz
      rw [if_pos ⟨rfl, rfl⟩] at hz
      injection hz with hz
      rw [← hz]
      simp
    subst this
    show (if (0 : Nat) ≤ sizeLine ∧ ordV [] = true then some (Vl.lst (sortF [])) else none) = _
    rw [if_pos ⟨Nat.zero_le _, rfl⟩]
    unfold sortF
    simp
  | cons p d =>
    have e1 : vOfKs ((p :: d).map fun p => kt p.1) = ((p :: d).map (·.1)).map vk := by
      rw [vOfKs_eq, List.map_map, List.map_map]
      exact List.map_congr_left fun x _ => vk_of hv x.1
    show sortX (vOfKs ((p :: d).map fun p => kt p.1)) = _
    rw [e1]
    exact h1
/-! sets of tuples of ints -/
structure IL (e : τ → Vl) (f : τ → Int) : Prop where
  of : ∀ x, e x = .int (f x)
  inj : ∀ a b, f a = f b → a = b
theorem il_I : IL Vl.int (fun x => x) := ⟨fun _ => rfl, fun _ _ h => h⟩
theorem il_N : IL eN (fun n => (n : Int)) := ⟨fun _ => rfl, fun _ _ h => by omega⟩
structure FL (e : τ → Vl) (f : τ → List Int) : Prop where
  of : ∀ x, e x = eI (f x)
  inj : ∀ a b, f a = f b → a = b
  ne : ∀ x, f x ≠ []
theorem fl_T2 {e1 : τ1 → Vl} {e2 : τ2 → Vl} {f1 : τ1 → Int} {f2 : τ2 → Int} (a : IL e1 f1) (b : IL e2 f2) : FL (eT2 e1 e2) (fun p => [f1 p.1, f2 p.2]) where
  of := fun x => by unfold eI eT2; rw [a.of, b.of]; rfl
  inj := fun x y h => by
    injection h with h1 h
    injection h with h2 h
    exact Prod.ext (a.inj _ _ h1) (b.inj _ _ h2)
  ne := fun x => by simp
theorem fl_T3 {e1 : τ1 → Vl} {e2 : τ2 → Vl} {e3 : τ3 → Vl} {f1 : τ1 → Int} {f2 : τ2 → Int} {f3 : τ3 → Int} (a : IL e1 f1) (b : IL e2 f2) (c : IL e3 f3) : FL (eT3 e1 e2 e3) (fun p => [f1 p.1, f2 p.2.1, f3 p.2.2]) where
  of := fun x => by unfold eI eT3; rw [a.of, b.of, c.of]; rfl
  inj := fun x y h => by
    injection h with h1 h
    injection h with h2 h
    injection h with h3 h
    exact Prod.ext (a.inj _ _ h1) (Prod.ext (b.inj _ _ h2) (c.inj _ _ h3))
  ne := fun x => by simp
def ded : List κ → List κ
  | [] => []
  | a :: r => if a ∈ ded r then ded r else a :: ded r
theorem ded_map {f : κ → List Int} (inj : ∀ a b, f a = f b → a = b) : ∀ xs : List κ, dedT (xs.map f) = (ded xs).map f
  | [] => rfl
  | a :: r => by
    rw [List.map_cons]
    unfold dedT ded
    rw [ded_map inj r]
    have : (f a ∈ (ded r).map f) ↔ a ∈ ded r := by
      rw [List.mem_map]
      exact ⟨fun ⟨b, hb, e⟩ => inj _ _ e ▸ hb, fun h => ⟨a, h, rfl⟩⟩
    by_cases h : a ∈ ded r
    · rw [if_pos h, if_pos (this.mpr h)]
    · rw [if_neg h, if_neg fun z => h (this.mp z)]
      rfl
theorem allM_asTI {vk : κ → Vl} {f : κ → List Int} (h : FL vk f) : ∀ xs : List κ, allM asTI (xs.map vk) = some (xs.map f)
  | [] => rfl
  | x :: xs => by
    have go : ∀ ns : List Int, allM asI (ns.map Vl.int) = some ns := fun ns => by
      induction ns with
      | nil => rfl
      | cons n ns ih =>
        rw [List.map_cons]
        show (some n).bind (fun a => (allM asI (ns.map Vl.int)).map fun x => a :: x) = _
        rw [ih]
        rfl
    rw [List.map_cons, List.map_cons]
    show (asTI (vk x)).bind _ = _
    rw [h.of, show asTI (eI (f x)) = allM asI ((f x).map Vl.int) from rfl, go]
    show (allM asTI (xs.map vk)).map _ = _
    rw [allM_asTI h xs]
    rfl
def lenSO (xs : List κ) : Option Nat := if xs.length < 64 then some (ded xs).length else none
theorem lenSO_r {vk : κ → Vl} {f : κ → List Int} (h : FL vk f) {xs : List κ} : ∀ z, lenSO xs = some z → lenSetT (eLs vk xs) = some (eN z) := fun z hz => by
  unfold lenSO at hz
  show (allM asTI (xs.map vk)).bind _ = _
  rw [allM_asTI h]
  show (if (xs.map f).length < 64 then some (Vl.int (dedT (xs.map f)).length) else none) = _
  rw [List.length_map, ded_map h.inj, List.length_map]
  split at hz
  · rename_i hl
    rw [if_pos hl]
    injection hz with hz
    rw [← hz]
  · cases hz
def sortSO (lt : κ → κ → Bool) (xs : List κ) : Option (List κ) := if xs.length < 64 then some ((ded xs).mergeSort fun a b => !lt b a) else none
theorem sortSO_r {vk : κ → Vl} {f : κ → List Int} {lt : κ → κ → Bool} (h : FL vk f) (hl : Lt vk lt) {xs : List κ} : ∀ z, sortSO lt xs = some z → sortSetT (eLs vk xs) = some (eLs vk z) := fun z hz => by
  unfold sortSO at hz
  show (allM asTI (xs.map vk)).bind _ = _
  rw [allM_asTI h]
  show (if (xs.map f).length < 64 ∧ ((xs.map f).all fun n => !n.isEmpty) = true then some (Vl.lst ((srtT (xs.map f)).map eI)) else none) = _
  have hne : ((xs.map f).all fun n => !n.isEmpty) = true := by
    rw [List.all_map]
    refine List.all_eq_true.mpr fun x _ => ?_
    have := h.ne x
    show (!(f x).isEmpty) = true
    cases e : f x with
    | nil => exact absurd e this
    | cons a r => rfl
  split at hz
  · rename_i hl'
    rw [if_pos ⟨by rw [List.length_map]; exact hl', hne⟩]
    injection hz with hz
    rw [← hz]
    unfold srtT
    rw [ded_map h.inj, ← List.map_mergeSort (r := fun a b => !lt b a) (s := fun a b => !ltLI b a) (f := f) (l := ded xs) fun a _ b _ => ?_]
    · rw [List.map_map]
      show some (Vl.lst _) = some (Vl.lst _)
      congr 2
      exact List.map_congr_left fun x _ => (h.of x).symm
    · rw [← hl.1, h.of, h.of, ltV_eI]
  · cases hz
/-! more -/
abbrev eT5 {τ1 τ2 τ3 τ4 τ5 : Type} (e1 : τ1 → Vl) (e2 : τ2 → Vl) (e3 : τ3 → Vl) (e4 : τ4 → Vl) (e5 : τ5 → Vl) (p : τ1 × τ2 × τ3 × τ4 × τ5) : Vl := .tup [e1 p.1, e2 p.2.1, e3 p.2.2.1, e4 p.2.2.2.1, e5 p.2.2.2.2]
abbrev eT6 {τ1 τ2 τ3 τ4 τ5 τ6 : Type} (e1 : τ1 → Vl) (e2 : τ2 → Vl) (e3 : τ3 → Vl) (e4 : τ4 → Vl) (e5 : τ5 → Vl) (e6 : τ6 → Vl) (p : τ1 × τ2 × τ3 × τ4 × τ5 × τ6) : Vl := .tup [e1 p.1, e2 p.2.1, e3 p.2.2.1, e4 p.2.2.2.1, e5 p.2.2.2.2.1, e6 p.2.2.2.2.2]
def memD (x : κ) (xs : List κ) : Bool := decide (x ∈ xs)
theorem ir_I (x : Int) : ltI x x = false := by simp [ltI]
theorem ir_N (x : Nat) : ltN x x = false := by simp [ltN]
theorem ir_C (x : Nat) : ltC x x = false := by simp [ltC]
theorem lt_TT2 [DecidableEq τ1] [DecidableEq τ2] {e1 : τ1 → Vl} {e2 : τ2 → Vl} {l1 : τ1 → τ1 → Bool} {l2 : τ2 → τ2 → Bool} (d1 : Dat e1) (d2 : Dat e2) (h1 : Lt e1 l1) (h2 : Lt e2 l2) (i2 : ∀ x, l2 x x = false) : Lt (eT2 e1 e2) (ltT2 l1 l2) := lt_T2 d1 h1 h2 (one_lt d2 h2 i2)
theorem lt_TT3 [DecidableEq τ1] [DecidableEq τ2] [DecidableEq τ3] {e1 : τ1 → Vl} {e2 : τ2 → Vl} {e3 : τ3 → Vl} {l1 : τ1 → τ1 → Bool} {l2 : τ2 → τ2 → Bool} {l3 : τ3 → τ3 → Bool} (d1 : Dat e1) (d2 : Dat e2) (d3 : Dat e3) (h1 : Lt e1 l1) (h2 : Lt e2 l2) (h3 : Lt e3 l3) (i3 : ∀ x, l3 x x = false) : Lt (eT3 e1 e2 e3) (ltT3 l1 l2 l3) := lt_T3 d1 d2 h1 h2 h3 (one_lt d3 h3 i3)
def idxL (e : κ → Vl) (xs : List κ) (y : κ) : Option Nat := if (shp deep (e y) = true ∧ shp deep (.lst (xs.map e)) = true) ∧ xs.findIdx (fun z => decide (z = y)) < xs.length then some (xs.findIdx fun z => decide (z = y)) else none
theorem idxL_r {e : κ → Vl} (d : Dat e) {xs : List κ} {y : κ} : ∀ z, idxL e xs y = some z → lindexP (eLs e xs) [e y] = some (eN z) := fun z h => by
  unfold idxL at h
  split at h
  · rename_i hs
    injection h with h
    have e1 : (xs.map e).findIdx (fun z => eqD z (e y)) = xs.findIdx fun z => decide (z = y) := by
      rw [List.findIdx_map]
      congr 1
      funext z
      exact d z y
    show (if shp deep (e y) = true ∧ shp deep (.lst (xs.map e)) = true ∧ (xs.map e).findIdx (fun z => eqD z (e y)) < (xs.map e).length then some (Vl.int ((xs.map e).findIdx fun z => eqD z (e y) : Nat)) else none) = _
    rw [e1, List.length_map, if_pos ⟨hs.1.1, hs.1.2, hs.2⟩, h]
  · cases h
end
end PyA
namespace Law
open PySem L2 PyA
def topS (i : Nat) : Stmt := PySem.Challenge.pw_toyrails_k97_whole_spots_and_loops.main.body.getD i (.Pass ⟨0, 0, 0, 0⟩)
structure Txt (K : PySem.W.Frag) (mg : Str → Option Value) : Prop where
  n_abs : mg "abs" = none
  n_all : mg "all" = none
  n_bool : mg "bool" = none
  n_dict : mg "dict" = none
  n_enumerate : mg "enumerate" = none
  n_int : mg "int" = none
  n_isinstance : mg "isinstance" = none
  n_len : mg "len" = none
  n_list : mg "list" = none
  n_max : mg "max" = none
  n_min : mg "min" = none
  n_range : mg "range" = none
  n_set : mg "set" = none
  n_sorted : mg "sorted" = none
  n_str : mg "str" = none
  n_tuple : mg "tuple" = none
  c_FAR : IntT mg "FAR" 100
  c_LONGEST : IntT mg "LONGEST" 60
  c_PIECES : StrT mg "PIECES" [115, 108, 114]
  c_STEPS : TupT K mg "STEPS" (.tup [(.tup [(.int 1), (.int 0)]), (.tup [(.int 0), (.int 1)]), (.tup [(.int (-1)), (.int 0)]), (.tup [(.int 0), (.int (-1))])])
  x_InvalidWord : ExcT K mg "InvalidWord"
  x_InvalidPlace : ExcT K mg "InvalidPlace"
  x_InvalidSpot : ExcT K mg "InvalidSpot"
  f_is_whole : FunT K mg "is_whole" (topS 10)
  f_fits_whole : FunT K mg "fits_whole" (topS 11)
  f_is_tuple_of : FunT K mg "is_tuple_of" (topS 12)
  f_fits_word : FunT K mg "fits_word" (topS 13)
  f_fits_spot : FunT K mg "fits_spot" (topS 14)
  f_fits_place : FunT K mg "fits_place" (topS 15)
  f_need_word : FunT K mg "need_word" (topS 16)
  f_need_spot : FunT K mg "need_spot" (topS 17)
  f_need_place : FunT K mg "need_place" (topS 18)
  f_forward : FunT K mg "forward" (topS 19)
  f_behind_piece : FunT K mg "behind_piece" (topS 20)
  f_places_in : FunT K mg "places_in" (topS 21)
  f_end_in : FunT K mg "end_in" (topS 22)
  f_closes_in : FunT K mg "closes_in" (topS 23)
  f_is_round : FunT K mg "is_round" (topS 24)
  f_is_simple : FunT K mg "is_simple" (topS 26)
  f_simple_beginning : FunT K mg "simple_beginning" (topS 27)
  f_first_loop : FunT K mg "first_loop" (topS 28)
  f_common_spots : FunT K mg "common_spots" (topS 29)
  f_nearest_place : FunT K mg "nearest_place" (topS 30)
  f_within_bounds : FunT K mg "within_bounds" (topS 31)
  f_drift_of : FunT K mg "drift_of" (topS 32)
  f__law_cup : FunT K mg "_law_cup" (topS 34)
  f__law_roll : FunT K mg "_law_roll" (topS 35)
  f__law_some : FunT K mg "_law_some" (topS 36)
  f__law_same : FunT K mg "_law_same" (topS 37)
  f__law_word : FunT K mg "_law_word" (topS 38)
  f__law_place : FunT K mg "_law_place" (topS 39)
  f__law_next : FunT K mg "_law_next" (topS 40)
  f__law_along : FunT K mg "_law_along" (topS 41)
  f__law_round : FunT K mg "_law_round" (topS 42)
  f_law : FunT K mg "law" (topS 43)
section
variable {P : Program} {w : World} {K : PySem.W.Frag} {mg : Str → Option Value} {base : Heap}
abbrev s_is_whole : Stmt := topS 10
abbrev N_is_whole : List Str := ["value"]
theorem sc_is_whole : FnScope N_is_whole ["value"] (defScope s_is_whole) := ⟨rfl, rfl, rfl, by decide +kernel, rfl, by decide +kernel, by decide +kernel⟩
def b_is_whole : FS Unit :=
    (sRet (fAnd (fUn (isaP .int) (fVar 0)) (fNot (fUn (isaP .bool) (fVar 0)))))
def m_is_whole : List Vl → M Unit Vl := mkF 1 b_is_whole
theorem h_is_whole (T : Txt K mg)  : Has P w K mg base 1 "is_whole" 1 rg0 m_is_whole :=
  has_fn T.f_is_whole sc_is_whole rg0 (ownL []) b_is_whole rfl (by decide) (by decide) (fun _ _ _ _ _ _ us hl => match us, hl with | [_], _ => rfl)
    fun f j A0 cdv A outer s H E hr => have hu := hu_cx hr; have hu4 := hu4_cx hr;
    (ds_one (ds_ret (de_and (de_isa (t := .int) rfl rfl T.n_isinstance rfl T.n_int (by decide +kernel) (de_var (i := 0) rfl (.inl rfl) rfl)) (de_one (de_not (de_isa (t := .bool) rfl rfl T.n_isinstance rfl T.n_bool (by decide +kernel) (de_var (i := 0) rfl (.inl rfl) rfl)))))))
abbrev s_fits_whole : Stmt := topS 11
abbrev N_fits_whole : List Str := ["value", "low", "high"]
theorem sc_fits_whole : FnScope N_fits_whole ["value", "low", "high"] (defScope s_fits_whole) := ⟨rfl, rfl, rfl, by decide +kernel, rfl, by decide +kernel, by decide +kernel⟩
def b_fits_whole : FS Unit :=
    (sRet (fAnd (fCallP m_is_whole [(fVar 0)]) (fChain leP leP (fVar 1) (fVar 0) (fVar 2))))
def m_fits_whole : List Vl → M Unit Vl := mkF 3 b_fits_whole
theorem h_fits_whole (T : Txt K mg) (h_is_whole : Has P w K mg base 1 "is_whole" 1 rg0 m_is_whole) : Has P w K mg base 2 "fits_whole" 3 rg0 m_fits_whole :=
  has_fn T.f_fits_whole sc_fits_whole rg0 (ownL []) b_fits_whole rfl (by decide) (by decide) (fun _ _ _ _ _ _ us hl => match us, hl with | [_, _, _], _ => rfl)
    fun f j A0 cdv A outer s H E hr => have hu := hu_cx hr; have hu4 := hu4_cx hr;
    (ds_one (ds_ret (de_and (dc_P rfl rfl h_is_whole (hr.mono (by decide)) rfl px_cx rfl (da_cons (de_var (i := 0) rfl (.inl rfl) rfl) da_nil)) (de_one (de_chain rfl op_leP op_leP (de_var (i := 1) rfl (.inl rfl) rfl) (de_var (i := 0) rfl (.inl rfl) rfl) (de_var (i := 2) rfl (.inl rfl) rfl))))))
abbrev s_is_tuple_of : Stmt := topS 12
abbrev N_is_tuple_of : List Str := ["value", "least", "most"]
theorem sc_is_tuple_of : FnScope N_is_tuple_of ["value", "least", "most"] (defScope s_is_tuple_of) := ⟨rfl, rfl, rfl, by decide +kernel, rfl, by decide +kernel, by decide +kernel⟩
def b_is_tuple_of : FS Unit :=
    (sRet (fAnd (fUn (isaP .tuple) (fVar 0)) (fChain leP leP (fVar 1) (fBlt lenP [(fVar 0)]) (fVar 2))))
def m_is_tuple_of : List Vl → M Unit Vl := mkF 3 b_is_tuple_of
theorem h_is_tuple_of (T : Txt K mg)  : Has P w K mg base 1 "is_tuple_of" 3 rg0 m_is_tuple_of :=
  has_fn T.f_is_tuple_of sc_is_tuple_of rg0 (ownL []) b_is_tuple_of rfl (by decide) (by decide) (fun _ _ _ _ _ _ us hl => match us, hl with | [_, _, _], _ => rfl)
    fun f j A0 cdv A outer s H E hr => have hu := hu_cx hr; have hu4 := hu4_cx hr;
    (ds_one (ds_ret (de_and (de_isa (t := .tuple) rfl rfl T.n_isinstance rfl T.n_tuple (by decide +kernel) (de_var (i := 0) rfl (.inl rfl) rfl)) (de_one (de_chain rfl op_leP op_leP (de_var (i := 1) rfl (.inl rfl) rfl) (de_blt rfl call_lenP rfl T.n_len (by decide +kernel) (da_cons (de_var (i := 0) rfl (.inl rfl) rfl) da_nil)) (de_var (i := 2) rfl (.inl rfl) rfl))))))
abbrev s_fits_word : Stmt := topS 13
abbrev N_fits_word : List Str := ["value", "piece"]
theorem sc_fits_word : FnScope N_fits_word ["value"] (defScope s_fits_word) := ⟨rfl, rfl, rfl, by decide +kernel, rfl, by decide +kernel, by decide +kernel⟩
def b_fits_word : FS Unit :=
    (sRet (fAnd (fUn (isaP .str) (fVar 0)) (fAnd (fOp leP (fBlt lenP [(fVar 0)]) (fC (.int 60))) (fBlt allP [(fLc (iAny (fVar 0)) [1] (bName 1) gYes (fOp inP (fVar 1) (fC (.str [115, 108, 114]))))]))))
def m_fits_word : List Vl → M Unit Vl := mkF 2 b_fits_word
theorem h_fits_word (T : Txt K mg)  : Has P w K mg base 1 "fits_word" 1 rg0 m_fits_word :=
  has_fn T.f_fits_word sc_fits_word rg0 (ownL []) b_fits_word rfl (by decide) (by decide) (fun _ _ _ _ _ _ us hl => match us, hl with | [_], _ => rfl)
    fun f j A0 cdv A outer s H E hr => have hu := hu_cx hr; have hu4 := hu4_cx hr;
    (ds_one (ds_ret (de_and (de_isa (t := .str) rfl rfl T.n_isinstance rfl T.n_str (by decide +kernel) (de_var (i := 0) rfl (.inl rfl) rfl)) (de_and (de_cmp rfl op_leP (de_blt rfl call_lenP rfl T.n_len (by decide +kernel) (da_cons (de_var (i := 0) rfl (.inl rfl) rfl) da_nil)) (de_gint T.c_LONGEST rfl) (nomark _)) (de_one (de_blt rfl (call_allP rfl) rfl T.n_all (by decide +kernel) (da_cons (de_new (de_lc (own := [("piece", 1)]) (ws := [1]) rfl sc_fits_word.nd (di_any rfl (de_var (i := 0) rfl (.inl rfl) rfl)) (blkOk_by (sc := defScope s_fits_word) (N := N_fits_word) (by decide +kernel)) rfl rfl (fun _ _ _ _ _ _ _ => (dg_name (i := 1) sc_fits_word.nd rfl (.inl rfl) rfl)) (fun _ _ _ _ _ _ _ => dts_nil) (fun _ _ _ _ _ _ _ => (de_cmp rfl (op_inP hu) (de_var (i := 1) rfl (.inl rfl) rfl) (de_gstr T.c_PIECES rfl) rfl)))) da_nil)))))))
abbrev s_fits_spot : Stmt := topS 14
abbrev N_fits_spot : List Str := ["value", "one"]
theorem sc_fits_spot : FnScope N_fits_spot ["value"] (defScope s_fits_spot) := ⟨rfl, rfl, rfl, by decide +kernel, rfl, by decide +kernel, by decide +kernel⟩
def b_fits_spot : FS Unit :=
    (sRet (fAnd (fCallP m_is_tuple_of [(fVar 0), (fC (.int 2)), (fC (.int 2))]) (fBlt allP [(fLc (iAny (fVar 0)) [1] (bName 1) gYes (fCallP m_fits_whole [(fVar 1), (fUn negP (fC (.int 100))), (fC (.int 100))]))])))
def m_fits_spot : List Vl → M Unit Vl := mkF 2 b_fits_spot
theorem h_fits_spot (T : Txt K mg) (h_is_tuple_of : Has P w K mg base 1 "is_tuple_of" 3 rg0 m_is_tuple_of) (h_fits_whole : Has P w K mg base 2 "fits_whole" 3 rg0 m_fits_whole) : Has P w K mg base 3 "fits_spot" 1 rg0 m_fits_spot :=
  has_fn T.f_fits_spot sc_fits_spot rg0 (ownL []) b_fits_spot rfl (by decide) (by decide) (fun _ _ _ _ _ _ us hl => match us, hl with | [_], _ => rfl)
    fun f j A0 cdv A outer s H E hr => have hu := hu_cx hr; have hu4 := hu4_cx hr;
    (ds_one (ds_ret (de_and (dc_P rfl rfl h_is_tuple_of (hr.mono (by decide)) rfl px_cx rfl (da_cons (de_var (i := 0) rfl (.inl rfl) rfl) (da_cons de_int (da_cons de_int da_nil)))) (de_one (de_blt rfl (call_allP rfl) rfl T.n_all (by decide +kernel) (da_cons (de_new (de_lc (own := [("one", 1)]) (ws := [1]) rfl sc_fits_spot.nd (di_any rfl (de_var (i := 0) rfl (.inl rfl) rfl)) (blkOk_by (sc := defScope s_fits_spot) (N := N_fits_spot) (by decide +kernel)) rfl rfl (fun _ _ _ _ _ _ _ => (dg_name (i := 1) sc_fits_spot.nd rfl (.inl rfl) rfl)) (fun _ _ _ _ _ _ _ => dts_nil) (fun _ _ _ _ _ _ _ => (dc_P rfl rfl h_fits_whole (hr.mono (by decide)) rfl passL rfl (da_cons (de_var (i := 1) rfl (.inl rfl) rfl) (da_cons (de_un rfl un_negP (de_gint T.c_FAR rfl)) (da_cons (de_gint T.c_FAR rfl) da_nil))))))) da_nil))))))
abbrev s_fits_place : Stmt := topS 15
abbrev N_fits_place : List Str := ["value"]
theorem sc_fits_place : FnScope N_fits_place ["value"] (defScope s_fits_place) := ⟨rfl, rfl, rfl, by decide +kernel, rfl, by decide +kernel, by decide +kernel⟩
def b_fits_place : FS Unit :=
    (sRet (fAnd (fCallP m_is_tuple_of [(fVar 0), (fC (.int 3)), (fC (.int 3))]) (fAnd (fCallP m_fits_spot [(fSl slP (fVar 0) oNone (oSome (fC (.int 2))))]) (fCallP m_fits_whole [(fOp ixP (fVar 0) (fC (.int 2))), (fC (.int 0)), (fC (.int 3))]))))
def m_fits_place : List Vl → M Unit Vl := mkF 1 b_fits_place
theorem h_fits_place (T : Txt K mg) (h_is_tuple_of : Has P w K mg base 1 "is_tuple_of" 3 rg0 m_is_tuple_of) (h_fits_spot : Has P w K mg base 3 "fits_spot" 1 rg0 m_fits_spot) (h_fits_whole : Has P w K mg base 2 "fits_whole" 3 rg0 m_fits_whole) : Has P w K mg base 4 "fits_place" 1 rg0 m_fits_place :=
  has_fn T.f_fits_place sc_fits_place rg0 (ownL []) b_fits_place rfl (by decide) (by decide) (fun _ _ _ _ _ _ us hl => match us, hl with | [_], _ => rfl)
    fun f j A0 cdv A outer s H E hr => have hu := hu_cx hr; have hu4 := hu4_cx hr;
    (ds_one (ds_ret (de_and (dc_P rfl rfl h_is_tuple_of (hr.mono (by decide)) rfl px_cx rfl (da_cons (de_var (i := 0) rfl (.inl rfl) rfl) (da_cons de_int (da_cons de_int da_nil)))) (de_and (dc_P rfl rfl h_fits_spot (hr.mono (by decide)) rfl px_cx rfl (da_cons (de_sl rfl sl_P (de_var (i := 0) rfl (.inl rfl) rfl) do_none (do_some de_int)) da_nil)) (de_one (dc_P rfl rfl h_fits_whole (hr.mono (by decide)) rfl px_cx rfl (da_cons (de_ix rfl ix_P (de_var (i := 0) rfl (.inl rfl) rfl) de_int (fun _ _ => rfl)) (da_cons de_int (da_cons de_int da_nil)))))))))
abbrev s_need_word : Stmt := topS 16
abbrev N_need_word : List Str := ["value"]
theorem sc_need_word : FnScope N_need_word ["value"] (defScope s_need_word) := ⟨rfl, rfl, rfl, by decide +kernel, rfl, by decide +kernel, by decide +kernel⟩
def b_need_word : FS Unit :=
    (sIf (gNot (gB (fCallP m_fits_word [(fVar 0)]))) (sRaise "InvalidWord") sNil)
def m_need_word : List Vl → M Unit Vl := mkF 1 b_need_word
theorem h_need_word (T : Txt K mg) (h_fits_word : Has P w K mg base 1 "fits_word" 1 rg0 m_fits_word) : Has P w K mg base 2 "need_word" 1 rg0 m_need_word :=
  has_fn T.f_need_word sc_need_word rg0 (ownL []) b_need_word rfl (by decide) (by decide) (fun _ _ _ _ _ _ us hl => match us, hl with | [_], _ => rfl)
    fun f j A0 cdv A outer s H E hr => have hu := hu_cx hr; have hu4 := hu4_cx hr;
    (ds_one (ds_if (dt_not (dt_b (dc_P rfl rfl h_fits_word (hr.mono (by decide)) rfl px_cx rfl (da_cons (de_var (i := 0) rfl (.inl rfl) rfl) da_nil))))
    (ds_one (ds_rs rfl rfl tk_cx T.x_InvalidWord rfl)) ds_nil))
abbrev s_need_spot : Stmt := topS 17
abbrev N_need_spot : List Str := ["value"]
theorem sc_need_spot : FnScope N_need_spot ["value"] (defScope s_need_spot) := ⟨rfl, rfl, rfl, by decide +kernel, rfl, by decide +kernel, by decide +kernel⟩
def b_need_spot : FS Unit :=
    (sIf (gNot (gB (fCallP m_fits_spot [(fVar 0)]))) (sRaise "InvalidSpot") sNil)
def m_need_spot : List Vl → M Unit Vl := mkF 1 b_need_spot
theorem h_need_spot (T : Txt K mg) (h_fits_spot : Has P w K mg base 3 "fits_spot" 1 rg0 m_fits_spot) : Has P w K mg base 4 "need_spot" 1 rg0 m_need_spot :=
  has_fn T.f_need_spot sc_need_spot rg0 (ownL []) b_need_spot rfl (by decide) (by decide) (fun _ _ _ _ _ _ us hl => match us, hl with | [_], _ => rfl)
    fun f j A0 cdv A outer s H E hr => have hu := hu_cx hr; have hu4 := hu4_cx hr;
    (ds_one (ds_if (dt_not (dt_b (dc_P rfl rfl h_fits_spot (hr.mono (by decide)) rfl px_cx rfl (da_cons (de_var (i := 0) rfl (.inl rfl) rfl) da_nil))))
    (ds_one (ds_rs rfl rfl tk_cx T.x_InvalidSpot rfl)) ds_nil))
abbrev s_need_place : Stmt := topS 18
abbrev N_need_place : List Str := ["value"]
theorem sc_need_place : FnScope N_need_place ["value"] (defScope s_need_place) := ⟨rfl, rfl, rfl, by decide +kernel, rfl, by decide +kernel, by decide +kernel⟩
def b_need_place : FS Unit :=
    (sIf (gNot (gB (fCallP m_fits_place [(fVar 0)]))) (sRaise "InvalidPlace") sNil)
def m_need_place : List Vl → M Unit Vl := mkF 1 b_need_place
theorem h_need_place (T : Txt K mg) (h_fits_place : Has P w K mg base 4 "fits_place" 1 rg0 m_fits_place) : Has P w K mg base 5 "need_place" 1 rg0 m_need_place :=
  has_fn T.f_need_place sc_need_place rg0 (ownL []) b_need_place rfl (by decide) (by decide) (fun _ _ _ _ _ _ us hl => match us, hl with | [_], _ => rfl)
    fun f j A0 cdv A outer s H E hr => have hu := hu_cx hr; have hu4 := hu4_cx hr;
    (ds_one (ds_if (dt_not (dt_b (dc_P rfl rfl h_fits_place (hr.mono (by decide)) rfl px_cx rfl (da_cons (de_var (i := 0) rfl (.inl rfl) rfl) da_nil))))
    (ds_one (ds_rs rfl rfl tk_cx T.x_InvalidPlace rfl)) ds_nil))
abbrev s_forward : Stmt := topS 19
abbrev N_forward : List Str := ["place", "step"]
theorem sc_forward : FnScope N_forward ["place"] (defScope s_forward) := ⟨rfl, rfl, rfl, by decide +kernel, rfl, by decide +kernel, by decide +kernel⟩
def b_forward : FS Unit :=
    (sSeq (sSet 1 (fOp ixP (fC (.tup [(.tup [(.int 1), (.int 0)]), (.tup [(.int 0), (.int 1)]), (.tup [(.int (-1)), (.int 0)]), (.tup [(.int 0), (.int (-1))])])) (fOp ixP (fVar 0) (fC (.int 2)))))
    (sRet (fTup [(fOp addP (fOp ixP (fVar 0) (fC (.int 0))) (fOp ixP (fVar 1) (fC (.int 0)))), (fOp addP (fOp ixP (fVar 0) (fC (.int 1))) (fOp ixP (fVar 1) (fC (.int 1))))])))
def m_forward : List Vl → M Unit Vl := mkF 2 b_forward
theorem h_forward (T : Txt K mg)  : Has P w K mg base 1 "forward" 1 rg0 m_forward :=
  has_fn T.f_forward sc_forward rg0 (ownL []) b_forward rfl (by decide) (by decide) (fun _ _ _ _ _ _ us hl => match us, hl with | [_], _ => rfl)
    fun f j A0 cdv A outer s H E hr => have hu := hu_cx hr; have hu4 := hu4_cx hr;
    (ds_cons (ds_set (i := 1) sc_forward.nd rfl (.inl rfl) rfl (de_ix rfl ix_P (de_gtup rfl T.c_STEPS rfl) (de_ix rfl ix_P (de_var (i := 0) rfl (.inl rfl) rfl) de_int (fun _ _ => rfl)) (fun _ _ => rfl)))
    (ds_one (ds_ret (de_tup (by decide) (da_cons (de_op rfl op_addP (de_ix rfl ix_P (de_var (i := 0) rfl (.inl rfl) rfl) de_int (fun _ _ => rfl)) (de_ix rfl ix_P (de_var (i := 1) rfl (.inl rfl) rfl) de_int (fun _ _ => rfl))) (da_cons (de_op rfl op_addP (de_ix rfl ix_P (de_var (i := 0) rfl (.inl rfl) rfl) de_int (fun _ _ => rfl)) (de_ix rfl ix_P (de_var (i := 1) rfl (.inl rfl) rfl) de_int (fun _ _ => rfl))) da_nil))))))
abbrev s_behind_piece : Stmt := topS 20
abbrev N_behind_piece : List Str := ["place", "piece", "right", "up", "way"]
theorem sc_behind_piece : FnScope N_behind_piece ["place", "piece"] (defScope s_behind_piece) := ⟨rfl, rfl, rfl, by decide +kernel, rfl, by decide +kernel, by decide +kernel⟩
def b_behind_piece : FS Unit :=
    (sSeq (sBind (bTup [(bName 2), (bName 3)]) (fCallP m_forward [(fVar 0)]))
    (sSeq (sIf (gB (fOp eqP (fVar 1) (fC (.str [115])))) (sRet (fTup [(fVar 2), (fVar 3), (fOp ixP (fVar 0) (fC (.int 2)))])) sNil)
    (sSeq (sSet 4 (fOp modP (fOp addP (fOp ixP (fVar 0) (fC (.int 2))) (fIf (gB (fOp eqP (fVar 1) (fC (.str [108])))) (fC (.int 1)) (fC (.int 3)))) (fC (.int 4))))
    (sRet (fTup [(fOp addP (fVar 2) (fOp ixP (fOp ixP (fC (.tup [(.tup [(.int 1), (.int 0)]), (.tup [(.int 0), (.int 1)]), (.tup [(.int (-1)), (.int 0)]), (.tup [(.int 0), (.int (-1))])])) (fVar 4)) (fC (.int 0)))), (fOp addP (fVar 3) (fOp ixP (fOp ixP (fC (.tup [(.tup [(.int 1), (.int 0)]), (.tup [(.int 0), (.int 1)]), (.tup [(.int (-1)), (.int 0)]), (.tup [(.int 0), (.int (-1))])])) (fVar 4)) (fC (.int 1)))), (fVar 4)])))))
def m_behind_piece : List Vl → M Unit Vl := mkF 5 b_behind_piece
theorem h_behind_piece (T : Txt K mg) (h_forward : Has P w K mg base 1 "forward" 1 rg0 m_forward) : Has P w K mg base 2 "behind_piece" 2 rg0 m_behind_piece :=
  has_fn T.f_behind_piece sc_behind_piece rg0 (ownL []) b_behind_piece rfl (by decide) (by decide) (fun _ _ _ _ _ _ us hl => match us, hl with | [_, _], _ => rfl)
    fun f j A0 cdv A outer s H E hr => have hu := hu_cx hr; have hu4 := hu4_cx hr;
    (ds_cons (ds_bind (dc_P rfl rfl h_forward (hr.mono (by decide)) rfl px_cx rfl (da_cons (de_var (i := 0) rfl (.inl rfl) rfl) da_nil)) (dg_tup rfl rfl (dgs_cons (dg_name (i := 2) sc_behind_piece.nd rfl (.inl rfl) rfl) (dgs_cons (dg_name (i := 3) sc_behind_piece.nd rfl (.inl rfl) rfl) dgs_nil)) rfl))
    (ds_cons (ds_if (dt_cmp rfl (op_eqP hu4) (de_var (i := 1) rfl (.inl rfl) rfl) (de_str (z := [115]) (by decide +kernel)) (nomark _))
    (ds_one (ds_ret (de_tup (by decide) (da_cons (de_var (i := 2) rfl (.inl rfl) rfl) (da_cons (de_var (i := 3) rfl (.inl rfl) rfl) (da_cons (de_ix rfl ix_P (de_var (i := 0) rfl (.inl rfl) rfl) de_int (fun _ _ => rfl)) da_nil)))))) ds_nil)
    (ds_cons (ds_set (i := 4) sc_behind_piece.nd rfl (.inl rfl) rfl (de_op rfl op_modP (de_op rfl op_addP (de_ix rfl ix_P (de_var (i := 0) rfl (.inl rfl) rfl) de_int (fun _ _ => rfl)) (de_ifx (dt_cmp rfl (op_eqP hu4) (de_var (i := 1) rfl (.inl rfl) rfl) (de_str (z := [108]) (by decide +kernel)) (nomark _)) de_int de_int)) de_int))
    (ds_one (ds_ret (de_tup (by decide) (da_cons (de_op rfl op_addP (de_var (i := 2) rfl (.inl rfl) rfl) (de_ix rfl ix_P (de_ix rfl ix_P (de_gtup rfl T.c_STEPS rfl) (de_var (i := 4) rfl (.inl rfl) rfl) (fun _ _ => rfl)) de_int (fun _ _ => rfl))) (da_cons (de_op rfl op_addP (de_var (i := 3) rfl (.inl rfl) rfl) (de_ix rfl ix_P (de_ix rfl ix_P (de_gtup rfl T.c_STEPS rfl) (de_var (i := 4) rfl (.inl rfl) rfl) (fun _ _ => rfl)) de_int (fun _ _ => rfl))) (da_cons (de_var (i := 4) rfl (.inl rfl) rfl) da_nil)))))))))
abbrev s_places_in : Stmt := topS 21
abbrev N_places_in : List Str := ["place", "word", "found", "piece"]
theorem sc_places_in : FnScope N_places_in ["place", "word"] (defScope s_places_in) := ⟨rfl, rfl, rfl, by decide +kernel, rfl, by decide +kernel, by decide +kernel⟩
def b_places_in : FS Unit :=
    (sSeq (sSet 2 (fLst [(fVar 0)]))
    (sSeq (sFor (iAny (fVar 1)) (bName 3)
    (sApp 2 (fCallP m_behind_piece [(fOp ixP (fVar 2) (fUn negP (fC (.int 1)))), (fVar 3)])))
    (sRet (fVar 2))))
def m_places_in : List Vl → M Unit Vl := mkF 4 b_places_in
theorem h_places_in (T : Txt K mg) (h_behind_piece : Has P w K mg base 2 "behind_piece" 2 rg0 m_behind_piece) : Has P w K mg base 3 "places_in" 2 rg0 m_places_in :=
  has_fn T.f_places_in sc_places_in rg0 (ownL [2]) b_places_in rfl (by decide) (by decide) (fun _ _ _ _ _ _ us hl => match us, hl with | [_, _], _ => rfl)
    fun f j A0 cdv A outer s H E hr => have hu := hu_cx hr; have hu4 := hu4_cx hr;
    (ds_cons (ds_setN (i := 2) sc_places_in.nd rfl (.inl rfl) rfl (de_lst (by decide) (da_cons (de_var (i := 0) rfl (.inl rfl) rfl) da_nil)))
    (ds_cons (ds_for po_cx rfl (di_any rfl (de_var (i := 1) rfl (.inl rfl) rfl)) (dg_name (i := 3) sc_places_in.nd rfl (.inl rfl) rfl)
    (ds_one (ds_app (i := 2) rfl rfl (.inl rfl) rfl (dc_P rfl rfl h_behind_piece (hr.mono (by decide)) rfl px_cx rfl (da_cons (de_ix rfl ix_P (de_own (i := 2) rfl (.inl rfl) rfl) (de_un rfl un_negP de_int) (fun _ _ => rfl)) (da_cons (de_var (i := 3) rfl (.inl rfl) rfl) da_nil))))))
    (ds_one (ds_ret (de_own (i := 2) rfl (.inl rfl) rfl)))))
abbrev s_end_in : Stmt := topS 22
abbrev N_end_in : List Str := ["place", "word"]
theorem sc_end_in : FnScope N_end_in ["place", "word"] (defScope s_end_in) := ⟨rfl, rfl, rfl, by decide +kernel, rfl, by decide +kernel, by decide +kernel⟩
def b_end_in : FS Unit :=
    (sRet (fOp ixP (fCallP m_places_in [(fVar 0), (fVar 1)]) (fUn negP (fC (.int 1)))))
def m_end_in : List Vl → M Unit Vl := mkF 2 b_end_in
theorem h_end_in (T : Txt K mg) (h_places_in : Has P w K mg base 3 "places_in" 2 rg0 m_places_in) : Has P w K mg base 4 "end_in" 2 rg0 m_end_in :=
  has_fn T.f_end_in sc_end_in rg0 (ownL []) b_end_in rfl (by decide) (by decide) (fun _ _ _ _ _ _ us hl => match us, hl with | [_, _], _ => rfl)
    fun f j A0 cdv A outer s H E hr => have hu := hu_cx hr; have hu4 := hu4_cx hr;
    (ds_one (ds_ret (de_ix rfl ix_P (dc_P rfl rfl h_places_in (hr.mono (by decide)) rfl px_cx rfl (da_cons (de_var (i := 0) rfl (.inl rfl) rfl) (da_cons (de_var (i := 1) rfl (.inl rfl) rfl) da_nil))) (de_un rfl un_negP de_int) (fun _ _ => rfl))))
abbrev s_closes_in : Stmt := topS 23
abbrev N_closes_in : List Str := ["word"]
theorem sc_closes_in : FnScope N_closes_in ["word"] (defScope s_closes_in) := ⟨rfl, rfl, rfl, by decide +kernel, rfl, by decide +kernel, by decide +kernel⟩
def b_closes_in : FS Unit :=
    (sRet (fAnd (fOp neP (fVar 0) (fC (.str []))) (fOp eqP (fCallP m_end_in [(fTup [(fC (.int 0)), (fC (.int 0)), (fC (.int 0))]), (fVar 0)]) (fTup [(fC (.int 0)), (fC (.int 0)), (fC (.int 0))]))))
def m_closes_in : List Vl → M Unit Vl := mkF 1 b_closes_in
theorem h_closes_in (T : Txt K mg) (h_end_in : Has P w K mg base 4 "end_in" 2 rg0 m_end_in) : Has P w K mg base 5 "closes_in" 1 rg0 m_closes_in :=
  has_fn T.f_closes_in sc_closes_in rg0 (ownL []) b_closes_in rfl (by decide) (by decide) (fun _ _ _ _ _ _ us hl => match us, hl with | [_], _ => rfl)
    fun f j A0 cdv A outer s H E hr => have hu := hu_cx hr; have hu4 := hu4_cx hr;
    (ds_one (ds_ret (de_and (de_cmp rfl (op_neP hu4) (de_var (i := 0) rfl (.inl rfl) rfl) (de_str (z := []) (by decide +kernel)) (nomark _)) (de_one (de_cmp rfl (op_eqP hu4) (dc_P rfl rfl h_end_in (hr.mono (by decide)) rfl px_cx rfl (da_cons (de_tup (by decide) (da_cons de_int (da_cons de_int (da_cons de_int da_nil)))) (da_cons (de_var (i := 0) rfl (.inl rfl) rfl) da_nil))) (de_tup (by decide) (da_cons de_int (da_cons de_int (da_cons de_int da_nil)))) (nomark _))))))
abbrev s_is_round : Stmt := topS 24
abbrev N_is_round : List Str := ["value"]
theorem sc_is_round : FnScope N_is_round ["value"] (defScope s_is_round) := ⟨rfl, rfl, rfl, by decide +kernel, rfl, by decide +kernel, by decide +kernel⟩
def b_is_round : FS Unit :=
    (sRet (fAnd (fCallP m_fits_word [(fVar 0)]) (fCallP m_closes_in [(fVar 0)])))
def m_is_round : List Vl → M Unit Vl := mkF 1 b_is_round
theorem h_is_round (T : Txt K mg) (h_fits_word : Has P w K mg base 1 "fits_word" 1 rg0 m_fits_word) (h_closes_in : Has P w K mg base 5 "closes_in" 1 rg0 m_closes_in) : Has P w K mg base 6 "is_round" 1 rg0 m_is_round :=
  has_fn T.f_is_round sc_is_round rg0 (ownL []) b_is_round rfl (by decide) (by decide) (fun _ _ _ _ _ _ us hl => match us, hl with | [_], _ => rfl)
    fun f j A0 cdv A outer s H E hr => have hu := hu_cx hr; have hu4 := hu4_cx hr;
    (ds_one (ds_ret (de_and (dc_P rfl rfl h_fits_word (hr.mono (by decide)) rfl px_cx rfl (da_cons (de_var (i := 0) rfl (.inl rfl) rfl) da_nil)) (de_one (dc_P rfl rfl h_closes_in (hr.mono (by decide)) rfl px_cx rfl (da_cons (de_var (i := 0) rfl (.inl rfl) rfl) da_nil))))))
abbrev s_is_simple : Stmt := topS 26
abbrev N_is_simple : List Str := ["word", "spots", "own"]
theorem sc_is_simple : FnScope N_is_simple ["word"] (defScope s_is_simple) := ⟨rfl, rfl, rfl, by decide +kernel, rfl, by decide +kernel, by decide +kernel⟩
def b_is_simple : FS Unit :=
    (sSeq (sDrop (fCallP m_need_word [(fVar 0)]))
    (sSeq (sSet 1 (fLc (iAny (fCallP m_places_in [(fTup [(fC (.int 0)), (fC (.int 0)), (fC (.int 0))]), (fVar 0)])) [2] (bName 2) gYes (fSl slP (fVar 2) oNone (oSome (fC (.int 2))))))
    (sSeq (sSet 1 (fIf (gB (fCallP m_closes_in [(fVar 0)])) (fSl slL (fVar 1) oNone (oSome (fUn negP (fC (.int 1))))) (fVar 1)))
    (sRet (fOp eqP (fUn lenSetT (fVar 1)) (fBlt lenP [(fVar 1)]))))))
def m_is_simple : List Vl → M Unit Vl := mkF 3 b_is_simple
theorem h_is_simple (T : Txt K mg) (h_need_word : Has P w K mg base 2 "need_word" 1 rg0 m_need_word) (h_closes_in : Has P w K mg base 5 "closes_in" 1 rg0 m_closes_in) (h_places_in : Has P w K mg base 3 "places_in" 2 rg0 m_places_in) : Has P w K mg base 6 "is_simple" 1 rg0 m_is_simple :=
  has_fn T.f_is_simple sc_is_simple rg0 (ownL []) b_is_simple rfl (by decide) (by decide) (fun _ _ _ _ _ _ us hl => match us, hl with | [_], _ => rfl)
    fun f j A0 cdv A outer s H E hr => have hu := hu_cx hr; have hu4 := hu4_cx hr;
    (ds_cons (ds_expr (dc_P rfl rfl h_need_word (hr.mono (by decide)) rfl px_cx rfl (da_cons (de_var (i := 0) rfl (.inl rfl) rfl) da_nil)))
    (ds_cons (ds_setLc (i := 1) rfl rfl rfl (sw_true rfl rfl rfl (by decide +kernel)) (own := [("own", 2)]) (ws := [2]) rfl sc_is_simple.nd (di_any rfl (dc_P rfl rfl h_places_in (hr.mono (by decide)) rfl px_cx rfl (da_cons (de_tup (by decide) (da_cons de_int (da_cons de_int (da_cons de_int da_nil)))) (da_cons (de_var (i := 0) rfl (.inl rfl) rfl) da_nil)))) (blkOk_by (sc := defScope s_is_simple) (N := N_is_simple) (by decide +kernel)) rfl rfl (fun _ _ _ _ _ _ _ => (dg_name (i := 2) sc_is_simple.nd rfl (.inl rfl) rfl)) (fun _ _ _ _ _ _ _ => dts_nil) (fun _ _ _ _ _ _ _ => (de_sl rfl sl_P (de_var (i := 2) rfl (.inl rfl) rfl) do_none (do_some de_int))))
    (ds_cons (ds_set (i := 1) sc_is_simple.nd rfl (.inl rfl) rfl (de_ifx (dt_b (dc_P rfl rfl h_closes_in (hr.mono (by decide)) rfl px_cx rfl (da_cons (de_var (i := 0) rfl (.inl rfl) rfl) da_nil))) (de_new (de_slN rfl sl_L (de_var (i := 1) rfl (.inl rfl) rfl) do_none (do_some (de_un rfl un_negP de_int)))) (de_var (i := 1) rfl (.inl rfl) rfl)))
    (ds_one (ds_ret (de_cmp rfl (op_eqP hu4) (de_lenSetT rfl hu4 rfl rfl T.n_len rfl T.n_set (de_var (i := 1) rfl (.inl rfl) rfl)) (de_blt rfl call_lenP rfl T.n_len (by decide +kernel) (da_cons (de_var (i := 1) rfl (.inl rfl) rfl) da_nil)) (nomark _)))))))
abbrev s_simple_beginning : Stmt := topS 27
abbrev N_simple_beginning : List Str := ["word", "spots", "size", "own"]
theorem sc_simple_beginning : FnScope N_simple_beginning ["word"] (defScope s_simple_beginning) := ⟨rfl, rfl, rfl, by decide +kernel, rfl, by decide +kernel, by decide +kernel⟩
def b_simple_beginning : FS Unit :=
    (sSeq (sDrop (fCallP m_need_word [(fVar 0)]))
    (sSeq (sSet 1 (fLc (iAny (fCallP m_places_in [(fTup [(fC (.int 0)), (fC (.int 0)), (fC (.int 0))]), (fVar 0)])) [3] (bName 3) gYes (fSl slP (fVar 3) oNone (oSome (fC (.int 2))))))
    (sSeq (sSet 2 (fC (.int 1)))
    (sSeq (whileL (gAnd (gB (fOp ltP (fVar 2) (fBlt lenP [(fVar 1)]))) (gB (fOp notInP (fOp ixP (fVar 1) (fVar 2)) (fSl slL (fVar 1) oNone (oSome (fVar 2)))))) (sSet 2 (fOp addP (fVar 2) (fC (.int 1)))) 1000)
    (sRet (fSl slP (fVar 0) oNone (oSome (fOp subP (fVar 2) (fC (.int 1))))))))))
def m_simple_beginning : List Vl → M Unit Vl := mkF 4 b_simple_beginning
theorem h_simple_beginning (T : Txt K mg) (h_need_word : Has P w K mg base 2 "need_word" 1 rg0 m_need_word) (h_places_in : Has P w K mg base 3 "places_in" 2 rg0 m_places_in) : Has P w K mg base 4 "simple_beginning" 1 rg0 m_simple_beginning :=
  has_fn T.f_simple_beginning sc_simple_beginning rg0 (ownL []) b_simple_beginning rfl (by decide) (by decide) (fun _ _ _ _ _ _ us hl => match us, hl with | [_], _ => rfl)
    fun f j A0 cdv A outer s H E hr => have hu := hu_cx hr; have hu4 := hu4_cx hr;
    (ds_cons (ds_expr (dc_P rfl rfl h_need_word (hr.mono (by decide)) rfl px_cx rfl (da_cons (de_var (i := 0) rfl (.inl rfl) rfl) da_nil)))
    (ds_cons (ds_setLc (i := 1) rfl rfl rfl (sw_true rfl rfl rfl (by decide +kernel)) (own := [("own", 3)]) (ws := [3]) rfl sc_simple_beginning.nd (di_any rfl (dc_P rfl rfl h_places_in (hr.mono (by decide)) rfl px_cx rfl (da_cons (de_tup (by decide) (da_cons de_int (da_cons de_int (da_cons de_int da_nil)))) (da_cons (de_var (i := 0) rfl (.inl rfl) rfl) da_nil)))) (blkOk_by (sc := defScope s_simple_beginning) (N := N_simple_beginning) (by decide +kernel)) rfl rfl (fun _ _ _ _ _ _ _ => (dg_name (i := 3) sc_simple_beginning.nd rfl (.inl rfl) rfl)) (fun _ _ _ _ _ _ _ => dts_nil) (fun _ _ _ _ _ _ _ => (de_sl rfl sl_P (de_var (i := 3) rfl (.inl rfl) rfl) do_none (do_some de_int))))
    (ds_cons (ds_set (i := 2) sc_simple_beginning.nd rfl (.inl rfl) rfl de_int)
    (ds_cons (ds_while 1000 po_cx (PW.pt (dw_and (dt_cmp rfl op_ltP (de_var (i := 2) rfl (.inl rfl) rfl) (de_blt rfl call_lenP rfl T.n_len (by decide +kernel) (da_cons (de_var (i := 1) rfl (.inl rfl) rfl) da_nil)) (nomark _)) (dw_and1 (dt_cmp rfl (op_notInP hu) (de_ix rfl ix_P (de_var (i := 1) rfl (.inl rfl) rfl) (de_var (i := 2) rfl (.inl rfl) rfl) (fun _ _ => rfl)) (de_new (de_slN rfl sl_L (de_var (i := 1) rfl (.inl rfl) rfl) do_none (do_some (de_var (i := 2) rfl (.inl rfl) rfl)))) rfl))))
    (ds_one (ds_set (i := 2) sc_simple_beginning.nd rfl (.inl rfl) rfl (de_op rfl op_addP (de_var (i := 2) rfl (.inl rfl) rfl) de_int))))
    (ds_one (ds_ret (de_sl rfl sl_P (de_var (i := 0) rfl (.inl rfl) rfl) do_none (do_some (de_op rfl op_subP (de_var (i := 2) rfl (.inl rfl) rfl) de_int)))))))))
abbrev s_first_loop : Stmt := topS 28
abbrev N_first_loop : List Str := ["word", "spots", "met", "at", "spot", "own"]
theorem sc_first_loop : FnScope N_first_loop ["word"] (defScope s_first_loop) := ⟨rfl, rfl, rfl, by decide +kernel, rfl, by decide +kernel, by decide +kernel⟩
def b_first_loop : FS Unit :=
    (sSeq (sDrop (fCallP m_need_word [(fVar 0)]))
    (sSeq (sParF (ownL [2]) [1, 2] [(fOwn (fLc (iAny (fCallP m_places_in [(fTup [(fC (.int 0)), (fC (.int 0)), (fC (.int 0))]), (fVar 0)])) [5] (bName 5) gYes (fSl slP (fVar 5) oNone (oSome (fC (.int 2)))))), (fOwn fDk0)])
    (sSeq (sFor (iBlt enP [(fVar 1)]) (bTup [(bName 3), (bName 4)])
    (sSeq (sIf (gB (fOp inDkP (fVar 4) (fVar 2))) (sRet (fTup [(fOp dgetP (fVar 2) (fVar 4)), (fVar 3)])) sNil)
    (sDPut 2 (fVar 4) (fVar 3))))
    (sRet (fC .non)))))
def m_first_loop : List Vl → M Unit Vl := mkF 6 b_first_loop
theorem h_first_loop (T : Txt K mg) (h_need_word : Has P w K mg base 2 "need_word" 1 rg0 m_need_word) (h_places_in : Has P w K mg base 3 "places_in" 2 rg0 m_places_in) : Has P w K mg base 4 "first_loop" 1 rg0 m_first_loop :=
  has_fn T.f_first_loop sc_first_loop rg0 (ownL [2]) b_first_loop rfl (by decide) (by decide) (fun _ _ _ _ _ _ us hl => match us, hl with | [_], _ => rfl)
    fun f j A0 cdv A outer s H E hr => have hu := hu_cx hr; have hu4 := hu4_cx hr;
    (ds_cons (ds_expr (dc_P rfl rfl h_need_word (hr.mono (by decide)) rfl px_cx rfl (da_cons (de_var (i := 0) rfl (.inl rfl) rfl) da_nil)))
    (ds_cons (ds_parF2 (i := 1) (j := 2) rfl sc_first_loop.nd rfl rfl (by decide) rfl rfl (daf_cons (df_new (de_lc (own := [("own", 5)]) (ws := [5]) rfl sc_first_loop.nd (di_any rfl (dc_P rfl rfl h_places_in (hr.mono (by decide)) rfl px_cx rfl (da_cons (de_tup (by decide) (da_cons de_int (da_cons de_int (da_cons de_int da_nil)))) (da_cons (de_var (i := 0) rfl (.inl rfl) rfl) da_nil)))) (blkOk_by (sc := defScope s_first_loop) (N := N_first_loop) (by decide +kernel)) rfl rfl (fun _ _ _ _ _ _ _ => (dg_name (i := 5) sc_first_loop.nd rfl (.inl rfl) rfl)) (fun _ _ _ _ _ _ _ => dts_nil) (fun _ _ _ _ _ _ _ => (de_sl rfl sl_P (de_var (i := 5) rfl (.inl rfl) rfl) do_none (do_some de_int))))) (daf_cons (df_new de_dk0) daf_nil)) rfl)
    (ds_cons (ds_for po_cx rfl (di_en rfl rfl T.n_enumerate (da_cons (de_var (i := 1) rfl (.inl rfl) rfl) da_nil)) (dg_tup rfl rfl (dgs_cons (dg_name (i := 3) sc_first_loop.nd rfl (.inl rfl) rfl) (dgs_cons (dg_name (i := 4) sc_first_loop.nd rfl (.inl rfl) rfl) dgs_nil)) rfl)
    (ds_cons (ds_if (dt_cmp rfl (op_inDkP hu4) (de_var (i := 4) rfl (.inl rfl) rfl) (de_own (i := 2) rfl (.inl rfl) rfl) rfl)
    (ds_one (ds_ret (de_tup (by decide) (da_cons (de_dget hu4 rfl (de_own (i := 2) rfl (.inl rfl) rfl) (de_var (i := 4) rfl (.inl rfl) rfl) (fun _ _ => rfl)) (da_cons (de_var (i := 3) rfl (.inl rfl) rfl) da_nil))))) ds_nil)
    (ds_one (ds_dput (i := 2) hu4 rfl rfl (.inl rfl) rfl (de_var (i := 3) rfl (.inl rfl) rfl) (de_var (i := 4) rfl (.inl rfl) rfl)))))
    (ds_one (ds_ret de_non)))))
abbrev s_common_spots : Stmt := topS 29
abbrev N_common_spots : List Str := ["place", "word", "where", "other", "second", "own"]
theorem sc_common_spots : FnScope N_common_spots ["place", "word", "where", "other"] (defScope s_common_spots) := ⟨rfl, rfl, rfl, by decide +kernel, rfl, by decide +kernel, by decide +kernel⟩
def b_common_spots : FS Unit :=
    (sSeq (sDrop (fCallP m_need_place [(fVar 0)]))
    (sSeq (sDrop (fCallP m_need_word [(fVar 1)]))
    (sSeq (sDrop (fCallP m_need_place [(fVar 2)]))
    (sSeq (sDrop (fCallP m_need_word [(fVar 3)]))
    (sSeq (sSet 4 (fDc (iAny (fCallP m_places_in [(fVar 2), (fVar 3)])) [5] (bName 5) gYes (fSl slP (fVar 5) oNone (oSome (fC (.int 2)))) (fC (.bl true))))
    (sRet (fBlt tupleP [(fUn sortSetT (fLc (iAny (fCallP m_places_in [(fVar 0), (fVar 1)])) [5] (bName 5) (gB (fOp inDkP (fSl slP (fVar 5) oNone (oSome (fC (.int 2)))) (fVar 4))) (fSl slP (fVar 5) oNone (oSome (fC (.int 2))))))])))))))
def m_common_spots : List Vl → M Unit Vl := mkF 6 b_common_spots
theorem h_common_spots (T : Txt K mg) (h_need_place : Has P w K mg base 5 "need_place" 1 rg0 m_need_place) (h_need_word : Has P w K mg base 2 "need_word" 1 rg0 m_need_word) (h_places_in : Has P w K mg base 3 "places_in" 2 rg0 m_places_in) : Has P w K mg base 6 "common_spots" 4 rg0 m_common_spots :=
  has_fn T.f_common_spots sc_common_spots rg0 (ownL []) b_common_spots rfl (by decide) (by decide) (fun _ _ _ _ _ _ us hl => match us, hl with | [_, _, _, _], _ => rfl)
    fun f j A0 cdv A outer s H E hr => have hu := hu_cx hr; have hu4 := hu4_cx hr;
    (ds_cons (ds_expr (dc_P rfl rfl h_need_place (hr.mono (by decide)) rfl px_cx rfl (da_cons (de_var (i := 0) rfl (.inl rfl) rfl) da_nil)))
    (ds_cons (ds_expr (dc_P rfl rfl h_need_word (hr.mono (by decide)) rfl px_cx rfl (da_cons (de_var (i := 1) rfl (.inl rfl) rfl) da_nil)))
    (ds_cons (ds_expr (dc_P rfl rfl h_need_place (hr.mono (by decide)) rfl px_cx rfl (da_cons (de_var (i := 2) rfl (.inl rfl) rfl) da_nil)))
    (ds_cons (ds_expr (dc_P rfl rfl h_need_word (hr.mono (by decide)) rfl px_cx rfl (da_cons (de_var (i := 3) rfl (.inl rfl) rfl) da_nil)))
    (ds_cons (ds_set (i := 4) sc_common_spots.nd rfl (.inr rfl) rfl (de_new (de_dc (own := [("own", 5)]) (ws := [5]) hu4 rfl rfl sc_common_spots.nd (di_any rfl (dc_P rfl rfl h_places_in (hr.mono (by decide)) rfl px_cx rfl (da_cons (de_var (i := 2) rfl (.inl rfl) rfl) (da_cons (de_var (i := 3) rfl (.inl rfl) rfl) da_nil)))) (blkOk_by (sc := defScope s_common_spots) (N := N_common_spots) (by decide +kernel)) rfl rfl (fun _ _ _ _ _ _ _ => (dg_name (i := 5) sc_common_spots.nd rfl (.inl rfl) rfl)) (fun _ _ _ _ _ _ _ => dts_nil) (fun _ _ _ _ _ _ _ => (de_sl rfl sl_P (de_var (i := 5) rfl (.inl rfl) rfl) do_none (do_some de_int))) (fun _ _ _ _ _ _ _ => de_bl))))
    (ds_one (ds_ret (de_ty rfl call_tupleP rfl T.n_tuple (by decide +kernel) (da_cons (de_new (de_sortSetT rfl hu4 rfl rfl T.n_sorted rfl T.n_set (de_new (de_lc (own := [("own", 5)]) (ws := [5]) rfl sc_common_spots.nd (di_any rfl (dc_P rfl rfl h_places_in (hr.mono (by decide)) rfl px_cx rfl (da_cons (de_var (i := 0) rfl (.inl rfl) rfl) (da_cons (de_var (i := 1) rfl (.inl rfl) rfl) da_nil)))) (blkOk_by (sc := defScope s_common_spots) (N := N_common_spots) (by decide +kernel)) rfl rfl (fun _ _ _ _ _ _ _ => (dg_name (i := 5) sc_common_spots.nd rfl (.inl rfl) rfl)) (fun _ _ _ _ _ _ _ => (dts_one (dt_cmp rfl (op_inDkP hu4) (de_sl rfl sl_P (de_var (i := 5) rfl (.inl rfl) rfl) do_none (do_some de_int)) (de_var (i := 4) rfl (.inr (.inl rfl)) rfl) rfl))) (fun _ _ _ _ _ _ _ => (de_sl rfl sl_P (de_var (i := 5) rfl (.inl rfl) rfl) do_none (do_some de_int))))))) da_nil)))))))))
abbrev s_nearest_place : Stmt := topS 30
abbrev N_nearest_place : List Str := ["place", "word", "spot", "rows", "own"]
theorem sc_nearest_place : FnScope N_nearest_place ["place", "word", "spot"] (defScope s_nearest_place) := ⟨rfl, rfl, rfl, by decide +kernel, rfl, by decide +kernel, by decide +kernel⟩
def b_nearest_place : FS Unit :=
    (sSeq (sDrop (fCallP m_need_place [(fVar 0)]))
    (sSeq (sDrop (fCallP m_need_word [(fVar 1)]))
    (sSeq (sDrop (fCallP m_need_spot [(fVar 2)]))
    (sSeq (sSet 3 (fLc (iAny (fCallP m_places_in [(fVar 0), (fVar 1)])) [4] (bName 4) gYes (fOp addP (fBlt absP [(fOp subP (fOp ixP (fVar 4) (fC (.int 0))) (fOp ixP (fVar 2) (fC (.int 0))))]) (fBlt absP [(fOp subP (fOp ixP (fVar 4) (fC (.int 1))) (fOp ixP (fVar 2) (fC (.int 1))))]))))
    (sRet (fMet tyL lindexP (fVar 3) [(fBlt minP [(fVar 3)])]))))))
def m_nearest_place : List Vl → M Unit Vl := mkF 5 b_nearest_place
theorem h_nearest_place (T : Txt K mg) (h_need_place : Has P w K mg base 5 "need_place" 1 rg0 m_need_place) (h_need_word : Has P w K mg base 2 "need_word" 1 rg0 m_need_word) (h_need_spot : Has P w K mg base 4 "need_spot" 1 rg0 m_need_spot) (h_places_in : Has P w K mg base 3 "places_in" 2 rg0 m_places_in) : Has P w K mg base 6 "nearest_place" 3 rg0 m_nearest_place :=
  has_fn T.f_nearest_place sc_nearest_place rg0 (ownL []) b_nearest_place rfl (by decide) (by decide) (fun _ _ _ _ _ _ us hl => match us, hl with | [_, _, _], _ => rfl)
    fun f j A0 cdv A outer s H E hr => have hu := hu_cx hr; have hu4 := hu4_cx hr;
    (ds_cons (ds_expr (dc_P rfl rfl h_need_place (hr.mono (by decide)) rfl px_cx rfl (da_cons (de_var (i := 0) rfl (.inl rfl) rfl) da_nil)))
    (ds_cons (ds_expr (dc_P rfl rfl h_need_word (hr.mono (by decide)) rfl px_cx rfl (da_cons (de_var (i := 1) rfl (.inl rfl) rfl) da_nil)))
    (ds_cons (ds_expr (dc_P rfl rfl h_need_spot (hr.mono (by decide)) rfl px_cx rfl (da_cons (de_var (i := 2) rfl (.inr (.inl rfl)) rfl) da_nil)))
    (ds_cons (ds_setLc (i := 3) rfl rfl rfl (sw_true rfl rfl rfl (by decide +kernel)) (own := [("own", 4)]) (ws := [4]) rfl sc_nearest_place.nd (di_any rfl (dc_P rfl rfl h_places_in (hr.mono (by decide)) rfl px_cx rfl (da_cons (de_var (i := 0) rfl (.inl rfl) rfl) (da_cons (de_var (i := 1) rfl (.inl rfl) rfl) da_nil)))) (blkOk_by (sc := defScope s_nearest_place) (N := N_nearest_place) (by decide +kernel)) rfl rfl (fun _ _ _ _ _ _ _ => (dg_name (i := 4) sc_nearest_place.nd rfl (.inl rfl) rfl)) (fun _ _ _ _ _ _ _ => dts_nil) (fun _ _ _ _ _ _ _ => (de_op rfl op_addP (de_blt rfl call_absP rfl T.n_abs (by decide +kernel) (da_cons (de_op rfl op_subP (de_ix rfl ix_P (de_var (i := 4) rfl (.inl rfl) rfl) de_int (fun _ _ => rfl)) (de_ix rfl ix_P (de_var (i := 2) rfl (.inr (.inl rfl)) rfl) de_int (fun _ _ => rfl))) da_nil)) (de_blt rfl call_absP rfl T.n_abs (by decide +kernel) (da_cons (de_op rfl op_subP (de_ix rfl ix_P (de_var (i := 4) rfl (.inl rfl) rfl) de_int (fun _ _ => rfl)) (de_ix rfl ix_P (de_var (i := 2) rfl (.inr (.inl rfl)) rfl) de_int (fun _ _ => rfl))) da_nil)))))
    (ds_one (ds_ret (de_met rfl PySem.F.plainAttrs_list PySem.F.slot_list_index PySem.F.type_list_index (met_lindex hu) tyL_ok (de_var (i := 3) rfl (.inl rfl) rfl) (da_cons (de_blt rfl (call_minP rfl) rfl T.n_min (by decide +kernel) (da_cons (de_var (i := 3) rfl (.inl rfl) rfl) da_nil)) da_nil))))))))
abbrev s_within_bounds : Stmt := topS 31
abbrev N_within_bounds : List Str := ["place", "word", "own"]
theorem sc_within_bounds : FnScope N_within_bounds ["place", "word"] (defScope s_within_bounds) := ⟨rfl, rfl, rfl, by decide +kernel, rfl, by decide +kernel, by decide +kernel⟩
def b_within_bounds : FS Unit :=
    (sSeq (sDrop (fCallP m_need_place [(fVar 0)]))
    (sSeq (sDrop (fCallP m_need_word [(fVar 1)]))
    (sRet (fBlt allP [(fLc (iAny (fCallP m_places_in [(fVar 0), (fVar 1)])) [2] (bName 2) gYes (fAnd (fOp leP (fBlt absP [(fOp ixP (fVar 2) (fC (.int 0)))]) (fC (.int 100))) (fOp leP (fBlt absP [(fOp ixP (fVar 2) (fC (.int 1)))]) (fC (.int 100)))))]))))
def m_within_bounds : List Vl → M Unit Vl := mkF 3 b_within_bounds
theorem h_within_bounds (T : Txt K mg) (h_need_place : Has P w K mg base 5 "need_place" 1 rg0 m_need_place) (h_need_word : Has P w K mg base 2 "need_word" 1 rg0 m_need_word) (h_places_in : Has P w K mg base 3 "places_in" 2 rg0 m_places_in) : Has P w K mg base 6 "within_bounds" 2 rg0 m_within_bounds :=
  has_fn T.f_within_bounds sc_within_bounds rg0 (ownL []) b_within_bounds rfl (by decide) (by decide) (fun _ _ _ _ _ _ us hl => match us, hl with | [_, _], _ => rfl)
    fun f j A0 cdv A outer s H E hr => have hu := hu_cx hr; have hu4 := hu4_cx hr;
    (ds_cons (ds_expr (dc_P rfl rfl h_need_place (hr.mono (by decide)) rfl px_cx rfl (da_cons (de_var (i := 0) rfl (.inl rfl) rfl) da_nil)))
    (ds_cons (ds_expr (dc_P rfl rfl h_need_word (hr.mono (by decide)) rfl px_cx rfl (da_cons (de_var (i := 1) rfl (.inl rfl) rfl) da_nil)))
    (ds_one (ds_ret (de_blt rfl (call_allP rfl) rfl T.n_all (by decide +kernel) (da_cons (de_new (de_lc (own := [("own", 2)]) (ws := [2]) rfl sc_within_bounds.nd (di_any rfl (dc_P rfl rfl h_places_in (hr.mono (by decide)) rfl px_cx rfl (da_cons (de_var (i := 0) rfl (.inl rfl) rfl) (da_cons (de_var (i := 1) rfl (.inl rfl) rfl) da_nil)))) (blkOk_by (sc := defScope s_within_bounds) (N := N_within_bounds) (by decide +kernel)) rfl rfl (fun _ _ _ _ _ _ _ => (dg_name (i := 2) sc_within_bounds.nd rfl (.inl rfl) rfl)) (fun _ _ _ _ _ _ _ => dts_nil) (fun _ _ _ _ _ _ _ => (de_and (de_cmp rfl op_leP (de_blt rfl call_absP rfl T.n_abs (by decide +kernel) (da_cons (de_ix rfl ix_P (de_var (i := 2) rfl (.inl rfl) rfl) de_int (fun _ _ => rfl)) da_nil)) (de_gint T.c_FAR rfl) (nomark _)) (de_one (de_cmp rfl op_leP (de_blt rfl call_absP rfl T.n_abs (by decide +kernel) (da_cons (de_ix rfl ix_P (de_var (i := 2) rfl (.inl rfl) rfl) de_int (fun _ _ => rfl)) da_nil)) (de_gint T.c_FAR rfl) (nomark _))))))) da_nil))))))
abbrev s_drift_of : Stmt := topS 32
abbrev N_drift_of : List Str := ["word", "right", "up", "way"]
theorem sc_drift_of : FnScope N_drift_of ["word"] (defScope s_drift_of) := ⟨rfl, rfl, rfl, by decide +kernel, rfl, by decide +kernel, by decide +kernel⟩
def b_drift_of : FS Unit :=
    (sSeq (sDrop (fCallP m_need_word [(fVar 0)]))
    (sSeq (sBind (bTup [(bName 1), (bName 2), (bName 3)]) (fCallP m_end_in [(fTup [(fC (.int 0)), (fC (.int 0)), (fC (.int 0))]), (fVar 0)]))
    (sRet (fOp addP (fBlt absP [(fVar 1)]) (fBlt absP [(fVar 2)])))))
def m_drift_of : List Vl → M Unit Vl := mkF 4 b_drift_of
theorem h_drift_of (T : Txt K mg) (h_need_word : Has P w K mg base 2 "need_word" 1 rg0 m_need_word) (h_end_in : Has P w K mg base 4 "end_in" 2 rg0 m_end_in) : Has P w K mg base 5 "drift_of" 1 rg0 m_drift_of :=
  has_fn T.f_drift_of sc_drift_of rg0 (ownL []) b_drift_of rfl (by decide) (by decide) (fun _ _ _ _ _ _ us hl => match us, hl with | [_], _ => rfl)
    fun f j A0 cdv A outer s H E hr => have hu := hu_cx hr; have hu4 := hu4_cx hr;
    (ds_cons (ds_expr (dc_P rfl rfl h_need_word (hr.mono (by decide)) rfl px_cx rfl (da_cons (de_var (i := 0) rfl (.inl rfl) rfl) da_nil)))
    (ds_cons (ds_bind (dc_P rfl rfl h_end_in (hr.mono (by decide)) rfl px_cx rfl (da_cons (de_tup (by decide) (da_cons de_int (da_cons de_int (da_cons de_int da_nil)))) (da_cons (de_var (i := 0) rfl (.inl rfl) rfl) da_nil))) (dg_tup rfl rfl (dgs_cons (dg_name (i := 1) sc_drift_of.nd rfl (.inl rfl) rfl) (dgs_cons (dg_name (i := 2) sc_drift_of.nd rfl (.inl rfl) rfl) (dgs_cons (dg_name (i := 3) sc_drift_of.nd rfl (.inl rfl) rfl) dgs_nil))) rfl))
    (ds_one (ds_ret (de_op rfl op_addP (de_blt rfl call_absP rfl T.n_abs (by decide +kernel) (da_cons (de_var (i := 1) rfl (.inl rfl) rfl) da_nil)) (de_blt rfl call_absP rfl T.n_abs (by decide +kernel) (da_cons (de_var (i := 2) rfl (.inl rfl) rfl) da_nil)))))))
abbrev s__law_roll : Stmt := topS 35
abbrev N__law_roll : List Str := ["cup", "many", "found", "deep"]
theorem sc__law_roll : FnScope N__law_roll ["cup", "many"] (defScope s__law_roll) := ⟨rfl, rfl, rfl, by decide +kernel, rfl, by decide +kernel, by decide +kernel⟩
def b__law_roll : FS Cup :=
    (sSeq (sIf (gB (fOp gtP (fReg 0 0) (fC (.int 0)))) (sSeq (sSet 2 (fOp modP (fBlt intP [(fReg 0 0)]) (fVar 1)))
    (sSeq (sReg 0 0 (fOp fdivP (fReg 0 0) (fVar 1)))
    (sRet (fVar 2)))) sNil)
    (sSeq (sReg 0 1 (fOp modP (fBlt intP [(fOp addP (fOp mulP (fReg 0 1) (fC (.int 31231))) (fC (.int 8219)))]) (fC (.int 2147483059))))
    (sSeq (sSet 3 (fOp modP (fBlt intP [(fOp mulP (fReg 0 1) (fOp addP (fReg 0 1) (fC (.int 433))))]) (fC (.int 2147483059))))
    (sRet (fOp modP (fBlt intP [(fOp fdivP (fVar 3) (fC (.int 971)))]) (fVar 1))))))
def m__law_roll : List Vl → M Cup Vl := mkF 4 b__law_roll
theorem h__law_roll (T : Txt K mg)  : Has P w K mg base 1 "_law_roll" 2 cupR m__law_roll :=
  has_fn T.f__law_roll sc__law_roll cupR (ownL []) b__law_roll rfl (by decide) (by decide) (fun _ _ _ _ _ _ us hl => match us, hl with | [_, _], _ => rfl)
    fun f j A0 cdv A outer s H E hr => have hu := hu_cx hr; have hu4 := hu4_cx hr;
    (ds_cons (ds_if (dt_cmp rfl op_gtP (de_reg (i := 0) (k := 0) rfl rfl rfl (.inl rfl) rfl (by decide) (fun _ _ => rfl)) de_int (nomark _))
    (ds_cons (ds_set (i := 2) sc__law_roll.nd rfl (.inl rfl) rfl (de_op rfl op_modP (de_ty rfl call_intP rfl T.n_int (by decide +kernel) (da_cons (de_reg (i := 0) (k := 0) rfl rfl rfl (.inl rfl) rfl (by decide) (fun _ _ => rfl)) da_nil)) (de_var (i := 1) rfl (.inl rfl) rfl)))
    (ds_cons (ds_reg (i := 0) (k := 0) rfl rfl rfl (.inl rfl) rfl (by decide) (de_op rfl op_fdivP (de_reg (i := 0) (k := 0) rfl rfl rfl (.inl rfl) rfl (by decide) (fun _ _ => rfl)) (de_var (i := 1) rfl (.inl rfl) rfl)))
    (ds_one (ds_ret (de_var (i := 2) rfl (.inl rfl) rfl))))) ds_nil)
    (ds_cons (ds_reg (i := 0) (k := 1) rfl rfl rfl (.inl rfl) rfl (by decide) (de_op rfl op_modP (de_ty rfl call_intP rfl T.n_int (by decide +kernel) (da_cons (de_op rfl op_addP (de_op rfl op_mulP (de_reg (i := 0) (k := 1) rfl rfl rfl (.inl rfl) rfl (by decide) (fun _ _ => rfl)) de_int) de_int) da_nil)) de_int))
    (ds_cons (ds_set (i := 3) sc__law_roll.nd rfl (.inl rfl) rfl (de_op rfl op_modP (de_ty rfl call_intP rfl T.n_int (by decide +kernel) (da_cons (de_op rfl op_mulP (de_reg (i := 0) (k := 1) rfl rfl rfl (.inl rfl) rfl (by decide) (fun _ _ => rfl)) (de_op rfl op_addP (de_reg (i := 0) (k := 1) rfl rfl rfl (.inl rfl) rfl (by decide) (fun _ _ => rfl)) de_int)) da_nil)) de_int))
    (ds_one (ds_ret (de_op rfl op_modP (de_ty rfl call_intP rfl T.n_int (by decide +kernel) (da_cons (de_op rfl op_fdivP (de_var (i := 3) rfl (.inl rfl) rfl) de_int) da_nil)) (de_var (i := 1) rfl (.inl rfl) rfl)))))))
abbrev s__law_some : Stmt := topS 36
abbrev N__law_some : List Str := ["cup", "things"]
theorem sc__law_some : FnScope N__law_some ["cup", "things"] (defScope s__law_some) := ⟨rfl, rfl, rfl, by decide +kernel, rfl, by decide +kernel, by decide +kernel⟩
def b__law_some : FS Cup :=
    (sRet (fOp ixP (fVar 1) (fCall m__law_roll [(fVar 0), (fBlt lenP [(fVar 1)])])))
def m__law_some : List Vl → M Cup Vl := mkF 2 b__law_some
theorem h__law_some (T : Txt K mg) (h__law_roll : Has P w K mg base 1 "_law_roll" 2 cupR m__law_roll) : Has P w K mg base 2 "_law_some" 2 cupR m__law_some :=
  has_fn T.f__law_some sc__law_some cupR (ownL []) b__law_some rfl (by decide) (by decide) (fun _ _ _ _ _ _ us hl => match us, hl with | [_, _], _ => rfl)
    fun f j A0 cdv A outer s H E hr => have hu := hu_cx hr; have hu4 := hu4_cx hr;
    (ds_one (ds_ret (de_ix rfl ix_P (de_var (i := 1) rfl (.inl rfl) rfl) (dc_M rfl rfl h__law_roll (hr.mono (by decide)) rfl px_cx j rfl rfl (da_cons (de_var (i := 0) rfl (.inl rfl) rfl) (da_cons (de_blt rfl call_lenP rfl T.n_len (by decide +kernel) (da_cons (de_var (i := 1) rfl (.inl rfl) rfl) da_nil)) da_nil))) (fun _ _ => rfl))))
abbrev s__law_same : Stmt := topS 37
abbrev N__law_same : List Str := ["told", "due", "at"]
theorem sc__law_same : FnScope N__law_same ["told", "due"] (defScope s__law_same) := ⟨rfl, rfl, rfl, by decide +kernel, rfl, by decide +kernel, by decide +kernel⟩
def b__law_same (self : List Vl → M Unit Vl) : FS Unit :=
    (sSeq (sIf (gB (fUn (isaP .tuple) (fVar 1))) (sSeq (sIf (gOr (gNot (gB (fUn (isaP .tuple) (fVar 0)))) (gB (fOp neP (fBlt lenP [(fVar 0)]) (fBlt lenP [(fVar 1)])))) (sRet (fC (.bl false))) sNil)
    (sRet (fBlt allP [(fLc (iBlt iRange1 [(fBlt lenP [(fVar 1)])]) [2] (bName 2) gYes (fCallP self [(fOp ixP (fVar 0) (fVar 2)), (fOp ixP (fVar 1) (fVar 2))]))]))) sNil)
    (sSeq (sIf (gB (fOp isP (fVar 1) (fC .non))) (sRet (fOp isP (fVar 0) (fC .non))) sNil)
    (sSeq (sIf (gB (fUn (isaP .bool) (fVar 1))) (sRet (fIf (gB (fVar 1)) (fOp isP (fVar 0) (fC (.bl true))) (fOp isP (fVar 0) (fC (.bl false))))) sNil)
    (sSeq (sIf (gB (fUn (isaP .int) (fVar 1))) (sRet (fAnd (fUn (isaP .int) (fVar 0)) (fAnd (fNot (fUn (isaP .bool) (fVar 0))) (fOp eqP (fBlt intP [(fVar 0)]) (fVar 1))))) sNil)
    (sRet (fAnd (fUn (isaP .str) (fVar 0)) (fOp eqP (fBlt strP [(fVar 0)]) (fVar 1))))))))
def m__law_same : Nat → List Vl → M Unit Vl
  | 0 => fun _ => bad
  | d + 1 => mkF 3 (b__law_same (m__law_same d))
theorem h__law_same (T : Txt K mg)  : ∀ d : Nat, Has P w K mg base (d + 1) "_law_same" 2 rg0 (m__law_same d)
  | 0 => has_bad T.f__law_same sc__law_same rg0 rfl (fun _ _ _ _ _ _ us hl => match us, hl with | [_, _], _ => rfl)
  | d + 1 => have h__law_same := h__law_same T  d;
  has_fn T.f__law_same sc__law_same rg0 (ownL []) (b__law_same (m__law_same d)) rfl (by decide) (by decide) (fun _ _ _ _ _ _ us hl => match us, hl with | [_, _], _ => rfl)
    fun f j A0 cdv A outer s H E hr => have hu := hu_cx hr; have hu4 := hu4_cx hr;
    (ds_cons (ds_if (dt_b (de_isa (t := .tuple) rfl rfl T.n_isinstance rfl T.n_tuple (by decide +kernel) (de_var (i := 1) rfl (.inr (.inl rfl)) rfl)))
    (ds_cons (ds_if (PW.pt (dw_or (dt_not (dt_b (de_isa (t := .tuple) rfl rfl T.n_isinstance rfl T.n_tuple (by decide +kernel) (de_var (i := 0) rfl (.inr (.inl rfl)) rfl)))) (dw_or1 (dt_cmp rfl (op_neP hu4) (de_blt rfl call_lenP rfl T.n_len (by decide +kernel) (da_cons (de_var (i := 0) rfl (.inr (.inl rfl)) rfl) da_nil)) (de_blt rfl call_lenP rfl T.n_len (by decide +kernel) (da_cons (de_var (i := 1) rfl (.inr (.inl rfl)) rfl) da_nil)) (nomark _)))))
    (ds_one (ds_ret de_bl)) ds_nil)
    (ds_one (ds_ret (de_blt rfl (call_allP rfl) rfl T.n_all (by decide +kernel) (da_cons (de_new (de_lc (own := [("at", 2)]) (ws := [2]) rfl sc__law_same.nd (di_range1 (b := true) rfl T.n_range (da_cons (de_blt rfl call_lenP rfl T.n_len (by decide +kernel) (da_cons (de_var (i := 1) rfl (.inr (.inl rfl)) rfl) da_nil)) da_nil)) (blkOk_by (sc := defScope s__law_same) (N := N__law_same) (by decide +kernel)) rfl rfl (fun _ _ _ _ _ _ _ => (dg_name (i := 2) sc__law_same.nd rfl (.inl rfl) rfl)) (fun _ _ _ _ _ _ _ => dts_nil) (fun _ _ _ _ _ _ _ => (dc_P rfl rfl h__law_same (hr.mono (by omega)) rfl passL rfl (da_cons (de_ix rfl ix_P (de_var (i := 0) rfl (.inr (.inl rfl)) rfl) (de_var (i := 2) rfl (.inl rfl) rfl) (fun _ _ => rfl)) (da_cons (de_ix rfl ix_P (de_var (i := 1) rfl (.inr (.inl rfl)) rfl) (de_var (i := 2) rfl (.inl rfl) rfl) (fun _ _ => rfl)) da_nil)))))) da_nil))))) ds_nil)
    (ds_cons (ds_if (dt_cmp rfl op_isP (de_var (i := 1) rfl (.inr (.inl rfl)) rfl) de_non (nomark _))
    (ds_one (ds_ret (de_cmp rfl op_isP (de_var (i := 0) rfl (.inr (.inl rfl)) rfl) de_non (nomark _)))) ds_nil)
    (ds_cons (ds_if (dt_b (de_isa (t := .bool) rfl rfl T.n_isinstance rfl T.n_bool (by decide +kernel) (de_var (i := 1) rfl (.inr (.inl rfl)) rfl)))
    (ds_one (ds_ret (de_ifx (dt_b (de_var (i := 1) rfl (.inr (.inl rfl)) rfl)) (de_cmp rfl op_isP (de_var (i := 0) rfl (.inr (.inl rfl)) rfl) de_bl (nomark _)) (de_cmp rfl op_isP (de_var (i := 0) rfl (.inr (.inl rfl)) rfl) de_bl (nomark _))))) ds_nil)
    (ds_cons (ds_if (dt_b (de_isa (t := .int) rfl rfl T.n_isinstance rfl T.n_int (by decide +kernel) (de_var (i := 1) rfl (.inr (.inl rfl)) rfl)))
    (ds_one (ds_ret (de_and (de_isa (t := .int) rfl rfl T.n_isinstance rfl T.n_int (by decide +kernel) (de_var (i := 0) rfl (.inr (.inl rfl)) rfl)) (de_and (de_not (de_isa (t := .bool) rfl rfl T.n_isinstance rfl T.n_bool (by decide +kernel) (de_var (i := 0) rfl (.inr (.inl rfl)) rfl))) (de_one (de_cmp rfl (op_eqP hu4) (de_ty rfl call_intP rfl T.n_int (by decide +kernel) (da_cons (de_var (i := 0) rfl (.inr (.inl rfl)) rfl) da_nil)) (de_var (i := 1) rfl (.inr (.inl rfl)) rfl) (nomark _))))))) ds_nil)
    (ds_one (ds_ret (de_and (de_isa (t := .str) rfl rfl T.n_isinstance rfl T.n_str (by decide +kernel) (de_var (i := 0) rfl (.inr (.inl rfl)) rfl)) (de_one (de_cmp rfl (op_eqP hu4) (de_ty rfl call_strP rfl T.n_str (by decide +kernel) (da_cons (de_var (i := 0) rfl (.inr (.inl rfl)) rfl) da_nil)) (de_var (i := 1) rfl (.inr (.inl rfl)) rfl) (nomark _))))))))))
abbrev s__law_word : Stmt := topS 38
abbrev N__law_word : List Str := ["cup", "many", "piece"]
theorem sc__law_word : FnScope N__law_word ["cup", "many"] (defScope s__law_word) := ⟨rfl, rfl, rfl, by decide +kernel, rfl, by decide +kernel, by decide +kernel⟩
def b__law_word : FS Cup :=
    (sRet (fMet tyS join1 (fC (.str [])) [(fLc (iBlt iRange1 [(fCall m__law_roll [(fVar 0), (fOp addP (fVar 1) (fC (.int 1)))])]) [2] (bName 2) gYes (fCall m__law_some [(fVar 0), (fLst [(fC (.str [115])), (fC (.str [108])), (fC (.str [114]))])]))]))
def m__law_word : List Vl → M Cup Vl := mkF 3 b__law_word
theorem h__law_word (T : Txt K mg) (h__law_some : Has P w K mg base 2 "_law_some" 2 cupR m__law_some) (h__law_roll : Has P w K mg base 1 "_law_roll" 2 cupR m__law_roll) : Has P w K mg base 3 "_law_word" 2 cupR m__law_word :=
  has_fn T.f__law_word sc__law_word cupR (ownL []) b__law_word rfl (by decide) (by decide) (fun _ _ _ _ _ _ us hl => match us, hl with | [_, _], _ => rfl)
    fun f j A0 cdv A outer s H E hr => have hu := hu_cx hr; have hu4 := hu4_cx hr;
    (ds_one (ds_ret (de_met rfl PySem.F.plainAttrs_str PySem.F.slot_str_join PySem.F.type_str_join met_join tyS_ok (de_str (z := []) (by decide +kernel)) (da_cons (de_new (de_lc (own := [("piece", 2)]) (ws := [2]) rfl sc__law_word.nd (di_range1 (b := true) rfl T.n_range (da_cons (dc_M rfl rfl h__law_roll (hr.mono (by decide)) rfl px_cx j rfl rfl (da_cons (de_var (i := 0) rfl (.inr (.inl rfl)) rfl) (da_cons (de_op rfl op_addP (de_var (i := 1) rfl (.inl rfl) rfl) de_int) da_nil))) da_nil)) (blkOk_by (sc := defScope s__law_word) (N := N__law_word) (by decide +kernel)) rfl rfl (fun _ _ _ _ _ _ _ => (dg_name (i := 2) sc__law_word.nd rfl (.inl rfl) rfl)) (fun _ _ _ _ _ _ _ => dts_nil) (fun _ _ _ _ _ _ _ => (dc_M rfl rfl h__law_some (hr.mono (by decide)) rfl passL j rfl rfl (da_cons (de_var (i := 0) rfl (.inr (.inl rfl)) rfl) (da_cons (de_new (de_lst (by decide) (da_cons (de_str (z := [115]) (by decide +kernel)) (da_cons (de_str (z := [108]) (by decide +kernel)) (da_cons (de_str (z := [114]) (by decide +kernel)) da_nil))))) da_nil)))))) da_nil))))
abbrev s__law_place : Stmt := topS 39
abbrev N__law_place : List Str := ["cup"]
theorem sc__law_place : FnScope N__law_place ["cup"] (defScope s__law_place) := ⟨rfl, rfl, rfl, by decide +kernel, rfl, by decide +kernel, by decide +kernel⟩
def b__law_place : FS Cup :=
    (sRet (fTup [(fOp subP (fCall m__law_roll [(fVar 0), (fC (.int 21))]) (fC (.int 10))), (fOp subP (fCall m__law_roll [(fVar 0), (fC (.int 21))]) (fC (.int 10))), (fCall m__law_roll [(fVar 0), (fC (.int 4))])]))
def m__law_place : List Vl → M Cup Vl := mkF 1 b__law_place
theorem h__law_place (T : Txt K mg) (h__law_roll : Has P w K mg base 1 "_law_roll" 2 cupR m__law_roll) : Has P w K mg base 2 "_law_place" 1 cupR m__law_place :=
  has_fn T.f__law_place sc__law_place cupR (ownL []) b__law_place rfl (by decide) (by decide) (fun _ _ _ _ _ _ us hl => match us, hl with | [_], _ => rfl)
    fun f j A0 cdv A outer s H E hr => have hu := hu_cx hr; have hu4 := hu4_cx hr;
    (ds_one (ds_ret (de_tup (by decide) (da_cons (de_op rfl op_subP (dc_M rfl rfl h__law_roll (hr.mono (by decide)) rfl px_cx j rfl rfl (da_cons (de_var (i := 0) rfl (.inl rfl) rfl) (da_cons de_int da_nil))) de_int) (da_cons (de_op rfl op_subP (dc_M rfl rfl h__law_roll (hr.mono (by decide)) rfl px_cx j rfl rfl (da_cons (de_var (i := 0) rfl (.inl rfl) rfl) (da_cons de_int da_nil))) de_int) (da_cons (dc_M rfl rfl h__law_roll (hr.mono (by decide)) rfl px_cx j rfl rfl (da_cons (de_var (i := 0) rfl (.inl rfl) rfl) (da_cons de_int da_nil))) da_nil))))))
abbrev s__law_next : Stmt := topS 40
abbrev N__law_next : List Str := ["place", "piece", "steps", "ahead", "left", "side"]
theorem sc__law_next : FnScope N__law_next ["place", "piece"] (defScope s__law_next) := ⟨rfl, rfl, rfl, by decide +kernel, rfl, by decide +kernel, by decide +kernel⟩
def b__law_next : FS Unit :=
    (sSeq (sSet 2 (fLst [(fTup [(fC (.int 1)), (fC (.int 0))]), (fTup [(fC (.int 0)), (fC (.int 1))]), (fTup [(fUn negP (fC (.int 1))), (fC (.int 0))]), (fTup [(fC (.int 0)), (fUn negP (fC (.int 1)))])]))
    (sSeq (sPar 3 4 (fOp ixP (fVar 2) (fOp ixP (fVar 0) (fC (.int 2)))) (fOp ixP (fVar 2) (fOp modP (fOp addP (fOp ixP (fVar 0) (fC (.int 2))) (fC (.int 1))) (fC (.int 4)))))
    (sSeq (sSet 5 (fUn (dixP [((.inr "s"), .int 0), ((.inr "l"), .int 1), ((.inr "r"), .int (-1))]) (fVar 1)))
    (sRet (fTup [(fOp addP (fOp addP (fOp ixP (fVar 0) (fC (.int 0))) (fOp ixP (fVar 3) (fC (.int 0)))) (fOp mulP (fVar 5) (fOp ixP (fVar 4) (fC (.int 0))))), (fOp addP (fOp addP (fOp ixP (fVar 0) (fC (.int 1))) (fOp ixP (fVar 3) (fC (.int 1)))) (fOp mulP (fVar 5) (fOp ixP (fVar 4) (fC (.int 1))))), (fOp modP (fOp addP (fOp ixP (fVar 0) (fC (.int 2))) (fVar 5)) (fC (.int 4)))])))))
def m__law_next : List Vl → M Unit Vl := mkF 6 b__law_next
theorem h__law_next (T : Txt K mg)  : Has P w K mg base 1 "_law_next" 2 rg0 m__law_next :=
  has_fn T.f__law_next sc__law_next rg0 (ownL []) b__law_next rfl (by decide) (by decide) (fun _ _ _ _ _ _ us hl => match us, hl with | [_, _], _ => rfl)
    fun f j A0 cdv A outer s H E hr => have hu := hu_cx hr; have hu4 := hu4_cx hr;
    (ds_cons (ds_set (i := 2) sc__law_next.nd rfl (.inl rfl) rfl (de_new (de_lst (by decide) (da_cons (de_tup (by decide) (da_cons de_int (da_cons de_int da_nil))) (da_cons (de_tup (by decide) (da_cons de_int (da_cons de_int da_nil))) (da_cons (de_tup (by decide) (da_cons (de_un rfl un_negP de_int) (da_cons de_int da_nil))) (da_cons (de_tup (by decide) (da_cons de_int (da_cons (de_un rfl un_negP de_int) da_nil))) da_nil)))))))
    (ds_cons (ds_par rfl sc__law_next.nd rfl rfl (by decide) rfl rfl rfl rfl (da_cons (de_ix rfl ix_P (de_var (i := 2) rfl (.inl rfl) rfl) (de_ix rfl ix_P (de_var (i := 0) rfl (.inl rfl) rfl) de_int (fun _ _ => rfl)) (fun _ _ => rfl)) (da_cons (de_ix rfl ix_P (de_var (i := 2) rfl (.inl rfl) rfl) (de_op rfl op_modP (de_op rfl op_addP (de_ix rfl ix_P (de_var (i := 0) rfl (.inl rfl) rfl) de_int (fun _ _ => rfl)) de_int) de_int) (fun _ _ => rfl)) da_nil)) rfl)
    (ds_cons (ds_set (i := 5) sc__law_next.nd rfl (.inl rfl) rfl (de_dix [((.inr "s"), .int 0), ((.inr "l"), .int 1), ((.inr "r"), .int (-1))] (hu1_of hu4) (pps_cons pe_str pe_int (pps_cons pe_str pe_int (pps_cons pe_str pe_negc pps_nil))) (de_var (i := 1) rfl (.inl rfl) rfl) (fun _ _ => rfl) rfl (by decide) (by decide) (by decide)))
    (ds_one (ds_ret (de_tup (by decide) (da_cons (de_op rfl op_addP (de_op rfl op_addP (de_ix rfl ix_P (de_var (i := 0) rfl (.inl rfl) rfl) de_int (fun _ _ => rfl)) (de_ix rfl ix_P (de_var (i := 3) rfl (.inl rfl) rfl) de_int (fun _ _ => rfl))) (de_op rfl op_mulP (de_var (i := 5) rfl (.inl rfl) rfl) (de_ix rfl ix_P (de_var (i := 4) rfl (.inl rfl) rfl) de_int (fun _ _ => rfl)))) (da_cons (de_op rfl op_addP (de_op rfl op_addP (de_ix rfl ix_P (de_var (i := 0) rfl (.inl rfl) rfl) de_int (fun _ _ => rfl)) (de_ix rfl ix_P (de_var (i := 3) rfl (.inl rfl) rfl) de_int (fun _ _ => rfl))) (de_op rfl op_mulP (de_var (i := 5) rfl (.inl rfl) rfl) (de_ix rfl ix_P (de_var (i := 4) rfl (.inl rfl) rfl) de_int (fun _ _ => rfl)))) (da_cons (de_op rfl op_modP (de_op rfl op_addP (de_ix rfl ix_P (de_var (i := 0) rfl (.inl rfl) rfl) de_int (fun _ _ => rfl)) (de_var (i := 5) rfl (.inl rfl) rfl)) de_int) da_nil)))))))))
abbrev s__law_along : Stmt := topS 41
abbrev N__law_along : List Str := ["place", "word", "found", "piece"]
theorem sc__law_along : FnScope N__law_along ["place", "word"] (defScope s__law_along) := ⟨rfl, rfl, rfl, by decide +kernel, rfl, by decide +kernel, by decide +kernel⟩
def b__law_along : FS Unit :=
    (sSeq (sSet 2 (fLst [(fVar 0)]))
    (sSeq (sFor (iAny (fVar 1)) (bName 3)
    (sApp 2 (fCallP m__law_next [(fOp ixP (fVar 2) (fUn negP (fC (.int 1)))), (fVar 3)])))
    (sRet (fVar 2))))
def m__law_along : List Vl → M Unit Vl := mkF 4 b__law_along
theorem h__law_along (T : Txt K mg) (h__law_next : Has P w K mg base 1 "_law_next" 2 rg0 m__law_next) : Has P w K mg base 2 "_law_along" 2 rg0 m__law_along :=
  has_fn T.f__law_along sc__law_along rg0 (ownL [2]) b__law_along rfl (by decide) (by decide) (fun _ _ _ _ _ _ us hl => match us, hl with | [_, _], _ => rfl)
    fun f j A0 cdv A outer s H E hr => have hu := hu_cx hr; have hu4 := hu4_cx hr;
    (ds_cons (ds_setN (i := 2) sc__law_along.nd rfl (.inl rfl) rfl (de_lst (by decide) (da_cons (de_var (i := 0) rfl (.inl rfl) rfl) da_nil)))
    (ds_cons (ds_for po_cx rfl (di_any rfl (de_var (i := 1) rfl (.inl rfl) rfl)) (dg_name (i := 3) sc__law_along.nd rfl (.inl rfl) rfl)
    (ds_one (ds_app (i := 2) rfl rfl (.inl rfl) rfl (dc_P rfl rfl h__law_next (hr.mono (by decide)) rfl px_cx rfl (da_cons (de_ix rfl ix_P (de_own (i := 2) rfl (.inl rfl) rfl) (de_un rfl un_negP de_int) (fun _ _ => rfl)) (da_cons (de_var (i := 3) rfl (.inl rfl) rfl) da_nil))))))
    (ds_one (ds_ret (de_own (i := 2) rfl (.inl rfl) rfl)))))
abbrev s__law_round : Stmt := topS 42
abbrev N__law_round : List Str := ["cup", "legs", "side", "turn", "at", "more", "word", "leg"]
theorem sc__law_round : FnScope N__law_round ["cup"] (defScope s__law_round) := ⟨rfl, rfl, rfl, by decide +kernel, rfl, by decide +kernel, by decide +kernel⟩
def b__law_round : FS Cup :=
    (sSeq (sParF (ownL [1]) [1, 2] [(fOwn (fLst [(fC (.str [])), (fC (.str [])), (fC (.str [])), (fC (.str []))])), (fImm (fCall m__law_some [(fVar 0), (fLst [(fC (.str [108])), (fC (.str [114]))])]))])
    (sSeq (sFor (iBlt iRange1 [(fCall m__law_roll [(fVar 0), (fC (.int 5))])]) (bName 3)
    (sSeq (sPar 4 5 (fCall m__law_roll [(fVar 0), (fC (.int 2))]) (fCall m__law_some [(fVar 0), (fLst [(fC (.str [115])), (fC (.str [115])), (fC (.str [108, 114])), (fC (.str [114, 108]))])]))
    (sSeq (sPut 1 (fVar 4) (fOp addP (fOp ixP (fVar 1) (fVar 4)) (fVar 5)))
    (sPut 1 (fOp addP (fVar 4) (fC (.int 2))) (fOp addP (fOp ixP (fVar 1) (fOp addP (fVar 4) (fC (.int 2)))) (fVar 5))))))
    (sSeq (sSet 6 (fMet tyS join1 (fC (.str [])) [(fLc (iAny (fVar 1)) [7] (bName 7) gYes (fOp addP (fVar 7) (fVar 2)))]))
    (sSeq (sSet 4 (fCall m__law_roll [(fVar 0), (fBlt lenP [(fVar 6)])]))
    (sRet (fOp addP (fSl slP (fVar 6) (oSome (fVar 4)) oNone) (fSl slP (fVar 6) oNone (oSome (fVar 4)))))))))
def m__law_round : List Vl → M Cup Vl := mkF 8 b__law_round
theorem h__law_round (T : Txt K mg) (h__law_roll : Has P w K mg base 1 "_law_roll" 2 cupR m__law_roll) (h__law_some : Has P w K mg base 2 "_law_some" 2 cupR m__law_some) : Has P w K mg base 3 "_law_round" 1 cupR m__law_round :=
  has_fn T.f__law_round sc__law_round cupR (ownL [1]) b__law_round rfl (by decide) (by decide) (fun _ _ _ _ _ _ us hl => match us, hl with | [_], _ => rfl)
    fun f j A0 cdv A outer s H E hr => have hu := hu_cx hr; have hu4 := hu4_cx hr;
    (ds_cons (ds_parFT (is := [1, 2]) rfl rfl (by decide) (daf_cons (df_new (de_lst (by decide) (da_cons (de_str (z := []) (by decide +kernel)) (da_cons (de_str (z := []) (by decide +kernel)) (da_cons (de_str (z := []) (by decide +kernel)) (da_cons (de_str (z := []) (by decide +kernel)) da_nil)))))) (daf_cons (df_imm (dc_M rfl rfl h__law_some (hr.mono (by decide)) rfl px_cx j rfl rfl (da_cons (de_var (i := 0) rfl (.inl rfl) rfl) (da_cons (de_new (de_lst (by decide) (da_cons (de_str (z := [108]) (by decide +kernel)) (da_cons (de_str (z := [114]) (by decide +kernel)) da_nil)))) da_nil)))) daf_nil)) (pgs_cons (pg_name (i := 1) sc__law_round.nd rfl (.inl rfl)) (pgs_cons (pg_name (i := 2) sc__law_round.nd rfl (.inr rfl)) pgs_nil)))
    (ds_cons (ds_for po_cx rfl (di_range1 (b := true) rfl T.n_range (da_cons (dc_M rfl rfl h__law_roll (hr.mono (by decide)) rfl px_cx j rfl rfl (da_cons (de_var (i := 0) rfl (.inl rfl) rfl) (da_cons de_int da_nil))) da_nil)) (dg_name (i := 3) sc__law_round.nd rfl (.inl rfl) rfl)
    (ds_cons (ds_par rfl sc__law_round.nd rfl rfl (by decide) rfl rfl rfl rfl (da_cons (dc_M rfl rfl h__law_roll (hr.mono (by decide)) rfl px_cx j rfl rfl (da_cons (de_var (i := 0) rfl (.inl rfl) rfl) (da_cons de_int da_nil))) (da_cons (dc_M rfl rfl h__law_some (hr.mono (by decide)) rfl px_cx j rfl rfl (da_cons (de_var (i := 0) rfl (.inl rfl) rfl) (da_cons (de_new (de_lst (by decide) (da_cons (de_str (z := [115]) (by decide +kernel)) (da_cons (de_str (z := [115]) (by decide +kernel)) (da_cons (de_str (z := [108, 114]) (by decide +kernel)) (da_cons (de_str (z := [114, 108]) (by decide +kernel)) da_nil)))))) da_nil))) da_nil)) rfl)
    (ds_cons (ds_put (i := 1) rfl rfl (.inl rfl) rfl (de_op rfl op_addP (de_ix rfl ix_P (de_own (i := 1) rfl (.inl rfl) rfl) (de_var (i := 4) rfl (.inl rfl) rfl) (fun _ _ => rfl)) (de_var (i := 5) rfl (.inl rfl) rfl)) (de_var (i := 4) rfl (.inl rfl) rfl))
    (ds_one (ds_put (i := 1) rfl rfl (.inl rfl) rfl (de_op rfl op_addP (de_ix rfl ix_P (de_own (i := 1) rfl (.inl rfl) rfl) (de_op rfl op_addP (de_var (i := 4) rfl (.inl rfl) rfl) de_int) (fun _ _ => rfl)) (de_var (i := 5) rfl (.inl rfl) rfl)) (de_op rfl op_addP (de_var (i := 4) rfl (.inl rfl) rfl) de_int))))))
    (ds_cons (ds_set (i := 6) sc__law_round.nd rfl (.inl rfl) rfl (de_met rfl PySem.F.plainAttrs_str PySem.F.slot_str_join PySem.F.type_str_join met_join tyS_ok (de_str (z := []) (by decide +kernel)) (da_cons (de_new (de_lc (own := [("leg", 7)]) (ws := [7]) rfl sc__law_round.nd (di_any rfl (de_own (i := 1) rfl (.inl rfl) rfl)) (blkOk_by (sc := defScope s__law_round) (N := N__law_round) (by decide +kernel)) rfl rfl (fun _ _ _ _ _ _ _ => (dg_name (i := 7) sc__law_round.nd rfl (.inl rfl) rfl)) (fun _ _ _ _ _ _ _ => dts_nil) (fun _ _ _ _ _ _ _ => (de_op rfl op_addP (de_var (i := 7) rfl (.inl rfl) rfl) (de_var (i := 2) rfl (.inr (.inl rfl)) rfl))))) da_nil)))
    (ds_cons (ds_set (i := 4) sc__law_round.nd rfl (.inl rfl) rfl (dc_M rfl rfl h__law_roll (hr.mono (by decide)) rfl px_cx j rfl rfl (da_cons (de_var (i := 0) rfl (.inl rfl) rfl) (da_cons (de_blt rfl call_lenP rfl T.n_len (by decide +kernel) (da_cons (de_var (i := 6) rfl (.inl rfl) rfl) da_nil)) da_nil))))
    (ds_one (ds_ret (de_op rfl op_addP (de_sl rfl sl_P (de_var (i := 6) rfl (.inl rfl) rfl) (do_some (de_var (i := 4) rfl (.inl rfl) rfl)) do_none) (de_sl rfl sl_P (de_var (i := 6) rfl (.inl rfl) rfl) do_none (do_some (de_var (i := 4) rfl (.inl rfl) rfl))))))))))
abbrev s__law_cup : Stmt := topS 34
abbrev N__law_cup : List Str := ["script", "cell"]
theorem sc__law_cup : FnScope N__law_cup ["script"] (defScope s__law_cup) := ⟨rfl, rfl, rfl, by decide +kernel, rfl, by decide +kernel, by decide +kernel⟩
def b__law_cup : FS Unit :=
    (sRet (fLst [(fIf (gB (fOp geP (fVar 1) (fOp powP (fC (.int 10)) (fC (.int 18))))) (fOp fdivP (fVar 1) (fC (.int 227))) (fC (.int 0))), (fOp addP (fOp modP (fBlt intP [(fOp addP (fOp mulP (fVar 1) (fC (.int 457))) (fC (.int 4201)))]) (fC (.int 2077502741))) (fC (.int 349)))]))
theorem h__law_cup (T : Txt K mg) : HasC P w K mg base 1 "_law_cup" b__law_cup := by
  obtain ⟨f, fd, g1, F⟩ := T.f__law_cup.ex
  exact ⟨f, fd, g1, F.kp, F.binds fun _ _ _ _ _ _ us hl => match us, hl with | [_], _ => rfl, cup_fn F sc__law_cup b__law_cup rfl
    (fun f cdv A outer s H E => ds_cell (by rfl) sc__law_cup.nd (by rfl) (by rfl) (by rfl) T.n_list (by rfl) T.n_abs)
    fun f A0 cdv A outer s H E hr => have hu := hu_cx hr; have hu4 := hu4_cx hr;
    (ds_one (ds_ret (de_new (de_lst (by decide) (da_cons (de_ifx (dt_cmp rfl op_geP (de_var (i := 1) rfl (.inl rfl) rfl) (de_op rfl op_powP de_int de_int) (nomark _)) (de_op rfl op_fdivP (de_var (i := 1) rfl (.inl rfl) rfl) de_int) de_int) (da_cons (de_op rfl op_addP (de_op rfl op_modP (de_ty rfl call_intP rfl T.n_int (by decide +kernel) (da_cons (de_op rfl op_addP (de_op rfl op_mulP (de_var (i := 1) rfl (.inl rfl) rfl) de_int) de_int) da_nil)) de_int) de_int) da_nil))))))⟩
abbrev s_law : Stmt := topS 43
abbrev N_law : List Str := ["script", "cup", "turn", "word", "spots", "loop", "later", "some", "beginning", "simple", "place", "where", "other", "first", "second", "both", "spot", "far", "edge", "inside", "told", "own", "at"]
theorem sc_law : FnScope N_law ["script"] (defScope s_law) := ⟨rfl, rfl, rfl, by decide +kernel, rfl, by decide +kernel, by decide +kernel⟩
def b_law : FS Cup :=
    (sSeq (sFor (iBlt iRange1 [(fC (.int 8))]) (bName 2)
    (sSeq (sSet 3 (fCall m__law_some [(fVar 1), (fLst [(fCall m__law_word [(fVar 1), (fC (.int 8))]), (fCall m__law_word [(fVar 1), (fC (.int 30))]), (fCall m__law_round [(fVar 1)]), (fOp addP (fCall m__law_round [(fVar 1)]) (fC (.str [115])))])]))
    (sSeq (sSet 4 (fLc (iAny (fCallP m__law_along [(fTup [(fC (.int 0)), (fC (.int 0)), (fC (.int 0))]), (fVar 3)])) [10] (bName 10) gYes (fSl slP (fVar 10) oNone (oSome (fC (.int 2))))))
    (sSeq (sSet 5 (fC .non))
    (sSeq (sFor (iBlt iRange1 [(fBlt lenP [(fVar 4)])]) (bName 6)
    (sSeq (sSet 7 (fLc (iBlt iRange1 [(fVar 6)]) [22] (bName 22) (gB (fOp eqP (fOp ixP (fVar 4) (fVar 22)) (fOp ixP (fVar 4) (fVar 6)))) (fVar 22)))
    (sSet 5 (fIf (gAnd (gB (fOp isP (fVar 5) (fC .non))) (gB (fOp neP (fVar 7) (fLst [])))) (fTup [(fOp ixP (fVar 7) (fC (.int 0))), (fVar 6)]) (fVar 5)))))
    (sSeq (sSet 8 (fIf (gB (fOp isP (fVar 5) (fC .non))) (fVar 3) (fSl slP (fVar 3) oNone (oSome (fOp subP (fOp ixP (fVar 5) (fC (.int 1))) (fC (.int 1)))))))
    (sSeq (sSet 9 (fOr (fOp isP (fVar 5) (fC .non)) (fAnd (fCallP m_is_round [(fVar 3)]) (fOp eqP (fVar 5) (fTup [(fC (.int 0)), (fBlt lenP [(fVar 3)])])))))
    (sSeq (sIf (gNot (gB (fCallP (m__law_same 8) [(fTup [(fCallP m_first_loop [(fVar 3)]), (fCallP m_simple_beginning [(fVar 3)]), (fCallP m_is_simple [(fVar 3)])]), (fTup [(fVar 5), (fVar 8), (fVar 9)])]))) (sRet (fC (.bl false))) sNil)
    (sSeq (sIf (gOr (gB (fOp isNotP (fCallP m_is_simple [(fVar 8)]) (fC (.bl true)))) (gNot (gB (fCallP (m__law_same 8) [(fCallP m_drift_of [(fVar 3)]), (fOp addP (fBlt absP [(fOp ixP (fOp ixP (fVar 4) (fUn negP (fC (.int 1)))) (fC (.int 0)))]) (fBlt absP [(fOp ixP (fOp ixP (fVar 4) (fUn negP (fC (.int 1)))) (fC (.int 1)))]))])))) (sRet (fC (.bl false))) sNil)
    (sSeq (sParF (ownL []) [10, 11, 12] [(fImm (fCall m__law_place [(fVar 1)])), (fImm (fCall m__law_place [(fVar 1)])), (fImm (fCall m__law_word [(fVar 1), (fC (.int 30))]))])
    (sSeq (sSet 13 (fLc (iAny (fCallP m__law_along [(fVar 10), (fVar 3)])) [21] (bName 21) gYes (fSl slP (fVar 21) oNone (oSome (fC (.int 2))))))
    (sSeq (sSet 14 (fLc (iAny (fCallP m__law_along [(fVar 11), (fVar 12)])) [21] (bName 21) gYes (fSl slP (fVar 21) oNone (oSome (fC (.int 2))))))
    (sSeq (sSet 15 (fBlt sortTP [(fBlt dictP [(fLc (iAny (fVar 13)) [16] (bName 16) (gB (fOp inP (fVar 16) (fVar 14))) (fTup [(fVar 16), (fC (.bl true))]))])]))
    (sSeq (sIf (gNot (gB (fCallP (m__law_same 8) [(fTup [(fCallP m_common_spots [(fVar 10), (fVar 3), (fVar 11), (fVar 12)]), (fCallP m_common_spots [(fVar 11), (fVar 12), (fVar 10), (fVar 3)])]), (fTup [(fBlt tupleP [(fVar 15)]), (fBlt tupleP [(fVar 15)])])]))) (sRet (fC (.bl false))) sNil)
    (sSeq (sSet 16 (fTup [(fOp subP (fCall m__law_roll [(fVar 1), (fC (.int 31))]) (fC (.int 15))), (fOp subP (fCall m__law_roll [(fVar 1), (fC (.int 31))]) (fC (.int 15)))]))
    (sSeq (sSet 17 (fLc (iAny (fVar 13)) [21] (bName 21) gYes (fOp addP (fBlt absP [(fOp subP (fOp ixP (fVar 21) (fC (.int 0))) (fOp ixP (fVar 16) (fC (.int 0))))]) (fBlt absP [(fOp subP (fOp ixP (fVar 21) (fC (.int 1))) (fOp ixP (fVar 16) (fC (.int 1))))]))))
    (sSeq (sIf (gNot (gB (fCallP (m__law_same 8) [(fCallP m_nearest_place [(fVar 10), (fVar 3), (fVar 16)]), (fBlt minP [(fLc (iBlt iRange1 [(fBlt lenP [(fVar 17)])]) [22] (bName 22) (gB (fOp eqP (fOp ixP (fVar 17) (fVar 22)) (fBlt minP [(fVar 17)]))) (fVar 22))])]))) (sRet (fC (.bl false))) sNil)
    (sSeq (sSet 18 (fCall m__law_some [(fVar 1), (fLst [(fTup [(fC (.int 100)), (fC (.int 0)), (fC (.int 0))]), (fTup [(fC (.int 0)), (fUn negP (fC (.int 100))), (fC (.int 3))]), (fTup [(fC (.int 95)), (fC (.int 95)), (fC (.int 1))]), (fTup [(fUn negP (fC (.int 90))), (fC (.int 0)), (fC (.int 2))]), (fVar 10)])]))
    (sSeq (sSet 19 (fOp eqP (fLc (iAny (fCallP m__law_along [(fVar 18), (fVar 3)])) [21] (bName 21) (gB (fOp gtP (fBlt maxP [(fBlt absP [(fOp ixP (fVar 21) (fC (.int 0)))]), (fBlt absP [(fOp ixP (fVar 21) (fC (.int 1)))])]) (fC (.int 100)))) (fVar 21)) (fLst [])))
    (sIf (gNot (gB (fCallP (m__law_same 8) [(fCallP m_within_bounds [(fVar 18), (fVar 3)]), (fVar 19)]))) (sRet (fC (.bl false))) sNil))))))))))))))))))))
    (sSeq (sSet 20 (fTup [(fCallP m_is_simple [(fC (.str []))]), (fCallP m_first_loop [(fC (.str []))]), (fCallP m_simple_beginning [(fC (.str [108, 108, 108, 108]))]), (fCallP m_first_loop [(fC (.str [108, 108, 108, 108]))]), (fCallP m_is_simple [(fC (.str [108, 108, 108, 108]))]), (fCallP m_nearest_place [(fTup [(fC (.int 0)), (fC (.int 0)), (fC (.int 0))]), (fC (.str [108, 108, 108, 108])), (fTup [(fC (.int 0)), (fC (.int 0))])])]))
    (sRet (fCallP (m__law_same 8) [(fVar 20), (fTup [(fC (.bl true)), (fC .non), (fC (.str [108, 108, 108])), (fTup [(fC (.int 0)), (fC (.int 4))]), (fC (.bl true)), (fC (.int 0))])]))))
theorem h_law (T : Txt K mg) (h_cup : HasC P w K mg base 1 "_law_cup" b__law_cup) (h__law_same : Has P w K mg base 9 "_law_same" 2 rg0 (m__law_same 8)) (h__law_some : Has P w K mg base 2 "_law_some" 2 cupR m__law_some) (h_is_simple : Has P w K mg base 6 "is_simple" 1 rg0 m_is_simple) (h_first_loop : Has P w K mg base 4 "first_loop" 1 rg0 m_first_loop) (h_simple_beginning : Has P w K mg base 4 "simple_beginning" 1 rg0 m_simple_beginning) (h_nearest_place : Has P w K mg base 6 "nearest_place" 3 rg0 m_nearest_place) (h__law_place : Has P w K mg base 2 "_law_place" 1 cupR m__law_place) (h__law_word : Has P w K mg base 3 "_law_word" 2 cupR m__law_word) (h__law_round : Has P w K mg base 3 "_law_round" 1 cupR m__law_round) (h__law_along : Has P w K mg base 2 "_law_along" 2 rg0 m__law_along) (h_is_round : Has P w K mg base 6 "is_round" 1 rg0 m_is_round) (h__law_roll : Has P w K mg base 1 "_law_roll" 2 cupR m__law_roll) (h_within_bounds : Has P w K mg base 6 "within_bounds" 2 rg0 m_within_bounds) (h_drift_of : Has P w K mg base 5 "drift_of" 1 rg0 m_drift_of) (h_common_spots : Has P w K mg base 6 "common_spots" 4 rg0 m_common_spots)
    (hc : ∀ ns, ∃ c0 c1 c', b__law_cup [none, some (.int (cellOf ns))] () = .ok (.rt (.lst [.int c0, .int c1]), ()) ∧ b_law ((List.replicate 23 none).set 1 (some (.reg 0))) (c0, c1) = .ok (.rt (.bl true), c'))
    {f : Addr} {fd : FuncData} (F : Fun K "law" "law" s_law f fd) : FnOk P w K mg base (L2.CX P w) 10 f fd ["script"] (spLaw K) := by
  obtain ⟨fc, fdc, gc, kc, bc, Fc⟩ := h_cup.ex
  exact law_fn F sc_law b__law_cup b_law (ownL []) rfl (by decide) rfl
    (fun f cdv A outer s H E hr => ds_cup (by rfl) (by rfl) sc_law.nd (by rfl) (.inl rfl) (.inr rfl) Fc (hr.mono (by decide)) (by rfl) gc kc bc px_cx)
    (fun f j A0 cdv A outer s H E hr => have hu := hu_cx hr; have hu4 := hu4_cx hr;
    (ds_cons (ds_for po_cx rfl (di_range1 (b := true) rfl T.n_range (da_cons de_int da_nil)) (dg_name (i := 2) sc_law.nd rfl (.inl rfl) rfl)
    (ds_cons (ds_set (i := 3) sc_law.nd rfl (.inl rfl) rfl (dc_M rfl rfl h__law_some (hr.mono (by decide)) rfl px_cx j rfl rfl (da_cons (de_var (i := 1) rfl (.inl rfl) rfl) (da_cons (de_new (de_lst (by decide) (da_cons (dc_M rfl rfl h__law_word (hr.mono (by decide)) rfl px_cx j rfl rfl (da_cons (de_var (i := 1) rfl (.inl rfl) rfl) (da_cons de_int da_nil))) (da_cons (dc_M rfl rfl h__law_word (hr.mono (by decide)) rfl px_cx j rfl rfl (da_cons (de_var (i := 1) rfl (.inl rfl) rfl) (da_cons de_int da_nil))) (da_cons (dc_M rfl rfl h__law_round (hr.mono (by decide)) rfl px_cx j rfl rfl (da_cons (de_var (i := 1) rfl (.inl rfl) rfl) da_nil)) (da_cons (de_op rfl op_addP (dc_M rfl rfl h__law_round (hr.mono (by decide)) rfl px_cx j rfl rfl (da_cons (de_var (i := 1) rfl (.inl rfl) rfl) da_nil)) (de_str (z := [115]) (by decide +kernel))) da_nil)))))) da_nil))))
    (ds_cons (ds_set (i := 4) sc_law.nd rfl (.inr rfl) rfl (de_new (de_lc (own := [("place", 10)]) (ws := [10]) rfl sc_law.nd (di_any rfl (dc_P rfl rfl h__law_along (hr.mono (by decide)) rfl px_cx rfl (da_cons (de_tup (by decide) (da_cons de_int (da_cons de_int (da_cons de_int da_nil)))) (da_cons (de_var (i := 3) rfl (.inl rfl) rfl) da_nil)))) (blkOk_by (sc := defScope s_law) (N := N_law) (by decide +kernel)) rfl rfl (fun _ _ _ _ _ _ _ => (dg_name (i := 10) sc_law.nd rfl (.inl rfl) rfl)) (fun _ _ _ _ _ _ _ => dts_nil) (fun _ _ _ _ _ _ _ => (de_sl rfl sl_P (de_var (i := 10) rfl (.inl rfl) rfl) do_none (do_some de_int))))))
    (ds_cons (ds_set (i := 5) sc_law.nd rfl (.inl rfl) rfl de_non)
    (ds_cons (ds_for po_cx rfl (di_range1 (b := true) rfl T.n_range (da_cons (de_blt rfl call_lenP rfl T.n_len (by decide +kernel) (da_cons (de_var (i := 4) rfl (.inr (.inl rfl)) rfl) da_nil)) da_nil)) (dg_name (i := 6) sc_law.nd rfl (.inr rfl) rfl)
    (ds_cons (ds_setLc (i := 7) rfl rfl rfl (sw_true rfl rfl rfl (by decide +kernel)) (own := [("at", 22)]) (ws := [22]) rfl sc_law.nd (di_range1 (b := true) rfl T.n_range (da_cons (de_var (i := 6) rfl (.inr (.inl rfl)) rfl) da_nil)) (blkOk_by (sc := defScope s_law) (N := N_law) (by decide +kernel)) rfl rfl (fun _ _ _ _ _ _ _ => (dg_name (i := 22) sc_law.nd rfl (.inl rfl) rfl)) (fun _ _ _ _ _ _ _ => (dts_one (dt_cmp rfl (op_eqP hu4) (de_ix rfl ix_P (de_var (i := 4) rfl (.inr (.inl rfl)) rfl) (de_var (i := 22) rfl (.inl rfl) rfl) (fun _ _ => rfl)) (de_ix rfl ix_P (de_var (i := 4) rfl (.inr (.inl rfl)) rfl) (de_var (i := 6) rfl (.inr (.inl rfl)) rfl) (fun _ _ => rfl)) (nomark _)))) (fun _ _ _ _ _ _ _ => (de_var (i := 22) rfl (.inl rfl) rfl)))
    (ds_one (ds_set (i := 5) sc_law.nd rfl (.inl rfl) rfl (de_ifx (PW.pt (dw_and (dt_cmp rfl op_isP (de_var (i := 5) rfl (.inl rfl) rfl) de_non (nomark _)) (dw_and1 (dt_cmp rfl (op_neP hu4) (de_var (i := 7) rfl (.inl rfl) rfl) (de_new (de_lst (by decide) da_nil)) (nomark _))))) (de_tup (by decide) (da_cons (de_ix rfl ix_P (de_var (i := 7) rfl (.inl rfl) rfl) de_int (fun _ _ => rfl)) (da_cons (de_var (i := 6) rfl (.inr (.inl rfl)) rfl) da_nil))) (de_var (i := 5) rfl (.inl rfl) rfl))))))
    (ds_cons (ds_set (i := 8) sc_law.nd rfl (.inl rfl) rfl (de_ifx (dt_cmp rfl op_isP (de_var (i := 5) rfl (.inl rfl) rfl) de_non (nomark _)) (de_var (i := 3) rfl (.inl rfl) rfl) (de_sl rfl sl_P (de_var (i := 3) rfl (.inl rfl) rfl) do_none (do_some (de_op rfl op_subP (de_ix rfl ix_P (de_var (i := 5) rfl (.inl rfl) rfl) de_int (fun _ _ => rfl)) de_int)))))
    (ds_cons (ds_set (i := 9) sc_law.nd rfl (.inl rfl) rfl (de_or (de_cmp rfl op_isP (de_var (i := 5) rfl (.inl rfl) rfl) de_non (nomark _)) (de_one (de_and (dc_P rfl rfl h_is_round (hr.mono (by decide)) rfl px_cx rfl (da_cons (de_var (i := 3) rfl (.inl rfl) rfl) da_nil)) (de_one (de_cmp rfl (op_eqP hu4) (de_var (i := 5) rfl (.inl rfl) rfl) (de_tup (by decide) (da_cons de_int (da_cons (de_blt rfl call_lenP rfl T.n_len (by decide +kernel) (da_cons (de_var (i := 3) rfl (.inl rfl) rfl) da_nil)) da_nil))) (nomark _)))))))
    (ds_cons (ds_if (dt_not (dt_b (dc_P rfl rfl h__law_same (hr.mono (by decide)) rfl px_cx rfl (da_cons (de_tup (by decide) (da_cons (dc_P rfl rfl h_first_loop (hr.mono (by decide)) rfl px_cx rfl (da_cons (de_var (i := 3) rfl (.inl rfl) rfl) da_nil)) (da_cons (dc_P rfl rfl h_simple_beginning (hr.mono (by decide)) rfl px_cx rfl (da_cons (de_var (i := 3) rfl (.inl rfl) rfl) da_nil)) (da_cons (dc_P rfl rfl h_is_simple (hr.mono (by decide)) rfl px_cx rfl (da_cons (de_var (i := 3) rfl (.inl rfl) rfl) da_nil)) da_nil)))) (da_cons (de_tup (by decide) (da_cons (de_var (i := 5) rfl (.inl rfl) rfl) (da_cons (de_var (i := 8) rfl (.inl rfl) rfl) (da_cons (de_var (i := 9) rfl (.inl rfl) rfl) da_nil)))) da_nil)))))
    (ds_one (ds_ret de_bl)) ds_nil)
    (ds_cons (ds_if (PW.pt (dw_or (dt_cmp rfl op_isNotP (dc_P rfl rfl h_is_simple (hr.mono (by decide)) rfl px_cx rfl (da_cons (de_var (i := 8) rfl (.inl rfl) rfl) da_nil)) de_bl (nomark _)) (dw_or1 (dt_not (dt_b (dc_P rfl rfl h__law_same (hr.mono (by decide)) rfl px_cx rfl (da_cons (dc_P rfl rfl h_drift_of (hr.mono (by decide)) rfl px_cx rfl (da_cons (de_var (i := 3) rfl (.inl rfl) rfl) da_nil)) (da_cons (de_op rfl op_addP (de_blt rfl call_absP rfl T.n_abs (by decide +kernel) (da_cons (de_ix rfl ix_P (de_ix rfl ix_P (de_var (i := 4) rfl (.inr (.inl rfl)) rfl) (de_un rfl un_negP de_int) (fun _ _ => rfl)) de_int (fun _ _ => rfl)) da_nil)) (de_blt rfl call_absP rfl T.n_abs (by decide +kernel) (da_cons (de_ix rfl ix_P (de_ix rfl ix_P (de_var (i := 4) rfl (.inr (.inl rfl)) rfl) (de_un rfl un_negP de_int) (fun _ _ => rfl)) de_int (fun _ _ => rfl)) da_nil))) da_nil))))))))
    (ds_one (ds_ret de_bl)) ds_nil)
    (ds_cons (ds_parF3 (i := 10) (j := 11) (l := 12) rfl sc_law.nd rfl rfl rfl (by decide) (by decide) (by decide) rfl rfl rfl (daf_cons (df_imm (dc_M rfl rfl h__law_place (hr.mono (by decide)) rfl px_cx j rfl rfl (da_cons (de_var (i := 1) rfl (.inl rfl) rfl) da_nil))) (daf_cons (df_imm (dc_M rfl rfl h__law_place (hr.mono (by decide)) rfl px_cx j rfl rfl (da_cons (de_var (i := 1) rfl (.inl rfl) rfl) da_nil))) (daf_cons (df_imm (dc_M rfl rfl h__law_word (hr.mono (by decide)) rfl px_cx j rfl rfl (da_cons (de_var (i := 1) rfl (.inl rfl) rfl) (da_cons de_int da_nil)))) daf_nil))) rfl)
    (ds_cons (ds_setLc (i := 13) rfl rfl rfl (sw_true rfl rfl rfl (by decide +kernel)) (own := [("own", 21)]) (ws := [21]) rfl sc_law.nd (di_any rfl (dc_P rfl rfl h__law_along (hr.mono (by decide)) rfl px_cx rfl (da_cons (de_var (i := 10) rfl (.inl rfl) rfl) (da_cons (de_var (i := 3) rfl (.inl rfl) rfl) da_nil)))) (blkOk_by (sc := defScope s_law) (N := N_law) (by decide +kernel)) rfl rfl (fun _ _ _ _ _ _ _ => (dg_name (i := 21) sc_law.nd rfl (.inl rfl) rfl)) (fun _ _ _ _ _ _ _ => dts_nil) (fun _ _ _ _ _ _ _ => (de_sl rfl sl_P (de_var (i := 21) rfl (.inl rfl) rfl) do_none (do_some de_int))))
    (ds_cons (ds_set (i := 14) sc_law.nd rfl (.inr rfl) rfl (de_new (de_lc (own := [("own", 21)]) (ws := [21]) rfl sc_law.nd (di_any rfl (dc_P rfl rfl h__law_along (hr.mono (by decide)) rfl px_cx rfl (da_cons (de_var (i := 11) rfl (.inl rfl) rfl) (da_cons (de_var (i := 12) rfl (.inl rfl) rfl) da_nil)))) (blkOk_by (sc := defScope s_law) (N := N_law) (by decide +kernel)) rfl rfl (fun _ _ _ _ _ _ _ => (dg_name (i := 21) sc_law.nd rfl (.inl rfl) rfl)) (fun _ _ _ _ _ _ _ => dts_nil) (fun _ _ _ _ _ _ _ => (de_sl rfl sl_P (de_var (i := 21) rfl (.inl rfl) rfl) do_none (do_some de_int))))))
    (ds_cons (ds_set (i := 15) sc_law.nd rfl (.inl rfl) rfl (de_new (de_bltN rfl (call_sortTP rfl hu4) rfl T.n_sorted (by decide +kernel) (da_cons (de_new (de_tyN rfl (call_dictP rfl hu4) rfl T.n_dict (by decide +kernel) (da_cons (de_new (de_lc (own := [("spot", 16)]) (ws := [16]) rfl sc_law.nd (di_any rfl (de_var (i := 13) rfl (.inl rfl) rfl)) (blkOk_by (sc := defScope s_law) (N := N_law) (by decide +kernel)) rfl rfl (fun _ _ _ _ _ _ _ => (dg_name (i := 16) sc_law.nd rfl (.inl rfl) rfl)) (fun _ _ _ _ _ _ _ => (dts_one (dt_cmp rfl (op_inP hu) (de_var (i := 16) rfl (.inl rfl) rfl) (de_var (i := 14) rfl (.inr (.inl rfl)) rfl) rfl))) (fun _ _ _ _ _ _ _ => (de_tup (by decide) (da_cons (de_var (i := 16) rfl (.inl rfl) rfl) (da_cons de_bl da_nil)))))) da_nil))) da_nil))))
    (ds_cons (ds_if (dt_not (dt_b (dc_P rfl rfl h__law_same (hr.mono (by decide)) rfl px_cx rfl (da_cons (de_tup (by decide) (da_cons (dc_P rfl rfl h_common_spots (hr.mono (by decide)) rfl px_cx rfl (da_cons (de_var (i := 10) rfl (.inl rfl) rfl) (da_cons (de_var (i := 3) rfl (.inl rfl) rfl) (da_cons (de_var (i := 11) rfl (.inl rfl) rfl) (da_cons (de_var (i := 12) rfl (.inl rfl) rfl) da_nil))))) (da_cons (dc_P rfl rfl h_common_spots (hr.mono (by decide)) rfl px_cx rfl (da_cons (de_var (i := 11) rfl (.inl rfl) rfl) (da_cons (de_var (i := 12) rfl (.inl rfl) rfl) (da_cons (de_var (i := 10) rfl (.inl rfl) rfl) (da_cons (de_var (i := 3) rfl (.inl rfl) rfl) da_nil))))) da_nil))) (da_cons (de_tup (by decide) (da_cons (de_ty rfl call_tupleP rfl T.n_tuple (by decide +kernel) (da_cons (de_var (i := 15) rfl (.inl rfl) rfl) da_nil)) (da_cons (de_ty rfl call_tupleP rfl T.n_tuple (by decide +kernel) (da_cons (de_var (i := 15) rfl (.inl rfl) rfl) da_nil)) da_nil))) da_nil)))))
    (ds_one (ds_ret de_bl)) ds_nil)
    (ds_cons (ds_set (i := 16) sc_law.nd rfl (.inr rfl) rfl (de_tup (by decide) (da_cons (de_op rfl op_subP (dc_M rfl rfl h__law_roll (hr.mono (by decide)) rfl px_cx j rfl rfl (da_cons (de_var (i := 1) rfl (.inl rfl) rfl) (da_cons de_int da_nil))) de_int) (da_cons (de_op rfl op_subP (dc_M rfl rfl h__law_roll (hr.mono (by decide)) rfl px_cx j rfl rfl (da_cons (de_var (i := 1) rfl (.inl rfl) rfl) (da_cons de_int da_nil))) de_int) da_nil))))
    (ds_cons (ds_set (i := 17) sc_law.nd rfl (.inr rfl) rfl (de_new (de_lc (own := [("own", 21)]) (ws := [21]) rfl sc_law.nd (di_any rfl (de_var (i := 13) rfl (.inl rfl) rfl)) (blkOk_by (sc := defScope s_law) (N := N_law) (by decide +kernel)) rfl rfl (fun _ _ _ _ _ _ _ => (dg_name (i := 21) sc_law.nd rfl (.inl rfl) rfl)) (fun _ _ _ _ _ _ _ => dts_nil) (fun _ _ _ _ _ _ _ => (de_op rfl op_addP (de_blt rfl call_absP rfl T.n_abs (by decide +kernel) (da_cons (de_op rfl op_subP (de_ix rfl ix_P (de_var (i := 21) rfl (.inl rfl) rfl) de_int (fun _ _ => rfl)) (de_ix rfl ix_P (de_var (i := 16) rfl (.inr (.inl rfl)) rfl) de_int (fun _ _ => rfl))) da_nil)) (de_blt rfl call_absP rfl T.n_abs (by decide +kernel) (da_cons (de_op rfl op_subP (de_ix rfl ix_P (de_var (i := 21) rfl (.inl rfl) rfl) de_int (fun _ _ => rfl)) (de_ix rfl ix_P (de_var (i := 16) rfl (.inr (.inl rfl)) rfl) de_int (fun _ _ => rfl))) da_nil)))))))
    (ds_cons (ds_if (dt_not (dt_b (dc_P rfl rfl h__law_same (hr.mono (by decide)) rfl px_cx rfl (da_cons (dc_P rfl rfl h_nearest_place (hr.mono (by decide)) rfl px_cx rfl (da_cons (de_var (i := 10) rfl (.inl rfl) rfl) (da_cons (de_var (i := 3) rfl (.inl rfl) rfl) (da_cons (de_var (i := 16) rfl (.inr (.inl rfl)) rfl) da_nil)))) (da_cons (de_blt rfl (call_minP rfl) rfl T.n_min (by decide +kernel) (da_cons (de_new (de_lc (own := [("at", 22)]) (ws := [22]) rfl sc_law.nd (di_range1 (b := true) rfl T.n_range (da_cons (de_blt rfl call_lenP rfl T.n_len (by decide +kernel) (da_cons (de_var (i := 17) rfl (.inr (.inl rfl)) rfl) da_nil)) da_nil)) (blkOk_by (sc := defScope s_law) (N := N_law) (by decide +kernel)) rfl rfl (fun _ _ _ _ _ _ _ => (dg_name (i := 22) sc_law.nd rfl (.inl rfl) rfl)) (fun _ _ _ _ _ _ _ => (dts_one (dt_cmp rfl (op_eqP hu4) (de_ix rfl ix_P (de_var (i := 17) rfl (.inr (.inl rfl)) rfl) (de_var (i := 22) rfl (.inl rfl) rfl) (fun _ _ => rfl)) (de_blt rfl (call_minP rfl) rfl T.n_min (by decide +kernel) (da_cons (de_var (i := 17) rfl (.inr (.inl rfl)) rfl) da_nil)) (nomark _)))) (fun _ _ _ _ _ _ _ => (de_var (i := 22) rfl (.inl rfl) rfl)))) da_nil)) da_nil)))))
    (ds_one (ds_ret de_bl)) ds_nil)
    (ds_cons (ds_set (i := 18) sc_law.nd rfl (.inl rfl) rfl (dc_M rfl rfl h__law_some (hr.mono (by decide)) rfl px_cx j rfl rfl (da_cons (de_var (i := 1) rfl (.inl rfl) rfl) (da_cons (de_new (de_lst (by decide) (da_cons (de_tup (by decide) (da_cons de_int (da_cons de_int (da_cons de_int da_nil)))) (da_cons (de_tup (by decide) (da_cons de_int (da_cons (de_un rfl un_negP de_int) (da_cons de_int da_nil)))) (da_cons (de_tup (by decide) (da_cons de_int (da_cons de_int (da_cons de_int da_nil)))) (da_cons (de_tup (by decide) (da_cons (de_un rfl un_negP de_int) (da_cons de_int (da_cons de_int da_nil)))) (da_cons (de_var (i := 10) rfl (.inl rfl) rfl) da_nil))))))) da_nil))))
    (ds_cons (ds_set (i := 19) sc_law.nd rfl (.inl rfl) rfl (de_cmp rfl (op_eqP hu4) (de_new (de_lc (own := [("own", 21)]) (ws := [21]) rfl sc_law.nd (di_any rfl (dc_P rfl rfl h__law_along (hr.mono (by decide)) rfl px_cx rfl (da_cons (de_var (i := 18) rfl (.inl rfl) rfl) (da_cons (de_var (i := 3) rfl (.inl rfl) rfl) da_nil)))) (blkOk_by (sc := defScope s_law) (N := N_law) (by decide +kernel)) rfl rfl (fun _ _ _ _ _ _ _ => (dg_name (i := 21) sc_law.nd rfl (.inl rfl) rfl)) (fun _ _ _ _ _ _ _ => (dts_one (dt_cmp rfl op_gtP (de_blt rfl (call_maxP rfl) rfl T.n_max (by decide +kernel) (da_cons (de_blt rfl call_absP rfl T.n_abs (by decide +kernel) (da_cons (de_ix rfl ix_P (de_var (i := 21) rfl (.inl rfl) rfl) de_int (fun _ _ => rfl)) da_nil)) (da_cons (de_blt rfl call_absP rfl T.n_abs (by decide +kernel) (da_cons (de_ix rfl ix_P (de_var (i := 21) rfl (.inl rfl) rfl) de_int (fun _ _ => rfl)) da_nil)) da_nil))) de_int (nomark _)))) (fun _ _ _ _ _ _ _ => (de_var (i := 21) rfl (.inl rfl) rfl)))) (de_new (de_lst (by decide) da_nil)) (nomark _)))
    (ds_one (ds_if (dt_not (dt_b (dc_P rfl rfl h__law_same (hr.mono (by decide)) rfl px_cx rfl (da_cons (dc_P rfl rfl h_within_bounds (hr.mono (by decide)) rfl px_cx rfl (da_cons (de_var (i := 18) rfl (.inl rfl) rfl) (da_cons (de_var (i := 3) rfl (.inl rfl) rfl) da_nil))) (da_cons (de_var (i := 19) rfl (.inl rfl) rfl) da_nil)))))
    (ds_one (ds_ret de_bl)) ds_nil)))))))))))))))))))))
    (ds_cons (ds_set (i := 20) sc_law.nd rfl (.inl rfl) rfl (de_tup (by decide) (da_cons (dc_P rfl rfl h_is_simple (hr.mono (by decide)) rfl px_cx rfl (da_cons (de_str (z := []) (by decide +kernel)) da_nil)) (da_cons (dc_P rfl rfl h_first_loop (hr.mono (by decide)) rfl px_cx rfl (da_cons (de_str (z := []) (by decide +kernel)) da_nil)) (da_cons (dc_P rfl rfl h_simple_beginning (hr.mono (by decide)) rfl px_cx rfl (da_cons (de_str (z := [108, 108, 108, 108]) (by decide +kernel)) da_nil)) (da_cons (dc_P rfl rfl h_first_loop (hr.mono (by decide)) rfl px_cx rfl (da_cons (de_str (z := [108, 108, 108, 108]) (by decide +kernel)) da_nil)) (da_cons (dc_P rfl rfl h_is_simple (hr.mono (by decide)) rfl px_cx rfl (da_cons (de_str (z := [108, 108, 108, 108]) (by decide +kernel)) da_nil)) (da_cons (dc_P rfl rfl h_nearest_place (hr.mono (by decide)) rfl px_cx rfl (da_cons (de_tup (by decide) (da_cons de_int (da_cons de_int (da_cons de_int da_nil)))) (da_cons (de_str (z := [108, 108, 108, 108]) (by decide +kernel)) (da_cons (de_tup (by decide) (da_cons de_int (da_cons de_int da_nil))) da_nil)))) da_nil))))))))
    (ds_one (ds_ret (dc_P rfl rfl h__law_same (hr.mono (by decide)) rfl px_cx rfl (da_cons (de_var (i := 20) rfl (.inl rfl) rfl) (da_cons (de_tup (by decide) (da_cons de_bl (da_cons de_non (da_cons (de_str (z := [108, 108, 108]) (by decide +kernel)) (da_cons (de_tup (by decide) (da_cons de_int (da_cons de_int da_nil))) (da_cons de_bl (da_cons de_int da_nil))))))) da_nil))))))))
    hc
theorem ok_law (T : Txt K mg) (hc : ∀ ns, ∃ c0 c1 c', b__law_cup [none, some (.int (cellOf ns))] () = .ok (.rt (.lst [.int c0, .int c1]), ()) ∧ b_law ((List.replicate 23 none).set 1 (some (.reg 0))) (c0, c1) = .ok (.rt (.bl true), c'))
    {f : Addr} {fd : FuncData} (F : Fun K "law" "law" s_law f fd) : FnOk P w K mg base (L2.CX P w) 10 f fd ["script"] (spLaw K) := by
  have h__law_same := (h__law_same T  8 : Has P w K mg base 9 "_law_same" 2 rg0 (m__law_same 8))
  have h__law_roll := (h__law_roll T  : Has P w K mg base 1 "_law_roll" 2 cupR m__law_roll)
  have h__law_some := (h__law_some T h__law_roll : Has P w K mg base 2 "_law_some" 2 cupR m__law_some)
  have h_fits_word := (h_fits_word T  : Has P w K mg base 1 "fits_word" 1 rg0 m_fits_word)
  have h_need_word := (h_need_word T h_fits_word : Has P w K mg base 2 "need_word" 1 rg0 m_need_word)
  have h_forward := (h_forward T  : Has P w K mg base 1 "forward" 1 rg0 m_forward)
  have h_behind_piece := (h_behind_piece T h_forward : Has P w K mg base 2 "behind_piece" 2 rg0 m_behind_piece)
  have h_places_in := (h_places_in T h_behind_piece : Has P w K mg base 3 "places_in" 2 rg0 m_places_in)
  have h_end_in := (h_end_in T h_places_in : Has P w K mg base 4 "end_in" 2 rg0 m_end_in)
  have h_closes_in := (h_closes_in T h_end_in : Has P w K mg base 5 "closes_in" 1 rg0 m_closes_in)
  have h_is_simple := (h_is_simple T h_need_word h_closes_in h_places_in : Has P w K mg base 6 "is_simple" 1 rg0 m_is_simple)
  have h_first_loop := (h_first_loop T h_need_word h_places_in : Has P w K mg base 4 "first_loop" 1 rg0 m_first_loop)
  have h_simple_beginning := (h_simple_beginning T h_need_word h_places_in : Has P w K mg base 4 "simple_beginning" 1 rg0 m_simple_beginning)
  have h_is_tuple_of := (h_is_tuple_of T  : Has P w K mg base 1 "is_tuple_of" 3 rg0 m_is_tuple_of)
  have h_is_whole := (h_is_whole T  : Has P w K mg base 1 "is_whole" 1 rg0 m_is_whole)
  have h_fits_whole := (h_fits_whole T h_is_whole : Has P w K mg base 2 "fits_whole" 3 rg0 m_fits_whole)
  have h_fits_spot := (h_fits_spot T h_is_tuple_of h_fits_whole : Has P w K mg base 3 "fits_spot" 1 rg0 m_fits_spot)
  have h_fits_place := (h_fits_place T h_is_tuple_of h_fits_spot h_fits_whole : Has P w K mg base 4 "fits_place" 1 rg0 m_fits_place)
  have h_need_place := (h_need_place T h_fits_place : Has P w K mg base 5 "need_place" 1 rg0 m_need_place)
  have h_need_spot := (h_need_spot T h_fits_spot : Has P w K mg base 4 "need_spot" 1 rg0 m_need_spot)
  have h_nearest_place := (h_nearest_place T h_need_place h_need_word h_need_spot h_places_in : Has P w K mg base 6 "nearest_place" 3 rg0 m_nearest_place)
  have h__law_place := (h__law_place T h__law_roll : Has P w K mg base 2 "_law_place" 1 cupR m__law_place)
  have h__law_word := (h__law_word T h__law_some h__law_roll : Has P w K mg base 3 "_law_word" 2 cupR m__law_word)
  have h__law_round := (h__law_round T h__law_roll h__law_some : Has P w K mg base 3 "_law_round" 1 cupR m__law_round)
  have h__law_next := (h__law_next T  : Has P w K mg base 1 "_law_next" 2 rg0 m__law_next)
  have h__law_along := (h__law_along T h__law_next : Has P w K mg base 2 "_law_along" 2 rg0 m__law_along)
  have h_is_round := (h_is_round T h_fits_word h_closes_in : Has P w K mg base 6 "is_round" 1 rg0 m_is_round)
  have h_within_bounds := (h_within_bounds T h_need_place h_need_word h_places_in : Has P w K mg base 6 "within_bounds" 2 rg0 m_within_bounds)
  have h_drift_of := (h_drift_of T h_need_word h_end_in : Has P w K mg base 5 "drift_of" 1 rg0 m_drift_of)
  have h_common_spots := (h_common_spots T h_need_place h_need_word h_places_in : Has P w K mg base 6 "common_spots" 4 rg0 m_common_spots)
  exact h_law T (h__law_cup T) h__law_same h__law_some h_is_simple h_first_loop h_simple_beginning h_nearest_place h__law_place h__law_word h__law_round h__law_along h_is_round h__law_roll h_within_bounds h_drift_of h_common_spots hc F
end
end Law
namespace Law
open PyA
open L2 (atI ixN Key)
open PySem (Str sizeLine)
theorem p__law_roll {c : Cup} {n : Int} (g : Good c) (h0 : 0 < n) (h1 : n < 1073741824) : Tot (m__law_roll [.reg 0, .int n]) c fun v c' => Good c' ∧ ∃ r : Int, v = .int r ∧ 0 ≤ r ∧ r < n := by
  obtain ⟨g0, g1, g2⟩ := g
  unfold m__law_roll b__law_roll
  by_cases hp : 0 < c.1
  · simp [startE, modP_int h0, fdivP_int h0 h1, hp]
    exact ⟨⟨Int.ediv_nonneg g0 (Int.le_of_lt h0), g1, g2⟩, Int.emod_nonneg _ (by omega), Int.emod_lt_of_pos _ h0⟩
  · have hc : ∀ a b : Int, 0 < b → b < 4294967296 → 0 ≤ a % b ∧ a % b < 4294967296 := fun a b h h2 => ⟨Int.emod_nonneg _ (by omega), Int.lt_trans (Int.emod_lt_of_pos _ h) h2⟩
    simp [startE, hp, mulP_r, modP_int, fdivP_int]
    rw [mulP_l]
    · simp [modP_int, h0, fdivP_int]
      refine ⟨⟨g0, ?_⟩, Int.emod_nonneg _ (by omega), Int.emod_lt_of_pos _ h0⟩
      exact hc _ _ (by decide) (by decide)
    · exact Int.lt_of_lt_of_le (by decide) (hc _ _ (by decide) (by decide)).1
    · exact Int.lt_trans (hc _ _ (by decide) (by decide)).2 (by decide)
theorem p__law_some {c : Cup} {xs : List Vl} (g : Good c) (h0 : xs ≠ []) (h1 : xs.length < 1073741824) : Tot (m__law_some [.reg 0, .lst xs]) c fun v c' => Good c' ∧ v ∈ xs := by
  unfold m__law_some b__law_some
  simp [startE]
  have hl : 0 < xs.length := List.length_pos_iff.mpr h0
  refine (p__law_roll g (by omega) (by omega)).mono fun a c' ⟨g', r, e, r0, r1⟩ => ?_
  subst e
  obtain ⟨x, e, m⟩ := atI_int r0 (xs := xs) r1
  simp [e, g', m]
/-- what may be asked of as the same -/
def sok : Nat → Vl → Bool
  | d + 1, .tup xs => decide (xs.length ≤ 16777216) && xs.all (sok d)
  | _ + 1, .str _ => true
  | _ + 1, .int _ => true
  | _ + 1, .bl _ => true
  | _ + 1, .non => true
  | _, _ => false
theorem p__law_same : ∀ (d : Nat) (x : Vl), sok d x = true → m__law_same d [x, x] = ret (.bl true)
  | 0, x, h => by cases x <;> cases h
  | d + 1, .non, h => by simp [m__law_same, b__law_same, startE, isaP, isa]
  | d + 1, .bl b, h => by cases b <;> simp [m__law_same, b__law_same, startE, isaP, isa, isP, isNon]
  | d + 1, .int b, h => by simp [m__law_same, b__law_same, startE, isaP, isa, isP, isNon]
  | d + 1, .str b, h => by simp [m__law_same, b__law_same, startE, isaP, isa, isP, isNon]
  | d + 1, .lst b, h => by cases h
  | d + 1, .dk _ _, h => by cases h
  | d + 1, .reg _, h => by cases h
  | d + 1, .tup xs, h => by
    unfold sok at h
    simp at h
    have ih : ∀ x ∈ xs, m__law_same d [x, x] = ret (.bl true) := fun x hx => p__law_same d x (h.2 x hx)
    simp [m__law_same, b__law_same, startE, isaP, isa, range1 h.1]
    rw [compA (h := fun _ => .bl true) (q := fun k hk => ⟨_, rfl, ?_⟩)]
    · simp [allP_map (p := fun _ => true)]
    · have hk := List.mem_range.mp hk
      simp [atI_lt hk, ih _ (List.getElem_mem hk)]
/-- a word of pieces -/
def Pc (c : Nat) : Prop := c = 115 ∨ c = 108 ∨ c = 114
def Wd (n : Nat) (z : List Nat) : Prop := z.length ≤ n ∧ ∀ c ∈ z, Pc c
theorem Wd.mono {n m : Nat} {z : List Nat} (h : Wd n z) (k : n ≤ m) : Wd m z := ⟨Nat.le_trans h.1 k, h.2⟩
theorem p__law_word {c : Cup} {n : Nat} (g : Good c) (h : n ≤ 1000) : Tot (m__law_word [.reg 0, .int n]) c fun v c' => Good c' ∧ ∃ z, v = .str z ∧ Wd n z := by
  unfold m__law_word b__law_word
  simp [startE]
  refine (p__law_roll g (by omega) (by omega)).mono fun a c1 ⟨g1, r, e, r0, r1⟩ => ?_
  subst e
  obtain ⟨k, rfl⟩ := Int.eq_ofNat_of_zero_le r0
  rw [range1 (by omega)]
  simp
  refine (Tot.list (G := Good) (d := fun p => .str [p]) (Q := Pc) (List.range k) c1 g1 fun x _ c g => ⟨_, rfl, ?_⟩).mono fun ys c2 ⟨g2, zs, e, l, hz⟩ => ?_
  · simp
    refine (p__law_some g (by simp) (by simp)).mono fun y c' ⟨g', m⟩ => ⟨g', ?_⟩
    simp at m
    rcases m with rfl | rfl | rfl
    · exact ⟨_, rfl, .inl rfl⟩
    · exact ⟨_, rfl, .inr (.inl rfl)⟩
    · exact ⟨_, rfl, .inr (.inr rfl)⟩
  · rw [List.length_range] at l
    subst e
    have sm : (List.map (fun x => x.length) (zs.map fun p => [p])).sum = zs.length := by
      rw [← List.length_flatten, flat1]
    rw [join_map (by rw [sm]; exact szl (k := 1000) (by omega)), flat1]
    simp
    exact ⟨g2, by omega, hz⟩
theorem p_is_whole (i : Int) : m_is_whole [.int i] = ret (.bl true) := by
  simp [m_is_whole, b_is_whole, startE, isaP, isa]
theorem p_fits_whole (i lo hi : Int) : m_fits_whole [.int i, .int lo, .int hi] = ret (.bl (decide (lo ≤ i ∧ i ≤ hi))) := by
  simp [m_fits_whole, b_fits_whole, startE, p_is_whole]
  by_cases h : lo ≤ i <;> simp [h]
theorem p_fits_word {z : List Nat} (h : Wd 60 z) : m_fits_word [.str z] = ret (.bl true) := by
  have hz : z.length ≤ sizeLine := szl h.1
  have hl : (z.length : Int) ≤ 60 := by have := h.1; omega
  simp [m_fits_word, b_fits_word, startE, isaP, isa, lenP_str hz, items_str hz, hl]
  rw [compA (h := fun _ => .bl true) (q := fun k hk => ⟨_, rfl, ?_⟩)]
  · simp [allP_map (p := fun _ => true)]
  · rcases h.2 k hk with rfl | rfl | rfl <;> simp [inP]
theorem p_need_word {z : List Nat} (h : Wd 60 z) : m_need_word [.str z] = ret .non := by
  simp [m_need_word, b_need_word, startE, p_fits_word h]
/-- what is laid on a leg in n turns -/
inductive Blk : Nat → List Nat → Prop where
  | nil : Blk 0 []
  | s {n : Nat} {z : List Nat} : Blk n z → Blk (n + 1) (z ++ [115])
  | lr {n : Nat} {z : List Nat} : Blk n z → Blk (n + 1) (z ++ [108, 114])
  | rl {n : Nat} {z : List Nat} : Blk n z → Blk (n + 1) (z ++ [114, 108])
theorem Blk.len {n : Nat} {z : List Nat} (h : Blk n z) : z.length ≤ 2 * n := by
  induction h <;> simp <;> omega
theorem Blk.pc {n : Nat} {z : List Nat} (h : Blk n z) : ∀ c ∈ z, Pc c := by
  induction h with
  | nil => exact fun _ h => nomatch h
  | s _ ih => intro c hc; simp at hc; rcases hc with hc | rfl; exact ih c hc; exact .inl rfl
  | lr _ ih => intro c hc; simp at hc; rcases hc with hc | rfl | rfl; exact ih c hc; exact .inr (.inl rfl); exact .inr (.inr rfl)
  | rl _ ih => intro c hc; simp at hc; rcases hc with hc | rfl | rfl; exact ih c hc; exact .inr (.inr rfl); exact .inr (.inl rfl)
def fourLegs (a b : List Nat) (x : Nat) : List Nat := (a ++ [x]) ++ ((b ++ [x]) ++ ((a ++ [x]) ++ (b ++ [x])))
/-- a closed round -/
def Rnd (z : List Nat) : Prop := ∃ a b x na nb k, na + nb ≤ 4 ∧ Blk na a ∧ Blk nb b ∧ (x = 108 ∨ x = 114) ∧ k < (fourLegs a b x).length ∧ z = (fourLegs a b x).drop k ++ (fourLegs a b x).take k
theorem fourLegs_len (a b : List Nat) (x : Nat) : (fourLegs a b x).length = 2 * a.length + 2 * b.length + 4 := by
  unfold fourLegs
  simp
  omega
theorem Rnd.wd {z : List Nat} (h : Rnd z) : Wd 20 z ∧ 4 ≤ z.length := by
  obtain ⟨a, b, x, na, nb, k, hn, ha, hb, hx, hk, rfl⟩ := h
  have la := ha.len
  have lb := hb.len
  have e := fourLegs_len a b x
  have l : ((fourLegs a b x).drop k ++ (fourLegs a b x).take k).length = (fourLegs a b x).length := by
    rw [List.length_append, List.length_drop, List.length_take]
    omega
  refine ⟨⟨by rw [l]; omega, fun c hc => ?_⟩, by rw [l]; omega⟩
  have hc : c ∈ fourLegs a b x := by
    rcases List.mem_append.mp hc with h | h
    · exact List.mem_of_mem_drop h
    · exact List.mem_of_mem_take h
  have px : Pc x := hx.elim (fun h => .inr (.inl h)) fun h => .inr (.inr h)
  unfold fourLegs at hc
  have hc : c ∈ a ∨ c ∈ b ∨ c = x := by
    simp at hc
    grind
  rcases hc with h | h | h
  · exact ha.pc c h
  · exact hb.pc c h
  · exact h ▸ px
theorem slP_drop {z : List Nat} {k : Nat} (h : z.length ≤ sizeLine) (hk : k ≤ z.length) : slP (.str z) (some (k : Int)) none = some (.str (z.drop k)) := by
  show (if z.length ≤ sizeLine then some (Vl.str (cutL z (some (k : Int)) none)) else none) = _
  rw [if_pos h]
  unfold cutL
  rw [HT.sIx_nat, HT.sIx_none, Nat.min_eq_left hk, List.take_of_length_le (by rw [List.length_drop]; omega)]
theorem slP_take {z : List Nat} {k : Nat} (h : z.length ≤ sizeLine) (hk : k ≤ z.length) : slP (.str z) none (some (k : Int)) = some (.str (z.take k)) := by
  show (if z.length ≤ sizeLine then some (Vl.str (cutL z none (some (k : Int)))) else none) = _
  rw [if_pos h]
  unfold cutL
  rw [HT.sIx_nat, HT.sIx_none, Nat.min_eq_left hk, Nat.sub_zero, List.drop_zero]
theorem p__law_round {c : Cup} (g : Good c) : Tot (m__law_round [.reg 0]) c fun v c' => Good c' ∧ ∃ z, v = .str z ∧ Rnd z := by
  unfold m__law_round b__law_round
  simp [startE]
  refine (p__law_some g (by simp) (by simp)).mono fun y c1 ⟨g1, m⟩ => ?_
  have hs : ∃ x, y = .str [x] ∧ (x = 108 ∨ x = 114) := by
    simp at m
    rcases m with rfl | rfl
    · exact ⟨_, rfl, .inl rfl⟩
    · exact ⟨_, rfl, .inr rfl⟩
  obtain ⟨x, rfl, hx⟩ := hs
  simp [imm, storeF, ownable, imms]
  refine (p__law_roll g1 (by decide) (by decide)).mono fun v c2 ⟨g2, r, e, r0, r1⟩ => ?_
  subst e
  obtain ⟨n, rfl⟩ := Int.eq_ofNat_of_zero_le r0
  rw [range1 (by omega)]
  simp
  refine (Tot.for (I := fun n ρ c => Good c ∧ ∃ a b na nb s3 s4 s5, na + nb = n ∧ Blk na a ∧ Blk nb b ∧ ρ = [some (.reg 0), some (.lst [.str a, .str b, .str a, .str b]), some (.str [x]), s3, s4, s5, none, none])
    (List.range n) 0 _ c2 ⟨g2, [], [], 0, 0, none, none, none, rfl, .nil, .nil, rfl⟩ fun k x' hk ρ c h => ?_).mono fun o c3 ⟨ρ', eo, h⟩ => ?_
  · obtain ⟨g, a, b, na, nb, s3, s4, s5, hn, ha, hb, rfl⟩ := h
    have hk : k < n := by
      have := (List.getElem?_eq_some_iff.mp hk).1
      rwa [List.length_range] at this
    refine ⟨_, rfl, Tot.hide fun Ψ hΨ => ?_⟩
    simp
    refine (p__law_roll g (by decide) (by decide)).mono fun v c3 ⟨g3, r, e, r0, r1⟩ => ?_
    subst e
    refine (p__law_some g3 (by simp) (by simp)).mono fun y c4 ⟨g4, m⟩ => ?_
    have hm : ∃ z, y = .str z ∧ (z = [115] ∨ z = [108, 114] ∨ z = [114, 108]) := by
      simp at m
      grind
    obtain ⟨z, rfl, hz⟩ := hm
    have hr : r = 0 ∨ r = 1 := by omega
    have lz : z.length ≤ 2 := by rcases hz with rfl | rfl | rfl <;> simp
    have la := ha.len
    have lb := hb.len
    have bl : ∀ {n w}, Blk n w → Blk (n + 1) (w ++ z) := fun h => by
      rcases hz with rfl | rfl | rfl
      · exact .s h
      · exact .lr h
      · exact .rl h
    rcases hr with rfl | rfl
    · simp [atI, ixN, lstAt, setAt, addP_str (a := a) (b := z) (szl (k := 1000) (by omega))]
      exact hΨ _ _ ⟨_, .inl rfl, g4, _, _, na + 1, nb, _, _, _, by omega, bl ha, hb, rfl⟩
    · simp [atI, ixN, lstAt, setAt, addP_str (a := b) (b := z) (szl (k := 1000) (by omega))]
      exact hΨ _ _ ⟨_, .inl rfl, g4, _, _, na, nb + 1, _, _, _, by omega, ha, bl hb, rfl⟩
  · subst eo
    obtain ⟨g3, a, b, na, nb, s3, s4, s5, hn, ha, hb, rfl⟩ := h
    rw [List.length_range] at hn
    have la := ha.len
    have lb := hb.len
    have lw := fourLegs_len a b x
    have j : join1 (.str []) [.lst [.str (a ++ [x]), .str (b ++ [x]), .str (a ++ [x]), .str (b ++ [x])]] = some (.str (fourLegs a b x)) := by
      have e := join_map (p := fun z : List Nat => z) (xs := [a ++ [x], b ++ [x], a ++ [x], b ++ [x]]) (by simp; exact szl (k := 1000) (by omega))
      simp at e
      simpa [fourLegs] using e
    have cm : compL (C := Cup) (bName 7) gYes (fOp addP (fVar 7) (fVar 2)) [some (.reg 0), some (.lst [.str a, .str b, .str a, .str b]), some (.str [x]), s3, s4, s5, none, none] [.str a, .str b, .str a, .str b]
        = ret [.str (a ++ [x]), .str (b ++ [x]), .str (a ++ [x]), .str (b ++ [x])] := by
      refine (compA (fun z => .str z) (fun z => .str (z ++ [x])) [a, b, a, b] fun z hz => ⟨_, rfl, ?_⟩).trans rfl
      have lz : z.length ≤ 1000 := by
        simp at hz
        rcases hz with rfl | rfl | rfl | rfl <;> omega
      simp [addP_str (a := z) (b := [x]) (szl (k := 1001) (by simp; omega))]
    simp [cm, j, lenP_str (szl (k := 1000) (by omega : (fourLegs a b x).length ≤ 1000))]
    refine (p__law_roll g3 (by omega) (by omega)).mono fun v c4 ⟨g4, r, e, r0, r1⟩ => ?_
    subst e
    obtain ⟨k, rfl⟩ := Int.eq_ofNat_of_zero_le r0
    have hk : k < (fourLegs a b x).length := by omega
    have hz : (fourLegs a b x).length ≤ sizeLine := szl (k := 1000) (by omega)
    simp [slP_drop hz (Nat.le_of_lt hk), slP_take hz (Nat.le_of_lt hk)]
    rw [addP_str (by rw [List.length_drop, List.length_take]; exact szl (k := 1000) (by omega))]
    simp
    exact ⟨g4, a, b, x, na, nb, k, by omega, ha, hb, hx, hk, rfl⟩
/-! places -/
abbrev Plc := Int × Int × Nat
abbrev eT (p : Plc) : Vl := .tup [.int p.1, .int p.2.1, .int (p.2.2 : Nat)]
abbrev eXY (s : Int × Int) : Vl := .tup [.int s.1, .int s.2]
def dx : Nat → Int
  | 0 => 1
  | 2 => -1
  | _ => 0
def dy : Nat → Int
  | 1 => 1
  | 3 => -1
  | _ => 0
def nx (p : Plc) (c : Nat) : Plc :=
  if c = 115 then (p.1 + dx p.2.2, p.2.1 + dy p.2.2, p.2.2)
  else if c = 108 then (p.1 + dx p.2.2 + dx ((p.2.2 + 1) % 4), p.2.1 + dy p.2.2 + dy ((p.2.2 + 1) % 4), (p.2.2 + 1) % 4)
  else (p.1 + dx p.2.2 + dx ((p.2.2 + 3) % 4), p.2.1 + dy p.2.2 + dy ((p.2.2 + 3) % 4), (p.2.2 + 3) % 4)
def rows (p : Plc) : List Nat → List Plc
  | [] => [p]
  | c :: r => p :: rows (nx p c) r
theorem nx_lt {p : Plc} {c : Nat} (h : p.2.2 < 4) : (nx p c).2.2 < 4 := by
  unfold nx
  split
  · exact h
  · split <;> exact Nat.mod_lt _ (by decide)
theorem rows_len : ∀ (z : List Nat) (p : Plc), (rows p z).length = z.length + 1
  | [], _ => rfl
  | c :: r, p => by rw [rows, List.length_cons, rows_len r, List.length_cons]
theorem w4 {w : Nat} (h : w < 4) : w = 0 ∨ w = 1 ∨ w = 2 ∨ w = 3 := by omega
theorem p_forward {p : Plc} (h : p.2.2 < 4) : m_forward [eT p] = ret (.tup [.int (p.1 + dx p.2.2), .int (p.2.1 + dy p.2.2)]) := by
  obtain ⟨x, y, w⟩ := p
  rcases w4 h with e | e | e | e <;> (simp at e; subst e; simp [m_forward, b_forward, startE, atI, ixN, dx, dy])
theorem p_behind_piece {p : Plc} {c : Nat} (h : p.2.2 < 4) (hc : Pc c) : m_behind_piece [eT p, eC c] = ret (eT (nx p c)) := by
  have f := p_forward h
  obtain ⟨x, y, w⟩ := p
  simp at f
  rcases hc with rfl | rfl | rfl <;> rcases w4 h with e | e | e | e <;> (simp at e; subst e; simp [m_behind_piece, b_behind_piece, startE, atI, ixN, dx, dy, nx, modP_int] at f ⊢; simp [f, atI, ixN, modP_int]; rfl)
theorem p_places_in {p : Plc} {z : List Nat} (hp : p.2.2 < 4) (h : Wd 1000 z) : m_places_in [eT p, .str z] = ret (.lst ((rows p z).map eT)) := by
  have hz : z.length ≤ sizeLine := szl h.1
  simp [m_places_in, b_places_in, startE, items_str hz]
  obtain ⟨⟨acc, l, s⟩, hP, e⟩ := for_ex (C := Unit) (bd := bName 3) (body := sApp 2 (fCallP m_behind_piece [(fOp ixP (fVar 2) (fUn negP (fC (.int 1)))), (fVar 3)])) eC
    (E := fun q : List Plc × Plc × Option Vl => [some (eT p), some (.str z), some (.lst (q.1.map eT ++ [eT q.2.1])), q.2.2])
    (P := fun q r => (∀ c ∈ r, Pc c) ∧ q.1.length + r.length ≤ 1000 ∧ q.2.1.2.2 < 4 ∧ q.1 ++ rows q.2.1 r = rows p z)
    (s := ([], p, none)) (xs := z) (ρ := [some (eT p), some (.str z), some (.lst [eT p]), none]) (hρ := rfl)
    (hP := ⟨h.2, by simpa using h.1, hp, rfl⟩) (hs := fun c r q hp => by
      obtain ⟨acc, l, s⟩ := q
      obtain ⟨hc, hl, h4, h2⟩ := hp
      have hl2 : acc.length + 1 < sizeLine := Nat.lt_of_le_of_lt (by simp at hl; omega : acc.length + 1 ≤ 1000) (by decide)
      refine ⟨(acc ++ [l], nx l c, some (eC c)), ⟨fun x hx => hc x (List.mem_cons_of_mem _ hx), by simp at hl ⊢; omega, nx_lt h4, by simpa [rows] using h2⟩, _, rfl, ?_⟩
      have b := p_behind_piece h4 (hc c List.mem_cons_self)
      simp only [sApp_ap, bName_ap, List.set, lstAt, look_0, look_s, o_some, r_bnd, fCallP_ap, seqA_cons, seqA_nil, fOp_ap, fVar_ap, fUn_ap, fC_ap, negP_int, ixP_lst, atI_neg1, b, l_ret]
      simp [appAt, hl2])
  rw [e]
  obtain ⟨_, _, _, h2⟩ := hP
  simp [rows] at h2 ⊢
  rw [← h2]
  simp
theorem p__law_next {p : Plc} {c : Nat} (h : p.2.2 < 4) (hc : Pc c) : m__law_next [eT p, eC c] = ret (eT (nx p c)) := by
  obtain ⟨x, y, w⟩ := p
  have k1 : dixP [(.inr "s", .int 0), (.inr "l", .int 1), (.inr "r", .int (-1))] (.str [115]) = some (.int 0) := by rfl
  have k2 : dixP [(.inr "s", .int 0), (.inr "l", .int 1), (.inr "r", .int (-1))] (.str [108]) = some (.int 1) := by rfl
  have k3 : dixP [(.inr "s", .int 0), (.inr "l", .int 1), (.inr "r", .int (-1))] (.str [114]) = some (.int (-1)) := by rfl
  rcases hc with rfl | rfl | rfl <;> rcases w4 h with e | e | e | e <;> (simp at e; subst e; simp [m__law_next, b__law_next, startE, atI, ixN, dx, dy, nx, modP_int, mulP_l, k1, k2, k3]; rfl)
theorem p__law_along {p : Plc} {z : List Nat} (hp : p.2.2 < 4) (h : Wd 1000 z) : m__law_along [eT p, .str z] = ret (.lst ((rows p z).map eT)) := by
  have hz : z.length ≤ sizeLine := szl h.1
  simp [m__law_along, b__law_along, startE, items_str hz]
  obtain ⟨⟨acc, l, s⟩, hP, e⟩ := for_ex (C := Unit) (bd := bName 3) (body := sApp 2 (fCallP m__law_next [(fOp ixP (fVar 2) (fUn negP (fC (.int 1)))), (fVar 3)])) eC
    (E := fun q : List Plc × Plc × Option Vl => [some (eT p), some (.str z), some (.lst (q.1.map eT ++ [eT q.2.1])), q.2.2])
    (P := fun q r => (∀ c ∈ r, Pc c) ∧ q.1.length + r.length ≤ 1000 ∧ q.2.1.2.2 < 4 ∧ q.1 ++ rows q.2.1 r = rows p z)
    (s := ([], p, none)) (xs := z) (ρ := [some (eT p), some (.str z), some (.lst [eT p]), none]) (hρ := rfl)
    (hP := ⟨h.2, by simpa using h.1, hp, rfl⟩) (hs := fun c r q hp => by
      obtain ⟨acc, l, s⟩ := q
      obtain ⟨hc, hl, h4, h2⟩ := hp
      have hl2 : acc.length + 1 < sizeLine := Nat.lt_of_le_of_lt (by simp at hl; omega : acc.length + 1 ≤ 1000) (by decide)
      refine ⟨(acc ++ [l], nx l c, some (eC c)), ⟨fun x hx => hc x (List.mem_cons_of_mem _ hx), by simp at hl ⊢; omega, nx_lt h4, by simpa [rows] using h2⟩, _, rfl, ?_⟩
      have b := p__law_next h4 (hc c List.mem_cons_self)
      simp only [sApp_ap, bName_ap, List.set, lstAt, look_0, look_s, o_some, r_bnd, fCallP_ap, seqA_cons, seqA_nil, fOp_ap, fVar_ap, fUn_ap, fC_ap, negP_int, ixP_lst, atI_neg1, b, l_ret]
      simp [appAt, hl2])
  rw [e]
  obtain ⟨_, _, _, h2⟩ := hP
  simp [rows] at h2 ⊢
  rw [← h2]
  simp
def Near (n : Int) (p : Plc) : Prop := -n ≤ p.1 ∧ p.1 ≤ n ∧ -n ≤ p.2.1 ∧ p.2.1 ≤ n ∧ p.2.2 < 4
theorem allP_2 (p q : Bool) : allP [.lst [.bl p, .bl q]] = some (.bl (p && q)) := by cases p <;> cases q <;> rfl
theorem p_fits_spot {a b : Int} : m_fits_spot [.tup [.int a, .int b]] = ret (.bl (decide ((-100 ≤ a ∧ a ≤ 100) ∧ (-100 ≤ b ∧ b ≤ 100)))) := by
  simp [m_fits_spot, b_fits_spot, startE, m_is_tuple_of, b_is_tuple_of, isaP, isa]
  have e := compA (C := Unit) (bd := bName 1) (f := fCallP m_fits_whole [(fVar 1), (fUn negP (fC (.int 100))), (fC (.int 100))]) (ρ := [some (.tup [.int a, .int b]), none]) Vl.int (fun i => .bl (decide (-100 ≤ i ∧ i ≤ 100))) [a, b] fun i hi => ⟨_, rfl, by simp [p_fits_whole]⟩
  simp at e
  simp [e, allP_2]
theorem p_need_place {p : Plc} (h : Near 100 p) : m_need_place [eT p] = ret .non := by
  obtain ⟨h1, h2, h3, h4, h5⟩ := h
  obtain ⟨x, y, w⟩ := p
  have hs : slP (.tup [.int x, .int y, .int (w : Nat)]) none (some 2) = some (.tup [.int x, .int y]) := rfl
  simp at h1 h2 h3 h4 h5
  have h6 : (w : Int) ≤ 3 := by omega
  simp [m_need_place, b_need_place, m_fits_place, b_fits_place, startE, m_is_tuple_of, b_is_tuple_of, isaP, isa, hs, p_fits_spot, h1, h2, h3, h4, p_fits_whole, atI, ixN, h6]
theorem dx_le (w : Nat) : -1 ≤ dx w ∧ dx w ≤ 1 := by unfold dx; split <;> decide
theorem dy_le (w : Nat) : -1 ≤ dy w ∧ dy w ≤ 1 := by unfold dy; split <;> decide
theorem nx_near {n : Int} {p : Plc} {c : Nat} (h : Near n p) : Near (n + 2) (nx p c) := by
  obtain ⟨h1, h2, h3, h4, h5⟩ := h
  have a1 := dx_le p.2.2
  have a2 := dy_le p.2.2
  have b1 := dx_le ((p.2.2 + 1) % 4)
  have b2 := dy_le ((p.2.2 + 1) % 4)
  have c1 := dx_le ((p.2.2 + 3) % 4)
  have c2 := dy_le ((p.2.2 + 3) % 4)
  refine ⟨?_, ?_, ?_, ?_, nx_lt h5⟩ <;> (unfold nx; by_cases k1 : c = 115 <;> by_cases k2 : c = 108 <;> simp [k1, k2] <;> omega)
theorem Near.mono {n m : Int} {p : Plc} (h : Near n p) (k : n ≤ m) : Near m p := by
  obtain ⟨h1, h2, h3, h4, h5⟩ := h
  exact ⟨by omega, by omega, by omega, by omega, h5⟩
theorem rows_near : ∀ (z : List Nat) (n : Int) (p : Plc), Near n p → ∀ q ∈ rows p z, Near (n + 2 * z.length) q
  | [], n, p, h, q, hq => by
    obtain rfl := List.mem_singleton.mp hq
    exact h.mono (by simp)
  | c :: r, n, p, h, q, hq => by
    rcases List.mem_cons.mp hq with rfl | hq
    · exact h.mono (by simp; omega)
    · exact (rows_near r (n + 2) (nx p c) (nx_near h) q hq).mono (by simp; omega)
theorem p__law_place {c : Cup} (g : Good c) : Tot (m__law_place [.reg 0]) c fun v c' => Good c' ∧ ∃ p, v = eT p ∧ Near 10 p := by
  unfold m__law_place b__law_place
  refine Tot.hide fun Ψ hΨ => ?_
  simp [startE]
  refine (p__law_roll g (by decide) (by decide)).mono fun v c1 ⟨g1, r1, e1, a1, b1⟩ => ?_
  subst e1
  simp
  refine (p__law_roll g1 (by decide) (by decide)).mono fun v c2 ⟨g2, r2, e2, a2, b2⟩ => ?_
  subst e2
  simp
  refine (p__law_roll g2 (by decide) (by decide)).mono fun v c3 ⟨g3, r3, e3, a3, b3⟩ => ?_
  subst e3
  obtain ⟨w, rfl⟩ := Int.eq_ofNat_of_zero_le a3
  exact hΨ _ _ ⟨g3, (r1 - 10, r2 - 10, w), rfl, by simp only; omega, by simp only; omega, by simp only; omega, by simp only; omega, by simp only; omega⟩
/-! where a word leads -/
def endp (p : Plc) (z : List Nat) : Plc := z.foldl nx p
theorem endp_app (p : Plc) (u v : List Nat) : endp p (u ++ v) = endp (endp p u) v := List.foldl_append
theorem endp_lt {z : List Nat} : ∀ {p : Plc}, p.2.2 < 4 → (endp p z).2.2 < 4 := by
  induction z with
  | nil => exact fun h => h
  | cons c r ih => exact fun h => ih (nx_lt h)
theorem rows_get : ∀ (z : List Nat) (p : Plc) (i : Nat), i ≤ z.length → (rows p z)[i]? = some (endp p (z.take i))
  | [], p, 0, _ => rfl
  | c :: r, p, 0, _ => rfl
  | c :: r, p, i + 1, h => rows_get r (nx p c) i (Nat.le_of_succ_le_succ h)
theorem rows_last : ∀ (z : List Nat) (p : Plc), ∃ l, rows p z = l ++ [endp p z]
  | [], p => ⟨[], rfl⟩
  | c :: r, p => by
    obtain ⟨l, e⟩ := rows_last r (nx p c)
    exact ⟨p :: l, by rw [rows, e]; rfl⟩
theorem eqD_T (p q : Plc) : eqD (eT p) (eT q) = decide (p = q) := by
  obtain ⟨a, b, c⟩ := p
  obtain ⟨x, y, z⟩ := q
  rw [Bool.eq_iff_iff]
  simp [Int.ofNat_inj]
theorem eqP_T (p q : Plc) : eqP (eT p) (eT q) = some (.bl (decide (p = q))) := by
  rw [eqP_of rfl rfl (.inl ⟨_, rfl⟩), eqD_T]
theorem neP_T (p q : Plc) : neP (eT p) (eT q) = some (.bl (!decide (p = q))) := by
  unfold neP
  rw [eqP_T]
theorem at_last {p : Plc} {z : List Nat} : atI ((rows p z).map eT) (-1) = some (eT (endp p z)) := by
  obtain ⟨l, e⟩ := rows_last z p
  rw [e, List.map_append]
  exact atI_neg1 _ _
theorem at_row {p : Plc} {z : List Nat} {i : Nat} (h : i ≤ z.length) : atI ((rows p z).map eT) (i : Int) = some (eT (endp p (z.take i))) := by
  refine atI_map (f := eT) (L2.atI_nat (j := i) ?_)
  rw [rows_get z p i h]
theorem p_end_in {p : Plc} {z : List Nat} (hp : p.2.2 < 4) (h : Wd 1000 z) : m_end_in [eT p, .str z] = ret (eT (endp p z)) := by
  simp [m_end_in, b_end_in, startE, p_places_in hp h, at_last]
/-- a closed round, from the first place -/
def Cl (z : List Nat) : Prop := Wd 60 z ∧ z ≠ [] ∧ endp (0, 0, 0) z = (0, 0, 0)
theorem p_closes_in {z : List Nat} (h : Cl z) : m_closes_in [.str z] = ret (.bl true) := by
  obtain ⟨h1, h2, h3⟩ := h
  have e : m_end_in [.tup [.int 0, .int 0, .int 0], .str z] = ret (.tup [.int 0, .int 0, .int 0]) := by
    have e := p_end_in (p := (0, 0, 0)) (z := z) (by decide) (h1.mono (by decide))
    rw [h3] at e
    exact e
  have e2 : eqP (.tup [.int 0, .int 0, .int 0]) (.tup [.int 0, .int 0, .int 0]) = some (.bl true) := (eqP_T (0, 0, 0) (0, 0, 0)).trans (by rw [decide_eq_true rfl])
  simp [m_closes_in, b_closes_in, startE, h2, e, e2]
/-! drawn rounds close -/
def mv : List Nat → Nat → Int × Int
  | [], _ => (0, 0)
  | c :: r, w => ((nx (0, 0, w) c).1 + (mv r (nx (0, 0, w) c).2.2).1, (nx (0, 0, w) c).2.1 + (mv r (nx (0, 0, w) c).2.2).2)
def tn (z : List Nat) (w : Nat) : Nat := (endp (0, 0, w) z).2.2
theorem nx_mv (x y : Int) (w c : Nat) : nx (x, y, w) c = (x + (nx (0, 0, w) c).1, y + (nx (0, 0, w) c).2.1, (nx (0, 0, w) c).2.2) := by
  unfold nx
  split
  · simp
  · split <;> simp <;> omega
theorem endp_mv : ∀ (z : List Nat) (x y : Int) (w : Nat), endp (x, y, w) z = (x + (mv z w).1, y + (mv z w).2, tn z w)
  | [], x, y, w => by simp [endp, mv, tn]
  | c :: r, x, y, w => by
    have e : ∀ x y : Int, endp (x, y, w) (c :: r) = endp (nx (x, y, w) c) r := fun _ _ => rfl
    rw [tn, e, e, nx_mv x y, endp_mv r, show nx (0, 0, w) c = ((nx (0, 0, w) c).1, (nx (0, 0, w) c).2.1, (nx (0, 0, w) c).2.2) from rfl, endp_mv r]
    simp [mv]
    omega
theorem tn_app (u v : List Nat) (w : Nat) : tn (u ++ v) w = tn v (tn u w) := by
  unfold tn
  rw [endp_app, show endp (0, 0, w) u = ((endp (0, 0, w) u).1, (endp (0, 0, w) u).2.1, (endp (0, 0, w) u).2.2) from rfl, endp_mv v, endp_mv v]
theorem mv_app (u v : List Nat) (w : Nat) : mv (u ++ v) w = ((mv u w).1 + (mv v (tn u w)).1, (mv u w).2 + (mv v (tn u w)).2) := by
  have e := endp_app (0, 0, w) u v
  rw [endp_mv, endp_mv u, endp_mv v] at e
  simp at e
  exact Prod.ext e.1 e.2.1
theorem tn_lt {z : List Nat} {w : Nat} (h : w < 4) : tn z w < 4 := endp_lt (p := (0, 0, w)) h
def trn : List Nat → Nat
  | [] => 0
  | c :: r => (if c = 115 then 0 else if c = 108 then 1 else 3) + trn r
theorem tn_eq : ∀ (z : List Nat) (w : Nat), w < 4 → tn z w = (w + trn z) % 4
  | [], w, h => by simp [tn, endp, trn]; omega
  | c :: r, w, h => by
    have e : tn (c :: r) w = tn r (nx (0, 0, w) c).2.2 := by
      unfold tn
      rw [show endp (0, 0, w) (c :: r) = endp (nx (0, 0, w) c) r from rfl, show nx (0, 0, w) c = ((nx (0, 0, w) c).1, (nx (0, 0, w) c).2.1, (nx (0, 0, w) c).2.2) from rfl, endp_mv r, endp_mv r]
    rw [e, tn_eq r _ (nx_lt (p := (0, 0, w)) h), trn]
    unfold nx
    split
    · simp
    · split <;> simp <;> omega
theorem mv_half : ∀ (z : List Nat) (w : Nat), w < 4 → mv z ((w + 2) % 4) = (-(mv z w).1, -(mv z w).2)
  | [], w, h => by simp [mv]
  | c :: r, w, h => by
    have h2 : nx (0, 0, (w + 2) % 4) c = (-(nx (0, 0, w) c).1, -(nx (0, 0, w) c).2.1, ((nx (0, 0, w) c).2.2 + 2) % 4) := by
      unfold nx
      by_cases k1 : c = 115
      · simp only [k1, if_true]
        rcases w4 h with e | e | e | e <;> (subst e; decide)
      · by_cases k2 : c = 108
        · subst k2
          rcases w4 h with e | e | e | e <;> (subst e; decide)
        · simp only [k1, k2, if_false]
          rcases w4 h with e | e | e | e <;> (subst e; decide)
    rw [mv, h2, mv]
    simp only
    rw [mv_half r _ (nx_lt (p := (0, 0, w)) h)]
    simp
    omega
theorem Blk.trn {n : Nat} {z : List Nat} (h : Blk n z) : trn z % 4 = 0 := by
  have app : ∀ u v, Law.trn (u ++ v) = Law.trn u + Law.trn v := fun u v => by
    induction u with
    | nil => simp [Law.trn]
    | cons c r ih => simp [Law.trn, ih]; omega
  induction h with
  | nil => rfl
  | s _ ih => rw [app]; simp [Law.trn]; omega
  | lr _ ih => rw [app]; simp [Law.trn]; omega
  | rl _ ih => rw [app]; simp [Law.trn]; omega
theorem trn_app (u v : List Nat) : trn (u ++ v) = trn u + trn v := by
  induction u with
  | nil => simp [trn]
  | cons c r ih => simp [trn, ih]; omega
/-- no way, no turn -/
def Still (z : List Nat) : Prop := trn z % 4 = 0 ∧ ∀ w, w < 4 → mv z w = (0, 0)
theorem Still.end {z : List Nat} (h : Still z) {p : Plc} (hp : p.2.2 < 4) : endp p z = p := by
  obtain ⟨x, y, w⟩ := p
  rw [endp_mv, h.2 w hp, tn_eq z w hp]
  have := h.1
  have hp : w < 4 := hp
  have e : (w + trn z) % 4 = w := by omega
  simp [e]
theorem still_four {a b : List Nat} {x na nb : Nat} (ha : Blk na a) (hb : Blk nb b) (hx : x = 108 ∨ x = 114) : Still (fourLegs a b x) := by
  have ta := ha.trn
  have tb := hb.trn
  have t1 : trn [x] = 1 ∨ trn [x] = 3 := by rcases hx with rfl | rfl <;> simp [trn]
  unfold fourLegs
  generalize eA : a ++ [x] = A
  generalize eB : b ++ [x] = B
  have tA : trn A % 4 = trn [x] := by rw [← eA, trn_app]; omega
  have tB : trn B % 4 = trn [x] := by rw [← eB, trn_app]; omega
  refine ⟨by rw [trn_app, trn_app, trn_app]; omega, fun w hw => ?_⟩
  rw [mv_app, mv_app, mv_app]
  have l1 := tn_lt (z := A) hw
  have e1 := tn_eq A w hw
  have l2 := tn_lt (z := B) l1
  have e2 := tn_eq B _ l1
  have l3 := tn_lt (z := A) l2
  have e3 := tn_eq A _ l2
  have f2 : tn B (tn A w) = (w + 2) % 4 := by omega
  have f3 : tn A (tn B (tn A w)) = (tn A w + 2) % 4 := by omega
  rw [f3, mv_half B _ l1, f2, mv_half A w hw]
  simp
  omega
theorem Still.turned {u v : List Nat} (h : Still (u ++ v)) : Still (v ++ u) := by
  have h1 := h.1
  rw [trn_app] at h1
  refine ⟨by rw [trn_app]; omega, fun w hw => ?_⟩
  have l := tn_lt (z := v) hw
  have q := h.2 _ l
  rw [mv_app] at q
  have e1 := tn_eq v w hw
  have e2 := tn_eq u _ l
  have e3 : tn u (tn v w) = w := by omega
  rw [e3] at q
  rw [mv_app]
  have q1 := congrArg Prod.fst q
  have q2 := congrArg Prod.snd q
  simp at q1 q2 ⊢
  omega
theorem Rnd.still {z : List Nat} (h : Rnd z) : Still z := by
  obtain ⟨a, b, x, na, nb, k, hn, ha, hb, hx, hk, rfl⟩ := h
  refine Still.turned ?_
  rw [List.take_append_drop]
  exact still_four ha hb hx
theorem Rnd.cl {z : List Nat} (h : Rnd z) : Cl z := by
  obtain ⟨h1, h2⟩ := h.wd
  exact ⟨h1.mono (by decide), by intro e; subst e; simp at h2, h.still.end (p := (0, 0, 0)) (by decide)⟩
theorem blk_s : ∀ n, Blk n (List.replicate n 115)
  | 0 => .nil
  | n + 1 => by rw [List.replicate_succ']; exact .s (blk_s n)
/-- two straights, joined -/
theorem long_end (n : Nat) {p : Plc} (hp : p.2.2 < 4) : endp p (List.replicate n 115 ++ [108, 108] ++ List.replicate n 115 ++ [108, 108]) = p := by
  have h := (still_four (blk_s n) .nil (.inl rfl : (108 : Nat) = 108 ∨ (108 : Nat) = 114)).end hp
  unfold fourLegs at h
  simp only [List.nil_append, List.append_assoc, List.cons_append] at h ⊢
  exact h
theorem t_forE {C : Type} {ρ ρ' : PEnv} {c : C} {Φ : Out → C → Prop} {bd : Bnd} {a : FS C} {it : PEnv → M C (List Vl)} {xs : List Vl} (h : it ρ = ret xs) (h2 : forL bd a xs ρ = ret (.nx ρ')) (k : Φ (.nx ρ') c) : Tot (sFor it bd a ρ) c Φ := by
  rw [sFor_ap, h, r_bnd, h2]
  exact ⟨_, _, rfl, k⟩
/-- numbers drawn -/
theorem p_rolls {c : Cup} {m n : Nat} {ρ : PEnv} {i : Nat} {F : FE Cup} (g : Good c) (hn : 0 < n ∧ n ≤ 1000000) (hF : ∀ x : Nat, F (ρ.set i (some (.int x))) = m__law_roll [.reg 0, .int n]) :
    Tot (compL (bName i) gYes F ρ ((List.range m).map fun k : Nat => Vl.int (k : Int))) c fun ys c' => Good c' ∧ ∃ ns : List Nat, ys = ns.map eN ∧ ns.length = m ∧ ∀ p ∈ ns, p < n := by
  refine (Tot.list (G := Good) (d := eN) (Q := fun k => k < n) (List.range m) c g fun x _ c g => ⟨_, rfl, ?_⟩).mono fun ys c2 ⟨g2, zs, e, l, hz⟩ => ⟨g2, zs, e, by rw [l, List.length_range], hz⟩
  rw [hF]
  refine (p__law_roll g (by omega) (by omega)).mono fun y c' ⟨g', q, e, q0, q1⟩ => ⟨g', ?_⟩
  obtain ⟨q, rfl⟩ := Int.eq_ofNat_of_zero_le q0
  exact ⟨q, e, by omega⟩
theorem range_add {n : Nat} (h : n ≤ 1000) : iRange1 [.int (1 + (n : Int))] = some ((List.range (1 + n)).map fun k : Nat => Vl.int (k : Int)) := by
  have := range1 (n := 1 + n) (by omega)
  rwa [show ((1 + n : Nat) : Int) = 1 + (n : Int) by omega] at this
theorem at_range {τ : Type} (f : Nat → Vl) {n h : Nat} (hh : h < n) : atI ((List.range n).map f) (h : Int) = some (f h) := by
  refine atI_map (f := f) (L2.atI_nat (j := h) ?_)
  rw [List.getElem?_range hh]
theorem at_0 {α : Type} (x : α) (r : List α) : atI (x :: r) 0 = some x := L2.atI_nat (j := 0) rfl
theorem at_1 {α : Type} (x y : α) (r : List α) : atI (x :: y :: r) 1 = some y := L2.atI_nat (j := 1) rfl
/-! draws and answers, as plain functions -/
theorem bnd_ret {C α : Type} (m : M C α) : (bnd m fun x => ret x) = m := by
  funext c
  unfold bnd
  cases m c <;> rfl
def n__law_roll (_ : Unit) (k : Int) : M Cup Int := viaM asI (m__law_roll [.reg 0, .int k])
theorem r__law_roll (u : Unit) (k : Int) : RefG (Em Vl.int) (m__law_roll [eR u, Vl.int k]) (n__law_roll u k) := via_r asI_r
theorem q__law_roll {c : Cup} {u : Unit} {n : Int} (g : Good c) (h0 : 0 < n) (h1 : n < 1073741824) : Tot (n__law_roll u n) c fun r c' => Good c' ∧ 0 ≤ r ∧ r < n :=
  via_tot ((p__law_roll g h0 h1).mono fun v c' ⟨g', r, e, h⟩ => ⟨r, by rw [e]; rfl, g', h⟩)
theorem q_roll {c : Cup} {u : Unit} {n : Nat} (g : Good c) (h0 : 0 < n) (h1 : n < 1073741824) : Tot (n__law_roll u (n : Int)) c fun r c' => Good c' ∧ ∃ k : Nat, r = (k : Int) ∧ k < n :=
  (q__law_roll g (by omega) (by omega)).mono fun r c' ⟨g', h, h2⟩ => ⟨g', by
    obtain ⟨k, rfl⟩ := Int.eq_ofNat_of_zero_le h
    exact ⟨k, rfl, by omega⟩⟩
def n__law_some {τ : Type} (xs : List τ) : M Cup τ := bnd (n__law_roll () (xs.length : Nat)) fun i => opt (atI xs i)
theorem r__law_some {τ : Type} (e : τ → Vl) (xs : List τ) : RefG (Em e) (m__law_some [eR (), eLs e xs]) (n__law_some xs) := by
  have h : m__law_some [eR (), eLs e xs] = bnd (m__law_roll [.reg 0, .int xs.length]) fun v => opt (ixP (eLs e xs) v) := by
    have hm : (m__law_some [eR (), eLs e xs]) = bnd (b__law_some (startE 2 [eR (), eLs e xs])) defOut := rfl
    rw [hm]
    simp [b__law_some, startE, bnd_ret]
  rw [h]
  exact B1 (r__law_roll () _) fun i => e_fin1 fun y hy => atI_ap y hy
theorem q__law_some {τ : Type} {c : Cup} {xs : List τ} (g : Good c) (h0 : xs ≠ []) (h1 : xs.length < 1073741824) : Tot (n__law_some xs) c fun x c' => Good c' ∧ x ∈ xs := by
  unfold n__law_some
  have hl : 0 < xs.length := List.length_pos_iff.mpr h0
  refine Tot.bind (q__law_roll g (by omega) (by omega)) fun i c' ⟨g', i0, i1⟩ => ?_
  obtain ⟨x, e, m⟩ := atI_int i0 (xs := xs) i1
  rw [e, o_some, tot_ret]
  exact ⟨g', m⟩
def n__law_someV {τ : Type} (xs : List τ) : M Cup τ := n__law_some xs
theorem r__law_someV {τ : Type} (e : τ → Vl) (xs : List τ) : RefG (Em e) (m__law_some [eR (), eVt e xs]) (n__law_someV xs) := by
  have h : m__law_some [eR (), eVt e xs] = bnd (m__law_roll [.reg 0, .int xs.length]) fun v => opt (ixP (eVt e xs) v) := by
    have hm : (m__law_some [eR (), eVt e xs]) = bnd (b__law_some (startE 2 [eR (), eVt e xs])) defOut := rfl
    rw [hm]
    simp [b__law_some, startE, bnd_ret]
  rw [h]
  show RefG (Em e) _ (bnd (n__law_roll () (xs.length : Nat)) fun i => opt (atI xs i))
  exact B1 (r__law_roll () _) fun i => e_fin1 fun y hy => atI_apT y hy
def n__law_same (a b : Vl) : M Unit Bool := viaM asB (m__law_same 8 [a, b])
theorem r__law_same (a b : Vl) : RefG (Em Vl.bl) (m__law_same 8 [eX a, eX b]) (n__law_same a b) := via_r asB_r
theorem q__law_same {v : Vl} (h : sok 8 v = true) : n__law_same v v = ret true := via_val (p__law_same 8 v h) rfl
noncomputable def n_need_word (z : List Nat) : M Unit Unit := extN (Wd 60 z) ()
theorem r_need_word (z : List Nat) : RefG (Em eU) (m_need_word [.str z]) (n_need_word z) := ext_r fun h => p_need_word h
theorem law_fin {b : FS Cup} {ρ : PEnv} {n : M Cup Bool} {c : Cup} (h : RefG (GR Vl.bl) (b ρ) n) (t : Tot n c fun b _ => b = true) : ∃ c', b ρ c = .ok (.rt (.bl true), c') := by
  obtain ⟨x, c', e, rfl⟩ := t
  have h := h c
  rw [e] at h
  obtain ⟨o, e2, g⟩ := h
  refine ⟨c', ?_⟩
  rw [e2]
  cases o with
  | nx ρ => have g := congrFun (show (ret Vl.non : M Unit Vl) = ret (.bl true) from g) (); injection g with g; injection g with g _; cases g
  | rt v => have g := congrFun (show (ret v : M Unit Vl) = ret (.bl true) from g) (); injection g with g; injection g with g _; rw [g]
  | bk ρ => have g := congrFun (show (bad : M Unit Vl) = ret (.bl true) from g) (); cases g
  | ct ρ => have g := congrFun (show (bad : M Unit Vl) = ret (.bl true) from g) (); cases g
theorem thenN_nx {C σ τ ω : Type} (k : σ → M C ω) (r : τ → M C ω) (s : σ) : thenN k r (.nx s) = k s := rfl
theorem thenN_rt {C σ τ ω : Type} (k : σ → M C ω) (r : τ → M C ω) (y : τ) : thenN k r (.rt y) = r y := rfl
/-! the register's start -/
theorem p__law_cup (ns : List Int) : ∃ c0 c1, b__law_cup [none, some (.int (cellOf ns))] () = .ok (.rt (.lst [.int c0, .int c1]), ()) ∧ Good (c0, c1) := by
  have h := cellOf_nn ns
  generalize cellOf ns = x at h
  have hp : powP (.int 10) (.int 18) = some (.int 1000000000000000000) := rfl
  by_cases hx : (1000000000000000000 : Int) ≤ x
  · refine ⟨_, _, by
      simp [b__law_cup, hp, hx, fdivP_int, mulP_r, modP_int]
      rfl, ?_⟩
    exact ⟨by show 0 ≤ _ / _; exact Int.ediv_nonneg h (by decide), by show 0 ≤ _ % _ + _; omega, by show _ % _ + _ < _; omega⟩
  · refine ⟨_, _, by
      simp [b__law_cup, hp, hx, fdivP_int, mulP_r, modP_int]
      rfl, ?_⟩
    exact ⟨Int.le_refl 0, by show 0 ≤ _ % _ + _; omega, by show _ % _ + _ < _; omega⟩
theorem kn_law {N : Nat} (h : Nat.blt 1 N = true) : Kn N [(1, eR ())] ((List.replicate N none).set 1 (some (.reg 0))) := Kn.set (l := []) ⟨List.length_replicate, fun _ _ h => nomatch h⟩ h
/-! what k97 calls, as plain functions -/
abbrev eP3 : Plc → Vl := eT3 Vl.int Vl.int eN
def asPl : Vl → Option Plc
  | .tup [.int a, .int b, .int w] => if 0 ≤ w then some (a, b, w.toNat) else none
  | _ => none
theorem asPl_r : ∀ v x, asPl v = some x → v = eP3 x := fun v x h => by
  unfold asPl at h
  split at h
  · split at h
    · injection h with h
      subst h
      rename_i a b w h
      show Vl.tup [.int a, .int b, .int w] = Vl.tup [.int a, .int b, .int (w.toNat : Int)]
      rw [Int.toNat_of_nonneg h]
    · cases h
  · cases h
theorem asPl_T (p : Plc) : asPl (eT p) = some p := by
  obtain ⟨a, b, w⟩ := p
  show (if (0 : Int) ≤ (w : Int) then some (a, b, (w : Int).toNat) else none) = _
  rw [if_pos (by omega), Int.toNat_natCast]
noncomputable def n_need_place (p : Plc) : M Unit Unit := extN (Near 100 p) ()
theorem r_need_place (p : Plc) : RefG (Em eU) (m_need_place [eP3 p]) (n_need_place p) := ext_r fun h => p_need_place h
def Nsp (n : Int) (p : Int × Int) : Prop := -n ≤ p.1 ∧ p.1 ≤ n ∧ -n ≤ p.2 ∧ p.2 ≤ n
theorem p_need_spot {a b : Int} (h : Nsp 100 (a, b)) : m_need_spot [.tup [.int a, .int b]] = ret .non := by
  obtain ⟨h1, h2, h3, h4⟩ := h
  simp only at h1 h2 h3 h4
  simp [m_need_spot, b_need_spot, startE, p_fits_spot, h1, h2, h3, h4]
noncomputable def n_need_spot (p : Int × Int) : M Unit Unit := extN (Nsp 100 p) ()
theorem r_need_spot (p : Int × Int) : RefG (Em eU) (m_need_spot [eT2 Vl.int Vl.int p]) (n_need_spot p) := ext_r fun h => p_need_spot h
noncomputable def n_places_in (p : Plc) (z : List Nat) : M Unit (List Plc) := extN (p.2.2 < 4 ∧ Wd 1000 z) (rows p z)
theorem r_places_in (p : Plc) (z : List Nat) : RefG (Em (eLs eP3)) (m_places_in [eP3 p, .str z]) (n_places_in p z) := ext_r fun h => p_places_in h.1 h.2
noncomputable def n__law_along (p : Plc) (z : List Nat) : M Unit (List Plc) := extN (p.2.2 < 4 ∧ Wd 1000 z) (rows p z)
theorem r__law_along (p : Plc) (z : List Nat) : RefG (Em (eLs eP3)) (m__law_along [eP3 p, .str z]) (n__law_along p z) := ext_r fun h => p__law_along h.1 h.2
noncomputable def n_end_in (p : Plc) (z : List Nat) : M Unit Plc := extN (p.2.2 < 4 ∧ Wd 1000 z) (endp p z)
theorem r_end_in (p : Plc) (z : List Nat) : RefG (Em eP3) (m_end_in [eP3 p, .str z]) (n_end_in p z) := ext_r fun h => p_end_in h.1 h.2
abbrev clB (z : List Nat) : Bool := !decide (z = []) && decide (endp (0, 0, 0) z = (0, 0, 0))
theorem p_closes_any {z : List Nat} (h : Wd 1000 z) : m_closes_in [.str z] = ret (.bl (clB z)) := by
  by_cases hz : z = []
  · subst hz
    simp [m_closes_in, b_closes_in, startE]
    rfl
  · have e : m_end_in [.tup [.int 0, .int 0, .int 0], .str z] = ret (eT (endp (0, 0, 0) z)) := p_end_in (p := (0, 0, 0)) (by decide) h
    have e2 : eqP (eT (endp (0, 0, 0) z)) (.tup [.int 0, .int 0, .int 0]) = some (.bl (decide (endp (0, 0, 0) z = (0, 0, 0)))) := eqP_T _ (0, 0, 0)
    simp [m_closes_in, b_closes_in, startE, hz, e, e2]
    simp [clB, hz]
noncomputable def n_closes_in (z : List Nat) : M Unit Bool := extN (Wd 1000 z) (clB z)
theorem r_closes_in (z : List Nat) : RefG (Em Vl.bl) (m_closes_in [.str z]) (n_closes_in z) := ext_r fun h => p_closes_any h
theorem p_is_round {z : List Nat} (h : Wd 60 z) : m_is_round [.str z] = ret (.bl (clB z)) := by
  simp [m_is_round, b_is_round, startE, p_fits_word h, p_closes_any (h.mono (by decide : 60 ≤ 1000))]
noncomputable def n_is_round (z : List Nat) : M Unit Bool := extN (Wd 60 z) (clB z)
theorem r_is_round (z : List Nat) : RefG (Em Vl.bl) (m_is_round [.str z]) (n_is_round z) := ext_r fun h => p_is_round h
def n__law_round (_ : Unit) : M Cup (List Nat) := viaM asS (m__law_round [.reg 0])
theorem r__law_round (u : Unit) : RefG (Em Vl.str) (m__law_round [eR u]) (n__law_round u) := via_r asS_r
theorem q__law_round {c : Cup} {u : Unit} (g : Good c) : Tot (n__law_round u) c fun z c' => Good c' ∧ Rnd z := via_tot ((p__law_round g).mono fun v c' ⟨g', z, e, h⟩ => ⟨z, by rw [e]; rfl, g', h⟩)
def n__law_word (_ : Unit) (n : Nat) : M Cup (List Nat) := viaM asS (m__law_word [.reg 0, eN n])
theorem r__law_word (u : Unit) (n : Nat) : RefG (Em Vl.str) (m__law_word [eR u, eN n]) (n__law_word u n) := via_r asS_r
theorem q__law_word {c : Cup} {u : Unit} {n : Nat} (g : Good c) (h : n ≤ 1000) : Tot (n__law_word u n) c fun z c' => Good c' ∧ Wd n z := via_tot ((p__law_word g h).mono fun v c' ⟨g', z, e, h⟩ => ⟨z, by rw [e]; rfl, g', h⟩)
def n__law_place (_ : Unit) : M Cup Plc := viaM asPl (m__law_place [.reg 0])
theorem r__law_place (u : Unit) : RefG (Em eP3) (m__law_place [eR u]) (n__law_place u) := via_r asPl_r
theorem q__law_place {c : Cup} {u : Unit} (g : Good c) : Tot (n__law_place u) c fun p c' => Good c' ∧ Near 10 p := via_tot ((p__law_place g).mono fun v c' ⟨g', p, e, h⟩ => ⟨p, by rw [e]; exact asPl_T p, g', h⟩)
noncomputable def n_is_simple (a0 : (List Nat)) : M Unit Bool := bnd (lif (n_need_word a0)) fun _ => bnd (bnd (bnd (lif (n_places_in ((0 : Int), (0 : Int), 0) a0)) fun x1 => ret x1) fun x4 => ret (x4.map (fun v2 : (Int × Int × Nat) => (v2.1, v2.2.1)))) fun x5 => bnd (bnd (lif (n_closes_in a0)) fun k7 => if k7 = true then ret (cutL x5 none (some (-(1 : Int)))) else ret x5) fun x8 => bnd (opt (lenSO x8)) fun x10 => ret (decide (x10 = x8.length))
theorem r_is_simple (a0 : (List Nat)) : RefG (Em Vl.bl) (m_is_simple [Vl.str a0]) (n_is_simple a0) := by
  unfold n_is_simple
  exact ref_def fun ρ k0 => (u_drop1 (e := eU) (e_callP (s_cons0 (x := Vl.str a0) (k0.var rfl) (s_nil (RefG.lif (r_need_word _))))) fun _ => (v_set1 (e := (eLs (eT2 Vl.int Vl.int))) k0 (e_lca (N := 3) (lw := [(0, Vl.str a0)]) (ex := (eT3 Vl.int Vl.int eN)) (kl := fun v2 : (Int × Int × Nat) => (2, (eT3 Vl.int Vl.int eN) v2) :: [(0, Vl.str a0)]) (e := (eT2 Vl.int Vl.int)) (h := fun v2 : (Int × Int × Nat) => (v2.1, v2.2.1)) k0 (i_any1 (e' := (eLs (eT3 Vl.int Vl.int eN))) (e_callP (s_cons0 (x := (eT3 Vl.int Vl.int eN) ((0 : Int), (0 : Int), 0)) (x_tup (a_cons (x := eN 0) rfl (a_cons (x := eN 0) rfl (a_cons (x := eN 0) rfl a_nil)))) (s_cons0 (x := Vl.str a0) (k0.var rfl) (s_nil (RefG.lif (r_places_in _ _)))))) fun x1 => e_fin0l rfl) ⟨⟨rfl, rfl⟩, trivial⟩ (fun _ => (k_name rfl)) (fun v2 _ k3 => (x_sl (k3.var rfl) o_nil (o_val rfl) rfl))) rfl fun x5 _ k6 => (v_set1 (e := (eLs (eT2 Vl.int Vl.int))) k6 (e_if1 (g_B (e_callP (s_cons0 (x := Vl.str a0) (k6.var rfl) (s_nil (RefG.lif (r_closes_in _)))))) (RefG.of (e := (eLs (eT2 Vl.int Vl.int))) (x_sl (k6.var rfl) o_nil (o_val (x_un rfl rfl)) slL_r)) (RefG.of (e := (eLs (eT2 Vl.int Vl.int))) (k6.var rfl))) rfl fun x8 _ k9 => (u_last (u_ret (e_op (B1 (e_un (B0 (a := (eLs (eT2 Vl.int Vl.int)) x8) (k9.var rfl) (e_fin1 (lenSO_r (fl_T2 il_I il_I))))) fun x10 => (B0 (a := eN x8.length) (x_blt (a_cons (x := (eLs (eT2 Vl.int Vl.int)) x8) (k9.var rfl) a_nil) (len_map _ _)) (e_fin0 (eqP_N x10 x8.length))))))))))
noncomputable def n_simple_beginning (a0 : (List Nat)) : M Unit (List Nat) := bnd (lif (n_need_word a0)) fun _ => bnd (bnd (bnd (lif (n_places_in ((0 : Int), (0 : Int), 0) a0)) fun x1 => ret x1) fun x4 => ret (x4.map (fun v2 : (Int × Int × Nat) => (v2.1, v2.2.1)))) fun x5 => bnd (whileN (fun s8 : Nat => bnd (ret (decide (s8 < x5.length))) fun k16 => if k16 = true then bnd (opt (x5[s8]?)) fun x15 => ret (!memD x15 (x5.take s8)) else ret false) (fun (s8 : Nat) => (bnd (ret (s8 + 1)) fun x13 => ret x13 : M Unit Nat)) 1000 1) fun (s18 : Nat) => opt (szO a0 (cutL a0 none (some (((s18 : Nat) : Int) - (1 : Int)))))
theorem r_simple_beginning (a0 : (List Nat)) : RefG (Em Vl.str) (m_simple_beginning [Vl.str a0]) (n_simple_beginning a0) := by
  unfold n_simple_beginning
  exact ref_def fun ρ k0 => (u_drop1 (e := eU) (e_callP (s_cons0 (x := Vl.str a0) (k0.var rfl) (s_nil (RefG.lif (r_need_word _))))) fun _ => (v_set1 (e := (eLs (eT2 Vl.int Vl.int))) k0 (e_lca (N := 4) (lw := [(0, Vl.str a0)]) (ex := (eT3 Vl.int Vl.int eN)) (kl := fun v2 : (Int × Int × Nat) => (3, (eT3 Vl.int Vl.int eN) v2) :: [(0, Vl.str a0)]) (e := (eT2 Vl.int Vl.int)) (h := fun v2 : (Int × Int × Nat) => (v2.1, v2.2.1)) k0 (i_any1 (e' := (eLs (eT3 Vl.int Vl.int eN))) (e_callP (s_cons0 (x := (eT3 Vl.int Vl.int eN) ((0 : Int), (0 : Int), 0)) (x_tup (a_cons (x := eN 0) rfl (a_cons (x := eN 0) rfl (a_cons (x := eN 0) rfl a_nil)))) (s_cons0 (x := Vl.str a0) (k0.var rfl) (s_nil (RefG.lif (r_places_in _ _)))))) fun x1 => e_fin0l rfl) ⟨⟨rfl, rfl⟩, trivial⟩ (fun _ => (k_name rfl)) (fun v2 _ k3 => (x_sl (k3.var rfl) o_nil (o_val rfl) rfl))) rfl fun x5 _ k6 => (v_set0 (x := eN 1) k6 rfl rfl fun _ k7 => (u_join (J := (fun (s8 : Nat) (ρ : PEnv) => Kn 4 [(0, Vl.str a0), (1, (eLs (eT2 Vl.int Vl.int)) x5), (2, eN s8)] ρ)) (l_while (J := (fun (s8 : Nat) (ρ : PEnv) => Kn 4 [(0, Vl.str a0), (1, (eLs (eT2 Vl.int Vl.int)) x5), (2, eN s8)] ρ)) (tn := (fun s8 : Nat => bnd (ret (decide (s8 < x5.length))) fun k16 => if k16 = true then bnd (opt (x5[s8]?)) fun x15 => ret (!memD x15 (x5.take s8)) else ret false)) (step := (fun (s8 : Nat) => (bnd (ret (s8 + 1)) fun x13 => ret x13 : M Unit Nat))) (s0 := 1) 1000 (Kn.sub k7 ⟨rfl, rfl, rfl, trivial⟩) (fun s8 _ k9 => (g_and (RefG.pure (t_B (x_op (k9.var rfl) (x_blt (a_cons (x := (eLs (eT2 Vl.int Vl.int)) x5) (k9.var rfl) a_nil) (len_map _ _)) (ltP_N s8 x5.length))) rfl) (g_B (e_op (B1 (e_op (B0 (a := (eLs (eT2 Vl.int Vl.int)) x5) (k9.var rfl) (B0 (a := eN s8) (k9.var rfl) (e_fin1 ix_n)))) fun x15 => (B0 (a := (eLs (eT2 Vl.int Vl.int)) (x5.take s8)) (x_sl (k9.var rfl) o_nil (o_val (k9.var rfl)) slL_take) (e_fin0 (nin_L (dat_T2 dat_I dat_I) (sh_T2 sh_I sh_I) (sh_T2 sh_I sh_I) x15 (x5.take s8))))))))) fun s8 _ k9 => (u_last (v_set1 (e := eN) k9 (RefG.of (x_op (k9.var rfl) rfl (addP_N s8 1))) rfl fun x13 _ k14 => (p_end (Kn.sub k14 ⟨rfl, rfl, rfl, trivial⟩))))) fun s18 _ k17 => (u_last (u_ret (e_sl (B0 (a := Vl.str a0) (k17.var rfl) (B0 o_nil (B0 (o_val (x_op (k17.var rfl) rfl (subP_int ((s18 : Nat) : Int) (1 : Int)))) (e_fin1 slS_r)))))))))))
noncomputable def n_first_loop (a0 : (List Nat)) : M Unit (Option (Nat × Nat)) := bnd (lif (n_need_word a0)) fun _ => bnd (bnd (bnd (lif (n_places_in ((0 : Int), (0 : Int), 0) a0)) fun x1 => ret x1) fun x4 => ret (x4.map (fun v2 : (Int × Int × Nat) => (v2.1, v2.2.1)))) fun x6 => bnd (bnd (ret (enN 0 x6)) fun x16 => loopN (fun (s7 : (List ((Int × Int) × Nat))) (v9 : (Nat × (Int × Int))) => (if (dhas s7 v9.2) = true then bnd (bnd (bnd (opt (dget s7 v9.2)) fun x11 => ret (x11, v9.1)) fun x12 => ret (some x12)) fun x13 => ret (.rt x13) else bnd (opt (dputO s7 v9.2 v9.1)) fun x14 => ret (.nx x14) : M Unit (Fl (List ((Int × Int) × Nat)) (Option (Nat × Nat))))) x16 ([] : (List ((Int × Int) × Nat)))) (thenN (fun (s18 : (List ((Int × Int) × Nat))) => ret none) ret)
theorem r_first_loop (a0 : (List Nat)) : RefG (Em (eO (eT2 eN eN))) (m_first_loop [Vl.str a0]) (n_first_loop a0) := by
  unfold n_first_loop
  exact ref_def fun ρ k0 => (u_drop1 (e := eU) (e_callP (s_cons0 (x := Vl.str a0) (k0.var rfl) (s_nil (RefG.lif (r_need_word _))))) fun _ => (v_parF (s_cons1 (e := (eLs (eT2 Vl.int Vl.int))) (e_own (e_lca (N := 6) (lw := [(0, Vl.str a0)]) (ex := (eT3 Vl.int Vl.int eN)) (kl := fun v2 : (Int × Int × Nat) => (5, (eT3 Vl.int Vl.int eN) v2) :: [(0, Vl.str a0)]) (e := (eT2 Vl.int Vl.int)) (h := fun v2 : (Int × Int × Nat) => (v2.1, v2.2.1)) k0 (i_any1 (e' := (eLs (eT3 Vl.int Vl.int eN))) (e_callP (s_cons0 (x := (eT3 Vl.int Vl.int eN) ((0 : Int), (0 : Int), 0)) (x_tup (a_cons (x := eN 0) rfl (a_cons (x := eN 0) rfl (a_cons (x := eN 0) rfl a_nil)))) (s_cons0 (x := Vl.str a0) (k0.var rfl) (s_nil (RefG.lif (r_places_in _ _)))))) fun x1 => e_fin0l rfl) ⟨⟨rfl, rfl⟩, trivial⟩ (fun _ => (k_name rfl)) (fun v2 _ k3 => (x_sl (k3.var rfl) o_nil (o_val rfl) rfl))) (ow_L (im_T2 im_I im_I))) fun x6 => (s_cons0 (x_own rfl rfl) (s_nil (w_run k0 (w_cons (x := (eLs (eT2 Vl.int Vl.int)) x6) (.inl rfl) rfl (w_cons (x := (eDt (ktT2 ktI ktI) eN) ([] : (List ((Int × Int) × Nat)))) (.inr (ow_Dt im_N ([] : (List ((Int × Int) × Nat))))) rfl (w_nil fun _ k5 => (u_loop (J := (fun (s7 : (List ((Int × Int) × Nat))) (ρ : PEnv) => Kn 6 [(0, Vl.str a0), (1, (eLs (eT2 Vl.int Vl.int)) x6), (2, (eDt (ktT2 ktI ktI) eN) s7)] ρ)) (l_forF (J := (fun (s7 : (List ((Int × Int) × Nat))) (ρ : PEnv) => Kn 6 [(0, Vl.str a0), (1, (eLs (eT2 Vl.int Vl.int)) x6), (2, (eDt (ktT2 ktI ktI) eN) s7)] ρ)) (e := (eO (eT2 eN eN))) (ex := (eT2 eN (eT2 Vl.int Vl.int))) (s0 := ([] : (List ((Int × Int) × Nat)))) (step := (fun (s7 : (List ((Int × Int) × Nat))) (v9 : (Nat × (Int × Int))) => (if (dhas s7 v9.2) = true then bnd (bnd (bnd (opt (dget s7 v9.2)) fun x11 => ret (x11, v9.1)) fun x12 => ret (some x12)) fun x13 => ret (.rt x13) else bnd (opt (dputO s7 v9.2 v9.1)) fun x14 => ret (.nx x14) : M Unit (Fl (List ((Int × Int) × Nat)) (Option (Nat × Nat)))))) (RefG.ofl (e := (eT2 eN (eT2 Vl.int Vl.int))) (i_blt (a_cons (x := (eLs (eT2 Vl.int Vl.int)) x6) (k5.var rfl) a_nil) (en_L _ _))) (Kn.sub k5 ⟨rfl, rfl, rfl, trivial⟩) fun s7 v9 _ k8 => l_bd (k_tup (k_cons (k_name rfl) (k_cons (k_name rfl) k_nil))) k8 fun _ k10 => (u_if0 (t_B (x_op (k10.var rfl) (k10.var rfl) (inD_r (dl_T (e := eN) (kd_T2 (n := 4) kd_I kd_I (by decide) (by decide)) (is_T2 Vl.int Vl.int) (by decide)) s7 v9.2))) (fun _ => (f_ret1 (RefG.co (g := fun x12 => (some x12)) (e_tup (G := Em (eT2 eN eN)) (s_cons1 (e_op (B0 (a := (eDt (ktT2 ktI ktI) eN) s7) (k10.var rfl) (B0 (a := (eT2 Vl.int Vl.int) v9.2) (k10.var rfl) (e_fin1 (dget_r (dl_T (e := eN) (kd_T2 (n := 4) kd_I kd_I (by decide) (by decide)) (is_T2 Vl.int Vl.int) (by decide)) s7 v9.2))))) fun x11 => (s_cons0 (x := eN v9.1) (k10.var rfl) (s_nil (RefG.ret rfl))))) fun _ => rfl))) (fun _ => (u_nil (u_last (v_dput (kk := v9.2) (E := (eDt (ktT2 ktI ktI) eN)) (e := eN) (vk := (eT2 Vl.int Vl.int)) (d := s7) (y := v9.1) k10 rfl (dl_T (e := eN) (kd_T2 (n := 4) kd_I kd_I (by decide) (by decide)) (is_T2 Vl.int Vl.int) (by decide)) (k10.var rfl) (k10.var rfl) rfl fun x14 _ k15 => (f_end (Kn.sub k15 ⟨rfl, rfl, rfl, trivial⟩)))))))) fun s18 _ k17 => (u_last (u_ret (RefG.of (e := (eO (eT2 eN eN))) rfl)))))))))))))
noncomputable def n_common_spots (a0 : (Int × Int × Nat)) (a1 : (List Nat)) (a2 : (Int × Int × Nat)) (a3 : (List Nat)) : M Unit (List (Int × Int)) := bnd (lif (n_need_place a0)) fun _ => bnd (lif (n_need_word a1)) fun _ => bnd (lif (n_need_place a2)) fun _ => bnd (lif (n_need_word a3)) fun _ => bnd (bnd (bnd (lif (n_places_in a2 a3)) fun x1 => ret x1) fun x4 => dcN (fun _ => ret true) (fun v2 : (Int × Int × Nat) => ret (v2.1, v2.2.1)) (fun v2 : (Int × Int × Nat) => ret true) [] x4) fun x5 => bnd (bnd (bnd (bnd (lif (n_places_in a0 a1)) fun x7 => ret x7) fun x10 => ret ((x10.filter (fun v8 : (Int × Int × Nat) => dhas x5 (v8.1, v8.2.1))).map (fun v8 : (Int × Int × Nat) => (v8.1, v8.2.1)))) fun x11 => opt (sortSO (ltT2 ltI ltI) x11)) fun x12 => ret x12
theorem r_common_spots (a0 : (Int × Int × Nat)) (a1 : (List Nat)) (a2 : (Int × Int × Nat)) (a3 : (List Nat)) : RefG (Em (eVt (eT2 Vl.int Vl.int))) (m_common_spots [(eT3 Vl.int Vl.int eN) a0, Vl.str a1, (eT3 Vl.int Vl.int eN) a2, Vl.str a3]) (n_common_spots a0 a1 a2 a3) := by
  unfold n_common_spots
  exact ref_def fun ρ k0 => (u_drop1 (e := eU) (e_callP (s_cons0 (x := (eT3 Vl.int Vl.int eN) a0) (k0.var rfl) (s_nil (RefG.lif (r_need_place _))))) fun _ => (u_drop1 (e := eU) (e_callP (s_cons0 (x := Vl.str a1) (k0.var rfl) (s_nil (RefG.lif (r_need_word _))))) fun _ => (u_drop1 (e := eU) (e_callP (s_cons0 (x := (eT3 Vl.int Vl.int eN) a2) (k0.var rfl) (s_nil (RefG.lif (r_need_place _))))) fun _ => (u_drop1 (e := eU) (e_callP (s_cons0 (x := Vl.str a3) (k0.var rfl) (s_nil (RefG.lif (r_need_word _))))) fun _ => (v_set1 (e := (eDt (ktT2 ktI ktI) Vl.bl)) k0 (e_dc (N := 6) (lw := [(0, (eT3 Vl.int Vl.int eN) a0), (1, Vl.str a1), (2, (eT3 Vl.int Vl.int eN) a2), (3, Vl.str a3)]) (ex := (eT3 Vl.int Vl.int eN)) (kl := fun v2 : (Int × Int × Nat) => (5, (eT3 Vl.int Vl.int eN) v2) :: [(0, (eT3 Vl.int Vl.int eN) a0), (1, Vl.str a1), (2, (eT3 Vl.int Vl.int eN) a2), (3, Vl.str a3)]) (dl_T (e := Vl.bl) (kd_T2 (n := 4) kd_I kd_I (by decide) (by decide)) (is_T2 Vl.int Vl.int) (by decide)) (tn := fun _ => ret true) (kn := fun v2 : (Int × Int × Nat) => ret (v2.1, v2.2.1)) (fn := fun v2 : (Int × Int × Nat) => ret true) k0 (i_any1 (e' := (eLs (eT3 Vl.int Vl.int eN))) (e_callP (s_cons0 (x := (eT3 Vl.int Vl.int eN) a2) (k0.var rfl) (s_cons0 (x := Vl.str a3) (k0.var rfl) (s_nil (RefG.lif (r_places_in _ _)))))) fun x1 => e_fin0l rfl) ⟨⟨rfl, rfl⟩, ⟨rfl, rfl⟩, ⟨rfl, rfl⟩, ⟨rfl, rfl⟩, trivial⟩ (fun _ => (k_name rfl)) (fun _ _ _ => yes_r) (fun v2 _ k3 => (RefG.of (e := (eT2 Vl.int Vl.int)) (x_sl (k3.var rfl) o_nil (o_val rfl) rfl))) (fun v2 _ k3 => (RefG.of (e := Vl.bl) rfl))) rfl fun x5 _ k6 => (u_last (u_ret (e_blt (s_cons1 (e_un (B1 (e_lc (N := 6) (lw := [(0, (eT3 Vl.int Vl.int eN) a0), (1, Vl.str a1), (2, (eT3 Vl.int Vl.int eN) a2), (3, Vl.str a3), (4, (eDt (ktT2 ktI ktI) Vl.bl) x5)]) (ex := (eT3 Vl.int Vl.int eN)) (kl := fun v8 : (Int × Int × Nat) => (5, (eT3 Vl.int Vl.int eN) v8) :: [(0, (eT3 Vl.int Vl.int eN) a0), (1, Vl.str a1), (2, (eT3 Vl.int Vl.int eN) a2), (3, Vl.str a3), (4, (eDt (ktT2 ktI ktI) Vl.bl) x5)]) (e := (eT2 Vl.int Vl.int)) (p := fun v8 : (Int × Int × Nat) => dhas x5 (v8.1, v8.2.1)) (h := fun v8 : (Int × Int × Nat) => (v8.1, v8.2.1)) k6 (i_any1 (e' := (eLs (eT3 Vl.int Vl.int eN))) (e_callP (s_cons0 (x := (eT3 Vl.int Vl.int eN) a0) (k6.var rfl) (s_cons0 (x := Vl.str a1) (k6.var rfl) (s_nil (RefG.lif (r_places_in _ _)))))) fun x7 => e_fin0l rfl) ⟨⟨rfl, rfl⟩, ⟨rfl, rfl⟩, ⟨rfl, rfl⟩, ⟨rfl, rfl⟩, ⟨rfl, rfl⟩, trivial⟩ (fun _ => (k_name rfl)) (fun v8 _ k9 => (t_B (x_op (x_sl (k9.var rfl) o_nil (o_val rfl) rfl) (k9.var rfl) (inD_r (dl_T (e := Vl.bl) (kd_T2 (n := 4) kd_I kd_I (by decide) (by decide)) (is_T2 Vl.int Vl.int) (by decide)) x5 (v8.1, v8.2.1))))) (fun v8 _ k9 => (x_sl (k9.var rfl) o_nil (o_val rfl) rfl))) fun x11 => (e_fin1 (sortSO_r (fl_T2 il_I il_I) (lt_TT2 dat_I dat_I lt_I lt_I ir_I))))) fun x12 => (s_nil (e_fin0 rfl)))))))))))
noncomputable def n_nearest_place (a0 : (Int × Int × Nat)) (a1 : (List Nat)) (a2 : (Int × Int)) : M Unit Nat := bnd (lif (n_need_place a0)) fun _ => bnd (lif (n_need_word a1)) fun _ => bnd (lif (n_need_spot a2)) fun _ => bnd (bnd (bnd (lif (n_places_in a0 a1)) fun x1 => ret x1) fun x4 => ret (x4.map (fun v2 : (Int × Int × Nat) => ((v2.1 - a2.1).natAbs) + ((v2.2.1 - a2.2).natAbs)))) fun x5 => bnd (opt (minNO x5)) fun x7 => opt (idxL eN x5 x7)
theorem r_nearest_place (a0 : (Int × Int × Nat)) (a1 : (List Nat)) (a2 : (Int × Int)) : RefG (Em eN) (m_nearest_place [(eT3 Vl.int Vl.int eN) a0, Vl.str a1, (eT2 Vl.int Vl.int) a2]) (n_nearest_place a0 a1 a2) := by
  unfold n_nearest_place
  exact ref_def fun ρ k0 => (u_drop1 (e := eU) (e_callP (s_cons0 (x := (eT3 Vl.int Vl.int eN) a0) (k0.var rfl) (s_nil (RefG.lif (r_need_place _))))) fun _ => (u_drop1 (e := eU) (e_callP (s_cons0 (x := Vl.str a1) (k0.var rfl) (s_nil (RefG.lif (r_need_word _))))) fun _ => (u_drop1 (e := eU) (e_callP (s_cons0 (x := (eT2 Vl.int Vl.int) a2) (k0.var rfl) (s_nil (RefG.lif (r_need_spot _))))) fun _ => (v_set1 (e := (eLs eN)) k0 (e_lca (N := 5) (lw := [(0, (eT3 Vl.int Vl.int eN) a0), (1, Vl.str a1), (2, (eT2 Vl.int Vl.int) a2)]) (ex := (eT3 Vl.int Vl.int eN)) (kl := fun v2 : (Int × Int × Nat) => (4, (eT3 Vl.int Vl.int eN) v2) :: [(0, (eT3 Vl.int Vl.int eN) a0), (1, Vl.str a1), (2, (eT2 Vl.int Vl.int) a2)]) (e := eN) (h := fun v2 : (Int × Int × Nat) => ((v2.1 - a2.1).natAbs) + ((v2.2.1 - a2.2).natAbs)) k0 (i_any1 (e' := (eLs (eT3 Vl.int Vl.int eN))) (e_callP (s_cons0 (x := (eT3 Vl.int Vl.int eN) a0) (k0.var rfl) (s_cons0 (x := Vl.str a1) (k0.var rfl) (s_nil (RefG.lif (r_places_in _ _)))))) fun x1 => e_fin0l rfl) ⟨⟨rfl, rfl⟩, ⟨rfl, rfl⟩, ⟨rfl, rfl⟩, trivial⟩ (fun _ => (k_name rfl)) (fun v2 _ k3 => (x_op (x_blt (a_cons (x := Vl.int (v2.1 - a2.1)) (x_op (x_op (k3.var rfl) rfl (ix_0 _ _)) (x_op (k3.var rfl) rfl (ix_0 _ _)) (subP_int v2.1 a2.1)) a_nil) (absP_I _)) (x_blt (a_cons (x := Vl.int (v2.2.1 - a2.2)) (x_op (x_op (k3.var rfl) rfl (ix_1 _ _ _)) (x_op (k3.var rfl) rfl (ix_1 _ _ _)) (subP_int v2.2.1 a2.2)) a_nil) (absP_I _)) (addP_N ((v2.1 - a2.1).natAbs) ((v2.2.1 - a2.2).natAbs))))) rfl fun x5 _ k6 => (u_last (u_ret (e_met (B0 (a := (eLs eN) x5) (k6.var rfl) (Bo rfl (s_cons1 (e_blt (s_cons0 (x := (eLs eN) x5) (k6.var rfl) (s_nil (e_fin1 minNO_r)))) fun x7 => (s_nil (e_fin1 (idxL_r dat_N)))))))))))))
noncomputable def n_within_bounds (a0 : (Int × Int × Nat)) (a1 : (List Nat)) : M Unit Bool := bnd (lif (n_need_place a0)) fun _ => bnd (lif (n_need_word a1)) fun _ => bnd (bnd (bnd (lif (n_places_in a0 a1)) fun x1 => ret x1) fun x4 => ret (x4.map (fun v2 : (Int × Int × Nat) => (decide (v2.1.natAbs ≤ 100)) && (decide (v2.2.1.natAbs ≤ 100))))) fun x5 => ret (x5.all id)
theorem r_within_bounds (a0 : (Int × Int × Nat)) (a1 : (List Nat)) : RefG (Em Vl.bl) (m_within_bounds [(eT3 Vl.int Vl.int eN) a0, Vl.str a1]) (n_within_bounds a0 a1) := by
  unfold n_within_bounds
  exact ref_def fun ρ k0 => (u_drop1 (e := eU) (e_callP (s_cons0 (x := (eT3 Vl.int Vl.int eN) a0) (k0.var rfl) (s_nil (RefG.lif (r_need_place _))))) fun _ => (u_drop1 (e := eU) (e_callP (s_cons0 (x := Vl.str a1) (k0.var rfl) (s_nil (RefG.lif (r_need_word _))))) fun _ => (u_last (u_ret (e_blt (s_cons1 (e_lca (N := 3) (lw := [(0, (eT3 Vl.int Vl.int eN) a0), (1, Vl.str a1)]) (ex := (eT3 Vl.int Vl.int eN)) (kl := fun v2 : (Int × Int × Nat) => (2, (eT3 Vl.int Vl.int eN) v2) :: [(0, (eT3 Vl.int Vl.int eN) a0), (1, Vl.str a1)]) (e := Vl.bl) (h := fun v2 : (Int × Int × Nat) => (decide (v2.1.natAbs ≤ 100)) && (decide (v2.2.1.natAbs ≤ 100))) k0 (i_any1 (e' := (eLs (eT3 Vl.int Vl.int eN))) (e_callP (s_cons0 (x := (eT3 Vl.int Vl.int eN) a0) (k0.var rfl) (s_cons0 (x := Vl.str a1) (k0.var rfl) (s_nil (RefG.lif (r_places_in _ _)))))) fun x1 => e_fin0l rfl) ⟨⟨rfl, rfl⟩, ⟨rfl, rfl⟩, trivial⟩ (fun _ => (k_name rfl)) (fun v2 _ k3 => (x_and (x_op (x_blt (a_cons (x := Vl.int v2.1) (x_op (k3.var rfl) rfl (ix_0 _ _)) a_nil) (absP_I _)) rfl (leP_N v2.1.natAbs 100)) (x_op (x_blt (a_cons (x := Vl.int v2.2.1) (x_op (k3.var rfl) rfl (ix_1 _ _ _)) a_nil) (absP_I _)) rfl (leP_N v2.2.1.natAbs 100))))) fun x5 => (s_nil (e_fin0 (all_B _)))))))))
noncomputable def n_drift_of (a0 : (List Nat)) : M Unit Nat := bnd (lif (n_need_word a0)) fun _ => bnd (lif (n_end_in ((0 : Int), (0 : Int), 0) a0)) fun x2 => ret (x2.1.natAbs + x2.2.1.natAbs)
theorem r_drift_of (a0 : (List Nat)) : RefG (Em eN) (m_drift_of [Vl.str a0]) (n_drift_of a0) := by
  unfold n_drift_of
  exact ref_def fun ρ k0 => (u_drop1 (e := eU) (e_callP (s_cons0 (x := Vl.str a0) (k0.var rfl) (s_nil (RefG.lif (r_need_word _))))) fun _ => (v_bind1 (e := (eT3 Vl.int Vl.int eN)) k0 (e_callP (s_cons0 (x := (eT3 Vl.int Vl.int eN) ((0 : Int), (0 : Int), 0)) (x_tup (a_cons (x := eN 0) rfl (a_cons (x := eN 0) rfl (a_cons (x := eN 0) rfl a_nil)))) (s_cons0 (x := Vl.str a0) (k0.var rfl) (s_nil (RefG.lif (r_end_in _ _)))))) (fun _ => (k_tup (k_cons (k_name rfl) (k_cons (k_name rfl) (k_cons (k_name rfl) k_nil))))) fun x2 _ k1 => (u_last (u_ret (RefG.of (e := eN) (x_op (x_blt (a_cons (x := Vl.int x2.1) (k1.var rfl) a_nil) (absP_I _)) (x_blt (a_cons (x := Vl.int x2.2.1) (k1.var rfl) a_nil) (absP_I _)) (addP_N x2.1.natAbs x2.2.1.natAbs)))))))
noncomputable def n_law : M Cup Bool := bnd (bnd (opt (rngO 8)) fun x143 => loopN (fun (s1 : Unit) (v3 : Nat) => (bnd (bnd (bnd (n__law_word () 8) fun x6 => bnd (n__law_word () 30) fun x7 => bnd (n__law_round ()) fun x8 => bnd (bnd (n__law_round ()) fun x5 => opt (catS x5 [115])) fun x9 => ret [x6, x7, x8, x9]) fun x10 => n__law_some x10) fun x11 => bnd (bnd (bnd (lif (n__law_along ((0 : Int), (0 : Int), 0) x11)) fun x13 => ret x13) fun x16 => ret (x16.map (fun v14 : (Int × Int × Nat) => (v14.1, v14.2.1)))) fun x17 => bnd (bnd (opt (rngO x17.length)) fun x46 => foldN (fun (s20 : (Option (Nat × Nat))) (v22 : Nat) => (bnd (bnd (opt (rngO v22)) fun x39 => compN (fun v35 : Nat => bnd (opt (x17[v35]?)) fun x37 => bnd (opt (x17[v22]?)) fun x38 => ret (decide (x37 = x38))) (fun v35 : Nat => ret v35) x39) fun x40 => bnd (if (s20.isNone && (!decide (x40 = ([] : (List Nat))))) = true then bnd (bnd (opt (x40[0]?)) fun x42 => ret (x42, v22)) fun x43 => ret (some x43) else ret s20) fun x44 => ret x44 : M Cup (Option (Nat × Nat)))) x46 none) fun (s48 : (Option (Nat × Nat))) => bnd (if s48.isNone = true then ret x11 else bnd (bnd (bnd (opt s48) fun x49 => ret x49.2) fun x50 => ret (((x50 : Nat) : Int) - (1 : Int))) fun x51 => opt (szO x11 (cutL x11 none (some x51)))) fun x52 => bnd (bnd (ret s48.isNone) fun k58 => if k58 = true then ret true else bnd (lif (n_is_round x11)) fun k57 => if k57 = true then bnd (opt s48) fun x55 => bnd (bnd (opt (szO x11 x11.length)) fun x54 => ret (0, x54)) fun x56 => ret (decide (x55 = x56)) else ret false) fun x59 => bnd (bnd (bnd (bnd (bnd (lif (n_first_loop x11)) fun x61 => bnd (lif (n_simple_beginning x11)) fun x62 => bnd (lif (n_is_simple x11)) fun x63 => ret (x61, x62, x63)) fun x64 => ret ((eT3 (eO (eT2 eN eN)) Vl.str Vl.bl) x64)) fun x65 => lif (n__law_same x65 ((eT3 (eO (eT2 eN eN)) Vl.str Vl.bl) (s48, x52, x59)))) fun k66 => ret (!k66)) fun k142 => if k142 = true then ret (.rt false) else bnd (bnd (bnd (lif (n_is_simple x52)) fun x67 => ret (!decide (x67 = true))) fun k79 => if k79 = true then ret true else bnd (bnd (bnd (lif (n_drift_of x11)) fun x74 => ret (eN x74)) fun x76 => bnd (bnd (bnd (bnd (bnd (opt (atI x17 (-(1 : Int)))) fun x68 => ret x68.1) fun x69 => ret x69.natAbs) fun x72 => bnd (bnd (bnd (opt (atI x17 (-(1 : Int)))) fun x70 => ret x70.2) fun x71 => ret x71.natAbs) fun x73 => ret (x72 + x73)) fun x75 => ret (eN x75)) fun x77 => lif (n__law_same x76 x77)) fun k78 => ret (!k78)) fun k141 => if k141 = true then ret (.rt false) else bnd (n__law_place ()) fun x81 => bnd (n__law_place ()) fun x82 => bnd (n__law_word () 30) fun x83 => bnd (bnd (bnd (lif (n__law_along x81 x11)) fun x84 => ret x84) fun x87 => ret (x87.map (fun v85 : (Int × Int × Nat) => (v85.1, v85.2.1)))) fun x88 => bnd (bnd (bnd (lif (n__law_along x82 x83)) fun x90 => ret x90) fun x93 => ret (x93.map (fun v91 : (Int × Int × Nat) => (v91.1, v91.2.1)))) fun x94 => bnd (opt (sortVO (eT2 Vl.int Vl.int) (ltT2 ltI ltI) ((dmk ((x88.filter (fun v96 : (Int × Int) => memD v96 x94)).map (fun v96 : (Int × Int) => (v96, true)))).map (·.1)))) fun x98 => bnd (bnd (bnd (bnd (bnd (lif (n_common_spots x81 x11 x82 x83)) fun x100 => bnd (lif (n_common_spots x82 x83 x81 x11)) fun x101 => ret (x100, x101)) fun x102 => ret ((eT2 (eVt (eT2 Vl.int Vl.int)) (eVt (eT2 Vl.int Vl.int))) x102)) fun x103 => lif (n__law_same x103 ((eT2 (eVt (eT2 Vl.int Vl.int)) (eVt (eT2 Vl.int Vl.int))) (x98, x98)))) fun k104 => ret (!k104)) fun k140 => if k140 = true then ret (.rt false) else bnd (bnd (bnd (n__law_roll () (31 : Int)) fun x105 => ret (x105 - (15 : Int))) fun x107 => bnd (bnd (n__law_roll () (31 : Int)) fun x106 => ret (x106 - (15 : Int))) fun x108 => ret (x107, x108)) fun x109 => bnd (ret (x88.map (fun v111 : (Int × Int) => ((v111.1 - x109.1).natAbs) + ((v111.2 - x109.2).natAbs)))) fun x113 => bnd (bnd (bnd (bnd (lif (n_nearest_place x81 x11 x109)) fun x121 => ret (eN x121)) fun x123 => bnd (bnd (bnd (bnd (opt (rngO x113.length)) fun x119 => compN (fun v115 : Nat => bnd (opt (x113[v115]?)) fun x117 => bnd (opt (minNO x113)) fun x118 => ret (decide (x117 = x118))) (fun v115 : Nat => ret v115) x119) fun x120 => opt (minNO x120)) fun x122 => ret (eN x122)) fun x124 => lif (n__law_same x123 x124)) fun k125 => ret (!k125)) fun k139 => if k139 = true then ret (.rt false) else bnd (n__law_some [((100 : Int), (0 : Int), 0), ((0 : Int), -(100 : Int), 3), ((95 : Int), (95 : Int), 1), (-(90 : Int), (0 : Int), 2), x81]) fun x126 => bnd (bnd (bnd (bnd (lif (n__law_along x126 x11)) fun x128 => ret x128) fun x131 => ret ((x131.filter (fun v129 : (Int × Int × Nat) => decide (100 < (max v129.1.natAbs v129.2.1.natAbs)))).map (fun v129 : (Int × Int × Nat) => v129))) fun x132 => ret (decide (x132 = ([] : (List (Int × Int × Nat)))))) fun x133 => bnd (bnd (bnd (bnd (lif (n_within_bounds x126 x11)) fun x135 => ret (Vl.bl x135)) fun x136 => lif (n__law_same x136 (Vl.bl x133))) fun k137 => ret (!k137)) fun k138 => if k138 = true then ret (.rt false) else ret (.nx ()) : M Cup (Fl Unit Bool))) x143 ()) (thenN (fun (s145 : Unit) => bnd (bnd (lif (n_is_simple ([] : List Nat))) fun x146 => bnd (lif (n_first_loop ([] : List Nat))) fun x147 => bnd (lif (n_simple_beginning ([108, 108, 108, 108] : List Nat))) fun x148 => bnd (lif (n_first_loop ([108, 108, 108, 108] : List Nat))) fun x149 => bnd (lif (n_is_simple ([108, 108, 108, 108] : List Nat))) fun x150 => bnd (lif (n_nearest_place ((0 : Int), (0 : Int), 0) ([108, 108, 108, 108] : List Nat) ((0 : Int), (0 : Int)))) fun x151 => ret (x146, x147, x148, x149, x150, x151)) fun x152 => lif (n__law_same ((eT6 Vl.bl (eO (eT2 eN eN)) Vl.str (eO (eT2 eN eN)) Vl.bl eN) x152) ((eT6 Vl.bl (eO eU) Vl.str (eT2 eN eN) Vl.bl eN) (true, none, ([108, 108, 108] : List Nat), (0, 4), true, 0)))) ret)
set_option maxHeartbeats 0 in
theorem r_law (ρ : PEnv) (k0 : Kn 23 [(1, eR ())] ρ) : RefG (GR Vl.bl) (b_law ρ) n_law := by
  unfold n_law
  exact (u_loop (J := (fun (s1 : Unit) (ρ : PEnv) => Kn 23 [(1, eR ())] ρ)) (l_forF (J := (fun (s1 : Unit) (ρ : PEnv) => Kn 23 [(1, eR ())] ρ)) (e := Vl.bl) (ex := eN) (s0 := ()) (step := (fun (s1 : Unit) (v3 : Nat) => (bnd (bnd (bnd (n__law_word () 8) fun x6 => bnd (n__law_word () 30) fun x7 => bnd (n__law_round ()) fun x8 => bnd (bnd (n__law_round ()) fun x5 => opt (catS x5 [115])) fun x9 => ret [x6, x7, x8, x9]) fun x10 => n__law_some x10) fun x11 => bnd (bnd (bnd (lif (n__law_along ((0 : Int), (0 : Int), 0) x11)) fun x13 => ret x13) fun x16 => ret (x16.map (fun v14 : (Int × Int × Nat) => (v14.1, v14.2.1)))) fun x17 => bnd (bnd (opt (rngO x17.length)) fun x46 => foldN (fun (s20 : (Option (Nat × Nat))) (v22 : Nat) => (bnd (bnd (opt (rngO v22)) fun x39 => compN (fun v35 : Nat => bnd (opt (x17[v35]?)) fun x37 => bnd (opt (x17[v22]?)) fun x38 => ret (decide (x37 = x38))) (fun v35 : Nat => ret v35) x39) fun x40 => bnd (if (s20.isNone && (!decide (x40 = ([] : (List Nat))))) = true then bnd (bnd (opt (x40[0]?)) fun x42 => ret (x42, v22)) fun x43 => ret (some x43) else ret s20) fun x44 => ret x44 : M Cup (Option (Nat × Nat)))) x46 none) fun (s48 : (Option (Nat × Nat))) => bnd (if s48.isNone = true then ret x11 else bnd (bnd (bnd (opt s48) fun x49 => ret x49.2) fun x50 => ret (((x50 : Nat) : Int) - (1 : Int))) fun x51 => opt (szO x11 (cutL x11 none (some x51)))) fun x52 => bnd (bnd (ret s48.isNone) fun k58 => if k58 = true then ret true else bnd (lif (n_is_round x11)) fun k57 => if k57 = true then bnd (opt s48) fun x55 => bnd (bnd (opt (szO x11 x11.length)) fun x54 => ret (0, x54)) fun x56 => ret (decide (x55 = x56)) else ret false) fun x59 => bnd (bnd (bnd (bnd (bnd (lif (n_first_loop x11)) fun x61 => bnd (lif (n_simple_beginning x11)) fun x62 => bnd (lif (n_is_simple x11)) fun x63 => ret (x61, x62, x63)) fun x64 => ret ((eT3 (eO (eT2 eN eN)) Vl.str Vl.bl) x64)) fun x65 => lif (n__law_same x65 ((eT3 (eO (eT2 eN eN)) Vl.str Vl.bl) (s48, x52, x59)))) fun k66 => ret (!k66)) fun k142 => if k142 = true then ret (.rt false) else bnd (bnd (bnd (lif (n_is_simple x52)) fun x67 => ret (!decide (x67 = true))) fun k79 => if k79 = true then ret true else bnd (bnd (bnd (lif (n_drift_of x11)) fun x74 => ret (eN x74)) fun x76 => bnd (bnd (bnd (bnd (bnd (opt (atI x17 (-(1 : Int)))) fun x68 => ret x68.1) fun x69 => ret x69.natAbs) fun x72 => bnd (bnd (bnd (opt (atI x17 (-(1 : Int)))) fun x70 => ret x70.2) fun x71 => ret x71.natAbs) fun x73 => ret (x72 + x73)) fun x75 => ret (eN x75)) fun x77 => lif (n__law_same x76 x77)) fun k78 => ret (!k78)) fun k141 => if k141 = true then ret (.rt false) else bnd (n__law_place ()) fun x81 => bnd (n__law_place ()) fun x82 => bnd (n__law_word () 30) fun x83 => bnd (bnd (bnd (lif (n__law_along x81 x11)) fun x84 => ret x84) fun x87 => ret (x87.map (fun v85 : (Int × Int × Nat) => (v85.1, v85.2.1)))) fun x88 => bnd (bnd (bnd (lif (n__law_along x82 x83)) fun x90 => ret x90) fun x93 => ret (x93.map (fun v91 : (Int × Int × Nat) => (v91.1, v91.2.1)))) fun x94 => bnd (opt (sortVO (eT2 Vl.int Vl.int) (ltT2 ltI ltI) ((dmk ((x88.filter (fun v96 : (Int × Int) => memD v96 x94)).map (fun v96 : (Int × Int) => (v96, true)))).map (·.1)))) fun x98 => bnd (bnd (bnd (bnd (bnd (lif (n_common_spots x81 x11 x82 x83)) fun x100 => bnd (lif (n_common_spots x82 x83 x81 x11)) fun x101 => ret (x100, x101)) fun x102 => ret ((eT2 (eVt (eT2 Vl.int Vl.int)) (eVt (eT2 Vl.int Vl.int))) x102)) fun x103 => lif (n__law_same x103 ((eT2 (eVt (eT2 Vl.int Vl.int)) (eVt (eT2 Vl.int Vl.int))) (x98, x98)))) fun k104 => ret (!k104)) fun k140 => if k140 = true then ret (.rt false) else bnd (bnd (bnd (n__law_roll () (31 : Int)) fun x105 => ret (x105 - (15 : Int))) fun x107 => bnd (bnd (n__law_roll () (31 : Int)) fun x106 => ret (x106 - (15 : Int))) fun x108 => ret (x107, x108)) fun x109 => bnd (ret (x88.map (fun v111 : (Int × Int) => ((v111.1 - x109.1).natAbs) + ((v111.2 - x109.2).natAbs)))) fun x113 => bnd (bnd (bnd (bnd (lif (n_nearest_place x81 x11 x109)) fun x121 => ret (eN x121)) fun x123 => bnd (bnd (bnd (bnd (opt (rngO x113.length)) fun x119 => compN (fun v115 : Nat => bnd (opt (x113[v115]?)) fun x117 => bnd (opt (minNO x113)) fun x118 => ret (decide (x117 = x118))) (fun v115 : Nat => ret v115) x119) fun x120 => opt (minNO x120)) fun x122 => ret (eN x122)) fun x124 => lif (n__law_same x123 x124)) fun k125 => ret (!k125)) fun k139 => if k139 = true then ret (.rt false) else bnd (n__law_some [((100 : Int), (0 : Int), 0), ((0 : Int), -(100 : Int), 3), ((95 : Int), (95 : Int), 1), (-(90 : Int), (0 : Int), 2), x81]) fun x126 => bnd (bnd (bnd (bnd (lif (n__law_along x126 x11)) fun x128 => ret x128) fun x131 => ret ((x131.filter (fun v129 : (Int × Int × Nat) => decide (100 < (max v129.1.natAbs v129.2.1.natAbs)))).map (fun v129 : (Int × Int × Nat) => v129))) fun x132 => ret (decide (x132 = ([] : (List (Int × Int × Nat)))))) fun x133 => bnd (bnd (bnd (bnd (lif (n_within_bounds x126 x11)) fun x135 => ret (Vl.bl x135)) fun x136 => lif (n__law_same x136 (Vl.bl x133))) fun k137 => ret (!k137)) fun k138 => if k138 = true then ret (.rt false) else ret (.nx ()) : M Cup (Fl Unit Bool)))) (i_bltm (s_cons0 (x := eN 8) rfl (s_nil (e_fin1l rngO_r)))) (Kn.sub k0 ⟨rfl, trivial⟩) fun s1 v3 _ k2 => l_bd (k_name rfl) k2 fun _ k4 => (v_set1 (e := Vl.str) k4 (e_call (s_cons0 (x := eR ()) (k4.var rfl) (s_cons1 (e_lst (G := Em (eLs Vl.str)) (s_cons1 (e_call (s_cons0 (x := eR ()) (k4.var rfl) (s_cons0 (x := eN 8) rfl (s_nil (r__law_word _ _))))) fun x6 => (s_cons1 (e_call (s_cons0 (x := eR ()) (k4.var rfl) (s_cons0 (x := eN 30) rfl (s_nil (r__law_word _ _))))) fun x7 => (s_cons1 (e_call (s_cons0 (x := eR ()) (k4.var rfl) (s_nil (r__law_round _)))) fun x8 => (s_cons1 (e_op (B1 (e_call (s_cons0 (x := eR ()) (k4.var rfl) (s_nil (r__law_round _)))) fun x5 => (B0 (a := eC 115) rfl (e_fin1 catS_r)))) fun x9 => (s_nil (RefG.ret rfl))))))) fun x10 => (s_nil (r__law_some Vl.str _))))) rfl fun x11 _ k12 => (v_set1 (e := (eLs (eT2 Vl.int Vl.int))) k12 (e_lca (N := 23) (lw := [(1, eR ()), (2, eN v3), (3, Vl.str x11)]) (ex := (eT3 Vl.int Vl.int eN)) (kl := fun v14 : (Int × Int × Nat) => (10, (eT3 Vl.int Vl.int eN) v14) :: [(1, eR ()), (2, eN v3), (3, Vl.str x11)]) (e := (eT2 Vl.int Vl.int)) (h := fun v14 : (Int × Int × Nat) => (v14.1, v14.2.1)) k12 (i_any1 (e' := (eLs (eT3 Vl.int Vl.int eN))) (e_callP (s_cons0 (x := (eT3 Vl.int Vl.int eN) ((0 : Int), (0 : Int), 0)) (x_tup (a_cons (x := eN 0) rfl (a_cons (x := eN 0) rfl (a_cons (x := eN 0) rfl a_nil)))) (s_cons0 (x := Vl.str x11) (k12.var rfl) (s_nil (RefG.lif (r__law_along _ _)))))) fun x13 => e_fin0l rfl) ⟨⟨rfl, rfl⟩, ⟨rfl, rfl⟩, ⟨rfl, rfl⟩, trivial⟩ (fun _ => (k_name rfl)) (fun v14 _ k15 => (x_sl (k15.var rfl) o_nil (o_val rfl) rfl))) rfl fun x17 _ k18 => (v_set0 (x := (eO (eT2 eN eN)) none) k18 rfl rfl fun _ k19 => (u_join (J := (fun (s20 : (Option (Nat × Nat))) (ρ : PEnv) => Kn 23 [(1, eR ()), (2, eN v3), (3, Vl.str x11), (4, (eLs (eT2 Vl.int Vl.int)) x17), (5, (eO (eT2 eN eN)) s20)] ρ)) (l_for (J := (fun (s20 : (Option (Nat × Nat))) (ρ : PEnv) => Kn 23 [(1, eR ()), (2, eN v3), (3, Vl.str x11), (4, (eLs (eT2 Vl.int Vl.int)) x17), (5, (eO (eT2 eN eN)) s20)] ρ)) (ex := eN) (s0 := none) (step := (fun (s20 : (Option (Nat × Nat))) (v22 : Nat) => (bnd (bnd (opt (rngO v22)) fun x39 => compN (fun v35 : Nat => bnd (opt (x17[v35]?)) fun x37 => bnd (opt (x17[v22]?)) fun x38 => ret (decide (x37 = x38))) (fun v35 : Nat => ret v35) x39) fun x40 => bnd (if (s20.isNone && (!decide (x40 = ([] : (List Nat))))) = true then bnd (bnd (opt (x40[0]?)) fun x42 => ret (x42, v22)) fun x43 => ret (some x43) else ret s20) fun x44 => ret x44 : M Cup (Option (Nat × Nat))))) (i_bltm (s_cons0 (x := eN x17.length) (x_blt (a_cons (x := (eLs (eT2 Vl.int Vl.int)) x17) (k19.var rfl) a_nil) (len_map _ _)) (s_nil (e_fin1l rngO_r)))) (Kn.sub k19 ⟨rfl, rfl, rfl, rfl, rfl, trivial⟩) fun s20 v22 _ k21 => l_bd (k_name rfl) k21 fun _ k23 => (v_set1 (e := (eLs eN)) k23 (e_lm (N := 23) (lw := [(1, eR ()), (2, eN v3), (3, Vl.str x11), (4, (eLs (eT2 Vl.int Vl.int)) x17), (5, (eO (eT2 eN eN)) s20), (6, eN v22)]) (ex := eN) (kl := fun v35 : Nat => (22, eN v35) :: [(1, eR ()), (2, eN v3), (3, Vl.str x11), (4, (eLs (eT2 Vl.int Vl.int)) x17), (5, (eO (eT2 eN eN)) s20), (6, eN v22)]) (e := eN) (tn := fun v35 : Nat => bnd (opt (x17[v35]?)) fun x37 => bnd (opt (x17[v22]?)) fun x38 => ret (decide (x37 = x38))) (fn := fun v35 : Nat => ret v35) k23 (i_bltm (s_cons0 (x := eN v22) (k23.var rfl) (s_nil (e_fin1l rngO_r)))) ⟨⟨rfl, rfl⟩, ⟨rfl, rfl⟩, ⟨rfl, rfl⟩, ⟨rfl, rfl⟩, ⟨rfl, rfl⟩, ⟨rfl, rfl⟩, trivial⟩ (fun _ => (k_name rfl)) (fun v35 _ k36 => (g_B (e_op (B1 (e_op (B0 (a := (eLs (eT2 Vl.int Vl.int)) x17) (k36.var rfl) (B0 (a := eN v35) (k36.var rfl) (e_fin1 ix_n)))) fun x37 => (B1 (e_op (B0 (a := (eLs (eT2 Vl.int Vl.int)) x17) (k36.var rfl) (B0 (a := eN v22) (k36.var rfl) (e_fin1 ix_n)))) fun x38 => (e_fin0 (eq_D (dat_T2 dat_I dat_I) (sh_T2 sh_I sh_I) x37 x38))))))) (fun v35 _ k36 => (RefG.of (e := eN) (k36.var rfl)))) rfl fun x40 _ k41 => (u_last (v_set1 (e := (eO (eT2 eN eN))) k41 (e_if0 (t_and (t_B (x_op (k41.var rfl) rfl (isP_O _ (by intro x; rfl)))) (t_B (x_op (k41.var rfl) (x_lst a_nil) (ne_D (dat_L dat_N) (sh_L sh_N) x40 ([] : (List Nat)))))) (fun _ => (RefG.co (g := fun x43 => (some x43)) (e_tup (G := Em (eT2 eN eN)) (s_cons1 (e_op (B0 (a := (eLs eN) x40) (k41.var rfl) (B0 (a := eN 0) rfl (e_fin1 ix_n)))) fun x42 => (s_cons0 (x := eN v22) (k41.var rfl) (s_nil (RefG.ret rfl))))) fun _ => rfl)) (fun _ => (RefG.of (e := (eO (eT2 eN eN))) (k41.var rfl)))) rfl fun x44 _ k45 => (p_end (Kn.sub k45 ⟨rfl, rfl, rfl, rfl, rfl, trivial⟩)))))) fun s48 _ k47 => (v_set1 (e := Vl.str) k47 (e_if0 (t_B (x_op (k47.var rfl) rfl (isP_O _ (by intro x; rfl)))) (fun _ => (RefG.of (e := Vl.str) (k47.var rfl))) (fun _ => (e_sl (B0 (a := Vl.str x11) (k47.var rfl) (B0 o_nil (q_o (e_op (B1 (e_op (B1 (RefG.unO (e := (eT2 eN eN)) (k47.var rfl)) fun x49 => (B0 (a := eN 1) rfl (e_fin0 (ix_1 _ _ _))))) fun x50 => (B0 (a := eN 1) rfl (e_fin0 (subP_int ((x50 : Nat) : Int) (1 : Int)))))) fun x51 => (e_fin1 slS_r))))))) rfl fun x52 _ k53 => (v_set1 (e := Vl.bl) k53 (e_or (RefG.of (e := Vl.bl) (x_op (k53.var rfl) rfl (isP_O _ (by intro x; rfl)))) (e_and (e_callP (s_cons0 (x := Vl.str x11) (k53.var rfl) (s_nil (RefG.lif (r_is_round _))))) (e_op (B1 (RefG.unO (e := (eT2 eN eN)) (k53.var rfl)) fun x55 => (B1 (e_tup (G := Em (eT2 eN eN)) (s_cons0 (x := eN 0) rfl (s_cons1 (e_blt (s_cons0 (x := Vl.str x11) (k53.var rfl) (s_nil (e_fin1 lenS_r)))) fun x54 => (s_nil (RefG.ret rfl))))) fun x56 => (e_fin0 (eq_D (dat_T2 dat_N dat_N) (sh_T2 sh_N sh_N) x55 x56))))))) rfl fun x59 _ k60 => (u_if1 (g_not (g_B (e_callP (s_cons1 (RefG.co (g := fun x64 => ((eT3 (eO (eT2 eN eN)) Vl.str Vl.bl) x64)) (e_tup (G := Em (eT3 (eO (eT2 eN eN)) Vl.str Vl.bl)) (s_cons1 (e_callP (s_cons0 (x := Vl.str x11) (k60.var rfl) (s_nil (RefG.lif (r_first_loop _))))) fun x61 => (s_cons1 (e_callP (s_cons0 (x := Vl.str x11) (k60.var rfl) (s_nil (RefG.lif (r_simple_beginning _))))) fun x62 => (s_cons1 (e_callP (s_cons0 (x := Vl.str x11) (k60.var rfl) (s_nil (RefG.lif (r_is_simple _))))) fun x63 => (s_nil (RefG.ret rfl)))))) fun _ => rfl) fun x65 => (s_cons0 (x := eX ((eT3 (eO (eT2 eN eN)) Vl.str Vl.bl) (s48, x52, x59))) (x_tup (a_cons (x := (eO (eT2 eN eN)) s48) (k60.var rfl) (a_cons (x := Vl.str x52) (k60.var rfl) (a_cons (x := Vl.bl x59) (k60.var rfl) a_nil)))) (s_nil (RefG.lif (r__law_same _ _)))))))) (f_ret0 (e := Vl.bl) (y := false) rfl) (u_nil (u_if1 (g_or (g_B (e_op (B1 (e_callP (s_cons0 (x := Vl.str x52) (k60.var rfl) (s_nil (RefG.lif (r_is_simple _))))) fun x67 => (B0 (a := Vl.bl true) rfl (e_fin0 rfl))))) (g_not (g_B (e_callP (s_cons1 (RefG.co (g := fun x74 => (eN x74)) (e_callP (s_cons0 (x := Vl.str x11) (k60.var rfl) (s_nil (RefG.lif (r_drift_of _))))) fun _ => rfl) fun x76 => (s_cons1 (RefG.co (g := fun x75 => (eN x75)) (e_op (B1 (e_blt (s_cons1 (e_op (B1 (e_op (B0 (a := (eLs (eT2 Vl.int Vl.int)) x17) (k60.var rfl) (B0 (a := Vl.int (-(1 : Int))) (x_un rfl rfl) (e_fin1 atI_ap)))) fun x68 => (B0 (a := eN 0) rfl (e_fin0 (ix_0 _ _))))) fun x69 => (s_nil (e_fin0 (absP_I _))))) fun x72 => (B1 (e_blt (s_cons1 (e_op (B1 (e_op (B0 (a := (eLs (eT2 Vl.int Vl.int)) x17) (k60.var rfl) (B0 (a := Vl.int (-(1 : Int))) (x_un rfl rfl) (e_fin1 atI_ap)))) fun x70 => (B0 (a := eN 1) rfl (e_fin0 (ix_1 _ _ _))))) fun x71 => (s_nil (e_fin0 (absP_I _))))) fun x73 => (e_fin0 (addP_N x72 x73))))) fun _ => rfl) fun x77 => (s_nil (RefG.lif (r__law_same _ _))))))))) (f_ret0 (e := Vl.bl) (y := false) rfl) (u_nil (v_parF (s_cons1 (e := (eT3 Vl.int Vl.int eN)) (e_imm (e_call (s_cons0 (x := eR ()) (k60.var rfl) (s_nil (r__law_place _)))) (im_T3 im_I im_I im_N)) fun x81 => (s_cons1 (e := (eT3 Vl.int Vl.int eN)) (e_imm (e_call (s_cons0 (x := eR ()) (k60.var rfl) (s_nil (r__law_place _)))) (im_T3 im_I im_I im_N)) fun x82 => (s_cons1 (e := Vl.str) (e_imm (e_call (s_cons0 (x := eR ()) (k60.var rfl) (s_cons0 (x := eN 30) rfl (s_nil (r__law_word _ _))))) im_S) fun x83 => (s_nil (w_run k60 (w_cons (x := (eT3 Vl.int Vl.int eN) x81) (.inl rfl) rfl (w_cons (x := (eT3 Vl.int Vl.int eN) x82) (.inl rfl) rfl (w_cons (x := Vl.str x83) (.inl rfl) rfl (w_nil fun _ k80 => (v_set1 (e := (eLs (eT2 Vl.int Vl.int))) k80 (e_lca (N := 23) (lw := [(1, eR ()), (2, eN v3), (3, Vl.str x11), (4, (eLs (eT2 Vl.int Vl.int)) x17), (5, (eO (eT2 eN eN)) s48), (8, Vl.str x52), (9, Vl.bl x59), (10, (eT3 Vl.int Vl.int eN) x81), (11, (eT3 Vl.int Vl.int eN) x82), (12, Vl.str x83)]) (ex := (eT3 Vl.int Vl.int eN)) (kl := fun v85 : (Int × Int × Nat) => (21, (eT3 Vl.int Vl.int eN) v85) :: [(1, eR ()), (2, eN v3), (3, Vl.str x11), (4, (eLs (eT2 Vl.int Vl.int)) x17), (5, (eO (eT2 eN eN)) s48), (8, Vl.str x52), (9, Vl.bl x59), (10, (eT3 Vl.int Vl.int eN) x81), (11, (eT3 Vl.int Vl.int eN) x82), (12, Vl.str x83)]) (e := (eT2 Vl.int Vl.int)) (h := fun v85 : (Int × Int × Nat) => (v85.1, v85.2.1)) k80 (i_any1 (e' := (eLs (eT3 Vl.int Vl.int eN))) (e_callP (s_cons0 (x := (eT3 Vl.int Vl.int eN) x81) (k80.var rfl) (s_cons0 (x := Vl.str x11) (k80.var rfl) (s_nil (RefG.lif (r__law_along _ _)))))) fun x84 => e_fin0l rfl) ⟨⟨rfl, rfl⟩, ⟨rfl, rfl⟩, ⟨rfl, rfl⟩, ⟨rfl, rfl⟩, ⟨rfl, rfl⟩, ⟨rfl, rfl⟩, ⟨rfl, rfl⟩, ⟨rfl, rfl⟩, ⟨rfl, rfl⟩, ⟨rfl, rfl⟩, trivial⟩ (fun _ => (k_name rfl)) (fun v85 _ k86 => (x_sl (k86.var rfl) o_nil (o_val rfl) rfl))) rfl fun x88 _ k89 => (v_set1 (e := (eLs (eT2 Vl.int Vl.int))) k89 (e_lca (N := 23) (lw := [(1, eR ()), (2, eN v3), (3, Vl.str x11), (4, (eLs (eT2 Vl.int Vl.int)) x17), (5, (eO (eT2 eN eN)) s48), (8, Vl.str x52), (9, Vl.bl x59), (10, (eT3 Vl.int Vl.int eN) x81), (11, (eT3 Vl.int Vl.int eN) x82), (12, Vl.str x83), (13, (eLs (eT2 Vl.int Vl.int)) x88)]) (ex := (eT3 Vl.int Vl.int eN)) (kl := fun v91 : (Int × Int × Nat) => (21, (eT3 Vl.int Vl.int eN) v91) :: [(1, eR ()), (2, eN v3), (3, Vl.str x11), (4, (eLs (eT2 Vl.int Vl.int)) x17), (5, (eO (eT2 eN eN)) s48), (8, Vl.str x52), (9, Vl.bl x59), (10, (eT3 Vl.int Vl.int eN) x81), (11, (eT3 Vl.int Vl.int eN) x82), (12, Vl.str x83), (13, (eLs (eT2 Vl.int Vl.int)) x88)]) (e := (eT2 Vl.int Vl.int)) (h := fun v91 : (Int × Int × Nat) => (v91.1, v91.2.1)) k89 (i_any1 (e' := (eLs (eT3 Vl.int Vl.int eN))) (e_callP (s_cons0 (x := (eT3 Vl.int Vl.int eN) x82) (k89.var rfl) (s_cons0 (x := Vl.str x83) (k89.var rfl) (s_nil (RefG.lif (r__law_along _ _)))))) fun x90 => e_fin0l rfl) ⟨⟨rfl, rfl⟩, ⟨rfl, rfl⟩, ⟨rfl, rfl⟩, ⟨rfl, rfl⟩, ⟨rfl, rfl⟩, ⟨rfl, rfl⟩, ⟨rfl, rfl⟩, ⟨rfl, rfl⟩, ⟨rfl, rfl⟩, ⟨rfl, rfl⟩, ⟨rfl, rfl⟩, trivial⟩ (fun _ => (k_name rfl)) (fun v91 _ k92 => (x_sl (k92.var rfl) o_nil (o_val rfl) rfl))) rfl fun x94 _ k95 => (v_set1 (e := (eLs (eT2 Vl.int Vl.int))) k95 (e_blt (s_cons0 (x := (eDt (ktT2 ktI ktI) Vl.bl) (dmk ((x88.filter (fun v96 : (Int × Int) => memD v96 x94)).map (fun v96 : (Int × Int) => (v96, true))))) (x_blt (a_cons (x := (eLs (eT2 (eT2 Vl.int Vl.int) Vl.bl)) ((x88.filter (fun v96 : (Int × Int) => memD v96 x94)).map (fun v96 : (Int × Int) => (v96, true)))) (x_lc (N := 23) (lw := [(1, eR ()), (2, eN v3), (3, Vl.str x11), (4, (eLs (eT2 Vl.int Vl.int)) x17), (5, (eO (eT2 eN eN)) s48), (8, Vl.str x52), (9, Vl.bl x59), (10, (eT3 Vl.int Vl.int eN) x81), (11, (eT3 Vl.int Vl.int eN) x82), (12, Vl.str x83), (13, (eLs (eT2 Vl.int Vl.int)) x88), (14, (eLs (eT2 Vl.int Vl.int)) x94)]) (ex := (eT2 Vl.int Vl.int)) (kl := fun v96 : (Int × Int) => (16, (eT2 Vl.int Vl.int) v96) :: [(1, eR ()), (2, eN v3), (3, Vl.str x11), (4, (eLs (eT2 Vl.int Vl.int)) x17), (5, (eO (eT2 eN eN)) s48), (8, Vl.str x52), (9, Vl.bl x59), (10, (eT3 Vl.int Vl.int eN) x81), (11, (eT3 Vl.int Vl.int eN) x82), (12, Vl.str x83), (13, (eLs (eT2 Vl.int Vl.int)) x88), (14, (eLs (eT2 Vl.int Vl.int)) x94)]) (e := (eT2 (eT2 Vl.int Vl.int) Vl.bl)) (p := fun v96 : (Int × Int) => memD v96 x94) (h := fun v96 : (Int × Int) => (v96, true)) k95 (i_any (k95.var rfl) rfl) ⟨⟨rfl, rfl⟩, ⟨rfl, rfl⟩, ⟨rfl, rfl⟩, ⟨rfl, rfl⟩, ⟨rfl, rfl⟩, ⟨rfl, rfl⟩, ⟨rfl, rfl⟩, ⟨rfl, rfl⟩, ⟨rfl, rfl⟩, ⟨rfl, rfl⟩, ⟨rfl, rfl⟩, ⟨rfl, rfl⟩, trivial⟩ (fun _ => (k_name rfl)) (fun v96 _ k97 => (t_B (x_op (k97.var rfl) (k97.var rfl) (in_L (dat_T2 dat_I dat_I) (sh_T2 sh_I sh_I) (sh_T2 sh_I sh_I) v96 x94)))) (fun v96 _ k97 => (x_tup (a_cons (x := (eT2 Vl.int Vl.int) v96) (k97.var rfl) (a_cons (x := Vl.bl true) rfl a_nil))))) a_nil) (dmk_r (e := Vl.bl) (kd_T2 (n := 4) kd_I kd_I (by decide) (by decide)).inj (tk_of (kd_T2 (n := 4) kd_I kd_I (by decide) (by decide)) (is_T2 Vl.int Vl.int) (by decide)) _)) (s_nil (e_fin1 (sortT_r (e := Vl.bl) (tk_of (kd_T2 (n := 4) kd_I kd_I (by decide) (by decide)) (is_T2 Vl.int Vl.int) (by decide)) (lt_TT2 dat_I dat_I lt_I lt_I ir_I)))))) rfl fun x98 _ k99 => (u_if1 (g_not (g_B (e_callP (s_cons1 (RefG.co (g := fun x102 => ((eT2 (eVt (eT2 Vl.int Vl.int)) (eVt (eT2 Vl.int Vl.int))) x102)) (e_tup (G := Em (eT2 (eVt (eT2 Vl.int Vl.int)) (eVt (eT2 Vl.int Vl.int)))) (s_cons1 (e_callP (s_cons0 (x := (eT3 Vl.int Vl.int eN) x81) (k99.var rfl) (s_cons0 (x := Vl.str x11) (k99.var rfl) (s_cons0 (x := (eT3 Vl.int Vl.int eN) x82) (k99.var rfl) (s_cons0 (x := Vl.str x83) (k99.var rfl) (s_nil (RefG.lif (r_common_spots _ _ _ _)))))))) fun x100 => (s_cons1 (e_callP (s_cons0 (x := (eT3 Vl.int Vl.int eN) x82) (k99.var rfl) (s_cons0 (x := Vl.str x83) (k99.var rfl) (s_cons0 (x := (eT3 Vl.int Vl.int eN) x81) (k99.var rfl) (s_cons0 (x := Vl.str x11) (k99.var rfl) (s_nil (RefG.lif (r_common_spots _ _ _ _)))))))) fun x101 => (s_nil (RefG.ret rfl))))) fun _ => rfl) fun x103 => (s_cons0 (x := eX ((eT2 (eVt (eT2 Vl.int Vl.int)) (eVt (eT2 Vl.int Vl.int))) (x98, x98))) (x_tup (a_cons (x := (eVt (eT2 Vl.int Vl.int)) x98) (x_blt (a_cons (x := (eLs (eT2 Vl.int Vl.int)) x98) (k99.var rfl) a_nil) rfl) (a_cons (x := (eVt (eT2 Vl.int Vl.int)) x98) (x_blt (a_cons (x := (eLs (eT2 Vl.int Vl.int)) x98) (k99.var rfl) a_nil) rfl) a_nil))) (s_nil (RefG.lif (r__law_same _ _)))))))) (f_ret0 (e := Vl.bl) (y := false) rfl) (u_nil (v_set1 (e := (eT2 Vl.int Vl.int)) k99 (e_tup (G := Em (eT2 Vl.int Vl.int)) (s_cons1 (e_op (B1 (e_call (s_cons0 (x := eR ()) (k99.var rfl) (s_cons0 (x := Vl.int (31 : Int)) rfl (s_nil (r__law_roll _ _))))) fun x105 => (B0 (a := eN 15) rfl (e_fin0 (subP_int x105 (15 : Int)))))) fun x107 => (s_cons1 (e_op (B1 (e_call (s_cons0 (x := eR ()) (k99.var rfl) (s_cons0 (x := Vl.int (31 : Int)) rfl (s_nil (r__law_roll _ _))))) fun x106 => (B0 (a := eN 15) rfl (e_fin0 (subP_int x106 (15 : Int)))))) fun x108 => (s_nil (RefG.ret rfl))))) rfl fun x109 _ k110 => (v_set1 (e := (eLs eN)) k110 (RefG.of (x_lca (N := 23) (lw := [(1, eR ()), (2, eN v3), (3, Vl.str x11), (4, (eLs (eT2 Vl.int Vl.int)) x17), (5, (eO (eT2 eN eN)) s48), (8, Vl.str x52), (9, Vl.bl x59), (10, (eT3 Vl.int Vl.int eN) x81), (11, (eT3 Vl.int Vl.int eN) x82), (12, Vl.str x83), (13, (eLs (eT2 Vl.int Vl.int)) x88), (14, (eLs (eT2 Vl.int Vl.int)) x94), (15, (eLs (eT2 Vl.int Vl.int)) x98), (16, (eT2 Vl.int Vl.int) x109)]) (ex := (eT2 Vl.int Vl.int)) (kl := fun v111 : (Int × Int) => (21, (eT2 Vl.int Vl.int) v111) :: [(1, eR ()), (2, eN v3), (3, Vl.str x11), (4, (eLs (eT2 Vl.int Vl.int)) x17), (5, (eO (eT2 eN eN)) s48), (8, Vl.str x52), (9, Vl.bl x59), (10, (eT3 Vl.int Vl.int eN) x81), (11, (eT3 Vl.int Vl.int eN) x82), (12, Vl.str x83), (13, (eLs (eT2 Vl.int Vl.int)) x88), (14, (eLs (eT2 Vl.int Vl.int)) x94), (15, (eLs (eT2 Vl.int Vl.int)) x98), (16, (eT2 Vl.int Vl.int) x109)]) (e := eN) (h := fun v111 : (Int × Int) => ((v111.1 - x109.1).natAbs) + ((v111.2 - x109.2).natAbs)) k110 (i_any (k110.var rfl) rfl) ⟨⟨rfl, rfl⟩, ⟨rfl, rfl⟩, ⟨rfl, rfl⟩, ⟨rfl, rfl⟩, ⟨rfl, rfl⟩, ⟨rfl, rfl⟩, ⟨rfl, rfl⟩, ⟨rfl, rfl⟩, ⟨rfl, rfl⟩, ⟨rfl, rfl⟩, ⟨rfl, rfl⟩, ⟨rfl, rfl⟩, ⟨rfl, rfl⟩, ⟨rfl, rfl⟩, trivial⟩ (fun _ => (k_name rfl)) (fun v111 _ k112 => (x_op (x_blt (a_cons (x := Vl.int (v111.1 - x109.1)) (x_op (x_op (k112.var rfl) rfl (ix_0 _ _)) (x_op (k112.var rfl) rfl (ix_0 _ _)) (subP_int v111.1 x109.1)) a_nil) (absP_I _)) (x_blt (a_cons (x := Vl.int (v111.2 - x109.2)) (x_op (x_op (k112.var rfl) rfl (ix_1 _ _ _)) (x_op (k112.var rfl) rfl (ix_1 _ _ _)) (subP_int v111.2 x109.2)) a_nil) (absP_I _)) (addP_N ((v111.1 - x109.1).natAbs) ((v111.2 - x109.2).natAbs)))))) rfl fun x113 _ k114 => (u_if1 (g_not (g_B (e_callP (s_cons1 (RefG.co (g := fun x121 => (eN x121)) (e_callP (s_cons0 (x := (eT3 Vl.int Vl.int eN) x81) (k114.var rfl) (s_cons0 (x := Vl.str x11) (k114.var rfl) (s_cons0 (x := (eT2 Vl.int Vl.int) x109) (k114.var rfl) (s_nil (RefG.lif (r_nearest_place _ _ _))))))) fun _ => rfl) fun x123 => (s_cons1 (RefG.co (g := fun x122 => (eN x122)) (e_blt (s_cons1 (e_lm (N := 23) (lw := [(1, eR ()), (2, eN v3), (3, Vl.str x11), (4, (eLs (eT2 Vl.int Vl.int)) x17), (5, (eO (eT2 eN eN)) s48), (8, Vl.str x52), (9, Vl.bl x59), (10, (eT3 Vl.int Vl.int eN) x81), (11, (eT3 Vl.int Vl.int eN) x82), (12, Vl.str x83), (13, (eLs (eT2 Vl.int Vl.int)) x88), (14, (eLs (eT2 Vl.int Vl.int)) x94), (15, (eLs (eT2 Vl.int Vl.int)) x98), (16, (eT2 Vl.int Vl.int) x109), (17, (eLs eN) x113)]) (ex := eN) (kl := fun v115 : Nat => (22, eN v115) :: [(1, eR ()), (2, eN v3), (3, Vl.str x11), (4, (eLs (eT2 Vl.int Vl.int)) x17), (5, (eO (eT2 eN eN)) s48), (8, Vl.str x52), (9, Vl.bl x59), (10, (eT3 Vl.int Vl.int eN) x81), (11, (eT3 Vl.int Vl.int eN) x82), (12, Vl.str x83), (13, (eLs (eT2 Vl.int Vl.int)) x88), (14, (eLs (eT2 Vl.int Vl.int)) x94), (15, (eLs (eT2 Vl.int Vl.int)) x98), (16, (eT2 Vl.int Vl.int) x109), (17, (eLs eN) x113)]) (e := eN) (tn := fun v115 : Nat => bnd (opt (x113[v115]?)) fun x117 => bnd (opt (minNO x113)) fun x118 => ret (decide (x117 = x118))) (fn := fun v115 : Nat => ret v115) k114 (i_bltm (s_cons0 (x := eN x113.length) (x_blt (a_cons (x := (eLs eN) x113) (k114.var rfl) a_nil) (len_map _ _)) (s_nil (e_fin1l rngO_r)))) ⟨⟨rfl, rfl⟩, ⟨rfl, rfl⟩, ⟨rfl, rfl⟩, ⟨rfl, rfl⟩, ⟨rfl, rfl⟩, ⟨rfl, rfl⟩, ⟨rfl, rfl⟩, ⟨rfl, rfl⟩, ⟨rfl, rfl⟩, ⟨rfl, rfl⟩, ⟨rfl, rfl⟩, ⟨rfl, rfl⟩, ⟨rfl, rfl⟩, ⟨rfl, rfl⟩, ⟨rfl, rfl⟩, trivial⟩ (fun _ => (k_name rfl)) (fun v115 _ k116 => (g_B (e_op (B1 (e_op (B0 (a := (eLs eN) x113) (k116.var rfl) (B0 (a := eN v115) (k116.var rfl) (e_fin1 ix_n)))) fun x117 => (B1 (e_blt (s_cons0 (x := (eLs eN) x113) (k116.var rfl) (s_nil (e_fin1 minNO_r)))) fun x118 => (e_fin0 (eqP_N x117 x118))))))) (fun v115 _ k116 => (RefG.of (e := eN) (k116.var rfl)))) fun x120 => (s_nil (e_fin1 minNO_r)))) fun _ => rfl) fun x124 => (s_nil (RefG.lif (r__law_same _ _)))))))) (f_ret0 (e := Vl.bl) (y := false) rfl) (u_nil (v_set1 (e := (eT3 Vl.int Vl.int eN)) k114 (e_call (s_cons0 (x := eR ()) (k114.var rfl) (s_cons0 (x := (eLs (eT3 Vl.int Vl.int eN)) [((100 : Int), (0 : Int), 0), ((0 : Int), -(100 : Int), 3), ((95 : Int), (95 : Int), 1), (-(90 : Int), (0 : Int), 2), x81]) (x_lst (a_cons (x := (eT3 Vl.int Vl.int eN) ((100 : Int), (0 : Int), 0)) (x_tup (a_cons (x := eN 100) rfl (a_cons (x := eN 0) rfl (a_cons (x := eN 0) rfl a_nil)))) (a_cons (x := (eT3 Vl.int Vl.int eN) ((0 : Int), -(100 : Int), 3)) (x_tup (a_cons (x := eN 0) rfl (a_cons (x := Vl.int (-(100 : Int))) (x_un rfl rfl) (a_cons (x := eN 3) rfl a_nil)))) (a_cons (x := (eT3 Vl.int Vl.int eN) ((95 : Int), (95 : Int), 1)) (x_tup (a_cons (x := eN 95) rfl (a_cons (x := eN 95) rfl (a_cons (x := eN 1) rfl a_nil)))) (a_cons (x := (eT3 Vl.int Vl.int eN) (-(90 : Int), (0 : Int), 2)) (x_tup (a_cons (x := Vl.int (-(90 : Int))) (x_un rfl rfl) (a_cons (x := eN 0) rfl (a_cons (x := eN 2) rfl a_nil)))) (a_cons (x := (eT3 Vl.int Vl.int eN) x81) (k114.var rfl) a_nil)))))) (s_nil (r__law_some (eT3 Vl.int Vl.int eN) _))))) rfl fun x126 _ k127 => (v_set1 (e := Vl.bl) k127 (e_op (B1 (e_lc (N := 23) (lw := [(1, eR ()), (2, eN v3), (3, Vl.str x11), (4, (eLs (eT2 Vl.int Vl.int)) x17), (5, (eO (eT2 eN eN)) s48), (8, Vl.str x52), (9, Vl.bl x59), (10, (eT3 Vl.int Vl.int eN) x81), (11, (eT3 Vl.int Vl.int eN) x82), (12, Vl.str x83), (13, (eLs (eT2 Vl.int Vl.int)) x88), (14, (eLs (eT2 Vl.int Vl.int)) x94), (15, (eLs (eT2 Vl.int Vl.int)) x98), (16, (eT2 Vl.int Vl.int) x109), (17, (eLs eN) x113), (18, (eT3 Vl.int Vl.int eN) x126)]) (ex := (eT3 Vl.int Vl.int eN)) (kl := fun v129 : (Int × Int × Nat) => (21, (eT3 Vl.int Vl.int eN) v129) :: [(1, eR ()), (2, eN v3), (3, Vl.str x11), (4, (eLs (eT2 Vl.int Vl.int)) x17), (5, (eO (eT2 eN eN)) s48), (8, Vl.str x52), (9, Vl.bl x59), (10, (eT3 Vl.int Vl.int eN) x81), (11, (eT3 Vl.int Vl.int eN) x82), (12, Vl.str x83), (13, (eLs (eT2 Vl.int Vl.int)) x88), (14, (eLs (eT2 Vl.int Vl.int)) x94), (15, (eLs (eT2 Vl.int Vl.int)) x98), (16, (eT2 Vl.int Vl.int) x109), (17, (eLs eN) x113), (18, (eT3 Vl.int Vl.int eN) x126)]) (e := (eT3 Vl.int Vl.int eN)) (p := fun v129 : (Int × Int × Nat) => decide (100 < (max v129.1.natAbs v129.2.1.natAbs))) (h := fun v129 : (Int × Int × Nat) => v129) k127 (i_any1 (e' := (eLs (eT3 Vl.int Vl.int eN))) (e_callP (s_cons0 (x := (eT3 Vl.int Vl.int eN) x126) (k127.var rfl) (s_cons0 (x := Vl.str x11) (k127.var rfl) (s_nil (RefG.lif (r__law_along _ _)))))) fun x128 => e_fin0l rfl) ⟨⟨rfl, rfl⟩, ⟨rfl, rfl⟩, ⟨rfl, rfl⟩, ⟨rfl, rfl⟩, ⟨rfl, rfl⟩, ⟨rfl, rfl⟩, ⟨rfl, rfl⟩, ⟨rfl, rfl⟩, ⟨rfl, rfl⟩, ⟨rfl, rfl⟩, ⟨rfl, rfl⟩, ⟨rfl, rfl⟩, ⟨rfl, rfl⟩, ⟨rfl, rfl⟩, ⟨rfl, rfl⟩, ⟨rfl, rfl⟩, trivial⟩ (fun _ => (k_name rfl)) (fun v129 _ k130 => (t_B (x_op (x_blt (a_cons (x := eN v129.1.natAbs) (x_blt (a_cons (x := Vl.int v129.1) (x_op (k130.var rfl) rfl (ix_0 _ _)) a_nil) (absP_I _)) (a_cons (x := eN v129.2.1.natAbs) (x_blt (a_cons (x := Vl.int v129.2.1) (x_op (k130.var rfl) rfl (ix_1 _ _ _)) a_nil) (absP_I _)) a_nil)) (max2_N v129.1.natAbs v129.2.1.natAbs)) rfl (gtP_N (max v129.1.natAbs v129.2.1.natAbs) 100)))) (fun v129 _ k130 => (k130.var rfl))) fun x132 => (B0 (a := (eLs Vl.int) []) (x_lst a_nil) (e_fin0 (eq_D (dat_L (dat_T3 dat_I dat_I dat_N)) (sh_L (sh_T3 sh_I sh_I sh_N)) x132 ([] : (List (Int × Int × Nat)))))))) rfl fun x133 _ k134 => (u_last (u_if1 (g_not (g_B (e_callP (s_cons1 (RefG.co (g := fun x135 => (Vl.bl x135)) (e_callP (s_cons0 (x := (eT3 Vl.int Vl.int eN) x126) (k134.var rfl) (s_cons0 (x := Vl.str x11) (k134.var rfl) (s_nil (RefG.lif (r_within_bounds _ _)))))) fun _ => rfl) fun x136 => (s_cons0 (x := eX (Vl.bl x133)) (k134.var rfl) (s_nil (RefG.lif (r__law_same _ _)))))))) (f_ret0 (e := Vl.bl) (y := false) rfl) (u_nil (f_end (Kn.sub k134 ⟨rfl, trivial⟩))))))))))))))))))))))))))))))))))))) fun s145 _ k144 => (v_set1 (e := (eT6 Vl.bl (eO (eT2 eN eN)) Vl.str (eO (eT2 eN eN)) Vl.bl eN)) k144 (e_tup (G := Em (eT6 Vl.bl (eO (eT2 eN eN)) Vl.str (eO (eT2 eN eN)) Vl.bl eN)) (s_cons1 (e_callP (s_cons0 (x := Vl.str ([] : List Nat)) rfl (s_nil (RefG.lif (r_is_simple _))))) fun x146 => (s_cons1 (e_callP (s_cons0 (x := Vl.str ([] : List Nat)) rfl (s_nil (RefG.lif (r_first_loop _))))) fun x147 => (s_cons1 (e_callP (s_cons0 (x := Vl.str ([108, 108, 108, 108] : List Nat)) rfl (s_nil (RefG.lif (r_simple_beginning _))))) fun x148 => (s_cons1 (e_callP (s_cons0 (x := Vl.str ([108, 108, 108, 108] : List Nat)) rfl (s_nil (RefG.lif (r_first_loop _))))) fun x149 => (s_cons1 (e_callP (s_cons0 (x := Vl.str ([108, 108, 108, 108] : List Nat)) rfl (s_nil (RefG.lif (r_is_simple _))))) fun x150 => (s_cons1 (e_callP (s_cons0 (x := (eT3 Vl.int Vl.int eN) ((0 : Int), (0 : Int), 0)) (x_tup (a_cons (x := eN 0) rfl (a_cons (x := eN 0) rfl (a_cons (x := eN 0) rfl a_nil)))) (s_cons0 (x := Vl.str ([108, 108, 108, 108] : List Nat)) rfl (s_cons0 (x := (eT2 Vl.int Vl.int) ((0 : Int), (0 : Int))) (x_tup (a_cons (x := eN 0) rfl (a_cons (x := eN 0) rfl a_nil))) (s_nil (RefG.lif (r_nearest_place _ _ _))))))) fun x151 => (s_nil (RefG.ret rfl))))))))) rfl fun x152 _ k153 => (u_last (u_ret (e_callP (s_cons0 (x := eX ((eT6 Vl.bl (eO (eT2 eN eN)) Vl.str (eO (eT2 eN eN)) Vl.bl eN) x152)) (k153.var rfl) (s_cons0 (x := eX ((eT6 Vl.bl (eO eU) Vl.str (eT2 eN eN) Vl.bl eN) (true, none, ([108, 108, 108] : List Nat), (0, 4), true, 0))) (x_tup (a_cons (x := Vl.bl true) rfl (a_cons (x := (eO eU) none) rfl (a_cons (x := Vl.str ([108, 108, 108] : List Nat)) rfl (a_cons (x := (eT2 eN eN) (0, 4)) (x_tup (a_cons (x := eN 0) rfl (a_cons (x := eN 4) rfl a_nil))) (a_cons (x := Vl.bl true) rfl (a_cons (x := eN 0) rfl a_nil))))))) (s_nil (RefG.lif (r__law_same _ _))))))))))
/-! the first place in a list where something comes again -/
section
variable {κ τ : Type} [DecidableEq κ]
def IsFL (xs : List κ) : Option (Nat × Nat) → Prop
  | none => xs.Nodup
  | some (a, b) => b < xs.length ∧ (xs.take b).Nodup ∧ a < b ∧ xs[a]? = xs[b]?
theorem take_get {xs : List κ} {b i : Nat} (h : i < b) : (xs.take b)[i]? = xs[i]? := by
  rw [List.getElem?_take, if_pos h]
theorem nd_take {xs : List κ} (h : xs.Nodup) (b : Nat) : (xs.take b).Nodup := (List.take_sublist b xs).nodup h
theorem nd_le {xs : List κ} {a b : Nat} (h : (xs.take b).Nodup) (ab : a ≤ b) : (xs.take a).Nodup := by
  rw [show xs.take a = (xs.take b).take a by rw [List.take_take, Nat.min_eq_left ab]]
  exact nd_take h a
theorem isFL_not {xs : List κ} {a b : Nat} (h : IsFL xs (some (a, b))) {n : Nat} (hn : b < n) : ¬ (xs.take n).Nodup := fun nd => by
  obtain ⟨h1, _, h3, h4⟩ := h
  have e : (xs.take n)[a]? = (xs.take n)[b]? := by rw [take_get (by omega), take_get hn, h4]
  have := (List.getElem?_inj (i := a) (by rw [List.length_take]; omega) nd).mp e
  omega
theorem isFL_uniq {xs : List κ} : ∀ {r r' : Option (Nat × Nat)}, IsFL xs r → IsFL xs r' → r = r'
  | none, none, _, _ => rfl
  | none, some (a, b), h, h' => absurd (nd_take (show xs.Nodup from h) (b + 1)) (isFL_not h' (Nat.lt_succ_self b))
  | some (a, b), none, h, h' => absurd (nd_take (show xs.Nodup from h') (b + 1)) (isFL_not h (Nat.lt_succ_self b))
  | some (a, b), some (a', b'), h, h' => by
    have e : b = b' := by
      rcases Nat.lt_trichotomy b b' with l | e | l
      · exact absurd h'.2.1 (isFL_not h l)
      · exact e
      · exact absurd h.2.1 (isFL_not h' l)
    subst e
    obtain ⟨h1, h2, h3, h4⟩ := h
    obtain ⟨_, _, h5, h6⟩ := h'
    have := (List.getElem?_inj (l := xs.take b) (i := a) (j := a') (by rw [List.length_take]; omega) h2).mp (by rw [take_get h3, take_get h5, h4, h6])
    rw [this]
theorem nd_succ {xs : List κ} {i : Nat} {x : κ} (e : xs[i]? = some x) (h : (xs.take i).Nodup) (n : x ∉ xs.take i) : (xs.take (i + 1)).Nodup := by
  rw [List.take_succ, e, Option.toList_some, List.nodup_append]
  refine ⟨h, List.nodup_cons.mpr ⟨nofun, List.nodup_nil⟩, fun a ha b hb z => ?_⟩
  rw [List.mem_singleton.mp hb] at z
  exact n (z ▸ ha)
theorem mem_take_at {xs : List κ} {i : Nat} {x : κ} (h : x ∈ xs.take i) : ∃ a, a < i ∧ xs[a]? = some x := by
  obtain ⟨a, ha⟩ := List.getElem?_of_mem h
  have hl := (List.getElem?_eq_some_iff.mp ha).1
  rw [List.length_take] at hl
  exact ⟨a, by omega, by rw [← take_get (b := i) (by omega)]; exact ha⟩
theorem fl_at {xs : List κ} {a i : Nat} {x : κ} (e : xs[i]? = some x) (h : (xs.take i).Nodup) (ha : a < i) (ea : xs[a]? = some x) : IsFL xs (some (a, i)) :=
  ⟨(List.getElem?_eq_some_iff.mp e).1, h, ha, by rw [ea, e]⟩
/-! a dict's keys -/
def ky2 (d : List (κ × τ)) : List κ := d.map (·.1)
theorem dhas_k (d : List (κ × τ)) (x : κ) : dhas d x = decide (x ∈ ky2 d) := by
  unfold dhas ky2
  rw [Bool.eq_iff_iff, List.any_eq_true, decide_eq_true_eq, List.mem_map]
  exact ⟨fun ⟨p, hp, e⟩ => ⟨p, hp, of_decide_eq_true e⟩, fun ⟨p, hp, e⟩ => ⟨p, hp, decide_eq_true e⟩⟩
theorem dhas_iff {d : List (κ × τ)} {x : κ} : dhas d x = true ↔ x ∈ ky2 d := by rw [dhas_k, decide_eq_true_eq]
theorem memD_iff {x : κ} {l : List κ} : memD x l = true ↔ x ∈ l := by unfold memD; rw [decide_eq_true_eq]
theorem dset_at (d : List (κ × τ)) {x : κ} {y : τ} (h : x ∉ ky2 d) : dset d x y = d ++ [(x, y)] := by
  unfold dset
  have := dhas_k d x
  unfold dhas at this
  rw [if_neg]
  rw [this, decide_eq_true_eq]
  exact h
theorem dset_ky (d : List (κ × τ)) {x : κ} {y : τ} (h : x ∈ ky2 d) : ky2 (dset d x y) = ky2 d := by
  unfold dset
  have := dhas_k d x
  unfold dhas at this
  rw [if_pos (by rw [this, decide_eq_true_eq]; exact h)]
  unfold ky2
  rw [List.map_map]
  refine List.map_congr_left fun p _ => ?_
  show (if p.1 = x then (p.1, y) else p).1 = p.1
  split <;> rfl
theorem dset_mem (d : List (κ × τ)) (x : κ) (y : τ) (z : κ) : z ∈ ky2 (dset d x y) ↔ z = x ∨ z ∈ ky2 d := by
  by_cases h : x ∈ ky2 d
  · rw [dset_ky d h]
    exact ⟨.inr, fun q => q.elim (fun e => e ▸ h) id⟩
  · rw [dset_at d h]
    unfold ky2
    rw [List.map_append, List.mem_append]
    exact ⟨fun q => q.elim .inr fun q => .inl (List.mem_singleton.mp q), fun q => q.elim (fun e => .inr (e ▸ List.mem_singleton.mpr rfl)) .inl⟩
theorem dset_nd {d : List (κ × τ)} (n : (ky2 d).Nodup) (x : κ) (y : τ) : (ky2 (dset d x y)).Nodup := by
  by_cases h : x ∈ ky2 d
  · rw [dset_ky d h]; exact n
  · rw [dset_at d h]
    unfold ky2
    rw [List.map_append, List.nodup_append]
    exact ⟨n, List.nodup_cons.mpr ⟨nofun, List.nodup_nil⟩, fun a ha b hb z => h (by
      have e : b = x := List.mem_singleton.mp hb
      rw [← e, ← z]
      exact ha)⟩
theorem dset_lenk (d : List (κ × τ)) (x : κ) (y : τ) : (dset d x y).length ≤ d.length + 1 := by
  unfold dset
  split
  · rw [List.length_map]; omega
  · simp
theorem dmk_go : ∀ (ps d : List (κ × τ)), (ky2 d).Nodup → (ky2 (ps.foldl (fun d p => dset d p.1 p.2) d)).Nodup ∧ ∀ z, z ∈ ky2 (ps.foldl (fun d p => dset d p.1 p.2) d) ↔ z ∈ ky2 d ∨ z ∈ ky2 ps
  | [], d, n => ⟨n, fun z => ⟨.inl, fun h => h.elim id fun h => nomatch h⟩⟩
  | p :: ps, d, n => by
    obtain ⟨h1, h2⟩ := dmk_go ps (dset d p.1 p.2) (dset_nd n _ _)
    refine ⟨h1, fun z => ?_⟩
    rw [List.foldl_cons, h2, dset_mem]
    unfold ky2
    rw [List.map_cons, List.mem_cons]
    grind
theorem dmk_nd (ps : List (κ × τ)) : (ky2 (dmk ps)).Nodup := (dmk_go ps [] List.nodup_nil).1
theorem dmk_mem (ps : List (κ × τ)) (z : κ) : z ∈ ky2 (dmk ps) ↔ z ∈ ky2 ps := by
  have h := (dmk_go ps [] List.nodup_nil).2 z
  unfold dmk
  rw [h]
  exact ⟨fun q => q.elim (fun q => nomatch q) id, .inr⟩
/-! each once -/
theorem ded_mem {x : κ} : ∀ {l : List κ}, x ∈ ded l ↔ x ∈ l
  | [] => Iff.rfl
  | a :: r => by
    unfold ded
    split
    · rename_i h
      rw [ded_mem (l := r), List.mem_cons]
      exact ⟨.inr, fun q => q.elim (fun e => e ▸ ded_mem.mp h) id⟩
    · rw [List.mem_cons, List.mem_cons, ded_mem (l := r)]
theorem ded_nodup : ∀ l : List κ, (ded l).Nodup
  | [] => List.nodup_nil
  | a :: r => by
    unfold ded
    split
    · exact ded_nodup r
    · exact List.nodup_cons.mpr ⟨‹_›, ded_nodup r⟩
theorem ded_le : ∀ l : List κ, (ded l).length ≤ l.length
  | [] => Nat.le_refl _
  | a :: r => by
    have := ded_le r
    unfold ded
    split <;> simp only [List.length_cons] <;> omega
theorem ded_len_iff : ∀ l : List κ, (ded l).length = l.length ↔ l.Nodup
  | [] => ⟨fun _ => List.nodup_nil, fun _ => rfl⟩
  | a :: r => by
    have h1 := ded_le r
    have ih := ded_len_iff r
    unfold ded
    by_cases h : a ∈ ded r
    · rw [if_pos h, List.length_cons]
      refine ⟨fun e => by omega, fun n => absurd (ded_mem.mp h) (List.nodup_cons.mp n).1⟩
    · rw [if_neg h, List.length_cons, List.length_cons, List.nodup_cons]
      refine ⟨fun e => ⟨fun z => h (ded_mem.mpr z), ih.mp (by omega)⟩, fun n => by rw [ih.mpr n.2]⟩
/-! two lists of the same, each once, in order are one -/
theorem ms_same {lt : κ → κ → Bool} (tr : ∀ a b c, lt b a = false → lt c b = false → lt c a = false) (tt : ∀ a b, lt b a = false ∨ lt a b = false) (an : ∀ a b, lt a b = false → lt b a = false → a = b) {l₁ l₂ : List κ} (n1 : l₁.Nodup) (n2 : l₂.Nodup) (h : ∀ x, x ∈ l₁ ↔ x ∈ l₂) :
    (l₁.mergeSort fun a b => !lt b a) = l₂.mergeSort fun a b => !lt b a := by
  have hp : l₁.Perm l₂ := (List.perm_ext_iff_of_nodup n1 n2).mpr h
  have tr' : ∀ a b c : κ, (!lt b a) = true → (!lt c b) = true → (!lt c a) = true := fun a b c h1 h2 => by
    simp only [Bool.not_eq_true'] at h1 h2 ⊢
    exact tr a b c h1 h2
  have tt' : ∀ a b : κ, ((!lt b a) || !lt a b) = true := fun a b => by
    rcases tt a b with e | e <;> simp [e]
  refine List.Perm.eq_of_pairwise (le := fun a b => (!lt b a) = true) (fun a b _ _ h1 h2 => ?_) (List.pairwise_mergeSort tr' tt' l₁) (List.pairwise_mergeSort tr' tt' l₂) (((List.mergeSort_perm l₁ _).trans hp).trans (List.mergeSort_perm l₂ _).symm)
  simp only [Bool.not_eq_true'] at h1 h2
  exact an a b h2 h1
end
theorem ltII_tr : ∀ a b c : Int × Int, ltT2 ltI ltI b a = false → ltT2 ltI ltI c b = false → ltT2 ltI ltI c a = false := fun a b c h1 h2 => by
  unfold ltT2 ltI at *
  grind
theorem ltII_tt : ∀ a b : Int × Int, ltT2 ltI ltI b a = false ∨ ltT2 ltI ltI a b = false := fun a b => by
  unfold ltT2 ltI
  grind
theorem ltII_an : ∀ a b : Int × Int, ltT2 ltI ltI a b = false → ltT2 ltI ltI b a = false → a = b := fun a b h1 h2 => by
  unfold ltT2 ltI at *
  obtain ⟨a1, a2⟩ := a
  obtain ⟨b1, b2⟩ := b
  simp only [Prod.mk.injEq]
  grind
abbrev O3 : Plc := ((0 : Int), (0 : Int), 0)
def spt (p : Plc) (z : List Nat) : List (Int × Int) := (rows p z).map fun v => (v.1, v.2.1)
theorem spt_len (p : Plc) (z : List Nat) : (spt p z).length = z.length + 1 := by
  have : ∀ (z : List Nat) (p : Plc), (rows p z).length = z.length + 1 := fun z => by
    induction z with
    | nil => intro p; rfl
    | cons c r ih => intro p; rw [rows, List.length_cons, ih, List.length_cons]
  rw [spt, List.length_map, this]
theorem Wd.big {n : Nat} {z : List Nat} (h : Wd n z) (hn : n ≤ 1000) : Wd 1000 z := h.mono hn
theorem dget_app {κ τ : Type} [DecidableEq κ] (d : List (κ × τ)) (x k : κ) (y : τ) : dget (d ++ [(x, y)]) k = (dget d k).or (if x = k then some y else none) := by
  unfold dget
  rw [List.find?_append, Option.map_or]
  congr 1
  by_cases h : x = k
  · simp [h]
  · simp [h]
def flStep (s7 : List ((Int × Int) × Nat)) (v9 : Nat × (Int × Int)) : M Unit (Fl (List ((Int × Int) × Nat)) (Option (Nat × Nat))) := if dhas s7 v9.2 = true then bnd (bnd (bnd (opt (dget s7 v9.2)) fun x11 => ret (x11, v9.1)) fun x12 => ret (some x12)) fun x13 => ret (.rt x13) else bnd (opt (dputO s7 v9.2 v9.1)) fun x14 => ret (.nx x14)
def FlI (S : List (Int × Int)) (i : Nat) (s : List ((Int × Int) × Nat)) : Prop := ky2 s = S.take i ∧ (S.take i).Nodup ∧ (∀ x m, dget s x = some m → m < i ∧ S[m]? = some x) ∧ ∀ x ∈ ky2 s, ∃ m, dget s x = some m
theorem fl_loop {S : List (Int × Int)} (hS : S.length ≤ 1000) : ∀ (r : List (Int × Int)) (i : Nat) (s : List ((Int × Int) × Nat)), S.drop i = r → i ≤ S.length → FlI S i s →
    Tot (loopN flStep (enN i r) s) () fun f _ => (∃ s', f = .nx s' ∧ IsFL S none) ∨ ∃ o, f = .rt o ∧ IsFL S o
  | [], i, s, e, hi, ⟨_, nd, _⟩ => Tot.ret (.inl ⟨s, rfl, by
    have : S.length ≤ i := List.drop_eq_nil_iff.mp e
    rw [List.take_of_length_le this] at nd
    exact nd⟩)
  | x :: r, i, s, e, hi, ⟨h1, nd, h2, h3⟩ => by
    have ex : S[i]? = some x := by
      have : (S.drop i)[0]? = some x := by rw [e]; rfl
      rwa [List.getElem?_drop, Nat.add_zero] at this
    have er : S.drop (i + 1) = r := by
      have : (S.drop i).drop 1 = r := by rw [e]; rfl
      rwa [List.drop_drop] at this
    have hl : i < S.length := (List.getElem?_eq_some_iff.mp ex).1
    rw [enN, loopN]
    unfold flStep
    by_cases hx : x ∈ ky2 s
    · obtain ⟨m, hm⟩ := h3 x hx
      obtain ⟨m1, m2⟩ := h2 x m hm
      rw [if_pos (dhas_iff.mpr hx)]
      dsimp only
      rw [hm]
      exact Tot.ret (.inr ⟨some (m, i), rfl, fl_at ex nd m1 m2⟩)
    · rw [if_neg fun z => hx (dhas_iff.mp z)]
      have ls : s.length = i := by
        have := congrArg List.length h1
        unfold ky2 at this
        rw [List.length_map, List.length_take] at this
        omega
      have e1 : dputO s x i = some (s ++ [(x, i)]) := by
        unfold dputO
        rw [if_pos (by rw [ls]; exact Nat.lt_of_lt_of_le (by omega : i < 1001) (by decide)), dset_at s hx]
      dsimp only
      rw [e1]
      refine fl_loop hS r (i + 1) (s ++ [(x, i)]) er hl ⟨?_, nd_succ ex nd (h1 ▸ hx), fun y m hm => ?_, fun y hy => ?_⟩
      · unfold ky2 at h1 ⊢
        rw [List.map_append, h1, List.take_succ, ex]
        rfl
      · rw [dget_app] at hm
        cases hd : dget s y with
        | some m' =>
          rw [hd] at hm
          cases hm
          have := h2 y m hd
          exact ⟨by omega, this.2⟩
        | none =>
          rw [hd] at hm
          by_cases q : x = y
          · rw [if_pos q] at hm
            cases hm
            exact ⟨by omega, q ▸ ex⟩
          · rw [if_neg q] at hm
            cases hm
      · rw [dget_app]
        cases hd : dget s y with
        | some m => exact ⟨m, rfl⟩
        | none =>
          unfold ky2 at hy
          rw [List.map_append, List.mem_append] at hy
          rcases hy with hy | hy
          · obtain ⟨m, hm⟩ := h3 y hy
            rw [hd] at hm
            cases hm
          · have : y = x := List.mem_singleton.mp hy
            exact ⟨i, by rw [if_pos this.symm]; rfl⟩
theorem q_first_loop {z : List Nat} (h : Wd 60 z) : Tot (n_first_loop z) () fun r _ => IsFL (spt O3 z) r := by
  unfold n_first_loop
  refine Tot.bnd0 (a := ()) (by unfold n_need_word; rw [ext_ok h]; rfl) ?_
  refine Tot.bnd0 (a := spt O3 z) (by unfold n_places_in; rw [ext_ok ⟨by decide, h.big (by decide)⟩]; rfl) ?_
  have hS : (spt O3 z).length ≤ 1000 := by rw [spt_len]; have := h.1; omega
  refine Tot.bind (Ψ := fun f _ => (∃ s', f = .nx s' ∧ IsFL (spt O3 z) none) ∨ ∃ o, f = .rt o ∧ IsFL (spt O3 z) o) ?_ fun f c q => ?_
  · exact fl_loop hS (spt O3 z) 0 [] rfl (Nat.zero_le _) ⟨rfl, List.nodup_nil, fun x m e => (by cases e), fun x hx => (nomatch hx)⟩
  · rcases q with ⟨s', rfl, q⟩ | ⟨o, rfl, q⟩
    · exact Tot.ret q
    · exact Tot.ret q
/-! is_simple -/
theorem cut_last {α : Type} (xs : List α) : cutL xs none (some (-(1 : Int))) = xs.dropLast := by
  rw [List.dropLast_eq_take]
  unfold cutL HT.sIx
  cases xs with
  | nil => simp
  | cons x r => simp; try omega
theorem q_is_simple {z : List Nat} (h : Wd 60 z) : n_is_simple z = ret (decide ((if clB z = true then (spt O3 z).dropLast else spt O3 z).Nodup)) := by
  have e : n_is_simple z = bnd (opt (lenSO (if clB z = true then (spt O3 z).dropLast else spt O3 z))) fun x10 => ret (decide (x10 = (if clB z = true then (spt O3 z).dropLast else spt O3 z).length)) := by
    unfold n_is_simple n_need_word n_places_in n_closes_in
    rw [ext_ok h, ext_ok (p := _ ∧ _) ⟨by decide, h.big (by decide)⟩, ext_ok (h.big (by decide))]
    rw [l_ret, r_bnd, l_ret, r_bnd, r_bnd, r_bnd, l_ret, r_bnd]
    show bnd (if clB z = true then ret (cutL (spt O3 z) none (some (-(1 : Int)))) else ret (spt O3 z)) (fun x8 => bnd (opt (lenSO x8)) fun x10 => ret (decide (x10 = x8.length))) = _
    rw [cut_last]
    cases clB z <;> rfl
  rw [e]
  generalize hx : (if clB z = true then (spt O3 z).dropLast else spt O3 z) = xs
  have hl : xs.length < 64 := by
    have h1 := spt_len O3 z
    have h2 := h.1
    rw [← hx]
    split
    · rw [List.length_dropLast]; omega
    · omega
  unfold lenSO
  rw [if_pos hl, o_some, r_bnd]
  congr 1
  rw [decide_eq_decide]
  exact ded_len_iff xs
/-! simple_beginning -/
theorem beg_run {S : List (Int × Int)} {t : Nat → M Unit Bool} {st : Nat → M Unit Nat} (ht : ∀ s, s < S.length → t s = ret (!memD (S.getD s (0, 0)) (S.take s))) (ht2 : t S.length = ret false) (hst : ∀ s, st s = ret (s + 1)) :
    ∀ (k fuel s : Nat), S.length - s = k → k < fuel → s ≤ S.length → (S.take s).Nodup → ∃ s', whileN t st fuel s = ret s' ∧ s ≤ s' ∧ s' ≤ S.length ∧ (S.take s').Nodup ∧ (s' < S.length → ∃ a, IsFL S (some (a, s')))
  | k, 0, s, _, hf, _, _ => by omega
  | k, fuel + 1, s, hk, hf, hs, nd => by
    rw [whileN]
    by_cases hl : s < S.length
    · have ex : S[s]? = some (S.getD s (0, 0)) := by rw [List.getD_eq_getElem?_getD, List.getElem?_eq_getElem hl]; rfl
      rw [ht s hl, r_bnd]
      by_cases hm : S.getD s (0, 0) ∈ S.take s
      · rw [memD_iff.mpr hm]
        obtain ⟨a, ha, ea⟩ := mem_take_at hm
        exact ⟨s, rfl, Nat.le_refl _, hs, nd, fun _ => ⟨a, fl_at ex nd ha ea⟩⟩
      · have : memD (S.getD s (0, 0)) (S.take s) = false := Bool.eq_false_iff.mpr fun z => hm (memD_iff.mp z)
        rw [this, Bool.not_false, if_pos rfl, hst, r_bnd]
        obtain ⟨s', e, h1, h2, h3, h4⟩ := beg_run ht ht2 hst (k - 1) fuel (s + 1) (by omega) (by omega) hl (nd_succ ex nd hm)
        exact ⟨s', e, by omega, h2, h3, h4⟩
    · have e : s = S.length := by omega
      subst e
      rw [ht2, r_bnd]
      exact ⟨S.length, rfl, Nat.le_refl _, Nat.le_refl _, nd, fun z => absurd z (Nat.lt_irrefl _)⟩
def begF (z : List Nat) : Option (Nat × Nat) → List Nat
  | none => z
  | some (_, b) => z.take (b - 1)
theorem q_simple_beginning {z : List Nat} (h : Wd 60 z) {r : Option (Nat × Nat)} (hr : IsFL (spt O3 z) r) : n_simple_beginning z = ret (begF z r) := by
  have hz := h.1
  have hS := spt_len O3 z
  unfold n_simple_beginning n_need_word n_places_in
  rw [ext_ok h, ext_ok (p := _ ∧ _) ⟨by decide, h.big (by decide)⟩]
  obtain ⟨s', e, h1, h2, h3, h4⟩ := beg_run (S := spt O3 z) (t := fun s8 : Nat => bnd (ret (decide (s8 < (spt O3 z).length))) fun k16 => if k16 = true then bnd (opt ((spt O3 z)[s8]?)) fun x15 => ret (!memD x15 ((spt O3 z).take s8)) else ret false) (st := fun s8 : Nat => bnd (ret (s8 + 1)) fun x13 => ret x13)
    (fun s hs => by
      rw [decide_eq_true hs, r_bnd, if_pos rfl, List.getD_eq_getElem?_getD, List.getElem?_eq_getElem hs]
      rfl)
    (by rw [decide_eq_false (Nat.lt_irrefl _)]; rfl) (fun s => rfl) ((spt O3 z).length - 1) 1000 1 rfl (by omega) (by omega) (by
      rw [show (spt O3 z) = (rows O3 z).map _ from rfl]
      have : (((rows O3 z).map fun v => (v.1, v.2.1)).take 1).length ≤ 1 := by rw [List.length_take]; omega
      generalize ((rows O3 z).map fun v => (v.1, v.2.1)).take 1 = l at this
      match l, this with
      | [], _ => exact List.nodup_nil
      | [x], _ => exact List.nodup_cons.mpr ⟨nofun, List.nodup_nil⟩)
  have e2 : begF z r = z.take (s' - 1) := by
    by_cases hl : s' < (spt O3 z).length
    · obtain ⟨a, ha⟩ := h4 hl
      rw [isFL_uniq hr ha]
      rfl
    · have es : s' = (spt O3 z).length := by omega
      have : IsFL (spt O3 z) none := by
        rw [es, List.take_length] at h3
        exact h3
      rw [isFL_uniq hr this, es, hS, Nat.add_sub_cancel, List.take_length]
      rfl
  rw [e2, l_ret, r_bnd, l_ret, r_bnd, r_bnd, r_bnd]
  show bnd (whileN (fun s8 : Nat => bnd (ret (decide (s8 < (spt O3 z).length))) fun k16 => if k16 = true then bnd (opt ((spt O3 z)[s8]?)) fun x15 => ret (!memD x15 ((spt O3 z).take s8)) else ret false) (fun s8 : Nat => bnd (ret (s8 + 1)) fun x13 => ret x13) 1000 1) (fun s18 : Nat => opt (szO z (cutL z none (some (((s18 : Nat) : Int) - (1 : Int)))))) = _
  rw [e, r_bnd]
  have e3 : cutL z none (some (((s' : Nat) : Int) - (1 : Int))) = z.take (s' - 1) := by
    rw [show ((s' : Nat) : Int) - 1 = ((s' - 1 : Nat) : Int) by omega, cut_take]
  rw [e3]
  show opt (szO z (z.take (s' - 1))) = _
  unfold szO
  rw [if_pos (Nat.le_trans hz (by decide)), o_some]
/-! spots in common -/
theorem dcN_all {υ κ τ : Type} [DecidableEq κ] (k : υ → κ) (h : υ → τ) : ∀ (xs : List υ) (d : List (κ × τ)), d.length + xs.length ≤ sizeLine → dcN (fun _ => ret true) (fun x => ret (k x)) (fun x => ret (h x)) d xs = (ret ((xs.map fun x => (k x, h x)).foldl (fun d p => dset d p.1 p.2) d) : M Unit (List (κ × τ)))
  | [], d, _ => rfl
  | x :: r, d, hl => by
    rw [List.length_cons] at hl
    have e : dputO d (k x) (h x) = some (dset d (k x) (h x)) := by
      unfold dputO
      rw [if_pos (by omega)]
    have hs := dset_lenk d (k x) (h x)
    rw [dcN, n_ret, r_bnd, if_pos rfl, n_ret, r_bnd, n_ret, r_bnd, e, o_some, r_bnd, dcN_all k h r _ (by omega), List.map_cons, List.foldl_cons]
abbrev srtP (l : List (Int × Int)) : List (Int × Int) := l.mergeSort fun a b => !ltT2 ltI ltI b a
def cmn (p : Plc) (z : List Nat) (q : Plc) (w : List Nat) : List (Int × Int) := srtP (ded ((spt p z).filter fun x => memD x (spt q w)))
theorem filter_map_spt {f : Int × Int → Bool} (l : List Plc) : (l.filter fun v => f (v.1, v.2.1)).map (fun v => (v.1, v.2.1)) = (l.map fun v => (v.1, v.2.1)).filter f := by
  rw [List.filter_map]
  rfl
theorem Near.w {n : Int} {p : Plc} (h : Near n p) : p.2.2 < 4 := h.2.2.2.2
theorem q_common {p q : Plc} {z w : List Nat} (hp : Near 100 p) (hq : Near 100 q) (hz : Wd 60 z) (hw : Wd 60 w) : n_common_spots p z q w = ret (cmn p z q w) := by
  have h1 : n_need_place p = ret () := ext_ok hp
  have h2 : n_need_place q = ret () := ext_ok hq
  have h3 : n_need_word z = ret () := ext_ok hz
  have h4 : n_need_word w = ret () := ext_ok hw
  have h5 : n_places_in p z = ret (rows p z) := ext_ok ⟨hp.w, hz.big (by decide)⟩
  have h6 : n_places_in q w = ret (rows q w) := ext_ok ⟨hq.w, hw.big (by decide)⟩
  have lz := rows_len z p
  have lw := rows_len w q
  have hz1 := hz.1
  have hw1 := hw.1
  unfold n_common_spots
  rw [h1, h2, h3, h4, h5, h6]
  simp only [l_ret, r_bnd, bb]
  rw [dcN_all (fun v2 : Int × Int × Nat => (v2.1, v2.2.1)) (fun _ => true) (rows q w) [] (by rw [lw]; exact Nat.le_trans (by simp; omega : _ ≤ 1000) (by decide)), r_bnd]
  have hk : ∀ x, dhas (((rows q w).map fun v => ((v.1, v.2.1), true)).foldl (fun d p => dset d p.1 p.2) []) x = memD x (spt q w) := fun x => by
    rw [Bool.eq_iff_iff, dhas_iff, memD_iff]
    have := dmk_mem ((rows q w).map fun v => ((v.1, v.2.1), true)) x
    unfold dmk at this
    rw [this]
    unfold ky2 spt
    rw [List.map_map]
    rfl
  simp only [hk]
  rw [filter_map_spt (f := fun x => memD x (spt q w))]
  have hl : (((rows p z).map fun v => (v.1, v.2.1)).filter fun x => memD x (spt q w)).length < 64 := by
    have := List.length_filter_le (fun x => memD x (spt q w)) ((rows p z).map fun v => (v.1, v.2.1))
    rw [List.length_map, lz] at this
    omega
  unfold sortSO
  rw [if_pos hl]
  rfl
theorem srtP_same {l₁ l₂ : List (Int × Int)} (n1 : l₁.Nodup) (n2 : l₂.Nodup) (h : ∀ x, x ∈ l₁ ↔ x ∈ l₂) : srtP l₁ = srtP l₂ := ms_same ltII_tr ltII_tt ltII_an n1 n2 h
theorem cmn_comm (p : Plc) (z : List Nat) (q : Plc) (w : List Nat) : cmn p z q w = cmn q w p z := srtP_same (ded_nodup _) (ded_nodup _) fun x => by
  rw [ded_mem, ded_mem, List.mem_filter, List.mem_filter, memD_iff, memD_iff]
  exact And.comm
/-! bounds, drift -/
theorem q_within {p : Plc} {z : List Nat} (hp : Near 100 p) (hz : Wd 60 z) : n_within_bounds p z = ret ((rows p z).all fun v => decide (v.1.natAbs ≤ 100) && decide (v.2.1.natAbs ≤ 100)) := by
  have h1 : n_need_place p = ret () := ext_ok hp
  have h3 : n_need_word z = ret () := ext_ok hz
  have h5 : n_places_in p z = ret (rows p z) := ext_ok ⟨hp.w, hz.big (by decide)⟩
  unfold n_within_bounds
  rw [h1, h3, h5]
  simp only [l_ret, r_bnd, bb, List.all_map]
  rfl
theorem q_drift {z : List Nat} (hz : Wd 60 z) : n_drift_of z = ret ((endp O3 z).1.natAbs + (endp O3 z).2.1.natAbs) := by
  have h3 : n_need_word z = ret () := ext_ok hz
  have h5 : n_end_in O3 z = ret (endp O3 z) := ext_ok ⟨by decide, hz.big (by decide)⟩
  unfold n_drift_of
  rw [h3, h5]
  simp only [l_ret, r_bnd]
/-! the nearest place -/
theorem minNO_min {xs : List Nat} (h : xs ≠ []) : ∃ m, minNO xs = some m ∧ m ∈ xs ∧ ∀ y ∈ xs, m ≤ y := by
  have go : ∀ (r : List Nat) (a : Nat), (r.foldl min a ∈ a :: r) ∧ ∀ y ∈ a :: r, r.foldl min a ≤ y := fun r => by
    induction r with
    | nil => intro a; exact ⟨List.mem_cons_self, fun y hy => by rw [List.mem_singleton.mp hy]; exact Nat.le_refl _⟩
    | cons b r ih =>
      intro a
      rw [List.foldl_cons]
      obtain ⟨h1, h2⟩ := ih (min a b)
      refine ⟨?_, fun y hy => ?_⟩
      · rcases List.mem_cons.mp h1 with e | e
        · rw [e]
          rcases Nat.le_total a b with q | q
          · rw [Nat.min_eq_left q]; exact List.mem_cons_self
          · rw [Nat.min_eq_right q]; exact List.mem_cons_of_mem _ List.mem_cons_self
        · exact List.mem_cons_of_mem _ (List.mem_cons_of_mem _ e)
      · have h3 := h2 (min a b) List.mem_cons_self
        rcases List.mem_cons.mp hy with rfl | hy
        · exact Nat.le_trans h3 (Nat.min_le_left _ _)
        · rcases List.mem_cons.mp hy with rfl | hy
          · exact Nat.le_trans h3 (Nat.min_le_right _ _)
          · exact h2 y (List.mem_cons_of_mem _ hy)
  cases xs with
  | nil => exact absurd rfl h
  | cons a r => exact ⟨_, rfl, go r a⟩
def nearF (F : List Nat) : Nat := F.findIdx fun y => decide (y = (minNO F).getD 0)
theorem near_at {F : List Nat} (h : F ≠ []) : ∃ m, minNO F = some m ∧ nearF F < F.length ∧ F[nearF F]? = some m ∧ ∀ j, j < nearF F → F[j]? ≠ some m := by
  obtain ⟨m, e, hm, _⟩ := minNO_min h
  have el : nearF F = F.findIdx fun y => decide (y = m) := by unfold nearF; rw [e]; rfl
  have hl : F.findIdx (fun y => decide (y = m)) < F.length := List.findIdx_lt_length_of_exists ⟨m, hm, decide_eq_true rfl⟩
  refine ⟨m, e, by rw [el]; exact hl, ?_, fun j hj ej => ?_⟩
  · rw [el, List.getElem?_eq_getElem hl]
    have := List.findIdx_getElem (xs := F) (p := fun y => decide (y = m)) (w := hl)
    rw [of_decide_eq_true this]
  · rw [el] at hj
    have h1 := List.not_of_lt_findIdx hj
    obtain ⟨hj2, ej⟩ := List.getElem?_eq_some_iff.mp ej
    rw [ej] at h1
    simp at h1
theorem shp_Ns (F : List Nat) : shp deep (.lst (F.map eN)) = true := by
  unfold shp
  rw [List.all_map]
  exact List.all_eq_true.mpr fun x _ => rfl
def farF (p : Plc) (z : List Nat) (s : Int × Int) : List Nat := (rows p z).map fun v => (v.1 - s.1).natAbs + (v.2.1 - s.2).natAbs
theorem farF_ne (p : Plc) (z : List Nat) (s : Int × Int) : farF p z s ≠ [] := fun h => by
  have := congrArg List.length h
  rw [farF, List.length_map, rows_len] at this
  cases this
theorem q_nearest {p : Plc} {z : List Nat} {s : Int × Int} (hp : Near 100 p) (hz : Wd 60 z) (hs : Nsp 100 s) : n_nearest_place p z s = ret (nearF (farF p z s)) := by
  have h1 : n_need_place p = ret () := ext_ok hp
  have h2 : n_need_spot s = ret () := ext_ok hs
  have h3 : n_need_word z = ret () := ext_ok hz
  have h5 : n_places_in p z = ret (rows p z) := ext_ok ⟨hp.w, hz.big (by decide)⟩
  unfold n_nearest_place
  rw [h1, h2, h3, h5]
  simp only [l_ret, r_bnd]
  show bnd (opt (minNO (farF p z s))) (fun x7 => opt (idxL eN (farF p z s) x7)) = _
  obtain ⟨m, e, hl, _, _⟩ := near_at (farF_ne p z s)
  rw [e, o_some, r_bnd]
  have el : nearF (farF p z s) = (farF p z s).findIdx fun y => decide (y = m) := by unfold nearF; rw [e]; rfl
  unfold idxL
  rw [if_pos ⟨⟨rfl, shp_Ns _⟩, el ▸ hl⟩, o_some, el]
theorem law_near {F : List Nat} (h : F ≠ []) {m : Nat} (e : minNO F = some m) : minNO ((List.range F.length).filter fun v => decide (F[v]? = some m)) = some (nearF F) := by
  obtain ⟨m', e', hl, ea, nb⟩ := near_at h
  rw [e] at e'
  cases e'
  have mem : nearF F ∈ (List.range F.length).filter fun v => decide (F[v]? = some m) := List.mem_filter.mpr ⟨List.mem_range.mpr hl, decide_eq_true ea⟩
  obtain ⟨k, ek, hk, hk2⟩ := minNO_min (List.ne_nil_of_mem mem)
  rw [ek]
  congr 1
  have h1 := hk2 _ mem
  have h2 := of_decide_eq_true (List.mem_filter.mp hk).2
  rcases Nat.lt_or_ge k (nearF F) with q | q
  · exact absurd h2 (nb k q)
  · omega
/-! simple -/
theorem rows_take : ∀ (z : List Nat) (p : Plc) (k : Nat), rows p (z.take k) = (rows p z).take (k + 1)
  | [], p, k => by simp [rows]
  | c :: r, p, 0 => by simp [rows]
  | c :: r, p, k + 1 => by
    rw [List.take_succ_cons, rows, rows, List.take_succ_cons, rows_take r _ k]
theorem spt_take (z : List Nat) (p : Plc) (k : Nat) : spt p (z.take k) = (spt p z).take (k + 1) := by
  rw [spt, rows_take, List.map_take]
  rfl
theorem spt_get {z : List Nat} {p : Plc} {i : Nat} (h : i ≤ z.length) : (spt p z)[i]? = some ((endp p (z.take i)).1, (endp p (z.take i)).2.1) := by
  rw [spt, List.getElem?_map, rows_get z p i h]
  rfl
theorem Wd.take {n : Nat} {z : List Nat} (h : Wd n z) (k : Nat) : Wd n (z.take k) := ⟨by rw [List.length_take]; have := h.1; omega, fun c hc => h.2 c (List.mem_of_mem_take hc)⟩
theorem begF_wd {n : Nat} {z : List Nat} (h : Wd n z) (r : Option (Nat × Nat)) : Wd n (begF z r) := by
  cases r with
  | none => exact h
  | some q => exact h.take _
theorem nd_drop {xs : List (Int × Int)} (h : xs.Nodup) : xs.dropLast.Nodup := (List.dropLast_sublist xs).nodup h
theorem q_beg_simple {z : List Nat} (hz : Wd 60 z) {r : Option (Nat × Nat)} (hr : IsFL (spt O3 z) r) : n_is_simple (begF z r) = ret true := by
  rw [q_is_simple (begF_wd hz r)]
  have nd : (spt O3 (begF z r)).Nodup := by
    cases r with
    | none => exact hr
    | some q =>
      obtain ⟨a, b⟩ := q
      obtain ⟨_, h2, h3, _⟩ := hr
      show (spt O3 (z.take (b - 1))).Nodup
      rw [spt_take, show b - 1 + 1 = b by omega]
      exact h2
  congr 1
  rw [decide_eq_true_eq]
  split
  · exact nd_drop nd
  · exact nd
def smpF (z : List Nat) (r : Option (Nat × Nat)) : Bool := r.isNone || (clB z && decide (r = some (0, z.length)))
theorem q_simple {z : List Nat} (hz : Wd 60 z) {r : Option (Nat × Nat)} (hr : IsFL (spt O3 z) r) : n_is_simple z = ret (smpF z r) := by
  rw [q_is_simple hz]
  congr 1
  have hS := spt_len O3 z
  cases r with
  | none =>
    have nd : (spt O3 z).Nodup := hr
    show _ = true
    rw [decide_eq_true_eq]
    split
    · exact nd_drop nd
    · exact nd
  | some q =>
    obtain ⟨a, b⟩ := q
    show _ = (clB z && decide (some (a, b) = some (0, z.length)))
    obtain ⟨h1, h2, h3, h4⟩ := id hr
    cases hc : clB z with
    | false =>
      rw [if_neg Bool.false_ne_true, Bool.false_and, decide_eq_false_iff_not]
      intro nd
      have := isFL_not hr h1
      rw [List.take_length] at this
      exact this nd
    | true =>
      rw [if_pos rfl, Bool.true_and, decide_eq_decide]
      have ed : (spt O3 z).dropLast = (spt O3 z).take z.length := by rw [List.dropLast_eq_take, hS, Nat.add_sub_cancel]
      rw [ed]
      have cl : endp (0, 0, 0) z = (0, 0, 0) := by
        unfold clB at hc
        rw [Bool.and_eq_true] at hc
        exact of_decide_eq_true hc.2
      have s0 : (spt O3 z)[0]? = some (0, 0) := by rw [spt_get (Nat.zero_le _)]; rfl
      have sl : (spt O3 z)[z.length]? = some (0, 0) := by rw [spt_get (Nat.le_refl _), List.take_length, show endp O3 z = (0, 0, 0) from cl]
      constructor
      · intro nd
        have eb : b = z.length := by
          rcases Nat.lt_or_ge b z.length with q | q
          · exact absurd nd (isFL_not hr q)
          · omega
        subst eb
        have : a = 0 := (List.getElem?_inj (l := (spt O3 z).take z.length) (i := a) (j := 0) (by rw [List.length_take]; omega) h2).mp (by rw [take_get h3, take_get (by omega), h4, sl, s0])
        rw [this]
      · intro e
        injection e with e
        injection e with e1 e2
        rw [← e2]
        exact h2
theorem tot_unit {α : Type} {m : M Unit α} {Φ : α → Unit → Prop} (h : Tot m () Φ) : ∃ a, m = ret a ∧ Φ a () := by
  obtain ⟨a, c, e, q⟩ := h
  exact ⟨a, funext fun _ => e, q⟩
theorem e_first_loop {z : List Nat} (h : Wd 60 z) {r : Option (Nat × Nat)} (hr : IsFL (spt O3 z) r) : n_first_loop z = ret r := by
  obtain ⟨a, e, q⟩ := tot_unit (q_first_loop h)
  rw [e, isFL_uniq q hr]
theorem same_ret {C : Type} {m : M C Vl} {v : Vl} (e : m = ret v) (h : sok 8 v = true) : (bnd (bnd m fun x => lif (n__law_same x v)) fun k => ret (!k)) = (ret false : M C Bool) := by
  rw [e, r_bnd, q__law_same h, l_ret, r_bnd]
  rfl
theorem sok_sp (l : List (Int × Int)) (h : l.length ≤ 16777216) : sok 7 (eVt (eT2 Vl.int Vl.int) l) = true := by
  show (decide ((l.map (eT2 Vl.int Vl.int)).length ≤ 16777216) && (l.map (eT2 Vl.int Vl.int)).all (sok 6)) = true
  rw [List.length_map, decide_eq_true h, List.all_map, Bool.true_and, List.all_eq_true]
  exact fun _ _ => rfl
theorem sok_lp (r : Option (Nat × Nat)) : sok 7 (eO (eT2 eN eN) r) = true := by cases r <;> rfl
def lpStep (S : List (Int × Int)) (s20 : Option (Nat × Nat)) (v22 : Nat) : M Cup (Option (Nat × Nat)) := bnd (bnd (opt (rngO v22)) fun x39 => compN (fun v35 : Nat => bnd (opt (S[v35]?)) fun x37 => bnd (opt (S[v22]?)) fun x38 => ret (decide (x37 = x38))) (fun v35 : Nat => ret v35) x39) fun x40 => bnd (if (s20.isNone && (!decide (x40 = ([] : (List Nat))))) = true then bnd (bnd (opt (x40[0]?)) fun x42 => ret (x42, v22)) fun x43 => ret (some x43) else ret s20) fun x44 => ret x44
theorem lp_step {S : List (Int × Int)} (hS : S.length ≤ 1000) {i : Nat} (hi : i < S.length) {s : Option (Nat × Nat)} (h : (s = none ∧ (S.take i).Nodup) ∨ ∃ a b, s = some (a, b) ∧ b < i ∧ IsFL S (some (a, b))) :
    ∃ s', lpStep S s i = ret s' ∧ ((s' = none ∧ (S.take (i + 1)).Nodup) ∨ ∃ a b, s' = some (a, b) ∧ b < i + 1 ∧ IsFL S (some (a, b))) := by
  have ei := List.getElem?_eq_getElem hi
  have ec : (compN (fun v35 : Nat => bnd (opt (S[v35]?)) fun x37 => bnd (opt (S[i]?)) fun x38 => ret (decide (x37 = x38))) (fun v35 : Nat => ret v35) (List.range i) : M Cup (List Nat)) = ret ((List.range i).filter fun v => decide (S[v]? = S[i]?)) := by
    rw [compN_ok (p := fun v => decide (S[v]? = S[i]?)) (g := fun v => v) (List.range i) (fun v hv => ?_) (fun v _ _ => rfl), List.map_id']
    have hv : v < i := List.mem_range.mp hv
    have ev := List.getElem?_eq_getElem (l := S) (i := v) (by omega)
    rw [ev, ei, o_some, r_bnd, o_some, r_bnd]
    congr 1
    rw [decide_eq_decide]
    exact ⟨fun e => by rw [e], fun e => by injection e⟩
  unfold lpStep
  rw [rngO_ok (by omega), o_some, r_bnd, ec, r_bnd]
  generalize hL : (List.range i).filter (fun v => decide (S[v]? = S[i]?)) = L
  rcases h with ⟨rfl, nd⟩ | ⟨a, b, rfl, hb, hf⟩
  · cases L with
    | nil =>
      refine ⟨none, rfl, .inl ⟨rfl, nd_succ ei nd fun hm => ?_⟩⟩
      obtain ⟨a, ha, ea⟩ := mem_take_at hm
      have : a ∈ (List.range i).filter (fun v => decide (S[v]? = S[i]?)) := List.mem_filter.mpr ⟨List.mem_range.mpr ha, decide_eq_true (by rw [ea, ei])⟩
      rw [hL] at this
      cases this
    | cons a r =>
      have hm : a ∈ (List.range i).filter (fun v => decide (S[v]? = S[i]?)) := by rw [hL]; exact List.mem_cons_self
      obtain ⟨h1, h2⟩ := List.mem_filter.mp hm
      have h1 := List.mem_range.mp h1
      have h2 := of_decide_eq_true h2
      exact ⟨some (a, i), rfl, .inr ⟨a, i, rfl, Nat.lt_succ_self i, hi, nd, h1, h2⟩⟩
  · exact ⟨some (a, b), rfl, .inr ⟨a, b, rfl, by omega, hf⟩⟩
theorem lp_run {S : List (Int × Int)} (hS : S.length ≤ 1000) {c : Cup} : Tot (foldN (lpStep S) (List.range S.length) none) c fun r c' => c' = c ∧ IsFL S r := by
  have h := Tot.foldN (step := lpStep S) (I := fun xs s c' => c' = c ∧ ∃ i, i ≤ S.length ∧ xs = List.range' i (S.length - i) ∧ ((s = none ∧ (S.take i).Nodup) ∨ ∃ a b, s = some (a, b) ∧ b < i ∧ IsFL S (some (a, b)))) (fun x r s c' ⟨e, i, hi, ex, q⟩ => by
    have hl : i < S.length := by
      rcases Nat.lt_or_ge i S.length with q | q
      · exact q
      · rw [show S.length - i = 0 by omega] at ex; cases ex
    rw [show S.length - i = (S.length - (i + 1)) + 1 by omega, List.range'_succ] at ex
    injection ex with e1 e2
    subst e1
    obtain ⟨s', es, q'⟩ := lp_step hS hl q
    rw [es]
    exact Tot.ret ⟨e, x + 1, hl, e2, q'⟩) (List.range S.length) none c ⟨rfl, 0, Nat.zero_le _, by rw [List.range_eq_range', Nat.sub_zero], .inl ⟨rfl, List.nodup_nil⟩⟩
  refine h.mono fun r c' ⟨e, i, hi, ex, q⟩ => ⟨e, ?_⟩
  have ei : i = S.length := by
    have := congrArg List.length ex
    rw [List.length_range'] at this
    simp at this
    omega
  subst ei
  rcases q with ⟨rfl, nd⟩ | ⟨a, b, rfl, _, f⟩
  · rw [List.take_length] at nd; exact nd
  · exact f
theorem q_word {c : Cup} (g : Good c) : Tot (bnd (bnd (n__law_word () 8) fun x6 => bnd (n__law_word () 30) fun x7 => bnd (n__law_round ()) fun x8 => bnd (bnd (n__law_round ()) fun x5 => opt (catS x5 [115])) fun x9 => ret [x6, x7, x8, x9]) fun x10 => n__law_some x10) c fun z c' => Good c' ∧ Wd 37 z := by
  refine Tot.bind (Ψ := fun L c' => Good c' ∧ (∀ z ∈ L, Wd 37 z) ∧ L ≠ [] ∧ L.length = 4) ?_ fun L c' ⟨g', h1, h2, h3⟩ => (q__law_some g' h2 (by omega)).mono fun z c2 ⟨g2, hz⟩ => ⟨g2, h1 z hz⟩
  refine Tot.bind (q__law_word g (by decide)) fun x6 c1 ⟨g1, h6⟩ => ?_
  refine Tot.bind (q__law_word g1 (by decide)) fun x7 c2 ⟨g2, h7⟩ => ?_
  refine Tot.bind (q__law_round g2) fun x8 c3 ⟨g3, h8⟩ => ?_
  refine Tot.bind (Ψ := fun z c' => Good c' ∧ Wd 37 z) ?_ fun x9 c4 ⟨g4, h9⟩ => ?_
  · refine Tot.bind (q__law_round g3) fun x5 c4 ⟨g4, h5⟩ => ?_
    have w := h5.wd.1
    rw [catS_ok (by have := w.1; simp; omega), o_some]
    refine Tot.ret ⟨g4, by have := w.1; simp; omega, fun c hc => ?_⟩
    rcases List.mem_append.mp hc with hc | hc
    · exact w.2 c hc
    · rw [List.mem_singleton.mp hc]; exact .inl rfl
  · refine Tot.ret ⟨g4, fun z hz => ?_, by simp, rfl⟩
    simp only [List.mem_cons, List.not_mem_nil, or_false] at hz
    rcases hz with rfl | rfl | rfl | rfl
    · exact h6.mono (by decide)
    · exact h7.mono (by decide)
    · exact h8.wd.1.mono (by decide)
    · exact h9
theorem last_spt (z : List Nat) : atI (spt O3 z) (-(1 : Int)) = some ((endp O3 z).1, (endp O3 z).2.1) := by
  obtain ⟨l, e⟩ := rows_last z O3
  unfold spt
  rw [e, List.map_append]
  exact atI_neg1 _ _
theorem both_ok {p q : Plc} {z w : List Nat} (hz : Wd 60 z) : (opt (sortVO (eT2 Vl.int Vl.int) (ltT2 ltI ltI) ((dmk (((spt p z).filter (fun v96 : (Int × Int) => memD v96 (spt q w))).map (fun v96 : (Int × Int) => (v96, true)))).map (·.1))) : M Cup (List (Int × Int))) = ret (cmn p z q w) := by
  have h1 : ky2 (dmk (((spt p z).filter (fun v96 : (Int × Int) => memD v96 (spt q w))).map (fun v96 : (Int × Int) => (v96, true)))) = ky2 (dmk (((spt p z).filter (fun v96 : (Int × Int) => memD v96 (spt q w))).map (fun v96 : (Int × Int) => (v96, true)))) := rfl
  generalize hD : dmk (((spt p z).filter (fun v96 : (Int × Int) => memD v96 (spt q w))).map (fun v96 : (Int × Int) => (v96, true))) = D
  have nd : (ky2 D).Nodup := by rw [← hD]; exact dmk_nd _
  have mem : ∀ x, x ∈ ky2 D ↔ x ∈ ded ((spt p z).filter fun x => memD x (spt q w)) := fun x => by
    rw [← hD, dmk_mem, ded_mem]
    unfold ky2
    rw [List.map_map, show ((fun x : (Int × Int) × Bool => x.1) ∘ fun v96 : Int × Int => (v96, true)) = id from rfl, List.map_id]
  have eo : ordV ((ky2 D).map (eT2 Vl.int Vl.int)) = true := by
    have := ordV_eI ((ky2 D).map fun p => [p.1, p.2])
    rw [List.map_map] at this
    exact this
  have et : (((ky2 D).map (eT2 Vl.int Vl.int)).all isTC || ((ky2 D).map (eT2 Vl.int Vl.int)).all notT) = true := by
    rw [Bool.or_eq_true]
    exact .inl (by rw [List.all_map]; exact List.all_eq_true.mpr fun _ _ => rfl)
  have e1 : sortVO (eT2 Vl.int Vl.int) (ltT2 ltI ltI) (ky2 D) = some (srtP (ky2 D)) := if_pos ⟨eo, et⟩
  show opt (sortVO (eT2 Vl.int Vl.int) (ltT2 ltI ltI) (ky2 D)) = _
  rw [e1, o_some]
  congr 1
  exact srtP_same nd (ded_nodup _) mem
theorem cmn_len (p : Plc) (z : List Nat) (q : Plc) (w : List Nat) : (cmn p z q w).length ≤ z.length + 1 := by
  unfold cmn
  rw [List.length_mergeSort]
  refine Nat.le_trans (ded_le _) (Nat.le_trans (List.length_filter_le _ _) ?_)
  rw [spt_len]
  exact Nat.le_refl _
theorem near_comp {F : List Nat} (h : F ≠ []) (hl : F.length ≤ 1000) : (bnd (bnd (opt (rngO F.length)) fun x119 => compN (fun v115 : Nat => bnd (opt (F[v115]?)) fun x117 => bnd (opt (minNO F)) fun x118 => ret (decide (x117 = x118))) (fun v115 : Nat => ret v115) x119) fun x120 => opt (minNO x120) : M Cup Nat) = ret (nearF F) := by
  obtain ⟨m, e, _⟩ := near_at h
  rw [rngO_ok (by omega), o_some, r_bnd, e, compN_ok (p := fun v => decide (F[v]? = some m)) (g := fun v => v) _ (fun v hv => ?_) (fun v _ _ => rfl), r_bnd, List.map_id', law_near h e, o_some]
  have hv : v < F.length := List.mem_range.mp hv
  rw [List.getElem?_eq_getElem hv, o_some, r_bnd, o_some, r_bnd]
  congr 1
  rw [decide_eq_decide]
  exact ⟨fun e => by rw [e], fun e => by injection e⟩
theorem sok3 {r : Option (Nat × Nat)} {z : List Nat} {b : Bool} : sok 8 ((eT3 (eO (eT2 eN eN)) Vl.str Vl.bl) (r, z, b)) = true := by cases r <;> rfl
theorem sok_two {l : List (Int × Int)} (h : l.length ≤ 16777216) : sok 8 ((eT2 (eVt (eT2 Vl.int Vl.int)) (eVt (eT2 Vl.int Vl.int))) (l, l)) = true := by
  show (decide _ && ([eVt (eT2 Vl.int Vl.int) l, eVt (eT2 Vl.int Vl.int) l].all (sok 7))) = true
  rw [Bool.and_eq_true]
  refine ⟨rfl, ?_⟩
  rw [List.all_cons, List.all_cons, sok_sp l h]
  rfl
theorem inside_ok (e : Plc) (z : List Nat) : decide (((rows e z).filter (fun v129 : (Int × Int × Nat) => decide (100 < (max v129.1.natAbs v129.2.1.natAbs)))).map (fun v129 : (Int × Int × Nat) => v129) = ([] : (List (Int × Int × Nat)))) = (rows e z).all fun v => decide (v.1.natAbs ≤ 100) && decide (v.2.1.natAbs ≤ 100) := by
  rw [Bool.eq_iff_iff, decide_eq_true_eq, List.map_eq_nil_iff, List.filter_eq_nil_iff, List.all_eq_true]
  refine forall_congr' fun v => forall_congr' fun _ => ?_
  rw [decide_eq_true_eq, Bool.and_eq_true, decide_eq_true_eq, decide_eq_true_eq]
  omega
theorem law_beg {z : List Nat} (hz : Wd 60 z) {r : Option (Nat × Nat)} (hr : IsFL (spt O3 z) r) : (if r.isNone = true then ret z else bnd (bnd (bnd (opt r) fun x49 => ret x49.2) fun x50 => ret (((x50 : Nat) : Int) - (1 : Int))) fun x51 => opt (szO z (cutL z none (some x51))) : M Cup (List Nat)) = ret (begF z r) := by
  cases r with
  | none => rfl
  | some q =>
    obtain ⟨a, b⟩ := q
    have hb : a < b := hr.2.2.1
    have hz1 := hz.1
    show opt (szO z (cutL z none (some (((b : Nat) : Int) - 1)))) = ret (z.take (b - 1))
    rw [show ((b : Nat) : Int) - 1 = ((b - 1 : Nat) : Int) by omega, cut_take]
    unfold szO
    rw [if_pos (Nat.le_trans hz1 (by decide))]
    rfl
theorem law_smp {z : List Nat} (hz : Wd 60 z) {r : Option (Nat × Nat)} : (bnd (ret r.isNone) fun k58 => if k58 = true then ret true else bnd (lif (n_is_round z)) fun k57 => if k57 = true then bnd (opt r) fun x55 => bnd (bnd (opt (szO z z.length)) fun x54 => ret (0, x54)) fun x56 => ret (decide (x55 = x56)) else ret false : M Cup Bool) = ret (smpF z r) := by
  have h1 : n_is_round z = ret (clB z) := ext_ok hz
  have hz1 := hz.1
  rw [h1]
  cases r with
  | none => rfl
  | some q =>
    unfold smpF
    rw [r_bnd, l_ret, r_bnd]
    cases clB z with
    | false => rfl
    | true =>
      show bnd (bnd (opt (szO z z.length)) fun x54 => ret (0, x54)) (fun x56 => ret (decide (q = x56))) = _
      unfold szO
      rw [if_pos (Nat.le_trans hz1 (by decide)), o_some, r_bnd, r_bnd]
      congr 1
      show decide (q = (0, z.length)) = (false || (true && decide (some q = some (0, z.length))))
      rw [Bool.false_or, Bool.true_and, decide_eq_decide]
      exact ⟨fun e => by rw [e], fun e => by injection e⟩
theorem q_law {c : Cup} (g : Good c) : Tot n_law c fun b _ => b = true := by
  unfold n_law
  refine Tot.bind (Ψ := fun f c' => ∃ s', f = .nx s' ∧ Good c') ?_ fun f c' ⟨s', e, g'⟩ => ?_
  · rw [rngO_ok (by decide), o_some, r_bnd]
    refine Tot.loopN (I := fun _ _ c => Good c) (fun x r0 s c g => ?_) _ _ _ g
    refine Tot.bind (q_word g) fun z c1 ⟨g1, hz⟩ => ?_
    have hz6 : Wd 60 z := hz.mono (by decide)
    have hl := spt_len O3 z
    have hz1 := hz.1
    refine Tot.bnd0 (a := spt O3 z) (by unfold n__law_along; rw [ext_ok ⟨by decide, hz6.big (by decide)⟩]; rfl) ?_
    refine Tot.bind (Ψ := fun r c' => c' = c1 ∧ IsFL (spt O3 z) r) ?_ fun r c2 ⟨e, hr⟩ => ?_
    · rw [rngO_ok (by omega), o_some, r_bnd]
      exact lp_run (by omega)
    subst e
    refine Tot.bnd0 (a := begF z r) (law_beg hz6 hr) ?_
    refine Tot.bnd0 (a := smpF z r) (law_smp hz6) ?_
    refine Tot.bnd0 (a := false) (same_ret (by rw [e_first_loop hz6 hr, q_simple_beginning hz6 hr, q_simple hz6 hr]; rfl) sok3) ?_
    rw [if_neg Bool.false_ne_true]
    refine Tot.bnd0 (a := false) ?_ ?_
    · rw [q_beg_simple hz6 hr, q_drift hz6, last_spt z]
      simp only [l_ret, r_bnd, o_some, bb, decide_true, Bool.not_true, Bool.false_eq_true, if_false]
      rw [q__law_same rfl, l_ret, r_bnd]
      rfl
    rw [if_neg Bool.false_ne_true]
    refine Tot.bind (q__law_place g1) fun p c3 ⟨g3, hp⟩ => ?_
    refine Tot.bind (q__law_place g3) fun q c4 ⟨g4, hq⟩ => ?_
    refine Tot.bind (q__law_word g4 (by decide)) fun w c5 ⟨g5, hw⟩ => ?_
    have hp1 : Near 100 p := hp.mono (by decide)
    have hq1 : Near 100 q := hq.mono (by decide)
    have hw6 : Wd 60 w := hw.mono (by decide)
    refine Tot.bnd0 (a := spt p z) (by unfold n__law_along; rw [ext_ok ⟨hp.w, hz6.big (by decide)⟩]; rfl) ?_
    refine Tot.bnd0 (a := spt q w) (by unfold n__law_along; rw [ext_ok ⟨hq.w, hw6.big (by decide)⟩]; rfl) ?_
    refine Tot.bnd0 (a := cmn p z q w) (both_ok hz6) ?_
    refine Tot.bnd0 (a := false) (same_ret (by rw [q_common hp1 hq1 hz6 hw6, q_common hq1 hp1 hw6 hz6, cmn_comm q w p z]; rfl) (sok_two (by have := cmn_len p z q w; omega))) ?_
    rw [if_neg Bool.false_ne_true]
    refine Tot.bind (Ψ := fun s c' => Good c' ∧ Nsp 15 s) ?_ fun s c6 ⟨g6, hs⟩ => ?_
    · refine Tot.bind (Ψ := fun s c' => Good c' ∧ -15 ≤ s ∧ s ≤ 15) ?_ fun a c6 ⟨g6, ha⟩ => ?_
      · exact Tot.bind (q__law_roll g5 (by decide) (by decide)) fun a c6 ⟨g6, h1, h2⟩ => Tot.ret ⟨g6, by omega, by omega⟩
      refine Tot.bind (Ψ := fun s c' => Good c' ∧ -15 ≤ s ∧ s ≤ 15) ?_ fun b c7 ⟨g7, hb⟩ => ?_
      · exact Tot.bind (q__law_roll g6 (by decide) (by decide)) fun a c6 ⟨g6, h1, h2⟩ => Tot.ret ⟨g6, by omega, by omega⟩
      exact Tot.ret ⟨g7, ha.1, ha.2, hb.1, hb.2⟩
    refine Tot.bnd0 (a := farF p z s) (by unfold spt; rw [List.map_map]; rfl) ?_
    have hs1 : Nsp 100 s := ⟨by have := hs.1; omega, by have := hs.2.1; omega, by have := hs.2.2.1; omega, by have := hs.2.2.2; omega⟩
    have hfl : (farF p z s).length ≤ 1000 := by unfold farF; rw [List.length_map, rows_len]; omega
    refine Tot.bnd0 (a := false) ?_ ?_
    · rw [q_nearest hp1 hz6 hs1]
      rw [near_comp (farF_ne p z s) hfl]
      simp only [l_ret, r_bnd]
      rw [q__law_same rfl, l_ret, r_bnd]
      rfl
    rw [if_neg Bool.false_ne_true]
    refine Tot.bind (q__law_some g6 (by simp) (by simp)) fun e c7 ⟨g7, he⟩ => ?_
    have he1 : Near 100 e := by
      simp only [List.mem_cons, List.not_mem_nil, or_false] at he
      rcases he with rfl | rfl | rfl | rfl | rfl
      · exact ⟨by decide, by decide, by decide, by decide, by decide⟩
      · exact ⟨by decide, by decide, by decide, by decide, by decide⟩
      · exact ⟨by decide, by decide, by decide, by decide, by decide⟩
      · exact ⟨by decide, by decide, by decide, by decide, by decide⟩
      · exact hp1
    refine Tot.bnd0 (a := (rows e z).all fun v => decide (v.1.natAbs ≤ 100) && decide (v.2.1.natAbs ≤ 100)) ?_ ?_
    · unfold n__law_along
      rw [ext_ok ⟨he1.w, hz6.big (by decide)⟩]
      simp only [l_ret, r_bnd]
      rw [inside_ok]
    refine Tot.bnd0 (a := false) (same_ret (by rw [q_within he1 hz6]; rfl) rfl) ?_
    rw [if_neg Bool.false_ne_true]
    exact Tot.ret ⟨(), .inl rfl, g7⟩
  · subst e
    have w0 : Wd 60 ([] : List Nat) := ⟨by decide, fun c h => nomatch h⟩
    have w4 : Wd 60 ([108, 108, 108, 108] : List Nat) := ⟨by decide, fun c h => by
      simp only [List.mem_cons, List.not_mem_nil, or_false, or_self] at h
      subst h
      exact .inr (.inl rfl)⟩
    have f0 : IsFL (spt O3 []) none := by
      show List.Nodup _
      decide
    have f4 : IsFL (spt O3 [108, 108, 108, 108]) (some (0, 4)) := by
      show _ < _ ∧ List.Nodup _ ∧ _ < _ ∧ _ = _
      decide
    have s0 : smpF [] none = true := rfl
    have s4 : smpF [108, 108, 108, 108] (some (0, 4)) = true := by decide
    have n4 : nearF (farF O3 [108, 108, 108, 108] (0, 0)) = 0 := by decide
    have b4 : begF [108, 108, 108, 108] (some (0, 4)) = [108, 108, 108] := rfl
    refine Tot.eq (m' := ret true) ?_ (Tot.ret rfl)
    rw [thenN_nx, q_simple w0 f0, e_first_loop w0 f0, q_simple_beginning w4 f4, e_first_loop w4 f4, q_simple w4 f4, q_nearest (p := O3) (s := (0, 0)) ⟨by decide, by decide, by decide, by decide, by decide⟩ w4 ⟨by decide, by decide, by decide, by decide⟩, s0, s4, n4, b4]
    simp only [l_ret, r_bnd]
    rw [show n__law_same ((eT6 Vl.bl (eO (eT2 eN eN)) Vl.str (eO (eT2 eN eN)) Vl.bl eN) (true, none, [108, 108, 108], some (0, 4), true, 0)) ((eT6 Vl.bl (eO eU) Vl.str (eT2 eN eN) Vl.bl eN) (true, none, [108, 108, 108], (0, 4), true, 0)) = ret true from q__law_same rfl]
    rfl
theorem law_plain : ∀ ns, ∃ c0 c1 c', b__law_cup [none, some (.int (cellOf ns))] () = .ok (.rt (.lst [.int c0, .int c1]), ()) ∧ b_law ((List.replicate 23 none).set 1 (some (.reg 0))) (c0, c1) = .ok (.rt (.bl true), c') := fun ns => by
  obtain ⟨c0, c1, e, g⟩ := p__law_cup ns
  obtain ⟨c', e2⟩ := law_fin (r_law _ (kn_law rfl)) (q_law g)
  exact ⟨c0, c1, c', e, e2⟩
end Law
namespace Law
open PySem L2 PyA
open PyProof.Rows in
theorem all_mk {P : Program} {w : World} {K : PySem.W.Frag} {h : Heap} {mg : Str → Option Value} {fa : Addr} (X : K.In h) (G : h.Ns mainGlobals mg) (hfa : mg ("law" : Str) = some (.ref fa))
    (n_abs : PySem.W.nsIn K mainGlobals "abs" = some none)
    (n_all : PySem.W.nsIn K mainGlobals "all" = some none)
    (n_bool : PySem.W.nsIn K mainGlobals "bool" = some none)
    (n_dict : PySem.W.nsIn K mainGlobals "dict" = some none)
    (n_enumerate : PySem.W.nsIn K mainGlobals "enumerate" = some none)
    (n_int : PySem.W.nsIn K mainGlobals "int" = some none)
    (n_isinstance : PySem.W.nsIn K mainGlobals "isinstance" = some none)
    (n_len : PySem.W.nsIn K mainGlobals "len" = some none)
    (n_list : PySem.W.nsIn K mainGlobals "list" = some none)
    (n_max : PySem.W.nsIn K mainGlobals "max" = some none)
    (n_min : PySem.W.nsIn K mainGlobals "min" = some none)
    (n_range : PySem.W.nsIn K mainGlobals "range" = some none)
    (n_set : PySem.W.nsIn K mainGlobals "set" = some none)
    (n_sorted : PySem.W.nsIn K mainGlobals "sorted" = some none)
    (n_str : PySem.W.nsIn K mainGlobals "str" = some none)
    (n_tuple : PySem.W.nsIn K mainGlobals "tuple" = some none)
    {t_FAR : Tok} (c_FAR : PySem.W.nsIn K mainGlobals "FAR" = some (some (.int 100 t_FAR)))
    {t_LONGEST : Tok} (c_LONGEST : PySem.W.nsIn K mainGlobals "LONGEST" = some (some (.int 60 t_LONGEST)))
    {t_PIECES : Tok} (c_PIECES : PySem.W.nsIn K mainGlobals "PIECES" = some (some (.str ⟨([115, 108, 114] : List Nat).toArray⟩ t_PIECES)))
    {t3_STEPS : Tok} {t4_STEPS : Tok} {a2_STEPS : Addr} {od_a2_STEPS : Option Addr} {nn_a2_STEPS : Nat} {sl_a2_STEPS : Array (Option Value)} {t6_STEPS : Tok} {t7_STEPS : Tok} {a5_STEPS : Addr} {od_a5_STEPS : Option Addr} {nn_a5_STEPS : Nat} {sl_a5_STEPS : Array (Option Value)} {t9_STEPS : Tok} {t10_STEPS : Tok} {a8_STEPS : Addr} {od_a8_STEPS : Option Addr} {nn_a8_STEPS : Nat} {sl_a8_STEPS : Array (Option Value)} {t12_STEPS : Tok} {t13_STEPS : Tok} {a11_STEPS : Addr} {od_a11_STEPS : Option Addr} {nn_a11_STEPS : Nat} {sl_a11_STEPS : Array (Option Value)} {a1_STEPS : Addr} {od_a1_STEPS : Option Addr} {nn_a1_STEPS : Nat} {sl_a1_STEPS : Array (Option Value)}
    (c_STEPS : PySem.W.nsIn K mainGlobals "STEPS" = some (some (.ref a1_STEPS)))
    (l_a1_STEPS : K.lookup a1_STEPS = some ⟨.type "tuple", od_a1_STEPS, .seq ([.ref a2_STEPS, .ref a5_STEPS, .ref a8_STEPS, .ref a11_STEPS] : List Value).toArray nn_a1_STEPS, sl_a1_STEPS⟩)
    (l_a11_STEPS : K.lookup a11_STEPS = some ⟨.type "tuple", od_a11_STEPS, .seq ([.int 0 t12_STEPS, .int (-1) t13_STEPS] : List Value).toArray nn_a11_STEPS, sl_a11_STEPS⟩)
    (l_a8_STEPS : K.lookup a8_STEPS = some ⟨.type "tuple", od_a8_STEPS, .seq ([.int (-1) t9_STEPS, .int 0 t10_STEPS] : List Value).toArray nn_a8_STEPS, sl_a8_STEPS⟩)
    (l_a5_STEPS : K.lookup a5_STEPS = some ⟨.type "tuple", od_a5_STEPS, .seq ([.int 0 t6_STEPS, .int 1 t7_STEPS] : List Value).toArray nn_a5_STEPS, sl_a5_STEPS⟩)
    (l_a2_STEPS : K.lookup a2_STEPS = some ⟨.type "tuple", od_a2_STEPS, .seq ([.int 1 t3_STEPS, .int 0 t4_STEPS] : List Value).toArray nn_a2_STEPS, sl_a2_STEPS⟩)
    {C_InvalidWord : Addr} (x_InvalidWord : PySem.W.nsIn K mainGlobals "InvalidWord" = some (some (.ref C_InvalidWord)))
    (e_InvalidWord : PySem.W.excIn K C_InvalidWord [.type "ValueError", .type "Exception", .type "BaseException", .type "object"] "ValueError.__new__" = true)
    (k_InvalidWord : PySem.W.keepIn K (.ref C_InvalidWord) = true) (b_InvalidWord : PySem.W.subIn K (.ref C_InvalidWord) (.type "BaseException") = some true) (t_InvalidWord : PySem.W.typeIn K (.ref C_InvalidWord) = some (.type "type"))
    {C_InvalidPlace : Addr} (x_InvalidPlace : PySem.W.nsIn K mainGlobals "InvalidPlace" = some (some (.ref C_InvalidPlace)))
    (e_InvalidPlace : PySem.W.excIn K C_InvalidPlace [.type "ValueError", .type "Exception", .type "BaseException", .type "object"] "ValueError.__new__" = true)
    (k_InvalidPlace : PySem.W.keepIn K (.ref C_InvalidPlace) = true) (b_InvalidPlace : PySem.W.subIn K (.ref C_InvalidPlace) (.type "BaseException") = some true) (t_InvalidPlace : PySem.W.typeIn K (.ref C_InvalidPlace) = some (.type "type"))
    {C_InvalidSpot : Addr} (x_InvalidSpot : PySem.W.nsIn K mainGlobals "InvalidSpot" = some (some (.ref C_InvalidSpot)))
    (e_InvalidSpot : PySem.W.excIn K C_InvalidSpot [.type "ValueError", .type "Exception", .type "BaseException", .type "object"] "ValueError.__new__" = true)
    (k_InvalidSpot : PySem.W.keepIn K (.ref C_InvalidSpot) = true) (b_InvalidSpot : PySem.W.subIn K (.ref C_InvalidSpot) (.type "BaseException") = some true) (t_InvalidSpot : PySem.W.typeIn K (.ref C_InvalidSpot) = some (.type "type"))
    {f_is_whole : Addr} {od_is_whole an_is_whole : Option Addr} {sl_is_whole : Array (Option Value)} {oc_is_whole kV_is_whole dc_is_whole pm_is_whole cd_is_whole ct_is_whole : Value}
    (a_is_whole : PySem.W.nsIn K mainGlobals "is_whole" = some (some (.ref f_is_whole))) (l_is_whole : K.lookup f_is_whole = some ⟨oc_is_whole, od_is_whole, .func (PySem.W.fnOf "is_whole" "is_whole" (defArgs s_is_whole) (defBody s_is_whole) (defScope s_is_whole) .none kV_is_whole dc_is_whole pm_is_whole an_is_whole cd_is_whole ct_is_whole), sl_is_whole⟩) (d_is_whole : PySem.W.codeIn K cd_is_whole "is_whole" = true) (p_is_whole : PySem.W.keepIn K (.ref f_is_whole) = true)
    {f_fits_whole : Addr} {od_fits_whole an_fits_whole : Option Addr} {sl_fits_whole : Array (Option Value)} {oc_fits_whole kV_fits_whole dc_fits_whole pm_fits_whole cd_fits_whole ct_fits_whole : Value}
    (a_fits_whole : PySem.W.nsIn K mainGlobals "fits_whole" = some (some (.ref f_fits_whole))) (l_fits_whole : K.lookup f_fits_whole = some ⟨oc_fits_whole, od_fits_whole, .func (PySem.W.fnOf "fits_whole" "fits_whole" (defArgs s_fits_whole) (defBody s_fits_whole) (defScope s_fits_whole) .none kV_fits_whole dc_fits_whole pm_fits_whole an_fits_whole cd_fits_whole ct_fits_whole), sl_fits_whole⟩) (d_fits_whole : PySem.W.codeIn K cd_fits_whole "fits_whole" = true) (p_fits_whole : PySem.W.keepIn K (.ref f_fits_whole) = true)
    {f_is_tuple_of : Addr} {od_is_tuple_of an_is_tuple_of : Option Addr} {sl_is_tuple_of : Array (Option Value)} {oc_is_tuple_of kV_is_tuple_of dc_is_tuple_of pm_is_tuple_of cd_is_tuple_of ct_is_tuple_of : Value}
    (a_is_tuple_of : PySem.W.nsIn K mainGlobals "is_tuple_of" = some (some (.ref f_is_tuple_of))) (l_is_tuple_of : K.lookup f_is_tuple_of = some ⟨oc_is_tuple_of, od_is_tuple_of, .func (PySem.W.fnOf "is_tuple_of" "is_tuple_of" (defArgs s_is_tuple_of) (defBody s_is_tuple_of) (defScope s_is_tuple_of) .none kV_is_tuple_of dc_is_tuple_of pm_is_tuple_of an_is_tuple_of cd_is_tuple_of ct_is_tuple_of), sl_is_tuple_of⟩) (d_is_tuple_of : PySem.W.codeIn K cd_is_tuple_of "is_tuple_of" = true) (p_is_tuple_of : PySem.W.keepIn K (.ref f_is_tuple_of) = true)
    {f_fits_word : Addr} {od_fits_word an_fits_word : Option Addr} {sl_fits_word : Array (Option Value)} {oc_fits_word kV_fits_word dc_fits_word pm_fits_word cd_fits_word ct_fits_word : Value}
    (a_fits_word : PySem.W.nsIn K mainGlobals "fits_word" = some (some (.ref f_fits_word))) (l_fits_word : K.lookup f_fits_word = some ⟨oc_fits_word, od_fits_word, .func (PySem.W.fnOf "fits_word" "fits_word" (defArgs s_fits_word) (defBody s_fits_word) (defScope s_fits_word) .none kV_fits_word dc_fits_word pm_fits_word an_fits_word cd_fits_word ct_fits_word), sl_fits_word⟩) (d_fits_word : PySem.W.codeIn K cd_fits_word "fits_word" = true) (p_fits_word : PySem.W.keepIn K (.ref f_fits_word) = true)
    {f_fits_spot : Addr} {od_fits_spot an_fits_spot : Option Addr} {sl_fits_spot : Array (Option Value)} {oc_fits_spot kV_fits_spot dc_fits_spot pm_fits_spot cd_fits_spot ct_fits_spot : Value}
    (a_fits_spot : PySem.W.nsIn K mainGlobals "fits_spot" = some (some (.ref f_fits_spot))) (l_fits_spot : K.lookup f_fits_spot = some ⟨oc_fits_spot, od_fits_spot, .func (PySem.W.fnOf "fits_spot" "fits_spot" (defArgs s_fits_spot) (defBody s_fits_spot) (defScope s_fits_spot) .none kV_fits_spot dc_fits_spot pm_fits_spot an_fits_spot cd_fits_spot ct_fits_spot), sl_fits_spot⟩) (d_fits_spot : PySem.W.codeIn K cd_fits_spot "fits_spot" = true) (p_fits_spot : PySem.W.keepIn K (.ref f_fits_spot) = true)
    {f_fits_place : Addr} {od_fits_place an_fits_place : Option Addr} {sl_fits_place : Array (Option Value)} {oc_fits_place kV_fits_place dc_fits_place pm_fits_place cd_fits_place ct_fits_place : Value}
    (a_fits_place : PySem.W.nsIn K mainGlobals "fits_place" = some (some (.ref f_fits_place))) (l_fits_place : K.lookup f_fits_place = some ⟨oc_fits_place, od_fits_place, .func (PySem.W.fnOf "fits_place" "fits_place" (defArgs s_fits_place) (defBody s_fits_place) (defScope s_fits_place) .none kV_fits_place dc_fits_place pm_fits_place an_fits_place cd_fits_place ct_fits_place), sl_fits_place⟩) (d_fits_place : PySem.W.codeIn K cd_fits_place "fits_place" = true) (p_fits_place : PySem.W.keepIn K (.ref f_fits_place) = true)
    {f_need_word : Addr} {od_need_word an_need_word : Option Addr} {sl_need_word : Array (Option Value)} {oc_need_word kV_need_word dc_need_word pm_need_word cd_need_word ct_need_word : Value}
    (a_need_word : PySem.W.nsIn K mainGlobals "need_word" = some (some (.ref f_need_word))) (l_need_word : K.lookup f_need_word = some ⟨oc_need_word, od_need_word, .func (PySem.W.fnOf "need_word" "need_word" (defArgs s_need_word) (defBody s_need_word) (defScope s_need_word) .none kV_need_word dc_need_word pm_need_word an_need_word cd_need_word ct_need_word), sl_need_word⟩) (d_need_word : PySem.W.codeIn K cd_need_word "need_word" = true) (p_need_word : PySem.W.keepIn K (.ref f_need_word) = true)
    {f_need_spot : Addr} {od_need_spot an_need_spot : Option Addr} {sl_need_spot : Array (Option Value)} {oc_need_spot kV_need_spot dc_need_spot pm_need_spot cd_need_spot ct_need_spot : Value}
    (a_need_spot : PySem.W.nsIn K mainGlobals "need_spot" = some (some (.ref f_need_spot))) (l_need_spot : K.lookup f_need_spot = some ⟨oc_need_spot, od_need_spot, .func (PySem.W.fnOf "need_spot" "need_spot" (defArgs s_need_spot) (defBody s_need_spot) (defScope s_need_spot) .none kV_need_spot dc_need_spot pm_need_spot an_need_spot cd_need_spot ct_need_spot), sl_need_spot⟩) (d_need_spot : PySem.W.codeIn K cd_need_spot "need_spot" = true) (p_need_spot : PySem.W.keepIn K (.ref f_need_spot) = true)
    {f_need_place : Addr} {od_need_place an_need_place : Option Addr} {sl_need_place : Array (Option Value)} {oc_need_place kV_need_place dc_need_place pm_need_place cd_need_place ct_need_place : Value}
    (a_need_place : PySem.W.nsIn K mainGlobals "need_place" = some (some (.ref f_need_place))) (l_need_place : K.lookup f_need_place = some ⟨oc_need_place, od_need_place, .func (PySem.W.fnOf "need_place" "need_place" (defArgs s_need_place) (defBody s_need_place) (defScope s_need_place) .none kV_need_place dc_need_place pm_need_place an_need_place cd_need_place ct_need_place), sl_need_place⟩) (d_need_place : PySem.W.codeIn K cd_need_place "need_place" = true) (p_need_place : PySem.W.keepIn K (.ref f_need_place) = true)
    {f_forward : Addr} {od_forward an_forward : Option Addr} {sl_forward : Array (Option Value)} {oc_forward kV_forward dc_forward pm_forward cd_forward ct_forward : Value}
    (a_forward : PySem.W.nsIn K mainGlobals "forward" = some (some (.ref f_forward))) (l_forward : K.lookup f_forward = some ⟨oc_forward, od_forward, .func (PySem.W.fnOf "forward" "forward" (defArgs s_forward) (defBody s_forward) (defScope s_forward) .none kV_forward dc_forward pm_forward an_forward cd_forward ct_forward), sl_forward⟩) (d_forward : PySem.W.codeIn K cd_forward "forward" = true) (p_forward : PySem.W.keepIn K (.ref f_forward) = true)
    {f_behind_piece : Addr} {od_behind_piece an_behind_piece : Option Addr} {sl_behind_piece : Array (Option Value)} {oc_behind_piece kV_behind_piece dc_behind_piece pm_behind_piece cd_behind_piece ct_behind_piece : Value}
    (a_behind_piece : PySem.W.nsIn K mainGlobals "behind_piece" = some (some (.ref f_behind_piece))) (l_behind_piece : K.lookup f_behind_piece = some ⟨oc_behind_piece, od_behind_piece, .func (PySem.W.fnOf "behind_piece" "behind_piece" (defArgs s_behind_piece) (defBody s_behind_piece) (defScope s_behind_piece) .none kV_behind_piece dc_behind_piece pm_behind_piece an_behind_piece cd_behind_piece ct_behind_piece), sl_behind_piece⟩) (d_behind_piece : PySem.W.codeIn K cd_behind_piece "behind_piece" = true) (p_behind_piece : PySem.W.keepIn K (.ref f_behind_piece) = true)
    {f_places_in : Addr} {od_places_in an_places_in : Option Addr} {sl_places_in : Array (Option Value)} {oc_places_in kV_places_in dc_places_in pm_places_in cd_places_in ct_places_in : Value}
    (a_places_in : PySem.W.nsIn K mainGlobals "places_in" = some (some (.ref f_places_in))) (l_places_in : K.lookup f_places_in = some ⟨oc_places_in, od_places_in, .func (PySem.W.fnOf "places_in" "places_in" (defArgs s_places_in) (defBody s_places_in) (defScope s_places_in) .none kV_places_in dc_places_in pm_places_in an_places_in cd_places_in ct_places_in), sl_places_in⟩) (d_places_in : PySem.W.codeIn K cd_places_in "places_in" = true) (p_places_in : PySem.W.keepIn K (.ref f_places_in) = true)
    {f_end_in : Addr} {od_end_in an_end_in : Option Addr} {sl_end_in : Array (Option Value)} {oc_end_in kV_end_in dc_end_in pm_end_in cd_end_in ct_end_in : Value}
    (a_end_in : PySem.W.nsIn K mainGlobals "end_in" = some (some (.ref f_end_in))) (l_end_in : K.lookup f_end_in = some ⟨oc_end_in, od_end_in, .func (PySem.W.fnOf "end_in" "end_in" (defArgs s_end_in) (defBody s_end_in) (defScope s_end_in) .none kV_end_in dc_end_in pm_end_in an_end_in cd_end_in ct_end_in), sl_end_in⟩) (d_end_in : PySem.W.codeIn K cd_end_in "end_in" = true) (p_end_in : PySem.W.keepIn K (.ref f_end_in) = true)
    {f_closes_in : Addr} {od_closes_in an_closes_in : Option Addr} {sl_closes_in : Array (Option Value)} {oc_closes_in kV_closes_in dc_closes_in pm_closes_in cd_closes_in ct_closes_in : Value}
    (a_closes_in : PySem.W.nsIn K mainGlobals "closes_in" = some (some (.ref f_closes_in))) (l_closes_in : K.lookup f_closes_in = some ⟨oc_closes_in, od_closes_in, .func (PySem.W.fnOf "closes_in" "closes_in" (defArgs s_closes_in) (defBody s_closes_in) (defScope s_closes_in) .none kV_closes_in dc_closes_in pm_closes_in an_closes_in cd_closes_in ct_closes_in), sl_closes_in⟩) (d_closes_in : PySem.W.codeIn K cd_closes_in "closes_in" = true) (p_closes_in : PySem.W.keepIn K (.ref f_closes_in) = true)
    {f_is_round : Addr} {od_is_round an_is_round : Option Addr} {sl_is_round : Array (Option Value)} {oc_is_round kV_is_round dc_is_round pm_is_round cd_is_round ct_is_round : Value}
    (a_is_round : PySem.W.nsIn K mainGlobals "is_round" = some (some (.ref f_is_round))) (l_is_round : K.lookup f_is_round = some ⟨oc_is_round, od_is_round, .func (PySem.W.fnOf "is_round" "is_round" (defArgs s_is_round) (defBody s_is_round) (defScope s_is_round) .none kV_is_round dc_is_round pm_is_round an_is_round cd_is_round ct_is_round), sl_is_round⟩) (d_is_round : PySem.W.codeIn K cd_is_round "is_round" = true) (p_is_round : PySem.W.keepIn K (.ref f_is_round) = true)
    {f_is_simple : Addr} {od_is_simple an_is_simple : Option Addr} {sl_is_simple : Array (Option Value)} {oc_is_simple kV_is_simple dc_is_simple pm_is_simple cd_is_simple ct_is_simple : Value}
    (a_is_simple : PySem.W.nsIn K mainGlobals "is_simple" = some (some (.ref f_is_simple))) (l_is_simple : K.lookup f_is_simple = some ⟨oc_is_simple, od_is_simple, .func (PySem.W.fnOf "is_simple" "is_simple" (defArgs s_is_simple) (defBody s_is_simple) (defScope s_is_simple) .none kV_is_simple dc_is_simple pm_is_simple an_is_simple cd_is_simple ct_is_simple), sl_is_simple⟩) (d_is_simple : PySem.W.codeIn K cd_is_simple "is_simple" = true) (p_is_simple : PySem.W.keepIn K (.ref f_is_simple) = true)
    {f_simple_beginning : Addr} {od_simple_beginning an_simple_beginning : Option Addr} {sl_simple_beginning : Array (Option Value)} {oc_simple_beginning kV_simple_beginning dc_simple_beginning pm_simple_beginning cd_simple_beginning ct_simple_beginning : Value}
    (a_simple_beginning : PySem.W.nsIn K mainGlobals "simple_beginning" = some (some (.ref f_simple_beginning))) (l_simple_beginning : K.lookup f_simple_beginning = some ⟨oc_simple_beginning, od_simple_beginning, .func (PySem.W.fnOf "simple_beginning" "simple_beginning" (defArgs s_simple_beginning) (defBody s_simple_beginning) (defScope s_simple_beginning) .none kV_simple_beginning dc_simple_beginning pm_simple_beginning an_simple_beginning cd_simple_beginning ct_simple_beginning), sl_simple_beginning⟩) (d_simple_beginning : PySem.W.codeIn K cd_simple_beginning "simple_beginning" = true) (p_simple_beginning : PySem.W.keepIn K (.ref f_simple_beginning) = true)
    {f_first_loop : Addr} {od_first_loop an_first_loop : Option Addr} {sl_first_loop : Array (Option Value)} {oc_first_loop kV_first_loop dc_first_loop pm_first_loop cd_first_loop ct_first_loop : Value}
    (a_first_loop : PySem.W.nsIn K mainGlobals "first_loop" = some (some (.ref f_first_loop))) (l_first_loop : K.lookup f_first_loop = some ⟨oc_first_loop, od_first_loop, .func (PySem.W.fnOf "first_loop" "first_loop" (defArgs s_first_loop) (defBody s_first_loop) (defScope s_first_loop) .none kV_first_loop dc_first_loop pm_first_loop an_first_loop cd_first_loop ct_first_loop), sl_first_loop⟩) (d_first_loop : PySem.W.codeIn K cd_first_loop "first_loop" = true) (p_first_loop : PySem.W.keepIn K (.ref f_first_loop) = true)
    {f_common_spots : Addr} {od_common_spots an_common_spots : Option Addr} {sl_common_spots : Array (Option Value)} {oc_common_spots kV_common_spots dc_common_spots pm_common_spots cd_common_spots ct_common_spots : Value}
    (a_common_spots : PySem.W.nsIn K mainGlobals "common_spots" = some (some (.ref f_common_spots))) (l_common_spots : K.lookup f_common_spots = some ⟨oc_common_spots, od_common_spots, .func (PySem.W.fnOf "common_spots" "common_spots" (defArgs s_common_spots) (defBody s_common_spots) (defScope s_common_spots) .none kV_common_spots dc_common_spots pm_common_spots an_common_spots cd_common_spots ct_common_spots), sl_common_spots⟩) (d_common_spots : PySem.W.codeIn K cd_common_spots "common_spots" = true) (p_common_spots : PySem.W.keepIn K (.ref f_common_spots) = true)
    {f_nearest_place : Addr} {od_nearest_place an_nearest_place : Option Addr} {sl_nearest_place : Array (Option Value)} {oc_nearest_place kV_nearest_place dc_nearest_place pm_nearest_place cd_nearest_place ct_nearest_place : Value}
    (a_nearest_place : PySem.W.nsIn K mainGlobals "nearest_place" = some (some (.ref f_nearest_place))) (l_nearest_place : K.lookup f_nearest_place = some ⟨oc_nearest_place, od_nearest_place, .func (PySem.W.fnOf "nearest_place" "nearest_place" (defArgs s_nearest_place) (defBody s_nearest_place) (defScope s_nearest_place) .none kV_nearest_place dc_nearest_place pm_nearest_place an_nearest_place cd_nearest_place ct_nearest_place), sl_nearest_place⟩) (d_nearest_place : PySem.W.codeIn K cd_nearest_place "nearest_place" = true) (p_nearest_place : PySem.W.keepIn K (.ref f_nearest_place) = true)
    {f_within_bounds : Addr} {od_within_bounds an_within_bounds : Option Addr} {sl_within_bounds : Array (Option Value)} {oc_within_bounds kV_within_bounds dc_within_bounds pm_within_bounds cd_within_bounds ct_within_bounds : Value}
    (a_within_bounds : PySem.W.nsIn K mainGlobals "within_bounds" = some (some (.ref f_within_bounds))) (l_within_bounds : K.lookup f_within_bounds = some ⟨oc_within_bounds, od_within_bounds, .func (PySem.W.fnOf "within_bounds" "within_bounds" (defArgs s_within_bounds) (defBody s_within_bounds) (defScope s_within_bounds) .none kV_within_bounds dc_within_bounds pm_within_bounds an_within_bounds cd_within_bounds ct_within_bounds), sl_within_bounds⟩) (d_within_bounds : PySem.W.codeIn K cd_within_bounds "within_bounds" = true) (p_within_bounds : PySem.W.keepIn K (.ref f_within_bounds) = true)
    {f_drift_of : Addr} {od_drift_of an_drift_of : Option Addr} {sl_drift_of : Array (Option Value)} {oc_drift_of kV_drift_of dc_drift_of pm_drift_of cd_drift_of ct_drift_of : Value}
    (a_drift_of : PySem.W.nsIn K mainGlobals "drift_of" = some (some (.ref f_drift_of))) (l_drift_of : K.lookup f_drift_of = some ⟨oc_drift_of, od_drift_of, .func (PySem.W.fnOf "drift_of" "drift_of" (defArgs s_drift_of) (defBody s_drift_of) (defScope s_drift_of) .none kV_drift_of dc_drift_of pm_drift_of an_drift_of cd_drift_of ct_drift_of), sl_drift_of⟩) (d_drift_of : PySem.W.codeIn K cd_drift_of "drift_of" = true) (p_drift_of : PySem.W.keepIn K (.ref f_drift_of) = true)
    {f__law_cup : Addr} {od__law_cup an__law_cup : Option Addr} {sl__law_cup : Array (Option Value)} {oc__law_cup kV__law_cup dc__law_cup pm__law_cup cd__law_cup ct__law_cup : Value}
    (a__law_cup : PySem.W.nsIn K mainGlobals "_law_cup" = some (some (.ref f__law_cup))) (l__law_cup : K.lookup f__law_cup = some ⟨oc__law_cup, od__law_cup, .func (PySem.W.fnOf "_law_cup" "_law_cup" (defArgs s__law_cup) (defBody s__law_cup) (defScope s__law_cup) .none kV__law_cup dc__law_cup pm__law_cup an__law_cup cd__law_cup ct__law_cup), sl__law_cup⟩) (d__law_cup : PySem.W.codeIn K cd__law_cup "_law_cup" = true) (p__law_cup : PySem.W.keepIn K (.ref f__law_cup) = true)
    {f__law_roll : Addr} {od__law_roll an__law_roll : Option Addr} {sl__law_roll : Array (Option Value)} {oc__law_roll kV__law_roll dc__law_roll pm__law_roll cd__law_roll ct__law_roll : Value}
    (a__law_roll : PySem.W.nsIn K mainGlobals "_law_roll" = some (some (.ref f__law_roll))) (l__law_roll : K.lookup f__law_roll = some ⟨oc__law_roll, od__law_roll, .func (PySem.W.fnOf "_law_roll" "_law_roll" (defArgs s__law_roll) (defBody s__law_roll) (defScope s__law_roll) .none kV__law_roll dc__law_roll pm__law_roll an__law_roll cd__law_roll ct__law_roll), sl__law_roll⟩) (d__law_roll : PySem.W.codeIn K cd__law_roll "_law_roll" = true) (p__law_roll : PySem.W.keepIn K (.ref f__law_roll) = true)
    {f__law_some : Addr} {od__law_some an__law_some : Option Addr} {sl__law_some : Array (Option Value)} {oc__law_some kV__law_some dc__law_some pm__law_some cd__law_some ct__law_some : Value}
    (a__law_some : PySem.W.nsIn K mainGlobals "_law_some" = some (some (.ref f__law_some))) (l__law_some : K.lookup f__law_some = some ⟨oc__law_some, od__law_some, .func (PySem.W.fnOf "_law_some" "_law_some" (defArgs s__law_some) (defBody s__law_some) (defScope s__law_some) .none kV__law_some dc__law_some pm__law_some an__law_some cd__law_some ct__law_some), sl__law_some⟩) (d__law_some : PySem.W.codeIn K cd__law_some "_law_some" = true) (p__law_some : PySem.W.keepIn K (.ref f__law_some) = true)
    {f__law_same : Addr} {od__law_same an__law_same : Option Addr} {sl__law_same : Array (Option Value)} {oc__law_same kV__law_same dc__law_same pm__law_same cd__law_same ct__law_same : Value}
    (a__law_same : PySem.W.nsIn K mainGlobals "_law_same" = some (some (.ref f__law_same))) (l__law_same : K.lookup f__law_same = some ⟨oc__law_same, od__law_same, .func (PySem.W.fnOf "_law_same" "_law_same" (defArgs s__law_same) (defBody s__law_same) (defScope s__law_same) .none kV__law_same dc__law_same pm__law_same an__law_same cd__law_same ct__law_same), sl__law_same⟩) (d__law_same : PySem.W.codeIn K cd__law_same "_law_same" = true) (p__law_same : PySem.W.keepIn K (.ref f__law_same) = true)
    {f__law_word : Addr} {od__law_word an__law_word : Option Addr} {sl__law_word : Array (Option Value)} {oc__law_word kV__law_word dc__law_word pm__law_word cd__law_word ct__law_word : Value}
    (a__law_word : PySem.W.nsIn K mainGlobals "_law_word" = some (some (.ref f__law_word))) (l__law_word : K.lookup f__law_word = some ⟨oc__law_word, od__law_word, .func (PySem.W.fnOf "_law_word" "_law_word" (defArgs s__law_word) (defBody s__law_word) (defScope s__law_word) .none kV__law_word dc__law_word pm__law_word an__law_word cd__law_word ct__law_word), sl__law_word⟩) (d__law_word : PySem.W.codeIn K cd__law_word "_law_word" = true) (p__law_word : PySem.W.keepIn K (.ref f__law_word) = true)
    {f__law_place : Addr} {od__law_place an__law_place : Option Addr} {sl__law_place : Array (Option Value)} {oc__law_place kV__law_place dc__law_place pm__law_place cd__law_place ct__law_place : Value}
    (a__law_place : PySem.W.nsIn K mainGlobals "_law_place" = some (some (.ref f__law_place))) (l__law_place : K.lookup f__law_place = some ⟨oc__law_place, od__law_place, .func (PySem.W.fnOf "_law_place" "_law_place" (defArgs s__law_place) (defBody s__law_place) (defScope s__law_place) .none kV__law_place dc__law_place pm__law_place an__law_place cd__law_place ct__law_place), sl__law_place⟩) (d__law_place : PySem.W.codeIn K cd__law_place "_law_place" = true) (p__law_place : PySem.W.keepIn K (.ref f__law_place) = true)
    {f__law_next : Addr} {od__law_next an__law_next : Option Addr} {sl__law_next : Array (Option Value)} {oc__law_next kV__law_next dc__law_next pm__law_next cd__law_next ct__law_next : Value}
    (a__law_next : PySem.W.nsIn K mainGlobals "_law_next" = some (some (.ref f__law_next))) (l__law_next : K.lookup f__law_next = some ⟨oc__law_next, od__law_next, .func (PySem.W.fnOf "_law_next" "_law_next" (defArgs s__law_next) (defBody s__law_next) (defScope s__law_next) .none kV__law_next dc__law_next pm__law_next an__law_next cd__law_next ct__law_next), sl__law_next⟩) (d__law_next : PySem.W.codeIn K cd__law_next "_law_next" = true) (p__law_next : PySem.W.keepIn K (.ref f__law_next) = true)
    {f__law_along : Addr} {od__law_along an__law_along : Option Addr} {sl__law_along : Array (Option Value)} {oc__law_along kV__law_along dc__law_along pm__law_along cd__law_along ct__law_along : Value}
    (a__law_along : PySem.W.nsIn K mainGlobals "_law_along" = some (some (.ref f__law_along))) (l__law_along : K.lookup f__law_along = some ⟨oc__law_along, od__law_along, .func (PySem.W.fnOf "_law_along" "_law_along" (defArgs s__law_along) (defBody s__law_along) (defScope s__law_along) .none kV__law_along dc__law_along pm__law_along an__law_along cd__law_along ct__law_along), sl__law_along⟩) (d__law_along : PySem.W.codeIn K cd__law_along "_law_along" = true) (p__law_along : PySem.W.keepIn K (.ref f__law_along) = true)
    {f__law_round : Addr} {od__law_round an__law_round : Option Addr} {sl__law_round : Array (Option Value)} {oc__law_round kV__law_round dc__law_round pm__law_round cd__law_round ct__law_round : Value}
    (a__law_round : PySem.W.nsIn K mainGlobals "_law_round" = some (some (.ref f__law_round))) (l__law_round : K.lookup f__law_round = some ⟨oc__law_round, od__law_round, .func (PySem.W.fnOf "_law_round" "_law_round" (defArgs s__law_round) (defBody s__law_round) (defScope s__law_round) .none kV__law_round dc__law_round pm__law_round an__law_round cd__law_round ct__law_round), sl__law_round⟩) (d__law_round : PySem.W.codeIn K cd__law_round "_law_round" = true) (p__law_round : PySem.W.keepIn K (.ref f__law_round) = true)
    {f_law : Addr} {od_law an_law : Option Addr} {sl_law : Array (Option Value)} {oc_law kV_law dc_law pm_law cd_law ct_law : Value}
    (a_law : PySem.W.nsIn K mainGlobals "law" = some (some (.ref f_law))) (l_law : K.lookup f_law = some ⟨oc_law, od_law, .func (PySem.W.fnOf "law" "law" (defArgs s_law) (defBody s_law) (defScope s_law) .none kV_law dc_law pm_law an_law cd_law ct_law), sl_law⟩) (d_law : PySem.W.codeIn K cd_law "law" = true) (p_law : PySem.W.keepIn K (.ref f_law) = true) :
    ∃ fd : FuncData, (∀ (s : Shared) (v : Value), BindsTo s fd ⟨[v], []⟩ [("script", v)]) ∧ ∀ base : Heap, K.In base → base.Ns mainGlobals mg → FnOk P w K mg base (L2.CX P w) 10 fa fd ["script"] (spLaw K) := by
  have T : Txt K mg := ⟨none_of X G n_abs,
    none_of X G n_all,
    none_of X G n_bool,
    none_of X G n_dict,
    none_of X G n_enumerate,
    none_of X G n_int,
    none_of X G n_isinstance,
    none_of X G n_len,
    none_of X G n_list,
    none_of X G n_max,
    none_of X G n_min,
    none_of X G n_range,
    none_of X G n_set,
    none_of X G n_sorted,
    none_of X G n_str,
    none_of X G n_tuple,
    intT_of X G c_FAR,
    intT_of X G c_LONGEST,
    strT_of X G c_PIECES,
    tupT_of X G c_STEPS (repK_tup l_a1_STEPS (.cons (repK_tup l_a2_STEPS (.cons repK_int (.cons repK_int .nil))) (.cons (repK_tup l_a5_STEPS (.cons repK_int (.cons repK_int .nil))) (.cons (repK_tup l_a8_STEPS (.cons repK_int (.cons repK_int .nil))) (.cons (repK_tup l_a11_STEPS (.cons repK_int (.cons repK_int .nil))) .nil))))),
    excT_of X G x_InvalidWord e_InvalidWord k_InvalidWord b_InvalidWord t_InvalidWord,
    excT_of X G x_InvalidPlace e_InvalidPlace k_InvalidPlace b_InvalidPlace t_InvalidPlace,
    excT_of X G x_InvalidSpot e_InvalidSpot k_InvalidSpot b_InvalidSpot t_InvalidSpot,
    funT_of (st := s_is_whole) X G a_is_whole l_is_whole d_is_whole p_is_whole,
    funT_of (st := s_fits_whole) X G a_fits_whole l_fits_whole d_fits_whole p_fits_whole,
    funT_of (st := s_is_tuple_of) X G a_is_tuple_of l_is_tuple_of d_is_tuple_of p_is_tuple_of,
    funT_of (st := s_fits_word) X G a_fits_word l_fits_word d_fits_word p_fits_word,
    funT_of (st := s_fits_spot) X G a_fits_spot l_fits_spot d_fits_spot p_fits_spot,
    funT_of (st := s_fits_place) X G a_fits_place l_fits_place d_fits_place p_fits_place,
    funT_of (st := s_need_word) X G a_need_word l_need_word d_need_word p_need_word,
    funT_of (st := s_need_spot) X G a_need_spot l_need_spot d_need_spot p_need_spot,
    funT_of (st := s_need_place) X G a_need_place l_need_place d_need_place p_need_place,
    funT_of (st := s_forward) X G a_forward l_forward d_forward p_forward,
    funT_of (st := s_behind_piece) X G a_behind_piece l_behind_piece d_behind_piece p_behind_piece,
    funT_of (st := s_places_in) X G a_places_in l_places_in d_places_in p_places_in,
    funT_of (st := s_end_in) X G a_end_in l_end_in d_end_in p_end_in,
    funT_of (st := s_closes_in) X G a_closes_in l_closes_in d_closes_in p_closes_in,
    funT_of (st := s_is_round) X G a_is_round l_is_round d_is_round p_is_round,
    funT_of (st := s_is_simple) X G a_is_simple l_is_simple d_is_simple p_is_simple,
    funT_of (st := s_simple_beginning) X G a_simple_beginning l_simple_beginning d_simple_beginning p_simple_beginning,
    funT_of (st := s_first_loop) X G a_first_loop l_first_loop d_first_loop p_first_loop,
    funT_of (st := s_common_spots) X G a_common_spots l_common_spots d_common_spots p_common_spots,
    funT_of (st := s_nearest_place) X G a_nearest_place l_nearest_place d_nearest_place p_nearest_place,
    funT_of (st := s_within_bounds) X G a_within_bounds l_within_bounds d_within_bounds p_within_bounds,
    funT_of (st := s_drift_of) X G a_drift_of l_drift_of d_drift_of p_drift_of,
    funT_of (st := s__law_cup) X G a__law_cup l__law_cup d__law_cup p__law_cup,
    funT_of (st := s__law_roll) X G a__law_roll l__law_roll d__law_roll p__law_roll,
    funT_of (st := s__law_some) X G a__law_some l__law_some d__law_some p__law_some,
    funT_of (st := s__law_same) X G a__law_same l__law_same d__law_same p__law_same,
    funT_of (st := s__law_word) X G a__law_word l__law_word d__law_word p__law_word,
    funT_of (st := s__law_place) X G a__law_place l__law_place d__law_place p__law_place,
    funT_of (st := s__law_next) X G a__law_next l__law_next d__law_next p__law_next,
    funT_of (st := s__law_along) X G a__law_along l__law_along d__law_along p__law_along,
    funT_of (st := s__law_round) X G a__law_round l__law_round d__law_round p__law_round,
    funT_of (st := s_law) X G a_law l_law d_law p_law⟩
  exact law_mk (st := s_law) X G hfa a_law l_law d_law p_law (fun s v => .of_eq rfl) fun F => ok_law T law_plain F
end Law
open PySem PySem.W PyProof.Rows
set_option maxHeartbeats 0 in
theorem PySem.Challenge.cw_toyrails_k97_whole_spots_and_loops_holds : PySem.Challenge.rw_toyrails_k97_whole_spots_and_loops.Holds := by
  w_on; o_law; k_head; (case hw => w_witness2)
  k_fill
  refine L2.walk_of (l := PySem.Challenge.rw_toyrails_k97_whole_spots_and_loops) (n := 63) (k := 10) (x := "script") (CX := fun w => L2.CX PySem.Challenge.rw_toyrails_k97_whole_spots_and_loops.prog w) (sp := fun w => PyA.spLaw _) rfl (by decide) rfl ⟨rfl, by decide, by decide⟩ (fun w h Y => PySem.W.kIn_of Y) ?F (fun _ _ a ns hl _ hS => ⟨a, ns, rfl, hS, hl, fun _ => rfl⟩) (fun _ _ _ _ _ z => PyA.cx_no z)
  case F =>
    intro w mg fa h KX G hmg
    refine' Law.all_mk KX G hmg ?n_abs ?n_all ?n_bool ?n_dict ?n_enumerate ?n_int ?n_isinstance ?n_len ?n_list ?n_max ?n_min ?n_range ?n_set ?n_sorted ?n_str ?n_tuple ?c_FAR ?c_LONGEST ?c_PIECES ?c_STEPS ?l_a1_STEPS ?l_a11_STEPS ?l_a8_STEPS ?l_a5_STEPS ?l_a2_STEPS ?x_InvalidWord ?e_InvalidWord ?k_InvalidWord ?b_InvalidWord ?t_InvalidWord ?x_InvalidPlace ?e_InvalidPlace ?k_InvalidPlace ?b_InvalidPlace ?t_InvalidPlace ?x_InvalidSpot ?e_InvalidSpot ?k_InvalidSpot ?b_InvalidSpot ?t_InvalidSpot ?a_is_whole ?l_is_whole ?d_is_whole ?p_is_whole ?a_fits_whole ?l_fits_whole ?d_fits_whole ?p_fits_whole ?a_is_tuple_of ?l_is_tuple_of ?d_is_tuple_of ?p_is_tuple_of ?a_fits_word ?l_fits_word ?d_fits_word ?p_fits_word ?a_fits_spot ?l_fits_spot ?d_fits_spot ?p_fits_spot ?a_fits_place ?l_fits_place ?d_fits_place ?p_fits_place ?a_need_word ?l_need_word ?d_need_word ?p_need_word ?a_need_spot ?l_need_spot ?d_need_spot ?p_need_spot ?a_need_place ?l_need_place ?d_need_place ?p_need_place ?a_forward ?l_forward ?d_forward ?p_forward ?a_behind_piece ?l_behind_piece ?d_behind_piece ?p_behind_piece ?a_places_in ?l_places_in ?d_places_in ?p_places_in ?a_end_in ?l_end_in ?d_end_in ?p_end_in ?a_closes_in ?l_closes_in ?d_closes_in ?p_closes_in ?a_is_round ?l_is_round ?d_is_round ?p_is_round ?a_is_simple ?l_is_simple ?d_is_simple ?p_is_simple ?a_simple_beginning ?l_simple_beginning ?d_simple_beginning ?p_simple_beginning ?a_first_loop ?l_first_loop ?d_first_loop ?p_first_loop ?a_common_spots ?l_common_spots ?d_common_spots ?p_common_spots ?a_nearest_place ?l_nearest_place ?d_nearest_place ?p_nearest_place ?a_within_bounds ?l_within_bounds ?d_within_bounds ?p_within_bounds ?a_drift_of ?l_drift_of ?d_drift_of ?p_drift_of ?a__law_cup ?l__law_cup ?d__law_cup ?p__law_cup ?a__law_roll ?l__law_roll ?d__law_roll ?p__law_roll ?a__law_some ?l__law_some ?d__law_some ?p__law_some ?a__law_same ?l__law_same ?d__law_same ?p__law_same ?a__law_word ?l__law_word ?d__law_word ?p__law_word ?a__law_place ?l__law_place ?d__law_place ?p__law_place ?a__law_next ?l__law_next ?d__law_next ?p__law_next ?a__law_along ?l__law_along ?d__law_along ?p__law_along ?a__law_round ?l__law_round ?d__law_round ?p__law_round ?a_law ?l_law ?d_law ?p_law
    (case n_abs => k_is)
    (case n_all => k_is)
    (case n_bool => k_is)
    (case n_dict => k_is)
    (case n_enumerate => k_is)
    (case n_int => k_is)
    (case n_isinstance => k_is)
    (case n_len => k_is)
    (case n_list => k_is)
    (case n_max => k_is)
    (case n_min => k_is)
    (case n_range => k_is)
    (case n_set => k_is)
    (case n_sorted => k_is)
    (case n_str => k_is)
    (case n_tuple => k_is)
    (case c_FAR => k_is)
    (case c_LONGEST => k_is)
    (case c_PIECES => k_is)
    (case c_STEPS => k_is)
    (case l_a1_STEPS => k_is)
    (case l_a11_STEPS => k_is)
    (case l_a8_STEPS => k_is)
    (case l_a5_STEPS => k_is)
    (case l_a2_STEPS => k_is)
    (case x_InvalidWord => k_is); (case e_InvalidWord => k_exc); (case k_InvalidWord => k_is); (case b_InvalidWord => k_is); (case t_InvalidWord => k_is)
    (case x_InvalidPlace => k_is); (case e_InvalidPlace => k_exc); (case k_InvalidPlace => k_is); (case b_InvalidPlace => k_is); (case t_InvalidPlace => k_is)
    (case x_InvalidSpot => k_is); (case e_InvalidSpot => k_exc); (case k_InvalidSpot => k_is); (case b_InvalidSpot => k_is); (case t_InvalidSpot => k_is)
    (case a_is_whole => k_is); (case l_is_whole => k_is); (case d_is_whole => k_is); (case p_is_whole => k_is)
    (case a_fits_whole => k_is); (case l_fits_whole => k_is); (case d_fits_whole => k_is); (case p_fits_whole => k_is)
    (case a_is_tuple_of => k_is); (case l_is_tuple_of => k_is); (case d_is_tuple_of => k_is); (case p_is_tuple_of => k_is)
    (case a_fits_word => k_is); (case l_fits_word => k_is); (case d_fits_word => k_is); (case p_fits_word => k_is)
    (case a_fits_spot => k_is); (case l_fits_spot => k_is); (case d_fits_spot => k_is); (case p_fits_spot => k_is)
    (case a_fits_place => k_is); (case l_fits_place => k_is); (case d_fits_place => k_is); (case p_fits_place => k_is)
    (case a_need_word => k_is); (case l_need_word => k_is); (case d_need_word => k_is); (case p_need_word => k_is)
    (case a_need_spot => k_is); (case l_need_spot => k_is); (case d_need_spot => k_is); (case p_need_spot => k_is)
    (case a_need_place => k_is); (case l_need_place => k_is); (case d_need_place => k_is); (case p_need_place => k_is)
    (case a_forward => k_is); (case l_forward => k_is); (case d_forward => k_is); (case p_forward => k_is)
    (case a_behind_piece => k_is); (case l_behind_piece => k_is); (case d_behind_piece => k_is); (case p_behind_piece => k_is)
    (case a_places_in => k_is); (case l_places_in => k_is); (case d_places_in => k_is); (case p_places_in => k_is)
    (case a_end_in => k_is); (case l_end_in => k_is); (case d_end_in => k_is); (case p_end_in => k_is)
    (case a_closes_in => k_is); (case l_closes_in => k_is); (case d_closes_in => k_is); (case p_closes_in => k_is)
    (case a_is_round => k_is); (case l_is_round => k_is); (case d_is_round => k_is); (case p_is_round => k_is)
    (case a_is_simple => k_is); (case l_is_simple => k_is); (case d_is_simple => k_is); (case p_is_simple => k_is)
    (case a_simple_beginning => k_is); (case l_simple_beginning => k_is); (case d_simple_beginning => k_is); (case p_simple_beginning => k_is)
    (case a_first_loop => k_is); (case l_first_loop => k_is); (case d_first_loop => k_is); (case p_first_loop => k_is)
    (case a_common_spots => k_is); (case l_common_spots => k_is); (case d_common_spots => k_is); (case p_common_spots => k_is)
    (case a_nearest_place => k_is); (case l_nearest_place => k_is); (case d_nearest_place => k_is); (case p_nearest_place => k_is)
    (case a_within_bounds => k_is); (case l_within_bounds => k_is); (case d_within_bounds => k_is); (case p_within_bounds => k_is)
    (case a_drift_of => k_is); (case l_drift_of => k_is); (case d_drift_of => k_is); (case p_drift_of => k_is)
    (case a__law_cup => k_is); (case l__law_cup => k_is); (case d__law_cup => k_is); (case p__law_cup => k_is)
    (case a__law_roll => k_is); (case l__law_roll => k_is); (case d__law_roll => k_is); (case p__law_roll => k_is)
    (case a__law_some => k_is); (case l__law_some => k_is); (case d__law_some => k_is); (case p__law_some => k_is)
    (case a__law_same => k_is); (case l__law_same => k_is); (case d__law_same => k_is); (case p__law_same => k_is)
    (case a__law_word => k_is); (case l__law_word => k_is); (case d__law_word => k_is); (case p__law_word => k_is)
    (case a__law_place => k_is); (case l__law_place => k_is); (case d__law_place => k_is); (case p__law_place => k_is)
    (case a__law_next => k_is); (case l__law_next => k_is); (case d__law_next => k_is); (case p__law_next => k_is)
    (case a__law_along => k_is); (case l__law_along => k_is); (case d__law_along => k_is); (case p__law_along => k_is)
    (case a__law_round => k_is); (case l__law_round => k_is); (case d__law_round => k_is); (case p__law_round => k_is)
    (case a_law => k_is); (case l_law => k_is); (case d_law => k_is); (case p_law => k_is)
