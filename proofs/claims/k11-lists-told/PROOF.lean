import PyProof.Rows.All
import Wide.All
import OpenK.AllK
import Wide.FinOn
import HandS.ForMost
import HandS.Deep
import HandS.IsInst
import KE.SortData
import KE.DataCmp
import HandS.SetKeys
import HandS.DictTup
import HandS.TupLen
import HandS.SetFor
import KE.KDictCopyH
import HandS.Comp
import HandS.Words
import HandS.Ends
import PySem.Challenge.RW_deathnotes_k11_lists_told
set_option Elab.async false
set_option linter.all false
set_option maxRecDepth 100000
namespace Dn
open PySem L2
abbrev St := L2.St

/-- data: what a value is, tuples as trees; a reference to an object -/
inductive D where
  | non | bl (b : Bool) | int (i : Int) | str (x : Str) | tup (xs : List D) | ref (a : Addr)
mutual
def D.beq : D → D → Bool
  | .non, .non => true
  | .bl a, .bl b => a == b
  | .int a, .int b => a == b
  | .str a, .str b => decide (a = b)
  | .tup a, .tup b => D.beqs a b
  | .ref a, .ref b => decide (a = b)
  | _, _ => false
def D.beqs : List D → List D → Bool
  | [], [] => true
  | x :: xs, y :: ys => D.beq x y && D.beqs xs ys
  | _, _ => false
end
mutual
theorem D.beq_ok : ∀ x y : D, D.beq x y = true ↔ x = y
  | .non, y => by cases y <;> simp [D.beq]
  | .bl a, y => by cases y <;> simp [D.beq]
  | .int a, y => by cases y <;> simp [D.beq]
  | .str a, y => by cases y <;> simp [D.beq]
  | .tup a, y => by
    cases y with
    | tup b => simp only [D.beq, D.tup.injEq]; exact D.beqs_ok a b
    | _ => simp [D.beq]
  | .ref a, y => by cases y <;> simp [D.beq]
theorem D.beqs_ok : ∀ x y : List D, D.beqs x y = true ↔ x = y
  | [], y => by cases y <;> simp [D.beqs]
  | x :: xs, y => by
    cases y with
    | nil => simp [D.beqs]
    | cons y ys => simp only [D.beqs, Bool.and_eq_true, List.cons.injEq]; rw [D.beq_ok x y, D.beqs_ok xs ys]
end
instance : DecidableEq D := fun x y => if h : D.beq x y = true then .isTrue ((D.beq_ok x y).mp h) else .isFalse fun e => h ((D.beq_ok x y).mpr e)
instance : Inhabited D := ⟨.non⟩

/-- what an expression gives: data, a list or a dict that nobody else holds, the list or dict in a local's slot -/
inductive U where
  | d (x : D) | lst (xs : List D) | dct (kvs : List (D × D)) | loc (i : Nat)
def U.own : U → Bool
  | .lst _ => true
  | .dct _ => true
  | _ => false

/-- an object -/
inductive Ob where
  | lst (xs : List D) | dct (kvs : List (D × D)) | ins (C : Addr) (fs : List (Str × D))
  /-- a dict while it is walked -/
  | fz (od : Obj) (u : HO) (kvs : List (D × D))
  /-- the script -/
  | scr (xs : List D)
structure Tag where
  r : Nat
  p : List Int
  deriving DecidableEq
structure Cell where
  tg : Tag
  ob : Ob
abbrev Ah := Addr → Option Cell
def up (A : Ah) (a : Addr) (c : Cell) : Ah := fun b => if b = a then some c else A b
theorem up_same {A : Ah} {a : Addr} {c : Cell} : up A a c a = some c := if_pos rfl
theorem up_ne {A : Ah} {a b : Addr} {c : Cell} (h : b ≠ a) : up A a c b = A b := if_neg h
abbrev Rho := List (Option U)

/-! ### how data lies in HandS's heap -/
mutual
inductive RD (H : Hp) : D → V → Prop
  | non : RD H .non .non
  | bl (b : Bool) : RD H (.bl b) (.bl b)
  | int (i : Int) : RD H (.int i) (.int i)
  | str (x : Str) : RD H (.str x) (.str x)
  | tup {a : Addr} {xs : List D} {vs : List V} : H a = some (.tup vs) → RDs H xs vs → RD H (.tup xs) (.ref a)
  | ref (a : Addr) : RD H (.ref a) (.ref a)
inductive RDs (H : Hp) : List D → List V → Prop
  | nil : RDs H [] []
  | cons {x : D} {v : V} {xs : List D} {vs : List V} : RD H x v → RDs H xs vs → RDs H (x :: xs) (v :: vs)
end
/-- the tuples stay -/
def Tk (H H' : Hp) : Prop := ∀ a vs, H a = some (.tup vs) → H' a = some (.tup vs)
theorem Tk.refl (H : Hp) : Tk H H := fun _ _ h => h
theorem Tk.trans {H H1 H2 : Hp} (a : Tk H H1) (b : Tk H1 H2) : Tk H H2 := fun x vs h => b x vs (a x vs h)
section
variable {H H' : Hp}
mutual
theorem RD.keep (k : Tk H H') : ∀ (x : D) (v : V), RD H x v → RD H' x v
  | .non, _, h => by cases h; exact .non
  | .bl _, _, h => by cases h; exact .bl _
  | .int _, _, h => by cases h; exact .int _
  | .str _, _, h => by cases h; exact .str _
  | .ref _, _, h => by cases h; exact .ref _
  | .tup xs, _, h => by
    cases h with
    | tup h r => exact .tup (k _ _ h) (RDs.keep k xs _ r)
theorem RDs.keep (k : Tk H H') : ∀ (xs : List D) (vs : List V), RDs H xs vs → RDs H' xs vs
  | [], _, h => by cases h; exact .nil
  | x :: xs, _, h => by
    cases h with
    | cons h r => exact .cons (RD.keep k x _ h) (RDs.keep k xs _ r)
end
theorem RDs.length : ∀ {xs : List D} {vs : List V}, RDs H xs vs → xs.length = vs.length
  | [], _, h => by cases h; rfl
  | _ :: xs, _, h => by
    cases h with
    | cons _ r => simp [RDs.length r]
theorem RDs.get : ∀ {xs : List D} {vs : List V} {i : Nat} {x : D}, RDs H xs vs → xs[i]? = some x → ∃ v, vs[i]? = some v ∧ RD H x v
  | [], _, _, _, _, e => by simp at e
  | _ :: _, _, 0, _, h, e => by
    cases h with
    | cons h r => simp at e; subst e; exact ⟨_, rfl, h⟩
  | _ :: xs, _, i + 1, x, h, e => by
    cases h with
    | cons h r => simpa using RDs.get (i := i) r (by simpa using e)
theorem RDs.getV : ∀ {xs : List D} {vs : List V} {i : Nat} {v : V}, RDs H xs vs → vs[i]? = some v → ∃ x, xs[i]? = some x ∧ RD H x v
  | [], _, _, _, h, e => by cases h; simp at e
  | _ :: _, _, 0, _, h, e => by
    cases h with
    | cons h r => simp at e; subst e; exact ⟨_, rfl, h⟩
  | _ :: xs, _, i + 1, x, h, e => by
    cases h with
    | cons h r => simpa using RDs.getV (i := i) r (by simpa using e)
theorem RDs.app : ∀ {xs ys : List D} {vs ws : List V}, RDs H xs vs → RDs H ys ws → RDs H (xs ++ ys) (vs ++ ws)
  | [], _, _, _, h, k => by cases h; exact k
  | _ :: _, _, _, _, h, k => by
    cases h with
    | cons h r => exact .cons h (RDs.app r k)
theorem RDs.take : ∀ (n : Nat) {xs : List D} {vs : List V}, RDs H xs vs → RDs H (xs.take n) (vs.take n)
  | 0, _, _, h => by simpa using .nil
  | _ + 1, [], _, h => by cases h; exact .nil
  | n + 1, _ :: _, _, h => by
    cases h with
    | cons h r => exact .cons h (RDs.take n r)
theorem RDs.drop : ∀ (n : Nat) {xs : List D} {vs : List V}, RDs H xs vs → RDs H (xs.drop n) (vs.drop n)
  | 0, _, _, h => h
  | _ + 1, [], _, h => by cases h; exact .nil
  | n + 1, _ :: _, _, h => by
    cases h with
    | cons h r => exact RDs.drop n r
theorem RDs.set {x : D} {v : V} (q : RD H x v) : ∀ (i : Nat) {xs : List D} {vs : List V}, RDs H xs vs → RDs H (xs.set i x) (vs.set i v)
  | _, [], _, h => by cases h; exact .nil
  | 0, _ :: _, _, h => by
    cases h with
    | cons h r => exact .cons q r
  | n + 1, _ :: _, _, h => by
    cases h with
    | cons h r => exact .cons h (RDs.set q n r)
theorem RDs.erase : ∀ (i : Nat) {xs : List D} {vs : List V}, RDs H xs vs → RDs H (xs.eraseIdx i) (vs.eraseIdx i)
  | _, [], _, h => by cases h; exact .nil
  | 0, _ :: _, _, h => by
    cases h with
    | cons h r => exact r
  | n + 1, _ :: _, _, h => by
    cases h with
    | cons h r => exact .cons h (RDs.erase n r)
theorem RDs.rev : ∀ {xs : List D} {vs : List V}, RDs H xs vs → RDs H xs.reverse vs.reverse
  | [], _, h => by cases h; exact .nil
  | _ :: _, _, h => by
    cases h with
    | cons h r => simpa using RDs.app (RDs.rev r) (.cons h .nil)
theorem RDs.one {x : D} {v : V} (h : RD H x v) : RDs H [x] [v] := .cons h .nil
/-- the same value is the same data -/
theorem RD.refs {x : D} {a : Addr} (h : RD H x (.ref a)) : x = .ref a ∨ ∃ xs vs, x = .tup xs ∧ H a = some (.tup vs) ∧ RDs H xs vs := by
  cases h with
  | tup h r => exact .inr ⟨_, _, rfl, h, r⟩
  | ref => exact .inl rfl
end

/-- a key of a dict: an int, a text -/
def kD : Key → D
  | .inl i => .int i
  | .inr x => .str x
theorem kD_inj {a b : Key} (e : kD a = kD b) : a = b := by
  cases a <;> cases b <;> simp [kD] at e <;> rw [e]
theorem kDs_inj : ∀ {a b : List Key}, a.map kD = b.map kD → a = b
  | [], [], _ => rfl
  | [], _ :: _, e => by simp at e
  | _ :: _, [], e => by simp at e
  | x :: xs, y :: ys, e => by
    rw [List.map_cons, List.map_cons] at e
    injection e with e1 e2
    rw [kD_inj e1, kDs_inj e2]
theorem kD_rel {H : Hp} (k : Key) : RD H (kD k) (kV k) := by
  cases k with
  | inl i => exact .int i
  | inr x => exact .str x
theorem kDs_rel {H : Hp} : ∀ ks : List Key, RDs H (ks.map kD) (ks.map kV)
  | [] => .nil
  | k :: ks => .cons (kD_rel k) (kDs_rel ks)
/-- the table of a dict with keys κ -/
abbrev RT {κ : Type} (H : Hp) (g : κ → D) : List (D × D) → List (κ × V) → Prop := Paired fun p q => p.1 = g q.1 ∧ RD H p.2 q.2
def gT (ks : List Key) : D := .tup (ks.map kD)
theorem gT_inj {a b : List Key} (e : gT a = gT b) : a = b := by
  unfold gT at e
  injection e with e
  exact kDs_inj e
theorem RT.keep {κ : Type} {g : κ → D} {H H' : Hp} (k : Tk H H') {kvs : List (D × D)} {ks : List (κ × V)} (r : RT H g kvs ks) : RT H' g kvs ks := L2.Paired.mapP r fun _ _ z => ⟨z.1, z.2.keep k⟩
/-- what stands there is such a dict -/
def RDct (kvs : List (D × D)) (H : Hp) (o : Option HO) : Prop :=
  (∃ ks : List (Key × V), o = some (.dK ks) ∧ RT H kD kvs ks) ∨ ∃ ks : List (List Key × V), o = some (.dT ks) ∧ RT H gT kvs ks
theorem RDct.keep {kvs : List (D × D)} {H H' : Hp} {o : Option HO} (k : Tk H H') (r : RDct kvs H o) : RDct kvs H' o := by
  rcases r with ⟨ks, e, r⟩ | ⟨ks, e, r⟩
  · exact .inl ⟨ks, e, r.keep k⟩
  · exact .inr ⟨ks, e, r.keep k⟩
abbrev RF (H : Hp) : List (Str × D) → List (Str × V) → Prop := Paired fun p q => p.1 = q.1 ∧ RD H p.2 q.2
theorem RF.keep {H H' : Hp} (k : Tk H H') {fs : List (Str × D)} {gs : List (Str × V)} (r : RF H fs gs) : RF H' fs gs := L2.Paired.mapP r fun _ _ z => ⟨z.1, z.2.keep k⟩
/-- .. the object -/
def RO (H : Hp) (o : Option HO) : Ob → Prop
  | .lst xs => ∃ vs, o = some (.lst vs) ∧ RDs H xs vs
  | .dct kvs => RDct kvs H o
  | .ins C fs => ∃ dx gs, o = some (.ins C dx gs) ∧ RF H fs gs
  | .fz od u kvs => o = some (.frz od u) ∧ RDct kvs H (some u)
  | .scr xs => ∃ od vs, o = some (.frz od (.lst vs)) ∧ RDs H xs vs
theorem RO.keep {H H' : Hp} {o : Option HO} (k : Tk H H') : ∀ {b : Ob}, RO H o b → RO H' o b
  | .lst _, ⟨vs, e, r⟩ => ⟨vs, e, r.keep k⟩
  | .dct _, r => RDct.keep k r
  | .ins _ _, ⟨dx, gs, e, r⟩ => ⟨dx, gs, e, r.keep k⟩
  | .fz _ _ _, ⟨e, r⟩ => ⟨e, RDct.keep k r⟩
  | .scr _, ⟨od, vs, e, r⟩ => ⟨od, vs, e, r.keep k⟩
theorem RO.some {H : Hp} {o : Option HO} : ∀ {b : Ob}, RO H o b → o ≠ none
  | .lst _, ⟨vs, e, r⟩ => by rw [e]; exact nofun
  | .dct _, r => by rcases r with ⟨ks, e, r⟩ | ⟨ks, e, r⟩ <;> (rw [e]; exact nofun)
  | .ins _ _, ⟨dx, gs, e, r⟩ => by rw [e]; exact nofun
  | .fz _ _ _, ⟨e, r⟩ => by rw [e]; exact nofun
  | .scr _, ⟨od, vs, e, r⟩ => by rw [e]; exact nofun
theorem RO.notup {H : Hp} {o : Option HO} {vs : List V} : ∀ {b : Ob}, RO H o b → o ≠ Option.some (.tup vs)
  | .lst _, ⟨vs, e, r⟩ => by rw [e]; exact nofun
  | .dct _, r => by rcases r with ⟨ks, e, r⟩ | ⟨ks, e, r⟩ <;> (rw [e]; exact nofun)
  | .ins _ _, ⟨dx, gs, e, r⟩ => by rw [e]; exact nofun
  | .fz _ _ _, ⟨e, r⟩ => by rw [e]; exact nofun
  | .scr _, ⟨od, vs, e, r⟩ => by rw [e]; exact nofun
/-- the object that a fresh result is -/
def U.ob : U → Option Ob
  | .lst xs => some (.lst xs)
  | .dct kvs => some (.dct kvs)
  | _ => none
/-- a result's value -/
def RU (H : Hp) (A : Ah) (σ : St) : U → V → Prop
  | .d x, v => RD H x v
  | .lst xs, v => ∃ a, v = .ref a ∧ RO H (H a) (.lst xs) ∧ A a = none
  | .dct kvs, v => ∃ a, v = .ref a ∧ RO H (H a) (.dct kvs) ∧ A a = none
  | .loc i, v => σ[i]? = some (some v)
theorem RU.owned {H : Hp} {A : Ah} {σ : St} {u : U} {v : V} {b : Ob} (h : RU H A σ u v) (e : u.ob = some b) : ∃ a, v = .ref a ∧ RO H (H a) b ∧ A a = none := by
  cases u with
  | lst xs => cases e; exact h
  | dct kvs => cases e; exact h
  | d x => cases e
  | loc i => cases e
theorem RU.ofOb {H : Hp} {A : Ah} {σ : St} {u : U} {a : Addr} {b : Ob} (e : u.ob = some b) (h : RO H (H a) b) (n : A a = none) : RU H A σ u (.ref a) := by
  cases u with
  | lst xs => cases e; exact ⟨a, rfl, h, n⟩
  | dct kvs => cases e; exact ⟨a, rfl, h, n⟩
  | d x => cases e
  | loc i => cases e

/-! ### the locals, the heap -/
/-- a is the object that a local alone holds -/
def Own (σ : St) (ρ : Rho) (a : Addr) : Prop := ∃ (i : Nat) (u : U), ρ[i]? = some (some u) ∧ u.own = true ∧ σ[i]? = some (some (V.ref a))
structure Rel (H0 H : Hp) (A : Ah) (σ : St) (ρ : Rho) : Prop where
  hp : ∀ a c, A a = some c → RO H (H a) c.ob
  len : ρ.length = σ.length
  st : ∀ (i : Nat) (u : U), ρ[i]? = some (some u) → ∃ v, σ[i]? = some (some v) ∧ RU H A σ u v ∧ ∀ j, u ≠ .loc j
  fresh : ∀ a, Own σ ρ a → H0 a = none
  apart : ∀ (i j : Nat) (u w : U) (a : Addr), ρ[i]? = some (some u) → u.own = true → ρ[j]? = some (some w) → w.own = true → σ[i]? = some (some (.ref a)) → σ[j]? = some (some (.ref a)) → i = j
  live : ∀ a, H0 a ≠ none → H a ≠ none
/-- how the heaps may go on: what is neither in A nor a local's own stays -/
structure Step (H : Hp) (A : Ah) (O : Addr → Prop) (H' : Hp) (A' : Ah) : Prop where
  keep : ∀ a o, H a = some o → A a = none → ¬ O a → H' a = some o ∧ A' a = none
  live : ∀ a, H a ≠ none → H' a ≠ none
theorem Step.refl (H : Hp) (A : Ah) (O : Addr → Prop) : Step H A O H A := ⟨fun _ _ h n _ => ⟨h, n⟩, fun _ h => h⟩
theorem Step.trans {H H1 H2 : Hp} {A A1 A2 : Ah} {O O1 : Addr → Prop} (s : Step H A O H1 A1) (t : Step H1 A1 O1 H2 A2) (k : ∀ a, O1 a → O a ∨ H a = none) : Step H A O H2 A2 :=
  ⟨fun a o h n p => (by
    obtain ⟨h1, n1⟩ := s.keep a o h n p
    exact t.keep a o h1 n1 fun z => (k a z).elim p fun e => by rw [h] at e; cases e), fun a h => t.live a (s.live a h)⟩
section
variable {H0 H H' : Hp} {A A' : Ah} {σ : St} {ρ ρ' : Rho} {O : Addr → Prop}
theorem Own.u_ob {u : U} (h : u.own = true) : ∃ b, u.ob = some b := by
  cases u with
  | d x => cases h
  | lst xs => exact ⟨_, rfl⟩
  | dct xs => exact ⟨_, rfl⟩
  | loc i => cases h
theorem Rel.ownAt (R : Rel H0 H A σ ρ) {a : Addr} (h : Own σ ρ a) : ∃ b, RO H (H a) b ∧ A a = none := by
  obtain ⟨i, u, e, o, es⟩ := h
  obtain ⟨v, ev, r, _⟩ := R.st i u e
  rw [es] at ev
  cases ev
  obtain ⟨b, eb⟩ := Own.u_ob o
  obtain ⟨a', ea, r, n⟩ := r.owned eb
  cases ea
  exact ⟨b, r, n⟩
theorem Rel.noTupA (R : Rel H0 H A σ ρ) {a : Addr} {vs : List V} (h : H a = some (.tup vs)) : A a = none := by
  cases e : A a with
  | none => rfl
  | some c => exact absurd h (R.hp a c e).notup
theorem Rel.noTupO (R : Rel H0 H A σ ρ) {a : Addr} {vs : List V} (h : H a = some (.tup vs)) : ¬ Own σ ρ a := fun o => by
  obtain ⟨b, r, _⟩ := R.ownAt o
  exact r.notup h
theorem Rel.tk (R : Rel H0 H A σ ρ) (s : Step H A (Own σ ρ) H' A') : Tk H H' := fun a vs h => (s.keep a _ h (R.noTupA h) (R.noTupO h)).1
theorem Rel.none_of (R : Rel H0 H A σ ρ) {a : Addr} (h : H a = none) : A a = none := by
  cases e : A a with
  | none => rfl
  | some c => exact absurd h (R.hp a c e).some
theorem Rel.own_live (R : Rel H0 H A σ ρ) {a : Addr} (h : Own σ ρ a) : H a ≠ none := by
  obtain ⟨b, r, _⟩ := R.ownAt h
  exact r.some
end
/-- behind a test: from (H, A, ρ) to (H', A', ρ') -/
structure OutT (H0 : Hp) (σ : St) (H : Hp) (A : Ah) (ρ : Rho) (H' : Hp) (A' : Ah) (ρ' : Rho) : Prop where
  rel : Rel H0 H' A' σ ρ'
  step : Step H A (Own σ ρ) H' A'
  sub : ∀ a, Own σ ρ' a → Own σ ρ a
/-- .. an expression, the result u at v -/
structure Out (H0 : Hp) (σ : St) (H : Hp) (A : Ah) (ρ : Rho) (H' : Hp) (A' : Ah) (ρ' : Rho) (u : U) (v : V) : Prop extends OutT H0 σ H A ρ H' A' ρ' where
  val : RU H' A' σ u v
  fr : u.own = true → ∀ a, v = .ref a → H a = none
/-- .. several, all data -/
structure OutA (H0 : Hp) (σ : St) (H : Hp) (A : Ah) (ρ : Rho) (H' : Hp) (A' : Ah) (ρ' : Rho) (xs : List D) (vs : List V) : Prop extends OutT H0 σ H A ρ H' A' ρ' where
  vals : RDs H' xs vs
/-- .. a statement -/
structure OutS (H0 : Hp) (σ : St) (H : Hp) (A : Ah) (ρ : Rho) (σ' : St) (H' : Hp) (A' : Ah) (ρ' : Rho) : Prop where
  rel : Rel H0 H' A' σ' ρ'
  step : Step H A (Own σ ρ) H' A'
  sub : ∀ a, Own σ' ρ' a → Own σ ρ a ∨ H a = none
/-- .. a return -/
structure OutR (H0 : Hp) (σ : St) (H : Hp) (A : Ah) (ρ : Rho) (H' : Hp) (A' : Ah) (u : U) (v : V) : Prop where
  hp : ∀ a c, A' a = some c → RO H' (H' a) c.ob
  val : RU H' A' [] u v
  step : Step H A (Own σ ρ) H' A'
  fr : u.own = true → ∀ a, v = .ref a → H0 a = none
  live : ∀ a, H0 a ≠ none → H' a ≠ none
abbrev K1 := U → Rho → Ah → Prop
abbrev WE := Rho → Ah → K1 → Prop
abbrev KB := Bool → Rho → Ah → Prop
abbrev WT := Rho → Ah → KB → Prop
abbrev KA := List D → Rho → Ah → Prop
abbrev WA := Rho → Ah → KA → Prop
structure WD where
  nx : Rho → Ah → Prop
  rt : U → Ah → Prop
  bk : Rho → Ah → Prop := fun _ _ => False
  ct : Rho → Ah → Prop := fun _ _ => False
abbrev WS := WD → Rho → Ah → Prop
/-- what follows, W-level and HandS's -/
def Kq (H0 : Hp) (σ : St) (H : Hp) (A : Ah) (ρ : Rho) (k : K1) (Q : VK) : Prop := ∀ u ρ' A', k u ρ' A' → ∀ v H', Out H0 σ H A ρ H' A' ρ' u v → Q v H'
def KqT (H0 : Hp) (σ : St) (H : Hp) (A : Ah) (ρ : Rho) (k : KB) (Q : Bool → Hp → Prop) : Prop := ∀ b ρ' A', k b ρ' A' → ∀ H', OutT H0 σ H A ρ H' A' ρ' → Q b H'
def KqA (H0 : Hp) (σ : St) (H : Hp) (A : Ah) (ρ : Rho) (k : KA) (Q : List V → Hp → Prop) : Prop := ∀ xs ρ' A', k xs ρ' A' → ∀ vs H', OutA H0 σ H A ρ H' A' ρ' xs vs → Q vs H'
structure Fin (H0 : Hp) (σ : St) (H : Hp) (A : Ah) (ρ : Rho) (d : WD) (D : Ends) : Prop where
  nx : ∀ ρ' A', d.nx ρ' A' → ∀ σ' H', OutS H0 σ H A ρ σ' H' A' ρ' → D.nx σ' H'
  rt : ∀ u A', d.rt u A' → ∀ v H', OutR H0 σ H A ρ H' A' u v → D.rt v H'
  bk : ∀ ρ' A', d.bk ρ' A' → ∀ σ' H', OutS H0 σ H A ρ σ' H' A' ρ' → D.bk σ' H'
  ct : ∀ ρ' A', d.ct ρ' A' → ∀ σ' H', OutS H0 σ H A ρ σ' H' A' ρ' → D.ct σ' H'
def lift (H0 : Hp) (t : WE) : TE := fun σ H Q => ∃ ρ A k, Rel H0 H A σ ρ ∧ t ρ A k ∧ Kq H0 σ H A ρ k Q
def liftT (H0 : Hp) (t : WT) : TT := fun σ H Q => ∃ ρ A k, Rel H0 H A σ ρ ∧ t ρ A k ∧ KqT H0 σ H A ρ k Q
def liftA (H0 : Hp) (t : WA) : TA := fun σ H Q => ∃ ρ A k, Rel H0 H A σ ρ ∧ t ρ A k ∧ KqA H0 σ H A ρ k Q
def liftS (H0 : Hp) (t : WS) : TS := fun D σ H => ∃ ρ A d, Rel H0 H A σ ρ ∧ t d ρ A ∧ Fin H0 σ H A ρ d D
section
variable {H0 H H1 H2 : Hp} {A A1 A2 : Ah} {σ σ1 σ2 : St} {ρ ρ1 ρ2 : Rho} {u x : U} {v w : V} {xs : List D} {vs : List V}
theorem OutT.refl (R : Rel H0 H A σ ρ) : OutT H0 σ H A ρ H A ρ := ⟨R, Step.refl _ _ _, fun _ z => z⟩
theorem OutT.trans (a : OutT H0 σ H A ρ H1 A1 ρ1) (b : OutT H0 σ H1 A1 ρ1 H2 A2 ρ2) : OutT H0 σ H A ρ H2 A2 ρ2 :=
  ⟨b.rel, a.step.trans b.step fun c z => .inl (a.sub c z), fun c z => a.sub c (b.sub c z)⟩
theorem Step.back {O : Addr → Prop} (s : Step H A O H1 A1) {c : Addr} (h : H1 c = none) : H c = none := by
  cases q : H c with
  | none => rfl
  | some z => exact absurd h (s.live c (by rw [q]; nofun))
theorem OutT.then (a : OutT H0 σ H A ρ H1 A1 ρ1) (b : Out H0 σ H1 A1 ρ1 H2 A2 ρ2 u v) : Out H0 σ H A ρ H2 A2 ρ2 u v :=
  ⟨a.trans b.toOutT, b.val, fun o c e => a.step.back (b.fr o c e)⟩
theorem Out.trans (a : Out H0 σ H A ρ H1 A1 ρ1 x w) (b : Out H0 σ H1 A1 ρ1 H2 A2 ρ2 u v) : Out H0 σ H A ρ H2 A2 ρ2 u v := a.toOutT.then b
theorem OutT.thenA (a : OutT H0 σ H A ρ H1 A1 ρ1) (b : OutA H0 σ H1 A1 ρ1 H2 A2 ρ2 xs vs) : OutA H0 σ H A ρ H2 A2 ρ2 xs vs := ⟨a.trans b.toOutT, b.vals⟩
theorem OutT.toS (a : OutT H0 σ H A ρ H1 A1 ρ1) : OutS H0 σ H A ρ σ H1 A1 ρ1 := ⟨a.rel, a.step, fun c z => .inl (a.sub c z)⟩
theorem OutS.trans (a : OutS H0 σ H A ρ σ1 H1 A1 ρ1) (b : OutS H0 σ1 H1 A1 ρ1 σ2 H2 A2 ρ2) : OutS H0 σ H A ρ σ2 H2 A2 ρ2 :=
  ⟨b.rel, a.step.trans b.step a.sub, fun c z => (b.sub c z).elim (a.sub c) fun e => .inr (a.step.back e)⟩
theorem OutS.thenR (a : OutS H0 σ H A ρ σ1 H1 A1 ρ1) (b : OutR H0 σ1 H1 A1 ρ1 H2 A2 u v) : OutR H0 σ H A ρ H2 A2 u v :=
  ⟨b.hp, b.val, a.step.trans b.step a.sub, b.fr, b.live⟩
theorem Fin.behind {d : WD} {D : Ends} (a : OutS H0 σ H A ρ σ1 H1 A1 ρ1) (f : Fin H0 σ H A ρ d D) : Fin H0 σ1 H1 A1 ρ1 d D :=
  ⟨fun ρ' A' h σ' H' o => f.nx ρ' A' h σ' H' (a.trans o), fun u A' h v H' o => f.rt u A' h v H' (a.thenR o), fun ρ' A' h σ' H' o => f.bk ρ' A' h σ' H' (a.trans o), fun ρ' A' h σ' H' o => f.ct ρ' A' h σ' H' (a.trans o)⟩
theorem Kq.behind {k : K1} {Q : VK} (a : OutT H0 σ H A ρ H1 A1 ρ1) (f : Kq H0 σ H A ρ k Q) : Kq H0 σ H1 A1 ρ1 k Q := fun u ρ' A' h v H' o => f u ρ' A' h v H' (a.then o)
theorem KqT.behind {k : KB} {Q : Bool → Hp → Prop} (a : OutT H0 σ H A ρ H1 A1 ρ1) (f : KqT H0 σ H A ρ k Q) : KqT H0 σ H1 A1 ρ1 k Q := fun u ρ' A' h H' o => f u ρ' A' h H' (a.trans o)
theorem KqA.behind {k : KA} {Q : List V → Hp → Prop} (a : OutT H0 σ H A ρ H1 A1 ρ1) (f : KqA H0 σ H A ρ k Q) : KqA H0 σ H1 A1 ρ1 k Q := fun u ρ' A' h v H' o => f u ρ' A' h v H' (a.thenA o)
/-- a result stays while further ones come -/
theorem Out.stay (R : Rel H0 H A σ ρ) (a : Out H0 σ H A ρ H1 A1 ρ1 x w) (s : Step H1 A1 (Own σ ρ1) H2 A2) : RU H2 A2 σ x w := by
  have tk := a.rel.tk s
  have own : ∀ b c, x.own = true → w = .ref c → RO H1 (H1 c) b → A1 c = none → RO H2 (H2 c) b ∧ A2 c = none := fun b c o e r n => by
    cases q : H1 c with
    | none => exact absurd q r.some
    | some ob =>
      obtain ⟨e1, n1⟩ := s.keep c ob q n fun z => absurd (a.fr o c e) (R.own_live (a.sub c z))
      rw [q] at r
      rw [e1]
      exact ⟨r.keep tk, n1⟩
  have val := a.val
  cases x with
  | d x => exact (show RD H1 x w from val).keep tk
  | lst xs =>
    obtain ⟨c, e, r, n⟩ := val
    obtain ⟨r', n'⟩ := own _ c rfl e r n
    exact ⟨c, e, r', n'⟩
  | dct xs =>
    obtain ⟨c, e, r, n⟩ := val
    obtain ⟨r', n'⟩ := own _ c rfl e r n
    exact ⟨c, e, r', n'⟩
  | loc i => exact val
theorem Out.here (R : Rel H0 H A σ ρ) (r : RU H A σ u v) (n : u.own = false) : Out H0 σ H A ρ H A ρ u v :=
  ⟨OutT.refl R, r, fun o => (by rw [n] at o; cases o)⟩
theorem Out.d (R : Rel H0 H A σ ρ) {x : D} (r : RD H x v) : Out H0 σ H A ρ H A ρ (.d x) v := Out.here R r rfl
end
/-! ### a new object -/
section
variable {H0 H : Hp} {A : Ah} {σ : St} {ρ : Rho} {p : Addr} {o : HO}
theorem tk_new (h : H p = none) : Tk H (upd H p o) := fun a vs e => by rw [upd_ne (ne_of_none e h)]; exact e
theorem RU.new {u : U} {v : V} (r : RU H A σ u v) (h : H p = none) : RU (upd H p o) A σ u v := by
  have tk : Tk H (upd H p o) := tk_new h
  have same : ∀ a, H a ≠ none → upd H p o a = H a := fun a n => upd_ne fun e => n (by rw [e]; exact h)
  cases u with
  | d x => exact (show RD H x v from r).keep tk
  | lst xs =>
    obtain ⟨a, ea, r, n⟩ := r
    exact ⟨a, ea, by rw [same a r.some]; exact r.keep tk, n⟩
  | dct xs =>
    obtain ⟨a, ea, r, n⟩ := r
    exact ⟨a, ea, by rw [same a r.some]; exact r.keep tk, n⟩
  | loc i => exact r
theorem Rel.new (R : Rel H0 H A σ ρ) (h : H p = none) : Rel H0 (upd H p o) A σ ρ := by
  have tk : Tk H (upd H p o) := tk_new h
  have same : ∀ a, H a ≠ none → upd H p o a = H a := fun a n => upd_ne fun e => n (by rw [e]; exact h)
  refine ⟨fun a c e => ?_, R.len, fun i u e => ?_, R.fresh, R.apart, fun a n => ?_⟩
  · have r := R.hp a c e
    rw [same a r.some]
    exact r.keep tk
  · obtain ⟨v, ev, r, nl⟩ := R.st i u e
    exact ⟨v, ev, r.new h, nl⟩
  · rw [same a (R.live a n)]
    exact R.live a n
theorem Step.new (R : Rel H0 H A σ ρ) (h : H p = none) {O : Addr → Prop} : Step H A O (upd H p o) A :=
  ⟨fun a ob e n _ => ⟨(by rw [upd_ne (ne_of_none e h)]; exact e), n⟩, fun a n => (by
    by_cases e : a = p
    · rw [e, upd_same]; nofun
    · rw [upd_ne e]; exact n)⟩
theorem OutT.new (R : Rel H0 H A σ ρ) (h : H p = none) : OutT H0 σ H A ρ (upd H p o) A ρ := ⟨R.new h, Step.new R h, fun _ z => z⟩
/-- a new tuple -/
theorem Out.tup (R : Rel H0 H A σ ρ) (h : H p = none) {xs : List D} {vs : List V} (r : RDs H xs vs) : Out H0 σ H A ρ (upd H p (.tup vs)) A ρ (.d (.tup xs)) (.ref p) :=
  ⟨OutT.new R h, show RD _ _ _ from .tup upd_same (r.keep (tk_new h)), nofun⟩
/-- a new list, a new dict -/
theorem Out.new (R : Rel H0 H A σ ρ) (h : H p = none) {u : U} {b : Ob} (e : u.ob = some b) (r : RO (upd H p o) (some o) b) : Out H0 σ H A ρ (upd H p o) A ρ u (.ref p) :=
  ⟨OutT.new R h, RU.ofOb e (by rw [upd_same]; exact r) (R.none_of h), fun _ a ea => (by cases ea; exact h)⟩
theorem Out.lst (R : Rel H0 H A σ ρ) (h : H p = none) {xs : List D} {vs : List V} (r : RDs H xs vs) : Out H0 σ H A ρ (upd H p (.lst vs)) A ρ (.lst xs) (.ref p) :=
  Out.new R h (b := .lst xs) rfl ⟨vs, rfl, r.keep (tk_new h)⟩
end

/-! ### a fresh list or dict, or a local's own, becomes an object that may be held anywhere -/
def obOf (ρ : Rho) (A : Ah) : U → Option Ob
  | .d (.ref a) => (A a).map (·.ob)
  | .lst xs => some (.lst xs)
  | .dct kvs => some (.dct kvs)
  | .loc i => match ρ[i]? with
    | some (some u) => u.ob
    | _ => none
  | _ => none
def esc (u : U) (ρ : Rho) (A : Ah) (k : D → Rho → Ah → Prop) : Prop :=
  match u with
  | .d x => k x ρ A
  | .loc i => ∃ b, obOf ρ A (.loc i) = some b ∧ ∃ t : Tag, ∀ a, A a = none → k (.ref a) (ρ.set i (some (.d (.ref a)))) (up A a ⟨t, b⟩)
  | u => ∃ b, u.ob = some b ∧ ∃ t : Tag, ∀ a, A a = none → k (.ref a) ρ (up A a ⟨t, b⟩)
section
variable {H0 H H1 : Hp} {A A1 : Ah} {σ : St} {ρ ρ1 : Rho} {u : U} {v : V}
theorem obOf_rel (R : Rel H0 H A σ ρ) (r : RU H A σ u v) {b : Ob} (e : obOf ρ A u = some b) : ∃ a, v = .ref a ∧ RO H (H a) b := by
  cases u with
  | lst xs => cases e; obtain ⟨a, ea, r, _⟩ := r; exact ⟨a, ea, r⟩
  | dct xs => cases e; obtain ⟨a, ea, r, _⟩ := r; exact ⟨a, ea, r⟩
  | loc i =>
    simp only [obOf] at e
    split at e
    · rename_i u eu
      obtain ⟨w, ew, rw', _⟩ := R.st i u eu
      have : σ[i]? = some (some v) := r
      rw [this] at ew
      cases ew
      obtain ⟨a, ea, ro, _⟩ := rw'.owned e
      exact ⟨a, ea, ro⟩
    · cases e
  | d x =>
    cases x with
    | ref a =>
      simp only [obOf, Option.map_eq_some_iff] at e
      obtain ⟨c, ec, rfl⟩ := e
      cases (show RD H (.ref a) v from r)
      exact ⟨a, rfl, R.hp a c ec⟩
    | _ => cases e
/-- what is tracked from now on -/
theorem Rel.track (R : Rel H0 H A σ ρ) {a : Addr} {c : Cell} (r : RO H (H a) c.ob) (n : ¬ Own σ ρ a) : Rel H0 H (up A a c) σ ρ := by
  refine ⟨fun b d e => ?_, R.len, fun i u e => ?_, R.fresh, R.apart, R.live⟩
  · by_cases h : b = a
    · rw [h, up_same] at e
      cases e
      rw [h]
      exact r
    · rw [up_ne h] at e
      exact R.hp b d e
  · obtain ⟨v, ev, q, nl⟩ := R.st i u e
    refine ⟨v, ev, ?_, nl⟩
    cases hu : u.own with
    | false => cases u with
      | d x => exact q
      | loc j => exact q
      | lst xs => cases hu
      | dct xs => cases hu
    | true =>
      obtain ⟨b, eb⟩ := Own.u_ob hu
      obtain ⟨a', ea, ro, na⟩ := q.owned eb
      subst ea
      refine RU.ofOb eb ro ?_
      rw [up_ne fun z => n ⟨i, u, e, hu, by rw [ev, z]⟩]
      exact na
theorem esc_ok (R : Rel H0 H A σ ρ) (o : Out H0 σ H A ρ H1 A1 ρ1 u v) {k : D → Rho → Ah → Prop} (h : esc u ρ1 A1 k) : ∃ x ρ2 A2, k x ρ2 A2 ∧ Out H0 σ H A ρ H1 A2 ρ2 (.d x) v := by
  have fresh : ∀ b, u.ob = some b → (∃ t : Tag, ∀ a, A1 a = none → k (.ref a) ρ1 (up A1 a ⟨t, b⟩)) → ∃ x ρ2 A2, k x ρ2 A2 ∧ Out H0 σ H A ρ H1 A2 ρ2 (.d x) v := fun b e ⟨t, h⟩ => by
    obtain ⟨a, ea, ro, na⟩ := o.val.owned e
    have hu : u.own = true := by cases u <;> first | rfl | cases e
    have ha := o.fr hu a ea
    have no : ¬ Own σ ρ1 a := fun z => R.own_live (o.sub a z) ha
    refine ⟨_, _, _, h a na, ⟨⟨o.rel.track ro no, ⟨fun c ob q n p => ?_, o.step.live⟩, o.sub⟩, ?_, nofun⟩⟩
    · obtain ⟨q1, n1⟩ := o.step.keep c ob q n p
      exact ⟨q1, by rw [up_ne fun z => (by rw [z, ha] at q; cases q)]; exact n1⟩
    · rw [ea]
      exact .ref a
  cases u with
  | d x => exact ⟨x, ρ1, A1, h, o⟩
  | lst xs =>
    obtain ⟨b, eb, h⟩ := h
    exact fresh b eb h
  | dct xs =>
    obtain ⟨b, eb, h⟩ := h
    exact fresh b eb h
  | loc i =>
    obtain ⟨b, eb, t, h⟩ := h
    have hv : σ[i]? = some (some v) := o.val
    simp only [obOf] at eb
    split at eb
    · rename_i w ew
      obtain ⟨v', ev, rw', _⟩ := o.rel.st i w ew
      rw [hv] at ev
      cases ev
      obtain ⟨a, ea, ro, na⟩ := rw'.owned eb
      subst ea
      have hw : w.own = true := by cases w <;> first | rfl | cases eb
      have own1 : Own σ ρ1 a := ⟨i, w, ew, hw, hv⟩
      have hil : i < ρ1.length := (List.getElem?_eq_some_iff.mp ew).1
      have sub : ∀ c, Own σ (ρ1.set i (some (.d (.ref a)))) c → Own σ ρ1 c ∧ c ≠ a := fun c ⟨j, u, ej, uo, es⟩ => by
        by_cases hj : i = j
        · subst hj
          rw [List.getElem?_set_self hil] at ej
          cases ej
          cases uo
        · rw [List.getElem?_set_ne hj] at ej
          refine ⟨⟨j, u, ej, uo, es⟩, fun z => hj ?_⟩
          subst z
          exact o.rel.apart i j w u c ew hw ej uo hv es
      have R2 : Rel H0 H1 A1 σ (ρ1.set i (some (.d (.ref a)))) := by
        refine ⟨o.rel.hp, by rw [List.length_set]; exact o.rel.len, fun j u ej => ?_, fun c z => o.rel.fresh c (sub c z).1, fun j l u w' c ej uo el wo sj sl => ?_, o.rel.live⟩
        · by_cases hj : i = j
          · subst hj
            rw [List.getElem?_set_self hil] at ej
            cases ej
            exact ⟨_, hv, .ref a, nofun⟩
          · rw [List.getElem?_set_ne hj] at ej
            exact o.rel.st j u ej
        · by_cases hj : i = j
          · subst hj
            rw [List.getElem?_set_self hil] at ej
            cases ej
            cases uo
          · by_cases hl : i = l
            · subst hl
              rw [List.getElem?_set_self hil] at el
              cases el
              cases wo
            · rw [List.getElem?_set_ne hj] at ej
              rw [List.getElem?_set_ne hl] at el
              exact o.rel.apart j l u w' c ej uo el wo sj sl
      refine ⟨_, _, _, h a na, ⟨⟨R2.track ro fun z => (sub a z).2 rfl, ⟨fun c ob q n p => ?_, o.step.live⟩, fun c z => o.sub c (sub c z).1⟩, .ref a, nofun⟩⟩
      obtain ⟨q1, n1⟩ := o.step.keep c ob q n p
      exact ⟨q1, by rw [up_ne fun z => p (by rw [z]; exact o.sub a own1)]; exact n1⟩
    · cases eb
end
end Dn

namespace Dn
open PySem L2

/-! ### weaker readings -/
section
variable {X : Cx} {e : Expr} {es : List Expr}
theorem PE.imp {t t' : TE} (h : PE X e t) (k : ∀ σ H Q, t' σ H Q → t σ H Q) : PE X e t' := ⟨fun pins s σ H Q I w => h.run pins s σ H Q I (k σ H Q w)⟩
theorem PT.imp {t t' : TT} (h : PT X e t) (k : ∀ σ H Q, t' σ H Q → t σ H Q) : PT X e t' := ⟨fun pins s σ H Q I w => h.run pins s σ H Q I (k σ H Q w)⟩
theorem PW.imp {t t' : TT} (h : PW X e t) (k : ∀ σ H Q, t' σ H Q → t σ H Q) : PW X e t' := ⟨fun wh pins s σ H Q I w => h.run wh pins s σ H Q I (k σ H Q w)⟩
theorem PA.imp {t t' : TA} (h : PA X es t) (k : ∀ σ H Q, t' σ H Q → t σ H Q) : PA X es t' := ⟨fun pos pins s σ H Q I w => h.run pos pins s σ H Q I (k σ H Q w)⟩
theorem PS.imp {st : Stmt} {t t' : TS} (h : PS X st t) (k : ∀ D σ H, t' D σ H → t D σ H) : PS X st t' := ⟨fun pins s σ H D I w => h.run pins s σ H D I (k D σ H w)⟩
theorem PSs.imp {st : List Stmt} {t t' : TS} (h : PSs X st t) (k : ∀ D σ H, t' D σ H → t D σ H) : PSs X st t' := ⟨fun pins s σ H D I w => h.run pins s σ H D I (k D σ H w)⟩
end

/-! ### names, constants -/
def rd (i : Nat) : U → U
  | .lst _ => .loc i
  | .dct _ => .loc i
  | u => u
def wVar (i : Nat) : WE := fun ρ A k => ∃ u, ρ[i]? = some (some u) ∧ k (rd i u) ρ A
def wC (x : D) : WE := fun ρ A k => k (.d x) ρ A
section
variable {X : Cx} {H0 : Hp}
theorem q_var (i : Nat) {x : Str} {pos : Pos} (hN : X.N[i]? = some x := by rfl) (hv : Vis X.env.scope x := by first | exact Or.inl rfl | exact Or.inr (Or.inl rfl) | exact Or.inr (Or.inr rfl)) (hd : (x == ("__debug__" : Str)) = false := by decide)
    (hcd : (x == ("__classdict__" : Str)) = false := by decide) : PE X (.Name x pos) (lift H0 (wVar i)) := by
  refine PE.imp (pe_var hN hv hd hcd) fun σ H Q ⟨ρ, A, k, R, ⟨u, eu, h⟩, hk⟩ => ?_
  obtain ⟨v, ev, r, nl⟩ := R.st i u eu
  refine ⟨v, ev, hk _ _ _ h v H (Out.here R ?_ ?_)⟩
  · cases u with
    | d x => exact r
    | lst xs => exact ev
    | dct xs => exact ev
    | loc j => exact r
  · cases u <;> rfl
theorem q_c {e : Expr} {x : D} {v : V} (h : PE X e (tC v)) (r : ∀ H, RD H x v) : PE X e (lift H0 (wC x)) :=
  PE.imp h fun σ H Q ⟨ρ, A, k, R, h, hk⟩ => hk _ _ _ h v H (Out.d R (r H))
theorem q_int {i j pos} : PE X (.Constant (.int i) j pos) (lift H0 (wC (.int i))) := q_c pe_int fun _ => .int i
theorem q_bl {b j pos} : PE X (.Constant (.bool b) j pos) (lift H0 (wC (.bl b))) := q_c pe_bl fun _ => .bl b
theorem q_non {j pos} : PE X (.Constant .none j pos) (lift H0 (wC .non)) := q_c pe_non fun _ => .non
theorem q_str {x j pos} : PE X (.Constant (.str x) j pos) (lift H0 (wC (.str x))) := q_c pe_str fun _ => .str x
theorem q_gint {x : Str} {i : Int} {t : Tok} {pos : Pos} (hm : X.mg x = some (.int i t)) (hg : Gl X x := by rfl) (hd : (x == ("__debug__" : Str)) = false := by decide) : PE X (.Name x pos) (lift H0 (wC (.int i))) :=
  q_c (v := .int i) (pe_glob (v := .int i) hg hm (show RelV (.int i) (.int i t) from ⟨t, rfl⟩) hd) fun _ => .int i
theorem q_gstr {x z : Str} {t : Tok} {pos : Pos} (hm : X.mg x = some (.str z t)) (hg : Gl X x := by rfl) (hd : (x == ("__debug__" : Str)) = false := by decide) : PE X (.Name x pos) (lift H0 (wC (.str z))) :=
  q_c (v := .str z) (pe_glob (v := .str z) hg hm (show RelV (.str z) (.str z t) from ⟨t, rfl⟩) hd) fun _ => .str z
end

/-! ### one after another -/
abbrev W1 := U → WE
abbrev W2 := U → U → WE
def wUn (r : W1) (ta : WE) : WE := fun ρ A k => ta ρ A fun x ρ1 A1 => r x ρ1 A1 k
def wBin (r : W2) (ta tb : WE) : WE := fun ρ A k => ta ρ A fun x ρ1 A1 => tb ρ1 A1 fun y ρ2 A2 => r x y ρ2 A2 k
/-- a rule by values refines r, r the W-level one -/
def Ref1 (r : V → Hp → VK → Prop) (w : W1) : Prop := ∀ {H0 : Hp} {σ : St} {H : Hp} {A : Ah} {ρ : Rho} {x : U} {v : V} {k : K1} {Q : VK}, Rel H0 H A σ ρ → RU H A σ x v → w x ρ A k → Kq H0 σ H A ρ k Q → r v H Q
def Ref2 (r : R2) (w : W2) : Prop := ∀ {H0 : Hp} {σ : St} {H : Hp} {A : Ah} {ρ : Rho} {x y : U} {v u : V} {k : K1} {Q : VK}, Rel H0 H A σ ρ → RU H A σ x v → RU H A σ y u → w x y ρ A k → Kq H0 σ H A ρ k Q → r v u H Q
section
variable {X : Cx} {H0 : Hp} {a b : Expr} {pos : Pos} {ta tb : WE}
theorem bin_lift {r : R2} {w : W2} (hr : Ref2 r w) : ∀ σ H Q, lift H0 (wBin w ta tb) σ H Q → tOp r (lift H0 ta) (lift H0 tb) σ H Q := fun σ H Q ⟨ρ, A, k, R, h, hk⟩ =>
  ⟨ρ, A, _, R, h, fun x ρ1 A1 h1 v H1 o1 => ⟨ρ1, A1, _, o1.rel, h1, fun y ρ2 A2 h2 u H2 o2 => hr o2.rel (o1.stay R o2.step) o2.val h2 (hk.behind (o1.toOutT.trans o2.toOutT))⟩⟩
theorem un_lift {r : V → Hp → VK → Prop} {w : W1} (hr : Ref1 r w) : ∀ σ H Q, lift H0 (wUn w ta) σ H Q → tUn r (lift H0 ta) σ H Q := fun σ H Q ⟨ρ, A, k, R, h, hk⟩ =>
  ⟨ρ, A, _, R, h, fun x ρ1 A1 h1 v H1 o1 => hr o1.rel o1.val h1 (hk.behind o1.toOutT)⟩
theorem q_op {op : Operator} {r : R2} {w : W2} (ho : OpR X (binaryOp op) r) (hr : Ref2 r w) (ha : PE X a (lift H0 ta)) (hb : PE X b (lift H0 tb)) : PE X (.BinOp a op b pos) (lift H0 (wBin w ta tb)) := PE.imp (pe_op ho ha hb) (bin_lift hr)
theorem q_un {op : UnaryOp} {r : V → Hp → VK → Prop} {w : W1} (ho : UnR X (unaryOp op) r) (hr : Ref1 r w) (ha : PE X a (lift H0 ta)) : PE X (.UnaryOp op a pos) (lift H0 (wUn w ta)) := PE.imp (pe_un ho ha) (un_lift hr)
theorem q_cmp {op : CmpOp} {r : R2} {w : W2} (ho : OpR X (compareOp op) r) (hr : Ref2 r w) (ha : PE X a (lift H0 ta)) (hb : PE X b (lift H0 tb)) (hm : behindInMarks op b = false) : PE X (.Compare a [op] [b] pos) (lift H0 (wBin w ta tb)) := PE.imp (pe_cmpR ho ha hb hm) (bin_lift hr)
end
theorem OpR.imp {X : Cx} {f : Value → Value → Sem Value} {r r' : R2} (h : OpR X f r) (k : ∀ x y H Q, r' x y H Q → r x y H Q) : OpR X f r' := fun pins s σ H x y v u Q I rx ry q => h pins s σ H x y v u Q I rx ry (k x y H Q q)
theorem Ref2.or {r r' : R2} {w w' : W2} (h : Ref2 r w) (h' : Ref2 r' w') : Ref2 (fun x y H Q => r x y H Q ∨ r' x y H Q) (fun x y ρ A k => w x y ρ A k ∨ w' x y ρ A k) := fun R rx ry q hk => q.elim (fun q => .inl (h R rx ry q hk)) fun q => .inr (h' R rx ry q hk)

/-! ### ints -/
theorem RU.int {H : Hp} {A : Ah} {σ : St} {i : Int} {v : V} (h : RU H A σ (.d (.int i)) v) : v = .int i := by cases (show RD H (.int i) v from h); rfl
theorem RU.bl {H : Hp} {A : Ah} {σ : St} {i : Bool} {v : V} (h : RU H A σ (.d (.bl i)) v) : v = .bl i := by cases (show RD H (.bl i) v from h); rfl
theorem RU.str {H : Hp} {A : Ah} {σ : St} {i : Str} {v : V} (h : RU H A σ (.d (.str i)) v) : v = .str i := by cases (show RD H (.str i) v from h); rfl
theorem RU.non {H : Hp} {A : Ah} {σ : St} {v : V} (h : RU H A σ (.d .non) v) : v = .non := by cases (show RD H .non v from h); rfl
theorem Kq.int {H0 : Hp} {σ : St} {H : Hp} {A : Ah} {ρ : Rho} {k : K1} {Q : VK} {i : Int} (R : Rel H0 H A σ ρ) (h : k (.d (.int i)) ρ A) (hk : Kq H0 σ H A ρ k Q) : Q (.int i) H := hk _ _ _ h _ _ (Out.d R (.int i))
theorem Kq.bl {H0 : Hp} {σ : St} {H : Hp} {A : Ah} {ρ : Rho} {k : K1} {Q : VK} {i : Bool} (R : Rel H0 H A σ ρ) (h : k (.d (.bl i)) ρ A) (hk : Kq H0 σ H A ρ k Q) : Q (.bl i) H := hk _ _ _ h _ _ (Out.d R (.bl i))
theorem Kq.str {H0 : Hp} {σ : St} {H : Hp} {A : Ah} {ρ : Rho} {k : K1} {Q : VK} {i : Str} (R : Rel H0 H A σ ρ) (h : k (.d (.str i)) ρ A) (hk : Kq H0 σ H A ρ k Q) : Q (.str i) H := hk _ _ _ h _ _ (Out.d R (.str i))
/-- two ints, under C, the int g -/
def wI2 (C : Int → Int → Prop) (g : Int → Int → Int) : W2 := fun x y ρ A k => ∃ i j, x = .d (.int i) ∧ y = .d (.int j) ∧ C i j ∧ k (.d (.int (g i j))) ρ A
theorem ref_i2 {C : Int → Int → Prop} {g : Int → Int → Int} : Ref2 (rI C fun i j => .int (g i j)) (wI2 C g) := fun R rx ry h hk => by
  obtain ⟨i, j, rfl, rfl, c, h⟩ := h
  exact ⟨i, j, rx.int, ry.int, c, hk.int R h⟩
def wI0 (g : Int → Int → Int) : W2 := fun x y ρ A k => ∃ i j, x = .d (.int i) ∧ y = .d (.int j) ∧ k (.d (.int (g i j))) ρ A
theorem ref_i0 {g : Int → Int → Int} : Ref2 (rI0 fun i j => .int (g i j)) (wI0 g) := fun R rx ry h hk => by
  obtain ⟨i, j, rfl, rfl, h⟩ := h
  exact ⟨i, j, rx.int, ry.int, hk.int R h⟩
def wB0 (g : Int → Int → Bool) : W2 := fun x y ρ A k => ∃ i j, x = .d (.int i) ∧ y = .d (.int j) ∧ k (.d (.bl (g i j))) ρ A
theorem ref_b0 {g : Int → Int → Bool} : Ref2 (rI0 fun i j => .bl (g i j)) (wB0 g) := fun R rx ry h hk => by
  obtain ⟨i, j, rfl, rfl, h⟩ := h
  exact ⟨i, j, rx.int, ry.int, hk.bl R h⟩
def wNeg : W1 := fun x ρ A k => ∃ i : Int, x = .d (.int i) ∧ k (.d (.int (-i))) ρ A
theorem ref_neg : Ref1 (rU fun i => .int (-i)) wNeg := fun R rx h hk => by
  obtain ⟨i, rfl, h⟩ := h
  exact ⟨i, rx.int, hk.int R h⟩

/-! ### contents -/
/-- the items of a list, a tuple -/
def lstOf (ρ : Rho) (A : Ah) (u : U) : Option (List D) := match obOf ρ A u with
  | some (.lst xs) => some xs
  | _ => none
def dctOf (ρ : Rho) (A : Ah) (u : U) : Option (List (D × D)) := match obOf ρ A u with
  | some (.dct kvs) => some kvs
  | _ => none
/-- a dict that may be read, locked or not -/
def rdctOf (ρ : Rho) (A : Ah) (u : U) : Option (List (D × D)) := match obOf ρ A u with
  | some (.dct kvs) => some kvs
  | some (.fz _ _ (p :: kvs)) => some (p :: kvs)
  | _ => none
def seqOf (ρ : Rho) (A : Ah) : U → Option (List D)
  | .d (.tup xs) => some xs
  | u => lstOf ρ A u
section
variable {H0 H : Hp} {A : Ah} {σ : St} {ρ : Rho} {u : U} {v : V} {xs : List D} {K : PySem.W.Frag}
theorem lstOf_ob (e : lstOf ρ A u = some xs) : obOf ρ A u = some (.lst xs) := by
  unfold lstOf at e
  split at e
  · cases e; assumption
  · cases e
theorem dctOf_ob {kvs : List (D × D)} (e : dctOf ρ A u = some kvs) : obOf ρ A u = some (.dct kvs) := by
  unfold dctOf at e
  split at e
  · cases e; assumption
  · cases e
theorem lstOf_rel (R : Rel H0 H A σ ρ) (r : RU H A σ u v) (e : lstOf ρ A u = some xs) : ∃ a vs, v = .ref a ∧ H a = some (.lst vs) ∧ RDs H xs vs := by
  obtain ⟨a, ea, vs, e1, e2⟩ := obOf_rel R r (lstOf_ob e)
  exact ⟨a, vs, ea, e1, e2⟩
theorem seqOf_rel (R : Rel H0 H A σ ρ) (r : RU H A σ u v) (e : seqOf ρ A u = some xs) : ∃ a vs, v = .ref a ∧ RDs H xs vs ∧ (H a = some (.lst vs) ∨ H a = some (.tup vs)) := by
  unfold seqOf at e
  split at e
  · cases e
    cases (show RD H (.tup xs) v from r) with
    | tup h q => exact ⟨_, _, rfl, q, .inr h⟩
  · obtain ⟨a, vs, ea, h, r⟩ := lstOf_rel R r e
    exact ⟨a, vs, ea, r, .inl h⟩
theorem dctOf_rel {kvs : List (D × D)} (R : Rel H0 H A σ ρ) (r : RU H A σ u v) (e : dctOf ρ A u = some kvs) : ∃ a, v = .ref a ∧ RDct kvs H (H a) := by
  obtain ⟨a, ea, h⟩ := obOf_rel R r (dctOf_ob e)
  exact ⟨a, ea, h⟩
end

/-! ### + -/
def wAddS : W2 := fun x y ρ A k => ∃ a b, x = .d (.str a) ∧ y = .d (.str b) ∧ a.length + b.length ≤ sizeLine ∧ k (.d (.str (a ++ b))) ρ A
def wAddT : W2 := fun x y ρ A k => ∃ a b, x = .d (.tup a) ∧ y = .d (.tup b) ∧ a ≠ [] ∧ a.length + b.length ≤ sizeLine ∧ k (.d (.tup (a ++ b))) ρ A
def wAddL : W2 := fun x y ρ A k => ∃ a b, lstOf ρ A x = some a ∧ lstOf ρ A y = some b ∧ a.length + b.length ≤ sizeLine ∧ k (.lst (a ++ b)) ρ A
section
variable {H0 H : Hp} {A : Ah} {σ : St} {ρ : Rho} {K : PySem.W.Frag}
theorem ref_addS : Ref2 (fun x y H Q => ∃ i j, x = .str i ∧ y = .str j ∧ i.length + j.length ≤ sizeLine ∧ Q (.str (i ++ j)) H) wAddS := fun R rx ry h hk => by
  obtain ⟨a, b, rfl, rfl, z, h⟩ := h
  exact ⟨a, b, rx.str, ry.str, z, hk.str R h⟩
theorem RDs.nil_iff {xs : List D} {vs : List V} (h : RDs H xs vs) : vs = [] ↔ xs = [] := by cases h <;> simp
theorem ref_addT : Ref2 (rCatT K) wAddT := fun {H0 σ H A ρ x y v u k Q} R rx ry h hk => by
  obtain ⟨a, b, rfl, rfl, ne, z, h⟩ := h
  cases (show RD H (.tup a) v from rx) with
  | tup ha ra =>
    cases (show RD H (.tup b) u from ry) with
    | tup hb rb =>
      refine ⟨_, _, _, _, rfl, rfl, .of ha, .of hb, fun e => ne (ra.nil_iff.mp e), by rw [← ra.length, ← rb.length]; exact z, fun e => ?_, fun _ p hp => ?_⟩
      · have eb := rb.nil_iff.mp e
        subst eb
        rw [List.append_nil] at h
        exact hk _ _ _ h _ _ (Out.d R (.tup ha ra))
      · exact hk _ _ _ h _ _ (Out.tup R hp (ra.app rb))
theorem ref_addL : Ref2 rCat wAddL := fun {H0 σ H A ρ x y v u k Q} R rx ry h hk => by
  obtain ⟨a, b, ea, eb, z, h⟩ := h
  obtain ⟨p, vs, rfl, hp, rp⟩ := lstOf_rel R rx ea
  obtain ⟨q, ws, rfl, hq, rq⟩ := lstOf_rel R ry eb
  exact ⟨_, _, _, _, rfl, rfl, hp, hq, by rw [← rp.length, ← rq.length]; exact z, fun l hl => hk _ _ _ h _ _ (Out.lst R hl (rp.app rq))⟩
end
def wAdd : W2 := fun x y ρ A k => wI0 (fun i j => i + j) x y ρ A k ∨ wAddS x y ρ A k ∨ wAddT x y ρ A k ∨ wAddL x y ρ A k
section
variable {X : Cx} {H0 : Hp} {a b c : Expr} {pos : Pos} {ta tb tc : WE}
theorem q_add (ha : PE X a (lift H0 ta)) (hb : PE X b (lift H0 tb)) : PE X (.BinOp a .Add b pos) (lift H0 (wBin wAdd ta tb)) :=
  q_op (op_add.or (op_add_str.or (op_catT.or op_cat))) (ref_i0.or (ref_addS.or (ref_addT.or ref_addL))) ha hb
theorem q_sub (ha : PE X a (lift H0 ta)) (hb : PE X b (lift H0 tb)) : PE X (.BinOp a .Sub b pos) (lift H0 (wBin (wI0 fun i j => i - j) ta tb)) := q_op op_sub ref_i0 ha hb
theorem q_mul (ha : PE X a (lift H0 ta)) (hb : PE X b (lift H0 tb)) : PE X (.BinOp a .Mult b pos) (lift H0 (wBin (wI2 CMul fun i j => i * j) ta tb)) := q_op op_mul ref_i2 ha hb
theorem q_fdiv (ha : PE X a (lift H0 ta)) (hb : PE X b (lift H0 tb)) : PE X (.BinOp a .FloorDiv b pos) (lift H0 (wBin (wI2 CDiv fun i j => i / j) ta tb)) := q_op op_fdiv ref_i2 ha hb
theorem q_mod (ha : PE X a (lift H0 ta)) (hb : PE X b (lift H0 tb)) : PE X (.BinOp a .Mod b pos) (lift H0 (wBin (wI2 (fun _ j => 0 < j) fun i j => i % j) ta tb)) := q_op op_mod ref_i2 ha hb
theorem q_pow (ha : PE X a (lift H0 ta)) (hb : PE X b (lift H0 tb)) : PE X (.BinOp a .Pow b pos) (lift H0 (wBin (wI2 CPow fun i j => i ^ j.toNat) ta tb)) := q_op op_pow ref_i2 ha hb
theorem q_neg (ha : PE X a (lift H0 ta)) : PE X (.UnaryOp .USub a pos) (lift H0 (wUn wNeg ta)) := q_un un_neg ref_neg ha
end

/-! ### data as the library's data -/
mutual
def pyD (A : Ah) : Nat → D → Option PyData
  | 0, _ => none
  | _ + 1, .non => some .none
  | _ + 1, .bl b => some (.bool b)
  | _ + 1, .int i => some (.int i)
  | _ + 1, .str x => some (.str x)
  | n + 1, .tup xs => (pyDs A n xs).map .tuple
  | n + 1, .ref a => match A a with
    | some ⟨_, .lst xs⟩ => (pyDs A n xs).map .list
    | _ => none
def pyDs (A : Ah) : Nat → List D → Option (List PyData)
  | 0, _ => none
  | _ + 1, [] => some []
  | n + 1, x :: xs => match pyD A n x, pyDs A n xs with
    | some d, some ds => some (d :: ds)
    | _, _ => none
end
/-! the data that a tree without references is -/
mutual
def D.pd : D → PyData
  | .non => .none
  | .bl b => .bool b
  | .int i => .int i
  | .str x => .str x
  | .tup xs => .tuple (D.pds xs)
  | .ref _ => .none
def D.pds : List D → List PyData
  | [] => []
  | x :: xs => D.pd x :: D.pds xs
end
/-! no references within -/
mutual
def D.pure : D → Bool
  | .tup xs => D.pures xs
  | .ref _ => false
  | _ => true
def D.pures : List D → Bool
  | [] => true
  | x :: xs => D.pure x && D.pures xs
end
section
variable {H0 H : Hp} {A : Ah} {σ : St} {ρ : Rho} {K : PySem.W.Frag}
mutual
theorem dp_pure : ∀ (x : D) (v : V), x.pure = true → RD H x v → Dp K H v x.pd
  | .non, _, _, h => by cases h; exact .non
  | .bl _, _, _, h => by cases h; exact .bl _
  | .int _, _, _, h => by cases h; exact .int _
  | .str _, _, _, h => by cases h; exact .str _
  | .ref _, _, p, _ => by simp [D.pure] at p
  | .tup xs, _, p, h => by
    cases h with
    | tup h r => exact .tup (.of h) (dps_pure xs _ p r)
theorem dps_pure : ∀ (xs : List D) (vs : List V), D.pures xs = true → RDs H xs vs → DpAll K H vs (D.pds xs)
  | [], _, _, h => by cases h; exact .nil
  | x :: xs, _, p, h => by
    simp only [D.pures, Bool.and_eq_true] at p
    cases h with
    | cons h r => exact .cons (dp_pure x _ p.1 h) (dps_pure xs _ p.2 r)
end
mutual
theorem dp_py (R : ∀ a c, A a = some c → RO H (H a) c.ob) : ∀ (n : Nat) (x : D) (v : V) (d : PyData), pyD A n x = some d → RD H x v → Dp K H v d
  | 0, _, _, _, e, _ => by simp [pyD] at e
  | _ + 1, .non, _, _, e, h => by simp [pyD] at e; cases h; subst e; exact .non
  | _ + 1, .bl _, _, _, e, h => by simp [pyD] at e; cases h; subst e; exact .bl _
  | _ + 1, .int _, _, _, e, h => by simp [pyD] at e; cases h; subst e; exact .int _
  | _ + 1, .str _, _, _, e, h => by simp [pyD] at e; cases h; subst e; exact .str _
  | n + 1, .tup xs, _, _, e, h => by
    simp only [pyD, Option.map_eq_some_iff] at e
    obtain ⟨ds, e, rfl⟩ := e
    cases h with
    | tup h r => exact .tup (.of h) (dps_py R n xs _ _ e r)
  | n + 1, .ref a, _, _, e, h => by
    cases h
    simp only [pyD] at e
    split at e
    · rename_i tg xs ea
      obtain ⟨ds, e2, e3⟩ := Option.map_eq_some_iff.mp e
      subst e3
      obtain ⟨vs, ev, r⟩ := R a _ ea
      exact .lst (.of ev) (dps_py R n xs _ _ e2 r)
    · cases e
theorem dps_py (R : ∀ a c, A a = some c → RO H (H a) c.ob) : ∀ (n : Nat) (xs : List D) (vs : List V) (ds : List PyData), pyDs A n xs = some ds → RDs H xs vs → DpAll K H vs ds
  | 0, _, _, _, e, _ => by simp [pyDs] at e
  | _ + 1, [], _, _, e, h => by simp [pyDs] at e; cases h; subst e; exact .nil
  | n + 1, x :: xs, _, _, e, h => by
    simp only [pyDs] at e
    split at e
    · rename_i d ds e1 e2
      cases e
      cases h with
      | cons h r => exact .cons (dp_py R n x _ _ e1 h) (dps_py R n xs _ _ e2 r)
    · cases e
end
end
/-- the data of a result -/
inductive PyOf (ρ : Rho) (A : Ah) : U → PyData → Prop
  | pure {x : D} : x.pure = true → PyOf ρ A (.d x) x.pd
  | deep (n : Nat) {x : D} {d : PyData} : pyD A n x = some d → PyOf ρ A (.d x) d
  | lst {u : U} {xs : List D} : lstOf ρ A u = some xs → D.pures xs = true → PyOf ρ A u (.list (D.pds xs))
  | ldeep (n : Nat) {u : U} {xs : List D} {ds : List PyData} : lstOf ρ A u = some xs → pyDs A n xs = some ds → PyOf ρ A u (.list ds)
theorem PyOf.dp {H0 H : Hp} {A : Ah} {σ : St} {ρ : Rho} {K : PySem.W.Frag} {u : U} {v : V} {d : PyData} (R : Rel H0 H A σ ρ) (r : RU H A σ u v) (p : PyOf ρ A u d) : Dp K H v d := by
  cases p with
  | pure p => exact dp_pure _ _ p r
  | deep n e => exact dp_py R.hp n _ _ _ e r
  | lst e p =>
    obtain ⟨a, vs, rfl, h, r⟩ := lstOf_rel R r e
    exact .lst (.of h) (dps_pure _ _ p r)
  | ldeep n e p =>
    obtain ⟨a, vs, rfl, h, r⟩ := lstOf_rel R r e
    exact .lst (.of h) (dps_py R.hp n _ _ _ p r)

/-! ### ==, != -/
def scalD : D → D → Bool
  | .non, .non => true | .non, .int _ => true | .int _, .non => true | .non, .bl _ => true | .bl _, .non => true | .non, .str _ => true | .str _, .non => true
  | .int _, .int _ => true | .bl _, .bl _ => true | .str _, .str _ => true
  | .int _, .str _ => true | .str _, .int _ => true | .bl _, .str _ => true | .str _, .bl _ => true
  | _, _ => false
theorem scal_rel {H : Hp} {x y : D} {v u : V} (rx : RD H x v) (ry : RD H y u) (s : scalD x y = true) : scal v u = true ∧ (v = u ↔ x = y) := by
  cases rx <;> cases ry <;> simp_all [scalD, scal]
def wEqB (neg : Bool) : W2 := fun x y ρ A k =>
  (∃ a b, x = .d a ∧ y = .d b ∧ scalD a b = true ∧ k (.d (.bl (if neg then !decide (a = b) else decide (a = b)))) ρ A) ∨
  ∃ d e, PyOf ρ A x d ∧ PyOf ρ A y e ∧ SeqAt.shaped d = true ∧ SeqAt.shaped e = true ∧ k (.d (.bl (if neg then !PyData.eqv d e else PyData.eqv d e))) ρ A
theorem ref_eq {K : PySem.W.Frag} : Ref2 (fun x y H Q => rEq x y H Q ∨ rEqD K x y H Q) (wEqB false) := fun {H0 σ H A ρ x y v u k Q} R rx ry h hk => by
  rcases h with ⟨a, b, rfl, rfl, s, h⟩ | ⟨d, e, pd, pe, sd, se, h⟩
  · obtain ⟨s1, s2⟩ := scal_rel (show RD H a v from rx) (show RD H b u from ry) s
    exact .inl ⟨s1, by rw [show decide (v = u) = decide (a = b) from decide_eq_decide.mpr s2]; exact hk.bl R h⟩
  · exact .inr ⟨d, e, pd.dp R rx, pe.dp R ry, sd, se, hk.bl R h⟩
theorem ref_ne {K : PySem.W.Frag} : Ref2 (fun x y H Q => rNe x y H Q ∨ rNeD K x y H Q) (wEqB true) := fun {H0 σ H A ρ x y v u k Q} R rx ry h hk => by
  rcases h with ⟨a, b, rfl, rfl, s, h⟩ | ⟨d, e, pd, pe, sd, se, h⟩
  · obtain ⟨s1, s2⟩ := scal_rel (show RD H a v from rx) (show RD H b u from ry) s
    exact .inl ⟨s1, by rw [show decide (v = u) = decide (a = b) from decide_eq_decide.mpr s2]; exact hk.bl R h⟩
  · exact .inr ⟨d, e, pd.dp R rx, pe.dp R ry, sd, se, hk.bl R h⟩
/-! ### <, <=, >, >= -/
/-- c: by the data -/
def wLtD (g : PyData → PyData → Bool) : W2 := fun x y ρ A k => ∃ d e, PyOf ρ A x d ∧ PyOf ρ A y e ∧ PySem.W.alike d e = true ∧ d ≠ .none ∧ min d.depth e.depth ≤ 60 ∧ k (.d (.bl (g d e))) ρ A
def rLtD (K : PySem.W.Frag) (g : PyData → PyData → Bool) : R2 := fun x y H Q => ∃ d e, Dp K H x d ∧ Dp K H y e ∧ PySem.W.alike d e = true ∧ d ≠ .none ∧ min d.depth e.depth ≤ 60 ∧ Q (.bl (g d e)) H
theorem ref_ltD {K : PySem.W.Frag} {g : PyData → PyData → Bool} : Ref2 (rLtD K g) (wLtD g) := fun {H0 σ H A ρ x y v u k Q} R rx ry h hk => by
  obtain ⟨d, e, pd, pe, al, nn, z, h⟩ := h
  exact ⟨d, e, pd.dp R rx, pe.dp R ry, al, nn, z, hk.bl R h⟩
section
variable {X : Cx}
theorem op_ltD (hu : X.A.units + 64 < cLine) : OpR X (compareOp .Lt) (rLtD X.K PySem.W.dataLt) := by
  intro pins s σ H x y v u Q I rx ry h
  obtain ⟨d, e, hd, he, al, nn, z, q⟩ := h
  obtain ⟨as, r1⟩ := Dp.reads I d x v hd rx
  obtain ⟨bs, r2⟩ := Dp.reads I e y u he ry
  exact PySem.W.lt_data r1 r2 al nn (by omega) ⟨.bl _, H, I, rfl, q⟩
theorem op_gtD (hu : X.A.units + 64 < cLine) : OpR X (compareOp .Gt) (rLtD X.K fun d e => PySem.W.dataLt e d) := by
  intro pins s σ H x y v u Q I rx ry h
  obtain ⟨d, e, hd, he, al, nn, z, q⟩ := h
  obtain ⟨as, r1⟩ := Dp.reads I d x v hd rx
  obtain ⟨bs, r2⟩ := Dp.reads I e y u he ry
  exact PySem.W.gt_data r1 r2 al nn (by omega) ⟨.bl _, H, I, rfl, q⟩
theorem op_leD (hu : X.A.units + 64 < cLine) : OpR X (compareOp .LtE) (rLtD X.K fun d e => !PySem.W.dataLt e d) := by
  intro pins s σ H x y v u Q I rx ry h
  obtain ⟨d, e, hd, he, al, nn, z, q⟩ := h
  obtain ⟨as, r1⟩ := Dp.reads I d x v hd rx
  obtain ⟨bs, r2⟩ := Dp.reads I e y u he ry
  exact PySem.W.le_data r1 r2 al nn (by omega) ⟨.bl _, H, I, rfl, q⟩
theorem op_geD (hu : X.A.units + 64 < cLine) : OpR X (compareOp .GtE) (rLtD X.K fun d e => !PySem.W.dataLt d e) := by
  intro pins s σ H x y v u Q I rx ry h
  obtain ⟨d, e, hd, he, al, nn, z, q⟩ := h
  obtain ⟨as, r1⟩ := Dp.reads I d x v hd rx
  obtain ⟨bs, r2⟩ := Dp.reads I e y u he ry
  exact PySem.W.ge_data r1 r2 al nn (by omega) ⟨.bl _, H, I, rfl, q⟩
end
def wLt : W2 := fun x y ρ A k => wB0 (fun i j => decide (i < j)) x y ρ A k ∨ wLtD PySem.W.dataLt x y ρ A k
def wLe : W2 := fun x y ρ A k => wB0 (fun i j => decide (i ≤ j)) x y ρ A k ∨ wLtD (fun d e => !PySem.W.dataLt e d) x y ρ A k
def wGt : W2 := fun x y ρ A k => wB0 (fun i j => decide (j < i)) x y ρ A k ∨ wLtD (fun d e => PySem.W.dataLt e d) x y ρ A k
def wGe : W2 := fun x y ρ A k => wB0 (fun i j => decide (j ≤ i)) x y ρ A k ∨ wLtD (fun d e => !PySem.W.dataLt d e) x y ρ A k
/-! ### in, not in -/
def dget (kvs : List (D × D)) (k : D) : Option D := (kvs.find? fun p => decide (p.1 = k)).map (·.2)
/-- what may be a key -/
def keyOk : D → Bool
  | .int _ => true
  | .str _ => true
  | .tup xs => xs.all fun x => match x with
    | .int _ => true
    | .str _ => true
    | _ => false
  | _ => false
theorem RT.get {κ : Type} [DecidableEq κ] {g : κ → D} {H : Hp} (inj : ∀ a b, g a = g b → a = b) {k : κ} : ∀ {kvs : List (D × D)} {ks : List (κ × V)}, RT H g kvs ks →
    (∀ x, dget kvs (g k) = some x → ∃ v, valV ks k = some v ∧ RD H x v) ∧ (dget kvs (g k) = none → valV ks k = none)
  | _, _, .nil => ⟨nofun, fun _ => rfl⟩
  | _, _, .cons (a := p) (b := q) h t => by
    obtain ⟨h1, h2⟩ := h
    have ih := RT.get inj (k := k) t
    by_cases e : q.1 = k
    · have e1 : p.1 = g k := by rw [h1, e]
      have d1 : ∀ r, dget (p :: r) (g k) = some p.2 := fun r => by simp [dget, List.find?_cons, e1]
      rw [d1, valV_pos e]
      exact ⟨fun x ex => by cases ex; exact ⟨_, rfl, h2⟩, nofun⟩
    · have e1 : ¬ p.1 = g k := by rw [h1]; exact fun z => e (inj _ _ z)
      have d1 : ∀ r, dget (p :: r) (g k) = dget r (g k) := fun r => by simp [dget, List.find?_cons, e1]
      rw [d1, valV_neg e]
      exact ih
theorem key_scal {x : D} (h : keyOk x = true) : (∃ k : Key, x = kD k) ∨ ∃ ks : List Key, x = gT ks := by
  cases x with
  | int i => exact .inl ⟨.inl i, rfl⟩
  | str z => exact .inl ⟨.inr z, rfl⟩
  | tup xs =>
    refine .inr ?_
    have go : ∀ xs : List D, (xs.all fun x => match x with | .int _ => true | .str _ => true | _ => false) = true → ∃ ks : List Key, xs = ks.map kD := by
      intro xs
      induction xs with
      | nil => exact fun _ => ⟨[], rfl⟩
      | cons x xs ih =>
        intro h
        rw [List.all_cons, Bool.and_eq_true] at h
        obtain ⟨ks, e⟩ := ih h.2
        cases x with
        | int i => exact ⟨.inl i :: ks, by rw [e]; rfl⟩
        | str z => exact ⟨.inr z :: ks, by rw [e]; rfl⟩
        | _ => simp at h
    obtain ⟨ks, e⟩ := go xs h
    exact ⟨ks, by rw [e]; rfl⟩
  | _ => simp [keyOk] at h
/-- a dict whose keys are not of this key's sort has it not -/
def sortOk (x : D) (kvs : List (D × D)) : Prop := match x with
  | .tup _ => ∀ p ∈ kvs, ∃ xs, p.1 = .tup xs
  | _ => ∀ p ∈ kvs, (∃ i, p.1 = .int i) ∨ ∃ z, p.1 = .str z
theorem RD.keyK {H : Hp} {k : Key} {v : V} (h : RD H (kD k) v) : v = kV k := by
  cases k with
  | inl i => cases h; rfl
  | inr z => cases h; rfl
theorem RDs.keysK {H : Hp} : ∀ {ks : List Key} {vs : List V}, RDs H (ks.map kD) vs → vs = ks.map kV
  | [], _, h => by cases h; rfl
  | _ :: _, _, h => by
    cases h with
    | cons h r => rw [h.keyK, RDs.keysK r]; rfl
theorem RD.keyT {H : Hp} {ks : List Key} {v : V} (h : RD H (gT ks) v) : ∃ a, v = .ref a ∧ H a = some (.tup (ks.map kV)) := by
  cases h with
  | tup h r => exact ⟨_, rfl, by rw [h, RDs.keysK r]⟩
/-- what a dict tells of a key; an empty one is of both kinds -/
def DGetE (H : Hp) (a : Addr) (v : V) (o : Option V) : Prop := DGet H a v o ∨ (H a = some (.dK []) ∧ (∃ (b : Addr) (ks : List Key), v = .ref b ∧ H b = some (.tup (ks.map kV))) ∧ o = none) ∨ (H a = some (.dT []) ∧ (∃ k : Key, v = kV k) ∧ o = none)
/-- a dict's look-up and its value -/
def RGet (H : Hp) (r : Option D) (o : Option V) : Prop := match r with
  | some y => ∃ w, o = some w ∧ RD H y w
  | none => o = none
theorem RT.rget {κ : Type} [DecidableEq κ] {g : κ → D} {H : Hp} (inj : ∀ a b, g a = g b → a = b) {k : κ} {kvs : List (D × D)} {ks : List (κ × V)} (t : RT H g kvs ks) : RGet H (dget kvs (g k)) (valV ks k) := by
  obtain ⟨h1, h2⟩ := RT.get inj (k := k) t
  cases q : dget kvs (g k) with
  | none => exact h2 q
  | some y => exact h1 y q
/-- a dict that is there to be read: unlocked, or locked and not empty -/
def RDrd (kvs : List (D × D)) (H : Hp) (a : Addr) : Prop := RDct kvs H (H a) ∨ (kvs ≠ [] ∧ ∃ od u, H a = some (.frz od u) ∧ RDct kvs H (some u))
theorem dct_get {H : Hp} {a : Addr} {kvs : List (D × D)} {x : D} {v : V} (d : RDrd kvs H a) (r : RD H x v) (ko : keyOk x = true) (so : sortOk x kvs) :
    ∃ o, RGet H (dget kvs x) o ∧ DGetE H a v o := by
  have d' : (∃ ks : List (Key × V), Rd H a (.dK ks) ∧ RT H kD kvs ks ∧ (kvs = [] → H a = some (.dK ks))) ∨ ∃ ks : List (List Key × V), Rd H a (.dT ks) ∧ RT H gT kvs ks ∧ (kvs = [] → H a = some (.dT ks)) := by
    rcases d with d | ⟨ne, od, u, e, d⟩
    · rcases d with ⟨ks, e, t⟩ | ⟨ks, e, t⟩
      · exact .inl ⟨ks, .inl e, t, fun _ => e⟩
      · exact .inr ⟨ks, .inl e, t, fun _ => e⟩
    · rcases d with ⟨ks, e2, t⟩ | ⟨ks, e2, t⟩
      · cases e2
        exact .inl ⟨ks, .inr ⟨od, e⟩, t, fun z => absurd z ne⟩
      · cases e2
        exact .inr ⟨ks, .inr ⟨od, e⟩, t, fun z => absurd z ne⟩
  rcases key_scal ko with ⟨k, ek⟩ | ⟨ks, ek⟩
  · subst ek
    have ev := r.keyK
    subst ev
    rcases d' with ⟨ts, et, t, _⟩ | ⟨ts, et, t, em⟩
    · exact ⟨valV ts k, t.rget fun _ _ => kD_inj, .inl (.inl ⟨ts, k, et, rfl, rfl⟩)⟩
    · cases t with
      | nil => exact ⟨none, rfl, .inr (.inr ⟨em rfl, ⟨k, rfl⟩, rfl⟩)⟩
      | @cons p q ps qs h t =>
        exfalso
        have so' : ∀ z ∈ (p :: ps), (∃ i, z.1 = .int i) ∨ ∃ y, z.1 = .str y := by
          cases k with
          | inl i => exact so
          | inr i => exact so
        have e : p.1 = gT q.1 := h.1
        rcases so' _ List.mem_cons_self with ⟨i, ei⟩ | ⟨i, ei⟩ <;> (rw [ei] at e; cases e)
  · subst ek
    obtain ⟨b, eb, hb⟩ := r.keyT
    subst eb
    rcases d' with ⟨ts, et, t, em⟩ | ⟨ts, et, t, _⟩
    · cases t with
      | nil => exact ⟨none, rfl, .inr (.inl ⟨em rfl, ⟨b, ks, rfl, hb⟩, rfl⟩)⟩
      | @cons p q ps qs h t =>
        exfalso
        have so' : ∀ z ∈ (p :: ps), ∃ xs, z.1 = .tup xs := so
        obtain ⟨xs, ex⟩ := so' _ List.mem_cons_self
        have e : p.1 = kD q.1 := h.1
        rw [ex] at e
        rcases hq : q.1 with i | i <;> (rw [hq] at e; cases e)
    · exact ⟨valV ts ks, t.rget fun _ _ => gT_inj, .inl (.inr ⟨ts, ks, b, et, rfl, hb, rfl⟩)⟩
section
variable {X : Cx} {pins : List (Addr × Obj)} {σ : St} {H : Hp} {s : Shared} {a : Addr}
theorem conv_K (I : Inv X pins σ H s) (e : H a = some (.dK [])) : Inv X pins σ (upd H a (.dT [])) s := by
  obtain ⟨z, hd, vs, rel, o, es, ep, h1, h2, h3, h4⟩ := (show ObjOk X.prog X.w H s.heap a (.dK []) from I.hok a _ e)
  cases rel
  refine I.write (e := a) (h' := s.heap) (t' := s.toks) (by rw [e]; exact True.intro) (.inl rfl) (fun _ _ _ q => q) ⟨o, h1⟩ ⟨Nat.zero_le _, hd, [], .nil, o, es, ep, h1, h2, h3, ?_, List.nodup_nil⟩
  have q := h4.2.1
  generalize es.toList = L at q ⊢
  cases q
  rfl
theorem conv_T (I : Inv X pins σ H s) (e : H a = some (.dT [])) : Inv X pins σ (upd H a (.dK [])) s := by
  obtain ⟨z, hd, xs, rel, o, es, ep, h1, h2, h3, h4, h5⟩ := (show ObjOk X.prog X.w H s.heap a (.dT []) from I.hok a _ e)
  cases rel
  have es0 : es = #[] := by
    have : es.toList = [] := h4
    exact Array.toList_inj.mp (by rw [this])
  subst es0
  refine I.write (e := a) (h' := s.heap) (t' := s.toks) (by rw [e]; exact True.intro) (.inl rfl) (fun _ _ _ q => q) ⟨o, h1⟩ ⟨Nat.zero_le _, hd, [], .nil, o, #[], ep, h1, h2, h3, fun e he => absurd he (by simp), .nil, List.nodup_nil⟩
theorem upd_back {H : Hp} {a : Addr} {o p : HO} (e : H a = some o) : upd (upd H a p) a o = H := by
  rw [upd_upd]
  funext b
  by_cases h : b = a
  · rw [h, upd_same, e]
  · rw [upd_ne h]
/-- the dict as one of the key's kind, and back -/
theorem dgetE {v : V} {o : Option V} (I : Inv X pins σ H s) (g : DGetE H a v o) : ∃ H', Inv X pins σ H' s ∧ DGet H' a v o ∧ ∀ s', Inv X pins σ H' s' → Inv X pins σ H s' := by
  rcases g with g | ⟨e, ⟨b, ks, ev, hb⟩, eo⟩ | ⟨e, ⟨k, ev⟩, eo⟩
  · exact ⟨H, I, g, fun _ z => z⟩
  · have nb : b ≠ a := ne_of hb e (by intro z; cases z)
    refine ⟨_, conv_K I e, ?_, fun s' I' => ?_⟩
    · rw [ev, eo]
      exact DGet.t (kvs := []) upd_same (by rw [upd_ne nb]; exact hb)
    · have := conv_T I' upd_same
      rwa [upd_back e] at this
  · refine ⟨_, conv_T I e, ?_, fun s' I' => ?_⟩
    · rw [ev, eo]
      exact DGet.k (kvs := []) upd_same
    · have := conv_K I' upd_same
      rwa [upd_back e] at this
end
end Dn

namespace Dn
open PySem L2 PyProof.Rows

/-! ### a dict's look-up -/
/-- what a key may be looked up for in such a dict -/
def KeyIn (x : D) (kvs : List (D × D)) : Prop := keyOk x = true ∧ sortOk x kvs
section
variable {H0 H : Hp} {A : Ah} {σ : St} {ρ : Rho} {u y : U} {v w : V} {K : PySem.W.Frag} {kvs : List (D × D)} {x : D}
theorem rdctOf_rel (R : Rel H0 H A σ ρ) (r : RU H A σ u v) (e : rdctOf ρ A u = some kvs) : ∃ a, v = .ref a ∧ RDrd kvs H a := by
  unfold rdctOf at e
  split at e
  · rename_i ks eo
    cases e
    obtain ⟨a, ea, h⟩ := obOf_rel R r eo
    exact ⟨a, ea, .inl h⟩
  · rename_i od u p ks eo
    cases e
    obtain ⟨a, ea, h⟩ := obOf_rel R r eo
    exact ⟨a, ea, .inr ⟨nofun, od, u, h.1, h.2⟩⟩
  · cases e
theorem dct_at (R : Rel H0 H A σ ρ) (r : RU H A σ u v) (e : rdctOf ρ A u = some kvs) (rx : RD H x w) (ki : KeyIn x kvs) :
    ∃ a o, v = .ref a ∧ RGet H (dget kvs x) o ∧ DGetE H a w o := by
  obtain ⟨a, ea, d⟩ := rdctOf_rel R r e
  obtain ⟨o, h1, h2⟩ := dct_get d rx ki.1 ki.2
  exact ⟨a, o, ea, h1, h2⟩
theorem RGet.some {r : Option D} {o : Option V} (h : RGet H r o) : o.isSome = r.isSome := by
  cases r with
  | none => cases h; rfl
  | some y => obtain ⟨w, e, _⟩ := h; rw [e]; rfl
end
def rDIn (neg : Bool) : R2 := fun y x H Q => ∃ a o, x = .ref a ∧ DGetE H a y o ∧ Q (.bl (if neg then !o.isSome else o.isSome)) H
section
variable {X : Cx}
theorem op_din (hu : X.A.units + 1 < cLine) : OpR X (compareOp .In) (rDIn false) := by
  intro pins s σ H y x u v Q I ry rx h
  obtain ⟨a, o, rfl, g, q⟩ := h
  obtain rfl : v = Value.ref a := rx
  obtain ⟨H', I', g', back⟩ := dgetE I g
  exact d_in hu I' g' ry fun s3 I3 => ⟨.bl _, H, back _ I3, rfl, q⟩
theorem op_dnotin (hu : X.A.units + 1 < cLine) : OpR X (compareOp .NotIn) (rDIn true) := by
  intro pins s σ H y x u v Q I ry rx h
  obtain ⟨a, o, rfl, g, q⟩ := h
  obtain rfl : v = Value.ref a := rx
  obtain ⟨H', I', g', back⟩ := dgetE I g
  exact d_notIn hu I' g' ry fun s3 I3 => ⟨.bl _, H, back _ I3, rfl, q⟩
end
def neg (n b : Bool) : Bool := if n then !b else b
/-- x in a dict; x in a list of data; a text in a text -/
def wInD (n : Bool) : W2 := fun x y ρ A k => ∃ z kvs, x = .d z ∧ rdctOf ρ A y = some kvs ∧ KeyIn z kvs ∧ k (.d (.bl (neg n (dget kvs z).isSome))) ρ A
def wInL (n : Bool) : W2 := fun x y ρ A k => ∃ d ds, PyOf ρ A x d ∧ PyOf ρ A y (.list ds) ∧ SeqAt.shaped d = true ∧ SeqAt.shaped (.list ds) = true ∧ k (.d (.bl (neg n (ds.any fun z => PyData.eqv z d)))) ρ A
def wInS (n : Bool) : W2 := fun x y ρ A k => ∃ a b, x = .d (.str a) ∧ y = .d (.str b) ∧ k (.d (.bl (neg n (!(Builtin.Str.occurrences b a 0 b.length 1).isEmpty)))) ρ A
def flatD : D → Bool
  | .non => true | .bl _ => true | .int _ => true | .str _ => true
  | _ => false
/-- of flat data in a tuple or list of flat ones -/
def eqD : D → D → Bool
  | .int i, .bl b => i == (if b then 1 else 0)
  | .bl b, .int i => (if b then 1 else 0) == i
  | x, y => decide (x = y)
def wInF (n : Bool) : W2 := fun x y ρ A k => ∃ z xs, x = .d z ∧ seqOf ρ A y = some xs ∧ flatD z = true ∧ xs.all flatD = true ∧ k (.d (.bl (neg n (xs.any fun w => eqD w z)))) ρ A
def wIn (n : Bool) : W2 := fun x y ρ A k => wInD n x y ρ A k ∨ wInL n x y ρ A k ∨ wInS n x y ρ A k ∨ wInF n x y ρ A k
section
variable {K : PySem.W.Frag}
theorem ref_inD (n : Bool) : Ref2 (rDIn n) (wInD n) := fun {H0 σ H A ρ x y v u k Q} R rx ry h hk => by
  obtain ⟨z, kvs, rfl, e, ki, h⟩ := h
  obtain ⟨a, o, ea, g, d⟩ := dct_at R ry e (show RD H z v from rx) ki
  refine ⟨a, o, ea, d, ?_⟩
  rw [g.some]
  cases n <;> exact hk.bl R h
theorem ref_inL : Ref2 (rInD K) (wInL false) := fun {H0 σ H A ρ x y v u k Q} R rx ry h hk => by
  obtain ⟨d, ds, p1, p2, s1, s2, h⟩ := h
  exact ⟨d, ds, p1.dp R rx, p2.dp R ry, s1, s2, hk.bl R h⟩
theorem ref_ninL : Ref2 (rNotInD K) (wInL true) := fun {H0 σ H A ρ x y v u k Q} R rx ry h hk => by
  obtain ⟨d, ds, p1, p2, s1, s2, h⟩ := h
  exact ⟨d, ds, p1.dp R rx, p2.dp R ry, s1, s2, hk.bl R h⟩
theorem ref_inS : Ref2 (fun x y H Q => ∃ i j, x = .str i ∧ y = .str j ∧ Q (.bl (!(Builtin.Str.occurrences j i 0 j.length 1).isEmpty)) H) (wInS false) := fun {H0 σ H A ρ x y v u k Q} R rx ry h hk => by
  obtain ⟨a, b, rfl, rfl, h⟩ := h
  exact ⟨a, b, rx.str, ry.str, hk.bl R h⟩
theorem ref_ninS : Ref2 (fun x y H Q => ∃ i j, x = .str i ∧ y = .str j ∧ Q (.bl (!(!(Builtin.Str.occurrences j i 0 j.length 1).isEmpty))) H) (wInS true) := fun {H0 σ H A ρ x y v u k Q} R rx ry h hk => by
  obtain ⟨a, b, rfl, rfl, h⟩ := h
  exact ⟨a, b, rx.str, ry.str, hk.bl R h⟩
theorem flat_rel {H : Hp} {x : D} {v : V} (h : RD H x v) (f : flatD x = true) : flatV v = true := by cases h <;> first | rfl | cases f
theorem flats_rel {H : Hp} : ∀ {xs : List D} {vs : List V}, RDs H xs vs → xs.all flatD = true → vs.all flatV = true
  | [], _, h, _ => by cases h; rfl
  | _ :: _, _, h, f => by
    rw [List.all_cons, Bool.and_eq_true] at f
    cases h with
    | cons h r => rw [List.all_cons, flat_rel h f.1, flats_rel r f.2]; rfl
theorem eqD_rel {H : Hp} {x y : D} {v u : V} (h : RD H x v) (h' : RD H y u) (f : flatD x = true) (f' : flatD y = true) : eqV v u = eqD x y := by
  cases h <;> cases h' <;> simp_all [flatD, eqV, eqD] <;> first | rfl | rw [Bool.beq_eq_decide_eq]
theorem any_rel {H : Hp} {z : D} {u : V} (hz : RD H z u) (fz : flatD z = true) : ∀ {xs : List D} {vs : List V}, RDs H xs vs → xs.all flatD = true → (vs.any fun y => eqV y u) = xs.any fun w => eqD w z
  | [], _, h, _ => by cases h; rfl
  | _ :: _, _, h, f => by
    rw [List.all_cons, Bool.and_eq_true] at f
    cases h with
    | cons h r => rw [List.any_cons, List.any_cons, any_rel hz fz r f.2, eqD_rel h hz f.1 fz]
theorem ref_inF (n : Bool) : Ref2 (rIn K n) (wInF n) := fun {H0 σ H A ρ x y v u k Q} R rx ry h hk => by
  obtain ⟨z, xs, rfl, e, fz, fx, h⟩ := h
  obtain ⟨a, vs, rfl, r, l⟩ := seqOf_rel R ry e
  have rz : RD H z v := rx
  refine ⟨a, vs, rfl, l.elim (fun l => .inl (.of l)) (fun l => .inr (.of l)), flat_rel rz fz, flats_rel r fx, ?_⟩
  unfold inV
  rw [any_rel rz fz r fx]
  cases n <;> exact hk.bl R h
end

/-! ### subscripts -/
/-- d[k] -/
def rIxDct : R2 := fun x y H Q => ∃ a v, x = .ref a ∧ DGetE H a y (some v) ∧ Q v H
theorem ix_dct {X : Cx} (hu : X.A.units + 1 < cLine) : IxR X rIxDct := by
  intro value slice pins s σ H x y v u Q I rx ry h hs
  obtain ⟨a, w, rfl, g, q⟩ := h
  obtain rfl : v = Value.ref a := rx
  obtain ⟨H', I', g', back⟩ := dgetE I g
  exact tail_any (dict_typeIs I' g') slot_dict_getitem.lookup (d_getItem hu I' g' ry fun w' s' I3 rw' => ⟨w, H, back _ I3, rw', q⟩) hs
def wIxS : W2 := fun x y ρ A k => ∃ xs i z, seqOf ρ A x = some xs ∧ y = .d (.int i) ∧ atI xs i = some z ∧ k (.d z) ρ A
def wIxD : W2 := fun x y ρ A k => ∃ kvs j z, rdctOf ρ A x = some kvs ∧ y = .d j ∧ KeyIn j kvs ∧ dget kvs j = some z ∧ k (.d z) ρ A
def wIxT : W2 := fun x y ρ A k => ∃ z i c, x = .d (.str z) ∧ y = .d (.int i) ∧ z.length ≤ sizeLine ∧ atI z.cps.toList i = some c ∧ k (.d (.str ⟨#[c]⟩)) ρ A
def wIx : W2 := fun x y ρ A k => wIxS x y ρ A k ∨ wIxD x y ρ A k ∨ wIxT x y ρ A k
theorem atI_rel {H : Hp} {xs : List D} {vs : List V} {i : Int} {z : D} (r : RDs H xs vs) (e : atI xs i = some z) : ∃ v, atI vs i = some v ∧ RD H z v := by
  unfold atI at e ⊢
  rw [← r.length]
  cases q : ixN xs.length i with
  | none => rw [q] at e; cases e
  | some j => rw [q] at e; exact r.get e
theorem ref_ix {K : PySem.W.Frag} : Ref2 (fun x y H Q => rIx K x y H Q ∨ rIxDct x y H Q) wIx := fun {H0 σ H A ρ x y v u k Q} R rx ry h hk => by
  rcases h with ⟨xs, i, z, e, rfl, ez, h⟩ | ⟨kvs, j, z, e, rfl, ki, ez, h⟩ | ⟨z, i, c, rfl, rfl, hz, ez, h⟩
  · obtain ⟨a, vs, rfl, r, l⟩ := seqOf_rel R rx e
    obtain ⟨w, ew, rw'⟩ := atI_rel r ez
    have fin := hk _ _ _ h w H (Out.d R rw')
    rcases l with l | l
    · exact .inl (.inl ⟨a, vs, i, w, rfl, ry.int, .of l, ew, fin⟩)
    · exact .inl (.inr (.inl ⟨a, vs, i, w, rfl, ry.int, .of l, ew, fin⟩))
  · obtain ⟨a, o, ea, g, d⟩ := dct_at R rx e (show RD H j u from ry) ki
    rw [ez] at g
    obtain ⟨w, ew, rw'⟩ := g
    rw [ew] at d
    exact .inr ⟨a, w, ea, d, hk _ _ _ h w H (Out.d R rw')⟩
  · exact .inl (.inr (.inr ⟨z, i, c, rx.str, ry.int, hz, ez, hk.str R h⟩))
section
variable {X : Cx} {H0 : Hp} {a b : Expr} {pos : Pos} {ta tb : WE}
theorem IxR.or' {r r' : R2} (h : IxR X r) (h' : IxR X r') : IxR X (fun x y H Q => r x y H Q ∨ r' x y H Q) := h.or h'
theorem q_ix (hu : X.A.units + 1 < cLine) (ha : PE X a (lift H0 ta)) (hb : PE X b (lift H0 tb)) (hs : PlainIx b := by exact fun _ _ => rfl) : PE X (.Subscript a b pos) (lift H0 (wBin wIx ta tb)) :=
  PE.imp (pe_ix (ix_seq.or (ix_dct hu)) ha hb hs) (bin_lift ref_ix)
theorem q_eq (hu : X.A.units + 64 < cLine) (ha : PE X a (lift H0 ta)) (hb : PE X b (lift H0 tb)) : PE X (.Compare a [.Eq] [b] pos) (lift H0 (wBin (wEqB false) ta tb)) := q_cmp (op_eq.or (op_eqD hu)) ref_eq ha hb (nomark _)
theorem q_ne (hu : X.A.units + 64 < cLine) (ha : PE X a (lift H0 ta)) (hb : PE X b (lift H0 tb)) : PE X (.Compare a [.NotEq] [b] pos) (lift H0 (wBin (wEqB true) ta tb)) := q_cmp (op_ne.or (op_neD hu)) ref_ne ha hb (nomark _)
theorem q_lt (hu : X.A.units + 64 < cLine) (ha : PE X a (lift H0 ta)) (hb : PE X b (lift H0 tb)) : PE X (.Compare a [.Lt] [b] pos) (lift H0 (wBin wLt ta tb)) := q_cmp (op_lt.or (op_ltD hu)) (ref_b0.or ref_ltD) ha hb (nomark _)
theorem q_le (hu : X.A.units + 64 < cLine) (ha : PE X a (lift H0 ta)) (hb : PE X b (lift H0 tb)) : PE X (.Compare a [.LtE] [b] pos) (lift H0 (wBin wLe ta tb)) := q_cmp (op_le.or (op_leD hu)) (ref_b0.or ref_ltD) ha hb (nomark _)
theorem q_gt (hu : X.A.units + 64 < cLine) (ha : PE X a (lift H0 ta)) (hb : PE X b (lift H0 tb)) : PE X (.Compare a [.Gt] [b] pos) (lift H0 (wBin wGt ta tb)) := q_cmp (op_gt.or (op_gtD hu)) (ref_b0.or ref_ltD) ha hb (nomark _)
theorem q_ge (hu : X.A.units + 64 < cLine) (ha : PE X a (lift H0 ta)) (hb : PE X b (lift H0 tb)) : PE X (.Compare a [.GtE] [b] pos) (lift H0 (wBin wGe ta tb)) := q_cmp (op_ge.or (op_geD hu)) (ref_b0.or ref_ltD) ha hb (nomark _)
theorem q_in (hu : X.A.units + 65 < cLine) (ha : PE X a (lift H0 ta)) (hb : PE X b (lift H0 tb)) (hm : behindInMarks .In b = false := by with_unfolding_all rfl) : PE X (.Compare a [.In] [b] pos) (lift H0 (wBin (wIn false) ta tb)) :=
  q_cmp ((op_din (by omega)).or ((op_inD hu).or (op_in_str.or op_in_seq))) (Ref2.or (ref_inD false) (Ref2.or ref_inL (Ref2.or ref_inS (ref_inF false)))) ha hb hm
theorem q_nin (hu : X.A.units + 65 < cLine) (ha : PE X a (lift H0 ta)) (hb : PE X b (lift H0 tb)) (hm : behindInMarks .NotIn b = false := by with_unfolding_all rfl) : PE X (.Compare a [.NotIn] [b] pos) (lift H0 (wBin (wIn true) ta tb)) :=
  q_cmp ((op_dnotin (by omega)).or ((op_notInD hu).or (op_notIn_str.or op_notIn_seq))) (Ref2.or (ref_inD true) (Ref2.or ref_ninL (Ref2.or ref_ninS (ref_inF true)))) ha hb hm
/-! ### is None -/
def isNon : U → Bool
  | .d .non => true
  | _ => false
theorem isN_rel {H : Hp} {A : Ah} {σ : St} {ρ : Rho} {H0 : Hp} {x : U} {v : V} (R : Rel H0 H A σ ρ) (hl : ∀ i, x = .loc i → ∃ o, obOf ρ A x = some o) (r : RU H A σ x v) : decide (v = .non) = isNon x := by
  cases x with
  | d z => cases (show RD H z v from r) <;> simp [isNon]
  | lst xs => obtain ⟨a, rfl, _⟩ := r; simp [isNon]
  | dct xs => obtain ⟨a, rfl, _⟩ := r; simp [isNon]
  | loc i =>
    obtain ⟨o, eo⟩ := hl i rfl
    obtain ⟨a, rfl, _⟩ := obOf_rel R r eo
    simp [isNon]
def wIsNone (n : Bool) : W2 := fun x y ρ A k => (∀ i, x = .loc i → ∃ o, obOf ρ A x = some o) ∧ y = .d .non ∧ k (.d (.bl (neg n (isNon x)))) ρ A
theorem ref_isN : Ref2 (fun x y H Q => y = .non ∧ Q (.bl (decide (x = .non))) H) (wIsNone false) := fun {H0 σ H A ρ x y v u k Q} R rx ry h hk => by
  obtain ⟨hl, rfl, h⟩ := h
  refine ⟨ry.non, ?_⟩
  rw [isN_rel R hl rx]
  exact hk.bl R h
theorem ref_notN : Ref2 (fun x y H Q => y = .non ∧ Q (.bl (!decide (x = .non))) H) (wIsNone true) := fun {H0 σ H A ρ x y v u k Q} R rx ry h hk => by
  obtain ⟨hl, rfl, h⟩ := h
  refine ⟨ry.non, ?_⟩
  rw [isN_rel R hl rx]
  exact hk.bl R h
theorem q_is (ha : PE X a (lift H0 ta)) (hb : PE X b (lift H0 tb)) : PE X (.Compare a [.Is] [b] pos) (lift H0 (wBin (wIsNone false) ta tb)) := q_cmp op_isN ref_isN ha hb (nomark _)
theorem q_isnot (ha : PE X a (lift H0 ta)) (hb : PE X b (lift H0 tb)) : PE X (.Compare a [.IsNot] [b] pos) (lift H0 (wBin (wIsNone true) ta tb)) := q_cmp op_notN ref_notN ha hb (nomark _)
end

/-! ### chains, and, or, not, if -/
def wChain (r r' : W2) (ta tb tc : WE) : WE := fun ρ A k => ta ρ A fun x ρ1 A1 => tb ρ1 A1 fun y ρ2 A2 => r x y ρ2 A2 fun z ρ3 A3 => ∃ b, z = .d (.bl b) ∧ if b = true then tc ρ3 A3 fun w ρ4 A4 => r' y w ρ4 A4 k else k (.d (.bl false)) ρ3 A3
def wAnd (ta tb : WE) : WE := fun ρ A k => ta ρ A fun x ρ1 A1 => ∃ b, x = .d (.bl b) ∧ if b = true then tb ρ1 A1 k else k (.d (.bl false)) ρ1 A1
def wOr (ta tb : WE) : WE := fun ρ A k => ta ρ A fun x ρ1 A1 => ∃ b, x = .d (.bl b) ∧ if b = true then k (.d (.bl true)) ρ1 A1 else tb ρ1 A1 k
def wNot (ta : WE) : WE := fun ρ A k => ta ρ A fun x ρ1 A1 => ∃ b, x = .d (.bl b) ∧ k (.d (.bl (!b))) ρ1 A1
/-- a value as a test -/
def tB (ta : WE) : WT := fun ρ A k => ta ρ A fun x ρ1 A1 => ∃ b, x = .d (.bl b) ∧ k b ρ1 A1
def tAnd (ta tb : WT) : WT := fun ρ A k => ta ρ A fun b ρ1 A1 => if b = true then tb ρ1 A1 k else k false ρ1 A1
def tOr (ta tb : WT) : WT := fun ρ A k => ta ρ A fun b ρ1 A1 => if b = true then k true ρ1 A1 else tb ρ1 A1 k
def tNot (ta : WT) : WT := fun ρ A k => ta ρ A fun b ρ1 A1 => k (!b) ρ1 A1
def wIf (tc : WT) (ta tb : WE) : WE := fun ρ A k => tc ρ A fun b ρ1 A1 => if b = true then ta ρ1 A1 k else tb ρ1 A1 k
section
variable {X : Cx} {H0 : Hp} {a b c : Expr} {rest : List Expr} {pos : Pos} {ta tb tc : WE} {ca cb cc : WT}
theorem q_one {op} (h : PE X a (lift H0 ta)) : PE X (.BoolOp op [a] pos) (lift H0 ta) := pe_one h
theorem q_and (ha : PE X a (lift H0 ta)) (hb : PE X (.BoolOp .And (b :: rest) pos) (lift H0 tb)) : PE X (.BoolOp .And (a :: b :: rest) pos) (lift H0 (wAnd ta tb)) := by
  refine PE.imp (pe_and ha hb) fun σ H Q ⟨ρ, A, k, R, h, hk⟩ => ⟨ρ, A, _, R, h, fun x ρ1 A1 ⟨d, ex, h1⟩ v H1 o1 => ?_⟩
  subst ex
  refine ⟨d, o1.val.bl, ?_⟩
  cases d with
  | true => exact ⟨ρ1, A1, k, o1.rel, h1, hk.behind o1.toOutT⟩
  | false => exact (hk.behind o1.toOutT).bl o1.rel h1
theorem q_or (ha : PE X a (lift H0 ta)) (hb : PE X (.BoolOp .Or (b :: rest) pos) (lift H0 tb)) : PE X (.BoolOp .Or (a :: b :: rest) pos) (lift H0 (wOr ta tb)) := by
  refine PE.imp (pe_or ha hb) fun σ H Q ⟨ρ, A, k, R, h, hk⟩ => ⟨ρ, A, _, R, h, fun x ρ1 A1 ⟨d, ex, h1⟩ v H1 o1 => ?_⟩
  subst ex
  refine ⟨d, o1.val.bl, ?_⟩
  cases d with
  | false => exact ⟨ρ1, A1, k, o1.rel, h1, hk.behind o1.toOutT⟩
  | true => exact (hk.behind o1.toOutT).bl o1.rel h1
theorem q_not (ha : PE X a (lift H0 ta)) : PE X (.UnaryOp .Not a pos) (lift H0 (wNot ta)) := by
  refine PE.imp (pe_not ha) fun σ H Q ⟨ρ, A, k, R, h, hk⟩ => ⟨ρ, A, _, R, h, fun x ρ1 A1 ⟨d, ex, h1⟩ v H1 o1 => ?_⟩
  subst ex
  exact ⟨d, o1.val.bl, (hk.behind o1.toOutT).bl o1.rel h1⟩
theorem q_ifx (hc : PT X c (liftT H0 cc)) (ha : PE X a (lift H0 ta)) (hb : PE X b (lift H0 tb)) : PE X (.IfExp c a b pos) (lift H0 (wIf cc ta tb)) := by
  refine PE.imp (pe_ifExp hc ha hb) fun σ H Q ⟨ρ, A, k, R, h, hk⟩ => ⟨ρ, A, _, R, h, fun d ρ1 A1 h1 H1 o1 => ?_⟩
  cases d with
  | true => exact ⟨ρ1, A1, k, o1.rel, h1, hk.behind o1⟩
  | false => exact ⟨ρ1, A1, k, o1.rel, h1, hk.behind o1⟩
theorem t_val (h : PE X a (lift H0 ta)) (he : ∀ whole, isTrue a X.env whole = (do let v ← whole; standAt a.pos; holding [v] (truthy v)) := by intro _; rfl) : PT X a (liftT H0 (tB ta)) := by
  refine PT.imp (pt_val h he) fun σ H Q ⟨ρ, A, k, R, h, hk⟩ => ⟨ρ, A, _, R, h, fun x ρ1 A1 ⟨d, ex, h1⟩ v H1 o1 => ?_⟩
  subst ex
  exact ⟨d, o1.val.bl, hk _ _ _ h1 _ o1.toOutT⟩
theorem t_cmp {op : CmpOp} {r : R2} {w : W2} (ho : OpR X (compareOp op) r) (hr : Ref2 r w) (ha : PE X a (lift H0 ta)) (hb : PE X b (lift H0 tb)) (hm : behindInMarks op b = false) : PT X (.Compare a [op] [b] pos) (liftT H0 (tB (wBin w ta tb))) := by
  refine PT.imp (pt_cmpR ho ha hb hm) fun σ H Q ⟨ρ, A, k, R, h, hk⟩ => ?_
  refine bin_lift (ta := ta) (tb := tb) hr σ H _ ⟨ρ, A, _, R, h, fun x ρ1 A1 ⟨d, ex, h1⟩ v H1 o1 => ?_⟩
  subst ex
  exact ⟨d, o1.val.bl, hk _ _ _ h1 _ o1.toOutT⟩
theorem t_eq (hu : X.A.units + 64 < cLine) (ha : PE X a (lift H0 ta)) (hb : PE X b (lift H0 tb)) : PT X (.Compare a [.Eq] [b] pos) (liftT H0 (tB (wBin (wEqB false) ta tb))) := t_cmp (op_eq.or (op_eqD hu)) ref_eq ha hb (nomark _)
theorem t_ne (hu : X.A.units + 64 < cLine) (ha : PE X a (lift H0 ta)) (hb : PE X b (lift H0 tb)) : PT X (.Compare a [.NotEq] [b] pos) (liftT H0 (tB (wBin (wEqB true) ta tb))) := t_cmp (op_ne.or (op_neD hu)) ref_ne ha hb (nomark _)
theorem t_lt (hu : X.A.units + 64 < cLine) (ha : PE X a (lift H0 ta)) (hb : PE X b (lift H0 tb)) : PT X (.Compare a [.Lt] [b] pos) (liftT H0 (tB (wBin wLt ta tb))) := t_cmp (op_lt.or (op_ltD hu)) (ref_b0.or ref_ltD) ha hb (nomark _)
theorem t_le (hu : X.A.units + 64 < cLine) (ha : PE X a (lift H0 ta)) (hb : PE X b (lift H0 tb)) : PT X (.Compare a [.LtE] [b] pos) (liftT H0 (tB (wBin wLe ta tb))) := t_cmp (op_le.or (op_leD hu)) (ref_b0.or ref_ltD) ha hb (nomark _)
theorem t_gt (hu : X.A.units + 64 < cLine) (ha : PE X a (lift H0 ta)) (hb : PE X b (lift H0 tb)) : PT X (.Compare a [.Gt] [b] pos) (liftT H0 (tB (wBin wGt ta tb))) := t_cmp (op_gt.or (op_gtD hu)) (ref_b0.or ref_ltD) ha hb (nomark _)
theorem t_ge (hu : X.A.units + 64 < cLine) (ha : PE X a (lift H0 ta)) (hb : PE X b (lift H0 tb)) : PT X (.Compare a [.GtE] [b] pos) (liftT H0 (tB (wBin wGe ta tb))) := t_cmp (op_ge.or (op_geD hu)) (ref_b0.or ref_ltD) ha hb (nomark _)
theorem t_in (hu : X.A.units + 65 < cLine) (ha : PE X a (lift H0 ta)) (hb : PE X b (lift H0 tb)) (hm : behindInMarks .In b = false := by with_unfolding_all rfl) : PT X (.Compare a [.In] [b] pos) (liftT H0 (tB (wBin (wIn false) ta tb))) :=
  t_cmp ((op_din (by omega)).or ((op_inD hu).or (op_in_str.or op_in_seq))) (Ref2.or (ref_inD false) (Ref2.or ref_inL (Ref2.or ref_inS (ref_inF false)))) ha hb hm
theorem t_nin (hu : X.A.units + 65 < cLine) (ha : PE X a (lift H0 ta)) (hb : PE X b (lift H0 tb)) (hm : behindInMarks .NotIn b = false := by with_unfolding_all rfl) : PT X (.Compare a [.NotIn] [b] pos) (liftT H0 (tB (wBin (wIn true) ta tb))) :=
  t_cmp ((op_dnotin (by omega)).or ((op_notInD hu).or (op_notIn_str.or op_notIn_seq))) (Ref2.or (ref_inD true) (Ref2.or ref_ninL (Ref2.or ref_ninS (ref_inF true)))) ha hb hm
theorem t_is (ha : PE X a (lift H0 ta)) (hb : PE X b (lift H0 tb)) : PT X (.Compare a [.Is] [b] pos) (liftT H0 (tB (wBin (wIsNone false) ta tb))) := t_cmp op_isN ref_isN ha hb (nomark _)
theorem t_isnot (ha : PE X a (lift H0 ta)) (hb : PE X b (lift H0 tb)) : PT X (.Compare a [.IsNot] [b] pos) (liftT H0 (tB (wBin (wIsNone true) ta tb))) := t_cmp op_notN ref_notN ha hb (nomark _)
theorem t_not (ha : PT X a (liftT H0 ca)) : PT X (.UnaryOp .Not a pos) (liftT H0 (tNot ca)) :=
  PT.imp (pt_not ha) fun σ H Q ⟨ρ, A, k, R, h, hk⟩ => ⟨ρ, A, _, R, h, fun d ρ1 A1 h1 H1 o1 => hk _ _ _ h1 _ o1⟩
theorem w_and1 (ha : PT X a (liftT H0 ca)) : PW X (.BoolOp .And [a] pos) (liftT H0 ca) := pw_and1 ha
theorem w_or1 (ha : PT X a (liftT H0 ca)) : PW X (.BoolOp .Or [a] pos) (liftT H0 ca) := pw_or1 ha
theorem w_and (ha : PT X a (liftT H0 ca)) (hb : PW X (.BoolOp .And (b :: rest) pos) (liftT H0 cb)) : PW X (.BoolOp .And (a :: b :: rest) pos) (liftT H0 (tAnd ca cb)) := by
  refine PW.imp (pw_and ha hb) fun σ H Q ⟨ρ, A, k, R, h, hk⟩ => ⟨ρ, A, _, R, h, fun d ρ1 A1 h1 H1 o1 => ?_⟩
  cases d with
  | true => exact ⟨ρ1, A1, k, o1.rel, h1, hk.behind o1⟩
  | false => exact hk _ _ _ h1 _ o1
theorem w_or (ha : PT X a (liftT H0 ca)) (hb : PW X (.BoolOp .Or (b :: rest) pos) (liftT H0 cb)) : PW X (.BoolOp .Or (a :: b :: rest) pos) (liftT H0 (tOr ca cb)) := by
  refine PW.imp (pw_or ha hb) fun σ H Q ⟨ρ, A, k, R, h, hk⟩ => ⟨ρ, A, _, R, h, fun d ρ1 A1 h1 H1 o1 => ?_⟩
  cases d with
  | false => exact ⟨ρ1, A1, k, o1.rel, h1, hk.behind o1⟩
  | true => exact hk _ _ _ h1 _ o1
theorem q_chain {op op' : CmpOp} {r r' : R2} {w w' : W2} (ho : OpR X (compareOp op) r) (hr : Ref2 r w) (ho' : OpR X (compareOp op') r') (hr' : Ref2 r' w') (ha : PE X a (lift H0 ta)) (hb : PE X b (lift H0 tb)) (hc : PE X c (lift H0 tc))
    (hm : lastMarks [op, op'] [b, c] = false := by with_unfolding_all rfl) : PE X (.Compare a [op, op'] [b, c] pos) (lift H0 (wChain w w' ta tb tc)) := by
  refine PE.imp (pe_chain ho ho' ha hb hc hm) fun σ H Q ⟨ρ, A, k, R, h, hk⟩ => ⟨ρ, A, _, R, h, fun x ρ1 A1 h1 v H1 o1 => ⟨ρ1, A1, _, o1.rel, h1, fun y ρ2 A2 h2 u H2 o2 => ?_⟩⟩
  refine hr o2.rel (o1.stay R o2.step) o2.val h2 fun z ρ3 A3 ⟨d, ez, h3⟩ v3 H3 o3 => ?_
  subst ez
  refine ⟨d, o3.val.bl, ?_⟩
  have o13 := o1.toOutT.trans (o2.toOutT.trans o3.toOutT)
  cases d with
  | true => exact ⟨ρ3, A3, _, o3.rel, h3, fun w4 ρ4 A4 h4 v4 H4 o4 => hr' o4.rel (o2.stay o1.rel (o3.step.trans o4.step fun c z => .inl (o3.sub c z))) o4.val h4 (hk.behind (o13.trans o4.toOutT))⟩
  | false => exact (hk.behind o13).bl o3.rel h3
/-- a chain as a test -/
theorem t_chain {op op' : CmpOp} {r r' : R2} {w w' : W2} (ho : OpR X (compareOp op) r) (hr : Ref2 r w) (ho' : OpR X (compareOp op') r') (hr' : Ref2 r' w') (ha : PE X a (lift H0 ta)) (hb : PE X b (lift H0 tb)) (hc : PE X c (lift H0 tc))
    (hm : lastMarks [op, op'] [b, c] = false := by with_unfolding_all rfl) : PT X (.Compare a [op, op'] [b, c] pos) (liftT H0 (tB (wChain w w' ta tb tc))) := by
  refine PT.imp (pt_chain ho ho' ha hb hc hm) fun σ H Q ⟨ρ, A, k, R, h, hk⟩ => ⟨ρ, A, _, R, h, fun x ρ1 A1 h1 v H1 o1 => ⟨ρ1, A1, _, o1.rel, h1, fun y ρ2 A2 h2 u H2 o2 => ?_⟩⟩
  refine hr o2.rel (o1.stay R o2.step) o2.val h2 fun z ρ3 A3 ⟨d, ez, h3⟩ v3 H3 o3 => ?_
  subst ez
  refine ⟨d, o3.val.bl, ?_⟩
  have o13 := o1.toOutT.trans (o2.toOutT.trans o3.toOutT)
  cases d with
  | true =>
    refine ⟨ρ3, A3, _, o3.rel, h3, fun w4 ρ4 A4 h4 v4 H4 o4 => hr' o4.rel (o2.stay o1.rel (o3.step.trans o4.step fun c z => .inl (o3.sub c z))) o4.val h4 fun z5 ρ5 A5 ⟨d5, e5, h5⟩ v5 H5 o5 => ?_⟩
    subst e5
    exact ⟨d5, o5.val.bl, hk _ _ _ h5 _ (o13.trans (o4.toOutT.trans o5.toOutT))⟩
  | false =>
    obtain ⟨d5, e5, h5⟩ := h3
    cases e5
    exact ⟨false, rfl, hk _ _ _ h5 _ o13⟩
end
end Dn

namespace Dn
open PySem L2 PyProof.Rows

/-! ### arguments -/
def wNil : WA := fun ρ A k => k [] ρ A
def wCons (te : WE) (tr : WA) : WA := fun ρ A k => te ρ A fun u ρ1 A1 => esc u ρ1 A1 fun x ρ2 A2 => tr ρ2 A2 fun xs ρ3 A3 => k (x :: xs) ρ3 A3
/-- a result beside others: its value, and that it is new since Hs if nobody else holds it -/
structure Arg (σ : St) (Hs H : Hp) (A : Ah) (y : U) (u : V) : Prop where
  val : RU H A σ y u
  fr : y.own = true → ∀ a, u = .ref a → Hs a = none
abbrev Argv (σ : St) (Hs H : Hp) (A : Ah) : List U → List V → Prop := Paired (Arg σ Hs H A)
abbrev KU := List U → Rho → Ah → Prop
abbrev WU := Rho → Ah → KU → Prop
structure OutU (H0 : Hp) (σ : St) (H : Hp) (A : Ah) (ρ : Rho) (H' : Hp) (A' : Ah) (ρ' : Rho) (us : List U) (vs : List V) : Prop extends OutT H0 σ H A ρ H' A' ρ' where
  vals : Argv σ H H' A' us vs
def KqU (H0 : Hp) (σ : St) (H : Hp) (A : Ah) (ρ : Rho) (k : KU) (Q : List V → Hp → Prop) : Prop := ∀ us ρ' A', k us ρ' A' → ∀ vs H', OutU H0 σ H A ρ H' A' ρ' us vs → Q vs H'
def liftU (H0 : Hp) (t : WU) : TA := fun σ H Q => ∃ ρ A k, Rel H0 H A σ ρ ∧ t ρ A k ∧ KqU H0 σ H A ρ k Q
def uNil : WU := fun ρ A k => k [] ρ A
def uCons (te : WE) (tr : WU) : WU := fun ρ A k => te ρ A fun u ρ1 A1 => tr ρ1 A1 fun us ρ2 A2 => k (u :: us) ρ2 A2
section
variable {X : Cx} {H0 : Hp} {e : Expr} {es : List Expr} {te : WE} {tr : WA} {tu : WU} {pos : Pos}
theorem a_nil : PA X [] (liftA H0 wNil) := PA.imp pa_nil fun σ H Q ⟨ρ, A, k, R, h, hk⟩ => hk [] ρ A h [] H ⟨OutT.refl R, .nil⟩
theorem a_cons (he : PE X e (lift H0 te)) (hr : PA X es (liftA H0 tr)) (hs : starEach (e :: es) X.env = (false, eval e X.env) :: starEach es X.env := by rfl) : PA X (e :: es) (liftA H0 (wCons te tr)) := by
  refine PA.imp (pa_cons he hr hs) fun σ H Q ⟨ρ, A, k, R, h, hk⟩ => ⟨ρ, A, _, R, h, fun u ρ1 A1 h1 v H1 o1 => ?_⟩
  obtain ⟨x, ρ2, A2, h2, o2⟩ := esc_ok R o1 h1
  exact ⟨ρ2, A2, _, o2.rel, h2, fun xs ρ3 A3 h3 vs H3 o3 => hk _ _ _ h3 _ H3 ⟨o2.toOutT.trans o3.toOutT, .cons ((show RD H1 x v from o2.val).keep (o2.rel.tk o3.step)) o3.vals⟩⟩
theorem Argv.stay {H0 Hs As H A H' A' : _} {σ : St} {ρs ρ : Rho} (R : Rel H0 Hs As σ ρs) (o : OutT H0 σ Hs As ρs H A ρ) (s : Step H A (Own σ ρ) H' A') : ∀ {us : List U} {vs : List V}, Argv σ Hs H A us vs → Argv σ Hs H' A' us vs
  | _, _, .nil => .nil
  | _, _, .cons h t => .cons ⟨Out.stay R ⟨o, h.val, h.fr⟩ s, h.fr⟩ (Argv.stay R o s t)
theorem Argv.older {Hs H1 H : Hp} {A : Ah} {σ : St} (k : ∀ a, H1 a = none → Hs a = none) : ∀ {us : List U} {vs : List V}, Argv σ H1 H A us vs → Argv σ Hs H A us vs
  | _, _, .nil => .nil
  | _, _, .cons h t => .cons ⟨h.val, fun o a e => k a (h.fr o a e)⟩ (Argv.older k t)
theorem u_nil : PA X [] (liftU H0 uNil) := PA.imp pa_nil fun σ H Q ⟨ρ, A, k, R, h, hk⟩ => hk [] ρ A h [] H ⟨OutT.refl R, .nil⟩
theorem u_cons (he : PE X e (lift H0 te)) (hr : PA X es (liftU H0 tu)) (hs : starEach (e :: es) X.env = (false, eval e X.env) :: starEach es X.env := by rfl) : PA X (e :: es) (liftU H0 (uCons te tu)) := by
  refine PA.imp (pa_cons he hr hs) fun σ H Q ⟨ρ, A, k, R, h, hk⟩ => ⟨ρ, A, _, R, h, fun u ρ1 A1 h1 v H1 o1 => ?_⟩
  exact ⟨ρ1, A1, _, o1.rel, h1, fun xs ρ3 A3 h3 vs H3 o3 => hk _ _ _ h3 _ H3 ⟨o1.toOutT.trans o3.toOutT, .cons ⟨o1.stay R o3.step, o1.fr⟩ (Argv.older (fun a h => o1.step.back h) o3.vals)⟩⟩
/-! ### displays -/
def wTup (t : WA) : WE := fun ρ A k => t ρ A fun xs ρ1 A1 => xs.length ≤ sizeLine ∧ k (.d (.tup xs)) ρ1 A1
def wLst (t : WA) : WE := fun ρ A k => t ρ A fun xs ρ1 A1 => xs.length ≤ sizeLine ∧ k (.lst xs) ρ1 A1
theorem q_tup {x1} (h : PA X es (liftA H0 tr)) : PE X (.Tuple es x1 pos) (lift H0 (wTup tr)) := by
  refine PE.imp (pe_tup h) fun σ H Q ⟨ρ, A, k, R, h, hk⟩ => ⟨ρ, A, _, R, h, fun xs ρ1 A1 ⟨z, h1⟩ vs H1 o1 => ⟨by rw [← o1.vals.length]; exact z, fun p hp => ?_⟩⟩
  exact (hk.behind o1.toOutT) _ _ _ h1 _ _ (Out.tup o1.rel hp o1.vals)
theorem q_lst (h : PA X es (liftA H0 tr)) : PE X (.List es pos) (lift H0 (wLst tr)) := by
  refine PE.imp (pe_lst h) fun σ H Q ⟨ρ, A, k, R, h, hk⟩ => ⟨ρ, A, _, R, h, fun xs ρ1 A1 ⟨z, h1⟩ vs H1 o1 => ⟨by rw [← o1.vals.length]; exact z, fun p hp => ?_⟩⟩
  exact (hk.behind o1.toOutT) _ _ _ h1 _ _ (Out.lst o1.rel hp o1.vals)
/-- {} -/
def wDct0 : WE := fun ρ A k => k (.dct []) ρ A
theorem q_dct0 : PE X (.Dict [] [] pos) (lift H0 wDct0) := by
  refine PE.imp pe_dnewK fun σ H Q ⟨ρ, A, k, R, h, hk⟩ p hp => ?_
  exact hk _ _ _ h _ _ (Out.new R hp (u := .dct []) (b := .dct []) rfl (.inl ⟨[], rfl, .nil⟩))
/-! ### attributes -/
def wFld (C : Addr) (f : Str) (ta : WE) : WE := fun ρ A k => ta ρ A fun x ρ1 A1 => ∃ a t fs w, x = .d (.ref a) ∧ A1 a = some ⟨t, .ins C fs⟩ ∧ fs.lookup f = some w ∧ k (.d w) ρ1 A1
theorem RF.get {H : Hp} {f : Str} {w : D} : ∀ {fs : List (Str × D)} {gs : List (Str × V)}, RF H fs gs → fs.lookup f = some w → ∃ v, gs.lookup f = some v ∧ RD H w v
  | _, _, .nil, e => by cases e
  | _, _, .cons (a := (n, x)) (b := (m, v)) ⟨h1, h2⟩ t, e => by
    have h1 : n = m := h1
    subst h1
    rw [List.lookup_cons] at e ⊢
    cases q : f == n with
    | true => rw [q] at e; cases e; exact ⟨v, rfl, h2⟩
    | false => rw [q] at e; exact RF.get t e
theorem RF.none {H : Hp} {f : Str} : ∀ {fs : List (Str × D)} {gs : List (Str × V)}, RF H fs gs → fs.lookup f = none → gs.lookup f = none
  | _, _, .nil, e => rfl
  | _, _, .cons (a := (n, x)) (b := (m, v)) ⟨h1, h2⟩ t, e => by
    have h1 : n = m := h1
    subst h1
    rw [List.lookup_cons] at e ⊢
    cases q : f == n with
    | true => rw [q] at e; cases e
    | false => rw [q] at e; exact RF.none t e
theorem q_fld {C : Addr} {f : Str} (c : Cls X.K C) (n : NoAttr X.K C f) (he : PE X e (lift H0 te)) (hb : attributeBase e f X.env (eval e X.env) = eval e X.env := by rfl) : PE X (.Attribute e f pos) (lift H0 (wFld C f te)) := by
  refine PE.imp (pe_fld he hb) fun σ H Q ⟨ρ, A, k, R, h, hk⟩ => ⟨ρ, A, _, R, h, fun x ρ1 A1 ⟨a, t, fs, w, ex, ea, l, h1⟩ v H1 o1 => ?_⟩
  subst ex
  cases (show RD H1 (.ref a) v from o1.val)
  obtain ⟨dx, gs, eg, r⟩ := o1.rel.hp a _ ea
  obtain ⟨v, ev, rv⟩ := RF.get r l
  exact ⟨a, C, dx, gs, v, rfl, eg, c, n, ev, (hk.behind o1.toOutT) _ _ _ h1 _ _ (Out.d o1.rel rv)⟩
end
/-! ### slices -/
def cutD (xs : List D) (lo hi : Option Int) : List D := (xs.drop (HT.sIx xs.length 0 lo)).take (HT.sIx xs.length xs.length hi - HT.sIx xs.length 0 lo)
theorem cutD_rel {H : Hp} {xs : List D} {vs : List V} (r : RDs H xs vs) (lo hi : Option Int) : RDs H (cutD xs lo hi) (cutV vs lo hi) := by
  unfold cutD cutV
  rw [r.length]
  exact (r.drop _).take _
abbrev KO := Option Int → Rho → Ah → Prop
abbrev WO := Rho → Ah → KO → Prop
def KqO (H0 : Hp) (σ : St) (H : Hp) (A : Ah) (ρ : Rho) (k : KO) (Q : Option Int → Hp → Prop) : Prop := ∀ b ρ' A', k b ρ' A' → ∀ H', OutT H0 σ H A ρ H' A' ρ' → Q b H'
def liftO (H0 : Hp) (t : WO) : TO := fun σ H Q => ∃ ρ A k, Rel H0 H A σ ρ ∧ t ρ A k ∧ KqO H0 σ H A ρ k Q
def oNone : WO := fun ρ A k => k none ρ A
def oSome (te : WE) : WO := fun ρ A k => te ρ A fun x ρ1 A1 => ∃ i, x = .d (.int i) ∧ k (some i) ρ1 A1
theorem PO.imp {X : Cx} {e : Option Expr} {t t' : TO} (h : PO X e t) (k : ∀ σ H Q, t' σ H Q → t σ H Q) : PO X e t' := ⟨fun pins s σ H Q I w => h.run pins s σ H Q I (k σ H Q w)⟩
def wSlice (r : U → Option Int → Option Int → WE) (te : WE) (tl th : WO) : WE := fun ρ A k => te ρ A fun x ρ1 A1 => tl ρ1 A1 fun l ρ2 A2 => th ρ2 A2 fun u ρ3 A3 => r x l u ρ3 A3 k
def cutS' (z : Str) (lo hi : Option Int) : Str := cutS z lo hi
def wCut : U → Option Int → Option Int → WE := fun x lo hi ρ A k =>
  (∃ xs, lstOf ρ A x = some xs ∧ k (.lst (cutD xs lo hi)) ρ A) ∨
  (∃ xs, x = .d (.tup xs) ∧ ¬ (HT.sIx xs.length 0 lo = 0 ∧ HT.sIx xs.length xs.length hi = xs.length) ∧ k (.d (.tup (cutD xs lo hi))) ρ A) ∨
  (∃ z, x = .d (.str z) ∧ z.length ≤ sizeLine ∧ k (.d (.str (cutS z lo hi))) ρ A)
section
variable {X : Cx} {H0 : Hp} {e : Expr} {lo hi : Option Expr} {te : WE} {tl th : WO} {pos p2 : Pos}
theorem o_none : PO X none (liftO H0 oNone) := PO.imp po_none fun σ H Q ⟨ρ, A, k, R, h, hk⟩ => hk _ _ _ h H (OutT.refl R)
theorem o_some (he : PE X e (lift H0 te)) : PO X (some e) (liftO H0 (oSome te)) := by
  refine PO.imp (po_some he) fun σ H Q ⟨ρ, A, k, R, h, hk⟩ => ⟨ρ, A, _, R, h, fun x ρ1 A1 ⟨i, ex, h1⟩ v H1 o1 => ?_⟩
  subst ex
  exact ⟨i, o1.val.int, hk _ _ _ h1 H1 o1.toOutT⟩
theorem q_slice (he : PE X e (lift H0 te)) (hl : PO X lo (liftO H0 tl)) (hh : PO X hi (liftO H0 th)) : PE X (.Subscript e (.Slice lo hi none p2) pos) (lift H0 (wSlice wCut te tl th)) := by
  refine PE.imp (pe_slice (sl_list.or (sl_tup.or sl_str)) he hl hh) fun σ H Q ⟨ρ, A, k, R, h, hk⟩ => ⟨ρ, A, _, R, h, fun x ρ1 A1 h1 v H1 o1 => ⟨ρ1, A1, _, o1.rel, h1, fun l ρ2 A2 h2 H2 o2 => ⟨ρ2, A2, _, o2.rel, h2, fun u ρ3 A3 h3 H3 o3 => ?_⟩⟩⟩
  have o23 := o2.trans o3
  have rx := o1.stay R o23.step
  have hk' := hk.behind (o1.toOutT.trans o23)
  rcases h3 with ⟨xs, el, h3⟩ | ⟨xs, rfl, nw, h3⟩ | ⟨z, rfl, hz, h3⟩
  · obtain ⟨a, vs, rfl, ha, r⟩ := lstOf_rel o3.rel rx el
    exact .inl ⟨a, vs, rfl, .of ha, fun p hp => hk' _ _ _ h3 _ _ (Out.lst o3.rel hp (cutD_rel r l u))⟩
  · cases (show RD H3 (.tup xs) v from rx) with
    | tup ha r => exact .inr (.inl ⟨_, _, rfl, .of ha, by rw [← r.length]; exact nw, fun p hp => hk' _ _ _ h3 _ _ (Out.tup o3.rel hp (cutD_rel r l u))⟩)
  · exact .inr (.inr ⟨z, rx.str, hz, hk'.str o3.rel h3⟩)
end
/-! ### calls of built-ins -/
def RefC (r : List V → Hp → VK → Prop) (w : List U → WE) : Prop := ∀ {H0 : Hp} {σ : St} {Hs : Hp} {As : Ah} {ρs : Rho} {H : Hp} {A : Ah} {ρ : Rho} {us : List U} {vs : List V} {k : K1} {Q : VK},
  Rel H0 Hs As σ ρs → OutT H0 σ Hs As ρs H A ρ → Argv σ Hs H A us vs → w us ρ A k → Kq H0 σ Hs As ρs k Q → r vs H Q
def wCall (w : List U → WE) (tu : WU) : WE := fun ρ A k => tu ρ A fun us ρ1 A1 => w us ρ1 A1 k
theorem CallR.imp {X : Cx} {f : Value} {r r' : List V → Hp → VK → Prop} (h : CallR X f r) (k : ∀ xs H Q, r' xs H Q → r xs H Q) : CallR X f r' := fun pins s σ H vs us Q I rv q => h pins s σ H vs us Q I rv (k _ _ _ q)
theorem RefC.or {r r' : List V → Hp → VK → Prop} {w w' : List U → WE} (h : RefC r w) (h' : RefC r' w') : RefC (fun xs H Q => r xs H Q ∨ r' xs H Q) (fun us ρ A k => w us ρ A k ∨ w' us ρ A k) :=
  fun R o a q hk => q.elim (fun q => .inl (h R o a q hk)) fun q => .inr (h' R o a q hk)
theorem Arg.one {σ : St} {Hs H : Hp} {A : Ah} {u : U} {vs : List V} (h : Argv σ Hs H A [u] vs) : ∃ v, vs = [v] ∧ Arg σ Hs H A u v := by
  cases h with
  | cons h t => cases t; exact ⟨_, rfl, h⟩
theorem Arg.two {σ : St} {Hs H : Hp} {A : Ah} {u y : U} {vs : List V} (h : Argv σ Hs H A [u, y] vs) : ∃ v w, vs = [v, w] ∧ Arg σ Hs H A u v ∧ Arg σ Hs H A y w := by
  cases h with
  | cons h t => cases t with
    | cons h' t => cases t; exact ⟨_, _, rfl, h, h'⟩
section
variable {X : Cx} {H0 : Hp} {e : Expr} {es : List Expr} {x : Str} {p pos : Pos} {id T : String} {r : List V → Hp → VK → Prop} {w : List U → WE} {tu : WU}
theorem call_lift (hr : RefC r w) : ∀ σ H Q, lift H0 (wCall w tu) σ H Q → tCB r (liftU H0 tu) σ H Q := fun σ H Q ⟨ρ, A, k, R, h, hk⟩ =>
  ⟨ρ, A, _, R, h, fun us ρ1 A1 h1 vs H1 o1 => hr R o1.toOutT o1.vals h1 hk⟩
theorem q_callB (hc : CallR X (.builtin id) r) (hr : RefC r w) (hm : X.mg x = none) (ha : PA X (e :: es) (liftU H0 tu)) (hv : bootBuiltins x = some (.builtin id) := by decide +kernel) (hg : Gl X x := by rfl) (hn : x ≠ "__name__" := by decide) (hdb : (x == ("__debug__" : Str)) = false := by decide)
    (he : starEach (e :: es) X.env = (false, eval e X.env) :: starEach es X.env := by rfl) (hpl : (backTo pos (starEach es X.env)).any (·.1) = false := by rfl) : PE X (.Call (.Name x p) (e :: es) [] pos) (lift H0 (wCall w tu)) :=
  PE.imp (pe_callB hc hg hm hv ha hn hdb he hpl) (call_lift hr)
theorem q_callT (hc : CallR X (.type T) r) (hr : RefC r w) (hm : X.mg x = none) (ha : PA X (e :: es) (liftU H0 tu)) (hv : bootBuiltins x = some (.type T) := by decide +kernel) (hg : Gl X x := by rfl) (hn : x ≠ "__name__" := by decide) (hdb : (x == ("__debug__" : Str)) = false := by decide)
    (he : starEach (e :: es) X.env = (false, eval e X.env) :: starEach es X.env := by rfl) (hpl : (backTo pos (starEach es X.env)).any (·.1) = false := by rfl) : PE X (.Call (.Name x p) (e :: es) [] pos) (lift H0 (wCall w tu)) :=
  PE.imp (pe_callTy hc hg hm hv ha hn hdb he hpl) (call_lift hr)
end
/-! #### len -/
def wLen : List U → WE := fun us ρ A k => ∃ u, us = [u] ∧ ((∃ xs, seqOf ρ A u = some xs ∧ k (.d (.int xs.length)) ρ A) ∨ (∃ kvs, dctOf ρ A u = some kvs ∧ k (.d (.int kvs.length)) ρ A) ∨ ∃ z, u = .d (.str z) ∧ z.length ≤ sizeLine ∧ k (.d (.int z.length)) ρ A)
theorem RT.length {κ : Type} {g : κ → D} {H : Hp} {kvs : List (D × D)} {ks : List (κ × V)} (r : RT H g kvs ks) : kvs.length = ks.length := Paired.length r
section
variable {X : Cx}
def rLenA (K : PySem.W.Frag) : List V → Hp → VK → Prop := fun xs H Q => (∃ p ys, xs = [.ref p] ∧ (SqL K H p ys ∨ SqT K H p ys) ∧ Q (.int ys.length) H) ∨ (∃ a kvs, xs = [V.ref a] ∧ H a = some (.dK kvs) ∧ Q (.int kvs.length) H) ∨ rLenT xs H Q ∨ ∃ z, xs = [.str z] ∧ z.length ≤ sizeLine ∧ Q (.int z.length) H
theorem call_lenA : CallR X (.builtin "len") (rLenA X.K) := call_len_seq.or (call_lenD.or (call_len_dT.or call_len_str))
end
end Dn

namespace Dn
open PySem L2 PyProof.Rows PySem.W

/-! ### sorted, of whatever is collected -/
section
variable {prog : Program} {w : World} {A : Around} {E : Value → Shared → Prop} {s : Shared} {β : Type} {R : Value → β → Prop} {enc : β → PyData} {bs : List β}
theorem sorted_by {l : Addr} {Q : Value → Shared → Prop}
    (hcol : ∀ (C : List Value → Shared → Prop) (E : Value → Shared → Prop), (∀ (h' : Heap) (tk : Nat) (vs : List Value), (∀ b o, s.heap.get? b = some o → h'.get? b = some o) → EachIs R vs bs → EachIs (fun v b => ∃ as, Reads h' v (enc b) as) vs bs → C vs { s with heap := h', toks := tk }) → wpAny (model prog w) A.in1 (collect (.ref l)) C E s)
    (hal : AllAlike (bs.map enc)) (hk : Sortable (bs.map enc)) (hL : bs.length ≤ sizeLine) (hu : ∀ b, b ∈ bs → A.units + 2 + (enc b).depth < cLine)
    (h : ∀ (h1 h2 : Heap) (tk : Nat) (out : List Value), (∀ b o, s.heap.get? b = some o → h1.get? b = some o) → (∀ b o, h1.get? b = some o → h2.get? b = some o) → (∃ n, h2.get? h1.objs.size = some { cls := .type "list", data := .seq out.toArray n }) → EachIs R out (bs.mergeSort (dataLe false enc)) → Q (.ref h1.objs.size) { s with heap := h2, toks := tk }) :
    wpAny (model prog w) A (call (.builtin "sorted") [.ref l]) Q E s := by
  refine Calls.call_function_entry kind_sorted plain_sorted entry_sorted (args_sorted1 _) ?_
  unfold Builtin.«sorted»
  refine wpAny_bind (m := checkCount "sorted" 1 1 _) (wpAny_pure ?_)
  refine wpAny_bind (hcol _ _ fun h' tk vs hkeep e er => ?_)
  have hlen : vs.length = bs.length := e.length
  refine wpAny_bind (wpAny_newList ?_ (by rw [hlen]; exact hL))
  have hoL : (h'.push (seqObj "list" vs.toArray 0)).get? h'.objs.size = some (seqObj "list" vs.toArray 0) := Heap.get?_push_size _ rfl
  show wpAny _ _ _ _ _ { s with heap := h'.push (seqObj "list" vs.toArray 0), toks := tk }
  have er' : EachIs (fun v b => ∃ as, Reads (sortingHeap (h'.push (seqObj "list" vs.toArray 0)) h'.objs.size vs) v (enc b) as) vs bs :=
    er.mono fun _ _ ⟨as, r⟩ => ⟨as, PyProof.Rows.Reads.keeps (fun b o q => sortingHeap_old (Nat.ne_of_lt (Heap.lt_size q)) (Heap.get?_push_of_some _ q)) r⟩
  refine wpAny_bind (wpAny_holding (wpAny_call_entry slot_list_sort ⟨_, hoL, rfl⟩ entry_list_sort ?body (args_list_sort _)))
  case body =>
    refine list_sort_vals (s := { s with heap := h'.push (seqObj "list" vs.toArray 0), toks := tk }) (κ := dataKind (sortingHeap (h'.push (seqObj "list" vs.toArray 0)) h'.objs.size vs) (bs.map enc)) hoL
      (SortsAt.data (s := { s with heap := sortingHeap (h'.push (seqObj "list" vs.toArray 0)) h'.objs.size vs, toks := tk }) (each_map (R := fun v d => ∃ as, Reads (sortingHeap (h'.push (seqObj "list" vs.toArray 0)) h'.objs.size vs) v d as) enc er') hal hk (bound_map hu)) (by rw [hlen]; exact hL) ⟨_, rfl, ?_⟩
    obtain ⟨n, hn⟩ := sortedHeap_at (vs := vs) (out := (sortVals (dataKind (sortingHeap (h'.push (seqObj "list" vs.toArray 0)) h'.objs.size vs) (bs.map enc)) false vs vs).toArray) hoL
    refine wpAny_pure ⟨_, rfl, h h' _ _ _ hkeep (fun b o q' => ?_) ⟨n, hn⟩ (sortVals_data false e er' hal)⟩
    have hb : b < h'.objs.size := Heap.lt_size q'
    rw [sortedHeap_old (Nat.ne_of_lt hb) (by rw [size_push']; exact Nat.lt_succ_of_lt hb)]
    exact Heap.get?_push_of_some _ q'
end
/-! #### as a rule by values -/
/-- what is collected of a value: the data xs -/
inductive Col (K : PySem.W.Frag) (H : Hp) : V → List D → Prop
  | lst {a : Addr} {xs : List D} {vs : List V} : SqL K H a vs → RDs H xs vs → Col K H (.ref a) xs
  | dK {a : Addr} {ks : List (Key × V)} : H a = some (.dK ks) → Col K H (.ref a) (ks.map fun p => kD p.1)
  | dT {a : Addr} {ks : List (List Key × V)} : H a = some (.dT ks) → Col K H (.ref a) (ks.map fun p => gT p.1)
def sortD (xs : List D) : List D := xs.mergeSort (dataLe false D.pd)
/-- what may be sorted -/
def CanSort (xs : List D) : Prop := D.pures xs = true ∧ AllAlike (xs.map D.pd) ∧ Sortable (xs.map D.pd) ∧ xs.length ≤ sizeLine ∧ ∀ x ∈ xs, x.pd.depth ≤ 60
def rSortW (K : PySem.W.Frag) : List V → Hp → VK → Prop := fun us H Q => ∃ v xs, us = [v] ∧ Col K H v xs ∧ CanSort xs ∧ ∀ p vs, H p = none → RDs H (sortD xs) vs → Q (.ref p) (upd H p (.lst vs))
/-- a value as data, by its object -/
def RV (H : Hp) (v : Value) (x : D) : Prop := ∃ u, RelV u v ∧ RD H x u
theorem pures_mem : ∀ {xs : List D}, D.pures xs = true → ∀ x ∈ xs, x.pure = true
  | x :: xs, p, y, hy => by
    simp only [D.pures, Bool.and_eq_true] at p
    rcases List.mem_cons.mp hy with e | hy
    · rw [e]; exact p.1
    · exact pures_mem p.2 y hy
theorem rv_of {H : Hp} : ∀ {xs : List D} {vs : List V} {its : List Value}, RDs H xs vs → Vals vs its → EachIs (RV H) its xs
  | [], _, _, h, r => by cases h; cases r; exact .nil
  | _ :: _, _, _, h, r => by
    cases h with
    | cons h t => cases r with
      | cons r s => exact .cons ⟨_, r, h⟩ (rv_of t s)
theorem rv_back {H : Hp} : ∀ {xs : List D} {its : List Value}, EachIs (RV H) its xs → ∃ vs, RDs H xs vs ∧ Vals vs its
  | [], _, .nil => ⟨[], .nil, .nil⟩
  | _ :: _, _, .cons ⟨u, r, h⟩ t => by
    obtain ⟨vs, h1, h2⟩ := rv_back t
    exact ⟨u :: vs, .cons h h1, .cons r h2⟩
theorem rv_reads {X : Cx} {pins : List (Addr × Obj)} {σ : St} {H : Hp} {s : Shared} (I : Inv X pins σ H s) : ∀ {xs : List D} {its : List Value}, D.pures xs = true → EachIs (RV H) its xs → EachIs (fun v b => ∃ as, Reads s.heap v b.pd as) its xs
  | [], _, _, .nil => .nil
  | x :: _, _, p, .cons ⟨u, r, h⟩ t => by
    simp only [D.pures, Bool.and_eq_true] at p
    exact .cons (Dp.reads I x.pd u _ (dp_pure x u p.1 h) r) (rv_reads I p.2 t)
section
variable {X : Cx}
theorem col_ok {pins : List (Addr × Obj)} {σ : St} {H : Hp} {s : Shared} {a : Addr} {xs : List D} (hc : X.calm = true) (I : Inv X pins σ H s) (c : Col X.K H (.ref a) xs) (p : D.pures xs = true) {A : Around} (hA : A.handled = none) (C : List Value → Shared → Prop) (E : Value → Shared → Prop)
    (h : ∀ (h' : Heap) (tk : Nat) (vs : List Value), (∀ b o, s.heap.get? b = some o → h'.get? b = some o) → EachIs (RV H) vs xs → EachIs (fun v b => ∃ as, Reads h' v b.pd as) vs xs → C vs { s with heap := h', toks := tk }) :
    wpAny (model X.prog X.w) A (collect (.ref a)) C E s := by
  have fin : ∀ (h' : Heap) (tk : Nat) (vs : List Value), (∀ b o, s.heap.get? b = some o → h'.get? b = some o) → EachIs (RV H) vs xs → C vs { s with heap := h', toks := tk } := fun h' tk vs k e =>
    h h' tk vs k e (rv_reads (I.kept (h' := h') (t' := tk) k) p e)
  cases c with
  | @lst a xs vs hs r =>
    obtain ⟨its, rv, pl, hz⟩ := I.list hs
    have key := fin ((s.heap.push (seqObj "list" #[] 0)).update s.heap.objs.size (Obj.mapSeq (· ++ its.toArray))) s.toks its (fun b o q => by
      have hlt : b < s.heap.objs.size := Heap.lt_size q
      rw [Heap.get?_update_ne _ _ _ _ (Nat.ne_of_lt hlt)]
      exact Heap.get?_push_of_some _ q) (rv_of r rv)
    exact collect_list pl.isList key (by rw [← rv.length]; exact hz)
  | @dK a ks hd =>
    obtain ⟨z, lo, vs, rel, dd⟩ := dk_rd I.hok (.inl hd)
    obtain ⟨ep, hat⟩ := dd.dictAt
    refine PySem.W.kdu_collect (PySem.W.kdl_dict (knd := mixKind X.prog X.w) (kvs := vs) (ep := ep) lo) hA hat (by rw [← rel.length]; exact z) fun h' tk acc hk hacc => ?_
    have ek : (ks.map fun kv => kV kv.1) = vs.map fun p => kV p.1 := by
      have e := congrArg (List.map kV) rel.keys
      rw [List.map_map, List.map_map] at e
      exact e
    have hv : Vals (ks.map fun p => kV p.1) acc.toList := by
      rw [ek]
      exact keys_at (by rw [Array.length_toList]; exact hacc.1) fun j v e => hacc.2 j v (by rw [← Array.getElem?_toList]; exact e)
    have hr : ∀ l : List (Key × V), RDs H (l.map fun p => kD p.1) (l.map fun p => kV p.1) := fun l => by
      induction l with
      | nil => exact .nil
      | cons q l ih => exact .cons (kD_rel q.1) ih
    exact fin h' tk _ hk (rv_of (hr ks) hv)
  | @dT a ks hd =>
    obtain ⟨z, lo, ys, rel, o, es, ep, h1, h2, h3, h4, h5⟩ := (show ObjOk X.prog X.w H s.heap a (.dT ks) from I.hok a _ hd)
    have hsz : es.size = ks.length := by
      have e1 := congrArg List.length h4
      rw [Array.length_toList, List.length_map] at e1
      rw [e1]
      exact (Paired.length rel).symm
    refine PySem.W.kdu_collect (KdlSrc.rawDict (d := a) (es := es) (ep := ep) lo) hA ⟨o, h1, h2, h3⟩ (by rw [hsz]; exact z) fun h' tk acc hk hacc => ?_
    have hv : Vals (ys.map fun y => V.ref y.2.1) acc.toList := by
      have go : ∀ (l : List (List Key × Addr × Value)) (m : List Value), l.length = m.length → (∀ (j : Nat) (v : Value), m[j]? = some v → ∃ y, l[j]? = some y ∧ v = Value.ref y.2.1) → Vals (l.map fun y => V.ref y.2.1) m := by
        intro l
        induction l with
        | nil =>
          intro m e _
          cases m with
          | nil => exact .nil
          | cons => simp at e
        | cons y l ih =>
          intro m e hm
          cases m with
          | nil => simp at e
          | cons v m =>
            obtain ⟨y', e1, e2⟩ := hm 0 v rfl
            have e1 : y = y' := by simpa using e1
            subst e1
            exact .cons e2 (ih m (by simpa using e) fun j u hu => hm (j + 1) u (by simpa using hu))
      refine go ys _ ?_ fun j v e => ?_
      · rw [Array.length_toList (xs := acc), hacc.1, hsz]
        exact (Paired.length rel).symm
      · obtain ⟨hi, ev⟩ := hacc.2 j v (by rw [← Array.getElem?_toList]; exact e)
        have e4 : es.toList[j]? = some es[j] := by rw [Array.getElem?_toList]; exact Array.getElem?_eq_getElem hi
        rw [h4, List.getElem?_map] at e4
        cases q : ys[j]? with
        | none => rw [q] at e4; cases e4
        | some y =>
          rw [q] at e4
          refine ⟨y, rfl, ?_⟩
          rw [ev, ← Option.some.inj e4]
          rfl
    have hr : ∀ (l : List (List Key × V)) (m : List (List Key × Addr × Value)), KT H l m → RDs H (l.map fun p => gT p.1) (m.map fun y => V.ref y.2.1) := fun l m r => by
      induction r with
      | nil => exact .nil
      | cons h t ih => exact .cons (.tup (by rw [h.2.1]) (by exact kDs_rel _)) ih
    exact fin h' tk _ hk (rv_of (hr ks ys rel) hv)
theorem call_sortW (hc : X.calm = true) (hu : X.A.units + 64 < cLine) : CallR X (.builtin "sorted") (rSortW X.K) := by
  intro pins s σ H us ws Q I r h
  obtain ⟨v, xs, rfl, c, ⟨p, al, so, hz, dp⟩, q⟩ := h
  obtain ⟨u, rfl, ru⟩ := vals1 r
  obtain ⟨a, rfl⟩ : ∃ a, v = .ref a := by cases c <;> exact ⟨_, rfl⟩
  obtain rfl : u = Value.ref a := ru
  refine sorted_by (R := RV H) (enc := D.pd) (bs := xs) (fun C E hC => col_ok hc I c p (A := X.A.in1) (I.ok.hd hc) C E hC) al so hz (fun b hb => ?_) fun h1 h2 tk out k1 k2 ⟨n, hn⟩ e => ?_
  · have := dp b hb
    omega
  · obtain ⟨vs, rs, rv⟩ := rv_back e
    have I1 := I.kept (h' := h1) (t' := tk) k1
    have hp : H h1.objs.size = none := I1.hok.fresh (Nat.le_refl _)
    refine ⟨.ref h1.objs.size, upd H h1.objs.size (.lst vs), I1.laid (h' := h2) (t' := tk) k2 (Nat.le_refl _) ⟨?_, out, n, rv, hn⟩, rfl, q _ vs hp rs⟩
    rw [← rs.length]
    show (xs.mergeSort _).length ≤ sizeLine
    rw [List.length_mergeSort]
    exact hz
end
/-- the items that a sort, a loop finds in a result -/
def itemsOf (ρ : Rho) (A : Ah) (u : U) : Option (List D) := match obOf ρ A u with
  | some (.lst xs) => some xs
  | some (.dct kvs) => some (kvs.map (·.1))
  | _ => none
theorem RT.keysK {H : Hp} {kvs : List (D × D)} : ∀ {ks : List (Key × V)}, RT H kD kvs ks → kvs.map (·.1) = ks.map fun p => kD p.1 := fun {ks} r => by
  induction r with
  | nil => rfl
  | cons h t ih => rw [List.map_cons, List.map_cons, ih, h.1]
theorem RT.keysT {H : Hp} {kvs : List (D × D)} : ∀ {ks : List (List Key × V)}, RT H gT kvs ks → kvs.map (·.1) = ks.map fun p => gT p.1 := fun {ks} r => by
  induction r with
  | nil => rfl
  | cons h t ih => rw [List.map_cons, List.map_cons, ih, h.1]
theorem itemsOf_col {H0 H : Hp} {A : Ah} {σ : St} {ρ : Rho} {u : U} {v : V} {xs : List D} {K : PySem.W.Frag} (R : Rel H0 H A σ ρ) (r : RU H A σ u v) (e : itemsOf ρ A u = some xs) : Col K H v xs := by
  unfold itemsOf at e
  split at e
  · rename_i ys eo
    cases e
    obtain ⟨a, rfl, vs, h1, h2⟩ := obOf_rel R r eo
    exact .lst (.of h1) h2
  · rename_i kvs eo
    cases e
    obtain ⟨a, rfl, h⟩ := obOf_rel R r eo
    rcases h with ⟨ks, h1, h2⟩ | ⟨ks, h1, h2⟩
    · rw [h2.keysK]
      exact .dK h1
    · rw [h2.keysT]
      exact .dT h1
  · cases e
def wSorted : List U → WE := fun us ρ A k => ∃ u xs, us = [u] ∧ itemsOf ρ A u = some xs ∧ CanSort xs ∧ k (.lst (sortD xs)) ρ A
theorem ref_sorted {K : PySem.W.Frag} : RefC (rSortW K) wSorted := fun {H0 σ Hs As ρs H A ρ us vs k Q} R o a h hk => by
  obtain ⟨u, xs, rfl, e, cs, h⟩ := h
  obtain ⟨v, rfl, av⟩ := Arg.one a
  exact ⟨v, xs, rfl, itemsOf_col o.rel av.val e, cs, fun p vs hp r => (hk.behind o) _ _ _ h _ _ (Out.lst o.rel hp r)⟩
/-! ### more built-ins -/
theorem ref_len {K : PySem.W.Frag} : RefC (rLenA K) wLen := fun {H0 σ Hs As ρs H A ρ us vs k Q} R o a h hk => by
  obtain ⟨u, rfl, h⟩ := h
  obtain ⟨v, rfl, av⟩ := Arg.one a
  have hk' := hk.behind o
  rcases h with ⟨xs, e, h⟩ | ⟨kvs, e, h⟩ | ⟨z, rfl, hz, h⟩
  · obtain ⟨b, ws, rfl, r, l⟩ := seqOf_rel o.rel av.val e
    refine .inl ⟨b, ws, rfl, l.elim (fun l => .inl (.of l)) (fun l => .inr (.of l)), ?_⟩
    rw [← r.length]
    exact hk'.int o.rel h
  · obtain ⟨b, rfl, d⟩ := dctOf_rel o.rel av.val e
    rcases d with ⟨ks, e1, t⟩ | ⟨ks, e1, t⟩
    · refine .inr (.inl ⟨b, ks, rfl, e1, ?_⟩)
      rw [← RT.length t]
      exact hk'.int o.rel h
    · refine .inr (.inr (.inl ⟨b, ks, rfl, e1, ?_⟩))
      rw [← RT.length t]
      exact hk'.int o.rel h
  · exact .inr (.inr (.inr ⟨z, by rw [RU.str av.val], hz, hk'.int o.rel h⟩))
def wAbs : List U → WE := fun us ρ A k => ∃ i : Int, us = [.d (.int i)] ∧ k (.d (.int (if i < 0 then -i else i))) ρ A
theorem ref_abs : RefC (fun xs H Q => ∃ i, xs = [.int i] ∧ Q (.int (if i < 0 then -i else i)) H) wAbs := fun R o a h hk => by
  obtain ⟨i, rfl, h⟩ := h
  obtain ⟨v, rfl, av⟩ := Arg.one a
  exact ⟨i, by rw [RU.int av.val], (hk.behind o).int o.rel h⟩
def wStr : List U → WE := fun us ρ A k => ∃ i : Int, us = [.d (.int i)] ∧ i.natAbs.log2 < 1920 ∧ k (.d (.str (toString i))) ρ A
theorem ref_str : RefC (fun xs H Q => ∃ i, xs = [.int i] ∧ i.natAbs.log2 < 1920 ∧ Q (.str (toString i)) H) wStr := fun R o a h hk => by
  obtain ⟨i, rfl, z, h⟩ := h
  obtain ⟨v, rfl, av⟩ := Arg.one a
  exact ⟨i, by rw [RU.int av.val], z, (hk.behind o).str o.rel h⟩
def wIntS : List U → WE := fun us ρ A k => ∃ z n, us = [.d (.str z)] ∧ PySem.intText? z = some n ∧ z.length ≤ 640 ∧ k (.d (.int n)) ρ A
theorem ref_intS : RefC (fun xs H Q => ∃ a n, xs = [.str a] ∧ PySem.intText? a = some n ∧ a.length ≤ 640 ∧ Q (.int n) H) wIntS := fun R o a h hk => by
  obtain ⟨i, n, rfl, e, z, h⟩ := h
  obtain ⟨v, rfl, av⟩ := Arg.one a
  exact ⟨i, n, by rw [RU.str av.val], e, z, (hk.behind o).int o.rel h⟩
def wMax2 : List U → WE := fun us ρ A k => ∃ i j : Int, us = [.d (.int i), .d (.int j)] ∧ k (.d (.int (if j > i then j else i))) ρ A
theorem ref_max2 : RefC (fun xs H Q => ∃ i j, xs = [.int i, .int j] ∧ Q (.int (if j > i then j else i)) H) wMax2 := fun R o a h hk => by
  obtain ⟨i, j, rfl, h⟩ := h
  obtain ⟨v, w, rfl, av, aw⟩ := Arg.two a
  exact ⟨i, j, by rw [RU.int av.val, RU.int aw.val], (hk.behind o).int o.rel h⟩
def wMin2 : List U → WE := fun us ρ A k => ∃ i j : Int, us = [.d (.int i), .d (.int j)] ∧ k (.d (.int (if j < i then j else i))) ρ A
theorem ref_min2 : RefC (fun xs H Q => ∃ i j, xs = [.int i, .int j] ∧ Q (.int (if j < i then j else i)) H) wMin2 := fun R o a h hk => by
  obtain ⟨i, j, rfl, h⟩ := h
  obtain ⟨v, w, rfl, av, aw⟩ := Arg.two a
  exact ⟨i, j, by rw [RU.int av.val, RU.int aw.val], (hk.behind o).int o.rel h⟩
/-- tuple(x), list(x) of a list or tuple -/
def wTuple : List U → WE := fun us ρ A k => ∃ u xs, us = [u] ∧ seqOf ρ A u = some xs ∧ k (.d (.tup xs)) ρ A
theorem ref_tuple {K : PySem.W.Frag} : RefC (fun xs H Q => ∃ p ys, xs = [.ref p] ∧ ((SqL K H p ys ∧ ∀ l, H l = none → Q (.ref l) (upd H l (.tup ys))) ∨ (SqT K H p ys ∧ Q (.ref p) H))) wTuple := fun {H0 σ Hs As ρs H A ρ us vs k Q} R o a h hk => by
  obtain ⟨u, xs, rfl, e, h⟩ := h
  obtain ⟨v, rfl, av⟩ := Arg.one a
  obtain ⟨b, ws, rfl, r, l⟩ := seqOf_rel o.rel av.val e
  rcases l with l | l
  · exact ⟨b, ws, rfl, .inl ⟨.of l, fun p hp => (hk.behind o) _ _ _ h _ _ (Out.tup o.rel hp r)⟩⟩
  · exact ⟨b, ws, rfl, .inr ⟨.of l, (hk.behind o) _ _ _ h _ _ (Out.d o.rel (.tup l r))⟩⟩
def wList : List U → WE := fun us ρ A k => ∃ u xs, us = [u] ∧ seqOf ρ A u = some xs ∧ k (.lst xs) ρ A
theorem ref_list {K : PySem.W.Frag} : RefC (fun xs H Q => ∃ p ys, xs = [.ref p] ∧ (SqL K H p ys ∨ SqT K H p ys) ∧ ∀ l, H l = none → Q (.ref l) (upd H l (.lst ys))) wList := fun {H0 σ Hs As ρs H A ρ us vs k Q} R o a h hk => by
  obtain ⟨u, xs, rfl, e, h⟩ := h
  obtain ⟨v, rfl, av⟩ := Arg.one a
  obtain ⟨b, ws, rfl, r, l⟩ := seqOf_rel o.rel av.val e
  exact ⟨b, ws, rfl, l.elim (fun l => .inl (.of l)) (fun l => .inr (.of l)), fun p hp => (hk.behind o) _ _ _ h _ _ (Out.lst o.rel hp r)⟩
/-- all(x), any(x) of a list of bools; sum of ints -/
theorem RDs.bls {H : Hp} : ∀ {bs : List Bool} {vs : List V}, RDs H (bs.map D.bl) vs → vs = bs.map V.bl
  | [], _, h => by cases h; rfl
  | _ :: _, _, h => by
    cases h with
    | cons h r => cases h; rw [RDs.bls r]; rfl
theorem RDs.ints {H : Hp} : ∀ {bs : List Int} {vs : List V}, RDs H (bs.map D.int) vs → vs = bs.map V.int
  | [], _, h => by cases h; rfl
  | _ :: _, _, h => by
    cases h with
    | cons h r => cases h; rw [RDs.ints r]; rfl
theorem RDs.strs {H : Hp} : ∀ {bs : List Str} {vs : List V}, RDs H (bs.map D.str) vs → vs = bs.map V.str
  | [], _, h => by cases h; rfl
  | _ :: _, _, h => by
    cases h with
    | cons h r => cases h; rw [RDs.strs r]; rfl
def wAll : List U → WE := fun us ρ A k => ∃ (u : U) (bs : List Bool), us = [u] ∧ lstOf ρ A u = some (bs.map D.bl) ∧ k (.d (.bl (bs.all id))) ρ A
theorem ref_all {K : PySem.W.Frag} : RefC (rAll K) wAll := fun {H0 σ Hs As ρs H A ρ us vs k Q} R o a h hk => by
  obtain ⟨u, bs, rfl, e, h⟩ := h
  obtain ⟨v, rfl, av⟩ := Arg.one a
  obtain ⟨b, ws, rfl, hb, r⟩ := lstOf_rel o.rel av.val e
  exact ⟨b, bs, rfl, .of (by rw [hb, RDs.bls r]), (hk.behind o).bl o.rel h⟩
def wSum : List U → WE := fun us ρ A k => ∃ (u : U) (ns : List Int), us = [u] ∧ lstOf ρ A u = some (ns.map D.int) ∧ k (.d (.int ns.sum)) ρ A
theorem ref_sum {K : PySem.W.Frag} : RefC (rSum K) wSum := fun {H0 σ Hs As ρs H A ρ us vs k Q} R o a h hk => by
  obtain ⟨u, bs, rfl, e, h⟩ := h
  obtain ⟨v, rfl, av⟩ := Arg.one a
  obtain ⟨b, ws, rfl, hb, r⟩ := lstOf_rel o.rel av.val e
  exact ⟨b, bs, rfl, .of (by rw [hb, RDs.ints r]), (hk.behind o).int o.rel h⟩
end Dn

namespace Dn
open PySem L2 PyProof.Rows PySem.W

/-! ### an object is changed -/
def Ob.u : Ob → Option U
  | .lst xs => some (.lst xs)
  | .dct kvs => some (.dct kvs)
  | .ins _ _ => none
  | .fz _ _ _ => none
  | .scr _ => none
def setOb (u : U) (b : Ob) (ρ : Rho) (A : Ah) (k : Rho → Ah → Prop) : Prop := match u with
  | .d (.ref a) => ∃ c, A a = some c ∧ k ρ (up A a ⟨c.tg, b⟩)
  | .loc i => (∃ w, ρ[i]? = some (some w) ∧ w.own = true) ∧ ∃ w', b.u = some w' ∧ k (ρ.set i (some w')) A
  | _ => False
section
variable {H0 H : Hp} {A : Ah} {σ : St} {ρ : Rho} {u : U} {v : V} {b : Ob}
theorem RU.write {a : Addr} {o' : HO} {A' : Ah} {w : U} {z : V} (tk : Tk H (upd H a o')) (r : RU H A σ w z) (na : w.own = true → z ≠ .ref a) (hA : ∀ c, c ≠ a → A c = none → A' c = none) : RU (upd H a o') A' σ w z := by
  have go : ∀ b, w.ob = some b → w.own = true → RU (upd H a o') A' σ w z := fun b e o => by
    obtain ⟨c, ec, ro, n⟩ := r.owned e
    subst ec
    have hc : c ≠ a := fun q => na o (by rw [q])
    exact RU.ofOb e (by rw [upd_ne hc]; exact ro.keep tk) (hA c hc n)
  cases w with
  | d x => exact (show RD H x z from r).keep tk
  | lst xs => exact go _ rfl rfl
  | dct xs => exact go _ rfl rfl
  | loc i => exact r
/-- a tracked object -/
theorem Rel.write (R : Rel H0 H A σ ρ) {a : Addr} {c : Cell} {o' : HO} (ea : A a = some c) (t : Tag) (r : RO (upd H a o') (some o') b) : OutT H0 σ H A ρ (upd H a o') (up A a ⟨t, b⟩) ρ := by
  have nt : ∀ c vs, H c = some (.tup vs) → c ≠ a := fun c vs e z => by
    subst z
    exact (R.hp _ _ ea).notup e
  have tk : Tk H (upd H a o') := fun c vs e => by rw [upd_ne (nt c vs e)]; exact e
  have own_ne : ∀ c, Own σ ρ c → c ≠ a := fun c o z => by
    obtain ⟨_, _, n⟩ := R.ownAt o
    rw [z, ea] at n
    cases n
  refine ⟨⟨fun c d e => ?_, R.len, fun i w e => ?_, R.fresh, R.apart, fun c n => ?_⟩, ⟨fun c o e n _ => ?_, fun c n => ?_⟩, fun _ z => z⟩
  · by_cases h : c = a
    · rw [h, up_same] at e
      cases e
      rw [h, upd_same]
      exact r
    · rw [up_ne h] at e
      rw [upd_ne h]
      exact (R.hp c d e).keep tk
  · obtain ⟨z, ez, q, nl⟩ := R.st i w e
    exact ⟨z, ez, q.write tk (fun o qz => own_ne a ⟨i, w, e, o, by rw [ez, qz]⟩ rfl) fun c hc n => by rw [up_ne hc]; exact n, nl⟩
  · by_cases h : c = a
    · rw [h, upd_same]; nofun
    · rw [upd_ne h]; exact R.live c n
  · have h : c ≠ a := fun z => by rw [z, ea] at n; cases n
    exact ⟨by rw [upd_ne h]; exact e, by rw [up_ne h]; exact n⟩
  · by_cases h : c = a
    · rw [h, upd_same]; nofun
    · rw [upd_ne h]; exact n
/-- a local's own -/
theorem Rel.writeLoc (R : Rel H0 H A σ ρ) {a : Addr} {i : Nat} {w w' : U} {o' : HO} (ew : ρ[i]? = some (some w)) (ow : w.own = true) (es : σ[i]? = some (some (.ref a))) (eb : w'.ob = some b) (r : RO (upd H a o') (some o') b) :
    OutT H0 σ H A ρ (upd H a o') A (ρ.set i (some w')) := by
  have own1 : Own σ ρ a := ⟨i, w, ew, ow, es⟩
  obtain ⟨b0, rb0, na⟩ := R.ownAt own1
  have nt : ∀ c vs, H c = some (.tup vs) → c ≠ a := fun c vs e z => by
    subst z
    exact rb0.notup e
  have tk : Tk H (upd H a o') := fun c vs e => by rw [upd_ne (nt c vs e)]; exact e
  have hil : i < ρ.length := (List.getElem?_eq_some_iff.mp ew).1
  have ow' : w'.own = true := by cases w' <;> first | rfl | cases eb
  have sub : ∀ c, Own σ (ρ.set i (some w')) c → Own σ ρ c := fun c ⟨j, y, ej, oy, sj⟩ => by
    by_cases hj : i = j
    · subst hj
      exact ⟨i, w, ew, ow, sj⟩
    · rw [List.getElem?_set_ne hj] at ej
      exact ⟨j, y, ej, oy, sj⟩
  refine ⟨⟨fun c d e => ?_, by rw [List.length_set]; exact R.len, fun j y ej => ?_, fun c z => R.fresh c (sub c z), fun j l y z c ej oy el oz sj sl => ?_, fun c n => ?_⟩, ⟨fun c o e n no => ?_, fun c n => ?_⟩, sub⟩
  · have h : c ≠ a := fun z => by rw [z, na] at e; cases e
    rw [upd_ne h]
    exact (R.hp c d e).keep tk
  · by_cases hj : i = j
    · subst hj
      rw [List.getElem?_set_self hil] at ej
      cases ej
      exact ⟨_, es, RU.ofOb eb (by rw [upd_same]; exact r) na, fun j z => by rw [z] at ow'; cases ow'⟩
    · rw [List.getElem?_set_ne hj] at ej
      obtain ⟨z, ez, q, nl⟩ := R.st j y ej
      exact ⟨z, ez, q.write tk (fun o qz => hj (R.apart i j w y a ew ow ej o es (by rw [ez, qz]))) fun _ _ n => n, nl⟩
  · by_cases hj : i = j
    · by_cases hl : i = l
      · rw [← hj, hl]
      · subst hj
        rw [List.getElem?_set_ne hl] at el
        exact absurd (R.apart i l w z c ew ow el oz sj sl) hl
    · rw [List.getElem?_set_ne hj] at ej
      by_cases hl : i = l
      · subst hl
        exact absurd (R.apart j i y w c ej oy ew ow sj sl).symm hj
      · rw [List.getElem?_set_ne hl] at el
        exact R.apart j l y z c ej oy el oz sj sl
  · by_cases h : c = a
    · rw [h, upd_same]; nofun
    · rw [upd_ne h]; exact R.live c n
  · have h : c ≠ a := fun z => no (by rw [z]; exact own1)
    exact ⟨by rw [upd_ne h]; exact e, n⟩
  · by_cases h : c = a
    · rw [h, upd_same]; nofun
    · rw [upd_ne h]; exact n
theorem setOb_ok (R : Rel H0 H A σ ρ) (r : RU H A σ u v) {k : Rho → Ah → Prop} (h : setOb u b ρ A k) : ∃ a, v = .ref a ∧ ∀ o', RO (upd H a o') (some o') b → ∃ ρ' A', k ρ' A' ∧ OutT H0 σ H A ρ (upd H a o') A' ρ' := by
  unfold setOb at h
  split at h
  · rename_i a
    obtain ⟨c, ec, h⟩ := h
    cases (show RD H (.ref a) v from r)
    exact ⟨a, rfl, fun o' ro => ⟨_, _, h, R.write ec _ ro⟩⟩
  · rename_i i
    obtain ⟨⟨w, ew, ow⟩, w', ew', h⟩ := h
    have hv : σ[i]? = some (some v) := r
    obtain ⟨v', ev, rw', _⟩ := R.st i w ew
    rw [hv] at ev
    cases ev
    obtain ⟨b0, eb0⟩ := Own.u_ob ow
    obtain ⟨a, ea, _, _⟩ := rw'.owned eb0
    subst ea
    exact ⟨a, rfl, fun o' ro => ⟨_, _, h, R.writeLoc ew ow hv (by cases b <;> cases ew' <;> rfl) ro⟩⟩
  · cases h
end
/-! ### methods of built-ins -/
/-- the receiver, not a temporary -/
def escT (u : U) (ρ : Rho) (A : Ah) (k : U → Rho → Ah → Prop) : Prop := match u with
  | .lst xs => ∃ t : Tag, ∀ a, A a = none → k (.d (.ref a)) ρ (up A a ⟨t, .lst xs⟩)
  | .dct xs => ∃ t : Tag, ∀ a, A a = none → k (.d (.ref a)) ρ (up A a ⟨t, .dct xs⟩)
  | u => k u ρ A
theorem escT_ok {H0 H H1 : Hp} {A A1 : Ah} {σ : St} {ρ ρ1 : Rho} {u : U} {v : V} (R : Rel H0 H A σ ρ) (o : Out H0 σ H A ρ H1 A1 ρ1 u v) {k : U → Rho → Ah → Prop} (h : escT u ρ1 A1 k) : ∃ x ρ2 A2, k x ρ2 A2 ∧ x.own = false ∧ Out H0 σ H A ρ H1 A2 ρ2 x v := by
  cases u with
  | d x => exact ⟨.d x, ρ1, A1, h, rfl, o⟩
  | loc i => exact ⟨.loc i, ρ1, A1, h, rfl, o⟩
  | lst xs =>
    obtain ⟨t, h⟩ := h
    obtain ⟨x, ρ2, A2, h2, o2⟩ := esc_ok R o (k := fun x ρ A => k (.d x) ρ A) (show esc (.lst xs) ρ1 A1 _ from ⟨_, rfl, t, h⟩)
    exact ⟨.d x, ρ2, A2, h2, rfl, o2⟩
  | dct xs =>
    obtain ⟨t, h⟩ := h
    obtain ⟨x, ρ2, A2, h2, o2⟩ := esc_ok R o (k := fun x ρ A => k (.d x) ρ A) (show esc (.dct xs) ρ1 A1 _ from ⟨_, rfl, t, h⟩)
    exact ⟨.d x, ρ2, A2, h2, rfl, o2⟩
def tyU (T : String) (ρ : Rho) (A : Ah) (u : U) : Prop :=
  (T = "list" ∧ ∃ xs, lstOf ρ A u = some xs) ∨ (T = "dict" ∧ ∃ kvs, dctOf ρ A u = some kvs) ∨ (T = "str" ∧ ∃ z, u = .d (.str z))
theorem tyU_rel {H0 H : Hp} {A : Ah} {σ : St} {ρ : Rho} {u : U} {v : V} {T : String} {K : PySem.W.Frag} (R : Rel H0 H A σ ρ) (r : RU H A σ u v) (t : tyU T ρ A u) : tyV K T v H := by
  rcases t with ⟨rfl, xs, e⟩ | ⟨rfl, kvs, e⟩ | ⟨rfl, z, rfl⟩
  · obtain ⟨a, vs, rfl, h, _⟩ := lstOf_rel R r e
    exact .inl ⟨rfl, vs, .of h⟩
  · obtain ⟨a, rfl, d⟩ := dctOf_rel R r e
    rcases d with ⟨ks, e1, _⟩ | ⟨ks, e1, _⟩
    · exact .inr (.inr (.inl ⟨rfl, .inl ⟨ks, e1⟩⟩))
    · exact .inr (.inr (.inl ⟨rfl, .inr ⟨ks, e1⟩⟩))
  · rw [r.str]
    exact rfl
def RefM (r : V → List V → Hp → VK → Prop) (w : U → List U → WE) : Prop := ∀ {H0 : Hp} {σ : St} {Hs : Hp} {As : Ah} {ρs : Rho} {H : Hp} {A : Ah} {ρ : Rho} {x : U} {v : V} {us : List U} {vs : List V} {k : K1} {Q : VK},
  Rel H0 Hs As σ ρs → OutT H0 σ Hs As ρs H A ρ → RU H A σ x v → x.own = false → Argv σ Hs H A us vs → w x us ρ A k → Kq H0 σ Hs As ρs k Q → r v vs H Q
def wMt (T : String) (w : U → List U → WE) (to : WE) (tu : WU) : WE := fun ρ A k => to ρ A fun x ρ1 A1 => escT x ρ1 A1 fun y ρ2 A2 => tyU T ρ2 A2 y ∧ tu ρ2 A2 fun us ρ3 A3 => w y us ρ3 A3 k
section
variable {X : Cx} {H0 : Hp} {o e : Expr} {es : List Expr} {to : WE} {tu : WU} {name : Str} {apos cpos : Pos} {T id : String} {r : V → List V → Hp → VK → Prop} {w : U → List U → WE}
theorem mt_lift (hr : RefM r w) : ∀ σ H Q, lift H0 (wMt T w to tu) σ H Q → tBM X.K T r (lift H0 to) (liftU H0 tu) σ H Q := fun σ H Q ⟨ρ, A, k, R, h, hk⟩ => ⟨ρ, A, _, R, h, fun x ρ1 A1 h1 v H1 o1 => by
  obtain ⟨y, ρ2, A2, ⟨ty, h2⟩, oy, o2⟩ := escT_ok R o1 h1
  refine ⟨tyU_rel o2.rel o2.val ty, ρ2, A2, _, o2.rel, h2, fun us ρ3 A3 h3 vs H3 o3 => ?_⟩
  exact hr R (o2.toOutT.trans o3.toOutT) (o2.stay R o3.step) oy (Argv.older (fun a h => o2.step.back h) o3.vals) h3 hk⟩
theorem q_mt (pa : PlainAttrs T) (slot : Slot T name id) (hty : typeOf (.builtin id) = pure (.type "method_descriptor")) (hm : MtR X id r) (hr : RefM r w) (ho : PE X o (lift H0 to)) (ha : PA X (e :: es) (liftU H0 tu))
    (hbase : attributeBase o name X.env (eval o X.env) = eval o X.env := by rfl)
    (hfew : ((backTo cpos (starEach (e :: es) X.env)).all (fun x => !x.1) && (backToKw cpos (keywordEach [] X.env)).all (fun x => x.1.isSome)
      && decide ((e :: es).length + ([] : List Keyword).length + (if ([] : List Keyword).isEmpty then 0 else 1) < 30)) = true := by rfl)
    (hline : (apos.endLine == cpos.line) = true := by rfl) (hs : starEach (e :: es) X.env = (false, eval e X.env) :: starEach es X.env := by rfl) (hplain : (backTo cpos (starEach es X.env)).any (·.1) = false := by rfl) :
    PE X (.Call (.Attribute o name apos) (e :: es) [] cpos) (lift H0 (wMt T w to tu)) := PE.imp (pe_bm pa slot hty hm ho ha hbase hfew hline hs hplain) (mt_lift hr)
theorem q_mt0 (pa : PlainAttrs T) (slot : Slot T name id) (hty : typeOf (.builtin id) = pure (.type "method_descriptor")) (hm : MtR X id r) (hr : RefM r w) (ho : PE X o (lift H0 to))
    (hbase : attributeBase o name X.env (eval o X.env) = eval o X.env := by rfl) (hline : (apos.endLine == cpos.line) = true := by rfl) :
    PE X (.Call (.Attribute o name apos) [] [] cpos) (lift H0 (wMt T w to uNil)) := by
  refine PE.imp (pe_bm0 pa slot hty hm ho hbase hline) fun σ H Q h => ?_
  obtain ⟨ρ, A, k, R, h, hk⟩ := h
  refine ⟨ρ, A, _, R, h, fun x ρ1 A1 h1 v H1 o1 => ?_⟩
  obtain ⟨y, ρ2, A2, ⟨ty, h2⟩, oy, o2⟩ := escT_ok R o1 h1
  exact ⟨tyU_rel o2.rel o2.val ty, hr R o2.toOutT o2.val oy .nil h2 hk⟩
end
theorem MtM.r {X : Cx} {id : String} {r : V → List V → Hp → VK → Prop} (h : MtM X id r) : MtR X id r := h
/-- x.append(y) -/
def mAppend : U → List U → WE := fun x us ρ A k => ∃ u, us = [u] ∧ esc u ρ A fun y ρ1 A1 => ∃ ys, lstOf ρ1 A1 x = some ys ∧ ys.length < sizeLine ∧ setOb x (.lst (ys ++ [y])) ρ1 A1 fun ρ2 A2 => k (.d .non) ρ2 A2
theorem Argv.esc1 {H0 : Hp} {σ : St} {Hs H : Hp} {As A : Ah} {ρs ρ : Rho} {u : U} {v : V} (R : Rel H0 Hs As σ ρs) (o : OutT H0 σ Hs As ρs H A ρ) (a : Arg σ Hs H A u v) {k : D → Rho → Ah → Prop} (h : esc u ρ A k) :
    ∃ x ρ2 A2, k x ρ2 A2 ∧ OutT H0 σ Hs As ρs H A2 ρ2 ∧ RD H x v := by
  obtain ⟨x, ρ2, A2, h2, o2⟩ := esc_ok R ⟨o, a.val, a.fr⟩ h
  exact ⟨x, ρ2, A2, h2, o2.toOutT, o2.val⟩
/-- one that nobody owns stays what it is while something is tracked -/
theorem RU.plain {H : Hp} {A A' : Ah} {σ : St} {x : U} {v : V} (r : RU H A σ x v) (n : x.own = false) : RU H A' σ x v := by
  cases x with
  | d y => exact r
  | loc i => exact r
  | lst xs => cases n
  | dct xs => cases n
theorem ref_append : RefM rAppend mAppend := fun {H0 σ Hs As ρs H A ρ x v us vs k Q} R o rx nx a h hk => by
  obtain ⟨u, rfl, h⟩ := h
  obtain ⟨w, rfl, aw⟩ := Arg.one a
  obtain ⟨y, ρ1, A1, ⟨ys, e, z, h⟩, o1, ry⟩ := Argv.esc1 R o aw h
  have rx1 : RU H A1 σ x v := rx.plain nx
  obtain ⟨b, ws, rfl, hb, r⟩ := lstOf_rel o1.rel rx1 e
  obtain ⟨b', eb, st⟩ := setOb_ok o1.rel rx1 h
  cases eb
  refine ⟨b, ws, w, rfl, rfl, hb, by rw [← r.length]; exact z, ?_⟩
  have tk : Tk H (upd H b (.lst (ws ++ [w]))) := fun c vs e => by rw [upd_ne (ne_of e hb (by intro q; cases q))]; exact e
  obtain ⟨ρ2, A2, h2, o2⟩ := st (.lst (ws ++ [w])) ⟨_, rfl, (r.app (.one ry)).keep tk⟩
  exact hk _ _ _ h2 _ _ ((o1.trans o2).then (Out.d o2.rel .non))
/-- x.extend(ys), ys a list or another list -/
def mExtend : U → List U → WE := fun x us ρ A k => ∃ u ys zs, us = [u] ∧ lstOf ρ A x = some ys ∧ lstOf ρ A u = some zs ∧ ys.length + zs.length ≤ sizeLine ∧ setOb x (.lst (ys ++ zs)) ρ A fun ρ2 A2 => k (.d .non) ρ2 A2
theorem ref_extend : RefM rExtend mExtend := fun {H0 σ Hs As ρs H A ρ x v us vs k Q} R o rx nx a h hk => by
  obtain ⟨u, ys, zs, rfl, e, e', z, h⟩ := h
  obtain ⟨w, rfl, aw⟩ := Arg.one a
  obtain ⟨b, ws, rfl, hb, r⟩ := lstOf_rel o.rel rx e
  obtain ⟨c, qs, rfl, hc, r'⟩ := lstOf_rel o.rel aw.val e'
  obtain ⟨b', eb, st⟩ := setOb_ok o.rel rx h
  cases eb
  refine ⟨b, c, ws, qs, rfl, rfl, hb, hc, by rw [← r.length, ← r'.length]; exact z, ?_⟩
  have tk : Tk H (upd H b (.lst (ws ++ qs))) := fun c vs e => by rw [upd_ne (ne_of e hb (by intro q; cases q))]; exact e
  obtain ⟨ρ2, A2, h2, o2⟩ := st (.lst (ws ++ qs)) ⟨_, rfl, (r.app r').keep tk⟩
  exact hk _ _ _ h2 _ _ ((o.trans o2).then (Out.d o2.rel .non))
/-- x.pop(i), x.pop() -/
def mPopAt : U → List U → WE := fun x us ρ A k => ∃ i ys j y, us = [.d (.int i)] ∧ lstOf ρ A x = some ys ∧ -(2 ^ 63) ≤ i ∧ i < 2 ^ 63 ∧ ixN ys.length i = some j ∧ ys[j]? = some y ∧ setOb x (.lst (ys.eraseIdx j)) ρ A fun ρ2 A2 => k (.d y) ρ2 A2
theorem ref_popAt : RefM rPopAt mPopAt := fun {H0 σ Hs As ρs H A ρ x v us vs k Q} R o rx nx a h hk => by
  obtain ⟨i, ys, j, y, rfl, e, z1, z2, ej, ey, h⟩ := h
  obtain ⟨w, rfl, aw⟩ := Arg.one a
  obtain ⟨b, ws, rfl, hb, r⟩ := lstOf_rel o.rel rx e
  obtain ⟨b', eb, st⟩ := setOb_ok o.rel rx h
  cases eb
  obtain ⟨q, eq, rq⟩ := r.get ey
  refine ⟨b, ws, i, j, q, rfl, by rw [RU.int aw.val], hb, z1, z2, by rw [← r.length]; exact (ixN_seq ej).1, eq, ?_⟩
  have tk : Tk H (upd H b (.lst (ws.eraseIdx j))) := fun c vs e => by rw [upd_ne (ne_of e hb (by intro q; cases q))]; exact e
  obtain ⟨ρ2, A2, h2, o2⟩ := st (.lst (ws.eraseIdx j)) ⟨_, rfl, (r.erase j).keep tk⟩
  exact hk _ _ _ h2 _ _ ((o.trans o2).then (Out.d o2.rel (rq.keep tk)))
/-- x.clear() of a list -/
def mClear : U → List U → WE := fun x us ρ A k => us = [] ∧ (∃ ys, lstOf ρ A x = some ys) ∧ setOb x (.lst []) ρ A fun ρ2 A2 => k (.d .non) ρ2 A2
theorem ref_clear : RefM rClear mClear := fun {H0 σ Hs As ρs H A ρ x v us vs k Q} R o rx nx a h hk => by
  obtain ⟨rfl, ⟨ys, e⟩, h⟩ := h
  cases a
  obtain ⟨b, ws, rfl, hb, r⟩ := lstOf_rel o.rel rx e
  obtain ⟨b', eb, st⟩ := setOb_ok o.rel rx h
  cases eb
  refine ⟨b, ws, rfl, rfl, hb, ?_⟩
  obtain ⟨ρ2, A2, h2, o2⟩ := st (.lst []) ⟨_, rfl, .nil⟩
  exact hk _ _ _ h2 _ _ ((o.trans o2).then (Out.d o2.rel .non))
/-! ### dicts -/
def dput (kvs : List (D × D)) (k v : D) : List (D × D) := if (kvs.any fun p => decide (p.1 = k)) = true then kvs.map (fun p => if p.1 = k then (p.1, v) else p) else kvs ++ [(k, v)]
def ddel (kvs : List (D × D)) (k : D) : List (D × D) := kvs.filter fun p => decide (p.1 ≠ k)
section
variable {κ : Type} [DecidableEq κ] {g : κ → D} {H : Hp} {kvs : List (D × D)} {ks : List (κ × V)} {k : κ} {y : D} {v : V}
theorem RT.any (inj : ∀ a b, g a = g b → a = b) (r : RT H g kvs ks) : (kvs.any fun p => decide (p.1 = g k)) = ks.any fun p => decide (p.1 = k) := by
  induction r with
  | nil => rfl
  | @cons p q ps qs h t ih =>
    rw [List.any_cons, List.any_cons, ih, h.1]
    congr 1
    exact decide_eq_decide.mpr ⟨inj _ _, fun e => by rw [e]⟩
theorem RT.put (inj : ∀ a b, g a = g b → a = b) (r : RT H g kvs ks) (ry : RD H y v) : RT H g (dput kvs (g k) y) (putK ks k v) := by
  unfold dput putK
  rw [RT.any inj r]
  split
  · rename_i h
    clear h
    induction r with
    | nil => exact .nil
    | @cons p q ps qs h t ih =>
      rw [List.map_cons, List.map_cons]
      refine .cons ?_ ih
      by_cases e : q.1 = k
      · rw [if_pos e, if_pos (by rw [h.1, e])]
        exact ⟨h.1, ry⟩
      · rw [if_neg e, if_neg fun z => e (inj _ _ (by rw [← h.1]; exact z))]
        exact h
  · exact Paired.snoc r ⟨rfl, ry⟩
theorem RT.del (inj : ∀ a b, g a = g b → a = b) (r : RT H g kvs ks) : RT H g (ddel kvs (g k)) (dropK ks k) := by
  unfold ddel dropK
  induction r with
  | nil => exact .nil
  | @cons p q ps qs h t ih =>
    rw [List.filter_cons, List.filter_cons]
    by_cases e : q.1 = k
    · rw [if_neg (by simp [e, h.1]), if_neg (by simp [e])]
      exact ih
    · have e' : ¬ p.1 = g k := fun z => e (inj _ _ (by rw [← h.1]; exact z))
      rw [if_pos (by simp [e']), if_pos (by simp [e])]
      exact .cons h ih
end
def DPutE (H : Hp) (a : Addr) (y v : V) (ob : HO) : Prop := DPut H a y v (upd H a ob) ∨ (H a = some (.dK []) ∧ ∃ (b : Addr) (ks : List Key), y = .ref b ∧ H b = some (.tup (ks.map kV)) ∧ ob = .dT [(ks, v)]) ∨ (H a = some (.dT []) ∧ ∃ k : Key, y = kV k ∧ ob = .dK [(k, v)])
theorem dputE {X : Cx} {pins : List (Addr × Obj)} {σ : St} {H : Hp} {s : Shared} {a : Addr} {y v : V} {ob : HO} (I : Inv X pins σ H s) (g : DPutE H a y v ob) : ∃ H1, Inv X pins σ H1 s ∧ DPut H1 a y v (upd H a ob) := by
  rcases g with g | ⟨e, b, ks, ey, hb, eo⟩ | ⟨e, k, ey, eo⟩
  · exact ⟨H, I, g⟩
  · refine ⟨_, conv_K I e, ?_⟩
    have nb : b ≠ a := ne_of hb e (by intro z; cases z)
    rw [ey, eo]
    have := DPut.t (H := upd H a (.dT [])) (a := a) (b := b) (kvs := []) (k := ks) (v := v) upd_same (by rw [upd_ne nb]; exact hb) (by show 0 < sizeLine; decide)
    rw [upd_upd] at this
    exact this
  · refine ⟨_, conv_T I e, ?_⟩
    rw [ey, eo]
    have := DPut.k (H := upd H a (.dK [])) (a := a) (kvs := []) (k := k) (v := v) upd_same (by show 0 < sizeLine; decide)
    rw [upd_upd] at this
    exact this
theorem tk_dct {H : Hp} {a : Addr} {kvs : List (D × D)} (d : RDct kvs H (H a)) (ob : HO) : Tk H (upd H a ob) := fun c vs e => by
  rw [upd_ne fun z => ?_]
  · exact e
  · subst z
    rcases d with ⟨ks, e1, _⟩ | ⟨ks, e1, _⟩ <;> (rw [e] at e1; cases e1)
theorem dct_put {H : Hp} {a : Addr} {kvs : List (D × D)} {x w : D} {y v : V} (d : RDct kvs H (H a)) (r : RD H x y) (ki : KeyIn x kvs) (rv : RD H w v) (z : kvs.length < sizeLine) :
    ∃ ob, DPutE H a y v ob ∧ RO (upd H a ob) (some ob) (.dct (dput kvs x w)) := by
  obtain ⟨ko, so⟩ := ki
  rcases key_scal ko with ⟨k, ek⟩ | ⟨ks, ek⟩
  · subst ek
    have ev := r.keyK
    subst ev
    rcases id d with ⟨ts, et, t⟩ | ⟨ts, et, t⟩
    · exact ⟨_, .inl (DPut.k et (by rw [← RT.length t]; exact z)), .inl ⟨_, rfl, ((t.keep (tk_dct d _)).put (fun _ _ => kD_inj) (rv.keep (tk_dct d _)))⟩⟩
    · cases t with
      | nil => exact ⟨_, .inr (.inr ⟨et, k, rfl, rfl⟩), .inl ⟨[(k, v)], rfl, .cons ⟨rfl, rv.keep (tk_dct d _)⟩ .nil⟩⟩
      | @cons p q ps qs h t =>
        exfalso
        have so' : ∀ z ∈ (p :: ps), (∃ i, z.1 = .int i) ∨ ∃ y, z.1 = .str y := by
          cases k with
          | inl i => exact so
          | inr i => exact so
        have e : p.1 = gT q.1 := h.1
        rcases so' _ List.mem_cons_self with ⟨i, ei⟩ | ⟨i, ei⟩ <;> (rw [ei] at e; cases e)
  · subst ek
    obtain ⟨b, eb, hb⟩ := r.keyT
    subst eb
    rcases id d with ⟨ts, et, t⟩ | ⟨ts, et, t⟩
    · cases t with
      | nil => exact ⟨_, .inr (.inl ⟨et, b, ks, rfl, hb, rfl⟩), .inr ⟨[(ks, v)], rfl, .cons ⟨rfl, rv.keep (tk_dct d _)⟩ .nil⟩⟩
      | @cons p q ps qs h t =>
        exfalso
        have so' : ∀ z ∈ (p :: ps), ∃ xs, z.1 = .tup xs := so
        obtain ⟨xs, ex⟩ := so' _ List.mem_cons_self
        have e : p.1 = kD q.1 := h.1
        rw [ex] at e
        rcases hq : q.1 with i | i <;> (rw [hq] at e; cases e)
    · exact ⟨_, .inl (DPut.t et hb (by rw [← RT.length t]; exact z)), .inr ⟨_, rfl, ((t.keep (tk_dct d _)).put (fun _ _ => gT_inj) (rv.keep (tk_dct d _)))⟩⟩
/-- d.get(k, x) -/
def rDGet2 : V → List V → Hp → VK → Prop := fun x xs H Q => ∃ a y d o, x = .ref a ∧ xs = [y, d] ∧ DGetE H a y o ∧ Q (o.getD d) H
theorem mt_dget2 {X : Cx} (hu : X.A.units + 1 < cLine) : MtR X "dict.get" rDGet2 := by
  intro pins s σ H x xs v us Q I rx rxs h
  obtain ⟨a, y, d, o, rfl, rfl, g, q⟩ := h
  obtain rfl : v = Value.ref a := rx
  obtain ⟨u1, u2, rfl, r1, r2⟩ := vals2 rxs
  obtain ⟨H', I', g', back⟩ := dgetE I g
  exact d_get2 hu I' g' r1 r2 fun w' s' I3 rw' => ⟨_, H, back _ I3, rw', q⟩
def mGet2 : U → List U → WE := fun x us ρ A k => ∃ z y kvs, us = [.d z, y] ∧ rdctOf ρ A x = some kvs ∧ KeyIn z kvs ∧ k (match dget kvs z with | some w => .d w | none => y) ρ A
theorem ref_get2 : RefM rDGet2 mGet2 := fun {H0 σ Hs As ρs H A ρ x v us vs k Q} R o rx nx a h hk => by
  obtain ⟨z, y, kvs, rfl, e, ki, h⟩ := h
  obtain ⟨w1, w2, rfl, a1, a2⟩ := Arg.two a
  obtain ⟨b, op, rfl, g, d⟩ := dct_at o.rel rx e (show RD H z w1 from a1.val) ki
  refine ⟨b, w1, w2, op, rfl, rfl, d, ?_⟩
  cases q : dget kvs z with
  | none =>
    rw [q] at g h
    cases g
    exact hk _ _ _ h _ _ ⟨o, a2.val, a2.fr⟩
  | some w =>
    rw [q] at g h
    obtain ⟨u, eu, ru⟩ := g
    subst eu
    exact hk _ _ _ h _ _ (o.then (Out.d o.rel ru))
/-- d.pop(k), d.pop(k, x) -/
def PopE (H : Hp) (a : Addr) (y : V) (o : Option V) (ob : HO) : Prop :=
  (∃ ks k, H a = some (.dK ks) ∧ y = kV k ∧ o = valV ks k ∧ ob = .dK (dropK ks k)) ∨ (∃ ks k b, H a = some (.dT ks) ∧ y = .ref b ∧ H b = some (.tup (k.map kV)) ∧ o = valV ks k ∧ ob = .dT (dropK ks k)) ∨
  (H a = some (.dK []) ∧ (∃ (b : Addr) (ks : List Key), y = .ref b ∧ H b = some (.tup (ks.map kV))) ∧ o = none) ∨ (H a = some (.dT []) ∧ (∃ k : Key, y = kV k) ∧ o = none)
def rDPop : V → List V → Hp → VK → Prop := fun x xs H Q => ∃ a y more o ob, x = .ref a ∧ xs = y :: more ∧ (more = [] ∨ ∃ d, more = [d]) ∧ PopE H a y o ob ∧
  (∀ v, o = some v → Q v (upd H a ob)) ∧ (o = none → ∃ d, more = [d] ∧ Q d H)
section
variable {X : Cx} {pins : List (Addr × Obj)} {σ : St} {H : Hp} {s : Shared} {a b : Addr} {A : Around} {E : Value → Shared → Prop}
theorem pop_T (hu : A.units + 1 < cLine) {ks : List (List Key × V)} {k : List Key} {ws : List Value} {Q : Value → Shared → Prop} (I : Inv X pins σ H s) (ha : H a = some (.dT ks)) (hb : H b = some (.tup (k.map kV))) (hws : ws = [] ∨ ∃ z, ws = [z])
    (h1 : ∀ v, valV ks k = some v → ∀ w' s', Inv X pins σ (upd H a (.dT (dropK ks k))) s' → RelV v w' → Q w' s') (h2 : valV ks k = none → ∃ z, ws = [z] ∧ ∀ s', Inv X pins σ H s' → Q z s') :
    wpAny (model X.prog X.w) A (call (.builtin "dict.pop") (.ref a :: .ref b :: ws)) Q E s := by
  obtain ⟨z, hd, xs', rel, dd⟩ := dt_of I.hok ha
  have hz : xs'.length ≤ sizeLine := by rw [← Paired.length rel]; exact z
  cases l : valV ks k with
  | some v =>
    obtain ⟨w', hw, rw'⟩ := RelO.some_of (v := v) (o := (atKey xs' k).map (·.2)) (by rw [← l]; exact rel.val k)
    obtain ⟨p, hp, hp2⟩ := Option.map_eq_some_iff.mp hw
    have hargs : argsOk "dict.pop" ⟨.ref a :: .ref b :: ws, []⟩ := by
      rcases hws with e | ⟨z, e⟩
      · subst e; exact PySem.F.args_dict_pop_2 _ _
      · subst e; exact PySem.F.args_dict_pop_3 _ _ _
    refine call_pop_heap hws hargs (tupleKind_room_in1 hu) (key_of I.hok hb) hd dd hp (fun h' dd' hs => ?_) hz
    obtain ⟨o, es, ep, hq, g2, g3, g4, _, g5⟩ := dd'
    rw [hp2]
    refine h1 v l w' _ (d_write I (by rw [ha]; exact True.intro) hs ⟨o, hq⟩ (show ObjOk X.prog X.w (upd H a (.dT (dropK ks k))) h' a (.dT (dropK ks k)) from
      ⟨Nat.le_trans (dropK_le ks k) z, hd, _, (DX.KT_drop k rel).keeps (fun c ys ec => (by rw [upd_ne (ne_of ec ha (fun z => nomatch z))]; exact ec)), o, es, ep, hq, g2, g3, g4, g5⟩)) rw'
  | none =>
    obtain ⟨u2, rfl, q⟩ := h2 l
    refine call_meetsIn PySem.F.slot_dict_pop dd.typeIs PySem.F.entry_dict_pop (PySem.F.args_dict_pop_3 _ _ _) (DT.meetsPop (knd := tupleKind (mixKind X.prog X.w)) (k := k) u2 hd)
      ⟨xs', tupleKind_room_in1 hu, key_of I.hok hb, dd, hz, fun hn tk => q _ (I.tok tk), fun p hp h' tk dd' hs => ?_⟩
    exfalso
    have r := rel.val k
    rw [hp, l] at r
    exact r
end
theorem mt_dpop {X : Cx} (hu : X.A.units + 1 < cLine) : MtR X "dict.pop" rDPop := by
  intro pins s σ H x xs v us Q I rx rxs h
  obtain ⟨a, y, more, o, ob, rfl, rfl, hmore, hp, q1, q2⟩ := h
  obtain rfl : v = Value.ref a := rx
  cases rxs with
  | @cons _ u _ ws r1 r2 =>
    have hws : ws = [] ∨ ∃ z, ws = [z] := by
      rcases hmore with e | ⟨d, e⟩
      · subst e; cases r2; exact .inl rfl
      · subst e
        cases r2 with
        | cons r2 r3 => cases r3; exact .inr ⟨_, rfl⟩
    have dflt : o = none → ∃ z d, ws = [z] ∧ RelV d z ∧ Q d H := fun e => by
      obtain ⟨d, e2, q⟩ := q2 e
      subst e2
      cases r2 with
      | cons r2 r3 => cases r3; exact ⟨_, d, rfl, r2, q⟩
    rcases hp with ⟨ks, k, ha, rfl, eo, rfl⟩ | ⟨ks, k, b, ha, rfl, hb, eo, rfl⟩ | ⟨ha, ⟨b, k, rfl, hb⟩, eo⟩ | ⟨ha, ⟨k, rfl⟩, eo⟩
    · cases l : valV ks k with
      | some w => exact d_pop I ha r1 l hws fun w' s' I3 rw' => ⟨w, _, I3, rw', q1 w (by rw [eo, l])⟩
      | none =>
        obtain ⟨z, d, rfl, rz, q⟩ := dflt (by rw [eo, l])
        exact d_popD I ha r1 l fun s' I3 => ⟨d, H, I3, rz, q⟩
    · obtain rfl : u = Value.ref b := r1
      refine pop_T hu I ha hb hws (fun w l w' s' I3 rw' => ⟨w, _, I3, rw', q1 w (by rw [eo, l])⟩) fun l => ?_
      obtain ⟨z, d, e, rz, q⟩ := dflt (by rw [eo, l])
      exact ⟨z, e, fun s' I3 => ⟨d, H, I3, rz, q⟩⟩
    · obtain rfl : u = Value.ref b := r1
      have nb : b ≠ a := ne_of hb ha (by intro z; cases z)
      refine pop_T hu (conv_K I ha) (ks := []) (k := k) upd_same (by rw [upd_ne nb]; exact hb) hws (fun w l => by cases l) fun l => ?_
      obtain ⟨z, d, e, rz, q⟩ := dflt eo
      exact ⟨z, e, fun s' I3 => ⟨d, H, (by have := conv_T I3 upd_same; rwa [upd_back ha] at this), rz, q⟩⟩
    · obtain ⟨z, d, rfl, rz, q⟩ := dflt eo
      exact d_popD (kvs := []) (conv_T I ha) upd_same r1 rfl fun s' I3 => ⟨d, H, (by have := conv_K I3 upd_same; rwa [upd_back ha] at this), rz, q⟩
theorem dct_pop {H : Hp} {a : Addr} {kvs : List (D × D)} {x : D} {y : V} (d : RDct kvs H (H a)) (r : RD H x y) (ki : KeyIn x kvs) :
    ∃ o ob, RGet H (dget kvs x) o ∧ PopE H a y o ob ∧ (o ≠ none → RO (upd H a ob) (some ob) (.dct (ddel kvs x))) := by
  obtain ⟨ko, so⟩ := ki
  rcases key_scal ko with ⟨k, ek⟩ | ⟨ks, ek⟩
  · subst ek
    have ev := r.keyK
    subst ev
    rcases id d with ⟨ts, et, t⟩ | ⟨ts, et, t⟩
    · exact ⟨valV ts k, _, t.rget fun _ _ => kD_inj, .inl ⟨ts, k, et, rfl, rfl, rfl⟩, fun _ => .inl ⟨_, rfl, (t.keep (tk_dct d _)).del fun _ _ => kD_inj⟩⟩
    · cases t with
      | nil => exact ⟨none, .dK [], rfl, .inr (.inr (.inr ⟨et, ⟨k, rfl⟩, rfl⟩)), fun h => absurd rfl h⟩
      | @cons p q ps qs h t =>
        exfalso
        have so' : ∀ z ∈ (p :: ps), (∃ i, z.1 = .int i) ∨ ∃ y, z.1 = .str y := by
          cases k with
          | inl i => exact so
          | inr i => exact so
        have e : p.1 = gT q.1 := h.1
        rcases so' _ List.mem_cons_self with ⟨i, ei⟩ | ⟨i, ei⟩ <;> (rw [ei] at e; cases e)
  · subst ek
    obtain ⟨b, eb, hb⟩ := r.keyT
    subst eb
    rcases id d with ⟨ts, et, t⟩ | ⟨ts, et, t⟩
    · cases t with
      | nil => exact ⟨none, .dK [], rfl, .inr (.inr (.inl ⟨et, ⟨b, ks, rfl, hb⟩, rfl⟩)), fun h => absurd rfl h⟩
      | @cons p q ps qs h t =>
        exfalso
        have so' : ∀ z ∈ (p :: ps), ∃ xs, z.1 = .tup xs := so
        obtain ⟨xs, ex⟩ := so' _ List.mem_cons_self
        have e : p.1 = kD q.1 := h.1
        rw [ex] at e
        rcases hq : q.1 with i | i <;> (rw [hq] at e; cases e)
    · exact ⟨valV ts ks, _, t.rget fun _ _ => gT_inj, .inr (.inl ⟨ts, ks, b, et, rfl, hb, rfl, rfl⟩), fun _ => .inr ⟨_, rfl, (t.keep (tk_dct d _)).del fun _ _ => gT_inj⟩⟩
def mDPop : U → List U → WE := fun x us ρ A k => ∃ z more kvs, us = .d z :: more ∧ (more = [] ∨ ∃ y, more = [y]) ∧ dctOf ρ A x = some kvs ∧ KeyIn z kvs ∧
  (match dget kvs z with
  | some w => setOb x (.dct (ddel kvs z)) ρ A fun ρ2 A2 => k (.d w) ρ2 A2
  | none => ∃ y, more = [y] ∧ k y ρ A)
theorem ref_dpop : RefM rDPop mDPop := fun {H0 σ Hs As ρs H A ρ x v us vs k Q} R o rx nx a h hk => by
  obtain ⟨z, more, kvs, rfl, hmore, e, ki, h⟩ := h
  cases a with
  | @cons _ w1 _ ws a1 a2 =>
    obtain ⟨b, rfl, d⟩ := dctOf_rel o.rel rx e
    obtain ⟨op, ob, g, pe, ro⟩ := dct_pop d (show RD H z w1 from a1.val) ki
    have hws : ws = [] ∨ ∃ z, ws = [z] := by
      rcases hmore with e | ⟨y, e⟩
      · subst e; cases a2; exact .inl rfl
      · subst e
        cases a2 with
        | cons h t => cases t; exact .inr ⟨_, rfl⟩
    refine ⟨b, w1, ws, op, ob, rfl, rfl, hws, pe, fun w ew => ?_, fun en => ?_⟩
    · cases q : dget kvs z with
      | none => rw [q] at g; cases (show op = none from g); cases ew
      | some w' =>
        rw [q] at g h
        obtain ⟨u, eu, ru⟩ := g
        rw [ew] at eu
        cases eu
        obtain ⟨b', eb, st⟩ := setOb_ok o.rel rx h
        cases eb
        obtain ⟨ρ2, A2, h2, o2⟩ := st ob (ro (by rw [ew]; nofun))
        exact hk _ _ _ h2 _ _ ((o.trans o2).then (Out.d o2.rel (ru.keep (tk_dct d ob))))
    · cases q : dget kvs z with
      | some w' =>
        rw [q] at g
        obtain ⟨u, eu, _⟩ := g
        rw [en] at eu
        cases eu
      | none =>
        rw [q] at h
        obtain ⟨y, rfl, h⟩ := h
        cases a2 with
        | cons h1 t =>
          cases t
          exact ⟨_, rfl, hk _ _ _ h _ _ ⟨o, h1.val, h1.fr⟩⟩
section
variable {X : Cx} {pins : List (Addr × Obj)} {σ : St} {H : Hp} {s : Shared} {a b : Addr} {A : Around} {E : Value → Shared → Prop}
theorem setd_T (hu : A.units + 1 < cLine) {ks : List (List Key × V)} {k : List Key} {d : V} {r : Value} {Q : Value → Shared → Prop} (I : Inv X pins σ H s) (ha : H a = some (.dT ks)) (hb : H b = some (.tup (k.map kV))) (rd : RelV d r) (hl : ks.length < sizeLine)
    (h1 : ∀ v, valV ks k = some v → ∀ w' s', Inv X pins σ H s' → RelV v w' → Q w' s') (h2 : valV ks k = none → ∀ s', Inv X pins σ (upd H a (.dT (putK ks k d))) s' → Q r s') :
    wpAny (model X.prog X.w) A (call (.builtin "dict.setdefault") [.ref a, .ref b, r]) Q E s := by
  obtain ⟨z, hd, xs, rel, dd⟩ := dt_of I.hok ha
  have hz : xs.length ≤ sizeLine := by rw [← Paired.length rel]; exact z
  refine call_setdefault_heap (tupleKind_room_in1 hu) (key_of I.hok hb) hd dd (fun p hp => ?_) (fun hn h' dd' hs => ?_) hz
  · have q := rel.val k
    rw [hp] at q
    cases q0 : valV ks k with
    | none => rw [q0] at q; exact (show False from q).elim
    | some v0 => rw [q0] at q; exact h1 v0 q0 _ _ (I.tok _) q
  · have q := rel.val k
    rw [hn] at q
    cases q0 : valV ks k with
    | some v0 => rw [q0] at q; exact (show False from q).elim
    | none =>
      obtain ⟨o, es, ep, hq, g2, g3, g4, _, g5⟩ := dd'
      have hl2 : (putK ks k d).length ≤ sizeLine := by
        have := length_putK ks k d
        omega
      exact h2 q0 _ (d_write (t' := s.toks + (tupleKind (mixKind X.prog X.w)).draws k) I (by rw [ha]; exact True.intro) hs ⟨o, hq⟩ (show ObjOk X.prog X.w (upd H a (.dT (putK ks k d))) h' a (.dT (putK ks k d)) from
        ⟨hl2, hd, _, (KT.put rel k hb rd).keeps (fun c ys ec => (by rw [upd_ne (ne_of ec ha (fun z => nomatch z))]; exact ec)), o, es, ep, hq, g2, g3, g4, g5⟩))
end
/-- d.setdefault(k, x) -/
def SetE (H : Hp) (a : Addr) (y d : V) (o : Option V) (ob : HO) : Prop :=
  (∃ ks k, H a = some (.dK ks) ∧ y = kV k ∧ ks.length < sizeLine ∧ o = valV ks k ∧ ob = .dK (putK ks k d)) ∨ (∃ ks k b, H a = some (.dT ks) ∧ y = .ref b ∧ H b = some (.tup (k.map kV)) ∧ ks.length < sizeLine ∧ o = valV ks k ∧ ob = .dT (putK ks k d)) ∨
  (H a = some (.dK []) ∧ (∃ (b : Addr) (ks : List Key), y = .ref b ∧ H b = some (.tup (ks.map kV)) ∧ ob = .dT [(ks, d)]) ∧ o = none) ∨ (H a = some (.dT []) ∧ (∃ k : Key, y = kV k ∧ ob = .dK [(k, d)]) ∧ o = none)
def rSetd : V → List V → Hp → VK → Prop := fun x xs H Q => ∃ a y d o ob, x = .ref a ∧ xs = [y, d] ∧ SetE H a y d o ob ∧ (∀ v, o = some v → Q v H) ∧ (o = none → Q d (upd H a ob))
theorem mt_setd {X : Cx} (hu : X.A.units + 1 < cLine) : MtR X "dict.setdefault" rSetd := by
  intro pins s σ H x xs v us Q I rx rxs h
  obtain ⟨a, y, d, o, ob, rfl, rfl, hp, q1, q2⟩ := h
  obtain rfl : v = Value.ref a := rx
  obtain ⟨u1, u2, rfl, r1, r2⟩ := vals2 rxs
  rcases hp with ⟨ks, k, ha, rfl, hl, eo, rfl⟩ | ⟨ks, k, b, ha, rfl, hb, hl, eo, rfl⟩ | ⟨ha, ⟨b, k, rfl, hb, rfl⟩, eo⟩ | ⟨ha, ⟨k, rfl, rfl⟩, eo⟩
  · exact d_setd I ha r1 r2 hl (fun w l w' s' I3 rw' => ⟨w, H, I3, rw', q1 w (by rw [eo, l])⟩) fun l w' s' I3 rw' => ⟨d, _, I3, rw', q2 (by rw [eo, l])⟩
  · obtain rfl : u1 = Value.ref b := r1
    exact setd_T hu I ha hb r2 hl (fun w l w' s' I3 rw' => ⟨w, H, I3, rw', q1 w (by rw [eo, l])⟩) fun l s' I3 => ⟨d, _, I3, r2, q2 (by rw [eo, l])⟩
  · obtain rfl : u1 = Value.ref b := r1
    have nb : b ≠ a := ne_of hb ha (by intro z; cases z)
    refine setd_T hu (conv_K I ha) (ks := []) (k := k) upd_same (by rw [upd_ne nb]; exact hb) r2 (by show 0 < sizeLine; decide) (fun w l => by cases l) fun l s' I3 => ⟨d, _, ?_, r2, q2 eo⟩
    rw [upd_upd] at I3
    exact I3
  · refine d_setd (kvs := []) (conv_T I ha) upd_same r1 r2 (by show 0 < sizeLine; decide) (fun w l => by cases l) fun l w' s' I3 rw' => ⟨d, _, ?_, rw', q2 eo⟩
    rw [upd_upd] at I3
    exact I3
theorem dct_setd {H : Hp} {a : Addr} {kvs : List (D × D)} {x w : D} {y v : V} (d : RDct kvs H (H a)) (r : RD H x y) (ki : KeyIn x kvs) (rv : RD H w v) (z : kvs.length < sizeLine) :
    ∃ o ob, RGet H (dget kvs x) o ∧ SetE H a y v o ob ∧ RO (upd H a ob) (some ob) (.dct (dput kvs x w)) := by
  obtain ⟨ko, so⟩ := ki
  rcases key_scal ko with ⟨k, ek⟩ | ⟨ks, ek⟩
  · subst ek
    have ev := r.keyK
    subst ev
    rcases id d with ⟨ts, et, t⟩ | ⟨ts, et, t⟩
    · exact ⟨valV ts k, _, t.rget fun _ _ => kD_inj, .inl ⟨ts, k, et, rfl, by rw [← RT.length t]; exact z, rfl, rfl⟩, .inl ⟨_, rfl, (t.keep (tk_dct d _)).put (fun _ _ => kD_inj) (rv.keep (tk_dct d _))⟩⟩
    · cases t with
      | nil => exact ⟨none, _, rfl, .inr (.inr (.inr ⟨et, ⟨k, rfl, rfl⟩, rfl⟩)), .inl ⟨[(k, v)], rfl, .cons ⟨rfl, rv.keep (tk_dct d _)⟩ .nil⟩⟩
      | @cons p q ps qs h t =>
        exfalso
        have so' : ∀ z ∈ (p :: ps), (∃ i, z.1 = .int i) ∨ ∃ y, z.1 = .str y := by
          cases k with
          | inl i => exact so
          | inr i => exact so
        have e : p.1 = gT q.1 := h.1
        rcases so' _ List.mem_cons_self with ⟨i, ei⟩ | ⟨i, ei⟩ <;> (rw [ei] at e; cases e)
  · subst ek
    obtain ⟨b, eb, hb⟩ := r.keyT
    subst eb
    rcases id d with ⟨ts, et, t⟩ | ⟨ts, et, t⟩
    · cases t with
      | nil => exact ⟨none, _, rfl, .inr (.inr (.inl ⟨et, ⟨b, ks, rfl, hb, rfl⟩, rfl⟩)), .inr ⟨[(ks, v)], rfl, .cons ⟨rfl, rv.keep (tk_dct d _)⟩ .nil⟩⟩
      | @cons p q ps qs h t =>
        exfalso
        have so' : ∀ z ∈ (p :: ps), ∃ xs, z.1 = .tup xs := so
        obtain ⟨xs, ex⟩ := so' _ List.mem_cons_self
        have e : p.1 = kD q.1 := h.1
        rw [ex] at e
        rcases hq : q.1 with i | i <;> (rw [hq] at e; cases e)
    · exact ⟨valV ts ks, _, t.rget fun _ _ => gT_inj, .inr (.inl ⟨ts, ks, b, et, rfl, hb, by rw [← RT.length t]; exact z, rfl, rfl⟩), .inr ⟨_, rfl, (t.keep (tk_dct d _)).put (fun _ _ => gT_inj) (rv.keep (tk_dct d _))⟩⟩
def mSetd : U → List U → WE := fun x us ρ A k => ∃ z u, us = [.d z, u] ∧ esc u ρ A fun y ρ1 A1 => ∃ kvs, dctOf ρ1 A1 x = some kvs ∧ KeyIn z kvs ∧ kvs.length < sizeLine ∧
  (match dget kvs z with
  | some w => k (.d w) ρ1 A1
  | none => setOb x (.dct (dput kvs z y)) ρ1 A1 fun ρ2 A2 => k (.d y) ρ2 A2)
theorem ref_setd : RefM rSetd mSetd := fun {H0 σ Hs As ρs H A ρ x v us vs k Q} R o rx nx a h hk => by
  obtain ⟨z, u, rfl, h⟩ := h
  obtain ⟨w1, w2, rfl, a1, a2⟩ := Arg.two a
  obtain ⟨y, ρ1, A1, ⟨kvs, e, ki, hl, h⟩, o1, ry⟩ := Argv.esc1 R o a2 h
  have rx1 : RU H A1 σ x v := rx.plain nx
  obtain ⟨b, rfl, d⟩ := dctOf_rel o1.rel rx1 e
  obtain ⟨op, ob, g, pe, ro⟩ := dct_setd d (show RD H z w1 from a1.val) ki ry hl
  refine ⟨b, w1, w2, op, ob, rfl, rfl, pe, fun w ew => ?_, fun en => ?_⟩
  · cases q : dget kvs z with
    | none => rw [q] at g; cases (show op = none from g); cases ew
    | some w' =>
      rw [q] at g h
      obtain ⟨u, eu, ru⟩ := g
      rw [ew] at eu
      cases eu
      exact hk _ _ _ h _ _ (o1.then (Out.d o1.rel ru))
  · cases q : dget kvs z with
    | some w' =>
      rw [q] at g
      obtain ⟨u, eu, _⟩ := g
      rw [en] at eu
      cases eu
    | none =>
      rw [q] at h
      obtain ⟨b', eb, st⟩ := setOb_ok o1.rel rx1 h
      cases eb
      obtain ⟨ρ2, A2, h2, o2⟩ := st ob ro
      exact hk _ _ _ h2 _ _ ((o1.trans o2).then (Out.d o2.rel (ry.keep (tk_dct d ob))))
end Dn

namespace Dn
open PySem L2 PyProof.Rows PySem.W

/-! ### a local is set -/
section
variable {H0 H H1 : Hp} {A A1 : Ah} {σ : St} {ρ ρ1 : Rho} {u : U} {v : V}
theorem RU.anySt {σ' : St} (r : RU H A σ u v) (n : ∀ j, u ≠ .loc j) : RU H A σ' u v := by
  cases u with
  | d x => exact r
  | lst xs => exact r
  | dct xs => exact r
  | loc j => exact absurd rfl (n j)
theorem Rel.back (R : Rel H0 H A σ ρ) {a : Addr} (h : H a = none) : H0 a = none := by
  cases q : H0 a with
  | none => rfl
  | some z => exact absurd h (R.live a (by rw [q]; nofun))
theorem OutS.set (R : Rel H0 H A σ ρ) (o : Out H0 σ H A ρ H1 A1 ρ1 u v) (nl : ∀ j, u ≠ .loc j) (i : Nat) : OutS H0 σ H A ρ (σ.set i (some v)) H1 A1 (ρ1.set i (some u)) := by
  by_cases hi : i < σ.length
  · have hil : i < ρ1.length := by rw [o.rel.len]; exact hi
    have own : ∀ a, Own (σ.set i (some v)) (ρ1.set i (some u)) a → (u.own = true ∧ v = .ref a) ∨ Own σ ρ1 a := fun a ⟨j, w, ej, ow, es⟩ => by
      by_cases hj : i = j
      · subst hj
        rw [List.getElem?_set_self hil] at ej
        rw [List.getElem?_set_self hi] at es
        cases ej
        cases es
        exact .inl ⟨ow, rfl⟩
      · rw [List.getElem?_set_ne hj] at ej es
        exact .inr ⟨j, w, ej, ow, es⟩
    refine ⟨⟨o.rel.hp, by rw [List.length_set, List.length_set]; exact o.rel.len, fun j w ej => ?_, fun a z => ?_, fun j l w w' a ej ow el ow' sj sl => ?_, o.rel.live⟩, o.step, fun a z => ?_⟩
    · by_cases hj : i = j
      · subst hj
        rw [List.getElem?_set_self hil] at ej
        cases ej
        exact ⟨v, List.getElem?_set_self hi, o.val.anySt nl, nl⟩
      · rw [List.getElem?_set_ne hj] at ej
        obtain ⟨z, ez, q, n⟩ := o.rel.st j w ej
        exact ⟨z, by rw [List.getElem?_set_ne hj]; exact ez, q.anySt n, n⟩
    · rcases own a z with ⟨ow, e⟩ | z
      · exact R.back (o.fr ow a e)
      · exact o.rel.fresh a z
    · by_cases hj : i = j
      · by_cases hl : i = l
        · rw [← hj, hl]
        · subst hj
          rw [List.getElem?_set_self hil] at ej
          rw [List.getElem?_set_self hi] at sj
          cases ej
          cases sj
          rw [List.getElem?_set_ne hl] at el sl
          exact absurd (o.fr ow a rfl) (R.own_live (o.sub a ⟨l, w', el, ow', sl⟩))
      · rw [List.getElem?_set_ne hj] at ej sj
        by_cases hl : i = l
        · subst hl
          rw [List.getElem?_set_self hil] at el
          rw [List.getElem?_set_self hi] at sl
          cases el
          cases sl
          exact absurd (o.fr ow' a rfl) (R.own_live (o.sub a ⟨j, w, ej, ow, sj⟩))
        · rw [List.getElem?_set_ne hl] at el sl
          exact o.rel.apart j l w w' a ej ow el ow' sj sl
    · rcases own a z with ⟨ow, e⟩ | z
      · exact .inr (o.fr ow a e)
      · exact .inl (o.sub a z)
  · have e1 : σ.set i (some v) = σ := List.set_eq_of_length_le (by omega)
    have e2 : ρ1.set i (some u) = ρ1 := List.set_eq_of_length_le (by rw [o.rel.len]; omega)
    rw [e1, e2]
    exact o.toOutT.toS
end
def setV (i : Nat) (u : U) (ρ : Rho) (A : Ah) (k : Rho → Ah → Prop) : Prop := match u with
  | .loc j => esc (.loc j) ρ A fun x ρ' A' => k (ρ'.set i (some (.d x))) A'
  | u => k (ρ.set i (some u)) A
theorem setV_ok {H0 H H1 : Hp} {A A1 : Ah} {σ : St} {ρ ρ1 : Rho} {u : U} {v : V} {i : Nat} {k : Rho → Ah → Prop} (R : Rel H0 H A σ ρ) (o : Out H0 σ H A ρ H1 A1 ρ1 u v) (h : setV i u ρ1 A1 k) :
    ∃ ρ2 A2, k ρ2 A2 ∧ OutS H0 σ H A ρ (σ.set i (some v)) H1 A2 ρ2 := by
  cases u with
  | loc j =>
    obtain ⟨x, ρ2, A2, h2, o2⟩ := esc_ok R o (k := fun x ρ A => k (ρ.set i (some (.d x))) A) h
    exact ⟨_, _, h2, OutS.set R o2 nofun i⟩
  | d x => exact ⟨_, _, h, OutS.set R o nofun i⟩
  | lst x => exact ⟨_, _, h, OutS.set R o nofun i⟩
  | dct x => exact ⟨_, _, h, OutS.set R o nofun i⟩
/-! ### targets -/
abbrev KS := Rho → Ah → Prop
abbrev WG := D → Rho → Ah → KS → Prop
abbrev WGs := List D → Rho → Ah → KS → Prop
/-- behind a target: only the slots sl are set, with data -/
structure OutG (H0 : Hp) (sl : List Nat) (σ : St) (H : Hp) (A : Ah) (ρ : Rho) (σ' : St) (H' : Hp) (A' : Ah) (ρ' : Rho) : Prop extends OutS H0 σ H A ρ σ' H' A' ρ' where
  sub1 : ∀ a, Own σ' ρ' a → Own σ ρ a
  wp : ∀ vs, (∀ i ∈ sl, i ∈ vs) → wipe σ' vs = wipe σ vs
def KqG (H0 : Hp) (sl : List Nat) (σ : St) (H : Hp) (A : Ah) (ρ : Rho) (k : KS) (Q : St → Hp → Prop) : Prop := ∀ ρ' A', k ρ' A' → ∀ σ' H', OutG H0 sl σ H A ρ σ' H' A' ρ' → Q σ' H'
def KqS (H0 : Hp) (σ : St) (H : Hp) (A : Ah) (ρ : Rho) (k : KS) (Q : St → Hp → Prop) : Prop := ∀ ρ' A', k ρ' A' → ∀ σ' H', OutS H0 σ H A ρ σ' H' A' ρ' → Q σ' H'
def liftG (H0 : Hp) (sl : List Nat) (g : WG) : TG := fun v σ H Q => ∃ x ρ A k, Rel H0 H A σ ρ ∧ RD H x v ∧ g x ρ A k ∧ KqG H0 sl σ H A ρ k Q
def liftGs (H0 : Hp) (sl : List Nat) (g : WGs) : TGs := fun vs σ H Q => ∃ xs ρ A k, Rel H0 H A σ ρ ∧ RDs H xs vs ∧ g xs ρ A k ∧ KqG H0 sl σ H A ρ k Q
theorem wipe_in {σ : St} {i : Nat} : ∀ {vs : List Nat}, i ∈ vs → (wipe σ vs)[i]? = if i < σ.length then some none else none
  | v :: vs, h => by
    unfold wipe
    by_cases e : v = i
    · subst e
      by_cases hl : v < σ.length
      · rw [List.getElem?_set_self (by rw [wipe_length]; exact hl), if_pos hl]
      · rw [if_neg hl, List.getElem?_eq_none (by rw [List.length_set, wipe_length]; omega)]
    · rw [List.getElem?_set_ne e]
      rcases List.mem_cons.mp h with z | z
      · exact absurd z.symm e
      · exact wipe_in z
theorem wipe_set {σ : St} {i : Nat} {x : Option V} {vs : List Nat} (h : i ∈ vs) : wipe (σ.set i x) vs = wipe σ vs := by
  refine List.ext_getElem? fun j => ?_
  by_cases hj : j ∈ vs
  · rw [wipe_in hj, wipe_in hj, List.length_set]
  · rw [wipe_out hj, wipe_out hj, List.getElem?_set_ne (fun e : i = j => hj (by rw [← e]; exact h))]
theorem OutG.refl {H0 H : Hp} {A : Ah} {σ : St} {ρ : Rho} (R : Rel H0 H A σ ρ) : OutG H0 [] σ H A ρ σ H A ρ := ⟨(OutT.refl R).toS, fun _ z => z, fun _ _ => rfl⟩
theorem OutG.trans {H0 H H1 H2 : Hp} {A A1 A2 : Ah} {σ σ1 σ2 : St} {ρ ρ1 ρ2 : Rho} {s1 s2 : List Nat} (a : OutG H0 s1 σ H A ρ σ1 H1 A1 ρ1) (b : OutG H0 s2 σ1 H1 A1 ρ1 σ2 H2 A2 ρ2) : OutG H0 (s1 ++ s2) σ H A ρ σ2 H2 A2 ρ2 :=
  ⟨a.toOutS.trans b.toOutS, fun c z => a.sub1 c (b.sub1 c z), fun vs h => (b.wp vs fun i m => h i (List.mem_append_right _ m)).trans (a.wp vs fun i m => h i (List.mem_append_left _ m))⟩
theorem OutG.set {H0 H : Hp} {A : Ah} {σ : St} {ρ : Rho} {x : D} {v : V} (R : Rel H0 H A σ ρ) (r : RD H x v) (i : Nat) : OutG H0 [i] σ H A ρ (σ.set i (some v)) H A (ρ.set i (some (.d x))) := by
  refine ⟨OutS.set R (Out.d R r) nofun i, fun a ⟨j, u, ej, ou, es⟩ => ?_, fun vs h => wipe_set (h i (List.mem_singleton.mpr rfl))⟩
  by_cases hj : i = j
  · subst hj
    by_cases hl : i < ρ.length
    · rw [List.getElem?_set_self hl] at ej
      cases ej
      cases ou
    · rw [List.getElem?_eq_none (by rw [List.length_set]; omega)] at ej
      cases ej
  · rw [List.getElem?_set_ne hj] at ej es
    exact ⟨j, u, ej, ou, es⟩
def gNm (i : Nat) : WG := fun x ρ A k => k (ρ.set i (some (.d x))) A
def gsNil : WGs := fun xs ρ A k => xs = [] ∧ k ρ A
def gsCons (g : WG) (gs : WGs) : WGs := fun xs ρ A k => ∃ x r, xs = x :: r ∧ g x ρ A fun ρ1 A1 => gs r ρ1 A1 k
def gTp (gs : WGs) : WG := fun x ρ A k => ∃ xs, x = .tup xs ∧ gs xs ρ A k
theorem PG.imp {X : Cx} {e : Expr} {t t' : TG} (h : PG X e t) (k : ∀ v σ H Q, t' v σ H Q → t v σ H Q) : PG X e t' := ⟨fun pins s σ H v u Q I r w => h.run pins s σ H v u Q I r (k v σ H Q w)⟩
theorem PGs.imp {X : Cx} {es : List Expr} {t t' : TGs} (h : PGs X es t) (k : ∀ v σ H Q, t' v σ H Q → t v σ H Q) : PGs X es t' := ⟨fun pins s σ H v u Q I r w => h.run pins s σ H v u Q I r (k v σ H Q w)⟩
section
variable {X : Cx} {H0 : Hp} {pos : Pos} {e : Expr} {es : List Expr} {g : WG} {gs : WGs} {sl s1 s2 : List Nat}
theorem g_nm {i : Nat} {x : Str} (hN : X.N.Nodup) (hi : X.N[i]? = some x := by rfl) (hx : Loc X.env.scope x := by first | exact Or.inl rfl | exact Or.inr rfl) (hf : X.fn x = true ∨ X.env.scope.names.lookup x = some .local := by first | exact .inl rfl | exact .inr rfl) : PG X (.Name x pos) (liftG H0 [i] (gNm i)) :=
  PG.imp (pg_name hN hi hx hf) fun v σ H Q ⟨x, ρ, A, k, R, r, h, hk⟩ => hk _ _ h _ _ (OutG.set R r i)
theorem gs_nil : PGs X [] (liftGs H0 [] gsNil) := PGs.imp pgs_nil fun v σ H Q ⟨xs, ρ, A, k, R, r, ⟨ex, h⟩, hk⟩ => by
  subst ex
  cases r
  exact ⟨rfl, hk _ _ h _ _ (OutG.refl R)⟩
theorem gs_cons (h1 : PG X e (liftG H0 s1 g)) (h2 : PGs X es (liftGs H0 s2 gs)) (hs : (assignEach (e :: es) X.env).map (·.2) = assign e X.env :: (assignEach es X.env).map (·.2) := by rfl) : PGs X (e :: es) (liftGs H0 (s1 ++ s2) (gsCons g gs)) := by
  refine PGs.imp (pgs_cons h1 h2 hs) fun vs σ H Q ⟨xs, ρ, A, k, R, r, ⟨x, xr, ex, h⟩, hk⟩ => ?_
  subst ex
  cases r with
  | @cons _ v _ vr r t =>
    refine ⟨v, vr, rfl, x, ρ, A, _, R, r, h, fun ρ1 A1 h1 σ1 H1 o1 => ⟨xr, ρ1, A1, k, o1.rel, t.keep (R.tk o1.step), h1, fun ρ2 A2 h2 σ2 H2 o2 => hk _ _ h2 _ _ (o1.trans o2)⟩⟩
def gTup (n : Nat) (gs : WGs) : WG := fun x ρ A k => (∃ xs, x = .tup xs ∧ xs.length = n) ∧ gTp gs x ρ A k
theorem g_tp {k : Nat} {n : Nat} (hc : X.calm = true) (h : PGs X es (liftGs H0 sl gs)) (hn : (assignEach es X.env).length = n := by rfl) (hst : (assignEach es X.env).findIdx? (·.1) = none := by rfl) : PG X (.Tuple es k pos) (liftG H0 sl (gTup n gs)) := by
  refine PG.imp (pg_tup hc h hn hst) fun v σ H Q ⟨x, ρ, A, k, R, r, ⟨⟨ys, ey, hl⟩, xs, ex, h⟩, hk⟩ => ?_
  subst ey
  cases ex
  cases r with
  | tup ha r => exact ⟨_, _, rfl, .of ha, by rw [← r.length]; exact hl, ys, ρ, A, k, R, r, h, hk⟩
end
/-! ### statements -/
def sNil : WS := fun d ρ A => d.nx ρ A
def sSeq (t u : WS) : WS := fun d ρ A => t { d with nx := fun ρ' A' => u d ρ' A' } ρ A
def sExpr (te : WE) : WS := fun d ρ A => te ρ A fun _ ρ' A' => d.nx ρ' A'
def retV (u : U) (ρ : Rho) (A : Ah) (k : U → Ah → Prop) : Prop := match u with
  | .loc i => ∃ w, ρ[i]? = some (some w) ∧ w.own = true ∧ k w A
  | u => k u A
def sRet (te : WE) : WS := fun d ρ A => te ρ A fun u ρ' A' => retV u ρ' A' d.rt
def sRetN : WS := fun d _ A => d.rt (.d .non) A
def sIf (c : WT) (t u : WS) : WS := fun d ρ A => c ρ A fun b ρ' A' => if b = true then t d ρ' A' else u d ρ' A'
def sSet (i : Nat) (te : WE) : WS := fun d ρ A => te ρ A fun u ρ' A' => setV i u ρ' A' d.nx
/-- target = e, e data -/
def sAsg (g : WG) (te : WE) : WS := fun d ρ A => te ρ A fun u ρ1 A1 => esc u ρ1 A1 fun x ρ2 A2 => g x ρ2 A2 d.nx
/-- a, b = x, y -/
def sPar (i j : Nat) (tu : WA) : WS := fun d ρ A => tu ρ A fun xs ρ1 A1 => ∃ x y, xs = [x, y] ∧ d.nx ((ρ1.set i (some (.d x))).set j (some (.d y))) A1
def putD (f : Str) (v : D) : List (Str × D) → List (Str × D)
  | [] => [(f, v)]
  | (g, x) :: r => if g = f then (g, v) :: r else (g, x) :: putD f v r
/-- o.f = e -/
def sFld (C : Addr) (f : Str) (to tv : WE) : WS := fun d ρ A => tv ρ A fun u ρ1 A1 => esc u ρ1 A1 fun y ρ2 A2 => to ρ2 A2 fun x ρ3 A3 => ∃ a t fs, x = .d (.ref a) ∧ A3 a = some ⟨t, .ins C fs⟩ ∧ fs.length < 1000 ∧ d.nx ρ3 (up A3 a ⟨t, .ins C (putD f y fs)⟩)
/-- o[i] = e -/
def setIx (x : U) (j : D) (y : D) (ρ : Rho) (A : Ah) (k : KS) : Prop :=
  (∃ xs i n, lstOf ρ A x = some xs ∧ j = .int i ∧ ixN xs.length i = some n ∧ setOb x (.lst (xs.set n y)) ρ A k) ∨
  (∃ kvs, dctOf ρ A x = some kvs ∧ KeyIn j kvs ∧ kvs.length < sizeLine ∧ setOb x (.dct (dput kvs j y)) ρ A k)
def sIx (to ti tv : WE) : WS := fun d ρ A => tv ρ A fun u ρ1 A1 => esc u ρ1 A1 fun y ρ2 A2 => to ρ2 A2 fun x ρ3 A3 => x.own = false ∧ ti ρ3 A3 fun w ρ4 A4 => ∃ j, w = .d j ∧ setIx x j y ρ4 A4 d.nx
section
variable {X : Cx} {H0 : Hp} {st : Stmt} {rest : List Stmt} {t u : WS} {e c o : Expr} {te to tv ti : WE} {cc : WT} {pos : Pos}
theorem s_nil : PSs X [] (liftS H0 sNil) := PSs.imp pss_nil fun D σ H ⟨ρ, A, d, R, h, f⟩ => f.nx _ _ h _ _ (OutT.refl R).toS
theorem s_cons (h1 : PS X st (liftS H0 t)) (h2 : PSs X rest (liftS H0 u)) : PSs X (st :: rest) (liftS H0 (sSeq t u)) :=
  PSs.imp (pss_cons h1 h2) fun D σ H ⟨ρ, A, d, R, h, f⟩ => ⟨ρ, A, _, R, h, ⟨fun ρ' A' h' σ' H' o => ⟨ρ', A', d, o.rel, h', f.behind o⟩, f.rt, f.bk, f.ct⟩⟩
theorem s_one (h1 : PS X st (liftS H0 t)) : PSs X [st] (liftS H0 t) := pss_one h1
theorem s_pass : PS X (.Pass pos) (liftS H0 sNil) := PS.imp ps_pass fun D σ H ⟨ρ, A, d, R, h, f⟩ => f.nx _ _ h _ _ (OutT.refl R).toS
theorem s_break : PS X (.Break pos) (liftS H0 fun d ρ A => d.bk ρ A) := PS.imp ps_break fun D σ H ⟨ρ, A, d, R, h, f⟩ => f.bk _ _ h _ _ (OutT.refl R).toS
theorem s_expr (he : PE X e (lift H0 te)) (hs : swapsWith e none pos.line X.env = pure false := by rfl) : PS X (.Expr e pos) (liftS H0 (sExpr te)) :=
  PS.imp (ps_expr he hs) fun D σ H ⟨ρ, A, d, R, h, f⟩ => ⟨ρ, A, _, R, h, fun u ρ' A' h' v H' o => f.nx _ _ h' _ _ o.toOutT.toS⟩
theorem retV_ok {H H1 : Hp} {A A1 : Ah} {σ : St} {ρ ρ1 : Rho} {u : U} {v : V} {k : U → Ah → Prop} (R : Rel H0 H A σ ρ) (o : Out H0 σ H A ρ H1 A1 ρ1 u v) (h : retV u ρ1 A1 k) : ∃ w, k w A1 ∧ OutR H0 σ H A ρ H1 A1 w v := by
  cases u with
  | loc i =>
    obtain ⟨w, ew, ow, h⟩ := h
    have hv : σ[i]? = some (some v) := o.val
    obtain ⟨v', ev, rw', nl⟩ := o.rel.st i w ew
    rw [hv] at ev
    cases ev
    exact ⟨w, h, o.rel.hp, rw'.anySt nl, o.step, fun _ a ea => o.rel.fresh a ⟨i, w, ew, ow, by rw [hv, ea]⟩, o.rel.live⟩
  | d x => exact ⟨_, h, o.rel.hp, o.val, o.step, nofun, o.rel.live⟩
  | lst x => exact ⟨_, h, o.rel.hp, o.val, o.step, fun w a e => R.back (o.fr w a e), o.rel.live⟩
  | dct x => exact ⟨_, h, o.rel.hp, o.val, o.step, fun w a e => R.back (o.fr w a e), o.rel.live⟩
theorem s_ret (he : PE X e (lift H0 te)) : PS X (.Return (some e) pos) (liftS H0 (sRet te)) :=
  PS.imp (ps_ret he) fun D σ H ⟨ρ, A, d, R, h, f⟩ => ⟨ρ, A, _, R, h, fun u ρ' A' h' v H' o => by
    obtain ⟨w, h2, o2⟩ := retV_ok R o h'
    exact f.rt _ _ h2 _ _ o2⟩
theorem s_retN : PS X (.Return none pos) (liftS H0 sRetN) := PS.imp ps_retN fun D σ H ⟨ρ, A, d, R, h, f⟩ => f.rt _ _ h _ _ ⟨R.hp, show RD _ _ _ from .non, Step.refl _ _ _, nofun, R.live⟩
theorem s_if {a b : List Stmt} (hc : PT X c (liftT H0 cc)) (ha : PSs X a (liftS H0 t)) (hb : PSs X b (liftS H0 u)) : PS X (.If c a b pos) (liftS H0 (sIf cc t u)) := by
  refine PS.imp (ps_if hc ha hb) fun D σ H ⟨ρ, A, d, R, h, f⟩ => ⟨ρ, A, _, R, h, fun b ρ' A' h' H' o => ?_⟩
  cases b with
  | true => exact ⟨ρ', A', d, o.rel, h', f.behind o.toS⟩
  | false => exact ⟨ρ', A', d, o.rel, h', f.behind o.toS⟩
/-- code that the proof never comes to -/
def sNever : WS := fun _ _ _ => False
theorem s_never : PS X st (liftS H0 sNever) := PS.imp ps_never fun D σ H ⟨ρ, A, d, R, h, f⟩ => h
theorem ss_never {sts : List Stmt} : PSs X sts (liftS H0 sNever) := PSs.imp pss_never fun D σ H ⟨ρ, A, d, R, h, f⟩ => h
theorem s_set {i : Nat} {x : Str} {pos' : Pos} (hN : X.N.Nodup) (he : PE X e (lift H0 te)) (hi : X.N[i]? = some x := by rfl) (hx : Loc X.env.scope x := by first | exact Or.inl rfl | exact Or.inr rfl) (hs : swapsWith e (some (.Name x pos')) pos.line X.env = pure false := by rfl)
    (hf : X.fn x = true ∨ X.env.scope.names.lookup x = some .local := by first | exact .inl rfl | exact .inr rfl) : PS X (.Assign [.Name x pos'] e pos) (liftS H0 (sSet i te)) :=
  PS.imp (ps_set hN hi hx he hs hf) fun D σ H ⟨ρ, A, d, R, h, f⟩ => ⟨ρ, A, _, R, h, fun u ρ' A' h' v H' o => by
    obtain ⟨ρ2, A2, h2, o2⟩ := setV_ok R o h'
    exact f.nx _ _ h2 _ _ o2⟩
theorem s_asg {tg : Expr} {g : WG} {sl : List Nat} (he : PE X e (lift H0 te)) (hg : PG X tg (liftG H0 sl g)) (hs : swapsWithSole [tg] e pos.line X.env = pure false := by rfl) (hw : swappedStores [tg] e X.env = pure none := by rfl)
    (h1 : (assignEach [tg] X.env).map (·.2) = [assign tg X.env] := by rfl) : PS X (.Assign [tg] e pos) (liftS H0 (sAsg g te)) :=
  PS.imp (ps_asg he hg hs hw h1) fun D σ H ⟨ρ, A, d, R, h, f⟩ => ⟨ρ, A, _, R, h, fun u ρ' A' h' v H' o => by
    obtain ⟨x, ρ2, A2, h2, o2⟩ := esc_ok R o h'
    exact ⟨x, ρ2, A2, _, o2.rel, o2.val, h2, fun ρ3 A3 h3 σ3 H3 o3 => f.nx _ _ h3 _ _ (o2.toOutT.toS.trans o3.toOutS)⟩⟩
theorem RF.put {H : Hp} {f : Str} {y : D} {v : V} (ry : RD H y v) : ∀ {fs : List (Str × D)} {gs : List (Str × V)}, RF H fs gs → RF H (putD f y fs) (putF f v gs)
  | _, _, .nil => .cons ⟨rfl, ry⟩ .nil
  | _, _, .cons (a := (n, x)) (b := (m, z)) ⟨h1, h2⟩ t => by
    have h1 : n = m := h1
    subst h1
    show RF H (if n = f then (n, y) :: _ else (n, x) :: putD f y _) (if n = f then (n, v) :: _ else (n, z) :: putF f v _)
    by_cases h : n = f
    · rw [if_pos h, if_pos h]
      exact .cons ⟨rfl, ry⟩ t
    · rw [if_neg h, if_neg h]
      exact .cons ⟨rfl, h2⟩ (RF.put ry t)
theorem RF.length {H : Hp} {fs : List (Str × D)} {gs : List (Str × V)} (r : RF H fs gs) : fs.length = gs.length := Paired.length r
theorem s_fld {C : Addr} {f : Str} {pos' : Pos} (cl : Cls X.K C) (na : NoAttr X.K C f) (ho : PE X o (lift H0 to)) (hv : PE X e (lift H0 tv)) (hs : swapsWith e (some (.Attribute o f pos')) pos.line X.env = pure false := by rfl) :
    PS X (.Assign [.Attribute o f pos'] e pos) (liftS H0 (sFld C f to tv)) :=
  PS.imp (ps_fld ho hv hs) fun D σ H ⟨ρ, A, d, R, h, fin⟩ => ⟨ρ, A, _, R, h, fun u ρ1 A1 h1 v H1 o1 => by
    obtain ⟨y, ρ2, A2, h2, o2⟩ := esc_ok R o1 h1
    refine ⟨ρ2, A2, _, o2.rel, h2, fun x ρ3 A3 ⟨a, t, fs, ex, ea, hl, h3⟩ w H2 o3 => ?_⟩
    subst ex
    cases (show RD H2 (.ref a) w from o3.val)
    obtain ⟨dx, gs, eg, r⟩ := o3.rel.hp a _ ea
    have ry : RD H2 y v := o2.stay R o3.step
    have tk : Tk H2 (upd H2 a (.ins C dx (putF f v gs))) := fun c vs e => by rw [upd_ne (ne_of e eg (by intro q; cases q))]; exact e
    have o4 := o3.rel.write ea t (b := .ins C (putD f y fs)) (o' := .ins C dx (putF f v gs)) ⟨dx, _, rfl, (RF.put ry r).keep tk⟩
    exact ⟨a, C, dx, gs, rfl, eg, cl, na, by rw [← RF.length r]; exact hl, fin.nx _ _ h3 _ _ (o2.toOutT.toS.trans (o3.toOutT.toS.trans o4.toS))⟩⟩
/-! o[i] = e -/
def rSetA : V → V → V → Hp → (Hp → Prop) → Prop := fun o i v H Q => rSetL o i v H Q ∨ ∃ a ob, o = .ref a ∧ DPutE H a i v ob ∧ Q (upd H a ob)
theorem set_any (hu : X.A.units + 1 < cLine) : PSet X rSetA := by
  intro pins s σ H o i v ov iv u Q I ro ri rv h
  rcases h with h | ⟨a, ob, rfl, g, q⟩
  · exact set_list pins s σ H o i v ov iv u Q I ro ri rv h
  · obtain rfl : ov = Value.ref a := ro
    obtain ⟨H1, I1, g1⟩ := dputE I g
    exact d_setItem hu I1 g1 ri rv fun s' I' => ⟨_, I', q⟩
theorem setIx_ok {H : Hp} {A : Ah} {σ : St} {ρ : Rho} {x : U} {j y : D} {v w z : V} {k : KS} {Q : Hp → Prop} (R : Rel H0 H A σ ρ) (rx : RU H A σ x v) (rj : RD H j w) (ry : RD H y z) (h : setIx x j y ρ A k)
    (hk : ∀ ρ' A', k ρ' A' → ∀ H', OutT H0 σ H A ρ H' A' ρ' → Q H') : rSetA v w z H Q := by
  rcases h with ⟨xs, i, n, e, rfl, en, h⟩ | ⟨kvs, e, ki, hl, h⟩
  · obtain ⟨b, ws, rfl, hb, r⟩ := lstOf_rel R rx e
    obtain ⟨b', eb, st⟩ := setOb_ok R rx h
    cases eb
    cases rj
    have tk : Tk H (upd H b (.lst (ws.set n z))) := fun c vs e => by rw [upd_ne (ne_of e hb (by intro q; cases q))]; exact e
    obtain ⟨ρ2, A2, h2, o2⟩ := st (.lst (ws.set n z)) ⟨_, rfl, (RDs.set ry n r).keep tk⟩
    exact .inl ⟨b, ws, i, n, rfl, rfl, hb, by rw [← r.length]; exact en, hk _ _ h2 _ o2⟩
  · obtain ⟨b, rfl, d⟩ := dctOf_rel R rx e
    obtain ⟨ob, pe, ro⟩ := dct_put d rj ki ry hl
    obtain ⟨b', eb, st⟩ := setOb_ok R rx h
    cases eb
    obtain ⟨ρ2, A2, h2, o2⟩ := st ob ro
    exact .inr ⟨b, ob, rfl, pe, hk _ _ h2 _ o2⟩
theorem s_ix {i : Expr} {pos' : Pos} (hu : X.A.units + 1 < cLine) (ho : PE X o (lift H0 to)) (hi : PE X i (lift H0 ti)) (hv : PE X e (lift H0 tv))
    (ha : ∀ v, assign (.Subscript o i pos') X.env v = (do
      let ov ← holding [v] (eval o X.env)
      let iv ← holding [v, ov] (eval i X.env)
      standAt pos'
      holding [v, ov, iv] (setItem ov iv v)
      release [v, ov, iv] []) := by intro _; rfl)
    (hs : swapsWithSole [.Subscript o i pos'] e pos.line X.env = pure false := by rfl) (hw : swappedStores [.Subscript o i pos'] e X.env = pure none := by rfl)
    (h1 : (assignEach [.Subscript o i pos'] X.env).map (·.2) = [assign (.Subscript o i pos') X.env] := by rfl) : PS X (.Assign [.Subscript o i pos'] e pos) (liftS H0 (sIx to ti tv)) :=
  PS.imp (ps_asg hv (pg_sub ho hi (set_any hu) ha) hs hw h1) fun D σ H ⟨ρ, A, d, R, h, fin⟩ => ⟨ρ, A, _, R, h, fun u ρ1 A1 h1 v H1 o1 => by
    obtain ⟨y, ρ2, A2, h2, o2⟩ := esc_ok R o1 h1
    refine ⟨ρ2, A2, _, o2.rel, h2, fun x ρ3 A3 ⟨nx, h3⟩ w H3 o3 => ⟨ρ3, A3, _, o3.rel, h3, fun u4 ρ4 A4 ⟨j, ej, h4⟩ v4 H4 o4 => ?_⟩⟩
    subst ej
    exact setIx_ok o4.rel (o3.stay o2.rel o4.step) o4.val (o2.stay R (o3.step.trans o4.step fun c z => .inl (o3.sub c z))) h4 fun ρ5 A5 h5 H5 o5 => fin.nx _ _ h5 _ _ (o2.toOutT.toS.trans (o3.toOutT.toS.trans (o4.toOutT.toS.trans o5.toS)))⟩
/-- a, b = x, y -/
theorem s_par {i j : Nat} {x y : Str} {a b : Expr} {tu : WA} {px py pt : Pos} {kt k2 pt2} (hc : X.calm = true) (hN : X.N.Nodup) (ha : PA X [a, b] (liftA H0 tu)) (hi : X.N[i]? = some x := by rfl) (hj : X.N[j]? = some y := by rfl) (hij : i ≠ j := by decide)
    (hx : X.env.scope.names.lookup x = some .local := by rfl) (hy : X.env.scope.names.lookup y = some .local := by rfl)
    (hw : swappedStores [.Tuple [.Name x px, .Name y py] kt pt] (.Tuple [a, b] k2 pt2) X.env = pure (some [x, y]) := by rfl)
    (hs : swapsWithSole [.Tuple [.Name x px, .Name y py] kt pt] (.Tuple [a, b] k2 pt2) pos.line X.env = pure false := by rfl) :
    PS X (.Assign [.Tuple [.Name x px, .Name y py] kt pt] (.Tuple [a, b] k2 pt2) pos) (liftS H0 (sPar i j tu)) :=
  PS.imp (ps_par hc hN hi hj hij hx hy ha hw hs) fun D σ H ⟨ρ, A, d, R, h, fin⟩ => ⟨ρ, A, _, R, h, fun xs ρ1 A1 ⟨x, y, ex, h1⟩ vs H1 o1 => by
    subst ex
    have vals := o1.vals
    cases vals with
    | @cons _ v1 _ _ r1 t => cases t with
      | @cons _ v2 _ _ r2 t =>
        cases t
        refine ⟨v1, v2, rfl, fin.nx _ _ h1 _ _ ?_⟩
        have os := OutS.set (i := i) R (u := .d x) (v := v1) ⟨o1.toOutT, r1, nofun⟩ nofun
        exact os.trans (OutS.set (i := j) os.rel (Out.d os.rel r2) nofun)⟩
end
end Dn

namespace Dn
open PySem L2 PyProof.Rows PySem.W

/-! ### what is walked -/
abbrev KI := List D → KS → Rho → Ah → Prop
abbrev WI := Rho → Ah → KI → Prop
/-- J yields the items xs, as long as chk holds -/
structure Src (H0 : Hp) (σs : St) (Hs : Hp) (As : Ah) (ρs : Rho) (J : It) (xs : List D) (chk : KS) : Prop where
  stop : ∀ σ H A ρ, OutS H0 σs Hs As ρs σ H A ρ → chk ρ A → J.stop xs.length H
  go : ∀ σ H A ρ, OutS H0 σs Hs As ρs σ H A ρ → chk ρ A → ∀ i, i < xs.length → J.go i H
  yld : ∀ σ H A ρ, OutS H0 σs Hs As ρs σ H A ρ → chk ρ A → ∀ i v H', J.yld i H v H' → i < xs.length → ∃ x, xs[i]? = some x ∧ RD H' x v ∧ OutS H0 σ H A ρ σ H' A ρ
def liftI (H0 : Hp) (w : WI) : TI := fun σ H R => ∃ ρ A k, Rel H0 H A σ ρ ∧ w ρ A k ∧ ∀ xs chk ρ' A', k xs chk ρ' A' → ∀ J H', OutT H0 σ H A ρ H' A' ρ' → Src H0 σ H' A' ρ' J xs chk → xs.length ≤ sizeLine → R J H'
def chkL (u : U) (xs : List D) : KS := fun ρ A => lstOf ρ A u = some xs
def chkT : KS := fun _ _ => True
def chkF (a : Addr) (od : Obj) (u : HO) (kvs : List (D × D)) : KS := fun _ A => (A a).map (·.ob) = some (.fz od u kvs)
def charsD (x : Str) : List D := x.cps.toList.map fun c => D.str ⟨#[c]⟩
/-- what is walked, list, tuple, text or locked dict -/
def wIt (u : U) (ρ : Rho) (A : Ah) (k : KI) : Prop := match u with
  | .loc i => esc (.loc i) ρ A fun x ρ2 A2 => ∃ a xs, x = .ref a ∧ lstOf ρ2 A2 (.d (.ref a)) = some xs ∧ k xs (chkL (.d (.ref a)) xs) ρ2 A2
  | .lst xs => k xs chkT ρ A
  | .d (.tup xs) => k xs chkT ρ A
  | .d (.str x) => x.cps.size ≤ sizeLine ∧ k (charsD x) chkT ρ A
  | .d (.ref a) => (∃ xs, lstOf ρ A (.d (.ref a)) = some xs ∧ k xs (chkL (.d (.ref a)) xs) ρ A) ∨ ∃ od u kvs, chkF a od u kvs ρ A ∧ k (kvs.map (·.1)) (chkF a od u kvs) ρ A
  | _ => False
def iAny (te : WE) : WI := fun ρ A k => te ρ A fun u ρ1 A1 => wIt u ρ1 A1 k
theorem PI.imp {X : Cx} {tg e : Expr} {t t' : TI} (h : PI X tg e t) (k : ∀ σ H Q, t' σ H Q → t σ H Q) : PI X tg e t' := ⟨fun pins s σ H R I w => h.run pins s σ H R I (k σ H R w)⟩
theorem PI.or {X : Cx} {tg e : Expr} {t t' : TI} (h : PI X tg e t) (h' : PI X tg e t') : PI X tg e (fun σ H R => t σ H R ∨ t' σ H R) := ⟨fun pins s σ H R I w => w.elim (h.run pins s σ H R I) (h'.run pins s σ H R I)⟩
section
variable {H0 H : Hp} {A : Ah} {σ : St} {ρ : Rho} {K : PySem.W.Frag}
theorem Src.lref (R : Rel H0 H A σ ρ) {a : Addr} {xs : List D} : Src H0 σ H A ρ (Itl K a) xs (chkL (.d (.ref a)) xs) := by
  have at_ : ∀ σ' H' A' ρ', OutS H0 σ H A ρ σ' H' A' ρ' → chkL (.d (.ref a)) xs ρ' A' → ∃ vs, H' a = some (.lst vs) ∧ RDs H' xs vs := fun σ' H' A' ρ' o c => by
    obtain ⟨b, vs, eb, h, r⟩ := lstOf_rel o.rel (u := .d (.ref a)) (v := .ref a) (show RD H' (.ref a) (.ref a) from .ref a) c
    cases eb
    exact ⟨vs, h, r⟩
  refine ⟨fun σ' H' A' ρ' o c => ?_, fun σ' H' A' ρ' o c i hi => ?_, fun σ' H' A' ρ' o c i v H2 y hi => ?_⟩
  · obtain ⟨vs, h, r⟩ := at_ σ' H' A' ρ' o c
    exact ⟨vs, .of h, by rw [← r.length]; exact Nat.le_refl _⟩
  · obtain ⟨vs, h, r⟩ := at_ σ' H' A' ρ' o c
    obtain ⟨v, ev, _⟩ := r.get (List.getElem?_eq_getElem hi)
    exact ⟨vs, v, .of h, ev⟩
  · obtain ⟨vs, h, r⟩ := at_ σ' H' A' ρ' o c
    obtain ⟨e, y⟩ := y
    subst e
    have ev := y vs (.of h)
    obtain ⟨x, ex, rx⟩ := r.getV ev
    exact ⟨x, ex, rx, (OutT.refl o.rel).toS⟩
theorem Src.ltmp (R : Rel H0 H A σ ρ) {a : Addr} {xs : List D} {vs : List V} (h : H a = some (.lst vs)) (r : RDs H xs vs) (n : A a = none) (no : ¬ Own σ ρ a) : Src H0 σ H A ρ (Itl K a) xs chkT := by
  have at_ : ∀ σ' H' A' ρ', OutS H0 σ H A ρ σ' H' A' ρ' → H' a = some (.lst vs) ∧ RDs H' xs vs := fun σ' H' A' ρ' o => ⟨(o.step.keep a _ h n no).1, r.keep (R.tk o.step)⟩
  refine ⟨fun σ' H' A' ρ' o c => ?_, fun σ' H' A' ρ' o c i hi => ?_, fun σ' H' A' ρ' o c i v H2 y hi => ?_⟩
  · obtain ⟨h, r⟩ := at_ σ' H' A' ρ' o
    exact ⟨vs, .of h, by rw [← r.length]; exact Nat.le_refl _⟩
  · obtain ⟨h, r⟩ := at_ σ' H' A' ρ' o
    obtain ⟨v, ev, _⟩ := r.get (List.getElem?_eq_getElem hi)
    exact ⟨vs, v, .of h, ev⟩
  · obtain ⟨h, r⟩ := at_ σ' H' A' ρ' o
    obtain ⟨e, y⟩ := y
    subst e
    have ev := y vs (.of h)
    obtain ⟨x, ex, rx⟩ := r.getV ev
    exact ⟨x, ex, rx, (OutT.refl o.rel).toS⟩
theorem Src.tup (R : Rel H0 H A σ ρ) {a : Addr} {xs : List D} {vs : List V} (h : H a = some (.tup vs)) (r : RDs H xs vs) : Src H0 σ H A ρ (Itt K a) xs chkT := by
  have at_ : ∀ σ' H' A' ρ', OutS H0 σ H A ρ σ' H' A' ρ' → H' a = some (.tup vs) ∧ RDs H' xs vs := fun σ' H' A' ρ' o => ⟨R.tk o.step a vs h, r.keep (R.tk o.step)⟩
  refine ⟨fun σ' H' A' ρ' o c => ?_, fun σ' H' A' ρ' o c i hi => ?_, fun σ' H' A' ρ' o c i v H2 y hi => ?_⟩
  · obtain ⟨h, r⟩ := at_ σ' H' A' ρ' o
    exact ⟨vs, .of h, by rw [← r.length]; exact Nat.le_refl _⟩
  · obtain ⟨h, r⟩ := at_ σ' H' A' ρ' o
    obtain ⟨v, ev, _⟩ := r.get (List.getElem?_eq_getElem hi)
    exact ⟨vs, v, .of h, ev⟩
  · obtain ⟨h, r⟩ := at_ σ' H' A' ρ' o
    obtain ⟨e, y⟩ := y
    subst e
    have ev := y vs (.of h)
    obtain ⟨x, ex, rx⟩ := r.getV ev
    exact ⟨x, ex, rx, (OutT.refl o.rel).toS⟩
def rangeD (lo : Int) (n : Nat) : List D := (List.range n).map fun (i : Nat) => D.int (lo + (i : Int))
theorem Src.range (R : Rel H0 H A σ ρ) (lo : Int) (n : Nat) : Src H0 σ H A ρ (Itr lo n) (rangeD lo n) chkT := by
  have hl : (rangeD lo n).length = n := by simp [rangeD]
  refine ⟨fun σ' H' A' ρ' o c => by rw [hl]; exact Nat.le_refl n, fun σ' H' A' ρ' o c i hi => by rw [hl] at hi; exact hi, fun σ' H' A' ρ' o c i v H2 y hi => ?_⟩
  obtain ⟨e, y⟩ := y
  subst e
  rw [hl] at hi
  refine ⟨.int (lo + (i : Int)), by simp [rangeD, hi], by rw [y]; exact .int _, (OutT.refl o.rel).toS⟩
theorem Src.str (R : Rel H0 H A σ ρ) (x : Str) : Src H0 σ H A ρ (Its x) (charsD x) chkT := by
  have hl : (charsD x).length = x.cps.size := by simp [charsD]
  refine ⟨fun σ' H' A' ρ' o c => by rw [hl]; exact Nat.le_refl _, fun σ' H' A' ρ' o c i hi => by rw [hl] at hi; exact hi, fun σ' H' A' ρ' o c i v H2 y hi => ?_⟩
  obtain ⟨e, c, ec, ev⟩ := y
  subst e ev
  refine ⟨.str ⟨#[c]⟩, by simp [charsD, ec], .str _, (OutT.refl o.rel).toS⟩
theorem frzAt {σ' : St} {H' : Hp} {A' : Ah} {ρ' : Rho} (R : Rel H0 H' A' σ' ρ') {a : Addr} {od : Obj} {u : HO} {kvs : List (D × D)} (c : chkF a od u kvs ρ' A') : H' a = some (.frz od u) ∧ RDct kvs H' (some u) := by
  obtain ⟨cl, ec, eo⟩ := Option.map_eq_some_iff.mp c
  have r := R.hp a cl ec
  rw [eo] at r
  exact r
theorem RT.key {κ : Type} {g : κ → D} : ∀ {kvs : List (D × D)} {ks : List (κ × V)} {i : Nat} {k : κ} {v : V}, RT H g kvs ks → ks[i]? = some (k, v) → (kvs.map (·.1))[i]? = some (g k)
  | _, _, _, _, _, .nil, e => by simp at e
  | _, _, 0, _, _, .cons h t, e => by
    simp at e
    subst e
    simp [h.1]
  | _, _, i + 1, _, _, .cons h t, e => by simpa using RT.key (i := i) t (by simpa using e)
theorem Src.keysK (R : Rel H0 H A σ ρ) {a : Addr} {od : Obj} {ks : List (Key × V)} {kvs : List (D × D)} : Src H0 σ H A ρ (Itk a od ks) (kvs.map (·.1)) (chkF a od (.dK ks) kvs) := by
  have at_ : ∀ σ' H' A' ρ', OutS H0 σ H A ρ σ' H' A' ρ' → chkF a od (.dK ks) kvs ρ' A' → H' a = some (.frz od (.dK ks)) ∧ RT H' kD kvs ks := fun σ' H' A' ρ' o c => by
    obtain ⟨h, r⟩ := frzAt o.rel c
    rcases r with ⟨ks', e, r⟩ | ⟨ks', e, r⟩
    · cases e; exact ⟨h, r⟩
    · cases e
  refine ⟨fun σ' H' A' ρ' o c => ?_, fun σ' H' A' ρ' o c i hi => ?_, fun σ' H' A' ρ' o c i v H2 y hi => ?_⟩
  · obtain ⟨h, r⟩ := at_ σ' H' A' ρ' o c
    exact ⟨h, by rw [List.length_map, r.length]; exact Nat.le_refl _⟩
  · obtain ⟨h, r⟩ := at_ σ' H' A' ρ' o c
    exact ⟨h, by rw [List.length_map, r.length] at hi; exact hi⟩
  · obtain ⟨h, r⟩ := at_ σ' H' A' ρ' o c
    obtain ⟨e, k, w, ek, ev⟩ := y
    subst e ev
    exact ⟨_, RT.key r ek, kD_rel k, (OutT.refl o.rel).toS⟩
theorem Src.keysT (R : Rel H0 H A σ ρ) {a : Addr} {od : Obj} {ks : List (List Key × V)} {kvs : List (D × D)} : Src H0 σ H A ρ (Itkt a od ks) (kvs.map (·.1)) (chkF a od (.dT ks) kvs) := by
  have at_ : ∀ σ' H' A' ρ', OutS H0 σ H A ρ σ' H' A' ρ' → chkF a od (.dT ks) kvs ρ' A' → H' a = some (.frz od (.dT ks)) ∧ RT H' gT kvs ks := fun σ' H' A' ρ' o c => by
    obtain ⟨h, r⟩ := frzAt o.rel c
    rcases r with ⟨ks', e, r⟩ | ⟨ks', e, r⟩
    · cases e
    · cases e; exact ⟨h, r⟩
  refine ⟨fun σ' H' A' ρ' o c => ?_, fun σ' H' A' ρ' o c i hi => ?_, fun σ' H' A' ρ' o c i v H2 y hi => ?_⟩
  · obtain ⟨h, r⟩ := at_ σ' H' A' ρ' o c
    exact ⟨h, by rw [List.length_map, r.length]; exact Nat.le_refl _⟩
  · obtain ⟨h, r⟩ := at_ σ' H' A' ρ' o c
    exact ⟨h, by rw [List.length_map, r.length] at hi; exact hi⟩
  · obtain ⟨h, r⟩ := at_ σ' H' A' ρ' o c
    obtain ⟨e, k, w, q, ek, ev, hq⟩ := y
    subst e ev
    exact ⟨_, RT.key r ek, .tup hq (kDs_rel k), (OutT.refl o.rel).toS⟩
def enumD (xs : List D) : List D := xs.zipIdx.map fun p => D.tup [.int ((p.2 : Nat) : Int), p.1]
theorem Src.enum (R : Rel H0 H A σ ρ) {a : Addr} {xs : List D} : Src H0 σ H A ρ (Ite K a) (enumD xs) (chkL (.d (.ref a)) xs) := by
  have S := Src.lref (K := K) (xs := xs) R (a := a)
  have hl : (enumD xs).length = xs.length := by simp [enumD]
  refine ⟨fun σ' H' A' ρ' o c => ?_, fun σ' H' A' ρ' o c i hi => ?_, fun σ' H' A' ρ' o c i v H2 y hi => ?_⟩
  · rw [hl]; exact S.stop σ' H' A' ρ' o c
  · rw [hl] at hi; exact S.go σ' H' A' ρ' o c i hi
  · rw [hl] at hi
    obtain ⟨T, w, ev, hT, eH, y⟩ := y
    subst ev eH
    obtain ⟨x, ex, rx, _⟩ := S.yld σ' H' A' ρ' o c i w H' ⟨rfl, y⟩ hi
    have o2 := Out.tup o.rel hT (xs := [.int ((i : Nat) : Int), x]) (vs := [.int ((i : Nat) : Int), w]) (.cons (.int _) (.cons rx .nil))
    exact ⟨_, by simp [enumD, ex], o2.val, o2.toOutT.toS⟩
end
def iAnyV (K : PySem.W.Frag) (te : TE) : TI := fun σ H R => te σ H fun v H1 => (∃ a xs, v = .ref a ∧ SqL K H1 a xs ∧ (xs.length ≤ sizeLine → R (Itl K a) H1)) ∨ (∃ a xs, v = .ref a ∧ SqT K H1 a xs ∧ (xs.length ≤ sizeLine → R (Itt K a) H1)) ∨ (∃ x, v = .str x ∧ R (Its x) H1) ∨
  (∃ d o kvs, v = .ref d ∧ H1 d = some (.frz o (.dK kvs)) ∧ (kvs.length ≤ sizeLine → R (Itk d o kvs) H1)) ∨ (∃ d o kvs, v = .ref d ∧ H1 d = some (.frz o (.dT kvs)) ∧ (kvs.length ≤ sizeLine → R (Itkt d o kvs) H1))
section
variable {X : Cx} {H0 : Hp} {tg e : Expr} {es : List Expr} {te : WE} {ta : WA} {tu : WU} {p pos : Pos}
theorem pi_anyV {t : TE} (he : PE X e t) : PI X tg e (iAnyV X.K t) := by
  refine ⟨fun pins s σ H R I h => ?_⟩
  refine thn (he.run pins s σ H _ I h) fun v s1 ⟨x, H1, I1, r1, q1⟩ => ?_
  have le : ∀ b, b ∈ [s1.heap.objs.size] → FpOk X pins H1 b := fun b hb => by
    have e : b = s1.heap.objs.size := by simpa using hb
    subst e
    exact I1.fpOk (Nat.le_refl _) (I1.hok.fresh (Nat.le_refl _))
  rcases q1 with ⟨a, xs, rfl, hq, q⟩ | ⟨a, xs, rfl, hq, q⟩ | ⟨x, rfl, q⟩ | ⟨d, o, kvs, rfl, hd, q⟩ | ⟨d, o, kvs, rfl, hd, q⟩
  · cases r1
    obtain ⟨its, rv, p, hz⟩ := I1.list hq
    exact wpAny_pyIter_list p.isList ⟨s1.heap.objs.size, [s1.heap.objs.size], _, _, H1, rfl, I1.kept (t' := s1.toks) fun b o e => Heap.get?_push_of_some _ e, turn_list a _, ⟨_, Heap.get?_push_size _ rfl, rfl, rfl⟩, le, q hz⟩
  · cases r1
    obtain ⟨its, rv, p, hz⟩ := I1.tuple hq
    exact wpAny_pyIter_tuple (show s1.heap.IsTuple a its.toArray from p) ⟨s1.heap.objs.size, [s1.heap.objs.size], _, _, H1, rfl, I1.kept (t' := s1.toks) fun b o e => Heap.get?_push_of_some _ e, turn_tuple a _, ⟨_, Heap.get?_push_size _ rfl, rfl, rfl⟩, le, q hz⟩
  · obtain ⟨t, rfl⟩ := r1
    cases ha : x.cps.all (· < 128)
    · exact wpAny_pyIter_wide ha (pi_one (tk := s1.toks) I1 _ (turn_str _ x t "str_iterator" (.inr rfl)) ⟨_, Heap.get?_push_size _ rfl, rfl, rfl⟩ q)
    · exact wpAny_pyIter_ascii ha (pi_one (tk := s1.toks) I1 _ (turn_str _ x t "str_ascii_iterator" (.inl rfl)) ⟨_, Heap.get?_push_size _ rfl, rfl, rfl⟩ q)
  · obtain rfl : v = Value.ref d := r1
    obtain ⟨hs, hgd, hx, es, ep, vs, hdt, hsz, kv, hm⟩ := I1.frzK hd
    refine iter_keys hs hgd hx hdt (pi_one (tk := s1.toks) I1 _ (turn_keys _ hdt) ⟨_, Heap.get?_push_size _ rfl, rfl, ?_⟩ (q (I1.hok d _ hd).2.1))
    rw [hsz] <;> rfl
  · obtain rfl : v = Value.ref d := r1
    obtain ⟨hs, hgd, hx, es, ep, hdt, hsz, ent⟩ := I1.frzT hd
    refine iter_keys hs hgd hx hdt (pi_one (tk := s1.toks) I1 _ (turn_keysT _ hdt) ⟨_, Heap.get?_push_size _ rfl, rfl, ?_⟩ (q (I1.hok d _ hd).2.1))
    rw [hsz] <;> rfl
theorem i_any (he : PE X e (lift H0 te)) : PI X tg e (liftI H0 (iAny te)) := by
  refine PI.imp (pi_anyV he) fun σ H R ⟨ρ, A, k, Re, h, hk⟩ => ⟨ρ, A, _, Re, h, fun u ρ1 A1 h1 v H1 o1 => ?_⟩
  have lref : ∀ {a xs ρ2 A2 H2}, lstOf ρ2 A2 (.d (.ref a)) = some xs → OutT H0 σ H A ρ H2 A2 ρ2 → k xs (chkL (.d (.ref a)) xs) ρ2 A2 → ∃ ys, SqL X.K H2 a ys ∧ (ys.length ≤ sizeLine → R (Itl X.K a) H2) := fun {a xs ρ2 A2 H2} e o h => by
    obtain ⟨b, vs, eb, hb, r⟩ := lstOf_rel o.rel (u := .d (.ref a)) (v := .ref a) (show RD H2 (.ref a) (.ref a) from .ref a) e
    cases eb
    exact ⟨vs, .of hb, fun z => hk _ _ _ _ h _ _ o (Src.lref o.rel) (by rw [r.length]; exact z)⟩
  cases u with
  | lst xs =>
    obtain ⟨a, rfl, ⟨vs, ha, r⟩, na⟩ := o1.val
    have fr := o1.fr rfl a rfl
    exact .inl ⟨a, vs, rfl, .of ha, fun z => hk _ _ _ _ h1 _ _ o1.toOutT (Src.ltmp o1.rel ha r na fun z => Re.own_live (o1.sub a z) fr) (by rw [r.length]; exact z)⟩
  | dct xs => exact h1.elim
  | loc i =>
    obtain ⟨x, ρ2, A2, ⟨a, xs, rfl, e, h2⟩, o2⟩ := esc_ok Re o1 (k := fun x ρ2 A2 => ∃ a xs, x = .ref a ∧ lstOf ρ2 A2 (.d (.ref a)) = some xs ∧ k xs (chkL (.d (.ref a)) xs) ρ2 A2) h1
    cases (show RD H1 (.ref a) v from o2.val)
    obtain ⟨ys, q, r⟩ := lref e o2.toOutT h2
    exact .inl ⟨a, ys, rfl, q, r⟩
  | d x =>
    cases x with
    | tup xs =>
      cases (show RD H1 (.tup xs) v from o1.val) with
      | tup ha r => exact .inr (.inl ⟨_, _, rfl, .of ha, fun z => hk _ _ _ _ h1 _ _ o1.toOutT (Src.tup o1.rel ha r) (by rw [r.length]; exact z)⟩)
    | str x =>
      cases (show RD H1 (.str x) v from o1.val)
      exact .inr (.inr (.inl ⟨x, rfl, hk _ _ _ _ h1.2 _ _ o1.toOutT (Src.str o1.rel x) (by simpa [charsD] using h1.1)⟩))
    | ref a =>
      cases (show RD H1 (.ref a) v from o1.val)
      rcases h1 with ⟨xs, e, h2⟩ | ⟨od, u, kvs, c, h2⟩
      · obtain ⟨ys, q, r⟩ := lref e o1.toOutT h2
        exact .inl ⟨a, ys, rfl, q, r⟩
      · obtain ⟨h, r⟩ := frzAt o1.rel c
        rcases r with ⟨ks, e, r⟩ | ⟨ks, e, r⟩
        · cases e
          exact .inr (.inr (.inr (.inl ⟨a, od, ks, rfl, h, fun z => hk _ _ _ _ h2 _ _ o1.toOutT (Src.keysK o1.rel) (by rw [List.length_map, r.length]; exact z)⟩)))
        · cases e
          exact .inr (.inr (.inr (.inr ⟨a, od, ks, rfl, h, fun z => hk _ _ _ _ h2 _ _ o1.toOutT (Src.keysT o1.rel) (by rw [List.length_map, r.length]; exact z)⟩)))
    | _ => exact h1.elim
def small (i : Int) : Prop := -(2 ^ 62) ≤ i ∧ i < 2 ^ 62
def iRange1 (ta : WA) : WI := fun ρ A k => ta ρ A fun xs ρ1 A1 => ∃ j, xs = [.int j] ∧ small j ∧ j.toNat ≤ sizeLine ∧ k (rangeD 0 j.toNat) chkT ρ1 A1
def iRange2 (ta : WA) : WI := fun ρ A k => ta ρ A fun xs ρ1 A1 => ∃ i j, xs = [.int i, .int j] ∧ small i ∧ small j ∧ (j - i).toNat ≤ sizeLine ∧ k (rangeD i (j - i).toNat) chkT ρ1 A1
theorem i_range1 {a : Expr} (hg : Gl X "range") (hm : X.mg "range" = none) (ha : PA X [a] (liftA H0 ta)) (hs : starEach [a] X.env = [(false, eval a X.env)] := by rfl) : PI X tg (.Call (.Name "range" p) [a] [] pos) (liftI H0 (iRange1 ta)) := by
  refine PI.imp (pi_range1 hg hm ha hs) fun σ H R ⟨ρ, A, k, Re, h, hk⟩ => ⟨ρ, A, _, Re, h, fun xs ρ1 A1 ⟨j, e, b, hz, h1⟩ vs H1 o1 => ?_⟩
  subst e
  have r := o1.vals
  cases r with
  | cons r t =>
    cases t
    cases r
    exact ⟨j, rfl, b.1, b.2, hk _ _ _ _ h1 _ _ o1.toOutT (Src.range o1.rel 0 j.toNat) (by simpa [rangeD] using hz)⟩
theorem i_range2 {a b : Expr} (hg : Gl X "range") (hm : X.mg "range" = none) (ha : PA X [a, b] (liftA H0 ta)) (hs : starEach [a, b] X.env = [(false, eval a X.env), (false, eval b X.env)] := by rfl) (hs2 : starEach [b] X.env = [(false, eval b X.env)] := by rfl) : PI X tg (.Call (.Name "range" p) [a, b] [] pos) (liftI H0 (iRange2 ta)) := by
  refine PI.imp (pi_range2 hg hm ha hs hs2) fun σ H R ⟨ρ, A, k, Re, h, hk⟩ => ⟨ρ, A, _, Re, h, fun xs ρ1 A1 ⟨i, j, e, b1, b2, hz, h1⟩ vs H1 o1 => ?_⟩
  subst e
  have r := o1.vals
  cases r with
  | cons r t =>
    cases r
    cases t with
    | cons r t =>
      cases t
      cases r
      exact ⟨i, j, rfl, ⟨b1.1, b1.2, b2.1, b2.2⟩, hk _ _ _ _ h1 _ _ o1.toOutT (Src.range o1.rel i (j - i).toNat) (by simpa [rangeD] using hz)⟩
def iEnumL (K : PySem.W.Frag) (ta : TA) : TI := fun σ H R => ta σ H fun vs H1 => ∃ a xs, vs = [.ref a] ∧ SqL K H1 a xs ∧ (xs.length ≤ sizeLine → R (Ite K a) H1)
theorem pi_enumL {ta : TA} {elts : List Expr} {kk : Nat} {tpos : Pos} (hg : Gl X "enumerate") (hm : X.mg "enumerate" = none) (ha : PA X [e] ta) (hs : starEach [e] X.env = [(false, eval e X.env)]) :
    PI X (.Tuple elts kk tpos) (.Call (.Name "enumerate" p) [e] [] pos) (iEnumL X.K ta) := by
  refine ⟨fun pins s σ H R I h => ?_⟩
  refine Call_ (ld_blt I hg hm boot_enumerate (PyProof.Rows.callWith_type1 (thn (ha.run pos pins s σ H _ I h) fun us s1 ⟨vs, H1, I1, r1, q1⟩ => ?_) hs rfl))
  obtain ⟨a, xs, ex, hq, q⟩ := q1
  subst ex
  cases r1 with
  | cons r rr =>
    cases rr
    cases r
    obtain ⟨its, rv, p', hz⟩ := I1.list hq
    refine call_enumerate_list p'.isList fun h' he hit hsz hk => wpAny_pyIter_enum he ?_
    have I2 : Inv X pins σ H1 { s1 with heap := h' } := I1.kept (t' := s1.toks) hk
    refine ⟨s1.heap.objs.size + 1, [s1.heap.objs.size + 1, s1.heap.objs.size], _, _, H1, rfl, I2, turn_enum a (s1.heap.objs.size + 1) s1.heap.objs.size, ⟨⟨.none, he⟩, hit, Nat.succ_ne_self _⟩, fun b hb => ?_, q hz⟩
    have e' : b = s1.heap.objs.size + 1 ∨ b = s1.heap.objs.size := by simpa using hb
    have hle : s1.heap.objs.size ≤ b := by
      rcases e' with z | z
      · rw [z]; exact Nat.le_add_right _ _
      · rw [z]; exact Nat.le_refl _
    exact I1.fpOk hle (I1.hok.fresh hle)
def iEnumW (ta : WA) : WI := fun ρ A k => ta ρ A fun xs ρ1 A1 => ∃ a ys, xs = [.ref a] ∧ lstOf ρ1 A1 (.d (.ref a)) = some ys ∧ k (enumD ys) (chkL (.d (.ref a)) ys) ρ1 A1
theorem i_enum {elts : List Expr} {kk : Nat} {tpos : Pos} (hg : Gl X "enumerate") (hm : X.mg "enumerate" = none) (ha : PA X [e] (liftA H0 ta)) (hs : starEach [e] X.env = [(false, eval e X.env)] := by rfl) :
    PI X (.Tuple elts kk tpos) (.Call (.Name "enumerate" p) [e] [] pos) (liftI H0 (iEnumW ta)) := by
  refine PI.imp (pi_enumL hg hm ha hs) fun σ H R ⟨ρ, A, k, Re, h, hk⟩ => ⟨ρ, A, _, Re, h, fun xs ρ1 A1 ⟨a, ys, e, el, h1⟩ vs H1 o1 => ?_⟩
  subst e
  have r := o1.vals
  cases r with
  | cons r t =>
    cases t
    cases r
    obtain ⟨b, vs, eb, hb, r⟩ := lstOf_rel o1.rel (u := .d (.ref a)) (v := .ref a) (show RD H1 (.ref a) (.ref a) from .ref a) el
    cases eb
    exact ⟨a, vs, rfl, .of hb, fun z => hk _ _ _ _ h1 _ _ o1.toOutT (Src.enum o1.rel) (by rw [enumD, List.length_map, List.length_zipIdx, r.length]; exact z)⟩

/-! ### for -/
def forGo (g : WG) (tb : WS) (chk : KS) (d : WD) : List D → KS
  | [] => fun ρ A => chk ρ A ∧ d.nx ρ A
  | x :: xs => fun ρ A => chk ρ A ∧ g x ρ A fun ρ1 A1 => tb { d with nx := forGo g tb chk d xs, ct := forGo g tb chk d xs, bk := d.nx } ρ1 A1
def sFor (wi : WI) (g : WG) (tb : WS) : WS := fun d ρ A => wi ρ A fun xs chk ρ1 A1 => forGo g tb chk d xs ρ1 A1
theorem s_for {iter : Expr} {body : List Stmt} {wi : WI} {g : WG} {sl : List Nat} {tb : WS} (hp : PassesOwn (model X.prog X.w) X.A X.env X.xe) (hc : X.calm = true) (hi : PI X tg iter (liftI H0 wi)) (hg : PG X tg (liftG H0 sl g)) (hb : PSs X body (liftS H0 tb))
    (hs : ∀ x, foldedSetIterable iter X.env x = pure x := by intro _; rfl) : PS X (.For tg iter body [] pos) (liftS H0 (sFor wi g tb)) := by
  refine PS.imp (ps_for hp hc hi hg hb hs) fun D σ H ⟨ρ, A, d, R, h, f⟩ => ⟨ρ, A, _, R, h, fun xs chk ρ1 A1 h1 J H1 o1 S hz => ?_⟩
  have f1 := f.behind o1.toS
  refine ⟨fun i m σ' H' => ∃ ρ' A', OutS H0 σ H1 A1 ρ1 σ' H' A' ρ' ∧ i ≤ xs.length ∧ m = xs.length - i ∧ forGo g tb chk d (xs.drop i) ρ' A', ⟨_, ρ1, A1, (OutT.refl o1.rel).toS, Nat.zero_le _, rfl, h1⟩, fun i m σ' H' ⟨ρ', A', o, hi, hm, go⟩ => ?_⟩
  by_cases hl : i < xs.length
  · obtain ⟨x, ex⟩ : ∃ x, xs[i]? = some x := ⟨xs[i], List.getElem?_eq_getElem hl⟩
    have ed : xs.drop i = x :: xs.drop (i + 1) := by
      rw [List.drop_eq_getElem_cons hl]
      rw [List.getElem?_eq_getElem hl] at ex
      cases ex
      rfl
    rw [ed] at go
    obtain ⟨c, go⟩ := go
    refine .inr ⟨S.go σ' H' A' ρ' o c i hl, fun σ2 H2 => ∃ ρ2 A2, OutS H0 σ H1 A1 ρ1 σ2 H2 A2 ρ2 ∧ forGo g tb chk d (xs.drop (i + 1)) ρ2 A2, fun σ2 H2 ⟨ρ2, A2, o2, h2⟩ => ⟨xs.length - (i + 1), by omega, ρ2, A2, o2, by omega, rfl, h2⟩, fun v H2 y => ?_⟩
    obtain ⟨x', ex', rx, o2⟩ := S.yld σ' H' A' ρ' o c i v H2 y hl
    rw [ex] at ex'
    cases ex'
    refine ⟨x, ρ', A', _, o2.rel, rx, go, fun ρ3 A3 h3 σ3 H3 o3 => ⟨ρ3, A3, _, o3.rel, h3, ?_⟩⟩
    have o13 := o.trans (o2.trans o3.toOutS)
    have f3 := f1.behind o13
    exact ⟨fun ρ4 A4 h4 σ4 H4 o4 => ⟨ρ4, A4, o13.trans o4, h4⟩, fun u A4 h4 v H4 o4 => f3.rt u A4 h4 v H4 o4, fun ρ4 A4 h4 σ4 H4 o4 => f3.nx ρ4 A4 h4 σ4 H4 o4, fun ρ4 A4 h4 σ4 H4 o4 => ⟨ρ4, A4, o13.trans o4, h4⟩⟩
  · have ei : i = xs.length := by omega
    subst ei
    rw [List.drop_length] at go
    exact .inl ⟨S.stop σ' H' A' ρ' o go.1, f1.nx _ _ go.2 _ _ o⟩
/-! ### while -/
def whN (c : WT) (tb : WS) (d : WD) : Nat → KS
  | 0 => fun _ _ => False
  | n + 1 => fun ρ A => c ρ A fun b ρ1 A1 => if b = true then tb { d with nx := whN c tb d n, ct := whN c tb d n, bk := d.nx } ρ1 A1 else d.nx ρ1 A1
def sWhile (c : WT) (tb : WS) : WS := fun d ρ A => ∃ n, whN c tb d n ρ A
theorem s_while {c : Expr} {body : List Stmt} {tc : WT} {tb : WS} (hp : PassesOwn (model X.prog X.w) X.A X.env X.xe) (hc : PT X c (liftT H0 tc)) (hb : PSs X body (liftS H0 tb)) : PS X (.While c body [] pos) (liftS H0 (sWhile tc tb)) := by
  refine PS.imp (ps_while hp hc hb) fun D σ H ⟨ρ, A, d, R, ⟨n, h⟩, f⟩ => ?_
  refine ⟨fun m σ' H' => ∃ ρ' A', OutS H0 σ H A ρ σ' H' A' ρ' ∧ whN tc tb d m ρ' A', ⟨n, ρ, A, (OutT.refl R).toS, h⟩, fun m σ' H' ⟨ρ', A', o, h'⟩ => ?_⟩
  cases m with
  | zero => exact h'.elim
  | succ m =>
    refine ⟨ρ', A', _, o.rel, h', fun b ρ1 A1 h1 H1 o1 => ?_⟩
    have o2 := o.trans o1.toS
    have f2 := f.behind o2
    cases b with
    | false => exact f2.nx _ _ h1 _ _ (OutT.refl o1.rel).toS
    | true =>
      refine ⟨fun σ2 H2 => ∃ ρ2 A2, OutS H0 σ H A ρ σ2 H2 A2 ρ2 ∧ whN tc tb d m ρ2 A2, fun σ2 H2 z => ⟨m, Nat.lt_succ_self _, z⟩, ρ1, A1, _, o1.rel, h1, ?_⟩
      exact ⟨fun ρ4 A4 h4 σ4 H4 o4 => ⟨ρ4, A4, o2.trans o4, h4⟩, fun u A4 h4 v H4 o4 => f2.rt u A4 h4 v H4 o4, fun ρ4 A4 h4 σ4 H4 o4 => f2.nx ρ4 A4 h4 σ4 H4 o4, fun ρ4 A4 h4 σ4 H4 o4 => ⟨ρ4, A4, o2.trans o4, h4⟩⟩
end
end Dn

namespace Dn
open PySem L2 PyProof.Rows PySem.W

/-! ### list comprehensions -/
def wip (vs : List Nat) : Nat → Rho → Rho
  | _, [] => []
  | n, u :: r => (if vs.contains n then none else u) :: wip vs (n + 1) r
def keepD : Option U → Option U
  | some (.d x) => some (.d x)
  | _ => none
def merge (vs : List Nat) : Nat → Rho → Rho → Rho
  | n, u :: r, w :: r' => (if vs.contains n then keepD u else w) :: merge vs (n + 1) r r'
  | _, _, _ => []
theorem wip_length (vs : List Nat) : ∀ (n : Nat) (ρ : Rho), (wip vs n ρ).length = ρ.length
  | _, [] => rfl
  | n, u :: r => by simp [wip, wip_length vs (n + 1) r]
theorem merge_length (vs : List Nat) : ∀ (n : Nat) (ρ ρ' : Rho), ρ.length = ρ'.length → (merge vs n ρ ρ').length = ρ.length
  | _, [], [], _ => rfl
  | n, u :: r, w :: r', h => by simp [merge, merge_length vs (n + 1) r r' (by simpa using h)]
  | _, [], _ :: _, h => by simp at h
  | _, _ :: _, [], h => by simp at h
theorem wip_get (vs : List Nat) : ∀ (n : Nat) (ρ : Rho) (i : Nat) (u : U), (wip vs n ρ)[i]? = some (some u) → ρ[i]? = some (some u) ∧ (n + i) ∉ vs
  | _, [], _, _, h => by simp [wip] at h
  | n, w :: r, 0, u, h => by
    by_cases c : n ∈ vs
    · simp [wip, c] at h
    · simp [wip, c] at h
      exact ⟨by simp [h], by simpa using c⟩
  | n, w :: r, i + 1, u, h => by
    have z := wip_get vs (n + 1) r i u (by simpa [wip] using h)
    exact ⟨by simpa using z.1, by rw [show n + (i + 1) = n + 1 + i by omega]; exact z.2⟩
theorem merge_get (vs : List Nat) : ∀ (n : Nat) (ρ ρ' : Rho) (i : Nat) (u : U), (merge vs n ρ ρ')[i]? = some (some u) → (∃ x, u = .d x ∧ ρ[i]? = some (some (.d x))) ∨ (ρ'[i]? = some (some u) ∧ (n + i) ∉ vs)
  | _, [], _, _, _, h => by simp [merge] at h
  | _, _ :: _, [], _, _, h => by simp [merge] at h
  | n, w :: r, w' :: r', 0, u, h => by
    by_cases c : n ∈ vs
    · simp only [merge, List.contains_eq_mem, c, decide_true, if_true, List.getElem?_cons_zero, Option.some.injEq] at h
      cases w with
      | none => simp [keepD] at h
      | some w => cases w with
        | d x => simp [keepD] at h; exact .inl ⟨x, h.symm, by simp⟩
        | _ => simp [keepD] at h
    · simp [merge, c] at h
      exact .inr ⟨by simp [h], by simpa using c⟩
  | n, w :: r, w' :: r', i + 1, u, h => by
    rcases merge_get vs (n + 1) r r' i u (by simpa [merge] using h) with ⟨x, e, z⟩ | z
    · exact .inl ⟨x, e, by simpa using z⟩
    · exact .inr ⟨by simpa using z.1, by rw [show n + (i + 1) = n + 1 + i by omega]; exact z.2⟩
section
variable {H0 H H1 : Hp} {A A1 : Ah} {σ : St} {ρ ρ1 : Rho} {vs : List Nat}
theorem Own.wip {a : Addr} (h : Own (wipe σ vs) (wip vs 0 ρ) a) : Own σ ρ a := by
  obtain ⟨i, u, e, o, es⟩ := h
  obtain ⟨e1, n⟩ := wip_get vs 0 ρ i u e
  exact ⟨i, u, e1, o, (wipe_some es).1⟩
theorem Rel.wip (R : Rel H0 H A σ ρ) : Rel H0 H A (wipe σ vs) (wip vs 0 ρ) := by
  refine ⟨R.hp, by rw [wip_length, wipe_length]; exact R.len, fun i u e => ?_, fun a z => R.fresh a z.wip, fun i j u w a ei ou ej ow si sj => ?_, R.live⟩
  · obtain ⟨e1, n⟩ := wip_get vs 0 ρ i u e
    obtain ⟨v, ev, r, nl⟩ := R.st i u e1
    exact ⟨v, by rw [wipe_out (by simpa using n)]; exact ev, r.anySt nl, nl⟩
  · exact R.apart i j u w a (wip_get vs 0 ρ i u ei).1 ou (wip_get vs 0 ρ j w ej).1 ow (wipe_some si).1 (wipe_some sj).1
theorem Own.merge {a : Addr} (h : Own σ (merge vs 0 ρ1 ρ) a) : Own (wipe σ vs) ρ a := by
  obtain ⟨i, u, e, o, es⟩ := h
  rcases merge_get vs 0 ρ1 ρ i u e with ⟨x, rfl, _⟩ | ⟨e1, n⟩
  · cases o
  · exact ⟨i, u, e1, o, by rw [wipe_out (by simpa using n)]; exact es⟩
theorem merge_ok (R1 : Rel H0 H1 A1 σ ρ1) (o : OutS H0 σ H1 A1 ρ1 (wipe σ vs) H A ρ) (sb : ∀ a, Own (wipe σ vs) ρ a → Own σ ρ1 a) : OutT H0 σ H1 A1 ρ1 H A (merge vs 0 ρ1 ρ) := by
  have tk := R1.tk o.step
  have hl : ρ1.length = ρ.length := by rw [R1.len, o.rel.len, wipe_length]
  refine ⟨⟨o.rel.hp, by rw [merge_length vs 0 ρ1 ρ hl]; exact R1.len, fun i u e => ?_, fun a z => o.rel.fresh a z.merge, fun i j u w a ei ou ej ow si sj => ?_, o.rel.live⟩, o.step, fun a z => sb a z.merge⟩
  · rcases merge_get vs 0 ρ1 ρ i u e with ⟨x, rfl, e1⟩ | ⟨e1, n⟩
    · obtain ⟨v, ev, r, nl⟩ := R1.st i _ e1
      exact ⟨v, ev, (show RD H1 x v from r).keep tk, nl⟩
    · obtain ⟨v, ev, r, nl⟩ := o.rel.st i u e1
      rw [wipe_out (by simpa using n)] at ev
      exact ⟨v, ev, r.anySt nl, nl⟩
  · rcases merge_get vs 0 ρ1 ρ i u ei with ⟨x, rfl, _⟩ | ⟨e1, n1⟩
    · cases ou
    · rcases merge_get vs 0 ρ1 ρ j w ej with ⟨x, rfl, _⟩ | ⟨e2, n2⟩
      · cases ow
      · exact o.rel.apart i j u w a e1 ou e2 ow (by rw [wipe_out (by simpa using n1)]; exact si) (by rw [wipe_out (by simpa using n2)]; exact sj)
theorem Rel.poke (R : Rel H0 H A σ ρ) {a : Addr} {vs ws : List V} (h : H a = some (.lst vs)) (nA : A a = none) (no : ¬ Own σ ρ a) : Rel H0 (upd H a (.lst ws)) A σ ρ := by
  have tk : Tk H (upd H a (.lst ws)) := fun c vs e => by rw [upd_ne (ne_of e h (by intro q; cases q))]; exact e
  refine ⟨fun b c e => ?_, R.len, fun i u e => ?_, R.fresh, R.apart, fun b n => ?_⟩
  · rw [upd_ne fun z => (by rw [z, nA] at e; cases e)]
    exact (R.hp b c e).keep tk
  · obtain ⟨v, ev, r, nl⟩ := R.st i u e
    refine ⟨v, ev, ?_, nl⟩
    cases hu : u.own with
    | false => cases u with
      | d x => exact (show RD H x v from r).keep tk
      | loc j => exact r
      | lst xs => cases hu
      | dct xs => cases hu
    | true =>
      obtain ⟨b, eb⟩ := Own.u_ob hu
      obtain ⟨a', ea, ro, na⟩ := r.owned eb
      subst ea
      refine RU.ofOb eb ?_ na
      rw [upd_ne fun z => no ⟨i, u, e, hu, by rw [ev, z]⟩]
      exact ro.keep tk
  · by_cases e : b = a
    · rw [e, upd_same]; nofun
    · rw [upd_ne e]; exact R.live b n
theorem Step.poke {O : Addr → Prop} (s : Step H1 A1 O H A) {a : Addr} {o : HO} (n : H1 a = none) : Step H1 A1 O (upd H a o) A :=
  ⟨fun b ob e na no => ⟨(by rw [upd_ne (ne_of_none e n)]; exact (s.keep b ob e na no).1), (s.keep b ob e na no).2⟩, fun b z => (by
    by_cases e : b = a
    · rw [e, upd_same]; nofun
    · rw [upd_ne e]; exact s.live b z)⟩
theorem Tk.poke {a : Addr} {vs ws : List V} (h : H a = some (.lst vs)) : Tk H (upd H a (.lst ws)) := fun c vs e => by rw [upd_ne (ne_of e h (by intro q; cases q))]; exact e
end
theorem wipe_wipe (σ : St) (vs : List Nat) : wipe (wipe σ vs) vs = wipe σ vs := by
  refine List.ext_getElem? fun j => ?_
  by_cases hj : j ∈ vs
  · rw [wipe_in hj, wipe_in hj, wipe_length]
  · rw [wipe_out hj]
def lcGo (g : WG) (tt : WT) (te : WE) (vs : List Nat) (chk : KS) (k : List D → KS) : List D → List D → KS
  | [], acc => fun ρ A => chk ρ A ∧ k acc ρ A
  | x :: xs, acc => fun ρ A => chk ρ A ∧ g x ρ A fun ρ1 A1 => tt ρ1 A1 fun b ρ2 A2 => if b = true then te ρ2 A2 fun u ρ3 A3 => esc u ρ3 A3 fun y ρ4 A4 => lcGo g tt te vs chk k xs (acc ++ [y]) (wip vs 0 ρ4) A4 else lcGo g tt te vs chk k xs acc (wip vs 0 ρ2) A2
def wLc (wi : WI) (g : WG) (tt : WT) (te : WE) (vs : List Nat) : WE := fun ρ A k => wi ρ A fun xs chk ρ1 A1 => lcGo g tt te vs chk (fun acc ρ' A' => k (.lst acc) (merge vs 0 ρ1 ρ') A') xs [] (wip vs 0 ρ1) A1
section
variable {H0 H : Hp} {σ : St} {Q : VK} {wi : WI} {g : WG} {tt : WT} {te : WE} {vs sl : List Nat}
theorem lc_imp (hsl : ∀ i ∈ sl, i ∈ vs) (w : lift H0 (wLc wi g tt te vs) σ H Q) : tLc (liftI H0 wi) (liftG H0 sl g) (liftT H0 tt) (lift H0 te) vs σ H Q := by
  obtain ⟨ρ, A, k, R, h, hk⟩ := w
  refine ⟨ρ, A, _, R, h, fun xs chk ρ1 A1 h1 J H1 o1 S hz Z hD => ?_⟩
  have R1 := o1.rel
  have noD : ∀ {σ' ρ'}, (∀ a, Own σ' ρ' a → Own σ ρ1 a) → ¬ Own σ' ρ' Z := fun sb z => R1.own_live (sb Z z) hD
  let kk : List D → KS := fun acc ρ' A' => k (.lst acc) (merge vs 0 ρ1 ρ') A'
  let Wi : Nat → Hp → Prop := fun i H => ∃ (ρ' : Rho) (A' : Ah) (acc : List D) (ws : List V), OutS H0 σ H1 A1 ρ1 (wipe σ vs) H A' ρ' ∧ (∀ a, Own (wipe σ vs) ρ' a → Own σ ρ1 a) ∧ i ≤ xs.length ∧ H Z = some (.lst ws) ∧ RDs H acc ws ∧ A' Z = none ∧ acc.length ≤ i ∧ lcGo g tt te vs chk kk (xs.drop i) acc ρ' A'
  refine ⟨fun i m H => m = xs.length - i ∧ Wi i H, ⟨_, rfl, wip vs 0 ρ1, A1, [], [], ⟨(R1.new hD).wip, Step.new R1 hD, fun a z => .inl z.wip⟩, fun a z => z.wip, Nat.zero_le _, upd_same, .nil, R1.none_of hD, Nat.le_refl _, h1⟩, fun i m H' ⟨hm, ρ', A', acc, ws, o, sb, hi, hd, ra, nA, ha, go⟩ => ?_⟩
  by_cases hl : i < xs.length
  · obtain ⟨x, ex⟩ : ∃ x, xs[i]? = some x := ⟨xs[i], List.getElem?_eq_getElem hl⟩
    have ed : xs.drop i = x :: xs.drop (i + 1) := by
      rw [List.drop_eq_getElem_cons hl]
      rw [List.getElem?_eq_getElem hl] at ex
      cases ex
      rfl
    rw [ed] at go
    obtain ⟨c, go⟩ := go
    refine .inr ⟨S.go _ H' A' ρ' o c i hl, Wi (i + 1), fun H2 w => ⟨xs.length - (i + 1), by omega, rfl, w⟩, fun v H2 y => ?_⟩
    obtain ⟨x', ex', rx, o2⟩ := S.yld _ H' A' ρ' o c i v H2 y hl
    rw [ex] at ex'
    cases ex'
    refine ⟨x, ρ', A', _, o2.rel, rx, go, fun ρ3 A3 h3 σ3 H3 o3 => ⟨(o3.wp vs hsl).trans (wipe_wipe σ vs), ρ3, A3, _, o3.rel, h3, fun b ρ4 A4 h4 H4 o4 => ?_⟩⟩
    have ow := (o3.wp vs hsl).trans (wipe_wipe σ vs)
    have o24 := o2.trans (o3.toOutS.trans o4.toS)
    have sb4 : ∀ a, Own σ3 ρ4 a → Own σ ρ1 a := fun a z => sb a (o3.sub1 a (o4.sub a z))
    cases b with
    | false =>
      simp only [Bool.false_eq_true, if_false] at h4 ⊢
      have q := o24.step.keep Z _ hd nA (noD sb)
      have oo := o.trans o24
      have rw4 := oo.rel.wip (vs := vs)
      rw [ow] at rw4
      have sbw : ∀ a, Own (wipe σ vs) (wip vs 0 ρ4) a → Own σ ρ1 a := fun a z => by
        rw [← ow] at z
        exact sb4 a z.wip
      exact ⟨wip vs 0 ρ4, A4, acc, ws, ⟨rw4, oo.step, fun a z => .inl (sbw a z)⟩, sbw, by omega, q.1, ra.keep (o.rel.tk o24.step), q.2, by omega, h4⟩
    | true =>
      simp only [if_true] at h4 ⊢
      refine ⟨ρ4, A4, _, o4.rel, h4, fun u ρ5 A5 h5 v5 H5 o5 => ?_⟩
      obtain ⟨y, ρ6, A6, h6, o6⟩ := esc_ok o4.rel o5 h5
      have o26 := o24.trans o6.toOutT.toS
      have sb6 : ∀ a, Own σ3 ρ6 a → Own σ ρ1 a := fun a z => sb4 a (o6.sub a z)
      have q := o26.step.keep Z _ hd nA (noD sb)
      have oo := o.trans o26
      have ra' := ra.keep (o.rel.tk o26.step)
      have rp := oo.rel.poke (ws := ws ++ [v5]) q.1 q.2 (noD sb6)
      have rw6 := rp.wip (vs := vs)
      rw [ow] at rw6
      have sbw : ∀ a, Own (wipe σ vs) (wip vs 0 ρ6) a → Own σ ρ1 a := fun a z => by
        rw [← ow] at z
        exact sb6 a z.wip
      refine ⟨ws, q.1, ?_, wip vs 0 ρ6, A6, acc ++ [y], ws ++ [v5], ⟨rw6, oo.step.poke hD, fun a z => .inl (sbw a z)⟩, sbw, by omega, upd_same, (ra'.app (.one o6.val)).keep (Tk.poke q.1), q.2, by simp; omega, h6⟩
      have := ra.length
      omega
  · have ei : i = xs.length := by omega
    subst ei
    rw [List.drop_length] at go
    have om := merge_ok R1 o sb
    exact .inl ⟨S.stop _ H' A' ρ' o go.1, hk _ _ _ go.2 _ _ ⟨o1.trans om, ⟨Z, rfl, ⟨ws, hd, ra⟩, nA⟩, fun _ a ea => by cases ea; exact o1.step.back hD⟩⟩
end
def wYes : WT := fun ρ A k => k true ρ A
theorem PTs.imp {X : Cx} {ifs : List Expr} {t t' : TT} (h : PTs X ifs t) (k : ∀ σ H Q, t' σ H Q → t σ H Q) : PTs X ifs t' := ⟨fun pins s σ H Q I w => h.run pins s σ H Q I (k σ H Q w)⟩
section
variable {X : Cx} {H0 : Hp} {wi : WI} {g : WG} {tt : WT} {te : WE} {sl : List Nat}
theorem ts_nil : PTs X [] (liftT H0 wYes) := PTs.imp pts_nil fun σ H Q ⟨ρ, A, k, R, h, hk⟩ => hk _ _ _ h _ (OutT.refl R)
theorem ts_one {c : Expr} {t : WT} (h : PT X c (liftT H0 t)) : PTs X [c] (liftT H0 t) := pts_one h
theorem q_lc {elt tg iter : Expr} {ifs : List Expr} {scope : Scope} {own : List (Str × Nat)} {pos : Pos} (hc : X.calm = true) (hN : X.N.Nodup) (hi : PI X tg iter (liftI H0 wi)) (ok : BlkOk X.N X.env.scope scope own)
    (hg : ∀ (s : Shared) (H : Hp) (C : Addr) (cl : List (Str × Addr)) (fp : List Addr), PG (X.blk s H scope (compEnvC scope cl C X.env) fp) tg (liftG H0 sl g)) (ht : ∀ (s : Shared) (H : Hp) (C : Addr) (cl : List (Str × Addr)) (fp : List Addr), PTs (X.blk s H scope (compEnvC scope cl C X.env) fp) ifs (liftT H0 tt))
    (he : ∀ (s : Shared) (H : Hp) (C : Addr) (cl : List (Str × Addr)) (fp : List Addr), PE (X.blk s H scope (compEnvC scope cl C X.env) fp) elt (lift H0 te)) (hsl : ∀ i ∈ sl, i ∈ own.map (·.2) := by decide) (hs : ∀ x, foldedSetIterable iter X.env x = pure x := by intro _; rfl) :
    PE X (.ListComp elt [⟨tg, iter, ifs, 0⟩] scope pos) (lift H0 (wLc wi g tt te (own.map (·.2)))) := PE.imp (pe_lc hc hN hi ok hg ht he hs) fun σ H Q w => lc_imp hsl w
theorem s_setLc {i : Nat} {y : Str} {py : Pos} {elt tg iter : Expr} {ifs : List Expr} {scope : Scope} {own : List (Str × Nat)} {pos spos : Pos} (hc : X.calm = true) (hN : X.N.Nodup)
    (hi : PI X tg iter (liftI H0 wi)) (ok : BlkOk X.N X.env.scope scope own)
    (hg : ∀ (s : Shared) (H : Hp) (C : Addr) (cl : List (Str × Addr)) (fp : List Addr), PG (X.blk s H scope (compEnvC scope cl C X.env) fp) tg (liftG H0 sl g)) (ht : ∀ (s : Shared) (H : Hp) (C : Addr) (cl : List (Str × Addr)) (fp : List Addr), PTs (X.blk s H scope (compEnvC scope cl C X.env) fp) ifs (liftT H0 tt))
    (he : ∀ (s : Shared) (H : Hp) (C : Addr) (cl : List (Str × Addr)) (fp : List Addr), PE (X.blk s H scope (compEnvC scope cl C X.env) fp) elt (lift H0 te)) 
    (hsw : swapsWith (.ListComp elt [⟨tg, iter, ifs, 0⟩] scope pos) (some (.Name y py)) spos.line X.env = pure true) (hsl : ∀ i ∈ sl, i ∈ own.map (·.2) := by decide) (hy : X.N[i]? = some y := by rfl) (hyl : X.env.scope.names.lookup y = some .local := by rfl) (hs : ∀ x, foldedSetIterable iter X.env x = pure x := by intro _; rfl) :
    PS X (.Assign [.Name y py] (.ListComp elt [⟨tg, iter, ifs, 0⟩] scope pos) spos) (liftS H0 (sSet i (wLc wi g tt te (own.map (·.2))))) :=
  PS.imp (ps_setLc hc hN hy hyl hsw hi ok hg ht he hs) fun D σ H ⟨ρ, A, d, R, h, f⟩ => lc_imp hsl ⟨ρ, A, _, R, h, fun u ρ' A' h' v H' o => by
    obtain ⟨ρ2, A2, h2, o2⟩ := setV_ok R o h'
    exact f.nx _ _ h2 _ _ o2⟩
end

/-! ### a local's list or dict let out; a dict locked -/
def escL (ρ : Rho) (A : Ah) (k : KS) : Prop := k ρ A ∨ ∃ i, esc (.loc i) ρ A fun _ ρ' A' => k ρ' A'
def wOut (t : WE) : WE := fun ρ A k => escL ρ A fun ρ' A' => t ρ' A' k
def sOut (t : WS) : WS := fun d ρ A => escL ρ A fun ρ' A' => t d ρ' A'
theorem escL_ok {H0 H : Hp} {A : Ah} {σ : St} {ρ : Rho} {k : KS} (R : Rel H0 H A σ ρ) (h : escL ρ A k) : ∃ ρ' A', k ρ' A' ∧ OutT H0 σ H A ρ H A' ρ' := by
  rcases h with h | ⟨i, h⟩
  · exact ⟨ρ, A, h, OutT.refl R⟩
  · have h' := h
    obtain ⟨b, eb, _⟩ := h'
    have : ∃ v, σ[i]? = some (some v) := by
      simp only [obOf] at eb
      split at eb
      · rename_i u eu
        obtain ⟨v, ev, _⟩ := R.st i u eu
        exact ⟨v, ev⟩
      · cases eb
    obtain ⟨v, ev⟩ := this
    obtain ⟨x, ρ2, A2, h2, o2⟩ := esc_ok R (Out.here R (u := .loc i) (v := v) ev rfl) h
    exact ⟨ρ2, A2, h2, o2.toOutT⟩
theorem q_out {X : Cx} {H0 : Hp} {e : Expr} {t : WE} (h : PE X e (lift H0 t)) : PE X e (lift H0 (wOut t)) := PE.imp h fun σ H Q ⟨ρ, A, k, R, h, hk⟩ => by
  obtain ⟨ρ', A', h', o⟩ := escL_ok R h
  exact ⟨ρ', A', k, o.rel, h', hk.behind o⟩
theorem s_out {X : Cx} {H0 : Hp} {e : Stmt} {t : WS} (h : PS X e (liftS H0 t)) : PS X e (liftS H0 (sOut t)) := PS.imp h fun D σ H ⟨ρ, A, d, R, h, f⟩ => by
  obtain ⟨ρ', A', h', o⟩ := escL_ok R h
  exact ⟨ρ', A', d, o.rel, h', f.behind o.toS⟩
def lkAt (A : Ah) (a : Addr) (t : Tag) (od : Obj) (u : HO) (kvs : List (D × D)) (k : Ah → Prop) : Prop := A a = some ⟨t, .fz od u kvs⟩ ∧ k (up A a ⟨t, .dct kvs⟩)
def wLock (t : WE) : WE := fun ρ A k => ∃ a tg kvs, A a = some ⟨tg, .dct kvs⟩ ∧ ∀ od u, t ρ (up A a ⟨tg, .fz od u kvs⟩) fun x ρ' A' => lkAt A' a tg od u kvs fun A2 => k x ρ' A2
def sLock (t : WS) : WS := fun d ρ A => ∃ a tg kvs, A a = some ⟨tg, .dct kvs⟩ ∧ ∀ od u, t ⟨fun ρ' A' => lkAt A' a tg od u kvs fun A2 => d.nx ρ' A2, fun x A' => lkAt A' a tg od u kvs fun A2 => d.rt x A2, fun ρ' A' => lkAt A' a tg od u kvs fun A2 => d.bk ρ' A2, fun ρ' A' => lkAt A' a tg od u kvs fun A2 => d.ct ρ' A2⟩ ρ (up A a ⟨tg, .fz od u kvs⟩)
section
variable {H0 H : Hp} {A : Ah} {σ : St} {ρ : Rho}
theorem lock_in (R : Rel H0 H A σ ρ) {a : Addr} {tg : Tag} {kvs : List (D × D)} (e : A a = some ⟨tg, .dct kvs⟩) : ∃ u, H a = some u ∧ Mut (some u) ∧ RDct kvs H (some u) ∧ ∀ od, OutT H0 σ H A ρ (upd H a (.frz od u)) (up A a ⟨tg, .fz od u kvs⟩) ρ := by
  have r : RDct kvs H (H a) := R.hp a _ e
  have ho : ∃ u, H a = some u ∧ Mut (some u) ∧ ∀ xs, u ≠ .tup xs := by
    rcases r with ⟨ks, e, _⟩ | ⟨ks, e, _⟩
    · exact ⟨_, e, trivial, nofun⟩
    · exact ⟨_, e, trivial, nofun⟩
  obtain ⟨u, hu, mu, nt⟩ := ho
  refine ⟨u, hu, mu, by rw [← hu]; exact r, fun od => ?_⟩
  have tk : Tk H (upd H a (.frz od u)) := fun c vs e => by rw [upd_ne (ne_of e hu fun q => nt vs q.symm)]; exact e
  rw [hu] at r
  exact R.write e tg (b := .fz od u kvs) (o' := .frz od u) ⟨rfl, r.keep tk⟩
theorem lock_out (R : Rel H0 H A σ ρ) {a : Addr} {tg : Tag} {kvs : List (D × D)} {od : Obj} {u : HO} (e : A a = some ⟨tg, .fz od u kvs⟩) : H a = some (.frz od u) ∧ OutT H0 σ H A ρ (upd H a u) (up A a ⟨tg, .dct kvs⟩) ρ := by
  obtain ⟨h, r⟩ : H a = some (.frz od u) ∧ RDct kvs H (some u) := R.hp a _ e
  refine ⟨h, R.write e tg (b := .dct kvs) (o' := u) ?_⟩
  exact RDct.keep (fun c vs e => by rw [upd_ne (ne_of e h (by intro q; cases q))]; exact e) r
theorem q_lock {X : Cx} {e : Expr} {t : WE} (h : PE X e (lift H0 t)) : PE X e (lift H0 (wLock t)) := PE.imp (pe_lock h) fun σ H Q ⟨ρ, A, k, R, ⟨a, tg, kvs, ea, h⟩, hk⟩ => by
  obtain ⟨u, hu, mu, r, lk⟩ := lock_in R ea
  refine ⟨a, u, hu, mu, fun od => ⟨ρ, _, _, (lk od).rel, h od u, fun x ρ' A' ⟨e, hx⟩ v H' o => ?_⟩⟩
  obtain ⟨eh, o3⟩ := lock_out o.rel e
  exact ⟨eh, hk _ _ _ hx _ _ ⟨(lk od).trans (o.toOutT.trans o3), o.stay (lk od).rel o3.step, fun ow c ec => (lk od).step.back (o.fr ow c ec)⟩⟩
theorem OutR.unlock {H1 : Hp} {A1 : Ah} {x : U} {v : V} {a : Addr} {tg : Tag} {kvs : List (D × D)} {od : Obj} {u : HO} (o : OutR H0 σ H A ρ H1 A1 x v) (e : A1 a = some ⟨tg, .fz od u kvs⟩) : H1 a = some (.frz od u) ∧ OutR H0 σ H A ρ (upd H1 a u) (up A1 a ⟨tg, .dct kvs⟩) x v := by
  have R : Rel H0 H1 A1 [] [] := ⟨o.hp, rfl, fun i u e => by simp at e, fun a ⟨i, u, e, _⟩ => by simp at e, fun i j u w a e => by simp at e, o.live⟩
  obtain ⟨eh, o3⟩ := lock_out R e
  refine ⟨eh, o3.rel.hp, ?_, ⟨fun c ob q n p => ?_, fun c z => o3.step.live c (o.step.live c z)⟩, o.fr, o3.rel.live⟩
  · have noown : ∀ c, ¬ Own ([] : St) ([] : Rho) c := fun c ⟨i, u, e, _⟩ => by simp at e
    have tk := R.tk o3.step
    have val := o.val
    cases x with
    | d x => exact (show RD H1 x v from val).keep tk
    | lst xs =>
      obtain ⟨c, ec, ⟨ws, hc, r⟩, n⟩ := val
      obtain ⟨h1, n1⟩ := o3.step.keep c _ hc n (noown c)
      exact ⟨c, ec, ⟨ws, h1, r.keep tk⟩, n1⟩
    | dct xs =>
      obtain ⟨c, ec, r, n⟩ := val
      cases q : H1 c with
      | none => exact absurd q (show RO H1 (H1 c) (.dct xs) from r).some
      | some ob =>
        obtain ⟨h1, n1⟩ := o3.step.keep c _ q n (noown c)
        refine ⟨c, ec, ?_, n1⟩
        rw [h1, ← q]
        exact RO.keep tk r
    | loc i => exact val
  · obtain ⟨h1, n1⟩ := o.step.keep c ob q n p
    exact o3.step.keep c ob h1 n1 fun ⟨i, u, e, _⟩ => by simp at e
theorem s_lock {X : Cx} {e : Stmt} {t : WS} (h : PS X e (liftS H0 t)) : PS X e (liftS H0 (sLock t)) := PS.imp (ps_lock h) fun D σ H ⟨ρ, A, d, R, ⟨a, tg, kvs, ea, h⟩, f⟩ => by
  obtain ⟨u, hu, mu, r, lk⟩ := lock_in R ea
  refine ⟨a, u, hu, mu, fun od => ⟨ρ, _, _, (lk od).rel, h od u, ?_⟩⟩
  have st : ∀ {ρ' A' σ' H'}, A' a = some ⟨tg, .fz od u kvs⟩ → OutS H0 σ (upd H a (.frz od u)) (up A a ⟨tg, .fz od u kvs⟩) ρ σ' H' A' ρ' → H' a = some (.frz od u) ∧ OutS H0 σ H A ρ σ' (upd H' a u) (up A' a ⟨tg, .dct kvs⟩) ρ' := fun {ρ' A' σ' H'} e o => by
    obtain ⟨eh, o3⟩ := lock_out o.rel e
    exact ⟨eh, (lk od).toS.trans (o.trans o3.toS)⟩
  refine ⟨fun ρ' A' ⟨e, h⟩ σ' H' o => ?_, fun x A' ⟨e, h⟩ v H' o => ?_, fun ρ' A' ⟨e, h⟩ σ' H' o => ?_, fun ρ' A' ⟨e, h⟩ σ' H' o => ?_⟩
  · obtain ⟨eh, o'⟩ := st e o
    exact ⟨eh, f.nx _ _ h _ _ o'⟩
  · obtain ⟨eh, o'⟩ := o.unlock e
    exact ⟨eh, f.rt _ _ h _ _ ((lk od).toS.thenR o')⟩
  · obtain ⟨eh, o'⟩ := st e o
    exact ⟨eh, f.bk _ _ h _ _ o'⟩
  · obtain ⟨eh, o'⟩ := st e o
    exact ⟨eh, f.ct _ _ h _ _ o'⟩
end
end Dn

namespace Dn
open PySem L2 PyProof.Rows PySem.W

/-! ### defs: what a call asks and gives -/
abbrev SpW := List D → Ah → (U → Ah → Prop) → Prop
/-- behind a call -/
structure OutC (H : Hp) (A : Ah) (H' : Hp) (A' : Ah) (u : U) (v : V) : Prop where
  hp : ∀ a c, A' a = some c → RO H' (H' a) c.ob
  val : RU H' A' [] u v
  step : Step H A (fun _ => False) H' A'
  fr : u.own = true → ∀ a, v = .ref a → H a = none
def toSp (w : SpW) : Sp := fun vs H Q _ => ∃ xs A k, (∀ a c, A a = some c → RO H (H a) c.ob) ∧ RDs H xs vs ∧ w xs A k ∧ ∀ u A', k u A' → ∀ v H', OutC H A H' A' u v → Q v H'
def bodyW (n m : Nat) (tb : WS) : SpW := fun xs A k => xs.length = n ∧ tb ⟨fun _ A' => k (.d .non) A', k, fun _ _ => False, fun _ _ => False⟩ (xs.map (fun x => some (U.d x)) ++ List.replicate (m - n) none) A
def wFn (sp : SpW) (ta : WA) : WE := fun ρ A k => ta ρ A fun xs ρ1 A1 => sp xs A1 fun u A2 => k u ρ1 A2
def wMeth (C : Addr) (m : Str) (sp : SpW) (te : WE) (ta : WA) : WE := fun ρ A k => te ρ A fun x ρ1 A1 => ∃ a tg fs, x = .d (.ref a) ∧ A1 a = some ⟨tg, .ins C fs⟩ ∧ fs.lookup m = none ∧ ta ρ1 A1 fun xs ρ2 A2 => sp (.ref a :: xs) A2 fun u A3 => k u ρ2 A3
def wMake (C : Addr) (sp : SpW) (ta : WA) : WE := fun ρ A k => ta ρ A fun xs ρ1 A1 => ∃ tg : Tag, ∀ a, A1 a = none → sp (.ref a :: xs) (up A1 a ⟨tg, .ins C []⟩) fun u A2 => u = .d .non ∧ k (.d (.ref a)) ρ1 A2
section
variable {H0 H H1 : Hp} {A A1 : Ah} {σ : St} {ρ : Rho} {u : U} {v : V}
theorem Rel.stepC (R : Rel H0 H A σ ρ) (hp : ∀ a c, A1 a = some c → RO H1 (H1 a) c.ob) (s : Step H A (fun _ => False) H1 A1) : Rel H0 H1 A1 σ ρ := by
  have tk : Tk H H1 := fun a vs h => (s.keep a _ h (R.noTupA h) fun z => z).1
  refine ⟨hp, R.len, fun i u e => ?_, R.fresh, R.apart, fun a n => s.live a (R.live a n)⟩
  obtain ⟨v, ev, r, nl⟩ := R.st i u e
  refine ⟨v, ev, ?_, nl⟩
  cases hu : u.own with
  | false => cases u with
    | d x => exact (show RD H x v from r).keep tk
    | loc j => exact r
    | lst xs => cases hu
    | dct xs => cases hu
  | true =>
    obtain ⟨b, eb⟩ := Own.u_ob hu
    obtain ⟨a, ea, ro, na⟩ := r.owned eb
    subst ea
    cases q : H a with
    | none => exact absurd q ro.some
    | some ob =>
      obtain ⟨h1, n1⟩ := s.keep a ob q na fun z => z
      refine RU.ofOb eb ?_ n1
      rw [h1, ← q]
      exact ro.keep tk
theorem RU.noSt (r : RU H A [] u v) : RU H A σ u v := by
  cases u with
  | d x => exact r
  | lst xs => exact r
  | dct xs => exact r
  | loc j => exact absurd (show ([] : St)[j]? = some (some v) from r) (by simp)
theorem OutC.out (R : Rel H0 H A σ ρ) (o : OutC H A H1 A1 u v) : Out H0 σ H A ρ H1 A1 ρ u v :=
  ⟨⟨R.stepC o.hp o.step, ⟨fun a ob h n _ => o.step.keep a ob h n fun z => z, o.step.live⟩, fun _ z => z⟩, o.val.noSt, o.fr⟩
end
section
variable {P : Program} {w : World} {K : PySem.W.Frag} {mg : Str → Option Value} {base : Heap}
theorem start_rel {H : Hp} {A : Ah} {xs : List D} {vs : List V} {N : List Str} (hp : ∀ a c, A a = some c → RO H (H a) c.ob) (r : RDs H xs vs) : Rel H H A (L2.start N vs) (xs.map (fun x => some (U.d x)) ++ List.replicate (N.length - xs.length) none) := by
  have key : ∀ (i : Nat) (u : U), (xs.map (fun x => some (U.d x)) ++ List.replicate (N.length - xs.length) none)[i]? = some (some u) → ∃ x : D, u = U.d x ∧ ∃ v, (L2.start N vs)[i]? = some (some v) ∧ RD H x v := fun i u e => by
    by_cases hi : i < xs.length
    · rw [List.getElem?_append_left (by simpa using hi)] at e
      rw [List.getElem?_map] at e
      cases q : xs[i]? with
      | none => rw [q] at e; cases e
      | some x =>
        rw [q] at e
        cases e
        obtain ⟨v, ev, rv⟩ := r.get q
        have hv : i < vs.length := (List.getElem?_eq_some_iff.mp ev).1
        refine ⟨x, rfl, v, ?_, rv⟩
        unfold L2.start
        rw [List.getElem?_append_left (by simpa using hv), List.getElem?_map, ev]
        rfl
    · rw [List.getElem?_append_right (by simpa using hi)] at e
      rw [List.getElem?_replicate] at e
      split at e <;> cases e
  have noown : ∀ a, ¬ Own (L2.start N vs) (xs.map (fun x => some (U.d x)) ++ List.replicate (N.length - xs.length) none) a := fun a ⟨i, u, e, o, _⟩ => by
    obtain ⟨x, rfl, _⟩ := key i u e
    cases o
  refine ⟨hp, ?_, fun i u e => ?_, fun a z => absurd z (noown a), fun i j u w a e o => ?_, fun _ n => n⟩
  · unfold L2.start
    rw [List.length_append, List.length_append, List.length_map, List.length_map, List.length_replicate, List.length_replicate, r.length]
  · obtain ⟨x, rfl, v, ev, rv⟩ := key i u e
    exact ⟨v, ev, rv, nofun⟩
  · obtain ⟨x, rfl, _⟩ := key i u e
    cases o
theorem bodyW_len {n m : Nat} {tb : WS} : ∀ vs H Q E, toSp (bodyW n m tb) vs H Q E → vs.length = n := fun vs H Q E ⟨xs, A, k, _, r, ⟨hl, _⟩, _⟩ => by rw [← r.length]; exact hl
/-- a def by its body -/
theorem fnW {x qual : Str} {st : Stmt} {f : Addr} {fd : FuncData} {N ps : List Str} {k : Nat} {tb : WS} (F : Fun K x qual st f fd) (S : FnScope N ps (defScope st))
    (hb : ∀ (cdv : Value) (A : Around) (outer : List Env) (s : Shared) (H : Hp) (E : XK) (H0 : Hp), Room k (A.deeper (envOfC qual (defScope st) s.heap.objs.size f cdv)) → PSs (cxOf CX0 P w K mg base N qual (defScope st) f cdv A outer s H E).nox (defBody st) (liftS H0 tb)) :
    FnOk P w K mg base CX0 (k + 1) f fd ps (toSp (bodyW ps.length N.length tb)) := by
  refine F.ok S bodyW_len fun cdv A outer s H vs Q E hr ⟨xs, Ah, kk, hp, r, ⟨hl, h⟩, hk⟩ => ⟨_, hb cdv A outer s H E H hr, _, Ah, _, start_rel (N := N) hp r, by rw [hl]; exact h, ?_⟩
  have noown : ∀ a, ¬ Own (L2.start N vs) (xs.map (fun x => some (U.d x)) ++ List.replicate (N.length - xs.length) none) a := fun a ⟨i, u, e, o, _⟩ => by
    by_cases hi : i < xs.length
    · rw [List.getElem?_append_left (by simpa using hi), List.getElem?_map] at e
      cases q : xs[i]? with
      | none => rw [q] at e; cases e
      | some x => rw [q] at e; cases e; cases o
    · rw [List.getElem?_append_right (by simpa using hi), List.getElem?_replicate] at e
      split at e <;> cases e
  refine ⟨fun ρ' A' h' σ' H' o => hk _ _ h' _ _ ⟨o.rel.hp, show RD _ _ _ from .non, ⟨fun a ob e n _ => o.step.keep a ob e n (noown a), o.step.live⟩, nofun⟩, fun u A' h' v H' o => hk _ _ h' _ _ ⟨o.hp, o.val, ⟨fun a ob e n _ => o.step.keep a ob e n (noown a), o.step.live⟩, o.fr⟩, fun _ _ h' => h'.elim, fun _ _ h' => h'.elim⟩
/-- a def, a method, a class of the text that is known to keep its promise -/
structure Cal (P : Program) (w : World) (K : PySem.W.Frag) (mg : Str → Option Value) (base : Heap) (k : Nat) (x : Str) (sp : SpW) : Prop where
  ex : ∃ (f : Addr) (fd : FuncData) (ps : List Str), FnOk P w K mg base CX0 k f fd ps (toSp sp) ∧ mg x = some (.ref f) ∧ PySem.W.keepIn K (.ref f) = true ∧ Binds K fd ps []
structure Met (P : Program) (w : World) (K : PySem.W.Frag) (mg : Str → Option Value) (base : Heap) (k : Nat) (C : Addr) (m : Str) (sp : SpW) : Prop where
  ex : ∃ (f : Addr) (fd : FuncData) (ps : List Str), Cls K C ∧ Meth K C m f ∧ FnOk P w K mg base CX0 k f fd ps (toSp sp) ∧ Binds K fd ps []
structure Mak (P : Program) (w : World) (K : PySem.W.Frag) (mg : Str → Option Value) (base : Heap) (k : Nat) (x : Str) (C : Addr) (sp : SpW) : Prop where
  ex : ∃ (f : Addr) (fd : FuncData) (ps : List Str), Mk K C f ∧ FnOk P w K mg base CX0 k f fd ps (toSp sp) ∧ mg x = some (.ref C) ∧ Binds K fd ps []
theorem Cal.imp {k : Nat} {x : Str} {sp sp' : SpW} (c : Cal P w K mg base k x sp) (h : ∀ xs A k, sp' xs A k → sp xs A k) : Cal P w K mg base k x sp' := by
  obtain ⟨f, fd, ps, F, a, b, d⟩ := c.ex
  exact ⟨f, fd, ps, F.imp fun vs H Q E ⟨xs, A, k, hp, r, hs, hk⟩ => ⟨xs, A, k, hp, r, h _ _ _ hs, hk⟩, a, b, d⟩
end
section
variable {X : Cx} {H0 : Hp} {k j : Nat} {C : Addr} {x m : Str} {sp : SpW} {p pos apos : Pos} {e o : Expr} {es : List Expr} {te : WE} {ta : WA}
theorem fn_lift : ∀ σ H Q, lift H0 (wFn sp ta) σ H Q → tCall (toSp sp) [] E0 (liftA H0 ta) σ H Q := fun σ H Q ⟨ρ, A, k, R, h, hk⟩ =>
  ⟨ρ, A, _, R, h, fun xs ρ1 A1 h1 vs H1 o1 => by
    show toSp sp (vs ++ []) H1 Q E0
    rw [List.append_nil]
    exact ⟨xs, A1, _, o1.rel.hp, o1.vals, h1, fun u A' h' v H' r => (hk.behind o1.toOutT) _ _ _ h' _ _ (r.out o1.rel)⟩⟩
theorem q_call (c : Cal X.prog X.w X.K X.mg X.base k x sp) (hr : Room j X.A) (hk : k ≤ j) (hg : Gl X x) (ha : PA X (e :: es) (liftA H0 ta))
    (hdb : (x == ("__debug__" : Str)) = false := by decide) (he : starEach (e :: es) X.env = (false, eval e X.env) :: starEach es X.env := by rfl) (hpl : (backTo pos (starEach es X.env)).any (·.1) = false := by rfl) :
    PE X (.Call (.Name x p) (e :: es) [] pos) (lift H0 (wFn sp ta)) := by
  obtain ⟨f, fd, ps, F, hm, kp, b⟩ := c.ex
  exact PE.imp (pe_call (dvs := []) F (hr.mono hk) hg hm kp b .nil pass0 ha hdb he hpl) fn_lift
theorem meth_lift : ∀ σ H Q, lift H0 (wMeth C m sp te ta) σ H Q → tMeth C m (toSp sp) [] E0 (lift H0 te) (liftA H0 ta) σ H Q := fun σ H Q ⟨ρ, A, k, R, h, hk⟩ =>
  ⟨ρ, A, _, R, h, fun x ρ1 A1 ⟨a, tg, fs, ex, ea, el, h1⟩ v H1 o1 => by
    subst ex
    cases (show RD H1 (.ref a) v from o1.val)
    obtain ⟨dx, gs, eg, r⟩ := o1.rel.hp a _ ea
    refine ⟨a, dx, gs, rfl, eg, RF.none r el, ρ1, A1, _, o1.rel, h1, fun xs ρ2 A2 h2 vs H2 o2 => ?_⟩
    show toSp sp (V.ref a :: (vs ++ [])) H2 Q E0
    rw [List.append_nil]
    exact ⟨.ref a :: xs, A2, _, o2.rel.hp, .cons (.ref a) o2.vals, h2, fun u A' h' v H' r => (hk.behind (o1.toOutT.trans o2.toOutT)) _ _ _ h' _ _ (r.out o2.rel)⟩⟩
theorem q_meth {pl : Sem Bool} (c : Met X.prog X.w X.K X.mg X.base k C m sp) (hr : Room j X.A) (hk : k ≤ j) (ho : PE X o (lift H0 te)) (ha : PA X (e :: es) (liftA H0 ta))
    (hst : starEach (e :: es) X.env = (false, eval e X.env) :: starEach es X.env := by rfl) (hpl : (backTo pos (starEach es X.env)).any (·.1) = false := by rfl)
    (ht : eval (.Call (.Attribute o m apos) (e :: es) [] pos) X.env = (do
      let ov ← eval o X.env
      standAt apos.atName
      let (f, first) ← holding [ov] (getMethod ov m pl)
      callWith pos f first (backTo pos (starEach (e :: es) X.env)) (backToKw pos (keywordEach [] X.env))) := by rfl) :
    PE X (.Call (.Attribute o m apos) (e :: es) [] pos) (lift H0 (wMeth C m sp te ta)) := by
  obtain ⟨f, fd, ps, hc, hm, F, b⟩ := c.ex
  exact PE.imp (pe_meth (pl := pl) (dvs := []) ho hc hm F (hr.mono hk) b .nil pass0 ha hst hpl ht) meth_lift
theorem q_meth0 {pl : Sem Bool} (c : Met X.prog X.w X.K X.mg X.base k C m sp) (hr : Room j X.A) (hk : k ≤ j) (ho : PE X o (lift H0 te))
    (ht : eval (.Call (.Attribute o m apos) [] [] pos) X.env = (do
      let ov ← eval o X.env
      standAt apos.atName
      let (f, first) ← holding [ov] (getMethod ov m pl)
      callWith pos f first (backTo pos (starEach [] X.env)) (backToKw pos (keywordEach [] X.env))) := by rfl) :
    PE X (.Call (.Attribute o m apos) [] [] pos) (lift H0 (wMeth C m sp te wNil)) := by
  obtain ⟨f, fd, ps, hc, hm, F, b⟩ := c.ex
  refine PE.imp (pe_meth0 (pl := pl) (dvs := []) ho hc hm F (hr.mono hk) b .nil pass0 ht) fun σ H Q ⟨ρ, A, k, R, h, hk⟩ => ⟨ρ, A, _, R, h, fun x ρ1 A1 ⟨a, tg, fs, ex, ea, el, h1⟩ v H1 o1 => ?_⟩
  subst ex
  cases (show RD H1 (.ref a) v from o1.val)
  obtain ⟨dx, gs, eg, r⟩ := o1.rel.hp a _ ea
  exact ⟨a, dx, gs, rfl, eg, RF.none r el, [.ref a], A1, _, o1.rel.hp, .cons (.ref a) .nil, h1, fun u A' h' v H' r => (hk.behind o1.toOutT) _ _ _ h' _ _ (r.out o1.rel)⟩
theorem make_at {H H1 : Hp} {A A1 : Ah} {σ : St} {ρ ρ1 : Rho} {xs : List D} {vs : List V} {k : K1} {Q : VK} {tg : Tag} (o1 : OutA H0 σ H A ρ H1 A1 ρ1 xs vs) (h : ∀ a, A1 a = none → sp (.ref a :: xs) (up A1 a ⟨tg, .ins C []⟩) fun u A2 => u = .d .non ∧ k (.d (.ref a)) ρ1 A2) (hk : Kq H0 σ H A ρ k Q) :
    ∀ x dx, H1 x = none → H1 dx = none → dx ≠ x → toSp sp (.ref x :: vs) (upd (upd H1 dx (.own x)) x (.ins C dx [])) (fun v H2 => v = .non ∧ Q (.ref x) H2) E0 := fun x dx nx ndx ne => by
  have R1 := o1.rel
  have a1 := OutT.new R1 ndx (o := .own x)
  have nx' : upd H1 dx (.own x) x = none := by rw [upd_ne (Ne.symm ne)]; exact nx
  have a2 := OutT.new a1.rel nx' (o := .ins C dx [])
  have nA : A1 x = none := R1.none_of nx
  have nO : ¬ Own σ ρ1 x := fun z => R1.own_live z nx
  have R3 : Rel H0 (upd (upd H1 dx (.own x)) x (.ins C dx [])) (up A1 x ⟨tg, .ins C []⟩) σ ρ1 := a2.rel.track ⟨dx, [], upd_same, .nil⟩ nO
  have s3 : Step H1 A1 (Own σ ρ1) (upd (upd H1 dx (.own x)) x (.ins C dx [])) (up A1 x ⟨tg, .ins C []⟩) := by
    have s := a1.step.trans a2.step fun c z => .inl z
    refine ⟨fun c ob e n p => ?_, s.live⟩
    obtain ⟨h1, n1⟩ := s.keep c ob e n p
    exact ⟨h1, by rw [up_ne fun z => (by rw [z, nx] at e; cases e)]; exact n⟩
  have o3 : OutT H0 σ H1 A1 ρ1 (upd (upd H1 dx (.own x)) x (.ins C dx [])) (up A1 x ⟨tg, .ins C []⟩) ρ1 := ⟨R3, s3, fun _ z => z⟩
  refine ⟨.ref x :: xs, _, _, R3.hp, .cons (.ref x) (o1.vals.keep (R1.tk s3)), h x nA, fun u A' ⟨eu, h'⟩ v H' r => ?_⟩
  subst eu
  cases (show RD H' .non v from r.val)
  have o4 := (r.out R3).toOutT
  exact ⟨rfl, hk _ _ _ h' _ _ ⟨o1.toOutT.trans (o3.trans o4), show RD _ _ _ from .ref x, nofun⟩⟩
theorem q_make (c : Mak X.prog X.w X.K X.mg X.base k x C sp) (hr : Room j X.A) (hk : k + 1 ≤ j) (hg : Gl X x) (ha : PA X (e :: es) (liftA H0 ta))
    (hdb : (x == ("__debug__" : Str)) = false := by decide) (he : starEach (e :: es) X.env = (false, eval e X.env) :: starEach es X.env := by rfl) (hpl : (backTo pos (starEach es X.env)).any (·.1) = false := by rfl) :
    PE X (.Call (.Name x p) (e :: es) [] pos) (lift H0 (wMake C sp ta)) := by
  obtain ⟨f, fd, ps, M, F, hm, b⟩ := c.ex
  refine PE.imp (pe_make (dvs := []) M F (hr.mono hk) hg hm b .nil pass0 ha hdb he hpl) fun σ H Q ⟨ρ, A, k, R, h, hk⟩ => ⟨ρ, A, _, R, h, fun xs ρ1 A1 ⟨tg, h1⟩ vs H1 o1 => ?_⟩
  show ∀ x dx, H1 x = none → H1 dx = none → dx ≠ x → toSp sp (.ref x :: (vs ++ [])) (upd (upd H1 dx (.own x)) x (.ins C dx [])) (fun v H2 => v = .non ∧ Q (.ref x) H2) E0
  rw [List.append_nil]
  exact make_at o1 h1 hk
end
/-! ### the script -/
def SqK (K : PySem.W.Frag) (a : Addr) (xs : List V) : Prop := ∃ (o : Obj) (its : Array Value) (n : Nat), K.lookup a = some o ∧ o.cls = .type "list" ∧ o.dict = none ∧ o.data = .seq its n ∧ its.size ≤ sizeLine ∧ Vals xs its.toList
/-- the script's ints -/
def scrIs (K : PySem.W.Frag) (A : Ah) (a : Addr) (ns : List Int) : Prop := SqK K a (ns.map V.int) ∨ ∃ tg, A a = some ⟨tg, .scr (ns.map D.int)⟩
def iScr (K : PySem.W.Frag) (te : WE) : WI := fun ρ A k => te ρ A fun u ρ1 A1 => ∃ a ns, u = .d (.ref a) ∧ scrIs K A1 a ns ∧ k (ns.map D.int) (fun _ A' => scrIs K A' a ns) ρ1 A1
theorem scr_sq {H0 H : Hp} {A : Ah} {σ : St} {ρ : Rho} {K : PySem.W.Frag} {a : Addr} {ns : List Int} (R : Rel H0 H A σ ρ) (h : scrIs K A a ns) : SqL K H a (ns.map V.int) := by
  rcases h with h | ⟨tg, h⟩
  · exact .inr h
  · obtain ⟨od, vs, e, r⟩ := R.hp a _ h
    rw [r.ints] at e
    exact .inl (.inr ⟨od, e⟩)
theorem i_scr {X : Cx} {H0 : Hp} {tg e : Expr} {te : WE} (he : PE X e (lift H0 te)) : PI X tg e (liftI H0 (iScr X.K te)) := by
  refine PI.imp (pi_anyV he) fun σ H R ⟨ρ, A, k, Re, h, hk⟩ => ⟨ρ, A, _, Re, h, fun u ρ1 A1 ⟨a, ns, eu, sc, h1⟩ v H1 o1 => ?_⟩
  subst eu
  cases (show RD H1 (.ref a) v from o1.val)
  refine .inl ⟨a, _, rfl, scr_sq o1.rel sc, fun hz => hk _ _ _ _ h1 _ _ o1.toOutT ⟨fun σ' H' A' ρ' o c => ⟨_, scr_sq o.rel c, by simp⟩, fun σ' H' A' ρ' o c i hi => ?_, fun σ' H' A' ρ' o c i v H2 y hi => ?_⟩ (by simpa using hz)⟩
  · rw [List.length_map] at hi
    exact ⟨_, .int ns[i], scr_sq o.rel c, by simp [hi]⟩
  · rw [List.length_map] at hi
    obtain ⟨e, y⟩ := y
    subst e
    have ev := y _ (scr_sq o.rel c)
    rw [List.getElem?_map, List.getElem?_eq_getElem hi] at ev
    cases ev
    exact ⟨.int ns[i], by simp [hi], .int _, (OutT.refl o.rel).toS⟩
end Dn

namespace Dn
open PySem L2 PyProof.Rows PySem.W

/-! ### isinstance of a built-in type -/
inductive Ty where
  | non | bl | int | str | tup | lst | dct
  deriving DecidableEq
def Ty.name : Ty → String
  | .non => "NoneType" | .bl => "bool" | .int => "int" | .str => "str" | .tup => "tuple" | .lst => "list" | .dct => "dict"
def isTy (t T : Ty) : Bool := decide (t = T) || (decide (t = .bl) && decide (T = .int))
theorem isTy_kit (t T : Ty) : kitB t.name T.name = some (isTy t T) := by
  cases t <;> cases T <;> decide +kernel
def Ob.ty : Ob → Option Ty
  | .lst _ => some .lst
  | .dct _ => some .dct
  | _ => none
def tyN (ρ : Rho) (A : Ah) : U → Option Ty
  | .d .non => some .non
  | .d (.bl _) => some .bl
  | .d (.int _) => some .int
  | .d (.str _) => some .str
  | .d (.tup _) => some .tup
  | u => (obOf ρ A u).bind Ob.ty
def wIsi (T : Ty) (te : WE) : WE := fun ρ A k => te ρ A fun u ρ1 A1 => ∃ t, tyN ρ1 A1 u = some t ∧ k (.d (.bl (isTy t T))) ρ1 A1
theorem tyN_rel {H0 H : Hp} {A : Ah} {σ : St} {ρ : Rho} {K : PySem.W.Frag} {u : U} {v : V} {t : Ty} (R : Rel H0 H A σ ρ) (r : RU H A σ u v) (e : tyN ρ A u = some t) : TyX K H v (.type t.name) := by
  have ob : (obOf ρ A u).bind Ob.ty = some t → TyX K H v (.type t.name) := fun e => by
    obtain ⟨b, eb, et⟩ := Option.bind_eq_some_iff.mp e
    obtain ⟨a, rfl, ro⟩ := obOf_rel R r eb
    cases b with
    | lst xs =>
      cases et
      obtain ⟨vs, h, _⟩ := ro
      exact .base (.lst h)
    | dct kvs =>
      cases et
      rcases ro with ⟨ks, h, _⟩ | ⟨ks, h, _⟩
      · exact .base (.dK h)
      · exact .base (.dT h)
    | _ => cases et
  cases u with
  | d x =>
    cases x with
    | non => cases e; cases (show RD H .non v from r); exact .base .non
    | bl b => cases e; cases (show RD H (.bl b) v from r); exact .base (.bl b)
    | int b => cases e; cases (show RD H (.int b) v from r); exact .base (.int b)
    | str b => cases e; cases (show RD H (.str b) v from r); exact .base (.str b)
    | tup xs =>
      cases e
      cases (show RD H (.tup xs) v from r) with
      | tup h _ => exact .base (.tup h)
    | ref a => exact ob e
  | lst xs => exact ob e
  | dct xs => exact ob e
  | loc i => exact ob e
theorem q_isi {X : Cx} {H0 : Hp} {e : Expr} {te : WE} {y : Str} {p p2 pos : Pos} (T : Ty) (hm : X.mg "isinstance" = none) (hy : X.mg y = none) (he : PE X e (lift H0 te)) (hv : bootBuiltins y = some (.type T.name) := by decide +kernel)
    (hg : Gl X "isinstance" := by rfl) (hgy : Gl X y := by rfl) (hn : y ≠ "__name__" := by decide) (hd : (y == ("__debug__" : Str)) = false := by decide)
    (hs : starEach [e, .Name y p2] X.env = (false, eval e X.env) :: starEach [.Name y p2] X.env := by rfl) (hs2 : starEach [.Name y p2] X.env = (false, eval (.Name y p2) X.env) :: starEach [] X.env := by rfl) (hpl : (backTo pos (starEach [.Name y p2] X.env)).any (·.1) = false := by rfl) :
    PE X (.Call (.Name "isinstance" p) [e, .Name y p2] [] pos) (lift H0 (wIsi T te)) := by
  refine PE.imp (pe_callB (t := tCons (lift H0 te) (tCons (tC (.ty T.name)) tNil)) call_isi hg hm (by decide +kernel) (pa_cons he (pa_cons (pe_bltn hgy hy hv rfl hn hd) pa_nil hs2) hs) (by decide) (by decide) hs hpl) fun σ H Q ⟨ρ, A, k, R, h, hk⟩ => ⟨ρ, A, _, R, h, fun u ρ1 A1 ⟨t, et, h1⟩ v H1 o1 => ?_⟩
  exact ⟨v, .ty T.name, .type t.name, .type T.name, isTy t T, rfl, .ty _, tyN_rel o1.rel o1.val et, kit_ty (isTy_kit t T), hk _ _ _ h1 _ _ (o1.toOutT.then (Out.d o1.rel (.bl _)))⟩
theorem q_gintE {X : Cx} {H0 : Hp} {x : Str} {i : Int} {pos : Pos} (hm : ∃ t, X.mg x = some (.int i t)) (hg : Gl X x := by rfl) (hd : (x == ("__debug__" : Str)) = false := by decide) : PE X (.Name x pos) (lift H0 (wC (.int i))) := by
  obtain ⟨t, hm⟩ := hm
  exact q_gint hm hg hd
theorem q_gstrE {X : Cx} {H0 : Hp} {x z : Str} {pos : Pos} (hm : ∃ t, X.mg x = some (.str z t)) (hg : Gl X x := by rfl) (hd : (x == ("__debug__" : Str)) = false := by decide) : PE X (.Name x pos) (lift H0 (wC (.str z))) := by
  obtain ⟨t, hm⟩ := hm
  exact q_gstr hm hg hd
theorem hu64_of {A : Around} {k : Nat} (hr : Room k A) : A.units + 64 < cLine := by have := hr.un; omega
theorem hu65_of {A : Around} {k : Nat} (hr : Room k A) : A.units + 65 < cLine := by have := hr.un; omega
structure Cs where
  House : Addr
  Things : Addr
  Thing : Addr
end Dn

namespace Dn
open PySem L2 PyProof.Rows PySem.W
def f_law_dice (c : Cs) (K : PySem.W.Frag) : WS :=
  (sSeq (sSet 2 (wVar 1))
  (sSeq (sFor (iScr K (wVar 0)) (gNm 3)
  (sSet 2 (wBin (wI2 (fun _ j => 0 < j) fun i j => i % j) (wBin wAdd (wBin (wI2 CMul fun i j => i * j) (wVar 2) (wC (.int 31))) (wCall wAbs (uCons (wVar 3) uNil))) (wC (.int 2147483647)))))
  (sRet (wBin wAdd (wLst (wCons (wVar 2) (wCons (wC (.int 0)) wNil))) (wLc (iScr K (wVar 0)) (gNm 3) (tB (wBin wGe (wVar 3) (wBin (wI2 CPow fun i j => i ^ j.toNat) (wC (.int 10)) (wC (.int 18))))) (wVar 3) [3])))))
def p_law_dice (c : Cs) (K : PySem.W.Frag) : SpW := bodyW 2 4 (f_law_dice c K)
def f_is_between (c : Cs) : WS :=
  (sRet (wAnd (wIsi .int (wVar 0)) (wAnd (wNot (wIsi .bl (wVar 0))) (wChain wLe wLe (wVar 1) (wVar 0) (wVar 2)))))
def p_is_between (c : Cs) : SpW := bodyW 3 3 (f_is_between c)
def f_need_house (c : Cs) : WS :=
  (sIf (tOr (tNot (tB (wFn (p_is_between c) (wCons (wVar 1) (wCons (wC (.int 2)) (wCons (wC (.int 8)) wNil)))))) (tNot (tB (wFn (p_is_between c) (wCons (wVar 0) (wCons (wC (.int 0)) (wCons (wBin (wI0 fun i j => i - j) (wVar 1) (wC (.int 1))) wNil)))))))
  sNever
  sNil)
def p_need_house (c : Cs) : SpW := bodyW 2 2 (f_need_house c)
def f_Things_init (c : Cs) : WS :=
  (sSeq (sFld c.Things "number" (wVar 0) (wVar 1))
  (sSeq (sFld c.Things "stand" (wVar 0) wDct0)
  (sSeq (sFld c.Things "made" (wVar 0) (wC (.int 0)))
  (sSeq (sFld c.Things "own" (wVar 0) wDct0)
  (sFld c.Things "lent" (wVar 0) wDct0)))))
def p_Things_init (c : Cs) : SpW := bodyW 2 2 (f_Things_init c)
def f_House_init (c : Cs) : WS :=
  (sSeq (sExpr (wFn (p_need_house c) (wCons (wVar 1) (wCons (wVar 2) wNil))))
  (sSeq (sFld c.House "number" (wVar 0) (wVar 1))
  (sSeq (sFld c.House "many" (wVar 0) (wVar 2))
  (sSeq (sFld c.House "own" (wVar 0) (wMake c.Things (p_Things_init c) (wCons (wVar 1) wNil)))
  (sSeq (sFld c.House "units" (wVar 0) wDct0)
  (sSeq (sFld c.House "units_met" (wVar 0) wDct0)
  (sSeq (sFld c.House "counts" (wVar 0) wDct0)
  (sSeq (sFld c.House "untold" (wVar 0) wDct0)
  (sSeq (sFld c.House "asks" (wVar 0) wDct0)
  (sSeq (sFld c.House "asked" (wVar 0) (wC (.int 0)))
  (sSeq (sFld c.House "done" (wVar 0) wDct0)
  (sSeq (sFld c.House "drops" (wVar 0) (wLst wNil))
  (sSeq (sFld c.House "calls" (wVar 0) (wLst wNil))
  (sSeq (sFld c.House "watched" (wVar 0) wDct0)
  (sSeq (sFld c.House "dead" (wVar 0) wDct0)
  (sFld c.House "told" (wVar 0) wDct0))))))))))))))))
def p_House_init (c : Cs) : SpW := bodyW 3 3 (f_House_init c)
def f_law_off (c : Cs) : WS :=
  (sSeq (sIf (tAnd (tB (wBin (wEqB false) (wBin wIx (wVar 0) (wC (.int 1))) (wC (.int 0)))) (tB (wBin wGt (wCall wLen (uCons (wVar 0) uNil)) (wC (.int 2)))))
  (sIx (wVar 0) (wC (.int 1)) (wMt "list" mPopAt (wVar 0) (uCons (wC (.int 2)) uNil)))
  sNil)
  (sSeq (sIf (tB (wBin wGt (wBin wIx (wVar 0) (wC (.int 1))) (wC (.int 0))))
  (sSeq (sSet 2 (wBin (wI2 (fun _ j => 0 < j) fun i j => i % j) (wBin wIx (wVar 0) (wC (.int 1))) (wVar 1)))
  (sSeq (sIx (wVar 0) (wC (.int 1)) (wBin (wI2 CDiv fun i j => i / j) (wBin wIx (wVar 0) (wC (.int 1))) (wVar 1)))
  (sRet (wVar 2))))
  sNil)
  (sSeq (sIx (wVar 0) (wC (.int 0)) (wBin (wI2 (fun _ j => 0 < j) fun i j => i % j) (wBin wAdd (wBin (wI2 CMul fun i j => i * j) (wBin wIx (wVar 0) (wC (.int 0))) (wC (.int 48271))) (wC (.int 11))) (wC (.int 2147483647))))
  (sRet (wBin (wI2 (fun _ j => 0 < j) fun i j => i % j) (wBin (wI2 CDiv fun i j => i / j) (wBin wIx (wVar 0) (wC (.int 0))) (wC (.int 64))) (wVar 1))))))
def p_law_off (c : Cs) : SpW := bodyW 2 3 (f_law_off c)
def f_House_table (c : Cs) : WS :=
  (sSeq (sLock (sSet 1 (wLc (iAny (wFld c.Things "own" (wFld c.House "own" (wVar 0)))) (gNm 3) wYes (wTup (wCons (wTup (wCons (wFld c.House "number" (wVar 0)) (wCons (wVar 3) wNil))) (wCons (wBin wIx (wFld c.Things "own" (wFld c.House "own" (wVar 0))) (wVar 3)) wNil))) [3])))
  (sSeq (sSet 1 (wBin wAdd (wVar 1) (wLock (wLc (iAny (wFld c.House "units" (wVar 0))) (gNm 6) wYes (wTup (wCons (wVar 6) (wCons (wCall wLen (uCons (wBin wIx (wFld c.House "units" (wVar 0)) (wVar 6)) uNil)) wNil))) [6]))))
  (sSeq (sSet 2 (wLst wNil))
  (sSeq (sFor (iAny (wCall wSorted (uCons (wFld c.Things "stand" (wFld c.House "own" (wVar 0))) uNil))) (gNm 3)
  (sSeq (sSet 4 (wFld c.Thing "links" (wBin wIx (wFld c.Things "stand" (wFld c.House "own" (wVar 0))) (wVar 3))))
  (sSeq (sSet 5 (wLc (iAny (wCall wSorted (uCons (wVar 4) uNil))) (gNm 6) (tB (wBin (wEqB true) (wBin wIx (wVar 4) (wVar 6)) (wLst wNil))) (wTup (wCons (wVar 6) (wCons (wCall wLen (uCons (wBin wIx (wVar 4) (wVar 6)) uNil)) wNil))) [6]))
  (sExpr (wMt "list" mAppend (wVar 2) (uCons (wTup (wCons (wVar 3) (wCons (wCall wTuple (uCons (wVar 5) uNil)) wNil))) uNil))))))
  (sRet (wTup (wCons (wCall wTuple (uCons (wLc (iAny (wCall wSorted (uCons (wVar 1) uNil))) (gNm 7) (tB (wBin wGt (wBin wIx (wVar 7) (wC (.int 1))) (wC (.int 0)))) (wVar 7) [7]) uNil)) (wCons (wCall wTuple (uCons (wVar 2) uNil)) wNil))))))))
def p_House_table (c : Cs) : SpW := bodyW 1 8 (f_House_table c)
def f_need_worth (c : Cs) : WS :=
  (sIf (tNot (tB (wFn (p_is_between c) (wCons (wVar 0) (wCons (wC (.int 0)) (wCons (wBin (wI0 fun i j => i - j) (wC (.int 1000)) (wC (.int 1))) wNil))))))
  sNever
  sNil)
def p_need_worth (c : Cs) : SpW := bodyW 1 1 (f_need_worth c)
def f_Thing_init (c : Cs) : WS :=
  (sSeq (sFld c.Thing "worth" (wVar 0) (wVar 1))
  (sFld c.Thing "links" (wVar 0) wDct0))
def p_Thing_init (c : Cs) : SpW := bodyW 2 2 (f_Thing_init c)
def f_Things_add (c : Cs) : WS :=
  (sSeq (sIx (wFld c.Things "stand" (wVar 0)) (wFld c.Things "made" (wVar 0)) (wMake c.Thing (p_Thing_init c) (wCons (wVar 1) wNil)))
  (sSeq (sIx (wFld c.Things "own" (wVar 0)) (wFld c.Things "made" (wVar 0)) (wC (.int 1)))
  (sSeq (sFld c.Things "made" (wVar 0) (wBin wAdd (wFld c.Things "made" (wVar 0)) (wC (.int 1))))
  (sRet (wBin (wI0 fun i j => i - j) (wFld c.Things "made" (wVar 0)) (wC (.int 1)))))))
def p_Things_add (c : Cs) : SpW := bodyW 2 2 (f_Things_add c)
def f_House_make (c : Cs) : WS :=
  (sSeq (sExpr (wFn (p_need_worth c) (wCons (wVar 1) wNil)))
  (sSeq (sIf (tB (wBin (wEqB false) (wFld c.Things "made" (wFld c.House "own" (wVar 0))) (wC (.int 100))))
  sNever
  sNil)
  (sRet (wMeth c.Things "add" (p_Things_add c) (wFld c.House "own" (wVar 0)) (wCons (wVar 1) wNil)))))
def p_House_make (c : Cs) : SpW := bodyW 2 2 (f_House_make c)
def f_is_handle (c : Cs) : WS :=
  (sSeq (sIf (tOr (tNot (tB (wIsi .tup (wVar 0)))) (tB (wBin (wEqB true) (wCall wLen (uCons (wVar 0) uNil)) (wC (.int 2)))))
  (sRet (wC (.bl false)))
  sNil)
  (sRet (wAnd (wFn (p_is_between c) (wCons (wBin wIx (wVar 0) (wC (.int 0))) (wCons (wC (.int 0)) (wCons (wBin (wI0 fun i j => i - j) (wVar 1) (wC (.int 1))) wNil)))) (wFn (p_is_between c) (wCons (wBin wIx (wVar 0) (wC (.int 1))) (wCons (wC (.int 0)) (wCons (wBin (wI0 fun i j => i - j) (wC (.int 100)) (wC (.int 1))) wNil)))))))
def p_is_handle (c : Cs) : SpW := bodyW 2 2 (f_is_handle c)
def f_need_handle (c : Cs) : WS :=
  (sIf (tNot (tB (wFn (p_is_handle c) (wCons (wVar 0) (wCons (wVar 1) wNil)))))
  sNever
  sNil)
def p_need_handle (c : Cs) : SpW := bodyW 2 2 (f_need_handle c)
def f_House_count (c : Cs) : WS :=
  (sSeq (sExpr (wFn (p_need_handle c) (wCons (wVar 1) (wCons (wFld c.House "many" (wVar 0)) wNil))))
  (sSeq (sIf (tB (wBin (wEqB false) (wBin wIx (wVar 1) (wC (.int 0))) (wFld c.House "number" (wVar 0))))
  (sRet (wMt "dict" mGet2 (wFld c.Things "own" (wFld c.House "own" (wVar 0))) (uCons (wBin wIx (wVar 1) (wC (.int 1))) (uCons (wC (.int 0)) uNil))))
  sNil)
  (sRet (wCall wLen (uCons (wMt "dict" mGet2 (wFld c.House "units" (wVar 0)) (uCons (wVar 1) (uCons (wLst wNil) uNil))) uNil)))))
def p_House_count (c : Cs) : SpW := bodyW 2 2 (f_House_count c)
def f_House_need_hold (c : Cs) : WS :=
  (sIf (tB (wBin (wEqB false) (wMeth c.House "count" (p_House_count c) (wVar 0) (wCons (wVar 1) wNil)) (wC (.int 0))))
  sNever
  sNil)
def p_House_need_hold (c : Cs) : SpW := bodyW 2 2 (f_House_need_hold c)
def f_House_lend (c : Cs) : WS :=
  (sIf (tB (wBin (wEqB false) (wVar 2) (wFld c.House "number" (wVar 0))))
  (sIx (wFld c.Things "own" (wFld c.House "own" (wVar 0))) (wVar 1) (wBin wAdd (wBin wIx (wFld c.Things "own" (wFld c.House "own" (wVar 0))) (wVar 1)) (wC (.int 1))))
  (sIf (tB (wBin (wIn true) (wVar 2) (wFld c.House "dead" (wVar 0))))
  (sSeq (sIx (wFld c.House "counts" (wVar 0)) (wVar 2) (wBin wAdd (wMt "dict" mGet2 (wFld c.House "counts" (wVar 0)) (uCons (wVar 2) (uCons (wC (.int 0)) uNil))) (wC (.int 1))))
  (sSeq (sIx (wFld c.Things "lent" (wFld c.House "own" (wVar 0))) (wTup (wCons (wVar 2) (wCons (wBin wIx (wFld c.House "counts" (wVar 0)) (wVar 2)) wNil))) (wVar 1))
  (sIx (wFld c.House "untold" (wVar 0)) (wTup (wCons (wVar 2) (wCons (wBin wIx (wFld c.House "counts" (wVar 0)) (wVar 2)) wNil))) (wVar 1))))
  sNil))
def p_House_lend (c : Cs) : SpW := bodyW 3 3 (f_House_lend c)
def f_House_ask (c : Cs) : WS :=
  (sSeq (sIx (wFld c.House "asks" (wVar 0)) (wFld c.House "asked" (wVar 0)) (wTup (wCons (wVar 1) (wCons (wVar 2) wNil))))
  (sFld c.House "asked" (wVar 0) (wBin wAdd (wFld c.House "asked" (wVar 0)) (wC (.int 1)))))
def p_House_ask (c : Cs) : SpW := bodyW 3 3 (f_House_ask c)
def f_House_letters (c : Cs) : WS :=
  (sSeq (sSet 1 (wLc (iAny (wCall wSorted (uCons (wFld c.House "untold" (wVar 0)) uNil))) (gNm 7) wYes (wTup (wCons (wBin wIx (wVar 7) (wC (.int 0))) (wCons (wTup (wCons (wFld c.House "number" (wVar 0)) (wCons (wC (.str "unit")) (wCons (wBin wIx (wFld c.House "untold" (wVar 0)) (wVar 7)) (wCons (wBin wIx (wVar 7) (wC (.int 1))) wNil))))) wNil))) [7]))
  (sSeq (sFor (iAny (wCall wSorted (uCons (wFld c.House "asks" (wVar 0)) uNil))) (gNm 2)
  (sSeq (sAsg (gTup 2 (gsCons (gNm 3) (gsCons (gNm 4) gsNil))) (wBin wIx (wFld c.House "asks" (wVar 0)) (wVar 2)))
  (sExpr (wMt "list" mAppend (wVar 1) (uCons (wTup (wCons (wBin wIx (wVar 3) (wC (.int 0))) (wCons (wTup (wCons (wFld c.House "number" (wVar 0)) (wCons (wC (.str "ask")) (wCons (wVar 2) (wCons (wBin wIx (wVar 3) (wC (.int 1))) (wCons (wVar 4) wNil)))))) wNil))) uNil)))))
  (sSeq (sLock (sSet 5 (wLc (iAny (wFld c.House "asks" (wVar 0))) (gNm 2) wYes (wBin wIx (wBin wIx (wFld c.House "asks" (wVar 0)) (wVar 2)) (wC (.int 0))) [2])))
  (sSeq (sFor (iAny (wFld c.House "drops" (wVar 0))) (gTup 2 (gsCons (gNm 3) (gsCons (gNm 6) gsNil)))
  (sIf (tB (wBin (wIn true) (wVar 3) (wVar 5)))
  (sExpr (wMt "list" mAppend (wVar 1) (uCons (wTup (wCons (wBin wIx (wVar 3) (wC (.int 0))) (wCons (wTup (wCons (wFld c.House "number" (wVar 0)) (wCons (wC (.str "drop")) (wCons (wBin wIx (wVar 3) (wC (.int 1))) (wCons (wVar 6) wNil))))) wNil))) uNil)))
  sNil))
  (sRet (wVar 1))))))
def p_House_letters (c : Cs) : SpW := bodyW 1 8 (f_House_letters c)
def f_House_give (c : Cs) : WS :=
  (sSeq (sExpr (wFn (p_need_handle c) (wCons (wVar 1) (wCons (wFld c.House "many" (wVar 0)) wNil))))
  (sSeq (sExpr (wFn (p_need_house c) (wCons (wVar 2) (wCons (wFld c.House "many" (wVar 0)) wNil))))
  (sSeq (sIf (tB (wBin (wEqB false) (wVar 2) (wFld c.House "number" (wVar 0))))
  sNever
  sNil)
  (sSeq (sExpr (wMeth c.House "need_hold" (p_House_need_hold c) (wVar 0) (wCons (wVar 1) wNil)))
  (sSeq (sIf (tB (wBin (wEqB false) (wBin wIx (wVar 1) (wC (.int 0))) (wFld c.House "number" (wVar 0))))
  (sExpr (wMeth c.House "lend" (p_House_lend c) (wVar 0) (wCons (wBin wIx (wVar 1) (wC (.int 1))) (wCons (wVar 2) wNil))))
  (sIf (tB (wBin (wIn true) (wVar 2) (wFld c.House "dead" (wVar 0))))
  (sExpr (wMeth c.House "ask" (p_House_ask c) (wVar 0) (wCons (wVar 1) (wCons (wTup (wCons (wC (.str "give")) (wCons (wVar 2) wNil))) wNil))))
  sNil))
  (sRet (wMeth c.House "letters" (p_House_letters c) (wVar 0) wNil)))))))
def p_House_give (c : Cs) : SpW := bodyW 3 3 (f_House_give c)
def f_House_take_unit (c : Cs) : WS :=
  (sSeq (sIf (tB (wBin (wEqB false) (wBin wIx (wVar 1) (wC (.int 0))) (wFld c.House "number" (wVar 0))))
  (sSeq (sIx (wFld c.Things "own" (wFld c.House "own" (wVar 0))) (wBin wIx (wVar 1) (wC (.int 1))) (wBin (wI0 fun i j => i - j) (wBin wIx (wFld c.Things "own" (wFld c.House "own" (wVar 0))) (wBin wIx (wVar 1) (wC (.int 1)))) (wC (.int 1))))
  (sRet (wC (.int 0))))
  sNil)
  (sRet (wMt "list" mPopAt (wBin wIx (wFld c.House "units" (wVar 0)) (wVar 1)) (uCons (wC (.int 0)) uNil))))
def p_House_take_unit (c : Cs) : SpW := bodyW 2 2 (f_House_take_unit c)
def f_Things_is_held (c : Cs) : WS :=
  (sSeq (sIf (tOr (tB (wBin wGt (wBin wIx (wFld c.Things "own" (wVar 0)) (wVar 1)) (wC (.int 0)))) (tB (wBin (wEqB true) (wLock (wLc (iAny (wFld c.Things "lent" (wVar 0))) (gNm 3) (tB (wBin (wEqB false) (wBin wIx (wFld c.Things "lent" (wVar 0)) (wVar 3)) (wVar 1))) (wVar 3) [3])) (wLst wNil))))
  (sRet (wC (.bl true)))
  sNil)
  (sSeq (sSet 2 (wTup (wCons (wFld c.Things "number" (wVar 0)) (wCons (wVar 1) wNil))))
  (sRet (wBin (wEqB true) (wLock (wLc (iAny (wFld c.Things "stand" (wVar 0))) (gNm 3) (tB (wBin (wEqB true) (wMt "dict" mGet2 (wFld c.Thing "links" (wBin wIx (wFld c.Things "stand" (wVar 0)) (wVar 3))) (uCons (wVar 2) (uCons (wLst wNil) uNil))) (wLst wNil))) (wVar 3) [3])) (wLst wNil)))))
def p_Things_is_held (c : Cs) : SpW := bodyW 2 4 (f_Things_is_held c)
def f_Things_let_go (c : Cs) : WS :=
  (sSeq (sSet 2 (wLst wNil))
  (sSeq (sFor (iAny (wVar 1)) (gNm 3)
  (sSeq (sSet 4 (wMt "dict" mDPop (wFld c.Things "stand" (wVar 0)) (uCons (wVar 3) uNil)))
  (sSeq (sExpr (wMt "dict" mDPop (wFld c.Things "own" (wVar 0)) (uCons (wVar 3) uNil)))
  (sFor (iAny (wCall wSorted (uCons (wFld c.Thing "links" (wVar 4)) uNil))) (gNm 5)
  (sIf (tB (wBin (wEqB true) (wBin wIx (wVar 5) (wC (.int 0))) (wFld c.Things "number" (wVar 0))))
  (sExpr (wMt "list" mExtend (wVar 2) (uCons (wLc (iAny (wBin wIx (wFld c.Thing "links" (wVar 4)) (wVar 5))) (gNm 6) wYes (wTup (wCons (wVar 5) (wCons (wVar 6) wNil))) [6]) uNil)))
  sNil)))))
  (sRet (wVar 2))))
def p_Things_let_go (c : Cs) : SpW := bodyW 2 7 (f_Things_let_go c)
def f_Things_settle (c : Cs) : WS :=
  (sSeq (sSet 1 (wLst wNil))
  (sSeq (sSet 2 (wLc (iAny (wCall wSorted (uCons (wFld c.Things "stand" (wVar 0)) uNil))) (gNm 3) (tNot (tB (wMeth c.Things "is_held" (p_Things_is_held c) (wVar 0) (wCons (wVar 3) wNil)))) (wVar 3) [3]))
  (sSeq (sWhile (tB (wBin (wEqB true) (wVar 2) (wLst wNil)))
  (sSeq (sExpr (wMt "list" mExtend (wVar 1) (uCons (wMeth c.Things "let_go" (p_Things_let_go c) (wVar 0) (wCons (wVar 2) wNil)) uNil)))
  (sSet 2 (wLc (iAny (wCall wSorted (uCons (wFld c.Things "stand" (wVar 0)) uNil))) (gNm 3) (tNot (tB (wMeth c.Things "is_held" (p_Things_is_held c) (wVar 0) (wCons (wVar 3) wNil)))) (wVar 3) [3]))))
  (sRet (wVar 1)))))
def p_Things_settle (c : Cs) : SpW := bodyW 1 4 (f_Things_settle c)
def f_House_settle (c : Cs) : WS :=
  (sExpr (wMt "list" mExtend (wFld c.House "drops" (wVar 0)) (uCons (wMeth c.Things "settle" (p_Things_settle c) (wFld c.House "own" (wVar 0)) wNil) uNil)))
def p_House_settle (c : Cs) : SpW := bodyW 1 1 (f_House_settle c)
def f_House_drop (c : Cs) : WS :=
  (sSeq (sExpr (wMeth c.House "need_hold" (p_House_need_hold c) (wVar 0) (wCons (wVar 1) wNil)))
  (sSeq (sSet 2 (wMeth c.House "take_unit" (p_House_take_unit c) (wVar 0) (wCons (wVar 1) wNil)))
  (sSeq (sIf (tB (wBin (wEqB true) (wBin wIx (wVar 1) (wC (.int 0))) (wFld c.House "number" (wVar 0))))
  (sExpr (wMt "list" mAppend (wFld c.House "drops" (wVar 0)) (uCons (wTup (wCons (wVar 1) (wCons (wVar 2) wNil))) uNil)))
  sNil)
  (sSeq (sExpr (wMeth c.House "settle" (p_House_settle c) (wVar 0) wNil))
  (sRet (wMeth c.House "letters" (p_House_letters c) (wVar 0) wNil))))))
def p_House_drop (c : Cs) : SpW := bodyW 2 3 (f_House_drop c)
def f_House_add (c : Cs) : WS :=
  (sSeq (sSet 3 (wBin wIx (wFld c.Things "stand" (wFld c.House "own" (wVar 0))) (wVar 1)))
  (sSeq (sFld c.Thing "worth" (wVar 3) (wBin (wI2 (fun _ j => 0 < j) fun i j => i % j) (wBin wAdd (wFld c.Thing "worth" (wVar 3)) (wVar 2)) (wC (.int 1000))))
  (sRet (wFld c.Thing "worth" (wVar 3)))))
def p_House_add (c : Cs) : SpW := bodyW 3 4 (f_House_add c)
def f_House_call (c : Cs) : WS :=
  (sSeq (sExpr (wFn (p_need_handle c) (wCons (wVar 1) (wCons (wFld c.House "many" (wVar 0)) wNil))))
  (sSeq (sExpr (wFn (p_need_worth c) (wCons (wVar 2) wNil)))
  (sSeq (sExpr (wMeth c.House "need_hold" (p_House_need_hold c) (wVar 0) (wCons (wVar 1) wNil)))
  (sSeq (sExpr (wMt "list" mAppend (wFld c.House "calls" (wVar 0)) (uCons (wC .non) uNil)))
  (sSeq (sIf (tB (wBin (wEqB false) (wBin wIx (wVar 1) (wC (.int 0))) (wFld c.House "number" (wVar 0))))
  (sIx (wFld c.House "calls" (wVar 0)) (wUn wNeg (wC (.int 1))) (wMeth c.House "add" (p_House_add c) (wVar 0) (wCons (wBin wIx (wVar 1) (wC (.int 1))) (wCons (wVar 2) wNil))))
  (sExpr (wMeth c.House "ask" (p_House_ask c) (wVar 0) (wCons (wVar 1) (wCons (wTup (wCons (wC (.str "call")) (wCons (wVar 2) (wCons (wBin (wI0 fun i j => i - j) (wCall wLen (uCons (wFld c.House "calls" (wVar 0)) uNil)) (wC (.int 1))) wNil)))) wNil)))))
  (sRet (wTup (wCons (wBin (wI0 fun i j => i - j) (wCall wLen (uCons (wFld c.House "calls" (wVar 0)) uNil)) (wC (.int 1))) (wCons (wMeth c.House "letters" (p_House_letters c) (wVar 0) wNil) wNil)))))))))
def p_House_call (c : Cs) : SpW := bodyW 3 3 (f_House_call c)
def f_law_alike (c : Cs) (me : SpW) : WS :=
  (sSeq (sIf (tB (wBin (wIsNone false) (wVar 1) (wC .non)))
  (sRet (wBin (wIsNone false) (wVar 0) (wC .non)))
  sNil)
  (sSeq (sIf (tB (wIsi .bl (wVar 1)))
  (sRet (wAnd (wIsi .bl (wVar 0)) (wBin (wEqB false) (wVar 0) (wVar 1))))
  sNil)
  (sSeq (sIf (tB (wIsi .int (wVar 1)))
  (sRet (wAnd (wIsi .int (wVar 0)) (wAnd (wNot (wIsi .bl (wVar 0))) (wBin (wEqB false) (wVar 0) (wVar 1)))))
  sNil)
  (sSeq (sIf (tB (wIsi .str (wVar 1)))
  (sRet (wAnd (wIsi .str (wVar 0)) (wBin (wEqB false) (wVar 0) (wVar 1))))
  sNil)
  (sSeq (sIf (tOr (tB (wBin (wEqB true) (wIsi .tup (wVar 1)) (wIsi .tup (wVar 0)))) (tB (wBin (wEqB true) (wIsi .lst (wVar 1)) (wIsi .lst (wVar 0)))))
  (sRet (wC (.bl false)))
  sNil)
  (sSeq (sIf (tB (wBin (wEqB true) (wCall wLen (uCons (wVar 0) uNil)) (wCall wLen (uCons (wVar 1) uNil))))
  (sRet (wC (.bl false)))
  sNil)
  (sRet (wCall wAll (uCons (wLc (iRange1 (wCons (wCall wLen (uCons (wVar 1) uNil)) wNil)) (gNm 2) wYes (wFn me (wCons (wBin wIx (wVar 0) (wVar 2)) (wCons (wBin wIx (wVar 1) (wVar 2)) wNil))) [2]) uNil)))))))))
def p_law_alike_at (c : Cs) : Nat → SpW
  | 0 => fun _ _ _ => False
  | n + 1 => bodyW 2 3 (f_law_alike c (p_law_alike_at c n))
def p_law_alike (c : Cs) : SpW := p_law_alike_at c 8
def f_House_turn (c : Cs) : WS :=
  (sRet (wMeth c.House "letters" (p_House_letters c) (wVar 0) wNil))
def p_House_turn (c : Cs) : SpW := bodyW 1 1 (f_House_turn c)
def f_House_get_unit (c : Cs) : WS :=
  (sIf (tB (wBin (wEqB false) (wBin wIx (wVar 1) (wC (.int 0))) (wFld c.House "number" (wVar 0))))
  (sIx (wFld c.Things "own" (wFld c.House "own" (wVar 0))) (wBin wIx (wVar 1) (wC (.int 1))) (wBin wAdd (wBin wIx (wFld c.Things "own" (wFld c.House "own" (wVar 0))) (wBin wIx (wVar 1) (wC (.int 1)))) (wC (.int 1))))
  (sExpr (wMt "list" mAppend (wMt "dict" mSetd (wFld c.House "units" (wVar 0)) (uCons (wVar 1) (uCons (wLst wNil) uNil))) (uCons (wVar 2) uNil))))
def p_House_get_unit (c : Cs) : SpW := bodyW 3 3 (f_House_get_unit c)
def f_House_hear_unit (c : Cs) : WS :=
  (sSeq (sAsg (gTup 2 (gsCons (gNm 3) (gsCons (gNm 4) gsNil))) (wVar 2))
  (sSeq (sIf (tB (wBin (wIn true) (wTup (wCons (wVar 1) (wCons (wVar 4) wNil))) (wFld c.House "units_met" (wVar 0))))
  (sSeq (sIx (wFld c.House "units_met" (wVar 0)) (wTup (wCons (wVar 1) (wCons (wVar 4) wNil))) (wC (.bl true)))
  (sExpr (wMeth c.House "get_unit" (p_House_get_unit c) (wVar 0) (wCons (wTup (wCons (wVar 1) (wCons (wVar 3) wNil))) (wCons (wVar 4) wNil)))))
  sNil)
  (sRet (wLst (wCons (wTup (wCons (wVar 1) (wCons (wTup (wCons (wFld c.House "number" (wVar 0)) (wCons (wC (.str "heard")) (wCons (wC (.str "unit")) (wCons (wVar 4) (wCons (wC .non) wNil)))))) wNil))) wNil)))))
def p_House_hear_unit (c : Cs) : SpW := bodyW 3 5 (f_House_hear_unit c)
def f_House_answer (c : Cs) : WS :=
  (sSeq (sIf (tB (wBin (wEqB false) (wBin wIx (wVar 2) (wC (.int 0))) (wC (.str "give"))))
  (sSeq (sIf (tB (wBin (wIn false) (wVar 1) (wFld c.Things "stand" (wFld c.House "own" (wVar 0)))))
  (sExpr (wMeth c.House "lend" (p_House_lend c) (wVar 0) (wCons (wVar 1) (wCons (wBin wIx (wVar 2) (wC (.int 1))) wNil))))
  sNil)
  (sRet (wC (.int 0))))
  sNil)
  (sRet (wIf (tB (wBin (wIn false) (wVar 1) (wFld c.Things "stand" (wFld c.House "own" (wVar 0))))) (wMeth c.House "add" (p_House_add c) (wVar 0) (wCons (wVar 1) (wCons (wBin wIx (wVar 2) (wC (.int 1))) wNil))) (wC (.str "dead")))))
def p_House_answer (c : Cs) : SpW := bodyW 3 3 (f_House_answer c)
def f_House_hear_ask (c : Cs) : WS :=
  (sSeq (sAsg (gTup 3 (gsCons (gNm 3) (gsCons (gNm 4) (gsCons (gNm 5) gsNil)))) (wVar 2))
  (sSeq (sIf (tB (wBin (wIn true) (wTup (wCons (wVar 1) (wCons (wVar 3) wNil))) (wFld c.House "done" (wVar 0))))
  (sIx (wFld c.House "done" (wVar 0)) (wTup (wCons (wVar 1) (wCons (wVar 3) wNil))) (wMeth c.House "answer" (p_House_answer c) (wVar 0) (wCons (wVar 4) (wCons (wVar 5) wNil))))
  sNil)
  (sSeq (sSet 6 (wBin wIx (wFld c.House "done" (wVar 0)) (wTup (wCons (wVar 1) (wCons (wVar 3) wNil)))))
  (sRet (wLst (wCons (wTup (wCons (wVar 1) (wCons (wTup (wCons (wFld c.House "number" (wVar 0)) (wCons (wC (.str "heard")) (wCons (wC (.str "ask")) (wCons (wVar 3) (wCons (wVar 6) wNil)))))) wNil))) wNil))))))
def p_House_hear_ask (c : Cs) : SpW := bodyW 3 7 (f_House_hear_ask c)
def f_House_hear_drop (c : Cs) : WS :=
  (sSeq (sExpr (wMt "dict" mDPop (wFld c.Things "lent" (wFld c.House "own" (wVar 0))) (uCons (wTup (wCons (wVar 1) (wCons (wBin wIx (wVar 2) (wC (.int 1))) wNil))) (uCons (wC .non) uNil))))
  (sSeq (sExpr (wMt "dict" mDPop (wFld c.House "untold" (wVar 0)) (uCons (wTup (wCons (wVar 1) (wCons (wBin wIx (wVar 2) (wC (.int 1))) wNil))) (uCons (wC .non) uNil))))
  (sRet (wLst (wCons (wTup (wCons (wVar 1) (wCons (wTup (wCons (wFld c.House "number" (wVar 0)) (wCons (wC (.str "heard")) (wCons (wC (.str "drop")) (wCons (wBin wIx (wVar 2) (wC (.int 1))) (wCons (wC .non) wNil)))))) wNil))) wNil)))))
def p_House_hear_drop (c : Cs) : SpW := bodyW 3 3 (f_House_hear_drop c)
def f_House_hear_heard (c : Cs) : WS :=
  (sSeq (sAsg (gTup 3 (gsCons (gNm 3) (gsCons (gNm 4) (gsCons (gNm 5) gsNil)))) (wVar 2))
  (sSeq (sIf (tB (wBin (wEqB false) (wVar 3) (wC (.str "unit"))))
  (sExpr (wMt "dict" mDPop (wFld c.House "untold" (wVar 0)) (uCons (wTup (wCons (wVar 1) (wCons (wVar 4) wNil))) (uCons (wC .non) uNil))))
  (sIf (tB (wBin (wEqB false) (wVar 3) (wC (.str "drop"))))
  (sFld c.House "drops" (wVar 0) (wLc (iAny (wFld c.House "drops" (wVar 0))) (gNm 8) (tOr (tB (wBin (wEqB true) (wBin wIx (wBin wIx (wVar 8) (wC (.int 0))) (wC (.int 0))) (wVar 1))) (tB (wBin (wEqB true) (wBin wIx (wVar 8) (wC (.int 1))) (wVar 4)))) (wVar 8) [8]))
  (sIf (tB (wBin (wIn false) (wVar 4) (wFld c.House "asks" (wVar 0))))
  (sSeq (sAsg (gTup 2 (gsCons (gNm 6) (gsCons (gNm 7) gsNil))) (wMt "dict" mDPop (wFld c.House "asks" (wVar 0)) (uCons (wVar 4) uNil)))
  (sIf (tB (wBin (wEqB false) (wBin wIx (wVar 7) (wC (.int 0))) (wC (.str "call"))))
  (sIx (wFld c.House "calls" (wVar 0)) (wBin wIx (wVar 7) (wC (.int 2))) (wVar 5))
  sNil))
  sNil)))
  (sRet (wLst wNil))))
def p_House_hear_heard (c : Cs) : SpW := bodyW 3 9 (f_House_hear_heard c)
def f_House_bring (c : Cs) : WS :=
  (sSeq (sIf (tB (wBin (wEqB true) (wBin wIx (wVar 1) (wC (.int 0))) (wFld c.House "number" (wVar 0))))
  sNever
  sNil)
  (sSeq (sAsg (gTup 2 (gsCons (gNm 2) (gsCons (gNm 3) gsNil))) (wSlice wCut (wBin wIx (wVar 1) (wC (.int 1))) oNone (oSome (wC (.int 2)))))
  (sSeq (sIf (tB (wBin (wIn false) (wVar 2) (wFld c.House "dead" (wVar 0))))
  (sRet (wLst wNil))
  sNil)
  (sSeq (sSet 4 (wSlice wCut (wBin wIx (wVar 1) (wC (.int 1))) (oSome (wC (.int 2))) oNone))
  (sSeq (sIf (tB (wBin (wEqB false) (wVar 3) (wC (.str "unit"))))
  (sSet 5 (wMeth c.House "hear_unit" (p_House_hear_unit c) (wVar 0) (wCons (wVar 2) (wCons (wVar 4) wNil))))
  (sIf (tB (wBin (wEqB false) (wVar 3) (wC (.str "ask"))))
  (sSet 5 (wMeth c.House "hear_ask" (p_House_hear_ask c) (wVar 0) (wCons (wVar 2) (wCons (wVar 4) wNil))))
  (sSet 5 (wIf (tB (wBin (wEqB false) (wVar 3) (wC (.str "drop")))) (wMeth c.House "hear_drop" (p_House_hear_drop c) (wVar 0) (wCons (wVar 2) (wCons (wVar 4) wNil))) (wMeth c.House "hear_heard" (p_House_hear_heard c) (wVar 0) (wCons (wVar 2) (wCons (wVar 4) wNil)))))))
  (sSeq (sExpr (wMeth c.House "settle" (p_House_settle c) (wVar 0) wNil))
  (sRet (wVar 5))))))))
def p_House_bring (c : Cs) : SpW := bodyW 2 6 (f_House_bring c)
def f_House_notes (c : Cs) : WS :=
  (sRet (wCall wSorted (uCons (wFld c.House "told" (wVar 0)) uNil)))
def p_House_notes (c : Cs) : SpW := bodyW 1 1 (f_House_notes c)
def f_House_answers (c : Cs) : WS :=
  (sRet (wLc (iEnumW (wCons (wFld c.House "calls" (wVar 0)) wNil)) (gTup 2 (gsCons (gNm 1) (gsCons (gNm 2) gsNil))) (tB (wBin (wIsNone true) (wVar 2) (wC .non))) (wTup (wCons (wVar 1) (wCons (wVar 2) wNil))) [1, 2]))
def p_House_answers (c : Cs) : SpW := bodyW 1 3 (f_House_answers c)
def f_House_things (c : Cs) : WS :=
  (sRet (wLc (iAny (wCall wSorted (uCons (wFld c.Things "stand" (wFld c.House "own" (wVar 0))) uNil))) (gNm 1) wYes (wTup (wCons (wVar 1) (wCons (wFld c.Thing "worth" (wBin wIx (wFld c.Things "stand" (wFld c.House "own" (wVar 0))) (wVar 1))) wNil))) [1]))
def p_House_things (c : Cs) : SpW := bodyW 1 2 (f_House_things c)
def f_law (c : Cs) (K : PySem.W.Frag) : WS :=
  (sSeq (sSet 1 (wFn (p_law_dice c K) (wCons (wVar 0) (wCons (wC (.int 0)) wNil))))
  (sSeq (sSet 2 (wLc (iRange1 (wCons (wC (.int 4)) wNil)) (gNm 14) wYes (wMake c.House (p_House_init c) (wCons (wBin (wI2 CDiv fun i j => i / j) (wVar 14) (wC (.int 2))) (wCons (wC (.int 2)) wNil))) [14]))
  (sSeq (sFor (iRange1 (wCons (wFn (p_law_off c) (wCons (wVar 1) (wCons (wC (.int 41)) wNil))) wNil)) (gNm 3)
  (sSeq (sSet 4 (wFn (p_law_off c) (wCons (wVar 1) (wCons (wC (.int 2)) wNil))))
  (sSeq (sPar 5 6 (wCons (wBin wIx (wVar 2) (wBin (wI2 CMul fun i j => i * j) (wC (.int 2)) (wVar 4))) (wCons (wBin wIx (wVar 2) (wBin wAdd (wBin (wI2 CMul fun i j => i * j) (wC (.int 2)) (wVar 4)) (wC (.int 1)))) wNil)))
  (sSeq (sSet 7 (wLc (iAny (wBin wIx (wMeth c.House "table" (p_House_table c) (wVar 5) wNil) (wC (.int 0)))) (gNm 16) wYes (wBin wIx (wVar 16) (wC (.int 0))) [16]))
  (sSeq (sSet 8 (wFn (p_law_off c) (wCons (wVar 1) (wCons (wC (.int 5)) wNil))))
  (sSeq (sIf (tOr (tB (wBin (wEqB false) (wVar 7) (wLst wNil))) (tB (wBin (wEqB false) (wVar 8) (wC (.int 0)))))
  (sSet 9 (wLc (iAny (wTup (wCons (wVar 5) (wCons (wVar 6) wNil)))) (gNm 17) wYes (wMeth c.House "make" (p_House_make c) (wVar 17) (wCons (wVar 3) wNil)) [17]))
  (sSeq (sSet 10 (wBin wIx (wVar 7) (wFn (p_law_off c) (wCons (wVar 1) (wCons (wCall wLen (uCons (wVar 7) uNil)) wNil)))))
  (sIf (tB (wBin (wEqB false) (wVar 8) (wC (.int 1))))
  (sSet 9 (wLc (iAny (wTup (wCons (wVar 5) (wCons (wVar 6) wNil)))) (gNm 17) wYes (wMeth c.House "give" (p_House_give c) (wVar 17) (wCons (wVar 10) (wCons (wBin (wI0 fun i j => i - j) (wC (.int 1)) (wVar 4)) wNil))) [17]))
  (sIf (tB (wBin (wEqB false) (wVar 8) (wC (.int 2))))
  (sSet 9 (wLc (iAny (wTup (wCons (wVar 5) (wCons (wVar 6) wNil)))) (gNm 17) wYes (wMeth c.House "drop" (p_House_drop c) (wVar 17) (wCons (wVar 10) wNil)) [17]))
  (sSet 9 (wLc (iAny (wTup (wCons (wVar 5) (wCons (wVar 6) wNil)))) (gNm 17) wYes (wMeth c.House "call" (p_House_call c) (wVar 17) (wCons (wVar 10) (wCons (wC (.int 3)) wNil))) [17]))))))
  (sSeq (sIf (tNot (tB (wFn (p_law_alike c) (wCons (wBin wIx (wVar 9) (wC (.int 0))) (wCons (wBin wIx (wVar 9) (wC (.int 1))) wNil)))))
  (sRet (wC (.bl false)))
  sNil)
  (sSeq (sSet 11 (wLc (iRange1 (wCons (wC (.int 4)) wNil)) (gNm 14) wYes (wMeth c.House "turn" (p_House_turn c) (wBin wIx (wVar 2) (wVar 14)) wNil) [14]))
  (sSeq (sIf (tOr (tB (wBin (wEqB true) (wBin wIx (wVar 11) (wC (.int 0))) (wBin wIx (wVar 11) (wC (.int 1))))) (tB (wBin (wEqB true) (wBin wIx (wVar 11) (wC (.int 2))) (wBin wIx (wVar 11) (wC (.int 3))))))
  (sRet (wC (.bl false)))
  sNil)
  (sSeq (sFor (iAny (wBin wIx (wVar 11) (wBin (wI2 CMul fun i j => i * j) (wC (.int 2)) (wVar 4)))) (gNm 12)
  (sSeq (sSet 13 (wLc (iAny (wSlice wCut (wVar 2) (oSome (wBin (wI2 CMul fun i j => i * j) (wC (.int 2)) (wBin wIx (wVar 12) (wC (.int 0))))) (oSome (wBin wAdd (wBin (wI2 CMul fun i j => i * j) (wC (.int 2)) (wBin wIx (wVar 12) (wC (.int 0)))) (wC (.int 2)))))) (gNm 17) wYes (wMeth c.House "bring" (p_House_bring c) (wVar 17) (wCons (wVar 12) wNil)) [17]))
  (sSeq (sIf (tB (wBin (wEqB true) (wBin wIx (wVar 13) (wC (.int 0))) (wBin wIx (wVar 13) (wC (.int 1)))))
  (sRet (wC (.bl false)))
  sNil)
  (sExpr (wMt "list" mClear (wBin wIx (wVar 13) (wC (.int 1))) uNil)))))
  (sSeq (sExpr (wMt "list" mClear (wBin wIx (wVar 11) (wC (.int 1))) uNil))
  (sSeq (sExpr (wMt "list" mAppend (wBin wIx (wVar 11) (wC (.int 3))) (uCons (wTup wNil) uNil)))
  (sSeq (sFor (iAny (wTup (wCons (wC (.int 1)) (wCons (wC (.int 3)) wNil)))) (gNm 14)
  (sFor (iAny (wTup (wCons (wMeth c.House "things" (p_House_things c) (wBin wIx (wVar 2) (wVar 14)) wNil) (wCons (wMeth c.House "answers" (p_House_answers c) (wBin wIx (wVar 2) (wVar 14)) wNil) (wCons (wMeth c.House "notes" (p_House_notes c) (wBin wIx (wVar 2) (wVar 14)) wNil) wNil))))) (gNm 15)
  (sExpr (wMt "list" mAppend (wVar 15) (uCons (wC (.int 7)) uNil)))))
  (sFor (iAny (wTup (wCons (wC (.int 0)) (wCons (wC (.int 2)) wNil)))) (gNm 14)
  (sIf (tOr (tB (wBin (wEqB true) (wMeth c.House "table" (p_House_table c) (wBin wIx (wVar 2) (wVar 14)) wNil) (wMeth c.House "table" (p_House_table c) (wBin wIx (wVar 2) (wBin wAdd (wVar 14) (wC (.int 1)))) wNil))) (tB (wBin (wEqB true) (wMeth c.House "things" (p_House_things c) (wBin wIx (wVar 2) (wVar 14)) wNil) (wMeth c.House "things" (p_House_things c) (wBin wIx (wVar 2) (wBin wAdd (wVar 14) (wC (.int 1)))) wNil))))
  (sRet (wC (.bl false)))
  sNil)))))))))))))))
  (sRet (wC (.bl true))))))
def p_law (c : Cs) (K : PySem.W.Frag) : SpW := bodyW 1 18 (f_law c K)
end Dn

namespace Dn
open PySem L2 PyProof.Rows PySem.W

/-! ### tables with typed keys -/
section
variable {κ ν : Type} [DecidableEq κ]
def aget (m : List (κ × ν)) (k : κ) : Option ν := (m.find? fun p => decide (p.1 = k)).map (·.2)
def aput (m : List (κ × ν)) (k : κ) (v : ν) : List (κ × ν) := if (m.any fun p => decide (p.1 = k)) = true then m.map (fun p => if p.1 = k then (p.1, v) else p) else m ++ [(k, v)]
def adel (m : List (κ × ν)) (k : κ) : List (κ × ν) := m.filter fun p => decide (p.1 ≠ k)
theorem aget_some {m : List (κ × ν)} {k : κ} {v : ν} (h : aget m k = some v) : (k, v) ∈ m := by
  unfold aget at h
  obtain ⟨p, e, rfl⟩ := Option.map_eq_some_iff.mp h
  have := List.find?_some e
  simp at this
  subst this
  exact List.mem_of_find?_eq_some e
theorem aget_any {m : List (κ × ν)} {k : κ} : (aget m k).isSome = m.any fun p => decide (p.1 = k) := by
  unfold aget
  rw [Option.isSome_map]
  induction m with
  | nil => rfl
  | cons p m ih => by_cases h : p.1 = k <;> simp [List.find?_cons, h, ih]
end
section
variable {κ ν : Type} [DecidableEq κ] {e : κ × ν → D × D} {f : κ → D} (he : ∀ p, (e p).1 = f p.1) (inj : ∀ a b, f a = f b → a = b)
include he inj
theorem key_iff (p : κ × ν) (k : κ) : (e p).1 = f k ↔ p.1 = k := by
  rw [he]
  exact ⟨inj _ _, fun z => by rw [z]⟩
theorem dget_map (m : List (κ × ν)) (k : κ) : dget (m.map e) (f k) = (m.find? fun p => decide (p.1 = k)).map fun p => (e p).2 := by
  unfold dget
  rw [List.find?_map]
  simp only [Function.comp_def, key_iff he inj, Option.map_map]
theorem any_map (m : List (κ × ν)) (k : κ) : ((m.map e).any fun p => decide (p.1 = f k)) = m.any fun p => decide (p.1 = k) := by
  rw [List.any_map]
  simp only [Function.comp_def, key_iff he inj]
theorem ddel_map (m : List (κ × ν)) (k : κ) : ddel (m.map e) (f k) = (adel m k).map e := by
  unfold ddel adel
  rw [List.filter_map]
  simp only [Function.comp_def, ne_eq, key_iff he inj]
theorem dput_map (m : List (κ × ν)) (k : κ) (v : ν) (w : D) (hv : ∀ p ∈ m, p.1 = k → ((e p).1, w) = e (p.1, v)) (hn : (f k, w) = e (k, v)) : dput (m.map e) (f k) w = (aput m k v).map e := by
  unfold dput aput
  rw [any_map he inj]
  split
  · rw [List.map_map, List.map_map]
    refine List.map_congr_left fun p hp => ?_
    simp only [Function.comp_def, key_iff he inj]
    split
    · rename_i h; exact hv p hp h
    · rfl
  · rw [List.map_append, List.map_singleton, hn]
end
abbrev Hd := Int × Int
def eH (h : Hd) : D := .tup [.int h.1, .int h.2]
theorem eH_inj (a b : Hd) (e : eH a = eH b) : a = b := by
  obtain ⟨a1, a2⟩ := a
  obtain ⟨b1, b2⟩ := b
  simp [eH] at e
  simp [e]
theorem eI_inj (a b : Int) (e : D.int a = D.int b) : a = b := by simpa using e
theorem keyIn_int {k : Int} {kvs : List (D × D)} (h : ∀ p ∈ kvs, ∃ i, p.1 = .int i) : KeyIn (.int k) kvs := ⟨rfl, fun p hp => .inl (h p hp)⟩
theorem keyIn_hd {k : Hd} {kvs : List (D × D)} (h : ∀ p ∈ kvs, ∃ xs, p.1 = .tup xs) : KeyIn (eH k) kvs := ⟨by simp [eH, keyOk], h⟩
theorem keyIn_ints {ν : Type} {e : Int × ν → D × D} (he : ∀ p, (e p).1 = .int p.1) {m : List (Int × ν)} {k : Int} : KeyIn (.int k) (m.map e) := keyIn_int fun p hp => by
  obtain ⟨q, _, rfl⟩ := List.mem_map.mp hp
  exact ⟨_, he q⟩
theorem keyIn_hds {ν : Type} {e : Hd × ν → D × D} (he : ∀ p, (e p).1 = eH p.1) {m : List (Hd × ν)} {k : Hd} : KeyIn (eH k) (m.map e) := keyIn_hd fun p hp => by
  obtain ⟨q, _, rfl⟩ := List.mem_map.mp hp
  exact ⟨_, he q⟩

/-! ### sorting of typed keys -/
def sortK {κ : Type} (e : κ → D) (xs : List κ) : List κ := xs.mergeSort fun a b => dataLe false D.pd (e a) (e b)
theorem sortD_map {κ : Type} (e : κ → D) (xs : List κ) : sortD (xs.map e) = (sortK e xs).map e :=
  (List.map_mergeSort (f := e) (r := fun a b => dataLe false D.pd (e a) (e b)) (s := dataLe false D.pd) fun _ _ _ _ => rfl).symm
theorem sortK_mem {κ : Type} {e : κ → D} {xs : List κ} {x : κ} : x ∈ sortK e xs ↔ x ∈ xs := List.mem_mergeSort
theorem sortK_perm {κ : Type} {e : κ → D} {xs : List κ} : (sortK e xs).Perm xs := List.mergeSort_perm ..
theorem canSort_ints {xs : List Int} (h : xs.length ≤ sizeLine) : CanSort (xs.map D.int) := by
  refine ⟨?_, fun d hd d' hd' => ?_, .inr fun d hd => ?_, by simpa using h, fun x hx => ?_⟩
  · clear h
    induction xs with
    | nil => rfl
    | cons x xs ih => simpa [D.pures, D.pure] using ih
  · obtain ⟨_, h1, rfl⟩ := List.mem_map.mp hd
    obtain ⟨a, _, rfl⟩ := List.mem_map.mp h1
    obtain ⟨_, h2, rfl⟩ := List.mem_map.mp hd'
    obtain ⟨b, _, rfl⟩ := List.mem_map.mp h2
    simp [D.pd, PySem.W.alike]
  · obtain ⟨_, h1, rfl⟩ := List.mem_map.mp hd
    obtain ⟨a, _, rfl⟩ := List.mem_map.mp h1
    exact ⟨by simp [D.pd], by simp [D.pd]⟩
  · obtain ⟨a, _, rfl⟩ := List.mem_map.mp hx
    simp [D.pd, PyData.depth]
theorem canSort_tups {κ : Type} {e : κ → D} {xs : List κ} (he : ∀ x y, (e x).pure = true ∧ PySem.W.alike (e x).pd (e y).pd = true ∧ (∃ z r, (e x).pd = .tuple (z :: r)) ∧ (e x).pd.depth ≤ 60) (h : xs.length ≤ sizeLine) : CanSort (xs.map e) := by
  refine ⟨?_, fun d hd d' hd' => ?_, .inl fun d hd => ?_, by simpa using h, fun x hx => ?_⟩
  · clear h
    induction xs with
    | nil => rfl
    | cons x xs ih => simpa [D.pures, (he x x).1] using ih
  · obtain ⟨_, h1, rfl⟩ := List.mem_map.mp hd
    obtain ⟨a, _, rfl⟩ := List.mem_map.mp h1
    obtain ⟨_, h2, rfl⟩ := List.mem_map.mp hd'
    obtain ⟨b, _, rfl⟩ := List.mem_map.mp h2
    exact (he a b).2.1
  · obtain ⟨_, h1, rfl⟩ := List.mem_map.mp hd
    obtain ⟨a, _, rfl⟩ := List.mem_map.mp h1
    exact (he a a).2.2.1
  · obtain ⟨a, _, rfl⟩ := List.mem_map.mp hx
    exact (he a a).2.2.2
theorem canSort_hds {xs : List Hd} (h : xs.length ≤ sizeLine) : CanSort (xs.map eH) := canSort_tups (fun x y => by
  refine ⟨rfl, rfl, ⟨_, _, rfl⟩, ?_⟩
  simp [eH, D.pd, D.pds, PyData.depth, PyData.depthAll]) h

/-! ### attributes by place -/
theorem lookup_fs {f : Str} : ∀ {ks : List Str} {vs : List D} {n : Nat}, ks.findIdx? (fun k => f == k) = some n → vs.length = ks.length → (ks.zip vs).lookup f = vs[n]?
  | [], _, _, h, _ => by simp at h
  | _ :: _, [], _, _, h => by simp at h
  | k :: ks, v :: vs, n, h, hl => by
    rw [List.zip_cons_cons, List.lookup_cons]
    rw [List.findIdx?_cons] at h
    cases e : f == k with
    | true => rw [e] at h; simp at h; subst h; rfl
    | false =>
      rw [e] at h
      simp only [Bool.false_eq_true, if_false, Option.map_eq_some_iff] at h
      obtain ⟨m, hm, rfl⟩ := h
      simpa using lookup_fs hm (by simpa using hl)
theorem putD_fs {f : Str} {v : D} : ∀ {ks : List Str} {vs : List D} {n : Nat}, ks.findIdx? (fun k => f == k) = some n → vs.length = ks.length → putD f v (ks.zip vs) = ks.zip (vs.set n v)
  | [], _, _, h, _ => by simp at h
  | _ :: _, [], _, _, h => by simp at h
  | k :: ks, x :: vs, n, h, hl => by
    rw [List.zip_cons_cons]
    rw [List.findIdx?_cons] at h
    show (if k = f then (k, v) :: ks.zip vs else (k, x) :: putD f v (ks.zip vs)) = _
    cases e : f == k with
    | true =>
      rw [e] at h
      simp at h
      subst h
      rw [if_pos (beq_iff_eq.mp e).symm]
      rfl
    | false =>
      rw [e] at h
      simp only [Bool.false_eq_true, if_false, Option.map_eq_some_iff] at h
      obtain ⟨m, hm, rfl⟩ := h
      rw [if_neg fun z => by rw [z] at e; simp at e]
      rw [putD_fs hm (by simpa using hl)]
      rfl
theorem lookup_no {f : Str} : ∀ {ks : List Str} {vs : List D}, ks.findIdx? (fun k => f == k) = none → (ks.zip vs).lookup f = none
  | [], _, _ => by simp
  | _ :: _, [], _ => by simp
  | k :: ks, v :: vs, h => by
    rw [List.findIdx?_cons] at h
    rw [List.zip_cons_cons, List.lookup_cons]
    cases e : f == k with
    | true => rw [e] at h; simp at h
    | false =>
      rw [e] at h
      simp only [Bool.false_eq_true, if_false, Option.map_eq_none_iff] at h
      exact lookup_no h
theorem putD_new {f : Str} {v : D} : ∀ {ks : List Str} {vs : List D}, ks.findIdx? (fun k => f == k) = none → vs.length = ks.length → putD f v (ks.zip vs) = (ks ++ [f]).zip (vs ++ [v])
  | [], [], _, _ => rfl
  | [], _ :: _, _, h => by simp at h
  | _ :: _, [], _, h => by simp at h
  | k :: ks, x :: vs, h, hl => by
    rw [List.findIdx?_cons] at h
    rw [List.zip_cons_cons]
    show (if k = f then (k, v) :: ks.zip vs else (k, x) :: putD f v (ks.zip vs)) = _
    cases e : f == k with
    | true => rw [e] at h; simp at h
    | false =>
      rw [e] at h
      simp only [Bool.false_eq_true, if_false, Option.map_eq_none_iff] at h
      rw [if_neg fun z => by rw [z] at e; simp at e, putD_new h (by simpa using hl)]
      rfl
end Dn

namespace Dn
open PySem L2 PyProof.Rows PySem.W

/-! ### a house as data -/
structure Th where
  worth : Int
  links : List (Hd × List Int)
inductive Wh where
  | give (to : Int) | call (n k : Int)
inductive An where
  | val (i : Int) | dead
structure Hv where
  number : Int
  many : Int
  stand : List (Int × Th)
  made : Int
  own : List (Int × Int)
  lent : List (Hd × Int)
  units : List (Hd × List Int)
  met : List (Hd × Unit)
  counts : List (Int × Int)
  untold : List (Hd × Int)
  asks : List (Int × (Hd × Wh))
  asked : Int
  done : List (Hd × An)
  drops : List (Hd × Int)
  calls : List (Option An)
  watched : List (Hd × Unit)
  dead : List (Int × Unit)
  told : List (Hd × Unit)
/-- the places of a house's objects -/
inductive Pt where
  | house | things | stand | own | lent | units | met | counts | untold | asks | done | drops | calls | watched | dead | told
  | thing (k : Int) | links (k : Int) | link (k : Int) (h : Hd) | unit (h : Hd)
  deriving DecidableEq
def Pt.code : Pt → List Int
  | .house => [0] | .things => [1] | .stand => [2] | .own => [3] | .lent => [4] | .units => [5] | .met => [6] | .counts => [7] | .untold => [8] | .asks => [9]
  | .done => [10] | .drops => [11] | .calls => [12] | .watched => [13] | .dead => [14] | .told => [15]
  | .thing k => [16, k] | .links k => [17, k] | .link k h => [18, k, h.1, h.2] | .unit h => [19, h.1, h.2]
def Pt.back : List Int → Option Pt
  | [n] => if n = 0 then some .house else if n = 1 then some .things else if n = 2 then some .stand else if n = 3 then some .own else if n = 4 then some .lent else if n = 5 then some .units else if n = 6 then some .met
    else if n = 7 then some .counts else if n = 8 then some .untold else if n = 9 then some .asks else if n = 10 then some .done else if n = 11 then some .drops else if n = 12 then some .calls else if n = 13 then some .watched
    else if n = 14 then some .dead else if n = 15 then some .told else none
  | [n, k] => if n = 16 then some (.thing k) else some (.links k)
  | [_, a, b] => some (.unit (a, b))
  | [_, k, a, b] => some (.link k (a, b))
  | _ => none
theorem Pt.back_code (p : Pt) : Pt.back p.code = some p := by cases p <;> rfl
theorem Pt.code_inj {p q : Pt} (e : p.code = q.code) : p = q := by
  have := congrArg Pt.back e
  rw [Pt.back_code, Pt.back_code] at this
  exact Option.some.inj this
def kH : List Str := ["number", "many", "own", "units", "units_met", "counts", "untold", "asks", "asked", "done", "drops", "calls", "watched", "dead", "told"]
def kT : List Str := ["number", "stand", "made", "own", "lent"]
def kTh : List Str := ["worth", "links"]
def eWh : Wh → D
  | .give to => .tup [.str "give", .int to]
  | .call n k => .tup [.str "call", .int n, .int k]
def eAn : An → D
  | .val i => .int i
  | .dead => .str "dead"
def eCall : Option An → D
  | none => .non
  | some a => eAn a
abbrev Lc := Pt → Addr
section
variable (c : Cs) (l : Lc)
def xStand (p : Int × Th) : D × D := (.int p.1, .ref (l (.thing p.1)))
def xInt (p : Int × Int) : D × D := (.int p.1, .int p.2)
def xHI (p : Hd × Int) : D × D := (eH p.1, .int p.2)
def xUnits (p : Hd × List Int) : D × D := (eH p.1, .ref (l (.unit p.1)))
def xSetH (p : Hd × Unit) : D × D := (eH p.1, .bl true)
def xSetI (p : Int × Unit) : D × D := (.int p.1, .bl true)
def xAsks (p : Int × (Hd × Wh)) : D × D := (.int p.1, .tup [eH p.2.1, eWh p.2.2])
def xDone (p : Hd × An) : D × D := (eH p.1, eAn p.2)
def xLinks (k : Int) (p : Hd × List Int) : D × D := (eH p.1, .ref (l (.link k p.1)))
def eDrop (p : Hd × Int) : D := .tup [eH p.1, .int p.2]
def vH (h : Hv) : List D := [.int h.number, .int h.many, .ref (l .things), .ref (l .units), .ref (l .met), .ref (l .counts), .ref (l .untold), .ref (l .asks), .int h.asked, .ref (l .done), .ref (l .drops), .ref (l .calls), .ref (l .watched), .ref (l .dead), .ref (l .told)]
def vT (h : Hv) : List D := [.int h.number, .ref (l .stand), .int h.made, .ref (l .own), .ref (l .lent)]
/-- what lies where -/
def M (h : Hv) : Pt → Option Ob
  | .house => some (.ins c.House (kH.zip (vH l h)))
  | .things => some (.ins c.Things (kT.zip (vT l h)))
  | .stand => some (.dct (h.stand.map (xStand l)))
  | .own => some (.dct (h.own.map xInt))
  | .lent => some (.dct (h.lent.map xHI))
  | .units => some (.dct (h.units.map (xUnits l)))
  | .met => some (.dct (h.met.map xSetH))
  | .counts => some (.dct (h.counts.map xInt))
  | .untold => some (.dct (h.untold.map xHI))
  | .asks => some (.dct (h.asks.map xAsks))
  | .done => some (.dct (h.done.map xDone))
  | .drops => some (.lst (h.drops.map eDrop))
  | .calls => some (.lst (h.calls.map eCall))
  | .watched => some (.dct (h.watched.map xSetH))
  | .dead => some (.dct (h.dead.map xSetI))
  | .told => some (.dct (h.told.map xSetH))
  | .thing k => (aget h.stand k).map fun t => .ins c.Thing (kTh.zip [.int t.worth, .ref (l (.links k))])
  | .links k => (aget h.stand k).map fun t => .dct (t.links.map (xLinks l k))
  | .link k q => ((aget h.stand k).bind fun t => aget t.links q).map fun us => .lst (us.map D.int)
  | .unit q => (aget h.units q).map fun us => .lst (us.map D.int)
/-- the house h at the places l, in region i -/
def HR (i : Nat) (l : Lc) (h : Hv) (A : Ah) : Prop := ∀ p b, M c l h p = some b → A (l p) = some ⟨⟨i, p.code⟩, b⟩
def House (i : Nat) (a : Addr) (h : Hv) (A : Ah) : Prop := ∃ l, l .house = a ∧ HR c i l h A
end
/-- what is not of region i stays -/
def Frm (i : Nat) (A A' : Ah) : Prop := ∀ a x, A a = some x → x.tg.r ≠ i → A' a = some x
theorem Frm.refl (i : Nat) (A : Ah) : Frm i A A := fun _ _ h _ => h
theorem Frm.trans {i : Nat} {A A1 A2 : Ah} (a : Frm i A A1) (b : Frm i A1 A2) : Frm i A A2 := fun x y h n => b x y (a x y h n) n
theorem Frm.upd {i : Nat} {A : Ah} {a : Addr} {x y : Cell} (h : A a = some x) (hx : x.tg.r = i) : Frm i A (up A a y) := fun b z hb n => by
  rw [up_ne fun e => (by subst e; rw [h] at hb; cases hb; exact n hx)]
  exact hb
theorem Frm.new {i : Nat} {A : Ah} {a : Addr} {y : Cell} (h : A a = none) : Frm i A (up A a y) := fun b z hb n => by
  rw [up_ne fun e => (by subst e; rw [h] at hb; cases hb)]
  exact hb
section
variable {c : Cs} {i : Nat} {l : Lc} {h h' : Hv} {A : Ah}
theorem HR.at (r : HR c i l h A) (p : Pt) {b : Ob} (e : M c l h p = some b) : A (l p) = some ⟨⟨i, p.code⟩, b⟩ := r p b e
/-- one object is changed -/
theorem HR.set (r : HR c i l h A) (p : Pt) {b0 b : Ob} (e : M c l h p = some b0) (hm : ∀ q z, q ≠ p → M c l h' q = some z → M c l h q = some z) (hp : ∀ z, M c l h' p = some z → z = b) : HR c i l h' (up A (l p) ⟨⟨i, p.code⟩, b⟩) := by
  intro q z hq
  by_cases hqp : q = p
  · subst hqp
    rw [up_same, hp z hq]
  · have hA := r q z (hm q z hqp hq)
    rw [up_ne fun e2 => ?_]
    · exact hA
    · rw [e2, r p b0 e] at hA
      simp at hA
      exact hqp (Pt.code_inj hA.1).symm
/-- other regions, and new objects -/
theorem HR.keep {j : Nat} {A' : Ah} (r : HR c i l h A) (f : Frm j A A') (n : i ≠ j) : HR c i l h A' := fun p b e => f _ _ (r p b e) n
theorem HR.new (r : HR c i l h A) {a : Addr} {y : Cell} (n : A a = none) : HR c i l h (up A a y) := fun p b e => by
  rw [up_ne fun e2 => (by have := r p b e; rw [e2, n] at this; cases this)]
  exact r p b e
/-- fewer objects are looked at -/
theorem HR.less (r : HR c i l h A) (hm : ∀ q z, M c l h' q = some z → M c l h q = some z) : HR c i l h' A := fun p b e => r p b (hm p b e)
/-- a new object has its place -/
theorem HR.place (r : HR c i l h A) (p : Pt) {a : Addr} {b : Ob} (ha : A a = some ⟨⟨i, p.code⟩, b⟩) (hm : ∀ q z, q ≠ p → M c (fun q => if q = p then a else l q) h' q = some z → A (l q) = some ⟨⟨i, q.code⟩, z⟩) (hp : ∀ z, M c (fun q => if q = p then a else l q) h' p = some z → z = b) :
    HR c i (fun q => if q = p then a else l q) h' A := by
  intro q z hq
  by_cases hqp : q = p
  · subst hqp
    simp only [if_true]
    rw [ha, hp z hq]
  · show A (if q = p then a else l q) = _
    rw [if_neg hqp]
    exact hm q z hqp hq
theorem House.keep {j : Nat} {a : Addr} {A' : Ah} (r : House c i a h A) (f : Frm j A A') (n : i ≠ j) : House c i a h A' := by
  obtain ⟨l, e, r⟩ := r
  exact ⟨l, e, r.keep f n⟩
end
end Dn

namespace Dn
open PySem L2 PyProof.Rows PySem.W
section
variable {ρ : Rho} {A : Ah} {k : K1}
mutual
theorem pyD_pure (A : Ah) : ∀ (n : Nat) (x : D) (d : PyData), x.pure = true → pyD A n x = some d → d = x.pd
  | 0, _, _, _, e => by simp [pyD] at e
  | _ + 1, .non, _, _, e => by simp [pyD] at e; simp [D.pd, ← e]
  | _ + 1, .bl _, _, _, e => by simp [pyD] at e; simp [D.pd, ← e]
  | _ + 1, .int _, _, _, e => by simp [pyD] at e; simp [D.pd, ← e]
  | _ + 1, .str _, _, _, e => by simp [pyD] at e; simp [D.pd, ← e]
  | n + 1, .tup xs, d, p, e => by
    simp only [pyD, Option.map_eq_some_iff] at e
    obtain ⟨ds, e, rfl⟩ := e
    rw [pyDs_pure A n xs ds (by simpa [D.pure] using p) e]
    simp [D.pd]
  | _ + 1, .ref _, _, p, _ => by simp [D.pure] at p
theorem pyDs_pure (A : Ah) : ∀ (n : Nat) (xs : List D) (ds : List PyData), D.pures xs = true → pyDs A n xs = some ds → ds = D.pds xs
  | 0, _, _, _, e => by simp [pyDs] at e
  | _ + 1, [], _, _, e => by simp [pyDs] at e; simp [D.pds, e]
  | n + 1, x :: xs, ds, p, e => by
    simp only [D.pures, Bool.and_eq_true] at p
    simp only [pyDs] at e
    cases e1 : pyD A n x with
    | none => rw [e1] at e; cases e
    | some d =>
      cases e2 : pyDs A n xs with
      | none => rw [e1, e2] at e; cases e
      | some r =>
        rw [e1, e2] at e
        cases e
        rw [pyD_pure A n x d p.1 e1, pyDs_pure A n xs r p.2 e2]
        simp [D.pds]
end
theorem PyOf.eq {x : D} {d : PyData} (p : x.pure = true) : PyOf ρ A (.d x) d ↔ d = x.pd := by
  refine ⟨fun h => ?_, fun h => h ▸ .pure p⟩
  have nl : ∀ xs, lstOf ρ A (.d x) ≠ some xs := fun xs e => by
    cases x <;> simp [lstOf, obOf, D.pure] at e p
  cases h with
  | pure _ => rfl
  | deep n e => exact pyD_pure A n x d p e
  | lst e _ => exact absurd e (nl _)
  | ldeep n e _ => exact absurd e (nl _)
@[simp] theorem wEq_int (n : Bool) (a b : Int) : wEqB n (.d (.int a)) (.d (.int b)) ρ A k ↔ k (.d (.bl (if n then !decide (a = b) else decide (a = b)))) ρ A := by
  constructor
  · rintro (⟨x, y, e1, e2, _, h⟩ | ⟨d, e, p1, p2, _, _, h⟩)
    · cases e1; cases e2; simpa using h
    · rw [PyOf.eq rfl] at p1 p2
      subst p1 p2
      have : PyData.eqv (D.int a).pd (D.int b).pd = decide (a = b) := Bool.eq_iff_iff.mpr (by simp [D.pd, PyData.eqv])
      rwa [this] at h
  · intro h
    exact .inl ⟨_, _, rfl, rfl, rfl, by simpa using h⟩
@[simp] theorem wEq_str (n : Bool) (a b : Str) : wEqB n (.d (.str a)) (.d (.str b)) ρ A k ↔ k (.d (.bl (if n then !decide (a = b) else decide (a = b)))) ρ A := by
  constructor
  · rintro (⟨x, y, e1, e2, _, h⟩ | ⟨d, e, p1, p2, _, _, h⟩)
    · cases e1; cases e2; simpa using h
    · rw [PyOf.eq rfl] at p1 p2
      subst p1 p2
      have : PyData.eqv (D.str a).pd (D.str b).pd = decide (a = b) := Bool.eq_iff_iff.mpr (by simp [D.pd, PyData.eqv])
      rwa [this] at h
  · intro h
    exact .inl ⟨_, _, rfl, rfl, rfl, by simpa using h⟩
theorem ltD_int {g : PyData → PyData → Bool} {a b : Int} : wLtD g (.d (.int a)) (.d (.int b)) ρ A k ↔ k (.d (.bl (g (.int a) (.int b)))) ρ A := by
  constructor
  · rintro ⟨d, e, p1, p2, _, _, _, h⟩
    rw [PyOf.eq rfl] at p1 p2
    subst p1 p2
    simpa [D.pd] using h
  · intro h
    exact ⟨_, _, (PyOf.eq rfl).mpr rfl, (PyOf.eq rfl).mpr rfl, by simp [D.pd, PySem.W.alike], by simp [D.pd], by simp [D.pd, PyData.depth], by simpa [D.pd] using h⟩
theorem b0_int {g : Int → Int → Bool} {a b : Int} : wB0 g (.d (.int a)) (.d (.int b)) ρ A k ↔ k (.d (.bl (g a b))) ρ A := by
  simp [wB0]
@[simp] theorem wLt_int (a b : Int) : wLt (.d (.int a)) (.d (.int b)) ρ A k ↔ k (.d (.bl (decide (a < b)))) ρ A := by
  simp only [wLt, b0_int, ltD_int, PySem.W.dataLt_int, or_self]
@[simp] theorem wLe_int (a b : Int) : wLe (.d (.int a)) (.d (.int b)) ρ A k ↔ k (.d (.bl (decide (a ≤ b)))) ρ A := by
  have : (!decide (b < a)) = decide (a ≤ b) := Bool.eq_iff_iff.mpr (by simp)
  simp only [wLe, b0_int, ltD_int, PySem.W.dataLt_int, this, or_self]
@[simp] theorem wGt_int (a b : Int) : wGt (.d (.int a)) (.d (.int b)) ρ A k ↔ k (.d (.bl (decide (b < a)))) ρ A := by
  simp only [wGt, b0_int, ltD_int, PySem.W.dataLt_int, or_self]
@[simp] theorem wGe_int (a b : Int) : wGe (.d (.int a)) (.d (.int b)) ρ A k ↔ k (.d (.bl (decide (b ≤ a)))) ρ A := by
  have : (!decide (a < b)) = decide (b ≤ a) := Bool.eq_iff_iff.mpr (by simp)
  simp only [wGe, b0_int, ltD_int, PySem.W.dataLt_int, this, or_self]
@[simp] theorem wAdd_int (a b : Int) : wAdd (.d (.int a)) (.d (.int b)) ρ A k ↔ k (.d (.int (a + b))) ρ A := by
  simp [wAdd, wI0, wAddS, wAddT, wAddL, lstOf, obOf]
theorem wIx_tup (xs : List D) (i : Int) : wIx (.d (.tup xs)) (.d (.int i)) ρ A k ↔ ∃ z, atI xs i = some z ∧ k (.d z) ρ A := by
  simp [wIx, wIxS, wIxD, wIxT, seqOf, rdctOf, obOf]
theorem ix_lst {a : Addr} {t : Tag} {xs : List D} (h : A a = some ⟨t, .lst xs⟩) (i : Int) : wIx (.d (.ref a)) (.d (.int i)) ρ A k ↔ ∃ z, atI xs i = some z ∧ k (.d z) ρ A := by
  simp [wIx, wIxS, wIxD, wIxT, seqOf, lstOf, rdctOf, obOf, h]
theorem ix_dctR {a : Addr} {t : Tag} {kvs : List (D × D)} (h : A a = some ⟨t, .dct kvs⟩) (j : D) : wIx (.d (.ref a)) (.d j) ρ A k ↔ KeyIn j kvs ∧ ∃ z, dget kvs j = some z ∧ k (.d z) ρ A := by
  simp [wIx, wIxS, wIxD, wIxT, seqOf, lstOf, rdctOf, obOf, h]
theorem pyOf_dct {a : Addr} {t : Tag} {b : Ob} (h : A a = some ⟨t, b⟩) (nb : ∀ xs, b ≠ .lst xs) (d : PyData) : ¬ PyOf ρ A (.d (.ref a)) d := fun p => by
  have nl : ∀ xs, lstOf ρ A (.d (.ref a)) ≠ some xs := fun xs e => by
    cases b <;> simp [lstOf, obOf, h] at e
    exact nb _ rfl
  cases p with
  | pure e => simp [D.pure] at e
  | deep n e =>
    cases n with
    | zero => simp [pyD] at e
    | succ n =>
      cases b <;> simp [pyD, h] at e
      exact nb _ rfl
  | lst e _ => exact nl _ e
  | ldeep n e _ => exact nl _ e
theorem in_dct {a : Addr} {t : Tag} {kvs : List (D × D)} (h : A a = some ⟨t, .dct kvs⟩) (n : Bool) (j : D) : wIn n (.d j) (.d (.ref a)) ρ A k ↔ KeyIn j kvs ∧ k (.d (.bl (neg n (dget kvs j).isSome))) ρ A := by
  constructor
  · rintro (⟨z, ks, e1, e2, ki, q⟩ | ⟨d, ds, _, p, _⟩ | ⟨_, _, _, e, _⟩ | ⟨z, xs, _, e, _⟩)
    · cases e1
      simp [rdctOf, obOf, h] at e2
      subst e2
      exact ⟨ki, q⟩
    · exact absurd p (pyOf_dct h (by simp) _)
    · cases e
    · simp [seqOf, lstOf, obOf, h] at e
  · rintro ⟨ki, q⟩
    exact .inl ⟨j, kvs, rfl, by simp [rdctOf, obOf, h], ki, q⟩
end
end Dn

namespace Dn
open PySem L2 PyProof.Rows PySem.W
section
variable {l : Lc} {k0 : Int}
theorem find_get {κ ν : Type} [DecidableEq κ] {m : List (κ × ν)} {k : κ} {β : Type} {g : κ → ν → β} : (m.find? fun p => decide (p.1 = k)).map (fun p => g p.1 p.2) = (aget m k).map (g k) := by
  unfold aget
  cases e : m.find? fun p => decide (p.1 = k) with
  | none => rfl
  | some p =>
    have : p.1 = k := by simpa using List.find?_some e
    simp [this]
theorem dget_xInt {m : List (Int × Int)} {k : Int} : dget (m.map xInt) (D.int k) = (aget m k).map ((fun _ v => D.int v) k) :=
  (dget_map (e := xInt) (f := D.int) (fun _ => rfl) eI_inj m k).trans (find_get (g := fun _ v => D.int v))
theorem ddel_xInt {m : List (Int × Int)} {k : Int} : ddel (m.map xInt) (D.int k) = (adel m k).map xInt := ddel_map (e := xInt) (f := D.int) (fun _ => rfl) eI_inj m k
theorem dput_xInt {m : List (Int × Int)} {k : Int} {v : Int} : dput (m.map xInt) (D.int k) ((fun _ v => D.int v) k v) = (aput m k v).map xInt := dput_map (e := xInt) (f := D.int) (fun _ => rfl) eI_inj m k v _ (fun p _ e => by subst e; rfl) rfl
theorem keyIn_xInt {m : List (Int × Int)} {k : Int} : KeyIn (D.int k) (m.map xInt) := keyIn_ints fun _ => rfl
theorem keys_xInt {m : List (Int × Int)} : (m.map xInt).map (·.1) = (m.map (·.1)).map D.int := by rw [List.map_map, List.map_map]; rfl
theorem dget_xHI {m : List (Hd × Int)} {k : Hd} : dget (m.map xHI) (eH k) = (aget m k).map ((fun _ v => D.int v) k) :=
  (dget_map (e := xHI) (f := eH) (fun _ => rfl) eH_inj m k).trans (find_get (g := fun _ v => D.int v))
theorem ddel_xHI {m : List (Hd × Int)} {k : Hd} : ddel (m.map xHI) (eH k) = (adel m k).map xHI := ddel_map (e := xHI) (f := eH) (fun _ => rfl) eH_inj m k
theorem dput_xHI {m : List (Hd × Int)} {k : Hd} {v : Int} : dput (m.map xHI) (eH k) ((fun _ v => D.int v) k v) = (aput m k v).map xHI := dput_map (e := xHI) (f := eH) (fun _ => rfl) eH_inj m k v _ (fun p _ e => by subst e; rfl) rfl
theorem keyIn_xHI {m : List (Hd × Int)} {k : Hd} : KeyIn (eH k) (m.map xHI) := keyIn_hds fun _ => rfl
theorem keys_xHI {m : List (Hd × Int)} : (m.map xHI).map (·.1) = (m.map (·.1)).map eH := by rw [List.map_map, List.map_map]; rfl
theorem dget_xUnits {m : List (Hd × List Int)} {k : Hd} : dget (m.map (xUnits l)) (eH k) = (aget m k).map ((fun k _ => D.ref (l (.unit k))) k) :=
  (dget_map (e := (xUnits l)) (f := eH) (fun _ => rfl) eH_inj m k).trans (find_get (g := fun k _ => D.ref (l (.unit k))))
theorem ddel_xUnits {m : List (Hd × List Int)} {k : Hd} : ddel (m.map (xUnits l)) (eH k) = (adel m k).map (xUnits l) := ddel_map (e := (xUnits l)) (f := eH) (fun _ => rfl) eH_inj m k
theorem dput_xUnits {m : List (Hd × List Int)} {k : Hd} {v : List Int} : dput (m.map (xUnits l)) (eH k) ((fun k _ => D.ref (l (.unit k))) k v) = (aput m k v).map (xUnits l) := dput_map (e := (xUnits l)) (f := eH) (fun _ => rfl) eH_inj m k v _ (fun p _ e => by subst e; rfl) rfl
theorem keyIn_xUnits {m : List (Hd × List Int)} {k : Hd} : KeyIn (eH k) (m.map (xUnits l)) := keyIn_hds fun _ => rfl
theorem keys_xUnits {m : List (Hd × List Int)} : (m.map (xUnits l)).map (·.1) = (m.map (·.1)).map eH := by rw [List.map_map, List.map_map]; rfl
theorem dget_xStand {m : List (Int × Th)} {k : Int} : dget (m.map (xStand l)) (D.int k) = (aget m k).map ((fun k _ => D.ref (l (.thing k))) k) :=
  (dget_map (e := (xStand l)) (f := D.int) (fun _ => rfl) eI_inj m k).trans (find_get (g := fun k _ => D.ref (l (.thing k))))
theorem ddel_xStand {m : List (Int × Th)} {k : Int} : ddel (m.map (xStand l)) (D.int k) = (adel m k).map (xStand l) := ddel_map (e := (xStand l)) (f := D.int) (fun _ => rfl) eI_inj m k
theorem dput_xStand {m : List (Int × Th)} {k : Int} {v : Th} : dput (m.map (xStand l)) (D.int k) ((fun k _ => D.ref (l (.thing k))) k v) = (aput m k v).map (xStand l) := dput_map (e := (xStand l)) (f := D.int) (fun _ => rfl) eI_inj m k v _ (fun p _ e => by subst e; rfl) rfl
theorem keyIn_xStand {m : List (Int × Th)} {k : Int} : KeyIn (D.int k) (m.map (xStand l)) := keyIn_ints fun _ => rfl
theorem keys_xStand {m : List (Int × Th)} : (m.map (xStand l)).map (·.1) = (m.map (·.1)).map D.int := by rw [List.map_map, List.map_map]; rfl
theorem dget_xSetH {m : List (Hd × Unit)} {k : Hd} : dget (m.map xSetH) (eH k) = (aget m k).map ((fun _ _ => D.bl true) k) :=
  (dget_map (e := xSetH) (f := eH) (fun _ => rfl) eH_inj m k).trans (find_get (g := fun _ _ => D.bl true))
theorem ddel_xSetH {m : List (Hd × Unit)} {k : Hd} : ddel (m.map xSetH) (eH k) = (adel m k).map xSetH := ddel_map (e := xSetH) (f := eH) (fun _ => rfl) eH_inj m k
theorem dput_xSetH {m : List (Hd × Unit)} {k : Hd} {v : Unit} : dput (m.map xSetH) (eH k) ((fun _ _ => D.bl true) k v) = (aput m k v).map xSetH := dput_map (e := xSetH) (f := eH) (fun _ => rfl) eH_inj m k v _ (fun p _ e => by subst e; rfl) rfl
theorem keyIn_xSetH {m : List (Hd × Unit)} {k : Hd} : KeyIn (eH k) (m.map xSetH) := keyIn_hds fun _ => rfl
theorem keys_xSetH {m : List (Hd × Unit)} : (m.map xSetH).map (·.1) = (m.map (·.1)).map eH := by rw [List.map_map, List.map_map]; rfl
theorem dget_xSetI {m : List (Int × Unit)} {k : Int} : dget (m.map xSetI) (D.int k) = (aget m k).map ((fun _ _ => D.bl true) k) :=
  (dget_map (e := xSetI) (f := D.int) (fun _ => rfl) eI_inj m k).trans (find_get (g := fun _ _ => D.bl true))
theorem ddel_xSetI {m : List (Int × Unit)} {k : Int} : ddel (m.map xSetI) (D.int k) = (adel m k).map xSetI := ddel_map (e := xSetI) (f := D.int) (fun _ => rfl) eI_inj m k
theorem dput_xSetI {m : List (Int × Unit)} {k : Int} {v : Unit} : dput (m.map xSetI) (D.int k) ((fun _ _ => D.bl true) k v) = (aput m k v).map xSetI := dput_map (e := xSetI) (f := D.int) (fun _ => rfl) eI_inj m k v _ (fun p _ e => by subst e; rfl) rfl
theorem keyIn_xSetI {m : List (Int × Unit)} {k : Int} : KeyIn (D.int k) (m.map xSetI) := keyIn_ints fun _ => rfl
theorem keys_xSetI {m : List (Int × Unit)} : (m.map xSetI).map (·.1) = (m.map (·.1)).map D.int := by rw [List.map_map, List.map_map]; rfl
theorem dget_xAsks {m : List (Int × (Hd × Wh))} {k : Int} : dget (m.map xAsks) (D.int k) = (aget m k).map ((fun (_ : Int) (v : Hd × Wh) => D.tup [eH v.1, eWh v.2]) k) :=
  (dget_map (e := xAsks) (f := D.int) (fun _ => rfl) eI_inj m k).trans (find_get (g := fun (_ : Int) (v : Hd × Wh) => D.tup [eH v.1, eWh v.2]))
theorem ddel_xAsks {m : List (Int × (Hd × Wh))} {k : Int} : ddel (m.map xAsks) (D.int k) = (adel m k).map xAsks := ddel_map (e := xAsks) (f := D.int) (fun _ => rfl) eI_inj m k
theorem dput_xAsks {m : List (Int × (Hd × Wh))} {k : Int} {v : (Hd × Wh)} : dput (m.map xAsks) (D.int k) ((fun (_ : Int) (v : Hd × Wh) => D.tup [eH v.1, eWh v.2]) k v) = (aput m k v).map xAsks := dput_map (e := xAsks) (f := D.int) (fun _ => rfl) eI_inj m k v _ (fun p _ e => by subst e; rfl) rfl
theorem keyIn_xAsks {m : List (Int × (Hd × Wh))} {k : Int} : KeyIn (D.int k) (m.map xAsks) := keyIn_ints fun _ => rfl
theorem keys_xAsks {m : List (Int × (Hd × Wh))} : (m.map xAsks).map (·.1) = (m.map (·.1)).map D.int := by rw [List.map_map, List.map_map]; rfl
theorem dget_xDone {m : List (Hd × An)} {k : Hd} : dget (m.map xDone) (eH k) = (aget m k).map ((fun _ v => eAn v) k) :=
  (dget_map (e := xDone) (f := eH) (fun _ => rfl) eH_inj m k).trans (find_get (g := fun _ v => eAn v))
theorem ddel_xDone {m : List (Hd × An)} {k : Hd} : ddel (m.map xDone) (eH k) = (adel m k).map xDone := ddel_map (e := xDone) (f := eH) (fun _ => rfl) eH_inj m k
theorem dput_xDone {m : List (Hd × An)} {k : Hd} {v : An} : dput (m.map xDone) (eH k) ((fun _ v => eAn v) k v) = (aput m k v).map xDone := dput_map (e := xDone) (f := eH) (fun _ => rfl) eH_inj m k v _ (fun p _ e => by subst e; rfl) rfl
theorem keyIn_xDone {m : List (Hd × An)} {k : Hd} : KeyIn (eH k) (m.map xDone) := keyIn_hds fun _ => rfl
theorem keys_xDone {m : List (Hd × An)} : (m.map xDone).map (·.1) = (m.map (·.1)).map eH := by rw [List.map_map, List.map_map]; rfl
theorem dget_xLinks {m : List (Hd × List Int)} {k : Hd} : dget (m.map (xLinks l k0)) (eH k) = (aget m k).map ((fun k _ => D.ref (l (.link k0 k))) k) :=
  (dget_map (e := (xLinks l k0)) (f := eH) (fun _ => rfl) eH_inj m k).trans (find_get (g := fun k _ => D.ref (l (.link k0 k))))
theorem ddel_xLinks {m : List (Hd × List Int)} {k : Hd} : ddel (m.map (xLinks l k0)) (eH k) = (adel m k).map (xLinks l k0) := ddel_map (e := (xLinks l k0)) (f := eH) (fun _ => rfl) eH_inj m k
theorem dput_xLinks {m : List (Hd × List Int)} {k : Hd} {v : List Int} : dput (m.map (xLinks l k0)) (eH k) ((fun k _ => D.ref (l (.link k0 k))) k v) = (aput m k v).map (xLinks l k0) := dput_map (e := (xLinks l k0)) (f := eH) (fun _ => rfl) eH_inj m k v _ (fun p _ e => by subst e; rfl) rfl
theorem keyIn_xLinks {m : List (Hd × List Int)} {k : Hd} : KeyIn (eH k) (m.map (xLinks l k0)) := keyIn_hds fun _ => rfl
theorem keys_xLinks {m : List (Hd × List Int)} : (m.map (xLinks l k0)).map (·.1) = (m.map (·.1)).map eH := by rw [List.map_map, List.map_map]; rfl
end
section
variable {ρ : Rho} {A : Ah} {k : K1} {a : Addr} {t : Tag} {kvs : List (D × D)} {xs : List D}
theorem own_d {x : D} : (U.d x).own = false := rfl
theorem tyU_dct (h : A a = some ⟨t, .dct kvs⟩) : tyU "dict" ρ A (.d (.ref a)) := .inr (.inl ⟨rfl, kvs, by simp [dctOf, obOf, h]⟩)
theorem tyU_lst (h : A a = some ⟨t, .lst xs⟩) : tyU "list" ρ A (.d (.ref a)) := .inl ⟨rfl, xs, by simp [lstOf, obOf, h]⟩
theorem get2_iff (h : A a = some ⟨t, .dct kvs⟩) {z : D} {y : U} : mGet2 (.d (.ref a)) [.d z, y] ρ A k ↔ KeyIn z kvs ∧ k ((dget kvs z).elim y U.d) ρ A := by
  simp only [mGet2, List.cons.injEq, U.d.injEq, and_true, rdctOf, obOf, h, Option.map_some, Option.some.injEq]
  constructor
  · rintro ⟨z', y', kvs', ⟨rfl, rfl⟩, e, ki, q⟩
    cases e
    refine ⟨ki, ?_⟩
    cases e : dget kvs z <;> (rw [e] at q; exact q)
  · rintro ⟨ki, q⟩
    refine ⟨z, y, kvs, ⟨rfl, rfl⟩, rfl, ki, ?_⟩
    cases e : dget kvs z <;> (rw [e] at q; exact q)
theorem wIx_eH0 (q : Hd) : wIx (.d (eH q)) (.d (.int 0)) ρ A k ↔ k (.d (.int q.1)) ρ A := by simp [eH, wIx_tup, atI, ixN]
theorem wIx_eH1 (q : Hd) : wIx (.d (eH q)) (.d (.int 1)) ρ A k ↔ k (.d (.int q.2)) ρ A := by simp [eH, wIx_tup, atI, ixN]
theorem setOb_iff {kk : KS} {b b0 : Ob} (h : A a = some ⟨t, b0⟩) : setOb (.d (.ref a)) b ρ A kk ↔ kk ρ (up A a ⟨t, b⟩) := by simp [setOb, h]
theorem len_lst (h : A a = some ⟨t, .lst xs⟩) : wLen [.d (.ref a)] ρ A k ↔ k (.d (.int xs.length)) ρ A := by
  simp [wLen, seqOf, lstOf, dctOf, obOf, h]
theorem len_tmp : wLen [.lst xs] ρ A k ↔ k (.d (.int xs.length)) ρ A := by
  simp [wLen, seqOf, lstOf, dctOf, obOf, U.ob]
end
end Dn

namespace Dn
open PySem L2 PyProof.Rows PySem.W
section
variable {l : Lc} {h : Hv}
@[simp] theorem lkH_number : List.lookup ("number" : Str) (kH.zip (vH l h)) = some (D.int h.number) := lookup_fs (n := 0) (by decide +kernel) rfl
@[simp] theorem lkH_many : List.lookup ("many" : Str) (kH.zip (vH l h)) = some (D.int h.many) := lookup_fs (n := 1) (by decide +kernel) rfl
@[simp] theorem lkH_own : List.lookup ("own" : Str) (kH.zip (vH l h)) = some (D.ref (l .things)) := lookup_fs (n := 2) (by decide +kernel) rfl
@[simp] theorem lkH_units : List.lookup ("units" : Str) (kH.zip (vH l h)) = some (D.ref (l .units)) := lookup_fs (n := 3) (by decide +kernel) rfl
@[simp] theorem lkH_units_met : List.lookup ("units_met" : Str) (kH.zip (vH l h)) = some (D.ref (l .met)) := lookup_fs (n := 4) (by decide +kernel) rfl
@[simp] theorem lkH_counts : List.lookup ("counts" : Str) (kH.zip (vH l h)) = some (D.ref (l .counts)) := lookup_fs (n := 5) (by decide +kernel) rfl
@[simp] theorem lkH_untold : List.lookup ("untold" : Str) (kH.zip (vH l h)) = some (D.ref (l .untold)) := lookup_fs (n := 6) (by decide +kernel) rfl
@[simp] theorem lkH_asks : List.lookup ("asks" : Str) (kH.zip (vH l h)) = some (D.ref (l .asks)) := lookup_fs (n := 7) (by decide +kernel) rfl
@[simp] theorem lkH_asked : List.lookup ("asked" : Str) (kH.zip (vH l h)) = some (D.int h.asked) := lookup_fs (n := 8) (by decide +kernel) rfl
@[simp] theorem lkH_done : List.lookup ("done" : Str) (kH.zip (vH l h)) = some (D.ref (l .done)) := lookup_fs (n := 9) (by decide +kernel) rfl
@[simp] theorem lkH_drops : List.lookup ("drops" : Str) (kH.zip (vH l h)) = some (D.ref (l .drops)) := lookup_fs (n := 10) (by decide +kernel) rfl
@[simp] theorem lkH_calls : List.lookup ("calls" : Str) (kH.zip (vH l h)) = some (D.ref (l .calls)) := lookup_fs (n := 11) (by decide +kernel) rfl
@[simp] theorem lkH_watched : List.lookup ("watched" : Str) (kH.zip (vH l h)) = some (D.ref (l .watched)) := lookup_fs (n := 12) (by decide +kernel) rfl
@[simp] theorem lkH_dead : List.lookup ("dead" : Str) (kH.zip (vH l h)) = some (D.ref (l .dead)) := lookup_fs (n := 13) (by decide +kernel) rfl
@[simp] theorem lkH_told : List.lookup ("told" : Str) (kH.zip (vH l h)) = some (D.ref (l .told)) := lookup_fs (n := 14) (by decide +kernel) rfl
@[simp] theorem lkT_number : List.lookup ("number" : Str) (kT.zip (vT l h)) = some (D.int h.number) := lookup_fs (n := 0) (by decide +kernel) rfl
@[simp] theorem lkT_stand : List.lookup ("stand" : Str) (kT.zip (vT l h)) = some (D.ref (l .stand)) := lookup_fs (n := 1) (by decide +kernel) rfl
@[simp] theorem lkT_made : List.lookup ("made" : Str) (kT.zip (vT l h)) = some (D.int h.made) := lookup_fs (n := 2) (by decide +kernel) rfl
@[simp] theorem lkT_own : List.lookup ("own" : Str) (kT.zip (vT l h)) = some (D.ref (l .own)) := lookup_fs (n := 3) (by decide +kernel) rfl
@[simp] theorem lkT_lent : List.lookup ("lent" : Str) (kT.zip (vT l h)) = some (D.ref (l .lent)) := lookup_fs (n := 4) (by decide +kernel) rfl
@[simp] theorem lkH_m_make : List.lookup ("make" : Str) (kH.zip (vH l h)) = none := lookup_no (by decide +kernel)
@[simp] theorem lkH_m_count : List.lookup ("count" : Str) (kH.zip (vH l h)) = none := lookup_no (by decide +kernel)
@[simp] theorem lkH_m_need_hold : List.lookup ("need_hold" : Str) (kH.zip (vH l h)) = none := lookup_no (by decide +kernel)
@[simp] theorem lkH_m_take_unit : List.lookup ("take_unit" : Str) (kH.zip (vH l h)) = none := lookup_no (by decide +kernel)
@[simp] theorem lkH_m_get_unit : List.lookup ("get_unit" : Str) (kH.zip (vH l h)) = none := lookup_no (by decide +kernel)
@[simp] theorem lkH_m_settle : List.lookup ("settle" : Str) (kH.zip (vH l h)) = none := lookup_no (by decide +kernel)
@[simp] theorem lkH_m_lend : List.lookup ("lend" : Str) (kH.zip (vH l h)) = none := lookup_no (by decide +kernel)
@[simp] theorem lkH_m_give : List.lookup ("give" : Str) (kH.zip (vH l h)) = none := lookup_no (by decide +kernel)
@[simp] theorem lkH_m_ask : List.lookup ("ask" : Str) (kH.zip (vH l h)) = none := lookup_no (by decide +kernel)
@[simp] theorem lkH_m_drop : List.lookup ("drop" : Str) (kH.zip (vH l h)) = none := lookup_no (by decide +kernel)
@[simp] theorem lkH_m_need_thing : List.lookup ("need_thing" : Str) (kH.zip (vH l h)) = none := lookup_no (by decide +kernel)
@[simp] theorem lkH_m_link : List.lookup ("link" : Str) (kH.zip (vH l h)) = none := lookup_no (by decide +kernel)
@[simp] theorem lkH_m_unlink : List.lookup ("unlink" : Str) (kH.zip (vH l h)) = none := lookup_no (by decide +kernel)
@[simp] theorem lkH_m_sweep : List.lookup ("sweep" : Str) (kH.zip (vH l h)) = none := lookup_no (by decide +kernel)
@[simp] theorem lkH_m_call : List.lookup ("call" : Str) (kH.zip (vH l h)) = none := lookup_no (by decide +kernel)
@[simp] theorem lkH_m_add : List.lookup ("add" : Str) (kH.zip (vH l h)) = none := lookup_no (by decide +kernel)
@[simp] theorem lkH_m_answers : List.lookup ("answers" : Str) (kH.zip (vH l h)) = none := lookup_no (by decide +kernel)
@[simp] theorem lkH_m_watch : List.lookup ("watch" : Str) (kH.zip (vH l h)) = none := lookup_no (by decide +kernel)
@[simp] theorem lkH_m_notes : List.lookup ("notes" : Str) (kH.zip (vH l h)) = none := lookup_no (by decide +kernel)
@[simp] theorem lkH_m_things : List.lookup ("things" : Str) (kH.zip (vH l h)) = none := lookup_no (by decide +kernel)
@[simp] theorem lkH_m_table : List.lookup ("table" : Str) (kH.zip (vH l h)) = none := lookup_no (by decide +kernel)
@[simp] theorem lkH_m_died : List.lookup ("died" : Str) (kH.zip (vH l h)) = none := lookup_no (by decide +kernel)
@[simp] theorem lkH_m_lose : List.lookup ("lose" : Str) (kH.zip (vH l h)) = none := lookup_no (by decide +kernel)
@[simp] theorem lkH_m_letters : List.lookup ("letters" : Str) (kH.zip (vH l h)) = none := lookup_no (by decide +kernel)
@[simp] theorem lkH_m_turn : List.lookup ("turn" : Str) (kH.zip (vH l h)) = none := lookup_no (by decide +kernel)
@[simp] theorem lkH_m_bring : List.lookup ("bring" : Str) (kH.zip (vH l h)) = none := lookup_no (by decide +kernel)
@[simp] theorem lkH_m_hear_unit : List.lookup ("hear_unit" : Str) (kH.zip (vH l h)) = none := lookup_no (by decide +kernel)
@[simp] theorem lkH_m_hear_ask : List.lookup ("hear_ask" : Str) (kH.zip (vH l h)) = none := lookup_no (by decide +kernel)
@[simp] theorem lkH_m_answer : List.lookup ("answer" : Str) (kH.zip (vH l h)) = none := lookup_no (by decide +kernel)
@[simp] theorem lkH_m_hear_drop : List.lookup ("hear_drop" : Str) (kH.zip (vH l h)) = none := lookup_no (by decide +kernel)
@[simp] theorem lkH_m_hear_heard : List.lookup ("hear_heard" : Str) (kH.zip (vH l h)) = none := lookup_no (by decide +kernel)
@[simp] theorem lkT_m_add : List.lookup ("add" : Str) (kT.zip (vT l h)) = none := lookup_no (by decide +kernel)
@[simp] theorem lkT_m_is_held : List.lookup ("is_held" : Str) (kT.zip (vT l h)) = none := lookup_no (by decide +kernel)
@[simp] theorem lkT_m_settle : List.lookup ("settle" : Str) (kT.zip (vT l h)) = none := lookup_no (by decide +kernel)
@[simp] theorem lkT_m_let_go : List.lookup ("let_go" : Str) (kT.zip (vT l h)) = none := lookup_no (by decide +kernel)
@[simp] theorem lkT_m_lose : List.lookup ("lose" : Str) (kT.zip (vT l h)) = none := lookup_no (by decide +kernel)
@[simp] theorem lkTh_worth {a b : D} : List.lookup ("worth" : Str) (kTh.zip [a, b]) = some a := lookup_fs (n := 0) (by decide +kernel) rfl
@[simp] theorem lkTh_links {a b : D} : List.lookup ("links" : Str) (kTh.zip [a, b]) = some b := lookup_fs (n := 1) (by decide +kernel) rfl
end

theorem is_between_ok {c : Cs} {i lo hi : Int} {A : Ah} {K : U → Ah → Prop} (k : K (.d (.bl (decide (lo ≤ i) && decide (i ≤ hi)))) A) : p_is_between c [.int i, .int lo, .int hi] A K := by
  by_cases h : lo ≤ i <;> simpa [bodyW, sSeq, sExpr, sRet, sRetN, sNil, sIf, sSet, sAsg, sPar, sFld, sIx, wFn, wMeth, wMake, wCons, wNil, uCons, uNil, wC, wVar, wBin, wUn, wNot, wAnd, wOr, wChain, wIf, tB, tAnd, tOr, tNot, wTup, wLst, wDct0, wFld, wCall, wMt, wIsi, wI0, rd, esc, escT, setV, retV, gNm, tyN, isTy, neg,
    wEq_int, wEq_str, wLt_int, wLe_int, wGt_int, wGe_int, wAdd_int, wIx_eH0, wIx_eH1, wIx_tup, List.getElem?_cons_zero, List.getElem?_cons_succ, List.set_cons_zero, List.set_cons_succ, List.map_cons, List.map_nil, List.cons_append, List.nil_append, List.length_cons, List.length_nil, List.replicate_zero, List.replicate_succ, Nat.reduceAdd, Nat.reduceSub, Nat.sub_self, Nat.zero_add,
    Option.some.injEq, U.d.injEq, D.bl.injEq, D.int.injEq, D.ref.injEq, D.tup.injEq, D.str.injEq, Cell.mk.injEq, Ob.ins.injEq, Ob.lst.injEq, Ob.dct.injEq, List.cons.injEq, own_d, exists_eq_left, exists_eq_left', exists_and_left, exists_and_right, exists_eq, exists_eq', exists_const, true_and, and_true, and_self, and_assoc, if_true, if_false, Bool.false_eq_true, reduceCtorEq, false_and, and_false, exists_false, false_or, or_false, Bool.not_true, Bool.not_false, decide_true, decide_false, Bool.true_and, Bool.and_true, Bool.false_and, Bool.or_false, Bool.false_or,
    lkH_number, lkH_many, lkH_own, lkH_units, lkH_units_met, lkH_counts, lkH_untold, lkH_asks, lkH_asked, lkH_done, lkH_drops, lkH_calls, lkH_watched, lkH_dead, lkH_told, lkT_number, lkT_stand, lkT_made, lkT_own, lkT_lent, p_is_between, f_is_between, h] using k
theorem need_house_ok {c : Cs} {n m : Int} {A : Ah} {K : U → Ah → Prop} (h : 2 ≤ m ∧ m ≤ 8 ∧ 0 ≤ n ∧ n < m) (k : K (.d .non) A) : p_need_house c [.int n, .int m] A K := by
  have e : (decide (2 ≤ m) && decide (m ≤ 8)) = true := by simp [h]
  have e2 : (decide (0 ≤ n) && decide (n ≤ m - 1)) = true := by simp; omega
  simp only [bodyW, sSeq, sExpr, sRet, sRetN, sNil, sIf, sSet, sAsg, sPar, sFld, sIx, wFn, wMeth, wMake, wCons, wNil, uCons, uNil, wC, wVar, wBin, wUn, wNot, wAnd, wOr, wChain, wIf, tB, tAnd, tOr, tNot, wTup, wLst, wDct0, wFld, wCall, wMt, wIsi, wI0, rd, esc, escT, setV, retV, gNm, tyN, isTy, neg,
    wEq_int, wEq_str, wLt_int, wLe_int, wGt_int, wGe_int, wAdd_int, wIx_eH0, wIx_eH1, wIx_tup, List.getElem?_cons_zero, List.getElem?_cons_succ, List.set_cons_zero, List.set_cons_succ, List.map_cons, List.map_nil, List.cons_append, List.nil_append, List.length_cons, List.length_nil, List.replicate_zero, List.replicate_succ, Nat.reduceAdd, Nat.reduceSub, Nat.sub_self, Nat.zero_add,
    Option.some.injEq, U.d.injEq, D.bl.injEq, D.int.injEq, D.ref.injEq, D.tup.injEq, D.str.injEq, Cell.mk.injEq, Ob.ins.injEq, Ob.lst.injEq, Ob.dct.injEq, List.cons.injEq, own_d, exists_eq_left, exists_eq_left', exists_and_left, exists_and_right, exists_eq, exists_eq', exists_const, true_and, and_true, and_self, and_assoc, if_true, if_false, Bool.false_eq_true, reduceCtorEq, false_and, and_false, exists_false, false_or, or_false, Bool.not_true, Bool.not_false, decide_true, decide_false, Bool.true_and, Bool.and_true, Bool.false_and, Bool.or_false, Bool.false_or,
    lkH_number, lkH_many, lkH_own, lkH_units, lkH_units_met, lkH_counts, lkH_untold, lkH_asks, lkH_asked, lkH_done, lkH_drops, lkH_calls, lkH_watched, lkH_dead, lkH_told, lkT_number, lkT_stand, lkT_made, lkT_own, lkT_lent, p_need_house, f_need_house]
  refine is_between_ok ?_
  simp only [bodyW, sSeq, sExpr, sRet, sRetN, sNil, sIf, sSet, sAsg, sPar, sFld, sIx, wFn, wMeth, wMake, wCons, wNil, uCons, uNil, wC, wVar, wBin, wUn, wNot, wAnd, wOr, wChain, wIf, tB, tAnd, tOr, tNot, wTup, wLst, wDct0, wFld, wCall, wMt, wIsi, wI0, rd, esc, escT, setV, retV, gNm, tyN, isTy, neg,
    wEq_int, wEq_str, wLt_int, wLe_int, wGt_int, wGe_int, wAdd_int, wIx_eH0, wIx_eH1, wIx_tup, List.getElem?_cons_zero, List.getElem?_cons_succ, List.set_cons_zero, List.set_cons_succ, List.map_cons, List.map_nil, List.cons_append, List.nil_append, List.length_cons, List.length_nil, List.replicate_zero, List.replicate_succ, Nat.reduceAdd, Nat.reduceSub, Nat.sub_self, Nat.zero_add,
    Option.some.injEq, U.d.injEq, D.bl.injEq, D.int.injEq, D.ref.injEq, D.tup.injEq, D.str.injEq, Cell.mk.injEq, Ob.ins.injEq, Ob.lst.injEq, Ob.dct.injEq, List.cons.injEq, own_d, exists_eq_left, exists_eq_left', exists_and_left, exists_and_right, exists_eq, exists_eq', exists_const, true_and, and_true, and_self, and_assoc, if_true, if_false, Bool.false_eq_true, reduceCtorEq, false_and, and_false, exists_false, false_or, or_false, Bool.not_true, Bool.not_false, decide_true, decide_false, Bool.true_and, Bool.and_true, Bool.false_and, Bool.or_false, Bool.false_or,
    lkH_number, lkH_many, lkH_own, lkH_units, lkH_units_met, lkH_counts, lkH_untold, lkH_asks, lkH_asked, lkH_done, lkH_drops, lkH_calls, lkH_watched, lkH_dead, lkH_told, lkT_number, lkT_stand, lkT_made, lkT_own, lkT_lent, e]
  refine is_between_ok ?_
  simpa only [bodyW, sSeq, sExpr, sRet, sRetN, sNil, sIf, sSet, sAsg, sPar, sFld, sIx, wFn, wMeth, wMake, wCons, wNil, uCons, uNil, wC, wVar, wBin, wUn, wNot, wAnd, wOr, wChain, wIf, tB, tAnd, tOr, tNot, wTup, wLst, wDct0, wFld, wCall, wMt, wIsi, wI0, rd, esc, escT, setV, retV, gNm, tyN, isTy, neg,
    wEq_int, wEq_str, wLt_int, wLe_int, wGt_int, wGe_int, wAdd_int, wIx_eH0, wIx_eH1, wIx_tup, List.getElem?_cons_zero, List.getElem?_cons_succ, List.set_cons_zero, List.set_cons_succ, List.map_cons, List.map_nil, List.cons_append, List.nil_append, List.length_cons, List.length_nil, List.replicate_zero, List.replicate_succ, Nat.reduceAdd, Nat.reduceSub, Nat.sub_self, Nat.zero_add,
    Option.some.injEq, U.d.injEq, D.bl.injEq, D.int.injEq, D.ref.injEq, D.tup.injEq, D.str.injEq, Cell.mk.injEq, Ob.ins.injEq, Ob.lst.injEq, Ob.dct.injEq, List.cons.injEq, own_d, exists_eq_left, exists_eq_left', exists_and_left, exists_and_right, exists_eq, exists_eq', exists_const, true_and, and_true, and_self, and_assoc, if_true, if_false, Bool.false_eq_true, reduceCtorEq, false_and, and_false, exists_false, false_or, or_false, Bool.not_true, Bool.not_false, decide_true, decide_false, Bool.true_and, Bool.and_true, Bool.false_and, Bool.or_false, Bool.false_or,
    lkH_number, lkH_many, lkH_own, lkH_units, lkH_units_met, lkH_counts, lkH_untold, lkH_asks, lkH_asked, lkH_done, lkH_drops, lkH_calls, lkH_watched, lkH_dead, lkH_told, lkT_number, lkT_stand, lkT_made, lkT_own, lkT_lent, e2] using k
theorem need_worth_ok {c : Cs} {n : Int} {A : Ah} {K : U → Ah → Prop} (h : 0 ≤ n ∧ n < 1000) (k : K (.d .non) A) : p_need_worth c [.int n] A K := by
  have e : (decide (0 ≤ n) && decide (n ≤ 1000 - 1)) = true := by simp; omega
  simp only [bodyW, sSeq, sExpr, sRet, sRetN, sNil, sIf, sSet, sAsg, sPar, sFld, sIx, wFn, wMeth, wMake, wCons, wNil, uCons, uNil, wC, wVar, wBin, wUn, wNot, wAnd, wOr, wChain, wIf, tB, tAnd, tOr, tNot, wTup, wLst, wDct0, wFld, wCall, wMt, wIsi, wI0, rd, esc, escT, setV, retV, gNm, tyN, isTy, neg,
    wEq_int, wEq_str, wLt_int, wLe_int, wGt_int, wGe_int, wAdd_int, wIx_eH0, wIx_eH1, wIx_tup, List.getElem?_cons_zero, List.getElem?_cons_succ, List.set_cons_zero, List.set_cons_succ, List.map_cons, List.map_nil, List.cons_append, List.nil_append, List.length_cons, List.length_nil, List.replicate_zero, List.replicate_succ, Nat.reduceAdd, Nat.reduceSub, Nat.sub_self, Nat.zero_add,
    Option.some.injEq, U.d.injEq, D.bl.injEq, D.int.injEq, D.ref.injEq, D.tup.injEq, D.str.injEq, Cell.mk.injEq, Ob.ins.injEq, Ob.lst.injEq, Ob.dct.injEq, List.cons.injEq, own_d, exists_eq_left, exists_eq_left', exists_and_left, exists_and_right, exists_eq, exists_eq', exists_const, true_and, and_true, and_self, and_assoc, if_true, if_false, Bool.false_eq_true, reduceCtorEq, false_and, and_false, exists_false, false_or, or_false, Bool.not_true, Bool.not_false, decide_true, decide_false, Bool.true_and, Bool.and_true, Bool.false_and, Bool.or_false, Bool.false_or,
    lkH_number, lkH_many, lkH_own, lkH_units, lkH_units_met, lkH_counts, lkH_untold, lkH_asks, lkH_asked, lkH_done, lkH_drops, lkH_calls, lkH_watched, lkH_dead, lkH_told, lkT_number, lkT_stand, lkT_made, lkT_own, lkT_lent, p_need_worth, f_need_worth]
  refine is_between_ok ?_
  simpa only [bodyW, sSeq, sExpr, sRet, sRetN, sNil, sIf, sSet, sAsg, sPar, sFld, sIx, wFn, wMeth, wMake, wCons, wNil, uCons, uNil, wC, wVar, wBin, wUn, wNot, wAnd, wOr, wChain, wIf, tB, tAnd, tOr, tNot, wTup, wLst, wDct0, wFld, wCall, wMt, wIsi, wI0, rd, esc, escT, setV, retV, gNm, tyN, isTy, neg,
    wEq_int, wEq_str, wLt_int, wLe_int, wGt_int, wGe_int, wAdd_int, wIx_eH0, wIx_eH1, wIx_tup, List.getElem?_cons_zero, List.getElem?_cons_succ, List.set_cons_zero, List.set_cons_succ, List.map_cons, List.map_nil, List.cons_append, List.nil_append, List.length_cons, List.length_nil, List.replicate_zero, List.replicate_succ, Nat.reduceAdd, Nat.reduceSub, Nat.sub_self, Nat.zero_add,
    Option.some.injEq, U.d.injEq, D.bl.injEq, D.int.injEq, D.ref.injEq, D.tup.injEq, D.str.injEq, Cell.mk.injEq, Ob.ins.injEq, Ob.lst.injEq, Ob.dct.injEq, List.cons.injEq, own_d, exists_eq_left, exists_eq_left', exists_and_left, exists_and_right, exists_eq, exists_eq', exists_const, true_and, and_true, and_self, and_assoc, if_true, if_false, Bool.false_eq_true, reduceCtorEq, false_and, and_false, exists_false, false_or, or_false, Bool.not_true, Bool.not_false, decide_true, decide_false, Bool.true_and, Bool.and_true, Bool.false_and, Bool.or_false, Bool.false_or,
    lkH_number, lkH_many, lkH_own, lkH_units, lkH_units_met, lkH_counts, lkH_untold, lkH_asks, lkH_asked, lkH_done, lkH_drops, lkH_calls, lkH_watched, lkH_dead, lkH_told, lkT_number, lkT_stand, lkT_made, lkT_own, lkT_lent, e] using k
/-- a handle among so many houses -/
def hdOk (h : Hd) (many : Int) : Prop := 0 ≤ h.1 ∧ h.1 < many ∧ 0 ≤ h.2 ∧ h.2 < 100
theorem need_handle_ok {c : Cs} {q : Hd} {m : Int} {A : Ah} {K : U → Ah → Prop} (h : hdOk q m) (k : K (.d .non) A) : p_need_handle c [eH q, .int m] A K := by
  have e : (decide (0 ≤ q.1) && decide (q.1 ≤ m - 1)) = true := by have := h.1; have := h.2.1; simp; omega
  have e2 : (decide (0 ≤ q.2) && decide (q.2 ≤ 99)) = true := by have := h.2.2.1; have := h.2.2.2; simp; omega
  simp only [bodyW, sSeq, sExpr, sRet, sRetN, sNil, sIf, sSet, sAsg, sPar, sFld, sIx, wFn, wMeth, wMake, wCons, wNil, uCons, uNil, wC, wVar, wBin, wUn, wNot, wAnd, wOr, wChain, wIf, tB, tAnd, tOr, tNot, wTup, wLst, wDct0, wFld, wCall, wMt, wIsi, wI0, rd, esc, escT, setV, retV, gNm, tyN, isTy, neg,
    wEq_int, wEq_str, wLt_int, wLe_int, wGt_int, wGe_int, wAdd_int, wIx_eH0, wIx_eH1, wIx_tup, List.getElem?_cons_zero, List.getElem?_cons_succ, List.set_cons_zero, List.set_cons_succ, List.map_cons, List.map_nil, List.cons_append, List.nil_append, List.length_cons, List.length_nil, List.replicate_zero, List.replicate_succ, Nat.reduceAdd, Nat.reduceSub, Nat.sub_self, Nat.zero_add,
    Option.some.injEq, U.d.injEq, D.bl.injEq, D.int.injEq, D.ref.injEq, D.tup.injEq, D.str.injEq, Cell.mk.injEq, Ob.ins.injEq, Ob.lst.injEq, Ob.dct.injEq, List.cons.injEq, own_d, exists_eq_left, exists_eq_left', exists_and_left, exists_and_right, exists_eq, exists_eq', exists_const, true_and, and_true, and_self, and_assoc, if_true, if_false, Bool.false_eq_true, reduceCtorEq, false_and, and_false, exists_false, false_or, or_false, Bool.not_true, Bool.not_false, decide_true, decide_false, Bool.true_and, Bool.and_true, Bool.false_and, Bool.or_false, Bool.false_or,
    lkH_number, lkH_many, lkH_own, lkH_units, lkH_units_met, lkH_counts, lkH_untold, lkH_asks, lkH_asked, lkH_done, lkH_drops, lkH_calls, lkH_watched, lkH_dead, lkH_told, lkT_number, lkT_stand, lkT_made, lkT_own, lkT_lent, p_need_handle, f_need_handle]
  simp only [bodyW, sSeq, sExpr, sRet, sRetN, sNil, sIf, sSet, sAsg, sPar, sFld, sIx, wFn, wMeth, wMake, wCons, wNil, uCons, uNil, wC, wVar, wBin, wUn, wNot, wAnd, wOr, wChain, wIf, tB, tAnd, tOr, tNot, wTup, wLst, wDct0, wFld, wCall, wMt, wIsi, wI0, rd, esc, escT, setV, retV, gNm, tyN, isTy, neg,
    wEq_int, wEq_str, wLt_int, wLe_int, wGt_int, wGe_int, wAdd_int, wIx_eH0, wIx_eH1, wIx_tup, List.getElem?_cons_zero, List.getElem?_cons_succ, List.set_cons_zero, List.set_cons_succ, List.map_cons, List.map_nil, List.cons_append, List.nil_append, List.length_cons, List.length_nil, List.replicate_zero, List.replicate_succ, Nat.reduceAdd, Nat.reduceSub, Nat.sub_self, Nat.zero_add,
    Option.some.injEq, U.d.injEq, D.bl.injEq, D.int.injEq, D.ref.injEq, D.tup.injEq, D.str.injEq, Cell.mk.injEq, Ob.ins.injEq, Ob.lst.injEq, Ob.dct.injEq, List.cons.injEq, own_d, exists_eq_left, exists_eq_left', exists_and_left, exists_and_right, exists_eq, exists_eq', exists_const, true_and, and_true, and_self, and_assoc, if_true, if_false, Bool.false_eq_true, reduceCtorEq, false_and, and_false, exists_false, false_or, or_false, Bool.not_true, Bool.not_false, decide_true, decide_false, Bool.true_and, Bool.and_true, Bool.false_and, Bool.or_false, Bool.false_or,
    lkH_number, lkH_many, lkH_own, lkH_units, lkH_units_met, lkH_counts, lkH_untold, lkH_asks, lkH_asked, lkH_done, lkH_drops, lkH_calls, lkH_watched, lkH_dead, lkH_told, lkT_number, lkT_stand, lkT_made, lkT_own, lkT_lent, p_is_handle, f_is_handle, eH, wLen, seqOf, lstOf, obOf, dctOf]
  simp [atI, ixN]
  refine is_between_ok ?_
  simp only [bodyW, sSeq, sExpr, sRet, sRetN, sNil, sIf, sSet, sAsg, sPar, sFld, sIx, wFn, wMeth, wMake, wCons, wNil, uCons, uNil, wC, wVar, wBin, wUn, wNot, wAnd, wOr, wChain, wIf, tB, tAnd, tOr, tNot, wTup, wLst, wDct0, wFld, wCall, wMt, wIsi, wI0, rd, esc, escT, setV, retV, gNm, tyN, isTy, neg,
    wEq_int, wEq_str, wLt_int, wLe_int, wGt_int, wGe_int, wAdd_int, wIx_eH0, wIx_eH1, wIx_tup, List.getElem?_cons_zero, List.getElem?_cons_succ, List.set_cons_zero, List.set_cons_succ, List.map_cons, List.map_nil, List.cons_append, List.nil_append, List.length_cons, List.length_nil, List.replicate_zero, List.replicate_succ, Nat.reduceAdd, Nat.reduceSub, Nat.sub_self, Nat.zero_add,
    Option.some.injEq, U.d.injEq, D.bl.injEq, D.int.injEq, D.ref.injEq, D.tup.injEq, D.str.injEq, Cell.mk.injEq, Ob.ins.injEq, Ob.lst.injEq, Ob.dct.injEq, List.cons.injEq, own_d, exists_eq_left, exists_eq_left', exists_and_left, exists_and_right, exists_eq, exists_eq', exists_const, true_and, and_true, and_self, and_assoc, if_true, if_false, Bool.false_eq_true, reduceCtorEq, false_and, and_false, exists_false, false_or, or_false, Bool.not_true, Bool.not_false, decide_true, decide_false, Bool.true_and, Bool.and_true, Bool.false_and, Bool.or_false, Bool.false_or,
    lkH_number, lkH_many, lkH_own, lkH_units, lkH_units_met, lkH_counts, lkH_untold, lkH_asks, lkH_asked, lkH_done, lkH_drops, lkH_calls, lkH_watched, lkH_dead, lkH_told, lkT_number, lkT_stand, lkT_made, lkT_own, lkT_lent, e]
  refine is_between_ok ?_
  simpa only [bodyW, sSeq, sExpr, sRet, sRetN, sNil, sIf, sSet, sAsg, sPar, sFld, sIx, wFn, wMeth, wMake, wCons, wNil, uCons, uNil, wC, wVar, wBin, wUn, wNot, wAnd, wOr, wChain, wIf, tB, tAnd, tOr, tNot, wTup, wLst, wDct0, wFld, wCall, wMt, wIsi, wI0, rd, esc, escT, setV, retV, gNm, tyN, isTy, neg,
    wEq_int, wEq_str, wLt_int, wLe_int, wGt_int, wGe_int, wAdd_int, wIx_eH0, wIx_eH1, wIx_tup, List.getElem?_cons_zero, List.getElem?_cons_succ, List.set_cons_zero, List.set_cons_succ, List.map_cons, List.map_nil, List.cons_append, List.nil_append, List.length_cons, List.length_nil, List.replicate_zero, List.replicate_succ, Nat.reduceAdd, Nat.reduceSub, Nat.sub_self, Nat.zero_add,
    Option.some.injEq, U.d.injEq, D.bl.injEq, D.int.injEq, D.ref.injEq, D.tup.injEq, D.str.injEq, Cell.mk.injEq, Ob.ins.injEq, Ob.lst.injEq, Ob.dct.injEq, List.cons.injEq, own_d, exists_eq_left, exists_eq_left', exists_and_left, exists_and_right, exists_eq, exists_eq', exists_const, true_and, and_true, and_self, and_assoc, if_true, if_false, Bool.false_eq_true, reduceCtorEq, false_and, and_false, exists_false, false_or, or_false, Bool.not_true, Bool.not_false, decide_true, decide_false, Bool.true_and, Bool.and_true, Bool.false_and, Bool.or_false, Bool.false_or,
    lkH_number, lkH_many, lkH_own, lkH_units, lkH_units_met, lkH_counts, lkH_untold, lkH_asks, lkH_asked, lkH_done, lkH_drops, lkH_calls, lkH_watched, lkH_dead, lkH_told, lkT_number, lkT_stand, lkT_made, lkT_own, lkT_lent, e2] using k
section
variable {c : Cs} {i : Nat} {l : Lc} {h : Hv} {A : Ah} {K : U → Ah → Prop}
/-- how many units the house itself has -/
def Hv.count (h : Hv) (q : Hd) : Int := if q.1 = h.number then (aget h.own q.2).getD 0 else ((aget h.units q).getD []).length
theorem hcount_ok {q : Hd} (r : HR c i l h A) (hq : hdOk q h.many) (k : K (.d (.int (h.count q))) A) : p_House_count c [.ref (l .house), eH q] A K := by
  have h1 := r.at .house rfl
  have h2 := r.at .things rfl
  have h3 := r.at .own rfl
  have h4 := r.at .units rfl
  simp only [bodyW, sSeq, sExpr, sRet, sRetN, sNil, sIf, sSet, sAsg, sPar, sFld, sIx, wFn, wMeth, wMake, wCons, wNil, uCons, uNil, wC, wVar, wBin, wUn, wNot, wAnd, wOr, wChain, wIf, tB, tAnd, tOr, tNot, wTup, wLst, wDct0, wFld, wCall, wMt, wIsi, wI0, rd, esc, escT, setV, retV, gNm, tyN, isTy, neg,
    wEq_int, wEq_str, wLt_int, wLe_int, wGt_int, wGe_int, wAdd_int, wIx_eH0, wIx_eH1, wIx_tup, List.getElem?_cons_zero, List.getElem?_cons_succ, List.set_cons_zero, List.set_cons_succ, List.map_cons, List.map_nil, List.cons_append, List.nil_append, List.length_cons, List.length_nil, List.replicate_zero, List.replicate_succ, Nat.reduceAdd, Nat.reduceSub, Nat.sub_self, Nat.zero_add,
    Option.some.injEq, U.d.injEq, D.bl.injEq, D.int.injEq, D.ref.injEq, D.tup.injEq, D.str.injEq, Cell.mk.injEq, Ob.ins.injEq, Ob.lst.injEq, Ob.dct.injEq, List.cons.injEq, own_d, exists_eq_left, exists_eq_left', exists_and_left, exists_and_right, exists_eq, exists_eq', exists_const, true_and, and_true, and_self, and_assoc, if_true, if_false, Bool.false_eq_true, reduceCtorEq, false_and, and_false, exists_false, false_or, or_false, Bool.not_true, Bool.not_false, decide_true, decide_false, Bool.true_and, Bool.and_true, Bool.false_and, Bool.or_false, Bool.false_or,
    lkH_number, lkH_many, lkH_own, lkH_units, lkH_units_met, lkH_counts, lkH_untold, lkH_asks, lkH_asked, lkH_done, lkH_drops, lkH_calls, lkH_watched, lkH_dead, lkH_told, lkT_number, lkT_stand, lkT_made, lkT_own, lkT_lent, p_House_count, f_House_count, h1]
  refine need_handle_ok hq ?_
  simp only [bodyW, sSeq, sExpr, sRet, sRetN, sNil, sIf, sSet, sAsg, sPar, sFld, sIx, wFn, wMeth, wMake, wCons, wNil, uCons, uNil, wC, wVar, wBin, wUn, wNot, wAnd, wOr, wChain, wIf, tB, tAnd, tOr, tNot, wTup, wLst, wDct0, wFld, wCall, wMt, wIsi, wI0, rd, esc, escT, setV, retV, gNm, tyN, isTy, neg,
    wEq_int, wEq_str, wLt_int, wLe_int, wGt_int, wGe_int, wAdd_int, wIx_eH0, wIx_eH1, wIx_tup, List.getElem?_cons_zero, List.getElem?_cons_succ, List.set_cons_zero, List.set_cons_succ, List.map_cons, List.map_nil, List.cons_append, List.nil_append, List.length_cons, List.length_nil, List.replicate_zero, List.replicate_succ, Nat.reduceAdd, Nat.reduceSub, Nat.sub_self, Nat.zero_add,
    Option.some.injEq, U.d.injEq, D.bl.injEq, D.int.injEq, D.ref.injEq, D.tup.injEq, D.str.injEq, Cell.mk.injEq, Ob.ins.injEq, Ob.lst.injEq, Ob.dct.injEq, List.cons.injEq, own_d, exists_eq_left, exists_eq_left', exists_and_left, exists_and_right, exists_eq, exists_eq', exists_const, true_and, and_true, and_self, and_assoc, if_true, if_false, Bool.false_eq_true, reduceCtorEq, false_and, and_false, exists_false, false_or, or_false, Bool.not_true, Bool.not_false, decide_true, decide_false, Bool.true_and, Bool.and_true, Bool.false_and, Bool.or_false, Bool.false_or,
    lkH_number, lkH_many, lkH_own, lkH_units, lkH_units_met, lkH_counts, lkH_untold, lkH_asks, lkH_asked, lkH_done, lkH_drops, lkH_calls, lkH_watched, lkH_dead, lkH_told, lkT_number, lkT_stand, lkT_made, lkT_own, lkT_lent, h1, h2]
  unfold Hv.count at k
  by_cases e : q.1 = h.number
  · simp only [bodyW, sSeq, sExpr, sRet, sRetN, sNil, sIf, sSet, sAsg, sPar, sFld, sIx, wFn, wMeth, wMake, wCons, wNil, uCons, uNil, wC, wVar, wBin, wUn, wNot, wAnd, wOr, wChain, wIf, tB, tAnd, tOr, tNot, wTup, wLst, wDct0, wFld, wCall, wMt, wIsi, wI0, rd, esc, escT, setV, retV, gNm, tyN, isTy, neg,
    wEq_int, wEq_str, wLt_int, wLe_int, wGt_int, wGe_int, wAdd_int, wIx_eH0, wIx_eH1, wIx_tup, List.getElem?_cons_zero, List.getElem?_cons_succ, List.set_cons_zero, List.set_cons_succ, List.map_cons, List.map_nil, List.cons_append, List.nil_append, List.length_cons, List.length_nil, List.replicate_zero, List.replicate_succ, Nat.reduceAdd, Nat.reduceSub, Nat.sub_self, Nat.zero_add,
    Option.some.injEq, U.d.injEq, D.bl.injEq, D.int.injEq, D.ref.injEq, D.tup.injEq, D.str.injEq, Cell.mk.injEq, Ob.ins.injEq, Ob.lst.injEq, Ob.dct.injEq, List.cons.injEq, own_d, exists_eq_left, exists_eq_left', exists_and_left, exists_and_right, exists_eq, exists_eq', exists_const, true_and, and_true, and_self, and_assoc, if_true, if_false, Bool.false_eq_true, reduceCtorEq, false_and, and_false, exists_false, false_or, or_false, Bool.not_true, Bool.not_false, decide_true, decide_false, Bool.true_and, Bool.and_true, Bool.false_and, Bool.or_false, Bool.false_or,
    lkH_number, lkH_many, lkH_own, lkH_units, lkH_units_met, lkH_counts, lkH_untold, lkH_asks, lkH_asked, lkH_done, lkH_drops, lkH_calls, lkH_watched, lkH_dead, lkH_told, lkT_number, lkT_stand, lkT_made, lkT_own, lkT_lent, e, tyU_dct h3, get2_iff h3, keyIn_xInt, dget_xInt]
    rw [if_pos e] at k
    cases e2 : aget h.own q.2 <;> simpa [e2] using k
  · simp only [bodyW, sSeq, sExpr, sRet, sRetN, sNil, sIf, sSet, sAsg, sPar, sFld, sIx, wFn, wMeth, wMake, wCons, wNil, uCons, uNil, wC, wVar, wBin, wUn, wNot, wAnd, wOr, wChain, wIf, tB, tAnd, tOr, tNot, wTup, wLst, wDct0, wFld, wCall, wMt, wIsi, wI0, rd, esc, escT, setV, retV, gNm, tyN, isTy, neg,
    wEq_int, wEq_str, wLt_int, wLe_int, wGt_int, wGe_int, wAdd_int, wIx_eH0, wIx_eH1, wIx_tup, List.getElem?_cons_zero, List.getElem?_cons_succ, List.set_cons_zero, List.set_cons_succ, List.map_cons, List.map_nil, List.cons_append, List.nil_append, List.length_cons, List.length_nil, List.replicate_zero, List.replicate_succ, Nat.reduceAdd, Nat.reduceSub, Nat.sub_self, Nat.zero_add,
    Option.some.injEq, U.d.injEq, D.bl.injEq, D.int.injEq, D.ref.injEq, D.tup.injEq, D.str.injEq, Cell.mk.injEq, Ob.ins.injEq, Ob.lst.injEq, Ob.dct.injEq, List.cons.injEq, own_d, exists_eq_left, exists_eq_left', exists_and_left, exists_and_right, exists_eq, exists_eq', exists_const, true_and, and_true, and_self, and_assoc, if_true, if_false, Bool.false_eq_true, reduceCtorEq, false_and, and_false, exists_false, false_or, or_false, Bool.not_true, Bool.not_false, decide_true, decide_false, Bool.true_and, Bool.and_true, Bool.false_and, Bool.or_false, Bool.false_or,
    lkH_number, lkH_many, lkH_own, lkH_units, lkH_units_met, lkH_counts, lkH_untold, lkH_asks, lkH_asked, lkH_done, lkH_drops, lkH_calls, lkH_watched, lkH_dead, lkH_told, lkT_number, lkT_stand, lkT_made, lkT_own, lkT_lent, e, tyU_dct h4, get2_iff h4, keyIn_xUnits, dget_xUnits]
    rw [if_neg e] at k
    refine ⟨Nat.zero_le _, ?_⟩
    cases e2 : aget h.units q with
    | none => simpa [e2, len_tmp] using k
    | some us =>
      have h5 := r.at (.unit q) (b := .lst (us.map D.int)) (by simp [M, e2])
      simpa [e2, len_lst h5] using k
theorem need_hold_ok {q : Hd} (r : HR c i l h A) (hq : hdOk q h.many) (hc : h.count q ≠ 0) (k : K (.d .non) A) : p_House_need_hold c [.ref (l .house), eH q] A K := by
  have h1 := r.at .house rfl
  simp only [bodyW, sSeq, sExpr, sRet, sRetN, sNil, sIf, sSet, sAsg, sPar, sFld, sIx, wFn, wMeth, wMake, wCons, wNil, uCons, uNil, wC, wVar, wBin, wUn, wNot, wAnd, wOr, wChain, wIf, tB, tAnd, tOr, tNot, wTup, wLst, wDct0, wFld, wCall, wMt, wIsi, wI0, rd, esc, escT, setV, retV, gNm, tyN, isTy, neg,
    wEq_int, wEq_str, wLt_int, wLe_int, wGt_int, wGe_int, wAdd_int, wIx_eH0, wIx_eH1, wIx_tup, List.getElem?_cons_zero, List.getElem?_cons_succ, List.set_cons_zero, List.set_cons_succ, List.map_cons, List.map_nil, List.cons_append, List.nil_append, List.length_cons, List.length_nil, List.replicate_zero, List.replicate_succ, Nat.reduceAdd, Nat.reduceSub, Nat.sub_self, Nat.zero_add,
    Option.some.injEq, U.d.injEq, D.bl.injEq, D.int.injEq, D.ref.injEq, D.tup.injEq, D.str.injEq, Cell.mk.injEq, Ob.ins.injEq, Ob.lst.injEq, Ob.dct.injEq, List.cons.injEq, own_d, exists_eq_left, exists_eq_left', exists_and_left, exists_and_right, exists_eq, exists_eq', exists_const, true_and, and_true, and_self, and_assoc, if_true, if_false, Bool.false_eq_true, reduceCtorEq, false_and, and_false, exists_false, false_or, or_false, Bool.not_true, Bool.not_false, decide_true, decide_false, Bool.true_and, Bool.and_true, Bool.false_and, Bool.or_false, Bool.false_or,
    lkH_number, lkH_many, lkH_own, lkH_units, lkH_units_met, lkH_counts, lkH_untold, lkH_asks, lkH_asked, lkH_done, lkH_drops, lkH_calls, lkH_watched, lkH_dead, lkH_told, lkT_number, lkT_stand, lkT_made, lkT_own, lkT_lent, lkH_m_make, lkH_m_count, lkH_m_need_hold, lkH_m_take_unit, lkH_m_get_unit, lkH_m_settle, lkH_m_lend, lkH_m_give, lkH_m_ask, lkH_m_drop, lkH_m_need_thing, lkH_m_link, lkH_m_unlink, lkH_m_sweep, lkH_m_call, lkH_m_add, lkH_m_answers, lkH_m_watch, lkH_m_notes, lkH_m_things, lkH_m_table, lkH_m_died, lkH_m_lose, lkH_m_letters, lkH_m_turn, lkH_m_bring, lkH_m_hear_unit, lkH_m_hear_ask, lkH_m_answer, lkH_m_hear_drop, lkH_m_hear_heard, lkT_m_add, lkT_m_is_held, lkT_m_settle, lkT_m_let_go, lkT_m_lose, p_House_need_hold, f_House_need_hold, h1]
  refine hcount_ok r hq ?_
  simpa only [bodyW, sSeq, sExpr, sRet, sRetN, sNil, sIf, sSet, sAsg, sPar, sFld, sIx, wFn, wMeth, wMake, wCons, wNil, uCons, uNil, wC, wVar, wBin, wUn, wNot, wAnd, wOr, wChain, wIf, tB, tAnd, tOr, tNot, wTup, wLst, wDct0, wFld, wCall, wMt, wIsi, wI0, rd, esc, escT, setV, retV, gNm, tyN, isTy, neg,
    wEq_int, wEq_str, wLt_int, wLe_int, wGt_int, wGe_int, wAdd_int, wIx_eH0, wIx_eH1, wIx_tup, List.getElem?_cons_zero, List.getElem?_cons_succ, List.set_cons_zero, List.set_cons_succ, List.map_cons, List.map_nil, List.cons_append, List.nil_append, List.length_cons, List.length_nil, List.replicate_zero, List.replicate_succ, Nat.reduceAdd, Nat.reduceSub, Nat.sub_self, Nat.zero_add,
    Option.some.injEq, U.d.injEq, D.bl.injEq, D.int.injEq, D.ref.injEq, D.tup.injEq, D.str.injEq, Cell.mk.injEq, Ob.ins.injEq, Ob.lst.injEq, Ob.dct.injEq, List.cons.injEq, own_d, exists_eq_left, exists_eq_left', exists_and_left, exists_and_right, exists_eq, exists_eq', exists_const, true_and, and_true, and_self, and_assoc, if_true, if_false, Bool.false_eq_true, reduceCtorEq, false_and, and_false, exists_false, false_or, or_false, Bool.not_true, Bool.not_false, decide_true, decide_false, Bool.true_and, Bool.and_true, Bool.false_and, Bool.or_false, Bool.false_or,
    lkH_number, lkH_many, lkH_own, lkH_units, lkH_units_met, lkH_counts, lkH_untold, lkH_asks, lkH_asked, lkH_done, lkH_drops, lkH_calls, lkH_watched, lkH_dead, lkH_told, lkT_number, lkT_stand, lkT_made, lkT_own, lkT_lent, hc] using k
end
end Dn

namespace Dn
open PySem L2 PyProof.Rows PySem.W
section
variable {ρ : Rho} {A : Ah} {a : Addr} {t : Tag} {kvs : List (D × D)} {xs : List D} {kk : KS} {y : D}
theorem setIx_dct (h : A a = some ⟨t, .dct kvs⟩) {j : D} : setIx (.d (.ref a)) j y ρ A kk ↔ KeyIn j kvs ∧ kvs.length < sizeLine ∧ kk ρ (up A a ⟨t, .dct (dput kvs j y)⟩) := by
  simp [setIx, lstOf, dctOf, obOf, h, setOb]
theorem setIx_lst (h : A a = some ⟨t, .lst xs⟩) {i : Int} : setIx (.d (.ref a)) (.int i) y ρ A kk ↔ ∃ n, ixN xs.length i = some n ∧ kk ρ (up A a ⟨t, .lst (xs.set n y)⟩) := by
  simp [setIx, lstOf, dctOf, obOf, h, setOb]
theorem append_ref {k : K1} (h : A a = some ⟨t, .lst xs⟩) : mAppend (.d (.ref a)) [.d y] ρ A k ↔ xs.length < sizeLine ∧ k (.d .non) ρ (up A a ⟨t, .lst (xs ++ [y])⟩) := by
  simp [mAppend, esc, lstOf, obOf, h, setOb]
theorem popAt0 {k : K1} {z : D} (h : A a = some ⟨t, .lst (z :: xs)⟩) : mPopAt (.d (.ref a)) [.d (.int 0)] ρ A k ↔ k (.d z) ρ (up A a ⟨t, .lst xs⟩) := by
  simp [mPopAt, lstOf, obOf, h, setOb, ixN]
theorem aget_aput {κ ν : Type} [DecidableEq κ] (m : List (κ × ν)) (k k' : κ) (v : ν) : aget (aput m k v) k' = if k' = k then some v else aget m k' := by
  unfold aput
  split
  · rename_i hm
    induction m with
    | nil => simp at hm
    | cons p m ih =>
      by_cases hp : p.1 = k
      · by_cases hk : k' = k
        · simp [aget, List.find?_cons, hp, hk]
        · have : ∀ m : List (κ × ν), aget (m.map fun p => if p.1 = k then (p.1, v) else p) k' = aget m k' := fun m => by
            unfold aget
            rw [List.find?_map]
            have : ((fun p : κ × ν => decide (p.1 = k')) ∘ fun p : κ × ν => if p.1 = k then (p.1, v) else p) = fun p => decide (p.1 = k') := by
              funext p
              simp only [Function.comp]
              split <;> rfl
            rw [this]
            cases e : m.find? fun p => decide (p.1 = k') with
            | none => rfl
            | some q =>
              have hq : q.1 = k' := by simpa using List.find?_some e
              have : ¬ q.1 = k := by rw [hq]; exact hk
              simp [this]
          rw [this, if_neg hk]
      · by_cases hk' : p.1 = k'
        · have : ¬ k' = k := by rw [← hk']; exact hp
          simp [aget, List.find?_cons, hp, hk', this]
        · have ih' := ih (by simpa [hp] using hm)
          simp only [aget, List.map_cons, hp, if_false, List.find?_cons, hk', decide_false] at ih' ⊢
          exact ih'
  · rename_i hm
    have hn : aget m k = none := by
      have := aget_any (m := m) (k := k)
      cases e : aget m k with
      | none => rfl
      | some z => rw [e] at this; exact absurd this.symm hm
    unfold aget at hn ⊢
    rw [List.find?_append]
    by_cases hk : k' = k
    · subst hk
      have : m.find? (fun p => decide (p.1 = k')) = none := by simpa using hn
      simp [this]
    · have : ¬ k = k' := fun z => hk z.symm
      cases e : m.find? (fun p => decide (p.1 = k')) <;> simp [this, hk]
theorem aput_len {κ ν : Type} [DecidableEq κ] (m : List (κ × ν)) (k : κ) (v : ν) : (aput m k v).length ≤ m.length + 1 := by
  unfold aput
  split <;> simp
end
/-- what was there stays -/
def Ext (A A' : Ah) : Prop := ∀ x y, A x = some y → A' x = some y
theorem Ext.frm {A A' : Ah} {i : Nat} (e : Ext A A') : Frm i A A' := fun x y h _ => e x y h
theorem Ext.new {A : Ah} {a : Addr} {y : Cell} (h : A a = none) : Ext A (up A a y) := fun x z hx => by
  rw [up_ne fun e => (by subst e; rw [h] at hx; cases hx)]
  exact hx
theorem Ext.refl (A : Ah) : Ext A A := fun _ _ h => h
theorem Ext.trans {A B C : Ah} (a : Ext A B) (b : Ext B C) : Ext A C := fun x y h => b x y (a x y h)
theorem HR.ext {c : Cs} {i : Nat} {l : Lc} {h : Hv} {A A' : Ah} (r : HR c i l h A) (e : Ext A A') : HR c i l h A' := fun p b m => e _ _ (r p b m)
section
variable {c : Cs} {i : Nat} {l : Lc} {h : Hv} {A : Ah} {K : U → Ah → Prop}
theorem putH_asked {v : Int} : putD "asked" (.int v) (kH.zip (vH l h)) = kH.zip (vH l { h with asked := v }) := (putD_fs (n := 8) (by decide +kernel) rfl).trans rfl
theorem putT_made {v : Int} : putD "made" (.int v) (kT.zip (vT l h)) = kT.zip (vT l { h with made := v }) := (putD_fs (n := 2) (by decide +kernel) rfl).trans rfl
theorem lenH : (kH.zip (vH l h)).length < 1000 := by show 15 < 1000; decide
theorem lenT : (kT.zip (vT l h)).length < 1000 := by show 5 < 1000; decide
/-- the tables are not as long as the machine's bound -/
structure Hv.Fits (h : Hv) : Prop where
  stand : h.stand.length < sizeLine
  own : h.own.length < sizeLine
  lent : h.lent.length < sizeLine
  units : h.units.length < sizeLine
  unit : ∀ p ∈ h.units, p.2.length < sizeLine
  met : h.met.length < sizeLine
  counts : h.counts.length < sizeLine
  untold : h.untold.length < sizeLine
  asks : h.asks.length < sizeLine
  done : h.done.length < sizeLine
  drops : h.drops.length < sizeLine
  calls : h.calls.length < sizeLine
def Hv.ask (h : Hv) (q : Hd) (w : Wh) : Hv := { h with asks := aput h.asks h.asked (q, w), asked := h.asked + 1 }
theorem ask_ok {q : Hd} {w : Wh} (r : HR c i l h A) (f : h.Fits) (k : ∀ A', HR c i l (h.ask q w) A' → Frm i A A' → K (.d .non) A') : p_House_ask c [.ref (l .house), eH q, eWh w] A K := by
  have h1 := r.at .house rfl
  have h2 := r.at .asks rfl
  have r1 : HR c i l { h with asks := aput h.asks h.asked (q, w) } (up A (l .asks) ⟨⟨i, Pt.asks.code⟩, .dct ((aput h.asks h.asked (q, w)).map xAsks)⟩) :=
    r.set .asks rfl (fun p z n hz => by cases p <;> first | exact hz | exact absurd rfl n) (fun z e => by cases e; rfl)
  have h3 := r1.at .house rfl
  have r2 := HR.set (h' := h.ask q w) r1 .house rfl (fun p z n hz => by cases p <;> first | exact hz | exact absurd rfl n) (fun z e => by cases e; rfl)
  simp only [bodyW, sSeq, sExpr, sRet, sRetN, sNil, sIf, sSet, sAsg, sPar, sFld, sIx, wFn, wMeth, wMake, wCons, wNil, uCons, uNil, wC, wVar, wBin, wUn, wNot, wAnd, wOr, wChain, wIf, tB, tAnd, tOr, tNot, wTup, wLst, wDct0, wFld, wCall, wMt, wIsi, wI0, rd, esc, escT, setV, retV, gNm, tyN, isTy, neg,
    wEq_int, wEq_str, wLt_int, wLe_int, wGt_int, wGe_int, wAdd_int, wIx_eH0, wIx_eH1, wIx_tup, List.getElem?_cons_zero, List.getElem?_cons_succ, List.set_cons_zero, List.set_cons_succ, List.map_cons, List.map_nil, List.cons_append, List.nil_append, List.length_cons, List.length_nil, List.replicate_zero, List.replicate_succ, Nat.reduceAdd, Nat.reduceSub, Nat.sub_self, Nat.zero_add,
    Option.some.injEq, U.d.injEq, D.bl.injEq, D.int.injEq, D.ref.injEq, D.tup.injEq, D.str.injEq, Cell.mk.injEq, Ob.ins.injEq, Ob.lst.injEq, Ob.dct.injEq, List.cons.injEq, own_d, exists_eq_left, exists_eq_left', exists_and_left, exists_and_right, exists_eq, exists_eq', exists_const, true_and, and_true, and_self, and_assoc, if_true, if_false, Bool.false_eq_true, reduceCtorEq, false_and, and_false, exists_false, false_or, or_false, Bool.not_true, Bool.not_false, decide_true, decide_false, Bool.true_and, Bool.and_true, Bool.false_and, Bool.or_false, Bool.false_or,
    lkH_number, lkH_many, lkH_own, lkH_units, lkH_units_met, lkH_counts, lkH_untold, lkH_asks, lkH_asked, lkH_done, lkH_drops, lkH_calls, lkH_watched, lkH_dead, lkH_told, lkT_number, lkT_stand, lkT_made, lkT_own, lkT_lent, p_House_ask, f_House_ask, h1, setIx_dct h2, keyIn_xAsks]
  refine ⟨by decide, by simpa using f.asks, ?_⟩
  rw [show dput (h.asks.map xAsks) (.int h.asked) (.tup [eH q, eWh w]) = (aput h.asks h.asked (q, w)).map xAsks from dput_xAsks (v := (q, w))]
  simp only [bodyW, sSeq, sExpr, sRet, sRetN, sNil, sIf, sSet, sAsg, sPar, sFld, sIx, wFn, wMeth, wMake, wCons, wNil, uCons, uNil, wC, wVar, wBin, wUn, wNot, wAnd, wOr, wChain, wIf, tB, tAnd, tOr, tNot, wTup, wLst, wDct0, wFld, wCall, wMt, wIsi, wI0, rd, esc, escT, setV, retV, gNm, tyN, isTy, neg,
    wEq_int, wEq_str, wLt_int, wLe_int, wGt_int, wGe_int, wAdd_int, wIx_eH0, wIx_eH1, wIx_tup, List.getElem?_cons_zero, List.getElem?_cons_succ, List.set_cons_zero, List.set_cons_succ, List.map_cons, List.map_nil, List.cons_append, List.nil_append, List.length_cons, List.length_nil, List.replicate_zero, List.replicate_succ, Nat.reduceAdd, Nat.reduceSub, Nat.sub_self, Nat.zero_add,
    Option.some.injEq, U.d.injEq, D.bl.injEq, D.int.injEq, D.ref.injEq, D.tup.injEq, D.str.injEq, Cell.mk.injEq, Ob.ins.injEq, Ob.lst.injEq, Ob.dct.injEq, List.cons.injEq, own_d, exists_eq_left, exists_eq_left', exists_and_left, exists_and_right, exists_eq, exists_eq', exists_const, true_and, and_true, and_self, and_assoc, if_true, if_false, Bool.false_eq_true, reduceCtorEq, false_and, and_false, exists_false, false_or, or_false, Bool.not_true, Bool.not_false, decide_true, decide_false, Bool.true_and, Bool.and_true, Bool.false_and, Bool.or_false, Bool.false_or,
    lkH_number, lkH_many, lkH_own, lkH_units, lkH_units_met, lkH_counts, lkH_untold, lkH_asks, lkH_asked, lkH_done, lkH_drops, lkH_calls, lkH_watched, lkH_dead, lkH_told, lkT_number, lkT_stand, lkT_made, lkT_own, lkT_lent, h3]
  refine ⟨lenH, ?_⟩
  rw [putH_asked]
  exact k _ r2 ((Frm.upd h2 rfl).trans (Frm.upd h3 rfl))
def Hv.take (h : Hv) (q : Hd) : Hv := if q.1 = h.number then { h with own := aput h.own q.2 ((aget h.own q.2).getD 0 - 1) } else { h with units := aput h.units q ((aget h.units q).getD []).tail }
def Hv.taken (h : Hv) (q : Hd) : Int := if q.1 = h.number then 0 else ((aget h.units q).getD []).headD 0
theorem units_same {us : List Int} {q : Hd} (e : aget h.units q = some us) (v : List Int) : (aput h.units q v).map (xUnits l) = h.units.map (xUnits l) := by
  have ha : (h.units.any fun p => decide (p.1 = q)) = true := by rw [← aget_any, e]; rfl
  unfold aput
  rw [if_pos ha, List.map_map]
  refine List.map_congr_left fun p _ => ?_
  simp only [Function.comp]
  split <;> rfl
/-- a unit list is changed -/
theorem HR.unit {us v : List Int} {q : Hd} (r : HR c i l h A) (e : aget h.units q = some us) : HR c i l { h with units := aput h.units q v } (up A (l (.unit q)) ⟨⟨i, (Pt.unit q).code⟩, .lst (v.map D.int)⟩) := by
  refine r.set (.unit q) (b0 := .lst (us.map D.int)) (by simp [M, e]) (fun p z n hz => ?_) fun z hz => ?_
  · cases p with
    | units =>
      have : some (Ob.dct ((aput h.units q v).map (xUnits l))) = some z := hz
      rw [units_same e] at this
      exact this
    | unit q' =>
      have hq : ¬ q' = q := fun z => n (by rw [z])
      have : (aget (aput h.units q v) q').map (fun us => Ob.lst (us.map D.int)) = some z := hz
      rw [aget_aput, if_neg hq] at this
      exact this
    | _ => exact hz
  · have : (aget (aput h.units q v) q).map (fun us => Ob.lst (us.map D.int)) = some z := hz
    rw [aget_aput, if_pos rfl] at this
    cases this
    rfl
theorem HR.own {v : List (Int × Int)} (r : HR c i l h A) : HR c i l { h with own := v } (up A (l .own) ⟨⟨i, Pt.own.code⟩, .dct (v.map xInt)⟩) :=
  r.set .own rfl (fun p z n hz => by cases p <;> first | exact hz | exact absurd rfl n) (fun z e => by cases e; rfl)
theorem take_ok {q : Hd} (r : HR c i l h A) (f : h.Fits) (hc : 0 < h.count q) (hown : q.1 = h.number → (aget h.own q.2).isSome) (k : ∀ A', HR c i l (h.take q) A' → Frm i A A' → K (.d (.int (h.taken q))) A') : p_House_take_unit c [.ref (l .house), eH q] A K := by
  have h1 := r.at .house rfl
  have h2 := r.at .things rfl
  have h3 := r.at .own rfl
  have h4 := r.at .units rfl
  simp only [bodyW, sSeq, sExpr, sRet, sRetN, sNil, sIf, sSet, sAsg, sPar, sFld, sIx, wFn, wMeth, wMake, wCons, wNil, uCons, uNil, wC, wVar, wBin, wUn, wNot, wAnd, wOr, wChain, wIf, tB, tAnd, tOr, tNot, wTup, wLst, wDct0, wFld, wCall, wMt, wIsi, wI0, rd, esc, escT, setV, retV, gNm, tyN, isTy, neg,
    wEq_int, wEq_str, wLt_int, wLe_int, wGt_int, wGe_int, wAdd_int, wIx_eH0, wIx_eH1, wIx_tup, List.getElem?_cons_zero, List.getElem?_cons_succ, List.set_cons_zero, List.set_cons_succ, List.map_cons, List.map_nil, List.cons_append, List.nil_append, List.length_cons, List.length_nil, List.replicate_zero, List.replicate_succ, Nat.reduceAdd, Nat.reduceSub, Nat.sub_self, Nat.zero_add,
    Option.some.injEq, U.d.injEq, D.bl.injEq, D.int.injEq, D.ref.injEq, D.tup.injEq, D.str.injEq, Cell.mk.injEq, Ob.ins.injEq, Ob.lst.injEq, Ob.dct.injEq, List.cons.injEq, own_d, exists_eq_left, exists_eq_left', exists_and_left, exists_and_right, exists_eq, exists_eq', exists_const, true_and, and_true, and_self, and_assoc, if_true, if_false, Bool.false_eq_true, reduceCtorEq, false_and, and_false, exists_false, false_or, or_false, Bool.not_true, Bool.not_false, decide_true, decide_false, Bool.true_and, Bool.and_true, Bool.false_and, Bool.or_false, Bool.false_or,
    lkH_number, lkH_many, lkH_own, lkH_units, lkH_units_met, lkH_counts, lkH_untold, lkH_asks, lkH_asked, lkH_done, lkH_drops, lkH_calls, lkH_watched, lkH_dead, lkH_told, lkT_number, lkT_stand, lkT_made, lkT_own, lkT_lent, p_House_take_unit, f_House_take_unit, h1]
  unfold Hv.take Hv.taken at k
  unfold Hv.count at hc
  by_cases e : q.1 = h.number
  · rw [if_pos e] at hc
    simp only [if_pos e] at k
    obtain ⟨n, en⟩ := Option.isSome_iff_exists.mp (hown e)
    rw [en] at k
    simp only [bodyW, sSeq, sExpr, sRet, sRetN, sNil, sIf, sSet, sAsg, sPar, sFld, sIx, wFn, wMeth, wMake, wCons, wNil, uCons, uNil, wC, wVar, wBin, wUn, wNot, wAnd, wOr, wChain, wIf, tB, tAnd, tOr, tNot, wTup, wLst, wDct0, wFld, wCall, wMt, wIsi, wI0, rd, esc, escT, setV, retV, gNm, tyN, isTy, neg,
    wEq_int, wEq_str, wLt_int, wLe_int, wGt_int, wGe_int, wAdd_int, wIx_eH0, wIx_eH1, wIx_tup, List.getElem?_cons_zero, List.getElem?_cons_succ, List.set_cons_zero, List.set_cons_succ, List.map_cons, List.map_nil, List.cons_append, List.nil_append, List.length_cons, List.length_nil, List.replicate_zero, List.replicate_succ, Nat.reduceAdd, Nat.reduceSub, Nat.sub_self, Nat.zero_add,
    Option.some.injEq, U.d.injEq, D.bl.injEq, D.int.injEq, D.ref.injEq, D.tup.injEq, D.str.injEq, Cell.mk.injEq, Ob.ins.injEq, Ob.lst.injEq, Ob.dct.injEq, List.cons.injEq, own_d, exists_eq_left, exists_eq_left', exists_and_left, exists_and_right, exists_eq, exists_eq', exists_const, true_and, and_true, and_self, and_assoc, if_true, if_false, Bool.false_eq_true, reduceCtorEq, false_and, and_false, exists_false, false_or, or_false, Bool.not_true, Bool.not_false, decide_true, decide_false, Bool.true_and, Bool.and_true, Bool.false_and, Bool.or_false, Bool.false_or,
    lkH_number, lkH_many, lkH_own, lkH_units, lkH_units_met, lkH_counts, lkH_untold, lkH_asks, lkH_asked, lkH_done, lkH_drops, lkH_calls, lkH_watched, lkH_dead, lkH_told, lkT_number, lkT_stand, lkT_made, lkT_own, lkT_lent, e, h1, h2, ix_dctR h3, keyIn_xInt, dget_xInt, en, Option.map_some, setIx_dct h3]
    refine ⟨by simpa using f.own, ?_⟩
    rw [show dput (h.own.map xInt) (.int q.2) (.int (n - 1)) = (aput h.own q.2 (n - 1)).map xInt from dput_xInt]
    exact k _ r.own (Frm.upd h3 rfl)
  · rw [if_neg e] at hc
    simp only [if_neg e] at k
    cases eu : aget h.units q with
    | none => rw [eu] at hc; simp at hc
    | some us =>
      cases us with
      | nil => rw [eu] at hc; simp at hc
      | cons u us =>
        rw [eu] at k
        have h5 : A (l (.unit q)) = some ⟨⟨i, (Pt.unit q).code⟩, .lst (D.int u :: us.map D.int)⟩ := r.at (.unit q) (by simp [M, eu])
        simp only [bodyW, sSeq, sExpr, sRet, sRetN, sNil, sIf, sSet, sAsg, sPar, sFld, sIx, wFn, wMeth, wMake, wCons, wNil, uCons, uNil, wC, wVar, wBin, wUn, wNot, wAnd, wOr, wChain, wIf, tB, tAnd, tOr, tNot, wTup, wLst, wDct0, wFld, wCall, wMt, wIsi, wI0, rd, esc, escT, setV, retV, gNm, tyN, isTy, neg,
    wEq_int, wEq_str, wLt_int, wLe_int, wGt_int, wGe_int, wAdd_int, wIx_eH0, wIx_eH1, wIx_tup, List.getElem?_cons_zero, List.getElem?_cons_succ, List.set_cons_zero, List.set_cons_succ, List.map_cons, List.map_nil, List.cons_append, List.nil_append, List.length_cons, List.length_nil, List.replicate_zero, List.replicate_succ, Nat.reduceAdd, Nat.reduceSub, Nat.sub_self, Nat.zero_add,
    Option.some.injEq, U.d.injEq, D.bl.injEq, D.int.injEq, D.ref.injEq, D.tup.injEq, D.str.injEq, Cell.mk.injEq, Ob.ins.injEq, Ob.lst.injEq, Ob.dct.injEq, List.cons.injEq, own_d, exists_eq_left, exists_eq_left', exists_and_left, exists_and_right, exists_eq, exists_eq', exists_const, true_and, and_true, and_self, and_assoc, if_true, if_false, Bool.false_eq_true, reduceCtorEq, false_and, and_false, exists_false, false_or, or_false, Bool.not_true, Bool.not_false, decide_true, decide_false, Bool.true_and, Bool.and_true, Bool.false_and, Bool.or_false, Bool.false_or,
    lkH_number, lkH_many, lkH_own, lkH_units, lkH_units_met, lkH_counts, lkH_untold, lkH_asks, lkH_asked, lkH_done, lkH_drops, lkH_calls, lkH_watched, lkH_dead, lkH_told, lkT_number, lkT_stand, lkT_made, lkT_own, lkT_lent, e, ix_dctR h4, keyIn_xUnits, dget_xUnits, eu, Option.map_some, tyU_lst h5, popAt0 h5]
        exact k _ (r.unit eu) (Frm.upd h5 rfl)
end
end Dn

namespace Dn
open PySem L2 PyProof.Rows PySem.W
theorem up_of {A : Ah} {a b : Addr} {x y z : Cell} (ha : A a = some x) (hb : A b = none) : up A b y a = some x := by
  rw [up_ne fun e => (by rw [e, hb] at ha; cases ha)]
  exact ha
theorem setd_iff {ρ : Rho} {A : Ah} {a : Addr} {t : Tag} {kvs : List (D × D)} {xs : List D} {z : D} {k : K1} (h : A a = some ⟨t, .dct kvs⟩) (t1 : Tag) (ki : KeyIn z kvs) (hl : kvs.length < sizeLine)
    (hs : ∀ w b, dget kvs z = some w → A b = none → k (.d w) ρ (up A b ⟨t1, .lst xs⟩)) (hn : ∀ b, dget kvs z = none → A b = none → k (.d (.ref b)) ρ (up (up A b ⟨t1, .lst xs⟩) a ⟨t, .dct (dput kvs z (.ref b))⟩)) : mSetd (.d (.ref a)) [.d z, .lst xs] ρ A k := by
  refine ⟨z, .lst xs, rfl, .lst xs, rfl, t1, fun b hb => ?_⟩
  have h1 : up A b ⟨t1, .lst xs⟩ a = some ⟨t, .dct kvs⟩ := up_of (z := ⟨t, .dct kvs⟩) h hb
  refine ⟨kvs, by simp [dctOf, obOf, h1], ki, hl, ?_⟩
  cases e : dget kvs z with
  | some w => exact hs w b e hb
  | none => exact ⟨_, h1, hn b e hb⟩
section
variable {c : Cs} {i : Nat} {l l' : Lc} {h h' : Hv} {A : Ah} {K : U → Ah → Prop}
theorem HR.set' (r : HR c i l h A) (p : Pt) {b0 b : Ob} (e : M c l h p = some b0) (hm : ∀ q z, q ≠ p → M c l h' q = some z → A (l q) = some ⟨⟨i, q.code⟩, z⟩) (hp : ∀ z, M c l h' p = some z → z = b) : HR c i l h' (up A (l p) ⟨⟨i, p.code⟩, b⟩) := by
  intro q z hq
  by_cases hqp : q = p
  · subst hqp
    rw [up_same, hp z hq]
  · have hA := hm q z hqp hq
    rw [up_ne fun e2 => ?_]
    · exact hA
    · rw [e2, r p b0 e] at hA
      simp at hA
      exact hqp (Pt.code_inj hA.1).symm
theorem aget_none_mem {κ ν : Type} [DecidableEq κ] {m : List (κ × ν)} {k : κ} (e : aget m k = none) : ∀ p ∈ m, p.1 ≠ k := fun p hp hk => by
  have : (m.any fun p => decide (p.1 = k)) = true := List.any_eq_true.mpr ⟨p, hp, by simpa using hk⟩
  rw [← aget_any, e] at this
  cases this
theorem aget_app {κ ν : Type} [DecidableEq κ] {m : List (κ × ν)} {k k' : κ} {v : ν} (e : aget m k = none) : aget (m ++ [(k, v)]) k' = if k' = k then some v else aget m k' := by
  have : aput m k v = m ++ [(k, v)] := by
    unfold aput
    rw [← aget_any, e]
    rfl
  rw [← this, aget_aput]
theorem aput_new {κ ν : Type} [DecidableEq κ] {m : List (κ × ν)} {k : κ} {v : ν} (e : aget m k = none) : aput m k v = m ++ [(k, v)] := by
  unfold aput
  rw [← aget_any, e]
  rfl
/-- a place that nothing stands at may be anywhere -/
theorem M_unit {q : Hd} (hl : ∀ p, p ≠ .unit q → l' p = l p) (hn : aget h.units q = none) (p : Pt) : M c l' h p = M c l h p := by
  cases p with
  | house => simp [M, vH, hl]
  | things => simp [M, vT, hl]
  | stand => simp [M, xStand, hl]
  | units =>
    simp only [M, Option.some.injEq, Ob.dct.injEq]
    refine List.map_congr_left fun p hp => ?_
    have := aget_none_mem hn p hp
    simp [xUnits, hl, this]
  | thing k => simp [M, hl]
  | links k =>
    have : xLinks l' k = xLinks l k := funext fun p => by simp [xLinks, hl]
    simp [M, this]
  | _ => rfl
theorem HR.unitAt {q : Hd} (r : HR c i l h A) (hl : ∀ p, p ≠ .unit q → l' p = l p) (hn : aget h.units q = none) : HR c i l' h A := fun p b hb => by
  rw [M_unit hl hn] at hb
  have : p ≠ .unit q := fun e => by subst e; simp [M, hn] at hb
  rw [hl p this]
  exact r p b hb
theorem HR.unitNew {q : Hd} {xs : List Int} (r : HR c i l h A) (hn : aget h.units q = none) (ha : A (l (.unit q)) = some ⟨⟨i, (Pt.unit q).code⟩, .lst (xs.map D.int)⟩) :
    HR c i l { h with units := aput h.units q xs } (up A (l .units) ⟨⟨i, Pt.units.code⟩, .dct ((aput h.units q xs).map (xUnits l))⟩) := by
  refine r.set' .units rfl (fun p z n hz => ?_) (fun z e => by cases e; rfl)
  cases p with
  | units => exact absurd rfl n
  | unit q' =>
    have hz' : (aget (aput h.units q xs) q').map (fun us => Ob.lst (us.map D.int)) = some z := hz
    rw [aget_aput] at hz'
    by_cases e : q' = q
    · subst e
      simp at hz'
      subst hz'
      exact ha
    · rw [if_neg e] at hz'
      exact r (.unit q') z hz'
  | _ => exact r _ z hz
def Hv.get (h : Hv) (q : Hd) (u : Int) : Hv := if q.1 = h.number then { h with own := aput h.own q.2 ((aget h.own q.2).getD 0 + 1) } else { h with units := aput h.units q ((aget h.units q).getD [] ++ [u]) }
theorem aput_aput {κ ν : Type} [DecidableEq κ] {m : List (κ × ν)} {k : κ} {v w : ν} (e : aget m k = none) : aput (aput m k v) k w = aput m k w := by
  have : aget (aput m k v) k = some v := by rw [aget_aput, if_pos rfl]
  rw [aput_new e, aput_new e]
  unfold aput
  have hm : ((m ++ [(k, v)]).any fun p => decide (p.1 = k)) = true := by simp
  rw [if_pos hm, List.map_append]
  congr 1
  · conv => rhs; rw [← List.map_id m]
    refine List.map_congr_left fun p hp => ?_
    simp [aget_none_mem e p hp]
  · simp
theorem get_okF {q : Hd} {u : Int} {a : Addr} (r : House c i a h A) (fo : h.own.length < sizeLine) (fu : h.units.length < sizeLine) (fx : ∀ p ∈ h.units, p.2.length < sizeLine) (hown : q.1 = h.number → (aget h.own q.2).isSome) (k : ∀ A', House c i a (h.get q u) A' → Frm i A A' → K (.d .non) A') : p_House_get_unit c [.ref a, eH q, .int u] A K := by
  obtain ⟨l, rfl, r⟩ := r
  have h1 := r.at .house rfl
  have h2 := r.at .things rfl
  have h3 := r.at .own rfl
  have h4 := r.at .units rfl
  simp only [bodyW, sSeq, sExpr, sRet, sRetN, sNil, sIf, sSet, sAsg, sPar, sFld, sIx, wFn, wMeth, wMake, wCons, wNil, uCons, uNil, wC, wVar, wBin, wUn, wNot, wAnd, wOr, wChain, wIf, tB, tAnd, tOr, tNot, wTup, wLst, wDct0, wFld, wCall, wMt, wIsi, wI0, rd, esc, escT, setV, retV, gNm, tyN, isTy, neg,
    wEq_int, wEq_str, wLt_int, wLe_int, wGt_int, wGe_int, wAdd_int, wIx_eH0, wIx_eH1, wIx_tup, List.getElem?_cons_zero, List.getElem?_cons_succ, List.set_cons_zero, List.set_cons_succ, List.map_cons, List.map_nil, List.cons_append, List.nil_append, List.length_cons, List.length_nil, List.replicate_zero, List.replicate_succ, Nat.reduceAdd, Nat.reduceSub, Nat.sub_self, Nat.zero_add,
    Option.some.injEq, U.d.injEq, D.bl.injEq, D.int.injEq, D.ref.injEq, D.tup.injEq, D.str.injEq, Cell.mk.injEq, Ob.ins.injEq, Ob.lst.injEq, Ob.dct.injEq, List.cons.injEq, own_d, exists_eq_left, exists_eq_left', exists_and_left, exists_and_right, exists_eq, exists_eq', exists_const, true_and, and_true, and_self, and_assoc, if_true, if_false, Bool.false_eq_true, reduceCtorEq, false_and, and_false, exists_false, false_or, or_false, Bool.not_true, Bool.not_false, decide_true, decide_false, Bool.true_and, Bool.and_true, Bool.false_and, Bool.or_false, Bool.false_or,
    lkH_number, lkH_many, lkH_own, lkH_units, lkH_units_met, lkH_counts, lkH_untold, lkH_asks, lkH_asked, lkH_done, lkH_drops, lkH_calls, lkH_watched, lkH_dead, lkH_told, lkT_number, lkT_stand, lkT_made, lkT_own, lkT_lent, p_House_get_unit, f_House_get_unit, h1]
  unfold Hv.get at k
  by_cases e : q.1 = h.number
  · simp only [if_pos e] at k
    obtain ⟨n, en⟩ := Option.isSome_iff_exists.mp (hown e)
    rw [en] at k
    simp only [bodyW, sSeq, sExpr, sRet, sRetN, sNil, sIf, sSet, sAsg, sPar, sFld, sIx, wFn, wMeth, wMake, wCons, wNil, uCons, uNil, wC, wVar, wBin, wUn, wNot, wAnd, wOr, wChain, wIf, tB, tAnd, tOr, tNot, wTup, wLst, wDct0, wFld, wCall, wMt, wIsi, wI0, rd, esc, escT, setV, retV, gNm, tyN, isTy, neg,
    wEq_int, wEq_str, wLt_int, wLe_int, wGt_int, wGe_int, wAdd_int, wIx_eH0, wIx_eH1, wIx_tup, List.getElem?_cons_zero, List.getElem?_cons_succ, List.set_cons_zero, List.set_cons_succ, List.map_cons, List.map_nil, List.cons_append, List.nil_append, List.length_cons, List.length_nil, List.replicate_zero, List.replicate_succ, Nat.reduceAdd, Nat.reduceSub, Nat.sub_self, Nat.zero_add,
    Option.some.injEq, U.d.injEq, D.bl.injEq, D.int.injEq, D.ref.injEq, D.tup.injEq, D.str.injEq, Cell.mk.injEq, Ob.ins.injEq, Ob.lst.injEq, Ob.dct.injEq, List.cons.injEq, own_d, exists_eq_left, exists_eq_left', exists_and_left, exists_and_right, exists_eq, exists_eq', exists_const, true_and, and_true, and_self, and_assoc, if_true, if_false, Bool.false_eq_true, reduceCtorEq, false_and, and_false, exists_false, false_or, or_false, Bool.not_true, Bool.not_false, decide_true, decide_false, Bool.true_and, Bool.and_true, Bool.false_and, Bool.or_false, Bool.false_or,
    lkH_number, lkH_many, lkH_own, lkH_units, lkH_units_met, lkH_counts, lkH_untold, lkH_asks, lkH_asked, lkH_done, lkH_drops, lkH_calls, lkH_watched, lkH_dead, lkH_told, lkT_number, lkT_stand, lkT_made, lkT_own, lkT_lent, e, h1, h2, ix_dctR h3, keyIn_xInt, dget_xInt, en, Option.map_some, setIx_dct h3]
    refine ⟨by simpa using fo, ?_⟩
    rw [show dput (h.own.map xInt) (.int q.2) (.int (n + 1)) = (aput h.own q.2 (n + 1)).map xInt from dput_xInt]
    exact k _ ⟨l, rfl, r.own⟩ (Frm.upd h3 rfl)
  · simp only [if_neg e] at k
    simp only [bodyW, sSeq, sExpr, sRet, sRetN, sNil, sIf, sSet, sAsg, sPar, sFld, sIx, wFn, wMeth, wMake, wCons, wNil, uCons, uNil, wC, wVar, wBin, wUn, wNot, wAnd, wOr, wChain, wIf, tB, tAnd, tOr, tNot, wTup, wLst, wDct0, wFld, wCall, wMt, wIsi, wI0, rd, esc, escT, setV, retV, gNm, tyN, isTy, neg,
    wEq_int, wEq_str, wLt_int, wLe_int, wGt_int, wGe_int, wAdd_int, wIx_eH0, wIx_eH1, wIx_tup, List.getElem?_cons_zero, List.getElem?_cons_succ, List.set_cons_zero, List.set_cons_succ, List.map_cons, List.map_nil, List.cons_append, List.nil_append, List.length_cons, List.length_nil, List.replicate_zero, List.replicate_succ, Nat.reduceAdd, Nat.reduceSub, Nat.sub_self, Nat.zero_add,
    Option.some.injEq, U.d.injEq, D.bl.injEq, D.int.injEq, D.ref.injEq, D.tup.injEq, D.str.injEq, Cell.mk.injEq, Ob.ins.injEq, Ob.lst.injEq, Ob.dct.injEq, List.cons.injEq, own_d, exists_eq_left, exists_eq_left', exists_and_left, exists_and_right, exists_eq, exists_eq', exists_const, true_and, and_true, and_self, and_assoc, if_true, if_false, Bool.false_eq_true, reduceCtorEq, false_and, and_false, exists_false, false_or, or_false, Bool.not_true, Bool.not_false, decide_true, decide_false, Bool.true_and, Bool.and_true, Bool.false_and, Bool.or_false, Bool.false_or,
    lkH_number, lkH_many, lkH_own, lkH_units, lkH_units_met, lkH_counts, lkH_untold, lkH_asks, lkH_asked, lkH_done, lkH_drops, lkH_calls, lkH_watched, lkH_dead, lkH_told, lkT_number, lkT_stand, lkT_made, lkT_own, lkT_lent, e, tyU_dct h4]
    refine ⟨Nat.zero_le _, ?_⟩
    refine setd_iff h4 (if (aget h.units q).isSome then ⟨i, []⟩ else ⟨i, (Pt.unit q).code⟩) keyIn_xUnits (by simpa using fu) (fun w b ew hb => ?_) fun b ew hb => ?_
    · rw [dget_xUnits] at ew
      obtain ⟨us, eu, rfl⟩ := Option.map_eq_some_iff.mp ew
      rw [eu] at k
      have r1 := r.ext (Ext.new (y := ⟨if (aget h.units q).isSome then ⟨i, []⟩ else ⟨i, (Pt.unit q).code⟩, .lst []⟩) hb)
      have h5 := r1.at (.unit q) (b := .lst (us.map D.int)) (by simp [M, eu])
      simp only [bodyW, sSeq, sExpr, sRet, sRetN, sNil, sIf, sSet, sAsg, sPar, sFld, sIx, wFn, wMeth, wMake, wCons, wNil, uCons, uNil, wC, wVar, wBin, wUn, wNot, wAnd, wOr, wChain, wIf, tB, tAnd, tOr, tNot, wTup, wLst, wDct0, wFld, wCall, wMt, wIsi, wI0, rd, esc, escT, setV, retV, gNm, tyN, isTy, neg,
    wEq_int, wEq_str, wLt_int, wLe_int, wGt_int, wGe_int, wAdd_int, wIx_eH0, wIx_eH1, wIx_tup, List.getElem?_cons_zero, List.getElem?_cons_succ, List.set_cons_zero, List.set_cons_succ, List.map_cons, List.map_nil, List.cons_append, List.nil_append, List.length_cons, List.length_nil, List.replicate_zero, List.replicate_succ, Nat.reduceAdd, Nat.reduceSub, Nat.sub_self, Nat.zero_add,
    Option.some.injEq, U.d.injEq, D.bl.injEq, D.int.injEq, D.ref.injEq, D.tup.injEq, D.str.injEq, Cell.mk.injEq, Ob.ins.injEq, Ob.lst.injEq, Ob.dct.injEq, List.cons.injEq, own_d, exists_eq_left, exists_eq_left', exists_and_left, exists_and_right, exists_eq, exists_eq', exists_const, true_and, and_true, and_self, and_assoc, if_true, if_false, Bool.false_eq_true, reduceCtorEq, false_and, and_false, exists_false, false_or, or_false, Bool.not_true, Bool.not_false, decide_true, decide_false, Bool.true_and, Bool.and_true, Bool.false_and, Bool.or_false, Bool.false_or,
    lkH_number, lkH_many, lkH_own, lkH_units, lkH_units_met, lkH_counts, lkH_untold, lkH_asks, lkH_asked, lkH_done, lkH_drops, lkH_calls, lkH_watched, lkH_dead, lkH_told, lkT_number, lkT_stand, lkT_made, lkT_own, lkT_lent, tyU_lst h5, append_ref h5]
      refine ⟨by simpa using fx _ (aget_some eu), ?_⟩
      have r2 := r1.unit (v := us ++ [u]) eu
      rw [List.map_append] at r2
      exact k _ ⟨l, rfl, r2⟩ ((Frm.new hb).trans (Frm.upd h5 rfl))
    · rw [dget_xUnits] at ew
      have eu : aget h.units q = none := by simpa using ew
      simp only [eu] at k ⊢
      simp only [Option.isSome_none, Bool.false_eq_true, if_false]
      let l' : Lc := fun p => if p = .unit q then b else l p
      have hl : ∀ p, p ≠ .unit q → l' p = l p := fun p n => if_neg n
      have hq : l' (.unit q) = b := if_pos rfl
      have r1 : HR c i l' h (up A b ⟨⟨i, (Pt.unit q).code⟩, .lst []⟩) := (r.ext (Ext.new hb)).unitAt hl eu
      have r2 := r1.unitNew (xs := []) eu (by rw [hq, up_same]; rfl)
      have hu : l' .units = l .units := hl _ nofun
      have eb : (xUnits l' (q, ([] : List Int))) = (eH q, .ref b) := by simp [xUnits, hq]
      have e2 : dput (h.units.map (xUnits l)) (eH q) (.ref b) = (aput h.units q []).map (xUnits l') := by
        have : h.units.map (xUnits l) = h.units.map (xUnits l') := List.map_congr_left fun p hp => by simp [xUnits, hl, aget_none_mem eu p hp]
        rw [this]
        exact dput_map (e := xUnits l') (f := eH) (fun _ => rfl) eH_inj h.units q [] (.ref b) (fun p hp e => absurd e (aget_none_mem eu p hp)) (by rw [eb])
      rw [hu] at r2
      rw [e2]
      have h5 := r2.at (.unit q) (b := .lst []) (by simp [M, aget_aput])
      rw [hq] at h5
      simp only [bodyW, sSeq, sExpr, sRet, sRetN, sNil, sIf, sSet, sAsg, sPar, sFld, sIx, wFn, wMeth, wMake, wCons, wNil, uCons, uNil, wC, wVar, wBin, wUn, wNot, wAnd, wOr, wChain, wIf, tB, tAnd, tOr, tNot, wTup, wLst, wDct0, wFld, wCall, wMt, wIsi, wI0, rd, esc, escT, setV, retV, gNm, tyN, isTy, neg,
    wEq_int, wEq_str, wLt_int, wLe_int, wGt_int, wGe_int, wAdd_int, wIx_eH0, wIx_eH1, wIx_tup, List.getElem?_cons_zero, List.getElem?_cons_succ, List.set_cons_zero, List.set_cons_succ, List.map_cons, List.map_nil, List.cons_append, List.nil_append, List.length_cons, List.length_nil, List.replicate_zero, List.replicate_succ, Nat.reduceAdd, Nat.reduceSub, Nat.sub_self, Nat.zero_add,
    Option.some.injEq, U.d.injEq, D.bl.injEq, D.int.injEq, D.ref.injEq, D.tup.injEq, D.str.injEq, Cell.mk.injEq, Ob.ins.injEq, Ob.lst.injEq, Ob.dct.injEq, List.cons.injEq, own_d, exists_eq_left, exists_eq_left', exists_and_left, exists_and_right, exists_eq, exists_eq', exists_const, true_and, and_true, and_self, and_assoc, if_true, if_false, Bool.false_eq_true, reduceCtorEq, false_and, and_false, exists_false, false_or, or_false, Bool.not_true, Bool.not_false, decide_true, decide_false, Bool.true_and, Bool.and_true, Bool.false_and, Bool.or_false, Bool.false_or,
    lkH_number, lkH_many, lkH_own, lkH_units, lkH_units_met, lkH_counts, lkH_untold, lkH_asks, lkH_asked, lkH_done, lkH_drops, lkH_calls, lkH_watched, lkH_dead, lkH_told, lkT_number, lkT_stand, lkT_made, lkT_own, lkT_lent, tyU_lst h5, append_ref h5]
      refine ⟨by decide, ?_⟩
      have r3 := r2.unit (us := []) (v := [u]) (q := q) (by simp [aget_aput])
      rw [hq] at r3
      simp only [aput_aput eu] at r3
      have h4' : up A b ⟨⟨i, (Pt.unit q).code⟩, Ob.lst []⟩ (l .units) = some ⟨⟨i, Pt.units.code⟩, .dct (h.units.map (xUnits l))⟩ := up_of (z := ⟨⟨i, []⟩, .lst []⟩) h4 hb
      exact k _ ⟨l', hl _ nofun, r3⟩ ((Frm.new hb).trans ((Frm.upd h4' rfl).trans (Frm.upd h5 rfl)))
theorem get_ok {q : Hd} {u : Int} {a : Addr} (r : House c i a h A) (f : h.Fits) (hown : q.1 = h.number → (aget h.own q.2).isSome) (k : ∀ A', House c i a (h.get q u) A' → Frm i A A' → K (.d .non) A') : p_House_get_unit c [.ref a, eH q, .int u] A K := get_okF r f.own f.units f.unit hown k
end
end Dn

namespace Dn
open PySem L2 PyProof.Rows PySem.W
section
variable {c : Cs} {i : Nat} {l l' : Lc} {h h' : Hv} {A : Ah} {K : U → Ah → Prop}
theorem wTup2 {ρ : Rho} {A : Ah} {k : K1} {x y : D} : (wTup (fun ρ A k => k [x, y] ρ A)) ρ A k ↔ k (.d (.tup [x, y])) ρ A := by
  simp [wTup, show 2 ≤ sizeLine by decide]
def Hv.lend (h : Hv) (t to : Int) : Hv :=
  if to = h.number then { h with own := aput h.own t ((aget h.own t).getD 0 + 1) }
  else if (aget h.dead to).isSome then h
  else
    let n := (aget h.counts to).getD 0 + 1
    { h with counts := aput h.counts to n, lent := aput h.lent (to, n) t, untold := aput h.untold (to, n) t }
theorem lend_ok {t to : Int} (r : HR c i l h A) (f : h.Fits) (hown : to = h.number → (aget h.own t).isSome) (k : ∀ A', HR c i l (h.lend t to) A' → Frm i A A' → K (.d .non) A') : p_House_lend c [.ref (l .house), .int t, .int to] A K := by
  have h1 := r.at .house rfl
  have h2 := r.at .things rfl
  have h3 := r.at .own rfl
  have h4 := r.at .dead rfl
  have h5 := r.at .counts rfl
  simp only [bodyW, sSeq, sExpr, sRet, sRetN, sNil, sIf, sSet, sAsg, sPar, sFld, sIx, wFn, wMeth, wMake, wCons, wNil, uCons, uNil, wC, wVar, wBin, wUn, wNot, wAnd, wOr, wChain, wIf, tB, tAnd, tOr, tNot, wTup, wLst, wDct0, wFld, wCall, wMt, wIsi, wI0, rd, esc, escT, setV, retV, gNm, tyN, isTy, neg,
    wEq_int, wEq_str, wLt_int, wLe_int, wGt_int, wGe_int, wAdd_int, wIx_eH0, wIx_eH1, wIx_tup, List.getElem?_cons_zero, List.getElem?_cons_succ, List.set_cons_zero, List.set_cons_succ, List.map_cons, List.map_nil, List.cons_append, List.nil_append, List.length_cons, List.length_nil, List.replicate_zero, List.replicate_succ, Nat.reduceAdd, Nat.reduceSub, Nat.sub_self, Nat.zero_add,
    Option.some.injEq, U.d.injEq, D.bl.injEq, D.int.injEq, D.ref.injEq, D.tup.injEq, D.str.injEq, Cell.mk.injEq, Ob.ins.injEq, Ob.lst.injEq, Ob.dct.injEq, List.cons.injEq, own_d, exists_eq_left, exists_eq_left', exists_and_left, exists_and_right, exists_eq, exists_eq', exists_const, true_and, and_true, and_self, and_assoc, if_true, if_false, Bool.false_eq_true, reduceCtorEq, false_and, and_false, exists_false, false_or, or_false, Bool.not_true, Bool.not_false, decide_true, decide_false, Bool.true_and, Bool.and_true, Bool.false_and, Bool.or_false, Bool.false_or,
    lkH_number, lkH_many, lkH_own, lkH_units, lkH_units_met, lkH_counts, lkH_untold, lkH_asks, lkH_asked, lkH_done, lkH_drops, lkH_calls, lkH_watched, lkH_dead, lkH_told, lkT_number, lkT_stand, lkT_made, lkT_own, lkT_lent, p_House_lend, f_House_lend, h1]
  unfold Hv.lend at k
  by_cases e : to = h.number
  · simp only [if_pos e] at k
    obtain ⟨n, en⟩ := Option.isSome_iff_exists.mp (hown e)
    rw [en] at k
    simp only [bodyW, sSeq, sExpr, sRet, sRetN, sNil, sIf, sSet, sAsg, sPar, sFld, sIx, wFn, wMeth, wMake, wCons, wNil, uCons, uNil, wC, wVar, wBin, wUn, wNot, wAnd, wOr, wChain, wIf, tB, tAnd, tOr, tNot, wTup, wLst, wDct0, wFld, wCall, wMt, wIsi, wI0, rd, esc, escT, setV, retV, gNm, tyN, isTy, neg,
    wEq_int, wEq_str, wLt_int, wLe_int, wGt_int, wGe_int, wAdd_int, wIx_eH0, wIx_eH1, wIx_tup, List.getElem?_cons_zero, List.getElem?_cons_succ, List.set_cons_zero, List.set_cons_succ, List.map_cons, List.map_nil, List.cons_append, List.nil_append, List.length_cons, List.length_nil, List.replicate_zero, List.replicate_succ, Nat.reduceAdd, Nat.reduceSub, Nat.sub_self, Nat.zero_add,
    Option.some.injEq, U.d.injEq, D.bl.injEq, D.int.injEq, D.ref.injEq, D.tup.injEq, D.str.injEq, Cell.mk.injEq, Ob.ins.injEq, Ob.lst.injEq, Ob.dct.injEq, List.cons.injEq, own_d, exists_eq_left, exists_eq_left', exists_and_left, exists_and_right, exists_eq, exists_eq', exists_const, true_and, and_true, and_self, and_assoc, if_true, if_false, Bool.false_eq_true, reduceCtorEq, false_and, and_false, exists_false, false_or, or_false, Bool.not_true, Bool.not_false, decide_true, decide_false, Bool.true_and, Bool.and_true, Bool.false_and, Bool.or_false, Bool.false_or,
    lkH_number, lkH_many, lkH_own, lkH_units, lkH_units_met, lkH_counts, lkH_untold, lkH_asks, lkH_asked, lkH_done, lkH_drops, lkH_calls, lkH_watched, lkH_dead, lkH_told, lkT_number, lkT_stand, lkT_made, lkT_own, lkT_lent, e, h1, h2, ix_dctR h3, keyIn_xInt, dget_xInt, en, Option.map_some, setIx_dct h3]
    refine ⟨by simpa using f.own, ?_⟩
    rw [show dput (h.own.map xInt) (.int t) (.int (n + 1)) = (aput h.own t (n + 1)).map xInt from dput_xInt]
    exact k _ r.own (Frm.upd h3 rfl)
  · simp only [if_neg e] at k
    simp only [bodyW, sSeq, sExpr, sRet, sRetN, sNil, sIf, sSet, sAsg, sPar, sFld, sIx, wFn, wMeth, wMake, wCons, wNil, uCons, uNil, wC, wVar, wBin, wUn, wNot, wAnd, wOr, wChain, wIf, tB, tAnd, tOr, tNot, wTup, wLst, wDct0, wFld, wCall, wMt, wIsi, wI0, rd, esc, escT, setV, retV, gNm, tyN, isTy, neg,
    wEq_int, wEq_str, wLt_int, wLe_int, wGt_int, wGe_int, wAdd_int, wIx_eH0, wIx_eH1, wIx_tup, List.getElem?_cons_zero, List.getElem?_cons_succ, List.set_cons_zero, List.set_cons_succ, List.map_cons, List.map_nil, List.cons_append, List.nil_append, List.length_cons, List.length_nil, List.replicate_zero, List.replicate_succ, Nat.reduceAdd, Nat.reduceSub, Nat.sub_self, Nat.zero_add,
    Option.some.injEq, U.d.injEq, D.bl.injEq, D.int.injEq, D.ref.injEq, D.tup.injEq, D.str.injEq, Cell.mk.injEq, Ob.ins.injEq, Ob.lst.injEq, Ob.dct.injEq, List.cons.injEq, own_d, exists_eq_left, exists_eq_left', exists_and_left, exists_and_right, exists_eq, exists_eq', exists_const, true_and, and_true, and_self, and_assoc, if_true, if_false, Bool.false_eq_true, reduceCtorEq, false_and, and_false, exists_false, false_or, or_false, Bool.not_true, Bool.not_false, decide_true, decide_false, Bool.true_and, Bool.and_true, Bool.false_and, Bool.or_false, Bool.false_or,
    lkH_number, lkH_many, lkH_own, lkH_units, lkH_units_met, lkH_counts, lkH_untold, lkH_asks, lkH_asked, lkH_done, lkH_drops, lkH_calls, lkH_watched, lkH_dead, lkH_told, lkT_number, lkT_stand, lkT_made, lkT_own, lkT_lent, e, h1, in_dct h4, keyIn_xSetI, dget_xSetI, Option.isSome_map]
    cases ed : (aget h.dead to).isSome with
    | true =>
      simp only [ed, if_true] at k
      simpa only [bodyW, sSeq, sExpr, sRet, sRetN, sNil, sIf, sSet, sAsg, sPar, sFld, sIx, wFn, wMeth, wMake, wCons, wNil, uCons, uNil, wC, wVar, wBin, wUn, wNot, wAnd, wOr, wChain, wIf, tB, tAnd, tOr, tNot, wTup, wLst, wDct0, wFld, wCall, wMt, wIsi, wI0, rd, esc, escT, setV, retV, gNm, tyN, isTy, neg,
    wEq_int, wEq_str, wLt_int, wLe_int, wGt_int, wGe_int, wAdd_int, wIx_eH0, wIx_eH1, wIx_tup, List.getElem?_cons_zero, List.getElem?_cons_succ, List.set_cons_zero, List.set_cons_succ, List.map_cons, List.map_nil, List.cons_append, List.nil_append, List.length_cons, List.length_nil, List.replicate_zero, List.replicate_succ, Nat.reduceAdd, Nat.reduceSub, Nat.sub_self, Nat.zero_add,
    Option.some.injEq, U.d.injEq, D.bl.injEq, D.int.injEq, D.ref.injEq, D.tup.injEq, D.str.injEq, Cell.mk.injEq, Ob.ins.injEq, Ob.lst.injEq, Ob.dct.injEq, List.cons.injEq, own_d, exists_eq_left, exists_eq_left', exists_and_left, exists_and_right, exists_eq, exists_eq', exists_const, true_and, and_true, and_self, and_assoc, if_true, if_false, Bool.false_eq_true, reduceCtorEq, false_and, and_false, exists_false, false_or, or_false, Bool.not_true, Bool.not_false, decide_true, decide_false, Bool.true_and, Bool.and_true, Bool.false_and, Bool.or_false, Bool.false_or,
    lkH_number, lkH_many, lkH_own, lkH_units, lkH_units_met, lkH_counts, lkH_untold, lkH_asks, lkH_asked, lkH_done, lkH_drops, lkH_calls, lkH_watched, lkH_dead, lkH_told, lkT_number, lkT_stand, lkT_made, lkT_own, lkT_lent, ed] using k _ r (Frm.refl i A)
    | false =>
      simp only [ed, Bool.false_eq_true, if_false] at k
      generalize hn : (aget h.counts to).getD 0 + 1 = n at k
      have r1 : HR c i l { h with counts := aput h.counts to n } (up A (l .counts) ⟨⟨i, Pt.counts.code⟩, .dct ((aput h.counts to n).map xInt)⟩) :=
        r.set .counts rfl (fun p z n hz => by cases p <;> first | exact hz | exact absurd rfl n) (fun z e => by cases e; rfl)
      have g1 := r1.at .house rfl
      have g2 := r1.at .things rfl
      have g3 := r1.at .counts rfl
      have g4 := r1.at .lent rfl
      have r2 : HR c i l { h with counts := aput h.counts to n, lent := aput h.lent (to, n) t } _ :=
        r1.set .lent (b := .dct ((aput h.lent (to, n) t).map xHI)) rfl (fun p z n hz => by cases p <;> first | exact hz | exact absurd rfl n) (fun z e => by cases e; rfl)
      have q1 := r2.at .house rfl
      have q3 := r2.at .counts rfl
      have q4 := r2.at .untold rfl
      have r3 : HR c i l { h with counts := aput h.counts to n, lent := aput h.lent (to, n) t, untold := aput h.untold (to, n) t } _ :=
        r2.set .untold (b := .dct ((aput h.untold (to, n) t).map xHI)) rfl (fun p z n hz => by cases p <;> first | exact hz | exact absurd rfl n) (fun z e => by cases e; rfl)
      have ea : aget (aput h.counts to n) to = some n := by rw [aget_aput, if_pos rfl]
      have eg : (Option.map ((fun _ v => D.int v) to) (aget h.counts to)).elim (U.d (.int 0)) U.d = U.d (.int ((aget h.counts to).getD 0)) := by cases aget h.counts to <;> rfl
      simp only [bodyW, sSeq, sExpr, sRet, sRetN, sNil, sIf, sSet, sAsg, sPar, sFld, sIx, wFn, wMeth, wMake, wCons, wNil, uCons, uNil, wC, wVar, wBin, wUn, wNot, wAnd, wOr, wChain, wIf, tB, tAnd, tOr, tNot, wTup, wLst, wDct0, wFld, wCall, wMt, wIsi, wI0, rd, esc, escT, setV, retV, gNm, tyN, isTy, neg,
    wEq_int, wEq_str, wLt_int, wLe_int, wGt_int, wGe_int, wAdd_int, wIx_eH0, wIx_eH1, wIx_tup, List.getElem?_cons_zero, List.getElem?_cons_succ, List.set_cons_zero, List.set_cons_succ, List.map_cons, List.map_nil, List.cons_append, List.nil_append, List.length_cons, List.length_nil, List.replicate_zero, List.replicate_succ, Nat.reduceAdd, Nat.reduceSub, Nat.sub_self, Nat.zero_add,
    Option.some.injEq, U.d.injEq, D.bl.injEq, D.int.injEq, D.ref.injEq, D.tup.injEq, D.str.injEq, Cell.mk.injEq, Ob.ins.injEq, Ob.lst.injEq, Ob.dct.injEq, List.cons.injEq, own_d, exists_eq_left, exists_eq_left', exists_and_left, exists_and_right, exists_eq, exists_eq', exists_const, true_and, and_true, and_self, and_assoc, if_true, if_false, Bool.false_eq_true, reduceCtorEq, false_and, and_false, exists_false, false_or, or_false, Bool.not_true, Bool.not_false, decide_true, decide_false, Bool.true_and, Bool.and_true, Bool.false_and, Bool.or_false, Bool.false_or,
    lkH_number, lkH_many, lkH_own, lkH_units, lkH_units_met, lkH_counts, lkH_untold, lkH_asks, lkH_asked, lkH_done, lkH_drops, lkH_calls, lkH_watched, lkH_dead, lkH_told, lkT_number, lkT_stand, lkT_made, lkT_own, lkT_lent, ed, h1, tyU_dct h5, get2_iff h5, keyIn_xInt, dget_xInt, eg, setIx_dct h5, hn]
      refine ⟨by simpa using f.counts, ?_⟩
      rw [show dput (h.counts.map xInt) (.int to) (.int n) = (aput h.counts to n).map xInt from dput_xInt]
      simp only [bodyW, sSeq, sExpr, sRet, sRetN, sNil, sIf, sSet, sAsg, sPar, sFld, sIx, wFn, wMeth, wMake, wCons, wNil, uCons, uNil, wC, wVar, wBin, wUn, wNot, wAnd, wOr, wChain, wIf, tB, tAnd, tOr, tNot, wTup, wLst, wDct0, wFld, wCall, wMt, wIsi, wI0, rd, esc, escT, setV, retV, gNm, tyN, isTy, neg,
    wEq_int, wEq_str, wLt_int, wLe_int, wGt_int, wGe_int, wAdd_int, wIx_eH0, wIx_eH1, wIx_tup, List.getElem?_cons_zero, List.getElem?_cons_succ, List.set_cons_zero, List.set_cons_succ, List.map_cons, List.map_nil, List.cons_append, List.nil_append, List.length_cons, List.length_nil, List.replicate_zero, List.replicate_succ, Nat.reduceAdd, Nat.reduceSub, Nat.sub_self, Nat.zero_add,
    Option.some.injEq, U.d.injEq, D.bl.injEq, D.int.injEq, D.ref.injEq, D.tup.injEq, D.str.injEq, Cell.mk.injEq, Ob.ins.injEq, Ob.lst.injEq, Ob.dct.injEq, List.cons.injEq, own_d, exists_eq_left, exists_eq_left', exists_and_left, exists_and_right, exists_eq, exists_eq', exists_const, true_and, and_true, and_self, and_assoc, if_true, if_false, Bool.false_eq_true, reduceCtorEq, false_and, and_false, exists_false, false_or, or_false, Bool.not_true, Bool.not_false, decide_true, decide_false, Bool.true_and, Bool.and_true, Bool.false_and, Bool.or_false, Bool.false_or,
    lkH_number, lkH_many, lkH_own, lkH_units, lkH_units_met, lkH_counts, lkH_untold, lkH_asks, lkH_asked, lkH_done, lkH_drops, lkH_calls, lkH_watched, lkH_dead, lkH_told, lkT_number, lkT_stand, lkT_made, lkT_own, lkT_lent, g1, g2, ix_dctR g3, keyIn_xInt, dget_xInt, ea, Option.map_some]
      refine ⟨by decide, ?_⟩
      rw [show D.tup [.int to, .int n] = eH (to, n) from rfl]
      simp only [setIx_dct g4, keyIn_xHI, true_and]
      refine ⟨by simpa using f.lent, ?_⟩
      rw [show dput (h.lent.map xHI) (eH (to, n)) (.int t) = (aput h.lent (to, n) t).map xHI from dput_xHI]
      simp only [bodyW, sSeq, sExpr, sRet, sRetN, sNil, sIf, sSet, sAsg, sPar, sFld, sIx, wFn, wMeth, wMake, wCons, wNil, uCons, uNil, wC, wVar, wBin, wUn, wNot, wAnd, wOr, wChain, wIf, tB, tAnd, tOr, tNot, wTup, wLst, wDct0, wFld, wCall, wMt, wIsi, wI0, rd, esc, escT, setV, retV, gNm, tyN, isTy, neg,
    wEq_int, wEq_str, wLt_int, wLe_int, wGt_int, wGe_int, wAdd_int, wIx_eH0, wIx_eH1, wIx_tup, List.getElem?_cons_zero, List.getElem?_cons_succ, List.set_cons_zero, List.set_cons_succ, List.map_cons, List.map_nil, List.cons_append, List.nil_append, List.length_cons, List.length_nil, List.replicate_zero, List.replicate_succ, Nat.reduceAdd, Nat.reduceSub, Nat.sub_self, Nat.zero_add,
    Option.some.injEq, U.d.injEq, D.bl.injEq, D.int.injEq, D.ref.injEq, D.tup.injEq, D.str.injEq, Cell.mk.injEq, Ob.ins.injEq, Ob.lst.injEq, Ob.dct.injEq, List.cons.injEq, own_d, exists_eq_left, exists_eq_left', exists_and_left, exists_and_right, exists_eq, exists_eq', exists_const, true_and, and_true, and_self, and_assoc, if_true, if_false, Bool.false_eq_true, reduceCtorEq, false_and, and_false, exists_false, false_or, or_false, Bool.not_true, Bool.not_false, decide_true, decide_false, Bool.true_and, Bool.and_true, Bool.false_and, Bool.or_false, Bool.false_or,
    lkH_number, lkH_many, lkH_own, lkH_units, lkH_units_met, lkH_counts, lkH_untold, lkH_asks, lkH_asked, lkH_done, lkH_drops, lkH_calls, lkH_watched, lkH_dead, lkH_told, lkT_number, lkT_stand, lkT_made, lkT_own, lkT_lent, q1, ix_dctR q3, keyIn_xInt, dget_xInt, ea, Option.map_some]
      refine ⟨by decide, ?_⟩
      rw [show D.tup [.int to, .int n] = eH (to, n) from rfl]
      simp only [setIx_dct q4, keyIn_xHI, true_and]
      refine ⟨by simpa using f.untold, ?_⟩
      rw [show dput (h.untold.map xHI) (eH (to, n)) (.int t) = (aput h.untold (to, n) t).map xHI from dput_xHI]
      exact k _ r3 ((Frm.upd h5 rfl).trans ((Frm.upd g4 rfl).trans (Frm.upd q4 rfl)))
/-- a thing is worth something else -/
def Hv.setWorth (h : Hv) (t w : Int) : Hv := { h with stand := h.stand.map fun p => if p.1 = t then (p.1, { p.2 with worth := w }) else p }
theorem aget_worth {m : List (Int × Th)} {t w k : Int} : aget (m.map fun p => if p.1 = t then (p.1, { p.2 with worth := w }) else p) k = (aget m k).map fun x => if k = t then { x with worth := w } else x := by
  unfold aget
  rw [List.find?_map]
  have : ((fun p : Int × Th => decide (p.1 = k)) ∘ fun p : Int × Th => if p.1 = t then (p.1, { p.2 with worth := w }) else p) = fun p => decide (p.1 = k) := by
    funext p
    simp only [Function.comp]
    split <;> rfl
  rw [this]
  cases e : m.find? fun p => decide (p.1 = k) with
  | none => rfl
  | some p =>
    have hp : p.1 = k := by simpa using List.find?_some e
    by_cases hk : k = t
    · simp [hp, hk]
    · simp [hp, hk]
theorem HR.worth {t w : Int} {x : Th} (r : HR c i l h A) (e : aget h.stand t = some x) : HR c i l (h.setWorth t w) (up A (l (.thing t)) ⟨⟨i, (Pt.thing t).code⟩, .ins c.Thing (kTh.zip [.int w, .ref (l (.links t))])⟩) := by
  refine r.set (.thing t) (b0 := .ins c.Thing (kTh.zip [.int x.worth, .ref (l (.links t))])) (by simp [M, e]) (fun p z n hz => ?_) fun z hz => ?_
  · cases p with
    | stand =>
      have : some (Ob.dct ((h.setWorth t w).stand.map (xStand l))) = some z := hz
      rw [← this]
      show some (Ob.dct _) = some (Ob.dct _)
      congr 2
      unfold Hv.setWorth
      rw [List.map_map]
      refine (List.map_congr_left fun p _ => ?_).symm
      simp only [Function.comp]
      split <;> rfl
    | thing k =>
      have hk : ¬ k = t := fun z => n (by rw [z])
      have : (aget (h.setWorth t w).stand k).map (fun t => Ob.ins c.Thing (kTh.zip [.int t.worth, .ref (l (.links k))])) = some z := hz
      unfold Hv.setWorth at this
      rw [aget_worth] at this
      simp only [hk, if_false, Option.map_map] at this
      exact this
    | links k =>
      have : (aget (h.setWorth t w).stand k).map (fun t => Ob.dct (t.links.map (xLinks l k))) = some z := hz
      unfold Hv.setWorth at this
      rw [aget_worth, Option.map_map] at this
      rw [← this]
      show Option.map _ _ = _
      congr 1
      funext x
      simp only [Function.comp]
      split <;> rfl
    | link k q =>
      have : ((aget (h.setWorth t w).stand k).bind fun t => aget t.links q).map (fun us => Ob.lst (us.map D.int)) = some z := hz
      unfold Hv.setWorth at this
      rw [aget_worth] at this
      rw [← this]
      show Option.map _ _ = _
      congr 1
      cases aget h.stand k with
      | none => rfl
      | some x =>
        simp only [Option.bind_some, Option.map_some]
        split <;> rfl
    | _ => exact hz
  · have : (aget (h.setWorth t w).stand t).map (fun x => Ob.ins c.Thing (kTh.zip [.int x.worth, .ref (l (.links t))])) = some z := hz
    unfold Hv.setWorth at this
    rw [aget_worth, e] at this
    simp at this
    exact this.symm
theorem putTh_worth {a b : D} {w : D} : putD "worth" w (kTh.zip [a, b]) = kTh.zip [w, b] := (putD_fs (n := 0) (by decide +kernel) rfl).trans rfl
def Hv.worth (h : Hv) (t n : Int) : Int := (((aget h.stand t).map (·.worth)).getD 0 + n) % 1000
theorem add_ok {t n : Int} (r : HR c i l h A) (ht : (aget h.stand t).isSome) (k : ∀ A', HR c i l (h.setWorth t (h.worth t n)) A' → Frm i A A' → K (.d (.int (h.worth t n))) A') : p_House_add c [.ref (l .house), .int t, .int n] A K := by
  obtain ⟨x, ex⟩ := Option.isSome_iff_exists.mp ht
  have h1 := r.at .house rfl
  have h2 := r.at .things rfl
  have h3 := r.at .stand rfl
  have h4 := r.at (.thing t) (b := .ins c.Thing (kTh.zip [.int x.worth, .ref (l (.links t))])) (by simp [M, ex])
  have r1 := r.worth (w := h.worth t n) ex
  have h5 : up A (l (.thing t)) ⟨⟨i, (Pt.thing t).code⟩, .ins c.Thing (kTh.zip [.int (h.worth t n), .ref (l (.links t))])⟩ (l (.thing t)) = some _ := up_same
  have ew : (x.worth + n) % 1000 = h.worth t n := by simp [Hv.worth, ex]
  simp only [bodyW, sSeq, sExpr, sRet, sRetN, sNil, sIf, sSet, sAsg, sPar, sFld, sIx, wFn, wMeth, wMake, wCons, wNil, uCons, uNil, wC, wVar, wBin, wUn, wNot, wAnd, wOr, wChain, wIf, tB, tAnd, tOr, tNot, wTup, wLst, wDct0, wFld, wCall, wMt, wIsi, wI0, rd, esc, escT, setV, retV, gNm, tyN, isTy, neg,
    wEq_int, wEq_str, wLt_int, wLe_int, wGt_int, wGe_int, wAdd_int, wIx_eH0, wIx_eH1, wIx_tup, List.getElem?_cons_zero, List.getElem?_cons_succ, List.set_cons_zero, List.set_cons_succ, List.map_cons, List.map_nil, List.cons_append, List.nil_append, List.length_cons, List.length_nil, List.replicate_zero, List.replicate_succ, Nat.reduceAdd, Nat.reduceSub, Nat.sub_self, Nat.zero_add,
    Option.some.injEq, U.d.injEq, D.bl.injEq, D.int.injEq, D.ref.injEq, D.tup.injEq, D.str.injEq, Cell.mk.injEq, Ob.ins.injEq, Ob.lst.injEq, Ob.dct.injEq, List.cons.injEq, own_d, exists_eq_left, exists_eq_left', exists_and_left, exists_and_right, exists_eq, exists_eq', exists_const, true_and, and_true, and_self, and_assoc, if_true, if_false, Bool.false_eq_true, reduceCtorEq, false_and, and_false, exists_false, false_or, or_false, Bool.not_true, Bool.not_false, decide_true, decide_false, Bool.true_and, Bool.and_true, Bool.false_and, Bool.or_false, Bool.false_or,
    lkH_number, lkH_many, lkH_own, lkH_units, lkH_units_met, lkH_counts, lkH_untold, lkH_asks, lkH_asked, lkH_done, lkH_drops, lkH_calls, lkH_watched, lkH_dead, lkH_told, lkT_number, lkT_stand, lkT_made, lkT_own, lkT_lent, p_House_add, f_House_add, h1, h2, ix_dctR h3, keyIn_xStand, dget_xStand, ex, Option.map_some, h4, lkTh_worth, wI2]
  refine ⟨by decide, by show 2 < 1000; decide, ?_⟩
  rw [putTh_worth, ew]
  simp only [bodyW, sSeq, sExpr, sRet, sRetN, sNil, sIf, sSet, sAsg, sPar, sFld, sIx, wFn, wMeth, wMake, wCons, wNil, uCons, uNil, wC, wVar, wBin, wUn, wNot, wAnd, wOr, wChain, wIf, tB, tAnd, tOr, tNot, wTup, wLst, wDct0, wFld, wCall, wMt, wIsi, wI0, rd, esc, escT, setV, retV, gNm, tyN, isTy, neg,
    wEq_int, wEq_str, wLt_int, wLe_int, wGt_int, wGe_int, wAdd_int, wIx_eH0, wIx_eH1, wIx_tup, List.getElem?_cons_zero, List.getElem?_cons_succ, List.set_cons_zero, List.set_cons_succ, List.map_cons, List.map_nil, List.cons_append, List.nil_append, List.length_cons, List.length_nil, List.replicate_zero, List.replicate_succ, Nat.reduceAdd, Nat.reduceSub, Nat.sub_self, Nat.zero_add,
    Option.some.injEq, U.d.injEq, D.bl.injEq, D.int.injEq, D.ref.injEq, D.tup.injEq, D.str.injEq, Cell.mk.injEq, Ob.ins.injEq, Ob.lst.injEq, Ob.dct.injEq, List.cons.injEq, own_d, exists_eq_left, exists_eq_left', exists_and_left, exists_and_right, exists_eq, exists_eq', exists_const, true_and, and_true, and_self, and_assoc, if_true, if_false, Bool.false_eq_true, reduceCtorEq, false_and, and_false, exists_false, false_or, or_false, Bool.not_true, Bool.not_false, decide_true, decide_false, Bool.true_and, Bool.and_true, Bool.false_and, Bool.or_false, Bool.false_or,
    lkH_number, lkH_many, lkH_own, lkH_units, lkH_units_met, lkH_counts, lkH_untold, lkH_asks, lkH_asked, lkH_done, lkH_drops, lkH_calls, lkH_watched, lkH_dead, lkH_told, lkT_number, lkT_stand, lkT_made, lkT_own, lkT_lent, h5, lkTh_worth]
  exact k _ r1 (Frm.upd h4 rfl)
end
end Dn

namespace Dn
open PySem L2 PyProof.Rows PySem.W
/-! ### objects that are made -/
structure Bld (A0 : Ah) (a : Addr) (tg : Tag) (C : Addr) (ks : List Str) (vs : List D) (L : List (Addr × Cell)) (A : Ah) : Prop where
  at_ : A a = some ⟨tg, .ins C (ks.zip vs)⟩
  len : vs.length = ks.length
  ls : ∀ p ∈ L, A p.1 = some p.2 ∧ p.1 ≠ a
  ext : ∀ x y, A0 x = some y → A x = some y
  fresh : A0 a = none
section
variable {A0 A : Ah} {a b : Addr} {tg : Tag} {C : Addr} {ks : List Str} {vs : List D} {L : List (Addr × Cell)} {f : Str} {v : D} {cell : Cell}
theorem Bld.start (h : A0 a = none) : Bld A0 a tg C [] [] [] (up A0 a ⟨tg, .ins C []⟩) := ⟨by rw [up_same]; rfl, rfl, fun p hp => by simp at hp, Ext.new h, h⟩
theorem Bld.val (B : Bld A0 a tg C ks vs L A) (hf : ks.findIdx? (fun k => f == k) = none) : Bld A0 a tg C (ks ++ [f]) (vs ++ [v]) L (up A a ⟨tg, .ins C (putD f v (ks.zip vs))⟩) := by
  refine ⟨by rw [up_same, putD_new hf B.len], by simp [B.len], fun p hp => ⟨by rw [up_ne (B.ls p hp).2]; exact (B.ls p hp).1, (B.ls p hp).2⟩, fun x y h => ?_, B.fresh⟩
  rw [up_ne fun e => (by rw [e, B.fresh] at h; cases h)]
  exact B.ext x y h
theorem Bld.new (B : Bld A0 a tg C ks vs L A) (hb : A b = none) : Bld A0 a tg C ks vs ((b, cell) :: L) (up A b cell) := by
  have nb : ∀ {x y}, A x = some y → x ≠ b := fun h e => by rw [e, hb] at h; cases h
  refine ⟨by rw [up_ne (nb B.at_)]; exact B.at_, B.len, fun p hp => ?_, fun x y h => by rw [up_ne (nb (B.ext x y h))]; exact B.ext x y h, B.fresh⟩
  rcases List.mem_cons.mp hp with e | hp
  · subst e
    exact ⟨up_same, fun e => nb B.at_ e.symm⟩
  · exact ⟨by rw [up_ne (nb (B.ls p hp).1)]; exact (B.ls p hp).1, (B.ls p hp).2⟩
theorem Bld.over {A' : Ah} (B : Bld A0 a tg C ks vs L A) (e : Ext A A') : Bld A0 a tg C ks vs L A' := ⟨e _ _ B.at_, B.len, fun p hp => ⟨e _ _ (B.ls p hp).1, (B.ls p hp).2⟩, fun x y h => e _ _ (B.ext x y h), B.fresh⟩
theorem Bld.more (B : Bld A0 a tg C ks vs L A) {p : Addr × Cell} (h : A p.1 = some p.2) (n : p.1 ≠ a) : Bld A0 a tg C ks vs (p :: L) A := ⟨B.at_, B.len, fun q hq => by
  rcases List.mem_cons.mp hq with e | hq
  · subst e; exact ⟨h, n⟩
  · exact B.ls q hq, B.ext, B.fresh⟩
end
section
variable {c : Cs} {i : Nat} {A : Ah} {K : U → Ah → Prop} {a : Addr} {tg : Tag}
/-- o.f = v in an __init__ -/
theorem fld_val {A0 : Ah} {C : Addr} {ks : List Str} {vs : List D} {L : List (Addr × Cell)} {f : Str} {v : D} {ρ : Rho} {nx : KS} (B : Bld A0 a tg C ks vs L A) (hf : ks.findIdx? (fun k => f == k) = none) (hk : ks.length < 1000)
    (k : ∀ A', Bld A0 a tg C (ks ++ [f]) (vs ++ [v]) L A' → nx ρ A') : ∃ x x_1, A a = some ⟨x, .ins C x_1⟩ ∧ x_1.length < 1000 ∧ nx ρ (up A a ⟨x, .ins C (putD f v x_1)⟩) :=
  ⟨_, _, B.at_, by rw [List.length_zip, B.len, Nat.min_self]; exact hk, k _ (B.val hf)⟩
theorem thing_init_ok {w : Int} {k0 : Int} (hA : A a = none)
    (k : ∀ A' b, A' a = some ⟨tg, .ins c.Thing (kTh.zip [.int w, .ref b])⟩ → A' b = some ⟨⟨i, (Pt.links k0).code⟩, .dct []⟩ → Ext A A' → K (.d .non) A') : p_Thing_init c [.ref a, .int w] (up A a ⟨tg, .ins c.Thing []⟩) K := by
  have B0 : Bld A a tg c.Thing [] [] [] (up A a ⟨tg, .ins c.Thing []⟩) := Bld.start hA
  simp only [bodyW, sSeq, sExpr, sRet, sRetN, sNil, sIf, sSet, sAsg, sPar, sFld, sIx, wFn, wMeth, wMake, wCons, wNil, uCons, uNil, wC, wVar, wBin, wUn, wNot, wAnd, wOr, wChain, wIf, tB, tAnd, tOr, tNot, wTup, wLst, wDct0, wFld, wCall, wMt, wIsi, wI0, rd, esc, escT, setV, retV, gNm, tyN, isTy, neg,
    wEq_int, wEq_str, wLt_int, wLe_int, wGt_int, wGe_int, wAdd_int, wIx_eH0, wIx_eH1, wIx_tup, List.getElem?_cons_zero, List.getElem?_cons_succ, List.set_cons_zero, List.set_cons_succ, List.map_cons, List.map_nil, List.cons_append, List.nil_append, List.length_cons, List.length_nil, List.replicate_zero, List.replicate_succ, Nat.reduceAdd, Nat.reduceSub, Nat.sub_self, Nat.zero_add,
    Option.some.injEq, U.d.injEq, D.bl.injEq, D.int.injEq, D.ref.injEq, D.tup.injEq, D.str.injEq, Cell.mk.injEq, Ob.ins.injEq, Ob.lst.injEq, Ob.dct.injEq, List.cons.injEq, own_d, exists_eq_left, exists_eq_left', exists_and_left, exists_and_right, exists_eq, exists_eq', exists_const, true_and, and_true, and_self, and_assoc, if_true, if_false, Bool.false_eq_true, reduceCtorEq, false_and, and_false, exists_false, false_or, or_false, Bool.not_true, Bool.not_false, decide_true, decide_false, Bool.true_and, Bool.and_true, Bool.false_and, Bool.or_false, Bool.false_or,
    lkH_number, lkH_many, lkH_own, lkH_units, lkH_units_met, lkH_counts, lkH_untold, lkH_asks, lkH_asked, lkH_done, lkH_drops, lkH_calls, lkH_watched, lkH_dead, lkH_told, lkT_number, lkT_stand, lkT_made, lkT_own, lkT_lent, p_Thing_init, f_Thing_init]
  refine ⟨_, _, B0.at_, by rw [List.length_zip, B0.len, Nat.min_self]; decide, ?_⟩
  have B1 := B0.val (f := "worth") (v := (.int w)) (by decide +kernel)
  generalize up _ a ⟨tg, Ob.ins _ (putD "worth" _ _)⟩ = A1 at B1 ⊢
  refine ⟨_, rfl, ⟨i, (Pt.links k0).code⟩, fun b hb => ?_⟩
  have B2 := B1.new (cell := ⟨⟨i, (Pt.links k0).code⟩, .dct []⟩) hb
  try simp only [bodyW, sSeq, sExpr, sRet, sRetN, sNil, sIf, sSet, sAsg, sPar, sFld, sIx, wFn, wMeth, wMake, wCons, wNil, uCons, uNil, wC, wVar, wBin, wUn, wNot, wAnd, wOr, wChain, wIf, tB, tAnd, tOr, tNot, wTup, wLst, wDct0, wFld, wCall, wMt, wIsi, wI0, rd, esc, escT, setV, retV, gNm, tyN, isTy, neg,
    wEq_int, wEq_str, wLt_int, wLe_int, wGt_int, wGe_int, wAdd_int, wIx_eH0, wIx_eH1, wIx_tup, List.getElem?_cons_zero, List.getElem?_cons_succ, List.set_cons_zero, List.set_cons_succ, List.map_cons, List.map_nil, List.cons_append, List.nil_append, List.length_cons, List.length_nil, List.replicate_zero, List.replicate_succ, Nat.reduceAdd, Nat.reduceSub, Nat.sub_self, Nat.zero_add,
    Option.some.injEq, U.d.injEq, D.bl.injEq, D.int.injEq, D.ref.injEq, D.tup.injEq, D.str.injEq, Cell.mk.injEq, Ob.ins.injEq, Ob.lst.injEq, Ob.dct.injEq, List.cons.injEq, own_d, exists_eq_left, exists_eq_left', exists_and_left, exists_and_right, exists_eq, exists_eq', exists_const, true_and, and_true, and_self, and_assoc, if_true, if_false, Bool.false_eq_true, reduceCtorEq, false_and, and_false, exists_false, false_or, or_false, Bool.not_true, Bool.not_false, decide_true, decide_false, Bool.true_and, Bool.and_true, Bool.false_and, Bool.or_false, Bool.false_or,
    lkH_number, lkH_many, lkH_own, lkH_units, lkH_units_met, lkH_counts, lkH_untold, lkH_asks, lkH_asked, lkH_done, lkH_drops, lkH_calls, lkH_watched, lkH_dead, lkH_told, lkT_number, lkT_stand, lkT_made, lkT_own, lkT_lent]
  refine ⟨_, _, B2.at_, by rw [List.length_zip, B2.len, Nat.min_self]; decide, ?_⟩
  have B3 := B2.val (f := "links") (v := (.ref b)) (by decide +kernel)
  generalize up _ a ⟨tg, Ob.ins _ (putD "links" _ _)⟩ = A2 at B3 ⊢
  exact k A2 b B3.at_ (B3.ls _ List.mem_cons_self).1 B3.ext
theorem things_init_ok {n : Int} (hA : A a = none)
    (k : ∀ A' s o e, A' a = some ⟨tg, .ins c.Things (kT.zip [.int n, .ref s, .int 0, .ref o, .ref e])⟩ → A' s = some ⟨⟨i, Pt.stand.code⟩, .dct []⟩ → A' o = some ⟨⟨i, Pt.own.code⟩, .dct []⟩ → A' e = some ⟨⟨i, Pt.lent.code⟩, .dct []⟩ → Ext A A' → K (.d .non) A') : p_Things_init c [.ref a, .int n] (up A a ⟨tg, .ins c.Things []⟩) K := by
  have B0 : Bld A a tg c.Things [] [] [] (up A a ⟨tg, .ins c.Things []⟩) := Bld.start hA
  simp only [bodyW, sSeq, sExpr, sRet, sRetN, sNil, sIf, sSet, sAsg, sPar, sFld, sIx, wFn, wMeth, wMake, wCons, wNil, uCons, uNil, wC, wVar, wBin, wUn, wNot, wAnd, wOr, wChain, wIf, tB, tAnd, tOr, tNot, wTup, wLst, wDct0, wFld, wCall, wMt, wIsi, wI0, rd, esc, escT, setV, retV, gNm, tyN, isTy, neg,
    wEq_int, wEq_str, wLt_int, wLe_int, wGt_int, wGe_int, wAdd_int, wIx_eH0, wIx_eH1, wIx_tup, List.getElem?_cons_zero, List.getElem?_cons_succ, List.set_cons_zero, List.set_cons_succ, List.map_cons, List.map_nil, List.cons_append, List.nil_append, List.length_cons, List.length_nil, List.replicate_zero, List.replicate_succ, Nat.reduceAdd, Nat.reduceSub, Nat.sub_self, Nat.zero_add,
    Option.some.injEq, U.d.injEq, D.bl.injEq, D.int.injEq, D.ref.injEq, D.tup.injEq, D.str.injEq, Cell.mk.injEq, Ob.ins.injEq, Ob.lst.injEq, Ob.dct.injEq, List.cons.injEq, own_d, exists_eq_left, exists_eq_left', exists_and_left, exists_and_right, exists_eq, exists_eq', exists_const, true_and, and_true, and_self, and_assoc, if_true, if_false, Bool.false_eq_true, reduceCtorEq, false_and, and_false, exists_false, false_or, or_false, Bool.not_true, Bool.not_false, decide_true, decide_false, Bool.true_and, Bool.and_true, Bool.false_and, Bool.or_false, Bool.false_or,
    lkH_number, lkH_many, lkH_own, lkH_units, lkH_units_met, lkH_counts, lkH_untold, lkH_asks, lkH_asked, lkH_done, lkH_drops, lkH_calls, lkH_watched, lkH_dead, lkH_told, lkT_number, lkT_stand, lkT_made, lkT_own, lkT_lent, p_Things_init, f_Things_init]
  refine ⟨_, _, B0.at_, by rw [List.length_zip, B0.len, Nat.min_self]; decide, ?_⟩
  have B1 := B0.val (f := "number") (v := (.int n)) (by decide +kernel)
  generalize up _ a ⟨tg, Ob.ins _ (putD "number" _ _)⟩ = A1 at B1 ⊢
  refine ⟨_, rfl, ⟨i, Pt.stand.code⟩, fun s hs => ?_⟩
  have B2 := B1.new (cell := ⟨⟨i, Pt.stand.code⟩, .dct []⟩) hs
  try simp only [bodyW, sSeq, sExpr, sRet, sRetN, sNil, sIf, sSet, sAsg, sPar, sFld, sIx, wFn, wMeth, wMake, wCons, wNil, uCons, uNil, wC, wVar, wBin, wUn, wNot, wAnd, wOr, wChain, wIf, tB, tAnd, tOr, tNot, wTup, wLst, wDct0, wFld, wCall, wMt, wIsi, wI0, rd, esc, escT, setV, retV, gNm, tyN, isTy, neg,
    wEq_int, wEq_str, wLt_int, wLe_int, wGt_int, wGe_int, wAdd_int, wIx_eH0, wIx_eH1, wIx_tup, List.getElem?_cons_zero, List.getElem?_cons_succ, List.set_cons_zero, List.set_cons_succ, List.map_cons, List.map_nil, List.cons_append, List.nil_append, List.length_cons, List.length_nil, List.replicate_zero, List.replicate_succ, Nat.reduceAdd, Nat.reduceSub, Nat.sub_self, Nat.zero_add,
    Option.some.injEq, U.d.injEq, D.bl.injEq, D.int.injEq, D.ref.injEq, D.tup.injEq, D.str.injEq, Cell.mk.injEq, Ob.ins.injEq, Ob.lst.injEq, Ob.dct.injEq, List.cons.injEq, own_d, exists_eq_left, exists_eq_left', exists_and_left, exists_and_right, exists_eq, exists_eq', exists_const, true_and, and_true, and_self, and_assoc, if_true, if_false, Bool.false_eq_true, reduceCtorEq, false_and, and_false, exists_false, false_or, or_false, Bool.not_true, Bool.not_false, decide_true, decide_false, Bool.true_and, Bool.and_true, Bool.false_and, Bool.or_false, Bool.false_or,
    lkH_number, lkH_many, lkH_own, lkH_units, lkH_units_met, lkH_counts, lkH_untold, lkH_asks, lkH_asked, lkH_done, lkH_drops, lkH_calls, lkH_watched, lkH_dead, lkH_told, lkT_number, lkT_stand, lkT_made, lkT_own, lkT_lent]
  refine ⟨_, _, B2.at_, by rw [List.length_zip, B2.len, Nat.min_self]; decide, ?_⟩
  have B3 := B2.val (f := "stand") (v := (.ref s)) (by decide +kernel)
  generalize up _ a ⟨tg, Ob.ins _ (putD "stand" _ _)⟩ = A2 at B3 ⊢
  refine ⟨_, _, B3.at_, by rw [List.length_zip, B3.len, Nat.min_self]; decide, ?_⟩
  have B4 := B3.val (f := "made") (v := (.int 0)) (by decide +kernel)
  generalize up _ a ⟨tg, Ob.ins _ (putD "made" _ _)⟩ = A3 at B4 ⊢
  refine ⟨_, rfl, ⟨i, Pt.own.code⟩, fun o ho => ?_⟩
  have B5 := B4.new (cell := ⟨⟨i, Pt.own.code⟩, .dct []⟩) ho
  try simp only [bodyW, sSeq, sExpr, sRet, sRetN, sNil, sIf, sSet, sAsg, sPar, sFld, sIx, wFn, wMeth, wMake, wCons, wNil, uCons, uNil, wC, wVar, wBin, wUn, wNot, wAnd, wOr, wChain, wIf, tB, tAnd, tOr, tNot, wTup, wLst, wDct0, wFld, wCall, wMt, wIsi, wI0, rd, esc, escT, setV, retV, gNm, tyN, isTy, neg,
    wEq_int, wEq_str, wLt_int, wLe_int, wGt_int, wGe_int, wAdd_int, wIx_eH0, wIx_eH1, wIx_tup, List.getElem?_cons_zero, List.getElem?_cons_succ, List.set_cons_zero, List.set_cons_succ, List.map_cons, List.map_nil, List.cons_append, List.nil_append, List.length_cons, List.length_nil, List.replicate_zero, List.replicate_succ, Nat.reduceAdd, Nat.reduceSub, Nat.sub_self, Nat.zero_add,
    Option.some.injEq, U.d.injEq, D.bl.injEq, D.int.injEq, D.ref.injEq, D.tup.injEq, D.str.injEq, Cell.mk.injEq, Ob.ins.injEq, Ob.lst.injEq, Ob.dct.injEq, List.cons.injEq, own_d, exists_eq_left, exists_eq_left', exists_and_left, exists_and_right, exists_eq, exists_eq', exists_const, true_and, and_true, and_self, and_assoc, if_true, if_false, Bool.false_eq_true, reduceCtorEq, false_and, and_false, exists_false, false_or, or_false, Bool.not_true, Bool.not_false, decide_true, decide_false, Bool.true_and, Bool.and_true, Bool.false_and, Bool.or_false, Bool.false_or,
    lkH_number, lkH_many, lkH_own, lkH_units, lkH_units_met, lkH_counts, lkH_untold, lkH_asks, lkH_asked, lkH_done, lkH_drops, lkH_calls, lkH_watched, lkH_dead, lkH_told, lkT_number, lkT_stand, lkT_made, lkT_own, lkT_lent]
  refine ⟨_, _, B5.at_, by rw [List.length_zip, B5.len, Nat.min_self]; decide, ?_⟩
  have B6 := B5.val (f := "own") (v := (.ref o)) (by decide +kernel)
  generalize up _ a ⟨tg, Ob.ins _ (putD "own" _ _)⟩ = A4 at B6 ⊢
  refine ⟨_, rfl, ⟨i, Pt.lent.code⟩, fun e he => ?_⟩
  have B7 := B6.new (cell := ⟨⟨i, Pt.lent.code⟩, .dct []⟩) he
  try simp only [bodyW, sSeq, sExpr, sRet, sRetN, sNil, sIf, sSet, sAsg, sPar, sFld, sIx, wFn, wMeth, wMake, wCons, wNil, uCons, uNil, wC, wVar, wBin, wUn, wNot, wAnd, wOr, wChain, wIf, tB, tAnd, tOr, tNot, wTup, wLst, wDct0, wFld, wCall, wMt, wIsi, wI0, rd, esc, escT, setV, retV, gNm, tyN, isTy, neg,
    wEq_int, wEq_str, wLt_int, wLe_int, wGt_int, wGe_int, wAdd_int, wIx_eH0, wIx_eH1, wIx_tup, List.getElem?_cons_zero, List.getElem?_cons_succ, List.set_cons_zero, List.set_cons_succ, List.map_cons, List.map_nil, List.cons_append, List.nil_append, List.length_cons, List.length_nil, List.replicate_zero, List.replicate_succ, Nat.reduceAdd, Nat.reduceSub, Nat.sub_self, Nat.zero_add,
    Option.some.injEq, U.d.injEq, D.bl.injEq, D.int.injEq, D.ref.injEq, D.tup.injEq, D.str.injEq, Cell.mk.injEq, Ob.ins.injEq, Ob.lst.injEq, Ob.dct.injEq, List.cons.injEq, own_d, exists_eq_left, exists_eq_left', exists_and_left, exists_and_right, exists_eq, exists_eq', exists_const, true_and, and_true, and_self, and_assoc, if_true, if_false, Bool.false_eq_true, reduceCtorEq, false_and, and_false, exists_false, false_or, or_false, Bool.not_true, Bool.not_false, decide_true, decide_false, Bool.true_and, Bool.and_true, Bool.false_and, Bool.or_false, Bool.false_or,
    lkH_number, lkH_many, lkH_own, lkH_units, lkH_units_met, lkH_counts, lkH_untold, lkH_asks, lkH_asked, lkH_done, lkH_drops, lkH_calls, lkH_watched, lkH_dead, lkH_told, lkT_number, lkT_stand, lkT_made, lkT_own, lkT_lent]
  refine ⟨_, _, B7.at_, by rw [List.length_zip, B7.len, Nat.min_self]; decide, ?_⟩
  have B8 := B7.val (f := "lent") (v := (.ref e)) (by decide +kernel)
  generalize up _ a ⟨tg, Ob.ins _ (putD "lent" _ _)⟩ = A5 at B8 ⊢
  exact k A5 s o e B8.at_ (B8.ls (s, _) (by simp)).1 (B8.ls (o, _) (by simp)).1 (B8.ls (e, _) (by simp)).1 B8.ext
end
end Dn

namespace Dn
open PySem L2 PyProof.Rows PySem.W
def Hv.new (n m : Int) : Hv := { number := n, many := m, stand := [], made := 0, own := [], lent := [], units := [], met := [], counts := [], untold := [], asks := [], asked := 0, done := [], drops := [], calls := [], watched := [], dead := [], told := [] }
section
variable {c : Cs} {i : Nat} {A A0 : Ah} {K : U → Ah → Prop} {a C : Addr} {tg : Tag} {ks : List Str} {vs : List D} {L : List (Addr × Cell)} {f : Str} {v : D} {ρ : Rho} {d : WD} {te : WE}
theorem ini_val (B : Bld A0 a tg C ks vs L A) (hte : ∀ k : K1, k (.d v) ρ A → te ρ A k) (hρ : ρ[0]? = some (some (.d (.ref a)))) (hf : ks.findIdx? (fun k => f == k) = none) (hk : ks.length < 1000)
    (k : ∀ A', Bld A0 a tg C (ks ++ [f]) (vs ++ [v]) L A' → d.nx ρ A') : sFld C f (wVar 0) te d ρ A :=
  hte _ ⟨_, hρ, a, tg, _, rfl, B.at_, by rw [List.length_zip, B.len, Nat.min_self]; exact hk, k _ (B.val hf)⟩
theorem ini_tmp {u : U} {ob : Ob} (B : Bld A0 a tg C ks vs L A) (hu : u.ob = some ob) (t : Tag) (hte : ∀ k : K1, k u ρ A → te ρ A k) (hρ : ρ[0]? = some (some (.d (.ref a)))) (hf : ks.findIdx? (fun k => f == k) = none) (hk : ks.length < 1000)
    (k : ∀ A' b, Bld A0 a tg C (ks ++ [f]) (vs ++ [.ref b]) ((b, ⟨t, ob⟩) :: L) A' → d.nx ρ A') : sFld C f (wVar 0) te d ρ A := by
  have go : ∀ b, A b = none → ∃ u', ρ[0]? = some (some u') ∧ ∃ a1 t1 fs, rd 0 u' = .d (.ref a1) ∧ up A b ⟨t, ob⟩ a1 = some ⟨t1, .ins C fs⟩ ∧ fs.length < 1000 ∧ d.nx ρ (up (up A b ⟨t, ob⟩) a1 ⟨t1, .ins C (putD f (.ref b) fs)⟩) := fun b hb => by
    have B1 := B.new (cell := ⟨t, ob⟩) hb
    exact ⟨_, hρ, a, tg, _, rfl, B1.at_, by rw [List.length_zip, B1.len, Nat.min_self]; exact hk, k _ b (B1.val hf)⟩
  refine hte _ ?_
  cases u with
  | lst xs => exact ⟨ob, hu, t, go⟩
  | dct xs => exact ⟨ob, hu, t, go⟩
  | d x => cases hu
  | loc j => cases hu
theorem ini_dct (B : Bld A0 a tg C ks vs L A) (t : Tag) (hρ : ρ[0]? = some (some (.d (.ref a)))) (hf : ks.findIdx? (fun k => f == k) = none) (hk : ks.length < 1000)
    (k : ∀ A' b, Bld A0 a tg C (ks ++ [f]) (vs ++ [.ref b]) ((b, ⟨t, .dct []⟩) :: L) A' → d.nx ρ A') : sFld C f (wVar 0) wDct0 d ρ A := ini_tmp (u := .dct []) B rfl t (fun _ h => h) hρ hf hk k
theorem ini_lst (B : Bld A0 a tg C ks vs L A) (t : Tag) (hρ : ρ[0]? = some (some (.d (.ref a)))) (hf : ks.findIdx? (fun k => f == k) = none) (hk : ks.length < 1000)
    (k : ∀ A' b, Bld A0 a tg C (ks ++ [f]) (vs ++ [.ref b]) ((b, ⟨t, .lst []⟩) :: L) A' → d.nx ρ A') : sFld C f (wVar 0) (wLst wNil) d ρ A := ini_tmp (u := .lst []) B rfl t (fun _ h => ⟨Nat.zero_le _, h⟩) hρ hf hk k
theorem sq_val {u : WS} (B : Bld A0 a tg C ks vs L A) (hte : ∀ k : K1, k (.d v) ρ A → te ρ A k) (hρ : ρ[0]? = some (some (.d (.ref a)))) (hf : ks.findIdx? (fun k => f == k) = none) (hk : ks.length < 1000)
    (k : ∀ A', Bld A0 a tg C (ks ++ [f]) (vs ++ [v]) L A' → u d ρ A') : sSeq (sFld C f (wVar 0) te) u d ρ A := ini_val B hte hρ hf hk k
theorem sq_dct {u : WS} (B : Bld A0 a tg C ks vs L A) (t : Tag) (hρ : ρ[0]? = some (some (.d (.ref a)))) (hf : ks.findIdx? (fun k => f == k) = none) (hk : ks.length < 1000)
    (k : ∀ A' b, Bld A0 a tg C (ks ++ [f]) (vs ++ [.ref b]) ((b, ⟨t, .dct []⟩) :: L) A' → u d ρ A') : sSeq (sFld C f (wVar 0) wDct0) u d ρ A := ini_dct B t hρ hf hk k
theorem sq_lst {u : WS} (B : Bld A0 a tg C ks vs L A) (t : Tag) (hρ : ρ[0]? = some (some (.d (.ref a)))) (hf : ks.findIdx? (fun k => f == k) = none) (hk : ks.length < 1000)
    (k : ∀ A' b, Bld A0 a tg C (ks ++ [f]) (vs ++ [.ref b]) ((b, ⟨t, .lst []⟩) :: L) A' → u d ρ A') : sSeq (sFld C f (wVar 0) (wLst wNil)) u d ρ A := ini_lst B t hρ hf hk k
theorem fn2 {sp : SpW} {kk : K1} {p q : Nat} {x y : D} (h1 : ρ[p]? = some (some (.d x))) (h2 : ρ[q]? = some (some (.d y))) (k : sp [x, y] A fun u A2 => kk u ρ A2) : wFn sp (wCons (wVar p) (wCons (wVar q) wNil)) ρ A kk := by
  simp only [bodyW, sSeq, sExpr, sRet, sRetN, sNil, sIf, sSet, sAsg, sPar, sFld, sIx, wFn, wMeth, wMake, wCons, wNil, uCons, uNil, wC, wVar, wBin, wUn, wNot, wAnd, wOr, wChain, wIf, tB, tAnd, tOr, tNot, wTup, wLst, wDct0, wFld, wCall, wMt, wIsi, wI0, rd, esc, escT, setV, retV, gNm, tyN, isTy, neg,
    wEq_int, wEq_str, wLt_int, wLe_int, wGt_int, wGe_int, wAdd_int, wIx_eH0, wIx_eH1, wIx_tup, List.getElem?_cons_zero, List.getElem?_cons_succ, List.set_cons_zero, List.set_cons_succ, List.map_cons, List.map_nil, List.cons_append, List.nil_append, List.length_cons, List.length_nil, List.replicate_zero, List.replicate_succ, Nat.reduceAdd, Nat.reduceSub, Nat.sub_self, Nat.zero_add,
    Option.some.injEq, U.d.injEq, D.bl.injEq, D.int.injEq, D.ref.injEq, D.tup.injEq, D.str.injEq, Cell.mk.injEq, Ob.ins.injEq, Ob.lst.injEq, Ob.dct.injEq, List.cons.injEq, own_d, exists_eq_left, exists_eq_left', exists_and_left, exists_and_right, exists_eq, exists_eq', exists_const, true_and, and_true, and_self, and_assoc, if_true, if_false, Bool.false_eq_true, reduceCtorEq, false_and, and_false, exists_false, false_or, or_false, Bool.not_true, Bool.not_false, decide_true, decide_false, Bool.true_and, Bool.and_true, Bool.false_and, Bool.or_false, Bool.false_or,
    lkH_number, lkH_many, lkH_own, lkH_units, lkH_units_met, lkH_counts, lkH_untold, lkH_asks, lkH_asked, lkH_done, lkH_drops, lkH_calls, lkH_watched, lkH_dead, lkH_told, lkT_number, lkT_stand, lkT_made, lkT_own, lkT_lent, h1, h2]
  exact k
theorem make1 {sp : SpW} {kk : K1} {p : Nat} {x : D} (h1 : ρ[p]? = some (some (.d x))) (t : Tag) (k : ∀ b, A b = none → sp [.ref b, x] (up A b ⟨t, .ins C []⟩) fun u A2 => u = .d .non ∧ kk (.d (.ref b)) ρ A2) : wMake C sp (wCons (wVar p) wNil) ρ A kk := by
  simp only [bodyW, sSeq, sExpr, sRet, sRetN, sNil, sIf, sSet, sAsg, sPar, sFld, sIx, wFn, wMeth, wMake, wCons, wNil, uCons, uNil, wC, wVar, wBin, wUn, wNot, wAnd, wOr, wChain, wIf, tB, tAnd, tOr, tNot, wTup, wLst, wDct0, wFld, wCall, wMt, wIsi, wI0, rd, esc, escT, setV, retV, gNm, tyN, isTy, neg,
    wEq_int, wEq_str, wLt_int, wLe_int, wGt_int, wGe_int, wAdd_int, wIx_eH0, wIx_eH1, wIx_tup, List.getElem?_cons_zero, List.getElem?_cons_succ, List.set_cons_zero, List.set_cons_succ, List.map_cons, List.map_nil, List.cons_append, List.nil_append, List.length_cons, List.length_nil, List.replicate_zero, List.replicate_succ, Nat.reduceAdd, Nat.reduceSub, Nat.sub_self, Nat.zero_add,
    Option.some.injEq, U.d.injEq, D.bl.injEq, D.int.injEq, D.ref.injEq, D.tup.injEq, D.str.injEq, Cell.mk.injEq, Ob.ins.injEq, Ob.lst.injEq, Ob.dct.injEq, List.cons.injEq, own_d, exists_eq_left, exists_eq_left', exists_and_left, exists_and_right, exists_eq, exists_eq', exists_const, true_and, and_true, and_self, and_assoc, if_true, if_false, Bool.false_eq_true, reduceCtorEq, false_and, and_false, exists_false, false_or, or_false, Bool.not_true, Bool.not_false, decide_true, decide_false, Bool.true_and, Bool.and_true, Bool.false_and, Bool.or_false, Bool.false_or,
    lkH_number, lkH_many, lkH_own, lkH_units, lkH_units_met, lkH_counts, lkH_untold, lkH_asks, lkH_asked, lkH_done, lkH_drops, lkH_calls, lkH_watched, lkH_dead, lkH_told, lkT_number, lkT_stand, lkT_made, lkT_own, lkT_lent, h1]
  exact ⟨t, k⟩
theorem sq_own {u : WS} {Q : Addr → List (Addr × Cell) → Prop} (hte : ∀ kk : K1, (∀ t AZ L', Bld A0 a tg C ks vs L' AZ → Q t L' → kk (.d (.ref t)) ρ AZ) → te ρ A kk) (hρ : ρ[0]? = some (some (.d (.ref a)))) (hf : ks.findIdx? (fun k => f == k) = none) (hk : ks.length < 1000)
    (k : ∀ t L' A', Q t L' → Bld A0 a tg C (ks ++ [f]) (vs ++ [.ref t]) L' A' → u d ρ A') : sSeq (sFld C f (wVar 0) te) u d ρ A :=
  hte _ fun t AZ L' B q => ⟨_, hρ, a, tg, _, rfl, B.at_, by rw [List.length_zip, B.len, Nat.min_self]; exact hk, k t L' _ q (B.val hf)⟩
theorem house_init_ok {n m : Int} (hA : A a = none) (hn : 2 ≤ m ∧ m ≤ 8 ∧ 0 ≤ n ∧ n < m)
    (k : ∀ A', House c i a (Hv.new n m) A' → Ext A A' → K (.d .non) A') : p_House_init c [.ref a, .int n, .int m] (up A a ⟨⟨i, Pt.house.code⟩, .ins c.House []⟩) K := by
  have B0 : Bld A a ⟨i, Pt.house.code⟩ c.House [] [] [] (up A a ⟨⟨i, Pt.house.code⟩, .ins c.House []⟩) := Bld.start hA
  generalize up A a ⟨⟨i, Pt.house.code⟩, .ins c.House []⟩ = A0 at B0
  refine ⟨rfl, ?_⟩
  show sExpr (wFn (p_need_house c) (wCons (wVar 1) (wCons (wVar 2) wNil))) _ _ _
  refine fn2 (x := .int n) (y := .int m) rfl rfl (need_house_ok hn ?_)
  try dsimp only
  apply sq_val (v := .int n) B0
  · exact fun k h => ⟨_, rfl, h⟩
  · rfl
  · decide +kernel
  · decide
  intro A1 B1
  try dsimp only
  apply sq_val (v := .int m) B1
  · exact fun k h => ⟨_, rfl, h⟩
  · rfl
  · decide +kernel
  · decide
  intro A2 B2
  try dsimp only
  apply sq_own (Q := fun t L' => ∃ s o e, L' = [(e, ⟨⟨i, Pt.lent.code⟩, .dct []⟩), (o, ⟨⟨i, Pt.own.code⟩, .dct []⟩), (s, ⟨⟨i, Pt.stand.code⟩, .dct []⟩), (t, ⟨⟨i, Pt.things.code⟩, .ins c.Things (kT.zip [.int n, .ref s, .int 0, .ref o, .ref e])⟩)]) (ks := ([] : List Str) ++ [("number" : Str)] ++ [("many" : Str)]) (vs := [] ++ [.int n] ++ [.int m]) (tg := ⟨i, Pt.house.code⟩) (A0 := A) (a := a)
  · intro kk hk
    refine make1 (x := .int n) rfl ⟨i, Pt.things.code⟩ fun t ht => things_init_ok (i := i) ht fun AZ s o e gt gs go ge ex => ⟨rfl, ?_⟩
    have Z := B2.over ex
    have nt : t ≠ a := fun q => by rw [q, B2.at_] at ht; cases ht
    have ns : s ≠ a := fun q => by rw [q, Z.at_] at gs; cases gs
    have no : o ≠ a := fun q => by rw [q, Z.at_] at go; cases go
    have ne : e ≠ a := fun q => by rw [q, Z.at_] at ge; cases ge
    exact hk t AZ _ ((((Z.more (p := (t, _)) gt nt).more (p := (s, _)) gs ns).more (p := (o, _)) go no).more (p := (e, _)) ge ne) ⟨s, o, e, rfl⟩
  · rfl
  · decide +kernel
  · decide
  intro t L3 A3 ⟨s, o, e, eL⟩ B3
  subst eL
  try dsimp only
  apply sq_dct B3 ⟨i, Pt.units.code⟩
  · rfl
  · decide +kernel
  · decide
  intro A4 d_units B4
  try dsimp only
  apply sq_dct B4 ⟨i, Pt.met.code⟩
  · rfl
  · decide +kernel
  · decide
  intro A5 d_met B5
  try dsimp only
  apply sq_dct B5 ⟨i, Pt.counts.code⟩
  · rfl
  · decide +kernel
  · decide
  intro A6 d_counts B6
  try dsimp only
  apply sq_dct B6 ⟨i, Pt.untold.code⟩
  · rfl
  · decide +kernel
  · decide
  intro A7 d_untold B7
  try dsimp only
  apply sq_dct B7 ⟨i, Pt.asks.code⟩
  · rfl
  · decide +kernel
  · decide
  intro A8 d_asks B8
  try dsimp only
  apply sq_val (v := .int 0) B8
  · exact fun k h => h
  · rfl
  · decide +kernel
  · decide
  intro A9 B9
  try dsimp only
  apply sq_dct B9 ⟨i, Pt.done.code⟩
  · rfl
  · decide +kernel
  · decide
  intro A10 d_done B10
  try dsimp only
  apply sq_lst B10 ⟨i, Pt.drops.code⟩
  · rfl
  · decide +kernel
  · decide
  intro A11 d_drops B11
  try dsimp only
  apply sq_lst B11 ⟨i, Pt.calls.code⟩
  · rfl
  · decide +kernel
  · decide
  intro A12 d_calls B12
  try dsimp only
  apply sq_dct B12 ⟨i, Pt.watched.code⟩
  · rfl
  · decide +kernel
  · decide
  intro A13 d_watched B13
  try dsimp only
  apply sq_dct B13 ⟨i, Pt.dead.code⟩
  · rfl
  · decide +kernel
  · decide
  intro A14 d_dead B14
  try dsimp only
  apply ini_dct B14 ⟨i, Pt.told.code⟩
  · rfl
  · decide +kernel
  · decide
  intro A15 d_told B15
  refine k A15 ⟨fun p => match p with | .house => a | .things => t | .stand => s | .own => o | .lent => e | .units => d_units | .met => d_met | .counts => d_counts | .untold => d_untold | .asks => d_asks | .done => d_done | .drops => d_drops | .calls => d_calls | .watched => d_watched | .dead => d_dead | .told => d_told | _ => a, rfl, fun p z hz => ?_⟩ B15.ext
  cases p with
  | house => cases hz; exact B15.at_
  | things => cases hz; exact (B15.ls (t, _) (by repeat (first | exact List.mem_cons_self | apply List.mem_cons_of_mem))).1
  | stand => cases hz; exact (B15.ls (s, _) (by repeat (first | exact List.mem_cons_self | apply List.mem_cons_of_mem))).1
  | own => cases hz; exact (B15.ls (o, _) (by repeat (first | exact List.mem_cons_self | apply List.mem_cons_of_mem))).1
  | lent => cases hz; exact (B15.ls (e, _) (by repeat (first | exact List.mem_cons_self | apply List.mem_cons_of_mem))).1
  | units => cases hz; exact (B15.ls (d_units, _) (by repeat (first | exact List.mem_cons_self | apply List.mem_cons_of_mem))).1
  | met => cases hz; exact (B15.ls (d_met, _) (by repeat (first | exact List.mem_cons_self | apply List.mem_cons_of_mem))).1
  | counts => cases hz; exact (B15.ls (d_counts, _) (by repeat (first | exact List.mem_cons_self | apply List.mem_cons_of_mem))).1
  | untold => cases hz; exact (B15.ls (d_untold, _) (by repeat (first | exact List.mem_cons_self | apply List.mem_cons_of_mem))).1
  | asks => cases hz; exact (B15.ls (d_asks, _) (by repeat (first | exact List.mem_cons_self | apply List.mem_cons_of_mem))).1
  | done => cases hz; exact (B15.ls (d_done, _) (by repeat (first | exact List.mem_cons_self | apply List.mem_cons_of_mem))).1
  | drops => cases hz; exact (B15.ls (d_drops, _) (by repeat (first | exact List.mem_cons_self | apply List.mem_cons_of_mem))).1
  | calls => cases hz; exact (B15.ls (d_calls, _) (by repeat (first | exact List.mem_cons_self | apply List.mem_cons_of_mem))).1
  | watched => cases hz; exact (B15.ls (d_watched, _) (by repeat (first | exact List.mem_cons_self | apply List.mem_cons_of_mem))).1
  | dead => cases hz; exact (B15.ls (d_dead, _) (by repeat (first | exact List.mem_cons_self | apply List.mem_cons_of_mem))).1
  | told => cases hz; exact (B15.ls (d_told, _) (by repeat (first | exact List.mem_cons_self | apply List.mem_cons_of_mem))).1
  | _ => cases hz
end
end Dn

namespace Dn
open PySem L2 PyProof.Rows PySem.W
section
variable {c : Cs} {i : Nat} {l l' : Lc} {h h' : Hv} {A : Ah} {K : U → Ah → Prop}
theorem M_thing {k0 : Int} (hl : ∀ p, p ≠ .thing k0 → p ≠ .links k0 → l' p = l p) (hn : aget h.stand k0 = none) (p : Pt) : M c l' h p = M c l h p := by
  cases p with
  | house => simp [M, vH, hl]
  | things => simp [M, vT, hl]
  | stand =>
    simp only [M, Option.some.injEq, Ob.dct.injEq]
    refine List.map_congr_left fun p hp => ?_
    have := aget_none_mem hn p hp
    simp [xStand, hl, this]
  | units =>
    have : xUnits l' = xUnits l := funext fun p => by simp [xUnits, hl]
    simp [M, this]
  | thing k =>
    by_cases e : k = k0
    · subst e; simp [M, hn]
    · simp [M, hl, e]
  | links k =>
    have : xLinks l' k = xLinks l k := funext fun p => by simp [xLinks, hl]
    simp [M, this]
  | _ => rfl
theorem HR.thingAt {k0 : Int} (r : HR c i l h A) (hl : ∀ p, p ≠ .thing k0 → p ≠ .links k0 → l' p = l p) (hn : aget h.stand k0 = none) : HR c i l' h A := fun p b hb => by
  rw [M_thing hl hn] at hb
  have n1 : p ≠ .thing k0 := fun e => by subst e; simp [M, hn] at hb
  have n2 : p ≠ .links k0 := fun e => by subst e; simp [M, hn] at hb
  rw [hl p n1 n2]
  exact r p b hb
theorem HR.thingNew {k0 w : Int} (r : HR c i l h A) (hn : aget h.stand k0 = none) (ha : A (l (.thing k0)) = some ⟨⟨i, (Pt.thing k0).code⟩, .ins c.Thing (kTh.zip [.int w, .ref (l (.links k0))])⟩) (hb : A (l (.links k0)) = some ⟨⟨i, (Pt.links k0).code⟩, .dct []⟩) :
    HR c i l { h with stand := aput h.stand k0 ⟨w, []⟩ } (up A (l .stand) ⟨⟨i, Pt.stand.code⟩, .dct ((aput h.stand k0 ⟨w, []⟩).map (xStand l))⟩) := by
  refine r.set' .stand rfl (fun p z n hz => ?_) (fun z e => by cases e; rfl)
  cases p with
  | stand => exact absurd rfl n
  | thing k =>
    have hz' : (aget (aput h.stand k0 ⟨w, []⟩) k).map (fun t => Ob.ins c.Thing (kTh.zip [.int t.worth, .ref (l (.links k))])) = some z := hz
    rw [aget_aput] at hz'
    by_cases e : k = k0
    · subst e
      simp at hz'
      subst hz'
      exact ha
    · rw [if_neg e] at hz'
      exact r (.thing k) z hz'
  | links k =>
    have hz' : (aget (aput h.stand k0 ⟨w, []⟩) k).map (fun t => Ob.dct (t.links.map (xLinks l k))) = some z := hz
    rw [aget_aput] at hz'
    by_cases e : k = k0
    · subst e
      simp at hz'
      subst hz'
      exact hb
    · rw [if_neg e] at hz'
      exact r (.links k) z hz'
  | link k q =>
    have hz' : ((aget (aput h.stand k0 ⟨w, []⟩) k).bind fun t => aget t.links q).map (fun us => Ob.lst (us.map D.int)) = some z := hz
    rw [aget_aput] at hz'
    by_cases e : k = k0
    · subst e
      simp [aget] at hz'
    · rw [if_neg e] at hz'
      exact r (.link k q) z hz'
  | _ => exact r _ z hz
def Hv.make (h : Hv) (w : Int) : Hv := { h with stand := aput h.stand h.made ⟨w, []⟩, own := aput h.own h.made 1, made := h.made + 1 }
theorem tadd_ok {w : Int} (r : HR c i l h A) (f : h.Fits) (hn : aget h.stand h.made = none) (k : ∀ l' A', l' .house = l .house → HR c i l' (h.make w) A' → Frm i A A' → K (.d (.int h.made)) A') : p_Things_add c [.ref (l .things), .int w] A K := by
  refine ⟨rfl, ?_⟩
  show sSeq (sIx (wFld c.Things "stand" (wVar 0)) (wFld c.Things "made" (wVar 0)) (wMake c.Thing (p_Thing_init c) (wCons (wVar 1) wNil))) _ _ _ _
  show sIx (wFld c.Things "stand" (wVar 0)) (wFld c.Things "made" (wVar 0)) (wMake c.Thing (p_Thing_init c) (wCons (wVar 1) wNil)) _ _ _
  show wMake c.Thing (p_Thing_init c) (wCons (wVar 1) wNil) _ _ _
  refine make1 (x := .int w) rfl ⟨i, (Pt.thing h.made).code⟩ fun a ha => thing_init_ok (i := i) (k0 := h.made) ha fun A1 b ga gb ex => ⟨rfl, ?_⟩
  let l' : Lc := fun p => if p = .thing h.made then a else if p = .links h.made then b else l p
  have hl : ∀ p, p ≠ .thing h.made → p ≠ .links h.made → l' p = l p := fun p n1 n2 => by show (if _ then _ else if _ then _ else _) = _; rw [if_neg n1, if_neg n2]
  have la : l' (.thing h.made) = a := if_pos rfl
  have lb : l' (.links h.made) = b := by show (if _ then _ else if _ then _ else _) = _; rw [if_neg (by simp), if_pos rfl]
  have r0 : HR c i l' h A1 := (r.ext ex).thingAt hl hn
  have r1 := r0.thingNew (w := w) hn (by rw [la, lb]; exact ga) (by rw [lb]; exact gb)
  have g2 : A1 (l .things) = some _ := (r.ext ex).at .things rfl
  have g3 : A1 (l .stand) = some _ := (r.ext ex).at .stand rfl
  have e2 : dput (h.stand.map (xStand l)) (.int h.made) (.ref a) = (aput h.stand h.made ⟨w, []⟩).map (xStand l') := by
    have : h.stand.map (xStand l) = h.stand.map (xStand l') := List.map_congr_left fun p hp => by simp [xStand, hl, aget_none_mem hn p hp]
    rw [this]
    exact dput_map (e := xStand l') (f := D.int) (fun _ => rfl) eI_inj h.stand h.made ⟨w, []⟩ (.ref a) (fun p hp e => absurd e (aget_none_mem hn p hp)) (by simp [xStand, la])
  have hst : l' .stand = l .stand := hl _ nofun nofun
  have hth : l' .things = l .things := hl _ nofun nofun
  have hown : l' .own = l .own := hl _ nofun nofun
  rw [hst] at r1
  have q2 := r1.at .things rfl
  have q3 := r1.at .own rfl
  have r2 := r1.own (v := aput h.own h.made 1)
  have p2 := r2.at .things rfl
  have r3 := HR.set (h' := h.make w) r2 .things rfl (fun p z n hz => by cases p <;> first | exact hz | exact absurd rfl n) (fun z e => by cases e; rfl)
  have s2 := r3.at .things rfl
  rw [hth] at q2 p2 r3 s2
  simp only [bodyW, sSeq, sExpr, sRet, sRetN, sNil, sIf, sSet, sAsg, sPar, sFld, sIx, wFn, wMeth, wMake, wCons, wNil, uCons, uNil, wC, wVar, wBin, wUn, wNot, wAnd, wOr, wChain, wIf, tB, tAnd, tOr, tNot, wTup, wLst, wDct0, wFld, wCall, wMt, wIsi, wI0, rd, esc, escT, setV, retV, gNm, tyN, isTy, neg,
    wEq_int, wEq_str, wLt_int, wLe_int, wGt_int, wGe_int, wAdd_int, wIx_eH0, wIx_eH1, wIx_tup, List.getElem?_cons_zero, List.getElem?_cons_succ, List.set_cons_zero, List.set_cons_succ, List.map_cons, List.map_nil, List.cons_append, List.nil_append, List.length_cons, List.length_nil, List.replicate_zero, List.replicate_succ, Nat.reduceAdd, Nat.reduceSub, Nat.sub_self, Nat.zero_add,
    Option.some.injEq, U.d.injEq, D.bl.injEq, D.int.injEq, D.ref.injEq, D.tup.injEq, D.str.injEq, Cell.mk.injEq, Ob.ins.injEq, Ob.lst.injEq, Ob.dct.injEq, List.cons.injEq, own_d, exists_eq_left, exists_eq_left', exists_and_left, exists_and_right, exists_eq, exists_eq', exists_const, true_and, and_true, and_self, and_assoc, if_true, if_false, Bool.false_eq_true, reduceCtorEq, false_and, and_false, exists_false, false_or, or_false, Bool.not_true, Bool.not_false, decide_true, decide_false, Bool.true_and, Bool.and_true, Bool.false_and, Bool.or_false, Bool.false_or,
    lkH_number, lkH_many, lkH_own, lkH_units, lkH_units_met, lkH_counts, lkH_untold, lkH_asks, lkH_asked, lkH_done, lkH_drops, lkH_calls, lkH_watched, lkH_dead, lkH_told, lkT_number, lkT_stand, lkT_made, lkT_own, lkT_lent, g2, setIx_dct g3, keyIn_xStand, e2]
  refine ⟨by simpa using f.stand, ?_⟩
  simp only [bodyW, sSeq, sExpr, sRet, sRetN, sNil, sIf, sSet, sAsg, sPar, sFld, sIx, wFn, wMeth, wMake, wCons, wNil, uCons, uNil, wC, wVar, wBin, wUn, wNot, wAnd, wOr, wChain, wIf, tB, tAnd, tOr, tNot, wTup, wLst, wDct0, wFld, wCall, wMt, wIsi, wI0, rd, esc, escT, setV, retV, gNm, tyN, isTy, neg,
    wEq_int, wEq_str, wLt_int, wLe_int, wGt_int, wGe_int, wAdd_int, wIx_eH0, wIx_eH1, wIx_tup, List.getElem?_cons_zero, List.getElem?_cons_succ, List.set_cons_zero, List.set_cons_succ, List.map_cons, List.map_nil, List.cons_append, List.nil_append, List.length_cons, List.length_nil, List.replicate_zero, List.replicate_succ, Nat.reduceAdd, Nat.reduceSub, Nat.sub_self, Nat.zero_add,
    Option.some.injEq, U.d.injEq, D.bl.injEq, D.int.injEq, D.ref.injEq, D.tup.injEq, D.str.injEq, Cell.mk.injEq, Ob.ins.injEq, Ob.lst.injEq, Ob.dct.injEq, List.cons.injEq, own_d, exists_eq_left, exists_eq_left', exists_and_left, exists_and_right, exists_eq, exists_eq', exists_const, true_and, and_true, and_self, and_assoc, if_true, if_false, Bool.false_eq_true, reduceCtorEq, false_and, and_false, exists_false, false_or, or_false, Bool.not_true, Bool.not_false, decide_true, decide_false, Bool.true_and, Bool.and_true, Bool.false_and, Bool.or_false, Bool.false_or,
    lkH_number, lkH_many, lkH_own, lkH_units, lkH_units_met, lkH_counts, lkH_untold, lkH_asks, lkH_asked, lkH_done, lkH_drops, lkH_calls, lkH_watched, lkH_dead, lkH_told, lkT_number, lkT_stand, lkT_made, lkT_own, lkT_lent, q2, setIx_dct q3, keyIn_xInt]
  refine ⟨by simpa using f.own, ?_⟩
  rw [show dput (h.own.map xInt) (.int h.made) (.int 1) = (aput h.own h.made 1).map xInt from dput_xInt]
  simp only [bodyW, sSeq, sExpr, sRet, sRetN, sNil, sIf, sSet, sAsg, sPar, sFld, sIx, wFn, wMeth, wMake, wCons, wNil, uCons, uNil, wC, wVar, wBin, wUn, wNot, wAnd, wOr, wChain, wIf, tB, tAnd, tOr, tNot, wTup, wLst, wDct0, wFld, wCall, wMt, wIsi, wI0, rd, esc, escT, setV, retV, gNm, tyN, isTy, neg,
    wEq_int, wEq_str, wLt_int, wLe_int, wGt_int, wGe_int, wAdd_int, wIx_eH0, wIx_eH1, wIx_tup, List.getElem?_cons_zero, List.getElem?_cons_succ, List.set_cons_zero, List.set_cons_succ, List.map_cons, List.map_nil, List.cons_append, List.nil_append, List.length_cons, List.length_nil, List.replicate_zero, List.replicate_succ, Nat.reduceAdd, Nat.reduceSub, Nat.sub_self, Nat.zero_add,
    Option.some.injEq, U.d.injEq, D.bl.injEq, D.int.injEq, D.ref.injEq, D.tup.injEq, D.str.injEq, Cell.mk.injEq, Ob.ins.injEq, Ob.lst.injEq, Ob.dct.injEq, List.cons.injEq, own_d, exists_eq_left, exists_eq_left', exists_and_left, exists_and_right, exists_eq, exists_eq', exists_const, true_and, and_true, and_self, and_assoc, if_true, if_false, Bool.false_eq_true, reduceCtorEq, false_and, and_false, exists_false, false_or, or_false, Bool.not_true, Bool.not_false, decide_true, decide_false, Bool.true_and, Bool.and_true, Bool.false_and, Bool.or_false, Bool.false_or,
    lkH_number, lkH_many, lkH_own, lkH_units, lkH_units_met, lkH_counts, lkH_untold, lkH_asks, lkH_asked, lkH_done, lkH_drops, lkH_calls, lkH_watched, lkH_dead, lkH_told, lkT_number, lkT_stand, lkT_made, lkT_own, lkT_lent, p2]
  refine ⟨lenT, ?_⟩
  rw [putT_made]
  simp only [bodyW, sSeq, sExpr, sRet, sRetN, sNil, sIf, sSet, sAsg, sPar, sFld, sIx, wFn, wMeth, wMake, wCons, wNil, uCons, uNil, wC, wVar, wBin, wUn, wNot, wAnd, wOr, wChain, wIf, tB, tAnd, tOr, tNot, wTup, wLst, wDct0, wFld, wCall, wMt, wIsi, wI0, rd, esc, escT, setV, retV, gNm, tyN, isTy, neg,
    wEq_int, wEq_str, wLt_int, wLe_int, wGt_int, wGe_int, wAdd_int, wIx_eH0, wIx_eH1, wIx_tup, List.getElem?_cons_zero, List.getElem?_cons_succ, List.set_cons_zero, List.set_cons_succ, List.map_cons, List.map_nil, List.cons_append, List.nil_append, List.length_cons, List.length_nil, List.replicate_zero, List.replicate_succ, Nat.reduceAdd, Nat.reduceSub, Nat.sub_self, Nat.zero_add,
    Option.some.injEq, U.d.injEq, D.bl.injEq, D.int.injEq, D.ref.injEq, D.tup.injEq, D.str.injEq, Cell.mk.injEq, Ob.ins.injEq, Ob.lst.injEq, Ob.dct.injEq, List.cons.injEq, own_d, exists_eq_left, exists_eq_left', exists_and_left, exists_and_right, exists_eq, exists_eq', exists_const, true_and, and_true, and_self, and_assoc, if_true, if_false, Bool.false_eq_true, reduceCtorEq, false_and, and_false, exists_false, false_or, or_false, Bool.not_true, Bool.not_false, decide_true, decide_false, Bool.true_and, Bool.and_true, Bool.false_and, Bool.or_false, Bool.false_or,
    lkH_number, lkH_many, lkH_own, lkH_units, lkH_units_met, lkH_counts, lkH_untold, lkH_asks, lkH_asked, lkH_done, lkH_drops, lkH_calls, lkH_watched, lkH_dead, lkH_told, lkT_number, lkT_stand, lkT_made, lkT_own, lkT_lent, up_same]
  have k' := k l' _ (hl _ nofun nofun) r3 (ex.frm.trans ((Frm.upd g3 rfl).trans ((Frm.upd q3 rfl).trans (Frm.upd p2 rfl))))
  rw [show (h.made + 1 - 1 : Int) = h.made by omega]
  exact k'
theorem make_ok {w : Int} {a : Addr} (r : House c i a h A) (f : h.Fits) (hn : aget h.stand h.made = none) (hm : h.made ≠ 100) (hw : 0 ≤ w ∧ w < 1000) (k : ∀ A', House c i a (h.make w) A' → Frm i A A' → K (.d (.int h.made)) A') : p_House_make c [.ref a, .int w] A K := by
  obtain ⟨l, rfl, r⟩ := r
  have h1 := r.at .house rfl
  have h2 := r.at .things rfl
  simp only [bodyW, sSeq, sExpr, sRet, sRetN, sNil, sIf, sSet, sAsg, sPar, sFld, sIx, wFn, wMeth, wMake, wCons, wNil, uCons, uNil, wC, wVar, wBin, wUn, wNot, wAnd, wOr, wChain, wIf, tB, tAnd, tOr, tNot, wTup, wLst, wDct0, wFld, wCall, wMt, wIsi, wI0, rd, esc, escT, setV, retV, gNm, tyN, isTy, neg,
    wEq_int, wEq_str, wLt_int, wLe_int, wGt_int, wGe_int, wAdd_int, wIx_eH0, wIx_eH1, wIx_tup, List.getElem?_cons_zero, List.getElem?_cons_succ, List.set_cons_zero, List.set_cons_succ, List.map_cons, List.map_nil, List.cons_append, List.nil_append, List.length_cons, List.length_nil, List.replicate_zero, List.replicate_succ, Nat.reduceAdd, Nat.reduceSub, Nat.sub_self, Nat.zero_add,
    Option.some.injEq, U.d.injEq, D.bl.injEq, D.int.injEq, D.ref.injEq, D.tup.injEq, D.str.injEq, Cell.mk.injEq, Ob.ins.injEq, Ob.lst.injEq, Ob.dct.injEq, List.cons.injEq, own_d, exists_eq_left, exists_eq_left', exists_and_left, exists_and_right, exists_eq, exists_eq', exists_const, true_and, and_true, and_self, and_assoc, if_true, if_false, Bool.false_eq_true, reduceCtorEq, false_and, and_false, exists_false, false_or, or_false, Bool.not_true, Bool.not_false, decide_true, decide_false, Bool.true_and, Bool.and_true, Bool.false_and, Bool.or_false, Bool.false_or,
    lkH_number, lkH_many, lkH_own, lkH_units, lkH_units_met, lkH_counts, lkH_untold, lkH_asks, lkH_asked, lkH_done, lkH_drops, lkH_calls, lkH_watched, lkH_dead, lkH_told, lkT_number, lkT_stand, lkT_made, lkT_own, lkT_lent, lkH_m_make, lkH_m_count, lkH_m_need_hold, lkH_m_take_unit, lkH_m_get_unit, lkH_m_settle, lkH_m_lend, lkH_m_give, lkH_m_ask, lkH_m_drop, lkH_m_need_thing, lkH_m_link, lkH_m_unlink, lkH_m_sweep, lkH_m_call, lkH_m_add, lkH_m_answers, lkH_m_watch, lkH_m_notes, lkH_m_things, lkH_m_table, lkH_m_died, lkH_m_lose, lkH_m_letters, lkH_m_turn, lkH_m_bring, lkH_m_hear_unit, lkH_m_hear_ask, lkH_m_answer, lkH_m_hear_drop, lkH_m_hear_heard, lkT_m_add, lkT_m_is_held, lkT_m_settle, lkT_m_let_go, lkT_m_lose, p_House_make, f_House_make]
  refine need_worth_ok hw ?_
  simp only [bodyW, sSeq, sExpr, sRet, sRetN, sNil, sIf, sSet, sAsg, sPar, sFld, sIx, wFn, wMeth, wMake, wCons, wNil, uCons, uNil, wC, wVar, wBin, wUn, wNot, wAnd, wOr, wChain, wIf, tB, tAnd, tOr, tNot, wTup, wLst, wDct0, wFld, wCall, wMt, wIsi, wI0, rd, esc, escT, setV, retV, gNm, tyN, isTy, neg,
    wEq_int, wEq_str, wLt_int, wLe_int, wGt_int, wGe_int, wAdd_int, wIx_eH0, wIx_eH1, wIx_tup, List.getElem?_cons_zero, List.getElem?_cons_succ, List.set_cons_zero, List.set_cons_succ, List.map_cons, List.map_nil, List.cons_append, List.nil_append, List.length_cons, List.length_nil, List.replicate_zero, List.replicate_succ, Nat.reduceAdd, Nat.reduceSub, Nat.sub_self, Nat.zero_add,
    Option.some.injEq, U.d.injEq, D.bl.injEq, D.int.injEq, D.ref.injEq, D.tup.injEq, D.str.injEq, Cell.mk.injEq, Ob.ins.injEq, Ob.lst.injEq, Ob.dct.injEq, List.cons.injEq, own_d, exists_eq_left, exists_eq_left', exists_and_left, exists_and_right, exists_eq, exists_eq', exists_const, true_and, and_true, and_self, and_assoc, if_true, if_false, Bool.false_eq_true, reduceCtorEq, false_and, and_false, exists_false, false_or, or_false, Bool.not_true, Bool.not_false, decide_true, decide_false, Bool.true_and, Bool.and_true, Bool.false_and, Bool.or_false, Bool.false_or,
    lkH_number, lkH_many, lkH_own, lkH_units, lkH_units_met, lkH_counts, lkH_untold, lkH_asks, lkH_asked, lkH_done, lkH_drops, lkH_calls, lkH_watched, lkH_dead, lkH_told, lkT_number, lkT_stand, lkT_made, lkT_own, lkT_lent, lkH_m_make, lkH_m_count, lkH_m_need_hold, lkH_m_take_unit, lkH_m_get_unit, lkH_m_settle, lkH_m_lend, lkH_m_give, lkH_m_ask, lkH_m_drop, lkH_m_need_thing, lkH_m_link, lkH_m_unlink, lkH_m_sweep, lkH_m_call, lkH_m_add, lkH_m_answers, lkH_m_watch, lkH_m_notes, lkH_m_things, lkH_m_table, lkH_m_died, lkH_m_lose, lkH_m_letters, lkH_m_turn, lkH_m_bring, lkH_m_hear_unit, lkH_m_hear_ask, lkH_m_answer, lkH_m_hear_drop, lkH_m_hear_heard, lkT_m_add, lkT_m_is_held, lkT_m_settle, lkT_m_let_go, lkT_m_lose, h1, h2, hm]
  exact tadd_ok r f hn fun l' A' e r' fr => k A' ⟨l', e, r'⟩ fr
end
end Dn

namespace Dn
open PySem L2 PyProof.Rows PySem.W
/-! ### comprehensions and loops over typed lists -/
theorem lcGo_map {κ : Type} {g : WG} {tt : WT} {te : WE} {vs : List Nat} {chk : KS} {k : List D → KS} {e : κ → D} {P : κ → Bool} {F : κ → D} {ρ : Rho} {A : Ah} (hc : chk ρ A) (ρ1 : κ → Rho) :
    ∀ (ys : List κ) (acc : List D), (∀ y ∈ ys, wip vs 0 (ρ1 y) = ρ ∧ ∀ (Kt : D → Rho → Ah → Prop) (Kf : Rho → Ah → Prop), (if P y = true then Kt (F y) (ρ1 y) A else Kf (ρ1 y) A) → g (e y) ρ A fun ρ1 A1 => tt ρ1 A1 fun b ρ2 A2 => if b = true then te ρ2 A2 fun u ρ3 A3 => esc u ρ3 A3 Kt else Kf ρ2 A2) →
      k (acc ++ (ys.filter P).map F) ρ A → lcGo g tt te vs chk k (ys.map e) acc ρ A
  | [], acc, _, h => ⟨hc, by simpa using h⟩
  | y :: ys, acc, st, h => by
    obtain ⟨hw, s⟩ := st y List.mem_cons_self
    refine ⟨hc, s _ _ ?_⟩
    cases hp : P y with
    | true =>
      simp only [if_true]
      rw [hw]
      exact lcGo_map hc ρ1 ys _ (fun z hz => st z (List.mem_cons_of_mem _ hz)) (by simpa [List.filter_cons, hp] using h)
    | false =>
      simp only [Bool.false_eq_true, if_false]
      rw [hw]
      exact lcGo_map hc ρ1 ys _ (fun z hz => st z (List.mem_cons_of_mem _ hz)) (by simpa [List.filter_cons, hp] using h)
theorem forGo_fold {κ S : Type} {g : WG} {tb : WS} {chk : KS} {d : WD} {e : κ → D} (R : S → Rho → Ah → Prop) (f : S → κ → S) (hc : ∀ s ρ A, R s ρ A → chk ρ A) :
    ∀ (ys : List κ) (s : S) (ρ : Rho) (A : Ah), (∀ y ∈ ys, ∀ s ρ A (K : KS), R s ρ A → (∀ ρ' A', R (f s y) ρ' A' → K ρ' A') → g (e y) ρ A fun ρ1 A1 => tb { d with nx := K, ct := K, bk := d.nx } ρ1 A1) →
      R s ρ A → (∀ ρ A, R (ys.foldl f s) ρ A → d.nx ρ A) → forGo g tb chk d (ys.map e) ρ A
  | [], s, ρ, A, _, h, hd => ⟨hc s ρ A h, hd ρ A h⟩
  | y :: ys, s, ρ, A, st, h, hd => ⟨hc s ρ A h, st y List.mem_cons_self s ρ A _ h fun ρ' A' h' => forGo_fold R f hc ys (f s y) ρ' A' (fun z hz => st z (List.mem_cons_of_mem _ hz)) h' hd⟩
theorem forGo_n {κ S : Type} {g : WG} {tb : WS} {chk : KS} {d : WD} {e : κ → D} (N : Nat) (R : Nat → S → Rho → Ah → Prop) (f : S → κ → S) (hc : ∀ n s ρ A, R n s ρ A → chk ρ A) :
    ∀ (ys : List κ) (n : Nat) (s : S) (ρ : Rho) (A : Ah), n + ys.length ≤ N → (∀ y ∈ ys, ∀ n s ρ A (K : KS), n < N → R n s ρ A → (∀ ρ' A', R (n + 1) (f s y) ρ' A' → K ρ' A') → g (e y) ρ A fun ρ1 A1 => tb { d with nx := K, ct := K, bk := d.nx } ρ1 A1) →
      R n s ρ A → (∀ n ρ A, R n (ys.foldl f s) ρ A → d.nx ρ A) → forGo g tb chk d (ys.map e) ρ A
  | [], n, s, ρ, A, _, _, h, hd => ⟨hc n s ρ A h, hd n ρ A h⟩
  | y :: ys, n, s, ρ, A, hn, st, h, hd => ⟨hc n s ρ A h, st y List.mem_cons_self n s ρ A _ (by simp at hn; omega) h fun ρ' A' h' => forGo_n N R f hc ys (n + 1) (f s y) ρ' A' (by simp at hn; omega) (fun z hz => st z (List.mem_cons_of_mem _ hz)) h' hd⟩
theorem lcGo_all {κ : Type} {g : WG} {tt : WT} {te : WE} {vs : List Nat} {chk : KS} {k : List D → KS} {e : κ → D} {F : κ → D} {ρ : Rho} {A : Ah} (hc : chk ρ A) (ρ1 : κ → Rho)
    (ys : List κ) (st : ∀ y ∈ ys, wip vs 0 (ρ1 y) = ρ ∧ ∀ (Kt : D → Rho → Ah → Prop) (Kf : Rho → Ah → Prop), Kt (F y) (ρ1 y) A → g (e y) ρ A fun ρ1 A1 => tt ρ1 A1 fun b ρ2 A2 => if b = true then te ρ2 A2 fun u ρ3 A3 => esc u ρ3 A3 Kt else Kf ρ2 A2)
      (h : k (ys.map F) ρ A) : lcGo g tt te vs chk k (ys.map e) [] ρ A :=
  lcGo_map (P := fun _ => true) hc ρ1 ys [] (fun y hy => ⟨(st y hy).1, fun Kt Kf q => (st y hy).2 Kt Kf (by simpa using q)⟩) (by
    have : ys.filter (fun _ => true) = ys := List.filter_eq_self.mpr fun _ _ => rfl
    rw [this]
    exact h)
theorem append_loc {ρ : Rho} {A : Ah} {k : K1} {i : Nat} {xs : List D} {y : D} (h : ρ[i]? = some (some (.lst xs))) : mAppend (.loc i) [.d y] ρ A k ↔ xs.length < sizeLine ∧ k (.d .non) (ρ.set i (some (.lst (xs ++ [y])))) A := by
  simp [mAppend, esc, lstOf, obOf, h, setOb, U.ob, U.own, Ob.u]
theorem tyU_loc {ρ : Rho} {A : Ah} {i : Nat} {xs : List D} (h : ρ[i]? = some (some (.lst xs))) : tyU "list" ρ A (.loc i) := .inl ⟨rfl, xs, by simp [lstOf, obOf, h, U.ob]⟩
theorem up_back {A : Ah} {a : Addr} {x y : Cell} (h : A a = some x) : up (up A a y) a x = A := by
  funext b
  unfold up
  by_cases e : b = a
  · simp [e, h]
  · simp [e]
theorem itemsOf_dct {ρ : Rho} {A : Ah} {a : Addr} {t : Tag} {kvs : List (D × D)} (h : A a = some ⟨t, .dct kvs⟩) : itemsOf ρ A (.d (.ref a)) = some (kvs.map (·.1)) := by simp [itemsOf, obOf, h]
theorem sorted_dct {κ : Type} {e : κ → D} {ρ : Rho} {A : Ah} {a : Addr} {t : Tag} {kvs : List (D × D)} {ks : List κ} {k : K1} (h : A a = some ⟨t, .dct kvs⟩) (hk : kvs.map (·.1) = ks.map e) (cs : CanSort (ks.map e)) (q : k (.lst ((sortK e ks).map e)) ρ A) : wSorted [.d (.ref a)] ρ A k :=
  ⟨_, _, rfl, itemsOf_dct h, by rw [hk]; exact cs, by rw [hk, sortD_map]; exact q⟩
theorem pures_hds (bs : List Hd) : D.pures (bs.map eH) = true := by
  induction bs with
  | nil => rfl
  | cons b bs ih => simpa [D.pures, D.pure, eH] using ih
theorem eqv_eH (a b : Hd) : PyData.eqv (eH a).pd (eH b).pd = decide (a = b) := by
  obtain ⟨a1, a2⟩ := a
  obtain ⟨b1, b2⟩ := b
  exact Bool.eq_iff_iff.mpr (by simp [eH, D.pd, D.pds, PyData.eqv, PyData.eqvAll])
theorem shaped_eH (a : Hd) : SeqAt.shaped (eH a).pd = true := by simp [eH, D.pd, D.pds, SeqAt.shaped, PyData.canLay0, PyData.canLayAll0, PyData.depth, PyData.depthAll]
theorem pds_hds (bs : List Hd) : D.pds (bs.map eH) = bs.map fun b => (eH b).pd := by
  induction bs with
  | nil => rfl
  | cons b bs ih => simp [D.pds, ih]
theorem shaped_hds (bs : List Hd) : SeqAt.shaped (.list (D.pds (bs.map eH))) = true := by
  rw [pds_hds]
  have h1 : PyData.canLayAll0 (bs.map fun b => (eH b).pd) = true := by
    induction bs with
    | nil => rfl
    | cons b bs ih => simpa [PyData.canLayAll0, eH, D.pd, D.pds, PyData.canLay0] using ih
  have h2 : PyData.depthAll (bs.map fun b => (eH b).pd) ≤ 2 := by
    clear h1
    induction bs with
    | nil => simp [PyData.depthAll]
    | cons b bs ih => simp [PyData.depthAll, eH, D.pd, D.pds, PyData.depth] at ih ⊢; omega
  unfold SeqAt.shaped
  rw [Bool.and_eq_true]
  refine ⟨by simpa [PyData.canLay0] using h1, ?_⟩
  simp [PyData.depth]
  omega
theorem in_hds {ρ : Rho} {A : Ah} {u : U} {bs : List Hd} {q : Hd} {n : Bool} {k : K1} (h : lstOf ρ A u = some (bs.map eH)) (hk : k (.d (.bl (neg n (decide (q ∈ bs))))) ρ A) : wIn n (.d (eH q)) u ρ A k := by
  refine .inr (.inl ⟨_, _, .pure (by simp [eH, D.pure, D.pures]), .lst h (pures_hds bs), shaped_eH q, shaped_hds bs, ?_⟩)
  rw [pds_hds, List.any_map]
  have : (bs.any ((fun z => PyData.eqv z (eH q).pd) ∘ fun b => (eH b).pd)) = decide (q ∈ bs) := by
    rw [Bool.eq_iff_iff]
    simp only [List.any_eq_true, Function.comp, eqv_eH, decide_eq_true_eq]
    exact ⟨fun ⟨x, hx, e⟩ => e ▸ hx, fun hq => ⟨q, hq, rfl⟩⟩
  rw [this]
  exact hk
end Dn

namespace Dn
open PySem L2 PyProof.Rows PySem.W
section
variable {d : WD} {t u : WS} {ρ : Rho} {A : Ah} {i : Nat} {wi : WI} {g : WG} {tt : WT} {te : WE} {vs : List Nat} {C : Addr} {f : Str} {w : List U → WE} {k : K1} {kI : KI}
theorem seq_ok (h : t { d with nx := fun ρ' A' => u d ρ' A' } ρ A) : sSeq t u d ρ A := h
theorem setLc_ok (h : wi ρ A fun xs chk ρ1 A1 => lcGo g tt te vs chk (fun acc ρ' A' => d.nx ((merge vs 0 ρ1 ρ').set i (some (.lst acc))) A') xs [] (wip vs 0 ρ1) A1) : sSet i (wLc wi g tt te vs) d ρ A := h
theorem setLcK_ok {a : Addr} {tg : Tag} {kvs : List (D × D)} (e : A a = some ⟨tg, .dct kvs⟩)
    (h : ∀ od u, wi ρ (up A a ⟨tg, .fz od u kvs⟩) fun xs chk ρ1 A1 => lcGo g tt te vs chk (fun acc ρ' A' => A' a = some ⟨tg, .fz od u kvs⟩ ∧ d.nx ((merge vs 0 ρ1 ρ').set i (some (.lst acc))) (up A' a ⟨tg, .dct kvs⟩)) xs [] (wip vs 0 ρ1) A1) : sLock (sSet i (wLc wi g tt te vs)) d ρ A := ⟨a, tg, kvs, e, h⟩
theorem for_ok {tb : WS} (h : wi ρ A fun xs chk ρ1 A1 => forGo g tb chk d xs ρ1 A1) : sFor wi g tb d ρ A := h
/-- f(self.x) -/
theorem callFld {a0 a : Addr} {t0 : Tag} {fs : List (Str × D)} (hρ : ρ[0]? = some (some (.d (.ref a0)))) (h0 : A a0 = some ⟨t0, .ins C fs⟩) (hl : fs.lookup f = some (.ref a)) (q : w [.d (.ref a)] ρ A k) : wCall w (uCons (wFld C f (wVar 0)) uNil) ρ A k :=
  ⟨_, hρ, a0, t0, fs, _, rfl, h0, hl, q⟩
theorem fld0 {a0 : Addr} {t0 : Tag} {fs : List (Str × D)} {x : D} (hρ : ρ[0]? = some (some (.d (.ref a0)))) (h0 : A a0 = some ⟨t0, .ins C fs⟩) (hl : fs.lookup f = some x) (q : k (.d x) ρ A) : wFld C f (wVar 0) ρ A k :=
  ⟨_, hρ, a0, t0, fs, _, rfl, h0, hl, q⟩
theorem it_any (h : te ρ A fun u ρ1 A1 => wIt u ρ1 A1 kI) : iAny te ρ A kI := h
theorem it_lst {xs : List D} (h : kI xs chkT ρ A) : wIt (.lst xs) ρ A kI := h
theorem it_ref {xs : List D} {a : Addr} {tg : Tag} (e : A a = some ⟨tg, .lst xs⟩) (h : kI xs (chkL (.d (.ref a)) xs) ρ A) : wIt (.d (.ref a)) ρ A kI := .inl ⟨xs, by simp [lstOf, obOf, e], h⟩
theorem it_fz {kvs : List (D × D)} {a : Addr} {tg : Tag} {od : Obj} {u : HO} (e : A a = some ⟨tg, .fz od u kvs⟩) (h : kI (kvs.map (·.1)) (chkF a od u kvs) ρ A) : wIt (.d (.ref a)) ρ A kI := .inr ⟨od, u, kvs, by simp [chkF, e], h⟩
theorem ix_fz {a : Addr} {t : Tag} {od : Obj} {u : HO} {kvs : List (D × D)} (h : A a = some ⟨t, .fz od u kvs⟩) (hn : kvs ≠ []) (j : D) : wIx (.d (.ref a)) (.d j) ρ A k ↔ KeyIn j kvs ∧ ∃ z, dget kvs j = some z ∧ k (.d z) ρ A := by
  cases kvs with
  | nil => exact absurd rfl hn
  | cons p kvs => simp [wIx, wIxS, wIxD, wIxT, seqOf, lstOf, rdctOf, obOf, h]
end
theorem asg_ok (h : te ρ A fun u ρ1 A1 => esc u ρ1 A1 fun x ρ2 A2 => g x ρ2 A2 d.nx) : sAsg g te d ρ A := h
theorem expr_ok (h : te ρ A fun _ ρ' A' => d.nx ρ' A') : sExpr te d ρ A := h
theorem ixFldD {a0 a : Addr} {t0 t1 : Tag} {fs : List (Str × D)} {kvs : List (D × D)} {j : Nat} {z x : D} (hρ : ρ[0]? = some (some (.d (.ref a0)))) (h0 : A a0 = some ⟨t0, .ins C fs⟩) (hl : fs.lookup f = some (.ref a)) (hA : A a = some ⟨t1, .dct kvs⟩)
    (hj : ρ[j]? = some (some (.d z))) (ki : KeyIn z kvs) (e : dget kvs z = some x) (q : k (.d x) ρ A) : wBin wIx (wFld C f (wVar 0)) (wVar j) ρ A k :=
  fld0 hρ h0 hl ⟨_, hj, (ix_dctR hA z).mpr ⟨ki, x, e, q⟩⟩
theorem tup2 {i j : Nat} {x y : D} {kk : KS} (q : kk ((ρ.set i (some (.d x))).set j (some (.d y))) A) : gTup 2 (gsCons (gNm i) (gsCons (gNm j) gsNil)) (.tup [x, y]) ρ A kk :=
  ⟨⟨_, rfl, rfl⟩, _, rfl, x, [y], rfl, y, [], rfl, rfl, q⟩
theorem if_in {n : Bool} {a b : Nat} {q : Hd} {bs : List Hd} (ha : ρ[a]? = some (some (.d (eH q)))) (hb : ρ[b]? = some (some (.lst (bs.map eH)))) (h : if neg n (decide (q ∈ bs)) = true then t d ρ A else u d ρ A) : sIf (tB (wBin (wIn n) (wVar a) (wVar b))) t u d ρ A :=
  ⟨_, ha, _, hb, in_hds (bs := bs) (by simp [lstOf, obOf, hb, U.ob, rd]) ⟨_, rfl, h⟩⟩
theorem up_other {a b : Addr} {x y z : Cell} (ha : A a = some x) (hb : A b = some y) (n : x.ob ≠ y.ob) : up A b z a = some x := by
  rw [up_ne fun e => n (by rw [e, hb] at ha; cases ha; rfl)]
  exact ha
theorem foldl_filter {κ σ : Type} (P : κ → Bool) (F : κ → σ) : ∀ (xs : List κ) (s : List σ), xs.foldl (fun s x => if P x = true then s else s ++ [F x]) s = s ++ (xs.filter fun x => !P x).map F
  | [], s => by simp
  | x :: xs, s => by
    rw [List.foldl_cons, foldl_filter P F xs]
    cases h : P x <;> simp [List.filter_cons, h]
theorem foldl_map {κ σ : Type} (F : κ → σ) : ∀ (xs : List κ) (s : List σ), xs.foldl (fun s x => s ++ [F x]) s = s ++ xs.map F
  | [], s => by simp
  | x :: xs, s => by
    rw [List.foldl_cons, foldl_map F xs]
    simp
/-! ### what an expression is worth, nothing changed -/
def Ev (te : WE) (ρ : Rho) (A : Ah) (x : D) : Prop := ∀ k : K1, k (.d x) ρ A → te ρ A k
def EvA (ta : WA) (ρ : Rho) (A : Ah) (xs : List D) : Prop := ∀ k : KA, k xs ρ A → ta ρ A k
theorem ev_var {i : Nat} {x : D} (h : ρ[i]? = some (some (.d x))) : Ev (wVar i) ρ A x := fun _ q => ⟨_, h, q⟩
theorem ev_c {x : D} : Ev (wC x) ρ A x := fun _ q => q
theorem ev_fld {C a : Addr} {f : Str} {t0 : Tag} {fs : List (Str × D)} {x : D} (he : Ev te ρ A (.ref a)) (h0 : A a = some ⟨t0, .ins C fs⟩) (hl : fs.lookup f = some x) : Ev (wFld C f te) ρ A x := fun _ q => he _ ⟨a, t0, fs, x, rfl, h0, hl, q⟩
theorem ev_ix0 {q : Hd} (he : Ev te ρ A (eH q)) : Ev (wBin wIx te (wC (.int 0))) ρ A (.int q.1) := fun _ z => he _ ((wIx_eH0 q).mpr z)
theorem ev_ix1 {q : Hd} (he : Ev te ρ A (eH q)) : Ev (wBin wIx te (wC (.int 1))) ρ A (.int q.2) := fun _ z => he _ ((wIx_eH1 q).mpr z)
theorem ev_ixT {xs : List D} {n : Int} {x : D} (he : Ev te ρ A (.tup xs)) (hx : atI xs n = some x) : Ev (wBin wIx te (wC (.int n))) ρ A x := fun _ z => he _ ((wIx_tup xs n).mpr ⟨x, hx, z⟩)
theorem ev_ixD {te2 : WE} {a : Addr} {t1 : Tag} {kvs : List (D × D)} {z x : D} (he : Ev te ρ A (.ref a)) (hA : A a = some ⟨t1, .dct kvs⟩) (hz : Ev te2 ρ A z) (ki : KeyIn z kvs) (e : dget kvs z = some x) : Ev (wBin wIx te te2) ρ A x := fun _ q => he _ (hz _ ((ix_dctR hA z).mpr ⟨ki, x, e, q⟩))
theorem eva_nil : EvA wNil ρ A [] := fun _ q => q
theorem eva_cons {ta : WA} {x : D} {xs : List D} (he : Ev te ρ A x) (ha : EvA ta ρ A xs) : EvA (wCons te ta) ρ A (x :: xs) := fun _ q => he _ (ha _ q)
theorem ev_tup {ta : WA} {xs : List D} (ha : EvA ta ρ A xs) (hl : xs.length ≤ sizeLine) : Ev (wTup ta) ρ A (.tup xs) := fun _ q => ha _ ⟨hl, q⟩
theorem app_loc {i : Nat} {xs : List D} {y : D} (h : ρ[i]? = some (some (.lst xs))) (he : Ev te ρ A y) (hl : xs.length < sizeLine) (q : d.nx (ρ.set i (some (.lst (xs ++ [y])))) A) : sExpr (wMt "list" mAppend (wVar i) (uCons te uNil)) d ρ A :=
  ⟨_, h, tyU_loc h, he _ (show mAppend (.loc i) [.d y] ρ A (fun _ ρ' A' => d.nx ρ' A') from (append_loc h).mpr ⟨hl, q⟩)⟩
/-! ### letters -/
inductive Lt where
  | unit (to frm t u : Int) | ask (to frm n t : Int) (w : Wh) | drop (to frm t u : Int)
  | hUnit (to frm u : Int) | hAsk (to frm n : Int) (a : An) | hDrop (to frm u : Int)
def eLt : Lt → D
  | .unit to frm t u => .tup [.int to, .tup [.int frm, .str "unit", .int t, .int u]]
  | .ask to frm n t w => .tup [.int to, .tup [.int frm, .str "ask", .int n, .int t, eWh w]]
  | .drop to frm t u => .tup [.int to, .tup [.int frm, .str "drop", .int t, .int u]]
  | .hUnit to frm u => .tup [.int to, .tup [.int frm, .str "heard", .str "unit", .int u, .non]]
  | .hAsk to frm n a => .tup [.int to, .tup [.int frm, .str "heard", .str "ask", .int n, eAn a]]
  | .hDrop to frm u => .tup [.int to, .tup [.int frm, .str "heard", .str "drop", .int u, .non]]
def Hv.askAt (h : Hv) (n : Int) : Hd × Wh := (aget h.asks n).getD ((0, 0), .give 0)
def Hv.unitLt (h : Hv) (one : Hd) : Lt := .unit one.1 h.number ((aget h.untold one).getD 0) one.2
def Hv.askLt (h : Hv) (n : Int) : Lt := .ask (h.askAt n).1.1 h.number n (h.askAt n).1.2 (h.askAt n).2
def Hv.dropLt (h : Hv) (p : Hd × Int) : Lt := .drop p.1.1 h.number p.1.2 p.2
def Hv.busy (h : Hv) : List Hd := h.asks.map fun p => (h.askAt p.1).1
def Hv.letters (h : Hv) : List Lt :=
  (sortK eH (h.untold.map (·.1))).map h.unitLt ++ (sortK D.int (h.asks.map (·.1))).map h.askLt ++ (h.drops.filter fun p => !decide (p.1 ∈ h.busy)).map h.dropLt
theorem aget_of_mem {κ ν : Type} [DecidableEq κ] {m : List (κ × ν)} {k : κ} (hk : k ∈ m.map (·.1)) : ∃ v, aget m k = some v := by
  obtain ⟨p, hp, rfl⟩ := List.mem_map.mp hk
  have : (aget m p.1).isSome = true := by
    rw [aget_any]
    exact List.any_eq_true.mpr ⟨p, hp, by simp⟩
  exact Option.isSome_iff_exists.mp this
section
variable {c : Cs} {i : Nat} {l l' : Lc} {h h' : Hv} {A : Ah} {K : U → Ah → Prop}
theorem le2 : 2 ≤ sizeLine := by decide
theorem le4 : 4 ≤ sizeLine := by decide
theorem le5 : 5 ≤ sizeLine := by decide
theorem letters_ok (r : HR c i l h A) (f : h.Fits) (fl : h.untold.length + h.asks.length + h.drops.length < sizeLine) (k : K (.lst (h.letters.map eLt)) A) : p_House_letters c [.ref (l .house)] A K := by
  have h1 := r.at .house rfl
  have h2 := r.at .untold rfl
  have h3 := r.at .asks rfl
  have h4 := r.at .drops rfl
  refine ⟨rfl, seq_ok (setLc_ok (it_any (callFld rfl h1 lkH_untold (sorted_dct h2 (e := eH) keys_xHI (canSort_hds (by simpa using Nat.le_of_lt f.untold)) (it_lst ?_)))))⟩
  refine lcGo_all (ρ := [some (.d (.ref (l .house))), none, none, none, none, none, none, none]) (F := fun one => eLt (h.unitLt one)) trivial (fun one => [some (.d (.ref (l .house))), none, none, none, none, none, none, some (.d (eH one))]) _ (fun one ho => ⟨rfl, fun Kt Kf q => ?_⟩) ?_
  · rw [sortK_mem] at ho
    obtain ⟨n, en⟩ := aget_of_mem ho
    have eq : eLt (h.unitLt one) = .tup [.int one.1, .tup [.int h.number, .str "unit", .int n, .int one.2]] := by simp [Hv.unitLt, eLt, en]
    rw [eq] at q
    simp only [bodyW, sSeq, sExpr, sRet, sRetN, sNil, sIf, sSet, sAsg, sPar, sFld, sIx, wFn, wMeth, wMake, wCons, wNil, uCons, uNil, wC, wVar, wBin, wUn, wNot, wAnd, wOr, wChain, wIf, tB, tAnd, tOr, tNot, wTup, wLst, wDct0, wFld, wCall, wMt, wIsi, wI0, rd, esc, escT, setV, retV, gNm, tyN, isTy, neg,
    wEq_int, wEq_str, wLt_int, wLe_int, wGt_int, wGe_int, wAdd_int, wIx_eH0, wIx_eH1, wIx_tup, List.getElem?_cons_zero, List.getElem?_cons_succ, List.set_cons_zero, List.set_cons_succ, List.map_cons, List.map_nil, List.cons_append, List.nil_append, List.length_cons, List.length_nil, List.replicate_zero, List.replicate_succ, Nat.reduceAdd, Nat.reduceSub, Nat.sub_self, Nat.zero_add,
    Option.some.injEq, U.d.injEq, D.bl.injEq, D.int.injEq, D.ref.injEq, D.tup.injEq, D.str.injEq, Cell.mk.injEq, Ob.ins.injEq, Ob.lst.injEq, Ob.dct.injEq, List.cons.injEq, own_d, exists_eq_left, exists_eq_left', exists_and_left, exists_and_right, exists_eq, exists_eq', exists_const, true_and, and_true, and_self, and_assoc, if_true, if_false, Bool.false_eq_true, reduceCtorEq, false_and, and_false, exists_false, false_or, or_false, Bool.not_true, Bool.not_false, decide_true, decide_false, Bool.true_and, Bool.and_true, Bool.false_and, Bool.or_false, Bool.false_or,
    lkH_number, lkH_many, lkH_own, lkH_units, lkH_units_met, lkH_counts, lkH_untold, lkH_asks, lkH_asked, lkH_done, lkH_drops, lkH_calls, lkH_watched, lkH_dead, lkH_told, lkT_number, lkT_stand, lkT_made, lkT_own, lkT_lent, wYes, bodyW, wip, List.set, h1, ix_dctR h2, keyIn_xHI, dget_xHI, en, Option.map_some]
    exact ⟨le4, le2, q⟩
  generalize e1 : (sortK eH (h.untold.map (·.1))).map h.unitLt = L1
  have e1' : (sortK eH (h.untold.map (·.1))).map (fun one => eLt (h.unitLt one)) = L1.map eLt := by rw [← e1, List.map_map]; rfl
  rw [e1']
  dsimp only
  refine seq_ok (for_ok (it_any (callFld rfl h1 lkH_asks (sorted_dct h3 (e := D.int) keys_xAsks (canSort_ints (by simpa using Nat.le_of_lt f.asks)) (it_lst ?_)))))
  refine forGo_n (L1.length + (h.asks.map (·.1)).length) (fun n s ρ A' => A' = A ∧ s.length ≤ n ∧ ∃ x2 x3 x4, ρ = [some (.d (.ref (l .house))), some (.lst (s.map eLt)), x2, x3, x4, none, none, none]) (fun s n => s ++ [h.askLt n]) (fun _ _ _ _ _ => trivial) _ L1.length L1 _ A (by simp [sortK]) (fun y hy n s ρ A' Kx hn ⟨eA, hs, x2, x3, x4, eρ⟩ hK => ?_) ⟨rfl, Nat.le_refl _, none, none, none, rfl⟩ fun n ρ A' ⟨eA, hs, x2, x3, x4, eρ⟩ => ?_
  · subst eA eρ
    rw [sortK_mem] at hy
    obtain ⟨⟨q, w⟩, en⟩ := aget_of_mem hy
    have eq : eLt (h.askLt y) = .tup [.int q.1, .tup [.int h.number, .str "ask", .int y, .int q.2, eWh w]] := by simp [Hv.askLt, Hv.askAt, eLt, en]
    have hl : s.length < sizeLine := by
      have z1 : L1.length = h.untold.length := by rw [← e1]; simp [sortK]
      rw [List.length_map] at hn
      omega
    have hK' := hK [some (.d (.ref (l .house))), some (.lst ((s ++ [h.askLt y]).map eLt)), some (.d (.int y)), some (.d (eH q)), some (.d (eWh w)), none, none, none] A' ⟨rfl, by simpa using hs, _, _, _, rfl⟩
    rw [List.map_append, List.map_singleton, eq] at hK'
    show sSeq (sAsg _ _) _ _ _ _
    refine seq_ok (asg_ok (ixFldD rfl h1 lkH_asks h3 (z := .int y) (x := .tup [eH q, eWh w]) rfl keyIn_xAsks (by rw [dget_xAsks, en]; rfl) (tup2 ?_)))
    dsimp only [List.set]
    exact app_loc rfl (ev_tup (eva_cons (ev_ix0 (ev_var rfl)) (eva_cons (ev_tup (eva_cons (ev_fld (ev_var rfl) h1 lkH_number) (eva_cons ev_c (eva_cons (ev_var rfl) (eva_cons (ev_ix1 (ev_var rfl)) (eva_cons (ev_var rfl) eva_nil))))) le5) eva_nil)) le2) (by simpa using hl) hK'
  subst eA eρ
  rw [foldl_map]
  dsimp only
  generalize e2 : L1 ++ (sortK D.int (h.asks.map (·.1))).map h.askLt = L2
  have hl2 : L2.length + h.drops.length < sizeLine := by
    have : L2.length = h.untold.length + h.asks.length := by simp [← e2, ← e1, sortK]
    omega
  have g1 : ∀ z, up A' (l .asks) z (l .house) = _ := fun z => up_other (z := z) h1 h3 nofun
  refine seq_ok (setLcK_ok h3 fun od u => it_any (fld0 rfl (g1 _) lkH_asks (it_fz up_same ?_)))
  rw [keys_xAsks]
  refine lcGo_all (ρ := [some (.d (.ref (l .house))), some (.lst (L2.map eLt)), none, x3, x4, none, none, none]) (F := fun n => eH (h.askAt n).1) (by simp [chkF, up_same]) (fun n => [some (.d (.ref (l .house))), some (.lst (L2.map eLt)), some (.d (.int n)), x3, x4, none, none, none]) _ (fun y hy => ⟨rfl, fun Kt Kf q => ?_⟩) ⟨up_same, ?_⟩
  · have hne : h.asks.map xAsks ≠ [] := fun e => by
      have : h.asks = [] := by simpa using e
      rw [this] at hy
      cases hy
    obtain ⟨⟨q1, w⟩, en⟩ := aget_of_mem hy
    have eq : (h.askAt y).1 = q1 := by simp [Hv.askAt, en]
    rw [eq] at q
    simp only [bodyW, sSeq, sExpr, sRet, sRetN, sNil, sIf, sSet, sAsg, sPar, sFld, sIx, wFn, wMeth, wMake, wCons, wNil, uCons, uNil, wC, wVar, wBin, wUn, wNot, wAnd, wOr, wChain, wIf, tB, tAnd, tOr, tNot, wTup, wLst, wDct0, wFld, wCall, wMt, wIsi, wI0, rd, esc, escT, setV, retV, gNm, tyN, isTy, neg,
    wEq_int, wEq_str, wLt_int, wLe_int, wGt_int, wGe_int, wAdd_int, wIx_eH0, wIx_eH1, wIx_tup, List.getElem?_cons_zero, List.getElem?_cons_succ, List.set_cons_zero, List.set_cons_succ, List.map_cons, List.map_nil, List.cons_append, List.nil_append, List.length_cons, List.length_nil, List.replicate_zero, List.replicate_succ, Nat.reduceAdd, Nat.reduceSub, Nat.sub_self, Nat.zero_add,
    Option.some.injEq, U.d.injEq, D.bl.injEq, D.int.injEq, D.ref.injEq, D.tup.injEq, D.str.injEq, Cell.mk.injEq, Ob.ins.injEq, Ob.lst.injEq, Ob.dct.injEq, List.cons.injEq, own_d, exists_eq_left, exists_eq_left', exists_and_left, exists_and_right, exists_eq, exists_eq', exists_const, true_and, and_true, and_self, and_assoc, if_true, if_false, Bool.false_eq_true, reduceCtorEq, false_and, and_false, exists_false, false_or, or_false, Bool.not_true, Bool.not_false, decide_true, decide_false, Bool.true_and, Bool.and_true, Bool.false_and, Bool.or_false, Bool.false_or,
    lkH_number, lkH_many, lkH_own, lkH_units, lkH_units_met, lkH_counts, lkH_untold, lkH_asks, lkH_asked, lkH_done, lkH_drops, lkH_calls, lkH_watched, lkH_dead, lkH_told, lkT_number, lkT_stand, lkT_made, lkT_own, lkT_lent, wYes, List.set, g1, ix_fz up_same hne, keyIn_xAsks, dget_xAsks, en, Option.map_some]
    simpa [wIx_tup, atI, ixN] using q
  rw [up_back h3]
  dsimp only
  have eb : (h.asks.map (·.1)).map (fun n => eH (h.askAt n).1) = h.busy.map eH := by simp [Hv.busy]
  rw [eb]
  refine seq_ok (for_ok (it_any (fld0 rfl h1 lkH_drops (it_ref h4 ?_))))
  refine forGo_n (L2.length + h.drops.length) (fun n s ρ A2 => A2 = A' ∧ s.length ≤ n ∧ ∃ x2 x3 x4 x6, ρ = [some (.d (.ref (l .house))), some (.lst (s.map eLt)), x2, x3, x4, some (.lst (h.busy.map eH)), x6, none]) (fun s p => if decide (p.1 ∈ h.busy) = true then s else s ++ [h.dropLt p]) (fun n s ρ A2 ⟨eA, _⟩ => by subst eA; simp [chkL, lstOf, obOf, h4]) _ L2.length L2 _ A' (by simp) (fun y hy n s ρ A2 Kx hn ⟨eA, hs, x2, x3, x4, x6, eρ⟩ hK => ?_) ⟨rfl, Nat.le_refl _, _, _, _, _, rfl⟩ fun n ρ A2 ⟨eA, hs, x2, x3, x4, x6, eρ⟩ => ?_
  · subst eA eρ
    obtain ⟨q, w⟩ := y
    refine tup2 (x := eH q) (y := .int w) (if_in (q := q) (bs := h.busy) rfl rfl ?_)
    by_cases hb : q ∈ h.busy
    · simp only [hb, decide_true, if_true] at hK
      simp only [neg, hb, decide_true, if_true, Bool.not_true, Bool.false_eq_true, if_false]
      exact hK _ _ ⟨rfl, by omega, _, _, _, _, rfl⟩
    · simp only [hb, decide_false, Bool.false_eq_true, if_false] at hK
      simp only [neg, hb, decide_false, if_true, Bool.not_false]
      have hK' := hK [some (.d (.ref (l .house))), some (.lst ((s ++ [h.dropLt (q, w)]).map eLt)), x2, some (.d (eH q)), x4, some (.lst (h.busy.map eH)), some (.d (.int w)), none] A2 ⟨rfl, by simpa using hs, _, _, _, _, rfl⟩
      rw [List.map_append, List.map_singleton] at hK'
      exact app_loc rfl (ev_tup (eva_cons (ev_ix0 (ev_var rfl)) (eva_cons (ev_tup (eva_cons (ev_fld (ev_var rfl) h1 lkH_number) (eva_cons ev_c (eva_cons (ev_ix1 (ev_var rfl)) (eva_cons (ev_var rfl) eva_nil)))) le4) eva_nil)) le2) (by rw [List.length_map]; omega) hK'
  · subst eA eρ
    rw [foldl_filter, ← e2, ← e1] 
    exact ⟨_, rfl, _, rfl, rfl, k⟩
end
end Dn

namespace Dn
open PySem L2 PyProof.Rows PySem.W
section
variable {d : WD} {t u : WS} {ρ : Rho} {A : Ah} {i : Nat} {wi : WI} {g : WG} {tt : WT} {te : WE} {vs : List Nat} {k : K1}
theorem pures_ints (bs : List Int) : D.pures (bs.map D.int) = true := by
  induction bs with
  | nil => rfl
  | cons b bs ih => simpa [D.pures, D.pure] using ih
theorem pds_map {κ : Type} (e : κ → D) (bs : List κ) : D.pds (bs.map e) = bs.map fun b => (e b).pd := by
  induction bs with
  | nil => rfl
  | cons b bs ih => simp [D.pds, ih]
theorem shaped_ints (bs : List Int) : SeqAt.shaped (.list (D.pds (bs.map D.int))) = true := by
  rw [pds_map]
  have h1 : PyData.canLayAll0 (bs.map fun b => (D.int b).pd) = true := by
    induction bs with
    | nil => rfl
    | cons b bs ih => simpa [PyData.canLayAll0, D.pd, PyData.canLay0] using ih
  have h2 : PyData.depthAll (bs.map fun b => (D.int b).pd) ≤ 1 := by
    clear h1
    induction bs with
    | nil => simp [PyData.depthAll]
    | cons b bs ih => simp [PyData.depthAll, D.pd, PyData.depth] at ih ⊢; omega
  unfold SeqAt.shaped
  rw [Bool.and_eq_true]
  refine ⟨by simpa [PyData.canLay0] using h1, ?_⟩
  simp [PyData.depth]
  omega
theorem up_otherT {a b : Addr} {x y z : Cell} (ha : A a = some x) (hb : A b = some y) (n : x.tg ≠ y.tg) : up A b z a = some x := by
  rw [up_ne fun e => n (by rw [e, hb] at ha; cases ha; rfl)]
  exact ha
theorem ev_ixF {te te2 : WE} {a : Addr} {t1 : Tag} {od : Obj} {u : HO} {kvs : List (D × D)} {z x : D} (he : Ev te ρ A (.ref a)) (hA : A a = some ⟨t1, .fz od u kvs⟩) (hz : Ev te2 ρ A z) (ki : KeyIn z kvs) (e : dget kvs z = some x) : Ev (wBin wIx te te2) ρ A x := fun _ q => he _ (hz _ ((ix_fz hA (fun n => by subst n; simp [dget] at e) z).mpr ⟨ki, x, e, q⟩))
theorem nm_ok {x : D} {kk : KS} (h : kk (ρ.set i (some (.d x))) A) : gNm i x ρ A kk := h
theorem tB_ok {kb : KB} (h : te ρ A fun x ρ1 A1 => ∃ b, x = .d (.bl b) ∧ kb b ρ1 A1) : tB te ρ A kb := h
theorem bin_ok {r : W2} {ta tb : WE} (h : ta ρ A fun x ρ1 A1 => tb ρ1 A1 fun y ρ2 A2 => r x y ρ2 A2 k) : wBin r ta tb ρ A k := h
theorem mt_ok {T : String} {w : U → List U → WE} {to : WE} {tu : WU} (h : to ρ A fun x ρ1 A1 => escT x ρ1 A1 fun y ρ2 A2 => tyU T ρ2 A2 y ∧ tu ρ2 A2 fun us ρ3 A3 => w y us ρ3 A3 k) : wMt T w to tu ρ A k := h
theorem if_ok {cc : WT} (h : cc ρ A fun b ρ' A' => if b = true then t d ρ' A' else u d ρ' A') : sIf cc t u d ρ A := h
theorem or_ok {ta tb : WT} {kb : KB} (h : ta ρ A fun b ρ1 A1 => if b = true then kb true ρ1 A1 else tb ρ1 A1 kb) : tOr ta tb ρ A kb := h
theorem ret_ok (h : te ρ A fun u ρ' A' => retV u ρ' A' d.rt) : sRet te d ρ A := h
theorem set_ok (h : te ρ A fun u ρ' A' => setV i u ρ' A' d.nx) : sSet i te d ρ A := h
/-- xs != [] -/
theorem ne_nil {n : Bool} {u : U} {xs : List D} (h : lstOf ρ A u = some xs) (hp : D.pures xs = true) (hs : SeqAt.shaped (.list (D.pds xs)) = true) (hk : k (.d (.bl (if n then !xs.isEmpty else xs.isEmpty))) ρ A) : wEqB n u (.lst []) ρ A k := by
  refine .inr ⟨_, _, .lst h hp, .lst (xs := []) rfl rfl, hs, by simp [SeqAt.shaped, D.pds, PyData.canLay0, PyData.canLayAll0, PyData.depth, PyData.depthAll], ?_⟩
  have : PyData.eqv (.list (D.pds xs)) (.list (D.pds [])) = xs.isEmpty := by
    cases xs <;> simp [D.pds, PyData.eqv, PyData.eqvAll]
  rw [this]
  exact hk
/-- a comprehension over the keys of a locked dict that changes nothing -/
theorem lcK {κ : Type} {e : κ → D} {C : Addr} {f : Str} {a0 a : Addr} {t0 tg : Tag} {fs : List (Str × D)} {kvs : List (D × D)} {ks : List κ} {P : κ → Bool} {F : κ → D} (ρ0 : Rho) (ρ1 : κ → Rho)
    (hρ : ρ[0]? = some (some (.d (.ref a0)))) (h0 : A a0 = some ⟨t0, .ins C fs⟩) (hl : fs.lookup f = some (.ref a)) (hA : A a = some ⟨tg, .dct kvs⟩) (hk : kvs.map (·.1) = ks.map e) (hw : wip vs 0 ρ = ρ0)
    (st : ∀ od u, ∀ y ∈ ks, wip vs 0 (ρ1 y) = ρ0 ∧ ∀ (Kt : D → Rho → Ah → Prop) (Kf : Rho → Ah → Prop), (if P y = true then Kt (F y) (ρ1 y) (up A a ⟨tg, .fz od u kvs⟩) else Kf (ρ1 y) (up A a ⟨tg, .fz od u kvs⟩)) → g (e y) ρ0 (up A a ⟨tg, .fz od u kvs⟩) fun ρ1 A1 => tt ρ1 A1 fun b ρ2 A2 => if b = true then te ρ2 A2 fun u ρ3 A3 => esc u ρ3 A3 Kt else Kf ρ2 A2)
    (q : k (.lst ((ks.filter P).map F)) (merge vs 0 ρ ρ0) A) : wLock (wLc (iAny (wFld C f (wVar 0))) g tt te vs) ρ A k := by
  refine ⟨a, tg, kvs, hA, fun od u => it_any (fld0 hρ (up_other h0 hA nofun) hl (it_fz up_same ?_))⟩
  rw [hk, hw]
  refine lcGo_map (by simp [chkF, up_same]) ρ1 ks [] (st od u) ⟨up_same, ?_⟩
  rw [up_back hA]
  simpa using q
end
section
variable {c : Cs} {i : Nat} {l l' : Lc} {h h' : Hv} {A : Ah} {K : U → Ah → Prop}
def Hv.linked (h : Hv) (t : Int) : Bool := !((h.stand.map (·.1)).filter fun k => !(((aget h.stand k).bind fun x => aget x.links (h.number, t)).getD []).isEmpty).isEmpty
def Hv.isLent (h : Hv) (t : Int) : Bool := !((h.lent.map (·.1)).filter fun o => decide ((aget h.lent o).getD 0 = t)).isEmpty
def Hv.held (h : Hv) (t : Int) : Bool := decide (0 < (aget h.own t).getD 0) || h.isLent t || h.linked t
theorem held_ok {t : Int} (r : HR c i l h A) (ho : (aget h.own t).isSome) (k : K (.d (.bl (h.held t))) A) : p_Things_is_held c [.ref (l .things), .int t] A K := by
  have h1 := r.at .things rfl
  have h2 := r.at .own rfl
  have h3 := r.at .lent rfl
  have h4 := r.at .stand rfl
  obtain ⟨n, en⟩ := Option.isSome_iff_exists.mp ho
  -- the second half: who has it linked
  have half : ∀ (d : WD), d.rt = K → h.held t = h.linked t → sSeq (sSet 2 (wTup (wCons (wFld c.Things "number" (wVar 0)) (wCons (wVar 1) wNil)))) (sRet (wBin (wEqB true) (wLock (wLc (iAny (wFld c.Things "stand" (wVar 0))) (gNm 3) (tB (wBin (wEqB true) (wMt "dict" mGet2 (wFld c.Thing "links" (wBin wIx (wFld c.Things "stand" (wVar 0)) (wVar 3))) (uCons (wVar 2) (uCons (wLst wNil) uNil))) (wLst wNil))) (wVar 3) [3])) (wLst wNil))) d [some (.d (.ref (l .things))), some (.d (.int t)), none, none] A := fun d hd hh => by
    refine seq_ok (ev_tup (eva_cons (ev_fld (ev_var rfl) h1 lkT_number) (eva_cons (ev_var rfl) eva_nil)) le2 _ ?_)
    show wLock _ _ _ _
    refine lcK (e := D.int) (ks := h.stand.map (·.1)) (P := fun k => !(((aget h.stand k).bind fun x => aget x.links (h.number, t)).getD []).isEmpty) (F := D.int) [some (.d (.ref (l .things))), some (.d (.int t)), some (.d (eH (h.number, t))), none] (fun y => [some (.d (.ref (l .things))), some (.d (.int t)), some (.d (eH (h.number, t))), some (.d (.int y))]) rfl h1 lkT_stand h4 keys_xStand rfl (fun od u y hy => ⟨rfl, fun Kt Kf q => ?_⟩) ?_
    · obtain ⟨x, ex⟩ := aget_of_mem hy
      have h5 := r.at (.thing y) (b := .ins c.Thing (kTh.zip [.int x.worth, .ref (l (.links y))])) (by simp [M, ex])
      have h6 := r.at (.links y) (b := .dct (x.links.map (xLinks l y))) (by simp [M, ex])
      have g1 := up_otherT (z := ⟨⟨i, Pt.stand.code⟩, .fz od u (h.stand.map (xStand l))⟩) h1 h4 (by simp [Pt.code])
      have g5 := up_otherT (z := ⟨⟨i, Pt.stand.code⟩, .fz od u (h.stand.map (xStand l))⟩) h5 h4 (by simp [Pt.code])
      have g6 := up_otherT (z := ⟨⟨i, Pt.stand.code⟩, .fz od u (h.stand.map (xStand l))⟩) h6 h4 (by simp [Pt.code])
      simp only [ex, Option.bind_some] at q
      have E : Ev (wFld c.Thing "links" (wBin wIx (wFld c.Things "stand" (wVar 0)) (wVar 3))) [some (.d (.ref (l .things))), some (.d (.int t)), some (.d (eH (h.number, t))), some (.d (.int y))] (up A (l .stand) ⟨⟨i, Pt.stand.code⟩, .fz od u (h.stand.map (xStand l))⟩) (.ref (l (.links y))) :=
        ev_fld (ev_ixF (ev_fld (ev_var rfl) g1 lkT_stand) up_same (ev_var (i := 3) (x := .int y) rfl) keyIn_xStand (by rw [dget_xStand, ex]; rfl)) g5 lkTh_links
      refine nm_ok (tB_ok (bin_ok (mt_ok (E _ ?_))))
      refine ⟨tyU_dct g6, _, rfl, Nat.zero_le _, ?_⟩
      dsimp only [uNil, rd]
      refine (get2_iff g6).mpr ⟨keyIn_xLinks, ?_⟩
      rw [dget_xLinks]
      cases eu : aget x.links (h.number, t) with
      | none =>
        refine ⟨Nat.zero_le _, ne_nil (xs := []) rfl rfl (shaped_ints []) ⟨_, rfl, ?_⟩⟩
        rw [eu] at q
        simpa using q
      | some us =>
        have h7 := r.at (.link y (h.number, t)) (b := .lst (us.map D.int)) (by simp [M, ex, eu])
        have g7 := up_otherT (z := ⟨⟨i, Pt.stand.code⟩, .fz od u (h.stand.map (xStand l))⟩) h7 h4 (by simp [Pt.code])
        refine ⟨Nat.zero_le _, ne_nil (xs := us.map D.int) (by simp [lstOf, obOf, g7]) (pures_ints us) (shaped_ints us) ⟨_, rfl, ?_⟩⟩
        rw [eu] at q
        cases us with
        | nil => simpa using q
        | cons u us =>
          simp only [Option.getD_some, List.isEmpty_cons, Bool.not_false, if_true, List.map_cons] at q ⊢
          exact ⟨_, rfl, q⟩
    · refine ⟨Nat.zero_le _, ne_nil rfl (pures_ints _) (shaped_ints _) ?_⟩
      rw [hh] at k
      show d.rt _ _
      rw [hd]
      simpa [Hv.linked] using k
  refine ⟨rfl, seq_ok (if_ok (or_ok (tB_ok (bin_ok ?_))))⟩
  have E : Ev (wBin wIx (wFld c.Things "own" (wVar 0)) (wVar 1)) [some (.d (.ref (l .things))), some (.d (.int t)), none, none] A (.int n) :=
    ev_ixD (ev_fld (ev_var rfl) h1 lkT_own) h2 (ev_var (i := 1) (x := .int t) rfl) keyIn_xInt (by rw [dget_xInt, en]; rfl)
  refine E _ ((wGt_int _ _).mpr ⟨_, rfl, ?_⟩)
  by_cases hn : 0 < n
  · simp only [hn, decide_true, if_true]
    show K _ _
    have : h.held t = true := by simp [Hv.held, en, hn]
    rw [this] at k
    exact k
  · simp only [hn, decide_false, Bool.false_eq_true, if_false]
    show wLock _ _ _ _
    refine lcK (e := eH) (ks := h.lent.map (·.1)) (P := fun o => decide ((aget h.lent o).getD 0 = t)) (F := eH) [some (.d (.ref (l .things))), some (.d (.int t)), none, none] (fun y => [some (.d (.ref (l .things))), some (.d (.int t)), none, some (.d (eH y))]) rfl h1 lkT_lent h3 keys_xHI rfl (fun od u y hy => ⟨rfl, fun Kt Kf q => ?_⟩) ?_
    · obtain ⟨v, ev⟩ := aget_of_mem hy
      have g1 := up_otherT (z := ⟨⟨i, Pt.lent.code⟩, .fz od u (h.lent.map xHI)⟩) h1 h3 (by simp [Pt.code])
      rw [ev] at q
      have E : Ev (wBin wIx (wFld c.Things "lent" (wVar 0)) (wVar 3)) [some (.d (.ref (l .things))), some (.d (.int t)), none, some (.d (eH y))] (up A (l .lent) ⟨⟨i, Pt.lent.code⟩, .fz od u (h.lent.map xHI)⟩) (.int v) :=
        ev_ixF (ev_fld (ev_var rfl) g1 lkT_lent) up_same (ev_var (i := 3) (x := eH y) rfl) keyIn_xHI (by rw [dget_xHI, ev]; rfl)
      refine nm_ok (tB_ok (bin_ok (E _ ⟨_, rfl, (wEq_int false v t).mpr ⟨_, rfl, ?_⟩⟩)))
      simp only [Option.getD_some] at q
      by_cases hv : v = t
      · simp only [hv, decide_true, if_true, Bool.false_eq_true, if_false] at q ⊢
        exact ⟨_, rfl, q⟩
      · simp only [hv, decide_false, Bool.false_eq_true, if_false] at q ⊢
        exact q
    · refine ⟨Nat.zero_le _, ne_nil rfl (pures_hds _) (shaped_hds _) ⟨_, rfl, ?_⟩⟩
      cases hl : h.isLent t with
      | true =>
        have e1 : (!(List.map eH ((h.lent.map (·.1)).filter fun o => decide ((aget h.lent o).getD 0 = t))).isEmpty) = true := by simpa [Hv.isLent] using hl
        simp only [if_true, e1]
        show K _ _
        have : h.held t = true := by simp [Hv.held, hl]
        rw [this] at k
        exact k
      | false =>
        have e1 : (!(List.map eH ((h.lent.map (·.1)).filter fun o => decide ((aget h.lent o).getD 0 = t))).isEmpty) = false := by simpa [Hv.isLent] using hl
        simp only [if_true, e1, Bool.false_eq_true, if_false]
        exact half _ rfl (by simp [Hv.held, en, hn, hl])
end
end Dn

namespace Dn
open PySem L2 PyProof.Rows PySem.W
section
variable {d : WD} {t u : WS} {ρ : Rho} {A : Ah} {i : Nat} {k : K1}
theorem aget_adel {κ ν : Type} [DecidableEq κ] (m : List (κ × ν)) (k k' : κ) : aget (adel m k) k' = if k' = k then none else aget m k' := by
  induction m with
  | nil => simp [aget, adel]
  | cons p m ih =>
    unfold adel at ih ⊢
    by_cases hp : p.1 = k
    · rw [List.filter_cons_of_neg (by simpa using hp), ih]
      by_cases hk : k' = k
      · simp [hk]
      · have : ¬ p.1 = k' := fun e => hk (by rw [← e, hp])
        simp [hk, aget, List.find?_cons, this]
    · rw [List.filter_cons_of_pos (by simpa using hp)]
      by_cases hk' : p.1 = k'
      · have : ¬ k' = k := fun e => hp (by rw [hk', e])
        simp [aget, List.find?_cons, hk', this]
      · have e : ∀ r, aget (p :: r) k' = aget r k' := fun r => by simp [aget, List.find?_cons, hk']
        rw [e, e, ih]
theorem dpop_some {a : Addr} {tg : Tag} {kvs : List (D × D)} {z w : D} {more : List U} (h : A a = some ⟨tg, .dct kvs⟩) (hm : more = [] ∨ ∃ y, more = [y]) (ki : KeyIn z kvs) (e : dget kvs z = some w) (q : k (.d w) ρ (up A a ⟨tg, .dct (ddel kvs z)⟩)) : mDPop (.d (.ref a)) (.d z :: more) ρ A k := by
  refine ⟨z, more, kvs, rfl, hm, by simp [dctOf, obOf, h], ki, ?_⟩
  rw [e]
  exact ⟨_, h, q⟩
theorem dpop_none {a : Addr} {tg : Tag} {kvs : List (D × D)} {z : D} {y : U} (h : A a = some ⟨tg, .dct kvs⟩) (ki : KeyIn z kvs) (e : dget kvs z = none) (q : k y ρ A) : mDPop (.d (.ref a)) [.d z, y] ρ A k := by
  refine ⟨z, [y], kvs, rfl, .inr ⟨_, rfl⟩, by simp [dctOf, obOf, h], ki, ?_⟩
  rw [e]
  exact ⟨_, rfl, q⟩
theorem call1 {te : WE} {w : List U → WE} {x : D} (he : Ev te ρ A x) (q : w [.d x] ρ A k) : wCall w (uCons te uNil) ρ A k := he _ q
theorem yes_ok {X Y : KS} (h : X ρ A) : wYes ρ A (fun b ρ2 A2 => if b = true then X ρ2 A2 else Y ρ2 A2) := by
  show if true = true then X ρ A else Y ρ A
  rw [if_pos rfl]
  exact h
theorem adel_len {κ ν : Type} [DecidableEq κ] (m : List (κ × ν)) (k : κ) : (adel m k).length ≤ m.length := List.length_filter_le _ _
end
section
variable {c : Cs} {i : Nat} {l l' : Lc} {h h' : Hv} {A : Ah} {K : U → Ah → Prop}
theorem HR.delStand {t : Int} (r : HR c i l h A) : HR c i l { h with stand := adel h.stand t } (up A (l .stand) ⟨⟨i, Pt.stand.code⟩, .dct ((adel h.stand t).map (xStand l))⟩) := by
  refine r.set .stand rfl (fun p z n hz => ?_) (fun z e => by cases e; rfl)
  cases p with
  | stand => exact absurd rfl n
  | thing k =>
    have hz' : (aget (adel h.stand t) k).map (fun x => Ob.ins c.Thing (kTh.zip [.int x.worth, .ref (l (.links k))])) = some z := hz
    rw [aget_adel] at hz'
    by_cases e : k = t
    · rw [if_pos e] at hz'; cases hz'
    · rw [if_neg e] at hz'; exact hz'
  | links k =>
    have hz' : (aget (adel h.stand t) k).map (fun x => Ob.dct (x.links.map (xLinks l k))) = some z := hz
    rw [aget_adel] at hz'
    by_cases e : k = t
    · rw [if_pos e] at hz'; cases hz'
    · rw [if_neg e] at hz'; exact hz'
  | link k q =>
    have hz' : ((aget (adel h.stand t) k).bind fun x => aget x.links q).map (fun us => Ob.lst (us.map D.int)) = some z := hz
    rw [aget_adel] at hz'
    by_cases e : k = t
    · rw [if_pos e] at hz'; cases hz'
    · rw [if_neg e] at hz'; exact hz'
  | _ => exact hz
/-- what a thing that goes held elsewhere -/
def Th.held (x : Th) (number : Int) : List (Hd × Int) := ((sortK eH (x.links.map (·.1))).filter fun q => !decide (q.1 = number)).flatMap fun q => ((aget x.links q).getD []).map fun u => (q, u)
def Hv.goes (s : List (Hd × Int) × Hv) (t : Int) : List (Hd × Int) × Hv :=
  (s.1 ++ ((aget s.2.stand t).getD ⟨0, []⟩).held s.2.number, { s.2 with stand := adel s.2.stand t, own := adel s.2.own t })
def Hv.letGo (h : Hv) (ts : List Int) : List (Hd × Int) × Hv := ts.foldl Hv.goes ([], h)
/-- self.tell: notes, turn -/
theorem turn_ok (r : HR c i l h A) (f : h.Fits) (fl : h.untold.length + h.asks.length + h.drops.length < sizeLine) (k : K (.lst (h.letters.map eLt)) A) : p_House_turn c [.ref (l .house)] A K := by
  have h1 := r.at .house rfl
  refine ⟨rfl, ret_ok ⟨_, rfl, l .house, _, _, rfl, h1, lkH_m_letters, letters_ok r f fl k⟩⟩
theorem notes_ok (r : HR c i l h A) (ft : h.told.length ≤ sizeLine) (k : K (.lst ((sortK eH (h.told.map (·.1))).map eH)) A) : p_House_notes c [.ref (l .house)] A K := by
  have h1 := r.at .house rfl
  have h2 := r.at .told rfl
  exact ⟨rfl, ret_ok (callFld rfl h1 lkH_told (sorted_dct h2 (e := eH) keys_xSetH (canSort_hds (by simpa using ft)) k))⟩
theorem things_ok (r : HR c i l h A) (f : h.Fits) (k : K (.lst ((sortK D.int (h.stand.map (·.1))).map fun t => .tup [.int t, .int (((aget h.stand t).map fun (x : Th) => x.worth).getD 0)])) A) : p_House_things c [.ref (l .house)] A K := by
  have h1 := r.at .house rfl
  have h2 := r.at .things rfl
  have h3 := r.at .stand rfl
  refine ⟨rfl, ret_ok (it_any (call1 (ev_fld (ev_fld (ev_var rfl) h1 lkH_own) h2 lkT_stand) (sorted_dct h3 (e := D.int) keys_xStand (canSort_ints (by simpa using Nat.le_of_lt f.stand)) (it_lst ?_))))⟩
  refine lcGo_all (ρ := [some (.d (.ref (l .house))), none]) (F := fun t => .tup [.int t, .int (((aget h.stand t).map fun (x : Th) => x.worth).getD 0)]) trivial (fun t => [some (.d (.ref (l .house))), some (.d (.int t))]) _ (fun t ht => ⟨rfl, fun Kt Kf q => ?_⟩) k
  rw [sortK_mem] at ht
  obtain ⟨x, ex⟩ := aget_of_mem ht
  have h4 := r.at (.thing t) (b := .ins c.Thing (kTh.zip [.int x.worth, .ref (l (.links t))])) (by simp [M, ex])
  have E : Ev (wTup (wCons (wVar 1) (wCons (wFld c.Thing "worth" (wBin wIx (wFld c.Things "stand" (wFld c.House "own" (wVar 0))) (wVar 1))) wNil))) [some (.d (.ref (l .house))), some (.d (.int t))] A (.tup [.int t, .int x.worth]) :=
    ev_tup (eva_cons (ev_var rfl) (eva_cons (ev_fld (ev_ixD (ev_fld (ev_fld (ev_var rfl) h1 lkH_own) h2 lkT_stand) h3 (ev_var (i := 1) (x := .int t) rfl) keyIn_xStand (by rw [dget_xStand, ex]; rfl)) h4 lkTh_worth) eva_nil)) le2
  rw [ex] at q
  exact nm_ok (yes_ok (E _ q))
end
end Dn

namespace Dn
open PySem L2 PyProof.Rows PySem.W
section
variable {d : WD} {t u : WS} {ρ : Rho} {A : Ah} {i : Nat} {k : K1} {te : WE}
theorem adel_none {κ ν : Type} [DecidableEq κ] {m : List (κ × ν)} {k : κ} (e : aget m k = none) : adel m k = m := List.filter_eq_self.mpr fun p hp => by simpa using aget_none_mem e p hp
theorem dpop_any {a : Addr} {tg : Tag} {kvs : List (D × D)} {z : D} {y : U} (h : A a = some ⟨tg, .dct kvs⟩) (ki : KeyIn z kvs) (q : ∀ u A', (A' = up A a ⟨tg, .dct (ddel kvs z)⟩ ∨ (dget kvs z = none ∧ A' = A)) → k u ρ A') : mDPop (.d (.ref a)) [.d z, y] ρ A k := by
  cases e : dget kvs z with
  | some w => exact dpop_some h (.inr ⟨_, rfl⟩) ki e (q _ _ (.inl rfl))
  | none => exact dpop_none h ki e (q _ _ (.inr ⟨e, rfl⟩))
/-- d.pop(k, y) as a statement -/
theorem popS {ty ty2 : WE} {a : Addr} {tg : Tag} {kvs : List (D × D)} {z y : D} (hd : Ev te ρ A (.ref a)) (hz : Ev ty ρ A z) (hy : Ev ty2 ρ A y) (h : A a = some ⟨tg, .dct kvs⟩) (ki : KeyIn z kvs)
    (q : ∀ A', (A' = up A a ⟨tg, .dct (ddel kvs z)⟩ ∨ (dget kvs z = none ∧ A' = A)) → d.nx ρ A') : sExpr (wMt "dict" mDPop te (uCons ty (uCons ty2 uNil))) d ρ A :=
  hd _ ⟨tyU_dct h, hz _ (hy _ (dpop_any h ki fun _ A' e => q A' e))⟩
theorem te_eqS {ta tb : WE} {kb : KB} {n : Bool} {a b : Str} (ha : Ev ta ρ A (.str a)) (hb : Ev tb ρ A (.str b)) (q : kb (if n then !decide (a = b) else decide (a = b)) ρ A) : tB (wBin (wEqB n) ta tb) ρ A kb := ha _ (hb _ ((wEq_str n a b).mpr ⟨_, rfl, q⟩))
theorem te_eqI {ta tb : WE} {kb : KB} {n : Bool} {a b : Int} (ha : Ev ta ρ A (.int a)) (hb : Ev tb ρ A (.int b)) (q : kb (if n then !decide (a = b) else decide (a = b)) ρ A) : tB (wBin (wEqB n) ta tb) ρ A kb := ha _ (hb _ ((wEq_int n a b).mpr ⟨_, rfl, q⟩))
theorem ifx_ok {tc : WT} {ta tb : WE} (h : tc ρ A fun b ρ1 A1 => if b = true then ta ρ1 A1 k else tb ρ1 A1 k) : wIf tc ta tb ρ A k := h
theorem lst1 {ta : WA} {x : D} (ha : EvA ta ρ A [x]) (q : k (.lst [x]) ρ A) : wLst ta ρ A k := ha _ ⟨by show 1 ≤ sizeLine; decide, q⟩
end
section
variable {c : Cs} {i : Nat} {l l' : Lc} {h h' : Hv} {A A' : Ah} {K : U → Ah → Prop}
theorem HR.lentDel {q : Hd} (r : HR c i l h A) (e : A' = up A (l .lent) ⟨⟨i, Pt.lent.code⟩, .dct (ddel (h.lent.map xHI) (eH q))⟩ ∨ (dget (h.lent.map xHI) (eH q) = none ∧ A' = A)) : HR c i l { h with lent := adel h.lent q } A' ∧ Frm i A A' := by
  rcases e with rfl | ⟨e, rfl⟩
  · rw [ddel_xHI]
    exact ⟨r.set .lent rfl (fun p z n hz => by cases p <;> first | exact hz | exact absurd rfl n) (fun z e => by cases e; rfl), Frm.upd (r.at .lent rfl) rfl⟩
  · rw [dget_xHI] at e
    rw [adel_none (by simpa using e)]
    exact ⟨r, Frm.refl _ _⟩
theorem HR.untoldDel {q : Hd} (r : HR c i l h A) (e : A' = up A (l .untold) ⟨⟨i, Pt.untold.code⟩, .dct (ddel (h.untold.map xHI) (eH q))⟩ ∨ (dget (h.untold.map xHI) (eH q) = none ∧ A' = A)) : HR c i l { h with untold := adel h.untold q } A' ∧ Frm i A A' := by
  rcases e with rfl | ⟨e, rfl⟩
  · rw [ddel_xHI]
    exact ⟨r.set .untold rfl (fun p z n hz => by cases p <;> first | exact hz | exact absurd rfl n) (fun z e => by cases e; rfl), Frm.upd (r.at .untold rfl) rfl⟩
  · rw [dget_xHI] at e
    rw [adel_none (by simpa using e)]
    exact ⟨r, Frm.refl _ _⟩
def Hv.hearDrop (h : Hv) (s n : Int) : Hv := { h with lent := adel h.lent (s, n), untold := adel h.untold (s, n) }
theorem hear_drop_ok {s t n : Int} (r : HR c i l h A) (k : ∀ A', HR c i l (h.hearDrop s n) A' → Frm i A A' → K (.lst [eLt (.hDrop s h.number n)]) A') : p_House_hear_drop c [.ref (l .house), .int s, .tup [.int t, .int n]] A K := by
  have h1 := r.at .house rfl
  have h2 := r.at .things rfl
  have h3 := r.at .lent rfl
  have E : ∀ A, Ev (wTup (wCons (wVar 1) (wCons (wBin wIx (wVar 2) (wC (.int 1))) wNil))) [some (.d (.ref (l .house))), some (.d (.int s)), some (.d (.tup [.int t, .int n]))] A (eH (s, n)) := fun A =>
    ev_tup (eva_cons (ev_var rfl) (eva_cons (ev_ixT (ev_var (i := 2) rfl) (by simp [atI, ixN])) eva_nil)) le2
  refine ⟨rfl, seq_ok (popS (ev_fld (ev_fld (ev_var rfl) h1 lkH_own) h2 lkT_lent) (E A) ev_c h3 keyIn_xHI fun A1 e1 => ?_)⟩
  obtain ⟨r1, f1⟩ := r.lentDel e1
  have g1 := r1.at .house rfl
  have g3 := r1.at .untold rfl
  refine seq_ok (popS (ev_fld (ev_var rfl) g1 lkH_untold) (E A1) ev_c g3 keyIn_xHI fun A2 e2 => ?_)
  obtain ⟨r2, f2⟩ := r1.untoldDel e2
  have q1 := r2.at .house rfl
  refine ret_ok (lst1 (eva_cons (ev_tup (eva_cons (ev_var rfl) (eva_cons (ev_tup (eva_cons (ev_fld (ev_var rfl) q1 lkH_number) (eva_cons ev_c (eva_cons ev_c (eva_cons (ev_ixT (ev_var (i := 2) rfl) (by simp [atI, ixN]; rfl)) (eva_cons ev_c eva_nil))))) le5) eva_nil)) le2) eva_nil) ?_)
  exact k A2 r2 (f1.trans f2)
/-- what a swept, or standing, thing's owner does for an ask -/
def Hv.answer (h : Hv) (t : Int) (w : Wh) : An × Hv := match w with
  | .give to => (.val 0, if (aget h.stand t).isSome then h.lend t to else h)
  | .call n _ => if (aget h.stand t).isSome then (.val (h.worth t n), h.setWorth t (h.worth t n)) else (.dead, h)
theorem answer_ok {t : Int} {w : Wh} (r : HR c i l h A) (f : h.Fits) (hown : ∀ t, (aget h.stand t).isSome → (aget h.own t).isSome) (k : ∀ A', HR c i l (h.answer t w).2 A' → Frm i A A' → K (.d (eAn (h.answer t w).1)) A') : p_House_answer c [.ref (l .house), .int t, eWh w] A K := by
  have h1 := r.at .house rfl
  have h2 := r.at .things rfl
  have h3 := r.at .stand rfl
  have ix0 : ∀ (x : Str), (∃ r, eWh w = .tup (.str x :: r)) → Ev (wBin wIx (wVar 2) (wC (.int 0))) [some (.d (.ref (l .house))), some (.d (.int t)), some (.d (eWh w))] A (.str x) := fun x ⟨r, e⟩ => ev_ixT (ev_var (i := 2) (x := .tup (.str x :: r)) (by rw [e]; rfl)) (by simp [atI, ixN])
  have cg : ¬ ("call" : Str) = "give" := by decide +kernel
  have ins : ∀ (kk : KB), kk (aget h.stand t).isSome [some (.d (.ref (l .house))), some (.d (.int t)), some (.d (eWh w))] A → tB (wBin (wIn false) (wVar 1) (wFld c.Things "stand" (wFld c.House "own" (wVar 0)))) [some (.d (.ref (l .house))), some (.d (.int t)), some (.d (eWh w))] A kk := fun kk q => by
    refine tB_ok (bin_ok (ev_var (i := 1) (x := .int t) rfl _ ((ev_fld (ev_fld (ev_var (i := 0) rfl) h1 lkH_own) h2 lkT_stand) _ ((in_dct h3 false _).mpr ⟨keyIn_xStand, _, rfl, ?_⟩))))
    simpa [neg, dget_xStand] using q
  cases w with
  | give to =>
    refine ⟨rfl, seq_ok (if_ok (te_eqS (ix0 "give" ⟨_, rfl⟩) ev_c ?_))⟩
    simp only [decide_true, if_true, Bool.false_eq_true, if_false]
    refine seq_ok (if_ok (ins _ ?_))
    simp only [Hv.answer] at k
    cases hs : (aget h.stand t).isSome with
    | true =>
      simp only [hs, if_true] at k ⊢
      refine expr_ok ?_
      have Ea : EvA (wCons (wVar 1) (wCons (wBin wIx (wVar 2) (wC (.int 1))) wNil)) [some (.d (.ref (l .house))), some (.d (.int t)), some (.d (eWh (.give to)))] A [.int t, .int to] := eva_cons (ev_var rfl) (eva_cons (ev_ixT (xs := [.str "give", .int to]) (ev_var (i := 2) rfl) (by simp [atI, ixN])) eva_nil)
      refine ⟨_, rfl, l .house, _, _, rfl, h1, lkH_m_lend, Ea _ (lend_ok r f (fun _ => hown t hs) fun A' r' f' => ?_)⟩
      exact k A' r' f'
    | false =>
      simp only [hs, Bool.false_eq_true, if_false] at k ⊢
      exact k A r (Frm.refl _ _)
  | call n m =>
    refine ⟨rfl, seq_ok (if_ok (te_eqS (ix0 "call" ⟨_, rfl⟩) ev_c ?_))⟩
    simp only [cg, decide_false, Bool.false_eq_true, if_false]
    simp only [Hv.answer] at k
    refine ret_ok (ifx_ok (ins _ ?_))
    cases hs : (aget h.stand t).isSome with
    | true =>
      simp only [hs, if_true] at k ⊢
      have Ea : EvA (wCons (wVar 1) (wCons (wBin wIx (wVar 2) (wC (.int 1))) wNil)) [some (.d (.ref (l .house))), some (.d (.int t)), some (.d (eWh (.call n m)))] A [.int t, .int n] := eva_cons (ev_var rfl) (eva_cons (ev_ixT (xs := [.str "call", .int n, .int m]) (ev_var (i := 2) rfl) (by simp [atI, ixN])) eva_nil)
      exact ⟨_, rfl, l .house, _, _, rfl, h1, lkH_m_add, Ea _ (add_ok r hs fun A' r' f' => k A' r' f')⟩
    | false =>
      simp only [hs, Bool.false_eq_true, if_false] at k ⊢
      exact k A r (Frm.refl _ _)
end
end Dn

namespace Dn
open PySem L2 PyProof.Rows PySem.W
section
variable {d : WD} {t u : WS} {ρ : Rho} {A : Ah} {i : Nat} {k : K1} {te to ti tv : WE}
theorem te_inD {ta tb : WE} {kb : KB} {n : Bool} {z : D} {a : Addr} {tg : Tag} {kvs : List (D × D)} (ha : Ev ta ρ A z) (hb : Ev tb ρ A (.ref a)) (h : A a = some ⟨tg, .dct kvs⟩) (ki : KeyIn z kvs) (q : kb (neg n (dget kvs z).isSome) ρ A) : tB (wBin (wIn n) ta tb) ρ A kb := ha _ (hb _ ((in_dct h n z).mpr ⟨ki, _, rfl, q⟩))
theorem tup3 {i j m : Nat} {x y z : D} {kk : KS} (q : kk (((ρ.set i (some (.d x))).set j (some (.d y))).set m (some (.d z))) A) : gTup 3 (gsCons (gNm i) (gsCons (gNm j) (gsCons (gNm m) gsNil))) (.tup [x, y, z]) ρ A kk :=
  ⟨⟨_, rfl, rfl⟩, _, rfl, x, [y, z], rfl, y, [z], rfl, z, [], rfl, rfl, q⟩
theorem asgD {g : WG} {x : D} (he : Ev te ρ A x) (q : g x ρ A d.nx) : sAsg g te d ρ A := he _ q
/-- d[i] = v, all worth something -/
theorem sixD {z y : D} {a : Addr} {tg : Tag} {kvs : List (D × D)} (hv : Ev tv ρ A y) (ho : Ev to ρ A (.ref a)) (hi : Ev ti ρ A z) (h : A a = some ⟨tg, .dct kvs⟩) (ki : KeyIn z kvs) (hl : kvs.length < sizeLine) (q : d.nx ρ (up A a ⟨tg, .dct (dput kvs z y)⟩)) : sIx to ti tv d ρ A :=
  hv _ (ho _ ⟨rfl, hi _ ⟨z, rfl, (setIx_dct h).mpr ⟨ki, hl, q⟩⟩⟩)
/-- d[i] = v, v any: its end is given -/
theorem sixE {z : D} {a : Addr} (hv : (∀ (y : D) (A' : Ah), (Ev to ρ A' (.ref a) ∧ Ev ti ρ A' z ∧ ∃ tg kvs, A' a = some ⟨tg, .dct kvs⟩ ∧ KeyIn z kvs ∧ kvs.length < sizeLine ∧ d.nx ρ (up A' a ⟨tg, .dct (dput kvs z y)⟩)) → (fun (u : U) (ρ1 : Rho) (A1 : Ah) => esc u ρ1 A1 fun y ρ2 A2 => to ρ2 A2 fun x ρ3 A3 => x.own = false ∧ ti ρ3 A3 fun w ρ4 A4 => ∃ j, w = .d j ∧ setIx x j y ρ4 A4 d.nx) (.d y) ρ A') → tv ρ A fun u ρ1 A1 => esc u ρ1 A1 fun y ρ2 A2 => to ρ2 A2 fun x ρ3 A3 => x.own = false ∧ ti ρ3 A3 fun w ρ4 A4 => ∃ j, w = .d j ∧ setIx x j y ρ4 A4 d.nx) : sIx to ti tv d ρ A :=
  hv fun y A' ⟨ho, hi, tg, kvs, h, ki, hl, q⟩ => ho _ ⟨rfl, hi _ ⟨z, rfl, (setIx_dct h).mpr ⟨ki, hl, q⟩⟩⟩
end
section
variable {c : Cs} {i : Nat} {l l' : Lc} {h h' : Hv} {A A' : Ah} {K : U → Ah → Prop}
def Hv.hearAsk (h : Hv) (s n t : Int) (w : Wh) : An × Hv := match aget h.done (s, n) with
  | some a => (a, h)
  | none => ((h.answer t w).1, { (h.answer t w).2 with done := aput (h.answer t w).2.done (s, n) (h.answer t w).1 })
theorem answer_done {t : Int} {w : Wh} : (h.answer t w).2.done = h.done := by
  cases w with
  | give to =>
    simp only [Hv.answer]
    split
    · unfold Hv.lend
      split
      · rfl
      · split <;> rfl
    · rfl
  | call n m =>
    simp only [Hv.answer]
    split <;> rfl
theorem answer_number {t : Int} {w : Wh} : (h.answer t w).2.number = h.number := by
  cases w with
  | give to =>
    simp only [Hv.answer]
    split
    · unfold Hv.lend
      split
      · rfl
      · split <;> rfl
    · rfl
  | call n m =>
    simp only [Hv.answer]
    split <;> rfl
theorem hear_ask_ok {s n t : Int} {w : Wh} (r : HR c i l h A) (f : h.Fits) (hown : ∀ t, (aget h.stand t).isSome → (aget h.own t).isSome) (k : ∀ A', HR c i l (h.hearAsk s n t w).2 A' → Frm i A A' → K (.lst [eLt (.hAsk s h.number n (h.hearAsk s n t w).1)]) A') :
    p_House_hear_ask c [.ref (l .house), .int s, .tup [.int n, .int t, eWh w]] A K := by
  have h1 := r.at .house rfl
  have h2 := r.at .done rfl
  have E : ∀ x6 A, Ev (wTup (wCons (wVar 1) (wCons (wVar 3) wNil))) [some (.d (.ref (l .house))), some (.d (.int s)), some (.d (.tup [.int n, .int t, eWh w])), some (.d (.int n)), some (.d (.int t)), some (.d (eWh w)), x6] A (eH (s, n)) := fun x6 A =>
    ev_tup (eva_cons (ev_var rfl) (eva_cons (ev_var rfl) eva_nil)) le2
  have fin : ∀ (d : WD) A' h' a, d.rt = K → HR c i l h' A' → h'.number = h.number → aget h'.done (s, n) = some a → (K (.lst [eLt (.hAsk s h.number n a)]) A') → sSeq (sSet 6 (wBin wIx (wFld c.House "done" (wVar 0)) (wTup (wCons (wVar 1) (wCons (wVar 3) wNil))))) (sRet (wLst (wCons (wTup (wCons (wVar 1) (wCons (wTup (wCons (wFld c.House "number" (wVar 0)) (wCons (wC (.str "heard")) (wCons (wC (.str "ask")) (wCons (wVar 3) (wCons (wVar 6) wNil)))))) wNil))) wNil))) d [some (.d (.ref (l .house))), some (.d (.int s)), some (.d (.tup [.int n, .int t, eWh w])), some (.d (.int n)), some (.d (.int t)), some (.d (eWh w)), none] A' := fun d A' h' a hd r' hnum ea q => by
    have g1 := r'.at .house rfl
    have g2 := r'.at .done rfl
    have E2 : Ev (wBin wIx (wFld c.House "done" (wVar 0)) (wTup (wCons (wVar 1) (wCons (wVar 3) wNil)))) [some (.d (.ref (l .house))), some (.d (.int s)), some (.d (.tup [.int n, .int t, eWh w])), some (.d (.int n)), some (.d (.int t)), some (.d (eWh w)), none] A' (eAn a) :=
      ev_ixD (ev_fld (ev_var rfl) g1 lkH_done) g2 (E none A') keyIn_xDone (by rw [dget_xDone, ea]; rfl)
    refine seq_ok (E2 _ (ret_ok (lst1 (eva_cons (ev_tup (eva_cons (ev_var rfl) (eva_cons (ev_tup (eva_cons (ev_fld (ev_var rfl) g1 lkH_number) (eva_cons ev_c (eva_cons ev_c (eva_cons (ev_var rfl) (eva_cons (ev_var rfl) eva_nil))))) le5) eva_nil)) le2) eva_nil) ?_)))
    show d.rt _ _
    rw [hd, hnum]
    exact q
  refine ⟨rfl, seq_ok (asgD (ev_var (i := 2) rfl) (tup3 ?_))⟩
  refine seq_ok (if_ok (te_inD (n := true) (E none A) (ev_fld (ev_var rfl) h1 lkH_done) h2 keyIn_xDone ?_))
  rw [dget_xDone, Option.isSome_map]
  unfold Hv.hearAsk at k
  cases e : aget h.done (s, n) with
  | some a =>
    simp only [e] at k
    simp only [neg, Option.isSome_some, if_true, Bool.not_true, Bool.false_eq_true, if_false]
    exact fin _ A h a rfl r rfl e (k A r (Frm.refl _ _))
  | none =>
    simp only [e] at k
    simp only [neg, Option.isSome_none, if_true, Bool.not_false]
    have Ea : EvA (wCons (wVar 4) (wCons (wVar 5) wNil)) [some (.d (.ref (l .house))), some (.d (.int s)), some (.d (.tup [.int n, .int t, eWh w])), some (.d (.int n)), some (.d (.int t)), some (.d (eWh w)), none] A [.int t, eWh w] := eva_cons (ev_var rfl) (eva_cons (ev_var rfl) eva_nil)
    refine sixE (a := l .done) (z := eH (s, n)) fun hk => ?_
    refine ⟨_, rfl, l .house, _, _, rfl, h1, lkH_m_answer, Ea _ (answer_ok r f hown fun A' r' f' => hk (eAn (h.answer t w).1) A' ?_)⟩
    have g1 := r'.at .house rfl
    have g2 := r'.at .done rfl
    refine ⟨ev_fld (ev_var rfl) g1 lkH_done, E none A', _, _, g2, keyIn_xDone, by rw [answer_done]; simpa using f.done, ?_⟩
    rw [show dput ((h.answer t w).2.done.map xDone) (eH (s, n)) (eAn (h.answer t w).1) = (aput (h.answer t w).2.done (s, n) (h.answer t w).1).map xDone from dput_xDone]
    have r2 : HR c i l { (h.answer t w).2 with done := aput (h.answer t w).2.done (s, n) (h.answer t w).1 } _ :=
      r'.set .done (b := .dct ((aput (h.answer t w).2.done (s, n) (h.answer t w).1).map xDone)) rfl (fun p z n hz => by cases p <;> first | exact hz | exact absurd rfl n) (fun z e => by cases e; rfl)
    dsimp only
    exact fin _ _ _ (h.answer t w).1 rfl r2 answer_number (by rw [aget_aput, if_pos rfl]) (k _ r2 (f'.trans (Frm.upd g2 rfl)))
end
end Dn

namespace Dn
open PySem L2 PyProof.Rows PySem.W
section
variable {c : Cs} {i : Nat} {l l' : Lc} {h h' : Hv} {A A' : Ah} {K : U → Ah → Prop}
def Hv.hearUnit (h : Hv) (s t u : Int) : Hv := if (aget h.met (s, u)).isSome then h else ({ h with met := aput h.met (s, u) () }).get (s, t) u
theorem get_number {q : Hd} {u : Int} : (h.get q u).number = h.number := by
  unfold Hv.get
  split <;> rfl
theorem hear_unit_ok {s t u : Int} {a : Addr} (r : House c i a h A) (f : h.Fits) (hs : s ≠ h.number) (k : ∀ A', House c i a (h.hearUnit s t u) A' → Frm i A A' → K (.lst [eLt (.hUnit s h.number u)]) A') :
    p_House_hear_unit c [.ref a, .int s, .tup [.int t, .int u]] A K := by
  have fin : ∀ (d : WD) A' h', d.rt = K → House c i a h' A' → h'.number = h.number → (K (.lst [eLt (.hUnit s h.number u)]) A') → sRet (wLst (wCons (wTup (wCons (wVar 1) (wCons (wTup (wCons (wFld c.House "number" (wVar 0)) (wCons (wC (.str "heard")) (wCons (wC (.str "unit")) (wCons (wVar 4) (wCons (wC .non) wNil)))))) wNil))) wNil)) d [some (.d (.ref a)), some (.d (.int s)), some (.d (.tup [.int t, .int u])), some (.d (.int t)), some (.d (.int u))] A' := fun d A' h' hd ⟨l', e', r'⟩ hnum q => by
    have g1 := r'.at .house rfl
    rw [e'] at g1
    refine ret_ok (lst1 (eva_cons (ev_tup (eva_cons (ev_var rfl) (eva_cons (ev_tup (eva_cons (ev_fld (ev_var rfl) g1 lkH_number) (eva_cons ev_c (eva_cons ev_c (eva_cons (ev_var rfl) (eva_cons ev_c eva_nil))))) le5) eva_nil)) le2) eva_nil) ?_)
    show d.rt _ _
    rw [hd, hnum]
    exact q
  obtain ⟨l, rfl, r⟩ := r
  have h1 := r.at .house rfl
  have h2 := r.at .met rfl
  have E : ∀ A, Ev (wTup (wCons (wVar 1) (wCons (wVar 4) wNil))) [some (.d (.ref (l .house))), some (.d (.int s)), some (.d (.tup [.int t, .int u])), some (.d (.int t)), some (.d (.int u))] A (eH (s, u)) := fun A =>
    ev_tup (eva_cons (ev_var rfl) (eva_cons (ev_var rfl) eva_nil)) le2
  refine ⟨rfl, seq_ok (asgD (ev_var (i := 2) rfl) (tup2 ?_))⟩
  refine seq_ok (if_ok (te_inD (n := true) (E A) (ev_fld (ev_var rfl) h1 lkH_units_met) h2 keyIn_xSetH ?_))
  rw [dget_xSetH, Option.isSome_map]
  unfold Hv.hearUnit at k
  cases e : (aget h.met (s, u)).isSome with
  | true =>
    simp only [e, if_true] at k
    simp only [neg, if_true, Bool.not_true, Bool.false_eq_true, if_false]
    exact fin _ A h rfl ⟨l, rfl, r⟩ rfl (k A ⟨l, rfl, r⟩ (Frm.refl _ _))
  | false =>
    simp only [e, Bool.false_eq_true, if_false] at k
    simp only [neg, if_true, Bool.not_false]
    have r1 : HR c i l { h with met := aput h.met (s, u) () } _ :=
      r.set .met (b := .dct ((aput h.met (s, u) ()).map xSetH)) rfl (fun p z n hz => by cases p <;> first | exact hz | exact absurd rfl n) (fun z e => by cases e; rfl)
    refine seq_ok (sixD ev_c (ev_fld (ev_var rfl) h1 lkH_units_met) (E A) h2 keyIn_xSetH (by simpa using f.met) ?_)
    rw [show dput (h.met.map xSetH) (eH (s, u)) (.bl true) = (aput h.met (s, u) ()).map xSetH from dput_xSetH (v := ())]
    have g1 := r1.at .house rfl
    have f1 : Hv.Fits { h with met := h.met } := f
    have Ea : EvA (wCons (wTup (wCons (wVar 1) (wCons (wVar 3) wNil))) (wCons (wVar 4) wNil)) [some (.d (.ref (l .house))), some (.d (.int s)), some (.d (.tup [.int t, .int u])), some (.d (.int t)), some (.d (.int u))] (up A (l .met) ⟨⟨i, Pt.met.code⟩, .dct ((aput h.met (s, u) ()).map xSetH)⟩) [eH (s, t), .int u] :=
      eva_cons (ev_tup (eva_cons (ev_var rfl) (eva_cons (ev_var rfl) eva_nil)) le2) (eva_cons (ev_var rfl) eva_nil)
    dsimp only
    refine expr_ok ?_
    refine ⟨_, rfl, l .house, _, _, rfl, g1, lkH_m_get_unit, Ea _ (get_okF (h := { h with met := aput h.met (s, u) () }) ⟨l, rfl, r1⟩ f.own f.units f.unit (fun e => absurd e hs) fun A' r' f' => ?_)⟩
    exact fin _ A' _ rfl r' (get_number.trans rfl) (k A' r' ((Frm.upd h2 rfl).trans f'))
end
end Dn

namespace Dn
open PySem L2 PyProof.Rows PySem.W
section
variable {c : Cs} {i : Nat} {l l' : Lc} {A A' : Ah} {K : U → Ah → Prop}
theorem pop1 {ρ : Rho} {k : K1} {te ty : WE} {a : Addr} {tg : Tag} {kvs : List (D × D)} {z w : D} (hd : Ev te ρ A (.ref a)) (hz : Ev ty ρ A z) (h : A a = some ⟨tg, .dct kvs⟩) (ki : KeyIn z kvs) (e : dget kvs z = some w) (q : k (.d w) ρ (up A a ⟨tg, .dct (ddel kvs z)⟩)) : wMt "dict" mDPop te (uCons ty uNil) ρ A k :=
  hd _ ⟨tyU_dct h, hz _ (show mDPop (.d (.ref a)) [.d z] ρ A k from dpop_some h (.inl rfl) ki e q)⟩
/-- some things go (they held nothing) -/
def Hv.without (h : Hv) (ts : List Int) : Hv := { h with stand := ts.foldl adel h.stand, own := ts.foldl adel h.own }
def goBody (c : Cs) : WS := sSeq (sSet 4 (wMt "dict" mDPop (wFld c.Things "stand" (wVar 0)) (uCons (wVar 3) uNil)))
  (sSeq (sExpr (wMt "dict" mDPop (wFld c.Things "own" (wVar 0)) (uCons (wVar 3) uNil)))
  (sFor (iAny (wCall wSorted (uCons (wFld c.Thing "links" (wVar 4)) uNil))) (gNm 5)
  (sIf (tB (wBin (wEqB true) (wBin wIx (wVar 5) (wC (.int 0))) (wFld c.Things "number" (wVar 0))))
  (sExpr (wMt "list" mExtend (wVar 2) (uCons (wLc (iAny (wBin wIx (wFld c.Thing "links" (wVar 4)) (wVar 5))) (gNm 6) wYes (wTup (wCons (wVar 5) (wCons (wVar 6) wNil))) [6]) uNil)))
  sNil)))
theorem mem_adel {κ ν : Type} [DecidableEq κ] {m : List (κ × ν)} {k : κ} {p : κ × ν} (h : p ∈ adel m k) : p ∈ m := (List.mem_filter.mp h).1
theorem go_loop {d : WD} {tl : Addr} {tg : Tag} {xs : List D} (ht : tg.r ≠ i) :
    ∀ (ts : List Int) (h : Hv) (A : Ah) (x3 x4 : Option U), HR c i l h A → (∀ t ∈ ts, (aget h.stand t).isSome ∧ (aget h.own t).isSome) → ts.Nodup → (∀ p ∈ h.stand, p.2.links = []) → A tl = some ⟨tg, .lst xs⟩ →
      (∀ A' x3 x4, HR c i l (h.without ts) A' → Frm i A A' → d.nx [some (.d (.ref (l .things))), some (.d (.ref tl)), some (.lst []), x3, x4, none, none] A') →
      forGo (gNm 3) (goBody c) (chkL (.d (.ref tl)) xs) d (ts.map D.int) [some (.d (.ref (l .things))), some (.d (.ref tl)), some (.lst []), x3, x4, none, none] A
  | [], h, A, x3, x4, r, _, _, _, hA, k => ⟨by simp [chkL, lstOf, obOf, hA], k A x3 x4 r (Frm.refl _ _)⟩
  | t :: ts, h, A, x3, x4, r, hin, nd, hlk, hA, k => by
    refine ⟨by simp [chkL, lstOf, obOf, hA], nm_ok ?_⟩
    obtain ⟨⟨x, ex⟩, ⟨n, en⟩⟩ := And.intro (Option.isSome_iff_exists.mp (hin t List.mem_cons_self).1) (Option.isSome_iff_exists.mp (hin t List.mem_cons_self).2)
    have h1 := r.at .things rfl
    have h2 := r.at .stand rfl
    have r1 := r.delStand (t := t)
    have g1 := r1.at .things rfl
    have g2 := r1.at .own rfl
    have hx : x.links = [] := hlk _ (aget_some ex)
    have h5 := r.at (.thing t) (b := .ins c.Thing (kTh.zip [.int x.worth, .ref (l (.links t))])) (by simp [M, ex])
    have h6 := r.at (.links t) (b := .dct []) (by simp [M, ex, hx])
    have r2 := r1.own (v := adel h.own t)
    have g5 := up_otherT (z := ⟨⟨i, Pt.own.code⟩, .dct ((adel h.own t).map xInt)⟩) (up_otherT (z := ⟨⟨i, Pt.stand.code⟩, .dct ((adel h.stand t).map (xStand l))⟩) h5 h2 (by simp [Pt.code])) g2 (by simp [Pt.code])
    have g6 := up_otherT (z := ⟨⟨i, Pt.own.code⟩, .dct ((adel h.own t).map xInt)⟩) (up_otherT (z := ⟨⟨i, Pt.stand.code⟩, .dct ((adel h.stand t).map (xStand l))⟩) h6 h2 (by simp [Pt.code])) g2 (by simp [Pt.code])
    have fr : Frm i A (up (up A (l .stand) ⟨⟨i, Pt.stand.code⟩, .dct ((adel h.stand t).map (xStand l))⟩) (l .own) ⟨⟨i, Pt.own.code⟩, .dct ((adel h.own t).map xInt)⟩) := (Frm.upd h2 rfl).trans (Frm.upd g2 rfl)
    have nt : t ∉ ts := (List.nodup_cons.mp nd).1
    refine seq_ok (set_ok (pop1 (ev_fld (ev_var (i := 0) rfl) h1 lkT_stand) (ev_var (i := 3) (x := .int t) rfl) h2 keyIn_xStand (by rw [dget_xStand, ex]; rfl) ?_))
    rw [ddel_xStand]
    dsimp only [setV, List.set]
    refine seq_ok (expr_ok (pop1 (ev_fld (ev_var (i := 0) rfl) g1 lkT_own) (ev_var (i := 3) (x := .int t) rfl) g2 keyIn_xInt (by rw [dget_xInt, en]; rfl) ?_))
    rw [ddel_xInt]
    dsimp only
    refine for_ok (it_any (call1 (ev_fld (ev_var (i := 4) rfl) g5 lkTh_links) (sorted_dct g6 (e := eH) (ks := []) rfl (canSort_hds (Nat.zero_le _)) (it_lst ?_))))
    rw [show sortK eH ([] : List Hd) = [] by simp [sortK]]
    refine ⟨trivial, ?_⟩
    dsimp only
    refine go_loop ht ts _ _ _ _ r2 (fun y hy => ?_) (List.nodup_cons.mp nd).2 (fun p hp => hlk p (mem_adel hp)) (fr _ _ hA ht) fun A' x3 x4 r' f' => k A' x3 x4 r' (fr.trans f')
    have ny : ¬ y = t := fun e => nt (e ▸ hy)
    have := hin y (List.mem_cons_of_mem _ hy)
    simp only [aget_adel, if_neg ny]
    exact this
theorem let_go_ok {h : Hv} {ts : List Int} {tl : Addr} {tg : Tag} (r : HR c i l h A) (ht : tg.r ≠ i) (hA : A tl = some ⟨tg, .lst (ts.map D.int)⟩) (hin : ∀ t ∈ ts, (aget h.stand t).isSome ∧ (aget h.own t).isSome) (nd : ts.Nodup) (hlk : ∀ p ∈ h.stand, p.2.links = [])
    (k : ∀ A', HR c i l (h.without ts) A' → Frm i A A' → K (.lst []) A') : p_Things_let_go c [.ref (l .things), .ref tl] A K := by
  refine ⟨rfl, seq_ok (set_ok ⟨Nat.zero_le _, ?_⟩)⟩
  dsimp only [setV]
  refine seq_ok (for_ok (it_any ⟨_, rfl, it_ref hA ?_⟩))
  refine go_loop ht ts h A none none r hin nd hlk hA fun A' x3 x4 r' f' => ?_
  dsimp only
  refine ret_ok ?_
  exact ⟨_, rfl, _, rfl, rfl, k A' r' f'⟩
end
end Dn

namespace Dn
open PySem L2 PyProof.Rows PySem.W
section
variable {c : Cs} {i : Nat} {l l' : Lc} {h : Hv} {A A' : Ah} {K : U → Ah → Prop}
def Hv.free (h : Hv) : List Int := (sortK D.int (h.stand.map (·.1))).filter fun t => !h.held t
def wFree (c : Cs) : WE := wLc (iAny (wCall wSorted (uCons (wFld c.Things "stand" (wVar 0)) uNil))) (gNm 3) (tNot (tB (wMeth c.Things "is_held" (p_Things_is_held c) (wVar 0) (wCons (wVar 3) wNil)))) (wVar 3) [3]
theorem free_ok {x1 x2 x3 : Option U} {k : K1} (r : HR c i l h A) (f : h.stand.length < sizeLine) (hown : ∀ t, (aget h.stand t).isSome → (aget h.own t).isSome)
    (q : k (.lst (h.free.map D.int)) [some (.d (.ref (l .things))), x1, x2, keepD x3] A) : wFree c [some (.d (.ref (l .things))), x1, x2, x3] A k := by
  have h1 := r.at .things rfl
  have h2 := r.at .stand rfl
  refine it_any (call1 (ev_fld (ev_var (i := 0) rfl) h1 lkT_stand) (sorted_dct h2 (e := D.int) keys_xStand (canSort_ints (by simpa using Nat.le_of_lt f)) (it_lst ?_)))
  refine lcGo_map (ρ := [some (.d (.ref (l .things))), x1, x2, none]) (P := fun t => !h.held t) (F := D.int) trivial (fun t => [some (.d (.ref (l .things))), x1, x2, some (.d (.int t))]) _ [] (fun t ht => ⟨rfl, fun Kt Kf q => nm_ok ?_⟩) q
  rw [sortK_mem] at ht
  obtain ⟨x, ex⟩ := aget_of_mem ht
  have Ea : EvA (wCons (wVar 3) wNil) [some (.d (.ref (l .things))), x1, x2, some (.d (.int t))] A [.int t] := eva_cons (ev_var rfl) eva_nil
  show wMeth c.Things "is_held" (p_Things_is_held c) (wVar 0) (wCons (wVar 3) wNil) _ _ _
  refine ⟨_, rfl, l .things, _, _, rfl, h1, lkT_m_is_held, Ea _ (held_ok r (hown t (by rw [ex]; rfl)) ⟨_, rfl, ?_⟩)⟩
  cases hh : h.held t with
  | true => simpa [hh] using q
  | false =>
    simp only [hh, Bool.not_false, if_true] at q ⊢
    exact ⟨_, rfl, q⟩
theorem foldl_adel_get {ν : Type} : ∀ (ts : List Int) (m : List (Int × ν)) (k : Int), aget (ts.foldl adel m) k = if k ∈ ts then none else aget m k
  | [], m, k => by simp
  | t :: ts, m, k => by
    rw [List.foldl_cons, foldl_adel_get ts, aget_adel]
    by_cases h1 : k ∈ ts
    · simp [h1]
    · by_cases h2 : k = t
      · simp [h2]
      · simp [h1, h2]
theorem foldl_adel_mem {ν : Type} : ∀ (ts : List Int) (m : List (Int × ν)) (p : Int × ν), p ∈ ts.foldl adel m → p ∈ m ∧ p.1 ∉ ts
  | [], m, p, h => ⟨h, by simp⟩
  | t :: ts, m, p, h => by
    obtain ⟨h1, h2⟩ := foldl_adel_mem ts (adel m t) p h
    refine ⟨mem_adel h1, fun z => ?_⟩
    rcases List.mem_cons.mp z with e | z
    · have := (List.mem_filter.mp h1).2
      simp [e] at this
    · exact h2 z
theorem linked_none (hlk : ∀ p ∈ h.stand, p.2.links = []) (t : Int) : h.linked t = false := by
  unfold Hv.linked
  have : (h.stand.map (·.1)).filter (fun k => !(((aget h.stand k).bind fun x => aget x.links (h.number, t)).getD []).isEmpty) = [] := by
    refine List.filter_eq_nil_iff.mpr fun k hk => ?_
    obtain ⟨x, ex⟩ := aget_of_mem hk
    have e0 : x.links = [] := hlk _ (aget_some ex)
    have e1 : ((aget h.stand k).bind fun x => aget x.links (h.number, t)).getD [] = [] := by
      rw [ex]
      show (aget x.links (h.number, t)).getD [] = []
      rw [e0]
      rfl
    simp [e1]
  rw [this]
  rfl
theorem free_without (hlk : ∀ p ∈ h.stand, p.2.links = []) : (h.without h.free).free = [] := by
  have hlk' : ∀ p ∈ (h.without h.free).stand, p.2.links = [] := fun p hp => hlk p (foldl_adel_mem _ _ _ hp).1
  refine List.filter_eq_nil_iff.mpr fun t ht => ?_
  rw [sortK_mem] at ht
  obtain ⟨p, hp, rfl⟩ := List.mem_map.mp ht
  obtain ⟨h1, h2⟩ := foldl_adel_mem _ _ _ hp
  have hh : h.held p.1 = true := by
    cases e : h.held p.1 with
    | true => rfl
    | false => exact absurd (List.mem_filter.mpr ⟨sortK_mem.mpr (List.mem_map.mpr ⟨p, h1, rfl⟩), by simp [e]⟩) h2
  have : (h.without h.free).held p.1 = h.held p.1 := by
    unfold Hv.held
    rw [linked_none hlk, linked_none hlk']
    have e1 : aget (h.without h.free).own p.1 = aget h.own p.1 := (foldl_adel_get _ _ _).trans (if_neg h2)
    rw [e1]
    rfl
  simp [this, hh]
end
end Dn

namespace Dn
open PySem L2 PyProof.Rows PySem.W
theorem extend_loc {ρ : Rho} {A : Ah} {k : K1} {i : Nat} {xs zs : List D} (h : ρ[i]? = some (some (.lst xs))) (hl : xs.length + zs.length ≤ sizeLine) (q : k (.d .non) (ρ.set i (some (.lst (xs ++ zs)))) A) : mExtend (.loc i) [.lst zs] ρ A k := by
  refine ⟨.lst zs, xs, zs, rfl, by simp [lstOf, obOf, h, U.ob], by simp [lstOf, obOf, U.ob], hl, ?_⟩
  exact ⟨⟨_, h, rfl⟩, _, rfl, q⟩
section
variable {c : Cs} {i : Nat} {l l' : Lc} {h : Hv} {A A' : Ah} {K : U → Ah → Prop}
theorem tsettle_ok (r : HR c i l h A) (f : h.stand.length < sizeLine) (hown : ∀ t, (aget h.stand t).isSome → (aget h.own t).isSome) (hlk : ∀ p ∈ h.stand, p.2.links = []) (hnd : (h.stand.map (·.1)).Nodup)
    (k : ∀ A', HR c i l (h.without h.free) A' → Frm i A A' → K (.lst []) A') : p_Things_settle c [.ref (l .things)] A K := by
  refine ⟨rfl, seq_ok (set_ok ⟨Nat.zero_le _, ?_⟩)⟩
  dsimp only [setV]
  refine seq_ok (set_ok ?_)
  show wFree c [some (.d (.ref (l .things))), some (.lst []), none, none] A _
  refine free_ok r f hown ?_
  dsimp only [setV, List.set, keepD]
  have hin : ∀ t ∈ h.free, (aget h.stand t).isSome ∧ (aget h.own t).isSome := fun t ht => by
    have := (List.mem_filter.mp ht).1
    rw [sortK_mem] at this
    obtain ⟨x, ex⟩ := aget_of_mem this
    have e : (aget h.stand t).isSome := by rw [ex]; rfl
    exact ⟨e, hown t e⟩
  have nd : h.free.Nodup := List.Nodup.sublist List.filter_sublist (sortK_perm.nodup_iff.mpr hnd)
  have test : ∀ (xs : List Int) (A : Ah) (kb : KB), kb (!(xs.map D.int).isEmpty) [some (.d (.ref (l .things))), some (.lst []), some (.lst (xs.map D.int)), none] A → tB (wBin (wEqB true) (wVar 2) (wLst wNil)) [some (.d (.ref (l .things))), some (.lst []), some (.lst (xs.map D.int)), none] A kb := fun xs A kb q =>
    ⟨_, rfl, Nat.zero_le _, ne_nil (xs := xs.map D.int) (by simp [lstOf, obOf, rd, U.ob]) (pures_ints xs) (shaped_ints xs) ⟨_, rfl, q⟩⟩
  refine seq_ok ?_
  cases hf : h.free with
  | nil =>
    refine ⟨1, test [] A _ ?_⟩
    simp only [List.map_nil, List.isEmpty_nil, Bool.not_true, Bool.false_eq_true, if_false]
    refine ret_ok ⟨_, rfl, _, rfl, rfl, k A ?_ (Frm.refl _ _)⟩
    rw [hf]
    exact r
  | cons t ts =>
    rw [← hf]
    refine ⟨2, test h.free A _ ?_⟩
    have e0 : (!(h.free.map D.int).isEmpty) = true := by rw [hf]; rfl
    simp only [e0, if_true]
    refine seq_ok ?_
    dsimp only
    refine expr_ok ?_
    refine ⟨_, rfl, tyU_loc (ρ := [some (.d (.ref (l .things))), some (.lst []), some (.lst (h.free.map D.int)), none]) (i := 1) rfl, ?_⟩
    have h1 := r.at .things rfl
    refine ⟨_, rfl, l .things, _, _, rfl, h1, lkT_m_let_go, _, rfl, .lst (h.free.map D.int), rfl, ⟨i + 1, []⟩, fun a ha => ?_⟩
    have r1 := r.ext (Ext.new (y := ⟨⟨i + 1, []⟩, .lst (h.free.map D.int)⟩) ha)
    refine let_go_ok r1 (Nat.succ_ne_self i) up_same hin nd hlk fun A2 r2 f2 => ?_
    dsimp only [uNil, rd, List.set]
    refine extend_loc (i := 1) (ρ := [some (.d (.ref (l .things))), some (.lst []), some (.d (.ref a)), none]) (xs := []) (zs := []) rfl (Nat.zero_le _) ?_
    dsimp only [List.set]
    refine set_ok ?_
    show wFree c [some (.d (.ref (l .things))), some (.lst []), some (.d (.ref a)), none] A2 _
    have hown2 : ∀ t, (aget (h.without h.free).stand t).isSome → (aget (h.without h.free).own t).isSome := fun t ht => by
      have e1 : aget (h.without h.free).stand t = _ := foldl_adel_get h.free h.stand t
      have e2 : aget (h.without h.free).own t = _ := foldl_adel_get h.free h.own t
      rw [e1] at ht
      rw [e2]
      by_cases z : t ∈ h.free
      · rw [if_pos z] at ht; cases ht
      · rw [if_neg z] at ht ⊢; exact hown t ht
    have len : ∀ (ts : List Int) (m : List (Int × Th)), (ts.foldl adel m).length ≤ m.length := fun ts => by
      induction ts with
      | nil => intro m; exact Nat.le_refl _
      | cons t ts ih => intro m; exact Nat.le_trans (ih _) (adel_len m t)
    refine free_ok r2 (Nat.lt_of_le_of_lt (len h.free h.stand) f) hown2 ?_
    rw [free_without hlk]
    dsimp only [setV, List.set, keepD, List.map_nil]
    refine test [] A2 _ ?_
    simp only [List.map_nil, List.isEmpty_nil, Bool.not_true, Bool.false_eq_true, if_false]
    exact ret_ok ⟨_, rfl, _, rfl, rfl, k A2 r2 ((Frm.new ha).trans f2)⟩
end
end Dn

namespace Dn
open PySem L2 PyProof.Rows PySem.W
theorem extend_ref {ρ : Rho} {A : Ah} {k : K1} {a : Addr} {tg : Tag} {xs zs : List D} (h : A a = some ⟨tg, .lst xs⟩) (hl : xs.length + zs.length ≤ sizeLine) (q : k (.d .non) ρ (up A a ⟨tg, .lst (xs ++ zs)⟩)) : mExtend (.d (.ref a)) [.lst zs] ρ A k := by
  refine ⟨.lst zs, xs, zs, rfl, by simp [lstOf, obOf, h], by simp [lstOf, obOf, U.ob], hl, ?_⟩
  exact ⟨_, h, q⟩
section
variable {c : Cs} {i : Nat} {l l' : Lc} {h : Hv} {A A' : Ah} {K : U → Ah → Prop}
/-- what a house of no links, between two calls, keeps -/
structure Hv.Wf (h : Hv) : Prop where
  fits : h.Fits
  own : ∀ t, (aget h.stand t).isSome → (aget h.own t).isSome
  links : ∀ p ∈ h.stand, p.2.links = []
  nd : (h.stand.map (·.1)).Nodup
  lets : h.untold.length + h.asks.length + h.drops.length < sizeLine
theorem settle_ok (r : HR c i l h A) (w : h.Wf) (k : ∀ A', HR c i l (h.without h.free) A' → Frm i A A' → K (.d .non) A') : p_House_settle c [.ref (l .house)] A K := by
  have h1 := r.at .house rfl
  have h2 := r.at .drops rfl
  have h3 := r.at .things rfl
  refine ⟨rfl, expr_ok (mt_ok ((ev_fld (ev_var (i := 0) rfl) h1 lkH_drops) _ ⟨tyU_lst h2, ?_⟩))⟩
  have E : Ev (wFld c.House "own" (wVar 0)) [some (.d (.ref (l .house)))] A (.ref (l .things)) := ev_fld (ev_var rfl) h1 lkH_own
  dsimp only [uCons, wMeth]
  refine E _ ?_
  refine ⟨l .things, _, _, rfl, h3, lkT_m_settle, tsettle_ok r w.fits.stand w.own w.links w.nd fun A2 r2 f2 => ?_⟩
  have g2 := r2.at .drops rfl
  dsimp only [uNil]
  refine extend_ref (zs := []) g2 (by have := w.fits.drops; show (h.drops.map eDrop).length + 0 ≤ sizeLine; rw [List.length_map]; omega) ?_
  refine k _ ?_ (f2.trans (Frm.upd g2 rfl))
  exact r2.set .drops rfl (fun p z n hz => hz) (fun z e => by cases e; simp)
end
end Dn

namespace Dn
open PySem L2 PyProof.Rows PySem.W
section
variable {ρ : Rho} {A : Ah} {k : K1} {te : WE}
/-- o.m(..), o and the arguments worth something -/
theorem methEv {C a : Addr} {m : Str} {sp : SpW} {ta : WA} {tg : Tag} {fs : List (Str × D)} {xs : List D} (he : Ev te ρ A (.ref a)) (h : A a = some ⟨tg, .ins C fs⟩) (hl : fs.lookup m = none) (ha : EvA ta ρ A xs) (q : sp (.ref a :: xs) A fun u A' => k u ρ A') : wMeth C m sp te ta ρ A k :=
  he _ ⟨a, tg, fs, rfl, h, hl, ha _ q⟩
theorem fnEv {sp : SpW} {ta : WA} {xs : List D} (ha : EvA ta ρ A xs) (q : sp xs A fun u A' => k u ρ A') : wFn sp ta ρ A k := ha _ q
theorem appRef {d : WD} {to : WE} {a : Addr} {tg : Tag} {xs : List D} {y : D} (ho : Ev to ρ A (.ref a)) (he : Ev te ρ A y) (h : A a = some ⟨tg, .lst xs⟩) (hl : xs.length < sizeLine) (q : d.nx ρ (up A a ⟨tg, .lst (xs ++ [y])⟩)) : sExpr (wMt "list" mAppend to (uCons te uNil)) d ρ A :=
  ho _ ⟨tyU_lst h, he _ (show mAppend (.d (.ref a)) [.d y] ρ A (fun _ ρ' A' => d.nx ρ' A') from (append_ref h).mpr ⟨hl, q⟩)⟩
end
section
variable {c : Cs} {i : Nat} {l l' : Lc} {h : Hv} {A A' : Ah} {K : U → Ah → Prop}
def Hv.dropped1 (h : Hv) (q : Hd) : Hv := if q.1 = h.number then h.take q else { h.take q with drops := h.drops ++ [(q, h.taken q)] }
def Hv.drop (h : Hv) (q : Hd) : Hv := (h.dropped1 q).without (h.dropped1 q).free
theorem take_drops {q : Hd} : (h.take q).drops = h.drops := by
  unfold Hv.take
  split <;> rfl
theorem take_number {q : Hd} : (h.take q).number = h.number := by
  unfold Hv.take
  split <;> rfl
theorem drop_ok {q : Hd} (r : HR c i l h A) (f : h.Fits) (hq : hdOk q h.many) (hc : 0 < h.count q) (hown : q.1 = h.number → (aget h.own q.2).isSome) (w1 : (h.dropped1 q).Wf) (f2 : (h.drop q).Fits) (fl2 : (h.drop q).untold.length + (h.drop q).asks.length + (h.drop q).drops.length < sizeLine)
    (k : ∀ A', HR c i l (h.drop q) A' → Frm i A A' → K (.lst ((h.drop q).letters.map eLt)) A') : p_House_drop c [.ref (l .house), eH q] A K := by
  have h1 := r.at .house rfl
  have fin : ∀ (d : WD) A' u, d.rt = K → HR c i l (h.dropped1 q) A' → Frm i A A' → sSeq (sExpr (wMeth c.House "settle" (p_House_settle c) (wVar 0) wNil)) (sRet (wMeth c.House "letters" (p_House_letters c) (wVar 0) wNil)) d [some (.d (.ref (l .house))), some (.d (eH q)), some u] A' := fun d A' u hd r' f' => by
    have g1 := r'.at .house rfl
    refine seq_ok (expr_ok (methEv (ev_var rfl) g1 lkH_m_settle eva_nil (settle_ok r' w1 fun A2 r2 fr2 => ?_)))
    have g2 := r2.at .house rfl
    dsimp only
    refine ret_ok (methEv (ev_var rfl) g2 lkH_m_letters eva_nil (letters_ok r2 f2 fl2 ?_))
    show d.rt _ _
    rw [hd]
    exact k A2 r2 (f'.trans fr2)
  refine ⟨rfl, seq_ok (expr_ok (methEv (ev_var (i := 0) rfl) h1 lkH_m_need_hold (eva_cons (ev_var (i := 1) rfl) eva_nil) (need_hold_ok r hq (by omega) ?_)))⟩
  dsimp only
  refine seq_ok (set_ok (methEv (ev_var (i := 0) rfl) h1 lkH_m_take_unit (eva_cons (ev_var (i := 1) rfl) eva_nil) (take_ok r f hc hown fun A1 r1 fr1 => ?_)))
  dsimp only [setV]
  have g1 := r1.at .house rfl
  have g2 := r1.at .drops rfl
  refine seq_ok (if_ok (te_eqI (n := true) (ev_ix0 (ev_var (i := 1) (x := eH q) rfl)) (ev_fld (ev_var (i := 0) rfl) g1 lkH_number) ?_))
  rw [take_number]
  by_cases e : q.1 = h.number
  · simp only [e, decide_true, if_true, Bool.not_true, Bool.false_eq_true, if_false]
    refine fin _ A1 _ rfl ?_ fr1
    unfold Hv.dropped1
    rw [if_pos e]
    exact r1
  · simp only [e, decide_false, if_true, Bool.not_false]
    refine appRef (ev_fld (ev_var (i := 0) rfl) g1 lkH_drops) (ev_tup (eva_cons (ev_var (i := 1) rfl) (eva_cons (ev_var (i := 2) rfl) eva_nil)) le2) g2 (by rw [take_drops]; simpa using f.drops) ?_
    dsimp only
    refine fin _ _ _ rfl ?_ (fr1.trans (Frm.upd g2 rfl))
    unfold Hv.dropped1
    rw [if_neg e]
    refine r1.set .drops rfl (fun p z n hz => by cases p <;> first | exact hz | exact absurd rfl n) (fun z e => ?_)
    cases e
    simp [take_drops, eDrop]
end
end Dn

namespace Dn
open PySem L2 PyProof.Rows PySem.W
section
variable {c : Cs} {i : Nat} {l l' : Lc} {h : Hv} {A A' : Ah} {K : U → Ah → Prop}
def Hv.give (h : Hv) (q : Hd) (to : Int) : Hv := if q.1 = h.number then h.lend q.2 to else if (aget h.dead to).isSome then h else h.ask q (.give to)
theorem give_ok {q : Hd} {to : Int} (r : HR c i l h A) (f : h.Fits) (hq : hdOk q h.many) (hm : 2 ≤ h.many ∧ h.many ≤ 8 ∧ 0 ≤ to ∧ to < h.many) (hn : to ≠ h.number) (hc : h.count q ≠ 0) (f2 : (h.give q to).Fits) (fl2 : (h.give q to).untold.length + (h.give q to).asks.length + (h.give q to).drops.length < sizeLine)
    (k : ∀ A', HR c i l (h.give q to) A' → Frm i A A' → K (.lst ((h.give q to).letters.map eLt)) A') : p_House_give c [.ref (l .house), eH q, .int to] A K := by
  have h1 := r.at .house rfl
  have h4 := r.at .dead rfl
  have fin : ∀ (d : WD) A', d.rt = K → HR c i l (h.give q to) A' → Frm i A A' → sRet (wMeth c.House "letters" (p_House_letters c) (wVar 0) wNil) d [some (.d (.ref (l .house))), some (.d (eH q)), some (.d (.int to))] A' := fun d A' hd r' f' => by
    have g2 := r'.at .house rfl
    refine ret_ok (methEv (ev_var rfl) g2 lkH_m_letters eva_nil (letters_ok r' f2 fl2 ?_))
    show d.rt _ _
    rw [hd]
    exact k A' r' f'
  refine ⟨rfl, seq_ok (expr_ok (fnEv (eva_cons (ev_var (i := 1) rfl) (eva_cons (ev_fld (ev_var (i := 0) rfl) h1 lkH_many) eva_nil)) (need_handle_ok hq ?_)))⟩
  dsimp only
  refine seq_ok (expr_ok (fnEv (eva_cons (ev_var (i := 2) rfl) (eva_cons (ev_fld (ev_var (i := 0) rfl) h1 lkH_many) eva_nil)) (need_house_ok hm ?_)))
  dsimp only
  refine seq_ok (if_ok (te_eqI (n := false) (ev_var (i := 2) rfl) (ev_fld (ev_var (i := 0) rfl) h1 lkH_number) ?_))
  simp only [hn, decide_false, Bool.false_eq_true, if_false]
  show sSeq (sExpr (wMeth c.House "need_hold" (p_House_need_hold c) (wVar 0) (wCons (wVar 1) wNil))) _ _ _ _
  refine seq_ok (expr_ok (methEv (ev_var (i := 0) rfl) h1 lkH_m_need_hold (eva_cons (ev_var (i := 1) rfl) eva_nil) (need_hold_ok r hq hc ?_)))
  dsimp only
  refine seq_ok (if_ok (te_eqI (n := false) (ev_ix0 (ev_var (i := 1) (x := eH q) rfl)) (ev_fld (ev_var (i := 0) rfl) h1 lkH_number) ?_))
  by_cases e : q.1 = h.number
  · simp only [e, decide_true, Bool.false_eq_true, if_false, if_true]
    refine expr_ok (methEv (ev_var (i := 0) rfl) h1 lkH_m_lend (eva_cons (ev_ix1 (ev_var (i := 1) (x := eH q) rfl)) (eva_cons (ev_var (i := 2) rfl) eva_nil)) (lend_ok r f (fun z => absurd z hn) fun A2 r2 fr2 => ?_))
    refine fin _ A2 rfl ?_ fr2
    unfold Hv.give
    rw [if_pos e]
    exact r2
  · simp only [e, decide_false, Bool.false_eq_true, if_false]
    refine if_ok (te_inD (n := true) (ev_var (i := 2) rfl) (ev_fld (ev_var (i := 0) rfl) h1 lkH_dead) h4 keyIn_xSetI ?_)
    rw [dget_xSetI, Option.isSome_map]
    cases ed : (aget h.dead to).isSome with
    | true =>
      simp only [neg, if_true, Bool.not_true, Bool.false_eq_true, if_false]
      refine fin _ A rfl ?_ (Frm.refl _ _)
      unfold Hv.give
      rw [if_neg e, if_pos ed]
      exact r
    | false =>
      simp only [neg, if_true, Bool.not_false]
      refine expr_ok (methEv (ev_var (i := 0) rfl) h1 lkH_m_ask (eva_cons (ev_var (i := 1) (x := eH q) rfl) (eva_cons (ev_tup (eva_cons ev_c (eva_cons (ev_var (i := 2) rfl) eva_nil)) le2) eva_nil)) (ask_ok (w := .give to) r f fun A2 r2 fr2 => ?_))
      refine fin _ A2 rfl ?_ fr2
      unfold Hv.give
      rw [if_neg e, if_neg (by rw [ed]; simp)]
      exact r2
end
end Dn

namespace Dn
open PySem L2 PyProof.Rows PySem.W
section
variable {d : WD} {ρ : Rho} {A : Ah} {k : K1} {te to ti tv ta tb : WE}
theorem ev_len {a : Addr} {tg : Tag} {xs : List D} (he : Ev te ρ A (.ref a)) (h : A a = some ⟨tg, .lst xs⟩) : Ev (wCall wLen (uCons te uNil)) ρ A (.int xs.length) := fun _ q => he _ ((len_lst h).mpr q)
theorem ev_sub {x y : Int} (ha : Ev ta ρ A (.int x)) (hb : Ev tb ρ A (.int y)) : Ev (wBin (wI0 fun i j => i - j) ta tb) ρ A (.int (x - y)) := fun _ q => ha _ (hb _ ⟨x, y, rfl, rfl, q⟩)
theorem ev_neg {x : Int} (ha : Ev ta ρ A (.int x)) : Ev (wUn wNeg ta) ρ A (.int (-x)) := fun _ q => ha _ ⟨x, rfl, q⟩
/-- l[i] = v, v any -/
theorem sixL {j : Int} {a : Addr} (hv : (∀ (y : D) (A' : Ah), (Ev to ρ A' (.ref a) ∧ Ev ti ρ A' (.int j) ∧ ∃ tg xs n, A' a = some ⟨tg, .lst xs⟩ ∧ ixN xs.length j = some n ∧ d.nx ρ (up A' a ⟨tg, .lst (xs.set n y)⟩)) → (fun (u : U) (ρ1 : Rho) (A1 : Ah) => esc u ρ1 A1 fun y ρ2 A2 => to ρ2 A2 fun x ρ3 A3 => x.own = false ∧ ti ρ3 A3 fun w ρ4 A4 => ∃ j, w = .d j ∧ setIx x j y ρ4 A4 d.nx) (.d y) ρ A') → tv ρ A fun u ρ1 A1 => esc u ρ1 A1 fun y ρ2 A2 => to ρ2 A2 fun x ρ3 A3 => x.own = false ∧ ti ρ3 A3 fun w ρ4 A4 => ∃ j, w = .d j ∧ setIx x j y ρ4 A4 d.nx) : sIx to ti tv d ρ A :=
  hv fun y A' ⟨ho, hi, tg, xs, n, h, e, q⟩ => ho _ ⟨rfl, hi _ ⟨_, rfl, (setIx_lst h).mpr ⟨n, e, q⟩⟩⟩
end
section
variable {c : Cs} {i : Nat} {l l' : Lc} {h : Hv} {A A' : Ah} {K : U → Ah → Prop}
def Hv.call0 (h : Hv) : Hv := { h with calls := h.calls ++ [none] }
def Hv.call (h : Hv) (q : Hd) (n : Int) : Hv := if q.1 = h.number then { h.setWorth q.2 (h.worth q.2 n) with calls := h.calls ++ [some (.val (h.worth q.2 n))] } else h.call0.ask q (.call n h.calls.length)
theorem call_calls {q : Hd} {n : Int} : (h.call q n).calls.length = h.calls.length + 1 := by
  unfold Hv.call
  split
  · simp
  · simp [Hv.ask, Hv.call0]
theorem call_ok {q : Hd} {n : Int} {tg : Tag} (r : HR c i l h A) (f : h.Fits) (f0 : h.call0.Fits) (hq : hdOk q h.many) (hw : 0 ≤ n ∧ n < 1000) (hc : h.count q ≠ 0) (hst : q.1 = h.number → (aget h.stand q.2).isSome) (f2 : (h.call q n).Fits) (fl2 : (h.call q n).untold.length + (h.call q n).asks.length + (h.call q n).drops.length < sizeLine) (ht : tg.r ≠ i)
    (k : ∀ A' a, HR c i l (h.call q n) A' → A' a = some ⟨tg, .lst ((h.call q n).letters.map eLt)⟩ → Frm i A A' → K (.d (.tup [.int h.calls.length, .ref a])) A') : p_House_call c [.ref (l .house), eH q, .int n] A K := by
  have h1 := r.at .house rfl
  have h2 := r.at .calls rfl
  have fin : ∀ (d : WD) A', d.rt = K → HR c i l (h.call q n) A' → Frm i A A' → sRet (wTup (wCons (wBin (wI0 fun i j => i - j) (wCall wLen (uCons (wFld c.House "calls" (wVar 0)) uNil)) (wC (.int 1))) (wCons (wMeth c.House "letters" (p_House_letters c) (wVar 0) wNil) wNil))) d [some (.d (.ref (l .house))), some (.d (eH q)), some (.d (.int n))] A' := fun d A' hd r' f' => by
    have g1 := r'.at .house rfl
    have g2 := r'.at .calls rfl
    have E : Ev (wBin (wI0 fun i j => i - j) (wCall wLen (uCons (wFld c.House "calls" (wVar 0)) uNil)) (wC (.int 1))) [some (.d (.ref (l .house))), some (.d (eH q)), some (.d (.int n))] A' (.int ((((h.call q n).calls.map eCall).length : Nat) - 1)) := ev_sub (ev_len (ev_fld (ev_var rfl) g1 lkH_calls) g2) ev_c
    refine ret_ok (E _ ?_)
    show wMeth c.House "letters" (p_House_letters c) (wVar 0) wNil _ _ _
    refine methEv (ev_var (i := 0) rfl) g1 lkH_m_letters eva_nil (letters_ok r' f2 fl2 ?_)
    refine ⟨_, rfl, tg, fun a ha => ⟨le2, ?_⟩⟩
    show d.rt _ _
    rw [hd]
    have en : ((((h.call q n).calls.map eCall).length : Nat) : Int) - 1 = h.calls.length := by rw [List.length_map, call_calls]; omega
    rw [en]
    exact k _ a (r'.ext (Ext.new ha)) up_same (f'.trans (Frm.new ha))
  refine ⟨rfl, seq_ok (expr_ok (fnEv (eva_cons (ev_var (i := 1) rfl) (eva_cons (ev_fld (ev_var (i := 0) rfl) h1 lkH_many) eva_nil)) (need_handle_ok hq ?_)))⟩
  dsimp only
  refine seq_ok (expr_ok (fnEv (eva_cons (ev_var (i := 2) rfl) eva_nil) (need_worth_ok hw ?_)))
  dsimp only
  refine seq_ok (expr_ok (methEv (ev_var (i := 0) rfl) h1 lkH_m_need_hold (eva_cons (ev_var (i := 1) rfl) eva_nil) (need_hold_ok r hq hc ?_)))
  dsimp only
  refine seq_ok (appRef (ev_fld (ev_var (i := 0) rfl) h1 lkH_calls) ev_c h2 (by simpa using f.calls) ?_)
  have r1 : HR c i l h.call0 (up A (l .calls) ⟨⟨i, Pt.calls.code⟩, .lst (h.calls.map eCall ++ [.non])⟩) :=
    r.set .calls rfl (fun p z n hz => by cases p <;> first | exact hz | exact absurd rfl n) (fun z e => by cases e; simp [Hv.call0, eCall])
  have g1 := r1.at .house rfl
  have g2 := r1.at .calls rfl
  dsimp only
  refine seq_ok (if_ok (te_eqI (n := false) (ev_ix0 (ev_var (i := 1) (x := eH q) rfl)) (ev_fld (ev_var (i := 0) rfl) g1 lkH_number) ?_))
  have e0 : h.call0.number = h.number := rfl
  rw [e0]
  by_cases e : q.1 = h.number
  · simp only [e, decide_true, Bool.false_eq_true, if_false, if_true]
    refine sixL (a := l .calls) (j := -1) fun hk => ?_
    refine methEv (ev_var (i := 0) rfl) g1 lkH_m_add (eva_cons (ev_ix1 (ev_var (i := 1) (x := eH q) rfl)) (eva_cons (ev_var (i := 2) rfl) eva_nil)) (add_ok r1 (hst e) fun A2 r2 fr2 => hk _ A2 ?_)
    have q1 := r2.at .house rfl
    have q2 := r2.at .calls rfl
    refine ⟨ev_fld (ev_var (i := 0) rfl) q1 lkH_calls, ev_neg ev_c, _, _, h.calls.length, q2, ?_, ?_⟩
    · show ixN (h.call0.calls.map eCall).length (-1) = some h.calls.length
      have : (h.call0.calls.map eCall).length = h.calls.length + 1 := by simp [Hv.call0]
      rw [this]
      unfold ixN
      rw [if_neg (by omega), if_pos (by omega)]
      congr 1
      omega
    · refine fin _ _ rfl ?_ ((Frm.upd h2 rfl).trans (fr2.trans (Frm.upd q2 rfl)))
      unfold Hv.call
      rw [if_pos e]
      refine r2.set .calls rfl (fun p z n hz => by cases p <;> first | exact hz | exact absurd rfl n) (fun z e => ?_)
      cases e
      simp [Hv.setWorth, Hv.call0, eCall, eAn, Hv.worth]
  · simp only [e, decide_false, Bool.false_eq_true, if_false]
    have E : Ev (wBin (wI0 fun i j => i - j) (wCall wLen (uCons (wFld c.House "calls" (wVar 0)) uNil)) (wC (.int 1))) [some (.d (.ref (l .house))), some (.d (eH q)), some (.d (.int n))] _ (.int (((h.call0.calls.map eCall).length : Nat) - 1)) := ev_sub (ev_len (ev_fld (ev_var rfl) g1 lkH_calls) g2) ev_c
    have en : (((h.call0.calls.map eCall).length : Nat) : Int) - 1 = h.calls.length := by simp [Hv.call0]
    rw [en] at E
    refine expr_ok (methEv (ev_var (i := 0) rfl) g1 lkH_m_ask (eva_cons (ev_var (i := 1) (x := eH q) rfl) (eva_cons (ev_tup (eva_cons ev_c (eva_cons (ev_var (i := 2) rfl) (eva_cons E eva_nil))) (by show 3 ≤ sizeLine; decide)) eva_nil)) (ask_ok (w := .call n h.calls.length) r1 f0 fun A2 r2 fr2 => ?_))
    refine fin _ A2 rfl ?_ ((Frm.upd h2 rfl).trans fr2)
    unfold Hv.call
    rw [if_neg e]
    exact r2
end
end Dn

namespace Dn
open PySem L2 PyProof.Rows PySem.W
section
variable {c : Cs} {i : Nat} {l l' : Lc} {h : Hv} {A A' : Ah} {K : U → Ah → Prop}
/-- (call, worth, or dead) of all that are answered -/
def Hv.answers (h : Hv) : List (Int × An) := (h.calls.zipIdx.filter fun p => p.1.isSome).map fun p => (((p.2 : Nat) : Int), p.1.getD .dead)
def eAns (p : Int × An) : D := .tup [.int p.1, eAn p.2]
theorem answers_ok (r : HR c i l h A) (k : K (.lst (h.answers.map eAns)) A) : p_House_answers c [.ref (l .house)] A K := by
  have h1 := r.at .house rfl
  have h2 := r.at .calls rfl
  have Ea : EvA (wCons (wFld c.House "calls" (wVar 0)) wNil) [some (.d (.ref (l .house))), none, none] A [.ref (l .calls)] := eva_cons (ev_fld (ev_var rfl) h1 lkH_calls) eva_nil
  refine ⟨rfl, ret_ok ?_⟩
  show iEnumW (wCons (wFld c.House "calls" (wVar 0)) wNil) _ _ _
  refine Ea _ ⟨l .calls, h.calls.map eCall, rfl, by simp [lstOf, obOf, h2], ?_⟩
  have ee : enumD (h.calls.map eCall) = h.calls.zipIdx.map fun p => D.tup [.int ((p.2 : Nat) : Int), eCall p.1] := by
    simp [enumD, List.zipIdx_map, Function.comp_def, Prod.map]
  rw [ee]
  refine lcGo_map (ρ := [some (.d (.ref (l .house))), none, none]) (P := fun p => p.1.isSome) (F := fun p => eAns (((p.2 : Nat) : Int), p.1.getD .dead)) (by simp [chkL, lstOf, obOf, h2]) (fun p => [some (.d (.ref (l .house))), some (.d (.int ((p.2 : Nat) : Int))), some (.d (eCall p.1))]) _ [] (fun p hp => ⟨rfl, fun Kt Kf q => tup2 ?_⟩) ?_
  · obtain ⟨x, n⟩ := p
    refine tB_ok (bin_ok ⟨_, rfl, ?_⟩)
    dsimp only [rd, wC, List.set]
    cases x with
    | none =>
      refine ⟨nofun, rfl, _, rfl, ?_⟩
      have e : isNon (.d (eCall none)) = true := rfl
      simp only [e, neg, if_true, Bool.not_true, Bool.false_eq_true, if_false]
      simpa using q
    | some a =>
      refine ⟨nofun, rfl, _, rfl, ?_⟩
      have e : isNon (.d (eCall (some a))) = false := by cases a <;> rfl
      simp only [e, neg, if_true, Bool.not_false]
      simp only [Option.isSome_some, if_true] at q
      exact ev_tup (eva_cons (ev_var (i := 1) rfl) (eva_cons (ev_var (i := 2) rfl) eva_nil)) le2 _ q
  · have e : ([] : List D) ++ (h.calls.zipIdx.filter fun p => p.1.isSome).map (fun p => eAns (((p.2 : Nat) : Int), p.1.getD .dead)) = h.answers.map eAns := by
      rw [Hv.answers, List.map_map]
      rfl
    rw [e]
    exact k
end
end Dn

namespace Dn
open PySem L2 PyProof.Rows PySem.W
section
variable {c : Cs} {i : Nat} {l l' : Lc} {h : Hv} {A A' : Ah} {K : U → Ah → Prop}
def Hv.heardUnit (h : Hv) (s u : Int) : Hv := { h with untold := adel h.untold (s, u) }
theorem hear_heard_unit {s u : Int} (r : HR c i l h A) (k : ∀ A', HR c i l (h.heardUnit s u) A' → Frm i A A' → K (.lst []) A') : p_House_hear_heard c [.ref (l .house), .int s, .tup [.str "unit", .int u, .non]] A K := by
  have h1 := r.at .house rfl
  have h2 := r.at .untold rfl
  refine ⟨rfl, seq_ok (asgD (ev_var (i := 2) rfl) (tup3 ?_))⟩
  refine seq_ok (if_ok (te_eqS (n := false) (ev_var (i := 3) rfl) ev_c ?_))
  simp only [decide_true, Bool.false_eq_true, if_false, if_true]
  refine popS (z := eH (s, u)) (ev_fld (ev_var (i := 0) rfl) h1 lkH_untold) (ev_tup (eva_cons (ev_var (i := 1) rfl) (eva_cons (ev_var (i := 4) rfl) eva_nil)) le2) ev_c h2 keyIn_xHI fun A1 e1 => ?_
  obtain ⟨r1, f1⟩ := r.untoldDel e1
  exact ⟨Nat.zero_le _, k A1 r1 f1⟩
def Hv.heardAsk (h : Hv) (n : Int) (a : An) : Hv := match aget h.asks n with
  | none => h
  | some (_, .give _) => { h with asks := adel h.asks n }
  | some (_, .call _ j) => { h with asks := adel h.asks n, calls := h.calls.set j.toNat (some a) }
theorem HR.asksDel {n : Int} (r : HR c i l h A) : HR c i l { h with asks := adel h.asks n } (up A (l .asks) ⟨⟨i, Pt.asks.code⟩, .dct ((adel h.asks n).map xAsks)⟩) :=
  r.set .asks rfl (fun p z n hz => by cases p <;> first | exact hz | exact absurd rfl n) (fun z e => by cases e; rfl)
theorem hear_heard_ask {s n : Int} {a : An} (r : HR c i l h A) (hj : ∀ q m j, aget h.asks n = some (q, .call m j) → 0 ≤ j ∧ j < h.calls.length) (k : ∀ A', HR c i l (h.heardAsk n a) A' → Frm i A A' → K (.lst []) A') : p_House_hear_heard c [.ref (l .house), .int s, .tup [.str "ask", .int n, eAn a]] A K := by
  have h1 := r.at .house rfl
  have h2 := r.at .asks rfl
  have n1 : ¬ ("ask" : Str) = "unit" := by decide +kernel
  have n2 : ¬ ("ask" : Str) = "drop" := by decide +kernel
  have n3 : ¬ ("give" : Str) = "call" := by decide +kernel
  refine ⟨rfl, seq_ok (asgD (ev_var (i := 2) rfl) (tup3 ?_))⟩
  refine seq_ok (if_ok (te_eqS (n := false) (ev_var (i := 3) rfl) ev_c ?_))
  simp only [n1, decide_false, Bool.false_eq_true, if_false]
  refine if_ok (te_eqS (n := false) (ev_var (i := 3) rfl) ev_c ?_)
  simp only [n2, decide_false, Bool.false_eq_true, if_false]
  refine if_ok (te_inD (n := false) (z := .int n) (ev_var (i := 4) rfl) (ev_fld (ev_var (i := 0) rfl) h1 lkH_asks) h2 keyIn_xAsks ?_)
  rw [dget_xAsks, Option.isSome_map]
  unfold Hv.heardAsk at k
  cases e : aget h.asks n with
  | none =>
    rw [e] at k
    simp only [neg, Option.isSome_none, Bool.false_eq_true, if_false]
    exact ⟨Nat.zero_le _, k A r (Frm.refl _ _)⟩
  | some qw =>
    obtain ⟨q, w⟩ := qw
    rw [e] at k
    simp only [neg, Option.isSome_some, Bool.false_eq_true, if_false, if_true]
    have r1 := r.asksDel (n := n)
    have g1 := r1.at .house rfl
    have g3 := r1.at .calls rfl
    refine seq_ok (asg_ok (pop1 (ev_fld (ev_var (i := 0) rfl) h1 lkH_asks) (ev_var (i := 4) (x := .int n) rfl) h2 keyIn_xAsks (w := .tup [eH q, eWh w]) (by rw [dget_xAsks, e]; rfl) (tup2 ?_)))
    rw [ddel_xAsks]
    dsimp only [List.set]
    cases w with
    | give to =>
      refine if_ok (te_eqS (n := false) (a := "give") (ev_ixT (xs := [.str "give", .int to]) (ev_var (i := 7) rfl) (by simp [atI, ixN])) ev_c ?_)
      simp only [n3, decide_false, Bool.false_eq_true, if_false]
      exact ⟨Nat.zero_le _, k _ r1 (Frm.upd h2 rfl)⟩
    | call m j =>
      obtain ⟨j0, j1⟩ := hj q m j e
      refine if_ok (te_eqS (n := false) (a := "call") (ev_ixT (xs := [.str "call", .int m, .int j]) (ev_var (i := 7) rfl) (by simp [atI, ixN])) ev_c ?_)
      simp only [decide_true, Bool.false_eq_true, if_false, if_true]
      refine sixL (a := l .calls) (j := j) fun hk => ?_
      refine ev_var (i := 5) (x := eAn a) rfl _ (hk (eAn a) _ ⟨ev_fld (ev_var (i := 0) rfl) g1 lkH_calls, ev_ixT (xs := [.str "call", .int m, .int j]) (ev_var (i := 7) rfl) (by simp [atI, ixN]), _, _, j.toNat, g3, ?_, ?_⟩)
      · show ixN (h.calls.map eCall).length j = some j.toNat
        unfold ixN
        rw [List.length_map, if_pos j0, if_pos j1]
      · refine ⟨Nat.zero_le _, k _ ?_ ((Frm.upd h2 rfl).trans (Frm.upd g3 rfl))⟩
        refine r1.set .calls rfl (fun p z n hz => by cases p <;> first | exact hz | exact absurd rfl n) (fun z e => ?_)
        cases e
        simp [eCall]
end
end Dn

namespace Dn
open PySem L2 PyProof.Rows PySem.W
section
variable {c : Cs} {i : Nat} {l l' : Lc} {h : Hv} {A A' : Ah} {K : U → Ah → Prop}
theorem M_drops {ds : List (Hd × Int)} (hl : ∀ p, p ≠ .drops → l' p = l p) (p : Pt) (n1 : p ≠ .house) (n2 : p ≠ .drops) : M c l' { h with drops := ds } p = M c l h p := by
  cases p with
  | house => exact absurd rfl n1
  | drops => exact absurd rfl n2
  | things => simp [M, vT, hl]
  | stand =>
    have : xStand l' = xStand l := funext fun p => by simp [xStand, hl]
    simp [M, this]
  | units =>
    have : xUnits l' = xUnits l := funext fun p => by simp [xUnits, hl]
    simp [M, this]
  | thing k => simp [M, hl]
  | links k =>
    have : xLinks l' k = xLinks l k := funext fun p => by simp [xLinks, hl]
    simp [M, this]
  | _ => rfl
theorem HR.dropsNew {ds : List (Hd × Int)} {b : Addr} (r : HR c i l h A) (hb : A b = none) :
    HR c i (fun p => if p = .drops then b else l p) { h with drops := ds } (up (up A b ⟨⟨i, Pt.drops.code⟩, .lst (ds.map eDrop)⟩) (l .house) ⟨⟨i, Pt.house.code⟩, .ins c.House (putD "drops" (.ref b) (kH.zip (vH l h)))⟩) := by
  have h1 := r.at .house rfl
  have hl : ∀ p, p ≠ .drops → (fun p => if p = Pt.drops then b else l p) p = l p := fun p n => if_neg n
  have g1 : up A b ⟨⟨i, Pt.drops.code⟩, .lst (ds.map eDrop)⟩ (l .house) = some _ := up_of (z := ⟨⟨i, Pt.drops.code⟩, .lst []⟩) h1 hb
  have ep : putD "drops" (.ref b) (kH.zip (vH l h)) = kH.zip (vH (fun p => if p = .drops then b else l p) { h with drops := ds }) := (putD_fs (n := 10) (by decide +kernel) rfl).trans (by simp [vH])
  intro p z hz
  by_cases n1 : p = .house
  · subst n1
    cases hz
    rw [ep]
    exact up_same
  · by_cases n2 : p = .drops
    · subst n2
      cases hz
      show up _ (l .house) _ b = _
      rw [up_ne fun e => (by rw [← e] at h1; rw [h1] at hb; cases hb)]
      exact up_same
    · rw [M_drops hl p n1 n2] at hz
      have q := r p z hz
      show up _ (l .house) _ (if p = .drops then b else l p) = _
      rw [if_neg n2]
      exact up_otherT (up_of (z := ⟨⟨i, []⟩, .lst []⟩) q hb) g1 fun e => n1 (Pt.code_inj (by injection e))
def Hv.heardDrop (h : Hv) (s n : Int) : Hv := { h with drops := h.drops.filter fun p => !decide (p.1.1 = s) || !decide (p.2 = n) }
theorem hear_heard_drop {s n : Int} {a : Addr} (r : House c i a h A) (k : ∀ A', House c i a (h.heardDrop s n) A' → Frm i A A' → K (.lst []) A') : p_House_hear_heard c [.ref a, .int s, .tup [.str "drop", .int n, .non]] A K := by
  obtain ⟨l, rfl, r⟩ := r
  have h1 := r.at .house rfl
  have h2 := r.at .drops rfl
  have n1 : ¬ ("drop" : Str) = "unit" := by decide +kernel
  refine ⟨rfl, seq_ok (asgD (ev_var (i := 2) rfl) (tup3 ?_))⟩
  refine seq_ok (if_ok (te_eqS (n := false) (ev_var (i := 3) rfl) ev_c ?_))
  simp only [n1, decide_false, Bool.false_eq_true, if_false]
  refine if_ok (te_eqS (n := false) (ev_var (i := 3) rfl) ev_c ?_)
  simp only [decide_true, Bool.false_eq_true, if_false, if_true]
  show iAny (wFld c.House "drops" (wVar 0)) _ _ _
  have E : Ev (wFld c.House "drops" (wVar 0)) [some (.d (.ref (l .house))), some (.d (.int s)), some (.d (.tup [.str "drop", .int n, .non])), some (.d (.str "drop")), some (.d (.int n)), some (.d .non), none, none, none] A (.ref (l .drops)) := ev_fld (ev_var rfl) h1 lkH_drops
  refine it_any (E _ (it_ref h2 ?_))
  refine lcGo_map (ρ := [some (.d (.ref (l .house))), some (.d (.int s)), some (.d (.tup [.str "drop", .int n, .non])), some (.d (.str "drop")), some (.d (.int n)), some (.d .non), none, none, none]) (P := fun p => !decide (p.1.1 = s) || !decide (p.2 = n)) (F := eDrop) (by simp [chkL, lstOf, obOf, h2]) (fun p => [some (.d (.ref (l .house))), some (.d (.int s)), some (.d (.tup [.str "drop", .int n, .non])), some (.d (.str "drop")), some (.d (.int n)), some (.d .non), none, none, some (.d (eDrop p))]) _ [] (fun p hp => ⟨rfl, fun Kt Kf q => nm_ok ?_⟩) ?_
  · refine or_ok (te_eqI (n := true) (a := p.1.1) (b := s) (ev_ix0 (ev_ixT (xs := [eH p.1, .int p.2]) (ev_var (i := 8) rfl) (by simp [atI, ixN]))) (ev_var (i := 1) rfl) ?_)
    by_cases e1 : p.1.1 = s
    · simp only [e1, decide_true, if_true, Bool.not_true, Bool.false_eq_true, if_false, Bool.false_or] at q ⊢
      refine te_eqI (n := true) (a := p.2) (b := n) (ev_ixT (xs := [eH p.1, .int p.2]) (ev_var (i := 8) rfl) (by simp [atI, ixN])) (ev_var (i := 4) rfl) ?_
      by_cases e2 : p.2 = n
      · simp only [e2, decide_true, if_true, Bool.not_true, Bool.false_eq_true, if_false] at q ⊢
        exact q
      · simp only [e2, decide_false, if_true, Bool.not_false] at q ⊢
        exact ⟨_, rfl, q⟩
    · simp only [e1, decide_false, if_true, Bool.not_false, Bool.true_or] at q ⊢
      exact ⟨_, rfl, q⟩
  · refine ⟨_, rfl, ⟨i, Pt.drops.code⟩, fun b hb => ?_⟩
    have g1 : up A b ⟨⟨i, Pt.drops.code⟩, .lst ([] ++ ((h.drops.filter fun p => !decide (p.1.1 = s) || !decide (p.2 = n)).map eDrop))⟩ (l .house) = some _ := up_of (z := ⟨⟨i, Pt.drops.code⟩, .lst []⟩) h1 hb
    refine ⟨_, rfl, l .house, _, _, rfl, g1, lenH, Nat.zero_le _, k _ ⟨_, ?_, r.dropsNew hb⟩ ((Frm.new hb).trans (Frm.upd g1 rfl))⟩
    simp
end
end Dn

namespace Dn
open PySem L2 PyProof.Rows PySem.W
section
variable {ρ : Rho} {A : Ah} {te : WE}
theorem ev_cutHi {xs : List D} {j : Int} (he : Ev te ρ A (.tup xs)) (hn : ¬ (HT.sIx xs.length 0 none = 0 ∧ HT.sIx xs.length xs.length (some j) = xs.length)) : Ev (wSlice wCut te oNone (oSome (wC (.int j)))) ρ A (.tup (cutD xs none (some j))) := fun _ q => he _ ⟨j, rfl, .inr (.inl ⟨xs, rfl, hn, q⟩)⟩
theorem ev_cutLo {xs : List D} {j : Int} (he : Ev te ρ A (.tup xs)) (hn : ¬ (HT.sIx xs.length 0 (some j) = 0 ∧ HT.sIx xs.length xs.length none = xs.length)) : Ev (wSlice wCut te (oSome (wC (.int j))) oNone) ρ A (.tup (cutD xs (some j) none)) := fun _ q => he _ ⟨j, rfl, .inr (.inl ⟨xs, rfl, hn, q⟩)⟩
theorem cut2 (x y : D) (r : List D) : cutD (x :: y :: r) none (some 2) = [x, y] := by
  simp [cutD, HT.sIx]
theorem cutR (x y : D) (r : List D) : cutD (x :: y :: r) (some 2) none = r := by
  simp [cutD, HT.sIx]
end
section
variable {c : Cs} {i : Nat} {l l' : Lc} {h : Hv} {A A' : Ah} {K : U → Ah → Prop}
def Hv.hear (h : Hv) : Lt → List Lt × Hv
  | .unit _ frm t u => ([.hUnit frm h.number u], h.hearUnit frm t u)
  | .ask _ frm n t w => ([.hAsk frm h.number n (h.hearAsk frm n t w).1], (h.hearAsk frm n t w).2)
  | .drop _ frm _ u => ([.hDrop frm h.number u], h.hearDrop frm u)
  | .hUnit _ frm u => ([], h.heardUnit frm u)
  | .hAsk _ _ n a => ([], h.heardAsk n a)
  | .hDrop _ frm u => ([], h.heardDrop frm u)
/-- what a house does of a letter -/
def Hv.bring (h : Hv) (x : Lt) : List Lt × Hv := ((h.hear x).1, (h.hear x).2.without (h.hear x).2.free)
/-- the end: all is settled, what was found is told -/
theorem bring_end {d : WD} {a : Addr} {h1 : Hv} {x1 x2 x3 x4 : Option U} {xs : List D} (hd : d.rt = K) (r : House c i a h1 A) (w : h1.Wf) (k : ∀ A', House c i a (h1.without h1.free) A' → Frm i A A' → K (.lst xs) A') :
    sSeq (sExpr (wMeth c.House "settle" (p_House_settle c) (wVar 0) wNil)) (sRet (wVar 5)) d [some (.d (.ref a)), x1, x2, x3, x4, some (.lst xs)] A := by
  obtain ⟨l, rfl, r⟩ := r
  have g1 := r.at .house rfl
  refine seq_ok (expr_ok (methEv (ev_var (i := 0) rfl) g1 lkH_m_settle eva_nil (settle_ok r w fun A2 r2 fr2 => ?_)))
  dsimp only
  refine ret_ok ?_
  refine ⟨_, rfl, _, rfl, rfl, ?_⟩
  show d.rt _ _
  rw [hd]
  exact k A2 ⟨l, rfl, r2⟩ fr2
/-- the head: whom it is for, who sent it, what stands in it -/
theorem bring_head {d : WD} {to frm : Int} {word : Str} {rest : List D} {t : WS} (r : HR c i l h A) (ht : to = h.number) (hn : (aget h.dead frm).isSome = false) (hr : rest ≠ [])
    (k : t d [some (.d (.ref (l .house))), some (.d (.tup [.int to, .tup (.int frm :: .str word :: rest)])), some (.d (.int frm)), some (.d (.str word)), some (.d (.tup rest)), none] A) :
    sSeq (sIf (tB (wBin (wEqB true) (wBin wIx (wVar 1) (wC (.int 0))) (wFld c.House "number" (wVar 0)))) sNever sNil)
      (sSeq (sAsg (gTup 2 (gsCons (gNm 2) (gsCons (gNm 3) gsNil))) (wSlice wCut (wBin wIx (wVar 1) (wC (.int 1))) oNone (oSome (wC (.int 2)))))
      (sSeq (sIf (tB (wBin (wIn false) (wVar 2) (wFld c.House "dead" (wVar 0)))) (sRet (wLst wNil)) sNil)
      (sSeq (sSet 4 (wSlice wCut (wBin wIx (wVar 1) (wC (.int 1))) (oSome (wC (.int 2))) oNone)) t))) d [some (.d (.ref (l .house))), some (.d (.tup [.int to, .tup (.int frm :: .str word :: rest)])), none, none, none, none] A := by
  have h1 := r.at .house rfl
  have h2 := r.at .dead rfl
  have nz : rest.length ≠ 0 := fun e => hr (List.length_eq_zero_iff.mp e)
  refine seq_ok (if_ok (te_eqI (n := true) (a := to) (b := h.number) (ev_ixT (xs := [.int to, .tup (.int frm :: .str word :: rest)]) (ev_var (i := 1) rfl) (by simp [atI, ixN])) (ev_fld (ev_var (i := 0) rfl) h1 lkH_number) ?_))
  simp only [ht, decide_true, if_true, Bool.not_true, Bool.false_eq_true, if_false]
  rw [← ht]
  dsimp only [sNil]
  have E1 : Ev (wBin wIx (wVar 1) (wC (.int 1))) [some (.d (.ref (l .house))), some (.d (.tup [.int to, .tup (.int frm :: .str word :: rest)])), none, none, none, none] A (.tup (.int frm :: .str word :: rest)) := ev_ixT (xs := [.int to, .tup (.int frm :: .str word :: rest)]) (ev_var (i := 1) rfl) (by simp [atI, ixN])
  have E2 := ev_cutHi (j := 2) E1 (by simp [HT.sIx]; omega)
  rw [cut2] at E2
  refine seq_ok (asgD E2 (tup2 ?_))
  dsimp only [List.set]
  refine seq_ok (if_ok (te_inD (n := false) (z := .int frm) (ev_var (i := 2) rfl) (ev_fld (ev_var (i := 0) rfl) h1 lkH_dead) h2 keyIn_xSetI ?_))
  rw [dget_xSetI, Option.isSome_map, hn]
  simp only [neg, Bool.false_eq_true, if_false]
  have E3 : Ev (wBin wIx (wVar 1) (wC (.int 1))) [some (.d (.ref (l .house))), some (.d (.tup [.int to, .tup (.int frm :: .str word :: rest)])), some (.d (.int frm)), some (.d (.str word)), none, none] A (.tup (.int frm :: .str word :: rest)) := ev_ixT (xs := [.int to, .tup (.int frm :: .str word :: rest)]) (ev_var (i := 1) rfl) (by simp [atI, ixN])
  have E4 := ev_cutLo (j := 2) E3 (by simp [HT.sIx])
  rw [cutR] at E4
  dsimp only [sNil]
  refine seq_ok (set_ok (E4 _ ?_))
  exact k
end
end Dn

namespace Dn
open PySem L2 PyProof.Rows PySem.W
section
variable {c : Cs} {i : Nat} {l l' : Lc} {h : Hv} {A A' : Ah} {K : U → Ah → Prop}
def Lt.to : Lt → Int
  | .unit t .. => t | .ask t .. => t | .drop t .. => t | .hUnit t .. => t | .hAsk t .. => t | .hDrop t .. => t
def Lt.frm : Lt → Int
  | .unit _ f .. => f | .ask _ f .. => f | .drop _ f .. => f | .hUnit _ f .. => f | .hAsk _ f .. => f | .hDrop _ f .. => f
/-- what a letter asks of the house that it comes to -/
def Lt.ok (h : Hv) : Lt → Prop
  | .unit _ f _ _ => f ≠ h.number
  | .hAsk _ _ n _ => ∀ q m j, aget h.asks n = some (q, .call m j) → 0 ≤ j ∧ j < h.calls.length
  | _ => True
theorem bring_ok {x : Lt} {a : Addr} (r : House c i a h A) (w0 : h.Wf) (ht : x.to = h.number) (hn : (aget h.dead x.frm).isSome = false) (hx : x.ok h) (w : (h.hear x).2.Wf)
    (k : ∀ A', House c i a (h.bring x).2 A' → Frm i A A' → K (.lst ((h.bring x).1.map eLt)) A') : p_House_bring c [.ref a, eLt x] A K := by
  obtain ⟨l, rfl, r⟩ := r
  have h1 := r.at .house rfl
  have nau : ¬ ("ask" : Str) = "unit" := by decide +kernel
  have ndu : ¬ ("drop" : Str) = "unit" := by decide +kernel
  have nda : ¬ ("drop" : Str) = "ask" := by decide +kernel
  have nhu : ¬ ("heard" : Str) = "unit" := by decide +kernel
  have nha : ¬ ("heard" : Str) = "ask" := by decide +kernel
  have nhd : ¬ ("heard" : Str) = "drop" := by decide +kernel
  cases x with
  | unit to frm t u =>
    refine ⟨rfl, bring_head r ht hn nofun ?_⟩
    refine seq_ok (if_ok (te_eqS (n := false) (a := "unit") (ev_var (i := 3) rfl) ev_c ?_))
    simp only [decide_true, Bool.false_eq_true, if_false, if_true]
    refine set_ok (methEv (ev_var (i := 0) rfl) h1 lkH_m_hear_unit (eva_cons (ev_var (i := 2) rfl) (eva_cons (ev_var (i := 4) rfl) eva_nil)) (hear_unit_ok ⟨l, rfl, r⟩ w0.fits hx fun A2 r2 f2 => ?_))
    dsimp only [setV, List.set]
    exact bring_end rfl r2 w fun A3 r3 f3 => k A3 r3 (f2.trans f3)
  | ask to frm n t w' =>
    refine ⟨rfl, bring_head r ht hn nofun ?_⟩
    refine seq_ok (if_ok (te_eqS (n := false) (a := "ask") (ev_var (i := 3) rfl) ev_c ?_))
    simp only [nau, decide_false, Bool.false_eq_true, if_false]
    refine if_ok (te_eqS (n := false) (a := "ask") (ev_var (i := 3) rfl) ev_c ?_)
    simp only [decide_true, Bool.false_eq_true, if_false, if_true]
    refine set_ok (methEv (ev_var (i := 0) rfl) h1 lkH_m_hear_ask (eva_cons (ev_var (i := 2) rfl) (eva_cons (ev_var (i := 4) rfl) eva_nil)) (hear_ask_ok r w0.fits w0.own fun A2 r2 f2 => ?_))
    dsimp only [setV, List.set]
    exact bring_end rfl ⟨l, rfl, r2⟩ w fun A3 r3 f3 => k A3 r3 (f2.trans f3)
  | drop to frm t u =>
    refine ⟨rfl, bring_head r ht hn nofun ?_⟩
    refine seq_ok (if_ok (te_eqS (n := false) (a := "drop") (ev_var (i := 3) rfl) ev_c ?_))
    simp only [ndu, decide_false, Bool.false_eq_true, if_false]
    refine if_ok (te_eqS (n := false) (a := "drop") (ev_var (i := 3) rfl) ev_c ?_)
    simp only [nda, decide_false, Bool.false_eq_true, if_false]
    refine set_ok (ifx_ok (te_eqS (n := false) (a := "drop") (ev_var (i := 3) rfl) ev_c ?_))
    simp only [decide_true, Bool.false_eq_true, if_false, if_true]
    refine methEv (ev_var (i := 0) rfl) h1 lkH_m_hear_drop (eva_cons (ev_var (i := 2) rfl) (eva_cons (ev_var (i := 4) rfl) eva_nil)) (hear_drop_ok r fun A2 r2 f2 => ?_)
    dsimp only [setV, List.set]
    exact bring_end rfl ⟨l, rfl, r2⟩ w fun A3 r3 f3 => k A3 r3 (f2.trans f3)
  | hUnit to frm u =>
    refine ⟨rfl, bring_head r ht hn nofun ?_⟩
    refine seq_ok (if_ok (te_eqS (n := false) (a := "heard") (ev_var (i := 3) rfl) ev_c ?_))
    simp only [nhu, decide_false, Bool.false_eq_true, if_false]
    refine if_ok (te_eqS (n := false) (a := "heard") (ev_var (i := 3) rfl) ev_c ?_)
    simp only [nha, decide_false, Bool.false_eq_true, if_false]
    refine set_ok (ifx_ok (te_eqS (n := false) (a := "heard") (ev_var (i := 3) rfl) ev_c ?_))
    simp only [nhd, decide_false, Bool.false_eq_true, if_false]
    refine methEv (ev_var (i := 0) rfl) h1 lkH_m_hear_heard (eva_cons (ev_var (i := 2) rfl) (eva_cons (ev_var (i := 4) rfl) eva_nil)) (hear_heard_unit r fun A2 r2 f2 => ?_)
    dsimp only [setV, List.set]
    exact bring_end rfl ⟨l, rfl, r2⟩ w fun A3 r3 f3 => k A3 r3 (f2.trans f3)
  | hAsk to frm n a' =>
    refine ⟨rfl, bring_head r ht hn nofun ?_⟩
    refine seq_ok (if_ok (te_eqS (n := false) (a := "heard") (ev_var (i := 3) rfl) ev_c ?_))
    simp only [nhu, decide_false, Bool.false_eq_true, if_false]
    refine if_ok (te_eqS (n := false) (a := "heard") (ev_var (i := 3) rfl) ev_c ?_)
    simp only [nha, decide_false, Bool.false_eq_true, if_false]
    refine set_ok (ifx_ok (te_eqS (n := false) (a := "heard") (ev_var (i := 3) rfl) ev_c ?_))
    simp only [nhd, decide_false, Bool.false_eq_true, if_false]
    refine methEv (ev_var (i := 0) rfl) h1 lkH_m_hear_heard (eva_cons (ev_var (i := 2) rfl) (eva_cons (ev_var (i := 4) rfl) eva_nil)) (hear_heard_ask r hx fun A2 r2 f2 => ?_)
    dsimp only [setV, List.set]
    exact bring_end rfl ⟨l, rfl, r2⟩ w fun A3 r3 f3 => k A3 r3 (f2.trans f3)
  | hDrop to frm u =>
    refine ⟨rfl, bring_head r ht hn nofun ?_⟩
    refine seq_ok (if_ok (te_eqS (n := false) (a := "heard") (ev_var (i := 3) rfl) ev_c ?_))
    simp only [nhu, decide_false, Bool.false_eq_true, if_false]
    refine if_ok (te_eqS (n := false) (a := "heard") (ev_var (i := 3) rfl) ev_c ?_)
    simp only [nha, decide_false, Bool.false_eq_true, if_false]
    refine set_ok (ifx_ok (te_eqS (n := false) (a := "heard") (ev_var (i := 3) rfl) ev_c ?_))
    simp only [nhd, decide_false, Bool.false_eq_true, if_false]
    refine methEv (ev_var (i := 0) rfl) h1 lkH_m_hear_heard (eva_cons (ev_var (i := 2) rfl) (eva_cons (ev_var (i := 4) rfl) eva_nil)) (hear_heard_drop ⟨l, rfl, r⟩ fun A2 r2 f2 => ?_)
    dsimp only [setV, List.set]
    exact bring_end rfl r2 w fun A3 r3 f3 => k A3 r3 (f2.trans f3)
end
end Dn

namespace Dn
open PySem L2 PyProof.Rows PySem.W
section
variable {c : Cs} {i : Nat} {l l' : Lc} {h : Hv} {A A' : Ah} {K : U → Ah → Prop}
/-- (handle, count) -/
def eHC (p : Hd × Int) : D := .tup [eH p.1, .int p.2]
def Hv.ownRows (h : Hv) : List (Hd × Int) := (h.own.map (·.1)).map fun t => ((h.number, t), (aget h.own t).getD 0)
def Hv.unitRows (h : Hv) : List (Hd × Int) := (h.units.map (·.1)).map fun q => (q, (((aget h.units q).getD []).length : Int))
def Hv.tabUnits (h : Hv) : List (Hd × Int) := (sortK eHC (h.ownRows ++ h.unitRows)).filter fun p => decide (0 < p.2)
def Th.rows (x : Th) : List (Hd × Int) := ((sortK eH (x.links.map (·.1))).filter fun q => !((aget x.links q).getD []).isEmpty).map fun q => (q, (((aget x.links q).getD []).length : Int))
def Hv.tabThings (h : Hv) : List D := (sortK D.int (h.stand.map (·.1))).map fun t => .tup [.int t, .tup ((((aget h.stand t).map Th.rows).getD []).map eHC)]
def Hv.table (h : Hv) : D := .tup [.tup (h.tabUnits.map eHC), .tup h.tabThings]
theorem canSort_hcs {xs : List (Hd × Int)} (h : xs.length ≤ sizeLine) : CanSort (xs.map eHC) := canSort_tups (fun x y => by
  refine ⟨rfl, rfl, ⟨_, _, rfl⟩, ?_⟩
  simp [eHC, eH, D.pd, D.pds, PyData.depth, PyData.depthAll]) h
def R8 (l : Lc) (x1 x2 x3 x4 x5 x6 x7 : Option U) : Rho := [some (.d (.ref (l .house))), x1, x2, x3, x4, x5, x6, x7]
/-- the first row of table: the own things' counts -/
theorem table1 {d : WD} (r : HR c i l h A) (k : d.nx (R8 l (some (.lst (h.ownRows.map eHC))) none none none none none none) A) :
    sLock (sSet 1 (wLc (iAny (wFld c.Things "own" (wFld c.House "own" (wVar 0)))) (gNm 3) wYes (wTup (wCons (wTup (wCons (wFld c.House "number" (wVar 0)) (wCons (wVar 3) wNil))) (wCons (wBin wIx (wFld c.Things "own" (wFld c.House "own" (wVar 0))) (wVar 3)) wNil))) [3])) d (R8 l none none none none none none none) A := by
  have h1 := r.at .house rfl
  have h2 := r.at .things rfl
  have h3 := r.at .own rfl
  refine setLcK_ok h3 fun od u => ?_
  have g1 := up_otherT (z := ⟨⟨i, Pt.own.code⟩, .fz od u (h.own.map xInt)⟩) h1 h3 (by simp [Pt.code])
  have g2 := up_otherT (z := ⟨⟨i, Pt.own.code⟩, .fz od u (h.own.map xInt)⟩) h2 h3 (by simp [Pt.code])
  have E : ∀ x3, Ev (wFld c.Things "own" (wFld c.House "own" (wVar 0))) (R8 l none none x3 none none none none) (up A (l .own) ⟨⟨i, Pt.own.code⟩, .fz od u (h.own.map xInt)⟩) (.ref (l .own)) := fun x3 => ev_fld (ev_fld (ev_var rfl) g1 lkH_own) g2 lkT_own
  refine it_any (E none _ (it_fz up_same ?_))
  rw [keys_xInt]
  refine lcGo_all (ρ := R8 l none none none none none none none) (F := fun t => eHC ((h.number, t), (aget h.own t).getD 0)) (by simp [chkF, up_same]) (fun t => R8 l none none (some (.d (.int t))) none none none none) _ (fun t ht => ⟨rfl, fun Kt Kf q => nm_ok (yes_ok ?_)⟩) ⟨up_same, ?_⟩
  · obtain ⟨n, en⟩ := aget_of_mem ht
    rw [en] at q
    exact ev_tup (eva_cons (ev_tup (eva_cons (ev_fld (ev_var rfl) g1 lkH_number) (eva_cons (ev_var (i := 3) (x := .int t) rfl) eva_nil)) le2) (eva_cons (ev_ixF (E _) up_same (ev_var (i := 3) (x := .int t) rfl) keyIn_xInt (by rw [dget_xInt, en]; rfl)) eva_nil)) le2 _ q
  · rw [up_back h3]
    have e : (h.own.map (·.1)).map (fun t => eHC ((h.number, t), (aget h.own t).getD 0)) = h.ownRows.map eHC := by simp [Hv.ownRows]
    rw [e]
    exact k
/-- the second: the others' -/
theorem table2 {d : WD} {xs : List (Hd × Int)} (r : HR c i l h A) (hl : xs.length + h.units.length ≤ sizeLine) (k : d.nx (R8 l (some (.lst ((xs ++ h.unitRows).map eHC))) none none none none none none) A) :
    sSet 1 (wBin wAdd (wVar 1) (wLock (wLc (iAny (wFld c.House "units" (wVar 0))) (gNm 6) wYes (wTup (wCons (wVar 6) (wCons (wCall wLen (uCons (wBin wIx (wFld c.House "units" (wVar 0)) (wVar 6)) uNil)) wNil))) [6]))) d (R8 l (some (.lst (xs.map eHC))) none none none none none none) A := by
  have h1 := r.at .house rfl
  have h3 := r.at .units rfl
  refine set_ok (bin_ok ⟨_, rfl, ?_⟩)
  refine lcK (e := eH) (ks := h.units.map (·.1)) (P := fun _ => true) (F := fun q => eHC (q, (((aget h.units q).getD []).length : Int))) (R8 l (some (.lst (xs.map eHC))) none none none none none none) (fun y => R8 l (some (.lst (xs.map eHC))) none none none none (some (.d (eH y))) none) rfl h1 lkH_units h3 keys_xUnits rfl (fun od u y hy => ⟨rfl, fun Kt Kf q => nm_ok (yes_ok ?_)⟩) ?_
  · obtain ⟨us, eu⟩ := aget_of_mem hy
    have g1 := up_otherT (z := ⟨⟨i, Pt.units.code⟩, .fz od u (h.units.map (xUnits l))⟩) h1 h3 (by simp [Pt.code])
    have h5 := r.at (.unit y) (b := .lst (us.map D.int)) (by simp [M, eu])
    have g5 := up_otherT (z := ⟨⟨i, Pt.units.code⟩, .fz od u (h.units.map (xUnits l))⟩) h5 h3 (by simp [Pt.code])
    simp only [if_true] at q
    have e : (((us.map D.int).length : Nat) : Int) = (((aget h.units y).getD []).length : Int) := by simp [eu]
    refine ev_tup (eva_cons (ev_var (i := 6) (x := eH y) rfl) (eva_cons (ev_len (ev_ixF (ev_fld (ev_var rfl) g1 lkH_units) up_same (ev_var (i := 6) (x := eH y) rfl) keyIn_xUnits (by rw [dget_xUnits, eu]; rfl)) g5) eva_nil)) le2 _ ?_
    rw [e]
    exact q
  · have e : ((h.units.map (·.1)).filter fun _ => true).map (fun q => eHC (q, (((aget h.units q).getD []).length : Int))) = h.unitRows.map eHC := by
      rw [List.filter_eq_self.mpr fun _ _ => rfl]
      simp [Hv.unitRows]
    rw [e]
    refine .inr (.inr (.inr ⟨xs.map eHC, h.unitRows.map eHC, by simp [lstOf, obOf, rd, R8, merge, U.ob], by simp [lstOf, obOf, U.ob], by simpa [Hv.unitRows] using hl, ?_⟩))
    rw [← List.map_append]
    exact k
/-- the end: what is told -/
theorem table4 {d : WD} {xs : List (Hd × Int)} {ts : List D} {x3 x4 x5 x6 x7 : Option U} (hl : xs.length ≤ sizeLine) (k : d.rt (.d (.tup [.tup (((sortK eHC xs).filter fun p => decide (0 < p.2)).map eHC), .tup ts])) A) :
    sRet (wTup (wCons (wCall wTuple (uCons (wLc (iAny (wCall wSorted (uCons (wVar 1) uNil))) (gNm 7) (tB (wBin wGt (wBin wIx (wVar 7) (wC (.int 1))) (wC (.int 0)))) (wVar 7) [7]) uNil)) (wCons (wCall wTuple (uCons (wVar 2) uNil)) wNil))) d (R8 l (some (.lst (xs.map eHC))) (some (.lst ts)) x3 x4 x5 x6 x7) A := by
  refine ret_ok ?_
  refine it_any ⟨_, rfl, ⟨_, xs.map eHC, rfl, by simp [itemsOf, obOf, rd, R8, U.ob], canSort_hcs hl, ?_⟩⟩
  rw [sortD_map]
  refine it_lst ?_
  refine lcGo_map (ρ := R8 l (some (.lst (xs.map eHC))) (some (.lst ts)) x3 x4 x5 x6 none) (P := fun p => decide (0 < p.2)) (F := eHC) trivial (fun p => R8 l (some (.lst (xs.map eHC))) (some (.lst ts)) x3 x4 x5 x6 (some (.d (eHC p)))) _ [] (fun p hp => ⟨rfl, fun Kt Kf q => nm_ok (tB_ok (bin_ok ?_))⟩) ?_
  · have E : Ev (wBin wIx (wVar 7) (wC (.int 1))) (R8 l (some (.lst (xs.map eHC))) (some (.lst ts)) x3 x4 x5 x6 (some (.d (eHC p)))) A (.int p.2) := ev_ixT (xs := [eH p.1, .int p.2]) (ev_var (i := 7) rfl) (by simp [atI, ixN])
    refine E _ ((wGt_int _ _).mpr ⟨_, rfl, ?_⟩)
    by_cases h0 : 0 < p.2
    · simp only [h0, decide_true, if_true] at q ⊢
      exact ⟨_, rfl, q⟩
    · simp only [h0, decide_false, Bool.false_eq_true, if_false] at q ⊢
      exact q
  · refine ⟨.lst _, _, rfl, rfl, ?_⟩
    refine ⟨_, rfl, ⟨_, ts, rfl, by simp [seqOf, lstOf, obOf, rd, R8, merge, U.ob], ?_⟩⟩
    exact ⟨le2, k⟩
def Hv.tabRow (h : Hv) (t : Int) : D := .tup [.int t, .tup ((((aget h.stand t).map Th.rows).getD []).map eHC)]
/-- the loop over the things -/
theorem table3 {d : WD} {x1 : Option U} (r : HR c i l h A) (f : h.stand.length ≤ sizeLine) (hlk : ∀ p ∈ h.stand, p.2.links.length ≤ sizeLine) (k : ∀ x3 x4 x5, d.nx (R8 l x1 (some (.lst h.tabThings)) x3 x4 x5 none none) A) :
    sFor (iAny (wCall wSorted (uCons (wFld c.Things "stand" (wFld c.House "own" (wVar 0))) uNil))) (gNm 3)
      (sSeq (sSet 4 (wFld c.Thing "links" (wBin wIx (wFld c.Things "stand" (wFld c.House "own" (wVar 0))) (wVar 3))))
      (sSeq (sSet 5 (wLc (iAny (wCall wSorted (uCons (wVar 4) uNil))) (gNm 6) (tB (wBin (wEqB true) (wBin wIx (wVar 4) (wVar 6)) (wLst wNil))) (wTup (wCons (wVar 6) (wCons (wCall wLen (uCons (wBin wIx (wVar 4) (wVar 6)) uNil)) wNil))) [6]))
      (sExpr (wMt "list" mAppend (wVar 2) (uCons (wTup (wCons (wVar 3) (wCons (wCall wTuple (uCons (wVar 5) uNil)) wNil))) uNil))))) d (R8 l x1 (some (.lst [])) none none none none none) A := by
  have h1 := r.at .house rfl
  have h2 := r.at .things rfl
  have h3 := r.at .stand rfl
  refine for_ok (it_any (call1 (ev_fld (ev_fld (ev_var rfl) h1 lkH_own) h2 lkT_stand) (sorted_dct h3 (e := D.int) keys_xStand (canSort_ints (by simpa using f)) (it_lst ?_))))
  refine forGo_n h.stand.length (fun n s ρ A' => A' = A ∧ s.length ≤ n ∧ ∃ x3 x4 x5, ρ = R8 l x1 (some (.lst s)) x3 x4 x5 none none) (fun s t => s ++ [h.tabRow t]) (fun _ _ _ _ _ => trivial) _ 0 [] _ A (by simp [sortK]) (fun t ht n s ρ A' Kx hn ⟨eA, hs, x3, x4, x5, eρ⟩ hK => ?_) ⟨rfl, Nat.le_refl _, _, _, _, rfl⟩ fun n ρ A' ⟨eA, hs, x3, x4, x5, eρ⟩ => ?_
  · subst eA eρ
    rw [sortK_mem] at ht
    obtain ⟨x, ex⟩ := aget_of_mem ht
    have h4 := r.at (.thing t) (b := .ins c.Thing (kTh.zip [.int x.worth, .ref (l (.links t))])) (by simp [M, ex])
    have h5 := r.at (.links t) (b := .dct (x.links.map (xLinks l t))) (by simp [M, ex])
    refine nm_ok (seq_ok (set_ok (ev_fld (ev_ixD (ev_fld (ev_fld (ev_var rfl) h1 lkH_own) h2 lkT_stand) h3 (ev_var (i := 3) (x := .int t) rfl) keyIn_xStand (by rw [dget_xStand, ex]; rfl)) h4 lkTh_links _ ?_)))
    dsimp only
    refine seq_ok (setLc_ok (it_any (call1 (ev_var (i := 4) (x := .ref (l (.links t))) rfl) (sorted_dct h5 (e := eH) keys_xLinks (canSort_hds (by simpa using hlk _ (aget_some ex))) (it_lst ?_)))))
    refine lcGo_map (ρ := R8 l x1 (some (.lst s)) (some (.d (.int t))) (some (.d (.ref (l (.links t))))) x5 none none) (P := fun q => !((aget x.links q).getD []).isEmpty) (F := fun q => eHC (q, (((aget x.links q).getD []).length : Int))) trivial (fun q => R8 l x1 (some (.lst s)) (some (.d (.int t))) (some (.d (.ref (l (.links t))))) x5 (some (.d (eH q))) none) _ [] (fun q hq => ⟨rfl, fun Kt Kf z => nm_ok (tB_ok (bin_ok ?_))⟩) ?_
    · rw [sortK_mem] at hq
      obtain ⟨us, eu⟩ := aget_of_mem hq
      have h6 := r.at (.link t q) (b := .lst (us.map D.int)) (by simp [M, ex, eu])
      have E : Ev (wBin wIx (wVar 4) (wVar 6)) (R8 l x1 (some (.lst s)) (some (.d (.int t))) (some (.d (.ref (l (.links t))))) x5 (some (.d (eH q))) none) A' (.ref (l (.link t q))) :=
        ev_ixD (ev_var (i := 4) (x := .ref (l (.links t))) rfl) h5 (ev_var (i := 6) (x := eH q) rfl) keyIn_xLinks (by rw [dget_xLinks, eu]; rfl)
      refine E _ ⟨Nat.zero_le _, ne_nil (xs := us.map D.int) (by simp [lstOf, obOf, h6]) (pures_ints us) (shaped_ints us) ⟨_, rfl, ?_⟩⟩
      simp only [eu, Option.getD_some] at z
      cases us with
      | nil => simpa using z
      | cons u us =>
        simp only [List.isEmpty_cons, Bool.not_false, if_true, List.map_cons] at z ⊢
        refine ev_tup (eva_cons (ev_var (i := 6) (x := eH q) rfl) (eva_cons (ev_len E h6) eva_nil)) le2 _ ?_
        show Kt _ _ _
        simpa [eHC] using z
    · dsimp only
      have hK' := hK (R8 l x1 (some (.lst (s ++ [h.tabRow t]))) (some (.d (.int t))) (some (.d (.ref (l (.links t))))) (some (.lst (x.rows.map eHC))) none none) A' ⟨rfl, by simpa using hs, _, _, _, rfl⟩
      have er : h.tabRow t = .tup [.int t, .tup (x.rows.map eHC)] := by simp [Hv.tabRow, ex]
      have el : (List.filter (fun q => !((aget x.links q).getD []).isEmpty) (sortK eH (x.links.map (·.1)))).map (fun q => eHC (q, (((aget x.links q).getD []).length : Int))) = x.rows.map eHC := by simp [Th.rows]
      rw [List.nil_append, el]
      rw [er] at hK'
      refine app_loc (i := 2) (xs := s) (y := .tup [.int t, .tup (x.rows.map eHC)]) rfl (ev_tup (eva_cons (ev_var (i := 3) rfl) (eva_cons ?_ eva_nil)) le2) (by omega) hK'
      exact fun k q => ⟨_, rfl, _, _, rfl, rfl, q⟩
  · subst eA eρ
    rw [foldl_map]
    exact k x3 x4 x5
theorem table_ok (r : HR c i l h A) (f : h.stand.length ≤ sizeLine) (hlk : ∀ p ∈ h.stand, p.2.links.length ≤ sizeLine) (hu : h.own.length + h.units.length ≤ sizeLine) (k : K (.d h.table) A) : p_House_table c [.ref (l .house)] A K := by
  refine ⟨rfl, seq_ok (table1 r ?_)⟩
  refine seq_ok (table2 (xs := h.ownRows) r (by simpa [Hv.ownRows] using hu) ?_)
  dsimp only
  refine seq_ok (set_ok ⟨Nat.zero_le _, ?_⟩)
  dsimp only [setV]
  refine seq_ok (table3 r f hlk fun x3 x4 x5 => ?_)
  exact table4 (xs := h.ownRows ++ h.unitRows) (by simpa [Hv.ownRows, Hv.unitRows] using hu) k
end
end Dn

namespace Dn
open PySem L2 PyProof.Rows PySem.W
/-! ### the laws' own words: draws -/
section
variable {ρ : Rho} {A : Ah} {k : K1} {te te2 : WE} {a : Addr} {t : Tag} {xs : List D}
theorem ev_ixL {n : Int} {x : D} (he : Ev te ρ A (.ref a)) (hA : A a = some ⟨t, .lst xs⟩) (hz : Ev te2 ρ A (.int n)) (hx : atI xs n = some x) : Ev (wBin wIx te te2) ρ A x := fun _ q => he _ (hz _ ((ix_lst hA n).mpr ⟨x, hx, q⟩))
theorem ev_add {x y : Int} (ha : Ev te ρ A (.int x)) (hb : Ev te2 ρ A (.int y)) : Ev (wBin wAdd te te2) ρ A (.int (x + y)) := fun _ q => ha _ (hb _ ((wAdd_int x y).mpr q))
theorem ev_i2 {C : Int → Int → Prop} {g : Int → Int → Int} {x y : Int} (ha : Ev te ρ A (.int x)) (hb : Ev te2 ρ A (.int y)) (c : C x y) : Ev (wBin (wI2 C g) te te2) ρ A (.int (g x y)) := fun _ q => ha _ (hb _ ⟨x, y, rfl, rfl, c, q⟩)
theorem ev_abs {x : Int} (ha : Ev te ρ A (.int x)) : Ev (wCall wAbs (uCons te uNil)) ρ A (.int (if x < 0 then -x else x)) := fun _ q => ha _ ⟨x, rfl, q⟩
theorem and_ok {ta tb : WT} {kb : KB} (h : ta ρ A fun b ρ1 A1 => if b = true then tb ρ1 A1 kb else kb false ρ1 A1) : tAnd ta tb ρ A kb := h
theorem not_ok {ta : WT} {kb : KB} (h : ta ρ A fun b ρ1 A1 => kb (!b) ρ1 A1) : tNot ta ρ A kb := h
theorem te_gtI {ta tb : WE} {kb : KB} {a b : Int} (ha : Ev ta ρ A (.int a)) (hb : Ev tb ρ A (.int b)) (q : kb (decide (b < a)) ρ A) : tB (wBin wGt ta tb) ρ A kb := ha _ (hb _ ((wGt_int a b).mpr ⟨_, rfl, q⟩))
theorem te_geI {ta tb : WE} {kb : KB} {a b : Int} (ha : Ev ta ρ A (.int a)) (hb : Ev tb ρ A (.int b)) (q : kb (decide (b ≤ a)) ρ A) : tB (wBin wGe ta tb) ρ A kb := ha _ (hb _ ((wGe_int a b).mpr ⟨_, rfl, q⟩))
theorem te_ltI {ta tb : WE} {kb : KB} {a b : Int} (ha : Ev ta ρ A (.int a)) (hb : Ev tb ρ A (.int b)) (q : kb (decide (a < b)) ρ A) : tB (wBin wLt ta tb) ρ A kb := ha _ (hb _ ((wLt_int a b).mpr ⟨_, rfl, q⟩))
theorem up_up {b c : Cell} : up (up A a b) a c = up A a c := by
  funext x
  unfold up
  split <;> rfl
theorem pop_at {i : Int} {j : Nat} {y : D} (h : A a = some ⟨t, .lst xs⟩) (hb : -(2 ^ 63) ≤ i ∧ i < 2 ^ 63) (hj : ixN xs.length i = some j) (hy : xs[j]? = some y) (q : k (.d y) ρ (up A a ⟨t, .lst (xs.eraseIdx j)⟩)) : mPopAt (.d (.ref a)) [.d (.int i)] ρ A k :=
  ⟨i, xs, j, y, rfl, by simp [lstOf, obOf, h], hb.1, hb.2, hj, hy, by simpa [setOb, h] using q⟩
theorem popAtE {i : Int} {j : Nat} {y : D} (he : Ev te ρ A (.ref a)) (hi : Ev te2 ρ A (.int i)) (h : A a = some ⟨t, .lst xs⟩) (hb : -(2 ^ 63) ≤ i ∧ i < 2 ^ 63) (hj : ixN xs.length i = some j) (hy : xs[j]? = some y) (q : k (.d y) ρ (up A a ⟨t, .lst (xs.eraseIdx j)⟩)) : wMt "list" mPopAt te (uCons te2 uNil) ρ A k :=
  he _ ⟨tyU_lst h, hi _ (pop_at h hb hj hy q)⟩
theorem sixLE {d : WD} {to ti tv : WE} {j : Int} {n : Nat} {y : D} (hv : Ev tv ρ A y) (ho : Ev to ρ A (.ref a)) (hi : Ev ti ρ A (.int j)) (hA : A a = some ⟨t, .lst xs⟩) (hn : ixN xs.length j = some n) (q : d.nx ρ (up A a ⟨t, .lst (xs.set n y)⟩)) : sIx to ti tv d ρ A :=
  hv _ (ho _ ⟨rfl, hi _ ⟨_, rfl, (setIx_lst hA).mpr ⟨n, hn, q⟩⟩⟩)
theorem retE {d : WD} {x : D} (he : Ev te ρ A x) (q : d.rt (.d x) A) : sRet te d ρ A := he _ q
theorem setE {d : WD} {i : Nat} {x : D} (he : Ev te ρ A x) (q : d.nx (ρ.set i (some (.d x))) A) : sSet i te d ρ A := he _ q
end
/-- the draws that a script is -/
def dice (ns : List Int) (k : Int) : List Int := ns.foldl (fun f x => (f * 31 + if x < 0 then -x else x) % 2147483647) k :: 0 :: ns.filter fun x => decide (1000000000000000000 ≤ x)
structure DiceOk (xs : List Int) : Prop where
  ok : ∃ x y r, xs = x :: y :: r ∧ 0 ≤ x ∧ x < 2147483647 ∧ 0 ≤ y ∧ (∀ z ∈ r, 0 < z) ∧ r.length ≤ 63
/-- a draw below m, and what is left -/
def offA : List Int → List Int
  | x :: y :: z :: r => if y = 0 then x :: z :: r else x :: y :: z :: r
  | xs => xs
def offB (m : Int) : List Int → Int × List Int
  | x :: y :: r => if 0 < y then (y % m, x :: y / m :: r) else (((x * 48271 + 11) % 2147483647) / 64 % m, ((x * 48271 + 11) % 2147483647) :: y :: r)
  | xs => (0, xs)
def off (xs : List Int) (m : Int) : Int × List Int := offB m (offA xs)
theorem offA_ok {xs : List Int} (h : DiceOk xs) : DiceOk (offA xs) := by
  obtain ⟨x, y, r, rfl, h1, h2, h3, h4, h5⟩ := h.ok
  match r, h4, h5 with
  | [], _, _ => exact ⟨x, y, [], rfl, h1, h2, h3, nofun, Nat.zero_le _⟩
  | z :: r, h4, h5 =>
    simp only [offA]
    split
    · exact ⟨x, z, r, rfl, h1, h2, Int.le_of_lt (h4 z List.mem_cons_self), fun w hw => h4 w (List.mem_cons_of_mem _ hw), by simp at h5; omega⟩
    · exact ⟨x, y, z :: r, rfl, h1, h2, h3, h4, h5⟩
theorem offB_ok {xs : List Int} {m : Int} (h : DiceOk xs) (hm : 0 < m) : DiceOk (offB m xs).2 := by
  obtain ⟨x, y, r, rfl, h1, h2, h3, h4, h5⟩ := h.ok
  simp only [offB]
  split
  · exact ⟨x, y / m, r, rfl, h1, h2, Int.ediv_nonneg h3 (Int.le_of_lt hm), h4, h5⟩
  · exact ⟨_, y, r, rfl, Int.emod_nonneg _ (by decide), Int.emod_lt_of_pos _ (by decide), h3, h4, h5⟩
theorem off_dice {xs : List Int} {m : Int} (h : DiceOk xs) (hm : 0 < m) : DiceOk (off xs m).2 := offB_ok (offA_ok h) hm
theorem off_lt {xs : List Int} {m : Int} (h : DiceOk xs) (hm : 0 < m) : 0 ≤ (off xs m).1 ∧ (off xs m).1 < m := by
  obtain ⟨x, y, r, e, h1, h2, h3, h4, h5⟩ := (offA_ok h).ok
  unfold off
  rw [e]
  simp only [offB]
  split
  · exact ⟨Int.emod_nonneg _ (by omega), Int.emod_lt_of_pos _ hm⟩
  · exact ⟨Int.emod_nonneg _ (by omega), Int.emod_lt_of_pos _ hm⟩
theorem fold_le (ns : List Int) : ∀ (k : Int), 0 ≤ k → k < 2147483647 → 0 ≤ ns.foldl (fun f x => (f * 31 + if x < 0 then -x else x) % 2147483647) k ∧ ns.foldl (fun f x => (f * 31 + if x < 0 then -x else x) % 2147483647) k < 2147483647 := by
  induction ns with
  | nil => exact fun k h1 h2 => ⟨h1, h2⟩
  | cons x ns ih => exact fun k h1 h2 => ih _ (Int.emod_nonneg _ (by decide)) (Int.emod_lt_of_pos _ (by decide))
theorem dice_dice {ns : List Int} {k : Int} (h0 : 0 ≤ k) (h1 : k < 2147483647) (hl : ns.length ≤ 63) : DiceOk (dice ns k) :=
  ⟨_, _, _, rfl, (fold_le ns k h0 h1).1, (fold_le ns k h0 h1).2, Int.le_refl _, fun z hz => (by
    have := (List.mem_filter.mp hz).2
    simp at this
    omega), Nat.le_trans (List.length_filter_le _ _) hl⟩
section
variable {c : Cs} {A : Ah} {K : U → Ah → Prop} {a : Addr} {t : Tag}
theorem atI_cons0 {x : D} {r : List D} : atI (x :: r) 0 = some x := by simp [atI, ixN]
theorem atI_cons1 {x y : D} {r : List D} : atI (x :: y :: r) 1 = some y := by
  have : (1 : Int) < (r.length : Int) + 1 + 1 := by omega
  simp [atI, ixN, this]
theorem ixN_cons0 {n : Nat} : ixN (n + 1) 0 = some 0 := by simp [ixN]
theorem ixN_cons1 {n : Nat} : ixN (n + 2) 1 = some 1 := by
  have : (1 : Int) < (n : Int) + 2 := by omega
  simp [ixN, this]
theorem ixN_cons2 {n : Nat} : ixN (n + 3) 2 = some 2 := by
  have : (2 : Int) < (n : Int) + 3 := by omega
  simp [ixN, this]
theorem off_ok {xs : List Int} {m : Int} (hA : A a = some ⟨t, .lst (xs.map D.int)⟩) (h : DiceOk xs) (hm : 0 < m ∧ m < 1073741824) (k : K (.d (.int (off xs m).1)) (up A a ⟨t, .lst ((off xs m).2.map D.int)⟩)) : p_law_off c [.ref a, .int m] A K := by
  obtain ⟨hm1, hm2⟩ := hm
  have part : ∀ (d : WD) (ys : List Int) (A1 : Ah), d.rt = K → DiceOk ys → A1 a = some ⟨t, .lst (ys.map D.int)⟩ → K (.d (.int (offB m ys).1)) (up A1 a ⟨t, .lst ((offB m ys).2.map D.int)⟩) → 
      (sSeq (sIf (tB (wBin wGt (wBin wIx (wVar 0) (wC (.int 1))) (wC (.int 0))))
        (sSeq (sSet 2 (wBin (wI2 (fun _ j => 0 < j) fun i j => i % j) (wBin wIx (wVar 0) (wC (.int 1))) (wVar 1)))
        (sSeq (sIx (wVar 0) (wC (.int 1)) (wBin (wI2 CDiv fun i j => i / j) (wBin wIx (wVar 0) (wC (.int 1))) (wVar 1)))
        (sRet (wVar 2))))
        sNil)
        (sSeq (sIx (wVar 0) (wC (.int 0)) (wBin (wI2 (fun _ j => 0 < j) fun i j => i % j) (wBin wAdd (wBin (wI2 CMul fun i j => i * j) (wBin wIx (wVar 0) (wC (.int 0))) (wC (.int 48271))) (wC (.int 11))) (wC (.int 2147483647))))
        (sRet (wBin (wI2 (fun _ j => 0 < j) fun i j => i % j) (wBin (wI2 CDiv fun i j => i / j) (wBin wIx (wVar 0) (wC (.int 0))) (wC (.int 64))) (wVar 1))))) d [some (.d (.ref a)), some (.d (.int m)), none] A1 := by
    intro d ys A1 hd hy hA1 k
    obtain ⟨x, y, r, rfl, h1, h2, h3, h4, h5⟩ := hy.ok
    have E0 : ∀ z, Ev (wVar 0) [some (.d (.ref a)), some (.d (.int m)), z] A1 (.ref a) := fun z => ev_var rfl
    refine seq_ok (if_ok (te_gtI (ev_ixL (E0 _) hA1 ev_c atI_cons1) ev_c ?_))
    simp only [offB] at k
    by_cases hy0 : 0 < y
    · simp only [hy0, decide_true, if_true] at k ⊢
      refine seq_ok (setE (ev_i2 (ev_ixL (E0 _) hA1 ev_c atI_cons1) (ev_var (x := .int m) rfl) hm1) ?_)
      dsimp only
      refine seq_ok (sixLE (ev_i2 (ev_ixL (ev_var rfl) hA1 ev_c atI_cons1) (ev_var (x := .int m) rfl) ⟨hm1, hm2⟩) (ev_var rfl) ev_c hA1 ixN_cons1 ?_)
      refine retE (ev_var (i := 2) (x := .int (y % m)) rfl) ?_
      rw [hd]
      exact k
    · simp only [hy0, decide_false, Bool.false_eq_true, if_false] at k ⊢
      show sSeq _ _ _ _ _
      refine seq_ok (sixLE (ev_i2 (ev_add (ev_i2 (ev_ixL (E0 _) hA1 ev_c atI_cons0) ev_c (.inr (by decide))) ev_c) ev_c (by show (0 : Int) < 2147483647; decide)) (ev_var rfl) ev_c hA1 ixN_cons0 ?_)
      refine retE (ev_i2 (ev_i2 (ev_ixL (ev_var rfl) up_same ev_c atI_cons0) ev_c ⟨by decide, by decide⟩) (ev_var (x := .int m) rfl) hm1) ?_
      rw [hd]
      exact k
  obtain ⟨x, y, r, rfl, h1, h2, h3, h4, h5⟩ := h.ok
  refine ⟨rfl, seq_ok (if_ok (and_ok (te_eqI (ev_ixL (ev_var rfl) hA ev_c atI_cons1) ev_c ?_)))⟩
  by_cases hy0 : y = 0
  · simp only [hy0, decide_true, Bool.false_eq_true, if_true, if_false]
    refine te_gtI (ev_len (ev_var rfl) hA) ev_c ?_
    cases r with
    | nil => 
      have : ¬ ((2 : Int) < ((List.map D.int [x, y]).length : Nat)) := by simp
      simp only [this, decide_false, Bool.false_eq_true, if_false]
      exact part _ [x, y] A rfl h hA k
    | cons z r =>
      have : ((2 : Int) < ((List.map D.int (x :: y :: z :: r)).length : Nat)) := by simp; omega
      simp only [this, decide_true, if_true]
      refine sixL (j := 1) (a := a) fun q => ?_
      refine popAtE (ev_var rfl) ev_c hA (by decide) (ixN_cons2 (n := (List.map D.int r).length)) (y := .int z) rfl ?_
      refine q _ _ ⟨ev_var rfl, ev_c, _, _, 1, up_same, ixN_cons1 (n := (List.map D.int r).length), ?_⟩
      rw [up_up]
      have e : offA (x :: y :: z :: r) = x :: z :: r := by simp [offA, hy0]
      rw [off, e] at k
      refine part _ (x :: z :: r) _ rfl ?_ up_same ?_
      · rw [← e]; exact offA_ok h
      · rw [up_up]; exact k
  · simp only [hy0, decide_false, Bool.false_eq_true, if_false]
    have e : offA (x :: y :: r) = x :: y :: r := by cases r <;> simp [offA, hy0]
    rw [off, e] at k
    exact part _ (x :: y :: r) A rfl h hA k
theorem scr_keep {K0 : PySem.W.Frag} {ns : List Int} : scrIs K0 A a ns → True := fun _ => trivial
theorem dice_ok {K0 : PySem.W.Frag} {ns : List Int} {k0 : Int} (hs : scrIs K0 A a ns) (hl : ns.length ≤ 63) (h0 : 0 ≤ k0) (h1 : k0 < 2147483647) (k : K (.lst ((dice ns k0).map D.int)) A) : p_law_dice c K0 [.ref a, .int k0] A K := by
  refine ⟨rfl, seq_ok (setE (ev_var (i := 1) (x := .int k0) rfl) ?_)⟩
  dsimp only
  refine seq_ok (for_ok ⟨_, rfl, a, ns, rfl, hs, ?_⟩)
  refine forGo_fold (S := Int) (fun s ρ A' => A' = A ∧ 0 ≤ s ∧ s < 2147483647 ∧ ∃ x3, ρ = [some (.d (.ref a)), some (.d (.int k0)), some (.d (.int s)), x3]) (fun f x => (f * 31 + if x < 0 then -x else x) % 2147483647) (fun s ρ A' h => by rw [h.1]; exact hs) ns k0 _ A (fun y hy s ρ A' Kx ⟨eA, s0, s1, x3, eρ⟩ hK => ?_) ⟨rfl, h0, h1, _, rfl⟩ fun ρ A' ⟨eA, s0, s1, x3, eρ⟩ => ?_
  · subst eA eρ
    refine nm_ok (setE (ev_i2 (ev_add (ev_i2 (ev_var (i := 2) (x := .int s) rfl) ev_c (.inr (by decide))) (ev_abs (ev_var (i := 3) (x := .int y) rfl))) ev_c (by show (0 : Int) < 2147483647; decide)) ?_)
    exact hK _ _ ⟨rfl, Int.emod_nonneg _ (by decide), Int.emod_lt_of_pos _ (by decide), _, rfl⟩
  · subst eA eρ
    dsimp only
    refine ret_ok (bin_ok ?_)
    refine eva_cons (ev_var (i := 2) rfl) (eva_cons ev_c eva_nil) _ ⟨le2, ?_⟩
    refine ⟨_, rfl, a, ns, rfl, hs, ?_⟩
    refine lcGo_map (ρ := [some (.d (.ref a)), some (.d (.int k0)), some (.d (.int (List.foldl (fun f x => (f * 31 + if x < 0 then -x else x) % 2147483647) k0 ns))), none]) (P := fun x => decide (1000000000000000000 ≤ x)) (F := D.int) hs (fun x => [some (.d (.ref a)), some (.d (.int k0)), some (.d (.int (List.foldl (fun f x => (f * 31 + if x < 0 then -x else x) % 2147483647) k0 ns))), some (.d (.int x))]) ns [] (fun x hx => ⟨rfl, fun Kt Kf q => nm_ok (te_geI (ev_var (i := 3) (x := .int x) rfl) (ev_i2 (x := 10) (y := 18) ev_c ev_c ⟨by decide, by decide, by decide⟩) ?_)⟩) ?_
    · have e : ((10 : Int) ^ (18 : Int).toNat) = 1000000000000000000 := by decide
      rw [e]
      by_cases hx : 1000000000000000000 ≤ x
      · simp only [hx, decide_true, if_true] at q ⊢
        exact ⟨_, rfl, q⟩
      · simp only [hx, decide_false, Bool.false_eq_true, if_false] at q ⊢
        exact q
    · refine .inr (.inr (.inr ⟨_, _, rfl, rfl, ?_, ?_⟩))
      · have := List.length_filter_le (fun x => decide ((1000000000000000000 : Int) ≤ x)) ns
        simp
        have : (70 : Nat) ≤ sizeLine := by decide
        omega
      · exact k
end
end Dn

namespace Dn
open PySem L2 PyProof.Rows PySem.W
/-- the same data, lists by what they hold -/
inductive Twin (A : Ah) : Nat → D → D → Prop
  | non (n : Nat) : Twin A (n + 1) .non .non
  | bl (n : Nat) (b : Bool) : Twin A (n + 1) (.bl b) (.bl b)
  | int (n : Nat) (i : Int) : Twin A (n + 1) (.int i) (.int i)
  | str (n : Nat) (z : Str) : Twin A (n + 1) (.str z) (.str z)
  | tup (n : Nat) {xs ys : List D} : xs.length = ys.length → xs.length ≤ sizeLine → (∀ (i : Nat) (x y : D), xs[i]? = some x → ys[i]? = some y → Twin A n x y) → Twin A (n + 1) (.tup xs) (.tup ys)
  | lst (n : Nat) {a b : Addr} {t u : Tag} {xs ys : List D} : A a = some ⟨t, .lst xs⟩ → A b = some ⟨u, .lst ys⟩ → xs.length = ys.length → xs.length ≤ sizeLine → (∀ (i : Nat) (x y : D), xs[i]? = some x → ys[i]? = some y → Twin A n x y) → Twin A (n + 1) (.ref a) (.ref b)
section
variable {ρ : Rho} {A : Ah} {k : K1} {te te2 ta tb : WE} {a : Addr} {t : Tag} {xs : List D} {n : Bool}
theorem callU1 {w : List U → WE} (h : te ρ A fun u ρ1 A1 => w [u] ρ1 A1 k) : wCall w (uCons te uNil) ρ A k := h
theorem lc_ok {wi : WI} {g : WG} {tt : WT} {vs : List Nat} (h : wi ρ A fun xs chk ρ1 A1 => lcGo g tt te vs chk (fun acc ρ' A' => k (.lst acc) (merge vs 0 ρ1 ρ') A') xs [] (wip vs 0 ρ1) A1) : wLc wi g tt te vs ρ A k := h
theorem it_r1 {kI : KI} {j : Int} (he : Ev te ρ A (.int j)) (h0 : 0 ≤ j) (hs : j.toNat ≤ sizeLine) (h : kI ((List.range j.toNat).map fun (i : Nat) => D.int (0 + (i : Int))) chkT ρ A) : iRange1 (wCons te wNil) ρ A kI := by
  refine eva_cons he eva_nil _ ⟨j, rfl, ?_, hs, h⟩
  have : sizeLine < 2 ^ 62 := by decide
  constructor <;> omega
theorem te_ev {b : Bool} {kb : KB} (he : Ev te ρ A (.bl b)) (q : kb b ρ A) : tB te ρ A kb := he _ ⟨b, rfl, q⟩
theorem ev_isN {x : D} (he : Ev te ρ A x) : Ev (wBin (wIsNone n) te (wC .non)) ρ A (.bl (neg n (isNon (.d x)))) := fun _ q => he _ ⟨nofun, rfl, q⟩
theorem ev_isi {x : D} {T u : Ty} (he : Ev te ρ A x) (ht : tyN ρ A (.d x) = some u) : Ev (wIsi T te) ρ A (.bl (isTy u T)) := fun _ q => he _ ⟨u, ht, q⟩
theorem ev_eqD {x y : D} (ha : Ev ta ρ A x) (hb : Ev tb ρ A y) (s : scalD x y = true) : Ev (wBin (wEqB n) ta tb) ρ A (.bl (if n then !decide (x = y) else decide (x = y))) := fun _ q => ha _ (hb _ (.inl ⟨x, y, rfl, rfl, s, q⟩))
theorem ev_lenT (he : Ev te ρ A (.tup xs)) : Ev (wCall wLen (uCons te uNil)) ρ A (.int xs.length) := fun _ q => he _ ⟨_, rfl, .inl ⟨xs, rfl, q⟩⟩
theorem ev_and {a b : Bool} (ha : Ev ta ρ A (.bl a)) (hb : Ev tb ρ A (.bl b)) : Ev (wAnd ta tb) ρ A (.bl (a && b)) := fun _ q => ha _ ⟨a, rfl, by cases a with | false => exact q | true => exact hb _ (by simpa using q)⟩
theorem ev_not {a : Bool} (ha : Ev ta ρ A (.bl a)) : Ev (wNot ta) ρ A (.bl (!a)) := fun _ q => ha _ ⟨a, rfl, q⟩
theorem ev_ixTv {te2 : WE} {i : Int} {x : D} (he : Ev te ρ A (.tup xs)) (hz : Ev te2 ρ A (.int i)) (hx : atI xs i = some x) : Ev (wBin wIx te te2) ρ A x := fun _ z => he _ (hz _ ((wIx_tup xs i).mpr ⟨x, hx, z⟩))
theorem atI_nat' {i : Nat} {x : D} (h : xs[i]? = some x) : atI xs (0 + (i : Int)) = some x := by
  have hi : i < xs.length := (List.getElem?_eq_some_iff.mp h).1
  have h2 : ((i : Int)) < (xs.length : Int) := by omega
  simp [atI, ixN, h2, h]
end
section
variable {c : Cs} {A : Ah} {K : U → Ah → Prop}
theorem alike_seq {me : SpW} {x y : D} {xs ys : List D} {u : Ty} (hu : u = .tup ∨ u = .lst) (hl : xs.length = ys.length) (hs : xs.length ≤ sizeLine)
    (tx : tyN [some (.d x), some (.d y), none] A (.d x) = some u) (ty : tyN [some (.d x), some (.d y), none] A (.d y) = some u) (nx : isNon (.d y) = false)
    (lx : Ev (wCall wLen (uCons (wVar 0) uNil)) [some (.d x), some (.d y), none] A (.int xs.length)) (ly : Ev (wCall wLen (uCons (wVar 1) uNil)) [some (.d x), some (.d y), none] A (.int ys.length))
    (ix : ∀ (j : Nat) (z : D), xs[j]? = some z → Ev (wBin wIx (wVar 0) (wVar 2)) [some (.d x), some (.d y), some (.d (.int (0 + (j : Int))))] A z)
    (iy : ∀ (j : Nat) (z : D), ys[j]? = some z → Ev (wBin wIx (wVar 1) (wVar 2)) [some (.d x), some (.d y), some (.d (.int (0 + (j : Int))))] A z)
    (hme : ∀ (i : Nat) (z w : D) (K : U → Ah → Prop), xs[i]? = some z → ys[i]? = some w → K (.d (.bl true)) A → me [z, w] A K) (k : K (.d (.bl true)) A) : bodyW 2 3 (f_law_alike c me) [x, y] A K := by
  have E0 : Ev (wVar 0) [some (.d x), some (.d y), none] A x := ev_var rfl
  have E1 : Ev (wVar 1) [some (.d x), some (.d y), none] A y := ev_var rfl
  refine ⟨rfl, seq_ok (if_ok (te_ev (ev_isN E1) ?_))⟩
  simp only [nx, neg, Bool.false_eq_true, if_false]
  show sSeq _ _ _ _ _
  have b1 : isTy u .bl = false := by rcases hu with rfl | rfl <;> rfl
  have b2 : isTy u .int = false := by rcases hu with rfl | rfl <;> rfl
  have b3 : isTy u .str = false := by rcases hu with rfl | rfl <;> rfl
  refine seq_ok (if_ok (te_ev (ev_isi E1 ty) ?_))
  simp only [b1, Bool.false_eq_true, if_false]
  show sSeq _ _ _ _ _
  refine seq_ok (if_ok (te_ev (ev_isi E1 ty) ?_))
  simp only [b2, Bool.false_eq_true, if_false]
  show sSeq _ _ _ _ _
  refine seq_ok (if_ok (te_ev (ev_isi E1 ty) ?_))
  simp only [b3, Bool.false_eq_true, if_false]
  show sSeq _ _ _ _ _
  refine seq_ok (if_ok (or_ok (te_ev (ev_eqD (ev_isi E1 ty) (ev_isi E0 tx) rfl) ?_)))
  simp only [decide_true, Bool.not_true, Bool.false_eq_true, if_false, if_true]
  refine te_ev (ev_eqD (ev_isi E1 ty) (ev_isi E0 tx) rfl) ?_
  simp only [decide_true, Bool.not_true, Bool.false_eq_true, if_false, if_true]
  show sSeq _ _ _ _ _
  refine seq_ok (if_ok (te_ev (ev_eqD lx ly rfl) ?_))
  simp only [hl, decide_true, Bool.not_true, Bool.false_eq_true, if_false, if_true]
  dsimp only [sNil]
  refine ret_ok (callU1 (lc_ok (it_r1 ly (by omega) ?_ ?_)))
  · rw [Int.toNat_natCast, ← hl]; exact hs
  · rw [Int.toNat_natCast]
    refine lcGo_all (e := fun (i : Nat) => D.int (0 + (i : Int))) (ρ := [some (.d x), some (.d y), none]) (F := fun _ => .bl true) trivial (fun j => [some (.d x), some (.d y), some (.d (.int (0 + (j : Int))))]) (List.range ys.length) (fun j hj => ⟨rfl, fun Kt Kf q => nm_ok (yes_ok ?_)⟩) ?_
    · have hj' := List.mem_range.mp hj
      obtain ⟨z, ez⟩ : ∃ z, xs[j]? = some z := ⟨_, List.getElem?_eq_getElem (by omega)⟩
      obtain ⟨w, ew⟩ : ∃ w, ys[j]? = some w := ⟨_, List.getElem?_eq_getElem hj'⟩
      exact fnEv (eva_cons (ix j z ez) (eva_cons (iy j w ew) eva_nil)) (hme j z w _ ez ew q)
    · refine ⟨_, (List.range ys.length).map fun _ => true, rfl, ?_, ?_⟩
      · simp [lstOf, obOf, U.ob]
      · have : ((List.range ys.length).map fun _ => true).all id = true := by simp
        rw [this]
        exact k
theorem alike_scal {me : SpW} {x : D} (hx : scalD x x = true) (k : K (.d (.bl true)) A) : bodyW 2 3 (f_law_alike c me) [x, x] A K := by
  have E0 : Ev (wVar 0) [some (.d x), some (.d x), none] A x := ev_var rfl
  have E1 : Ev (wVar 1) [some (.d x), some (.d x), none] A x := ev_var rfl
  have Q : Ev (wBin (wEqB false) (wVar 0) (wVar 1)) [some (.d x), some (.d x), none] A (.bl true) := by simpa using ev_eqD (n := false) E0 E1 hx
  refine ⟨rfl, seq_ok (if_ok (te_ev (ev_isN E1) ?_))⟩
  cases x with
  | non => exact retE (ev_isN E0) k
  | tup xs => simp [scalD] at hx
  | ref a => simp [scalD] at hx
  | bl b =>
    rw [if_neg (by simp [neg, isNon, isTy])]
    dsimp only [sNil]
    refine seq_ok (if_ok (te_ev (ev_isi (T := .bl) (u := .bl) E1 rfl) ?_))
    rw [if_pos (by simp [neg, isNon, isTy])]
    exact retE (ev_and (ev_isi (T := .bl) (u := .bl) E0 rfl) Q) k
  | int b =>
    rw [if_neg (by simp [neg, isNon, isTy])]
    dsimp only [sNil]
    refine seq_ok (if_ok (te_ev (ev_isi (T := .bl) (u := .int) E1 rfl) ?_))
    rw [if_neg (by simp [neg, isNon, isTy])]
    dsimp only [sNil]
    refine seq_ok (if_ok (te_ev (ev_isi (T := .int) (u := .int) E1 rfl) ?_))
    rw [if_pos (by simp [neg, isNon, isTy])]
    exact retE (ev_and (ev_isi (T := .int) (u := .int) E0 rfl) (ev_and (ev_not (ev_isi (T := .bl) (u := .int) E0 rfl)) Q)) k
  | str b =>
    rw [if_neg (by simp [neg, isNon, isTy])]
    dsimp only [sNil]
    refine seq_ok (if_ok (te_ev (ev_isi (T := .bl) (u := .str) E1 rfl) ?_))
    rw [if_neg (by simp [neg, isNon, isTy])]
    dsimp only [sNil]
    refine seq_ok (if_ok (te_ev (ev_isi (T := .int) (u := .str) E1 rfl) ?_))
    rw [if_neg (by simp [neg, isNon, isTy])]
    dsimp only [sNil]
    refine seq_ok (if_ok (te_ev (ev_isi (T := .str) (u := .str) E1 rfl) ?_))
    rw [if_pos (by simp [neg, isNon, isTy])]
    exact retE (ev_and (ev_isi (T := .str) (u := .str) E0 rfl) Q) k
theorem alike_ok : ∀ (n : Nat) (x y : D) (K : U → Ah → Prop), Twin A n x y → K (.d (.bl true)) A → p_law_alike_at c n [x, y] A K := by
  intro n
  induction n with
  | zero => intro x y K h; cases h
  | succ n ih =>
    intro x y K h k
    show bodyW 2 3 (f_law_alike c (p_law_alike_at c n)) [x, y] A K
    cases h with
    | non => exact alike_scal rfl k
    | bl => exact alike_scal rfl k
    | int => exact alike_scal rfl k
    | str => exact alike_scal rfl k
    | tup _ hl hs he =>
      exact alike_seq (u := .tup) (.inl rfl) hl hs rfl rfl rfl (ev_lenT (ev_var rfl)) (ev_lenT (ev_var rfl)) (fun j z ez => ev_ixTv (ev_var rfl) (ev_var rfl) (atI_nat' ez)) (fun j z ez => ev_ixTv (ev_var rfl) (ev_var rfl) (atI_nat' ez)) (fun i z w K ez ew => ih z w K (he i z w ez ew)) k
    | lst _ ha hb hl hs he =>
      exact alike_seq (u := .lst) (.inr rfl) hl hs (by simp [tyN, ha, Ob.ty, obOf]) (by simp [tyN, hb, Ob.ty, obOf]) rfl (ev_len (ev_var rfl) ha) (ev_len (ev_var rfl) hb) (fun j z ez => ev_ixL (ev_var rfl) ha (ev_var rfl) (atI_nat' ez)) (fun j z ez => ev_ixL (ev_var rfl) hb (ev_var rfl) (atI_nat' ez)) (fun i z w K ez ew => ih z w K (he i z w ez ew)) k
end
end Dn

namespace Dn
open PySem L2 PyProof.Rows PySem.W
/-- data without references, so deep at the most, of texts that may be laid -/
inductive Nice : Nat → D → Prop
  | non (n : Nat) : Nice n .non
  | bl (n : Nat) (b : Bool) : Nice n (.bl b)
  | int (n : Nat) (i : Int) : Nice n (.int i)
  | str (n : Nat) (z : Str) : PyData.canLay0 (.str z) = true → Nice n (.str z)
  | tup (n : Nat) {xs : List D} : xs.length ≤ sizeLine → (∀ x ∈ xs, Nice n x) → Nice (n + 1) (.tup xs)
theorem pures_all : ∀ {xs : List D}, (∀ x ∈ xs, x.pure = true) → D.pures xs = true
  | [], _ => rfl
  | x :: xs, h => by
    simp only [D.pures, Bool.and_eq_true]
    exact ⟨h x List.mem_cons_self, pures_all fun y hy => h y (List.mem_cons_of_mem _ hy)⟩
theorem Nice.pure : ∀ {n : Nat} {x : D}, Nice n x → x.pure = true
  | _, _, .non _ => rfl
  | _, _, .bl _ _ => rfl
  | _, _, .int _ _ => rfl
  | _, _, .str _ _ _ => rfl
  | _, _, .tup _ _ h => by
    simp only [D.pure]
    exact pures_all fun x hx => (h x hx).pure
theorem Nice.up : ∀ {n m : Nat} {x : D}, Nice n x → n ≤ m → Nice m x
  | _, m, _, .non _, _ => .non m
  | _, m, _, .bl _ b, _ => .bl m b
  | _, m, _, .int _ b, _ => .int m b
  | _, m, _, .str _ b h, _ => .str m b h
  | n + 1, m + 1, _, .tup _ hl h, z => .tup m hl fun x hx => (h x hx).up (by omega)
theorem canLay_all : ∀ {xs : List D}, (∀ x ∈ xs, x.pd.canLay0 = true) → PyData.canLayAll0 (D.pds xs) = true
  | [], _ => rfl
  | x :: xs, h => by
    simp only [D.pds, PyData.canLayAll0, Bool.and_eq_true]
    exact ⟨h x List.mem_cons_self, canLay_all fun y hy => h y (List.mem_cons_of_mem _ hy)⟩
theorem depth_all : ∀ {xs : List D} {n : Nat}, (∀ x ∈ xs, x.pd.depth ≤ n) → PyData.depthAll (D.pds xs) ≤ n
  | [], n, _ => by simp [D.pds, PyData.depthAll]
  | x :: xs, n, h => by
    have h1 := h x List.mem_cons_self
    have h2 := depth_all (n := n) fun y hy => h y (List.mem_cons_of_mem x hy)
    simp only [D.pds, PyData.depthAll]
    omega
theorem Nice.lay : ∀ {n : Nat} {x : D}, Nice n x → x.pd.canLay0 = true
  | _, _, .non _ => rfl
  | _, _, .bl _ _ => rfl
  | _, _, .int _ _ => rfl
  | _, _, .str _ _ h => h
  | _, _, .tup _ _ h => by
    simp only [D.pd, PyData.canLay0]
    exact canLay_all fun x hx => (h x hx).lay
theorem Nice.depth : ∀ {n : Nat} {x : D}, Nice n x → x.pd.depth ≤ n
  | _, _, .non _ => by simp [D.pd, PyData.depth]
  | _, _, .bl _ _ => by simp [D.pd, PyData.depth]
  | _, _, .int _ _ => by simp [D.pd, PyData.depth]
  | _, _, .str _ _ h => by simp [D.pd, PyData.depth]
  | _, _, .tup n _ h => by
    have := depth_all (n := n) fun x hx => (h x hx).depth
    simp only [D.pd, PyData.depth]
    omega
theorem eqv_all : ∀ {xs : List D}, (∀ x ∈ xs, PyData.eqv x.pd x.pd = true) → PyData.eqvAll (D.pds xs) (D.pds xs) = true
  | [], _ => rfl
  | x :: xs, h => by
    simp only [D.pds, PyData.eqvAll, Bool.and_eq_true]
    exact ⟨h x List.mem_cons_self, eqv_all fun y hy => h y (List.mem_cons_of_mem _ hy)⟩
theorem Nice.eqv : ∀ {n : Nat} {x : D}, Nice n x → PyData.eqv x.pd x.pd = true
  | _, _, .non _ => rfl
  | _, _, .bl _ _ => by simp [D.pd, PyData.eqv]
  | _, _, .int _ _ => by simp [D.pd, PyData.eqv]
  | _, _, .str _ _ h => by simp [D.pd, PyData.eqv]
  | _, _, .tup n _ h => by
    simp only [D.pd, PyData.eqv]
    exact eqv_all fun x hx => (h x hx).eqv
theorem Nice.shaped {n : Nat} {x : D} (h : Nice n x) (hn : n ≤ 64) : SeqAt.shaped x.pd = true := by
  have := h.depth
  simp only [SeqAt.shaped, Bool.and_eq_true, decide_eq_true_eq]
  exact ⟨h.lay, by omega⟩
theorem shaped_list {n : Nat} {xs : List D} (h : ∀ x ∈ xs, Nice n x) (hn : n ≤ 60) : SeqAt.shaped (.list (D.pds xs)) = true := by
  have := depth_all (n := n) fun x hx => (h x hx).depth
  simp only [SeqAt.shaped, Bool.and_eq_true, decide_eq_true_eq, PyData.canLay0]
  refine ⟨canLay_all fun x hx => (h x hx).lay, ?_⟩
  simp only [PyData.depth]
  omega
theorem Nice.twin {A : Ah} : ∀ {n : Nat} {x : D}, Nice n x → Twin A (n + 1) x x
  | n, _, .non _ => .non n
  | n, _, .bl _ b => .bl n b
  | n, _, .int _ b => .int n b
  | n, _, .str _ b _ => .str n b
  | _, _, .tup n hl h => .tup (n + 1) rfl hl fun i x y ex ey => by
    rw [ex] at ey
    cases ey
    exact (h x (List.mem_of_getElem? ex)).twin
theorem twin_lst {A : Ah} {n : Nat} {xs : List D} {a b : Addr} {t u : Tag} (ha : A a = some ⟨t, .lst xs⟩) (hb : A b = some ⟨u, .lst xs⟩) (hl : xs.length ≤ sizeLine) (h : ∀ x ∈ xs, Nice n x) : Twin A (n + 2) (.ref a) (.ref b) :=
  .lst _ ha hb rfl hl fun i x y ex ey => by
    rw [ex] at ey
    cases ey
    exact (h x (List.mem_of_getElem? ex)).twin
section
variable {ρ : Rho} {A : Ah} {k : K1}
theorem eq_lists {m : Nat} {n : Bool} {u w : U} {xs : List D} (hu : lstOf ρ A u = some xs) (hw : lstOf ρ A w = some xs) (h : ∀ x ∈ xs, Nice m x) (hm : m ≤ 60) (q : k (.d (.bl (!n))) ρ A) : wEqB n u w ρ A k := by
  have hp := pures_all fun x hx => (h x hx).pure
  refine .inr ⟨_, _, .lst hu hp, .lst hw hp, shaped_list h hm, shaped_list h hm, ?_⟩
  have : PyData.eqv (.list (D.pds xs)) (.list (D.pds xs)) = true := by
    simp only [PyData.eqv]
    exact eqv_all fun x hx => (h x hx).eqv
  rw [this]
  cases n <;> exact q
theorem eq_nice {m : Nat} {n : Bool} {x : D} (h : Nice m x) (hm : m ≤ 64) (q : k (.d (.bl (!n))) ρ A) : wEqB n (.d x) (.d x) ρ A k := by
  refine .inr ⟨_, _, .pure h.pure, .pure h.pure, h.shaped hm, h.shaped hm, ?_⟩
  rw [h.eqv]
  cases n <;> exact q
end
theorem nice_H (n : Nat) (q : Hd) : Nice (n + 1) (eH q) := .tup n (by simp; decide) fun x hx => by
  simp at hx
  rcases hx with rfl | rfl <;> constructor
theorem nice_HC (n : Nat) (q : Hd × Int) : Nice (n + 2) (eHC q) := .tup (n + 1) (by simp; decide) fun x hx => by
  simp at hx
  rcases hx with rfl | rfl
  · exact nice_H n q.1
  · constructor
theorem nice_An (n : Nat) (q : An) : Nice n (eAn q) := by
  cases q with
  | val i => exact .int n i
  | dead => exact .str n _ (by decide +kernel)
theorem nice_Wh (n : Nat) (q : Wh) : Nice (n + 1) (eWh q) := by
  cases q with
  | give to =>
    exact .tup n (by simp; decide) fun x hx => by
      simp at hx
      rcases hx with rfl | rfl
      · exact .str n _ (by decide +kernel)
      · constructor
  | call a b =>
    exact .tup n (by simp; decide) fun x hx => by
      simp at hx
      rcases hx with rfl | rfl | rfl
      · exact .str n _ (by decide +kernel)
      · constructor
      · constructor
theorem nice_pair {n : Nat} {x y : D} (h : Nice n x) (h' : Nice n y) : Nice (n + 1) (.tup [x, y]) := .tup n (by simp; decide) fun z hz => by
  simp at hz
  rcases hz with rfl | rfl
  · exact h
  · exact h'
theorem nice_Lt (n : Nat) (q : Lt) : Nice (n + 3) (eLt q) := by
  cases q with
  | unit to frm t u =>
    exact nice_pair (.int _ _) (.tup _ (by simp; decide) fun x hx => by
      simp at hx
      rcases hx with rfl | rfl | rfl | rfl <;> first | exact .str _ _ (by decide +kernel) | constructor)
  | ask to frm t u w =>
    exact nice_pair (.int _ _) (.tup _ (by simp; decide) fun x hx => by
      simp at hx
      rcases hx with rfl | rfl | rfl | rfl | rfl <;> first | exact .str _ _ (by decide +kernel) | exact nice_Wh n _ | constructor)
  | drop to frm t u =>
    exact nice_pair (.int _ _) (.tup _ (by simp; decide) fun x hx => by
      simp at hx
      rcases hx with rfl | rfl | rfl | rfl <;> first | exact .str _ _ (by decide +kernel) | constructor)
  | hUnit to frm u =>
    exact nice_pair (.int _ _) (.tup _ (by simp; decide) fun x hx => by
      simp at hx
      rcases hx with rfl | rfl | rfl | rfl | rfl <;> first | exact .str _ _ (by decide +kernel) | constructor)
  | hAsk to frm u a =>
    exact nice_pair (.int _ _) (.tup _ (by simp; decide) fun x hx => by
      simp at hx
      rcases hx with rfl | rfl | rfl | rfl | rfl <;> first | exact .str _ _ (by decide +kernel) | exact nice_An _ _ | constructor)
  | hDrop to frm u =>
    exact nice_pair (.int _ _) (.tup _ (by simp; decide) fun x hx => by
      simp at hx
      rcases hx with rfl | rfl | rfl | rfl | rfl <;> first | exact .str _ _ (by decide +kernel) | constructor)
theorem nice_table {h : Hv} (h1 : h.tabUnits.length ≤ sizeLine) (h2 : h.tabThings.length ≤ sizeLine) (h3 : ∀ t x, aget h.stand t = some x → x.rows.length ≤ sizeLine) : Nice 10 h.table := by
  refine nice_pair (.tup _ (by simpa using h1) fun x hx => ?_) (.tup _ h2 fun x hx => ?_)
  · obtain ⟨p, _, rfl⟩ := List.mem_map.mp hx
    exact nice_HC _ p
  · obtain ⟨t, ht, rfl⟩ := List.mem_map.mp hx
    refine nice_pair (.int _ _) (.tup _ ?_ fun x hx => ?_)
    · rw [List.length_map]
      cases e : aget h.stand t with
      | none => simp
      | some x => simpa using h3 t x e
    · obtain ⟨p, _, rfl⟩ := List.mem_map.mp hx
      exact nice_HC _ p
end Dn

namespace Dn
open PySem L2 PyProof.Rows PySem.W
section
variable {κ ν : Type} [DecidableEq κ] {m : List (κ × ν)} {k : κ} {v : ν}
theorem aput_keys : (aput m k v).map (·.1) = if (aget m k).isSome then m.map (·.1) else m.map (·.1) ++ [k] := by
  unfold aput
  rw [aget_any]
  split
  · rw [List.map_map]
    refine List.map_congr_left fun p hp => ?_
    simp only [Function.comp]
    split <;> rfl
  · simp
theorem aput_len' : (aput m k v).length = if (aget m k).isSome then m.length else m.length + 1 := by
  have := congrArg List.length (aput_keys (m := m) (k := k) (v := v))
  rw [List.length_map] at this
  rw [this]
  split <;> simp
theorem aput_mem {p : κ × ν} (h : p ∈ aput m k v) : p ∈ m ∨ p = (k, v) := by
  unfold aput at h
  split at h
  · obtain ⟨q, hq, e⟩ := List.mem_map.mp h
    split at e
    · rename_i ek
      exact .inr (by rw [← e, ek])
    · exact .inl (by rw [← e]; exact hq)
  · simpa using h
theorem mem_keys : k ∈ m.map (·.1) ↔ (aget m k).isSome = true := by
  rw [aget_any]
  simp [List.any_eq_true]
theorem aput_nodup (h : (m.map (·.1)).Nodup) : ((aput m k v).map (·.1)).Nodup := by
  rw [aput_keys]
  split
  · exact h
  · rename_i hn
    refine List.nodup_append.mpr ⟨h, by simp, fun a ha b hb => ?_⟩
    simp at hb
    subst hb
    intro e
    subst e
    exact hn (mem_keys.mp ha)
theorem adel_sub : (adel m k).Sublist m := List.filter_sublist
theorem nodup_sub {m' : List (κ × ν)} (s : m'.Sublist m) (h : (m.map (·.1)).Nodup) : (m'.map (·.1)).Nodup := h.sublist (s.map _)
end
theorem foldl_adel_sub {ν : Type} : ∀ (ts : List Int) (m : List (Int × ν)), (ts.foldl adel m).Sublist m
  | [], m => List.Sublist.refl m
  | t :: ts, m => (foldl_adel_sub ts (adel m t)).trans adel_sub
theorem nodup_len {α : Type} [DecidableEq α] : ∀ {l l' : List α}, l.Nodup → (∀ x ∈ l, x ∈ l') → l.length ≤ l'.length
  | [], _, _, _ => Nat.zero_le _
  | x :: l, l', nd, sub => by
    have nd' := List.nodup_cons.mp nd
    have hx := sub x List.mem_cons_self
    have := nodup_len (l := l) (l' := l'.erase x) nd'.2 fun y hy => (List.mem_erase_of_ne (fun (e : y = x) => nd'.1 (e ▸ hy))).mpr (sub y (List.mem_cons_of_mem _ hy))
    rw [List.length_erase_of_mem hx] at this
    have : 0 < l'.length := List.length_pos_of_mem hx
    simp only [List.length_cons]
    omega
/-- so many keys of one house at the most -/
theorem keys_range {ν : Type} {m : List (Hd × ν)} {s : Int} {N : Nat} (nd : (m.map (·.1)).Nodup) (h : ∀ p ∈ m, p.1.1 = s ∧ 0 ≤ p.1.2 ∧ p.1.2 < (N : Int)) : m.length ≤ N := by
  have nd2 : (m.map fun p => p.1.2.toNat).Nodup := by
    refine List.pairwise_map.mpr ((List.pairwise_map.mp nd).imp_of_mem fun {a b} ha hb e z => e ?_)
    have h1 := h a ha
    have h2 := h b hb
    obtain ⟨⟨a1, a2⟩, av⟩ := a
    obtain ⟨⟨b1, b2⟩, bv⟩ := b
    simp at h1 h2 z ⊢
    omega
  have sub : ∀ x ∈ (m.map fun p => p.1.2.toNat), x ∈ List.range N := fun x hx => by
    obtain ⟨p, hp, rfl⟩ := List.mem_map.mp hx
    have := h p hp
    simp
    omega
  have := nodup_len nd2 sub
  simpa using this
/-! ### what stays of a house of law k11 -/
structure Inv (T : Nat) (n : Int) (h : Hv) : Prop where
  num : h.number = n
  nn : n = 0 ∨ n = 1
  many : h.many = 2
  made : 0 ≤ h.made ∧ h.made ≤ T
  own : ∀ t, (aget h.own t).isSome = (aget h.stand t).isSome
  stK : ∀ p ∈ h.stand, 0 ≤ p.1 ∧ p.1 < h.made
  links : ∀ p ∈ h.stand, p.2.links = []
  nd : (h.stand.map (·.1)).Nodup
  standL : h.stand.length ≤ T
  ownL : h.own.length ≤ T
  units : ∀ p ∈ h.units, p.1.1 = 1 - n ∧ hdOk p.1 2 ∧ p.2.length ≤ h.met.length
  unitsL : h.units.length ≤ h.met.length
  metN : (h.met.map (·.1)).Nodup
  met : ∀ p ∈ h.met, p.1.1 = 1 - n ∧ 0 ≤ p.1.2 ∧ p.1.2 < (T : Int) + 1
  doneN : (h.done.map (·.1)).Nodup
  done : ∀ p ∈ h.done, p.1.1 = 1 - n ∧ 0 ≤ p.1.2 ∧ p.1.2 < (T : Int)
  cnt : 0 ≤ (aget h.counts (1 - n)).getD 0 ∧ (aget h.counts (1 - n)).getD 0 ≤ T
  countsL : h.counts.length ≤ T
  lentL : h.lent.length ≤ T
  untoldL : h.untold.length ≤ T
  untold : ∀ p ∈ h.untold, p.1.1 = 1 - n ∧ 0 ≤ p.1.2 ∧ p.1.2 < (T : Int) + 1 ∧ 0 ≤ p.2 ∧ p.2 < 100
  asked : 0 ≤ h.asked ∧ h.asked ≤ T
  asksL : h.asks.length ≤ T
  asks : ∀ p ∈ h.asks, 0 ≤ p.1 ∧ p.1 < (T : Int) ∧ p.2.1.1 = 1 - n ∧ (p.2.2 = .give (1 - n) ∨ ∃ m j, p.2.2 = .call m j ∧ 0 ≤ j ∧ j < h.calls.length)
  dropsL : h.drops.length ≤ T
  drops : ∀ p ∈ h.drops, p.1.1 = 1 - n
  callsL : h.calls.length ≤ T
  dead : h.dead = []
  told : h.told = []
theorem Inv.wf {T : Nat} {n : Int} {h : Hv} (v : Inv T n h) (hT : T ≤ 1000) : h.Wf := by
  have hs : (5000 : Nat) ≤ sizeLine := by decide
  have m1 : h.met.length ≤ T + 1 := keys_range v.metN fun p hp => by have := v.met p hp; refine ⟨this.1, this.2.1, ?_⟩; push_cast; exact this.2.2
  have m2 : h.done.length ≤ T := keys_range v.doneN v.done
  have := v.standL
  have := v.ownL
  have := v.lentL
  have := v.unitsL
  have := v.countsL
  have := v.untoldL
  have := v.asksL
  have := v.dropsL
  have := v.callsL
  refine ⟨⟨by omega, by omega, by omega, by omega, fun p hp => ?_, by omega, by omega, by omega, by omega, by omega, by omega, by omega⟩, fun t ht => by rw [v.own]; exact ht, v.links, v.nd, by omega⟩
  have := (v.units p hp).2.2
  omega
theorem Inv.mono {T T' : Nat} {n : Int} {h : Hv} (v : Inv T n h) (hT : T ≤ T') : Inv T' n h := by
  have c : (T : Int) ≤ T' := by omega
  exact ⟨v.num, v.nn, v.many, ⟨v.made.1, Int.le_trans v.made.2 c⟩, v.own, v.stK, v.links, v.nd, Nat.le_trans v.standL hT, Nat.le_trans v.ownL hT, v.units, v.unitsL, v.metN, fun p hp => (by have := v.met p hp; refine ⟨this.1, this.2.1, ?_⟩; omega), v.doneN, fun p hp => (by have := v.done p hp; refine ⟨this.1, this.2.1, ?_⟩; omega),
    ⟨v.cnt.1, Int.le_trans v.cnt.2 c⟩, Nat.le_trans v.countsL hT, Nat.le_trans v.lentL hT, Nat.le_trans v.untoldL hT, fun p hp => (by have := v.untold p hp; exact ⟨this.1, this.2.1, by omega, this.2.2.2⟩), ⟨v.asked.1, Int.le_trans v.asked.2 c⟩, Nat.le_trans v.asksL hT, fun p hp => (by have := v.asks p hp; exact ⟨this.1, by omega, this.2.2⟩), Nat.le_trans v.dropsL hT, v.drops, Nat.le_trans v.callsL hT, v.dead, v.told⟩
theorem Inv.without {T : Nat} {n : Int} {h : Hv} (v : Inv T n h) (ts : List Int) : Inv T n (h.without ts) := by
  have s1 := foldl_adel_sub ts h.stand
  have s2 := foldl_adel_sub ts h.own
  exact { v with
    own := fun t => (by
      show (aget (ts.foldl adel h.own) t).isSome = (aget (ts.foldl adel h.stand) t).isSome
      rw [foldl_adel_get, foldl_adel_get]
      split
      · rfl
      · exact v.own t)
    stK := fun p hp => v.stK p (s1.subset hp)
    links := fun p hp => v.links p (s1.subset hp)
    nd := nodup_sub s1 v.nd
    standL := Nat.le_trans s1.length_le v.standL
    ownL := Nat.le_trans s2.length_le v.ownL }
theorem Inv.fresh {T : Nat} {n : Int} {h : Hv} (v : Inv T n h) : aget h.stand h.made = none := by
  cases e : aget h.stand h.made with
  | none => rfl
  | some x => have := v.stK _ (aget_some e); simp at this
theorem Inv.make {T : Nat} {n : Int} {h : Hv} (v : Inv T n h) (w : Int) : Inv (T + 1) n (h.make w) := by
  have e := v.fresh
  have eo : aget h.own h.made = none := by
    have := v.own h.made
    rw [e] at this
    simpa using this
  have v' := v.mono (Nat.le_succ T)
  exact { v' with
    made := ⟨by have := v.made.1; show 0 ≤ h.made + 1; omega, by have := v.made.2; show h.made + 1 ≤ ((T + 1 : Nat) : Int); push_cast; omega⟩
    own := fun t => (by
      show (aget (aput h.own h.made 1) t).isSome = (aget (aput h.stand h.made _) t).isSome
      rw [aget_aput, aget_aput]
      split
      · rfl
      · exact v.own t)
    stK := fun p hp => (by
      show 0 ≤ p.1 ∧ p.1 < h.made + 1
      rcases aput_mem hp with hp | rfl
      · have := v.stK p hp; omega
      · have := v.made; simp; omega)
    links := fun p hp => (by
      rcases aput_mem hp with hp | rfl
      · exact v.links p hp
      · rfl)
    nd := aput_nodup v.nd
    standL := (by show (aput h.stand h.made _).length ≤ T + 1; have := aput_len h.stand h.made ⟨w, []⟩; have := v.standL; omega)
    ownL := (by show (aput h.own h.made _).length ≤ T + 1; have := aput_len h.own h.made 1; have := v.ownL; omega) }
theorem Inv.ownPut {T : Nat} {n : Int} {h : Hv} (v : Inv T n h) (t x : Int) (ht : (aget h.own t).isSome) : Inv T n { h with own := aput h.own t x } := { v with
    own := fun k => (by
      show (aget (aput h.own t x) k).isSome = _
      rw [aget_aput, ← v.own]
      split
      · rename_i e; subst e; rw [ht]; rfl
      · rfl)
    ownL := (by show (aput h.own t x).length ≤ T; rw [aput_len', if_pos ht]; exact v.ownL) }
/-- a unit for the other house -/
theorem Inv.lend {T : Nat} {n t : Int} {h : Hv} (v : Inv T n h) (ht : 0 ≤ t ∧ t < 100) : Inv (T + 1) n (h.lend t (1 - n)) := by
  have hn : ¬ 1 - n = h.number := by rw [v.num]; rcases v.nn with rfl | rfl <;> decide
  have v' := v.mono (Nat.le_succ T)
  have c := v.cnt
  unfold Hv.lend
  rw [if_neg hn, if_neg (by rw [v.dead]; simp [aget])]
  exact { v' with
    cnt := (by
      rw [aget_aput, if_pos rfl]
      simp only [Option.getD_some]
      push_cast
      omega)
    countsL := (by have := aput_len h.counts (1 - n) ((aget h.counts (1 - n)).getD 0 + 1); have := v.countsL; simp only; omega)
    lentL := (by have := aput_len h.lent (1 - n, (aget h.counts (1 - n)).getD 0 + 1) t; have := v.lentL; simp only; omega)
    untoldL := (by have := aput_len h.untold (1 - n, (aget h.counts (1 - n)).getD 0 + 1) t; have := v.untoldL; simp only; omega)
    untold := fun p hp => (by
      rcases aput_mem hp with hp | rfl
      · exact v'.untold p hp
      · refine ⟨rfl, ?_, ?_, ht⟩
        · simp only; omega
        · simp only; push_cast; omega) }
theorem Inv.ask {T : Nat} {n : Int} {q : Hd} {w : Wh} {h : Hv} (v : Inv T n h) (hq : q.1 = 1 - n) (hw : w = .give (1 - n) ∨ ∃ m j, w = .call m j ∧ 0 ≤ j ∧ j < h.calls.length) : Inv (T + 1) n (h.ask q w) := by
  have v' := v.mono (Nat.le_succ T)
  have := v.asked
  exact { v' with
    asked := (by show 0 ≤ h.asked + 1 ∧ h.asked + 1 ≤ ((T + 1 : Nat) : Int); push_cast; omega)
    asksL := (by show (aput h.asks h.asked _).length ≤ T + 1; have := aput_len h.asks h.asked (q, w); have := v.asksL; omega)
    asks := fun p hp => (by
      rcases aput_mem hp with hp | rfl
      · exact v'.asks p hp
      · exact ⟨this.1, by push_cast; omega, hq, hw⟩) }
theorem Inv.stOf {T : Nat} {n t : Int} {h : Hv} (v : Inv T n h) (ht : (aget h.own t).isSome) : (aget h.stand t).isSome ∧ 0 ≤ t ∧ t < h.made := by
  rw [v.own] at ht
  obtain ⟨x, ex⟩ := Option.isSome_iff_exists.mp ht
  exact ⟨ht, v.stK _ (aget_some ex)⟩
/-- a handle that table tells -/
structure Hand (h : Hv) (q : Hd) : Prop where
  pos : 0 < h.count q
  ok : hdOk q 2
  own : q.1 = h.number → (aget h.own q.2).isSome
theorem Inv.hand {T : Nat} {n : Int} {h : Hv} (v : Inv T n h) (hT : T ≤ 50) {p : Hd × Int} (hp : p ∈ h.tabUnits) : Hand h p.1 := by
  obtain ⟨hp, p0⟩ := List.mem_filter.mp hp
  rw [sortK_mem] at hp
  simp only [decide_eq_true_eq] at p0
  rcases List.mem_append.mp hp with hp | hp
  · obtain ⟨t, ht, rfl⟩ := List.mem_map.mp hp
    have hs := mem_keys.mp ht
    have hm := v.made
    obtain ⟨h1, h2, h3⟩ := v.stOf hs
    refine ⟨?_, ⟨?_, ?_, h2, ?_⟩, fun _ => hs⟩
    · simp only [Hv.count, if_true]
      exact p0
    · simp only; rw [v.num]; rcases v.nn with rfl | rfl <;> decide
    · simp only; rw [v.num]; rcases v.nn with rfl | rfl <;> decide
    · simp only; omega
  · obtain ⟨q, hq, rfl⟩ := List.mem_map.mp hp
    obtain ⟨us, eu⟩ := aget_of_mem hq
    have hu := v.units _ (aget_some eu)
    have hn : ¬ q.1 = h.number := by rw [v.num]; have := hu.1; simp only at this; rcases v.nn with rfl | rfl <;> omega
    refine ⟨?_, hu.2.1, fun e => absurd e hn⟩
    simp only [Hv.count, if_neg hn]
    exact p0
theorem Inv.give {T : Nat} {n : Int} {q : Hd} {h : Hv} (v : Inv T n h) (hq : Hand h q) : Inv (T + 1) n (h.give q (1 - n)) := by
  unfold Hv.give
  split
  · exact v.lend hq.ok.2.2
  · rename_i hn
    rw [if_neg (by rw [v.dead]; simp [aget])]
    refine v.ask ?_ (.inl rfl)
    rw [v.num] at hn
    have := hq.ok
    unfold hdOk at this
    rcases v.nn with rfl | rfl <;> omega
theorem Inv.unitsPut {T : Nat} {n : Int} {q : Hd} {us : List Int} {h : Hv} (v : Inv T n h) (hq : (aget h.units q).isSome) (hl : us.length ≤ h.met.length) : Inv T n { h with units := aput h.units q us } := { v with
    units := fun p hp => (by
      rcases aput_mem hp with hp | rfl
      · exact v.units p hp
      · obtain ⟨x, ex⟩ := Option.isSome_iff_exists.mp hq
        have := v.units _ (aget_some ex)
        exact ⟨this.1, this.2.1, hl⟩)
    unitsL := (by show (aput h.units q us).length ≤ _; rw [aput_len', if_pos hq]; exact v.unitsL) }
theorem Inv.dropped1 {T : Nat} {n : Int} {q : Hd} {h : Hv} (v : Inv T n h) (hq : Hand h q) : Inv (T + 1) n (h.dropped1 q) := by
  unfold Hv.dropped1 Hv.take
  split
  · rename_i e
    exact (v.ownPut _ _ (hq.own e)).mono (Nat.le_succ T)
  · rename_i e
    have hc := hq.pos
    simp only [Hv.count, if_neg e] at hc
    have hs : (aget h.units q).isSome := by
      cases eu : aget h.units q with
      | none => rw [eu] at hc; simp at hc
      | some us => rfl
    obtain ⟨us, eu⟩ := Option.isSome_iff_exists.mp hs
    have w := (v.unitsPut (us := us.tail) hs (by have := (v.units _ (aget_some eu)).2.2; simp at this ⊢; omega)).mono (Nat.le_succ T)
    have hqn : q.1 = 1 - n := (v.units _ (aget_some eu)).1
    rw [eu]
    exact { w with
      dropsL := (by have := v.dropsL; simp; omega)
      drops := fun p hp => (by
        rcases List.mem_append.mp hp with hp | hp
        · exact v.drops p hp
        · simp at hp; rw [hp]; exact hqn) }
theorem Inv.drop {T : Nat} {n : Int} {q : Hd} {h : Hv} (v : Inv T n h) (hq : Hand h q) : Inv (T + 1) n (h.drop q) := (v.dropped1 hq).without _
theorem Inv.setWorth {T : Nat} {n t w : Int} {h : Hv} (v : Inv T n h) : Inv T n (h.setWorth t w) := { v with
    own := fun k => (by
      show (aget h.own k).isSome = (aget (h.stand.map fun p => if p.1 = t then (p.1, { p.2 with worth := w }) else p) k).isSome
      rw [aget_worth, v.own]
      simp)
    stK := fun p hp => (by
      obtain ⟨q, hq, rfl⟩ := List.mem_map.mp hp
      have := v.stK q hq
      split <;> exact this)
    links := fun p hp => (by
      obtain ⟨q, hq, rfl⟩ := List.mem_map.mp hp
      have := v.links q hq
      split <;> exact this)
    nd := (by
      have e : ((h.stand.map fun p => if p.1 = t then (p.1, { p.2 with worth := w }) else p).map (·.1)) = h.stand.map (·.1) := by
        rw [List.map_map]
        refine List.map_congr_left fun p _ => ?_
        simp only [Function.comp]
        split <;> rfl
      show ((h.stand.map fun p => if p.1 = t then (p.1, { p.2 with worth := w }) else p).map (·.1)).Nodup
      rw [e]
      exact v.nd)
    standL := (by show (h.stand.map _).length ≤ T; rw [List.length_map]; exact v.standL) }
theorem Inv.callApp {T : Nat} {n : Int} {a : Option An} {h : Hv} (v : Inv T n h) : Inv (T + 1) n { h with calls := h.calls ++ [a] } := by
  have v' := v.mono (Nat.le_succ T)
  exact { v' with
    asks := fun p hp => (by
      obtain ⟨h1, h2, h3, h4⟩ := v'.asks p hp
      refine ⟨h1, h2, h3, h4.imp id ?_⟩
      rintro ⟨m, j, e, j0, j1⟩
      exact ⟨m, j, e, j0, by simp; omega⟩)
    callsL := (by have := v.callsL; simp; omega) }
theorem Inv.call {T : Nat} {n m : Int} {q : Hd} {h : Hv} (v : Inv T n h) (hq : Hand h q) : Inv (T + 1) n (h.call q m) := by
  unfold Hv.call
  split
  · exact (v.setWorth (t := q.2) (w := h.worth q.2 m)).callApp (a := some (.val (h.worth q.2 m)))
  · rename_i hn
    rw [v.num] at hn
    have hq1 : q.1 = 1 - n := by
      have := hq.ok
      unfold hdOk at this
      rcases v.nn with rfl | rfl <;> omega
    have v1 := v.callApp (a := none)
    have v' := v.mono (Nat.le_succ T)
    have := v.asked
    exact { v1 with
      asked := (by show 0 ≤ h.asked + 1 ∧ h.asked + 1 ≤ ((T + 1 : Nat) : Int); push_cast; omega)
      asksL := (by show (aput h.asks h.asked _).length ≤ T + 1; have := aput_len h.asks h.asked (q, Wh.call m h.calls.length); have := v.asksL; omega)
      asks := fun p hp => (by
        rcases aput_mem hp with hp | rfl
        · exact v1.asks p hp
        · refine ⟨this.1, by push_cast; show h.asked < _; omega, hq1, .inr ⟨m, _, rfl, by omega, ?_⟩⟩
          show _ < (((h.calls ++ [none]).length : Nat) : Int)
          simp; omega) }
/-! ### letters -/
def Good (T : Nat) (n : Int) : Lt → Prop
  | .unit to frm t u => to = 1 - n ∧ frm = n ∧ 0 ≤ t ∧ t < 100 ∧ 0 ≤ u ∧ u < (T : Int) + 1
  | .ask to frm k _ w => to = 1 - n ∧ frm = n ∧ 0 ≤ k ∧ k < (T : Int) ∧ (w = .give (1 - n) ∨ ∃ m j, w = .call m j)
  | .drop to frm _ _ => to = 1 - n ∧ frm = n
  | _ => False
theorem Inv.good {T : Nat} {n : Int} {h : Hv} (v : Inv T n h) : ∀ x ∈ h.letters, Good T n x := by
  intro x hx
  unfold Hv.letters at hx
  rcases List.mem_append.mp hx with hx | hx
  · rcases List.mem_append.mp hx with hx | hx
    · obtain ⟨o, ho, rfl⟩ := List.mem_map.mp hx
      rw [sortK_mem] at ho
      obtain ⟨t, et⟩ := aget_of_mem ho
      have := v.untold _ (aget_some et)
      simp only [Hv.unitLt, Good, et, Option.getD_some]
      exact ⟨this.1, v.num, this.2.2.2.1, this.2.2.2.2, this.2.1, this.2.2.1⟩
    · obtain ⟨k, hk, rfl⟩ := List.mem_map.mp hx
      rw [sortK_mem] at hk
      obtain ⟨q, eq⟩ := aget_of_mem hk
      have := v.asks _ (aget_some eq)
      simp only [Hv.askLt, Hv.askAt, Good, eq, Option.getD_some]
      refine ⟨this.2.2.1, v.num, this.1, this.2.1, this.2.2.2.imp id ?_⟩
      rintro ⟨m, j, e, _⟩
      exact ⟨m, j, e⟩
  · obtain ⟨p, hp, rfl⟩ := List.mem_map.mp hx
    exact ⟨v.drops p (List.mem_filter.mp hp).1, v.num⟩
theorem Inv.hearUnit {T : Nat} {n t u : Int} {h : Hv} (v : Inv T n h) (ht : 0 ≤ t ∧ t < 100) (hu : 0 ≤ u ∧ u < (T : Int) + 1) : Inv T n (h.hearUnit (1 - n) t u) := by
  unfold Hv.hearUnit
  split
  · exact v
  · rename_i hn
    have hn' : ¬ (1 - n) = h.number := by rw [v.num]; rcases v.nn with rfl | rfl <;> decide
    unfold Hv.get
    rw [if_neg hn']
    have ml : (aput h.met (1 - n, u) ()).length = h.met.length + 1 := by rw [aput_len', if_neg hn]
    exact { v with
      units := fun p hp => (by
        simp only [ml]
        rcases aput_mem hp with hp | rfl
        · obtain ⟨h1, h2, h3⟩ := v.units p hp
          exact ⟨h1, h2, by omega⟩
        · refine ⟨rfl, ⟨?_, ?_, ht⟩, ?_⟩
          · simp only; rcases v.nn with rfl | rfl <;> decide
          · simp only; rcases v.nn with rfl | rfl <;> decide
          · simp only [List.length_append, List.length_cons, List.length_nil]
            cases eu : aget h.units (1 - n, t) with
            | none => simp
            | some us => have := (v.units _ (aget_some eu)).2.2; simp at this ⊢; omega)
      unitsL := (by simp only [ml]; have := aput_len h.units (1 - n, t) ((aget h.units (1 - n, t)).getD [] ++ [u]); have := v.unitsL; omega)
      metN := aput_nodup v.metN
      met := fun p hp => (by
        rcases aput_mem hp with hp | rfl
        · exact v.met p hp
        · exact ⟨rfl, hu⟩) }
theorem Inv.hearAsk {T : Nat} {n k t : Int} {w : Wh} {h : Hv} (v : Inv T n h) (hk : 0 ≤ k ∧ k < (T : Int)) (hw : w = .give n ∨ ∃ m j, w = .call m j) : Inv T n (h.hearAsk (1 - n) k t w).2 := by
  unfold Hv.hearAsk
  split
  · exact v
  · have d : Inv T n (h.answer t w).2 := by
      rcases hw with rfl | ⟨m, j, rfl⟩
      · simp only [Hv.answer]
        split
        · rename_i hs
          unfold Hv.lend
          rw [if_pos v.num.symm]
          exact v.ownPut _ _ (by rw [v.own]; exact hs)
        · exact v
      · simp only [Hv.answer]
        split
        · exact v.setWorth
        · exact v
    exact { d with
      doneN := aput_nodup d.doneN
      done := fun p hp => (by
        rcases aput_mem hp with hp | rfl
        · exact d.done p hp
        · exact ⟨rfl, hk⟩) }
theorem Inv.hearDrop {T : Nat} {n k s : Int} {h : Hv} (v : Inv T n h) : Inv T n (h.hearDrop s k) := { v with
    lentL := Nat.le_trans (adel_len _ _) v.lentL
    untoldL := Nat.le_trans (adel_len _ _) v.untoldL
    untold := fun p hp => v.untold p (mem_adel hp) }
theorem Inv.hear {T : Nat} {n : Int} {h : Hv} (v : Inv T n h) {x : Lt} (g : Good T (1 - n) x) : Inv T n (h.hear x).2 := by
  have e : 1 - (1 - n) = n := by omega
  cases x with
  | unit to frm t u => obtain ⟨_, rfl, h1, h2, h3, h4⟩ := g; exact v.hearUnit ⟨h1, h2⟩ ⟨h3, h4⟩
  | ask to frm k t w => obtain ⟨_, rfl, h1, h2, h3⟩ := g; rw [e] at h3; exact v.hearAsk ⟨h1, h2⟩ h3
  | drop to frm t u => exact v.hearDrop
  | hUnit => exact g.elim
  | hAsk => exact g.elim
  | hDrop => exact g.elim
theorem Inv.bring {T : Nat} {n : Int} {h : Hv} (v : Inv T n h) {x : Lt} (g : Good T (1 - n) x) : Inv T n (h.bring x).2 := (v.hear g).without _
theorem Good.to {T : Nat} {n : Int} {x : Lt} (g : Good T (1 - n) x) : x.to = n ∧ x.frm = 1 - n := by
  have e : 1 - (1 - n) = n := by omega
  cases x with
  | unit to frm t u => obtain ⟨h1, h2, _⟩ := g; exact ⟨by rw [e] at h1; exact h1, h2⟩
  | ask to frm k t w => obtain ⟨h1, h2, _⟩ := g; exact ⟨by rw [e] at h1; exact h1, h2⟩
  | drop to frm t u => obtain ⟨h1, h2⟩ := g; exact ⟨by rw [e] at h1; exact h1, h2⟩
  | hUnit => exact g.elim
  | hAsk => exact g.elim
  | hDrop => exact g.elim
theorem Good.ok {T : Nat} {n : Int} {x : Lt} {h : Hv} (v : Inv T n h) (g : Good T (1 - n) x) : x.ok h := by
  cases x with
  | unit to frm t u => obtain ⟨_, rfl, _⟩ := g; show 1 - n ≠ h.number; rw [v.num]; rcases v.nn with rfl | rfl <;> decide
  | ask => trivial
  | drop => trivial
  | hUnit => exact g.elim
  | hAsk => exact g.elim
  | hDrop => exact g.elim
theorem Inv.new {n : Int} (hn : n = 0 ∨ n = 1) : Inv 0 n (Hv.new n 2) := by
  refine ⟨rfl, hn, rfl, ⟨Int.le_refl _, Int.le_refl _⟩, fun _ => rfl, nofun, nofun, .nil, ?_, ?_, nofun, Nat.le_refl _, .nil, nofun, .nil, nofun, ⟨Int.le_refl _, Int.le_refl _⟩, ?_, ?_, ?_, nofun, ⟨Int.le_refl _, Int.le_refl _⟩, ?_, nofun, ?_, nofun, ?_, rfl, rfl⟩ <;> exact Nat.le_refl _
end Dn

namespace Dn
open PySem L2 PyProof.Rows PySem.W
/-! ### the houses side by side -/
section
variable {c : Cs} {i j : Nat} {a : Addr} {h h' : Hv} {A A' : Ah} {K : U → Ah → Prop} {T : Nat} {n : Int} {q : Hd}
theorem House.frm (r : House c j a h A) (f : Frm i A A') (n : j ≠ i) : House c j a h A' := by
  obtain ⟨l, e, r⟩ := r
  exact ⟨l, e, fun p b m => f _ _ (r p b m) n⟩
theorem House.at (r : House c j a h A) : ∃ l : Lc, A a = some ⟨⟨j, Pt.house.code⟩, .ins c.House (kH.zip (vH l h))⟩ := by
  obtain ⟨l, e, r⟩ := r
  exact ⟨l, by rw [← e]; exact r.at .house rfl⟩
theorem op_table (r : House c i a h A) (v : Inv T n h) (hT : T ≤ 50) (k : K (.d h.table) A) : p_House_table c [.ref a] A K := by
  obtain ⟨l, rfl, r⟩ := r
  have f := (v.wf (by omega)).fits
  have m1 : h.met.length ≤ T + 1 := keys_range v.metN fun p hp => by have := v.met p hp; refine ⟨this.1, this.2.1, ?_⟩; push_cast; exact this.2.2
  have := v.ownL
  have := v.unitsL
  have hs : (5000 : Nat) ≤ sizeLine := by decide
  exact table_ok r (Nat.le_of_lt f.stand) (fun p hp => by rw [v.links p hp]; exact Nat.zero_le _) (by omega) k
theorem op_turn (r : House c i a h A) (w : h.Wf) (k : K (.lst (h.letters.map eLt)) A) : p_House_turn c [.ref a] A K := by
  obtain ⟨l, rfl, r⟩ := r
  exact turn_ok r w.fits w.lets k
theorem op_make {w : Int} (r : House c i a h A) (v : Inv T n h) (hT : T ≤ 50) (hw : 0 ≤ w ∧ w < 1000) (k : ∀ A', House c i a (h.make w) A' → Frm i A A' → K (.d (.int h.made)) A') : p_House_make c [.ref a, .int w] A K :=
  make_ok r (v.wf (by omega)).fits v.fresh (by have := v.made; omega) hw k
theorem op_give (r : House c i a h A) (v : Inv T n h) (hT : T ≤ 50) (hq : Hand h q) (k : ∀ A', House c i a (h.give q (1 - n)) A' → Frm i A A' → K (.lst ((h.give q (1 - n)).letters.map eLt)) A') : p_House_give c [.ref a, eH q, .int (1 - n)] A K := by
  obtain ⟨l, rfl, r⟩ := r
  have w2 := (v.give hq).wf (by omega)
  have hp := hq.pos
  exact give_ok r (v.wf (by omega)).fits (by rw [v.many]; exact hq.ok) (by rw [v.many]; rcases v.nn with rfl | rfl <;> decide) (by rw [v.num]; rcases v.nn with rfl | rfl <;> decide) (by omega) w2.fits w2.lets fun A' r' f => k A' ⟨l, rfl, r'⟩ f
theorem op_drop (r : House c i a h A) (v : Inv T n h) (hT : T ≤ 50) (hq : Hand h q) (k : ∀ A', House c i a (h.drop q) A' → Frm i A A' → K (.lst ((h.drop q).letters.map eLt)) A') : p_House_drop c [.ref a, eH q] A K := by
  obtain ⟨l, rfl, r⟩ := r
  have w2 := (v.drop hq).wf (by omega)
  exact drop_ok r (v.wf (by omega)).fits (by rw [v.many]; exact hq.ok) hq.pos hq.own ((v.dropped1 hq).wf (by omega)) w2.fits w2.lets fun A' r' f => k A' ⟨l, rfl, r'⟩ f
theorem op_call {m : Int} (tg : Tag) (r : House c i a h A) (v : Inv T n h) (hT : T ≤ 50) (hq : Hand h q) (hm : 0 ≤ m ∧ m < 1000) (ht : tg.r ≠ i) (k : ∀ A' b, House c i a (h.call q m) A' → A' b = some ⟨tg, .lst ((h.call q m).letters.map eLt)⟩ → Frm i A A' → K (.d (.tup [.int h.calls.length, .ref b])) A') : p_House_call c [.ref a, eH q, .int m] A K := by
  obtain ⟨l, rfl, r⟩ := r
  have w2 := (v.call (m := m) hq).wf (by omega)
  have hp := hq.pos
  refine call_ok r (v.wf (by omega)).fits ((v.callApp (a := none)).wf (by omega)).fits (by rw [v.many]; exact hq.ok) hm (by omega) (fun e => (v.stOf (hq.own e)).1) w2.fits w2.lets ht fun A' b r' hb f => k A' b ⟨l, rfl, r'⟩ hb f
theorem op_bring {x : Lt} (r : House c i a h A) (v : Inv T n h) (hT : T ≤ 50) (g : Good T (1 - n) x) (k : ∀ A', House c i a (h.bring x).2 A' → Frm i A A' → K (.lst ((h.bring x).1.map eLt)) A') : p_House_bring c [.ref a, eLt x] A K :=
  bring_ok r (v.wf (by omega)) (by rw [v.num]; exact g.to.1) (by rw [v.dead]; simp [aget]) (g.ok v) ((v.hear g).wf (by omega)) k
end
section
variable {c : Cs} {a : Nat → Addr} {hv hv' : Nat → Hv} {A A' : Ah} {P : Ah → Prop}
def setAt (f : Nat → Hv) (s : Nat) (x : Hv) : Nat → Hv := fun j => if j = s then x else f j
def H4 (c : Cs) (a : Nat → Addr) (hv : Nat → Hv) (A : Ah) : Prop := ∀ j, j < 4 → House c j (a j) (hv j) A
/-- stays whatever houses do -/
def Stay (P : Ah → Prop) : Prop := ∀ j, j < 4 → ∀ A A', Frm j A A' → P A → P A'
theorem H4.ext (H : H4 c a hv A) (e : Ext A A') : H4 c a hv A' := fun j hj => by
  obtain ⟨l, e1, r⟩ := H j hj
  exact ⟨l, e1, r.ext e⟩
theorem H4.step (H : H4 c a hv A) {j : Nat} {h' : Hv} (r : House c j (a j) h' A') (f : Frm j A A') : H4 c a (setAt hv j h') A' := fun k hk => by
  unfold setAt
  split
  · rename_i e; subst e; exact r
  · rename_i e; exact (H k hk).frm f e
theorem H4.frm9 (H : H4 c a hv A) {i : Nat} (f : Frm i A A') (hi : 4 ≤ i) : H4 c a hv A' := fun k hk => (H k hk).frm f (by omega)
theorem H4.congr (H : H4 c a hv A) (e : ∀ j, j < 4 → hv j = hv' j) : H4 c a hv' A := fun k hk => by rw [← e k hk]; exact H k hk
theorem Stay.and {P Q : Ah → Prop} (p : Stay P) (q : Stay Q) : Stay fun A => P A ∧ Q A := fun j hj A A' f h => ⟨p j hj A A' f h.1, q j hj A A' f h.2⟩
theorem Stay.cell {x : Addr} {i : Nat} {p : List Int} {b : Ob} (hi : 4 ≤ i) : Stay fun A => A x = some ⟨⟨i, p⟩, b⟩ := fun j hj A A' f h => f _ _ h (by show i ≠ j; omega)
theorem Stay.ex {ι : Type} {P : ι → Ah → Prop} (h : ∀ i, Stay (P i)) : Stay fun A => ∃ i, P i A := fun j hj A A' f ⟨i, p⟩ => ⟨i, h i j hj A A' f p⟩
theorem Stay.const {p : Prop} : Stay fun _ => p := fun _ _ _ _ _ h => h
/-- two houses do the same, one behind the other -/
theorem two {te : WE} {v : Nat} {ρ : Rho} {j0 j1 : Nat} {h h' : Hv} {Res : Ah → D → Prop} {kk : List D → KS} {chk : KS} (hj : j0 < 4 ∧ j1 < 4 ∧ j0 ≠ j1) (H : H4 c a hv A) (p : P A) (hP : Stay P) (hR : ∀ y, Stay fun A => Res A y) (e0 : hv j0 = h) (e1 : hv j1 = h)
    (hw : ∀ b, wip [v] 0 (ρ.set v b) = ρ) (hc : ∀ A, P A → chk ρ A)
    (st : ∀ j A, j < 4 → House c j (a j) h A → P A → ∀ Kt : D → Rho → Ah → Prop, (∀ y A', House c j (a j) h' A' → Frm j A A' → Res A' y → Kt y (ρ.set v (some (.d (.ref (a j))))) A') → te (ρ.set v (some (.d (.ref (a j))))) A fun u ρ3 A3 => esc u ρ3 A3 Kt)
    (k : ∀ y0 y1 A', H4 c a (setAt (setAt hv j0 h') j1 h') A' → P A' → Res A' y0 → Res A' y1 → kk [y0, y1] ρ A') : lcGo (gNm v) wYes te [v] chk kk [.ref (a j0), .ref (a j1)] [] ρ A := by
  obtain ⟨h0, h1, hn⟩ := hj
  refine ⟨hc A p, nm_ok (yes_ok (st j0 A h0 (by rw [← e0]; exact H j0 h0) p _ fun y0 A1 r1 f1 s1 => ?_))⟩
  have H1 := H.step r1 f1
  have p1 := hP j0 h0 A A1 f1 p
  rw [hw]
  refine ⟨hc A1 p1, nm_ok (yes_ok (st j1 A1 h1 ?_ p1 _ fun y1 A2 r2 f2 s2 => ?_))⟩
  · have := H1 j1 h1
    unfold setAt at this
    rw [if_neg fun e => hn e.symm, e1] at this
    exact this
  have H2 := H1.step r2 f2
  have p2 := hP j1 h1 A1 A2 f2 p1
  rw [hw]
  exact ⟨hc A2 p2, k y0 y1 A2 H2 p2 (hR y0 j1 h1 A1 A2 f2 s1) s2⟩
end
def ResI (n : Int) : Ah → D → Prop := fun _ y => y = .int n
def ResL (p : List Int) (ls : List Lt) : Ah → D → Prop := fun A y => ∃ r, y = .ref r ∧ A r = some ⟨⟨9, p⟩, .lst (ls.map eLt)⟩
def ResC (n : Int) (ls : List Lt) : Ah → D → Prop := fun A y => ∃ r, y = .tup [.int n, .ref r] ∧ A r = some ⟨⟨9, [1]⟩, .lst (ls.map eLt)⟩
theorem resL_stay {p : List Int} {ls : List Lt} (y : D) : Stay fun A => ResL p ls A y := Stay.ex fun r => Stay.and Stay.const (Stay.cell (by decide))
theorem resC_stay {n : Int} {ls : List Lt} (y : D) : Stay fun A => ResC n ls A y := Stay.ex fun r => Stay.and Stay.const (Stay.cell (by decide))
theorem nice_lts {ls : List Lt} (n : Nat) : ∀ x ∈ ls.map eLt, Nice (n + 3) x := fun x hx => by
  obtain ⟨y, _, rfl⟩ := List.mem_map.mp hx
  exact nice_Lt n y
theorem twinL {A : Ah} {p q : List Int} {ls : List Lt} {y0 y1 : D} (hl : ls.length ≤ sizeLine) (h0 : ResL p ls A y0) (h1 : ResL q ls A y1) : Twin A 8 y0 y1 := by
  obtain ⟨r0, rfl, c0⟩ := h0
  obtain ⟨r1, rfl, c1⟩ := h1
  exact twin_lst (n := 6) c0 c1 (by simpa using hl) (nice_lts 3)
theorem twinC {A : Ah} {n : Int} {ls : List Lt} {y0 y1 : D} (hl : ls.length ≤ sizeLine) (h0 : ResC n ls A y0) (h1 : ResC n ls A y1) : Twin A 8 y0 y1 := by
  obtain ⟨r0, rfl, c0⟩ := h0
  obtain ⟨r1, rfl, c1⟩ := h1
  refine .tup 7 rfl (by simp; decide) fun i x y ex ey => ?_
  match i, ex, ey with
  | 0, ex, ey => simp at ex ey; subst ex ey; exact .int _ _
  | 1, ex, ey => simp at ex ey; subst ex ey; exact twin_lst (n := 5) c0 c1 (by simpa using hl) (nice_lts 2)
  | i + 2, ex, ey => simp at ex
section
variable {c : Cs} {i : Nat} {a : Addr} {h h' : Hv} {ρ : Rho} {A A' : Ah} {T : Nat} {n : Int} {q : Hd} {Kt : D → Rho → Ah → Prop} {te : WE} {ta : WA}
/-- a list that a house tells becomes an object -/
theorem esc_lst {xs : List D} (p : List Int) (k : ∀ r, A r = none → Kt (.ref r) ρ (up A r ⟨⟨9, p⟩, .lst xs⟩)) : esc (.lst xs) ρ A Kt := ⟨.lst xs, rfl, ⟨9, p⟩, k⟩
theorem deed_make {w : Int} (r : House c i a h A) (v : Inv T n h) (hT : T ≤ 50) (hw : 0 ≤ w ∧ w < 1000) (ho : Ev te ρ A (.ref a)) (ha : EvA ta ρ A [.int w]) (k : ∀ y A', House c i a (h.make w) A' → Frm i A A' → ResI h.made A' y → Kt y ρ A') : wMeth c.House "make" (p_House_make c) te ta ρ A fun u ρ3 A3 => esc u ρ3 A3 Kt := by
  obtain ⟨l, e⟩ := r.at
  exact methEv ho e lkH_m_make ha (op_make r v hT hw fun A' r' f => k _ A' r' f rfl)
theorem deed_give (hi : i ≠ 9) (r : House c i a h A) (v : Inv T n h) (hT : T ≤ 50) (hq : Hand h q) (ho : Ev te ρ A (.ref a)) (ha : EvA ta ρ A [eH q, .int (1 - n)]) (k : ∀ y A', House c i a (h.give q (1 - n)) A' → Frm i A A' → ResL [1] (h.give q (1 - n)).letters A' y → Kt y ρ A') : wMeth c.House "give" (p_House_give c) te ta ρ A fun u ρ3 A3 => esc u ρ3 A3 Kt := by
  obtain ⟨l, e⟩ := r.at
  refine methEv ho e lkH_m_give ha (op_give r v hT hq fun A' r' f => esc_lst [1] fun b hb => k _ _ ?_ (f.trans (Frm.new hb)) ⟨b, rfl, up_same⟩)
  obtain ⟨l, e1, r'⟩ := r'
  exact ⟨l, e1, r'.ext (Ext.new hb)⟩
theorem deed_drop (hi : i ≠ 9) (r : House c i a h A) (v : Inv T n h) (hT : T ≤ 50) (hq : Hand h q) (ho : Ev te ρ A (.ref a)) (ha : EvA ta ρ A [eH q]) (k : ∀ y A', House c i a (h.drop q) A' → Frm i A A' → ResL [1] (h.drop q).letters A' y → Kt y ρ A') : wMeth c.House "drop" (p_House_drop c) te ta ρ A fun u ρ3 A3 => esc u ρ3 A3 Kt := by
  obtain ⟨l, e⟩ := r.at
  refine methEv ho e lkH_m_drop ha (op_drop r v hT hq fun A' r' f => esc_lst [1] fun b hb => k _ _ ?_ (f.trans (Frm.new hb)) ⟨b, rfl, up_same⟩)
  obtain ⟨l, e1, r'⟩ := r'
  exact ⟨l, e1, r'.ext (Ext.new hb)⟩
theorem deed_call {m : Int} (hi : i ≠ 9) (r : House c i a h A) (v : Inv T n h) (hT : T ≤ 50) (hq : Hand h q) (hm : 0 ≤ m ∧ m < 1000) (ho : Ev te ρ A (.ref a)) (ha : EvA ta ρ A [eH q, .int m]) (k : ∀ y A', House c i a (h.call q m) A' → Frm i A A' → ResC h.calls.length (h.call q m).letters A' y → Kt y ρ A') : wMeth c.House "call" (p_House_call c) te ta ρ A fun u ρ3 A3 => esc u ρ3 A3 Kt := by
  obtain ⟨l, e⟩ := r.at
  exact methEv ho e lkH_m_call ha (op_call ⟨9, [1]⟩ r v hT hq hm (by show 9 ≠ i; omega) fun A' b r' hb f => k _ _ r' f ⟨b, rfl, hb⟩)
theorem deed_bring {x : Lt} (p : List Int) (hi : i ≠ 9) (r : House c i a h A) (v : Inv T n h) (hT : T ≤ 50) (g : Good T (1 - n) x) (ho : Ev te ρ A (.ref a)) (ha : EvA ta ρ A [eLt x]) (k : ∀ y A', House c i a (h.bring x).2 A' → Frm i A A' → ResL p (h.bring x).1 A' y → Kt y ρ A') : wMeth c.House "bring" (p_House_bring c) te ta ρ A fun u ρ3 A3 => esc u ρ3 A3 Kt := by
  obtain ⟨l, e⟩ := r.at
  refine methEv ho e lkH_m_bring ha (op_bring r v hT g fun A' r' f => esc_lst p fun b hb => k _ _ ?_ (f.trans (Frm.new hb)) ⟨b, rfl, up_same⟩)
  obtain ⟨l, e1, r'⟩ := r'
  exact ⟨l, e1, r'.ext (Ext.new hb)⟩
end
end Dn

namespace Dn
open PySem L2 PyProof.Rows PySem.W
def w11_deed (c : Cs) : WS := (sIf (tOr (tB (wBin (wEqB false) (wVar 7) (wLst wNil))) (tB (wBin (wEqB false) (wVar 8) (wC (.int 0))))) (sSet 9 (wLc (iAny (wTup (wCons (wVar 5) (wCons (wVar 6) wNil)))) (gNm 17) wYes (wMeth c.House "make" (p_House_make c) (wVar 17) (wCons (wVar 3) wNil)) [17])) (sSeq (sSet 10 (wBin wIx (wVar 7) (wFn (p_law_off c) (wCons (wVar 1) (wCons (wCall wLen (uCons (wVar 7) uNil)) wNil))))) (sIf (tB (wBin (wEqB false) (wVar 8) (wC (.int 1)))) (sSet 9 (wLc (iAny (wTup (wCons (wVar 5) (wCons (wVar 6) wNil)))) (gNm 17) wYes (wMeth c.House "give" (p_House_give c) (wVar 17) (wCons (wVar 10) (wCons (wBin (wI0 fun i j => i - j) (wC (.int 1)) (wVar 4)) wNil))) [17])) (sIf (tB (wBin (wEqB false) (wVar 8) (wC (.int 2)))) (sSet 9 (wLc (iAny (wTup (wCons (wVar 5) (wCons (wVar 6) wNil)))) (gNm 17) wYes (wMeth c.House "drop" (p_House_drop c) (wVar 17) (wCons (wVar 10) wNil)) [17])) (sSet 9 (wLc (iAny (wTup (wCons (wVar 5) (wCons (wVar 6) wNil)))) (gNm 17) wYes (wMeth c.House "call" (p_House_call c) (wVar 17) (wCons (wVar 10) (wCons (wC (.int 3)) wNil))) [17]))))))
def w11_told (c : Cs) : WS := (sFor (iAny (wBin wIx (wVar 11) (wBin (wI2 CMul fun i j => i * j) (wC (.int 2)) (wVar 4)))) (gNm 12) (sSeq (sSet 13 (wLc (iAny (wSlice wCut (wVar 2) (oSome (wBin (wI2 CMul fun i j => i * j) (wC (.int 2)) (wBin wIx (wVar 12) (wC (.int 0))))) (oSome (wBin wAdd (wBin (wI2 CMul fun i j => i * j) (wC (.int 2)) (wBin wIx (wVar 12) (wC (.int 0)))) (wC (.int 2)))))) (gNm 17) wYes (wMeth c.House "bring" (p_House_bring c) (wVar 17) (wCons (wVar 12) wNil)) [17])) (sSeq (sIf (tB (wBin (wEqB true) (wBin wIx (wVar 13) (wC (.int 0))) (wBin wIx (wVar 13) (wC (.int 1))))) (sRet (wC (.bl false))) sNil) (sExpr (wMt "list" mClear (wBin wIx (wVar 13) (wC (.int 1))) uNil)))))
def w11_asked (c : Cs) : WS := (sFor (iAny (wTup (wCons (wC (.int 1)) (wCons (wC (.int 3)) wNil)))) (gNm 14) (sFor (iAny (wTup (wCons (wMeth c.House "things" (p_House_things c) (wBin wIx (wVar 2) (wVar 14)) wNil) (wCons (wMeth c.House "answers" (p_House_answers c) (wBin wIx (wVar 2) (wVar 14)) wNil) (wCons (wMeth c.House "notes" (p_House_notes c) (wBin wIx (wVar 2) (wVar 14)) wNil) wNil))))) (gNm 15) (sExpr (wMt "list" mAppend (wVar 15) (uCons (wC (.int 7)) uNil)))))
def w11_cmp (c : Cs) : WS := (sFor (iAny (wTup (wCons (wC (.int 0)) (wCons (wC (.int 2)) wNil)))) (gNm 14) (sIf (tOr (tB (wBin (wEqB true) (wMeth c.House "table" (p_House_table c) (wBin wIx (wVar 2) (wVar 14)) wNil) (wMeth c.House "table" (p_House_table c) (wBin wIx (wVar 2) (wBin wAdd (wVar 14) (wC (.int 1)))) wNil))) (tB (wBin (wEqB true) (wMeth c.House "things" (p_House_things c) (wBin wIx (wVar 2) (wVar 14)) wNil) (wMeth c.House "things" (p_House_things c) (wBin wIx (wVar 2) (wBin wAdd (wVar 14) (wC (.int 1)))) wNil)))) (sRet (wC (.bl false))) sNil))
section
variable {ρ : Rho} {A : Ah} {k : K1} {te te2 ta tb : WE} {i : Nat} {xs : List D} {n : Bool}
theorem ev_ixLoc {j : Int} {x : D} (h : ρ[i]? = some (some (.lst xs))) (hz : Ev te2 ρ A (.int j)) (hx : atI xs j = some x) : Ev (wBin wIx (wVar i) te2) ρ A x := fun _ q =>
  ⟨_, h, hz _ (.inl ⟨xs, j, x, by simp [seqOf, lstOf, obOf, rd, h, U.ob], rfl, hx, q⟩)⟩
theorem te_nilLoc {kb : KB} (h : ρ[i]? = some (some (.lst xs))) (hp : D.pures xs = true) (hs : SeqAt.shaped (.list (D.pds xs)) = true) (q : kb (if n then !xs.isEmpty else xs.isEmpty) ρ A) : tB (wBin (wEqB n) (wVar i) (wLst wNil)) ρ A kb :=
  ⟨_, h, Nat.zero_le _, ne_nil (xs := xs) (by simp [lstOf, obOf, rd, h, U.ob]) hp hs ⟨_, rfl, q⟩⟩
theorem ev_lenLoc (h : ρ[i]? = some (some (.lst xs))) : Ev (wCall wLen (uCons (wVar i) uNil)) ρ A (.int xs.length) := fun _ q =>
  ⟨_, h, _, rfl, .inl ⟨xs, by simp [seqOf, lstOf, obOf, rd, h, U.ob], q⟩⟩
theorem tup_it {kI : KI} {ta : WA} (ha : EvA ta ρ A xs) (hl : xs.length ≤ sizeLine) (h : kI xs chkT ρ A) : iAny (wTup ta) ρ A kI := ev_tup ha hl _ h
end
def R18 (x0 x1 x2 x3 x4 x5 x6 x7 x8 x9 x10 x11 x12 x13 x14 x15 x16 x17 : Option U) : Rho := [x0, x1, x2, x3, x4, x5, x6, x7, x8, x9, x10, x11, x12, x13, x14, x15, x16, x17]
structure Sd (c : Cs) (a : Nat → Addr) (ad : Addr) (T : Nat) (hs : Nat → Hv) (A : Ah) : Prop where
  H : H4 c a (fun j => hs (j / 2)) A
  dc : ∃ xs, DiceOk xs ∧ A ad = some ⟨⟨9, [0]⟩, .lst (xs.map D.int)⟩
  iv : ∀ s : Nat, s < 2 → Inv T s (hs s)
/-- what is of region 9 stays, but the draws' list -/
def Ext9 (ad : Addr) (A A' : Ah) : Prop := ∀ b t ob p, A b = some ⟨⟨9, t :: p⟩, ob⟩ → t ≠ 0 → A' b = some ⟨⟨9, t :: p⟩, ob⟩
section
variable {c : Cs} {a : Nat → Addr} {ad : Addr} {T : Nat} {hs : Nat → Hv} {A : Ah}
theorem dc_stay : Stay fun A => ∃ xs, DiceOk xs ∧ A ad = some ⟨⟨9, [0]⟩, .lst (xs.map D.int)⟩ := Stay.ex fun xs => Stay.and Stay.const (Stay.cell (by decide))
theorem Sd.two {s : Nat} {h' : Hv} {A' : Ah} (S : Sd c a ad T hs A) (hs2 : s < 2) (H : H4 c a (setAt (setAt (fun j => hs (j / 2)) (2 * s) h') (2 * s + 1) h') A') (p : ∃ xs, DiceOk xs ∧ A' ad = some ⟨⟨9, [0]⟩, .lst (xs.map D.int)⟩) {T' : Nat} (hT : T ≤ T') (v : Inv T' s h') : Sd c a ad T' (setAt hs s h') A' := by
  refine ⟨H.congr fun j hj => ?_, p, fun t ht => ?_⟩
  · unfold setAt
    by_cases e : j / 2 = s
    · rw [if_pos e]
      by_cases e1 : j = 2 * s + 1
      · rw [if_pos e1]
      · rw [if_neg e1, if_pos (by omega)]
    · rw [if_neg e, if_neg (by omega), if_neg (by omega)]
  · unfold setAt
    split
    · rename_i e; subst e; exact v
    · exact (S.iv t ht).mono hT
theorem pair_deed {te : WE} {d : WD} {s : Nat} {h' : Hv} {Res : Ah → D → Prop} {x0 x1 x2 x3 x4 x7 x8 x9 x10 x11 x12 x13 x14 x15 x16 x17 : Option U} (hs2 : s < 2) (S : Sd c a ad T hs A) (v : Inv (T + 1) s h') (hR : ∀ y, Stay fun A => Res A y) (tw : ∀ A y0 y1, Res A y0 → Res A y1 → Twin A 8 y0 y1)
    (st : ∀ j A, j < 4 → House c j (a j) (hs s) A → ∀ Kt : D → Rho → Ah → Prop, (∀ y A', House c j (a j) h' A' → Frm j A A' → Res A' y → Kt y (R18 x0 x1 x2 x3 x4 (some (.d (.ref (a (2 * s))))) (some (.d (.ref (a (2 * s + 1))))) x7 x8 x9 x10 x11 x12 x13 x14 x15 x16 (some (.d (.ref (a j))))) A') → te (R18 x0 x1 x2 x3 x4 (some (.d (.ref (a (2 * s))))) (some (.d (.ref (a (2 * s + 1))))) x7 x8 x9 x10 x11 x12 x13 x14 x15 x16 (some (.d (.ref (a j))))) A fun u ρ3 A3 => esc u ρ3 A3 Kt)
    (k : ∀ A' hs' y0 y1 z17, Sd c a ad (T + 1) hs' A' → Twin A' 8 y0 y1 → d.nx (R18 x0 x1 x2 x3 x4 (some (.d (.ref (a (2 * s))))) (some (.d (.ref (a (2 * s + 1))))) x7 x8 (some (.lst [y0, y1])) x10 x11 x12 x13 x14 x15 x16 z17) A') :
    sSet 9 (wLc (iAny (wTup (wCons (wVar 5) (wCons (wVar 6) wNil)))) (gNm 17) wYes te [17]) d (R18 x0 x1 x2 x3 x4 (some (.d (.ref (a (2 * s))))) (some (.d (.ref (a (2 * s + 1))))) x7 x8 x9 x10 x11 x12 x13 x14 x15 x16 x17) A := by
  refine setLc_ok (tup_it (eva_cons (ev_var (i := 5) (x := .ref (a (2 * s))) rfl) (eva_cons (ev_var (i := 6) (x := .ref (a (2 * s + 1))) rfl) eva_nil)) le2 ?_)
  have e2 : (2 * s + 1) / 2 = s := by omega
  have e1 : (2 * s) / 2 = s := by omega
  exact two (v := 17) (ρ := R18 x0 x1 x2 x3 x4 (some (.d (.ref (a (2 * s))))) (some (.d (.ref (a (2 * s + 1))))) x7 x8 x9 x10 x11 x12 x13 x14 x15 x16 none) (j0 := 2 * s) (j1 := 2 * s + 1) (h := hs s) (h' := h') (Res := Res) ⟨by omega, by omega, by omega⟩ S.H S.dc dc_stay hR (by simp only [e1]) (by simp only [e2]) (fun b => rfl) (fun _ _ => trivial)
    (fun j A hj r p Kt q => st j A hj r Kt q) fun y0 y1 A' H p r0 r1 => k A' _ y0 y1 _ (S.two hs2 H p (Nat.le_succ T) v) (tw A' y0 y1 r0 r1)
theorem Sd.dice (S : Sd c a ad T hs A) {m : Int} {K : U → Ah → Prop} (hm : 0 < m ∧ m < 1073741824) (k : ∀ r A', 0 ≤ r → r < m → Sd c a ad T hs A' → Ext9 ad A A' → K (.d (.int r)) A') : p_law_off c [.ref ad, .int m] A K := by
  obtain ⟨xs, dx, hA⟩ := S.dc
  refine off_ok hA dx hm (k _ _ (off_lt dx hm.1).1 (off_lt dx hm.1).2 ⟨S.H.frm9 (i := 9) (Frm.upd hA rfl) (by decide), ⟨_, off_dice dx hm.1, up_same⟩, S.iv⟩ fun b t ob p hb hp => ?_)
  rw [up_ne fun e => by subst e; rw [hA] at hb; cases hb; exact hp rfl]
  exact hb
theorem atI_pick {α : Type} {f : α → D} {l : List α} {r : Int} (h0 : 0 ≤ r) (h1 : r < l.length) : ∃ y ∈ l, atI (l.map f) r = some (f y) := by
  obtain ⟨n, rfl⟩ := Int.eq_ofNat_of_zero_le h0
  have hn : n < l.length := by omega
  refine ⟨l[n], List.getElem_mem hn, ?_⟩
  have := atI_nat' (xs := l.map f) (i := n) (x := f l[n]) (by simp [hn])
  simpa using this
theorem lts_len {T : Nat} {n : Int} {h : Hv} (v : Inv T n h) (hT : T ≤ 50) : h.letters.length ≤ sizeLine := by
  have := (v.wf (by omega)).lets
  have h2 := List.length_filter_le (fun p => !decide (p.1 ∈ h.busy)) h.drops
  simp only [Hv.letters, List.length_append, List.length_map, sortK, List.length_mergeSort]
  omega
theorem had_nice (n : Nat) (qs : List Hd) : ∀ x ∈ qs.map eH, Nice (n + 1) x := fun x hx => by
  obtain ⟨q, _, rfl⟩ := List.mem_map.mp hx
  exact nice_H n q
theorem deed_ok {d : WD} {s : Nat} {tn kd : Int} {x0 x2 x9 x10 x11 x12 x13 x14 x15 x16 x17 : Option U} (hs2 : s < 2) (hT : T ≤ 45) (S : Sd c a ad T hs A) (ht : 0 ≤ tn ∧ tn < 1000)
    (k : ∀ A' hs' y0 y1 z10 z17, Sd c a ad (T + 1) hs' A' → Twin A' 8 y0 y1 → d.nx (R18 x0 (some (.d (.ref ad))) x2 (some (.d (.int tn))) (some (.d (.int s))) (some (.d (.ref (a (2 * s))))) (some (.d (.ref (a (2 * s + 1))))) (some (.lst (((hs s).tabUnits.map (·.1)).map eH))) (some (.d (.int kd))) (some (.lst [y0, y1])) z10 x11 x12 x13 x14 x15 x16 z17) A') :
    w11_deed c d (R18 x0 (some (.d (.ref ad))) x2 (some (.d (.int tn))) (some (.d (.int s))) (some (.d (.ref (a (2 * s))))) (some (.d (.ref (a (2 * s + 1))))) (some (.lst (((hs s).tabUnits.map (·.1)).map eH))) (some (.d (.int kd))) x9 x10 x11 x12 x13 x14 x15 x16 x17) A := by
  have v := S.iv s hs2
  have mk : ∀ x9 x10 x17, sSet 9 (wLc (iAny (wTup (wCons (wVar 5) (wCons (wVar 6) wNil)))) (gNm 17) wYes (wMeth c.House "make" (p_House_make c) (wVar 17) (wCons (wVar 3) wNil)) [17]) d (R18 x0 (some (.d (.ref ad))) x2 (some (.d (.int tn))) (some (.d (.int s))) (some (.d (.ref (a (2 * s))))) (some (.d (.ref (a (2 * s + 1))))) (some (.lst (((hs s).tabUnits.map (·.1)).map eH))) (some (.d (.int kd))) x9 x10 x11 x12 x13 x14 x15 x16 x17) A := fun x9 x10 x17 =>
    pair_deed hs2 S (v.make tn) (Res := ResI (hs s).made) (fun y => Stay.const) (fun A y0 y1 h0 h1 => by cases h0; cases h1; exact .int _ _) (fun j A hj r Kt q => deed_make r v (by omega) ht (ev_var (i := 17) (x := .ref (a j)) rfl) (eva_cons (ev_var (i := 3) (x := .int tn) rfl) eva_nil) q) fun A' hs' y0 y1 z17 S' t => k A' hs' y0 y1 _ z17 S' t
  refine if_ok (or_ok (te_nilLoc (i := 7) (xs := ((hs s).tabUnits.map (·.1)).map eH) rfl (pures_hds _) (shaped_hds _) ?_))
  cases eh : ((hs s).tabUnits.map (·.1)).map eH with
  | nil => 
    simp only [List.isEmpty_nil, Bool.false_eq_true, if_true, if_false]
    rw [eh] at mk
    exact mk _ _ _
  | cons z zs =>
    rw [← eh]
    have e0 : (((hs s).tabUnits.map (·.1)).map eH).isEmpty = false := by rw [eh]; rfl
    simp only [e0, Bool.false_eq_true, if_false]
    refine te_eqI (ev_var (i := 8) (x := .int kd) rfl) ev_c ?_
    by_cases hk0 : kd = 0
    · simp only [decide_eq_true hk0, Bool.false_eq_true, if_false, if_true]
      exact mk _ _ _
    simp only [hk0, decide_false, Bool.false_eq_true, if_false]
    have hlen : 0 < (((hs s).tabUnits.map (·.1)).map eH).length := by rw [eh]; simp
    have hlen2 : (((hs s).tabUnits.map (·.1)).map eH).length < 1000000 := by
      have f := (v.wf (by omega)).fits
      have m1 : (hs s).met.length ≤ T + 1 := keys_range v.metN fun p hp => by have := v.met p hp; refine ⟨this.1, this.2.1, ?_⟩; push_cast; exact this.2.2
      have := v.ownL
      have := v.unitsL
      have := List.length_filter_le (fun p : Hd × Int => decide (0 < p.2)) (sortK eHC ((hs s).ownRows ++ (hs s).unitRows))
      simp only [List.length_map, Hv.tabUnits]
      simp only [sortK, List.length_mergeSort, List.length_append, Hv.ownRows, Hv.unitRows, List.length_map] at this ⊢
      omega
    refine seq_ok (set_ok (bin_ok ⟨_, rfl, fnEv (eva_cons (ev_var (i := 1) (x := .ref ad) rfl) (eva_cons (ev_lenLoc (i := 7) rfl) eva_nil)) (S.dice ⟨by omega, by omega⟩ fun r A' r0 r1 S' ext => ?_)⟩))
    obtain ⟨p1, hp1, er⟩ := atI_pick (f := eH) (l := (hs s).tabUnits.map (·.1)) r0 (by simpa using r1)
    refine .inl ⟨_, r, eH p1, rfl, rfl, er, ?_⟩
    obtain ⟨p, hp, ep⟩ := List.mem_map.mp hp1
    subst ep
    have hq := v.hand (by omega) hp
    dsimp only
    refine if_ok (te_eqI (ev_var (i := 8) (x := .int kd) rfl) ev_c ?_)
    have E17 : ∀ j A1, Ev (wVar 17) (R18 x0 (some (.d (.ref ad))) x2 (some (.d (.int tn))) (some (.d (.int s))) (some (.d (.ref (a (2 * s))))) (some (.d (.ref (a (2 * s + 1))))) (some (.lst (((hs s).tabUnits.map (·.1)).map eH))) (some (.d (.int kd))) x9 (some (.d (eH p.1))) x11 x12 x13 x14 x15 x16 (some (.d (.ref (a j))))) A1 (.ref (a j)) := fun j A1 => ev_var rfl
    have E10 : ∀ j A1, Ev (wVar 10) (R18 x0 (some (.d (.ref ad))) x2 (some (.d (.int tn))) (some (.d (.int s))) (some (.d (.ref (a (2 * s))))) (some (.d (.ref (a (2 * s + 1))))) (some (.lst (((hs s).tabUnits.map (·.1)).map eH))) (some (.d (.int kd))) x9 (some (.d (eH p.1))) x11 x12 x13 x14 x15 x16 (some (.d (.ref (a j))))) A1 (eH p.1) := fun j A1 => ev_var rfl
    by_cases hk1 : kd = 1
    · simp only [decide_eq_true hk1, Bool.false_eq_true, if_false, if_true]
      exact pair_deed hs2 S' (v.give hq) (Res := ResL [1] ((hs s).give p.1 (1 - s)).letters) resL_stay (fun A y0 y1 h0 h1 => twinL (lts_len (v.give hq) (by omega)) h0 h1) (fun j A hj r Kt q => deed_give (by omega) r v (by omega) hq (E17 j A) (eva_cons (E10 j A) (eva_cons (ev_sub ev_c (ev_var (i := 4) (x := .int s) rfl)) eva_nil)) q) fun A' hs' y0 y1 z17 S' t => k A' hs' y0 y1 _ z17 S' t
    simp only [hk1, decide_false, Bool.false_eq_true, if_false]
    show sIf _ _ _ _ _ _
    refine if_ok (te_eqI (ev_var (i := 8) (x := .int kd) rfl) ev_c ?_)
    by_cases hk2 : kd = 2
    · simp only [decide_eq_true hk2, Bool.false_eq_true, if_false, if_true]
      exact pair_deed hs2 S' (v.drop hq) (Res := ResL [1] ((hs s).drop p.1).letters) resL_stay (fun A y0 y1 h0 h1 => twinL (lts_len (v.drop hq) (by omega)) h0 h1) (fun j A hj r Kt q => deed_drop (by omega) r v (by omega) hq (E17 j A) (eva_cons (E10 j A) eva_nil) q) fun A' hs' y0 y1 z17 S' t => k A' hs' y0 y1 _ z17 S' t
    simp only [hk2, decide_false, Bool.false_eq_true, if_false]
    exact pair_deed hs2 S' (v.call hq) (Res := ResC (hs s).calls.length ((hs s).call p.1 3).letters) resC_stay (fun A y0 y1 h0 h1 => twinC (lts_len (v.call hq) (by omega)) h0 h1) (fun j A hj r Kt q => deed_call (by omega) r v (by omega) hq (by decide) (E17 j A) (eva_cons (E10 j A) (eva_cons ev_c eva_nil)) q) fun A' hs' y0 y1 z17 S' t => k A' hs' y0 y1 _ z17 S' t
end
section
variable {ρ : Rho} {A : Ah} {k : K1} {te te2 ta tb : WE} {i : Nat} {xs : List D} {n : Bool}
theorem clearE {a : Addr} {t : Tag} (he : Ev te ρ A (.ref a)) (h : A a = some ⟨t, .lst xs⟩) (q : k (.d .non) ρ (up A a ⟨t, .lst []⟩)) : wMt "list" mClear te uNil ρ A k :=
  he _ ⟨tyU_lst h, rfl, ⟨xs, by simp [lstOf, obOf, h]⟩, by simpa [setOb, h] using q⟩
theorem sliceLoc {kI : KI} {tl th : WE} {lo hi : Int} (h : ρ[i]? = some (some (.lst xs))) (hl : Ev tl ρ A (.int lo)) (hh : Ev th ρ A (.int hi)) (q : kI (cutD xs (some lo) (some hi)) chkT ρ A) : iAny (wSlice wCut (wVar i) (oSome tl) (oSome th)) ρ A kI :=
  ⟨_, h, hl _ ⟨lo, rfl, hh _ ⟨hi, rfl, .inl ⟨xs, by simp [lstOf, obOf, rd, h, U.ob], q⟩⟩⟩⟩
end
theorem eLt_to (x : Lt) : ∃ b, eLt x = .tup [.int x.to, b] := by cases x <;> exact ⟨_, rfl⟩
theorem cut4 (a : Nat → Addr) (t : Nat) (ht : t < 2) : cutD [.ref (a 0), .ref (a 1), .ref (a 2), .ref (a 3)] (some (2 * (t : Int))) (some (2 * (t : Int) + 2)) = [.ref (a (2 * t)), .ref (a (2 * t + 1))] := by
  match t, ht with
  | 0, _ => rfl
  | 1, _ => rfl
section
variable {c : Cs} {a : Nat → Addr} {ad : Addr} {T : Nat} {hs : Nat → Hv} {A : Ah}
def LC (rr : Nat → Addr) (ls : Nat → List Lt) (A : Ah) : Prop := ∀ j : Nat, j < 4 → A (rr j) = some ⟨⟨9, [2, j]⟩, .lst ((ls j).map eLt)⟩
theorem LC.stay {rr : Nat → Addr} {ls : Nat → List Lt} : Stay (LC rr ls) := fun j hj A A' f h k hk => f _ _ (h k hk) (by show 9 ≠ j; omega)
theorem LC.put {rr : Nat → Addr} {ls : Nat → List Lt} {b : Addr} {t : Tag} {ob z : Ob} (L : LC rr ls A) (hb : A b = some ⟨t, ob⟩) (ht : ∀ j : Nat, j < 4 → t ≠ ⟨9, [2, j]⟩) : LC rr ls (up A b ⟨t, z⟩) := fun j hj => up_otherT (L j hj) hb fun e => ht j hj e.symm
theorem Sd.put {b : Addr} {p : List Int} {ob z : Ob} (S : Sd c a ad T hs A) (hb : A b = some ⟨⟨9, p⟩, ob⟩) (hp : p ≠ [0]) : Sd c a ad T hs (up A b ⟨⟨9, p⟩, z⟩) := by
  obtain ⟨xs, dx, hA⟩ := S.dc
  exact ⟨S.H.frm9 (i := 9) (Frm.upd hb rfl) (by decide), ⟨xs, dx, up_otherT hA hb fun e => hp (by injection e with _ e; exact e.symm)⟩, S.iv⟩
theorem told_ok {d : WD} {s : Nat} {rr : Nat → Addr} {ls : Nat → List Lt} {x0 x1 x3 x5 x6 x7 x8 x9 x10 x12 x13 x14 x15 x16 x17 : Option U} (hs2 : s < 2) (hT : T ≤ 50) (S : Sd c a ad T hs A) (L : LC rr ls A) (g : ∀ x ∈ ls (2 * s), Good T s x) (hl : ∀ j, j < 4 → (ls j).length ≤ sizeLine)
    (k : ∀ A' hs' z12 z13 z17, Sd c a ad T hs' A' → LC rr ls A' → d.nx (R18 x0 x1 (some (.lst [.ref (a 0), .ref (a 1), .ref (a 2), .ref (a 3)])) x3 (some (.d (.int s))) x5 x6 x7 x8 x9 x10 (some (.lst [.ref (rr 0), .ref (rr 1), .ref (rr 2), .ref (rr 3)])) z12 z13 x14 x15 x16 z17) A') :
    w11_told c d (R18 x0 x1 (some (.lst [.ref (a 0), .ref (a 1), .ref (a 2), .ref (a 3)])) x3 (some (.d (.int s))) x5 x6 x7 x8 x9 x10 (some (.lst [.ref (rr 0), .ref (rr 1), .ref (rr 2), .ref (rr 3)])) x12 x13 x14 x15 x16 x17) A := by
  have e4 : atI [D.ref (rr 0), .ref (rr 1), .ref (rr 2), .ref (rr 3)] (2 * (s : Int)) = some (.ref (rr (2 * s))) := by
    match s, hs2 with
    | 0, _ => rfl
    | 1, _ => rfl
  refine for_ok (it_any (ev_ixLoc (i := 11) rfl (ev_i2 ev_c (ev_var (i := 4) (x := .int s) rfl) (.inl (by decide))) e4 _ (it_ref (L _ (by omega)) ?_)))
  refine forGo_fold (S := Unit) (fun _ ρ A' => ∃ hs' z12 z13 z17, Sd c a ad T hs' A' ∧ LC rr ls A' ∧ ρ = R18 x0 x1 (some (.lst [.ref (a 0), .ref (a 1), .ref (a 2), .ref (a 3)])) x3 (some (.d (.int s))) x5 x6 x7 x8 x9 x10 (some (.lst [.ref (rr 0), .ref (rr 1), .ref (rr 2), .ref (rr 3)])) z12 z13 x14 x15 x16 z17) (fun s _ => s)
    (fun _ ρ A' ⟨hs', z12, z13, z17, S', L', eρ⟩ => by simp [chkL, lstOf, obOf, L' (2 * s) (by omega)]) (ls (2 * s)) () _ A (fun x hx _ ρ A1 Kx ⟨hs1, z12, z13, z17, S1, L1, eρ⟩ hK => ?_) ⟨hs, _, _, _, S, L, rfl⟩ fun ρ A' ⟨hs', z12, z13, z17, S', L', eρ⟩ => ?_
  · subst eρ
    have gx := g x hx
    have ec : ((1 - s : Nat) : Int) = 1 - (s : Int) := by omega
    have gx' : Good T (1 - ((1 - s : Nat) : Int)) x := by
      have : (1 : Int) - ((1 - s : Nat) : Int) = s := by omega
      rw [this]; exact gx
    obtain ⟨b, eb⟩ := eLt_to x
    have ht := gx'.to.1
    have E12 : ∀ z13 z17, Ev (wBin wIx (wVar 12) (wC (.int 0))) (R18 x0 x1 (some (.lst [.ref (a 0), .ref (a 1), .ref (a 2), .ref (a 3)])) x3 (some (.d (.int s))) x5 x6 x7 x8 x9 x10 (some (.lst [.ref (rr 0), .ref (rr 1), .ref (rr 2), .ref (rr 3)])) (some (.d (eLt x))) z13 x14 x15 x16 z17) A1 (.int ((1 - s : Nat) : Int)) := fun z13 z17 => by
      rw [← ht]
      exact ev_ixT (xs := [.int x.to, b]) (ev_var (i := 12) (by rw [← eb]; rfl)) (by simp [atI, ixN])
    have v := S1.iv (1 - s) (by omega)
    refine nm_ok (seq_ok (setLc_ok (sliceLoc (i := 2) rfl (ev_i2 ev_c (E12 _ _) (.inl (by decide))) (ev_add (ev_i2 ev_c (E12 _ _) (.inl (by decide))) ev_c) ?_)))
    rw [cut4 a (1 - s) (by omega)]
    have e2 : (2 * (1 - s) + 1) / 2 = 1 - s := by omega
    have e1 : (2 * (1 - s)) / 2 = 1 - s := by omega
    refine two (v := 17) (ρ := R18 x0 x1 (some (.lst [.ref (a 0), .ref (a 1), .ref (a 2), .ref (a 3)])) x3 (some (.d (.int s))) x5 x6 x7 x8 x9 x10 (some (.lst [.ref (rr 0), .ref (rr 1), .ref (rr 2), .ref (rr 3)])) (some (.d (eLt x))) z13 x14 x15 x16 none) (j0 := 2 * (1 - s)) (j1 := 2 * (1 - s) + 1) (h := hs1 (1 - s)) (h' := ((hs1 (1 - s)).bring x).2) (Res := ResL [4] ((hs1 (1 - s)).bring x).1)
      (P := fun A => (∃ xs, DiceOk xs ∧ A ad = some ⟨⟨9, [0]⟩, .lst (xs.map D.int)⟩) ∧ LC rr ls A) ⟨by omega, by omega, by omega⟩ S1.H ⟨S1.dc, L1⟩ (dc_stay.and LC.stay) resL_stay (by simp only [e1]) (by simp only [e2]) (fun b => rfl) (fun _ _ => trivial)
      (fun j A hj r p Kt q => deed_bring [4] (by omega) r v hT gx' (ev_var (i := 17) (x := .ref (a j)) rfl) (eva_cons (ev_var (i := 12) (x := eLt x) rfl) eva_nil) q) fun y0 y1 A2 H p r0 r1 => ?_
    obtain ⟨q0, rfl, c0⟩ := r0
    obtain ⟨q1, rfl, c1⟩ := r1
    have S2 := S1.two (by omega) H p.1 (Nat.le_refl T) (v.bring gx')
    dsimp only
    refine seq_ok (if_ok (tB_ok (bin_ok (ev_ixLoc (i := 13) rfl ev_c (by rfl) _ (ev_ixLoc (i := 13) rfl ev_c (by rfl) _ (eq_lists (m := 3) (xs := ((hs1 (1 - s)).bring x).1.map eLt) (by simp [lstOf, obOf, c0]) (by simp [lstOf, obOf, c1]) (nice_lts 0) (by decide) ⟨_, rfl, ?_⟩))))))
    simp only [Bool.not_true, Bool.false_eq_true, if_false]
    dsimp only [sNil]
    refine expr_ok (clearE (ev_ixLoc (i := 13) rfl ev_c (by rfl)) c1 ?_)
    exact hK _ _ ⟨_, _, _, _, S2.put c1 (by decide), p.2.put c1 (fun j _ e => by injection e with _ e; injection e with e _; cases e), rfl⟩
  · subst eρ
    exact k A' hs' z12 z13 z17 S' L'
end
section
variable {ρ : Rho} {A : Ah} {k : K1} {te : WE} {tr : WA}
theorem tup_cons_it {kI : KI} (h : te ρ A fun u ρ1 A1 => esc u ρ1 A1 fun x ρ2 A2 => tr ρ2 A2 fun xs ρ3 A3 => (x :: xs).length ≤ sizeLine ∧ wIt (.d (.tup (x :: xs))) ρ3 A3 kI) : iAny (wTup (wCons te tr)) ρ A kI := h
theorem cons_ok {k : KA} (h : te ρ A fun u ρ1 A1 => esc u ρ1 A1 fun x ρ2 A2 => tr ρ2 A2 fun xs ρ3 A3 => k (x :: xs) ρ3 A3) : wCons te tr ρ A k := h
end
section
variable {c : Cs} {i : Nat} {a : Addr} {h : Hv} {ρ : Rho} {A : Ah} {T : Nat} {n : Int} {k : K1} {te : WE}
theorem ask_things (r : House c i a h A) (v : Inv T n h) (hT : T ≤ 50) (ho : Ev te ρ A (.ref a)) (q : ∀ xs, xs.length < sizeLine → (∀ x ∈ xs, Nice 2 x) → xs = ((sortK D.int (h.stand.map (·.1))).map fun t => D.tup [.int t, .int (((aget h.stand t).map fun (x : Th) => x.worth).getD 0)]) → k (.lst xs) ρ A) : wMeth c.House "things" (p_House_things c) te wNil ρ A k := by
  obtain ⟨l, e⟩ := r.at
  obtain ⟨l2, rfl, r⟩ := r
  refine methEv ho e lkH_m_things eva_nil (things_ok r (v.wf (by omega)).fits (q _ ?_ ?_ rfl))
  · simp only [List.length_map, sortK, List.length_mergeSort]
    exact (v.wf (by omega)).fits.stand
  · intro x hx
    obtain ⟨t, _, rfl⟩ := List.mem_map.mp hx
    exact nice_pair (.int _ _) (.int _ _)
theorem ask_answers (r : House c i a h A) (v : Inv T n h) (hT : T ≤ 50) (ho : Ev te ρ A (.ref a)) (q : ∀ xs, xs.length < sizeLine → k (.lst xs) ρ A) : wMeth c.House "answers" (p_House_answers c) te wNil ρ A k := by
  obtain ⟨l, e⟩ := r.at
  obtain ⟨l2, rfl, r⟩ := r
  refine methEv ho e lkH_m_answers eva_nil (answers_ok r (q _ ?_))
  simp only [Hv.answers, List.length_map]
  have := List.length_filter_le (fun p : Option An × Nat => p.1.isSome) h.calls.zipIdx
  have h2 := (v.wf (by omega)).fits.calls
  simp at this
  omega
theorem ask_notes (r : House c i a h A) (v : Inv T n h) (ho : Ev te ρ A (.ref a)) (q : ∀ xs, xs.length < sizeLine → k (.lst xs) ρ A) : wMeth c.House "notes" (p_House_notes c) te wNil ρ A k := by
  obtain ⟨l, e⟩ := r.at
  obtain ⟨l2, rfl, r⟩ := r
  refine methEv ho e lkH_m_notes eva_nil (notes_ok r (by rw [v.told]; exact Nat.zero_le _) (q _ ?_))
  simp only [List.length_map, sortK, List.length_mergeSort, v.told]
  decide
theorem ask_table (r : House c i a h A) (v : Inv T n h) (hT : T ≤ 50) (ho : Ev te ρ A (.ref a)) (q : k (.d h.table) ρ A) : wMeth c.House "table" (p_House_table c) te wNil ρ A k := by
  obtain ⟨l, e⟩ := r.at
  exact methEv ho e lkH_m_table eva_nil (op_table r v hT q)
theorem nice_tableI (v : Inv T n h) (hT : T ≤ 50) : Nice 10 h.table := by
  have f := (v.wf (by omega)).fits
  have m1 : h.met.length ≤ T + 1 := keys_range v.metN fun p hp => by have := v.met p hp; refine ⟨this.1, this.2.1, ?_⟩; push_cast; exact this.2.2
  have h1 := v.ownL
  have h2 := v.unitsL
  have hs : (5000 : Nat) ≤ sizeLine := by decide
  refine nice_table ?_ ?_ fun t x ex => ?_
  · have := List.length_filter_le (fun p : Hd × Int => decide (0 < p.2)) (sortK eHC (h.ownRows ++ h.unitRows))
    simp only [Hv.tabUnits]
    simp only [sortK, List.length_mergeSort, List.length_append, Hv.ownRows, Hv.unitRows, List.length_map] at this ⊢
    omega
  · simp only [Hv.tabThings, List.length_map, sortK, List.length_mergeSort]
    exact Nat.le_of_lt f.stand
  · have := v.links _ (aget_some ex)
    simp only at this
    simp [Th.rows, this, sortK]
end
section
variable {c : Cs} {a : Nat → Addr} {ad : Addr} {T : Nat} {hs : Nat → Hv} {A : Ah}
theorem up_old {A : Ah} {a b : Addr} {x y : Cell} (ha : A a = some x) (hb : A b = none) : up A b y a = some x := by
  rw [up_ne fun e => by subst e; rw [hb] at ha; cases ha]
  exact ha
theorem Sd.new {b : Addr} {z : Cell} (S : Sd c a ad T hs A) (hb : A b = none) : Sd c a ad T hs (up A b z) := by
  obtain ⟨xs, dx, hA⟩ := S.dc
  exact ⟨S.H.ext (Ext.new hb), ⟨xs, dx, by rw [up_ne fun e => by subst e; rw [hb] at hA; cases hA]; exact hA⟩, S.iv⟩
theorem LC.new {rr : Nat → Addr} {ls : Nat → List Lt} {b : Addr} {z : Cell} (L : LC rr ls A) (hb : A b = none) : LC rr ls (up A b z) := fun j hj => by
  rw [up_ne fun e => by have := L j hj; rw [e, hb] at this; cases this]
  exact L j hj
theorem asked1 {d : WD} {j : Nat} {x0 x1 x3 x4 x5 x6 x7 x8 x9 x10 x11 x12 x13 x15 x16 x17 : Option U} (hj : j < 4) (hT : T ≤ 50) (S : Sd c a ad T hs A)
    (k : ∀ A' z15, Sd c a ad T hs A' → d.nx (R18 x0 x1 (some (.lst [.ref (a 0), .ref (a 1), .ref (a 2), .ref (a 3)])) x3 x4 x5 x6 x7 x8 x9 x10 x11 x12 x13 (some (.d (.int j))) z15 x16 x17) A') :
    (sFor (iAny (wTup (wCons (wMeth c.House "things" (p_House_things c) (wBin wIx (wVar 2) (wVar 14)) wNil) (wCons (wMeth c.House "answers" (p_House_answers c) (wBin wIx (wVar 2) (wVar 14)) wNil) (wCons (wMeth c.House "notes" (p_House_notes c) (wBin wIx (wVar 2) (wVar 14)) wNil) wNil))))) (gNm 15) (sExpr (wMt "list" mAppend (wVar 15) (uCons (wC (.int 7)) uNil)))) d (R18 x0 x1 (some (.lst [.ref (a 0), .ref (a 1), .ref (a 2), .ref (a 3)])) x3 x4 x5 x6 x7 x8 x9 x10 x11 x12 x13 (some (.d (.int j))) x15 x16 x17) A := by
  have e4 : atI [D.ref (a 0), .ref (a 1), .ref (a 2), .ref (a 3)] (j : Int) = some (.ref (a j)) := by
    match j, hj with
    | 0, _ => rfl
    | 1, _ => rfl
    | 2, _ => rfl
    | 3, _ => rfl
  have E : ∀ x15 A1, Ev (wBin wIx (wVar 2) (wVar 14)) (R18 x0 x1 (some (.lst [.ref (a 0), .ref (a 1), .ref (a 2), .ref (a 3)])) x3 x4 x5 x6 x7 x8 x9 x10 x11 x12 x13 (some (.d (.int j))) x15 x16 x17) A1 (.ref (a j)) := fun x15 A1 => ev_ixLoc (i := 2) rfl (ev_var (i := 14) (x := .int j) rfl) e4
  have v := S.iv (j / 2) (by omega)
  refine for_ok (tup_cons_it (ask_things (S.H j hj) v hT (E _ _) fun xs hx _ _ => esc_lst [5] fun b0 n0 => ?_))
  have S0 := S.new (z := ⟨⟨9, [5]⟩, .lst xs⟩) n0
  refine cons_ok (ask_answers (S0.H j hj) v hT (E _ _) fun ys hy => esc_lst [6] fun b1 n1 => ?_)
  have S1 := S0.new (z := ⟨⟨9, [6]⟩, .lst ys⟩) n1
  refine cons_ok (ask_notes (S1.H j hj) v (E _ _) fun zs hz => esc_lst [7] fun b2 n2 => ?_)
  have S2 := S1.new (z := ⟨⟨9, [7]⟩, .lst zs⟩) n2
  refine ⟨by simp; decide, ?_⟩
  have c0 : up (up (up A b0 ⟨⟨9, [5]⟩, .lst xs⟩) b1 ⟨⟨9, [6]⟩, .lst ys⟩) b2 ⟨⟨9, [7]⟩, .lst zs⟩ b0 = some ⟨⟨9, [5]⟩, .lst xs⟩ := up_old (up_old up_same n1) n2
  have c1 : up (up (up A b0 ⟨⟨9, [5]⟩, .lst xs⟩) b1 ⟨⟨9, [6]⟩, .lst ys⟩) b2 ⟨⟨9, [7]⟩, .lst zs⟩ b1 = some ⟨⟨9, [6]⟩, .lst ys⟩ := up_old up_same n2
  have c2 : up (up (up A b0 ⟨⟨9, [5]⟩, .lst xs⟩) b1 ⟨⟨9, [6]⟩, .lst ys⟩) b2 ⟨⟨9, [7]⟩, .lst zs⟩ b2 = some ⟨⟨9, [7]⟩, .lst zs⟩ := up_same
  generalize up (up (up A b0 ⟨⟨9, [5]⟩, .lst xs⟩) b1 ⟨⟨9, [6]⟩, .lst ys⟩) b2 ⟨⟨9, [7]⟩, .lst zs⟩ = A2 at *
  refine ⟨trivial, nm_ok (appRef (ev_var (i := 15) (x := .ref b0) rfl) ev_c c0 hx ?_)⟩
  refine ⟨trivial, nm_ok (appRef (ev_var (i := 15) (x := .ref b1) rfl) ev_c (up_otherT c1 c0 (by simp)) hy ?_)⟩
  have S3 := S2.put (z := .lst (xs ++ [.int 7])) c0 (by decide)
  have S4 := S3.put (z := .lst (ys ++ [.int 7])) (up_otherT (z := ⟨⟨9, [5]⟩, .lst (xs ++ [.int 7])⟩) c1 c0 (by simp)) (by decide)
  have c3 := up_otherT (z := ⟨⟨9, [6]⟩, .lst (ys ++ [.int 7])⟩) (up_otherT (z := ⟨⟨9, [5]⟩, .lst (xs ++ [.int 7])⟩) c2 c0 (by simp)) (up_otherT (z := ⟨⟨9, [5]⟩, .lst (xs ++ [.int 7])⟩) c1 c0 (by simp)) (by simp)
  refine ⟨trivial, nm_ok (appRef (ev_var (i := 15) (x := .ref b2) rfl) ev_c c3 hz ?_)⟩
  exact ⟨trivial, k _ _ (S4.put c3 (by decide))⟩
theorem asked_ok {d : WD} {x0 x1 x3 x4 x5 x6 x7 x8 x9 x10 x11 x12 x13 x14 x15 x16 x17 : Option U} (hT : T ≤ 50) (S : Sd c a ad T hs A)
    (k : ∀ A' z14 z15, Sd c a ad T hs A' → d.nx (R18 x0 x1 (some (.lst [.ref (a 0), .ref (a 1), .ref (a 2), .ref (a 3)])) x3 x4 x5 x6 x7 x8 x9 x10 x11 x12 x13 z14 z15 x16 x17) A') :
    w11_asked c d (R18 x0 x1 (some (.lst [.ref (a 0), .ref (a 1), .ref (a 2), .ref (a 3)])) x3 x4 x5 x6 x7 x8 x9 x10 x11 x12 x13 x14 x15 x16 x17) A :=
  for_ok (tup_it (eva_cons ev_c (eva_cons ev_c eva_nil)) le2 ⟨trivial, nm_ok (asked1 (j := 1) (by decide) hT S fun A1 z15 S1 => ⟨trivial, nm_ok (asked1 (j := 3) (by decide) hT S1 fun A2 y15 S2 => ⟨trivial, k _ _ _ S2⟩)⟩)⟩)
theorem cmp1 {d : WD} {j : Nat} {x0 x1 x3 x4 x5 x6 x7 x8 x9 x10 x11 x12 x13 x15 x16 x17 : Option U} (hj : j = 0 ∨ j = 2) (hT : T ≤ 50) (S : Sd c a ad T hs A)
    (k : d.nx (R18 x0 x1 (some (.lst [.ref (a 0), .ref (a 1), .ref (a 2), .ref (a 3)])) x3 x4 x5 x6 x7 x8 x9 x10 x11 x12 x13 (some (.d (.int j))) x15 x16 x17) A) :
    (sIf (tOr (tB (wBin (wEqB true) (wMeth c.House "table" (p_House_table c) (wBin wIx (wVar 2) (wVar 14)) wNil) (wMeth c.House "table" (p_House_table c) (wBin wIx (wVar 2) (wBin wAdd (wVar 14) (wC (.int 1)))) wNil))) (tB (wBin (wEqB true) (wMeth c.House "things" (p_House_things c) (wBin wIx (wVar 2) (wVar 14)) wNil) (wMeth c.House "things" (p_House_things c) (wBin wIx (wVar 2) (wBin wAdd (wVar 14) (wC (.int 1)))) wNil)))) (sRet (wC (.bl false))) sNil) d (R18 x0 x1 (some (.lst [.ref (a 0), .ref (a 1), .ref (a 2), .ref (a 3)])) x3 x4 x5 x6 x7 x8 x9 x10 x11 x12 x13 (some (.d (.int j))) x15 x16 x17) A := by
  have e4 : atI [D.ref (a 0), .ref (a 1), .ref (a 2), .ref (a 3)] (j : Int) = some (.ref (a j)) := by rcases hj with rfl | rfl <;> rfl
  have e5 : atI [D.ref (a 0), .ref (a 1), .ref (a 2), .ref (a 3)] ((j : Int) + 1) = some (.ref (a (j + 1))) := by rcases hj with rfl | rfl <;> rfl
  have E : Ev (wBin wIx (wVar 2) (wVar 14)) (R18 x0 x1 (some (.lst [.ref (a 0), .ref (a 1), .ref (a 2), .ref (a 3)])) x3 x4 x5 x6 x7 x8 x9 x10 x11 x12 x13 (some (.d (.int j))) x15 x16 x17) A (.ref (a j)) := ev_ixLoc (i := 2) rfl (ev_var (i := 14) (x := .int j) rfl) e4
  have E' : Ev (wBin wIx (wVar 2) (wBin wAdd (wVar 14) (wC (.int 1)))) (R18 x0 x1 (some (.lst [.ref (a 0), .ref (a 1), .ref (a 2), .ref (a 3)])) x3 x4 x5 x6 x7 x8 x9 x10 x11 x12 x13 (some (.d (.int j))) x15 x16 x17) A (.ref (a (j + 1))) := ev_ixLoc (i := 2) rfl (ev_add (ev_var (i := 14) (x := .int j) rfl) ev_c) e5
  have ej : (j + 1) / 2 = j / 2 := by rcases hj with rfl | rfl <;> rfl
  have v := S.iv (j / 2) (by omega)
  have r0 := S.H j (by omega)
  have r1 := S.H (j + 1) (by omega)
  simp only [ej] at r1
  refine if_ok (or_ok (tB_ok (bin_ok (ask_table r0 v hT E (ask_table r1 v hT E' (eq_nice (nice_tableI v hT) (by decide) ⟨_, rfl, ?_⟩))))))
  simp only [Bool.not_true, Bool.false_eq_true, if_false]
  refine tB_ok (bin_ok (ask_things r0 v hT E fun xs hx hn ex => ask_things r1 v hT E' fun ys hy _ ey => ?_))
  rw [← ex] at ey
  subst ey
  refine eq_lists (m := 2) rfl rfl hn (by decide) ⟨_, rfl, ?_⟩
  simp only [Bool.not_true, Bool.false_eq_true, if_false]
  exact k
theorem cmp_ok {d : WD} {x0 x1 x3 x4 x5 x6 x7 x8 x9 x10 x11 x12 x13 x14 x15 x16 x17 : Option U} (hT : T ≤ 50) (S : Sd c a ad T hs A)
    (k : ∀ z14, d.nx (R18 x0 x1 (some (.lst [.ref (a 0), .ref (a 1), .ref (a 2), .ref (a 3)])) x3 x4 x5 x6 x7 x8 x9 x10 x11 x12 x13 z14 x15 x16 x17) A) :
    w11_cmp c d (R18 x0 x1 (some (.lst [.ref (a 0), .ref (a 1), .ref (a 2), .ref (a 3)])) x3 x4 x5 x6 x7 x8 x9 x10 x11 x12 x13 x14 x15 x16 x17) A :=
  for_ok (tup_it (eva_cons ev_c (eva_cons ev_c eva_nil)) le2 ⟨trivial, nm_ok (cmp1 (j := 0) (.inl rfl) hT S ⟨trivial, nm_ok (cmp1 (j := 2) (.inr rfl) hT S ⟨trivial, k _⟩)⟩)⟩)
end
end Dn

namespace Dn
open PySem L2 PyProof.Rows PySem.W
section
variable {c : Cs} {a : Nat → Addr} {ad : Addr} {T : Nat} {hs : Nat → Hv} {A : Ah} {ρ : Rho} {k : K1} {te : WE}
theorem mk_house {ta : WA} {n : Int} (i : Nat) (hn : n = 0 ∨ n = 1) (E : EvA ta ρ A [.int n, .int 2]) (q : ∀ b A', House c i b (Hv.new n 2) A' → Ext A A' → k (.d (.ref b)) ρ A') : wMake c.House (p_House_init c) ta ρ A k :=
  E _ ⟨⟨i, Pt.house.code⟩, fun b hb => house_init_ok hb (by rcases hn with rfl | rfl <;> decide) fun A' r e => ⟨rfl, q b A' r e⟩⟩
theorem ask_turn {j : Nat} {h : Hv} {n : Int} {b : Addr} (r : House c j b h A) (v : Inv T n h) (hT : T ≤ 50) (ho : Ev te ρ A (.ref b)) (q : k (.lst (h.letters.map eLt)) ρ A) : wMeth c.House "turn" (p_House_turn c) te wNil ρ A k := by
  obtain ⟨l, e⟩ := r.at
  exact methEv ho e lkH_m_turn eva_nil (op_turn r (v.wf (by omega)) q)
theorem turn_body {d : WD} {tn : Nat} {x0 x4 x5 x6 x7 x8 x9 x10 x11 x12 x13 x14 x15 x16 x17 : Option U} (hT : T ≤ 45) (ht : tn < 100) (S : Sd c a ad T hs A)
    (k : ∀ A' hs' z4 z5 z6 z7 z8 z9 z10 z11 z12 z13 z14 z15 z16 z17, Sd c a ad (T + 1) hs' A' → d.nx (R18 x0 (some (.d (.ref ad))) (some (.lst [.ref (a 0), .ref (a 1), .ref (a 2), .ref (a 3)])) (some (.d (.int (0 + (tn : Int))))) z4 z5 z6 z7 z8 z9 z10 z11 z12 z13 z14 z15 z16 z17) A') :
    (sSeq (sSet 4 (wFn (p_law_off c) (wCons (wVar 1) (wCons (wC (.int 2)) wNil)))) (sSeq (sPar 5 6 (wCons (wBin wIx (wVar 2) (wBin (wI2 CMul fun i j => i * j) (wC (.int 2)) (wVar 4))) (wCons (wBin wIx (wVar 2) (wBin wAdd (wBin (wI2 CMul fun i j => i * j) (wC (.int 2)) (wVar 4)) (wC (.int 1)))) wNil))) (sSeq (sSet 7 (wLc (iAny (wBin wIx (wMeth c.House "table" (p_House_table c) (wVar 5) wNil) (wC (.int 0)))) (gNm 16) wYes (wBin wIx (wVar 16) (wC (.int 0))) [16])) (sSeq (sSet 8 (wFn (p_law_off c) (wCons (wVar 1) (wCons (wC (.int 5)) wNil)))) (sSeq (sIf (tOr (tB (wBin (wEqB false) (wVar 7) (wLst wNil))) (tB (wBin (wEqB false) (wVar 8) (wC (.int 0))))) (sSet 9 (wLc (iAny (wTup (wCons (wVar 5) (wCons (wVar 6) wNil)))) (gNm 17) wYes (wMeth c.House "make" (p_House_make c) (wVar 17) (wCons (wVar 3) wNil)) [17])) (sSeq (sSet 10 (wBin wIx (wVar 7) (wFn (p_law_off c) (wCons (wVar 1) (wCons (wCall wLen (uCons (wVar 7) uNil)) wNil))))) (sIf (tB (wBin (wEqB false) (wVar 8) (wC (.int 1)))) (sSet 9 (wLc (iAny (wTup (wCons (wVar 5) (wCons (wVar 6) wNil)))) (gNm 17) wYes (wMeth c.House "give" (p_House_give c) (wVar 17) (wCons (wVar 10) (wCons (wBin (wI0 fun i j => i - j) (wC (.int 1)) (wVar 4)) wNil))) [17])) (sIf (tB (wBin (wEqB false) (wVar 8) (wC (.int 2)))) (sSet 9 (wLc (iAny (wTup (wCons (wVar 5) (wCons (wVar 6) wNil)))) (gNm 17) wYes (wMeth c.House "drop" (p_House_drop c) (wVar 17) (wCons (wVar 10) wNil)) [17])) (sSet 9 (wLc (iAny (wTup (wCons (wVar 5) (wCons (wVar 6) wNil)))) (gNm 17) wYes (wMeth c.House "call" (p_House_call c) (wVar 17) (wCons (wVar 10) (wCons (wC (.int 3)) wNil))) [17])))))) (sSeq (sIf (tNot (tB (wFn (p_law_alike c) (wCons (wBin wIx (wVar 9) (wC (.int 0))) (wCons (wBin wIx (wVar 9) (wC (.int 1))) wNil))))) (sRet (wC (.bl false))) sNil) (sSeq (sSet 11 (wLc (iRange1 (wCons (wC (.int 4)) wNil)) (gNm 14) wYes (wMeth c.House "turn" (p_House_turn c) (wBin wIx (wVar 2) (wVar 14)) wNil) [14])) (sSeq (sIf (tOr (tB (wBin (wEqB true) (wBin wIx (wVar 11) (wC (.int 0))) (wBin wIx (wVar 11) (wC (.int 1))))) (tB (wBin (wEqB true) (wBin wIx (wVar 11) (wC (.int 2))) (wBin wIx (wVar 11) (wC (.int 3)))))) (sRet (wC (.bl false))) sNil) (sSeq (sFor (iAny (wBin wIx (wVar 11) (wBin (wI2 CMul fun i j => i * j) (wC (.int 2)) (wVar 4)))) (gNm 12) (sSeq (sSet 13 (wLc (iAny (wSlice wCut (wVar 2) (oSome (wBin (wI2 CMul fun i j => i * j) (wC (.int 2)) (wBin wIx (wVar 12) (wC (.int 0))))) (oSome (wBin wAdd (wBin (wI2 CMul fun i j => i * j) (wC (.int 2)) (wBin wIx (wVar 12) (wC (.int 0)))) (wC (.int 2)))))) (gNm 17) wYes (wMeth c.House "bring" (p_House_bring c) (wVar 17) (wCons (wVar 12) wNil)) [17])) (sSeq (sIf (tB (wBin (wEqB true) (wBin wIx (wVar 13) (wC (.int 0))) (wBin wIx (wVar 13) (wC (.int 1))))) (sRet (wC (.bl false))) sNil) (sExpr (wMt "list" mClear (wBin wIx (wVar 13) (wC (.int 1))) uNil))))) (sSeq (sExpr (wMt "list" mClear (wBin wIx (wVar 11) (wC (.int 1))) uNil)) (sSeq (sExpr (wMt "list" mAppend (wBin wIx (wVar 11) (wC (.int 3))) (uCons (wTup wNil) uNil))) (sSeq (sFor (iAny (wTup (wCons (wC (.int 1)) (wCons (wC (.int 3)) wNil)))) (gNm 14) (sFor (iAny (wTup (wCons (wMeth c.House "things" (p_House_things c) (wBin wIx (wVar 2) (wVar 14)) wNil) (wCons (wMeth c.House "answers" (p_House_answers c) (wBin wIx (wVar 2) (wVar 14)) wNil) (wCons (wMeth c.House "notes" (p_House_notes c) (wBin wIx (wVar 2) (wVar 14)) wNil) wNil))))) (gNm 15) (sExpr (wMt "list" mAppend (wVar 15) (uCons (wC (.int 7)) uNil))))) (sFor (iAny (wTup (wCons (wC (.int 0)) (wCons (wC (.int 2)) wNil)))) (gNm 14) (sIf (tOr (tB (wBin (wEqB true) (wMeth c.House "table" (p_House_table c) (wBin wIx (wVar 2) (wVar 14)) wNil) (wMeth c.House "table" (p_House_table c) (wBin wIx (wVar 2) (wBin wAdd (wVar 14) (wC (.int 1)))) wNil))) (tB (wBin (wEqB true) (wMeth c.House "things" (p_House_things c) (wBin wIx (wVar 2) (wVar 14)) wNil) (wMeth c.House "things" (p_House_things c) (wBin wIx (wVar 2) (wBin wAdd (wVar 14) (wC (.int 1)))) wNil)))) (sRet (wC (.bl false))) sNil)))))))))))))) d (R18 x0 (some (.d (.ref ad))) (some (.lst [.ref (a 0), .ref (a 1), .ref (a 2), .ref (a 3)])) (some (.d (.int (0 + (tn : Int))))) x4 x5 x6 x7 x8 x9 x10 x11 x12 x13 x14 x15 x16 x17) A := by
  refine seq_ok (set_ok (fnEv (eva_cons (ev_var (i := 1) (x := .ref ad) rfl) (eva_cons ev_c eva_nil)) (S.dice ⟨by decide, by decide⟩ fun r A1 r0 r1 S1 _ => ?_)))
  obtain ⟨s, rfl⟩ := Int.eq_ofNat_of_zero_le r0
  have hs2 : s < 2 := by omega
  have ea : atI [D.ref (a 0), .ref (a 1), .ref (a 2), .ref (a 3)] (2 * (s : Int)) = some (.ref (a (2 * s))) := by
    match s, hs2 with
    | 0, _ => rfl
    | 1, _ => rfl
  have eb : atI [D.ref (a 0), .ref (a 1), .ref (a 2), .ref (a 3)] (2 * (s : Int) + 1) = some (.ref (a (2 * s + 1))) := by
    match s, hs2 with
    | 0, _ => rfl
    | 1, _ => rfl
  dsimp only [setV]
  refine seq_ok (eva_cons (ev_ixLoc (i := 2) rfl (ev_i2 ev_c (ev_var (i := 4) (x := .int s) rfl) (.inl (by decide))) ea) (eva_cons (ev_ixLoc (i := 2) rfl (ev_add (ev_i2 ev_c (ev_var (i := 4) (x := .int s) rfl) (.inl (by decide))) ev_c) eb) eva_nil) _ ⟨_, _, rfl, ?_⟩)
  dsimp only
  have v := S1.iv s hs2
  have rh := S1.H (2 * s) (by omega)
  have e1 : (2 * s) / 2 = s := by omega
  simp only [e1] at rh
  refine seq_ok (setLc_ok (it_any (bin_ok (ask_table rh v (by omega) (ev_var (i := 5) (x := .ref (a (2 * s))) rfl) ?_))))
  refine (wIx_tup _ _).mpr ⟨.tup ((hs s).tabUnits.map eHC), by simp [atI, ixN], ?_⟩
  refine lcGo_all (ρ := R18 x0 (some (.d (.ref ad))) (some (.lst [.ref (a 0), .ref (a 1), .ref (a 2), .ref (a 3)])) (some (.d (.int (0 + (tn : Int))))) (some (.d (.int s))) (some (.d (.ref (a (2 * s))))) (some (.d (.ref (a (2 * s + 1))))) x7 x8 x9 x10 x11 x12 x13 x14 x15 none x17) (F := fun p => eH p.1) trivial (fun p => R18 x0 (some (.d (.ref ad))) (some (.lst [.ref (a 0), .ref (a 1), .ref (a 2), .ref (a 3)])) (some (.d (.int (0 + (tn : Int))))) (some (.d (.int s))) (some (.d (.ref (a (2 * s))))) (some (.d (.ref (a (2 * s + 1))))) x7 x8 x9 x10 x11 x12 x13 x14 x15 (some (.d (eHC p))) x17) _ (fun p hp => ⟨rfl, fun Kt Kf q => nm_ok (yes_ok ?_)⟩) ?_
  · exact ev_ixT (xs := [eH p.1, .int p.2]) (ev_var (i := 16) rfl) (by simp [atI, ixN]) _ q
  have em : (hs s).tabUnits.map (fun p => eH p.1) = ((hs s).tabUnits.map (·.1)).map eH := by rw [List.map_map]; rfl
  rw [em]
  dsimp only
  refine seq_ok (set_ok (fnEv (eva_cons (ev_var (i := 1) (x := .ref ad) rfl) (eva_cons ev_c eva_nil)) (S1.dice ⟨by decide, by decide⟩ fun r A2 _ _ S2 _ => ?_)))
  dsimp only [setV]
  refine seq_ok (deed_ok hs2 hT S2 (by omega) fun A3 hs3 y0 y1 z10 z17 S3 tw => ?_)
  dsimp only
  refine seq_ok (if_ok (not_ok (tB_ok (fnEv (eva_cons (ev_ixLoc (i := 9) rfl ev_c (by rfl)) (eva_cons (ev_ixLoc (i := 9) rfl ev_c (by rfl)) eva_nil)) (alike_ok 8 _ _ _ tw ⟨_, rfl, ?_⟩)))))
  simp only [Bool.not_true, Bool.false_eq_true, if_false]
  dsimp only [sNil]
  -- letters
  have e4 : ∀ j : Nat, j < 4 → atI [D.ref (a 0), .ref (a 1), .ref (a 2), .ref (a 3)] (0 + (j : Int)) = some (.ref (a j)) := fun j hj => by
    match j, hj with
    | 0, _ => rfl
    | 1, _ => rfl
    | 2, _ => rfl
    | 3, _ => rfl
  have w : ∀ j, j < 4 → Inv (T + 1) ((j / 2 : Nat) : Int) (hs3 (j / 2)) := fun j hj => S3.iv (j / 2) (by omega)
  refine seq_ok (setLc_ok (it_r1 ev_c (by decide) (by decide) ?_))
  refine ⟨trivial, nm_ok (yes_ok (ask_turn (S3.H 0 (by decide)) (w 0 (by decide)) (by omega) (ev_ixLoc (i := 2) rfl (ev_var (i := 14) (x := .int (0 + ((0 : Nat) : Int))) rfl) (e4 0 (by decide))) (esc_lst [2, 0] fun r0 n0 => ?_)))⟩
  have T0 := S3.new (z := ⟨⟨9, [2, 0]⟩, .lst ((hs3 (0 / 2)).letters.map eLt)⟩) n0
  refine ⟨trivial, nm_ok (yes_ok (ask_turn (T0.H 1 (by decide)) (w 1 (by decide)) (by omega) (ev_ixLoc (i := 2) rfl (ev_var (i := 14) (x := .int (0 + ((1 : Nat) : Int))) rfl) (e4 1 (by decide))) (esc_lst [2, 1] fun r1 n1 => ?_)))⟩
  have T1 := T0.new (z := ⟨⟨9, [2, 1]⟩, .lst ((hs3 (1 / 2)).letters.map eLt)⟩) n1
  refine ⟨trivial, nm_ok (yes_ok (ask_turn (T1.H 2 (by decide)) (w 2 (by decide)) (by omega) (ev_ixLoc (i := 2) rfl (ev_var (i := 14) (x := .int (0 + ((2 : Nat) : Int))) rfl) (e4 2 (by decide))) (esc_lst [2, 2] fun r2 n2 => ?_)))⟩
  have T2 := T1.new (z := ⟨⟨9, [2, 2]⟩, .lst ((hs3 (2 / 2)).letters.map eLt)⟩) n2
  refine ⟨trivial, nm_ok (yes_ok (ask_turn (T2.H 3 (by decide)) (w 3 (by decide)) (by omega) (ev_ixLoc (i := 2) rfl (ev_var (i := 14) (x := .int (0 + ((3 : Nat) : Int))) rfl) (e4 3 (by decide))) (esc_lst [2, 3] fun r3 n3 => ?_)))⟩
  have T3 := T2.new (z := ⟨⟨9, [2, 3]⟩, .lst ((hs3 (3 / 2)).letters.map eLt)⟩) n3
  have L : LC (fun j => match j with | 0 => r0 | 1 => r1 | 2 => r2 | _ => r3) (fun j => (hs3 (j / 2)).letters) _ := fun j hj => (by
    match j, hj with
    | 0, _ => exact up_old (up_old (up_old up_same n1) n2) n3
    | 1, _ => exact up_old (up_old up_same n2) n3
    | 2, _ => exact up_old up_same n3
    | 3, _ => exact up_same : (up (up (up (up A3 r0 ⟨⟨9, [2, 0]⟩, .lst ((hs3 (0 / 2)).letters.map eLt)⟩) r1 ⟨⟨9, [2, 1]⟩, .lst ((hs3 (1 / 2)).letters.map eLt)⟩) r2 ⟨⟨9, [2, 2]⟩, .lst ((hs3 (2 / 2)).letters.map eLt)⟩) r3 ⟨⟨9, [2, 3]⟩, .lst ((hs3 (3 / 2)).letters.map eLt)⟩) _ = _)
  generalize (up (up (up (up A3 r0 ⟨⟨9, [2, 0]⟩, .lst ((hs3 (0 / 2)).letters.map eLt)⟩) r1 ⟨⟨9, [2, 1]⟩, .lst ((hs3 (1 / 2)).letters.map eLt)⟩) r2 ⟨⟨9, [2, 2]⟩, .lst ((hs3 (2 / 2)).letters.map eLt)⟩) r3 ⟨⟨9, [2, 3]⟩, .lst ((hs3 (3 / 2)).letters.map eLt)⟩) = A4 at *
  have l0 : A4 r0 = some ⟨⟨9, [2, 0]⟩, .lst ((hs3 0).letters.map eLt)⟩ := L 0 (by decide)
  have l1 : A4 r1 = some ⟨⟨9, [2, 1]⟩, .lst ((hs3 0).letters.map eLt)⟩ := L 1 (by decide)
  have l2 : A4 r2 = some ⟨⟨9, [2, 2]⟩, .lst ((hs3 1).letters.map eLt)⟩ := L 2 (by decide)
  have l3 : A4 r3 = some ⟨⟨9, [2, 3]⟩, .lst ((hs3 1).letters.map eLt)⟩ := L 3 (by decide)
  refine ⟨trivial, ?_⟩
  dsimp only
  refine seq_ok (if_ok (or_ok (tB_ok (bin_ok (ev_ixLoc (i := 11) rfl ev_c (x := .ref r0) (by rfl) _ (ev_ixLoc (i := 11) rfl ev_c (x := .ref r1) (by rfl) _ (eq_lists (m := 3) (xs := (hs3 0).letters.map eLt) (by simp [lstOf, obOf, l0]) (by simp [lstOf, obOf, l1]) (nice_lts 0) (by decide) ⟨_, rfl, ?_⟩)))))))
  simp only [Bool.not_true, Bool.false_eq_true, if_false]
  refine tB_ok (bin_ok (ev_ixLoc (i := 11) rfl ev_c (x := .ref r2) (by rfl) _ (ev_ixLoc (i := 11) rfl ev_c (x := .ref r3) (by rfl) _ (eq_lists (m := 3) (xs := (hs3 1).letters.map eLt) (by simp [lstOf, obOf, l2]) (by simp [lstOf, obOf, l3]) (nice_lts 0) (by decide) ⟨_, rfl, ?_⟩))))
  simp only [Bool.not_true, Bool.false_eq_true, if_false]
  dsimp only [sNil]
  have gd : ∀ x ∈ (hs3 ((2 * s) / 2)).letters, Good (T + 1) s x := by rw [e1]; exact (S3.iv s hs2).good
  refine seq_ok (told_ok (rr := fun j => match j with | 0 => r0 | 1 => r1 | 2 => r2 | _ => r3) (ls := fun j => (hs3 (j / 2)).letters) hs2 (by omega) T3 L gd (fun j hj => lts_len (w j hj) (by omega)) fun A5 hs5 z12 z13 y17 S5 L5 => ?_)
  dsimp only
  refine seq_ok (expr_ok (clearE (ev_ixLoc (i := 11) rfl ev_c (x := .ref r1) (by rfl)) (L5 1 (by decide)) ?_))
  have S6 := S5.put (z := .lst []) (L5 1 (by decide)) (by decide)
  have c3 := up_otherT (z := ⟨⟨9, [2, ((1 : Nat) : Int)]⟩, .lst []⟩) (L5 3 (by decide)) (L5 1 (by decide)) (by simp)
  dsimp only
  refine seq_ok (appRef (ev_ixLoc (i := 11) rfl ev_c (x := .ref r3) (by rfl)) (ev_tup eva_nil (Nat.zero_le _)) c3 ?_ ?_)
  · have := lts_len (w 3 (by decide)) (by omega)
    have h2 := ((w 3 (by decide)).wf (by omega)).lets
    have h3 := List.length_filter_le (fun p => !decide (p.1 ∈ (hs3 (3 / 2)).busy)) (hs3 (3 / 2)).drops
    simp only [Hv.letters, List.length_append, List.length_map, sortK, List.length_mergeSort] at h2 h3 ⊢
    omega
  have S7 := S6.put (z := .lst ((hs3 (3 / 2)).letters.map eLt ++ [.tup []])) c3 (by decide)
  dsimp only
  refine seq_ok (asked_ok (by omega) S7 fun A8 z14 z15 S8 => ?_)
  dsimp only
  exact cmp_ok (by omega) S8 fun z14 => k _ _ _ _ _ _ _ _ _ _ _ _ _ _ _ _ S8
theorem law_ok {K0 : PySem.W.Frag} {sa : Addr} {ns : List Int} {K : U → Ah → Prop} (hsc : scrIs K0 A sa ns) (hl : ns.length ≤ 63) (k : ∀ A', K (.d (.bl true)) A') : p_law c K0 [.ref sa] A K := by
  refine ⟨rfl, seq_ok (set_ok (fnEv (eva_cons (ev_var (i := 0) (x := .ref sa) rfl) (eva_cons ev_c eva_nil)) (dice_ok hsc hl (by decide) (by decide) ?_)))⟩
  dsimp only [setV]
  have hd := dice_dice (ns := ns) (k := 0) (by decide) (by decide) hl
  generalize dice ns 0 = ds at *
  refine seq_ok (setLc_ok (it_r1 ev_c (by decide) (by decide) ?_))
  refine ⟨trivial, nm_ok (yes_ok (mk_house (n := 0) 0 (.inl rfl) (eva_cons (ev_i2 (x := 0 + ((0 : Nat) : Int)) (y := 2) (ev_var (i := 14) rfl) ev_c ⟨by decide, by decide⟩) (eva_cons ev_c eva_nil)) fun b0 A0 r0 e0 => ?_))⟩
  refine ⟨trivial, nm_ok (yes_ok (mk_house (n := 0) 1 (.inl rfl) (eva_cons (ev_i2 (x := 0 + ((1 : Nat) : Int)) (y := 2) (ev_var (i := 14) rfl) ev_c ⟨by decide, by decide⟩) (eva_cons ev_c eva_nil)) fun b1 A1 r1 e1 => ?_))⟩
  refine ⟨trivial, nm_ok (yes_ok (mk_house (n := 1) 2 (.inr rfl) (eva_cons (ev_i2 (x := 0 + ((2 : Nat) : Int)) (y := 2) (ev_var (i := 14) rfl) ev_c ⟨by decide, by decide⟩) (eva_cons ev_c eva_nil)) fun b2 A2 r2 e2 => ?_))⟩
  refine ⟨trivial, nm_ok (yes_ok (mk_house (n := 1) 3 (.inr rfl) (eva_cons (ev_i2 (x := 0 + ((3 : Nat) : Int)) (y := 2) (ev_var (i := 14) rfl) ev_c ⟨by decide, by decide⟩) (eva_cons ev_c eva_nil)) fun b3 A3 r3 e3 => ?_))⟩
  have H : H4 c (fun j => match j with | 0 => b0 | 1 => b1 | 2 => b2 | _ => b3) (fun j => Hv.new ((j / 2 : Nat) : Int) 2) A3 := fun j hj => by
    have ex : ∀ {i b h B B'}, House c i b h B → Ext B B' → House c i b h B' := fun ⟨l, e, r⟩ x => ⟨l, e, r.ext x⟩
    match j, hj with
    | 0, _ => exact ex (ex (ex r0 e1) e2) e3
    | 1, _ => exact ex (ex r1 e2) e3
    | 2, _ => exact ex r2 e3
    | 3, _ => exact r3
  refine ⟨trivial, ?_⟩
  dsimp only
  refine seq_ok (for_ok ?_)
  refine ⟨_, rfl, _, rfl, ⟨9, [0]⟩, fun ad nd => ?_⟩
  have S0 : Sd c (fun j => match j with | 0 => b0 | 1 => b1 | 2 => b2 | _ => b3) ad 0 (fun j => Hv.new (j : Int) 2) (up A3 ad ⟨⟨9, [0]⟩, .lst (ds.map D.int)⟩) := ⟨H.ext (Ext.new nd), ⟨ds, hd, up_same⟩, fun s h => Inv.new (by omega)⟩
  refine S0.dice ⟨by decide, by decide⟩ fun r A4 r0 r1 S4 _ => ?_
  have hs50 : (50 : Nat) ≤ sizeLine := by decide
  refine ⟨r, rfl, ⟨by omega, by omega⟩, by omega, ?_⟩
  refine forGo_n (e := fun (i : Nat) => D.int (0 + (i : Int))) (S := Unit) r.toNat (fun n _ ρ A' => ∃ hs z4 z5 z6 z7 z8 z9 z10 z11 z12 z13 z14 z15 z16 z17 z3, Sd c (fun j => match j with | 0 => b0 | 1 => b1 | 2 => b2 | _ => b3) ad n hs A' ∧ ρ = R18 (some (.d (.ref sa))) (some (.d (.ref ad))) (some (.lst [.ref b0, .ref b1, .ref b2, .ref b3])) z3 z4 z5 z6 z7 z8 z9 z10 z11 z12 z13 z14 z15 z16 z17) (fun s _ => s) (fun _ _ _ _ _ => trivial) (List.range r.toNat) 0 () _ A4 (by simp) (fun y hy n _ ρ A' Kx hn ⟨hs, z4, z5, z6, z7, z8, z9, z10, z11, z12, z13, z14, z15, z16, z17, z3, S, eρ⟩ hK => ?_) ⟨_, _, _, _, _, _, _, _, _, _, _, _, _, _, _, _, S4, rfl⟩ fun n ρ A' ⟨hs, z4, z5, z6, z7, z8, z9, z10, z11, z12, z13, z14, z15, z16, z17, z3, S, eρ⟩ => ?_
  · subst eρ
    have hy := List.mem_range.mp hy
    refine nm_ok (turn_body (a := fun j => match j with | 0 => b0 | 1 => b1 | 2 => b2 | _ => b3) (ad := ad) (T := n) (hs := hs) (x0 := some (.d (.ref sa))) (tn := y) (by omega) (by omega) S fun A5 hs5 z4 z5 z6 z7 z8 z9 z10 z11 z12 z13 z14 z15 z16 z17 S5 => hK _ _ ⟨_, _, _, _, _, _, _, _, _, _, _, _, _, _, _, _, S5, rfl⟩)
  · subst eρ
    dsimp only
    exact retE ev_c (k A')
end
end Dn

namespace Dn
open PySem L2 PyProof.Rows PySem.W
/-! ### a law's end -/
def spLaw (K : PySem.W.Frag) : Sp := fun vs H Q _ => ∃ (a : Addr) (ns : List Int), vs = [.ref a] ∧ Only H ∧ SqL K H a (ns.map V.int) ∧ ns.length ≤ 63 ∧ ∀ H', Q (.bl true) H'
theorem rds_ints {H : Hp} : ∀ ns : List Int, RDs H (ns.map D.int) (ns.map V.int)
  | [] => .nil
  | n :: ns => .cons (.int n) (rds_ints ns)
theorem sp_law {lw : SpW} {K : PySem.W.Frag} (hw : ∀ (A : Ah) (a : Addr) (ns : List Int), scrIs K A a ns → ns.length ≤ 63 → lw [.ref a] A fun u _ => u = .d (.bl true)) {vs : List V} {H : Hp} {Q : VK} {E : XK} (h : spLaw K vs H Q E) : toSp lw vs H Q E := by
  obtain ⟨a, ns, rfl, ho, hS, hl, hQ⟩ := h
  have fin : ∀ A : Ah, (∀ b x, A b = some x → RO H (H b) x.ob) → scrIs K A a ns → toSp lw [.ref a] H Q E := fun A hA hs => by
    refine ⟨[.ref a], A, _, hA, .cons (.ref a) .nil, hw A a ns hs hl, fun u A' e v H' o => ?_⟩
    subst e
    have y := o.val
    cases y
    exact hQ H'
  rcases hS with h | h
  · have hf : ∃ od, H a = some (.frz od (.lst (ns.map V.int))) := by
      rcases h with h | h
      · rcases ho a with z | ⟨o, xs, z⟩
        · rw [h] at z; cases z
        · rw [h] at z; cases z
      · exact h
    obtain ⟨od, e⟩ := hf
    refine fin (fun b => if b = a then some ⟨⟨0, []⟩, .scr (ns.map D.int)⟩ else none) (fun b x hb => ?_) (.inr ⟨⟨0, []⟩, if_pos rfl⟩)
    by_cases hba : b = a
    · subst hba
      rw [if_pos rfl] at hb
      cases hb
      exact ⟨od, _, e, rds_ints ns⟩
    · rw [if_neg hba] at hb; cases hb
  · exact fin (fun _ => none) (fun b x hb => by cases hb) (.inl h)
theorem fn_false {P : Program} {w : World} {K : PySem.W.Frag} {mg : Str → Option Value} {base : Heap} {k : Nat} {f : Addr} {fd : FuncData} {ps : List Str} : FnOk P w K mg base CX0 k f fd ps (toSp fun _ _ _ => False) := ⟨fun vs H Q E ⟨_, _, _, _, _, h, _⟩ => h.elim, fun A outer s H args us vs Q E _ _ _ _ ⟨_, _, _, _, _, h, _⟩ => h.elim⟩
theorem walk_law {x : Str} {k : Nat} {pw : Cs → PySem.W.Frag → SpW} {l : PySem.W.OpenLaw} {q : Program} {loose : List Str} {XP : (Str → Option Value) → Heap → Prop} {YP : World → Heap → Prop} {d : DefRec} {K : Params → PySem.W.Frag} (hn : l.most = some 63) (hdf : d.params.defaults = []) (hr : Room k callerA)
    (hw : ∀ (c : Cs) (K : PySem.W.Frag) (A : Ah) (a : Addr) (ns : List Int), scrIs K A a ns → ns.length ≤ 63 → pw c K [.ref a] A fun u _ => u = .d (.bl true))
    (hY : ∀ (w : World) (h : Heap), YP w h → (K w.params).In h)
    (F : ∀ (w : World) (mg : Str → Option Value) (fa : Addr) (h : Heap), (K w.params).In h → h.Ns mainGlobals mg → mg d.name = some (.ref fa) →
      ∃ (fd : FuncData) (c : Cs), (∀ (s : Shared) (u : Value), BindsTo s fd ⟨[u], []⟩ [(x, u)]) ∧ ∀ base : Heap, (K w.params).In base → base.Ns mainGlobals mg → FnOk l.prog w (K w.params) mg base CX0 k fa fd [x] (toSp (pw c (K w.params)))) :
    PySem.W.WalkO q loose XP YP l.row.toRowW d [] (fun f vs => PySem.call f vs) := by
  refine L2.walk_of (n := 63) (k := k) (x := x) (CX := fun _ => CX0) (sp := fun w => spLaw (K w.params)) hn (by decide) hdf hr hY (fun w mg fa h X G hm => ?_) (fun _ _ a ns hl ho hS => ⟨a, ns, rfl, ho, hS, hl, fun _ => rfl⟩) fun _ _ _ _ _ z => z
  obtain ⟨fd, c, hb, hF⟩ := F w mg fa h X G hm
  exact ⟨fd, hb, fun base hX hG => (hF base hX hG).imp fun vs H Q E z => sp_law (hw c (K w.params)) z⟩
end Dn

namespace Dn
open PySem L2 PyProof.Rows PySem.W
abbrev top (i : Nat) : Stmt := PySem.Challenge.pw_deathnotes_k11_lists_told.main.body.getD i (.Pass ⟨0, 0, 0, 0⟩)
structure Tx (K : PySem.W.Frag) (mg : Str → Option Value) (c : Cs) : Prop where
  b_abs : mg "abs" = none
  b_all : mg "all" = none
  b_bool : mg "bool" = none
  b_enumerate : mg "enumerate" = none
  b_int : mg "int" = none
  b_isinstance : mg "isinstance" = none
  b_len : mg "len" = none
  b_list : mg "list" = none
  b_range : mg "range" = none
  b_sorted : mg "sorted" = none
  b_str : mg "str" = none
  b_tuple : mg "tuple" = none
  g_DEAD : ∃ t, mg "DEAD" = some (.str "dead" t)
  g_MOST_HOUSES : ∃ t, mg "MOST_HOUSES" = some (.int 8 t)
  g_MOST_THINGS : ∃ t, mg "MOST_THINGS" = some (.int 100 t)
  g_OWN : ∃ t, mg "OWN" = some (.int 0 t)
  g_WORTHS : ∃ t, mg "WORTHS" = some (.int 1000 t)
  cl_House : Cls K c.House
  cl_Thing : Cls K c.Thing
  cl_Things : Cls K c.Things
  na_House_asked : NoAttr K c.House "asked"
  na_House_asks : NoAttr K c.House "asks"
  na_House_calls : NoAttr K c.House "calls"
  na_House_counts : NoAttr K c.House "counts"
  na_House_dead : NoAttr K c.House "dead"
  na_House_done : NoAttr K c.House "done"
  na_House_drops : NoAttr K c.House "drops"
  na_House_many : NoAttr K c.House "many"
  na_House_number : NoAttr K c.House "number"
  na_House_own : NoAttr K c.House "own"
  na_House_told : NoAttr K c.House "told"
  na_House_units : NoAttr K c.House "units"
  na_House_units_met : NoAttr K c.House "units_met"
  na_House_untold : NoAttr K c.House "untold"
  na_House_watched : NoAttr K c.House "watched"
  na_Thing_links : NoAttr K c.Thing "links"
  na_Thing_worth : NoAttr K c.Thing "worth"
  na_Things_lent : NoAttr K c.Things "lent"
  na_Things_made : NoAttr K c.Things "made"
  na_Things_number : NoAttr K c.Things "number"
  na_Things_own : NoAttr K c.Things "own"
  na_Things_stand : NoAttr K c.Things "stand"
section
variable {P : Program} {w : World} {K : PySem.W.Frag} {mg : Str → Option Value} {base : Heap} {c : Cs}
abbrev st_law_dice : Stmt := top 26
abbrev N_law_dice : List Str := ["_law_script", "_law_k", "_law_found", "_law_cell"]
theorem sc_law_dice : FnScope N_law_dice ["_law_script", "_law_k"] (defScope st_law_dice) := ⟨rfl, rfl, rfl, by decide +kernel, rfl, by decide +kernel, by decide +kernel⟩
theorem fn_law_dice (T : Tx K mg c) {f : Addr} {fd : FuncData} (F : Fun K "_law_dice" "_law_dice" st_law_dice f fd) : FnOk P w K mg base CX0 1 f fd ["_law_script", "_law_k"] (toSp (p_law_dice c K)) :=
  fnW F sc_law_dice fun cdv A outer s H E H0 hr => have S := sc_law_dice; have hu1 := hu_of hr; have hu64 := hu64_of hr; have hu65 := hu65_of hr;
    (s_cons (s_set (i := 2) S.nd (q_var 1))
    (s_cons (s_for PassesOwn.never rfl (i_scr (q_var 0)) (g_nm (i := 3) S.nd)
    (s_one (s_set (i := 2) S.nd (q_mod (q_add (q_mul (q_var 2) q_int) (q_callB call_abs ref_abs T.b_abs (u_cons (q_var 3) u_nil))) q_int))))
    (s_one (s_ret (q_add (q_lst (a_cons (q_var 2) (a_cons q_int a_nil))) (q_lc (own := [("_law_cell", 3)]) rfl S.nd (i_scr (q_var 0)) (blkOk_by (N := N_law_dice) (sc := defScope st_law_dice) (own := [("_law_cell", 3)]) (by decide +kernel)) (fun _ _ _ _ _ => (g_nm (i := 3) S.nd)) (fun _ _ _ _ _ => (ts_one (t_ge hu64 (q_var 3) (q_pow q_int q_int)))) (fun _ _ _ _ _ => (q_var 3))))))))
abbrev st_is_between : Stmt := top 13
abbrev N_is_between : List Str := ["part", "low", "high"]
theorem sc_is_between : FnScope N_is_between ["part", "low", "high"] (defScope st_is_between) := ⟨rfl, rfl, rfl, by decide +kernel, rfl, by decide +kernel, by decide +kernel⟩
theorem fn_is_between (T : Tx K mg c) {f : Addr} {fd : FuncData} (F : Fun K "is_between" "is_between" st_is_between f fd) : FnOk P w K mg base CX0 1 f fd ["part", "low", "high"] (toSp (p_is_between c)) :=
  fnW F sc_is_between fun cdv A outer s H E H0 hr => have S := sc_is_between; have hu1 := hu_of hr; have hu64 := hu64_of hr; have hu65 := hu65_of hr;
    (s_one (s_ret (q_and (q_isi .int T.b_isinstance T.b_int (q_var 0)) (q_and (q_not (q_isi .bl T.b_isinstance T.b_bool (q_var 0))) (q_one (q_chain (op_le.or (op_leD hu64)) (Ref2.or ref_b0 ref_ltD) (op_le.or (op_leD hu64)) (Ref2.or ref_b0 ref_ltD) (q_var 1) (q_var 0) (q_var 2)))))))
abbrev st_need_house : Stmt := top 15
abbrev N_need_house : List Str := ["number", "many"]
theorem sc_need_house : FnScope N_need_house ["number", "many"] (defScope st_need_house) := ⟨rfl, rfl, rfl, by decide +kernel, rfl, by decide +kernel, by decide +kernel⟩
theorem fn_need_house (T : Tx K mg c) (c_is_between : Cal P w K mg base 1 "is_between" (p_is_between c)) {f : Addr} {fd : FuncData} (F : Fun K "need_house" "need_house" st_need_house f fd) : FnOk P w K mg base CX0 2 f fd ["number", "many"] (toSp (p_need_house c)) :=
  fnW F sc_need_house fun cdv A outer s H E H0 hr => have S := sc_need_house; have hu1 := hu_of hr; have hu64 := hu64_of hr; have hu65 := hu65_of hr;
    (s_one (s_if (PW.pt (w_or (t_not (t_val (q_call c_is_between hr (by decide) rfl (a_cons (q_var 1) (a_cons q_int (a_cons (q_gintE T.g_MOST_HOUSES) a_nil)))))) (w_or1 (t_not (t_val (q_call c_is_between hr (by decide) rfl (a_cons (q_var 0) (a_cons q_int (a_cons (q_sub (q_var 1) q_int) a_nil)))))))))
    (s_one s_never)
    s_nil))
abbrev st_Things_init : Stmt := inClass (top 20) 0
abbrev N_Things_init : List Str := ["self", "number"]
theorem sc_Things_init : FnScope N_Things_init ["self", "number"] (defScope st_Things_init) := ⟨rfl, rfl, rfl, by decide +kernel, rfl, by decide +kernel, by decide +kernel⟩
theorem fn_Things_init (T : Tx K mg c) {f : Addr} {fd : FuncData} (F : Fun K "__init__" "Things.__init__" st_Things_init f fd) : FnOk P w K mg base CX0 1 f fd ["self", "number"] (toSp (p_Things_init c)) :=
  fnW F sc_Things_init fun cdv A outer s H E H0 hr => have S := sc_Things_init; have hu1 := hu_of hr; have hu64 := hu64_of hr; have hu65 := hu65_of hr;
    (s_cons (s_fld T.cl_Things T.na_Things_number (q_var 0) (q_var 1))
    (s_cons (s_fld T.cl_Things T.na_Things_stand (q_var 0) q_dct0)
    (s_cons (s_fld T.cl_Things T.na_Things_made (q_var 0) q_int)
    (s_cons (s_fld T.cl_Things T.na_Things_own (q_var 0) q_dct0)
    (s_one (s_fld T.cl_Things T.na_Things_lent (q_var 0) q_dct0))))))
abbrev st_House_init : Stmt := inClass (top 24) 0
abbrev N_House_init : List Str := ["self", "number", "many"]
theorem sc_House_init : FnScope N_House_init ["self", "number", "many"] (defScope st_House_init) := ⟨rfl, rfl, rfl, by decide +kernel, rfl, by decide +kernel, by decide +kernel⟩
theorem fn_House_init (T : Tx K mg c) (c_need_house : Cal P w K mg base 2 "need_house" (p_need_house c)) (c_Things_init : Mak P w K mg base 1 "Things" c.Things (p_Things_init c)) {f : Addr} {fd : FuncData} (F : Fun K "__init__" "House.__init__" st_House_init f fd) : FnOk P w K mg base CX0 3 f fd ["self", "number", "many"] (toSp (p_House_init c)) :=
  fnW F sc_House_init fun cdv A outer s H E H0 hr => have S := sc_House_init; have hu1 := hu_of hr; have hu64 := hu64_of hr; have hu65 := hu65_of hr;
    (s_cons (s_expr (q_call c_need_house hr (by decide) rfl (a_cons (q_var 1) (a_cons (q_var 2) a_nil))))
    (s_cons (s_fld T.cl_House T.na_House_number (q_var 0) (q_var 1))
    (s_cons (s_fld T.cl_House T.na_House_many (q_var 0) (q_var 2))
    (s_cons (s_fld T.cl_House T.na_House_own (q_var 0) (q_make c_Things_init hr (by decide) rfl (a_cons (q_var 1) a_nil)))
    (s_cons (s_fld T.cl_House T.na_House_units (q_var 0) q_dct0)
    (s_cons (s_fld T.cl_House T.na_House_units_met (q_var 0) q_dct0)
    (s_cons (s_fld T.cl_House T.na_House_counts (q_var 0) q_dct0)
    (s_cons (s_fld T.cl_House T.na_House_untold (q_var 0) q_dct0)
    (s_cons (s_fld T.cl_House T.na_House_asks (q_var 0) q_dct0)
    (s_cons (s_fld T.cl_House T.na_House_asked (q_var 0) q_int)
    (s_cons (s_fld T.cl_House T.na_House_done (q_var 0) q_dct0)
    (s_cons (s_fld T.cl_House T.na_House_drops (q_var 0) (q_lst a_nil))
    (s_cons (s_fld T.cl_House T.na_House_calls (q_var 0) (q_lst a_nil))
    (s_cons (s_fld T.cl_House T.na_House_watched (q_var 0) q_dct0)
    (s_cons (s_fld T.cl_House T.na_House_dead (q_var 0) q_dct0)
    (s_one (s_fld T.cl_House T.na_House_told (q_var 0) q_dct0)))))))))))))))))
abbrev st_law_off : Stmt := top 27
abbrev N_law_off : List Str := ["_law_d", "_law_most", "_law_found"]
theorem sc_law_off : FnScope N_law_off ["_law_d", "_law_most"] (defScope st_law_off) := ⟨rfl, rfl, rfl, by decide +kernel, rfl, by decide +kernel, by decide +kernel⟩
theorem fn_law_off (T : Tx K mg c) {f : Addr} {fd : FuncData} (F : Fun K "_law_off" "_law_off" st_law_off f fd) : FnOk P w K mg base CX0 1 f fd ["_law_d", "_law_most"] (toSp (p_law_off c)) :=
  fnW F sc_law_off fun cdv A outer s H E H0 hr => have S := sc_law_off; have hu1 := hu_of hr; have hu64 := hu64_of hr; have hu65 := hu65_of hr;
    (s_cons (s_if (PW.pt (w_and (t_eq hu64 (q_ix hu1 (q_var 0) q_int) q_int) (w_and1 (t_gt hu64 (q_callB call_lenA ref_len T.b_len (u_cons (q_var 0) u_nil)) q_int))))
    (s_one (s_ix hu1 (q_var 0) q_int (q_mt PySem.F.plainAttrs_list PySem.F.slot_list_pop PySem.F.type_list_pop mt_popAt ref_popAt (q_var 0) (u_cons q_int u_nil))))
    s_nil)
    (s_cons (s_if (t_gt hu64 (q_ix hu1 (q_var 0) q_int) q_int)
    (s_cons (s_set (i := 2) S.nd (q_mod (q_ix hu1 (q_var 0) q_int) (q_var 1)))
    (s_cons (s_ix hu1 (q_var 0) q_int (q_fdiv (q_ix hu1 (q_var 0) q_int) (q_var 1)))
    (s_one (s_ret (q_var 2)))))
    s_nil)
    (s_cons (s_ix hu1 (q_var 0) q_int (q_mod (q_add (q_mul (q_ix hu1 (q_var 0) q_int) q_int) q_int) q_int))
    (s_one (s_ret (q_mod (q_fdiv (q_ix hu1 (q_var 0) q_int) q_int) (q_var 1)))))))
abbrev st_House_table : Stmt := inClass (top 24) 21
abbrev N_House_table : List Str := ["self", "some", "things", "thing", "links", "rows", "handle", "one"]
theorem sc_House_table : FnScope N_House_table ["self"] (defScope st_House_table) := ⟨rfl, rfl, rfl, by decide +kernel, rfl, by decide +kernel, by decide +kernel⟩
theorem fn_House_table (T : Tx K mg c) {f : Addr} {fd : FuncData} (F : Fun K "table" "House.table" st_House_table f fd) : FnOk P w K mg base CX0 1 f fd ["self"] (toSp (p_House_table c)) :=
  fnW F sc_House_table fun cdv A outer s H E H0 hr => have S := sc_House_table; have hu1 := hu_of hr; have hu64 := hu64_of hr; have hu65 := hu65_of hr;
    (s_cons (s_lock (s_setLc (i := 1) (own := [("thing", 3)]) rfl S.nd (i_any (q_fld T.cl_Things T.na_Things_own (q_fld T.cl_House T.na_House_own (q_var 0)))) (blkOk_by (N := N_House_table) (sc := defScope st_House_table) (own := [("thing", 3)]) (by decide +kernel)) (fun _ _ _ _ _ => (g_nm (i := 3) S.nd)) (fun _ _ _ _ _ => ts_nil) (fun _ _ _ _ _ => (q_tup (a_cons (q_tup (a_cons (q_fld T.cl_House T.na_House_number (q_var 0)) (a_cons (q_var 3) a_nil))) (a_cons (q_ix hu1 (q_fld T.cl_Things T.na_Things_own (q_fld T.cl_House T.na_House_own (q_var 0))) (q_var 3)) a_nil)))) (sw_true rfl rfl rfl (by decide +kernel))))
    (s_cons (s_set (i := 1) S.nd (q_add (q_var 1) (q_lock (q_lc (own := [("handle", 6)]) rfl S.nd (i_any (q_fld T.cl_House T.na_House_units (q_var 0))) (blkOk_by (N := N_House_table) (sc := defScope st_House_table) (own := [("handle", 6)]) (by decide +kernel)) (fun _ _ _ _ _ => (g_nm (i := 6) S.nd)) (fun _ _ _ _ _ => ts_nil) (fun _ _ _ _ _ => (q_tup (a_cons (q_var 6) (a_cons (q_callB call_lenA ref_len T.b_len (u_cons (q_ix hu1 (q_fld T.cl_House T.na_House_units (q_var 0)) (q_var 6)) u_nil)) a_nil))))))))
    (s_cons (s_set (i := 2) S.nd (q_lst a_nil))
    (s_cons (s_for PassesOwn.never rfl (i_any (q_callB (call_sortW rfl hu64) ref_sorted T.b_sorted (u_cons (q_fld T.cl_Things T.na_Things_stand (q_fld T.cl_House T.na_House_own (q_var 0))) u_nil))) (g_nm (i := 3) S.nd)
    (s_cons (s_set (i := 4) S.nd (q_fld T.cl_Thing T.na_Thing_links (q_ix hu1 (q_fld T.cl_Things T.na_Things_stand (q_fld T.cl_House T.na_House_own (q_var 0))) (q_var 3))))
    (s_cons (s_setLc (i := 5) (own := [("handle", 6)]) rfl S.nd (i_any (q_callB (call_sortW rfl hu64) ref_sorted T.b_sorted (u_cons (q_var 4) u_nil))) (blkOk_by (N := N_House_table) (sc := defScope st_House_table) (own := [("handle", 6)]) (by decide +kernel)) (fun _ _ _ _ _ => (g_nm (i := 6) S.nd)) (fun _ _ _ _ _ => (ts_one (t_ne hu64 (q_ix hu1 (q_var 4) (q_var 6)) (q_lst a_nil)))) (fun _ _ _ _ _ => (q_tup (a_cons (q_var 6) (a_cons (q_callB call_lenA ref_len T.b_len (u_cons (q_ix hu1 (q_var 4) (q_var 6)) u_nil)) a_nil)))) (sw_true rfl rfl rfl (by decide +kernel)))
    (s_one (s_expr (q_mt PySem.F.plainAttrs_list PySem.F.slot_list_append PySem.F.type_list_append mt_append ref_append (q_var 2) (u_cons (q_tup (a_cons (q_var 3) (a_cons (q_callT call_tuple_of ref_tuple T.b_tuple (u_cons (q_var 5) u_nil)) a_nil))) u_nil)))))))
    (s_one (s_ret (q_tup (a_cons (q_callT call_tuple_of ref_tuple T.b_tuple (u_cons (q_lc (own := [("one", 7)]) rfl S.nd (i_any (q_callB (call_sortW rfl hu64) ref_sorted T.b_sorted (u_cons (q_var 1) u_nil))) (blkOk_by (N := N_House_table) (sc := defScope st_House_table) (own := [("one", 7)]) (by decide +kernel)) (fun _ _ _ _ _ => (g_nm (i := 7) S.nd)) (fun _ _ _ _ _ => (ts_one (t_gt hu64 (q_ix hu1 (q_var 7) q_int) q_int))) (fun _ _ _ _ _ => (q_var 7))) u_nil)) (a_cons (q_callT call_tuple_of ref_tuple T.b_tuple (u_cons (q_var 2) u_nil)) a_nil)))))))))
abbrev st_need_worth : Stmt := top 16
abbrev N_need_worth : List Str := ["worth"]
theorem sc_need_worth : FnScope N_need_worth ["worth"] (defScope st_need_worth) := ⟨rfl, rfl, rfl, by decide +kernel, rfl, by decide +kernel, by decide +kernel⟩
theorem fn_need_worth (T : Tx K mg c) (c_is_between : Cal P w K mg base 1 "is_between" (p_is_between c)) {f : Addr} {fd : FuncData} (F : Fun K "need_worth" "need_worth" st_need_worth f fd) : FnOk P w K mg base CX0 2 f fd ["worth"] (toSp (p_need_worth c)) :=
  fnW F sc_need_worth fun cdv A outer s H E H0 hr => have S := sc_need_worth; have hu1 := hu_of hr; have hu64 := hu64_of hr; have hu65 := hu65_of hr;
    (s_one (s_if (t_not (t_val (q_call c_is_between hr (by decide) rfl (a_cons (q_var 0) (a_cons q_int (a_cons (q_sub (q_gintE T.g_WORTHS) q_int) a_nil))))))
    (s_one s_never)
    s_nil))
abbrev st_Thing_init : Stmt := inClass (top 19) 0
abbrev N_Thing_init : List Str := ["self", "worth"]
theorem sc_Thing_init : FnScope N_Thing_init ["self", "worth"] (defScope st_Thing_init) := ⟨rfl, rfl, rfl, by decide +kernel, rfl, by decide +kernel, by decide +kernel⟩
theorem fn_Thing_init (T : Tx K mg c) {f : Addr} {fd : FuncData} (F : Fun K "__init__" "Thing.__init__" st_Thing_init f fd) : FnOk P w K mg base CX0 1 f fd ["self", "worth"] (toSp (p_Thing_init c)) :=
  fnW F sc_Thing_init fun cdv A outer s H E H0 hr => have S := sc_Thing_init; have hu1 := hu_of hr; have hu64 := hu64_of hr; have hu65 := hu65_of hr;
    (s_cons (s_fld T.cl_Thing T.na_Thing_worth (q_var 0) (q_var 1))
    (s_one (s_fld T.cl_Thing T.na_Thing_links (q_var 0) q_dct0)))
abbrev st_Things_add : Stmt := inClass (top 20) 1
abbrev N_Things_add : List Str := ["self", "worth"]
theorem sc_Things_add : FnScope N_Things_add ["self", "worth"] (defScope st_Things_add) := ⟨rfl, rfl, rfl, by decide +kernel, rfl, by decide +kernel, by decide +kernel⟩
theorem fn_Things_add (T : Tx K mg c) (c_Thing_init : Mak P w K mg base 1 "Thing" c.Thing (p_Thing_init c)) {f : Addr} {fd : FuncData} (F : Fun K "add" "Things.add" st_Things_add f fd) : FnOk P w K mg base CX0 3 f fd ["self", "worth"] (toSp (p_Things_add c)) :=
  fnW F sc_Things_add fun cdv A outer s H E H0 hr => have S := sc_Things_add; have hu1 := hu_of hr; have hu64 := hu64_of hr; have hu65 := hu65_of hr;
    (s_cons (s_ix hu1 (q_fld T.cl_Things T.na_Things_stand (q_var 0)) (q_fld T.cl_Things T.na_Things_made (q_var 0)) (q_make c_Thing_init hr (by decide) rfl (a_cons (q_var 1) a_nil)))
    (s_cons (s_ix hu1 (q_fld T.cl_Things T.na_Things_own (q_var 0)) (q_fld T.cl_Things T.na_Things_made (q_var 0)) q_int)
    (s_cons (s_fld T.cl_Things T.na_Things_made (q_var 0) (q_add (q_fld T.cl_Things T.na_Things_made (q_var 0)) q_int))
    (s_one (s_ret (q_sub (q_fld T.cl_Things T.na_Things_made (q_var 0)) q_int))))))
abbrev st_House_make : Stmt := inClass (top 24) 1
abbrev N_House_make : List Str := ["self", "worth"]
theorem sc_House_make : FnScope N_House_make ["self", "worth"] (defScope st_House_make) := ⟨rfl, rfl, rfl, by decide +kernel, rfl, by decide +kernel, by decide +kernel⟩
theorem fn_House_make (T : Tx K mg c) (c_need_worth : Cal P w K mg base 2 "need_worth" (p_need_worth c)) (c_Things_add : Met P w K mg base 3 c.Things "add" (p_Things_add c)) {f : Addr} {fd : FuncData} (F : Fun K "make" "House.make" st_House_make f fd) : FnOk P w K mg base CX0 4 f fd ["self", "worth"] (toSp (p_House_make c)) :=
  fnW F sc_House_make fun cdv A outer s H E H0 hr => have S := sc_House_make; have hu1 := hu_of hr; have hu64 := hu64_of hr; have hu65 := hu65_of hr;
    (s_cons (s_expr (q_call c_need_worth hr (by decide) rfl (a_cons (q_var 1) a_nil)))
    (s_cons (s_if (t_eq hu64 (q_fld T.cl_Things T.na_Things_made (q_fld T.cl_House T.na_House_own (q_var 0))) (q_gintE T.g_MOST_THINGS))
    (s_one s_never)
    s_nil)
    (s_one (s_ret (q_meth c_Things_add hr (by decide) (q_fld T.cl_House T.na_House_own (q_var 0)) (a_cons (q_var 1) a_nil))))))
abbrev st_is_handle : Stmt := top 14
abbrev N_is_handle : List Str := ["handle", "many"]
theorem sc_is_handle : FnScope N_is_handle ["handle", "many"] (defScope st_is_handle) := ⟨rfl, rfl, rfl, by decide +kernel, rfl, by decide +kernel, by decide +kernel⟩
theorem fn_is_handle (T : Tx K mg c) (c_is_between : Cal P w K mg base 1 "is_between" (p_is_between c)) {f : Addr} {fd : FuncData} (F : Fun K "is_handle" "is_handle" st_is_handle f fd) : FnOk P w K mg base CX0 2 f fd ["handle", "many"] (toSp (p_is_handle c)) :=
  fnW F sc_is_handle fun cdv A outer s H E H0 hr => have S := sc_is_handle; have hu1 := hu_of hr; have hu64 := hu64_of hr; have hu65 := hu65_of hr;
    (s_cons (s_if (PW.pt (w_or (t_not (t_val (q_isi .tup T.b_isinstance T.b_tuple (q_var 0)))) (w_or1 (t_ne hu64 (q_callB call_lenA ref_len T.b_len (u_cons (q_var 0) u_nil)) q_int))))
    (s_one (s_ret q_bl))
    s_nil)
    (s_one (s_ret (q_and (q_call c_is_between hr (by decide) rfl (a_cons (q_ix hu1 (q_var 0) q_int) (a_cons q_int (a_cons (q_sub (q_var 1) q_int) a_nil)))) (q_one (q_call c_is_between hr (by decide) rfl (a_cons (q_ix hu1 (q_var 0) q_int) (a_cons q_int (a_cons (q_sub (q_gintE T.g_MOST_THINGS) q_int) a_nil)))))))))
abbrev st_need_handle : Stmt := top 17
abbrev N_need_handle : List Str := ["handle", "many"]
theorem sc_need_handle : FnScope N_need_handle ["handle", "many"] (defScope st_need_handle) := ⟨rfl, rfl, rfl, by decide +kernel, rfl, by decide +kernel, by decide +kernel⟩
theorem fn_need_handle (T : Tx K mg c) (c_is_handle : Cal P w K mg base 2 "is_handle" (p_is_handle c)) {f : Addr} {fd : FuncData} (F : Fun K "need_handle" "need_handle" st_need_handle f fd) : FnOk P w K mg base CX0 3 f fd ["handle", "many"] (toSp (p_need_handle c)) :=
  fnW F sc_need_handle fun cdv A outer s H E H0 hr => have S := sc_need_handle; have hu1 := hu_of hr; have hu64 := hu64_of hr; have hu65 := hu65_of hr;
    (s_one (s_if (t_not (t_val (q_call c_is_handle hr (by decide) rfl (a_cons (q_var 0) (a_cons (q_var 1) a_nil)))))
    (s_one s_never)
    s_nil))
abbrev st_House_count : Stmt := inClass (top 24) 2
abbrev N_House_count : List Str := ["self", "handle"]
theorem sc_House_count : FnScope N_House_count ["self", "handle"] (defScope st_House_count) := ⟨rfl, rfl, rfl, by decide +kernel, rfl, by decide +kernel, by decide +kernel⟩
theorem fn_House_count (T : Tx K mg c) (c_need_handle : Cal P w K mg base 3 "need_handle" (p_need_handle c)) {f : Addr} {fd : FuncData} (F : Fun K "count" "House.count" st_House_count f fd) : FnOk P w K mg base CX0 4 f fd ["self", "handle"] (toSp (p_House_count c)) :=
  fnW F sc_House_count fun cdv A outer s H E H0 hr => have S := sc_House_count; have hu1 := hu_of hr; have hu64 := hu64_of hr; have hu65 := hu65_of hr;
    (s_cons (s_expr (q_call c_need_handle hr (by decide) rfl (a_cons (q_var 1) (a_cons (q_fld T.cl_House T.na_House_many (q_var 0)) a_nil))))
    (s_cons (s_if (t_eq hu64 (q_ix hu1 (q_var 1) q_int) (q_fld T.cl_House T.na_House_number (q_var 0)))
    (s_one (s_ret (q_mt PySem.F.plainAttrs_dict PySem.F.slot_dict_get PySem.F.type_dict_get (mt_dget2 hu1) ref_get2 (q_fld T.cl_Things T.na_Things_own (q_fld T.cl_House T.na_House_own (q_var 0))) (u_cons (q_ix hu1 (q_var 1) q_int) (u_cons q_int u_nil)))))
    s_nil)
    (s_one (s_ret (q_callB call_lenA ref_len T.b_len (u_cons (q_mt PySem.F.plainAttrs_dict PySem.F.slot_dict_get PySem.F.type_dict_get (mt_dget2 hu1) ref_get2 (q_fld T.cl_House T.na_House_units (q_var 0)) (u_cons (q_var 1) (u_cons (q_lst a_nil) u_nil))) u_nil))))))
abbrev st_House_need_hold : Stmt := inClass (top 24) 3
abbrev N_House_need_hold : List Str := ["self", "handle"]
theorem sc_House_need_hold : FnScope N_House_need_hold ["self", "handle"] (defScope st_House_need_hold) := ⟨rfl, rfl, rfl, by decide +kernel, rfl, by decide +kernel, by decide +kernel⟩
theorem fn_House_need_hold (T : Tx K mg c) (c_House_count : Met P w K mg base 4 c.House "count" (p_House_count c)) {f : Addr} {fd : FuncData} (F : Fun K "need_hold" "House.need_hold" st_House_need_hold f fd) : FnOk P w K mg base CX0 5 f fd ["self", "handle"] (toSp (p_House_need_hold c)) :=
  fnW F sc_House_need_hold fun cdv A outer s H E H0 hr => have S := sc_House_need_hold; have hu1 := hu_of hr; have hu64 := hu64_of hr; have hu65 := hu65_of hr;
    (s_one (s_if (t_eq hu64 (q_meth c_House_count hr (by decide) (q_var 0) (a_cons (q_var 1) a_nil)) q_int)
    (s_one s_never)
    s_nil))
abbrev st_House_lend : Stmt := inClass (top 24) 7
abbrev N_House_lend : List Str := ["self", "thing", "to"]
theorem sc_House_lend : FnScope N_House_lend ["self", "thing", "to"] (defScope st_House_lend) := ⟨rfl, rfl, rfl, by decide +kernel, rfl, by decide +kernel, by decide +kernel⟩
theorem fn_House_lend (T : Tx K mg c) {f : Addr} {fd : FuncData} (F : Fun K "lend" "House.lend" st_House_lend f fd) : FnOk P w K mg base CX0 1 f fd ["self", "thing", "to"] (toSp (p_House_lend c)) :=
  fnW F sc_House_lend fun cdv A outer s H E H0 hr => have S := sc_House_lend; have hu1 := hu_of hr; have hu64 := hu64_of hr; have hu65 := hu65_of hr;
    (s_one (s_if (t_eq hu64 (q_var 2) (q_fld T.cl_House T.na_House_number (q_var 0)))
    (s_one (s_ix hu1 (q_fld T.cl_Things T.na_Things_own (q_fld T.cl_House T.na_House_own (q_var 0))) (q_var 1) (q_add (q_ix hu1 (q_fld T.cl_Things T.na_Things_own (q_fld T.cl_House T.na_House_own (q_var 0))) (q_var 1)) q_int)))
    (s_one (s_if (t_nin hu65 (q_var 2) (q_fld T.cl_House T.na_House_dead (q_var 0)))
    (s_cons (s_ix hu1 (q_fld T.cl_House T.na_House_counts (q_var 0)) (q_var 2) (q_add (q_mt PySem.F.plainAttrs_dict PySem.F.slot_dict_get PySem.F.type_dict_get (mt_dget2 hu1) ref_get2 (q_fld T.cl_House T.na_House_counts (q_var 0)) (u_cons (q_var 2) (u_cons q_int u_nil))) q_int))
    (s_cons (s_ix hu1 (q_fld T.cl_Things T.na_Things_lent (q_fld T.cl_House T.na_House_own (q_var 0))) (q_tup (a_cons (q_var 2) (a_cons (q_ix hu1 (q_fld T.cl_House T.na_House_counts (q_var 0)) (q_var 2)) a_nil))) (q_var 1))
    (s_one (s_ix hu1 (q_fld T.cl_House T.na_House_untold (q_var 0)) (q_tup (a_cons (q_var 2) (a_cons (q_ix hu1 (q_fld T.cl_House T.na_House_counts (q_var 0)) (q_var 2)) a_nil))) (q_var 1)))))
    s_nil))))
abbrev st_House_ask : Stmt := inClass (top 24) 9
abbrev N_House_ask : List Str := ["self", "handle", "what"]
theorem sc_House_ask : FnScope N_House_ask ["self", "handle", "what"] (defScope st_House_ask) := ⟨rfl, rfl, rfl, by decide +kernel, rfl, by decide +kernel, by decide +kernel⟩
theorem fn_House_ask (T : Tx K mg c) {f : Addr} {fd : FuncData} (F : Fun K "ask" "House.ask" st_House_ask f fd) : FnOk P w K mg base CX0 1 f fd ["self", "handle", "what"] (toSp (p_House_ask c)) :=
  fnW F sc_House_ask fun cdv A outer s H E H0 hr => have S := sc_House_ask; have hu1 := hu_of hr; have hu64 := hu64_of hr; have hu65 := hu65_of hr;
    (s_cons (s_ix hu1 (q_fld T.cl_House T.na_House_asks (q_var 0)) (q_fld T.cl_House T.na_House_asked (q_var 0)) (q_tup (a_cons (q_var 1) (a_cons (q_var 2) a_nil))))
    (s_one (s_fld T.cl_House T.na_House_asked (q_var 0) (q_add (q_fld T.cl_House T.na_House_asked (q_var 0)) q_int))))
abbrev st_House_letters : Stmt := inClass (top 24) 24
abbrev N_House_letters : List Str := ["self", "found", "number", "handle", "what", "busy", "unit", "one"]
theorem sc_House_letters : FnScope N_House_letters ["self"] (defScope st_House_letters) := ⟨rfl, rfl, rfl, by decide +kernel, rfl, by decide +kernel, by decide +kernel⟩
theorem fn_House_letters (T : Tx K mg c) {f : Addr} {fd : FuncData} (F : Fun K "letters" "House.letters" st_House_letters f fd) : FnOk P w K mg base CX0 1 f fd ["self"] (toSp (p_House_letters c)) :=
  fnW F sc_House_letters fun cdv A outer s H E H0 hr => have S := sc_House_letters; have hu1 := hu_of hr; have hu64 := hu64_of hr; have hu65 := hu65_of hr;
    (s_cons (s_setLc (i := 1) (own := [("one", 7)]) rfl S.nd (i_any (q_callB (call_sortW rfl hu64) ref_sorted T.b_sorted (u_cons (q_fld T.cl_House T.na_House_untold (q_var 0)) u_nil))) (blkOk_by (N := N_House_letters) (sc := defScope st_House_letters) (own := [("one", 7)]) (by decide +kernel)) (fun _ _ _ _ _ => (g_nm (i := 7) S.nd)) (fun _ _ _ _ _ => ts_nil) (fun _ _ _ _ _ => (q_tup (a_cons (q_ix hu1 (q_var 7) q_int) (a_cons (q_tup (a_cons (q_fld T.cl_House T.na_House_number (q_var 0)) (a_cons q_str (a_cons (q_ix hu1 (q_fld T.cl_House T.na_House_untold (q_var 0)) (q_var 7)) (a_cons (q_ix hu1 (q_var 7) q_int) a_nil))))) a_nil)))) (sw_true rfl rfl rfl (by decide +kernel)))
    (s_cons (s_for PassesOwn.never rfl (i_any (q_callB (call_sortW rfl hu64) ref_sorted T.b_sorted (u_cons (q_fld T.cl_House T.na_House_asks (q_var 0)) u_nil))) (g_nm (i := 2) S.nd)
    (s_cons (s_asg (q_ix hu1 (q_fld T.cl_House T.na_House_asks (q_var 0)) (q_var 2)) (g_tp rfl (gs_cons (g_nm (i := 3) S.nd) (gs_cons (g_nm (i := 4) S.nd) gs_nil))))
    (s_one (s_expr (q_mt PySem.F.plainAttrs_list PySem.F.slot_list_append PySem.F.type_list_append mt_append ref_append (q_var 1) (u_cons (q_tup (a_cons (q_ix hu1 (q_var 3) q_int) (a_cons (q_tup (a_cons (q_fld T.cl_House T.na_House_number (q_var 0)) (a_cons q_str (a_cons (q_var 2) (a_cons (q_ix hu1 (q_var 3) q_int) (a_cons (q_var 4) a_nil)))))) a_nil))) u_nil))))))
    (s_cons (s_lock (s_setLc (i := 5) (own := [("number", 2)]) rfl S.nd (i_any (q_fld T.cl_House T.na_House_asks (q_var 0))) (blkOk_by (N := N_House_letters) (sc := defScope st_House_letters) (own := [("number", 2)]) (by decide +kernel)) (fun _ _ _ _ _ => (g_nm (i := 2) S.nd)) (fun _ _ _ _ _ => ts_nil) (fun _ _ _ _ _ => (q_ix hu1 (q_ix hu1 (q_fld T.cl_House T.na_House_asks (q_var 0)) (q_var 2)) q_int)) (sw_true rfl rfl rfl (by decide +kernel))))
    (s_cons (s_for PassesOwn.never rfl (i_any (q_fld T.cl_House T.na_House_drops (q_var 0))) (g_tp rfl (gs_cons (g_nm (i := 3) S.nd) (gs_cons (g_nm (i := 6) S.nd) gs_nil)))
    (s_one (s_if (t_nin hu65 (q_var 3) (q_var 5))
    (s_one (s_expr (q_mt PySem.F.plainAttrs_list PySem.F.slot_list_append PySem.F.type_list_append mt_append ref_append (q_var 1) (u_cons (q_tup (a_cons (q_ix hu1 (q_var 3) q_int) (a_cons (q_tup (a_cons (q_fld T.cl_House T.na_House_number (q_var 0)) (a_cons q_str (a_cons (q_ix hu1 (q_var 3) q_int) (a_cons (q_var 6) a_nil))))) a_nil))) u_nil))))
    s_nil)))
    (s_one (s_ret (q_var 1)))))))
abbrev st_House_give : Stmt := inClass (top 24) 8
abbrev N_House_give : List Str := ["self", "handle", "to"]
theorem sc_House_give : FnScope N_House_give ["self", "handle", "to"] (defScope st_House_give) := ⟨rfl, rfl, rfl, by decide +kernel, rfl, by decide +kernel, by decide +kernel⟩
theorem fn_House_give (T : Tx K mg c) (c_need_handle : Cal P w K mg base 3 "need_handle" (p_need_handle c)) (c_need_house : Cal P w K mg base 2 "need_house" (p_need_house c)) (c_House_need_hold : Met P w K mg base 5 c.House "need_hold" (p_House_need_hold c)) (c_House_lend : Met P w K mg base 1 c.House "lend" (p_House_lend c)) (c_House_ask : Met P w K mg base 1 c.House "ask" (p_House_ask c)) (c_House_letters : Met P w K mg base 1 c.House "letters" (p_House_letters c)) {f : Addr} {fd : FuncData} (F : Fun K "give" "House.give" st_House_give f fd) : FnOk P w K mg base CX0 6 f fd ["self", "handle", "to"] (toSp (p_House_give c)) :=
  fnW F sc_House_give fun cdv A outer s H E H0 hr => have S := sc_House_give; have hu1 := hu_of hr; have hu64 := hu64_of hr; have hu65 := hu65_of hr;
    (s_cons (s_expr (q_call c_need_handle hr (by decide) rfl (a_cons (q_var 1) (a_cons (q_fld T.cl_House T.na_House_many (q_var 0)) a_nil))))
    (s_cons (s_expr (q_call c_need_house hr (by decide) rfl (a_cons (q_var 2) (a_cons (q_fld T.cl_House T.na_House_many (q_var 0)) a_nil))))
    (s_cons (s_if (t_eq hu64 (q_var 2) (q_fld T.cl_House T.na_House_number (q_var 0)))
    (s_one s_never)
    s_nil)
    (s_cons (s_expr (q_meth c_House_need_hold hr (by decide) (q_var 0) (a_cons (q_var 1) a_nil)))
    (s_cons (s_if (t_eq hu64 (q_ix hu1 (q_var 1) q_int) (q_fld T.cl_House T.na_House_number (q_var 0)))
    (s_one (s_expr (q_meth c_House_lend hr (by decide) (q_var 0) (a_cons (q_ix hu1 (q_var 1) q_int) (a_cons (q_var 2) a_nil)))))
    (s_one (s_if (t_nin hu65 (q_var 2) (q_fld T.cl_House T.na_House_dead (q_var 0)))
    (s_one (s_expr (q_meth c_House_ask hr (by decide) (q_var 0) (a_cons (q_var 1) (a_cons (q_tup (a_cons q_str (a_cons (q_var 2) a_nil))) a_nil)))))
    s_nil)))
    (s_one (s_ret (q_meth0 c_House_letters hr (by decide) (q_var 0)))))))))
abbrev st_House_take_unit : Stmt := inClass (top 24) 4
abbrev N_House_take_unit : List Str := ["self", "handle"]
theorem sc_House_take_unit : FnScope N_House_take_unit ["self", "handle"] (defScope st_House_take_unit) := ⟨rfl, rfl, rfl, by decide +kernel, rfl, by decide +kernel, by decide +kernel⟩
theorem fn_House_take_unit (T : Tx K mg c) {f : Addr} {fd : FuncData} (F : Fun K "take_unit" "House.take_unit" st_House_take_unit f fd) : FnOk P w K mg base CX0 1 f fd ["self", "handle"] (toSp (p_House_take_unit c)) :=
  fnW F sc_House_take_unit fun cdv A outer s H E H0 hr => have S := sc_House_take_unit; have hu1 := hu_of hr; have hu64 := hu64_of hr; have hu65 := hu65_of hr;
    (s_cons (s_if (t_eq hu64 (q_ix hu1 (q_var 1) q_int) (q_fld T.cl_House T.na_House_number (q_var 0)))
    (s_cons (s_ix hu1 (q_fld T.cl_Things T.na_Things_own (q_fld T.cl_House T.na_House_own (q_var 0))) (q_ix hu1 (q_var 1) q_int) (q_sub (q_ix hu1 (q_fld T.cl_Things T.na_Things_own (q_fld T.cl_House T.na_House_own (q_var 0))) (q_ix hu1 (q_var 1) q_int)) q_int))
    (s_one (s_ret (q_gintE T.g_OWN))))
    s_nil)
    (s_one (s_ret (q_mt PySem.F.plainAttrs_list PySem.F.slot_list_pop PySem.F.type_list_pop mt_popAt ref_popAt (q_ix hu1 (q_fld T.cl_House T.na_House_units (q_var 0)) (q_var 1)) (u_cons q_int u_nil)))))
abbrev st_Things_is_held : Stmt := inClass (top 20) 2
abbrev N_Things_is_held : List Str := ["self", "thing", "handle", "one"]
theorem sc_Things_is_held : FnScope N_Things_is_held ["self", "thing"] (defScope st_Things_is_held) := ⟨rfl, rfl, rfl, by decide +kernel, rfl, by decide +kernel, by decide +kernel⟩
theorem fn_Things_is_held (T : Tx K mg c) {f : Addr} {fd : FuncData} (F : Fun K "is_held" "Things.is_held" st_Things_is_held f fd) : FnOk P w K mg base CX0 1 f fd ["self", "thing"] (toSp (p_Things_is_held c)) :=
  fnW F sc_Things_is_held fun cdv A outer s H E H0 hr => have S := sc_Things_is_held; have hu1 := hu_of hr; have hu64 := hu64_of hr; have hu65 := hu65_of hr;
    (s_cons (s_if (PW.pt (w_or (t_gt hu64 (q_ix hu1 (q_fld T.cl_Things T.na_Things_own (q_var 0)) (q_var 1)) q_int) (w_or1 (t_ne hu64 (q_lock (q_lc (own := [("one", 3)]) rfl S.nd (i_any (q_fld T.cl_Things T.na_Things_lent (q_var 0))) (blkOk_by (N := N_Things_is_held) (sc := defScope st_Things_is_held) (own := [("one", 3)]) (by decide +kernel)) (fun _ _ _ _ _ => (g_nm (i := 3) S.nd)) (fun _ _ _ _ _ => (ts_one (t_eq hu64 (q_ix hu1 (q_fld T.cl_Things T.na_Things_lent (q_var 0)) (q_var 3)) (q_var 1)))) (fun _ _ _ _ _ => (q_var 3)))) (q_lst a_nil)))))
    (s_one (s_ret q_bl))
    s_nil)
    (s_cons (s_set (i := 2) S.nd (q_tup (a_cons (q_fld T.cl_Things T.na_Things_number (q_var 0)) (a_cons (q_var 1) a_nil))))
    (s_one (s_ret (q_ne hu64 (q_lock (q_lc (own := [("one", 3)]) rfl S.nd (i_any (q_fld T.cl_Things T.na_Things_stand (q_var 0))) (blkOk_by (N := N_Things_is_held) (sc := defScope st_Things_is_held) (own := [("one", 3)]) (by decide +kernel)) (fun _ _ _ _ _ => (g_nm (i := 3) S.nd)) (fun _ _ _ _ _ => (ts_one (t_ne hu64 (q_mt PySem.F.plainAttrs_dict PySem.F.slot_dict_get PySem.F.type_dict_get (mt_dget2 hu1) ref_get2 (q_fld T.cl_Thing T.na_Thing_links (q_ix hu1 (q_fld T.cl_Things T.na_Things_stand (q_var 0)) (q_var 3))) (u_cons (q_var 2) (u_cons (q_lst a_nil) u_nil))) (q_lst a_nil)))) (fun _ _ _ _ _ => (q_var 3)))) (q_lst a_nil))))))
abbrev st_Things_let_go : Stmt := inClass (top 20) 4
abbrev N_Things_let_go : List Str := ["self", "things", "found", "thing", "gone", "handle", "unit"]
theorem sc_Things_let_go : FnScope N_Things_let_go ["self", "things"] (defScope st_Things_let_go) := ⟨rfl, rfl, rfl, by decide +kernel, rfl, by decide +kernel, by decide +kernel⟩
theorem fn_Things_let_go (T : Tx K mg c) {f : Addr} {fd : FuncData} (F : Fun K "let_go" "Things.let_go" st_Things_let_go f fd) : FnOk P w K mg base CX0 1 f fd ["self", "things"] (toSp (p_Things_let_go c)) :=
  fnW F sc_Things_let_go fun cdv A outer s H E H0 hr => have S := sc_Things_let_go; have hu1 := hu_of hr; have hu64 := hu64_of hr; have hu65 := hu65_of hr;
    (s_cons (s_set (i := 2) S.nd (q_lst a_nil))
    (s_cons (s_for PassesOwn.never rfl (i_any (q_var 1)) (g_nm (i := 3) S.nd)
    (s_cons (s_set (i := 4) S.nd (q_mt PySem.F.plainAttrs_dict PySem.F.slot_dict_pop PySem.F.type_dict_pop (mt_dpop hu1) ref_dpop (q_fld T.cl_Things T.na_Things_stand (q_var 0)) (u_cons (q_var 3) u_nil)))
    (s_cons (s_expr (q_mt PySem.F.plainAttrs_dict PySem.F.slot_dict_pop PySem.F.type_dict_pop (mt_dpop hu1) ref_dpop (q_fld T.cl_Things T.na_Things_own (q_var 0)) (u_cons (q_var 3) u_nil)))
    (s_one (s_for PassesOwn.never rfl (i_any (q_callB (call_sortW rfl hu64) ref_sorted T.b_sorted (u_cons (q_fld T.cl_Thing T.na_Thing_links (q_var 4)) u_nil))) (g_nm (i := 5) S.nd)
    (s_one (s_if (t_ne hu64 (q_ix hu1 (q_var 5) q_int) (q_fld T.cl_Things T.na_Things_number (q_var 0)))
    (s_one (s_expr (q_mt PySem.F.plainAttrs_list PySem.F.slot_list_extend PySem.F.type_list_extend mt_extend ref_extend (q_var 2) (u_cons (q_lc (own := [("unit", 6)]) rfl S.nd (i_any (q_ix hu1 (q_fld T.cl_Thing T.na_Thing_links (q_var 4)) (q_var 5))) (blkOk_by (N := N_Things_let_go) (sc := defScope st_Things_let_go) (own := [("unit", 6)]) (by decide +kernel)) (fun _ _ _ _ _ => (g_nm (i := 6) S.nd)) (fun _ _ _ _ _ => ts_nil) (fun _ _ _ _ _ => (q_tup (a_cons (q_var 5) (a_cons (q_var 6) a_nil))))) u_nil))))
    s_nil)))))))
    (s_one (s_ret (q_var 2)))))
abbrev st_Things_settle : Stmt := inClass (top 20) 3
abbrev N_Things_settle : List Str := ["self", "found", "free", "thing"]
theorem sc_Things_settle : FnScope N_Things_settle ["self"] (defScope st_Things_settle) := ⟨rfl, rfl, rfl, by decide +kernel, rfl, by decide +kernel, by decide +kernel⟩
theorem fn_Things_settle (T : Tx K mg c) (c_Things_is_held : Met P w K mg base 1 c.Things "is_held" (p_Things_is_held c)) (c_Things_let_go : Met P w K mg base 1 c.Things "let_go" (p_Things_let_go c)) {f : Addr} {fd : FuncData} (F : Fun K "settle" "Things.settle" st_Things_settle f fd) : FnOk P w K mg base CX0 2 f fd ["self"] (toSp (p_Things_settle c)) :=
  fnW F sc_Things_settle fun cdv A outer s H E H0 hr => have S := sc_Things_settle; have hu1 := hu_of hr; have hu64 := hu64_of hr; have hu65 := hu65_of hr;
    (s_cons (s_set (i := 1) S.nd (q_lst a_nil))
    (s_cons (s_setLc (i := 2) (own := [("thing", 3)]) rfl S.nd (i_any (q_callB (call_sortW rfl hu64) ref_sorted T.b_sorted (u_cons (q_fld T.cl_Things T.na_Things_stand (q_var 0)) u_nil))) (blkOk_by (N := N_Things_settle) (sc := defScope st_Things_settle) (own := [("thing", 3)]) (by decide +kernel)) (fun _ _ _ _ _ => (g_nm (i := 3) S.nd)) (fun _ _ _ _ _ => (ts_one (t_not (t_val (q_meth c_Things_is_held hr (by decide) (q_var 0) (a_cons (q_var 3) a_nil)))))) (fun _ _ _ _ _ => (q_var 3)) (sw_true rfl rfl rfl (by decide +kernel)))
    (s_cons (s_while PassesOwn.never (t_ne hu64 (q_var 2) (q_lst a_nil))
    (s_cons (s_expr (q_mt PySem.F.plainAttrs_list PySem.F.slot_list_extend PySem.F.type_list_extend mt_extend ref_extend (q_var 1) (u_cons (q_meth c_Things_let_go hr (by decide) (q_var 0) (a_cons (q_var 2) a_nil)) u_nil)))
    (s_one (s_setLc (i := 2) (own := [("thing", 3)]) rfl S.nd (i_any (q_callB (call_sortW rfl hu64) ref_sorted T.b_sorted (u_cons (q_fld T.cl_Things T.na_Things_stand (q_var 0)) u_nil))) (blkOk_by (N := N_Things_settle) (sc := defScope st_Things_settle) (own := [("thing", 3)]) (by decide +kernel)) (fun _ _ _ _ _ => (g_nm (i := 3) S.nd)) (fun _ _ _ _ _ => (ts_one (t_not (t_val (q_meth c_Things_is_held hr (by decide) (q_var 0) (a_cons (q_var 3) a_nil)))))) (fun _ _ _ _ _ => (q_var 3)) (sw_true rfl rfl rfl (by decide +kernel))))))
    (s_one (s_ret (q_var 1))))))
abbrev st_House_settle : Stmt := inClass (top 24) 6
abbrev N_House_settle : List Str := ["self"]
theorem sc_House_settle : FnScope N_House_settle ["self"] (defScope st_House_settle) := ⟨rfl, rfl, rfl, by decide +kernel, rfl, by decide +kernel, by decide +kernel⟩
theorem fn_House_settle (T : Tx K mg c) (c_Things_settle : Met P w K mg base 2 c.Things "settle" (p_Things_settle c)) {f : Addr} {fd : FuncData} (F : Fun K "settle" "House.settle" st_House_settle f fd) : FnOk P w K mg base CX0 3 f fd ["self"] (toSp (p_House_settle c)) :=
  fnW F sc_House_settle fun cdv A outer s H E H0 hr => have S := sc_House_settle; have hu1 := hu_of hr; have hu64 := hu64_of hr; have hu65 := hu65_of hr;
    (s_one (s_expr (q_mt PySem.F.plainAttrs_list PySem.F.slot_list_extend PySem.F.type_list_extend mt_extend ref_extend (q_fld T.cl_House T.na_House_drops (q_var 0)) (u_cons (q_meth0 c_Things_settle hr (by decide) (q_fld T.cl_House T.na_House_own (q_var 0))) u_nil))))
abbrev st_House_drop : Stmt := inClass (top 24) 10
abbrev N_House_drop : List Str := ["self", "handle", "unit"]
theorem sc_House_drop : FnScope N_House_drop ["self", "handle"] (defScope st_House_drop) := ⟨rfl, rfl, rfl, by decide +kernel, rfl, by decide +kernel, by decide +kernel⟩
theorem fn_House_drop (T : Tx K mg c) (c_House_need_hold : Met P w K mg base 5 c.House "need_hold" (p_House_need_hold c)) (c_House_take_unit : Met P w K mg base 1 c.House "take_unit" (p_House_take_unit c)) (c_House_settle : Met P w K mg base 3 c.House "settle" (p_House_settle c)) (c_House_letters : Met P w K mg base 1 c.House "letters" (p_House_letters c)) {f : Addr} {fd : FuncData} (F : Fun K "drop" "House.drop" st_House_drop f fd) : FnOk P w K mg base CX0 6 f fd ["self", "handle"] (toSp (p_House_drop c)) :=
  fnW F sc_House_drop fun cdv A outer s H E H0 hr => have S := sc_House_drop; have hu1 := hu_of hr; have hu64 := hu64_of hr; have hu65 := hu65_of hr;
    (s_cons (s_expr (q_meth c_House_need_hold hr (by decide) (q_var 0) (a_cons (q_var 1) a_nil)))
    (s_cons (s_set (i := 2) S.nd (q_meth c_House_take_unit hr (by decide) (q_var 0) (a_cons (q_var 1) a_nil)))
    (s_cons (s_if (t_ne hu64 (q_ix hu1 (q_var 1) q_int) (q_fld T.cl_House T.na_House_number (q_var 0)))
    (s_one (s_expr (q_mt PySem.F.plainAttrs_list PySem.F.slot_list_append PySem.F.type_list_append mt_append ref_append (q_fld T.cl_House T.na_House_drops (q_var 0)) (u_cons (q_tup (a_cons (q_var 1) (a_cons (q_var 2) a_nil))) u_nil))))
    s_nil)
    (s_cons (s_expr (q_meth0 c_House_settle hr (by decide) (q_var 0)))
    (s_one (s_ret (q_meth0 c_House_letters hr (by decide) (q_var 0))))))))
abbrev st_House_add : Stmt := inClass (top 24) 16
abbrev N_House_add : List Str := ["self", "thing", "number", "one"]
theorem sc_House_add : FnScope N_House_add ["self", "thing", "number"] (defScope st_House_add) := ⟨rfl, rfl, rfl, by decide +kernel, rfl, by decide +kernel, by decide +kernel⟩
theorem fn_House_add (T : Tx K mg c) {f : Addr} {fd : FuncData} (F : Fun K "add" "House.add" st_House_add f fd) : FnOk P w K mg base CX0 1 f fd ["self", "thing", "number"] (toSp (p_House_add c)) :=
  fnW F sc_House_add fun cdv A outer s H E H0 hr => have S := sc_House_add; have hu1 := hu_of hr; have hu64 := hu64_of hr; have hu65 := hu65_of hr;
    (s_cons (s_set (i := 3) S.nd (q_ix hu1 (q_fld T.cl_Things T.na_Things_stand (q_fld T.cl_House T.na_House_own (q_var 0))) (q_var 1)))
    (s_cons (s_fld T.cl_Thing T.na_Thing_worth (q_var 3) (q_mod (q_add (q_fld T.cl_Thing T.na_Thing_worth (q_var 3)) (q_var 2)) (q_gintE T.g_WORTHS)))
    (s_one (s_ret (q_fld T.cl_Thing T.na_Thing_worth (q_var 3))))))
abbrev st_House_call : Stmt := inClass (top 24) 15
abbrev N_House_call : List Str := ["self", "handle", "number"]
theorem sc_House_call : FnScope N_House_call ["self", "handle", "number"] (defScope st_House_call) := ⟨rfl, rfl, rfl, by decide +kernel, rfl, by decide +kernel, by decide +kernel⟩
theorem fn_House_call (T : Tx K mg c) (c_need_handle : Cal P w K mg base 3 "need_handle" (p_need_handle c)) (c_need_worth : Cal P w K mg base 2 "need_worth" (p_need_worth c)) (c_House_need_hold : Met P w K mg base 5 c.House "need_hold" (p_House_need_hold c)) (c_House_add : Met P w K mg base 1 c.House "add" (p_House_add c)) (c_House_ask : Met P w K mg base 1 c.House "ask" (p_House_ask c)) (c_House_letters : Met P w K mg base 1 c.House "letters" (p_House_letters c)) {f : Addr} {fd : FuncData} (F : Fun K "call" "House.call" st_House_call f fd) : FnOk P w K mg base CX0 6 f fd ["self", "handle", "number"] (toSp (p_House_call c)) :=
  fnW F sc_House_call fun cdv A outer s H E H0 hr => have S := sc_House_call; have hu1 := hu_of hr; have hu64 := hu64_of hr; have hu65 := hu65_of hr;
    (s_cons (s_expr (q_call c_need_handle hr (by decide) rfl (a_cons (q_var 1) (a_cons (q_fld T.cl_House T.na_House_many (q_var 0)) a_nil))))
    (s_cons (s_expr (q_call c_need_worth hr (by decide) rfl (a_cons (q_var 2) a_nil)))
    (s_cons (s_expr (q_meth c_House_need_hold hr (by decide) (q_var 0) (a_cons (q_var 1) a_nil)))
    (s_cons (s_expr (q_mt PySem.F.plainAttrs_list PySem.F.slot_list_append PySem.F.type_list_append mt_append ref_append (q_fld T.cl_House T.na_House_calls (q_var 0)) (u_cons q_non u_nil)))
    (s_cons (s_if (t_eq hu64 (q_ix hu1 (q_var 1) q_int) (q_fld T.cl_House T.na_House_number (q_var 0)))
    (s_one (s_ix hu1 (q_fld T.cl_House T.na_House_calls (q_var 0)) (q_neg q_int) (q_meth c_House_add hr (by decide) (q_var 0) (a_cons (q_ix hu1 (q_var 1) q_int) (a_cons (q_var 2) a_nil)))))
    (s_one (s_expr (q_meth c_House_ask hr (by decide) (q_var 0) (a_cons (q_var 1) (a_cons (q_tup (a_cons q_str (a_cons (q_var 2) (a_cons (q_sub (q_callB call_lenA ref_len T.b_len (u_cons (q_fld T.cl_House T.na_House_calls (q_var 0)) u_nil)) q_int) a_nil)))) a_nil))))))
    (s_one (s_ret (q_tup (a_cons (q_sub (q_callB call_lenA ref_len T.b_len (u_cons (q_fld T.cl_House T.na_House_calls (q_var 0)) u_nil)) q_int) (a_cons (q_meth0 c_House_letters hr (by decide) (q_var 0)) a_nil))))))))))
abbrev st_law_alike : Stmt := top 28
abbrev N_law_alike : List Str := ["_law_found", "_law_due", "_law_k"]
theorem sc_law_alike : FnScope N_law_alike ["_law_found", "_law_due"] (defScope st_law_alike) := ⟨rfl, rfl, rfl, by decide +kernel, rfl, by decide +kernel, by decide +kernel⟩
theorem fn_law_alike (T : Tx K mg c) (me : SpW) (k0 : Nat) (cme : Cal P w K mg base k0 "_law_alike" me) {f : Addr} {fd : FuncData} (F : Fun K "_law_alike" "_law_alike" st_law_alike f fd) : FnOk P w K mg base CX0 (k0 + 0 + 1) f fd ["_law_found", "_law_due"] (toSp (bodyW 2 3 (f_law_alike c me))) :=
  fnW F sc_law_alike fun cdv A outer s H E H0 hr => have S := sc_law_alike; have hu1 := hu_of hr; have hu64 := hu64_of hr; have hu65 := hu65_of hr;
    (s_cons (s_if (t_is (q_var 1) q_non)
    (s_one (s_ret (q_is (q_var 0) q_non)))
    s_nil)
    (s_cons (s_if (t_val (q_isi .bl T.b_isinstance T.b_bool (q_var 1)))
    (s_one (s_ret (q_and (q_isi .bl T.b_isinstance T.b_bool (q_var 0)) (q_one (q_eq hu64 (q_var 0) (q_var 1))))))
    s_nil)
    (s_cons (s_if (t_val (q_isi .int T.b_isinstance T.b_int (q_var 1)))
    (s_one (s_ret (q_and (q_isi .int T.b_isinstance T.b_int (q_var 0)) (q_and (q_not (q_isi .bl T.b_isinstance T.b_bool (q_var 0))) (q_one (q_eq hu64 (q_var 0) (q_var 1)))))))
    s_nil)
    (s_cons (s_if (t_val (q_isi .str T.b_isinstance T.b_str (q_var 1)))
    (s_one (s_ret (q_and (q_isi .str T.b_isinstance T.b_str (q_var 0)) (q_one (q_eq hu64 (q_var 0) (q_var 1))))))
    s_nil)
    (s_cons (s_if (PW.pt (w_or (t_ne hu64 (q_isi .tup T.b_isinstance T.b_tuple (q_var 1)) (q_isi .tup T.b_isinstance T.b_tuple (q_var 0))) (w_or1 (t_ne hu64 (q_isi .lst T.b_isinstance T.b_list (q_var 1)) (q_isi .lst T.b_isinstance T.b_list (q_var 0))))))
    (s_one (s_ret q_bl))
    s_nil)
    (s_cons (s_if (t_ne hu64 (q_callB call_lenA ref_len T.b_len (u_cons (q_var 0) u_nil)) (q_callB call_lenA ref_len T.b_len (u_cons (q_var 1) u_nil)))
    (s_one (s_ret q_bl))
    s_nil)
    (s_one (s_ret (q_callB (cr_all rfl) ref_all T.b_all (u_cons (q_lc (own := [("_law_k", 2)]) rfl S.nd (i_range1 rfl T.b_range (a_cons (q_callB call_lenA ref_len T.b_len (u_cons (q_var 1) u_nil)) a_nil)) (blkOk_by (N := N_law_alike) (sc := defScope st_law_alike) (own := [("_law_k", 2)]) (by decide +kernel)) (fun _ _ _ _ _ => (g_nm (i := 2) S.nd)) (fun _ _ _ _ _ => ts_nil) (fun _ _ _ _ _ => (q_call cme hr (by omega) rfl (a_cons (q_ix hu1 (q_var 0) (q_var 2)) (a_cons (q_ix hu1 (q_var 1) (q_var 2)) a_nil))))) u_nil))))))))))
abbrev st_House_turn : Stmt := inClass (top 24) 25
abbrev N_House_turn : List Str := ["self"]
theorem sc_House_turn : FnScope N_House_turn ["self"] (defScope st_House_turn) := ⟨rfl, rfl, rfl, by decide +kernel, rfl, by decide +kernel, by decide +kernel⟩
theorem fn_House_turn (T : Tx K mg c) (c_House_letters : Met P w K mg base 1 c.House "letters" (p_House_letters c)) {f : Addr} {fd : FuncData} (F : Fun K "turn" "House.turn" st_House_turn f fd) : FnOk P w K mg base CX0 2 f fd ["self"] (toSp (p_House_turn c)) :=
  fnW F sc_House_turn fun cdv A outer s H E H0 hr => have S := sc_House_turn; have hu1 := hu_of hr; have hu64 := hu64_of hr; have hu65 := hu65_of hr;
    (s_one (s_ret (q_meth0 c_House_letters hr (by decide) (q_var 0))))
abbrev st_House_get_unit : Stmt := inClass (top 24) 5
abbrev N_House_get_unit : List Str := ["self", "handle", "unit"]
theorem sc_House_get_unit : FnScope N_House_get_unit ["self", "handle", "unit"] (defScope st_House_get_unit) := ⟨rfl, rfl, rfl, by decide +kernel, rfl, by decide +kernel, by decide +kernel⟩
theorem fn_House_get_unit (T : Tx K mg c) {f : Addr} {fd : FuncData} (F : Fun K "get_unit" "House.get_unit" st_House_get_unit f fd) : FnOk P w K mg base CX0 1 f fd ["self", "handle", "unit"] (toSp (p_House_get_unit c)) :=
  fnW F sc_House_get_unit fun cdv A outer s H E H0 hr => have S := sc_House_get_unit; have hu1 := hu_of hr; have hu64 := hu64_of hr; have hu65 := hu65_of hr;
    (s_one (s_if (t_eq hu64 (q_ix hu1 (q_var 1) q_int) (q_fld T.cl_House T.na_House_number (q_var 0)))
    (s_one (s_ix hu1 (q_fld T.cl_Things T.na_Things_own (q_fld T.cl_House T.na_House_own (q_var 0))) (q_ix hu1 (q_var 1) q_int) (q_add (q_ix hu1 (q_fld T.cl_Things T.na_Things_own (q_fld T.cl_House T.na_House_own (q_var 0))) (q_ix hu1 (q_var 1) q_int)) q_int)))
    (s_one (s_expr (q_mt PySem.F.plainAttrs_list PySem.F.slot_list_append PySem.F.type_list_append mt_append ref_append (q_mt PySem.F.plainAttrs_dict PySem.F.slot_dict_setdefault PySem.F.type_dict_setdefault (mt_setd hu1) ref_setd (q_fld T.cl_House T.na_House_units (q_var 0)) (u_cons (q_var 1) (u_cons (q_lst a_nil) u_nil))) (u_cons (q_var 2) u_nil))))))
abbrev st_House_hear_unit : Stmt := inClass (top 24) 27
abbrev N_House_hear_unit : List Str := ["self", "sender", "parts", "thing", "unit"]
theorem sc_House_hear_unit : FnScope N_House_hear_unit ["self", "sender", "parts"] (defScope st_House_hear_unit) := ⟨rfl, rfl, rfl, by decide +kernel, rfl, by decide +kernel, by decide +kernel⟩
theorem fn_House_hear_unit (T : Tx K mg c) (c_House_get_unit : Met P w K mg base 1 c.House "get_unit" (p_House_get_unit c)) {f : Addr} {fd : FuncData} (F : Fun K "hear_unit" "House.hear_unit" st_House_hear_unit f fd) : FnOk P w K mg base CX0 2 f fd ["self", "sender", "parts"] (toSp (p_House_hear_unit c)) :=
  fnW F sc_House_hear_unit fun cdv A outer s H E H0 hr => have S := sc_House_hear_unit; have hu1 := hu_of hr; have hu64 := hu64_of hr; have hu65 := hu65_of hr;
    (s_cons (s_asg (q_var 2) (g_tp rfl (gs_cons (g_nm (i := 3) S.nd) (gs_cons (g_nm (i := 4) S.nd) gs_nil))))
    (s_cons (s_if (t_nin hu65 (q_tup (a_cons (q_var 1) (a_cons (q_var 4) a_nil))) (q_fld T.cl_House T.na_House_units_met (q_var 0)))
    (s_cons (s_ix hu1 (q_fld T.cl_House T.na_House_units_met (q_var 0)) (q_tup (a_cons (q_var 1) (a_cons (q_var 4) a_nil))) q_bl)
    (s_one (s_expr (q_meth c_House_get_unit hr (by decide) (q_var 0) (a_cons (q_tup (a_cons (q_var 1) (a_cons (q_var 3) a_nil))) (a_cons (q_var 4) a_nil))))))
    s_nil)
    (s_one (s_ret (q_lst (a_cons (q_tup (a_cons (q_var 1) (a_cons (q_tup (a_cons (q_fld T.cl_House T.na_House_number (q_var 0)) (a_cons q_str (a_cons q_str (a_cons (q_var 4) (a_cons q_non a_nil)))))) a_nil))) a_nil))))))
abbrev st_House_answer : Stmt := inClass (top 24) 29
abbrev N_House_answer : List Str := ["self", "thing", "what"]
theorem sc_House_answer : FnScope N_House_answer ["self", "thing", "what"] (defScope st_House_answer) := ⟨rfl, rfl, rfl, by decide +kernel, rfl, by decide +kernel, by decide +kernel⟩
theorem fn_House_answer (T : Tx K mg c) (c_House_lend : Met P w K mg base 1 c.House "lend" (p_House_lend c)) (c_House_add : Met P w K mg base 1 c.House "add" (p_House_add c)) {f : Addr} {fd : FuncData} (F : Fun K "answer" "House.answer" st_House_answer f fd) : FnOk P w K mg base CX0 2 f fd ["self", "thing", "what"] (toSp (p_House_answer c)) :=
  fnW F sc_House_answer fun cdv A outer s H E H0 hr => have S := sc_House_answer; have hu1 := hu_of hr; have hu64 := hu64_of hr; have hu65 := hu65_of hr;
    (s_cons (s_if (t_eq hu64 (q_ix hu1 (q_var 2) q_int) q_str)
    (s_cons (s_if (t_in hu65 (q_var 1) (q_fld T.cl_Things T.na_Things_stand (q_fld T.cl_House T.na_House_own (q_var 0))))
    (s_one (s_expr (q_meth c_House_lend hr (by decide) (q_var 0) (a_cons (q_var 1) (a_cons (q_ix hu1 (q_var 2) q_int) a_nil)))))
    s_nil)
    (s_one (s_ret (q_gintE T.g_OWN))))
    s_nil)
    (s_one (s_ret (q_ifx (t_in hu65 (q_var 1) (q_fld T.cl_Things T.na_Things_stand (q_fld T.cl_House T.na_House_own (q_var 0)))) (q_meth c_House_add hr (by decide) (q_var 0) (a_cons (q_var 1) (a_cons (q_ix hu1 (q_var 2) q_int) a_nil))) (q_gstrE T.g_DEAD)))))
abbrev st_House_hear_ask : Stmt := inClass (top 24) 28
abbrev N_House_hear_ask : List Str := ["self", "sender", "parts", "number", "thing", "what", "answer"]
theorem sc_House_hear_ask : FnScope N_House_hear_ask ["self", "sender", "parts"] (defScope st_House_hear_ask) := ⟨rfl, rfl, rfl, by decide +kernel, rfl, by decide +kernel, by decide +kernel⟩
theorem fn_House_hear_ask (T : Tx K mg c) (c_House_answer : Met P w K mg base 2 c.House "answer" (p_House_answer c)) {f : Addr} {fd : FuncData} (F : Fun K "hear_ask" "House.hear_ask" st_House_hear_ask f fd) : FnOk P w K mg base CX0 3 f fd ["self", "sender", "parts"] (toSp (p_House_hear_ask c)) :=
  fnW F sc_House_hear_ask fun cdv A outer s H E H0 hr => have S := sc_House_hear_ask; have hu1 := hu_of hr; have hu64 := hu64_of hr; have hu65 := hu65_of hr;
    (s_cons (s_asg (q_var 2) (g_tp rfl (gs_cons (g_nm (i := 3) S.nd) (gs_cons (g_nm (i := 4) S.nd) (gs_cons (g_nm (i := 5) S.nd) gs_nil)))))
    (s_cons (s_if (t_nin hu65 (q_tup (a_cons (q_var 1) (a_cons (q_var 3) a_nil))) (q_fld T.cl_House T.na_House_done (q_var 0)))
    (s_one (s_ix hu1 (q_fld T.cl_House T.na_House_done (q_var 0)) (q_tup (a_cons (q_var 1) (a_cons (q_var 3) a_nil))) (q_meth c_House_answer hr (by decide) (q_var 0) (a_cons (q_var 4) (a_cons (q_var 5) a_nil)))))
    s_nil)
    (s_cons (s_set (i := 6) S.nd (q_ix hu1 (q_fld T.cl_House T.na_House_done (q_var 0)) (q_tup (a_cons (q_var 1) (a_cons (q_var 3) a_nil)))))
    (s_one (s_ret (q_lst (a_cons (q_tup (a_cons (q_var 1) (a_cons (q_tup (a_cons (q_fld T.cl_House T.na_House_number (q_var 0)) (a_cons q_str (a_cons q_str (a_cons (q_var 3) (a_cons (q_var 6) a_nil)))))) a_nil))) a_nil)))))))
abbrev st_House_hear_drop : Stmt := inClass (top 24) 30
abbrev N_House_hear_drop : List Str := ["self", "sender", "parts"]
theorem sc_House_hear_drop : FnScope N_House_hear_drop ["self", "sender", "parts"] (defScope st_House_hear_drop) := ⟨rfl, rfl, rfl, by decide +kernel, rfl, by decide +kernel, by decide +kernel⟩
theorem fn_House_hear_drop (T : Tx K mg c) {f : Addr} {fd : FuncData} (F : Fun K "hear_drop" "House.hear_drop" st_House_hear_drop f fd) : FnOk P w K mg base CX0 1 f fd ["self", "sender", "parts"] (toSp (p_House_hear_drop c)) :=
  fnW F sc_House_hear_drop fun cdv A outer s H E H0 hr => have S := sc_House_hear_drop; have hu1 := hu_of hr; have hu64 := hu64_of hr; have hu65 := hu65_of hr;
    (s_cons (s_expr (q_mt PySem.F.plainAttrs_dict PySem.F.slot_dict_pop PySem.F.type_dict_pop (mt_dpop hu1) ref_dpop (q_fld T.cl_Things T.na_Things_lent (q_fld T.cl_House T.na_House_own (q_var 0))) (u_cons (q_tup (a_cons (q_var 1) (a_cons (q_ix hu1 (q_var 2) q_int) a_nil))) (u_cons q_non u_nil))))
    (s_cons (s_expr (q_mt PySem.F.plainAttrs_dict PySem.F.slot_dict_pop PySem.F.type_dict_pop (mt_dpop hu1) ref_dpop (q_fld T.cl_House T.na_House_untold (q_var 0)) (u_cons (q_tup (a_cons (q_var 1) (a_cons (q_ix hu1 (q_var 2) q_int) a_nil))) (u_cons q_non u_nil))))
    (s_one (s_ret (q_lst (a_cons (q_tup (a_cons (q_var 1) (a_cons (q_tup (a_cons (q_fld T.cl_House T.na_House_number (q_var 0)) (a_cons q_str (a_cons q_str (a_cons (q_ix hu1 (q_var 2) q_int) (a_cons q_non a_nil)))))) a_nil))) a_nil))))))
abbrev st_House_hear_heard : Stmt := inClass (top 24) 31
abbrev N_House_hear_heard : List Str := ["self", "sender", "parts", "word", "number", "answer", "handle", "what", "one"]
theorem sc_House_hear_heard : FnScope N_House_hear_heard ["self", "sender", "parts"] (defScope st_House_hear_heard) := ⟨rfl, rfl, rfl, by decide +kernel, rfl, by decide +kernel, by decide +kernel⟩
theorem fn_House_hear_heard (T : Tx K mg c) {f : Addr} {fd : FuncData} (F : Fun K "hear_heard" "House.hear_heard" st_House_hear_heard f fd) : FnOk P w K mg base CX0 1 f fd ["self", "sender", "parts"] (toSp (p_House_hear_heard c)) :=
  fnW F sc_House_hear_heard fun cdv A outer s H E H0 hr => have S := sc_House_hear_heard; have hu1 := hu_of hr; have hu64 := hu64_of hr; have hu65 := hu65_of hr;
    (s_cons (s_asg (q_var 2) (g_tp rfl (gs_cons (g_nm (i := 3) S.nd) (gs_cons (g_nm (i := 4) S.nd) (gs_cons (g_nm (i := 5) S.nd) gs_nil)))))
    (s_cons (s_if (t_eq hu64 (q_var 3) q_str)
    (s_one (s_expr (q_mt PySem.F.plainAttrs_dict PySem.F.slot_dict_pop PySem.F.type_dict_pop (mt_dpop hu1) ref_dpop (q_fld T.cl_House T.na_House_untold (q_var 0)) (u_cons (q_tup (a_cons (q_var 1) (a_cons (q_var 4) a_nil))) (u_cons q_non u_nil)))))
    (s_one (s_if (t_eq hu64 (q_var 3) q_str)
    (s_one (s_fld T.cl_House T.na_House_drops (q_var 0) (q_lc (own := [("one", 8)]) rfl S.nd (i_any (q_fld T.cl_House T.na_House_drops (q_var 0))) (blkOk_by (N := N_House_hear_heard) (sc := defScope st_House_hear_heard) (own := [("one", 8)]) (by decide +kernel)) (fun _ _ _ _ _ => (g_nm (i := 8) S.nd)) (fun _ _ _ _ _ => (ts_one (PW.pt (w_or (t_ne hu64 (q_ix hu1 (q_ix hu1 (q_var 8) q_int) q_int) (q_var 1)) (w_or1 (t_ne hu64 (q_ix hu1 (q_var 8) q_int) (q_var 4))))))) (fun _ _ _ _ _ => (q_var 8)))))
    (s_one (s_if (t_in hu65 (q_var 4) (q_fld T.cl_House T.na_House_asks (q_var 0)))
    (s_cons (s_asg (q_mt PySem.F.plainAttrs_dict PySem.F.slot_dict_pop PySem.F.type_dict_pop (mt_dpop hu1) ref_dpop (q_fld T.cl_House T.na_House_asks (q_var 0)) (u_cons (q_var 4) u_nil)) (g_tp rfl (gs_cons (g_nm (i := 6) S.nd) (gs_cons (g_nm (i := 7) S.nd) gs_nil))))
    (s_one (s_if (t_eq hu64 (q_ix hu1 (q_var 7) q_int) q_str)
    (s_one (s_ix hu1 (q_fld T.cl_House T.na_House_calls (q_var 0)) (q_ix hu1 (q_var 7) q_int) (q_var 5)))
    s_nil)))
    s_nil)))))
    (s_one (s_ret (q_lst a_nil)))))
abbrev st_House_bring : Stmt := inClass (top 24) 26
abbrev N_House_bring : List Str := ["self", "letter", "sender", "word", "parts", "found"]
theorem sc_House_bring : FnScope N_House_bring ["self", "letter"] (defScope st_House_bring) := ⟨rfl, rfl, rfl, by decide +kernel, rfl, by decide +kernel, by decide +kernel⟩
theorem fn_House_bring (T : Tx K mg c) (c_House_hear_unit : Met P w K mg base 2 c.House "hear_unit" (p_House_hear_unit c)) (c_House_hear_ask : Met P w K mg base 3 c.House "hear_ask" (p_House_hear_ask c)) (c_House_hear_drop : Met P w K mg base 1 c.House "hear_drop" (p_House_hear_drop c)) (c_House_hear_heard : Met P w K mg base 1 c.House "hear_heard" (p_House_hear_heard c)) (c_House_settle : Met P w K mg base 3 c.House "settle" (p_House_settle c)) {f : Addr} {fd : FuncData} (F : Fun K "bring" "House.bring" st_House_bring f fd) : FnOk P w K mg base CX0 4 f fd ["self", "letter"] (toSp (p_House_bring c)) :=
  fnW F sc_House_bring fun cdv A outer s H E H0 hr => have S := sc_House_bring; have hu1 := hu_of hr; have hu64 := hu64_of hr; have hu65 := hu65_of hr;
    (s_cons (s_if (t_ne hu64 (q_ix hu1 (q_var 1) q_int) (q_fld T.cl_House T.na_House_number (q_var 0)))
    (s_one s_never)
    s_nil)
    (s_cons (s_asg (q_slice (q_ix hu1 (q_var 1) q_int) o_none (o_some q_int)) (g_tp rfl (gs_cons (g_nm (i := 2) S.nd) (gs_cons (g_nm (i := 3) S.nd) gs_nil))))
    (s_cons (s_if (t_in hu65 (q_var 2) (q_fld T.cl_House T.na_House_dead (q_var 0)))
    (s_one (s_ret (q_lst a_nil)))
    s_nil)
    (s_cons (s_set (i := 4) S.nd (q_slice (q_ix hu1 (q_var 1) q_int) (o_some q_int) o_none))
    (s_cons (s_if (t_eq hu64 (q_var 3) q_str)
    (s_one (s_set (i := 5) S.nd (q_meth c_House_hear_unit hr (by decide) (q_var 0) (a_cons (q_var 2) (a_cons (q_var 4) a_nil)))))
    (s_one (s_if (t_eq hu64 (q_var 3) q_str)
    (s_one (s_set (i := 5) S.nd (q_meth c_House_hear_ask hr (by decide) (q_var 0) (a_cons (q_var 2) (a_cons (q_var 4) a_nil)))))
    (s_one (s_set (i := 5) S.nd (q_ifx (t_eq hu64 (q_var 3) q_str) (q_meth c_House_hear_drop hr (by decide) (q_var 0) (a_cons (q_var 2) (a_cons (q_var 4) a_nil))) (q_meth c_House_hear_heard hr (by decide) (q_var 0) (a_cons (q_var 2) (a_cons (q_var 4) a_nil)))))))))
    (s_cons (s_expr (q_meth0 c_House_settle hr (by decide) (q_var 0)))
    (s_one (s_ret (q_var 5)))))))))
abbrev st_House_notes : Stmt := inClass (top 24) 19
abbrev N_House_notes : List Str := ["self"]
theorem sc_House_notes : FnScope N_House_notes ["self"] (defScope st_House_notes) := ⟨rfl, rfl, rfl, by decide +kernel, rfl, by decide +kernel, by decide +kernel⟩
theorem fn_House_notes (T : Tx K mg c) {f : Addr} {fd : FuncData} (F : Fun K "notes" "House.notes" st_House_notes f fd) : FnOk P w K mg base CX0 1 f fd ["self"] (toSp (p_House_notes c)) :=
  fnW F sc_House_notes fun cdv A outer s H E H0 hr => have S := sc_House_notes; have hu1 := hu_of hr; have hu64 := hu64_of hr; have hu65 := hu65_of hr;
    (s_one (s_ret (q_callB (call_sortW rfl hu64) ref_sorted T.b_sorted (u_cons (q_fld T.cl_House T.na_House_told (q_var 0)) u_nil))))
abbrev st_House_answers : Stmt := inClass (top 24) 17
abbrev N_House_answers : List Str := ["self", "call", "answer"]
theorem sc_House_answers : FnScope N_House_answers ["self"] (defScope st_House_answers) := ⟨rfl, rfl, rfl, by decide +kernel, rfl, by decide +kernel, by decide +kernel⟩
theorem fn_House_answers (T : Tx K mg c) {f : Addr} {fd : FuncData} (F : Fun K "answers" "House.answers" st_House_answers f fd) : FnOk P w K mg base CX0 1 f fd ["self"] (toSp (p_House_answers c)) :=
  fnW F sc_House_answers fun cdv A outer s H E H0 hr => have S := sc_House_answers; have hu1 := hu_of hr; have hu64 := hu64_of hr; have hu65 := hu65_of hr;
    (s_one (s_ret (q_lc (own := [("call", 1), ("answer", 2)]) rfl S.nd (i_enum rfl T.b_enumerate (a_cons (q_fld T.cl_House T.na_House_calls (q_var 0)) a_nil)) (blkOk_by (N := N_House_answers) (sc := defScope st_House_answers) (own := [("call", 1), ("answer", 2)]) (by decide +kernel)) (fun _ _ _ _ _ => (g_tp rfl (gs_cons (g_nm (i := 1) S.nd) (gs_cons (g_nm (i := 2) S.nd) gs_nil)))) (fun _ _ _ _ _ => (ts_one (t_isnot (q_var 2) q_non))) (fun _ _ _ _ _ => (q_tup (a_cons (q_var 1) (a_cons (q_var 2) a_nil)))))))
abbrev st_House_things : Stmt := inClass (top 24) 20
abbrev N_House_things : List Str := ["self", "thing"]
theorem sc_House_things : FnScope N_House_things ["self"] (defScope st_House_things) := ⟨rfl, rfl, rfl, by decide +kernel, rfl, by decide +kernel, by decide +kernel⟩
theorem fn_House_things (T : Tx K mg c) {f : Addr} {fd : FuncData} (F : Fun K "things" "House.things" st_House_things f fd) : FnOk P w K mg base CX0 1 f fd ["self"] (toSp (p_House_things c)) :=
  fnW F sc_House_things fun cdv A outer s H E H0 hr => have S := sc_House_things; have hu1 := hu_of hr; have hu64 := hu64_of hr; have hu65 := hu65_of hr;
    (s_one (s_ret (q_lc (own := [("thing", 1)]) rfl S.nd (i_any (q_callB (call_sortW rfl hu64) ref_sorted T.b_sorted (u_cons (q_fld T.cl_Things T.na_Things_stand (q_fld T.cl_House T.na_House_own (q_var 0))) u_nil))) (blkOk_by (N := N_House_things) (sc := defScope st_House_things) (own := [("thing", 1)]) (by decide +kernel)) (fun _ _ _ _ _ => (g_nm (i := 1) S.nd)) (fun _ _ _ _ _ => ts_nil) (fun _ _ _ _ _ => (q_tup (a_cons (q_var 1) (a_cons (q_fld T.cl_Thing T.na_Thing_worth (q_ix hu1 (q_fld T.cl_Things T.na_Things_stand (q_fld T.cl_House T.na_House_own (q_var 0))) (q_var 1))) a_nil)))))))
abbrev st_law : Stmt := top 29
abbrev N_law : List Str := ["_law_script", "_law_d", "_law_houses", "_law_turn", "_law_side", "_law_one", "_law_other", "_law_had", "_law_kind", "_law_works", "_law_handle", "_law_letters", "_law_letter", "_law_told", "_law_k", "_law_part", "_law_row", "_law_house"]
theorem sc_law : FnScope N_law ["_law_script"] (defScope st_law) := ⟨rfl, rfl, rfl, by decide +kernel, rfl, by decide +kernel, by decide +kernel⟩
theorem fn_law (T : Tx K mg c) (c_law_dice : Cal P w K mg base 1 "_law_dice" (p_law_dice c K)) (c_House_init : Mak P w K mg base 3 "House" c.House (p_House_init c)) (c_law_off : Cal P w K mg base 1 "_law_off" (p_law_off c)) (c_House_table : Met P w K mg base 1 c.House "table" (p_House_table c)) (c_House_make : Met P w K mg base 4 c.House "make" (p_House_make c)) (c_House_give : Met P w K mg base 6 c.House "give" (p_House_give c)) (c_House_drop : Met P w K mg base 6 c.House "drop" (p_House_drop c)) (c_House_call : Met P w K mg base 6 c.House "call" (p_House_call c)) (c_law_alike : Cal P w K mg base 8 "_law_alike" (p_law_alike c)) (c_House_turn : Met P w K mg base 2 c.House "turn" (p_House_turn c)) (c_House_bring : Met P w K mg base 4 c.House "bring" (p_House_bring c)) (c_House_notes : Met P w K mg base 1 c.House "notes" (p_House_notes c)) (c_House_answers : Met P w K mg base 1 c.House "answers" (p_House_answers c)) (c_House_things : Met P w K mg base 1 c.House "things" (p_House_things c)) {f : Addr} {fd : FuncData} (F : Fun K "law" "law" st_law f fd) : FnOk P w K mg base CX0 9 f fd ["_law_script"] (toSp (p_law c K)) :=
  fnW F sc_law fun cdv A outer s H E H0 hr => have S := sc_law; have hu1 := hu_of hr; have hu64 := hu64_of hr; have hu65 := hu65_of hr;
    (s_cons (s_set (i := 1) S.nd (q_call c_law_dice hr (by decide) rfl (a_cons (q_var 0) (a_cons q_int a_nil))))
    (s_cons (s_set (i := 2) S.nd (q_lc (own := [("_law_k", 14)]) rfl S.nd (i_range1 rfl T.b_range (a_cons q_int a_nil)) (blkOk_by (N := N_law) (sc := defScope st_law) (own := [("_law_k", 14)]) (by decide +kernel)) (fun _ _ _ _ _ => (g_nm (i := 14) S.nd)) (fun _ _ _ _ _ => ts_nil) (fun _ _ _ _ _ => (q_make c_House_init hr (by decide) rfl (a_cons (q_fdiv (q_var 14) q_int) (a_cons q_int a_nil))))))
    (s_cons (s_for PassesOwn.never rfl (i_range1 rfl T.b_range (a_cons (q_call c_law_off hr (by decide) rfl (a_cons (q_var 1) (a_cons q_int a_nil))) a_nil)) (g_nm (i := 3) S.nd)
    (s_cons (s_set (i := 4) S.nd (q_call c_law_off hr (by decide) rfl (a_cons (q_var 1) (a_cons q_int a_nil))))
    (s_cons (s_par (i := 5) (j := 6) rfl S.nd (a_cons (q_ix hu1 (q_var 2) (q_mul q_int (q_var 4))) (a_cons (q_ix hu1 (q_var 2) (q_add (q_mul q_int (q_var 4)) q_int)) a_nil)))
    (s_cons (s_setLc (i := 7) (own := [("_law_row", 16)]) rfl S.nd (i_any (q_ix hu1 (q_meth0 c_House_table hr (by decide) (q_var 5)) q_int)) (blkOk_by (N := N_law) (sc := defScope st_law) (own := [("_law_row", 16)]) (by decide +kernel)) (fun _ _ _ _ _ => (g_nm (i := 16) S.nd)) (fun _ _ _ _ _ => ts_nil) (fun _ _ _ _ _ => (q_ix hu1 (q_var 16) q_int)) (sw_true rfl rfl rfl (by decide +kernel)))
    (s_cons (s_set (i := 8) S.nd (q_call c_law_off hr (by decide) rfl (a_cons (q_var 1) (a_cons q_int a_nil))))
    (s_cons (s_if (PW.pt (w_or (t_eq hu64 (q_var 7) (q_lst a_nil)) (w_or1 (t_eq hu64 (q_var 8) q_int))))
    (s_one (s_setLc (i := 9) (own := [("_law_house", 17)]) rfl S.nd (i_any (q_tup (a_cons (q_var 5) (a_cons (q_var 6) a_nil)))) (blkOk_by (N := N_law) (sc := defScope st_law) (own := [("_law_house", 17)]) (by decide +kernel)) (fun _ _ _ _ _ => (g_nm (i := 17) S.nd)) (fun _ _ _ _ _ => ts_nil) (fun _ _ _ _ _ => (q_meth c_House_make hr (by decide) (q_var 17) (a_cons (q_var 3) a_nil))) (sw_true rfl rfl rfl (by decide +kernel))))
    (s_cons (s_set (i := 10) S.nd (q_ix hu1 (q_var 7) (q_call c_law_off hr (by decide) rfl (a_cons (q_var 1) (a_cons (q_callB call_lenA ref_len T.b_len (u_cons (q_var 7) u_nil)) a_nil)))))
    (s_one (s_if (t_eq hu64 (q_var 8) q_int)
    (s_one (s_setLc (i := 9) (own := [("_law_house", 17)]) rfl S.nd (i_any (q_tup (a_cons (q_var 5) (a_cons (q_var 6) a_nil)))) (blkOk_by (N := N_law) (sc := defScope st_law) (own := [("_law_house", 17)]) (by decide +kernel)) (fun _ _ _ _ _ => (g_nm (i := 17) S.nd)) (fun _ _ _ _ _ => ts_nil) (fun _ _ _ _ _ => (q_meth c_House_give hr (by decide) (q_var 17) (a_cons (q_var 10) (a_cons (q_sub q_int (q_var 4)) a_nil)))) (sw_true rfl rfl rfl (by decide +kernel))))
    (s_one (s_if (t_eq hu64 (q_var 8) q_int)
    (s_one (s_setLc (i := 9) (own := [("_law_house", 17)]) rfl S.nd (i_any (q_tup (a_cons (q_var 5) (a_cons (q_var 6) a_nil)))) (blkOk_by (N := N_law) (sc := defScope st_law) (own := [("_law_house", 17)]) (by decide +kernel)) (fun _ _ _ _ _ => (g_nm (i := 17) S.nd)) (fun _ _ _ _ _ => ts_nil) (fun _ _ _ _ _ => (q_meth c_House_drop hr (by decide) (q_var 17) (a_cons (q_var 10) a_nil))) (sw_true rfl rfl rfl (by decide +kernel))))
    (s_one (s_setLc (i := 9) (own := [("_law_house", 17)]) rfl S.nd (i_any (q_tup (a_cons (q_var 5) (a_cons (q_var 6) a_nil)))) (blkOk_by (N := N_law) (sc := defScope st_law) (own := [("_law_house", 17)]) (by decide +kernel)) (fun _ _ _ _ _ => (g_nm (i := 17) S.nd)) (fun _ _ _ _ _ => ts_nil) (fun _ _ _ _ _ => (q_meth c_House_call hr (by decide) (q_var 17) (a_cons (q_var 10) (a_cons q_int a_nil)))) (sw_true rfl rfl rfl (by decide +kernel))))))))))
    (s_cons (s_if (t_not (t_val (q_call c_law_alike hr (by decide) rfl (a_cons (q_ix hu1 (q_var 9) q_int) (a_cons (q_ix hu1 (q_var 9) q_int) a_nil)))))
    (s_one (s_ret q_bl))
    s_nil)
    (s_cons (s_setLc (i := 11) (own := [("_law_k", 14)]) rfl S.nd (i_range1 rfl T.b_range (a_cons q_int a_nil)) (blkOk_by (N := N_law) (sc := defScope st_law) (own := [("_law_k", 14)]) (by decide +kernel)) (fun _ _ _ _ _ => (g_nm (i := 14) S.nd)) (fun _ _ _ _ _ => ts_nil) (fun _ _ _ _ _ => (q_meth0 c_House_turn hr (by decide) (q_ix hu1 (q_var 2) (q_var 14)))) (sw_true rfl rfl rfl (by decide +kernel)))
    (s_cons (s_if (PW.pt (w_or (t_ne hu64 (q_ix hu1 (q_var 11) q_int) (q_ix hu1 (q_var 11) q_int)) (w_or1 (t_ne hu64 (q_ix hu1 (q_var 11) q_int) (q_ix hu1 (q_var 11) q_int)))))
    (s_one (s_ret q_bl))
    s_nil)
    (s_cons (s_for PassesOwn.never rfl (i_any (q_ix hu1 (q_var 11) (q_mul q_int (q_var 4)))) (g_nm (i := 12) S.nd)
    (s_cons (s_setLc (i := 13) (own := [("_law_house", 17)]) rfl S.nd (i_any (q_slice (q_var 2) (o_some (q_mul q_int (q_ix hu1 (q_var 12) q_int))) (o_some (q_add (q_mul q_int (q_ix hu1 (q_var 12) q_int)) q_int)))) (blkOk_by (N := N_law) (sc := defScope st_law) (own := [("_law_house", 17)]) (by decide +kernel)) (fun _ _ _ _ _ => (g_nm (i := 17) S.nd)) (fun _ _ _ _ _ => ts_nil) (fun _ _ _ _ _ => (q_meth c_House_bring hr (by decide) (q_var 17) (a_cons (q_var 12) a_nil))) (sw_true rfl rfl rfl (by decide +kernel)))
    (s_cons (s_if (t_ne hu64 (q_ix hu1 (q_var 13) q_int) (q_ix hu1 (q_var 13) q_int))
    (s_one (s_ret q_bl))
    s_nil)
    (s_one (s_expr (q_mt0 PySem.F.plainAttrs_list PySem.F.slot_list_clear PySem.F.type_list_clear mt_clear ref_clear (q_ix hu1 (q_var 13) q_int)))))))
    (s_cons (s_expr (q_mt0 PySem.F.plainAttrs_list PySem.F.slot_list_clear PySem.F.type_list_clear mt_clear ref_clear (q_ix hu1 (q_var 11) q_int)))
    (s_cons (s_expr (q_mt PySem.F.plainAttrs_list PySem.F.slot_list_append PySem.F.type_list_append mt_append ref_append (q_ix hu1 (q_var 11) q_int) (u_cons (q_tup a_nil) u_nil)))
    (s_cons (s_for PassesOwn.never rfl (i_any (q_tup (a_cons q_int (a_cons q_int a_nil)))) (g_nm (i := 14) S.nd)
    (s_one (s_for PassesOwn.never rfl (i_any (q_tup (a_cons (q_meth0 c_House_things hr (by decide) (q_ix hu1 (q_var 2) (q_var 14))) (a_cons (q_meth0 c_House_answers hr (by decide) (q_ix hu1 (q_var 2) (q_var 14))) (a_cons (q_meth0 c_House_notes hr (by decide) (q_ix hu1 (q_var 2) (q_var 14))) a_nil))))) (g_nm (i := 15) S.nd)
    (s_one (s_expr (q_mt PySem.F.plainAttrs_list PySem.F.slot_list_append PySem.F.type_list_append mt_append ref_append (q_var 15) (u_cons q_int u_nil)))))))
    (s_one (s_for PassesOwn.never rfl (i_any (q_tup (a_cons q_int (a_cons q_int a_nil)))) (g_nm (i := 14) S.nd)
    (s_one (s_if (PW.pt (w_or (t_ne hu64 (q_meth0 c_House_table hr (by decide) (q_ix hu1 (q_var 2) (q_var 14))) (q_meth0 c_House_table hr (by decide) (q_ix hu1 (q_var 2) (q_add (q_var 14) q_int)))) (w_or1 (t_ne hu64 (q_meth0 c_House_things hr (by decide) (q_ix hu1 (q_var 2) (q_var 14))) (q_meth0 c_House_things hr (by decide) (q_ix hu1 (q_var 2) (q_add (q_var 14) q_int)))))))
    (s_one (s_ret q_bl))
    s_nil)))))))))))))))))
    (s_one (s_ret q_bl)))))
end
end Dn

namespace Dn
open PySem L2 PyProof.Rows PySem.W
set_option maxHeartbeats 8000000 in
theorem all_mk {l : PySem.W.OpenLaw} {w : World} {K : PySem.W.Frag} {h : Heap} {mg : Str → Option Value} {fa C_House C_Things C_Thing f0 f1 f2 f3 f4 f5 f6 f7 f8 f9 f10 f11 f12 f13 f14 f15 f16 f17 f18 f19 f20 f21 f22 f23 f24 f25 f26 f27 f28 f29 f30 f31 f32 f33 f34 f35 f36 f37 f38 f39 : Addr} (X : K.In h) (G : h.Ns mainGlobals mg) (hfa : mg "law" = some (.ref fa))
    {od0 an0 od1 an1 od2 an2 od3 an3 od4 an4 od5 an5 od6 an6 od7 an7 od8 an8 od9 an9 od10 an10 od11 an11 od12 an12 od13 an13 od14 an14 od15 an15 od16 an16 od17 an17 od18 an18 od19 an19 od20 an20 od21 an21 od22 an22 od23 an23 od24 an24 od25 an25 od26 an26 od27 an27 od28 an28 od29 an29 od30 an30 od31 an31 od32 an32 od33 an33 od34 an34 od35 an35 od36 an36 od37 an37 od38 an38 od39 an39 : Option Addr} {sl0 sl1 sl2 sl3 sl4 sl5 sl6 sl7 sl8 sl9 sl10 sl11 sl12 sl13 sl14 sl15 sl16 sl17 sl18 sl19 sl20 sl21 sl22 sl23 sl24 sl25 sl26 sl27 sl28 sl29 sl30 sl31 sl32 sl33 sl34 sl35 sl36 sl37 sl38 sl39 : Array (Option Value)} {oc0 kV0 dc0 pm0 cd0 ct0 oc1 kV1 dc1 pm1 cd1 ct1 oc2 kV2 dc2 pm2 cd2 ct2 oc3 kV3 dc3 pm3 cd3 ct3 oc4 kV4 dc4 pm4 cd4 ct4 oc5 kV5 dc5 pm5 cd5 ct5 oc6 kV6 dc6 pm6 cd6 ct6 oc7 kV7 dc7 pm7 cd7 ct7 oc8 kV8 dc8 pm8 cd8 ct8 oc9 kV9 dc9 pm9 cd9 ct9 oc10 kV10 dc10 pm10 cd10 ct10 oc11 kV11 dc11 pm11 cd11 ct11 oc12 kV12 dc12 pm12 cd12 ct12 oc13 kV13 dc13 pm13 cd13 ct13 oc14 kV14 dc14 pm14 cd14 ct14 oc15 kV15 dc15 pm15 cd15 ct15 oc16 kV16 dc16 pm16 cd16 ct16 oc17 kV17 dc17 pm17 cd17 ct17 oc18 kV18 dc18 pm18 cd18 ct18 oc19 kV19 dc19 pm19 cd19 ct19 oc20 kV20 dc20 pm20 cd20 ct20 oc21 kV21 dc21 pm21 cd21 ct21 oc22 kV22 dc22 pm22 cd22 ct22 oc23 kV23 dc23 pm23 cd23 ct23 oc24 kV24 dc24 pm24 cd24 ct24 oc25 kV25 dc25 pm25 cd25 ct25 oc26 kV26 dc26 pm26 cd26 ct26 oc27 kV27 dc27 pm27 cd27 ct27 oc28 kV28 dc28 pm28 cd28 ct28 oc29 kV29 dc29 pm29 cd29 ct29 oc30 kV30 dc30 pm30 cd30 ct30 oc31 kV31 dc31 pm31 cd31 ct31 oc32 kV32 dc32 pm32 cd32 ct32 oc33 kV33 dc33 pm33 cd33 ct33 oc34 kV34 dc34 pm34 cd34 ct34 oc35 kV35 dc35 pm35 cd35 ct35 oc36 kV36 dc36 pm36 cd36 ct36 oc37 kV37 dc37 pm37 cd37 ct37 oc38 kV38 dc38 pm38 cd38 ct38 oc39 kV39 dc39 pm39 cd39 ct39 : Value}
    (a_House : PySem.W.nsIn K mainGlobals "House" = some (some (.ref C_House)))
    (a_Things : PySem.W.nsIn K mainGlobals "Things" = some (some (.ref C_Things)))
    (a_Thing : PySem.W.nsIn K mainGlobals "Thing" = some (some (.ref C_Thing)))
    (a0 : PySem.W.nsIn K mainGlobals "_law_dice" = some (some (.ref f0)))
    (l0 : K.lookup f0 = some ⟨oc0, od0, .func (PySem.W.fnOf "_law_dice" "_law_dice" (defArgs st_law_dice) (defBody st_law_dice) (defScope st_law_dice) .none kV0 dc0 pm0 an0 cd0 ct0), sl0⟩) (c0 : PySem.W.codeIn K cd0 "_law_dice" = true) (k0 : PySem.W.keepIn K (.ref f0) = true)
    (a1 : PySem.W.nsIn K mainGlobals "is_between" = some (some (.ref f1)))
    (l1 : K.lookup f1 = some ⟨oc1, od1, .func (PySem.W.fnOf "is_between" "is_between" (defArgs st_is_between) (defBody st_is_between) (defScope st_is_between) .none kV1 dc1 pm1 an1 cd1 ct1), sl1⟩) (c1 : PySem.W.codeIn K cd1 "is_between" = true) (k1 : PySem.W.keepIn K (.ref f1) = true)
    (a2 : PySem.W.nsIn K mainGlobals "need_house" = some (some (.ref f2)))
    (l2 : K.lookup f2 = some ⟨oc2, od2, .func (PySem.W.fnOf "need_house" "need_house" (defArgs st_need_house) (defBody st_need_house) (defScope st_need_house) .none kV2 dc2 pm2 an2 cd2 ct2), sl2⟩) (c2 : PySem.W.codeIn K cd2 "need_house" = true) (k2 : PySem.W.keepIn K (.ref f2) = true)
    (a3 : PySem.W.findIn K (.ref C_Things) "__init__" = some (some (.ref f3))) (i3 : PySem.W.isFn K (.ref f3) = true)
    (l3 : K.lookup f3 = some ⟨oc3, od3, .func (PySem.W.fnOf "__init__" "Things.__init__" (defArgs st_Things_init) (defBody st_Things_init) (defScope st_Things_init) .none kV3 dc3 pm3 an3 cd3 ct3), sl3⟩) (c3 : PySem.W.codeIn K cd3 "Things.__init__" = true) (k3 : PySem.W.keepIn K (.ref f3) = true)
    (a4 : PySem.W.findIn K (.ref C_House) "__init__" = some (some (.ref f4))) (i4 : PySem.W.isFn K (.ref f4) = true)
    (l4 : K.lookup f4 = some ⟨oc4, od4, .func (PySem.W.fnOf "__init__" "House.__init__" (defArgs st_House_init) (defBody st_House_init) (defScope st_House_init) .none kV4 dc4 pm4 an4 cd4 ct4), sl4⟩) (c4 : PySem.W.codeIn K cd4 "House.__init__" = true) (k4 : PySem.W.keepIn K (.ref f4) = true)
    (a5 : PySem.W.nsIn K mainGlobals "_law_off" = some (some (.ref f5)))
    (l5 : K.lookup f5 = some ⟨oc5, od5, .func (PySem.W.fnOf "_law_off" "_law_off" (defArgs st_law_off) (defBody st_law_off) (defScope st_law_off) .none kV5 dc5 pm5 an5 cd5 ct5), sl5⟩) (c5 : PySem.W.codeIn K cd5 "_law_off" = true) (k5 : PySem.W.keepIn K (.ref f5) = true)
    (a6 : PySem.W.findIn K (.ref C_House) "table" = some (some (.ref f6))) (i6 : PySem.W.isFn K (.ref f6) = true)
    (l6 : K.lookup f6 = some ⟨oc6, od6, .func (PySem.W.fnOf "table" "House.table" (defArgs st_House_table) (defBody st_House_table) (defScope st_House_table) .none kV6 dc6 pm6 an6 cd6 ct6), sl6⟩) (c6 : PySem.W.codeIn K cd6 "House.table" = true) (k6 : PySem.W.keepIn K (.ref f6) = true)
    (a7 : PySem.W.nsIn K mainGlobals "need_worth" = some (some (.ref f7)))
    (l7 : K.lookup f7 = some ⟨oc7, od7, .func (PySem.W.fnOf "need_worth" "need_worth" (defArgs st_need_worth) (defBody st_need_worth) (defScope st_need_worth) .none kV7 dc7 pm7 an7 cd7 ct7), sl7⟩) (c7 : PySem.W.codeIn K cd7 "need_worth" = true) (k7 : PySem.W.keepIn K (.ref f7) = true)
    (a8 : PySem.W.findIn K (.ref C_Thing) "__init__" = some (some (.ref f8))) (i8 : PySem.W.isFn K (.ref f8) = true)
    (l8 : K.lookup f8 = some ⟨oc8, od8, .func (PySem.W.fnOf "__init__" "Thing.__init__" (defArgs st_Thing_init) (defBody st_Thing_init) (defScope st_Thing_init) .none kV8 dc8 pm8 an8 cd8 ct8), sl8⟩) (c8 : PySem.W.codeIn K cd8 "Thing.__init__" = true) (k8 : PySem.W.keepIn K (.ref f8) = true)
    (a9 : PySem.W.findIn K (.ref C_Things) "add" = some (some (.ref f9))) (i9 : PySem.W.isFn K (.ref f9) = true)
    (l9 : K.lookup f9 = some ⟨oc9, od9, .func (PySem.W.fnOf "add" "Things.add" (defArgs st_Things_add) (defBody st_Things_add) (defScope st_Things_add) .none kV9 dc9 pm9 an9 cd9 ct9), sl9⟩) (c9 : PySem.W.codeIn K cd9 "Things.add" = true) (k9 : PySem.W.keepIn K (.ref f9) = true)
    (a10 : PySem.W.findIn K (.ref C_House) "make" = some (some (.ref f10))) (i10 : PySem.W.isFn K (.ref f10) = true)
    (l10 : K.lookup f10 = some ⟨oc10, od10, .func (PySem.W.fnOf "make" "House.make" (defArgs st_House_make) (defBody st_House_make) (defScope st_House_make) .none kV10 dc10 pm10 an10 cd10 ct10), sl10⟩) (c10 : PySem.W.codeIn K cd10 "House.make" = true) (k10 : PySem.W.keepIn K (.ref f10) = true)
    (a11 : PySem.W.nsIn K mainGlobals "is_handle" = some (some (.ref f11)))
    (l11 : K.lookup f11 = some ⟨oc11, od11, .func (PySem.W.fnOf "is_handle" "is_handle" (defArgs st_is_handle) (defBody st_is_handle) (defScope st_is_handle) .none kV11 dc11 pm11 an11 cd11 ct11), sl11⟩) (c11 : PySem.W.codeIn K cd11 "is_handle" = true) (k11 : PySem.W.keepIn K (.ref f11) = true)
    (a12 : PySem.W.nsIn K mainGlobals "need_handle" = some (some (.ref f12)))
    (l12 : K.lookup f12 = some ⟨oc12, od12, .func (PySem.W.fnOf "need_handle" "need_handle" (defArgs st_need_handle) (defBody st_need_handle) (defScope st_need_handle) .none kV12 dc12 pm12 an12 cd12 ct12), sl12⟩) (c12 : PySem.W.codeIn K cd12 "need_handle" = true) (k12 : PySem.W.keepIn K (.ref f12) = true)
    (a13 : PySem.W.findIn K (.ref C_House) "count" = some (some (.ref f13))) (i13 : PySem.W.isFn K (.ref f13) = true)
    (l13 : K.lookup f13 = some ⟨oc13, od13, .func (PySem.W.fnOf "count" "House.count" (defArgs st_House_count) (defBody st_House_count) (defScope st_House_count) .none kV13 dc13 pm13 an13 cd13 ct13), sl13⟩) (c13 : PySem.W.codeIn K cd13 "House.count" = true) (k13 : PySem.W.keepIn K (.ref f13) = true)
    (a14 : PySem.W.findIn K (.ref C_House) "need_hold" = some (some (.ref f14))) (i14 : PySem.W.isFn K (.ref f14) = true)
    (l14 : K.lookup f14 = some ⟨oc14, od14, .func (PySem.W.fnOf "need_hold" "House.need_hold" (defArgs st_House_need_hold) (defBody st_House_need_hold) (defScope st_House_need_hold) .none kV14 dc14 pm14 an14 cd14 ct14), sl14⟩) (c14 : PySem.W.codeIn K cd14 "House.need_hold" = true) (k14 : PySem.W.keepIn K (.ref f14) = true)
    (a15 : PySem.W.findIn K (.ref C_House) "lend" = some (some (.ref f15))) (i15 : PySem.W.isFn K (.ref f15) = true)
    (l15 : K.lookup f15 = some ⟨oc15, od15, .func (PySem.W.fnOf "lend" "House.lend" (defArgs st_House_lend) (defBody st_House_lend) (defScope st_House_lend) .none kV15 dc15 pm15 an15 cd15 ct15), sl15⟩) (c15 : PySem.W.codeIn K cd15 "House.lend" = true) (k15 : PySem.W.keepIn K (.ref f15) = true)
    (a16 : PySem.W.findIn K (.ref C_House) "ask" = some (some (.ref f16))) (i16 : PySem.W.isFn K (.ref f16) = true)
    (l16 : K.lookup f16 = some ⟨oc16, od16, .func (PySem.W.fnOf "ask" "House.ask" (defArgs st_House_ask) (defBody st_House_ask) (defScope st_House_ask) .none kV16 dc16 pm16 an16 cd16 ct16), sl16⟩) (c16 : PySem.W.codeIn K cd16 "House.ask" = true) (k16 : PySem.W.keepIn K (.ref f16) = true)
    (a17 : PySem.W.findIn K (.ref C_House) "letters" = some (some (.ref f17))) (i17 : PySem.W.isFn K (.ref f17) = true)
    (l17 : K.lookup f17 = some ⟨oc17, od17, .func (PySem.W.fnOf "letters" "House.letters" (defArgs st_House_letters) (defBody st_House_letters) (defScope st_House_letters) .none kV17 dc17 pm17 an17 cd17 ct17), sl17⟩) (c17 : PySem.W.codeIn K cd17 "House.letters" = true) (k17 : PySem.W.keepIn K (.ref f17) = true)
    (a18 : PySem.W.findIn K (.ref C_House) "give" = some (some (.ref f18))) (i18 : PySem.W.isFn K (.ref f18) = true)
    (l18 : K.lookup f18 = some ⟨oc18, od18, .func (PySem.W.fnOf "give" "House.give" (defArgs st_House_give) (defBody st_House_give) (defScope st_House_give) .none kV18 dc18 pm18 an18 cd18 ct18), sl18⟩) (c18 : PySem.W.codeIn K cd18 "House.give" = true) (k18 : PySem.W.keepIn K (.ref f18) = true)
    (a19 : PySem.W.findIn K (.ref C_House) "take_unit" = some (some (.ref f19))) (i19 : PySem.W.isFn K (.ref f19) = true)
    (l19 : K.lookup f19 = some ⟨oc19, od19, .func (PySem.W.fnOf "take_unit" "House.take_unit" (defArgs st_House_take_unit) (defBody st_House_take_unit) (defScope st_House_take_unit) .none kV19 dc19 pm19 an19 cd19 ct19), sl19⟩) (c19 : PySem.W.codeIn K cd19 "House.take_unit" = true) (k19 : PySem.W.keepIn K (.ref f19) = true)
    (a20 : PySem.W.findIn K (.ref C_Things) "is_held" = some (some (.ref f20))) (i20 : PySem.W.isFn K (.ref f20) = true)
    (l20 : K.lookup f20 = some ⟨oc20, od20, .func (PySem.W.fnOf "is_held" "Things.is_held" (defArgs st_Things_is_held) (defBody st_Things_is_held) (defScope st_Things_is_held) .none kV20 dc20 pm20 an20 cd20 ct20), sl20⟩) (c20 : PySem.W.codeIn K cd20 "Things.is_held" = true) (k20 : PySem.W.keepIn K (.ref f20) = true)
    (a21 : PySem.W.findIn K (.ref C_Things) "let_go" = some (some (.ref f21))) (i21 : PySem.W.isFn K (.ref f21) = true)
    (l21 : K.lookup f21 = some ⟨oc21, od21, .func (PySem.W.fnOf "let_go" "Things.let_go" (defArgs st_Things_let_go) (defBody st_Things_let_go) (defScope st_Things_let_go) .none kV21 dc21 pm21 an21 cd21 ct21), sl21⟩) (c21 : PySem.W.codeIn K cd21 "Things.let_go" = true) (k21 : PySem.W.keepIn K (.ref f21) = true)
    (a22 : PySem.W.findIn K (.ref C_Things) "settle" = some (some (.ref f22))) (i22 : PySem.W.isFn K (.ref f22) = true)
    (l22 : K.lookup f22 = some ⟨oc22, od22, .func (PySem.W.fnOf "settle" "Things.settle" (defArgs st_Things_settle) (defBody st_Things_settle) (defScope st_Things_settle) .none kV22 dc22 pm22 an22 cd22 ct22), sl22⟩) (c22 : PySem.W.codeIn K cd22 "Things.settle" = true) (k22 : PySem.W.keepIn K (.ref f22) = true)
    (a23 : PySem.W.findIn K (.ref C_House) "settle" = some (some (.ref f23))) (i23 : PySem.W.isFn K (.ref f23) = true)
    (l23 : K.lookup f23 = some ⟨oc23, od23, .func (PySem.W.fnOf "settle" "House.settle" (defArgs st_House_settle) (defBody st_House_settle) (defScope st_House_settle) .none kV23 dc23 pm23 an23 cd23 ct23), sl23⟩) (c23 : PySem.W.codeIn K cd23 "House.settle" = true) (k23 : PySem.W.keepIn K (.ref f23) = true)
    (a24 : PySem.W.findIn K (.ref C_House) "drop" = some (some (.ref f24))) (i24 : PySem.W.isFn K (.ref f24) = true)
    (l24 : K.lookup f24 = some ⟨oc24, od24, .func (PySem.W.fnOf "drop" "House.drop" (defArgs st_House_drop) (defBody st_House_drop) (defScope st_House_drop) .none kV24 dc24 pm24 an24 cd24 ct24), sl24⟩) (c24 : PySem.W.codeIn K cd24 "House.drop" = true) (k24 : PySem.W.keepIn K (.ref f24) = true)
    (a25 : PySem.W.findIn K (.ref C_House) "add" = some (some (.ref f25))) (i25 : PySem.W.isFn K (.ref f25) = true)
    (l25 : K.lookup f25 = some ⟨oc25, od25, .func (PySem.W.fnOf "add" "House.add" (defArgs st_House_add) (defBody st_House_add) (defScope st_House_add) .none kV25 dc25 pm25 an25 cd25 ct25), sl25⟩) (c25 : PySem.W.codeIn K cd25 "House.add" = true) (k25 : PySem.W.keepIn K (.ref f25) = true)
    (a26 : PySem.W.findIn K (.ref C_House) "call" = some (some (.ref f26))) (i26 : PySem.W.isFn K (.ref f26) = true)
    (l26 : K.lookup f26 = some ⟨oc26, od26, .func (PySem.W.fnOf "call" "House.call" (defArgs st_House_call) (defBody st_House_call) (defScope st_House_call) .none kV26 dc26 pm26 an26 cd26 ct26), sl26⟩) (c26 : PySem.W.codeIn K cd26 "House.call" = true) (k26 : PySem.W.keepIn K (.ref f26) = true)
    (a27 : PySem.W.nsIn K mainGlobals "_law_alike" = some (some (.ref f27)))
    (l27 : K.lookup f27 = some ⟨oc27, od27, .func (PySem.W.fnOf "_law_alike" "_law_alike" (defArgs st_law_alike) (defBody st_law_alike) (defScope st_law_alike) .none kV27 dc27 pm27 an27 cd27 ct27), sl27⟩) (c27 : PySem.W.codeIn K cd27 "_law_alike" = true) (k27 : PySem.W.keepIn K (.ref f27) = true)
    (a28 : PySem.W.findIn K (.ref C_House) "turn" = some (some (.ref f28))) (i28 : PySem.W.isFn K (.ref f28) = true)
    (l28 : K.lookup f28 = some ⟨oc28, od28, .func (PySem.W.fnOf "turn" "House.turn" (defArgs st_House_turn) (defBody st_House_turn) (defScope st_House_turn) .none kV28 dc28 pm28 an28 cd28 ct28), sl28⟩) (c28 : PySem.W.codeIn K cd28 "House.turn" = true) (k28 : PySem.W.keepIn K (.ref f28) = true)
    (a29 : PySem.W.findIn K (.ref C_House) "get_unit" = some (some (.ref f29))) (i29 : PySem.W.isFn K (.ref f29) = true)
    (l29 : K.lookup f29 = some ⟨oc29, od29, .func (PySem.W.fnOf "get_unit" "House.get_unit" (defArgs st_House_get_unit) (defBody st_House_get_unit) (defScope st_House_get_unit) .none kV29 dc29 pm29 an29 cd29 ct29), sl29⟩) (c29 : PySem.W.codeIn K cd29 "House.get_unit" = true) (k29 : PySem.W.keepIn K (.ref f29) = true)
    (a30 : PySem.W.findIn K (.ref C_House) "hear_unit" = some (some (.ref f30))) (i30 : PySem.W.isFn K (.ref f30) = true)
    (l30 : K.lookup f30 = some ⟨oc30, od30, .func (PySem.W.fnOf "hear_unit" "House.hear_unit" (defArgs st_House_hear_unit) (defBody st_House_hear_unit) (defScope st_House_hear_unit) .none kV30 dc30 pm30 an30 cd30 ct30), sl30⟩) (c30 : PySem.W.codeIn K cd30 "House.hear_unit" = true) (k30 : PySem.W.keepIn K (.ref f30) = true)
    (a31 : PySem.W.findIn K (.ref C_House) "answer" = some (some (.ref f31))) (i31 : PySem.W.isFn K (.ref f31) = true)
    (l31 : K.lookup f31 = some ⟨oc31, od31, .func (PySem.W.fnOf "answer" "House.answer" (defArgs st_House_answer) (defBody st_House_answer) (defScope st_House_answer) .none kV31 dc31 pm31 an31 cd31 ct31), sl31⟩) (c31 : PySem.W.codeIn K cd31 "House.answer" = true) (k31 : PySem.W.keepIn K (.ref f31) = true)
    (a32 : PySem.W.findIn K (.ref C_House) "hear_ask" = some (some (.ref f32))) (i32 : PySem.W.isFn K (.ref f32) = true)
    (l32 : K.lookup f32 = some ⟨oc32, od32, .func (PySem.W.fnOf "hear_ask" "House.hear_ask" (defArgs st_House_hear_ask) (defBody st_House_hear_ask) (defScope st_House_hear_ask) .none kV32 dc32 pm32 an32 cd32 ct32), sl32⟩) (c32 : PySem.W.codeIn K cd32 "House.hear_ask" = true) (k32 : PySem.W.keepIn K (.ref f32) = true)
    (a33 : PySem.W.findIn K (.ref C_House) "hear_drop" = some (some (.ref f33))) (i33 : PySem.W.isFn K (.ref f33) = true)
    (l33 : K.lookup f33 = some ⟨oc33, od33, .func (PySem.W.fnOf "hear_drop" "House.hear_drop" (defArgs st_House_hear_drop) (defBody st_House_hear_drop) (defScope st_House_hear_drop) .none kV33 dc33 pm33 an33 cd33 ct33), sl33⟩) (c33 : PySem.W.codeIn K cd33 "House.hear_drop" = true) (k33 : PySem.W.keepIn K (.ref f33) = true)
    (a34 : PySem.W.findIn K (.ref C_House) "hear_heard" = some (some (.ref f34))) (i34 : PySem.W.isFn K (.ref f34) = true)
    (l34 : K.lookup f34 = some ⟨oc34, od34, .func (PySem.W.fnOf "hear_heard" "House.hear_heard" (defArgs st_House_hear_heard) (defBody st_House_hear_heard) (defScope st_House_hear_heard) .none kV34 dc34 pm34 an34 cd34 ct34), sl34⟩) (c34 : PySem.W.codeIn K cd34 "House.hear_heard" = true) (k34 : PySem.W.keepIn K (.ref f34) = true)
    (a35 : PySem.W.findIn K (.ref C_House) "bring" = some (some (.ref f35))) (i35 : PySem.W.isFn K (.ref f35) = true)
    (l35 : K.lookup f35 = some ⟨oc35, od35, .func (PySem.W.fnOf "bring" "House.bring" (defArgs st_House_bring) (defBody st_House_bring) (defScope st_House_bring) .none kV35 dc35 pm35 an35 cd35 ct35), sl35⟩) (c35 : PySem.W.codeIn K cd35 "House.bring" = true) (k35 : PySem.W.keepIn K (.ref f35) = true)
    (a36 : PySem.W.findIn K (.ref C_House) "notes" = some (some (.ref f36))) (i36 : PySem.W.isFn K (.ref f36) = true)
    (l36 : K.lookup f36 = some ⟨oc36, od36, .func (PySem.W.fnOf "notes" "House.notes" (defArgs st_House_notes) (defBody st_House_notes) (defScope st_House_notes) .none kV36 dc36 pm36 an36 cd36 ct36), sl36⟩) (c36 : PySem.W.codeIn K cd36 "House.notes" = true) (k36 : PySem.W.keepIn K (.ref f36) = true)
    (a37 : PySem.W.findIn K (.ref C_House) "answers" = some (some (.ref f37))) (i37 : PySem.W.isFn K (.ref f37) = true)
    (l37 : K.lookup f37 = some ⟨oc37, od37, .func (PySem.W.fnOf "answers" "House.answers" (defArgs st_House_answers) (defBody st_House_answers) (defScope st_House_answers) .none kV37 dc37 pm37 an37 cd37 ct37), sl37⟩) (c37 : PySem.W.codeIn K cd37 "House.answers" = true) (k37 : PySem.W.keepIn K (.ref f37) = true)
    (a38 : PySem.W.findIn K (.ref C_House) "things" = some (some (.ref f38))) (i38 : PySem.W.isFn K (.ref f38) = true)
    (l38 : K.lookup f38 = some ⟨oc38, od38, .func (PySem.W.fnOf "things" "House.things" (defArgs st_House_things) (defBody st_House_things) (defScope st_House_things) .none kV38 dc38 pm38 an38 cd38 ct38), sl38⟩) (c38 : PySem.W.codeIn K cd38 "House.things" = true) (k38 : PySem.W.keepIn K (.ref f38) = true)
    (a39 : PySem.W.nsIn K mainGlobals "law" = some (some (.ref f39)))
    (l39 : K.lookup f39 = some ⟨oc39, od39, .func (PySem.W.fnOf "law" "law" (defArgs st_law) (defBody st_law) (defScope st_law) .none kV39 dc39 pm39 an39 cd39 ct39), sl39⟩) (c39 : PySem.W.codeIn K cd39 "law" = true) (k39 : PySem.W.keepIn K (.ref f39) = true)
    (pg_House : PySem.W.plainGet K C_House Str.empty = true) (hd_House : PySem.W.hasDictIn K C_House = true) (po_House : PySem.W.plainOver K C_House = true) (sa_House : PySem.W.findIn K (.ref C_House) "__setattr__" = some (some (.builtin "object.__setattr__"))) (mk_House : PySem.W.makesIn K C_House = true) (kc_House : PySem.W.keepIn K (.ref C_House) = true)
    (pg_Things : PySem.W.plainGet K C_Things Str.empty = true) (hd_Things : PySem.W.hasDictIn K C_Things = true) (po_Things : PySem.W.plainOver K C_Things = true) (sa_Things : PySem.W.findIn K (.ref C_Things) "__setattr__" = some (some (.builtin "object.__setattr__"))) (mk_Things : PySem.W.makesIn K C_Things = true) (kc_Things : PySem.W.keepIn K (.ref C_Things) = true)
    (pg_Thing : PySem.W.plainGet K C_Thing Str.empty = true) (hd_Thing : PySem.W.hasDictIn K C_Thing = true) (po_Thing : PySem.W.plainOver K C_Thing = true) (sa_Thing : PySem.W.findIn K (.ref C_Thing) "__setattr__" = some (some (.builtin "object.__setattr__"))) (mk_Thing : PySem.W.makesIn K C_Thing = true) (kc_Thing : PySem.W.keepIn K (.ref C_Thing) = true)
    (z0 : PySem.W.nsIn K mainGlobals "abs" = some none)
    (z1 : PySem.W.nsIn K mainGlobals "all" = some none)
    (z2 : PySem.W.nsIn K mainGlobals "bool" = some none)
    (z3 : PySem.W.nsIn K mainGlobals "enumerate" = some none)
    (z4 : PySem.W.nsIn K mainGlobals "int" = some none)
    (z5 : PySem.W.nsIn K mainGlobals "isinstance" = some none)
    (z6 : PySem.W.nsIn K mainGlobals "len" = some none)
    (z7 : PySem.W.nsIn K mainGlobals "list" = some none)
    (z8 : PySem.W.nsIn K mainGlobals "range" = some none)
    (z9 : PySem.W.nsIn K mainGlobals "sorted" = some none)
    (z10 : PySem.W.nsIn K mainGlobals "str" = some none)
    (z11 : PySem.W.nsIn K mainGlobals "tuple" = some none)
    {tk12 : Tok} (z12 : PySem.W.nsIn K mainGlobals "DEAD" = some (some (.str "dead" tk12)))
    {tk13 : Tok} (z13 : PySem.W.nsIn K mainGlobals "MOST_HOUSES" = some (some (.int 8 tk13)))
    {tk14 : Tok} (z14 : PySem.W.nsIn K mainGlobals "MOST_THINGS" = some (some (.int 100 tk14)))
    {tk15 : Tok} (z15 : PySem.W.nsIn K mainGlobals "OWN" = some (some (.int 0 tk15)))
    {tk16 : Tok} (z16 : PySem.W.nsIn K mainGlobals "WORTHS" = some (some (.int 1000 tk16)))
    (z20 : PySem.W.findIn K (.ref C_House) "asked" = some none)
    (z21 : PySem.W.findIn K (.ref C_House) "asks" = some none)
    (z22 : PySem.W.findIn K (.ref C_House) "calls" = some none)
    (z23 : PySem.W.findIn K (.ref C_House) "counts" = some none)
    (z24 : PySem.W.findIn K (.ref C_House) "dead" = some none)
    (z25 : PySem.W.findIn K (.ref C_House) "done" = some none)
    (z26 : PySem.W.findIn K (.ref C_House) "drops" = some none)
    (z27 : PySem.W.findIn K (.ref C_House) "many" = some none)
    (z28 : PySem.W.findIn K (.ref C_House) "number" = some none)
    (z29 : PySem.W.findIn K (.ref C_House) "own" = some none)
    (z30 : PySem.W.findIn K (.ref C_House) "told" = some none)
    (z31 : PySem.W.findIn K (.ref C_House) "units" = some none)
    (z32 : PySem.W.findIn K (.ref C_House) "units_met" = some none)
    (z33 : PySem.W.findIn K (.ref C_House) "untold" = some none)
    (z34 : PySem.W.findIn K (.ref C_House) "watched" = some none)
    (z35 : PySem.W.findIn K (.ref C_Thing) "links" = some none)
    (z36 : PySem.W.findIn K (.ref C_Thing) "worth" = some none)
    (z37 : PySem.W.findIn K (.ref C_Things) "lent" = some none)
    (z38 : PySem.W.findIn K (.ref C_Things) "made" = some none)
    (z39 : PySem.W.findIn K (.ref C_Things) "number" = some none)
    (z40 : PySem.W.findIn K (.ref C_Things) "own" = some none)
    (z41 : PySem.W.findIn K (.ref C_Things) "stand" = some none) :
    ∃ (fd : FuncData) (c : Cs), (∀ (s : Shared) (v : Value), BindsTo s fd ⟨[v], []⟩ [("_law_script", v)]) ∧ ∀ base : Heap, K.In base → base.Ns mainGlobals mg → FnOk l.prog w K mg base CX0 9 fa fd ["_law_script"] (toSp (p_law c K)) := by
  have e := hfa.symm.trans (PySem.W.mg_of X G a39)
  cases e
  have T : Tx K mg ⟨C_House, C_Things, C_Thing⟩ := ⟨PySem.W.mg_none_of X G z0, PySem.W.mg_none_of X G z1, PySem.W.mg_none_of X G z2, PySem.W.mg_none_of X G z3, PySem.W.mg_none_of X G z4, PySem.W.mg_none_of X G z5, PySem.W.mg_none_of X G z6, PySem.W.mg_none_of X G z7, PySem.W.mg_none_of X G z8, PySem.W.mg_none_of X G z9, PySem.W.mg_none_of X G z10, PySem.W.mg_none_of X G z11, ⟨_, PySem.W.mg_of X G z12⟩, ⟨_, PySem.W.mg_of X G z13⟩, ⟨_, PySem.W.mg_of X G z14⟩, ⟨_, PySem.W.mg_of X G z15⟩, ⟨_, PySem.W.mg_of X G z16⟩, ⟨pg_House, hd_House, po_House, sa_House⟩, ⟨pg_Thing, hd_Thing, po_Thing, sa_Thing⟩, ⟨pg_Things, hd_Things, po_Things, sa_Things⟩, z20, z21, z22, z23, z24, z25, z26, z27, z28, z29, z30, z31, z32, z33, z34, z35, z36, z37, z38, z39, z40, z41⟩
  have F0 := fun_mk (st := st_law_dice) l0 c0 k0
  have b0 := F0.binds (ps := ["_law_script", "_law_k"]) fun _ _ _ _ _ _ us hl => match us, hl with | [_, _], _ => rfl
  have F1 := fun_mk (st := st_is_between) l1 c1 k1
  have b1 := F1.binds (ps := ["part", "low", "high"]) fun _ _ _ _ _ _ us hl => match us, hl with | [_, _, _], _ => rfl
  have F2 := fun_mk (st := st_need_house) l2 c2 k2
  have b2 := F2.binds (ps := ["number", "many"]) fun _ _ _ _ _ _ us hl => match us, hl with | [_, _], _ => rfl
  have F3 := fun_mk (st := st_Things_init) l3 c3 k3
  have b3 := F3.binds (ps := ["self", "number"]) fun _ _ _ _ _ _ us hl => match us, hl with | [_, _], _ => rfl
  have F4 := fun_mk (st := st_House_init) l4 c4 k4
  have b4 := F4.binds (ps := ["self", "number", "many"]) fun _ _ _ _ _ _ us hl => match us, hl with | [_, _, _], _ => rfl
  have F5 := fun_mk (st := st_law_off) l5 c5 k5
  have b5 := F5.binds (ps := ["_law_d", "_law_most"]) fun _ _ _ _ _ _ us hl => match us, hl with | [_, _], _ => rfl
  have F6 := fun_mk (st := st_House_table) l6 c6 k6
  have b6 := F6.binds (ps := ["self"]) fun _ _ _ _ _ _ us hl => match us, hl with | [_], _ => rfl
  have F7 := fun_mk (st := st_need_worth) l7 c7 k7
  have b7 := F7.binds (ps := ["worth"]) fun _ _ _ _ _ _ us hl => match us, hl with | [_], _ => rfl
  have F8 := fun_mk (st := st_Thing_init) l8 c8 k8
  have b8 := F8.binds (ps := ["self", "worth"]) fun _ _ _ _ _ _ us hl => match us, hl with | [_, _], _ => rfl
  have F9 := fun_mk (st := st_Things_add) l9 c9 k9
  have b9 := F9.binds (ps := ["self", "worth"]) fun _ _ _ _ _ _ us hl => match us, hl with | [_, _], _ => rfl
  have F10 := fun_mk (st := st_House_make) l10 c10 k10
  have b10 := F10.binds (ps := ["self", "worth"]) fun _ _ _ _ _ _ us hl => match us, hl with | [_, _], _ => rfl
  have F11 := fun_mk (st := st_is_handle) l11 c11 k11
  have b11 := F11.binds (ps := ["handle", "many"]) fun _ _ _ _ _ _ us hl => match us, hl with | [_, _], _ => rfl
  have F12 := fun_mk (st := st_need_handle) l12 c12 k12
  have b12 := F12.binds (ps := ["handle", "many"]) fun _ _ _ _ _ _ us hl => match us, hl with | [_, _], _ => rfl
  have F13 := fun_mk (st := st_House_count) l13 c13 k13
  have b13 := F13.binds (ps := ["self", "handle"]) fun _ _ _ _ _ _ us hl => match us, hl with | [_, _], _ => rfl
  have F14 := fun_mk (st := st_House_need_hold) l14 c14 k14
  have b14 := F14.binds (ps := ["self", "handle"]) fun _ _ _ _ _ _ us hl => match us, hl with | [_, _], _ => rfl
  have F15 := fun_mk (st := st_House_lend) l15 c15 k15
  have b15 := F15.binds (ps := ["self", "thing", "to"]) fun _ _ _ _ _ _ us hl => match us, hl with | [_, _, _], _ => rfl
  have F16 := fun_mk (st := st_House_ask) l16 c16 k16
  have b16 := F16.binds (ps := ["self", "handle", "what"]) fun _ _ _ _ _ _ us hl => match us, hl with | [_, _, _], _ => rfl
  have F17 := fun_mk (st := st_House_letters) l17 c17 k17
  have b17 := F17.binds (ps := ["self"]) fun _ _ _ _ _ _ us hl => match us, hl with | [_], _ => rfl
  have F18 := fun_mk (st := st_House_give) l18 c18 k18
  have b18 := F18.binds (ps := ["self", "handle", "to"]) fun _ _ _ _ _ _ us hl => match us, hl with | [_, _, _], _ => rfl
  have F19 := fun_mk (st := st_House_take_unit) l19 c19 k19
  have b19 := F19.binds (ps := ["self", "handle"]) fun _ _ _ _ _ _ us hl => match us, hl with | [_, _], _ => rfl
  have F20 := fun_mk (st := st_Things_is_held) l20 c20 k20
  have b20 := F20.binds (ps := ["self", "thing"]) fun _ _ _ _ _ _ us hl => match us, hl with | [_, _], _ => rfl
  have F21 := fun_mk (st := st_Things_let_go) l21 c21 k21
  have b21 := F21.binds (ps := ["self", "things"]) fun _ _ _ _ _ _ us hl => match us, hl with | [_, _], _ => rfl
  have F22 := fun_mk (st := st_Things_settle) l22 c22 k22
  have b22 := F22.binds (ps := ["self"]) fun _ _ _ _ _ _ us hl => match us, hl with | [_], _ => rfl
  have F23 := fun_mk (st := st_House_settle) l23 c23 k23
  have b23 := F23.binds (ps := ["self"]) fun _ _ _ _ _ _ us hl => match us, hl with | [_], _ => rfl
  have F24 := fun_mk (st := st_House_drop) l24 c24 k24
  have b24 := F24.binds (ps := ["self", "handle"]) fun _ _ _ _ _ _ us hl => match us, hl with | [_, _], _ => rfl
  have F25 := fun_mk (st := st_House_add) l25 c25 k25
  have b25 := F25.binds (ps := ["self", "thing", "number"]) fun _ _ _ _ _ _ us hl => match us, hl with | [_, _, _], _ => rfl
  have F26 := fun_mk (st := st_House_call) l26 c26 k26
  have b26 := F26.binds (ps := ["self", "handle", "number"]) fun _ _ _ _ _ _ us hl => match us, hl with | [_, _, _], _ => rfl
  have F27 := fun_mk (st := st_law_alike) l27 c27 k27
  have b27 := F27.binds (ps := ["_law_found", "_law_due"]) fun _ _ _ _ _ _ us hl => match us, hl with | [_, _], _ => rfl
  have F28 := fun_mk (st := st_House_turn) l28 c28 k28
  have b28 := F28.binds (ps := ["self"]) fun _ _ _ _ _ _ us hl => match us, hl with | [_], _ => rfl
  have F29 := fun_mk (st := st_House_get_unit) l29 c29 k29
  have b29 := F29.binds (ps := ["self", "handle", "unit"]) fun _ _ _ _ _ _ us hl => match us, hl with | [_, _, _], _ => rfl
  have F30 := fun_mk (st := st_House_hear_unit) l30 c30 k30
  have b30 := F30.binds (ps := ["self", "sender", "parts"]) fun _ _ _ _ _ _ us hl => match us, hl with | [_, _, _], _ => rfl
  have F31 := fun_mk (st := st_House_answer) l31 c31 k31
  have b31 := F31.binds (ps := ["self", "thing", "what"]) fun _ _ _ _ _ _ us hl => match us, hl with | [_, _, _], _ => rfl
  have F32 := fun_mk (st := st_House_hear_ask) l32 c32 k32
  have b32 := F32.binds (ps := ["self", "sender", "parts"]) fun _ _ _ _ _ _ us hl => match us, hl with | [_, _, _], _ => rfl
  have F33 := fun_mk (st := st_House_hear_drop) l33 c33 k33
  have b33 := F33.binds (ps := ["self", "sender", "parts"]) fun _ _ _ _ _ _ us hl => match us, hl with | [_, _, _], _ => rfl
  have F34 := fun_mk (st := st_House_hear_heard) l34 c34 k34
  have b34 := F34.binds (ps := ["self", "sender", "parts"]) fun _ _ _ _ _ _ us hl => match us, hl with | [_, _, _], _ => rfl
  have F35 := fun_mk (st := st_House_bring) l35 c35 k35
  have b35 := F35.binds (ps := ["self", "letter"]) fun _ _ _ _ _ _ us hl => match us, hl with | [_, _], _ => rfl
  have F36 := fun_mk (st := st_House_notes) l36 c36 k36
  have b36 := F36.binds (ps := ["self"]) fun _ _ _ _ _ _ us hl => match us, hl with | [_], _ => rfl
  have F37 := fun_mk (st := st_House_answers) l37 c37 k37
  have b37 := F37.binds (ps := ["self"]) fun _ _ _ _ _ _ us hl => match us, hl with | [_], _ => rfl
  have F38 := fun_mk (st := st_House_things) l38 c38 k38
  have b38 := F38.binds (ps := ["self"]) fun _ _ _ _ _ _ us hl => match us, hl with | [_], _ => rfl
  have F39 := fun_mk (st := st_law) l39 c39 k39
  refine ⟨PySem.W.fnOf "law" "law" (defArgs st_law) (defBody st_law) (defScope st_law) .none kV39 dc39 pm39 an39 cd39 ct39, ⟨C_House, C_Things, C_Thing⟩, fun s v => .of_eq rfl, fun base _ _ => ?_⟩
  have d_law_dice : Cal l.prog w K mg base 1 "_law_dice" (p_law_dice ⟨C_House, C_Things, C_Thing⟩ K) := ⟨⟨_, _, _, fn_law_dice T  F0, PySem.W.mg_of X G a0, k0, b0⟩⟩
  have d_is_between : Cal l.prog w K mg base 1 "is_between" (p_is_between ⟨C_House, C_Things, C_Thing⟩) := ⟨⟨_, _, _, fn_is_between T  F1, PySem.W.mg_of X G a1, k1, b1⟩⟩
  have d_need_house : Cal l.prog w K mg base 2 "need_house" (p_need_house ⟨C_House, C_Things, C_Thing⟩) := ⟨⟨_, _, _, fn_need_house T d_is_between F2, PySem.W.mg_of X G a2, k2, b2⟩⟩
  have d_Things_init : Mak l.prog w K mg base 1 "Things" (Cs.mk C_House C_Things C_Thing).Things (p_Things_init ⟨C_House, C_Things, C_Thing⟩) := ⟨⟨_, _, _, ⟨mk_Things, a3, i3, kc_Things⟩, fn_Things_init T  F3, PySem.W.mg_of X G a_Things, b3⟩⟩
  have d_House_init : Mak l.prog w K mg base 3 "House" (Cs.mk C_House C_Things C_Thing).House (p_House_init ⟨C_House, C_Things, C_Thing⟩) := ⟨⟨_, _, _, ⟨mk_House, a4, i4, kc_House⟩, fn_House_init T d_need_house d_Things_init F4, PySem.W.mg_of X G a_House, b4⟩⟩
  have d_law_off : Cal l.prog w K mg base 1 "_law_off" (p_law_off ⟨C_House, C_Things, C_Thing⟩) := ⟨⟨_, _, _, fn_law_off T  F5, PySem.W.mg_of X G a5, k5, b5⟩⟩
  have d_House_table : Met l.prog w K mg base 1 (Cs.mk C_House C_Things C_Thing).House "table" (p_House_table ⟨C_House, C_Things, C_Thing⟩) := ⟨⟨_, _, _, ⟨pg_House, hd_House, po_House, sa_House⟩, ⟨a6, i6, k6⟩, fn_House_table T  F6, b6⟩⟩
  have d_need_worth : Cal l.prog w K mg base 2 "need_worth" (p_need_worth ⟨C_House, C_Things, C_Thing⟩) := ⟨⟨_, _, _, fn_need_worth T d_is_between F7, PySem.W.mg_of X G a7, k7, b7⟩⟩
  have d_Thing_init : Mak l.prog w K mg base 1 "Thing" (Cs.mk C_House C_Things C_Thing).Thing (p_Thing_init ⟨C_House, C_Things, C_Thing⟩) := ⟨⟨_, _, _, ⟨mk_Thing, a8, i8, kc_Thing⟩, fn_Thing_init T  F8, PySem.W.mg_of X G a_Thing, b8⟩⟩
  have d_Things_add : Met l.prog w K mg base 3 (Cs.mk C_House C_Things C_Thing).Things "add" (p_Things_add ⟨C_House, C_Things, C_Thing⟩) := ⟨⟨_, _, _, ⟨pg_Things, hd_Things, po_Things, sa_Things⟩, ⟨a9, i9, k9⟩, fn_Things_add T d_Thing_init F9, b9⟩⟩
  have d_House_make : Met l.prog w K mg base 4 (Cs.mk C_House C_Things C_Thing).House "make" (p_House_make ⟨C_House, C_Things, C_Thing⟩) := ⟨⟨_, _, _, ⟨pg_House, hd_House, po_House, sa_House⟩, ⟨a10, i10, k10⟩, fn_House_make T d_need_worth d_Things_add F10, b10⟩⟩
  have d_is_handle : Cal l.prog w K mg base 2 "is_handle" (p_is_handle ⟨C_House, C_Things, C_Thing⟩) := ⟨⟨_, _, _, fn_is_handle T d_is_between F11, PySem.W.mg_of X G a11, k11, b11⟩⟩
  have d_need_handle : Cal l.prog w K mg base 3 "need_handle" (p_need_handle ⟨C_House, C_Things, C_Thing⟩) := ⟨⟨_, _, _, fn_need_handle T d_is_handle F12, PySem.W.mg_of X G a12, k12, b12⟩⟩
  have d_House_count : Met l.prog w K mg base 4 (Cs.mk C_House C_Things C_Thing).House "count" (p_House_count ⟨C_House, C_Things, C_Thing⟩) := ⟨⟨_, _, _, ⟨pg_House, hd_House, po_House, sa_House⟩, ⟨a13, i13, k13⟩, fn_House_count T d_need_handle F13, b13⟩⟩
  have d_House_need_hold : Met l.prog w K mg base 5 (Cs.mk C_House C_Things C_Thing).House "need_hold" (p_House_need_hold ⟨C_House, C_Things, C_Thing⟩) := ⟨⟨_, _, _, ⟨pg_House, hd_House, po_House, sa_House⟩, ⟨a14, i14, k14⟩, fn_House_need_hold T d_House_count F14, b14⟩⟩
  have d_House_lend : Met l.prog w K mg base 1 (Cs.mk C_House C_Things C_Thing).House "lend" (p_House_lend ⟨C_House, C_Things, C_Thing⟩) := ⟨⟨_, _, _, ⟨pg_House, hd_House, po_House, sa_House⟩, ⟨a15, i15, k15⟩, fn_House_lend T  F15, b15⟩⟩
  have d_House_ask : Met l.prog w K mg base 1 (Cs.mk C_House C_Things C_Thing).House "ask" (p_House_ask ⟨C_House, C_Things, C_Thing⟩) := ⟨⟨_, _, _, ⟨pg_House, hd_House, po_House, sa_House⟩, ⟨a16, i16, k16⟩, fn_House_ask T  F16, b16⟩⟩
  have d_House_letters : Met l.prog w K mg base 1 (Cs.mk C_House C_Things C_Thing).House "letters" (p_House_letters ⟨C_House, C_Things, C_Thing⟩) := ⟨⟨_, _, _, ⟨pg_House, hd_House, po_House, sa_House⟩, ⟨a17, i17, k17⟩, fn_House_letters T  F17, b17⟩⟩
  have d_House_give : Met l.prog w K mg base 6 (Cs.mk C_House C_Things C_Thing).House "give" (p_House_give ⟨C_House, C_Things, C_Thing⟩) := ⟨⟨_, _, _, ⟨pg_House, hd_House, po_House, sa_House⟩, ⟨a18, i18, k18⟩, fn_House_give T d_need_handle d_need_house d_House_need_hold d_House_lend d_House_ask d_House_letters F18, b18⟩⟩
  have d_House_take_unit : Met l.prog w K mg base 1 (Cs.mk C_House C_Things C_Thing).House "take_unit" (p_House_take_unit ⟨C_House, C_Things, C_Thing⟩) := ⟨⟨_, _, _, ⟨pg_House, hd_House, po_House, sa_House⟩, ⟨a19, i19, k19⟩, fn_House_take_unit T  F19, b19⟩⟩
  have d_Things_is_held : Met l.prog w K mg base 1 (Cs.mk C_House C_Things C_Thing).Things "is_held" (p_Things_is_held ⟨C_House, C_Things, C_Thing⟩) := ⟨⟨_, _, _, ⟨pg_Things, hd_Things, po_Things, sa_Things⟩, ⟨a20, i20, k20⟩, fn_Things_is_held T  F20, b20⟩⟩
  have d_Things_let_go : Met l.prog w K mg base 1 (Cs.mk C_House C_Things C_Thing).Things "let_go" (p_Things_let_go ⟨C_House, C_Things, C_Thing⟩) := ⟨⟨_, _, _, ⟨pg_Things, hd_Things, po_Things, sa_Things⟩, ⟨a21, i21, k21⟩, fn_Things_let_go T  F21, b21⟩⟩
  have d_Things_settle : Met l.prog w K mg base 2 (Cs.mk C_House C_Things C_Thing).Things "settle" (p_Things_settle ⟨C_House, C_Things, C_Thing⟩) := ⟨⟨_, _, _, ⟨pg_Things, hd_Things, po_Things, sa_Things⟩, ⟨a22, i22, k22⟩, fn_Things_settle T d_Things_is_held d_Things_let_go F22, b22⟩⟩
  have d_House_settle : Met l.prog w K mg base 3 (Cs.mk C_House C_Things C_Thing).House "settle" (p_House_settle ⟨C_House, C_Things, C_Thing⟩) := ⟨⟨_, _, _, ⟨pg_House, hd_House, po_House, sa_House⟩, ⟨a23, i23, k23⟩, fn_House_settle T d_Things_settle F23, b23⟩⟩
  have d_House_drop : Met l.prog w K mg base 6 (Cs.mk C_House C_Things C_Thing).House "drop" (p_House_drop ⟨C_House, C_Things, C_Thing⟩) := ⟨⟨_, _, _, ⟨pg_House, hd_House, po_House, sa_House⟩, ⟨a24, i24, k24⟩, fn_House_drop T d_House_need_hold d_House_take_unit d_House_settle d_House_letters F24, b24⟩⟩
  have d_House_add : Met l.prog w K mg base 1 (Cs.mk C_House C_Things C_Thing).House "add" (p_House_add ⟨C_House, C_Things, C_Thing⟩) := ⟨⟨_, _, _, ⟨pg_House, hd_House, po_House, sa_House⟩, ⟨a25, i25, k25⟩, fn_House_add T  F25, b25⟩⟩
  have d_House_call : Met l.prog w K mg base 6 (Cs.mk C_House C_Things C_Thing).House "call" (p_House_call ⟨C_House, C_Things, C_Thing⟩) := ⟨⟨_, _, _, ⟨pg_House, hd_House, po_House, sa_House⟩, ⟨a26, i26, k26⟩, fn_House_call T d_need_handle d_need_worth d_House_need_hold d_House_add d_House_ask d_House_letters F26, b26⟩⟩
  have d_law_alike : Cal l.prog w K mg base 8 "_law_alike" (p_law_alike ⟨C_House, C_Things, C_Thing⟩) := by
    have go : ∀ n, Cal l.prog w K mg base n "_law_alike" (p_law_alike_at ⟨C_House, C_Things, C_Thing⟩ n) := by
      intro n
      induction n with
      | zero => exact ⟨⟨_, _, _, fn_false, PySem.W.mg_of X G a27, k27, b27⟩⟩
      | succ n ih => exact ⟨⟨_, _, _, fn_law_alike T  _ n ih F27, PySem.W.mg_of X G a27, k27, b27⟩⟩
    exact go 8
  have d_House_turn : Met l.prog w K mg base 2 (Cs.mk C_House C_Things C_Thing).House "turn" (p_House_turn ⟨C_House, C_Things, C_Thing⟩) := ⟨⟨_, _, _, ⟨pg_House, hd_House, po_House, sa_House⟩, ⟨a28, i28, k28⟩, fn_House_turn T d_House_letters F28, b28⟩⟩
  have d_House_get_unit : Met l.prog w K mg base 1 (Cs.mk C_House C_Things C_Thing).House "get_unit" (p_House_get_unit ⟨C_House, C_Things, C_Thing⟩) := ⟨⟨_, _, _, ⟨pg_House, hd_House, po_House, sa_House⟩, ⟨a29, i29, k29⟩, fn_House_get_unit T  F29, b29⟩⟩
  have d_House_hear_unit : Met l.prog w K mg base 2 (Cs.mk C_House C_Things C_Thing).House "hear_unit" (p_House_hear_unit ⟨C_House, C_Things, C_Thing⟩) := ⟨⟨_, _, _, ⟨pg_House, hd_House, po_House, sa_House⟩, ⟨a30, i30, k30⟩, fn_House_hear_unit T d_House_get_unit F30, b30⟩⟩
  have d_House_answer : Met l.prog w K mg base 2 (Cs.mk C_House C_Things C_Thing).House "answer" (p_House_answer ⟨C_House, C_Things, C_Thing⟩) := ⟨⟨_, _, _, ⟨pg_House, hd_House, po_House, sa_House⟩, ⟨a31, i31, k31⟩, fn_House_answer T d_House_lend d_House_add F31, b31⟩⟩
  have d_House_hear_ask : Met l.prog w K mg base 3 (Cs.mk C_House C_Things C_Thing).House "hear_ask" (p_House_hear_ask ⟨C_House, C_Things, C_Thing⟩) := ⟨⟨_, _, _, ⟨pg_House, hd_House, po_House, sa_House⟩, ⟨a32, i32, k32⟩, fn_House_hear_ask T d_House_answer F32, b32⟩⟩
  have d_House_hear_drop : Met l.prog w K mg base 1 (Cs.mk C_House C_Things C_Thing).House "hear_drop" (p_House_hear_drop ⟨C_House, C_Things, C_Thing⟩) := ⟨⟨_, _, _, ⟨pg_House, hd_House, po_House, sa_House⟩, ⟨a33, i33, k33⟩, fn_House_hear_drop T  F33, b33⟩⟩
  have d_House_hear_heard : Met l.prog w K mg base 1 (Cs.mk C_House C_Things C_Thing).House "hear_heard" (p_House_hear_heard ⟨C_House, C_Things, C_Thing⟩) := ⟨⟨_, _, _, ⟨pg_House, hd_House, po_House, sa_House⟩, ⟨a34, i34, k34⟩, fn_House_hear_heard T  F34, b34⟩⟩
  have d_House_bring : Met l.prog w K mg base 4 (Cs.mk C_House C_Things C_Thing).House "bring" (p_House_bring ⟨C_House, C_Things, C_Thing⟩) := ⟨⟨_, _, _, ⟨pg_House, hd_House, po_House, sa_House⟩, ⟨a35, i35, k35⟩, fn_House_bring T d_House_hear_unit d_House_hear_ask d_House_hear_drop d_House_hear_heard d_House_settle F35, b35⟩⟩
  have d_House_notes : Met l.prog w K mg base 1 (Cs.mk C_House C_Things C_Thing).House "notes" (p_House_notes ⟨C_House, C_Things, C_Thing⟩) := ⟨⟨_, _, _, ⟨pg_House, hd_House, po_House, sa_House⟩, ⟨a36, i36, k36⟩, fn_House_notes T  F36, b36⟩⟩
  have d_House_answers : Met l.prog w K mg base 1 (Cs.mk C_House C_Things C_Thing).House "answers" (p_House_answers ⟨C_House, C_Things, C_Thing⟩) := ⟨⟨_, _, _, ⟨pg_House, hd_House, po_House, sa_House⟩, ⟨a37, i37, k37⟩, fn_House_answers T  F37, b37⟩⟩
  have d_House_things : Met l.prog w K mg base 1 (Cs.mk C_House C_Things C_Thing).House "things" (p_House_things ⟨C_House, C_Things, C_Thing⟩) := ⟨⟨_, _, _, ⟨pg_House, hd_House, po_House, sa_House⟩, ⟨a38, i38, k38⟩, fn_House_things T  F38, b38⟩⟩
  exact fn_law T d_law_dice d_House_init d_law_off d_House_table d_House_make d_House_give d_House_drop d_House_call d_law_alike d_House_turn d_House_bring d_House_notes d_House_answers d_House_things F39
end Dn
open PySem PySem.W PyProof.Rows
set_option maxRecDepth 100000 in
set_option maxHeartbeats 0 in
theorem PySem.Challenge.cw_deathnotes_k11_lists_told_holds : PySem.Challenge.rw_deathnotes_k11_lists_told.Holds := by
  w_on; o_law; k_head; (case hw => w_witness2)
  k_fill
  refine Dn.walk_law (x := "_law_script") (k := 9) (pw := Dn.p_law) (l := PySem.Challenge.rw_deathnotes_k11_lists_told) rfl rfl ⟨rfl, by decide, by decide⟩ (fun c K A a ns hs hl => Dn.law_ok hs hl fun A' => rfl) (fun w h Y => PySem.W.kIn_of Y) ?F
  case F =>
    intro w mg fa h KX G hmg
    refine' Dn.all_mk KX G hmg ?a_House ?a_Things ?a_Thing ?a0 ?l0 ?c0 ?k0 ?a1 ?l1 ?c1 ?k1 ?a2 ?l2 ?c2 ?k2 ?a3 ?i3 ?l3 ?c3 ?k3 ?a4 ?i4 ?l4 ?c4 ?k4 ?a5 ?l5 ?c5 ?k5 ?a6 ?i6 ?l6 ?c6 ?k6 ?a7 ?l7 ?c7 ?k7 ?a8 ?i8 ?l8 ?c8 ?k8 ?a9 ?i9 ?l9 ?c9 ?k9 ?a10 ?i10 ?l10 ?c10 ?k10 ?a11 ?l11 ?c11 ?k11 ?a12 ?l12 ?c12 ?k12 ?a13 ?i13 ?l13 ?c13 ?k13 ?a14 ?i14 ?l14 ?c14 ?k14 ?a15 ?i15 ?l15 ?c15 ?k15 ?a16 ?i16 ?l16 ?c16 ?k16 ?a17 ?i17 ?l17 ?c17 ?k17 ?a18 ?i18 ?l18 ?c18 ?k18 ?a19 ?i19 ?l19 ?c19 ?k19 ?a20 ?i20 ?l20 ?c20 ?k20 ?a21 ?i21 ?l21 ?c21 ?k21 ?a22 ?i22 ?l22 ?c22 ?k22 ?a23 ?i23 ?l23 ?c23 ?k23 ?a24 ?i24 ?l24 ?c24 ?k24 ?a25 ?i25 ?l25 ?c25 ?k25 ?a26 ?i26 ?l26 ?c26 ?k26 ?a27 ?l27 ?c27 ?k27 ?a28 ?i28 ?l28 ?c28 ?k28 ?a29 ?i29 ?l29 ?c29 ?k29 ?a30 ?i30 ?l30 ?c30 ?k30 ?a31 ?i31 ?l31 ?c31 ?k31 ?a32 ?i32 ?l32 ?c32 ?k32 ?a33 ?i33 ?l33 ?c33 ?k33 ?a34 ?i34 ?l34 ?c34 ?k34 ?a35 ?i35 ?l35 ?c35 ?k35 ?a36 ?i36 ?l36 ?c36 ?k36 ?a37 ?i37 ?l37 ?c37 ?k37 ?a38 ?i38 ?l38 ?c38 ?k38 ?a39 ?l39 ?c39 ?k39 ?pg_House ?hd_House ?po_House ?sa_House ?mk_House ?kc_House ?pg_Things ?hd_Things ?po_Things ?sa_Things ?mk_Things ?kc_Things ?pg_Thing ?hd_Thing ?po_Thing ?sa_Thing ?mk_Thing ?kc_Thing ?z0 ?z1 ?z2 ?z3 ?z4 ?z5 ?z6 ?z7 ?z8 ?z9 ?z10 ?z11 ?z12 ?z13 ?z14 ?z15 ?z16 ?z20 ?z21 ?z22 ?z23 ?z24 ?z25 ?z26 ?z27 ?z28 ?z29 ?z30 ?z31 ?z32 ?z33 ?z34 ?z35 ?z36 ?z37 ?z38 ?z39 ?z40 ?z41
    (case a_House => k_is)
    (case a_Things => k_is)
    (case a_Thing => k_is)
    (case a0 => k_is)
    (case l0 => k_is)
    (case c0 => k_is)
    (case k0 => k_is)
    (case a1 => k_is)
    (case l1 => k_is)
    (case c1 => k_is)
    (case k1 => k_is)
    (case a2 => k_is)
    (case l2 => k_is)
    (case c2 => k_is)
    (case k2 => k_is)
    (case a3 => k_is)
    (case i3 => k_is)
    (case l3 => k_is)
    (case c3 => k_is)
    (case k3 => k_is)
    (case a4 => k_is)
    (case i4 => k_is)
    (case l4 => k_is)
    (case c4 => k_is)
    (case k4 => k_is)
    (case a5 => k_is)
    (case l5 => k_is)
    (case c5 => k_is)
    (case k5 => k_is)
    (case a6 => k_is)
    (case i6 => k_is)
    (case l6 => k_is)
    (case c6 => k_is)
    (case k6 => k_is)
    (case a7 => k_is)
    (case l7 => k_is)
    (case c7 => k_is)
    (case k7 => k_is)
    (case a8 => k_is)
    (case i8 => k_is)
    (case l8 => k_is)
    (case c8 => k_is)
    (case k8 => k_is)
    (case a9 => k_is)
    (case i9 => k_is)
    (case l9 => k_is)
    (case c9 => k_is)
    (case k9 => k_is)
    (case a10 => k_is)
    (case i10 => k_is)
    (case l10 => k_is)
    (case c10 => k_is)
    (case k10 => k_is)
    (case a11 => k_is)
    (case l11 => k_is)
    (case c11 => k_is)
    (case k11 => k_is)
    (case a12 => k_is)
    (case l12 => k_is)
    (case c12 => k_is)
    (case k12 => k_is)
    (case a13 => k_is)
    (case i13 => k_is)
    (case l13 => k_is)
    (case c13 => k_is)
    (case k13 => k_is)
    (case a14 => k_is)
    (case i14 => k_is)
    (case l14 => k_is)
    (case c14 => k_is)
    (case k14 => k_is)
    (case a15 => k_is)
    (case i15 => k_is)
    (case l15 => k_is)
    (case c15 => k_is)
    (case k15 => k_is)
    (case a16 => k_is)
    (case i16 => k_is)
    (case l16 => k_is)
    (case c16 => k_is)
    (case k16 => k_is)
    (case a17 => k_is)
    (case i17 => k_is)
    (case l17 => k_is)
    (case c17 => k_is)
    (case k17 => k_is)
    (case a18 => k_is)
    (case i18 => k_is)
    (case l18 => k_is)
    (case c18 => k_is)
    (case k18 => k_is)
    (case a19 => k_is)
    (case i19 => k_is)
    (case l19 => k_is)
    (case c19 => k_is)
    (case k19 => k_is)
    (case a20 => k_is)
    (case i20 => k_is)
    (case l20 => k_is)
    (case c20 => k_is)
    (case k20 => k_is)
    (case a21 => k_is)
    (case i21 => k_is)
    (case l21 => k_is)
    (case c21 => k_is)
    (case k21 => k_is)
    (case a22 => k_is)
    (case i22 => k_is)
    (case l22 => k_is)
    (case c22 => k_is)
    (case k22 => k_is)
    (case a23 => k_is)
    (case i23 => k_is)
    (case l23 => k_is)
    (case c23 => k_is)
    (case k23 => k_is)
    (case a24 => k_is)
    (case i24 => k_is)
    (case l24 => k_is)
    (case c24 => k_is)
    (case k24 => k_is)
    (case a25 => k_is)
    (case i25 => k_is)
    (case l25 => k_is)
    (case c25 => k_is)
    (case k25 => k_is)
    (case a26 => k_is)
    (case i26 => k_is)
    (case l26 => k_is)
    (case c26 => k_is)
    (case k26 => k_is)
    (case a27 => k_is)
    (case l27 => k_is)
    (case c27 => k_is)
    (case k27 => k_is)
    (case a28 => k_is)
    (case i28 => k_is)
    (case l28 => k_is)
    (case c28 => k_is)
    (case k28 => k_is)
    (case a29 => k_is)
    (case i29 => k_is)
    (case l29 => k_is)
    (case c29 => k_is)
    (case k29 => k_is)
    (case a30 => k_is)
    (case i30 => k_is)
    (case l30 => k_is)
    (case c30 => k_is)
    (case k30 => k_is)
    (case a31 => k_is)
    (case i31 => k_is)
    (case l31 => k_is)
    (case c31 => k_is)
    (case k31 => k_is)
    (case a32 => k_is)
    (case i32 => k_is)
    (case l32 => k_is)
    (case c32 => k_is)
    (case k32 => k_is)
    (case a33 => k_is)
    (case i33 => k_is)
    (case l33 => k_is)
    (case c33 => k_is)
    (case k33 => k_is)
    (case a34 => k_is)
    (case i34 => k_is)
    (case l34 => k_is)
    (case c34 => k_is)
    (case k34 => k_is)
    (case a35 => k_is)
    (case i35 => k_is)
    (case l35 => k_is)
    (case c35 => k_is)
    (case k35 => k_is)
    (case a36 => k_is)
    (case i36 => k_is)
    (case l36 => k_is)
    (case c36 => k_is)
    (case k36 => k_is)
    (case a37 => k_is)
    (case i37 => k_is)
    (case l37 => k_is)
    (case c37 => k_is)
    (case k37 => k_is)
    (case a38 => k_is)
    (case i38 => k_is)
    (case l38 => k_is)
    (case c38 => k_is)
    (case k38 => k_is)
    (case a39 => k_is)
    (case l39 => k_is)
    (case c39 => k_is)
    (case k39 => k_is)
    (case pg_House => k_is)
    (case hd_House => k_is)
    (case po_House => k_is)
    (case sa_House => k_is)
    (case mk_House => k_is)
    (case kc_House => k_is)
    (case pg_Things => k_is)
    (case hd_Things => k_is)
    (case po_Things => k_is)
    (case sa_Things => k_is)
    (case mk_Things => k_is)
    (case kc_Things => k_is)
    (case pg_Thing => k_is)
    (case hd_Thing => k_is)
    (case po_Thing => k_is)
    (case sa_Thing => k_is)
    (case mk_Thing => k_is)
    (case kc_Thing => k_is)
    (case z0 => k_is)
    (case z1 => k_is)
    (case z2 => k_is)
    (case z3 => k_is)
    (case z4 => k_is)
    (case z5 => k_is)
    (case z6 => k_is)
    (case z7 => k_is)
    (case z8 => k_is)
    (case z9 => k_is)
    (case z10 => k_is)
    (case z11 => k_is)
    (case z12 => k_is)
    (case z13 => k_is)
    (case z14 => k_is)
    (case z15 => k_is)
    (case z16 => k_is)
    (case z20 => k_is)
    (case z21 => k_is)
    (case z22 => k_is)
    (case z23 => k_is)
    (case z24 => k_is)
    (case z25 => k_is)
    (case z26 => k_is)
    (case z27 => k_is)
    (case z28 => k_is)
    (case z29 => k_is)
    (case z30 => k_is)
    (case z31 => k_is)
    (case z32 => k_is)
    (case z33 => k_is)
    (case z34 => k_is)
    (case z35 => k_is)
    (case z36 => k_is)
    (case z37 => k_is)
    (case z38 => k_is)
    (case z39 => k_is)
    (case z40 => k_is)
    (case z41 => k_is)

