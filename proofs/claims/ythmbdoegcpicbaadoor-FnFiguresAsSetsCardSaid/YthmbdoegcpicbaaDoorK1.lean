/- The parts of the proof from 'AbsGl' to 'AbsV': The variables of the library that the program's initialiser lays and nobody writes. Conditions: none beyond those that each contract bears. -/
import Derived.Lib.TrailingZeros
import Derived.RowKit3
import Derived.Below
import Derived.Deep.LoopGhost
import Derived.OrdersHeld
import Derived.Laws.CopyRow
import Derived.Laws.AppendOwn
import Derived.Laws.AppendOwnNone
import Derived.Laws.Rows
import Derived.Laws.MakeOwn
import Derived.KernelRfl
import Derived.IntWalk
import Derived.Laws.Small
import Derived.Laws.StructEq
import Derived.Test.YthmbdoegcpicbaaDoorWLast
set_option linter.unusedVariables false
set_option linter.unusedSimpArgs false

/-! ## AbsGl -/
namespace Go.Proofs.YthmbdoegcpicbaaDoor.Abs
def glob : List (Nat × List Value) := [(0, Lib.deBruijn64tab.map fun (n : Nat) => Value.int .u8 (n : Int))]
end Go.Proofs.YthmbdoegcpicbaaDoor.Abs

/-! ## AbsA -/
namespace Go.Proofs.YthmbdoegcpicbaaDoor.Abs

/-! ### 1. Data that never changes -/
inductive D where
  | int (k : IntKind) (n : Int)
  | bool (b : Bool)
  | str (s : ByteArray)
  | agg (ds : List D)
  | ints (k : IntKind) (l : List Int)
  | strs (l : List ByteArray)
  | slice (sz : Nat) (ds : List D)
  deriving Inhabited

/-- A slice's elements, and how many cells each takes. -/
def D.view : D → Option (Nat × List D)
  | .ints k l => some (1, l.map (.int k))
  | .strs l => some (1, l.map .str)
  | .slice sz ds => some (sz, ds)
  | _ => none
/-- The cells of a value. -/
def D.leaves : D → List D
  | .agg ds => ds
  | .int k n => [.int k n]
  | .bool b => [.bool b]
  | .str s => [.str s]
  | .ints k l => [.ints k l]
  | .strs l => [.strs l]
  | .slice sz ds => [.slice sz ds]

/-- These values lie one behind the other in a block that never changes. -/
def At (I : Nat → Option Obj) (A : Option Addr) (vs : List Value) : Prop :=
  ∃ g o c e fr, A = some ⟨g, o, none⟩ ∧ I g = some (.cells c e fr) ∧ ∀ j v, vs[j]? = some v → c[o + j]? = some v

mutual
inductive VD (I : Nat → Option Obj) : D → Value → Prop
  | int (k : IntKind) (n : Int) : VD I (.int k n) (.int k n)
  | bool (b : Bool) : VD I (.bool b) (.bool b)
  | str (s : ByteArray) : VD I (.str s) (.string s)
  | agg {ds : List D} {cs : List Value} (h : VDs I ds cs) : VD I (.agg ds) (.agg cs.toArray)
  | sl {c : D} {sz : Nat} {es : List D} (A : Option Addr) (cap : Nat) (vs : List Value) (hv : c.view = some (sz, es)) (h1 : es.length ≤ cap) (h2 : cap ≤ maxLen)
      (hl : vs.length = es.length * sz) (hf : ∀ (i : Nat) (h : i < es.length), VDs I (es[i]).leaves ((vs.drop (i * sz)).take sz)) (ha : vs = [] ∨ At I A vs) : VD I c (.slice A es.length cap)
inductive VDs (I : Nat → Option Obj) : List D → List Value → Prop
  | nil : VDs I [] []
  | cons {d : D} {v : Value} {ds : List D} {vs : List Value} (h : VD I d v) (ho : v.oneCell' = true) (t : VDs I ds vs) : VDs I (d :: ds) (v :: vs)
end

def Sub (I J : Nat → Option Obj) : Prop := ∀ g o, I g = some o → J g = some o
theorem Sub.refl (I : Nat → Option Obj) : Sub I I := fun _ _ h => h
theorem Sub.trans {I J K : Nat → Option Obj} (h : Sub I J) (k : Sub J K) : Sub I K := fun g o hg => k g o (h g o hg)

theorem At.mono {I J : Nat → Option Obj} (hs : Sub I J) {A : Option Addr} {vs : List Value} (h : At I A vs) : At J A vs := by
  obtain ⟨g, o, c, e, fr, h1, h2, h3⟩ := h
  exact ⟨g, o, c, e, fr, h1, hs _ _ h2, h3⟩

theorem VD.mono {I J : Nat → Option Obj} (hs : Sub I J) {d : D} {v : Value} (h : VD I d v) : VD J d v :=
  VD.rec (I := I) (motive_1 := fun d v _ => VD J d v) (motive_2 := fun ds vs _ => VDs J ds vs)
    (fun k n => .int k n) (fun b => .bool b) (fun s => .str s) (fun _ ih => .agg ih)
    (fun A cap vs hv h1 h2 hl _ ha ih => .sl A cap vs hv h1 h2 hl ih (ha.imp id (At.mono hs)))
    .nil (fun _ ho _ ih1 ih2 => .cons ih1 ho ih2) h
theorem VDs.mono {I J : Nat → Option Obj} (hs : Sub I J) {d : List D} {v : List Value} (h : VDs I d v) : VDs J d v :=
  VDs.rec (I := I) (motive_1 := fun d v _ => VD J d v) (motive_2 := fun ds vs _ => VDs J ds vs)
    (fun k n => .int k n) (fun b => .bool b) (fun s => .str s) (fun _ ih => .agg ih)
    (fun A cap vs hv h1 h2 hl _ ha ih => .sl A cap vs hv h1 h2 hl ih (ha.imp id (At.mono hs)))
    .nil (fun _ ho _ ih1 ih2 => .cons ih1 ho ih2) h

theorem VDs.length {I : Nat → Option Obj} : ∀ {ds : List D} {vs : List Value}, VDs I ds vs → ds.length = vs.length
  | [], _, h => by cases h; rfl
  | _ :: ds, _, h => by
    cases h with
    | cons h ho t => simp [VDs.length t]
theorem VDs.get {I : Nat → Option Obj} : ∀ {ds : List D} {vs : List Value}, VDs I ds vs → ∀ (j : Nat) (d : D), ds[j]? = some d → ∃ v, vs[j]? = some v ∧ VD I d v
  | [], _, h, j, d, hd => by simp at hd
  | x :: ds, _, h, j, d, hd => by
    cases h with
    | cons h ho t =>
      cases j with
      | zero => simp only [List.getElem?_cons_zero, Option.some.injEq] at hd; subst hd; exact ⟨_, by simp, h⟩
      | succ j => simp only [List.getElem?_cons_succ] at hd ⊢; exact VDs.get t j d hd
theorem VDs.append {I : Nat → Option Obj} : ∀ {ds es : List D} {vs us : List Value}, VDs I ds vs → VDs I es us → VDs I (ds ++ es) (vs ++ us)
  | [], _, _, _, h, k => by cases h; exact k
  | _ :: ds, es, _, us, h, k => by
    cases h with
    | cons h ho t => exact .cons h ho (VDs.append t k)
theorem VDs.drop {I : Nat → Option Obj} : ∀ {ds : List D} {vs : List Value} (n : Nat), VDs I ds vs → VDs I (ds.drop n) (vs.drop n)
  | [], _, n, h => by cases h; simpa using VDs.nil
  | _ :: ds, _, n, h => by
    cases h with
    | cons h ho t =>
      cases n with
      | zero => exact .cons h ho t
      | succ n => exact VDs.drop n t
theorem VDs.take {I : Nat → Option Obj} : ∀ {ds : List D} {vs : List Value} (n : Nat), VDs I ds vs → VDs I (ds.take n) (vs.take n)
  | [], _, n, h => by cases h; simpa using VDs.nil
  | _ :: ds, _, n, h => by
    cases h with
    | cons h ho t =>
      cases n with
      | zero => exact .nil
      | succ n => exact .cons h ho (VDs.take n t)

theorem VDs.one {I : Nat → Option Obj} : ∀ {ds : List D} {vs : List Value}, VDs I ds vs → ∀ v ∈ vs, v.oneCell' = true
  | [], _, h => by cases h; simp
  | _ :: ds, _, h => by
    cases h with
    | cons h ho t =>
      intro v hv
      rcases List.mem_cons.1 hv with rfl | hv
      · exact ho
      · exact VDs.one t v hv

/-! ### 2. Abstract values -/
/-- A variable in memory: made in this frame by the operation that fills temporary d; or handed in from outside. -/
inductive BId where
  | loc (d : Nat)
  | out (k : Nat)
  deriving DecidableEq
/-- A slice's array that this frame owns: made by the operation that fills temporary d; or handed in from outside; or one of a call's results. -/
inductive Tag where
  | tmp (d j : Nat)
  | ext (l : Nat)
  | ret (j : Nat)
  deriving DecidableEq

inductive AV where
  | undef
  | d (x : D)
  | nils
  | own (t : Tag)
  | agg (cs : List AV)
  | tuple (vs : List AV)
  | ptr (b : BId) (o : Nat)
  | dptr (ds : List D)
  | eptr (t : Tag) (sz i o : Nat)
  | fn (f : FuncId) (caps : List AV)
  deriving Inhabited

/-- What a block is for: nothing is known; it never changes and may be read; it does not change in this call and is not read; a variable; an owned array. -/
inductive Role where
  | none
  | im (o : Obj)
  | hid (o : Obj)
  | box (b : BId)
  | arr (t : Tag)

structure Gh where
  role : Nat → Role
  β : BId → Nat
  av : Tag → Value

def Gh.im (G : Gh) (b : Nat) : Option Obj := match G.role b with | .im o => some o | _ => Option.none

mutual
inductive VA (G : Gh) : AV → Value → Prop
  | undef (v : Value) : VA G .undef v
  | d {x : D} {v : Value} (h : VD G.im x v) : VA G (.d x) v
  | nils : VA G .nils (.slice none 0 0)
  | own (t : Tag) (A : Option Addr) (l c : Nat) (h : G.av t = .slice A l c) : VA G (.own t) (.slice A l c)
  | agg {cs : List AV} {vs : List Value} (h : VAs G cs vs) : VA G (.agg cs) (.agg vs.toArray)
  | tuple {cs : List AV} {vs : List Value} (h : VAs G cs vs) : VA G (.tuple cs) (.tuple vs.toArray)
  | ptr (b : BId) (o : Nat) : VA G (.ptr b o) (.pointer (some ⟨G.β b, o, none⟩))
  | dptr {ds : List D} {vs : List Value} (g o : Nat) (h : VDs G.im ds vs) (ha : At G.im (some ⟨g, o, none⟩) vs) : VA G (.dptr ds) (.pointer (some ⟨g, o, none⟩))
  | eptr (t : Tag) (g sz i o : Nat) (h : (G.av t).ownBlock = some g) : VA G (.eptr t sz i o) (.pointer (some ⟨g, i * sz + o, none⟩))
  | fn (f : FuncId) {cs : List AV} {vs : List Value} (h : VAs G cs vs) : VA G (.fn f cs) (.func (.func f) #[] vs.toArray)
inductive VAs (G : Gh) : List AV → List Value → Prop
  | nil : VAs G [] []
  | cons {d : AV} {v : Value} {ds : List AV} {vs : List Value} (h : VA G d v) (t : VAs G ds vs) : VAs G (d :: ds) (v :: vs)
end

theorem VAs.length {I : Gh} : ∀ {ds : List AV} {vs : List Value}, VAs I ds vs → ds.length = vs.length
  | [], _, h => by cases h; rfl
  | _ :: ds, _, h => by
    cases h with
    | cons h t => simp [VAs.length t]
theorem VAs.get {I : Gh} : ∀ {ds : List AV} {vs : List Value}, VAs I ds vs → ∀ (j : Nat) (d : AV), ds[j]? = some d → ∃ v, vs[j]? = some v ∧ VA I d v
  | [], _, h, j, d, hd => by simp at hd
  | x :: ds, _, h, j, d, hd => by
    cases h with
    | cons h t =>
      cases j with
      | zero => simp only [List.getElem?_cons_zero, Option.some.injEq] at hd; subst hd; exact ⟨_, by simp, h⟩
      | succ j => simp only [List.getElem?_cons_succ] at hd ⊢; exact VAs.get t j d hd
theorem VAs.append {I : Gh} : ∀ {ds es : List AV} {vs us : List Value}, VAs I ds vs → VAs I es us → VAs I (ds ++ es) (vs ++ us)
  | [], _, _, _, h, k => by cases h; exact k
  | _ :: ds, es, _, us, h, k => by
    cases h with
    | cons h t => exact .cons h (VAs.append t k)
theorem VAs.drop {I : Gh} : ∀ {ds : List AV} {vs : List Value} (n : Nat), VAs I ds vs → VAs I (ds.drop n) (vs.drop n)
  | [], _, n, h => by cases h; simpa using VAs.nil
  | _ :: ds, _, n, h => by
    cases h with
    | cons h t =>
      cases n with
      | zero => exact .cons h t
      | succ n => exact VAs.drop n t
theorem VAs.take {I : Gh} : ∀ {ds : List AV} {vs : List Value} (n : Nat), VAs I ds vs → VAs I (ds.take n) (vs.take n)
  | [], _, n, h => by cases h; simpa using VAs.nil
  | _ :: ds, _, n, h => by
    cases h with
    | cons h t =>
      cases n with
      | zero => exact .nil
      | succ n => exact .cons h (VAs.take n t)
theorem VAs.of_ds {G : Gh} : ∀ {ds : List D} {vs : List Value}, VDs G.im ds vs → VAs G (ds.map .d) vs
  | [], _, h => by cases h; exact .nil
  | _ :: ds, _, h => by
    cases h with
    | cons h ho t => exact .cons (.d h) (VAs.of_ds t)

/-! ### 3. What an abstract value leans on -/
mutual
/-- Is this tag named? -/
def AV.tag (t : Tag) : AV → Bool
  | .own u => u = t
  | .eptr u _ _ _ => u = t
  | .agg cs => AV.tags t cs
  | .tuple cs => AV.tags t cs
  | .fn _ cs => AV.tags t cs
  | _ => false
def AV.tags (t : Tag) : List AV → Bool
  | [] => false
  | c :: cs => AV.tag t c || AV.tags t cs
end
mutual
/-- Is this variable pointed to? -/
def AV.pts (b : BId) : AV → Bool
  | .ptr c _ => c = b
  | .agg cs => AV.ptss b cs
  | .tuple cs => AV.ptss b cs
  | .fn _ cs => AV.ptss b cs
  | _ => false
def AV.ptss (b : BId) : List AV → Bool
  | [] => false
  | c :: cs => AV.pts b c || AV.ptss b cs
end

/-- A value's reading stays where what it leans on stays. -/
theorem VA.mono {G H : Gh} (hi : Sub G.im H.im) {x : AV} {v : Value} (h : VA G x v) (ht : ∀ t, AV.tag t x = true → H.av t = G.av t) (hb : ∀ b, AV.pts b x = true → H.β b = G.β b) : VA H x v :=
  VA.rec (G := G) (motive_1 := fun x v _ => (∀ t, AV.tag t x = true → H.av t = G.av t) → (∀ b, AV.pts b x = true → H.β b = G.β b) → VA H x v)
    (motive_2 := fun xs vs _ => (∀ t, AV.tags t xs = true → H.av t = G.av t) → (∀ b, AV.ptss b xs = true → H.β b = G.β b) → VAs H xs vs)
    (fun v _ _ => .undef v) (fun h _ _ => .d (h.mono hi)) (fun _ _ => .nils)
    (fun t A l c h ht _ => .own t A l c (by rw [ht t (by simp [AV.tag])]; exact h))
    (fun _ ih ht hb => .agg (ih (fun t h => ht t (by simpa [AV.tag] using h)) (fun t h => hb t (by simpa [AV.pts] using h))))
    (fun _ ih ht hb => .tuple (ih (fun t h => ht t (by simpa [AV.tag] using h)) (fun t h => hb t (by simpa [AV.pts] using h))))
    (fun b o _ hb => by rw [← hb b (by simp [AV.pts])]; exact .ptr b o)
    (fun g o h ha _ _ => .dptr g o (h.mono hi) (ha.mono hi))
    (fun t g sz i o h ht _ => .eptr t g sz i o (by rw [ht t (by simp [AV.tag])]; exact h))
    (fun f _ _ _ ih ht hb => .fn f (ih (fun t h => ht t (by simpa [AV.tag] using h)) (fun t h => hb t (by simpa [AV.pts] using h))))
    (fun _ _ => .nil)
    (fun _ _ ih1 ih2 ht hb => .cons (ih1 (fun t h => ht t (by simp [AV.tags, h])) (fun t h => hb t (by simp [AV.ptss, h]))) (ih2 (fun t h => ht t (by simp [AV.tags, h])) (fun t h => hb t (by simp [AV.ptss, h]))))
    h ht hb
theorem VAs.mono {G H : Gh} (hi : Sub G.im H.im) : ∀ {x : List AV} {v : List Value}, VAs G x v → (∀ t, AV.tags t x = true → H.av t = G.av t) → (∀ b, AV.ptss b x = true → H.β b = G.β b) → VAs H x v
  | [], _, h, _, _ => by cases h; exact .nil
  | x :: xs, _, h, ht, hb => by
    cases h with
    | cons h t => exact .cons (h.mono hi (fun t h => ht t (by simp [AV.tags, h])) (fun t h => hb t (by simp [AV.ptss, h]))) (t.mono hi (fun t h => ht t (by simp [AV.tags, h])) (fun t h => hb t (by simp [AV.ptss, h])))

mutual
/-- What no longer holds is forgotten: a tag, a variable. -/
def AV.purge (t : Tag → Bool) (b : BId → Bool) : AV → AV
  | .own u => bif t u then .undef else .own u
  | .eptr u sz i o => bif t u then .undef else .eptr u sz i o
  | .ptr c o => bif b c then .undef else .ptr c o
  | .agg cs => .agg (AV.purges t b cs)
  | .tuple cs => .tuple (AV.purges t b cs)
  | .fn f cs => .fn f (AV.purges t b cs)
  | .undef => .undef
  | .d x => .d x
  | .nils => .nils
  | .dptr ds => .dptr ds
def AV.purges (t : Tag → Bool) (b : BId → Bool) : List AV → List AV
  | [] => []
  | c :: cs => AV.purge t b c :: AV.purges t b cs
end

theorem VA.purge {G H : Gh} (t : Tag → Bool) (b : BId → Bool) (hi : Sub G.im H.im) (ht : ∀ u, t u = false → H.av u = G.av u) (hb : ∀ u, b u = false → H.β u = G.β u) {x : AV} {v : Value} (h : VA G x v) : VA H (x.purge t b) v :=
  VA.rec (G := G) (motive_1 := fun x v _ => VA H (x.purge t b) v) (motive_2 := fun xs vs _ => VAs H (AV.purges t b xs) vs)
    (fun v => by simpa [AV.purge] using VA.undef v) (fun h => by simpa [AV.purge] using VA.d (h.mono hi)) (by simpa [AV.purge] using VA.nils)
    (fun u A l c h => by
      simp only [AV.purge]
      cases hu : t u
      · simp only [cond_false]; exact .own u A l c (by rw [ht u hu]; exact h)
      · exact .undef _)
    (fun _ ih => by simpa [AV.purge] using VA.agg ih) (fun _ ih => by simpa [AV.purge] using VA.tuple ih)
    (fun c o => by
      simp only [AV.purge]
      cases hu : b c
      · simp only [cond_false]; rw [← hb c hu]; exact .ptr c o
      · exact .undef _)
    (fun g o h ha => by simpa [AV.purge] using VA.dptr g o (h.mono hi) (ha.mono hi))
    (fun u g sz i o h => by
      simp only [AV.purge]
      cases hu : t u
      · simp only [cond_false]; exact .eptr u g sz i o (by rw [ht u hu]; exact h)
      · exact .undef _)
    (fun f _ _ _ ih => by simpa [AV.purge] using VA.fn f ih)
    (by simpa [AV.purges] using VAs.nil) (fun _ _ ih1 ih2 => by simpa [AV.purges] using VAs.cons ih1 ih2) h
theorem VAs.purge {G H : Gh} (t : Tag → Bool) (b : BId → Bool) (hi : Sub G.im H.im) (ht : ∀ u, t u = false → H.av u = G.av u) (hb : ∀ u, b u = false → H.β u = G.β u) : ∀ {x : List AV} {v : List Value}, VAs G x v → VAs H (AV.purges t b x) v
  | [], _, h => by cases h; simpa [AV.purges] using VAs.nil
  | x :: xs, _, h => by
    cases h with
    | cons h k => simpa [AV.purges] using VAs.cons (h.purge t b hi ht hb) (k.purge t b hi ht hb)
end Go.Proofs.YthmbdoegcpicbaaDoor.Abs

/-! ## AbsB -/
namespace Go.Proofs.YthmbdoegcpicbaaDoor.Abs

/-! ### 4. States -/
structure Box where
  E : TypeId
  cs : List AV
structure Arr where
  E : TypeId
  c : D
structure St where
  n : Nat
  tmps : Nat → AV
  boxes : BId → Option Box
  arrs : Tag → Option Arr

def upd {α : Type} (f : Nat → α) (d : Nat) (v : α) : Nat → α := fun i => bif Nat.beq i d then v else f i
theorem upd_same {α : Type} (f : Nat → α) (d : Nat) (v : α) : upd f d v d = v := by simp [upd]
theorem upd_ne {α : Type} (f : Nat → α) {d i : Nat} (v : α) (h : i ≠ d) : upd f d v i = f i := by
  have : Nat.beq i d = false := by
    cases hb : Nat.beq i d
    · rfl
    · exact absurd (Nat.eq_of_beq_eq_true hb) h
  simp [upd, this]

def Flat (I : Nat → Option Obj) (sz : Nat) (es : List D) (vs : List Value) : Prop :=
  vs.length = es.length * sz ∧ ∀ (i : Nat) (h : i < es.length), VDs I (es[i]).leaves ((vs.drop (i * sz)).take sz)
theorem Flat.mono {I J : Nat → Option Obj} (hs : Sub I J) {sz : Nat} {es : List D} {vs : List Value} (h : Flat I sz es vs) : Flat J sz es vs := ⟨h.1, fun i hi => (h.2 i hi).mono hs⟩

/-- The laid variables are as they were laid. -/
def GlOk (role : Nat → Role) : Prop := ∀ p ∈ glob, ∃ xs E c, role p.1 = .im (.cells xs E c) ∧ ∀ (j : Nat) (v : Value), p.2[j]? = some v → xs[j]? = some v
theorem GlOk.mono {f g : Nat → Role} (h : GlOk f) (hi : ∀ b o, f b = .im o → g b = .im o) : GlOk g := fun p hp => by
  obtain ⟨xs, E, c, h1, h2⟩ := h p hp
  exact ⟨xs, E, c, hi _ _ h1, h2⟩
structure Sat (G : Gh) (bx : BId → Option Box) (ar : Tag → Option Arr) (w : World) : Prop where
  im : ∀ b o, (G.role b = .im o ∨ G.role b = .hid o) → w.heap[b]? = some o
  bx : ∀ id x, bx id = some x → G.role (G.β id) = .box id ∧ ∃ vs : List Value, w.heap[G.β id]? = some (.cells vs.toArray x.E (0, 0)) ∧ VAs G x.cs vs
  ar : ∀ t a, ar t = some a → (∀ g, (G.av t).ownBlock = some g → G.role g = .arr t) ∧ ∃ sz es vs, a.c.view = some (sz, es) ∧ Flat G.im sz es vs ∧ w.ownsRow 0 a.E sz (G.av t) es.length vs
  gl : GlOk G.role

structure Rel (G : Gh) (σ : St) (a : Act) (w : World) : Prop where
  n : a.tmps.size = σ.n
  t : ∀ i, VA G (σ.tmps i) (a.tmps.getD i Go.undef)
  df : a.defers = []
  s : Sat G σ.boxes σ.arrs w

structure Later (G : Gh) (w : World) (H : Gh) (w' : World) : Prop where
  im : ∀ b o, G.role b = .im o → H.role b = .im o
  hid : ∀ b o, G.role b = .hid o → H.role b = .hid o
  os : w'.os = w.os
  tape : w'.tape = w.tape
  output : w'.output = w.output
  size : w.heap.size ≤ w'.heap.size
  bo : ∀ k, H.β (.out k) = G.β (.out k)
theorem Later.refl (G : Gh) (w : World) : Later G w G w := ⟨fun _ _ h => h, fun _ _ h => h, rfl, rfl, rfl, Nat.le_refl _, fun _ => rfl⟩
theorem Later.trans {G H K : Gh} {a b c : World} (h : Later G a H b) (k : Later H b K c) : Later G a K c :=
  ⟨fun x o q => k.im x o (h.im x o q), fun x o q => k.hid x o (h.hid x o q), k.os.trans h.os, k.tape.trans h.tape, k.output.trans h.output, Nat.le_trans h.size k.size, fun x => (k.bo x).trans (h.bo x)⟩

theorem im_of {G : Gh} {b : Nat} {o : Obj} : G.im b = some o ↔ G.role b = .im o := by
  unfold Gh.im
  cases G.role b <;> simp
theorem Later.sub {G H : Gh} {w w' : World} (h : Later G w H w') : Sub G.im H.im := fun g o hg => im_of.2 (h.im g o (im_of.1 hg))

/-- What this call's readings lean on is as it was. -/
def Same (G : Gh) (w w' : World) : Prop := ∀ b, G.role b ≠ .none → w'.heap[b]? = w.heap[b]?
theorem Same.refl (G : Gh) (w : World) : Same G w w := fun _ _ => rfl

/-! ### 5. Types, the program -/
structure TI where
  desc : TypeDesc
  zero : Value
  size : Nat
  bytes : Nat
structure TyOk (P : Program) (t : TypeId) (i : TI) : Prop where
  und : P.underlying t = some i.desc
  info : (P.info? t).map (fun x => (x.zero, x.size, x.bytes)) = some (some i.zero, i.size, i.bytes)
structure Env where
  P : Program
  Γ : TypeId → Option TI
  ok : ∀ t i, Γ t = some i → TyOk P t i
  mixed : P.follows .mixedOrders = true

def isAggD : TypeDesc → Bool
  | .struct _ | .array _ _ => true
  | _ => false

section
variable {P : Program} {t : TypeId} {i : TI} (h : TyOk P t i) (w : World)
include h
theorem TyOk.inf : ∃ x, P.info? t = some x ∧ x.zero = some i.zero ∧ x.size = i.size ∧ x.bytes = i.bytes := by
  have := h.info
  cases hx : P.info? t with
  | none => simp [hx] at this
  | some x => simp [hx] at this; exact ⟨x, rfl, this.1, this.2.1, this.2.2⟩
theorem TyOk.runSize : (sizeOf t).run P w = .ok i.size w := by
  obtain ⟨x, h1, h2, h3, h4⟩ := h.inf
  simp [sizeOf, typeInfo, h1, h3]
theorem TyOk.runZero : (zeroValue t).run P w = .ok i.zero w := by
  obtain ⟨x, h1, h2, h3, h4⟩ := h.inf
  simp [zeroValue, typeInfo, h1, h2]
theorem TyOk.runUnd : (underlying t).run P w = .ok i.desc w := run_underlying h.und w
theorem TyOk.runAgg : (isAgg t).run P w = .ok (isAggD i.desc) w := by
  have := h.runUnd w
  cases hd : i.desc <;> simp [isAgg, this, hd, isAggD]
end

/-! ### 6. Operands -/
def cval : Value → AV
  | .int k n => .d (.int k n)
  | .bool b => .d (.bool b)
  | .string s => .d (.str s)
  | .slice A l c => (match A, l, c with | none, 0, 0 => .nils | _, _, _ => .undef)
  | .func g a b => (match g with | .func f => bif Nat.beq a.size 0 && Nat.beq b.size 0 then .fn f [] else .undef | _ => .undef)
  | _ => .undef
theorem cval_ok (G : Gh) (v : Value) : VA G (cval v) v := by
  cases v with
  | int k n => exact .d (.int _ _)
  | bool b => exact .d (.bool _)
  | string s => exact .d (.str _)
  | slice A l c =>
    simp only [cval]
    split
    · exact .nils
    · exact .undef _
  | func g a b =>
    simp only [cval]
    split
    · cases h : (Nat.beq a.size 0 && Nat.beq b.size 0)
      · exact .undef _
      · rw [Bool.and_eq_true] at h
        have h1 := Array.eq_empty_of_size_eq_zero (Nat.eq_of_beq_eq_true h.1)
        have h2 := Array.eq_empty_of_size_eq_zero (Nat.eq_of_beq_eq_true h.2)
        subst h1; subst h2
        exact .fn _ (cs := []) (vs := []) .nil
    · exact .undef _
  | _ => exact .undef _
def cvals (vs : List Value) : List AV := vs.map cval
theorem cvals_ok (G : Gh) : ∀ vs : List Value, VAs G (cvals vs) vs
  | [] => .nil
  | v :: vs => .cons (cval_ok G v) (cvals_ok G vs)

def St.ev (σ : St) : Operand → AV
  | .tmp t => σ.tmps t
  | .const v => cval v
  | .func f => .fn f []
  | .global _ => .undef
theorem Rel.ev {G : Gh} {σ : St} {a : Act} {w : World} (h : Rel G σ a w) (x : Operand) : VA G (σ.ev x) (a.eval x) := by
  cases x with
  | tmp t => exact h.t t
  | const v => exact cval_ok G v
  | func f => exact .fn f (cs := []) (vs := []) .nil
  | global g => exact .undef _
def St.evs (σ : St) (xs : List Operand) : List AV := xs.map σ.ev
theorem Rel.evs {G : Gh} {σ : St} {a : Act} {w : World} (h : Rel G σ a w) : ∀ xs : List Operand, VAs G (σ.evs xs) (xs.map a.eval)
  | [] => .nil
  | x :: xs => .cons (h.ev x) (h.evs xs)

def St.put (σ : St) (d : Option Tmp) (v : AV) : St := match d with | some d => { σ with tmps := upd σ.tmps d v } | none => σ
def okd (n : Nat) : Option Tmp → Bool
  | some d => Nat.ble (d + 1) n
  | none => true
theorem Rel.put {G : Gh} {σ : St} {a : Act} {w : World} (h : Rel G σ a w) {d : Option Tmp} {x : AV} {v : Value} (hv : VA G x v) (hd : okd σ.n d = true) : Rel G (σ.put d x) (a.put d v) w := by
  cases d with
  | none => exact h
  | some d =>
    have hd' : d < a.tmps.size := by rw [h.n]; exact Nat.le_of_ble_eq_true hd
    refine ⟨by simpa [Act.put, St.put] using h.n, fun i => ?_, h.df, h.s⟩
    simp only [Act.put, St.put, Array.getD_eq_getD_getElem?]
    by_cases hi : i = d
    · subst hi; rw [upd_same, Array.getElem?_setIfInBounds_self_of_lt hd']; exact hv
    · rw [upd_ne _ _ hi, Array.getElem?_setIfInBounds_ne (Ne.symm hi)]
      have := h.t i
      simpa [Array.getD_eq_getD_getElem?] using this

/-! ### 7. Whole numbers -/
def inR (k : IntKind) (n : Int) : Prop := k.wrap n = n
theorem inR_i64 {n : Int} (h1 : -9223372036854775808 ≤ n) (h2 : n ≤ 9223372036854775807) : inR .i64 n := IntWalk.i64_in n ⟨h1, h2⟩
/-- A sum, a difference, a product: of an int it has to fit; of another kind it is wrapped. -/
def arith (k : IntKind) (n : Int) : Prop × AV := match k with
  | .i64 => (inR .i64 n, .d (.int .i64 n))
  | k => (True, .d (.int k (k.wrap n)))
def bitv (op : BinOp) (k : IntKind) (x y : Int) : Option Int :=
  let a := BitVec.ofInt k.bits x
  let b := BitVec.ofInt k.bits y
  match op with
  | .and => some (k.wrap (a &&& b).toNat)
  | .or => some (k.wrap (a ||| b).toNat)
  | .xor => some (k.wrap (a ^^^ b).toNat)
  | .andNot => some (k.wrap (a &&& ~~~b).toNat)
  | _ => none
def vInt (op : BinOp) (k : IntKind) (x y : Int) : Option (Prop × AV) := match op with
  | .add => some (arith k (x + y))
  | .sub => some (arith k (x - y))
  | .mul => some (arith k (x * y))
  | .quo => some (y ≠ 0 ∧ inR k (x.tdiv y), .d (.int k (x.tdiv y)))
  | .rem => some (y ≠ 0, .d (.int k (x.tmod y)))
  | .eql => some (True, .d (.bool (x == y)))
  | .neq => some (True, .d (.bool (x != y)))
  | .lss => some (True, .d (.bool (decide (x < y))))
  | .leq => some (True, .d (.bool (decide (x ≤ y))))
  | .gtr => some (True, .d (.bool (decide (x > y))))
  | .geq => some (True, .d (.bool (decide (x ≥ y))))
  | .and => (bitv .and k x y).map fun n => (True, .d (.int k n))
  | .or => (bitv .or k x y).map fun n => (True, .d (.int k n))
  | .xor => (bitv .xor k x y).map fun n => (True, .d (.int k n))
  | .andNot => (bitv .andNot k x y).map fun n => (True, .d (.int k n))
  | _ => none
def vShift (op : BinOp) (k : IntKind) (x y : Int) : Option (Prop × AV) := match op with
  | .shl => some (0 ≤ y, .d (.int k (k.wrap (x * 2 ^ (min y.toNat k.bits)))))
  | .shr => some (0 ≤ y, .d (.int k (x.fdiv (2 ^ (min y.toNat k.bits)))))
  | _ => none
def vStr (op : BinOp) (x y : ByteArray) : Option (Prop × AV) := match op with
  | .add => some (x.size + y.size ≤ 9223372036854775807, .d (.str (x ++ y)))
  | .eql => some (True, .d (.bool (x.toList == y.toList)))
  | .neq => some (True, .d (.bool (!(x.toList == y.toList))))
  | .lss => some (True, .d (.bool (Op.bytesLess x.toList y.toList)))
  | .leq => some (True, .d (.bool (Op.bytesLess x.toList y.toList || x.toList == y.toList)))
  | .gtr => some (True, .d (.bool (!(Op.bytesLess x.toList y.toList || x.toList == y.toList))))
  | .geq => some (True, .d (.bool (!Op.bytesLess x.toList y.toList)))
  | _ => none
def vBool (op : BinOp) (x y : Bool) : Option (Prop × AV) := match op with
  | .eql => some (True, .d (.bool (x == y)))
  | .neq => some (True, .d (.bool (x != y)))
  | _ => none
def isShift : BinOp → Bool
  | .shl | .shr => true
  | _ => false
def isBoolD : Option TI → Bool
  | some { desc := .bool, .. } => true
  | _ => false
def vBin (i : Option TI) (op : BinOp) : AV → AV → Option (Prop × AV)
  | .d (.int k x), .d (.int k' y) => bif isShift op then vShift op k x y else bif decide (k = k') then vInt op k x y else none
  | .d (.str x), .d (.str y) => vStr op x y
  | .d (.bool x), .d (.bool y) => bif isBoolD i then vBool op x y else none
  | _, _ => none

theorem arith_ok {k : IntKind} {n : Int} {G : Gh} (h : (arith k n).1) : VA G (arith k n).2 (.int k (k.wrap n)) := by
  cases k <;> first
    | exact .d (.int _ _)
    | (have h' : IntKind.wrap .i64 n = n := h
       show VA G (.d (.int .i64 n)) _
       rw [h']; exact .d (.int _ _))

/-- This computation gives a value that reads so, whatever the world of which C holds, and leaves it. -/
def Gives (P : Program) (G : Gh) (C : World → Prop) (s : Sem Value) (x : AV) : Prop := ∃ v, VA G x v ∧ ∀ w2, C w2 → s.run P w2 = .ok v w2

theorem Gives.pure {P : Program} {G : Gh} {C : World → Prop} {x : AV} {v : Value} (h : VA G x v) : Gives P G C (Pure.pure v) x := ⟨v, h, fun _ _ => rfl⟩

theorem vInt_ok {P : Program} {G : Gh} {C : World → Prop} {op : BinOp} {k : IntKind} {x y : Int} {p : Prop} {r : AV} (h : vInt op k x y = some (p, r)) (hp : p) (t : TypeId) :
    Gives P G C (binOp op t (.int k x) (.int k y)) r := by
  have core : ∀ v, VA G r v → (∀ w2, (binOp op t (.int k x) (.int k y)).run P w2 = .ok v w2) → Gives P G C (binOp op t (.int k x) (.int k y)) r := fun v h1 h2 => ⟨v, h1, fun w2 _ => h2 w2⟩
  cases op <;> simp only [vInt, bitv, Option.map_some, Option.some.injEq, Prod.mk.injEq, reduceCtorEq] at h
  case add => obtain rfl := congrArg Prod.fst h; obtain rfl := congrArg Prod.snd h; exact core _ (arith_ok hp) (fun w2 => by simp [binOp, Op.intArith])
  case sub => obtain rfl := congrArg Prod.fst h; obtain rfl := congrArg Prod.snd h; exact core _ (arith_ok hp) (fun w2 => by simp [binOp, Op.intArith])
  case mul => obtain rfl := congrArg Prod.fst h; obtain rfl := congrArg Prod.snd h; exact core _ (arith_ok hp) (fun w2 => by simp [binOp, Op.intArith])
  case quo =>
    obtain ⟨rfl, rfl⟩ := h
    exact core (.int k (x.tdiv y)) (.d (.int _ _)) (fun w2 => by have := hp.2; unfold inR at this; simp [binOp, Op.intDiv, hp.1, this])
  case rem => obtain ⟨rfl, rfl⟩ := h; exact core _ (.d (.int _ _)) (fun w2 => by simp [binOp, Op.intDiv, hp])
  all_goals
    obtain ⟨rfl, rfl⟩ := h
    first
      | exact core _ (.d (.bool _)) (fun w2 => by simp [binOp, Op.intCmp])
      | exact core _ (.d (.int _ _)) (fun w2 => by simp [binOp, Op.intBits])

theorem vShift_ok {P : Program} {G : Gh} {C : World → Prop} {op : BinOp} {k k' : IntKind} {x y : Int} {p : Prop} {r : AV} (h : vShift op k x y = some (p, r)) (hp : p) (t : TypeId) :
    Gives P G C (binOp op t (.int k x) (.int k' y)) r := by
  cases op <;> simp only [vShift, Option.some.injEq, Prod.mk.injEq, reduceCtorEq] at h
  all_goals
    obtain ⟨rfl, rfl⟩ := h
    have hn : ¬ y < 0 := by omega
    exact ⟨_, .d (.int _ _), fun w2 _ => by simp [binOp, Op.shift, hn]⟩

theorem vStr_ok {P : Program} {G : Gh} {C : World → Prop} {op : BinOp} {x y : ByteArray} {p : Prop} {r : AV} (h : vStr op x y = some (p, r)) (hp : p) (t : TypeId) :
    Gives P G C (binOp op t (.string x) (.string y)) r := by
  cases op <;> simp only [vStr, Option.some.injEq, Prod.mk.injEq, reduceCtorEq] at h
  case add =>
    obtain ⟨rfl, rfl⟩ := h
    have hn : ¬ (((x.size + y.size : Nat) : Int) > IntKind.i64.max) := by
      have : IntKind.i64.max = 9223372036854775807 := by decide
      rw [this]; omega
    exact ⟨_, .d (.str _), fun w2 _ => by simp only [binOp, Op.stringOp]; rw [if_neg hn]; rfl⟩
  all_goals
    obtain ⟨rfl, rfl⟩ := h
    exact ⟨_, .d (.bool _), fun w2 _ => by simp [binOp, Op.stringOp]⟩
end Go.Proofs.YthmbdoegcpicbaaDoor.Abs

/-! ## AbsC -/
namespace Go.Proofs.YthmbdoegcpicbaaDoor.Abs

/-! ### 8. Cells of a value, in and out -/
def AV.cells : AV → Option (List AV)
  | .agg cs => some cs
  | .d x => some (x.leaves.map .d)
  | .nils => some [.nils]
  | .own t => some [.own t]
  | .ptr b o => some [.ptr b o]
  | .fn f cs => some [.fn f cs]
  | _ => none
theorem VA.cells {G : Gh} {x : AV} {v : Value} (h : VA G x v) {cs : List AV} (hc : x.cells = some cs) : VAs G cs v.cells.toList := by
  cases h with
  | undef v => simp [AV.cells] at hc
  | @d y _ h =>
    simp only [AV.cells, Option.some.injEq] at hc
    subst hc
    cases h with
    | int k n => exact .cons (.d (.int k n)) .nil
    | bool b => exact .cons (.d (.bool b)) .nil
    | str s => exact .cons (.d (.str s)) .nil
    | agg h => exact VAs.of_ds h
    | sl A cap vs hv h1 h2 hl hf ha =>
      have hs : y.leaves = [y] := by cases y <;> simp [D.view] at hv <;> rfl
      rw [hs]
      exact .cons (.d (.sl A cap vs hv h1 h2 hl hf ha)) .nil
  | nils => simp only [AV.cells, Option.some.injEq] at hc; subst hc; exact .cons .nils .nil
  | own t A l c h => simp only [AV.cells, Option.some.injEq] at hc; subst hc; exact .cons (.own t A l c h) .nil
  | agg h => simp only [AV.cells, Option.some.injEq] at hc; subst hc; exact h
  | tuple h => simp [AV.cells] at hc
  | ptr b o => simp only [AV.cells, Option.some.injEq] at hc; subst hc; exact .cons (.ptr b o) .nil
  | dptr => simp [AV.cells] at hc
  | eptr => simp [AV.cells] at hc
  | fn f h => simp only [AV.cells, Option.some.injEq] at hc; subst hc; exact .cons (.fn f h) .nil

def mkv (agg : Bool) (cs : List AV) : Option AV := bif agg then some (.agg cs) else (match cs with | [c] => some c | _ => none)
def mkc (agg : Bool) (vs : List Value) : Value := bif agg then .agg vs.toArray else vs.headD undef
theorem mkv_ok {G : Gh} {b : Bool} {as : List AV} {vs : List Value} {r : AV} (h : VAs G as vs) (hm : mkv b as = some r) : VA G r (mkc b vs) := by
  cases b
  · simp only [mkv, cond_false] at hm
    split at hm
    · cases hm
      cases h with
      | cons h t => cases t; exact h
    · cases hm
  · simp only [mkv, cond_true, Option.some.injEq] at hm
    subst hm
    exact .agg h

theorem add_at (g o n : Nat) : (⟨g, o, none⟩ : Addr).add n = ⟨g, o + n, none⟩ := by
  unfold Addr.add
  split
  · next h => subst h; rfl
  · rfl

theorem load_run {P : Program} {t : TypeId} {i : TI} (hi : TyOk P t i) {w : World} {g o : Nat} {c : Array Value} {e : TypeId} {fr : Nat × Nat} {vs : List Value}
    (hg : w.heap[g]? = some (.cells c e fr)) (hc : ∀ j v, vs[j]? = some v → c[o + j]? = some v) (hl : vs.length = i.size) (h1 : isAggD i.desc = false → vs.length = 1) :
    (loadVar t ⟨g, o, none⟩).run P w = .ok (mkc (isAggD i.desc) vs) w := by
  have hcell : ∀ j v, vs[j]? = some v → w.cell? ((⟨g, o, none⟩ : Addr).add j) = some v := by
    intro j v hv
    rw [add_at]
    simp [World.cell?, hg, hc j v hv]
  unfold loadVar
  simp only [Sem.run_bind, hi.runAgg, Result.andThen_ok]
  cases ha : isAggD i.desc
  · simp only [Bool.false_eq_true, if_false, mkc, cond_false]
    have h1' := h1 ha
    match vs, h1' with
    | [v], _ =>
      have := hcell 0 v (by simp)
      rw [add_at] at this
      simp only [Nat.add_zero] at this
      simp [this]
  · simp only [if_true, mkc, cond_true, Sem.run_bind, hi.runSize, Result.andThen_ok]
    have := run_loadCells_list (P := P) w ⟨g, o, none⟩ vs hcell
    rw [hl] at this
    simp [this]

theorem mkv_len {as : List AV} {r : AV} (hm : mkv false as = some r) : as.length = 1 := by
  simp only [mkv, cond_false] at hm
  split at hm
  · rfl
  · cases hm

/-! ### 9. Elements -/
def D.len : D → Nat
  | .ints _ l => l.length
  | .strs l => l.length
  | .slice _ ds => ds.length
  | _ => 0
def D.esz : D → Option Nat
  | .ints _ _ => some 1
  | .strs _ => some 1
  | .slice sz _ => some sz
  | _ => none
def D.elem : D → Nat → List D
  | .ints k l, i => [.int k (l.getD i 0)]
  | .strs l, i => [.str (l.getD i ByteArray.empty)]
  | .slice _ ds, i => (ds.getD i default).leaves
  | _, _ => []
theorem D.view_of {c : D} {sz : Nat} (h : c.esz = some sz) : ∃ es, c.view = some (sz, es) ∧ es.length = c.len ∧ ∀ (i : Nat) (hi : i < es.length), (es[i]).leaves = c.elem i := by
  cases c <;> simp only [D.esz, Option.some.injEq, reduceCtorEq] at h <;> subst h
  case ints k l => exact ⟨_, rfl, by simp [D.len], fun i hi => by simp at hi; simp [D.elem, D.leaves, hi]⟩
  case strs l => exact ⟨_, rfl, by simp [D.len], fun i hi => by simp at hi; simp [D.elem, D.leaves, hi]⟩
  case slice sz ds => exact ⟨_, rfl, rfl, fun i hi => by simp [D.elem, hi]⟩
theorem D.esz_of {c : D} {sz : Nat} {es : List D} (h : c.view = some (sz, es)) : c.esz = some sz ∧ es.length = c.len := by
  cases c <;> simp [D.view] at h <;> obtain ⟨rfl, rfl⟩ := h <;> simp [D.esz, D.len]

/-- A slice's reading, taken apart. -/
theorem VD.slice_inv {I : Nat → Option Obj} {c : D} {sz : Nat} {v : Value} (h : VD I c v) (hc : c.esz = some sz) :
    ∃ A cap vs, v = .slice A c.len cap ∧ c.len ≤ cap ∧ cap ≤ maxLen ∧ vs.length = c.len * sz ∧ (∀ i, i < c.len → VDs I (c.elem i) ((vs.drop (i * sz)).take sz)) ∧ (vs = [] ∨ At I A vs) := by
  obtain ⟨es, hv, hl, he⟩ := D.view_of hc
  cases h with
  | int => simp [D.esz] at hc
  | bool => simp [D.esz] at hc
  | str => simp [D.esz] at hc
  | agg => simp [D.esz] at hc
  | sl A cap vs hv' h1 h2 hl' hf ha =>
    rw [hv] at hv'
    simp only [Option.some.injEq, Prod.mk.injEq] at hv'
    obtain ⟨rfl, rfl⟩ := hv'
    refine ⟨A, cap, vs, by rw [hl], by omega, h2, by rw [← hl]; exact hl', fun i hi => ?_, ha⟩
    rw [← he i (by omega)]
    exact hf i (by omega)
theorem VD.slice_mk {I : Nat → Option Obj} {c : D} {sz : Nat} (hc : c.esz = some sz) (A : Option Addr) (cap : Nat) (vs : List Value) (h1 : c.len ≤ cap) (h2 : cap ≤ maxLen) (hl : vs.length = c.len * sz)
    (hf : ∀ i, i < c.len → VDs I (c.elem i) ((vs.drop (i * sz)).take sz)) (ha : vs = [] ∨ At I A vs) : VD I c (.slice A c.len cap) := by
  obtain ⟨es, hv, hl', he⟩ := D.view_of hc
  rw [← hl'] at h1 hl hf ⊢
  exact .sl A cap vs hv h1 h2 hl (fun i hi => by rw [he i hi]; exact hf i hi) ha

/-- The cells of one element. -/
theorem At.part {I : Nat → Option Obj} {A : Option Addr} {vs : List Value} (h : At I A vs) (n m : Nat) : ∃ g o, A = some ⟨g, o, none⟩ ∧ At I (some ⟨g, o + n, none⟩) ((vs.drop n).take m) := by
  obtain ⟨g, o, c, e, fr, h1, h2, h3⟩ := h
  refine ⟨g, o, h1, g, o + n, c, e, fr, rfl, h2, fun j v hv => ?_⟩
  rw [List.getElem?_take] at hv
  split at hv
  · rw [List.getElem?_drop] at hv
    rw [Nat.add_assoc]
    exact h3 _ _ hv
  · cases hv

/-- An owned array's cells. -/
theorem Sat.arr {G : Gh} {bx : BId → Option Box} {ar : Tag → Option Arr} {w : World} (h : Sat G bx ar w) {t : Tag} {a : Arr} (ha : ar t = some a) {sz : Nat} (hc : a.c.esz = some sz) :
    ∃ A cap vs, G.av t = .slice A a.c.len cap ∧ a.c.len ≤ cap ∧ cap ≤ maxLen ∧ vs.length = a.c.len * sz ∧ (∀ i, i < a.c.len → VDs G.im (a.c.elem i) ((vs.drop (i * sz)).take sz)) ∧
      (∀ g, (G.av t).ownBlock = some g → G.role g = .arr t) ∧ w.ownsRow 0 a.E sz (G.av t) a.c.len vs ∧
      ((A = none ∧ a.c.len = 0 ∧ vs = []) ∨ ∃ g c, A = some ⟨g, 0, none⟩ ∧ w.heap[g]? = some (.cells c a.E (0, 0)) ∧ G.role g = .arr t ∧ ∀ (j : Nat) (v : Value), vs[j]? = some v → c[j]? = some v) := by
  obtain ⟨hr, sz', es, vs, hv, hf, ho⟩ := h.ar t a ha
  obtain ⟨es', hv', hl', he'⟩ := D.view_of hc
  rw [hv'] at hv
  simp only [Option.some.injEq, Prod.mk.injEq] at hv
  obtain ⟨rfl, rfl⟩ := hv
  rw [hl'] at ho
  have hfl : ∀ i, i < a.c.len → VDs G.im (a.c.elem i) ((vs.drop (i * sz)).take sz) := fun i hi => by rw [← he' i (by omega)]; exact hf.2 i (by omega)
  rcases ho.2 with ⟨h1, h2⟩ | ⟨g, cap, cur, h1, _, h3, h4, h5, h6, h7⟩
  · have hlen : a.c.len = 0 := h2
    have hvs : vs = [] := List.eq_nil_of_length_eq_zero (by rw [ho.1, hlen, Nat.zero_mul])
    exact ⟨none, 0, vs, by rw [h1, hlen], by omega, Nat.zero_le _, ho.1, hfl, hr, ho, .inl ⟨rfl, hlen, hvs⟩⟩
  · refine ⟨_, cap, vs, h1, h4, h5, ho.1, hfl, hr, ho, .inr ⟨g, cur, rfl, h3, hr g (by rw [h1]; rfl), fun j v hv => ?_⟩⟩
    rw [← h7, List.getElem?_take] at hv
    split at hv
    · simpa using hv
    · cases hv
end Go.Proofs.YthmbdoegcpicbaaDoor.Abs

/-! ## AbsD -/
namespace Go.Proofs.YthmbdoegcpicbaaDoor.Abs

abbrev VR := Option (Prop × AV)

def vPick : AV → AV → AV → VR
  | .d (.bool c), .d (.bool x), .d (.bool y) => some (True, .d (.bool (bif c then x else y)))
  | .d (.bool c), .d (.int k x), .d (.int k' y) => if decide (k = k') then some (True, .d (.int k (bif c then x else y))) else none
  | .d (.bool true), x, _ => some (True, x)
  | .d (.bool false), _, y => some (True, y)
  | _, _, _ => none
def vLoad (σ : St) (i : TI) : AV → VR
  | .ptr b o => match σ.boxes b with
    | some bx => if Nat.ble (o + i.size) bx.cs.length then (match mkv (isAggD i.desc) ((bx.cs.drop o).take i.size) with | some r => some (True, r) | none => none) else none
    | none => none
  | .dptr ds => if Nat.ble i.size ds.length then (match mkv (isAggD i.desc) ((ds.take i.size).map .d) with | some r => some (True, r) | none => none) else none
  | .eptr t sz j o => match σ.arrs t with
    | some a => (match a.c.esz with
      | some sz' => if Nat.beq sz sz' && Nat.ble (o + i.size) ((a.c.elem j).length) then (match mkv (isAggD i.desc) ((((a.c.elem j).drop o).take i.size).map .d) with | some r => some (j < a.c.len, r) | none => none) else none
      | none => none)
    | none => none
  | _ => none
def vFieldAddr (Γ : TypeId → Option TI) (s : TypeId) (f : Nat) (x : AV) : VR := match Γ s with
  | some i => (match i.desc with
    | .struct fs => (match fs[f]? with
      | some fd => (match Γ fd.type with
        | some j => if Nat.beq j.size 0 then none else (match x with
          | .ptr b o => some (True, .ptr b (o + fd.offset))
          | .dptr ds => some (True, .dptr (ds.drop fd.offset))
          | .eptr t sz n o => some (True, .eptr t sz n (o + fd.offset))
          | _ => none)
        | none => none)
      | none => none)
    | _ => none)
  | none => none
def vField (Γ : TypeId → Option TI) (s : TypeId) (f : Nat) (x : AV) : VR := match Γ s with
  | some i => (match i.desc with
    | .struct fs => (match fs[f]? with
      | some fd => (match Γ fd.type with
        | some j => (match x with
          | .agg cs => if Nat.ble (fd.offset + j.size) cs.length && (isAggD j.desc || Nat.beq j.size 1) then (match mkv (isAggD j.desc) ((cs.drop fd.offset).take j.size) with | some r => some (True, r) | none => none) else none
          | _ => none)
        | none => none)
      | none => none)
    | _ => none)
  | none => none
def vExtract (n : Nat) : AV → VR
  | .tuple vs => (match vs[n]? with | some r => some (True, r) | none => none)
  | _ => none
def vNilCheck : AV → VR
  | .ptr b o => some (True, .ptr b o)
  | .dptr ds => some (True, .dptr ds)
  | .eptr t sz i o => some (True, .eptr t sz i o)
  | .fn f cs => some (True, .fn f cs)
  | _ => none
def vUn (op : UnOp) : AV → VR
  | .d (.bool b) => (match op with | .not => some (True, .d (.bool (!b))) | _ => none)
  | .d (.int k n) => (match op with
    | .neg => some (arith k (0 - n))
    | .xor => (match bitv .xor k (if k.signed then -1 else k.max) n with | some m => some (True, .d (.int k m)) | none => none)
    | _ => none)
  | _ => none
def vConv (s d : Option TI) : AV → VR
  | .d (.int _ n) => match s, d with
    | some _, some { desc := .int k, .. } => some (inR k n, .d (.int k n))
    | _, _ => none
  | _ => none
/-- A struct's cells with some filled. -/
def afill (place : Nat → Option (Nat × Nat)) (cells : List AV) : List (Nat × AV) → Option (List AV)
  | [] => some cells
  | (i, v) :: rest => match place i with
    | none => none
    | some (off, size) => (match v.cells with
      | none => none
      | some cs => if Nat.beq cs.length size && Nat.ble (off + size) cells.length then afill place (cells.take off ++ cs ++ cells.drop (off + cs.length)) rest else none)
def placeOf (Γ : TypeId → Option TI) (fs : Array Field) (i : Nat) : Option (Nat × Nat) := match fs[i]? with
  | some fd => (match Γ fd.type with | some j => some (fd.offset, j.size) | none => none)
  | none => none
def allKnown (Γ : TypeId → Option TI) (fs : Array Field) : Bool := fs.toList.all fun fd => (Γ fd.type).isSome
def vBuild (Γ : TypeId → Option TI) (t : TypeId) (parts : List (Nat × AV)) : VR := match Γ t with
  | some i => (match i.desc with
    | .struct fs => if allKnown Γ fs then (match afill (placeOf Γ fs) (cvals i.zero.cells.toList) parts with | some cs => some (True, .agg cs) | none => none) else none
    | _ => none)
  | none => none
def vFunc (f : Fn) (first : Nat) (caps : List AV) : VR := match f with
  | .func f => if Nat.beq first 0 then some (True, .fn f caps) else none
  | _ => none
def vIndexAddr (Γ : TypeId → Option TI) (σ : St) (t : TypeId) (x : AV) : AV → VR
  | .d (.int _ n) => (match Γ t with
    | some i => (match i.desc with
      | .slice e => (match Γ e with
        | some j => (match x with
          | .d c => (match c.esz with | some sz => if Nat.beq sz j.size && !Nat.beq sz 0 then some (0 ≤ n ∧ n < (c.len : Int), .dptr (c.elem n.toNat)) else none | none => none)
          | .own tg => (match σ.arrs tg with
            | some a => (match a.c.esz with | some sz => if Nat.beq sz j.size && !Nat.beq sz 0 then some (0 ≤ n ∧ n < (a.c.len : Int), .eptr tg sz n.toNat 0) else none | none => none)
            | none => none)
          | _ => none)
        | none => none)
      | _ => none)
    | none => none)
  | _ => none
def byteAt (s : ByteArray) (n : Nat) : Int := ((s.data.toList.getD n 0).toNat : Int)
def isStrD : Option TI → Bool
  | some { desc := .string, .. } => true
  | _ => false
def vIndexStr (i : Option TI) : AV → AV → VR
  | .d (.str s), .d (.int _ n) => if isStrD i then some (0 ≤ n ∧ n < (s.size : Int), .d (.int .u8 (byteAt s n.toNat))) else none
  | _, _ => none
def vBound (d : Int) : Option AV → Option Int
  | none => some d
  | some (.d (.int _ n)) => some n
  | _ => none
def D.cut : D → Nat → Nat → D
  | .ints k l, a, b => .ints k ((l.take b).drop a)
  | .strs l, a, b => .strs ((l.take b).drop a)
  | .slice sz ds, a, b => .slice sz ((ds.take b).drop a)
  | x, _, _ => x
def isSliceD : Option TI → Bool
  | some { desc := .slice _, .. } => true
  | _ => false
def elemSz (Γ : TypeId → Option TI) (t : TypeId) : Option Nat := match Γ t with
  | some i => (match i.desc with | .slice e => (match Γ e with | some j => some j.size | none => none) | _ => none)
  | none => none
def vSlice (Γ : TypeId → Option TI) (t : TypeId) (lo hi : Option AV) : AV → VR
  | .d (.str s) => if isStrD (Γ t) then (match vBound 0 lo, vBound s.size hi with
    | some l, some h => some (0 ≤ l ∧ l ≤ h ∧ h ≤ (s.size : Int), .d (.str (s.extract l.toNat h.toNat)))
    | _, _ => none) else none
  | .d c => (match c.esz, elemSz Γ t with
    | some sz, some sz' => if Nat.beq sz sz' then (match vBound 0 lo, vBound c.len hi with
      | some l, some h => some (0 ≤ l ∧ l ≤ h ∧ h ≤ (c.len : Int), .d (c.cut l.toNat h.toNat))
      | _, _ => none) else none
    | _, _ => none)
  | _ => none
def vLen (i : Option TI) (σ : St) : AV → VR
  | .d (.str s) => if isStrD i then some (True, .d (.int .i64 s.size)) else none
  | .d c => (match c.esz with | some _ => if isSliceD i then some (True, .d (.int .i64 c.len)) else none | none => none)
  | .nils => if isSliceD i then some (True, .d (.int .i64 0)) else none
  | .own t => (match σ.arrs t with
    | some a => (match a.c.esz with | some _ => if isSliceD i then some (True, .d (.int .i64 a.c.len)) else none | none => none)
    | none => none)
  | _ => none

def opv (Γ : TypeId → Option TI) (σ : St) : Op → VR
  | .move x => some (True, σ.ev x)
  | .assign x => some (True, σ.ev x)
  | .pick c a b => vPick (σ.ev c) (σ.ev a) (σ.ev b)
  | .load t x => (match Γ t with | some i => vLoad σ i (σ.ev x) | none => none)
  | .fieldAddr s x f => vFieldAddr Γ s f (σ.ev x)
  | .field s x f => vField Γ s f (σ.ev x)
  | .extract x n => vExtract n (σ.ev x)
  | .nilCheck x => vNilCheck (σ.ev x)
  | .binOp op t x y _ => vBin (Γ t) op (σ.ev x) (σ.ev y)
  | .unOp op _ x => vUn op (σ.ev x)
  | .convert s d x => vConv (Γ s) (Γ d) (σ.ev x)
  | .build t parts => vBuild Γ t (parts.toList.map fun p => (p.1, σ.ev p.2))
  | .makeFunc f first caps => vFunc f first.size (σ.evs caps.toList)
  | .indexAddr t x ix => vIndexAddr Γ σ t (σ.ev x) (σ.ev ix)
  | .index t x ix => vIndexStr (Γ t) (σ.ev x) (σ.ev ix)
  | .slice t x lo hi none => vSlice Γ t (lo.map σ.ev) (hi.map σ.ev) (σ.ev x)
  | .call c => (match c.callee with
    | .builtin .len => (match c.args.toList, c.argTypes.toList with | [x], [t] => vLen (Γ t) σ (σ.ev x) | _, _ => none)
    | _ => none)
  | _ => none

/-! ### soundness -/
section
variable {P : Program} {Γ : TypeId → Option TI} {G : Gh} {σ : St} {a : Act} {w : World} {C : World → Prop} {p : Prop} {r : AV}

theorem VA.intv {k : IntKind} {n : Int} {v : Value} (h : VA G (.d (.int k n)) v) : v = .int k n := by
  cases h with | d h => cases h with
    | int => rfl
    | sl A cap vs hv => simp [D.view] at hv
theorem VA.boolv {b : Bool} {v : Value} (h : VA G (.d (.bool b)) v) : v = .bool b := by
  cases h with | d h => cases h with
    | bool => rfl
    | sl A cap vs hv => simp [D.view] at hv
theorem VA.strv {s : ByteArray} {v : Value} (h : VA G (.d (.str s)) v) : v = .string s := by
  cases h with | d h => cases h with
    | str => rfl
    | sl A cap vs hv => simp [D.view] at hv
theorem VA.dv {x : D} {v : Value} (h : VA G (.d x) v) : VD G.im x v := by cases h with | d h => exact h
theorem VA.aggv {cs : List AV} {v : Value} (h : VA G (.agg cs) v) : ∃ vs, v = .agg vs.toArray ∧ VAs G cs vs := by
  cases h with | agg h => exact ⟨_, rfl, h⟩

theorem vPick_ok {c x y : AV} {vc vx vy : Value} (h : vPick c x y = some (p, r)) (hc : VA G c vc) (hx : VA G x vx) (hy : VA G y vy) :
    Gives P G C (do pure (if ← asBool vc then vx else vy)) r := by
  unfold vPick at h
  split at h
  · obtain rfl := hc.boolv
    obtain rfl := hx.boolv
    obtain rfl := hy.boolv
    simp only [Option.some.injEq, Prod.mk.injEq] at h
    obtain ⟨rfl, rfl⟩ := h
    next c x y => exact ⟨_, .d (.bool _), fun w2 _ => by cases c <;> simp [asBool]⟩
  · obtain rfl := hc.boolv
    obtain rfl := hx.intv
    obtain rfl := hy.intv
    split at h
    · rename_i hk
      have hk := of_decide_eq_true hk
      subst hk
      simp only [Option.some.injEq, Prod.mk.injEq] at h
      obtain ⟨rfl, rfl⟩ := h
      next c _ x y => exact ⟨_, .d (.int _ _), fun w2 _ => by cases c <;> simp [asBool]⟩
    · cases h
  · obtain rfl := hc.boolv
    simp only [Option.some.injEq, Prod.mk.injEq] at h
    obtain ⟨rfl, rfl⟩ := h
    exact ⟨_, hx, fun w2 _ => by simp [asBool]⟩
  · obtain rfl := hc.boolv
    simp only [Option.some.injEq, Prod.mk.injEq] at h
    obtain ⟨rfl, rfl⟩ := h
    exact ⟨_, hy, fun w2 _ => by simp [asBool]⟩
  · cases h

/-- What a load needs of the world. -/
def LoadC (G : Gh) (x : AV) (w w2 : World) : Prop := match x with
  | .ptr b _ => w2.heap[G.β b]? = w.heap[G.β b]?
  | .dptr _ => ∀ g o, G.role g = .im o → w2.heap[g]? = some o
  | .eptr t _ _ _ => ∀ g, (G.av t).ownBlock = some g → w2.heap[g]? = w.heap[g]?
  | _ => True
theorem vLoad_ok {t : TypeId} {i : TI} (hi : TyOk P t i) {x : AV} {v : Value} (h : vLoad σ i x = some (p, r)) (hp : p) (hs : Sat G σ.boxes σ.arrs w) (hx : VA G x v) :
    Gives P G (LoadC G x w) (Instr.loadAt t v) r := by
  unfold vLoad at h
  split at h
  · next b o =>
    cases hx
    split at h
    · next bx hbx =>
      split at h
      · next hle =>
        have hle := Nat.le_of_ble_eq_true hle
        split at h
        · next r' hm =>
          simp only [Option.some.injEq, Prod.mk.injEq] at h
          obtain ⟨rfl, rfl⟩ := h
          obtain ⟨hr, vs, hh, hv⟩ := hs.bx _ _ hbx
          have hlen := hv.length
          have hsub := (hv.drop o).take i.size
          refine ⟨_, mkv_ok hsub hm, fun w2 hw => ?_⟩
          have hh2 := Eq.trans (show w2.heap[G.β b]? = w.heap[G.β b]? from hw) hh
          refine load_run hi hh2 (fun j v hv => ?_) ?_ (fun ha => ?_)
          · rw [List.getElem?_take] at hv
            split at hv
            · rw [List.getElem?_drop] at hv; simpa using hv
            · cases hv
          · simp; omega
          · rw [ha] at hm
            have := mkv_len hm
            have h2 := hsub.length
            omega
        · cases h
      · cases h
    · cases h
  · next ds =>
    cases hx with | @dptr _ vs g o h1 ha =>
    split at h
    · next hle =>
      have hle := Nat.le_of_ble_eq_true hle
      split at h
      · next r' hm =>
        simp only [Option.some.injEq, Prod.mk.injEq] at h
        obtain ⟨rfl, rfl⟩ := h
        have hlen := h1.length
        have hsub : VAs G ((ds.take i.size).map .d) (vs.take i.size) := VAs.of_ds (h1.take i.size)
        refine ⟨_, mkv_ok hsub hm, fun w2 hw => ?_⟩
        obtain ⟨g', o', c, e, fr, h4, h5, h6⟩ := ha
        cases h4
        have h7 := im_of.1 h5
        have hh2 := (show ∀ g o, G.role g = .im o → w2.heap[g]? = some o from hw) g _ h7
        refine load_run hi hh2 (fun j v hv => ?_) ?_ (fun ha => ?_)
        · rw [List.getElem?_take] at hv
          split at hv
          · exact h6 _ _ hv
          · cases hv
        · simp; omega
        · rw [ha] at hm
          have := mkv_len hm
          have h2 := hsub.length
          omega
      · cases h
    · cases h
  · next t sz j o =>
    cases hx with | eptr _ g _ _ _ hg =>
    split at h
    · next a ha =>
      split at h
      · next sz' hsz =>
        split at h
        · next hle =>
          simp only [Bool.and_eq_true] at hle
          have he := Nat.eq_of_beq_eq_true hle.1
          subst he
          have hle := Nat.le_of_ble_eq_true hle.2
          split at h
          · next r' hm =>
            simp only [Option.some.injEq, Prod.mk.injEq] at h
            obtain ⟨rfl, rfl⟩ := h
            obtain ⟨A, cap, vs, h1, h2, h3, h4, h5, h6, h7, h8⟩ := hs.arr ha hsz
            have hel := h5 j hp
            have hsub : VAs G ((((a.c.elem j).drop o).take i.size).map .d) (((((vs.drop (j * sz)).take sz).drop o).take i.size)) := VAs.of_ds ((hel.drop o).take i.size)
            refine ⟨_, mkv_ok hsub hm, fun w2 hw => ?_⟩
            rcases h8 with ⟨rfl, _, _⟩ | ⟨g', c, rfl, h9, h10, h11⟩
            · rw [h1] at hg; cases hg
            · rw [h1] at hg
              cases hg
              have hh2 := ((show ∀ g, (G.av t).ownBlock = some g → w2.heap[g]? = w.heap[g]? from hw) g' (by rw [h1]; rfl)).trans h9
              have hl1 := hel.length
              refine load_run hi hh2 (fun q v hv => ?_) ?_ (fun ha => ?_)
              · rw [List.getElem?_take] at hv
                split at hv
                · rw [List.getElem?_drop, List.getElem?_take] at hv
                  split at hv
                  · rw [List.getElem?_drop] at hv
                    have := h11 _ _ hv
                    rw [← Nat.add_assoc] at this
                    exact this
                  · cases hv
                · cases hv
              · simp only [List.length_take, List.length_drop] at hl1 ⊢; omega
              · rw [ha] at hm
                have := mkv_len hm
                have h2 := hsub.length
                omega
          · cases h
        · cases h
      · cases h
    · cases h
  · cases h

theorem vFieldAddr_ok (hΓ : ∀ t i, Γ t = some i → TyOk P t i) {s : TypeId} {f : Nat} {x : AV} {v : Value} (h : vFieldAddr Γ s f x = some (p, r)) (hp : p) (hx : VA G x v) :
    Gives P G C (Instr.fieldAt s v f) r := by
  unfold vFieldAddr at h
  split at h
  · next i hi =>
    split at h
    · next fs hd =>
      split at h
      · next fd hfd =>
        split at h
        · next j hj =>
          split at h
          · cases h
          · next hz =>
            have hz : ¬ j.size = 0 := fun e => hz (by rw [e]; rfl)
            have run : ∀ (g o : Nat) (w2 : World), (Instr.fieldAt s (.pointer (some ⟨g, o, none⟩)) f).run P w2 = .ok (.pointer (some ⟨g, o + fd.offset, none⟩)) w2 := fun g o w2 => by
              simp [Instr.fieldAt, (hΓ _ _ hi).runUnd, hd, hfd, Instr.sureAddr, fieldPlace, (hΓ _ _ hj).runSize, hz, add_at]
            split at h
            · next b o =>
              cases hx
              simp only [Option.some.injEq, Prod.mk.injEq] at h
              obtain ⟨rfl, rfl⟩ := h
              exact ⟨_, .ptr b _, fun w2 _ => run _ _ _⟩
            · next ds =>
              cases hx with | @dptr _ vs g o h1 ha =>
              simp only [Option.some.injEq, Prod.mk.injEq] at h
              obtain ⟨rfl, rfl⟩ := h
              obtain ⟨g', o', he, hat⟩ := ha.part fd.offset (vs.length - fd.offset)
              cases he
              refine ⟨_, .dptr g (o + fd.offset) (vs := vs.drop fd.offset) (h1.drop _) ?_, fun w2 _ => run _ _ _⟩
              have : (vs.drop fd.offset).take (vs.length - fd.offset) = vs.drop fd.offset := List.take_of_length_le (by simp)
              rw [this] at hat
              exact hat
            · next t sz n o =>
              cases hx with | eptr _ g _ _ _ hg =>
              simp only [Option.some.injEq, Prod.mk.injEq] at h
              obtain ⟨rfl, rfl⟩ := h
              exact ⟨_, by rw [Nat.add_assoc]; exact .eptr t g sz n _ hg, fun w2 _ => run _ _ _⟩
            · cases h
        · cases h
      · cases h
    · cases h
  · cases h

theorem vField_ok (hΓ : ∀ t i, Γ t = some i → TyOk P t i) {s : TypeId} {f : Nat} {x : AV} {v : Value} (h : vField Γ s f x = some (p, r)) (hp : p) (hx : VA G x v) :
    Gives P G C (Instr.field s v f) r := by
  unfold vField at h
  split at h
  · next i hi =>
    split at h
    · next fs hd =>
      split at h
      · next fd hfd =>
        split at h
        · next j hj =>
          split at h
          · next cs =>
            split at h
            · next hle =>
              simp only [Bool.and_eq_true, Bool.or_eq_true] at hle
              have hle1 := Nat.le_of_ble_eq_true hle.1
              split at h
              · next r' hm =>
                simp only [Option.some.injEq, Prod.mk.injEq] at h
                obtain ⟨rfl, rfl⟩ := h
                obtain ⟨vs, rfl, hv⟩ := hx.aggv
                have hlen := hv.length
                have hsub := (hv.drop fd.offset).take j.size
                refine ⟨_, mkv_ok hsub hm, fun w2 _ => ?_⟩
                have hag := (hΓ _ _ hj).runAgg w2
                have hsz := (hΓ _ _ hj).runSize w2
                cases ha : isAggD j.desc
                · rw [ha] at hm hag
                  have hl := mkv_len hm
                  have h2 := hsub.length
                  have hj1 : j.size = 1 := by
                    rcases hle.2 with h | h
                    · rw [ha] at h; cases h
                    · exact Nat.eq_of_beq_eq_true h
                  have hlt : fd.offset < vs.length := by omega
                  have hget : vs[fd.offset]? = some vs[fd.offset] := List.getElem?_eq_getElem hlt
                  have : mkc false ((vs.drop fd.offset).take j.size) = vs[fd.offset] := by
                    rw [hj1, List.drop_eq_getElem_cons hlt]; rfl
                  rw [this]
                  simp [Instr.field, (hΓ _ _ hi).runUnd, hd, hfd, asAgg, part, hag, hget]
                · rw [ha] at hag
                  simp [Instr.field, (hΓ _ _ hi).runUnd, hd, hfd, asAgg, part, hag, hsz, mkc, List.extract_eq_take_drop]
              · cases h
            · cases h
          · cases h
        · cases h
      · cases h
    · cases h
  · cases h
end
end Go.Proofs.YthmbdoegcpicbaaDoor.Abs

/-! ## AbsE -/
namespace Go.Proofs.YthmbdoegcpicbaaDoor.Abs
section
variable {P : Program} {Γ : TypeId → Option TI} {G : Gh} {σ : St} {a : Act} {w : World} {C : World → Prop} {p : Prop} {r : AV}

theorem run_mapM {α β : Type} (f : α → Sem β) (g : α → β) (w : World) : ∀ l : List α, (∀ x ∈ l, (f x).run P w = .ok (g x) w) → (l.mapM f).run P w = .ok (l.map g) w
  | [], _ => by simp
  | x :: l, h => by
    have h1 := h x (by simp)
    have h2 := run_mapM f g w l (fun y hy => h y (by simp [hy]))
    simp [List.mapM_cons, h1, h2]

theorem vExtract_ok {n : Nat} {x : AV} {v : Value} (h : vExtract n x = some (p, r)) (hx : VA G x v) : Gives P G C (Instr.extract v n) r := by
  unfold vExtract at h
  split at h
  · next vs =>
    split at h
    · next r' hr =>
      simp only [Option.some.injEq, Prod.mk.injEq] at h
      obtain ⟨rfl, rfl⟩ := h
      cases hx with | tuple hx =>
      obtain ⟨u, hu, hv⟩ := hx.get n _ hr
      exact ⟨u, hv, fun w2 _ => by simp [Instr.extract, hu]⟩
    · cases h
  · cases h

theorem vNilCheck_ok {x : AV} {v : Value} (h : vNilCheck x = some (p, r)) (hx : VA G x v) : r = x ∧ ((∃ q, v = .pointer (some q)) ∨ ∃ f c, v = .func (.func f) #[] c) := by
  unfold vNilCheck at h
  split at h
  · cases hx; simp only [Option.some.injEq, Prod.mk.injEq] at h; exact ⟨h.2.symm, .inl ⟨_, rfl⟩⟩
  · cases hx; simp only [Option.some.injEq, Prod.mk.injEq] at h; exact ⟨h.2.symm, .inl ⟨_, rfl⟩⟩
  · cases hx; simp only [Option.some.injEq, Prod.mk.injEq] at h; exact ⟨h.2.symm, .inl ⟨_, rfl⟩⟩
  · cases hx; simp only [Option.some.injEq, Prod.mk.injEq] at h; exact ⟨h.2.symm, .inr ⟨_, _, rfl⟩⟩
  · cases h

theorem vUn_ok {op : UnOp} {x : AV} {v : Value} (h : vUn op x = some (p, r)) (hp : p) (hx : VA G x v) : Gives P G C (Op.unary op v) r := by
  unfold vUn at h
  split at h
  · obtain rfl := hx.boolv
    split at h
    · simp only [Option.some.injEq, Prod.mk.injEq] at h
      obtain ⟨rfl, rfl⟩ := h
      exact ⟨_, .d (.bool _), fun w2 _ => rfl⟩
    · cases h
  · obtain rfl := hx.intv
    split at h
    · simp only [Option.some.injEq] at h
      obtain rfl := congrArg Prod.fst h
      obtain rfl := congrArg Prod.snd h
      exact ⟨_, arith_ok hp, fun w2 _ => by simp [Op.unary, Op.intArith]⟩
    · split at h
      · next m hm =>
        simp only [Option.some.injEq, Prod.mk.injEq] at h
        obtain ⟨rfl, rfl⟩ := h
        simp only [bitv, Option.some.injEq] at hm
        subst hm
        exact ⟨_, .d (.int _ _), fun w2 _ => by simp [Op.unary, Op.intBits]⟩
      · cases h
    · cases h
  · cases h

theorem vConv_ok (hΓ : ∀ t i, Γ t = some i → TyOk P t i) {s d : TypeId} {x : AV} {v : Value} (h : vConv (Γ s) (Γ d) x = some (p, r)) (hp : p) (hx : VA G x v) : Gives P G C (convert s d v) r := by
  unfold vConv at h
  split at h
  · obtain rfl := hx.intv
    split at h
    · next i z sz by_ hs hd =>
      simp only [Option.some.injEq, Prod.mk.injEq] at h
      obtain ⟨rfl, rfl⟩ := h
      refine ⟨_, .d (.int _ _), fun w2 _ => ?_⟩
      unfold inR at hp
      have h1 := (hΓ _ _ hs).runUnd w2
      have h2 := (hΓ _ _ hd).runUnd w2
      simp [convert, h1, h2, Conv.intToInt, hp]
    · cases h
  · cases h

theorem vBool_ok {op : BinOp} {x y : Bool} {i : TI} {t : TypeId} (hi : TyOk P t i) (hb : isBoolD (some i) = true) (h : vBool op x y = some (p, r)) : Gives P G C (binOp op t (.bool x) (.bool y)) r := by
  have hd : i.desc = .bool := by
    cases i with | mk d z s b => cases d <;> simp_all [isBoolD]
  have hu := hi.und
  rw [hd] at hu
  cases op <;> simp only [vBool, Option.some.injEq, Prod.mk.injEq, reduceCtorEq] at h
  case eql => obtain ⟨rfl, rfl⟩ := h; exact ⟨_, .d (.bool _), fun w2 _ => run_eql_bool w2 t x y hu⟩
  case neq => obtain ⟨rfl, rfl⟩ := h; exact ⟨_, .d (.bool _), fun w2 _ => run_neq_bool w2 t x y hu⟩

theorem vBin_ok (hΓ : ∀ t i, Γ t = some i → TyOk P t i) {op : BinOp} {t : TypeId} {x y : AV} {vx vy : Value} (h : vBin (Γ t) op x y = some (p, r)) (hp : p) (hx : VA G x vx) (hy : VA G y vy) (ox oy : Operand) :
    Gives P G C (do eqGuard op t ox oy vx vy; binOp op t vx vy) r := by
  have key : ∀ {s : Sem Value}, (∀ w2, (eqGuard op t ox oy vx vy).run P w2 = .ok () w2) → Gives P G C s r → Gives P G C (do eqGuard op t ox oy vx vy; s) r := by
    rintro s hg ⟨v, h1, h2⟩
    exact ⟨v, h1, fun w2 hw => by simp [hg w2, h2 w2 hw]⟩
  unfold vBin at h
  split at h
  · obtain rfl := hx.intv
    obtain rfl := hy.intv
    refine key (fun w2 => by cases op <;> simp [eqGuard]) ?_
    cases hs : isShift op
    · rw [hs] at h
      simp only [cond_false] at h
      next k x k' y =>
      cases hk : decide (k = k')
      · rw [hk] at h; simp at h
      · rw [hk] at h
        have := of_decide_eq_true hk
        subst this
        exact vInt_ok h hp t
    · rw [hs] at h
      exact vShift_ok h hp t
  · obtain rfl := hx.strv
    obtain rfl := hy.strv
    exact key (fun w2 => by cases op <;> simp [eqGuard]) (vStr_ok h hp t)
  · obtain rfl := hx.boolv
    obtain rfl := hy.boolv
    refine key (fun w2 => by cases op <;> simp [eqGuard]) ?_
    cases hb : isBoolD (Γ t)
    · rw [hb] at h; simp at h
    · rw [hb] at h
      cases hi : Γ t with
      | none => rw [hi] at hb; simp [isBoolD] at hb
      | some i => rw [hi] at hb; exact vBool_ok (hΓ _ _ hi) hb h
  · cases h

theorem splice_fold (cs : List Value) : ∀ (off : Nat) (cells : Array Value), off + cs.length ≤ cells.size →
    (cs.toArray.zipIdx.foldl (fun cs (c, j) => cs.setIfInBounds (off + j) c) cells) = (cells.toList.take off ++ cs ++ cells.toList.drop (off + cs.length)).toArray := by
  have gen : ∀ (cs : List Value) (off k : Nat) (cells : Array Value), off + k + cs.length ≤ cells.size →
      (cs.zipIdx k).foldl (fun (a : Array Value) (p : Value × Nat) => a.setIfInBounds (off + p.2) p.1) cells = (cells.toList.take (off + k) ++ cs ++ cells.toList.drop (off + k + cs.length)).toArray := by
    intro cs
    induction cs with
    | nil => intro off k cells _; simp
    | cons c cs ih =>
      intro off k cells h
      simp only [List.length_cons] at h
      rw [List.zipIdx_cons, List.foldl_cons, ih off (k + 1) _ (by simp; omega)]
      apply congrArg List.toArray
      have hlt : off + k < cells.toList.length := by simp; omega
      simp only [Array.toList_setIfInBounds, List.length_cons]
      rw [show off + (k + 1) = off + k + 1 by omega, List.take_add_one, List.getElem?_set_self hlt, List.take_set_of_le (Nat.le_refl _)]
      rw [List.drop_set_of_lt (by omega)]
      simp only [Option.toList_some, List.append_assoc, List.singleton_append]
      rw [show off + k + 1 + cs.length = off + k + (cs.length + 1) by omega]
  intro off cells h
  have := gen cs off 0 cells (by simpa using h)
  simpa [Array.foldl_toList, ← Array.foldl_toList, Array.toList_zipIdx] using this

theorem afill_ok {place : Nat → Option (Nat × Nat)} : ∀ (parts : List (Nat × AV)) (vparts : List (Nat × Value)) (cells : List AV) (vcells : Array Value) (out : List AV), VAs G cells vcells.toList →
    parts.length = vparts.length → (∀ (i : Nat) (q : Nat × AV), parts[i]? = some q → ∃ v, vparts[i]? = some (q.1, v) ∧ VA G q.2 v) → afill place cells parts = some out → ∃ vout, Instr.fill place vcells vparts = some vout ∧ VAs G out vout.toList
  | [], vparts, cells, vcells, out, hc, hl, _, h => by
    simp only [afill, Option.some.injEq] at h
    subst h
    have : vparts = [] := List.eq_nil_of_length_eq_zero (by simpa using hl.symm)
    subst this
    exact ⟨vcells, rfl, hc⟩
  | (i, x) :: parts, vparts, cells, vcells, out, hc, hl, hp, h => by
    match vparts, hl with
    | (i', v) :: vparts, hl =>
      obtain ⟨v', hv1, hv2⟩ := hp 0 (i, x) (by simp)
      simp only [List.getElem?_cons_zero, Option.some.injEq, Prod.mk.injEq] at hv1
      obtain ⟨rfl, rfl⟩ := hv1
      simp only [afill] at h
      split at h
      · cases h
      · next off size hpl =>
        split at h
        · cases h
        · next cs hcs =>
          split at h
          · next hle =>
            simp only [Bool.and_eq_true] at hle
            have h1 := Nat.eq_of_beq_eq_true hle.1
            have h2 := Nat.le_of_ble_eq_true hle.2
            have hv := hv2.cells hcs
            have hvl := hv.length
            have hcl := hc.length
            simp only [Array.length_toList] at hvl hcl
            have hrec := afill_ok parts vparts _ (vcells.toList.take off ++ v.cells.toList ++ vcells.toList.drop (off + cs.length)).toArray out
              (by simpa using ((hc.take off).append hv).append (hc.drop (off + cs.length))) (by simpa using hl) (fun j q hq => hp (j + 1) q (by simpa using hq)) h
            obtain ⟨vout, hf, hr⟩ := hrec
            refine ⟨vout, ?_, hr⟩
            simp only [Instr.fill, hpl]
            have hsz : ¬ (v.cells.size ≠ size ∨ off + v.cells.size > vcells.size) := by omega
            rw [if_neg (by simpa using hsz)]
            have := splice_fold v.cells.toList off vcells (by simp; omega)
            simp only [Array.toArray_toList, Array.length_toList] at this
            rw [this, ← hvl]
            exact hf
          · cases h
end
end Go.Proofs.YthmbdoegcpicbaaDoor.Abs

/-! ## AbsF -/
namespace Go.Proofs.YthmbdoegcpicbaaDoor.Abs
section
variable {P : Program} {Γ : TypeId → Option TI} {G : Gh} {σ : St} {a : Act} {w : World} {C : World → Prop} {p : Prop} {r : AV}

def fplace (Γ : TypeId → Option TI) (f : Field) : Nat × Nat := (f.offset, ((Γ f.type).map (fun (j : TI) => j.size)).getD 0)
theorem vBuild_ok (hΓ : ∀ t i, Γ t = some i → TyOk P t i) {t : TypeId} {parts : List (Nat × AV)} {vparts : Array (Nat × Value)} (h : vBuild Γ t parts = some (p, r)) (hl : parts.length = vparts.toList.length)
    (hpt : ∀ (i : Nat) (q : Nat × AV), parts[i]? = some q → ∃ v, vparts.toList[i]? = some (q.1, v) ∧ VA G q.2 v) : Gives P G C (Instr.build t vparts) r := by
  unfold vBuild at h
  split at h
  · next i hi =>
    split at h
    · next fs hd =>
      split at h
      · next hk =>
        split at h
        · next cs hf =>
          simp only [Option.some.injEq, Prod.mk.injEq] at h
          obtain ⟨rfl, rfl⟩ := h
          have hz : VAs G (cvals i.zero.cells.toList) i.zero.cells.toList := cvals_ok G _
          obtain ⟨vout, hv, hr⟩ := afill_ok parts vparts.toList _ i.zero.cells cs hz hl hpt hf
          refine ⟨.agg vout, by simpa using VA.agg hr, fun w2 _ => ?_⟩
          have h1 := (hΓ _ _ hi).runZero w2
          have h2 := (hΓ _ _ hi).runUnd w2
          rw [hd] at h2
          have hall := List.all_eq_true.1 hk
          have hm : (fs.toList.mapM (fun (f : Field) => do pure (f.offset, ← sizeOf f.type))).run P w2 = .ok (fs.toList.map (fplace Γ)) w2 := run_mapM _ _ w2 _ (fun x hx => by
            have := hall x hx
            cases hx' : Γ x.type with
            | none => rw [hx'] at this; cases this
            | some j => have h5 := (hΓ _ _ hx').runSize w2; simp [h5, fplace, hx'])
          have hpl : (fun (i : Nat) => ((fs.toList.map (fplace Γ)).toArray)[i]?) = placeOf Γ fs := by
            funext i
            simp only [List.getElem?_toArray, List.getElem?_map, placeOf, Array.getElem?_toList]
            cases hfi : fs[i]? with
            | none => rfl
            | some fd =>
              have hmem : fd ∈ fs.toList := by rw [Array.mem_toList_iff]; exact Array.mem_of_getElem? hfi
              have := hall fd hmem
              cases hx' : Γ fd.type with
              | none => rw [hx'] at this; cases this
              | some j => simp [hx', fplace]
          have hmA : (fs.mapM (fun (f : Field) => do pure (f.offset, ← sizeOf f.type))).run P w2 = .ok (fs.toList.map (fplace Γ)).toArray w2 := by
            rw [Array.mapM_eq_mapM_toList]
            simp only [Sem.run_map, hm]
            rfl
          rw [← hpl] at hv
          simp only [Instr.build, Sem.run_bind, h1, h2, Result.andThen_ok, hmA, hv]
          rfl
        · cases h
      · cases h
    · cases h
  · cases h

theorem vFunc_ok {f : Fn} {first caps : List AV} {vfirst vcaps : List Value} (h : vFunc f first.length caps = some (p, r)) (hf : VAs G first vfirst) (hc : VAs G caps vcaps) :
    Gives P G C (Instr.makeFunc f vfirst.toArray vcaps.toArray) r := by
  unfold vFunc at h
  split at h
  · split at h
    · next hz =>
      simp only [Option.some.injEq, Prod.mk.injEq] at h
      obtain ⟨rfl, rfl⟩ := h
      have h0 := Nat.eq_of_beq_eq_true hz
      have : vfirst = [] := List.eq_nil_of_length_eq_zero (by rw [← hf.length]; exact h0)
      subst this
      exact ⟨_, .fn _ hc, fun w2 _ => rfl⟩
    · cases h
  · cases h

theorem D.elem_len {I : Nat → Option Obj} {c : D} {sz i : Nat} {vs : List Value} (h : VDs I (c.elem i) ((vs.drop (i * sz)).take sz)) (hl : vs.length = c.len * sz) (hi : i < c.len) : ((vs.drop (i * sz)).take sz).length = sz := by
  have : (i + 1) * sz ≤ c.len * sz := Nat.mul_le_mul_right _ hi
  simp only [List.length_take, List.length_drop, hl]
  rw [Nat.add_mul] at this
  omega

theorem vIndexAddr_ok (hΓ : ∀ t i, Γ t = some i → TyOk P t i) {t : TypeId} {x ix : AV} {v u : Value} (h : vIndexAddr Γ σ t x ix = some (p, r)) (hp : p) (hs : Sat G σ.boxes σ.arrs w) (hx : VA G x v) (hi : VA G ix u) :
    Gives P G C (Instr.indexAt t v u) r := by
  unfold vIndexAddr at h
  split at h
  · next k n =>
    obtain rfl := hi.intv
    split at h
    · next i hti =>
      split at h
      · next e hd =>
        split at h
        · next j hj =>
          have run : ∀ (g o len cap : Nat) (w2 : World), 0 ≤ n → n < (len : Int) → (Instr.indexAt t (.slice (some ⟨g, o, none⟩) len cap) (.int k n)).run P w2 = .ok (.pointer (some ⟨g, o + n.toNat * j.size, none⟩)) w2 := by
            intro g o len cap w2 h0 h1
            have h2 := (hΓ _ _ hti).runUnd w2
            rw [hd] at h2
            have h3 := (hΓ _ _ hj).runSize w2
            simp [Instr.indexAt, asIntOf, h2, h0, h1, h3, add_at]
          split at h
          · next c =>
            split at h
            · next sz hsz =>
              split at h
              · next hb =>
                simp only [Bool.and_eq_true, Bool.not_eq_true'] at hb
                have hb1 := Nat.eq_of_beq_eq_true hb.1
                have hb2 : sz ≠ 0 := fun e => by have := hb.2; rw [e] at this; cases this
                subst hb1
                simp only [Option.some.injEq, Prod.mk.injEq] at h
                obtain ⟨rfl, rfl⟩ := h
                obtain ⟨A, cap, vs, rfl, h1, h2, h3, h4, h5⟩ := hx.dv.slice_inv hsz
                have hn : n.toNat < c.len := by omega
                have hel := h4 _ hn
                have hne : vs ≠ [] := by
                  intro e
                  subst e
                  have : 0 < c.len * j.size := Nat.mul_pos (by omega) (Nat.pos_of_ne_zero hb2)
                  simp at h3
                  omega
                obtain ⟨g, o, rfl, hat⟩ := (h5.resolve_left hne).part (n.toNat * j.size) j.size
                exact ⟨_, .dptr g _ hel hat, fun w2 _ => run g o _ cap w2 hp.1 hp.2⟩
              · cases h
            · cases h
          · next tg =>
            split at h
            · next ar har =>
              split at h
              · next sz hsz =>
                split at h
                · next hb =>
                  simp only [Bool.and_eq_true, Bool.not_eq_true'] at hb
                  have hb1 := Nat.eq_of_beq_eq_true hb.1
                  subst hb1
                  simp only [Option.some.injEq, Prod.mk.injEq] at h
                  obtain ⟨rfl, rfl⟩ := h
                  obtain ⟨A, cap, vs, h1, h2, h3, h4, h5, h6, h7, h8⟩ := hs.arr har hsz
                  cases hx with | own _ A' l' c' hav =>
                  rw [h1] at hav
                  cases hav
                  rcases h8 with ⟨rfl, h9, _⟩ | ⟨g, c, rfl, h9, h10, h11⟩
                  · rw [h9] at hp; omega
                  · refine ⟨_, .eptr tg g j.size n.toNat 0 (by rw [h1]; rfl), fun w2 _ => ?_⟩
                    rw [run g 0 _ _ w2 hp.1 hp.2]
                    simp
                · cases h
              · cases h
            · cases h
          · cases h
        · cases h
      · cases h
    · cases h
  · cases h

theorem vIndexStr_ok (hΓ : ∀ t i, Γ t = some i → TyOk P t i) {t : TypeId} {x ix : AV} {v u : Value} (h : vIndexStr (Γ t) x ix = some (p, r)) (hp : p) (hx : VA G x v) (hi : VA G ix u) : Gives P G C (Instr.index t v u) r := by
  unfold vIndexStr at h
  split at h
  · next s k n =>
    obtain rfl := hx.strv
    obtain rfl := hi.intv
    split at h
    · next hb =>
      simp only [Option.some.injEq, Prod.mk.injEq] at h
      obtain ⟨rfl, rfl⟩ := h
      cases hti : Γ t with
      | none => rw [hti] at hb; cases hb
      | some i =>
        have hd : i.desc = .string := by
          rw [hti] at hb
          cases i with | mk d z s b => cases d <;> simp_all [isStrD]
        refine ⟨_, .d (.int _ _), fun w2 _ => ?_⟩
        have h2 := (hΓ _ _ hti).runUnd w2
        rw [hd] at h2
        have hn : n.toNat < s.size := by omega
        have hg : s[n.toNat]? = some (s[n.toNat]'hn) := by simp [hn]
        simp only [Instr.index, asIntOf, Sem.run_bind, Sem.run_pure, Result.andThen_ok, h2, if_pos hp.1, hg]
        have : byteAt s n.toNat = ((s[n.toNat]'hn).toNat : Int) := by
          unfold byteAt
          have hn' : n.toNat < s.data.toList.length := by simpa using hn
          simp only [List.getD_eq_getElem?_getD, List.getElem?_eq_getElem hn', Option.getD_some]
          rfl
        rw [this]
    · cases h
  · cases h

theorem D.cut_esz {c : D} {sz : Nat} (h : c.esz = some sz) (a b : Nat) : (c.cut a b).esz = some sz := by
  cases c <;> simp [D.esz] at h <;> simp [D.cut, D.esz, h]
theorem D.cut_len {c : D} {sz : Nat} (h : c.esz = some sz) {a b : Nat} (hab : a ≤ b) (hb : b ≤ c.len) : (c.cut a b).len = b - a := by
  cases c <;> simp [D.esz] at h <;> simp only [D.len] at hb <;> simp only [D.cut, D.len, List.length_drop, List.length_take] <;> omega
theorem D.cut_elem {c : D} {sz : Nat} (h : c.esz = some sz) {a b i : Nat} (hi : i < b - a) (hb : b ≤ c.len) : (c.cut a b).elem i = c.elem (a + i) := by
  cases c <;> simp [D.esz] at h <;> simp only [D.len] at hb <;> simp only [D.cut, D.elem, List.getD_eq_getElem?_getD, List.getElem?_drop, List.getElem?_take] <;> rw [if_pos (by omega)]

def OptVA (G : Gh) : Option AV → Option Value → Prop
  | some a, some b => VA G a b
  | none, none => True
  | _, _ => False
theorem vSlice_ok (hΓ : ∀ t i, Γ t = some i → TyOk P t i) {t : TypeId} {lo hi : Option AV} {vlo vhi : Option Value} {x : AV} {v : Value} (h : vSlice Γ t lo hi x = some (p, r)) (hp : p) (hx : VA G x v)
    (hlo : OptVA G lo vlo) (hhi : OptVA G hi vhi) :
    Gives P G C (Instr.sliceAt t v vlo vhi none) r := by
  have bound : ∀ (o : Option AV) (vo : Option Value) (d l : Int), OptVA G o vo → vBound d o = some l →
      (vo = none ∧ l = d) ∨ ∃ k, vo = some (.int k l) := by
    intro o vo d l ho hb
    unfold vBound at hb
    split at hb
    · cases hb
      cases vo with
      | none => exact .inl ⟨rfl, rfl⟩
      | some _ => exact ho.elim
    · cases hb
      cases vo with
      | none => exact ho.elim
      | some b => exact .inr ⟨_, by rw [VA.intv (G := G) ho]⟩
    · cases hb
  have run : ∀ (isS : Bool) (len cap : Nat) (l h : Int) (w2 : World), vBound 0 lo = some l → vBound len hi = some h → 0 ≤ l → l ≤ h → h ≤ len → len ≤ cap →
      (Instr.sliceBounds isS len cap vlo vhi none).run P w2 = .ok (l.toNat, h.toNat, cap) w2 := by
    intro isS len cap l h w2 h1 h2 h3 h4 h5 h6
    have b1 := bound lo vlo 0 l hlo h1
    have b2 := bound hi vhi len h hhi h2
    have hh : ∀ k, (Instr.sliceBound (.int k h) cap (if isS then .sliceAcap else .sliceAlen)).run P w2 = .ok h.toNat w2 := fun k => by
      have : 0 ≤ h ∧ h ≤ (cap : Int) := by omega
      simp only [Instr.sliceBound, asIntOf, Sem.run_bind, Sem.run_pure, Result.andThen_ok]
      rw [if_pos this]; rfl
    have hll : ∀ k, (Instr.sliceBound (.int k l) h.toNat .sliceB).run P w2 = .ok l.toNat w2 := fun k => by
      have : 0 ≤ l ∧ l ≤ ((h.toNat : Nat) : Int) := by omega
      simp only [Instr.sliceBound, asIntOf, Sem.run_bind, Sem.run_pure, Result.andThen_ok]
      rw [if_pos this]; rfl
    rcases b2 with ⟨rfl, e2⟩ | ⟨k2, rfl⟩ <;> rcases b1 with ⟨rfl, e1⟩ | ⟨k1, rfl⟩
    · subst e1 e2; simp [Instr.sliceBounds]
    · subst e2; have := hll k1; simp at this; simp [Instr.sliceBounds, this]
    · subst e1; have := hh k2; simp [Instr.sliceBounds, this]
    · have h7 := hh k2; have h8 := hll k1; simp [Instr.sliceBounds, h7, h8]
  unfold vSlice at h
  split at h
  · next s =>
    obtain rfl := hx.strv
    split at h
    · next hb =>
      split at h
      · next l hh e1 e2 =>
        simp only [Option.some.injEq, Prod.mk.injEq] at h
        obtain ⟨rfl, rfl⟩ := h
        cases hti : Γ t with
        | none => rw [hti] at hb; cases hb
        | some i =>
          have hd : i.desc = .string := by
            rw [hti] at hb
            cases i with | mk d z s b => cases d <;> simp_all [isStrD]
          refine ⟨_, .d (.str _), fun w2 _ => ?_⟩
          have h2 := (hΓ _ _ hti).runUnd w2
          rw [hd] at h2
          have h3 := run false s.size s.size l hh w2 e1 e2 hp.1 hp.2.1 hp.2.2 (Nat.le_refl _)
          simp [Instr.sliceAt, Instr.slice, h2, h3]
      · cases h
    · cases h
  · next c hcn =>
    split at h
    · next sz sz' hsz hsz' =>
      split at h
      · next hb =>
        have hb1 := Nat.eq_of_beq_eq_true hb
        subst hb1
        split at h
        · next l hh e1 e2 =>
          simp only [Option.some.injEq, Prod.mk.injEq] at h
          obtain ⟨rfl, rfl⟩ := h
          unfold elemSz at hsz'
          split at hsz'
          · next i hti =>
            split at hsz'
            · next e hd =>
              split at hsz'
              · next j hj =>
                simp only [Option.some.injEq] at hsz'
                obtain ⟨A, cap, vs, rfl, h1, h2, h3, h4, h5⟩ := hx.dv.slice_inv hsz
                have hlen := D.cut_len hsz (a := l.toNat) (b := hh.toNat) (by omega) (by omega)
                have hesz := D.cut_esz hsz l.toNat hh.toNat
                have hA : ∀ {A' : Option Addr} {vs' : List Value}, True := trivial
                refine ⟨.slice (if cap = l.toNat then A else A.map (·.add (l.toNat * sz))) (hh.toNat - l.toNat) (cap - l.toNat), .d ?_, fun w2 _ => ?_⟩
                · rw [← hlen]
                  refine VD.slice_mk hesz _ _ ((vs.drop (l.toNat * sz)).take ((hh.toNat - l.toNat) * sz)) (by omega) (by omega) ?_ ?_ ?_
                  · rw [hlen]
                    have : hh.toNat * sz ≤ c.len * sz := Nat.mul_le_mul_right _ (by omega)
                    simp only [List.length_take, List.length_drop, h3, Nat.sub_mul]
                    omega
                  · intro q hq
                    rw [hlen] at hq
                    rw [D.cut_elem hsz hq (by omega)]
                    have := h4 (l.toNat + q) (by omega)
                    have e : ((((vs.drop (l.toNat * sz)).take ((hh.toNat - l.toNat) * sz)).drop (q * sz)).take sz) = ((vs.drop ((l.toNat + q) * sz)).take sz) := by
                      rw [List.drop_take, List.take_take, List.drop_drop, Nat.add_mul]
                      congr 1
                      have : (q + 1) * sz ≤ (hh.toNat - l.toNat) * sz := Nat.mul_le_mul_right _ hq
                      rw [Nat.add_mul] at this
                      omega
                    rw [e]
                    exact this
                  · by_cases hc : cap = l.toNat
                    · left
                      have : hh.toNat - l.toNat = 0 := by omega
                      rw [this, Nat.zero_mul, List.take_zero]
                    · rw [if_neg hc]
                      rcases h5 with rfl | h5
                      · left; simp
                      · right
                        obtain ⟨g, o, rfl, hat⟩ := h5.part (l.toNat * sz) ((hh.toNat - l.toNat) * sz)
                        simpa [add_at] using hat
                · have h6 := (hΓ _ _ hti).runUnd w2
                  rw [hd] at h6
                  have h7 := run true c.len cap l hh w2 e1 e2 hp.1 hp.2.1 hp.2.2 h1
                  have h8 := (hΓ _ _ hj).runSize w2
                  simp [Instr.sliceAt, Instr.slice, h6, h7, h8, hsz']
              · cases hsz'
            · cases hsz'
          · cases hsz'
        · cases h
      · cases h
    · cases h
  · cases h
end
end Go.Proofs.YthmbdoegcpicbaaDoor.Abs

/-! ## AbsG -/
namespace Go.Proofs.YthmbdoegcpicbaaDoor.Abs
section
variable {P : Program} {Γ : TypeId → Option TI} {G : Gh} {σ : St} {a : Act} {w : World} {C : World → Prop} {p : Prop} {r : AV}

theorem isSliceD_of {i : TI} (h : isSliceD (some i) = true) : ∃ e, i.desc = .slice e := by
  cases i with | mk d z s b => cases d <;> simp_all [isSliceD]
theorem isStrD_of {i : TI} (h : isStrD (some i) = true) : i.desc = .string := by
  cases i with | mk d z s b => cases d <;> simp_all [isStrD]

theorem vLen_ok (hΓ : ∀ t i, Γ t = some i → TyOk P t i) {t ty : TypeId} {x : AV} {v : Value} (h : vLen (Γ t) σ x = some (p, r)) (hs : Sat G σ.boxes σ.arrs w) (hx : VA G x v) :
    Gives P G C (Builtin.len_ #[t] ty #[v]) r := by
  have slice : ∀ (A : Option Addr) (l c : Nat), isSliceD (Γ t) = true → r = .d (.int .i64 l) → Gives P G C (Builtin.len_ #[t] ty #[.slice A l c]) r := by
    intro A l c hb hr
    subst hr
    cases hti : Γ t with
    | none => rw [hti] at hb; cases hb
    | some i =>
      rw [hti] at hb
      obtain ⟨e, hd⟩ := isSliceD_of hb
      refine ⟨_, .d (.int _ _), fun w2 _ => ?_⟩
      have h2 := (hΓ _ _ hti).runUnd w2
      rw [hd] at h2
      simp [Builtin.len_, h2, goInt]
  unfold vLen at h
  split at h
  · next s =>
    obtain rfl := hx.strv
    split at h
    · next hb =>
      simp only [Option.some.injEq, Prod.mk.injEq] at h
      obtain ⟨rfl, rfl⟩ := h
      cases hti : Γ t with
      | none => rw [hti] at hb; cases hb
      | some i =>
        rw [hti] at hb
        have hd := isStrD_of hb
        refine ⟨_, .d (.int _ _), fun w2 _ => ?_⟩
        have h2 := (hΓ _ _ hti).runUnd w2
        rw [hd] at h2
        simp [Builtin.len_, h2, goInt]
    · cases h
  · next c hcn =>
    split at h
    · next sz hsz =>
      split at h
      · next hb =>
        simp only [Option.some.injEq, Prod.mk.injEq] at h
        obtain ⟨A, cap, vs, rfl, _⟩ := hx.dv.slice_inv hsz
        exact slice _ _ _ hb h.2.symm
      · cases h
    · cases h
  · cases hx
    split at h
    · next hb =>
      simp only [Option.some.injEq, Prod.mk.injEq] at h
      exact slice _ _ _ hb h.2.symm
    · cases h
  · next tg =>
    split at h
    · next ar har =>
      split at h
      · next sz hsz =>
        split at h
        · next hb =>
          simp only [Option.some.injEq, Prod.mk.injEq] at h
          obtain ⟨A, cap, vs, h1, _⟩ := hs.arr har hsz
          cases hx with | own _ A' l' c' hav =>
          rw [h1] at hav
          cases hav
          exact slice _ _ _ hb h.2.symm
        · cases h
      · cases h
    · cases h
  · cases h

theorem gives_op {s : Sem Value} (h : Gives P G C s r) : ∃ v, VA G r v ∧ ∀ w2, C w2 → (do pure (Next.value (← s)) : Sem Next).run P w2 = .ok (.value v) w2 := by
  obtain ⟨v, h1, h2⟩ := h
  exact ⟨v, h1, fun w2 hw => by simp [h2 w2 hw]⟩

theorem opt_ev (h : Rel G σ a w) (x : Option Operand) : OptVA G (x.map σ.ev) (x.map a.eval) := by
  cases x with
  | none => trivial
  | some x => exact h.ev x

/-- What an operation needs of the world. -/
def OpC (G : Gh) (σ : St) (op : Op) (w w2 : World) : Prop := match op with
  | .load _ x => LoadC G (σ.ev x) w w2
  | _ => True
theorem opv_ok (hΓ : ∀ t i, Γ t = some i → TyOk P t i) {o : Oper} (h : opv Γ σ o.op = some (p, r)) (hp : p) (hr : Rel G σ a w) :
    ∃ v, VA G r v ∧ ∀ w2, OpC G σ o.op w w2 → (execOp a.eval o).run P w2 = .ok (.value v) w2 := by
  unfold execOp OpC
  unfold opv at h
  split at h
  · next x e => simp only [Option.some.injEq, Prod.mk.injEq] at h; obtain ⟨rfl, rfl⟩ := h; rw [e]; exact ⟨_, hr.ev x, fun w2 _ => rfl⟩
  · next x e => simp only [Option.some.injEq, Prod.mk.injEq] at h; obtain ⟨rfl, rfl⟩ := h; rw [e]; exact ⟨_, hr.ev x, fun w2 _ => rfl⟩
  · next c x y e =>
    rw [e]
    have := gives_op (vPick_ok (P := P) (C := fun _ => True) h (hr.ev c) (hr.ev x) (hr.ev y))
    obtain ⟨v, h1, h2⟩ := this
    refine ⟨v, h1, fun w2 hw => ?_⟩
    have := h2 w2 hw
    simp at this ⊢
    exact this
  · next t x e =>
    rw [e]
    split at h
    · next i hi => exact gives_op (vLoad_ok (hΓ _ _ hi) h hp hr.s (hr.ev x))
    · cases h
  · next s x f e => rw [e]; exact gives_op (vFieldAddr_ok hΓ h hp (hr.ev x))
  · next s x f e => rw [e]; exact gives_op (vField_ok hΓ h hp (hr.ev x))
  · next x n e => rw [e]; exact gives_op (vExtract_ok h (hr.ev x))
  · next x e =>
    rw [e]
    obtain ⟨h1, h2⟩ := vNilCheck_ok h (hr.ev x)
    have hv := hr.ev x
    rw [h1]
    refine ⟨_, hv, fun w2 _ => ?_⟩
    rcases h2 with ⟨q, h2⟩ | ⟨f, c, h2⟩ <;> simp [h2]
  · next op t x y _ e => rw [e]; exact gives_op (vBin_ok hΓ h hp (hr.ev x) (hr.ev y) x y)
  · next op t x e => rw [e]; exact gives_op (vUn_ok h hp (hr.ev x))
  · next s d x e => rw [e]; exact gives_op (vConv_ok hΓ h hp (hr.ev x))
  · next t parts e =>
    rw [e]
    refine gives_op (vBuild_ok hΓ (vparts := parts.map fun (i, x) => (i, a.eval x)) h (by simp) (fun i q hq => ?_))
    simp only [List.getElem?_map] at hq
    cases hi : parts.toList[i]? with
    | none => rw [hi] at hq; cases hq
    | some z =>
      rw [hi] at hq
      cases hq
      refine ⟨a.eval z.2, ?_, hr.ev z.2⟩
      simp only [Array.toList_map, List.getElem?_map, hi, Option.map_some]
  · next f first caps e =>
    rw [e]
    have hf := hr.evs first.toList
    have hc := hr.evs caps.toList
    have hl : first.size = (σ.evs first.toList).length := by simp [St.evs]
    rw [hl] at h
    have := gives_op (vFunc_ok (P := P) (C := fun _ => True) h hf hc)
    have e1 : (first.toList.map a.eval).toArray = first.map a.eval := by apply Array.ext'; simp
    have e2 : (caps.toList.map a.eval).toArray = caps.map a.eval := by apply Array.ext'; simp
    rw [e1, e2] at this
    exact this
  · next t x ix e => rw [e]; exact gives_op (vIndexAddr_ok hΓ h hp hr.s (hr.ev x) (hr.ev ix))
  · next t x ix e => rw [e]; exact gives_op (vIndexStr_ok hΓ h hp (hr.ev x) (hr.ev ix))
  · next t x lo hi e => rw [e]; exact gives_op (vSlice_ok hΓ h hp (hr.ev x) (opt_ev hr lo) (opt_ev hr hi))
  · next c e =>
    rw [e]
    split at h
    · next hc =>
      split at h
      · next x t hx ht =>
        obtain ⟨v, h1, h2⟩ := vLen_ok (P := P) (C := fun _ => True) (ty := o.type) hΓ h hr.s (hr.ev x)
        refine ⟨v, h1, fun w2 hw => ?_⟩
        have e1 : c.args = #[x] := by rw [← Array.toList_inj]; exact hx
        have e2 : c.argTypes = #[t] := by rw [← Array.toList_inj]; exact ht
        simp [resolve, hc, e1, e2, invoke, builtin, h2 w2 hw]
      · cases h
    · cases h
  · cases h
theorem opC_refl (hr : Rel G σ a w) (op : Op) : OpC G σ op w w := by
  unfold OpC
  split
  · unfold LoadC
    split
    · rfl
    · exact fun g o h => hr.s.im g o (.inl h)
    · exact fun _ _ => rfl
    · trivial
  · trivial
end
end Go.Proofs.YthmbdoegcpicbaaDoor.Abs

/-! ## AbsH -/
namespace Go.Proofs.YthmbdoegcpicbaaDoor.Abs

abbrev Qs := Exit → St → Prop
def Post (G : Gh) (w : World) (Q : Qs) (e : Exit) (a' : Act) (w' : World) : Prop := ∃ G' σ', Rel G' σ' a' w' ∧ Later G w G' w' ∧ Q e σ'

theorem Post.later {G H : Gh} {w w1 : World} {Q : Qs} (h : Later G w H w1) {e : Exit} {a' : Act} {w' : World} (k : Post H w1 Q e a' w') : Post G w Q e a' w' := by
  obtain ⟨G', σ', h1, h2, h3⟩ := k
  exact ⟨G', σ', h1, h.trans h2, h3⟩
theorem Post.mono {G : Gh} {w : World} {Q Q' : Qs} (hq : ∀ e σ, Q e σ → Q' e σ) {e : Exit} {a' : Act} {w' : World} (k : Post G w Q e a' w') : Post G w Q' e a' w' := by
  obtain ⟨G', σ', h1, h2, h3⟩ := k
  exact ⟨G', σ', h1, h2, hq _ _ h3⟩

/-! ### the base's rules, monotone in what is asked at the end -/
theorem letsOut_mono {Q Q' : Exit → Act → World → Prop} (h : ∀ e a w, Q e a w → Q' e a w) (k : LetsOut Q) : LetsOut Q' := by
  obtain ⟨a, w, q⟩ := k
  exact ⟨a, w, h _ _ _ q⟩
theorem upon_monoQ {P : Program} {o : Oper} {a : Act} {K K' : Act → World → Prop} {Q Q' : Exit → Act → World → Prop} (hK : ∀ a w, K a w → K' a w) (h : ∀ e a w, Q e a w → Q' e a w) :
    ∀ r : Result Next, o.upon P a K Q r → o.upon P a K' Q' r := by
  intro r hr
  cases r with
  | ok n w' =>
    cases n <;> simp only [Oper.upon] at hr ⊢ <;> first
      | exact hK _ _ hr
      | exact hr
      | skip
    case enter f args =>
      refine Calls.mono hr fun e w'' he => ?_
      cases e with
      | returned u => exact hK _ _ he
      | panicked c => exact h _ _ _ he
      | outgrown => exact letsOut_mono h he
    case row row args => exact Rows.mono hr fun u w'' he => hK _ _ he
  | halt x w' =>
    cases x <;> simp only [Oper.upon] at hr ⊢ <;> first
      | exact h _ _ _ hr
      | exact hr
theorem wpList_mono {P : Program} {ops : Array Oper} {Q Q' : Exit → Act → World → Prop} (h : ∀ e a w, Q e a w → Q' e a w) : ∀ (l : List Oper) (a : Act) (w : World), wpList P ops Q l a w → wpList P ops Q' l a w
  | [], a, w, k => h _ _ _ k
  | o :: rest, a, w, k => by
    unfold wpList at k ⊢
    split
    · next hw =>
      rw [if_pos hw] at k
      rcases k with k | ⟨k1, k2⟩
      · exact .inl (upon_monoQ (fun a w q => wpList_mono h rest a w q) h _ k)
      · exact .inr ⟨k1, letsOut_mono h k2⟩
    · next hw =>
      rw [if_neg hw] at k
      exact wpList_mono h rest _ _ k

/-! ### guards -/
def gOk (ops : Array Oper) (σ : St) : Option (Nat × Bool) → Option Bool
  | none => some true
  | some (j, want) => match (ops[j]?).bind (·.dst) with
    | some d => (match σ.tmps d with | .d (.bool b) => some (b == want) | _ => none)
    | none => none
theorem gOk_ok {ops : Array Oper} {G : Gh} {σ : St} {a : Act} {w : World} {o : Oper} {b : Bool} (h : gOk ops σ o.guard = some b) (hr : Rel G σ a w) : Region.wanted o (yielded ops a.tmps) = b := by
  unfold Region.wanted
  unfold gOk at h
  split at h
  · next e => rw [e]; simpa using h.symm
  · next j want e =>
    rw [e]
    split at h
    · next d hd =>
      split at h
      · next c hc =>
        have hv := hr.t d
        rw [hc] at hv
        have := hv.boolv
        simp only [yielded, hd, Option.bind_some]
        have hlt : d < a.tmps.size := by
          rcases Nat.lt_or_ge d a.tmps.size with h | h
          · exact h
          · rw [Array.getD_eq_getD_getElem?, Array.getElem?_eq_none h] at this
            cases this
        have he : a.tmps[d]? = some (.bool c) := by
          rw [Array.getD_eq_getD_getElem?, Array.getElem?_eq_getElem hlt] at this
          rw [Array.getElem?_eq_getElem hlt]
          simpa using this
        rw [he]
        simp only [Option.some.injEq] at h
        rw [← h]
        cases c <;> cases want <;> rfl
      · cases h
    · cases h

section
variable (E : Env) (ops : Array Oper)
/-- From every frame and world of which the state tells, these operations, in this order, end as Q says. -/
def TriOps (l : List Oper) (σ : St) (Q : Qs) : Prop := ∀ G a w, Rel G σ a w → wpList E.P ops (Post G w Q) l a w
def Tri (c : Code) (σ : St) (Q : Qs) : Prop := ∀ G a w, Rel G σ a w → c.wp E.P (Post G w Q) a w
end

section
variable {E : Env} {ops : Array Oper} {rest : List Oper} {o : Oper} {σ : St} {Q : Qs}

theorem TriOps.nil (h : Q .normal σ) : TriOps E ops [] σ Q := fun G a w hr => ⟨G, σ, hr, Later.refl G w, h⟩

/-- A step: the operation is carried out, and whatever it leaves is told by a state from which the rest does what it has to. -/
theorem TriOps.step (hg : gOk ops σ o.guard = some true)
    (h : ∀ G a w, Rel G σ a w → ∀ K : Act → World → Prop, (∀ G' σ' a' w', Rel G' σ' a' w' → Later G w G' w' → TriOps E ops rest σ' Q → K a' w') → o.wp E.P a w K (Post G w Q)) : TriOps E ops (o :: rest) σ Q := by
  intro G a w hr
  unfold wpList
  rw [if_pos (gOk_ok hg hr)]
  refine .inl (h G a w hr _ fun G' σ' a' w' hr' hl ht => ?_)
  exact wpList_mono (fun e a w q => Post.later hl q) _ _ _ (ht G' a' w' hr')
theorem TriOps.skip (hg : gOk ops σ o.guard = some false) (hd : okd σ.n o.dst = true) (h : TriOps E ops rest (σ.put o.dst .undef) Q) : TriOps E ops (o :: rest) σ Q := by
  intro G a w hr
  unfold wpList
  rw [if_neg (by rw [gOk_ok hg hr]; simp)]
  exact h G _ w (hr.put (.undef _) hd)
/-- A value is made. -/
theorem TriOps.val {p : Prop} {r : AV} (hg : gOk ops σ o.guard = some true) (hv : opv E.Γ σ o.op = some (p, r)) (hd : okd σ.n o.dst = true) (hp : p) (h : TriOps E ops rest (σ.put o.dst r) Q) : TriOps E ops (o :: rest) σ Q := by
  refine TriOps.step hg fun G a w hr K hK => ?_
  obtain ⟨v, h1, h2⟩ := opv_ok E.ok hv hp hr
  unfold Oper.wp
  rw [h2 w (opC_refl hr _)]
  exact hK G _ _ w (hr.put h1 hd) (Later.refl G w) h

/-- The variables of fp are as they were. -/
def KeepB (fp : BId → Bool) (σ : St) (G : Gh) (w : World) (G' : Gh) (w' : World) : Prop := ∀ i x, fp i = true → σ.boxes i = some x → G'.β i = G.β i ∧ w'.heap[G.β i]? = w.heap[G.β i]?
/-- An operation's work: whatever it leaves is told by a state that R holds of; the variables of fp are left alone. -/
def Step (E : Env) (o : Oper) (σ : St) (fp : BId → Bool) (R : St → Prop) : Prop :=
  ∀ G a w, Rel G σ a w → ∀ (K : Act → World → Prop) (Qx : Exit → Act → World → Prop), (∀ G' σ' a' w', Rel G' σ' a' w' → Later G w G' w' → KeepB fp σ G w G' w' → R σ' → K a' w') → o.wp E.P a w K Qx
theorem TriOps.eff {fp : BId → Bool} {R : St → Prop} (hg : gOk ops σ o.guard = some true) (h : Step E o σ fp R) (k : ∀ σ', R σ' → TriOps E ops rest σ' Q) : TriOps E ops (o :: rest) σ Q :=
  TriOps.step hg fun G a w hr K hK => h G a w hr K _ fun G' σ' a' w' h1 h2 _ h4 => hK G' σ' a' w' h1 h2 (k σ' h4)
def nofp : BId → Bool := fun _ => false
theorem Step.val {p : Prop} {r : AV} {fp : BId → Bool} (hv : opv E.Γ σ o.op = some (p, r)) (hd : okd σ.n o.dst = true) (hp : p) : Step E o σ fp (fun σ' => σ' = σ.put o.dst r) := by
  intro G a w hr K Qx hK
  obtain ⟨v, h1, h2⟩ := opv_ok E.ok hv hp hr
  unfold Oper.wp
  rw [h2 w (opC_refl hr _)]
  exact hK G _ _ w (hr.put h1 hd) (Later.refl G w) (fun _ _ _ _ => ⟨rfl, rfl⟩) rfl

theorem Tri.region {id : Nat} {l : List Oper} (h : TriOps E l.toArray l σ Q) : Tri E (.region id l.toArray false) σ Q := fun G a w hr => wp_region_lit (h G a w hr)
def next (K : St → Prop) (Q : Qs) : Qs
  | .normal, σ => K σ
  | e, σ => Q e σ
theorem Tri.seq {x y : Code} (h : Tri E x σ (next (fun σ' => Tri E y σ' Q) Q)) : Tri E (.seq x y) σ Q := by
  intro G a w hr
  refine wp_seq (wp_mono (h G a w hr) fun e a' w' q => ?_)
  obtain ⟨G', σ', h1, h2, h3⟩ := q
  cases e with
  | normal => exact wp_mono (h3 G' a' w' h1) fun e a w q => Post.later h2 q
  | _ => exact ⟨G', σ', h1, h2, h3⟩
theorem Tri.cond {c : Operand} {x y : Code} {b : Bool} (hc : σ.ev c = .d (.bool b)) (ht : b = true → Tri E x σ Q) (hf : b = false → Tri E y σ Q) : Tri E (.cond c x y) σ Q := by
  intro G a w hr
  have hv := hr.ev c
  rw [hc] at hv
  exact wp_cond_split hv.boolv (fun e => ht e G a w hr) (fun e => hf e G a w hr)
theorem Tri.skip (h : Q .normal σ) : Tri E .skip σ Q := fun G a w hr => wp_skip ⟨G, σ, hr, Later.refl G w, h⟩
theorem Tri.ret (h : Q .ret σ) : Tri E .ret σ Q := fun G a w hr => wp_ret ⟨G, σ, hr, Later.refl G w, h⟩
theorem Tri.exit {id : Nat} (h : Q (.exit id) σ) : Tri E (.exit id) σ Q := fun G a w hr => wp_exit ⟨G, σ, hr, Later.refl G w, h⟩
def inBlock (id : Nat) (Q : Qs) : Qs
  | .exit j, σ => bif Nat.beq j id then Q .normal σ else Q (.exit j) σ
  | e, σ => Q e σ
theorem Tri.block {id : Nat} {c : Code} (h : Tri E c σ (inBlock id Q)) : Tri E (.block id c) σ Q := by
  intro G a w hr
  refine wp_block (wp_mono (h G a w hr) fun e a' w' q => ?_)
  obtain ⟨G', σ', h1, h2, h3⟩ := q
  cases e with
  | exit j =>
    simp only [inBlock, Exit.inBlock] at h3 ⊢
    by_cases hj : j = id
    · subst hj
      simp at h3
      rw [if_pos rfl]
      exact ⟨G', σ', h1, h2, h3⟩
    · have : Nat.beq j id = false := by
        cases hb : Nat.beq j id
        · rfl
        · exact absurd (Nat.eq_of_beq_eq_true hb) hj
      rw [this] at h3
      rw [if_neg hj]
      exact ⟨G', σ', h1, h2, h3⟩
  | _ => exact ⟨G', σ', h1, h2, h3⟩
theorem Tri.mono {c : Code} {Q' : Qs} (h : Tri E c σ Q') (hq : ∀ e σ, Q' e σ → Q e σ) : Tri E c σ Q := fun G a w hr => wp_mono (h G a w hr) fun e a w q => Post.mono hq q
/-- One state tells less than another. -/
def Wk (σ σ' : St) : Prop := ∀ G a w, Rel G σ a w → ∃ G', Rel G' σ' a w ∧ Later G w G' w
theorem Wk.refl (σ : St) : Wk σ σ := fun G a w h => ⟨G, h, Later.refl G w⟩
theorem Wk.trans {σ σ' σ'' : St} (h : Wk σ σ') (k : Wk σ' σ'') : Wk σ σ'' := fun G a w hr => by
  obtain ⟨G1, h1, h2⟩ := h G a w hr
  obtain ⟨G2, h3, h4⟩ := k G1 a w h1
  exact ⟨G2, h3, h2.trans h4⟩
theorem Tri.weak {c : Code} {σ' : St} (h : Wk σ σ') (k : Tri E c σ' Q) : Tri E c σ Q := fun G a w hr => by
  obtain ⟨G', h1, h2⟩ := h G a w hr
  exact wp_mono (k G' a w h1) fun e a w q => Post.later h2 q
theorem TriOps.weak {l : List Oper} {σ' : St} (h : Wk σ σ') (k : TriOps E ops l σ' Q) : TriOps E ops l σ Q := fun G a w hr => by
  obtain ⟨G', h1, h2⟩ := h G a w hr
  exact wpList_mono (fun e a w q => Post.later h2 q) _ _ _ (k G' a w h1)
/-- A loop: states that a family gives, each round at a smaller number. -/
theorem Tri.loop {c : Code} {X : Type} (I : X → St) (μ : X → Nat) (x₀ : X) (h₀ : Wk σ (I x₀))
    (round : ∀ x, Tri E c (I x) (next (fun σ' => ∃ y, μ y < μ x ∧ Wk σ' (I y)) Q)) : Tri E (.loop c) σ Q := by
  intro G a w hr
  obtain ⟨G0, h1, h2⟩ := h₀ G a w hr
  refine wp_loop_ghost (fun n a' w' => ∃ x G', μ x = n ∧ Rel G' (I x) a' w' ∧ Later G w G' w') (μ x₀) ⟨x₀, G0, rfl, h1, h2⟩ ?_
  rintro n a' w' ⟨x, G', rfl, h3, h4⟩
  refine wp_mono (round x G' a' w' h3) fun e a2 w2 q => ?_
  obtain ⟨G2, σ2, h5, h6, h7⟩ := q
  cases e with
  | normal =>
    obtain ⟨y, hy, hk⟩ := h7
    obtain ⟨G3, h8, h9⟩ := hk G2 a2 w2 h5
    exact ⟨μ y, hy, y, G3, rfl, h8, (h4.trans h6).trans h9⟩
  | _ => exact ⟨G2, σ2, h5, h4.trans h6, h7⟩
/-- Temporaries may be forgotten. -/
theorem Wk.forget {σ : St} (f : Nat → AV) (h : ∀ i, f i = .undef ∨ f i = σ.tmps i) : Wk σ { σ with tmps := f } := fun G a w hr =>
  ⟨G, ⟨hr.n, fun i => by
    rcases h i with h | h
    · simp only [h]; exact .undef _
    · simp only [h]; exact hr.t i, hr.df, hr.s⟩, Later.refl G w⟩
end
end Go.Proofs.YthmbdoegcpicbaaDoor.Abs

/-! ## AbsI -/
namespace Go.Proofs.YthmbdoegcpicbaaDoor.Abs

def updR (f : Nat → Role) (b : Nat) (r : Role) : Nat → Role := fun i => if i = b then r else f i
theorem updR_same (f : Nat → Role) (b : Nat) (r : Role) : updR f b r b = r := by simp [updR]
theorem updR_ne (f : Nat → Role) {b i : Nat} (r : Role) (h : i ≠ b) : updR f b r i = f i := by simp [updR, h]

/-- What is no longer named is forgotten, everywhere. -/
def St.purge (σ : St) (t : Tag → Bool) (b : BId → Bool) : St :=
  { σ with tmps := fun i => (σ.tmps i).purge t b,
           boxes := fun i => bif b i then none else (match σ.boxes i with | some x => some { x with cs := AV.purges t b x.cs } | none => none),
           arrs := fun u => bif t u then none else σ.arrs u }

theorem Sat.lt_im {G : Gh} {bx : BId → Option Box} {ar : Tag → Option Arr} {w : World} (h : Sat G bx ar w) {b : Nat} {o : Obj} (hr : G.role b = .im o ∨ G.role b = .hid o) : b < w.heap.size := (Array.getElem?_eq_some_iff.1 (h.im b o hr)).1
theorem Sat.lt_bx {G : Gh} {bx : BId → Option Box} {ar : Tag → Option Arr} {w : World} (h : Sat G bx ar w) {i : BId} {x : Box} (hb : bx i = some x) : G.β i < w.heap.size := by
  obtain ⟨_, vs, h2, _⟩ := h.bx i x hb
  exact (Array.getElem?_eq_some_iff.1 h2).1
theorem Sat.lt_ar {G : Gh} {bx : BId → Option Box} {ar : Tag → Option Arr} {w : World} (h : Sat G bx ar w) {t : Tag} {x : Arr} (hb : ar t = some x) {g : Nat} (hg : (G.av t).ownBlock = some g) : g < w.heap.size := by
  obtain ⟨_, sz, es, vs, _, _, h3⟩ := h.ar t x hb
  exact (h3.lt g hg).2

/-- Some names forgotten; what they stood for may be anything; what is fixed stays fixed; the world turns in what has no role, or in what is forgotten. -/
theorem Rel.purge {G H : Gh} {σ : St} {a : Act} {w w' : World} (h : Rel G σ a w) (t : Tag → Bool) (b : BId → Bool)
    (him : ∀ g o, G.role g = .im o → H.role g = .im o) (him' : ∀ g o, (H.role g = .im o ∨ H.role g = .hid o) → w'.heap[g]? = some o)
    (ht : ∀ u, t u = false → H.av u = G.av u) (hb : ∀ u, b u = false → H.β u = G.β u)
    (hkb : ∀ i x, σ.boxes i = some x → b i = false → H.role (G.β i) = .box i ∧ w'.heap[G.β i]? = w.heap[G.β i]?)
    (hka : ∀ u x, σ.arrs u = some x → t u = false → ∀ g, (G.av u).ownBlock = some g → H.role g = .arr u ∧ w'.heap[g]? = w.heap[g]?) : Rel H (σ.purge t b) a w' := by
  have hsub : Sub G.im H.im := fun g o hg => im_of.2 (him g o (im_of.1 hg))
  refine ⟨h.n, fun i => (h.t i).purge t b hsub ht hb, h.df, him', ?_, ?_, h.s.gl.mono him⟩
  · intro i x hx
    simp only [St.purge] at hx
    cases hbi : b i
    · rw [hbi] at hx
      simp only [cond_false] at hx
      split at hx
      · next y hy =>
        cases hx
        obtain ⟨h1, vs, h2, h3⟩ := h.s.bx i y hy
        obtain ⟨h4, h5⟩ := hkb i y hy hbi
        rw [hb i hbi]
        exact ⟨h4, vs, by rw [h5]; exact h2, h3.purge t b hsub ht hb⟩
      · cases hx
    · rw [hbi] at hx; cases hx
  · intro u x hx
    simp only [St.purge] at hx
    cases htu : t u
    · rw [htu] at hx
      simp only [cond_false] at hx
      obtain ⟨h1, sz, es, vs, h2, h3, h4⟩ := h.s.ar u x hx
      rw [ht u htu]
      refine ⟨fun g hg => (hka u x hx htu g hg).1, sz, es, vs, h2, h3.mono hsub, h4.1, ?_⟩
      rcases h4.2 with h5 | ⟨g, cap, cur, h5, h6, h7, h8⟩
      · exact .inl h5
      · exact .inr ⟨g, cap, cur, h5, h6, by rw [(hka u x hx htu g (by rw [h5]; rfl)).2]; exact h7, h8⟩
    · rw [htu] at hx; cases hx

/-- A new variable. -/
def St.newBox (σ : St) (i : BId) (E : TypeId) (cs : List AV) : St :=
  let p := σ.purge (fun _ => false) (fun j => decide (j = i))
  { p with boxes := fun j => bif decide (j = i) then some ⟨E, AV.purges (fun _ => false) (fun j => decide (j = i)) cs⟩ else p.boxes j }
def Gh.newBox (G : Gh) (g : Nat) (i : BId) : Gh := { role := updR G.role g (.box i), β := fun j => if j = i then g else G.β j, av := G.av }

theorem alloc_heap (w : World) (o : Obj) : (w.alloc o).heap[w.heap.size]? = some o := by
  show (w.heap.push o)[w.heap.size]? = _
  simp
theorem alloc_heap_ne (w : World) (o : Obj) {g : Nat} (h : g ≠ w.heap.size) : (w.alloc o).heap[g]? = w.heap[g]? := by
  show (w.heap.push o)[g]? = _
  rw [Array.getElem?_push, if_neg h]

theorem Rel.newBox {G : Gh} {σ : St} {a : Act} {w : World} (h : Rel G σ a w) {i : BId} (hi : ∀ k, i ≠ .out k) (E : TypeId) {cs : List AV} {vs : List Value} (hv : VAs G cs vs) :
    Rel (G.newBox w.heap.size i) (σ.newBox i E cs) a (w.alloc (.cells vs.toArray E)) ∧ Later G w (G.newBox w.heap.size i) (w.alloc (.cells vs.toArray E)) := by
  have him : ∀ g o, G.role g = .im o → (G.newBox w.heap.size i).role g = .im o := fun g o hg => by
    have := h.s.lt_im (.inl hg)
    simp only [Gh.newBox]
    rw [updR_ne _ _ (by omega)]
    exact hg
  have hhid : ∀ g o, G.role g = .hid o → (G.newBox w.heap.size i).role g = .hid o := fun g o hg => by
    have := h.s.lt_im (.inr hg)
    simp only [Gh.newBox]
    rw [updR_ne _ _ (by omega)]
    exact hg
  have hp := Rel.purge (H := G.newBox w.heap.size i) (w' := w.alloc (.cells vs.toArray E)) h (fun _ => false) (fun j => decide (j = i)) him
    (fun g o hg => by
      simp only [Gh.newBox] at hg
      by_cases hgs : g = w.heap.size
      · subst hgs; rw [updR_same] at hg; rcases hg with hg | hg <;> cases hg
      · rw [updR_ne _ _ hgs] at hg
        rw [alloc_heap_ne _ _ hgs]
        exact h.s.im g o hg)
    (fun u _ => rfl) (fun u hu => by simp only [Gh.newBox]; rw [if_neg (by simpa using hu)])
    (fun j x hx hj => by
      have hlt := h.s.lt_bx hx
      have hne : G.β j ≠ w.heap.size := by omega
      simp only [Gh.newBox]
      exact ⟨by rw [updR_ne _ _ hne]; exact (h.s.bx j x hx).1, alloc_heap_ne _ _ hne⟩)
    (fun u x hx _ g hg => by
      have hlt := h.s.lt_ar hx hg
      have hne : g ≠ w.heap.size := by omega
      simp only [Gh.newBox]
      exact ⟨by rw [updR_ne _ _ hne]; exact (h.s.ar u x hx).1 g hg, alloc_heap_ne _ _ hne⟩)
  have hsub : Sub G.im (G.newBox w.heap.size i).im := fun g o hg => im_of.2 (him g o (im_of.1 hg))
  refine ⟨⟨hp.n, hp.t, hp.df, hp.s.im, ?_, hp.s.ar, hp.s.gl⟩, him, hhid, rfl, rfl, rfl, by simp, fun k => by simp only [Gh.newBox]; rw [if_neg (fun e => hi k e.symm)]⟩
  intro j x hx
  simp only [St.newBox] at hx
  by_cases hj : j = i
  · subst hj
    simp only [decide_true, cond_true, Option.some.injEq] at hx
    subst hx
    refine ⟨by simp [Gh.newBox, updR_same], vs, by simp only [Gh.newBox, if_true]; exact alloc_heap w _, ?_⟩
    exact hv.purge _ _ hsub (fun _ _ => rfl) (fun u hu => by simp only [Gh.newBox]; rw [if_neg (by simpa using hu)])
  · simp only [hj, decide_false, cond_false] at hx
    exact hp.s.bx j x hx

/-- A new array of one's own. -/
def St.newArr (σ : St) (u : Tag) (E : TypeId) (c : D) : St :=
  let p := σ.purge (fun v => decide (v = u)) (fun _ => false)
  { p with arrs := fun v => bif decide (v = u) then some ⟨E, c⟩ else p.arrs v }
def Gh.newArr (G : Gh) (g : Nat) (u : Tag) (v : Value) : Gh := { role := updR G.role g (.arr u), β := G.β, av := fun t => if t = u then v else G.av t }

theorem Rel.newArr {G : Gh} {σ : St} {a : Act} {w : World} (h : Rel G σ a w) (u : Tag) (E : TypeId) {c : D} {sz cap : Nat} {vs : List Value} {cur : Array Value} (hc : c.esz = some sz) (hl : vs.length = c.len * sz)
    (hf : ∀ i, i < c.len → VDs G.im (c.elem i) ((vs.drop (i * sz)).take sz)) (h1 : c.len ≤ cap) (h2 : cap ≤ maxLen) (h3 : cur.size = cap * sz) (h4 : cur.toList.take (c.len * sz) = vs) {w' : World} (ho : w'.os = w.os) (ht : w'.tape = w.tape) (hu : w'.output = w.output) (hh : w'.heap = w.heap.push (.cells cur E)) :
    Rel (G.newArr w.heap.size u (.slice (some ⟨w.heap.size, 0, none⟩) c.len cap)) (σ.newArr u E c) a w' ∧ Later G w (G.newArr w.heap.size u (.slice (some ⟨w.heap.size, 0, none⟩) c.len cap)) w' := by
  have hnew : w'.heap[w.heap.size]? = some (.cells cur E) := by rw [hh]; simp
  have hold : ∀ g, g ≠ w.heap.size → w'.heap[g]? = w.heap[g]? := fun g hg => by rw [hh, Array.getElem?_push, if_neg hg]
  have him : ∀ g o, G.role g = .im o → (G.newArr w.heap.size u (.slice (some ⟨w.heap.size, 0, none⟩) c.len cap)).role g = .im o := fun g o hg => by
    have := h.s.lt_im (.inl hg)
    simp only [Gh.newArr]
    rw [updR_ne _ _ (by omega)]
    exact hg
  have hhid : ∀ g o, G.role g = .hid o → (G.newArr w.heap.size u (.slice (some ⟨w.heap.size, 0, none⟩) c.len cap)).role g = .hid o := fun g o hg => by
    have := h.s.lt_im (.inr hg)
    simp only [Gh.newArr]
    rw [updR_ne _ _ (by omega)]
    exact hg
  have hp := Rel.purge (H := G.newArr w.heap.size u (.slice (some ⟨w.heap.size, 0, none⟩) c.len cap)) (w' := w') h (fun v => decide (v = u)) (fun _ => false) him
    (fun g o hg => by
      simp only [Gh.newArr] at hg
      by_cases hgs : g = w.heap.size
      · subst hgs; rw [updR_same] at hg; rcases hg with hg | hg <;> cases hg
      · rw [updR_ne _ _ hgs] at hg
        rw [hold _ hgs]
        exact h.s.im g o hg)
    (fun v hv => by simp only [Gh.newArr]; rw [if_neg (by simpa using hv)]) (fun _ _ => rfl)
    (fun j x hx hj => by
      have hlt := h.s.lt_bx hx
      have hne : G.β j ≠ w.heap.size := by omega
      simp only [Gh.newArr]
      exact ⟨by rw [updR_ne _ _ hne]; exact (h.s.bx j x hx).1, hold _ hne⟩)
    (fun v x hx _ g hg => by
      have hlt := h.s.lt_ar hx hg
      have hne : g ≠ w.heap.size := by omega
      simp only [Gh.newArr]
      exact ⟨by rw [updR_ne _ _ hne]; exact (h.s.ar v x hx).1 g hg, hold _ hne⟩)
  have hsub : Sub G.im (G.newArr w.heap.size u (.slice (some ⟨w.heap.size, 0, none⟩) c.len cap)).im := fun g o hg => im_of.2 (him g o (im_of.1 hg))
  refine ⟨⟨hp.n, hp.t, hp.df, hp.s.im, hp.s.bx, ?_, hp.s.gl⟩, him, hhid, ho, ht, hu, by rw [hh]; simp, fun _ => rfl⟩
  intro v x hx
  simp only [St.newArr] at hx
  by_cases hv : v = u
  · subst hv
    simp only [decide_true, cond_true, Option.some.injEq] at hx
    subst hx
    obtain ⟨es, hvw, hel, hee⟩ := D.view_of hc
    refine ⟨fun g hg => ?_, sz, es, vs, hvw, ⟨by rw [hel]; exact hl, fun i hi => ?_⟩, ?_⟩
    · simp only [Gh.newArr, if_true, Value.ownBlock, Option.some.injEq] at hg
      subst hg
      simp [Gh.newArr, updR_same]
    · rw [hee i hi]; exact (hf i (by omega)).mono hsub
    · simp only [Gh.newArr, if_true]
      rw [hel]
      exact ⟨hl, .inr ⟨_, cap, cur, rfl, Nat.zero_le _, hnew, h1, h2, h3, h4⟩⟩
  · simp only [hv, decide_false, cond_false] at hx
    exact hp.s.ar v x hx

/-- A store into a variable. -/
def splice (cs : List AV) (o : Nat) (vs : List AV) : List AV := cs.take o ++ vs ++ cs.drop (o + vs.length)
def St.setBox (σ : St) (i : BId) (cs : List AV) : St := { σ with boxes := fun j => bif decide (j = i) then (match σ.boxes i with | some x => some { x with cs := cs } | none => none) else σ.boxes j }
theorem Rel.setBox {G : Gh} {σ : St} {a : Act} {w : World} (h : Rel G σ a w) {i : BId} {x : Box} (hx : σ.boxes i = some x) {cs : List AV} {vs : List Value} (hv : VAs G cs vs) :
    Rel G (σ.setBox i cs) a (w.setRow (G.β i) vs.toArray) ∧ Later G w G (w.setRow (G.β i) vs.toArray) := by
  obtain ⟨h1, us, h2, h3⟩ := h.s.bx i x hx
  have hne : ∀ g, G.role g ≠ .box i → (w.setRow (G.β i) vs.toArray).heap[g]? = w.heap[g]? := fun g hg => setRow_other w _ g _ (fun e => hg (by rw [e]; exact h1))
  refine ⟨⟨h.n, h.t, h.df, ?_, ?_, ?_, h.s.gl⟩, fun _ _ h => h, fun _ _ h => h, rfl, rfl, rfl, by simp [World.setRow], fun _ => rfl⟩
  · intro g o hg
    rw [hne g (by rcases hg with hg | hg <;> rw [hg] <;> simp)]
    exact h.s.im g o hg
  · intro j y hy
    simp only [St.setBox] at hy
    by_cases hj : j = i
    · subst hj
      simp only [decide_true, cond_true, hx, Option.some.injEq] at hy
      subst hy
      exact ⟨h1, vs, setRow_heap w _ _ _ _ _ h2, hv⟩
    · simp only [hj, decide_false, cond_false] at hy
      obtain ⟨h4, ws, h5, h6⟩ := h.s.bx j y hy
      refine ⟨h4, ws, ?_, h6⟩
      rw [hne _ (by rw [h4]; simpa using hj)]
      exact h5
  · intro t y hy
    obtain ⟨h4, sz, es, ws, h5, h6, h7⟩ := h.s.ar t y hy
    refine ⟨h4, sz, es, ws, h5, h6, h7.1, ?_⟩
    rcases h7.2 with h8 | ⟨g, cap, cur, h8, h9, h10, h11⟩
    · exact .inl h8
    · refine .inr ⟨g, cap, cur, h8, h9, ?_, h11⟩
      rw [hne _ (by rw [h4 g (by rw [h8]; rfl)]; simp)]
      exact h10
end Go.Proofs.YthmbdoegcpicbaaDoor.Abs

/-! ## AbsJ -/
namespace Go.Proofs.YthmbdoegcpicbaaDoor.Abs

/-! ### one cell -/
def D.one : D → Bool
  | .agg _ => false
  | _ => true
def AV.one : AV → Bool
  | .d x => x.one
  | .nils => true
  | .own _ => true
  | .ptr _ _ => true
  | .fn _ _ => true
  | _ => false
theorem VD.one {I : Nat → Option Obj} {x : D} {v : Value} (h : VD I x v) (ho : x.one = true) : v.oneCell' = true := by
  cases h <;> first | rfl | simp [D.one] at ho
theorem VA.one {G : Gh} {x : AV} {v : Value} (h : VA G x v) (ho : x.one = true) : v.oneCell' = true := by
  cases h <;> first | rfl | (simp [AV.one] at ho; done) | skip
  next h => exact h.one ho
def allOne : List AV → Bool
  | [] => true
  | x :: r => x.one && allOne r
theorem VAs.one {G : Gh} : ∀ {xs : List AV} {vs : List Value}, VAs G xs vs → allOne xs = true → ∀ v ∈ vs, v.oneCell' = true
  | [], _, h, _ => by cases h; simp
  | x :: xs, _, h, ho => by
    cases h with
    | cons h t =>
      simp only [allOne, Bool.and_eq_true] at ho
      intro v hv
      rcases List.mem_cons.1 hv with rfl | hv
      · exact h.one ho.1
      · exact t.one ho.2 v hv

/-! ### contents out of cells -/
def asInts (k : IntKind) : List AV → Option (List Int)
  | [] => some []
  | .d (.int k' n) :: r => if decide (k = k') then (match asInts k r with | some l => some (n :: l) | none => none) else none
  | _ => none
def asStrs : List AV → Option (List ByteArray)
  | [] => some []
  | .d (.str s) :: r => (match asStrs r with | some l => some (s :: l) | none => none)
  | _ => none
def asD : AV → Option D
  | .d x => if x.one then some x else none
  | .nils => some (.ints .i64 [])
  | _ => none
def allD : List AV → Option (List D)
  | [] => some []
  | x :: r => match asD x, allD r with | some d, some l => some (d :: l) | _, _ => none
def chunks (agg : Bool) (sz : Nat) : Nat → List D → List D
  | 0, _ => []
  | n + 1, ds => (if agg then .agg (ds.take sz) else ds.headD default) :: chunks agg sz n (ds.drop sz)
def mkC (i : TI) (n : Nat) (out : List AV) : Option D := match i.desc with
  | .int k => (match asInts k out with | some l => some (.ints k l) | none => none)
  | .string => (match asStrs out with | some l => some (.strs l) | none => none)
  | d => (match allD out with | some ds => some (.slice i.size (chunks (isAggD d) i.size n ds)) | none => none)

theorem asInts_ok {G : Gh} {k : IntKind} : ∀ {xs : List AV} {vs : List Value} {l : List Int}, VAs G xs vs → asInts k xs = some l → VDs G.im (l.map (.int k)) vs
  | [], _, l, h, e => by cases h; simp only [asInts, Option.some.injEq] at e; subst e; exact .nil
  | x :: xs, _, l, h, e => by
    cases h with
    | cons h t =>
      unfold asInts at e
      split at e
      · cases ‹_ = [] ›
      · next k' n r hx =>
        cases hx
        split at e
        · next hk =>
          have hk := of_decide_eq_true hk
          subst hk
          split at e
          · next l' hl =>
            cases e
            rw [h.intv]
            exact .cons (.int _ _) rfl (asInts_ok t hl)
          · cases e
        · cases e
      · cases e
theorem asStrs_ok {G : Gh} : ∀ {xs : List AV} {vs : List Value} {l : List ByteArray}, VAs G xs vs → asStrs xs = some l → VDs G.im (l.map .str) vs
  | [], _, l, h, e => by cases h; simp only [asStrs, Option.some.injEq] at e; subst e; exact .nil
  | x :: xs, _, l, h, e => by
    cases h with
    | cons h t =>
      unfold asStrs at e
      split at e
      · cases ‹_ = [] ›
      · next s r hx =>
        cases hx
        split at e
        · next l' hl =>
          cases e
          rw [h.strv]
          exact .cons (.str _) rfl (asStrs_ok t hl)
        · cases e
      · cases e
theorem asD_ok {G : Gh} {x : AV} {v : Value} {d : D} (h : VA G x v) (e : asD x = some d) : VD G.im d v ∧ v.oneCell' = true := by
  unfold asD at e
  split at e
  · split at e
    · next ho => cases e; exact ⟨h.dv, h.dv.one ho⟩
    · cases e
  · cases e
    cases h
    exact ⟨.sl none 0 [] (sz := 1) (es := []) rfl (Nat.le_refl _) (Nat.zero_le _) rfl (fun i hi => by simp at hi) (.inl rfl), rfl⟩
  · cases e
theorem allD_ok {G : Gh} : ∀ {xs : List AV} {vs : List Value} {l : List D}, VAs G xs vs → allD xs = some l → VDs G.im l vs
  | [], _, l, h, e => by cases h; simp only [allD, Option.some.injEq] at e; subst e; exact .nil
  | x :: xs, _, l, h, e => by
    cases h with
    | cons h t =>
      unfold allD at e
      split at e
      · next d l' h1 h2 =>
        cases e
        obtain ⟨h3, h4⟩ := asD_ok h h1
        exact .cons h3 h4 (allD_ok t h2)
      · cases e

theorem chunks_len (agg : Bool) (sz : Nat) : ∀ (n : Nat) (ds : List D), (chunks agg sz n ds).length = n
  | 0, _ => rfl
  | n + 1, ds => by simp [chunks, chunks_len agg sz n]
theorem chunks_ok {I : Nat → Option Obj} (agg : Bool) (sz : Nat) (h1 : agg = false → sz = 1) : ∀ (n : Nat) (ds : List D) (vs : List Value), VDs I ds vs → vs.length = n * sz → (∀ x ∈ ds, x.one = true) →
    ∀ j, j < n → VDs I (((chunks agg sz n ds).getD j default).leaves) ((vs.drop (j * sz)).take sz)
  | 0, _, _, _, _, _, j, hj => by omega
  | n + 1, ds, vs, h, hl, ho, 0, _ => by
    simp only [chunks, List.getD_cons_zero, Nat.zero_mul, List.drop_zero]
    cases agg
    · have := h1 rfl
      subst this
      have hdl := h.length
      cases h with
      | nil => simp at hl
      | @cons d v ds vs hd hv ht =>
        have : d.leaves = [d] := by
          have := ho d (by simp)
          cases d <;> first | rfl | simp [D.one] at this
        simp only [Bool.false_eq_true, if_false, List.headD_cons, this]
        exact .cons hd hv .nil
    · simp only [if_true, D.leaves]
      exact h.take sz
  | n + 1, ds, vs, h, hl, ho, j + 1, hj => by
    simp only [chunks, List.getD_cons_succ]
    have hl' : (vs.drop sz).length = n * sz := by rw [List.length_drop, hl, Nat.add_mul]; omega
    have := chunks_ok agg sz h1 n (ds.drop sz) (vs.drop sz) (h.drop sz) hl' (fun x hx => ho x (List.mem_of_mem_drop hx)) j (by omega)
    rw [List.drop_drop] at this
    rw [Nat.add_mul, Nat.one_mul, Nat.add_comm (j * sz) sz]
    exact this
theorem allD_one : ∀ {xs : List AV} {l : List D}, allD xs = some l → ∀ x ∈ l, x.one = true
  | [], l, e => by simp only [allD, Option.some.injEq] at e; subst e; simp
  | x :: xs, l, e => by
    unfold allD at e
    split at e
    · next d l' h1 h2 =>
      cases e
      intro y hy
      rcases List.mem_cons.1 hy with rfl | hy
      · unfold asD at h1
        split at h1
        · split at h1
          · next ho => cases h1; exact ho
          · cases h1
        · cases h1; rfl
        · cases h1
      · exact allD_one h2 y hy
    · cases e

theorem mkC_ok {G : Gh} {P : Program} {t : TypeId} {i : TI} {n : Nat} {out : List AV} {vs : List Value} {c : D} (h : VAs G out vs) (e : mkC i n out = some c) (hl : vs.length = n * i.size) (h1 : isAggD i.desc = false → i.size = 1) :
    c.esz = some i.size ∧ c.len = n ∧ ∀ j, j < n → VDs G.im (c.elem j) ((vs.drop (j * i.size)).take i.size) := by
  have single : ∀ (ds : List D) (hd : VDs G.im ds vs) (j : Nat) (hj : j < ds.length), i.size = 1 → VDs G.im [ds[j]] ((vs.drop (j * i.size)).take i.size) := by
    intro ds hd j hj hs
    have := (hd.drop j).take 1
    rw [hs, Nat.mul_one]
    rw [List.drop_eq_getElem_cons hj] at this
    exact this
  unfold mkC at e
  split at e
  · next k hk =>
    have hs : i.size = 1 := h1 (by rw [hk]; rfl)
    split at e
    · next l hl' =>
      cases e
      have hd := asInts_ok h hl'
      have hln := hd.length
      rw [hs, Nat.mul_one] at hl
      simp only [List.length_map] at hln
      refine ⟨by rw [hs]; rfl, by simp only [D.len]; omega, fun j hj => ?_⟩
      have := single _ hd j (by simp; omega) hs
      have hjl : j < l.length := by omega
      simpa [D.elem, hjl] using this
    · cases e
  · next hk =>
    have hs : i.size = 1 := h1 (by rw [hk]; rfl)
    split at e
    · next l hl' =>
      cases e
      have hd := asStrs_ok h hl'
      have hln := hd.length
      rw [hs, Nat.mul_one] at hl
      simp only [List.length_map] at hln
      refine ⟨by rw [hs]; rfl, by simp only [D.len]; omega, fun j hj => ?_⟩
      have := single _ hd j (by simp; omega) hs
      have hjl : j < l.length := by omega
      simpa [D.elem, hjl] using this
    · cases e
  · split at e
    · next ds hds =>
      cases e
      have hd := allD_ok h hds
      exact ⟨rfl, chunks_len _ _ _ _, fun j hj => chunks_ok _ _ h1 n ds vs hd hl (allD_one hds) j hj⟩
    · cases e
end Go.Proofs.YthmbdoegcpicbaaDoor.Abs

/-! ## AbsK -/
namespace Go.Proofs.YthmbdoegcpicbaaDoor.Abs
section
variable {E : Env} {ops : Array Oper} {rest : List Oper} {o : Oper} {σ : St} {Q : Qs}

theorem newBox_n (σ : St) (i : BId) (e : TypeId) (cs : List AV) : (σ.newBox i e cs).n = σ.n := rfl
theorem newArr_n (σ : St) (u : Tag) (e : TypeId) (c : D) : (σ.newArr u e c).n = σ.n := rfl

theorem Step.box {d : Nat} {e : TypeId} {x : Operand} {cs : List AV} {fp : BId → Bool} (ho : o.op = .box e x) (hd : o.dst = some d) (hn : okd σ.n (some d) = true) (hc : (σ.ev x).cells = some cs) (hfp : fp (.loc d) = false) :
    Step E o σ fp (fun σ' => σ' = (σ.newBox (.loc d) e cs).put (some d) (.ptr (.loc d) 0)) := by
  intro G a w hr K Qx hK
  have hv := (hr.ev x).cells hc
  obtain ⟨h1, h2⟩ := hr.newBox (i := .loc d) (by simp) e hv
  have hrun : (execOp a.eval o).run E.P w = .ok (.value (.pointer (some ⟨w.heap.size, 0, none⟩))) (w.alloc (.cells (a.eval x).cells e)) := by
    simp only [execOp, ho, Instr.box, newVar, newRow, newObj]
    rfl
  unfold Oper.wp
  rw [hrun]
  simp only [Oper.upon, hd]
  rw [Array.toArray_toList] at h1 h2
  refine hK _ _ _ _ (h1.put ?_ hn) h2 (fun j y hj hy => ?_) rfl
  rotate_left
  · have hne : j ≠ .loc d := fun e => by rw [e, hfp] at hj; cases hj
    have hlt := hr.s.lt_bx hy
    exact ⟨by simp only [Gh.newBox]; rw [if_neg hne], alloc_heap_ne _ _ (by omega)⟩
  have : (G.newBox w.heap.size (.loc d)).β (.loc d) = w.heap.size := by simp [Gh.newBox]
  have k := VA.ptr (G := G.newBox w.heap.size (.loc d)) (.loc d) 0
  rw [this] at k
  exact k

theorem Step.alloc {d : Nat} {e : TypeId} {i : TI} {fp : BId → Bool} (ho : o.op = .alloc e) (hd : o.dst = some d) (hn : okd σ.n (some d) = true) (hi : E.Γ e = some i) (hfp : fp (.loc d) = false) :
    Step E o σ fp (fun σ' => σ' = (σ.newBox (.loc d) e (cvals i.zero.cells.toList)).put (some d) (.ptr (.loc d) 0)) := by
  intro G a w hr K Qx hK
  obtain ⟨h1, h2⟩ := hr.newBox (i := .loc d) (by simp) e (cvals_ok G i.zero.cells.toList)
  have hz := (E.ok _ _ hi).runZero w
  have hrun : (execOp a.eval o).run E.P w = .ok (.value (.pointer (some ⟨w.heap.size, 0, none⟩))) (w.alloc (.cells i.zero.cells e)) := by
    simp only [execOp, ho, Instr.alloc, Sem.run_bind, hz, Result.andThen_ok, newVar, newRow, newObj]
    rfl
  unfold Oper.wp
  rw [hrun]
  simp only [Oper.upon, hd]
  rw [Array.toArray_toList] at h1 h2
  refine hK _ _ _ _ (h1.put ?_ hn) h2 (fun j y hj hy => ?_) rfl
  rotate_left
  · have hne : j ≠ .loc d := fun e => by rw [e, hfp] at hj; cases hj
    have hlt := hr.s.lt_bx hy
    exact ⟨by simp only [Gh.newBox]; rw [if_neg hne], alloc_heap_ne _ _ (by omega)⟩
  have : (G.newBox w.heap.size (.loc d)).β (.loc d) = w.heap.size := by simp [Gh.newBox]
  have k := VA.ptr (G := G.newBox w.heap.size (.loc d)) (.loc d) 0
  rw [this] at k
  exact k

theorem Step.store {t : TypeId} {i : TI} {x y : Operand} {b : BId} {q : Nat} {bx : Box} {cs : List AV} {fp : BId → Bool} (ho : o.op = .store t x y) (hn : okd σ.n o.dst = true) (hi : E.Γ t = some i)
    (hx : σ.ev x = .ptr b q) (hb : σ.boxes b = some bx) (hc : (σ.ev y).cells = some cs) (h1 : allOne cs = true) (hl : Nat.beq cs.length i.size = true) (hs : Nat.ble (q + i.size) bx.cs.length = true) (hfp : fp b = false) :
    Step E o σ fp (fun σ' => σ' = (σ.setBox b (splice bx.cs q cs)).put o.dst .undef) := by
  intro G a w hr K Qx hK
  have hl := Nat.eq_of_beq_eq_true hl
  have hs := Nat.le_of_ble_eq_true hs
  have hv := (hr.ev y).cells hc
  have hone := hv.one h1
  have hp := hr.ev x
  rw [hx] at hp
  obtain ⟨hro, vs, hh, hvs⟩ := hr.s.bx b bx hb
  have hlen := hvs.length
  have hvl := hv.length
  have hsp : VAs G (splice bx.cs q cs) (vs.take q ++ (a.eval y).cells.toList ++ vs.drop (q + cs.length)) := ((hvs.take q).append hv).append (hvs.drop _)
  obtain ⟨h2, h3⟩ := hr.setBox hb hsp
  generalize hpe : a.eval x = px at hp
  cases hp
  have hst := run_storeCells_at E.P (G.β b) q bx.E (a.eval y).cells.toList 0 vs.toArray w hh (by simp; simp at hvl; omega) hone
  have hsz := (E.ok _ _ hi).runSize w
  have hrun : (execOp a.eval o).run E.P w = .ok .skip (w.setRow (G.β b) (vs.take q ++ (a.eval y).cells.toList ++ vs.drop (q + cs.length)).toArray) := by
    have hne : ¬ (a.eval y).cells.size ≠ i.size := by simp only [Array.length_toList] at hvl; omega
    simp only [execOp, ho, Instr.storeAt, hpe, Instr.sureAddr, Sem.run_bind, Sem.run_pure, Result.andThen_ok, storeVar, hsz]
    rw [if_neg hne, hst]
    simp only [List.toList_toArray, Nat.add_zero, hvl, Result.andThen_ok, Sem.run_pure]
  unfold Oper.wp
  rw [hrun]
  simp only [Oper.upon]
  refine hK _ _ _ _ (h2.put (.undef _) hn) h3 (fun j y hj hy => ⟨rfl, ?_⟩) rfl
  refine setRow_other w _ _ _ (fun e => ?_)
  have h4 := (hr.s.bx j y hy).1
  rw [e, hro] at h4
  cases h4
  rw [hfp] at hj
  cases hj

/-- A slice's literal. -/
def mkSl (Γ : TypeId → Option TI) (t : TypeId) (len : Nat) (parts : List (Nat × AV)) : Option (TypeId × D) := match Γ t with
  | some i => (match i.desc with
    | .slice e => (match Γ e with
      | some j => if Nat.ble (len * j.size) 16777216 && !Nat.beq j.size 0 && (isAggD j.desc || Nat.beq j.size 1) then (match afill (fun n => some (n * j.size, j.size)) (List.replicate (len * j.size) .undef) parts with
        | some out => if allOne out then (match mkC j len out with | some c => some (e, c) | none => none) else none
        | none => none) else none
      | none => none)
    | _ => none)
  | none => none
theorem VAs.undefs {G : Gh} : ∀ (n : Nat) (vs : List Value), vs.length = n → VAs G (List.replicate n .undef) vs
  | 0, vs, h => by
    have : vs = [] := List.eq_nil_of_length_eq_zero h
    subst this
    exact .nil
  | n + 1, [], h => by simp at h
  | n + 1, v :: vs, h => .cons (.undef v) (VAs.undefs n vs (by simpa using h))

theorem Step.buildSlice {d : Nat} {t e : TypeId} {len : Nat} {parts : Array (Nat × Operand)} {c : D} {fp : BId → Bool} (ho : o.op = .buildSlice t len parts) (hd : o.dst = some d) (hn : okd σ.n (some d) = true)
    (hm : mkSl E.Γ t len (parts.toList.map fun p => (p.1, σ.ev p.2)) = some (e, c)) :
    Step E o σ fp (fun σ' => σ' = (σ.newArr (.tmp d 0) e c).put (some d) (.own (.tmp d 0))) := by
  intro G a w hr K Qx hK
  unfold mkSl at hm
  split at hm
  · next i hi =>
    split at hm
    · next e' hde =>
      split at hm
      · next j hj =>
        split at hm
        · next hb =>
          simp only [Bool.and_eq_true, Bool.not_eq_true', Bool.or_eq_true] at hb
          have hsz := Nat.le_of_ble_eq_true hb.1.1
          have h0 : j.size ≠ 0 := fun e => by have := hb.1.2; rw [e] at this; cases this
          have h1 : isAggD j.desc = false → j.size = 1 := fun e => by
            rcases hb.2 with h | h
            · rw [e] at h; cases h
            · exact Nat.eq_of_beq_eq_true h
          split at hm
          · next out hout =>
            split at hm
            · next hone =>
              split at hm
              · next c' hc =>
                simp only [Option.some.injEq, Prod.mk.injEq] at hm
                obtain ⟨rfl, rfl⟩ := hm
                have hz := (E.ok _ _ hj).runZero w
                have hs := (E.ok _ _ hj).runSize w
                have hu := (E.ok _ _ hi).runUnd w
                rw [hde] at hu
                let zc : Array Value := if len * j.size = 0 then #[] else j.zero.cells
                have hinit : VAs G (List.replicate (len * j.size) .undef) ((Array.range (len * j.size)).map (zc[· % zc.size]!)).toList := VAs.undefs _ _ (by simp)
                obtain ⟨vout, hf, hvo⟩ := afill_ok (parts.toList.map fun p => (p.1, σ.ev p.2)) (parts.map fun (i, x) => (i, a.eval x)).toList _ _ out hinit (by simp) (fun i q hq => by
                  simp only [List.getElem?_map] at hq
                  cases hi : parts.toList[i]? with
                  | none => rw [hi] at hq; cases hq
                  | some z =>
                    rw [hi] at hq
                    cases hq
                    refine ⟨a.eval z.2, ?_, hr.ev z.2⟩
                    simp only [Array.toList_map, List.getElem?_map, hi, Option.map_some]) hout
                have hvl : vout.toList.length = len * j.size := by
                  rw [← hvo.length]
                  have : ∀ (parts : List (Nat × AV)) (cells out : List AV), afill (fun n => some (n * j.size, j.size)) cells parts = some out → out.length = cells.length := by
                    intro parts
                    induction parts with
                    | nil => intro cells out h; simp only [afill, Option.some.injEq] at h; rw [h]
                    | cons p parts ih =>
                      intro cells out h
                      simp only [afill] at h
                      split at h
                      · cases h
                      · next cs hcs =>
                        split at h
                        · next hle =>
                          simp only [Bool.and_eq_true] at hle
                          have a1 := Nat.eq_of_beq_eq_true hle.1
                          have a2 := Nat.le_of_ble_eq_true hle.2
                          rw [ih _ _ h]
                          simp only [List.length_append, List.length_take, List.length_drop]
                          omega
                        · cases h
                  rw [this _ _ _ hout, List.length_replicate]
                obtain ⟨k1, k2, k3⟩ := mkC_ok (P := E.P) (t := e') hvo hc hvl h1
                have hml : len ≤ maxLen := by
                  have : len * 1 ≤ len * j.size := Nat.mul_le_mul_left _ (Nat.pos_of_ne_zero h0)
                  unfold maxLen
                  omega
                have hnew := hr.newArr (.tmp d 0) e' (w' := w.alloc (.cells vout e')) k1 (by rw [k2]; exact hvl) (by rw [k2]; exact k3) (cap := len) (cur := vout) (by omega) hml (by simpa using hvl)
                  (by rw [k2]; exact List.take_of_length_le (by omega)) rfl rfl rfl rfl
                have hrun : (execOp a.eval o).run E.P w = .ok (.value (.slice (some ⟨w.heap.size, 0, none⟩) len len)) (w.alloc (.cells vout e')) := by
                  have hlim : ¬ len * j.size > 2 ^ 24 := by omega
                  simp only [execOp, ho, Instr.buildSlice, Sem.run_bind, hu, Result.andThen_ok, hs]
                  rw [if_neg hlim]
                  by_cases hzero : len * j.size = 0
                  · have hzc : zc = #[] := by simp only [zc]; rw [if_pos hzero]
                    rw [hzc] at hf
                    simp only [hzero, if_true, Sem.run_pure, Result.andThen_ok] at hf ⊢
                    simp only [hf, newRow, newObj, Sem.run_bind, Sem.run_pure, Result.andThen_ok]
                    rfl
                  · have hzc : zc = j.zero.cells := by simp only [zc]; rw [if_neg hzero]
                    rw [hzc] at hf
                    simp only [hzero, if_false, Sem.run_bind, hz, Sem.run_pure, Result.andThen_ok] at hf ⊢
                    simp only [hf, newRow, newObj, Sem.run_bind, Sem.run_pure, Result.andThen_ok]
                    rfl
                unfold Oper.wp
                rw [hrun]
                simp only [Oper.upon, hd]
                rw [k2] at hnew
                refine hK _ _ _ _ (hnew.1.put ?_ hn) hnew.2 (fun j y _ hy => ⟨rfl, alloc_heap_ne _ _ (by have := hr.s.lt_bx hy; omega)⟩) rfl
                exact .own _ _ _ _ (by simp [Gh.newArr])
              · cases hm
            · cases hm
          · cases hm
        · cases hm
      · cases hm
    · cases hm
  · cases hm
end
end Go.Proofs.YthmbdoegcpicbaaDoor.Abs

/-! ## AbsL -/
namespace Go.Proofs.YthmbdoegcpicbaaDoor.Abs

def D.app : D → D → Option D
  | .ints k l, .ints k' l' => if decide (k = k') then some (.ints k (l ++ l')) else none
  | .strs l, .strs l' => some (.strs (l ++ l'))
  | .slice sz ds, .slice sz' ds' => if Nat.beq sz sz' then some (.slice sz (ds ++ ds')) else none
  | _, _ => none
theorem D.app_ok {c c2 c3 : D} {sz : Nat} (h : c.app c2 = some c3) (hc : c.esz = some sz) :
    c2.esz = some sz ∧ c3.esz = some sz ∧ c3.len = c.len + c2.len ∧ (∀ i, i < c.len → c3.elem i = c.elem i) ∧ (∀ i, c3.elem (c.len + i) = c2.elem i) := by
  cases c <;> cases c2 <;> simp only [D.app, reduceCtorEq] at h
  case ints.ints k l k' l' =>
    split at h
    · next hk =>
      have hk := of_decide_eq_true hk
      subst hk
      cases h
      simp only [D.esz, Option.some.injEq] at hc
      subst hc
      refine ⟨rfl, rfl, by simp [D.len], fun i hi => ?_, fun i => ?_⟩
      · simp only [D.len] at hi; simp [D.elem, hi, List.getElem?_append_left hi]
      · simp [D.elem, D.len, List.getElem?_append_right]
    · cases h
  case strs.strs l l' =>
    cases h
    simp only [D.esz, Option.some.injEq] at hc
    subst hc
    refine ⟨rfl, rfl, by simp [D.len], fun i hi => ?_, fun i => ?_⟩
    · simp only [D.len] at hi; simp [D.elem, hi, List.getElem?_append_left hi]
    · simp [D.elem, D.len, List.getElem?_append_right]
  case slice.slice sz1 l sz2 l' =>
    split at h
    · next hk =>
      have hk := Nat.eq_of_beq_eq_true hk
      subst hk
      cases h
      simp only [D.esz, Option.some.injEq] at hc
      subst hc
      refine ⟨rfl, rfl, by simp [D.len], fun i hi => ?_, fun i => ?_⟩
      · simp only [D.len] at hi; simp [D.elem, hi, List.getElem?_append_left hi]
      · simp [D.elem, D.len, List.getElem?_append_right]
    · cases h

/-- The contents of a slice that is appended. -/
def srcOf (σ : St) (j : TI) : AV → Option D
  | .d c => some c
  | .own t => (match σ.arrs t with | some a => some a.c | none => none)
  | _ => none
theorem src_ok {σ : St} {j : TI} {G : Gh} {a : Act} {w : World} (hr : Rel G σ a w) {x : AV} {v : Value} (hx : VA G x v) {c : D} (h : srcOf σ j x = some c) {sz : Nat} (hc : c.esz = some sz) :
    ∃ A cap vs, v = .slice A c.len cap ∧ vs.length = c.len * sz ∧ (∀ i, i < c.len → VDs G.im (c.elem i) ((vs.drop (i * sz)).take sz)) ∧
      (vs = [] ∨ ∃ g q, A = some ⟨g, q, none⟩ ∧ ∀ (n : Nat) (u : Value), vs[n]? = some u → w.cell? ((⟨g, q, none⟩ : Addr).add n) = some u) := by
  unfold srcOf at h
  split at h
  · cases h
    obtain ⟨A, cap, vs, h1, h2, h3, h4, h5, h6⟩ := hx.dv.slice_inv hc
    refine ⟨A, cap, vs, h1, h4, h5, ?_⟩
    rcases h6 with h6 | ⟨g, q, cc, e, fr, rfl, h7, h8⟩
    · exact .inl h6
    · refine .inr ⟨g, q, rfl, fun n u hu => ?_⟩
      rw [add_at]
      have := hr.s.im g _ (.inl (im_of.1 h7))
      simp [World.cell?, this, h8 n u hu]
  · split at h
    · next t ar har =>
      cases h
      obtain ⟨A, cap, vs, h1, h2, h3, h4, h5, h6, h7, h8⟩ := hr.s.arr har hc
      cases hx with | own _ A' l' c' hav =>
      rw [h1] at hav
      cases hav
      refine ⟨_, _, vs, rfl, h4, h5, ?_⟩
      rcases h8 with ⟨_, _, h8⟩ | ⟨g, cc, rfl, h9, h10, h11⟩
      · exact .inl h8
      · refine .inr ⟨g, 0, rfl, fun n u hu => ?_⟩
        rw [add_at, Nat.zero_add]
        simp [World.cell?, h9, h11 n u hu]
    · cases h
  · cases h

theorem flat_one {I : Nat → Option Obj} {c : D} {sz : Nat} {vs : List Value} (hl : vs.length = c.len * sz) (hf : ∀ i, i < c.len → VDs I (c.elem i) ((vs.drop (i * sz)).take sz)) : ∀ v ∈ vs, v.oneCell' = true := by
  intro v hv
  obtain ⟨n, hn, rfl⟩ := List.getElem_of_mem hv
  rcases Nat.eq_zero_or_pos sz with hz | hz
  · rw [hz, Nat.mul_zero] at hl; omega
  · have hi : n / sz < c.len := by rw [Nat.div_lt_iff_lt_mul hz]; omega
    refine (hf _ hi).one _ ?_
    have : (vs.drop (n / sz * sz)).take sz = (vs.drop (n / sz * sz)).take sz := rfl
    rw [List.mem_iff_getElem?]
    refine ⟨n % sz, ?_⟩
    rw [List.getElem?_take, if_pos (Nat.mod_lt _ hz), List.getElem?_drop]
    have : n / sz * sz + n % sz = n := by rw [Nat.mul_comm]; exact Nat.div_add_mod n sz
    rw [this]
    exact List.getElem?_eq_getElem hn

/-- An append, by cases. -/
theorem run_append_cases {P : Program} (w : World) (t ty e : TypeId) {i : TypeInfo} {z : Value} {size bytes : Nat} (ht : P.underlying t = some (.slice e)) (hi : P.info? e = some i) (hz : i.zero = some z)
    (hsize : i.size = size) (hby : i.bytes = bytes) (hzs : z.cells.size = size)
    (v : Value) (n : Nat) (xs : List Value) (hown : w.ownsRow 0 e size v n xs)
    (A : Option Addr) (m c : Nat) (news : List Value) (hl : news.length = m * size) (hA : m = 0 ∨ ∃ ad, A = some ad ∧ ∀ (j : Nat) (u : Value), news[j]? = some u → w.cell? (ad.add j) = some u) (h1 : ∀ u ∈ news, u.oneCell' = true)
    (h63 : n + m ≤ 140737488355328) (hbytes : (n + m) * bytes ≤ 140737488355328) :
    ∃ v' w', (Builtin.append_ #[t, t] ty #[v, .slice A m c]).run P w = .ok v' w' ∧
      ((v' = v ∧ w' = w ∧ m = 0) ∨
       (∃ g cap cur, v = .slice (some ⟨g, 0, none⟩) n cap ∧ w.heap[g]? = some (.cells cur e (0, 0)) ∧ v' = .slice (some ⟨g, 0, none⟩) (n + m) cap ∧ n + m ≤ cap ∧ cap ≤ maxLen ∧ cur.size = cap * size ∧
          ∃ cur' : Array Value, w' = w.setRow g cur' ∧ cur'.size = cap * size ∧ cur'.toList.take ((n + m) * size) = xs ++ news) ∨
       (∃ cap' cur, v' = .slice (some ⟨w.heap.size, 0, none⟩) (n + m) cap' ∧ n + m ≤ cap' ∧ cap' ≤ maxLen ∧ cur.size = cap' * size ∧ cur.toList.take ((n + m) * size) = xs ++ news ∧ w'.os = w.os ∧ w'.tape = w.tape ∧ w'.output = w.output ∧ w'.heap = w.heap.push (.cells cur e))) := by
  subst hsize
  subst hby
  have hm63 : n + m ≤ maxLen := by unfold maxLen; omega
  have hlen : (xs ++ news).length = (n + m) * i.size := by rw [List.length_append, hown.1, hl, Nat.add_mul]
  have grown : ∀ (old : Nat) (olds : Array Value), olds.toList = xs →
      (olds ++ news.toArray ++ Builtin.zeroCells z.cells (grownCap w (n + m) old e - (n + m))).size = grownCap w (n + m) old e * i.size ∧
      (olds ++ news.toArray ++ Builtin.zeroCells z.cells (grownCap w (n + m) old e - (n + m))).toList.take ((n + m) * i.size) = xs ++ news ∧ n + m ≤ grownCap w (n + m) old e ∧ grownCap w (n + m) old e ≤ maxLen := by
    intro old olds ho
    have hge := grownCap_ge w (n + m) old e
    have hcm : grownCap w (n + m) old e ≤ maxLen := grownCap_le_maxLen w (n + m) old e hm63
    have hos : olds.size = n * i.size := by rw [← hown.1, ← ho]; simp
    refine ⟨?_, ?_, hge, hcm⟩
    · simp only [Array.size_append, List.size_toArray, size_zeroCells, hzs, hos, hl, ← Nat.add_mul]
      congr 1
      omega
    · simp only [Array.toList_append, List.append_assoc, ho]
      rw [← List.append_assoc, ← hlen]
      exact List.take_left
  by_cases hm : m = 0
  · subst hm
    have hn : news = [] := List.eq_nil_of_length_eq_zero (by simpa using hl)
    subst hn
    refine ⟨v, w, ?_, .inl ⟨rfl, rfl, rfl⟩⟩
    rcases hown.2 with ⟨rfl, rfl⟩ | ⟨g, cap, cur, rfl, hbg, hg, hnc, hcm, hcs, htake⟩
    · cases A <;> simp [Builtin.append_, run_underlying ht, sizeOf, typeInfo, hi, Builtin.lenOf, Builtin.firstCells, loadCells, loadCellsFrom]
    · cases A <;> simp [Builtin.append_, run_underlying ht, sizeOf, typeInfo, hi, Builtin.lenOf, Builtin.firstCells, loadCells, loadCellsFrom, hnc, storeCells]
  · obtain ⟨ad, rfl, hnews⟩ := hA.resolve_left hm
    rcases hown.2 with ⟨rfl, rfl⟩ | ⟨g, cap, cur, rfl, hbg, hg, hnc, hcm, hcs, htake⟩
    · have hx : xs = [] := List.eq_nil_of_length_eq_zero (by simpa using hown.1)
      subst hx
      have hr := run_append_nil (P := P) w t ty e i z ht hi hz ad m c news hl hnews (by omega) (by omega) (by have hb := hbytes; simp only [Nat.zero_add] at hb; omega)
      obtain ⟨g1, g2, g3, g4⟩ := grown 0 #[] rfl
      simp only [Nat.zero_add, List.nil_append, Array.empty_append] at hr g1 g2 g3 g4 ⊢
      exact ⟨_, _, hr, .inr (.inr ⟨_, _, rfl, g3, g4, g1, g2, rfl, rfl, rfl, rfl⟩)⟩
    · by_cases hroom : n + m ≤ cap
      · have hfit : n * i.size + news.length ≤ cur.size := by rw [hl, hcs, ← Nat.add_mul]; exact Nat.mul_le_mul_right _ hroom
        have hr := run_append_room (P := P) w t ty e i ht hi g n cap cur hg ad m c news hl hnews h1 hroom hfit
        refine ⟨_, _, hr, .inr (.inl ⟨g, cap, cur, rfl, hg, rfl, hroom, hcm, hcs, _, rfl, ?_, ?_⟩)⟩
        · simp only [List.size_toArray, List.length_append, List.length_take, List.length_drop, Array.length_toList]
          omega
        · rw [htake, ← hlen]
          exact List.take_left
      · have holds : ∀ (j : Nat) (u : Value), xs[j]? = some u → w.cell? ((⟨g, 0, none⟩ : Addr).add j) = some u := hown.cells (g := g) rfl
        have hr := run_append_grow (P := P) w t ty e i z ht hi hz ⟨g, 0, none⟩ n cap xs hown.1 holds ad m c news hl hnews (by omega) (by omega) (growslice_fits (by omega) hbytes)
        obtain ⟨g1, g2, g3, g4⟩ := grown cap xs.toArray rfl
        exact ⟨_, _, hr, .inr (.inr ⟨_, _, rfl, g3, g4, g1, g2, rfl, rfl, rfl, rfl⟩)⟩

/-- The array t goes on as u, with other contents. -/
def St.grow (σ : St) (t u : Tag) (E : TypeId) (c : D) : St :=
  let p := σ.purge (fun v => decide (v = t) || decide (v = u)) (fun _ => false)
  { p with arrs := fun v => bif decide (v = u) then some ⟨E, c⟩ else p.arrs v }
def Gh.grow (G : Gh) (g : Nat) (u : Tag) (v : Value) : Gh := { role := updR G.role g (.arr u), β := G.β, av := fun t => if t = u then v else G.av t }

/-- In place. -/
theorem Rel.growIn {G : Gh} {σ : St} {a : Act} {w : World} (h : Rel G σ a w) {t u : Tag} {ar : Arr} (har : σ.arrs t = some ar) {c : D} {sz g cap len : Nat} {vs : List Value} {cur cur' : Array Value} (hav : G.av t = .slice (some ⟨g, 0, none⟩) len cap)
    (hg : w.heap[g]? = some (.cells cur ar.E (0, 0))) (hc : c.esz = some sz) (hl : vs.length = c.len * sz) (hf : ∀ i, i < c.len → VDs G.im (c.elem i) ((vs.drop (i * sz)).take sz)) (h1 : c.len ≤ cap) (h2 : cap ≤ maxLen)
    (h3 : cur'.size = cap * sz) (h4 : cur'.toList.take (c.len * sz) = vs) :
    Rel (G.grow g u (.slice (some ⟨g, 0, none⟩) c.len cap)) (σ.grow t u ar.E c) a (w.setRow g cur') ∧ Later G w (G.grow g u (.slice (some ⟨g, 0, none⟩) c.len cap)) (w.setRow g cur') := by
  have hrole : G.role g = .arr t := (h.s.ar t ar har).1 g (by rw [hav]; rfl)
  have hne : ∀ {k : Nat} {r : Role}, G.role k = r → r ≠ .arr t → k ≠ g := fun hk hr e => hr (by rw [← hk, e]; exact hrole)
  have him : ∀ k o, G.role k = .im o → (G.grow g u (.slice (some ⟨g, 0, none⟩) c.len cap)).role k = .im o := fun k o hk => by
    simp only [Gh.grow]
    rw [updR_ne _ _ (hne hk (by simp))]
    exact hk
  have hhid : ∀ k o, G.role k = .hid o → (G.grow g u (.slice (some ⟨g, 0, none⟩) c.len cap)).role k = .hid o := fun k o hk => by
    simp only [Gh.grow]
    rw [updR_ne _ _ (hne hk (by simp))]
    exact hk
  have hp := Rel.purge (H := G.grow g u (.slice (some ⟨g, 0, none⟩) c.len cap)) (w' := w.setRow g cur') h (fun v => decide (v = t) || decide (v = u)) (fun _ => false) him
    (fun k o hk => by
      simp only [Gh.grow] at hk
      by_cases hgs : k = g
      · subst hgs; rw [updR_same] at hk; rcases hk with hk | hk <;> cases hk
      · rw [updR_ne _ _ hgs] at hk
        rw [setRow_other w _ k _ hgs]
        exact h.s.im k o hk)
    (fun v hv => by
      simp only [Bool.or_eq_false_iff, decide_eq_false_iff_not] at hv
      simp only [Gh.grow]; rw [if_neg hv.2]) (fun _ _ => rfl)
    (fun j x hx hj => by
      have hb := (h.s.bx j x hx).1
      have := hne hb (by simp)
      simp only [Gh.grow]
      exact ⟨by rw [updR_ne _ _ this]; exact hb, setRow_other w _ _ _ this⟩)
    (fun v x hx hv k hk => by
      simp only [Bool.or_eq_false_iff, decide_eq_false_iff_not] at hv
      have hb := (h.s.ar v x hx).1 k hk
      have := hne hb (by simpa using hv.1)
      simp only [Gh.grow]
      exact ⟨by rw [updR_ne _ _ this]; exact hb, setRow_other w _ _ _ this⟩)
  have hsub : Sub G.im (G.grow g u (.slice (some ⟨g, 0, none⟩) c.len cap)).im := fun k o hk => im_of.2 (him k o (im_of.1 hk))
  refine ⟨⟨hp.n, hp.t, hp.df, hp.s.im, hp.s.bx, ?_, hp.s.gl⟩, him, hhid, rfl, rfl, rfl, by simp [World.setRow], fun _ => rfl⟩
  intro v x hx
  simp only [St.grow] at hx
  by_cases hv : v = u
  · subst hv
    simp only [decide_true, cond_true, Option.some.injEq] at hx
    subst hx
    obtain ⟨es, hvw, hel, hee⟩ := D.view_of hc
    refine ⟨fun k hk => ?_, sz, es, vs, hvw, ⟨by rw [hel]; exact hl, fun i hi => ?_⟩, ?_⟩
    · simp only [Gh.grow, if_true, Value.ownBlock, Option.some.injEq] at hk
      subst hk
      simp [Gh.grow, updR_same]
    · rw [hee i hi]; exact (hf i (by omega)).mono hsub
    · simp only [Gh.grow, if_true]
      rw [hel]
      exact ⟨hl, .inr ⟨_, cap, cur', rfl, Nat.zero_le _, setRow_heap w _ _ _ _ _ hg, h1, h2, h3, h4⟩⟩
  · simp only [hv, decide_false, cond_false] at hx
    exact hp.s.ar v x hx
end Go.Proofs.YthmbdoegcpicbaaDoor.Abs

/-! ## AbsM -/
namespace Go.Proofs.YthmbdoegcpicbaaDoor.Abs

/-- The array grown into a new block. -/
theorem Rel.growNew {G : Gh} {σ : St} {a : Act} {w : World} (h : Rel G σ a w) (t u : Tag) (E : TypeId) {c : D} {sz cap : Nat} {vs : List Value} {cur : Array Value} (hc : c.esz = some sz) (hl : vs.length = c.len * sz)
    (hf : ∀ i, i < c.len → VDs G.im (c.elem i) ((vs.drop (i * sz)).take sz)) (h1 : c.len ≤ cap) (h2 : cap ≤ maxLen) (h3 : cur.size = cap * sz) (h4 : cur.toList.take (c.len * sz) = vs) {w' : World} (ho : w'.os = w.os) (ht : w'.tape = w.tape) (hu : w'.output = w.output) (hh : w'.heap = w.heap.push (.cells cur E)) :
    Rel (G.newArr w.heap.size u (.slice (some ⟨w.heap.size, 0, none⟩) c.len cap)) (σ.grow t u E c) a w' ∧ Later G w (G.newArr w.heap.size u (.slice (some ⟨w.heap.size, 0, none⟩) c.len cap)) w' := by
  have hnew : w'.heap[w.heap.size]? = some (.cells cur E) := by rw [hh]; simp
  have hold : ∀ g, g ≠ w.heap.size → w'.heap[g]? = w.heap[g]? := fun g hg => by rw [hh, Array.getElem?_push, if_neg hg]
  have him : ∀ g o, G.role g = .im o → (G.newArr w.heap.size u (.slice (some ⟨w.heap.size, 0, none⟩) c.len cap)).role g = .im o := fun g o hg => by
    have := h.s.lt_im (.inl hg)
    simp only [Gh.newArr]
    rw [updR_ne _ _ (by omega)]
    exact hg
  have hhid : ∀ g o, G.role g = .hid o → (G.newArr w.heap.size u (.slice (some ⟨w.heap.size, 0, none⟩) c.len cap)).role g = .hid o := fun g o hg => by
    have := h.s.lt_im (.inr hg)
    simp only [Gh.newArr]
    rw [updR_ne _ _ (by omega)]
    exact hg
  have hp := Rel.purge (H := G.newArr w.heap.size u (.slice (some ⟨w.heap.size, 0, none⟩) c.len cap)) (w' := w') h (fun v => decide (v = t) || decide (v = u)) (fun _ => false) him
    (fun g o hg => by
      simp only [Gh.newArr] at hg
      by_cases hgs : g = w.heap.size
      · subst hgs; rw [updR_same] at hg; rcases hg with hg | hg <;> cases hg
      · rw [updR_ne _ _ hgs] at hg
        rw [hold _ hgs]
        exact h.s.im g o hg)
    (fun v hv => by
      simp only [Bool.or_eq_false_iff, decide_eq_false_iff_not] at hv
      simp only [Gh.newArr]; rw [if_neg hv.2]) (fun _ _ => rfl)
    (fun j x hx hj => by
      have hlt := h.s.lt_bx hx
      have hne : G.β j ≠ w.heap.size := by omega
      simp only [Gh.newArr]
      exact ⟨by rw [updR_ne _ _ hne]; exact (h.s.bx j x hx).1, hold _ hne⟩)
    (fun v x hx _ g hg => by
      have hlt := h.s.lt_ar hx hg
      have hne : g ≠ w.heap.size := by omega
      simp only [Gh.newArr]
      exact ⟨by rw [updR_ne _ _ hne]; exact (h.s.ar v x hx).1 g hg, hold _ hne⟩)
  have hsub : Sub G.im (G.newArr w.heap.size u (.slice (some ⟨w.heap.size, 0, none⟩) c.len cap)).im := fun g o hg => im_of.2 (him g o (im_of.1 hg))
  refine ⟨⟨hp.n, hp.t, hp.df, hp.s.im, hp.s.bx, ?_, hp.s.gl⟩, him, hhid, ho, ht, hu, by rw [hh]; simp, fun _ => rfl⟩
  intro v x hx
  simp only [St.grow] at hx
  by_cases hv : v = u
  · subst hv
    simp only [decide_true, cond_true, Option.some.injEq] at hx
    subst hx
    obtain ⟨es, hvw, hel, hee⟩ := D.view_of hc
    refine ⟨fun g hg => ?_, sz, es, vs, hvw, ⟨by rw [hel]; exact hl, fun i hi => ?_⟩, ?_⟩
    · simp only [Gh.newArr, if_true, Value.ownBlock, Option.some.injEq] at hg
      subst hg
      simp [Gh.newArr, updR_same]
    · rw [hee i hi]; exact (hf i (by omega)).mono hsub
    · simp only [Gh.newArr, if_true]
      rw [hel]
      exact ⟨hl, .inr ⟨_, cap, cur, rfl, Nat.zero_le _, hnew, h1, h2, h3, h4⟩⟩
  · simp only [hv, decide_false, cond_false] at hx
    exact hp.s.ar v x hx
/-- A nil slice that goes on as u. -/
def Gh.nil (G : Gh) (u : Tag) : Gh := { G with av := fun t => if t = u then .slice none 0 0 else G.av t }
theorem Rel.growNil {G : Gh} {σ : St} {a : Act} {w : World} (h : Rel G σ a w) (t u : Tag) (E : TypeId) {c : D} {sz : Nat} (hc : c.esz = some sz) (hl : c.len = 0) : Rel (G.nil u) (σ.grow t u E c) a w ∧ Later G w (G.nil u) w := by
  have hp := Rel.purge (H := G.nil u) (w' := w) h (fun v => decide (v = t) || decide (v = u)) (fun _ => false) (fun _ _ h => h) (fun g o hg => h.s.im g o hg)
    (fun v hv => by
      simp only [Bool.or_eq_false_iff, decide_eq_false_iff_not] at hv
      simp only [Gh.nil]; rw [if_neg hv.2]) (fun _ _ => rfl)
    (fun j x hx hj => ⟨(h.s.bx j x hx).1, rfl⟩) (fun v x hx _ g hg => ⟨(h.s.ar v x hx).1 g hg, rfl⟩)
  refine ⟨⟨hp.n, hp.t, hp.df, hp.s.im, hp.s.bx, ?_, hp.s.gl⟩, fun _ _ h => h, fun _ _ h => h, rfl, rfl, rfl, Nat.le_refl _, fun _ => rfl⟩
  intro v x hx
  simp only [St.grow] at hx
  by_cases hv : v = u
  · subst hv
    simp only [decide_true, cond_true, Option.some.injEq] at hx
    subst hx
    obtain ⟨es, hvw, hel, hee⟩ := D.view_of hc
    refine ⟨fun g hg => ?_, sz, es, [], hvw, ⟨by rw [hel, hl]; simp, fun i hi => by omega⟩, ?_⟩
    · simp [Gh.nil, Value.ownBlock] at hg
    · simp only [Gh.nil, if_true]
      rw [hel, hl]
      exact World.ownsRow_nil w 0 E sz
  · simp only [hv, decide_false, cond_false] at hx
    exact hp.s.ar v x hx

def emptyD (i : TI) : D := match i.desc with
  | .int k => .ints k []
  | .string => .strs []
  | _ => .slice i.size []
theorem emptyD_ok (i : TI) (h : isAggD i.desc = false → i.size = 1) : (emptyD i).esz = some i.size ∧ (emptyD i).len = 0 := by
  unfold emptyD
  split
  · next k hk => exact ⟨by rw [h (by rw [hk]; rfl)]; rfl, rfl⟩
  · next hk => exact ⟨by rw [h (by rw [hk]; rfl)]; rfl, rfl⟩
  · exact ⟨rfl, rfl⟩

def sizeOk (j : TI) : Bool := !Nat.beq j.size 0 && (isAggD j.desc || Nat.beq j.size 1) && Nat.beq j.zero.cells.size j.size
theorem sizeOk_ok {j : TI} (h : sizeOk j = true) : j.size ≠ 0 ∧ (isAggD j.desc = false → j.size = 1) ∧ j.zero.cells.size = j.size := by
  simp only [sizeOk, Bool.and_eq_true, Bool.not_eq_true', Bool.or_eq_true] at h
  refine ⟨(fun e => by have := h.1.1; rw [e] at this; cases this), fun e => ?_, Nat.eq_of_beq_eq_true h.2⟩
  rcases h.1.2 with k | k
  · rw [e] at k; cases k
  · exact Nat.eq_of_beq_eq_true k

section
variable {E : Env} {ops : Array Oper} {rest : List Oper} {o : Oper} {σ : St} {Q : Qs}

/-- What an append is onto: an owned array, or nil. -/
def baseOf (σ : St) (j : TI) (e : TypeId) : AV → Option (Tag × D)
  | .own t => (match σ.arrs t with | some a => if Nat.beq a.E e then some (t, a.c) else none | none => none)
  | .nils => some (.ret 0, emptyD j)
  | _ => none

theorem append_core {G : Gh} {a : Act} {w : World} (hr : Rel G σ a w) {t ty e : TypeId} {i j : TI} (hi : E.Γ t = some i) (hde : i.desc = .slice e) (hj : E.Γ e = some j) (hsz : sizeOk j = true)
    {x y : AV} {vx vy : Value} (hx : VA G x vx) (hy : VA G y vy) {tg : Tag} {c c2 c3 : D} (hb : baseOf σ j e x = some (tg, c)) (hs : srcOf σ j y = some c2) (happ : c.app c2 = some c3) (hc : c.esz = some j.size)
    (h63 : c3.len ≤ 140737488355328) (hbytes : c3.len * j.bytes ≤ 140737488355328) (u : Tag) :
    ∃ v' w' G', (Builtin.append_ #[t, t] ty #[vx, vy]).run E.P w = .ok v' w' ∧ Rel G' (σ.grow tg u e c3) a w' ∧ Later G w G' w' ∧ VA G' (.own u) v' ∧ KeepB (fun _ => true) σ G w G' w' := by
  obtain ⟨h0, h1, h2⟩ := sizeOk_ok hsz
  obtain ⟨k1, k2, k3, k4, k5⟩ := D.app_ok happ hc
  obtain ⟨A, cap, vs, rfl, hvl, hvf, hva⟩ := src_ok hr hy hs k1
  obtain ⟨ti, q1, q2, q3, q4⟩ := (E.ok _ _ hj).inf
  have hu := (E.ok _ _ hi).und
  rw [hde] at hu
  rw [k3] at h63 hbytes
  have hA : c2.len = 0 ∨ ∃ ad, A = some ad ∧ ∀ (n : Nat) (u : Value), vs[n]? = some u → w.cell? (ad.add n) = some u := by
    rcases hva with hva | ⟨g, q, hA, hcell⟩
    · left
      rw [hva] at hvl
      rcases Nat.eq_zero_or_pos c2.len with h | h
      · exact h
      · have := Nat.mul_pos h (Nat.pos_of_ne_zero h0)
        simp at hvl
        omega
    · exact .inr ⟨_, hA, hcell⟩
  -- what stands at the base
  have hbase : ∃ xs, w.ownsRow 0 e j.size vx c.len xs ∧ xs.length = c.len * j.size ∧ (∀ i, i < c.len → VDs G.im (c.elem i) ((xs.drop (i * j.size)).take j.size)) ∧
      ((vx = .slice none 0 0 ∧ c.len = 0) ∨ (∃ ar, σ.arrs tg = some ar ∧ ar.E = e ∧ ar.c = c ∧ vx = G.av tg)) := by
    unfold baseOf at hb
    split at hb
    · next t' =>
      split at hb
      · next ar har =>
        split at hb
        · next he =>
          have he := Nat.eq_of_beq_eq_true he
          simp only [Option.some.injEq, Prod.mk.injEq] at hb
          obtain ⟨rfl, rfl⟩ := hb
          obtain ⟨A', cap', xs, g1, g2, g3, g4, g5, g6, g7, g8⟩ := hr.s.arr har hc
          cases hx with | own _ A'' l'' c'' hav =>
          rw [hav] at g7
          rw [he] at g7
          exact ⟨xs, g7, g4, g5, .inr ⟨ar, har, he, rfl, hav.symm⟩⟩
        · cases hb
      · cases hb
    · simp only [Option.some.injEq, Prod.mk.injEq] at hb
      obtain ⟨rfl, rfl⟩ := hb
      cases hx
      obtain ⟨e1, e2⟩ := emptyD_ok j h1
      rw [e2]
      exact ⟨[], World.ownsRow_nil w 0 e j.size, by simp, fun i hi => by omega, .inl ⟨rfl, rfl⟩⟩
    · cases hb
  obtain ⟨xs, hown, hxl, hxf, hwho⟩ := hbase
  obtain ⟨v', w', hrun, hcase⟩ := run_append_cases w t ty e hu q1 q2 q3 q4 h2 vx c.len xs hown A c2.len cap vs hvl hA (flat_one hvl hvf) h63 hbytes
  have hl3 : (xs ++ vs).length = c3.len * j.size := by rw [k3, List.length_append, hxl, hvl, Nat.add_mul]
  have hf3 : ∀ i, i < c3.len → VDs G.im (c3.elem i) (((xs ++ vs).drop (i * j.size)).take j.size) := by
    intro n hn
    rcases Nat.lt_or_ge n c.len with h | h
    · rw [k4 n h]
      have hle : (n + 1) * j.size ≤ c.len * j.size := Nat.mul_le_mul_right _ h
      rw [Nat.add_mul] at hle
      rw [List.drop_append_of_le_length (by omega), List.take_append_of_le_length (by rw [List.length_drop]; omega)]
      exact hxf n h
    · obtain ⟨q, rfl⟩ : ∃ q, n = c.len + q := ⟨n - c.len, by omega⟩
      rw [k5 q, Nat.add_mul, ← hxl, List.drop_length_add_append]
      exact hvf q (by omega)
  rcases hcase with ⟨rfl, rfl, hm⟩ | ⟨g, cap', cur, g1, g2, g3, g4, g5, g6, cur', rfl, g7, g8⟩ | ⟨cap', cur, rfl, g2, g3, g4, g5, g6, g7, g8, g9⟩
  · rcases hwho with ⟨rfl, hz⟩ | ⟨ar, har, rfl, rfl, rfl⟩
    · obtain ⟨r1, r2⟩ := hr.growNil tg u e k2 (by omega)
      exact ⟨_, _, _, hrun, r1, r2, .own u none 0 0 (by simp [Gh.nil]), fun _ _ _ _ => ⟨rfl, rfl⟩⟩
    · rcases hown.2 with ⟨e1, e2⟩ | ⟨g, cap', cur, e1, _, e3, e4, e5, e6, e7⟩
      · obtain ⟨r1, r2⟩ := hr.growNil tg u ar.E k2 (by omega)
        exact ⟨_, _, _, hrun, r1, r2, by rw [e1]; exact .own u none 0 0 (by simp [Gh.nil]), fun _ _ _ _ => ⟨rfl, rfl⟩⟩
      · have hvn : vs = [] := List.eq_nil_of_length_eq_zero (by rw [hvl, hm, Nat.zero_mul])
        have hlen : c3.len = ar.c.len := by omega
        obtain ⟨r1, r2⟩ := hr.growIn (t := tg) (u := u) har (c := c3) (cur := cur) (cur' := cur) e1 e3 k2 hl3 hf3 (by omega) e5 e6 (by rw [hlen, e7, hvn, List.append_nil])
        rw [setRow_self _ g cur _ _ e3] at r1 r2
        rw [hlen] at r1 r2
        refine ⟨_, _, _, hrun, r1, r2, ?_, fun _ _ _ _ => ⟨rfl, rfl⟩⟩
        rw [e1]
        exact .own u _ _ _ (by simp [Gh.grow])
  · rcases hwho with ⟨rfl, hz⟩ | ⟨ar, har, rfl, rfl, rfl⟩
    · cases g1
    · rw [k3] at hl3
      obtain ⟨r1, r2⟩ := hr.growIn (t := tg) (u := u) har (c := c3) (cur := cur) (cur' := cur') g1 g2 k2 (by rw [k3]; exact hl3) hf3 (by omega) g5 g7 (by rw [k3]; exact g8)
      rw [← k3] at g3
      have hrole : G.role g = .arr tg := (hr.s.ar tg ar har).1 g (by rw [g1]; rfl)
      refine ⟨_, _, _, hrun, r1, r2, ?_, fun j y _ hy => ⟨rfl, setRow_other w _ _ _ (fun e => by have := (hr.s.bx j y hy).1; rw [e, hrole] at this; cases this)⟩⟩
      rw [g3]
      exact .own u _ _ _ (by simp [Gh.grow])
  · obtain ⟨r1, r2⟩ := hr.growNew tg u e k2 hl3 hf3 (by omega) g3 g4 (by rw [k3]; exact g5) g6 g7 g8 g9
    rw [← k3] at hrun
    exact ⟨_, _, _, hrun, r1, r2, .own u _ _ _ (by simp [Gh.newArr]), fun j y _ hy => ⟨rfl, by rw [g9, Array.getElem?_push, if_neg (by have := hr.s.lt_bx hy; omega)]⟩⟩

theorem Step.append {d : Nat} {t e : TypeId} {i j : TI} {s x : Operand} {tg : Tag} {c c2 c3 : D} {fp : BId → Bool} (ho : o.op = .call { callee := .builtin .append, args := #[s, x], argTypes := #[t, t] }) (hd : o.dst = some d) (hn : okd σ.n (some d) = true)
    (hi : E.Γ t = some i) (hde : i.desc = .slice e) (hj : E.Γ e = some j) (hsz : sizeOk j = true) (hb : baseOf σ j e (σ.ev s) = some (tg, c)) (hs : srcOf σ j (σ.ev x) = some c2) (happ : c.app c2 = some c3) (hc : c.esz = some j.size)
    (h63 : c3.len ≤ 140737488355328) (hbytes : c3.len * j.bytes ≤ 140737488355328) :
    Step E o σ fp (fun σ' => σ' = (σ.grow tg (.tmp d 0) e c3).put (some d) (.own (.tmp d 0))) := by
  intro G a w hr K Qx hK
  obtain ⟨v', w', G', h1, h2, h3, h4, h5⟩ := append_core (E := E) (ty := o.type) hr hi hde hj hsz (hr.ev s) (hr.ev x) hb hs happ hc h63 hbytes (.tmp d 0)
  unfold Oper.wp
  have hrun : (execOp a.eval o).run E.P w = .ok (.value v') w' := by
    simp [execOp, ho, resolve, invoke, builtin, h1]
  rw [hrun]
  simp only [Oper.upon, hd]
  exact hK _ _ _ _ (h2.put h4 hn) h3 (fun i x _ hx => h5 i x rfl hx) rfl
end
end Go.Proofs.YthmbdoegcpicbaaDoor.Abs

/-! ## AbsN -/
namespace Go.Proofs.YthmbdoegcpicbaaDoor.Abs

/-! ### names, in and out -/
def idx {α : Type} [DecidableEq α] : List α → α → Option Nat
  | [], _ => none
  | x :: r, a => if decide (x = a) then some 0 else (match idx r a with | some n => some (n + 1) | none => none)
theorem idx_get {α : Type} [DecidableEq α] : ∀ {l : List α} {a : α} {n : Nat}, idx l a = some n → l[n]? = some a
  | [], a, n, h => by cases h
  | x :: r, a, n, h => by
    simp only [idx] at h
    split at h
    · next hx => cases h; simpa using hx
    · split at h
      · next m hm => cases h; simpa using idx_get hm
      · cases h
theorem idx_none {α : Type} [DecidableEq α] : ∀ {l : List α} {a : α}, idx l a = none → ∀ n : Nat, l[n]? ≠ some a
  | [], a, h, n => by simp
  | x :: r, a, h, n => by
    simp only [idx] at h
    split at h
    · cases h
    · next hx =>
      split at h
      · cases h
      · next hr =>
        cases n with
        | zero => simpa using hx
        | succ n => simpa using idx_none hr n
/-- No name twice. -/
def nodup {α : Type} [DecidableEq α] : List α → Bool
  | [] => true
  | x :: r => (idx r x).isNone && nodup r
theorem idx_of_get {α : Type} [DecidableEq α] : ∀ {l : List α} {a : α} {n : Nat}, nodup l = true → l[n]? = some a → idx l a = some n
  | [], a, n, _, h => by simp at h
  | x :: r, a, 0, _, h => by simp only [List.getElem?_cons_zero, Option.some.injEq] at h; subst h; simp [idx]
  | x :: r, a, n + 1, hd, h => by
    simp only [nodup, Bool.and_eq_true, Option.isNone_iff_eq_none] at hd
    simp only [List.getElem?_cons_succ] at h
    have hne : x ≠ a := by
      rintro rfl
      exact idx_none hd.1 n h
    simp only [idx, hne, decide_false, Bool.false_eq_true, if_false, idx_of_get hd.2 h]

/-! ### a value told less -/
def AV.Le (x y : AV) : Prop := ∀ G v, VA G x v → VA G y v
def AV.Les (xs ys : List AV) : Prop := ∀ G vs, VAs G xs vs → VAs G ys vs
theorem AV.Le.refl (x : AV) : AV.Le x x := fun _ _ h => h
theorem AV.Le.trans {x y z : AV} (h : AV.Le x y) (k : AV.Le y z) : AV.Le x z := fun G v a => k G v (h G v a)
theorem VD.empty {I : Nat → Option Obj} {c : D} {sz : Nat} (h : c.view = some (sz, [])) : VD I c (.slice none 0 0) :=
  VD.sl (es := []) none 0 [] h (Nat.le_refl _) (by decide) (by simp) (fun i h => absurd h (Nat.not_lt_zero _)) (.inl rfl)
theorem AV.Le.nil {c : D} {sz : Nat} (h : c.view = some (sz, [])) : AV.Le .nils (.d c) := fun G v a => by
  cases a; exact .d (VD.empty h)
theorem AV.Le.undef (x : AV) : AV.Le x .undef := fun _ _ _ => .undef _
theorem AV.Les.nil : AV.Les [] [] := fun _ _ h => h
theorem AV.Les.cons {x y : AV} {xs ys : List AV} (h : AV.Le x y) (k : AV.Les xs ys) : AV.Les (x :: xs) (y :: ys) := fun G vs a => by
  cases a with | cons a b => exact .cons (h G _ a) (k G _ b)
theorem AV.Le.agg {xs ys : List AV} (h : AV.Les xs ys) : AV.Le (.agg xs) (.agg ys) := fun G v a => by
  cases a with | agg a => exact .agg (h G _ a)
theorem AV.Le.tuple {xs ys : List AV} (h : AV.Les xs ys) : AV.Le (.tuple xs) (.tuple ys) := fun G v a => by
  cases a with | tuple a => exact .tuple (h G _ a)

mutual
/-- As the callee names it. -/
def AV.up (bs : List BId) (ts : List Tag) : AV → AV
  | .own t => (match idx ts t with | some l => .own (.ext l) | none => .undef)
  | .ptr b o => (match idx bs b with | some k => .ptr (.out k) o | none => .undef)
  | .agg cs => .agg (AV.ups bs ts cs)
  | .tuple cs => .tuple (AV.ups bs ts cs)
  | .fn f cs => .fn f (AV.ups bs ts cs)
  | .eptr _ _ _ _ => .undef
  | .undef => .undef
  | .d x => .d x
  | .nils => .nils
  | .dptr ds => .dptr ds
def AV.ups (bs : List BId) (ts : List Tag) : List AV → List AV
  | [] => []
  | c :: cs => AV.up bs ts c :: AV.ups bs ts cs
end
mutual
/-- As the caller names it: what comes back into temporary d. -/
def AV.down (bs : List BId) (ts : List Tag) (d : Nat) : AV → AV
  | .own t => (match t with
    | .ext l => (match ts[l]? with | some t => .own t | none => .undef)
    | .ret j => .own (.tmp d j)
    | .tmp _ _ => .undef)
  | .ptr b o => (match b with
    | .out k => (match bs[k]? with | some b => .ptr b o | none => .undef)
    | .loc _ => .undef)
  | .agg cs => .agg (AV.downs bs ts d cs)
  | .tuple cs => .tuple (AV.downs bs ts d cs)
  | .fn f cs => .fn f (AV.downs bs ts d cs)
  | .eptr _ _ _ _ => .undef
  | .undef => .undef
  | .d x => .d x
  | .nils => .nils
  | .dptr ds => .dptr ds
def AV.downs (bs : List BId) (ts : List Tag) (d : Nat) : List AV → List AV
  | [] => []
  | c :: cs => AV.down bs ts d c :: AV.downs bs ts d cs
end

theorem VA.up {G H : Gh} (bs : List BId) (ts : List Tag) (hi : Sub G.im H.im) (hb : ∀ (b : BId) (k : Nat), idx bs b = some k → H.β (.out k) = G.β b) (ht : ∀ (t : Tag) (l : Nat), idx ts t = some l → H.av (.ext l) = G.av t) {x : AV} {v : Value} (h : VA G x v) : VA H (x.up bs ts) v :=
  VA.rec (G := G) (motive_1 := fun x v _ => VA H (x.up bs ts) v) (motive_2 := fun xs vs _ => VAs H (AV.ups bs ts xs) vs)
    (fun v => by simpa [AV.up] using VA.undef v) (fun h => by simpa [AV.up] using VA.d (h.mono hi)) (by simpa [AV.up] using VA.nils)
    (fun u A l c h => by
      simp only [AV.up]
      split
      · next n hn => exact .own _ A l c (by rw [ht _ _ hn]; exact h)
      · exact .undef _)
    (fun _ ih => by simpa [AV.up] using VA.agg ih) (fun _ ih => by simpa [AV.up] using VA.tuple ih)
    (fun c o => by
      simp only [AV.up]
      split
      · next n hn => rw [← hb _ _ hn]; exact .ptr _ o
      · exact .undef _)
    (fun g o h ha => by simpa [AV.up] using VA.dptr g o (h.mono hi) (ha.mono hi))
    (fun u g sz i o h => by simpa [AV.up] using VA.undef _)
    (fun f _ _ _ ih => by simpa [AV.up] using VA.fn f ih)
    (by simpa [AV.ups] using VAs.nil) (fun _ _ ih1 ih2 => by simpa [AV.ups] using VAs.cons ih1 ih2) h
theorem VAs.up {G H : Gh} (bs : List BId) (ts : List Tag) (hi : Sub G.im H.im) (hb : ∀ (b : BId) (k : Nat), idx bs b = some k → H.β (.out k) = G.β b) (ht : ∀ (t : Tag) (l : Nat), idx ts t = some l → H.av (.ext l) = G.av t) : ∀ {x : List AV} {v : List Value}, VAs G x v → VAs H (AV.ups bs ts x) v
  | [], _, h => by cases h; simpa [AV.ups] using VAs.nil
  | x :: xs, _, h => by
    cases h with
    | cons h k => simpa [AV.ups] using VAs.cons (h.up bs ts hi hb ht) (k.up bs ts hi hb ht)
theorem VA.down {G H : Gh} (bs : List BId) (ts : List Tag) (d : Nat) (hi : Sub G.im H.im) (hb : ∀ (b : BId) (k : Nat), bs[k]? = some b → H.β b = G.β (.out k)) (ht : ∀ (t : Tag) (l : Nat), ts[l]? = some t → H.av t = G.av (.ext l)) (hr : ∀ j, H.av (.tmp d j) = G.av (.ret j)) {x : AV} {v : Value} (h : VA G x v) : VA H (x.down bs ts d) v :=
  VA.rec (G := G) (motive_1 := fun x v _ => VA H (x.down bs ts d) v) (motive_2 := fun xs vs _ => VAs H (AV.downs bs ts d xs) vs)
    (fun v => by simpa [AV.down] using VA.undef v) (fun h => by simpa [AV.down] using VA.d (h.mono hi)) (by simpa [AV.down] using VA.nils)
    (fun u A l c h => by
      cases u with
      | ext n =>
        simp only [AV.down]
        split
        · next t hn => exact .own _ A l c (by rw [ht _ _ hn]; exact h)
        · exact .undef _
      | ret j => simp only [AV.down]; exact .own _ A l c (by rw [hr]; exact h)
      | tmp _ _ => simp only [AV.down]; exact .undef _)
    (fun _ ih => by simpa [AV.down] using VA.agg ih) (fun _ ih => by simpa [AV.down] using VA.tuple ih)
    (fun c o => by
      cases c with
      | out k =>
        simp only [AV.down]
        split
        · next b hn => rw [← hb _ _ hn]; exact .ptr _ o
        · exact .undef _
      | loc _ => simp only [AV.down]; exact .undef _)
    (fun g o h ha => by simpa [AV.down] using VA.dptr g o (h.mono hi) (ha.mono hi))
    (fun u g sz i o h => by simpa [AV.down] using VA.undef _)
    (fun f _ _ _ ih => by simpa [AV.down] using VA.fn f ih)
    (by simpa [AV.downs] using VAs.nil) (fun _ _ ih1 ih2 => by simpa [AV.downs] using VAs.cons ih1 ih2) h
theorem VAs.down {G H : Gh} (bs : List BId) (ts : List Tag) (d : Nat) (hi : Sub G.im H.im) (hb : ∀ (b : BId) (k : Nat), bs[k]? = some b → H.β b = G.β (.out k)) (ht : ∀ (t : Tag) (l : Nat), ts[l]? = some t → H.av t = G.av (.ext l)) (hr : ∀ j, H.av (.tmp d j) = G.av (.ret j)) : ∀ {x : List AV} {v : List Value}, VAs G x v → VAs H (AV.downs bs ts d x) v
  | [], _, h => by cases h; simpa [AV.downs] using VAs.nil
  | x :: xs, _, h => by
    cases h with
    | cons h k => simpa [AV.downs] using VAs.cons (h.down bs ts d hi hb ht hr) (k.down bs ts d hi hb ht hr)

/-! ### contracts -/
abbrev RQ := AV → (BId → Option Box) → (Tag → Option Arr) → Prop
/-- Called with such arguments, where such variables and arrays are handed in, the function returns what Q tells. -/
def Fn (E : Env) (f : FuncId) (args : List AV) (B : BId → Option Box) (A : Tag → Option Arr) (Q : RQ) : Prop := (∀ (as : Array Value) (w : World), (callFunc f as).run E.P w = .ok (.enter f as) w) ∧
  ∀ (G : Gh) (w : World) (vals : List Value), Sat G B A w → VAs G args vals →
    Calls E.P f vals.toArray w fun e w' => ∃ v r G' B' A', e = .returned v ∧ Sat G' B' A' w' ∧ VA G' r v ∧ Later G w G' w' ∧ Q r B' A'
def noB : BId → Option Box := fun _ => none
def noA : Tag → Option Arr := fun _ => none

theorem Fn.mono {E : Env} {f : FuncId} {args : List AV} {B : BId → Option Box} {A : Tag → Option Arr} {Q Q' : RQ} (h : Fn E f args B A Q) (hq : ∀ r B' A', Q r B' A' → Q' r B' A') : Fn E f args B A Q' := ⟨h.1, fun G w vals hs hv =>
  (h.2 G w vals hs hv).mono fun e w' ⟨v, r, G', B', A', h1, h2, h3, h4, h5⟩ => ⟨v, r, G', B', A', h1, h2, h3, h4, hq _ _ _ h5⟩⟩

theorem Sat.setB {G : Gh} {bx bx' : BId → Option Box} {ar ar' : Tag → Option Arr} {w : World} (h : Sat G bx ar w) (hb : ∀ i x, bx' i = some x → bx i = some x) (ha : ∀ t x, ar' t = some x → ar t = some x) : Sat G bx' ar' w :=
  ⟨h.im, fun i x hx => h.bx i x (hb i x hx), fun t x hx => h.ar t x (ha t x hx), h.gl⟩

/-- The frame at the beginning. -/
def enter (n : Nat) (args : List AV) (B : BId → Option Box) (A : Tag → Option Arr) : St := { n := n, tmps := fun i => args.getD i .undef, boxes := B, arrs := A }
theorem enter_rel {G : Gh} {w : World} {vals : List Value} {args : List AV} {B : BId → Option Box} {A : Tag → Option Arr} (hs : Sat G B A w) (hv : VAs G args vals) {n : Nat} (hn : Nat.ble args.length n = true) :
    Rel G (enter n args B A) { tmps := vals.toArray ++ Array.replicate (n - vals.toArray.size) Go.undef, defers := [] } w := by
  have hl := hv.length
  have hn := Nat.le_of_ble_eq_true hn
  refine ⟨by simp [enter]; omega, fun i => ?_, rfl, hs⟩
  simp only [enter, List.getD_eq_getElem?_getD, Array.getD_eq_getD_getElem?]
  rcases Nat.lt_or_ge i args.length with h | h
  · obtain ⟨v, h1, h2⟩ := hv.get i _ (List.getElem?_eq_getElem h)
    have : (vals.toArray ++ Array.replicate (n - vals.toArray.size) Go.undef)[i]? = some v := by
      rw [Array.getElem?_append_left (by simp; omega)]
      simpa using h1
    rw [this, List.getElem?_eq_getElem h]
    exact h2
  · rw [List.getElem?_eq_none h]
    exact .undef _

/-- A call's results, out of the frame's state. -/
def resOne (Γ : TypeId → Option TI) (σ : St) : ResultVar → Option AV
  | .tmp t => some (σ.tmps t)
  | .cell a t => (match Γ t with
    | some i => (match σ.tmps a with
      | .ptr b o => (match vLoad σ i (.ptr b o) with | some (_, r) => some r | none => none)
      | _ => none)
    | none => none)
def resAll (Γ : TypeId → Option TI) (σ : St) : List ResultVar → Option (List AV)
  | [] => some []
  | x :: r => (match resOne Γ σ x, resAll Γ σ r with | some a, some l => some (a :: l) | _, _ => none)
def resv (Γ : TypeId → Option TI) (σ : St) (rs : List ResultVar) : Option AV := match resAll Γ σ rs with
  | some [x] => some x
  | some l => some (.tuple l)
  | none => none
def retQ (Γ : TypeId → Option TI) (rs : List ResultVar) (Q : RQ) : Qs
  | .ret, σ => ∃ σ' r' r, Wk σ σ' ∧ resv Γ σ' rs = some r' ∧ AV.Le r' r ∧ Q r σ'.boxes σ'.arrs
  | .normal, σ => ∃ σ' r' r, Wk σ σ' ∧ resv Γ σ' rs = some r' ∧ AV.Le r' r ∧ Q r σ'.boxes σ'.arrs
  | _, _ => False

theorem vLoad_ptr_true {σ : St} {i : TI} {b : BId} {o : Nat} {p : Prop} {r : AV} (h : vLoad σ i (.ptr b o) = some (p, r)) : p := by
  simp only [vLoad] at h
  split at h
  · split at h
    · split at h
      · cases h; trivial
      · cases h
    · cases h
  · cases h

def resSem (tmps : Array Value) : ResultVar → Sem Value
  | .tmp t => pure (tmps.getD t Go.undef)
  | .cell q t => do loadVar t (← asAddr (tmps.getD q Go.undef))
theorem results_eq (fn : Func) (tmps : Array Value) : results fn tmps = (do let vs ← fn.results.mapM (resSem tmps); pure (if h : vs.size = 1 then vs[0] else .tuple vs)) := by
  have : (resSem tmps) = (fun x => match x with | .tmp t => pure (tmps.getD t Go.undef) | .cell a t => do loadVar t (← asAddr (tmps.getD a Go.undef))) := by
    funext x
    cases x <;> rfl
  rw [this]
  rfl

theorem resOne_ok {E : Env} {σ : St} {G : Gh} {a : Act} {w : World} (hr : Rel G σ a w) {x : ResultVar} {r : AV} (h : resOne E.Γ σ x = some r) : ∃ v, VA G r v ∧ (resSem a.tmps x).run E.P w = .ok v w := by
  cases x with
  | tmp t => simp only [resOne, Option.some.injEq] at h; subst h; exact ⟨_, hr.t _, rfl⟩
  | cell q t =>
    simp only [resOne] at h
    split at h
    · next i hi =>
      split at h
      · next b o hb =>
        split at h
        · next p r' hl =>
          cases h
          have hv := hr.t q
          rw [hb] at hv
          obtain ⟨v, h1, h2⟩ := vLoad_ok (P := E.P) (E.ok _ _ hi) hl (vLoad_ptr_true hl) hr.s hv
          refine ⟨v, h1, ?_⟩
          have := h2 w rfl
          simp only [resSem]
          generalize hpv : a.tmps.getD q Go.undef = pv at hv this ⊢
          cases hv
          simpa [Instr.loadAt, Instr.sureAddr, asAddr] using this
        · cases h
      · cases h
    · cases h
theorem resAll_ok {E : Env} {σ : St} {G : Gh} {a : Act} {w : World} (hr : Rel G σ a w) : ∀ {xs : List ResultVar} {rs : List AV}, resAll E.Γ σ xs = some rs → ∃ vs, VAs G rs vs ∧ (xs.mapM (resSem a.tmps)).run E.P w = .ok vs w
  | [], rs, h => by simp only [resAll, Option.some.injEq] at h; subst h; exact ⟨[], .nil, by simp⟩
  | x :: xs, rs, h => by
    simp only [resAll] at h
    split at h
    · next r l h1 h2 =>
      cases h
      obtain ⟨v, k1, k2⟩ := resOne_ok hr h1
      obtain ⟨vs, k3, k4⟩ := resAll_ok hr h2
      refine ⟨v :: vs, .cons k1 k3, ?_⟩
      simp only [List.mapM_cons, Sem.run_bind, k2, Result.andThen_ok, k4, Sem.run_pure]
    · cases h

theorem results_ok {E : Env} {fn : Func} {σ : St} {G : Gh} {a : Act} {w : World} (hr : Rel G σ a w) {r : AV} (h : resv E.Γ σ fn.results.toList = some r) : ∃ v, VA G r v ∧ (results fn a.tmps).run E.P w = .ok v w := by
  rw [results_eq]
  unfold resv at h
  split at h
  · next x hx =>
    cases h
    obtain ⟨vs, h1, h2⟩ := resAll_ok hr hx
    cases h1 with | cons h1 ht =>
    cases ht
    refine ⟨_, h1, ?_⟩
    simp only [Array.mapM_eq_mapM_toList, Sem.run_bind, Sem.run_map, h2]
    rfl
  · next l hl hx =>
    cases h
    obtain ⟨vs, h1, h2⟩ := resAll_ok hr hx
    refine ⟨_, .tuple h1, ?_⟩
    have hlen := h1.length
    have hne : ¬ vs.toArray.size = 1 := by
      intro e
      simp only [List.size_toArray] at e
      rw [← hlen] at e
      obtain ⟨y, rfl⟩ := List.length_eq_one_iff.1 e
      exact hl y rfl
    simp only [Array.mapM_eq_mapM_toList, Sem.run_bind, Sem.run_map, h2, Result.andThen_ok, Sem.run_pure]
    rw [dif_neg hne]
  · cases h

theorem Fn.intro {E : Env} {f : FuncId} {fn : Func} {c : Code} {args : List AV} {B : BId → Option Box} {A : Tag → Option Arr} {Q : RQ} (hf : E.P.funcs[f]? = some fn) (hb : fn.body = some c) (hname : (fn.name == "runtime.NumGoroutine") = false) (hn : Nat.ble args.length fn.ntmps = true)
    (h : Tri E c (enter fn.ntmps args B A) (retQ E.Γ fn.results.toList Q)) : Fn E f args B A Q := by
  have hne : ¬ fn.name = "runtime.NumGoroutine" := by simpa using hname
  refine ⟨fun as w => by simp [callFunc, hf, hne, hb], fun G w vals hs hv => ?_⟩
  refine calls_of_wp hf hb (wp_mono (h G _ w (enter_rel hs hv hn)) fun e a' w' q => ?_)
  obtain ⟨G', σ', h1, h2, h3⟩ := q
  have fin : (∃ σ'' r' r, Wk σ' σ'' ∧ resv E.Γ σ'' fn.results.toList = some r' ∧ AV.Le r' r ∧ Q r σ''.boxes σ''.arrs) → a'.defers = [] ∧ ∃ v, (results fn a'.tmps).run E.P w' = .ok v w' ∧
      ∃ v' r G' B' A', Ending.returned v = .returned v' ∧ Sat G' B' A' w' ∧ VA G' r v' ∧ Later G w G' w' ∧ Q r B' A' := by
    rintro ⟨σ'', r', r, k1, k2, kl, k3⟩
    obtain ⟨G2, k4, k5⟩ := k1 G' a' w' h1
    obtain ⟨v, k6, k7⟩ := results_ok k4 k2
    exact ⟨h1.df, v, k7, v, r, G2, _, _, rfl, k4.s, kl _ _ k6, h2.trans k5, k3⟩
  cases e with
  | normal => exact fin h3
  | ret => exact fin h3
  | _ => exact h3.elim
end Go.Proofs.YthmbdoegcpicbaaDoor.Abs

/-! ## AbsO -/
namespace Go.Proofs.YthmbdoegcpicbaaDoor.Abs

def keepR (bs : List BId) (ts : List Tag) : Role → Bool
  | .box i => (idx bs i).isNone
  | .arr t => (idx ts t).isNone
  | _ => true
def hidAt (w : World) (b : Nat) : Role := match w.heap[b]? with | some o => .hid o | none => .none
def upR (w : World) (bs : List BId) (ts : List Tag) (b : Nat) : Role → Role
  | .im o => .im o
  | .hid o => .hid o
  | .box i => (match idx bs i with | some k => .box (.out k) | none => hidAt w b)
  | .arr t => (match idx ts t with | some l => .arr (.ext l) | none => hidAt w b)
  | .none => hidAt w b
def downR (bs : List BId) (ts : List Tag) (d : Nat) : Role → Role
  | .im o => .im o
  | .box i => (match i with | .out k => (match bs[k]? with | some b => .box b | none => .none) | .loc _ => .none)
  | .arr t => (match t with | .ext l => (match ts[l]? with | some t => .arr t | none => .none) | .ret j => .arr (.tmp d j) | .tmp _ _ => .none)
  | _ => .none
def Gh.up (G : Gh) (w : World) (bs : List BId) (ts : List Tag) : Gh where
  role := fun b => upR w bs ts b (G.role b)
  β := fun i => match i with | .out k => (match bs[k]? with | some b => G.β b | none => 0) | .loc _ => 0
  av := fun t => match t with | .ext l => (match ts[l]? with | some t => G.av t | none => Go.undef) | _ => Go.undef
def Gh.down (G H : Gh) (w : World) (bs : List BId) (ts : List Tag) (d : Nat) : Gh where
  role := fun b => if b < w.heap.size ∧ keepR bs ts (G.role b) = true then G.role b else downR bs ts d (H.role b)
  β := G.β
  av := fun t => match idx ts t with
    | some l => H.av (.ext l)
    | none => (match t with | .tmp d' j => (bif Nat.beq d' d then H.av (.ret j) else G.av t) | _ => G.av t)
def upB (σ : St) (bs : List BId) (ts : List Tag) : BId → Option Box
  | .out k => (match bs[k]? with | some i => (match σ.boxes i with | some x => some { x with cs := AV.ups bs ts x.cs } | none => none) | none => none)
  | .loc _ => none
def upA (σ : St) (ts : List Tag) : Tag → Option Arr
  | .ext l => (match ts[l]? with | some t => σ.arrs t | none => none)
  | _ => none
def isTmp (d : Nat) : Tag → Bool
  | .tmp d' _ => Nat.beq d' d
  | _ => false
def St.recv (σ : St) (bs : List BId) (ts : List Tag) (d : Nat) (B' : BId → Option Box) (A' : Tag → Option Arr) : St :=
  let p := σ.purge (fun t => isTmp d t || (idx ts t).isSome) (fun _ => false)
  { n := σ.n, tmps := p.tmps,
    boxes := fun i => match idx bs i with | some k => (match B' (.out k) with | some x => some { x with cs := AV.downs bs ts d x.cs } | none => none) | none => p.boxes i,
    arrs := fun t => match idx ts t with | some l => A' (.ext l) | none => (match t with | .tmp d' j => (bif Nat.beq d' d then A' (.ret j) else p.arrs t) | _ => p.arrs t) }

def aliveB (σ : St) : List BId → Bool
  | [] => true
  | b :: r => (σ.boxes b).isSome && aliveB σ r
theorem aliveB_get {σ : St} : ∀ {bs : List BId} {k : Nat} {b : BId}, aliveB σ bs = true → bs[k]? = some b → ∃ x, σ.boxes b = some x
  | [], k, b, _, h => by simp at h
  | c :: r, 0, b, ha, h => by
    simp only [aliveB, Bool.and_eq_true] at ha
    simp only [List.getElem?_cons_zero, Option.some.injEq] at h
    subst h
    exact Option.isSome_iff_exists.1 ha.1
  | c :: r, k + 1, b, ha, h => by
    simp only [aliveB, Bool.and_eq_true] at ha
    exact aliveB_get ha.2 (by simpa using h)
def noTmp (d : Nat) : List Tag → Bool
  | [] => true
  | t :: r => !isTmp d t && noTmp d r
theorem noTmp_get {d : Nat} : ∀ {ts : List Tag} {l : Nat} {t : Tag}, noTmp d ts = true → ts[l]? = some t → isTmp d t = false
  | [], l, t, _, h => by simp at h
  | c :: r, 0, t, ha, h => by
    simp only [noTmp, Bool.and_eq_true, Bool.not_eq_true'] at ha
    simp only [List.getElem?_cons_zero, Option.some.injEq] at h
    subst h
    exact ha.1
  | c :: r, l + 1, t, ha, h => by
    simp only [noTmp, Bool.and_eq_true] at ha
    exact noTmp_get ha.2 (by simpa using h)

theorem hidAt_lt {w : World} {b : Nat} (h : b < w.heap.size) : hidAt w b = .hid w.heap[b] := by simp [hidAt, h]

theorem call_core {E : Env} {f : FuncId} {args : List AV} {Q : RQ} {G : Gh} {σ : St} {a : Act} {w : World} (hr : Rel G σ a w) {vals : List Value} (hv : VAs G args vals) (bs : List BId) (ts : List Tag) (d : Nat)
    (hbs : nodup bs = true) (hts : nodup ts = true) (hal : aliveB σ bs = true) (hnt : noTmp d ts = true)
    (hf : Fn E f (AV.ups bs ts args) (upB σ bs ts) (upA σ ts) Q) :
    Calls E.P f vals.toArray w fun e w' => ∃ v r B' A' G2, e = .returned v ∧ Rel G2 (σ.recv bs ts d B' A') a w' ∧ VA G2 (r.down bs ts d) v ∧ Later G w G2 w' ∧ KeepB (fun i => (idx bs i).isNone) σ G w G2 w' ∧ Q r B' A' := by
  have hI : Sub G.im (G.up w bs ts).im := fun g o hg => im_of.2 (by show upR w bs ts g (G.role g) = .im o; rw [im_of.1 hg]; rfl)
  have hup1 : ∀ (b : BId) (k : Nat), idx bs b = some k → (G.up w bs ts).β (.out k) = G.β b := fun b k h => by simp [Gh.up, idx_get h]
  have hup2 : ∀ (t : Tag) (l : Nat), idx ts t = some l → (G.up w bs ts).av (.ext l) = G.av t := fun b k h => by simp [Gh.up, idx_get h]
  have hrole : ∀ g, (G.up w bs ts).role g = upR w bs ts g (G.role g) := fun _ => rfl
  have hS : Sat (G.up w bs ts) (upB σ bs ts) (upA σ ts) w := by
    refine ⟨?_, ?_, ?_, hr.s.gl.mono fun b o h => by rw [hrole, h]; rfl⟩
    · intro b o h
      rw [hrole] at h
      cases hg : G.role b with
      | none =>
        rw [hg] at h
        simp only [upR, hidAt] at h
        split at h
        · next o' ho => rcases h with h | h <;> cases h; exact ho
        · rcases h with h | h <;> cases h
      | im o' => rw [hg] at h; rcases h with h | h <;> cases h; exact hr.s.im _ _ (.inl hg)
      | hid o' => rw [hg] at h; rcases h with h | h <;> cases h; exact hr.s.im _ _ (.inr hg)
      | box i =>
        rw [hg] at h
        simp only [upR] at h
        split at h
        · rcases h with h | h <;> cases h
        · simp only [hidAt] at h
          split at h
          · next o' ho => rcases h with h | h <;> cases h; exact ho
          · rcases h with h | h <;> cases h
      | arr t =>
        rw [hg] at h
        simp only [upR] at h
        split at h
        · rcases h with h | h <;> cases h
        · simp only [hidAt] at h
          split at h
          · next o' ho => rcases h with h | h <;> cases h; exact ho
          · rcases h with h | h <;> cases h
    · intro i x hx
      cases i with
      | loc _ => cases hx
      | out k =>
        simp only [upB] at hx
        split at hx
        · next i hi =>
          split at hx
          · next y hy =>
            cases hx
            obtain ⟨h1, vs, h2, h3⟩ := hr.s.bx i y hy
            have hk := idx_of_get hbs hi
            have hβ : (G.up w bs ts).β (.out k) = G.β i := hup1 i k hk
            rw [hβ]
            refine ⟨?_, vs, h2, h3.up bs ts hI hup1 hup2⟩
            rw [hrole, h1]
            simp [upR, hk]
          · cases hx
        · cases hx
    · intro t x hx
      cases t with
      | tmp _ _ => cases hx
      | ret _ => cases hx
      | ext l =>
        simp only [upA] at hx
        split at hx
        · next t ht =>
          obtain ⟨h1, sz, es, vs, h2, h3, h4⟩ := hr.s.ar t x hx
          have hk := idx_of_get hts ht
          have hav : (G.up w bs ts).av (.ext l) = G.av t := hup2 t l hk
          rw [hav]
          refine ⟨fun g hg => ?_, sz, es, vs, h2, h3.mono hI, h4⟩
          rw [hrole, h1 g hg]
          simp [upR, hk]
        · cases hx
  refine (hf.2 (G.up w bs ts) w vals hS (hv.up bs ts hI hup1 hup2)).mono ?_
  rintro e w' ⟨v, r, H, B', A', rfl, hS', hvr, hL, hq⟩
  -- what of the old blocks the callee has kept
  have hkept : ∀ g, g < w.heap.size → keepR bs ts (G.role g) = true → (∃ o, H.role g = .im o ∧ G.role g = .im o) ∨ (∃ o, H.role g = .hid o ∧ w.heap[g]? = some o) := by
    intro g hg hk
    have hget : w.heap[g]? = some w.heap[g] := Array.getElem?_eq_getElem hg
    cases hgr : G.role g with
    | none => exact .inr ⟨_, hL.hid g w.heap[g] (by rw [hrole, hgr]; exact hidAt_lt hg), hget⟩
    | im o => exact .inl ⟨o, hL.im g o (by rw [hrole, hgr]; rfl), rfl⟩
    | hid o => exact .inr ⟨o, hL.hid g o (by rw [hrole, hgr]; rfl), hr.s.im g o (.inr hgr)⟩
    | box i =>
      rw [hgr] at hk
      simp only [keepR, Option.isNone_iff_eq_none] at hk
      exact .inr ⟨_, hL.hid g w.heap[g] (by rw [hrole, hgr]; simp only [upR, hk]; exact hidAt_lt hg), hget⟩
    | arr t =>
      rw [hgr] at hk
      simp only [keepR, Option.isNone_iff_eq_none] at hk
      exact .inr ⟨_, hL.hid g w.heap[g] (by rw [hrole, hgr]; simp only [upR, hk]; exact hidAt_lt hg), hget⟩
  have hheap : ∀ g, g < w.heap.size → keepR bs ts (G.role g) = true → w'.heap[g]? = w.heap[g]? := by
    intro g hg hk
    rcases hkept g hg hk with ⟨o, h1, h2⟩ | ⟨o, h1, h2⟩
    · rw [hS'.im g o (.inl h1), hr.s.im g o (.inl h2)]
    · rw [hS'.im g o (.inr h1), h2]
  have hrole2 : ∀ g, (G.down H w bs ts d).role g = if g < w.heap.size ∧ keepR bs ts (G.role g) = true then G.role g else downR bs ts d (H.role g) := fun _ => rfl
  have hI2 : Sub G.im (G.down H w bs ts d).im := fun g o hg => im_of.2 (by
    have h := im_of.1 hg
    rw [hrole2, if_pos ⟨hr.s.lt_im (.inl h), by rw [h]; rfl⟩]
    exact h)
  have hI3 : Sub H.im (G.down H w bs ts d).im := fun g o hg => im_of.2 (by
    have h := im_of.1 hg
    rw [hrole2]
    split
    · next hc =>
      rcases hkept g hc.1 hc.2 with ⟨o', h1, h2⟩ | ⟨o', h1, h2⟩
      · rw [h] at h1; cases h1; exact h2
      · rw [h] at h1; cases h1
    · rw [h]; rfl)
  have hnot : ∀ g, (∃ i, H.role g = .box i) ∨ (∃ t, H.role g = .arr t) → ¬ (g < w.heap.size ∧ keepR bs ts (G.role g) = true) := by
    rintro g hg ⟨h1, h2⟩
    rcases hkept g h1 h2 with ⟨o', h3, _⟩ | ⟨o', h3, _⟩ <;> rcases hg with ⟨i, hg⟩ | ⟨i, hg⟩ <;> rw [hg] at h3 <;> cases h3
  have hdn1 : ∀ (b : BId) (k : Nat), bs[k]? = some b → (G.down H w bs ts d).β b = H.β (.out k) := fun b k h => by
    rw [hL.bo k]
    show G.β b = _
    simp [Gh.up, h]
  have hdn2 : ∀ (t : Tag) (l : Nat), ts[l]? = some t → (G.down H w bs ts d).av t = H.av (.ext l) := fun t l h => by
    simp [Gh.down, idx_of_get hts h]
  have hdn3 : ∀ j, (G.down H w bs ts d).av (.tmp d j) = H.av (.ret j) := fun j => by
    have : idx ts (.tmp d j) = none := by
      cases hi : idx ts (Tag.tmp d j) with
      | none => rfl
      | some l =>
        have := noTmp_get hnt (idx_get hi)
        simp [isTmp] at this
    simp [Gh.down, this]
  have hav0 : ∀ t, (isTmp d t || (idx ts t).isSome) = false → (G.down H w bs ts d).av t = G.av t := fun t ht => by
    simp only [Bool.or_eq_false_iff, Option.isSome_eq_false_iff, Option.isNone_iff_eq_none] at ht
    simp only [Gh.down, ht.2]
    cases t with
    | tmp d' j => simp only [isTmp] at ht; simp [ht.1]
    | ext _ => rfl
    | ret _ => rfl
  have hLater : Later G w (G.down H w bs ts d) w' := by
    refine ⟨fun b o h => ?_, fun b o h => ?_, hL.os, hL.tape, hL.output, hL.size, fun _ => rfl⟩
    · rw [hrole2, if_pos ⟨hr.s.lt_im (.inl h), by rw [h]; rfl⟩]; exact h
    · rw [hrole2, if_pos ⟨hr.s.lt_im (.inr h), by rw [h]; rfl⟩]; exact h
  refine ⟨v, r, B', A', G.down H w bs ts d, rfl, ?_, hvr.down bs ts d hI3 hdn1 hdn2 hdn3, hLater, fun i x hi hx => ⟨rfl, hheap _ (hr.s.lt_bx hx) (by rw [(hr.s.bx i x hx).1]; exact hi)⟩, hq⟩
  have hbase : Rel (G.down H w bs ts d) (σ.recv bs ts d B' A') a w' := by
    refine ⟨hr.n, fun i => (hr.t i).purge _ _ hI2 hav0 (fun _ _ => rfl), hr.df, ?_, ?_, ?_, hr.s.gl.mono hLater.im⟩
    · intro b o h
      rw [hrole2] at h
      split at h
      · next hc => rw [hheap b hc.1 hc.2]; exact hr.s.im b o h
      · cases hh : H.role b with
        | im o' => rw [hh] at h; rcases h with h | h <;> cases h; exact hS'.im b o (.inl hh)
        | none => rw [hh] at h; rcases h with h | h <;> cases h
        | hid _ => rw [hh] at h; rcases h with h | h <;> cases h
        | box i =>
          rw [hh] at h
          simp only [downR] at h
          split at h
          · split at h <;> rcases h with h | h <;> cases h
          · rcases h with h | h <;> cases h
        | arr t =>
          rw [hh] at h
          simp only [downR] at h
          split at h
          · split at h <;> rcases h with h | h <;> cases h
          · rcases h with h | h <;> cases h
          · rcases h with h | h <;> cases h
    · intro i x hx
      simp only [St.recv] at hx
      split at hx
      · next k hk =>
        have hbk := idx_get hk
        split at hx
        · next y hy =>
          cases hx
          obtain ⟨h1, vs, h2, h3⟩ := hS'.bx (.out k) y hy
          have hβ := hdn1 i k hbk
          rw [hβ]
          refine ⟨?_, vs, h2, h3.down bs ts d hI3 hdn1 hdn2 hdn3⟩
          rw [hrole2, if_neg (hnot _ (.inl ⟨_, h1⟩)), h1]
          simp [downR, hbk]
        · cases hx
      · next hk =>
        simp only [St.purge, cond_false] at hx
        split at hx
        · next y hy =>
          cases hx
          obtain ⟨h1, vs, h2, h3⟩ := hr.s.bx i y hy
          have hlt := hr.s.lt_bx hy
          have hkp : keepR bs ts (G.role (G.β i)) = true := by rw [h1]; simp [keepR, hk]
          show (G.down H w bs ts d).role (G.β i) = _ ∧ _
          rw [hrole2, if_pos ⟨hlt, hkp⟩]
          exact ⟨h1, vs, (hheap _ hlt hkp).trans h2, h3.purge _ _ hI2 hav0 (fun _ _ => rfl)⟩
        · cases hx
    · have fresh : ∀ (t t' : Tag) (y : Arr), A' t' = some y → (G.down H w bs ts d).av t = H.av t' → downR bs ts d (.arr t') = .arr t →
          (∀ g, ((G.down H w bs ts d).av t).ownBlock = some g → (G.down H w bs ts d).role g = .arr t) ∧ ∃ sz es vs, y.c.view = some (sz, es) ∧ Flat (G.down H w bs ts d).im sz es vs ∧ w'.ownsRow 0 y.E sz ((G.down H w bs ts d).av t) es.length vs := by
        intro t t' y hy hav hdr
        obtain ⟨h1, sz, es, vs, h2, h3, h4⟩ := hS'.ar t' y hy
        rw [hav]
        refine ⟨fun g hg => ?_, sz, es, vs, h2, h3.mono hI3, h4⟩
        have h5 := h1 g hg
        rw [hrole2, if_neg (hnot _ (.inr ⟨_, h5⟩)), h5]
        exact hdr
      have kept : ∀ (t : Tag) (y : Arr), (σ.purge (fun t => isTmp d t || (idx ts t).isSome) (fun _ => false)).arrs t = some y →
          (∀ g, ((G.down H w bs ts d).av t).ownBlock = some g → (G.down H w bs ts d).role g = .arr t) ∧ ∃ sz es vs, y.c.view = some (sz, es) ∧ Flat (G.down H w bs ts d).im sz es vs ∧ w'.ownsRow 0 y.E sz ((G.down H w bs ts d).av t) es.length vs := by
        intro t y hy
        simp only [St.purge] at hy
        cases hp : (isTmp d t || (idx ts t).isSome)
        · rw [hp] at hy
          simp only [cond_false] at hy
          obtain ⟨h1, sz, es, vs, h2, h3, h4⟩ := hr.s.ar t y hy
          rw [hav0 t hp]
          have hkp : ∀ g, (G.av t).ownBlock = some g → g < w.heap.size ∧ keepR bs ts (G.role g) = true := fun g hg => ⟨hr.s.lt_ar hy hg, by
            rw [h1 g hg]
            simp only [Bool.or_eq_false_iff, Option.isSome_eq_false_iff] at hp
            exact hp.2⟩
          refine ⟨fun g hg => by rw [hrole2, if_pos (hkp g hg)]; exact h1 g hg, sz, es, vs, h2, h3.mono hI2, h4.1, ?_⟩
          rcases h4.2 with h5 | ⟨g, cap, cur, h5, h6, h7, h8⟩
          · exact .inl h5
          · have := hkp g (by rw [h5]; rfl)
            exact .inr ⟨g, cap, cur, h5, h6, (hheap g this.1 this.2).trans h7, h8⟩
        · rw [hp] at hy; cases hy
      intro t y hy
      simp only [St.recv] at hy
      split at hy
      · next l hl =>
        have ht := idx_get hl
        exact fresh t (.ext l) y hy (hdn2 t l ht) (by simp [downR, ht])
      · next hl =>
        split at hy
        · next d' j =>
          cases hb : Nat.beq d' d
          · rw [hb] at hy; exact kept _ y hy
          · rw [hb] at hy
            have := Nat.eq_of_beq_eq_true hb
            subst this
            exact fresh _ (.ret j) y hy (hdn3 j) rfl
        · exact kept _ y hy
  exact hbase
end Go.Proofs.YthmbdoegcpicbaaDoor.Abs

/-! ## AbsP -/
namespace Go.Proofs.YthmbdoegcpicbaaDoor.Abs

theorem Rel.same {G : Gh} {σ : St} {a : Act} {w w' : World} (h : Rel G σ a w) (hs : ∀ g, g < w.heap.size → w'.heap[g]? = w.heap[g]?) : Rel G σ a w' := by
  refine ⟨h.n, h.t, h.df, ?_, ?_, ?_, h.s.gl⟩
  · intro b o hb; rw [hs b (h.s.lt_im hb)]; exact h.s.im b o hb
  · intro i x hx
    obtain ⟨h1, vs, h2, h3⟩ := h.s.bx i x hx
    exact ⟨h1, vs, by rw [hs _ (h.s.lt_bx hx)]; exact h2, h3⟩
  · intro t x hx
    obtain ⟨h1, sz, es, vs, h2, h3, h4⟩ := h.s.ar t x hx
    refine ⟨h1, sz, es, vs, h2, h3, h4.1, ?_⟩
    rcases h4.2 with h5 | ⟨g, cap, cur, h5, h6, h7, h8⟩
    · exact .inl h5
    · exact .inr ⟨g, cap, cur, h5, h6, by rw [hs g (h.s.lt_ar hx (by rw [h5]; rfl))]; exact h7, h8⟩

/-! ### lending -/
def dsOf : List AV → Option (List D)
  | [] => some []
  | .d x :: r => (match x.one, dsOf r with | true, some l => some (x :: l) | _, _ => none)
  | _ :: _ => none
theorem dsOf_ok {G : Gh} : ∀ {cs : List AV} {ds : List D} {vs : List Value}, dsOf cs = some ds → VAs G cs vs → VDs G.im ds vs
  | [], ds, vs, h, k => by simp only [dsOf, Option.some.injEq] at h; subst h; cases k; exact .nil
  | c :: r, ds, vs, h, k => by
    cases k with | cons k1 k2 =>
    cases c <;> simp only [dsOf, reduceCtorEq] at h
    split at h
    · next l ho hl =>
      cases h
      cases k1 with | d k1 => exact .cons k1 (k1.one ho) (dsOf_ok hl k2)
    · cases h
mutual
/-- What a call that gives back plain values may see: an owned slice, a variable as what it holds. -/
def AV.lend (σ : St) : AV → AV
  | .own t => (match σ.arrs t with | some a => .d a.c | none => .undef)
  | .agg cs => .agg (AV.lends σ cs)
  | .tuple cs => .tuple (AV.lends σ cs)
  | .fn f cs => .fn f (AV.lends σ cs)
  | .ptr b o => (match σ.boxes b with
    | some x => (match dsOf x.cs with | some ds => .dptr (ds.drop o) | none => .undef)
    | none => .undef)
  | .eptr _ _ _ _ => .undef
  | .undef => .undef
  | .d x => .d x
  | .nils => .nils
  | .dptr ds => .dptr ds
def AV.lends (σ : St) : List AV → List AV
  | [] => []
  | c :: cs => AV.lend σ c :: AV.lends σ cs
end
/-- All that is there may be read, nothing is written. -/
def Gh.all (w : World) : Gh := { role := fun g => match w.heap[g]? with | some o => .im o | none => .none, β := fun _ => 0, av := fun _ => Go.undef }
theorem all_im (w : World) (g : Nat) : (Gh.all w).im g = w.heap[g]? := by
  simp only [Gh.im, Gh.all]
  cases w.heap[g]? <;> rfl
theorem VA.lend {G : Gh} {σ : St} {w : World} (hs : Sat G σ.boxes σ.arrs w) {x : AV} {v : Value} (h : VA G x v) : VA (Gh.all w) (x.lend σ) v := by
  have hi : Sub G.im (Gh.all w).im := fun g o hg => by rw [all_im]; exact hs.im g o (.inl (im_of.1 hg))
  exact VA.rec (G := G) (motive_1 := fun x v _ => VA (Gh.all w) (x.lend σ) v) (motive_2 := fun xs vs _ => VAs (Gh.all w) (AV.lends σ xs) vs)
    (fun v => by simpa [AV.lend] using VA.undef v) (fun h => by simpa [AV.lend] using VA.d (h.mono hi)) (by simpa [AV.lend] using VA.nils)
    (fun u A l c h => by
      simp only [AV.lend]
      split
      · next y hy =>
        obtain ⟨h1, sz, es, vs, h2, h3, h4⟩ := hs.ar u y hy
        obtain ⟨h5, h6⟩ := D.esz_of h2
        obtain ⟨A', cap, vs, k1, k2, k3, k4, k5, k6, k7, k8⟩ := hs.arr hy h5
        rw [k1] at h
        cases h
        refine .d (VD.slice_mk h5 _ _ vs k2 k3 k4 (fun i hi' => (k5 i hi').mono hi) ?_)
        rcases k8 with ⟨_, _, k8⟩ | ⟨g, c, rfl, k9, k10, k11⟩
        · exact .inl k8
        · exact .inr ⟨g, 0, c, y.E, (0, 0), rfl, by rw [all_im]; exact k9, fun j v hv => by rw [Nat.zero_add]; exact k11 j v hv⟩
      · exact .undef _)
    (fun _ ih => by simpa [AV.lend] using VA.agg ih) (fun _ ih => by simpa [AV.lend] using VA.tuple ih)
    (fun c o => by
      simp only [AV.lend]
      split
      · next x hx =>
        split
        · next ds hd =>
          obtain ⟨h1, vs, h2, h3⟩ := hs.bx c x hx
          have hv := (dsOf_ok hd h3).drop o
          refine .dptr _ _ (hv.mono hi) ⟨_, _, vs.toArray, x.E, (0, 0), rfl, by rw [all_im]; exact h2, fun j v hv => ?_⟩
          rw [List.getElem?_drop] at hv
          simpa using hv
        · exact .undef _
      · exact .undef _)
    (fun g o h ha => by simpa [AV.lend] using VA.dptr g o (h.mono hi) (ha.mono hi))
    (fun u g sz i o h => by simpa [AV.lend] using VA.undef _)
    (fun f _ _ _ ih => by simpa [AV.lend] using VA.fn f ih)
    (by simpa [AV.lends] using VAs.nil) (fun _ _ ih1 ih2 => by simpa [AV.lends] using VAs.cons ih1 ih2) h
theorem VAs.lend {G : Gh} {σ : St} {w : World} (hs : Sat G σ.boxes σ.arrs w) : ∀ {x : List AV} {v : List Value}, VAs G x v → VAs (Gh.all w) (AV.lends σ x) v
  | [], _, h => by cases h; simpa [AV.lends] using VAs.nil
  | x :: xs, _, h => by
    cases h with
    | cons h k => simpa [AV.lends] using VAs.cons (h.lend hs) (k.lend hs)

mutual
/-- A value without memory. -/
def AV.flat : AV → Bool
  | .d x => (match x with | .int _ _ => true | .bool _ => true | .str _ => true | _ => false)
  | .agg cs => AV.flats cs
  | .tuple cs => AV.flats cs
  | _ => false
def AV.flats : List AV → Bool
  | [] => true
  | c :: cs => AV.flat c && AV.flats cs
end
theorem VA.flat {G H : Gh} {x : AV} {v : Value} (h : VA G x v) (hf : x.flat = true) : VA H x v :=
  VA.rec (G := G) (motive_1 := fun x v _ => x.flat = true → VA H x v) (motive_2 := fun xs vs _ => AV.flats xs = true → VAs H xs vs)
    (fun v h => by simp [AV.flat] at h)
    (fun {x v} h hf => by
      cases h with
      | int k n => exact .d (.int k n)
      | bool b => exact .d (.bool b)
      | str s => exact .d (.str s)
      | agg => simp [AV.flat] at hf
      | sl A cap vs hv => exfalso; cases x <;> simp_all [AV.flat, D.view])
    (fun h => by simp [AV.flat] at h)
    (fun u A l c h hf => by simp [AV.flat] at hf)
    (fun _ ih hf => .agg (ih (by simpa [AV.flat] using hf))) (fun _ ih hf => .tuple (ih (by simpa [AV.flat] using hf)))
    (fun c o hf => by simp [AV.flat] at hf)
    (fun g o h ha hf => by simp [AV.flat] at hf)
    (fun u g sz i o h hf => by simp [AV.flat] at hf)
    (fun f _ _ _ ih hf => by simp [AV.flat] at hf)
    (fun _ => .nil) (fun _ _ ih1 ih2 hf => by simp only [AV.flats, Bool.and_eq_true] at hf; exact .cons (ih1 hf.1) (ih2 hf.2)) h hf

theorem call_flat {E : Env} {f : FuncId} {args : List AV} {Q : RQ} {G : Gh} {σ : St} {a : Act} {w : World} (hr : Rel G σ a w) {vals : List Value} (hv : VAs G args vals) (hq : ∀ r B' A', Q r B' A' → r.flat = true) (hf : Fn E f (AV.lends σ args) noB noA Q) :
    Calls E.P f vals.toArray w fun e w' => ∃ v r B' A', e = .returned v ∧ Rel G σ a w' ∧ VA G r v ∧ Later G w G w' ∧ KeepB (fun _ => true) σ G w G w' ∧ Q r B' A' := by
  have hS : Sat (Gh.all w) noB noA w := by
    refine ⟨fun b o h => ?_, (fun _ _ h => by cases h), (fun _ _ h => by cases h), hr.s.gl.mono fun b o h => by simp only [Gh.all, hr.s.im b o (.inl h)]⟩
    simp only [Gh.all] at h
    split at h
    · next o' ho => rcases h with h | h <;> cases h; exact ho
    · rcases h with h | h <;> cases h
  refine (hf.2 (Gh.all w) w vals hS (hv.lend hr.s)).mono ?_
  rintro e w' ⟨v, r, H, B', A', rfl, hS', hvr, hL, hQ⟩
  have hheap : ∀ g, g < w.heap.size → w'.heap[g]? = w.heap[g]? := by
    intro g hg
    have hget : w.heap[g]? = some w.heap[g] := Array.getElem?_eq_getElem hg
    rw [hget]
    exact hS'.im g _ (.inl (hL.im g _ (by simp only [Gh.all, hget])))
  exact ⟨v, r, B', A', rfl, hr.same hheap, hvr.flat (hq _ _ _ hQ), ⟨fun _ _ h => h, fun _ _ h => h, hL.os, hL.tape, hL.output, hL.size, fun _ => rfl⟩, fun i x _ hx => ⟨rfl, hheap _ (hr.s.lt_bx hx)⟩, hQ⟩

/-! ### a call that hands in what never changes and gives back what never changes -/
mutual
/-- A value without names. -/
def AV.plain : AV → Bool
  | .d _ => true
  | .nils => true
  | .undef => true
  | .dptr _ => true
  | .agg cs => AV.plains cs
  | .tuple cs => AV.plains cs
  | .fn _ cs => AV.plains cs
  | .own _ => false
  | .ptr _ _ => false
  | .eptr _ _ _ _ => false
def AV.plains : List AV → Bool
  | [] => true
  | c :: cs => AV.plain c && AV.plains cs
end
theorem VA.plain {G H : Gh} (hi : Sub G.im H.im) {x : AV} {v : Value} (h : VA G x v) (hf : x.plain = true) : VA H x v :=
  VA.rec (G := G) (motive_1 := fun x v _ => x.plain = true → VA H x v) (motive_2 := fun xs vs _ => AV.plains xs = true → VAs H xs vs)
    (fun v _ => .undef v) (fun h _ => .d (h.mono hi)) (fun _ => .nils)
    (fun u A l c h hf => by simp [AV.plain] at hf)
    (fun _ ih hf => .agg (ih (by simpa [AV.plain] using hf))) (fun _ ih hf => .tuple (ih (by simpa [AV.plain] using hf)))
    (fun c o hf => by simp [AV.plain] at hf)
    (fun g o h ha _ => .dptr g o (h.mono hi) (ha.mono hi))
    (fun u g sz i o h hf => by simp [AV.plain] at hf)
    (fun f _ _ _ ih hf => .fn f (ih (by simpa [AV.plain] using hf)))
    (fun _ => .nil) (fun _ _ ih1 ih2 hf => by simp only [AV.plains, Bool.and_eq_true] at hf; exact .cons (ih1 hf.1) (ih2 hf.2)) h hf
theorem VAs.plain {G H : Gh} (hi : Sub G.im H.im) : ∀ {x : List AV} {v : List Value}, VAs G x v → AV.plains x = true → VAs H x v
  | [], _, h, _ => by cases h; exact .nil
  | x :: xs, _, h, hf => by
    simp only [AV.plains, Bool.and_eq_true] at hf
    cases h with
    | cons h k => exact .cons (h.plain hi hf.1) (k.plain hi hf.2)
/-- More never changes than before. -/
theorem VA.more {G : Gh} {role : Nat → Role} (hi : ∀ g o, G.role g = .im o → role g = .im o) {x : AV} {v : Value} (h : VA G x v) : VA { G with role := role } x v :=
  h.mono (fun g o hg => im_of.2 (hi g o (im_of.1 hg))) (fun _ _ => rfl) (fun _ _ => rfl)
theorem VAs.more {G : Gh} {role : Nat → Role} (hi : ∀ g o, G.role g = .im o → role g = .im o) : ∀ {x : List AV} {v : List Value}, VAs G x v → VAs { G with role := role } x v
  | [], _, h => by cases h; exact .nil
  | x :: xs, _, h => by
    cases h with
    | cons h k => exact .cons (h.more hi) (k.more hi)
/-- The ghost of a call that is handed no memory to write. -/
def Gh.shut (G : Gh) (w : World) : Gh := { role := fun g => match w.heap[g]? with | some o => (match G.role g with | .im _ => .im o | _ => .hid o) | none => .none, β := fun _ => 0, av := fun _ => Go.undef }
theorem call_mem {E : Env} {f : FuncId} {args : List AV} {Q : RQ} {G : Gh} {σ : St} {a : Act} {w : World} (hr : Rel G σ a w) {vals : List Value} (hv : VAs G args vals) (hp : AV.plains args = true) (hq : ∀ r B' A', Q r B' A' → r.plain = true) (hf : Fn E f args noB noA Q) :
    Calls E.P f vals.toArray w fun e w' => ∃ v r B' A' G2, e = .returned v ∧ Rel G2 σ a w' ∧ VA G2 r v ∧ Later G w G2 w' ∧ KeepB (fun _ => true) σ G w G2 w' ∧ Q r B' A' := by
  have him : ∀ g o, G.role g = .im o → (G.shut w).role g = .im o := fun g o h => by
    simp only [Gh.shut, hr.s.im g o (.inl h), h]
  have hSi : Sub G.im (G.shut w).im := fun g o h => im_of.2 (him g o (im_of.1 h))
  have hS : Sat (G.shut w) noB noA w := by
    refine ⟨fun b o h => ?_, (fun _ _ h => by cases h), (fun _ _ h => by cases h), hr.s.gl.mono him⟩
    simp only [Gh.shut] at h
    split at h
    · next o' ho => split at h <;> rcases h with h | h <;> cases h <;> exact ho
    · rcases h with h | h <;> cases h
  refine (hf.2 (G.shut w) w vals hS (hv.plain hSi hp)).mono ?_
  rintro e w' ⟨v, r, H, B', A', rfl, hS', hvr, hL, hQ⟩
  have hheap : ∀ g, g < w.heap.size → w'.heap[g]? = w.heap[g]? := by
    intro g hg
    have hget : w.heap[g]? = some w.heap[g] := Array.getElem?_eq_getElem hg
    rw [hget]
    have : (G.shut w).role g = .im w.heap[g] ∨ (G.shut w).role g = .hid w.heap[g] := by
      simp only [Gh.shut, hget]
      split
      · exact .inl rfl
      · exact .inr rfl
    rcases this with h | h
    · exact hS'.im g _ (.inl (hL.im g _ h))
    · exact hS'.im g _ (.inr (hL.hid g _ h))
  let role : Nat → Role := fun g => if g < w.heap.size then G.role g else (match H.role g with | .im o => .im o | _ => .none)
  have hlt : ∀ g, g < w.heap.size → role g = G.role g := fun g h => if_pos h
  have hge : ∀ g, ¬ g < w.heap.size → role g = (match H.role g with | .im o => .im o | _ => .none) := fun g h => if_neg h
  have hmore : ∀ g o, G.role g = .im o → role g = .im o := fun g o h => by rw [hlt g (hr.s.lt_im (.inl h))]; exact h
  have hHi : Sub H.im ({ G with role := role } : Gh).im := fun g o h => by
    have h := im_of.1 h
    refine im_of.2 ?_
    show role g = .im o
    by_cases hg : g < w.heap.size
    · rw [hlt g hg]
      have hget : w.heap[g]? = some w.heap[g] := Array.getElem?_eq_getElem hg
      have ho := hS'.im g o (.inl h)
      rw [hheap g hg, hget] at ho
      obtain rfl : w.heap[g] = o := by simpa using ho
      cases hG : G.role g with
      | im o' => have := hr.s.im g o' (.inl hG); rw [hget] at this; cases this; rfl
      | _ =>
        have : (G.shut w).role g = .hid w.heap[g] := by simp only [Gh.shut, hget, hG]
        rw [hL.hid g _ this] at h; cases h
    · rw [hge g hg, h]
  refine ⟨v, r, B', A', { G with role := role }, rfl, ?_, hvr.plain hHi (hq _ _ _ hQ), ⟨fun g o h => hmore g o h, fun g o h => ?_, hL.os, hL.tape, hL.output, hL.size, fun _ => rfl⟩, fun i x _ hx => ⟨rfl, hheap _ (hr.s.lt_bx hx)⟩, hQ⟩
  · refine ⟨hr.n, fun i => (hr.t i).more hmore, hr.df, ?_, ?_, ?_, hr.s.gl.mono hmore⟩
    · intro b o h
      change role b = _ ∨ role b = _ at h
      by_cases hb : b < w.heap.size
      · rw [hlt b hb] at h
        rw [hheap b hb]
        exact hr.s.im b o h
      · rw [hge b hb] at h
        split at h
        · next o' ho => rcases h with h | h <;> cases h; exact hS'.im b o (.inl ho)
        · rcases h with h | h <;> cases h
    · intro i x hx
      obtain ⟨h1, vs, h2, h3⟩ := hr.s.bx i x hx
      have hb := hr.s.lt_bx hx
      refine ⟨?_, vs, ?_, h3.more hmore⟩
      · show role (G.β i) = _
        rw [hlt _ hb]; exact h1
      · show w'.heap[G.β i]? = _
        rw [hheap _ hb]; exact h2
    · intro t x hx
      obtain ⟨h1, sz, es, vs, h2, h3, h4⟩ := hr.s.ar t x hx
      refine ⟨fun g hg => ?_, sz, es, vs, h2, h3.mono (fun g o h => im_of.2 (hmore g o (im_of.1 h))), h4.1, ?_⟩
      · show role g = _
        rw [hlt g (hr.s.lt_ar hx hg)]; exact h1 g hg
      · rcases h4.2 with h5 | ⟨g, cap, cur, h5, h6, h7, h8⟩
        · exact .inl h5
        · exact .inr ⟨g, cap, cur, h5, h6, by rw [hheap g (hr.s.lt_ar hx (by rw [h5]; rfl))]; exact h7, h8⟩
  · show role g = _
    rw [hlt g (hr.s.lt_im (.inr h))]; exact h

section
variable {E : Env} {ops : Array Oper} {rest : List Oper} {o : Oper} {σ : St} {Q : Qs}

/-- What a call's operation does: a function of the program, or a closure. -/
def calleeOf (σ : St) (c : Call) : Option (FuncId × List AV) := match c.callee with
  | .value f => (match σ.ev f with | .fn g caps => some (g, σ.evs c.args.toList ++ caps) | _ => none)
  | _ => none
theorem callee_ok {G : Gh} {a : Act} {w : World} (hr : Rel G σ a w) {c : Call} {f : FuncId} {args : List AV} (h : calleeOf σ c = some (f, args)) (ho : o.op = .call c) (hf : ∀ (as : Array Value) (w : World), (callFunc f as).run E.P w = .ok (.enter f as) w) :
    ∃ vals, VAs G args vals ∧ (execOp a.eval o).run E.P w = .ok (.enter f vals.toArray) w := by
  unfold calleeOf at h
  split at h
  · next g hc =>
    split at h
    · next g' caps hg =>
      cases h
      have hv := hr.ev g
      rw [hg] at hv
      generalize hpv : a.eval g = pv at hv
      cases hv with | @fn _ _ cv hcv =>
      refine ⟨c.args.toList.map a.eval ++ cv, (hr.evs _).append hcv, ?_⟩
      have e1 : (c.args.map a.eval ++ cv.toArray) = (c.args.toList.map a.eval ++ cv).toArray := by
        apply Array.ext'; simp
      simp only [execOp, ho, resolve, hc, hpv, Deferred.ofValue, Sem.run_bind, Sem.run_pure, Result.andThen_ok, invoke]
      simp only [Array.empty_append, e1]
      exact hf _ _
    · cases h
  · cases h

theorem Step.callFlat {c : Call} {f : FuncId} {args : List AV} {R : RQ} {fp : BId → Bool} (ho : o.op = .call c) (hc : calleeOf σ c = some (f, args)) (hn : okd σ.n o.dst = true)
    (hf : Fn E f (AV.lends σ args) noB noA R) (h : ∀ r B' A', R r B' A' → r.flat = true) : Step E o σ fp (fun σ' => ∃ r B' A', R r B' A' ∧ σ' = σ.put o.dst r) := by
  intro G a w hr K Qx hK
  obtain ⟨vals, h1, h2⟩ := callee_ok (E := E) hr hc ho hf.1
  unfold Oper.wp
  rw [h2]
  refine Calls.mono (call_flat hr h1 h hf) ?_
  rintro e w' ⟨v, r, B', A', rfl, k1, k2, k3, k4, k5⟩
  exact hK _ _ _ _ (k1.put k2 hn) k3 (fun i x _ hx => k4 i x rfl hx) ⟨r, B', A', k5, rfl⟩
theorem Step.callMem {c : Call} {f : FuncId} {args : List AV} {R : RQ} {fp : BId → Bool} (ho : o.op = .call c) (hc : calleeOf σ c = some (f, args)) (hn : okd σ.n o.dst = true) (hp : AV.plains args = true)
    (hf : Fn E f args noB noA R) (h : ∀ r B' A', R r B' A' → r.plain = true) : Step E o σ fp (fun σ' => ∃ r B' A', R r B' A' ∧ σ' = σ.put o.dst r) := by
  intro G a w hr K Qx hK
  obtain ⟨vals, h1, h2⟩ := callee_ok (E := E) hr hc ho hf.1
  unfold Oper.wp
  rw [h2]
  refine Calls.mono (call_mem hr h1 hp h hf) ?_
  rintro e w' ⟨v, r, B', A', G2, rfl, k1, k2, k3, k4, k5⟩
  exact hK _ _ _ _ (k1.put k2 hn) k3 (fun i x hi hx => k4 i x rfl hx) ⟨r, B', A', k5, rfl⟩
def apartB (fp : BId → Bool) : List BId → Bool
  | [] => true
  | b :: r => !fp b && apartB fp r
theorem apartB_ok {fp : BId → Bool} : ∀ {bs : List BId} {i : BId}, apartB fp bs = true → fp i = true → (idx bs i).isNone = true
  | [], i, _, _ => rfl
  | b :: r, i, h, hi => by
    simp only [apartB, Bool.and_eq_true, Bool.not_eq_true'] at h
    have hne : b ≠ i := by
      rintro rfl
      rw [h.1] at hi
      cases hi
    have := apartB_ok h.2 hi
    simp only [Option.isNone_iff_eq_none] at this
    simp [idx, hne, this]
theorem Step.call {c : Call} {f : FuncId} {args : List AV} {R : RQ} {fp : BId → Bool} (bs : List BId) (ts : List Tag) (d : Nat) (ho : o.op = .call c) (hc : calleeOf σ c = some (f, args)) (hn : okd σ.n o.dst = true)
    (hchk : (nodup bs && nodup ts && aliveB σ bs && noTmp d ts && apartB fp bs) = true) (hf : Fn E f (AV.ups bs ts args) (upB σ bs ts) (upA σ ts) R) :
    Step E o σ fp (fun σ' => ∃ r B' A', R r B' A' ∧ σ' = (σ.recv bs ts d B' A').put o.dst (r.down bs ts d)) := by
  simp only [Bool.and_eq_true] at hchk
  intro G a w hr K Qx hK
  obtain ⟨vals, h1, h2⟩ := callee_ok (E := E) hr hc ho hf.1
  unfold Oper.wp
  rw [h2]
  refine Calls.mono (call_core hr h1 bs ts d hchk.1.1.1.1 hchk.1.1.1.2 hchk.1.1.2 hchk.1.2 hf) ?_
  rintro e w' ⟨v, r, B', A', G2, rfl, k1, k2, k3, k4, k5⟩
  exact hK _ _ _ _ (k1.put k2 hn) k3 (fun i x hi hx => k4 i x (apartB_ok hchk.2 hi) hx) ⟨r, B', A', k5, rfl⟩
end
end Go.Proofs.YthmbdoegcpicbaaDoor.Abs

/-! ## AbsQ -/
namespace Go.Proofs.YthmbdoegcpicbaaDoor.Abs
open Go.Proofs.YthmbdoegcpicbaaDoorW.PrintLast

/-- What a region's loads lean on: what never changes, and the variables of fp. -/
def S0 (G0 : Gh) (w0 : World) (fp : List BId) (w : World) : Prop := (∀ g o, G0.role g = .im o → w.heap[g]? = some o) ∧ ∀ i ∈ fp, w.heap[G0.β i]? = w0.heap[G0.β i]?
def NoPanic (Q : Qs) : Prop := ∀ c σ, ¬ Q (.panic c) σ
def inL (fp : List BId) (i : BId) : Bool := (idx fp i).isSome

section
variable (E : Env) (ops : Array Oper)
/-- From here on, in whatever order; cl: nothing has been made or written yet. -/
def TA (fp : List BId) (ds : List Nat) (cl : Bool) (fuel : Nat) (l : Array Bool) (σ : St) (Q : Qs) : Prop :=
  ∀ G0 w0 G a w, Rel G σ a w → Later G0 w0 G w → (cl = true → ∀ g o, G.role g = .im o → G0.role g = .im o) → (∀ i ∈ fp, G.β i = G0.β i) → S0 G0 w0 fp w →
    wpAnyLast E.P .any ops (Post G0 w0 Q) (S0 G0 w0 fp) ds fuel l a w
/-- Behind a store that the region's loads may lean on. -/
def TL (ds : List Nat) (fuel : Nat) (l : Array Bool) (σ : St) (Q : Qs) : Prop :=
  ∀ (S : World → Prop) G0 w0 G a w, Rel G σ a w → Later G0 w0 G w → wpAnyLast E.P .any ops (Post G0 w0 Q) S ds fuel l a w
end

section
variable {E : Env} {ops : Array Oper} {o : Oper} {σ : St} {Q : Qs} {fp : List BId} {ds : List Nat} {cl : Bool} {fuel : Nat} {l : Array Bool}

theorem Tri.draw {id n : Nat} {ol : List Oper} (fp : List BId) (ds : List Nat) (l : Array Bool) (hn : ol.toArray.size = n) (hl : Array.replicate n false = l) (h : TA E ol.toArray fp ds true n l σ Q) : Tri E (.region id ol.toArray true) σ Q := by
  intro G a w hr
  have hd : Rel G σ a w.drew := hr.same (fun _ _ => rfl)
  have hL : Later G w G w.drew := ⟨fun _ _ h => h, fun _ _ h => h, rfl, rfl, rfl, Nat.le_refl _, fun _ => rfl⟩
  refine start_ (S := S0 G w fp) (ds := ds) l E.mixed hn hl ⟨fun g o hg => hr.s.im g o (.inl hg), fun i _ => rfl⟩ (fun hS => ?_)
  exact h G w G a w.drew hd hL (fun _ _ _ h => h) (fun _ _ => rfl) hS
theorem Tri.drawA {id : Nat} {oa : Array Oper} (ol : List Oper) (e : oa = ol.toArray) (h : Tri E (.region id ol.toArray true) σ Q) : Tri E (.region id oa true) σ Q := e ▸ h

theorem panic_put {G0 : Gh} {w0 : World} (hp : NoPanic Q) (d : Option Tmp) (v : Value) : ∀ c a w, Post G0 w0 Q (.panic c) (a.put d v) w → Post G0 w0 Q (.panic c) a w := fun c a w ⟨G', σ', h1, h2, h3⟩ => (hp c σ' h3).elim

def isLoad : Op → Bool
  | .load _ _ => true
  | _ => false
theorem opC_free {G : Gh} {op : Op} {w w2 : World} (h : isLoad op = false) : OpC G σ op w w2 := by
  unfold OpC
  split
  · cases h
  · trivial

/-- A value that hangs on no memory. -/
theorem TA.pure {i : Nat} {p : Prop} {r : AV} (l' : Array Bool) (hi : ops[i]? = some o) (hc : anyB .any ops l l' i = true) (hpn : NoPanic Q) (hg : gOk ops σ o.guard = some true) (hv : opv E.Γ σ o.op = some (p, r)) (hd : okd σ.n o.dst = true) (hnl : isLoad o.op = false) (hp : p)
    (h : TA E ops fp ds cl fuel l' (σ.put o.dst r) Q) : TA E ops fp ds cl (fuel + 1) l σ Q := by
  intro G0 w0 G a w hr hL hcl hβ hS
  obtain ⟨v, h1, h2⟩ := opv_ok E.ok hv hp hr
  exact pure_ l' hi rfl hc (panic_put hpn _ _) (.inl ⟨gOk_ok hg hr, fun w2 => h2 w2 (opC_free hnl)⟩) rfl (h G0 w0 G _ w (hr.put h1 hd) hL hcl hβ hS)
theorem TL.pure {i : Nat} {p : Prop} {r : AV} (l' : Array Bool) (hi : ops[i]? = some o) (hc : anyB .any ops l l' i = true) (hpn : NoPanic Q) (hg : gOk ops σ o.guard = some true) (hv : opv E.Γ σ o.op = some (p, r)) (hd : okd σ.n o.dst = true) (hnl : isLoad o.op = false) (hp : p)
    (h : TL E ops ds fuel l' (σ.put o.dst r) Q) : TL E ops ds (fuel + 1) l σ Q := by
  intro S G0 w0 G a w hr hL
  obtain ⟨v, h1, h2⟩ := opv_ok E.ok hv hp hr
  exact pure_ l' hi rfl hc (panic_put hpn _ _) (.inl ⟨gOk_ok hg hr, fun w2 => h2 w2 (opC_free hnl)⟩) rfl (h S G0 w0 G _ w (hr.put h1 hd) hL)
/-- An operation that is not wanted. -/
theorem TA.skip {i : Nat} (l' : Array Bool) (hi : ops[i]? = some o) (hc : anyB .any ops l l' i = true) (hpn : NoPanic Q) (hg : gOk ops σ o.guard = some false) (hd : okd σ.n o.dst = true)
    (h : TA E ops fp ds cl fuel l' (σ.put o.dst .undef) Q) : TA E ops fp ds cl (fuel + 1) l σ Q := by
  intro G0 w0 G a w hr hL hcl hβ hS
  exact pure_ (v := Go.undef) l' hi rfl hc (panic_put hpn _ _) (.inr ⟨gOk_ok hg hr, rfl⟩) rfl (h G0 w0 G _ w (hr.put (.undef _) hd) hL hcl hβ hS)
theorem TL.skip {i : Nat} (l' : Array Bool) (hi : ops[i]? = some o) (hc : anyB .any ops l l' i = true) (hpn : NoPanic Q) (hg : gOk ops σ o.guard = some false) (hd : okd σ.n o.dst = true)
    (h : TL E ops ds fuel l' (σ.put o.dst .undef) Q) : TL E ops ds (fuel + 1) l σ Q := by
  intro S G0 w0 G a w hr hL
  exact pure_ (v := Go.undef) l' hi rfl hc (panic_put hpn _ _) (.inr ⟨gOk_ok hg hr, rfl⟩) rfl (h S G0 w0 G _ w (hr.put (.undef _) hd) hL)
/-- May this load be taken first? -/
def tk (cl : Bool) (fp : List BId) (σ : St) : Op → Bool
  | .load _ x => (match σ.ev x with | .ptr b _ => inL fp b | .dptr _ => cl | _ => false)
  | _ => true
theorem mem_inL {fp : List BId} {i : BId} (h : inL fp i = true) : i ∈ fp := by
  unfold inL at h
  obtain ⟨n, hn⟩ := Option.isSome_iff_exists.1 h
  exact List.mem_of_getElem? (idx_get hn)
theorem inL_mem {fp : List BId} {i : BId} (h : i ∈ fp) : inL fp i = true := by
  unfold inL
  cases hi : idx fp i with
  | some _ => rfl
  | none =>
    obtain ⟨n, hn, rfl⟩ := List.getElem_of_mem h
    exact absurd (List.getElem?_eq_getElem hn) (idx_none hi n)
theorem TA.take {i : Nat} {p : Prop} {r : AV} (l' : Array Bool) (hi : ops[i]? = some o) (hc : takeB .any ops ds l l' i = true) (hpn : NoPanic Q) (hg : gOk ops σ o.guard = some true) (hv : opv E.Γ σ o.op = some (p, r)) (hd : okd σ.n o.dst = true) (ht : tk cl fp σ o.op = true) (hp : p)
    (h : TA E ops fp ds cl fuel l' (σ.put o.dst r) Q) : TA E ops fp ds cl (fuel + 1) l σ Q := by
  intro G0 w0 G a w hr hL hcl hβ hS
  obtain ⟨v, h1, h2⟩ := opv_ok E.ok hv hp hr
  refine take_ l' hi rfl hc (panic_put hpn _ _) (.inl ⟨gOk_ok hg hr, fun w2 hS2 => h2 w2 ?_⟩) hS rfl (h G0 w0 G _ w (hr.put h1 hd) hL hcl hβ hS)
  unfold OpC
  split
  · next x e =>
    rw [e] at ht
    unfold LoadC
    split
    · next b q hb =>
      simp only [tk, hb] at ht
      have hm := mem_inL ht
      rw [hβ b hm, hS2.2 b hm, hS.2 b hm]
    · next d hb =>
      simp only [tk, hb] at ht
      exact fun g o hg => hS2.1 g o (hcl ht g o hg)
    · next hb => simp [tk, hb] at ht
    · trivial
  · trivial
/-- One operation alone may come up: it is carried out. -/
theorem TA.one {i : Nat} {R : St → Prop} (l' : Array Bool) (hi : ops[i]? = some o) (hc : readyB .any ops l l' i = true) (hd : i ∉ ds) (hg : gOk ops σ o.guard = some true) (hal : aliveB σ fp = true) (hs : Step E o σ (inL fp) R)
    (h : ∀ σ', R σ' → TA E ops fp ds false fuel l' σ' Q) : TA E ops fp ds cl (fuel + 1) l σ Q := by
  intro G0 w0 G a w hr hL hcl hβ hS
  refine one_ l' hi rfl hc hd (fun K hK => ?_)
  rw [if_pos (gOk_ok hg hr)]
  refine hs G a w hr K _ fun G' σ' a' w' h1 h2 h3 h4 => ?_
  have hb : ∀ i ∈ fp, G'.β i = G.β i ∧ w'.heap[G.β i]? = w.heap[G.β i]? := fun i hi => by
    obtain ⟨n, hn, rfl⟩ := List.getElem_of_mem hi
    obtain ⟨x, hx⟩ := aliveB_get hal (List.getElem?_eq_getElem hn)
    exact h3 _ x (inL_mem hi) hx
  have hS' : S0 G0 w0 fp w' := ⟨fun g o hg => h1.s.im g o (.inl (h2.im g o (hL.im g o hg))), fun i hi => by
    have := (hb i hi).2
    rw [hβ i hi] at this
    rw [this]
    exact hS.2 i hi⟩
  exact hK.out a' w' hS' fun _ => h σ' h4 G0 w0 G' a' w' h1 (hL.trans h2) (fun e => by cases e) (fun i hi => (hb i hi).1.trans (hβ i hi)) hS'
/-- One of the last: what the loads lean on may be written. -/
theorem TA.last {i : Nat} {R : St → Prop} {fpx : BId → Bool} (l' : Array Bool) (hi : ops[i]? = some o) (hc : readyB .any ops l l' i = true) (hd : i ∈ ds) (hg : gOk ops σ o.guard = some true) (hs : Step E o σ fpx R)
    (h : ∀ σ', R σ' → TL E ops ds fuel l' σ' Q) : TA E ops fp ds cl (fuel + 1) l σ Q := by
  intro G0 w0 G a w hr hL hcl hβ hS
  refine last_ l' hi rfl hc hd (fun K hK => ?_)
  rw [if_pos (gOk_ok hg hr)]
  exact hs G a w hr K _ fun G' σ' a' w' h1 h2 h3 h4 => hK.out a' w' (h σ' h4 _ G0 w0 G' a' w' h1 (hL.trans h2))
theorem TL.last {i : Nat} {R : St → Prop} {fpx : BId → Bool} (l' : Array Bool) (hi : ops[i]? = some o) (hc : readyB .any ops l l' i = true) (hd : i ∈ ds) (hg : gOk ops σ o.guard = some true) (hs : Step E o σ fpx R)
    (h : ∀ σ', R σ' → TL E ops ds fuel l' σ' Q) : TL E ops ds (fuel + 1) l σ Q := by
  intro S G0 w0 G a w hr hL
  refine last_ l' hi rfl hc hd (fun K hK => ?_)
  rw [if_pos (gOk_ok hg hr)]
  exact hs G a w hr K _ fun G' σ' a' w' h1 h2 h3 h4 => hK.out a' w' (h σ' h4 _ G0 w0 G' a' w' h1 (hL.trans h2))
theorem TA.done {n : Nat} (hr : (Region.ready .any ops l == []) = true) (h : Q .normal σ) : TA E ops fp ds cl n l σ Q := fun G0 w0 G a w hrel hL _ _ _ => done_ hr ⟨G, σ, hrel, hL, h⟩
theorem TL.done {n : Nat} (hr : (Region.ready .any ops l == []) = true) (h : Q .normal σ) : TL E ops ds n l σ Q := fun S G0 w0 G a w hrel hL => done_ hr ⟨G, σ, hrel, hL, h⟩
end
end Go.Proofs.YthmbdoegcpicbaaDoor.Abs

/-! ## AbsR -/
namespace Go.Proofs.YthmbdoegcpicbaaDoor.Abs

def look : List (Nat × TI) → Nat → Option TI
  | [], _ => none
  | (n, i) :: r, t => if Nat.beq n t then some i else look r t
inductive AllOk (P : Program) : List (Nat × TI) → Prop
  | nil : AllOk P []
  | cons {n : Nat} {i : TI} {r : List (Nat × TI)} (h : TyOk P n i) (t : AllOk P r) : AllOk P ((n, i) :: r)
theorem look_ok {P : Program} : ∀ {l : List (Nat × TI)}, AllOk P l → ∀ t i, look l t = some i → TyOk P t i
  | [], _, t, i, h => by cases h
  | (n, j) :: r, ha, t, i, h => by
    cases ha with | cons h1 h2 =>
    simp only [look] at h
    split at h
    · next e =>
      cases h
      obtain rfl := Nat.eq_of_beq_eq_true e
      exact h1
    · exact look_ok h2 t i h

/-! ### freezing -/
mutual
/-- The owned slice t as what it holds. -/
def AV.frz (t : Tag) (c : D) : AV → AV
  | .own u => if decide (u = t) then .d c else .own u
  | .eptr u sz i o => if decide (u = t) then .undef else .eptr u sz i o
  | .agg cs => .agg (AV.frzs t c cs)
  | .tuple cs => .tuple (AV.frzs t c cs)
  | .fn f cs => .fn f (AV.frzs t c cs)
  | .ptr b o => .ptr b o
  | .undef => .undef
  | .d x => .d x
  | .nils => .nils
  | .dptr ds => .dptr ds
def AV.frzs (t : Tag) (c : D) : List AV → List AV
  | [] => []
  | x :: xs => AV.frz t c x :: AV.frzs t c xs
end
def St.frz (σ : St) (t : Tag) (c : D) : St :=
  { σ with tmps := fun i => (σ.tmps i).frz t c,
           boxes := fun i => (match σ.boxes i with | some x => some { x with cs := AV.frzs t c x.cs } | none => none),
           arrs := fun u => if decide (u = t) then none else σ.arrs u }
theorem VA.frz {G H : Gh} {t : Tag} {c : D} (hi : Sub G.im H.im) (hb : H.β = G.β) (ha : H.av = G.av) (hc : VD H.im c (G.av t)) {x : AV} {v : Value} (h : VA G x v) : VA H (x.frz t c) v :=
  VA.rec (G := G) (motive_1 := fun x v _ => VA H (x.frz t c) v) (motive_2 := fun xs vs _ => VAs H (AV.frzs t c xs) vs)
    (fun v => by simpa [AV.frz] using VA.undef v) (fun h => by simpa [AV.frz] using VA.d (h.mono hi)) (by simpa [AV.frz] using VA.nils)
    (fun u A l k h => by
      simp only [AV.frz]
      split
      · next hu =>
        have hu := of_decide_eq_true hu
        subst hu
        rw [h] at hc
        exact .d hc
      · exact .own u A l k (by rw [ha]; exact h))
    (fun _ ih => by simpa [AV.frz] using VA.agg ih) (fun _ ih => by simpa [AV.frz] using VA.tuple ih)
    (fun b o => by simp only [AV.frz]; rw [← hb]; exact .ptr b o)
    (fun g o h ha => by simpa [AV.frz] using VA.dptr g o (h.mono hi) (ha.mono hi))
    (fun u g sz i o h => by
      simp only [AV.frz]
      split
      · exact .undef _
      · exact .eptr u g sz i o (by rw [ha]; exact h))
    (fun f _ _ _ ih => by simpa [AV.frz] using VA.fn f ih)
    (by simpa [AV.frzs] using VAs.nil) (fun _ _ ih1 ih2 => by simpa [AV.frzs] using VAs.cons ih1 ih2) h
theorem VAs.frz {G H : Gh} {t : Tag} {c : D} (hi : Sub G.im H.im) (hb : H.β = G.β) (ha : H.av = G.av) (hc : VD H.im c (G.av t)) : ∀ {x : List AV} {v : List Value}, VAs G x v → VAs H (AV.frzs t c x) v
  | [], _, h => by cases h; simpa [AV.frzs] using VAs.nil
  | x :: xs, _, h => by
    cases h with
    | cons h k => simpa [AV.frzs] using VAs.cons (h.frz hi hb ha hc) (k.frz hi hb ha hc)
/-- One state tells less than another; the variables stay where they are. -/
def WkB (σ σ' : St) : Prop := ∀ G a w, Rel G σ a w → ∃ G', Rel G' σ' a w ∧ Later G w G' w ∧ G'.β = G.β
theorem WkB.wk {σ σ' : St} (h : WkB σ σ') : Wk σ σ' := fun G a w hr => by
  obtain ⟨G', h1, h2, _⟩ := h G a w hr
  exact ⟨G', h1, h2⟩
theorem WkB.trans {σ σ' σ'' : St} (h : WkB σ σ') (k : WkB σ' σ'') : WkB σ σ'' := fun G a w hr => by
  obtain ⟨G1, h1, h2, h3⟩ := h G a w hr
  obtain ⟨G2, k1, k2, k3⟩ := k G1 a w h1
  exact ⟨G2, k1, h2.trans k2, k3.trans h3⟩
/-- What was owned is never written again, and may be told by what it holds. -/
theorem WkB.frz {σ : St} {t : Tag} {e : TypeId} {c : D} {sz : Nat} (h : σ.arrs t = some ⟨e, c⟩) (hc : c.esz = some sz) : WkB σ (σ.frz t c) := by
  intro G a w hr
  obtain ⟨A, cap, vs, h1, h2, h3, h4, h5, h6, h7, h8⟩ := hr.s.arr h hc
  have build : ∀ H : Gh, H.β = G.β → H.av = G.av → (∀ g o, G.role g = .im o → H.role g = .im o) → (∀ g o, G.role g = .hid o → H.role g = .hid o) → (∀ g o, (H.role g = .im o ∨ H.role g = .hid o) → w.heap[g]? = some o) →
      (∀ g i, G.role g = .box i → H.role g = .box i) → (∀ g u, u ≠ t → G.role g = .arr u → H.role g = .arr u) → VD H.im c (G.av t) → ∃ G', Rel G' (σ.frz t c) a w ∧ Later G w G' w ∧ G'.β = G.β := by
    intro H hb ha him hhid himw hbox harr hvd
    have hsub : Sub G.im H.im := fun g o hg => im_of.2 (him g o (im_of.1 hg))
    refine ⟨H, ⟨hr.n, fun i => (hr.t i).frz hsub hb ha hvd, hr.df, himw, ?_, ?_, hr.s.gl.mono him⟩, ⟨him, hhid, rfl, rfl, rfl, Nat.le_refl _, fun _ => by rw [hb]⟩, hb⟩
    · intro i x hx
      simp only [St.frz] at hx
      split at hx
      · next y hy =>
        cases hx
        obtain ⟨k1, us, k2, k3⟩ := hr.s.bx i y hy
        rw [hb]
        exact ⟨hbox _ _ k1, us, k2, k3.frz hsub hb ha hvd⟩
      · cases hx
    · intro u x hx
      simp only [St.frz] at hx
      split at hx
      · cases hx
      · next hu =>
        have hu : u ≠ t := fun e => hu (by simp [e])
        obtain ⟨k1, sz', es, us, k2, k3, k4⟩ := hr.s.ar u x hx
        rw [ha]
        exact ⟨fun g hg => harr g u hu (k1 g hg), sz', es, us, k2, k3.mono hsub, k4⟩
  rcases h8 with ⟨rfl, h9, h10⟩ | ⟨g, cur, rfl, h9, h10, h11⟩
  · refine build G rfl rfl (fun _ _ h => h) (fun _ _ h => h) (fun g o h => hr.s.im g o h) (fun _ _ h => h) (fun _ _ _ h => h) ?_
    rw [h1]
    exact VD.slice_mk hc none cap vs h2 h3 h4 h5 (.inl h10)
  · have hne : ∀ {k : Nat} {r : Role}, G.role k = r → r ≠ .arr t → k ≠ g := fun hk hr e => hr (by rw [← hk, e]; exact h10)
    have him : ∀ k o, G.role k = .im o → updR G.role g (.im (.cells cur e (0, 0))) k = .im o := fun k o hk => by rw [updR_ne _ _ (hne hk (by simp))]; exact hk
    refine build { role := updR G.role g (.im (.cells cur e (0, 0))), β := G.β, av := G.av } rfl rfl him (fun k o hk => by show updR _ _ _ _ = _; rw [updR_ne _ _ (hne hk (by simp))]; exact hk) ?_
      (fun k i hk => by show updR _ _ _ _ = _; rw [updR_ne _ _ (hne hk (by simp))]; exact hk) (fun k u hu hk => by show updR _ _ _ _ = _; rw [updR_ne _ _ (hne hk (by simpa using hu))]; exact hk) ?_
    · intro k o hk
      change updR G.role g _ k = _ ∨ updR G.role g _ k = _ at hk
      by_cases hkg : k = g
      · subst hkg
        rw [updR_same] at hk
        rcases hk with hk | hk <;> cases hk
        exact h9
      · rw [updR_ne _ _ hkg] at hk
        exact hr.s.im k o hk
    · rw [h1]
      refine VD.slice_mk hc _ cap vs h2 h3 h4 (fun i hi => (h5 i hi).mono fun k o hk => im_of.2 (him k o (im_of.1 hk))) (.inr ?_)
      exact ⟨g, 0, cur, e, (0, 0), rfl, im_of.2 (updR_same _ _ _), fun j v hv => by rw [Nat.zero_add]; exact h11 j v hv⟩
theorem Wk.frz {σ : St} {t : Tag} {e : TypeId} {c : D} {sz : Nat} (h : σ.arrs t = some ⟨e, c⟩) (hc : c.esz = some sz) : Wk σ (σ.frz t c) := (WkB.frz h hc).wk
end Go.Proofs.YthmbdoegcpicbaaDoor.Abs

/-! ## AbsS -/
namespace Go.Proofs.YthmbdoegcpicbaaDoor.Abs

/-! ### a value written out -/
def nfD {β : Type} (x : D) (k : D → Option β) : Option β := match x with
  | .int a n => k (.int a n)
  | .bool b => k (.bool b)
  | .str s => k (.str s)
  | .agg ds => k (.agg ds)
  | .ints a l => k (.ints a l)
  | .strs l => k (.strs l)
  | .slice sz ds => k (.slice sz ds)
theorem nfD_eq {β : Type} (x : D) (k : D → Option β) : nfD x k = k x := by cases x <;> rfl
def nfDs {β : Type} (xs : List D) (k : List D → Option β) : Option β := match xs with
  | [] => k []
  | x :: r => nfD x fun x' => nfDs r fun r' => k (x' :: r')
theorem nfDs_eq {β : Type} : ∀ (xs : List D) (k : List D → Option β), nfDs xs k = k xs
  | [], k => rfl
  | x :: r, k => by simp only [nfDs, nfD_eq, nfDs_eq r]
mutual
def nf {β : Type} (x : AV) (k : AV → Option β) : Option β := match x with
  | .undef => k .undef
  | .d y => nfD y fun y' => k (.d y')
  | .nils => k .nils
  | .own t => (match t with | .tmp d j => k (.own (.tmp d j)) | .ext l => k (.own (.ext l)) | .ret j => k (.own (.ret j)))
  | .agg cs => nfs cs fun cs' => k (.agg cs')
  | .tuple cs => nfs cs fun cs' => k (.tuple cs')
  | .ptr b o => (match b with | .loc d => k (.ptr (.loc d) o) | .out n => k (.ptr (.out n) o))
  | .dptr ds => nfDs ds fun ds' => k (.dptr ds')
  | .eptr t sz i o => k (.eptr t sz i o)
  | .fn f cs => nfs cs fun cs' => k (.fn f cs')
def nfs {β : Type} (xs : List AV) (k : List AV → Option β) : Option β := match xs with
  | [] => k []
  | x :: r => nf x fun x' => nfs r fun r' => k (x' :: r')
end
mutual
theorem nf_eq {β : Type} : ∀ (x : AV) (k : AV → Option β), nf x k = k x
  | .undef, k => rfl
  | .d y, k => by simp only [nf, nfD_eq]
  | .nils, k => rfl
  | .own t, k => by cases t <;> rfl
  | .agg cs, k => by simp only [nf, nfs_eq cs]
  | .tuple cs, k => by simp only [nf, nfs_eq cs]
  | .ptr b o, k => by cases b <;> rfl
  | .dptr ds, k => by simp only [nf, nfDs_eq]
  | .eptr t sz i o, k => rfl
  | .fn f cs, k => by simp only [nf, nfs_eq cs]
theorem nfs_eq {β : Type} : ∀ (xs : List AV) (k : List AV → Option β), nfs xs k = k xs
  | [], k => rfl
  | x :: r, k => by simp only [nfs, nf_eq x, nfs_eq r]
end
def opvN (Γ : TypeId → Option TI) (σ : St) (op : Op) : Option (Prop × AV) := match opv Γ σ op with
  | some (p, r) => nf r fun r' => some (p, r')
  | none => none
theorem opvN_eq {Γ : TypeId → Option TI} {σ : St} {op : Op} {x : Prop × AV} (h : opvN Γ σ op = some x) : opv Γ σ op = some x := by
  unfold opvN at h
  split at h
  · next p r e => rw [nf_eq] at h; rw [e]; exact h
  · cases h
def nfc (x : Option (List AV)) : Option (List AV) := match x with
  | some cs => nfs cs fun cs' => some cs'
  | none => none
theorem nfc_eq {x : Option (List AV)} {cs : List AV} (h : nfc x = some cs) : x = some cs := by
  unfold nfc at h
  split at h
  · rw [nfs_eq] at h; cases h; rfl
  · cases h

/-- A contract that tells the very value, of a function that gives back no memory. -/
def FnV (E : Env) (f : FuncId) (args : List AV) (r : AV) : Prop := Fn E f args noB noA fun r' _ _ => r' = r

section
variable {E : Env} {ops : Array Oper} {rest : List Oper} {o : Oper} {σ : St} {Q : Qs} {d : Nat}

theorem TriOps.v {p : Prop} {r : AV} (hdst : o.dst = some d) (hg : gOk ops σ o.guard = some true) (hv : opvN E.Γ σ o.op = some (p, r)) (hd : Nat.ble (d + 1) σ.n = true) (hp : p) (h : TriOps E ops rest (σ.put (some d) r) Q) : TriOps E ops (o :: rest) σ Q :=
  TriOps.val hg (opvN_eq hv) (by rw [hdst]; exact hd) hp (by rw [hdst]; exact h)
theorem TriOps.s (hdst : o.dst = some d) (hg : gOk ops σ o.guard = some false) (hd : Nat.ble (d + 1) σ.n = true) (h : TriOps E ops rest (σ.put (some d) .undef) Q) : TriOps E ops (o :: rest) σ Q :=
  TriOps.skip hg (by rw [hdst]; exact hd) (by rw [hdst]; exact h)
theorem TriOps.s0 (hdst : o.dst = none) (hg : gOk ops σ o.guard = some false) (h : TriOps E ops rest σ Q) : TriOps E ops (o :: rest) σ Q :=
  TriOps.skip hg (by rw [hdst]; rfl) (by rw [hdst]; exact h)
/-- A call that gives back a plain value. -/
theorem TriOps.c {c : Call} {f : FuncId} {args : List AV} {r : AV} (hop : o.op = .call c) (hdst : o.dst = some d) (hg : gOk ops σ o.guard = some true) (hc : calleeOf σ c = some (f, args)) (hd : Nat.ble (d + 1) σ.n = true) (hf : FnV E f (AV.lends σ args) r) (hr : r.flat = true)
    (h : TriOps E ops rest (σ.put (some d) r) Q) : TriOps E ops (o :: rest) σ Q :=
  TriOps.eff (fp := nofp) hg (Step.callFlat hop hc (by rw [hdst]; exact hd) hf (fun r' _ _ e => by rw [e]; exact hr)) (by rintro σ' ⟨r', B', A', rfl, rfl⟩; rw [hdst]; exact h)
theorem Fn.v {f : FuncId} {fn : Func} {c : Code} {args : List AV} {r : AV} (hf : E.P.funcs[f]? = some fn) (hb : fn.body = some c) (hname : (fn.name == "runtime.NumGoroutine") = false) (hn : Nat.ble args.length fn.ntmps = true)
    (h : Tri E c (enter fn.ntmps args noB noA) (retQ E.Γ fn.results.toList fun r' _ _ => r' = r)) : FnV E f args r := Fn.intro hf hb hname hn h
/-- The end of a function that gives back a plain value. -/
theorem retV {Γ : TypeId → Option TI} {rs : List ResultVar} {r r' : AV} (h : resv Γ σ rs = some r') (e : r' = r) : retQ Γ rs (fun r' _ _ => r' = r) .ret σ := ⟨σ, r', r', Wk.refl σ, h, AV.Le.refl _, e⟩
theorem retL {Γ : TypeId → Option TI} {rs : List ResultVar} {r r' : AV} (h : resv Γ σ rs = some r') (e : AV.Le r' r) : retQ Γ rs (fun r' _ _ => r' = r) .ret σ := ⟨σ, r', r, Wk.refl σ, h, e, rfl⟩
/-- Arguments told less. -/
theorem Fn.le {f : FuncId} {args args' : List AV} {B : BId → Option Box} {A : Tag → Option Arr} {R : RQ} (h : AV.Les args args') (k : Fn E f args' B A R) : Fn E f args B A R := ⟨k.1, fun G w vals hs hv => k.2 G w vals hs (h G vals hv)⟩
end
end Go.Proofs.YthmbdoegcpicbaaDoor.Abs

/-! ## AbsT -/
namespace Go.Proofs.YthmbdoegcpicbaaDoor.Abs

def tm : List (Nat × AV) → Nat → AV
  | [], _ => .undef
  | (k, v) :: r, i => bif Nat.beq i k then v else tm r i
def bm : List (BId × Box) → BId → Option Box
  | [], _ => none
  | (k, v) :: r, i => bif decide (i = k) then some v else bm r i
def am : List (Tag × Arr) → Tag → Option Arr
  | [], _ => none
  | (k, v) :: r, i => bif decide (i = k) then some v else am r i
/-- A state written out. -/
def stt (n : Nat) (l : List (Nat × AV)) (bl : List (BId × Box) := []) (al : List (Tag × Arr) := []) : St := { n := n, tmps := tm l, boxes := bm bl, arrs := am al }
def agT (f : Nat → AV) : List (Nat × AV) → Prop
  | [] => True
  | (k, v) :: r => f k = v ∧ agT f r
def agB (f : BId → Option Box) : List (BId × Box) → Prop
  | [] => True
  | (k, v) :: r => f k = some v ∧ agB f r
def agA (f : Tag → Option Arr) : List (Tag × Arr) → Prop
  | [] => True
  | (k, v) :: r => f k = some v ∧ agA f r
theorem agT_ok {f : Nat → AV} : ∀ {l : List (Nat × AV)}, agT f l → ∀ i, tm l i = .undef ∨ tm l i = f i
  | [], _, i => .inl rfl
  | (k, v) :: r, h, i => by
    simp only [tm]
    cases hb : Nat.beq i k
    · exact agT_ok h.2 i
    · have := Nat.eq_of_beq_eq_true hb
      subst this
      exact .inr h.1.symm
theorem agB_ok {f : BId → Option Box} : ∀ {l : List (BId × Box)}, agB f l → ∀ i x, bm l i = some x → f i = some x
  | [], _, i, x, h => by cases h
  | (k, v) :: r, h, i, x, e => by
    simp only [bm] at e
    by_cases hb : i = k
    · subst hb
      simp only [decide_true, cond_true, Option.some.injEq] at e
      rw [← e]; exact h.1
    · simp only [hb, decide_false, cond_false] at e
      exact agB_ok h.2 i x e
theorem agA_ok {f : Tag → Option Arr} : ∀ {l : List (Tag × Arr)}, agA f l → ∀ i x, am l i = some x → f i = some x
  | [], _, i, x, h => by cases h
  | (k, v) :: r, h, i, x, e => by
    simp only [am] at e
    by_cases hb : i = k
    · subst hb
      simp only [decide_true, cond_true, Option.some.injEq] at e
      rw [← e]; exact h.1
    · simp only [hb, decide_false, cond_false] at e
      exact agA_ok h.2 i x e
theorem Wk.to {σ : St} {n : Nat} {l : List (Nat × AV)} {bl : List (BId × Box)} {al : List (Tag × Arr)} (hn : σ.n = n) (h1 : agT σ.tmps l) (h2 : agB σ.boxes bl) (h3 : agA σ.arrs al) : Wk σ (stt n l bl al) := fun G a w hr =>
  ⟨G, ⟨hn ▸ hr.n, fun i => by
    rcases agT_ok h1 i with h | h
    · show VA G (tm l i) _
      rw [h]; exact .undef _
    · show VA G (tm l i) _
      rw [h]; exact hr.t i, hr.df, hr.s.setB (agB_ok h2) (agA_ok h3)⟩, Later.refl G w⟩

section
variable {E : Env} {σ : St} {Q : Qs}
/-- A loop: states that a family gives, of which inv holds, each round at a smaller number. -/
theorem Tri.loopI {c : Code} {X : Type} (inv : X → Prop) (I : X → St) (μ : X → Nat) (x₀ : X) (hx : inv x₀) (h₀ : Wk σ (I x₀))
    (round : ∀ x, inv x → Tri E c (I x) (next (fun σ' => ∃ y, inv y ∧ μ y < μ x ∧ Wk σ' (I y)) Q)) : Tri E (.loop c) σ Q := by
  refine Tri.loop (X := { x : X // inv x }) (fun x => I x.1) (fun x => μ x.1) ⟨x₀, hx⟩ h₀ fun x => ?_
  refine (round x.1 x.2).mono fun e σ' q => ?_
  cases e with
  | normal => obtain ⟨y, h1, h2, h3⟩ := q; exact ⟨⟨y, h1⟩, h2, h3⟩
  | _ => exact q
end
end Go.Proofs.YthmbdoegcpicbaaDoor.Abs

/-! ## AbsU -/
namespace Go.Proofs.YthmbdoegcpicbaaDoor.Abs
open Go.Proofs.YthmbdoegcpicbaaDoorW.PrintLast

def up1 (l : Array Bool) (i : Nat) : Array Bool := l.setIfInBounds i true
section
variable {E : Env} {ops : Array Oper} {o : Oper} {σ : St} {Q : Qs} {fp : List BId} {ds : List Nat} {cl : Bool} {fuel : Nat} {l : Array Bool} {d : Nat}

theorem Tri.dr {id n : Nat} {ol : List Oper} (fp : List BId) (ds : List Nat) (hn : ol.toArray.size = n) (h : TA E ol.toArray fp ds true n (Array.replicate n false) σ Q) : Tri E (.region id ol.toArray true) σ Q := Tri.draw fp ds _ hn rfl h
/-- A value that hangs on no memory. -/
theorem TA.v (i : Nat) {p : Prop} {r : AV} (hi : ops[i]? = some o) (hc : anyB .any ops l (up1 l i) i = true) (hpn : NoPanic Q) (hdst : o.dst = some d) (hg : gOk ops σ o.guard = some true) (hnl : isLoad o.op = false) (hv : opvN E.Γ σ o.op = some (p, r)) (hd : Nat.ble (d + 1) σ.n = true) (hp : p)
    (h : TA E ops fp ds cl fuel (up1 l i) (σ.put (some d) r) Q) : TA E ops fp ds cl (fuel + 1) l σ Q :=
  TA.pure (up1 l i) hi hc hpn hg (opvN_eq hv) (by rw [hdst]; exact hd) hnl hp (by rw [hdst]; exact h)
theorem TL.v (i : Nat) {p : Prop} {r : AV} (hi : ops[i]? = some o) (hc : anyB .any ops l (up1 l i) i = true) (hpn : NoPanic Q) (hdst : o.dst = some d) (hg : gOk ops σ o.guard = some true) (hnl : isLoad o.op = false) (hv : opvN E.Γ σ o.op = some (p, r)) (hd : Nat.ble (d + 1) σ.n = true) (hp : p)
    (h : TL E ops ds fuel (up1 l i) (σ.put (some d) r) Q) : TL E ops ds (fuel + 1) l σ Q :=
  TL.pure (up1 l i) hi hc hpn hg (opvN_eq hv) (by rw [hdst]; exact hd) hnl hp (by rw [hdst]; exact h)
/-- A load. -/
theorem TA.t (i : Nat) {p : Prop} {r : AV} (hi : ops[i]? = some o) (hc : takeB .any ops ds l (up1 l i) i = true) (hpn : NoPanic Q) (hdst : o.dst = some d) (hg : gOk ops σ o.guard = some true) (ht : tk cl fp σ o.op = true) (hv : opvN E.Γ σ o.op = some (p, r)) (hd : Nat.ble (d + 1) σ.n = true) (hp : p)
    (h : TA E ops fp ds cl fuel (up1 l i) (σ.put (some d) r) Q) : TA E ops fp ds cl (fuel + 1) l σ Q :=
  TA.take (up1 l i) hi hc hpn hg (opvN_eq hv) (by rw [hdst]; exact hd) ht hp (by rw [hdst]; exact h)
/-- An operation that is not wanted. -/
theorem TA.s (i : Nat) (hi : ops[i]? = some o) (hc : anyB .any ops l (up1 l i) i = true) (hpn : NoPanic Q) (hdst : o.dst = some d) (hg : gOk ops σ o.guard = some false) (hd : Nat.ble (d + 1) σ.n = true)
    (h : TA E ops fp ds cl fuel (up1 l i) (σ.put (some d) .undef) Q) : TA E ops fp ds cl (fuel + 1) l σ Q :=
  TA.skip (up1 l i) hi hc hpn hg (by rw [hdst]; exact hd) (by rw [hdst]; exact h)
theorem TL.s (i : Nat) (hi : ops[i]? = some o) (hc : anyB .any ops l (up1 l i) i = true) (hpn : NoPanic Q) (hdst : o.dst = some d) (hg : gOk ops σ o.guard = some false) (hd : Nat.ble (d + 1) σ.n = true)
    (h : TL E ops ds fuel (up1 l i) (σ.put (some d) .undef) Q) : TL E ops ds (fuel + 1) l σ Q :=
  TL.skip (up1 l i) hi hc hpn hg (by rw [hdst]; exact hd) (by rw [hdst]; exact h)
/-- A call that gives back a plain value, where nothing else may come up. -/
theorem TA.c (i : Nat) {c : Call} {f : FuncId} {args : List AV} {r : AV} (hi : ops[i]? = some o) (hc : readyB .any ops l (up1 l i) i = true) (hds : i ∉ ds) (hal : aliveB σ fp = true) (hop : o.op = .call c) (hdst : o.dst = some d) (hg : gOk ops σ o.guard = some true) (hce : calleeOf σ c = some (f, args)) (hd : Nat.ble (d + 1) σ.n = true)
    (hf : FnV E f (AV.lends σ args) r) (hr : r.flat = true) (h : TA E ops fp ds false fuel (up1 l i) (σ.put (some d) r) Q) : TA E ops fp ds cl (fuel + 1) l σ Q :=
  TA.one (up1 l i) hi hc hds hg hal (Step.callFlat hop hce (by rw [hdst]; exact hd) hf (fun r' _ _ e => by rw [e]; exact hr)) (by rintro σ' ⟨r', B', A', rfl, rfl⟩; rw [hdst]; exact h)
/-- Any step, where nothing else may come up. -/
theorem TA.e (i : Nat) {R : St → Prop} (hi : ops[i]? = some o) (hc : readyB .any ops l (up1 l i) i = true) (hds : i ∉ ds) (hal : aliveB σ fp = true) (hg : gOk ops σ o.guard = some true) (hs : Step E o σ (inL fp) R)
    (h : ∀ σ', R σ' → TA E ops fp ds false fuel (up1 l i) σ' Q) : TA E ops fp ds cl (fuel + 1) l σ Q := TA.one (up1 l i) hi hc hds hg hal hs h
/-- One of the last. -/
theorem TA.w (i : Nat) {R : St → Prop} (hi : ops[i]? = some o) (hc : readyB .any ops l (up1 l i) i = true) (hds : i ∈ ds) (hg : gOk ops σ o.guard = some true) (hs : Step E o σ nofp R)
    (h : ∀ σ', R σ' → TL E ops ds fuel (up1 l i) σ' Q) : TA E ops fp ds cl (fuel + 1) l σ Q := TA.last (up1 l i) hi hc hds hg hs h
theorem TL.w (i : Nat) {R : St → Prop} (hi : ops[i]? = some o) (hc : readyB .any ops l (up1 l i) i = true) (hds : i ∈ ds) (hg : gOk ops σ o.guard = some true) (hs : Step E o σ nofp R)
    (h : ∀ σ', R σ' → TL E ops ds fuel (up1 l i) σ' Q) : TL E ops ds (fuel + 1) l σ Q := TL.last (up1 l i) hi hc hds hg hs h
end
end Go.Proofs.YthmbdoegcpicbaaDoor.Abs

/-! ## AbsV -/
namespace Go.Proofs.YthmbdoegcpicbaaDoor.Abs
open Go.Proofs.YthmbdoegcpicbaaDoorW.PrintLast

/-! ### one operation -/
def not64 : IntKind → Bool
  | .i64 => false
  | _ => true
def trivOp : BinOp → Bool → Bool
  | .eql, _ | .neq, _ | .lss, _ | .leq, _ | .gtr, _ | .geq, _ | .and, _ | .or, _ | .xor, _ | .andNot, _ => true
  | .add, b | .sub, b | .mul, b => b
  | _, _ => false
def kOf : AV → Bool
  | .d (.int k _) => not64 k
  | _ => false
def noEptr : AV → Bool
  | .eptr _ _ _ _ => false
  | _ => true
def isTriv (σ : St) : Op → Bool
  | .move _ | .assign _ | .pick .. | .extract .. | .nilCheck _ | .build .. | .makeFunc .. | .field .. | .fieldAddr .. => true
  | .load _ x => noEptr (σ.ev x)
  | .binOp op _ x y _ => trivOp op (kOf (σ.ev x))
  | .unOp op _ x => (match op with | .not => true | .xor => true | _ => kOf (σ.ev x))
  | .call _ => true
  | _ => false
theorem vInt_triv {op : BinOp} {k : IntKind} {x y : Int} {p : Prop} {r : AV} (h : vInt op k x y = some (p, r)) (ht : trivOp op (not64 k) = true) : p := by
  cases op <;> first | (simp [trivOp] at ht; done) | skip
  all_goals
    simp only [vInt, bitv, Option.map_some, Option.some.injEq] at h
    obtain rfl := congrArg Prod.fst h
    first
      | trivial
      | (cases k <;> first | (simp [trivOp, not64] at ht; done) | trivial)
theorem triv_ok {Γ : TypeId → Option TI} {σ : St} {op : Op} {p : Prop} {r : AV} (h : opv Γ σ op = some (p, r)) (ht : isTriv σ op = true) : p := by
  unfold opv at h
  split at h <;> first | (simp [isTriv] at ht; done) | skip
  · cases h; trivial
  · cases h; trivial
  · unfold vPick at h; repeat' split at h
    all_goals first | (cases h; trivial) | cases h
  · split at h
    · unfold vLoad at h
      split at h
      · repeat' split at h
        all_goals first | (cases h; trivial) | cases h
      · repeat' split at h
        all_goals first | (cases h; trivial) | cases h
      · next hx => simp [isTriv, hx, noEptr] at ht
      · cases h
    · cases h
  · unfold vFieldAddr at h; repeat' split at h
    all_goals first | (cases h; trivial) | cases h
  · unfold vField at h; repeat' split at h
    all_goals first | (cases h; trivial) | cases h
  · unfold vExtract at h; repeat' split at h
    all_goals first | (cases h; trivial) | cases h
  · unfold vNilCheck at h; repeat' split at h
    all_goals first | (cases h; trivial) | cases h
  · next op t x y _ =>
    unfold vBin at h
    split at h
    · next k a k' b hx hy =>
      cases hs : isShift op
      · rw [hs] at h
        simp only [cond_false] at h
        cases hk : decide (k = k')
        · rw [hk] at h; simp at h
        · rw [hk] at h
          refine vInt_triv h ?_
          simpa only [isTriv, hx, kOf] using ht
      · cases op <;> first | (simp [isShift] at hs; done) | (simp [isTriv, trivOp] at ht; done)
    · next hx hy =>
      cases op <;> simp only [vStr, Option.some.injEq, Prod.mk.injEq, reduceCtorEq] at h <;> first | (obtain ⟨rfl, _⟩ := h; trivial) | skip
      all_goals simp [isTriv, trivOp, hx, kOf] at ht
    · cases hb : isBoolD (Γ t)
      · rw [hb] at h; simp at h
      · rw [hb] at h
        cases op <;> simp only [cond_true, vBool, Option.some.injEq, Prod.mk.injEq, reduceCtorEq] at h <;> (obtain ⟨rfl, _⟩ := h; trivial)
    · cases h
  · next op t x =>
    unfold vUn at h
    split at h
    · split at h
      · cases h; trivial
      · cases h
    · next k n hx =>
      split at h
      · simp only [Option.some.injEq] at h
        obtain rfl := congrArg Prod.fst h
        simp only [isTriv, hx, kOf] at ht
        cases k <;> first | (simp at ht; done) | trivial
      · split at h
        · cases h; trivial
        · cases h
      · cases h
    · cases h
  · unfold vBuild at h; repeat' split at h
    all_goals first | (cases h; trivial) | cases h
  · unfold vFunc at h; repeat' split at h
    all_goals first | (cases h; trivial) | cases h
  · split at h
    · split at h
      · unfold vLen at h
        repeat' split at h
        all_goals first | (cases h; trivial) | cases h
      · cases h
    · cases h

/-- What comes of one operation: what has to hold, and the state behind it. -/
def step1 {β : Type} (Γ : TypeId → Option TI) (ops : Array Oper) (o : Oper) (σ : St) (k : Option Prop → St → Option β) : Option β := match gOk ops σ o.guard with
  | some true => (match o.dst with
    | some d => if Nat.ble (d + 1) σ.n then (match o.op with
      | .box e x => (match (σ.ev x).cells with | some cs => nfs cs fun cs' => k none ((σ.newBox (.loc d) e cs').put (some d) (.ptr (.loc d) 0)) | none => none)
      | .alloc e => (match Γ e with | some i => nfs (cvals i.zero.cells.toList) fun cs' => k none ((σ.newBox (.loc d) e cs').put (some d) (.ptr (.loc d) 0)) | none => none)
      | .buildSlice t len parts => (match mkSl Γ t len (parts.toList.map fun p => (p.1, σ.ev p.2)) with | some (e, c) => nfD c fun c' => k none ((σ.newArr (.tmp d 0) e c').put (some d) (.own (.tmp d 0))) | none => none)
      | op => (match opv Γ σ op with | some (p, r) => nf r fun r' => k (if isTriv σ op then none else some p) (σ.put (some d) r') | none => none)) else none
    | none => (match o.op with
      | .store t x y => (match Γ t with
        | some i => (match σ.ev x with
          | .ptr b q => (match σ.boxes b with
            | some bx => (match (σ.ev y).cells with
              | some cs => if allOne cs && Nat.beq cs.length i.size && Nat.ble (q + i.size) bx.cs.length then nfs (splice bx.cs q cs) fun cs' => k none (σ.setBox b cs') else none
              | none => none)
            | none => none)
          | _ => none)
        | none => none)
      | _ => none))
  | some false => (match o.dst with | some d => if Nat.ble (d + 1) σ.n then k none (σ.put (some d) .undef) else none | none => k none σ)
  | none => none
def holds : Option Prop → Prop
  | none => True
  | some p => p

/-- Whether a box is left alone by an operation. -/
def keepsB (σ : St) (o : Oper) (fp : BId → Bool) : Bool := match o.op with
  | .box _ _ | .alloc _ => (match o.dst with | some d => !fp (.loc d) | none => true)
  | .store _ x _ => (match σ.ev x with | .ptr b _ => !fp b | _ => true)
  | _ => true

theorem keepsB_nofp {σ : St} {o : Oper} : keepsB σ o nofp = true := by
  unfold keepsB
  split <;> first | rfl | (split <;> rfl)

theorem step1_ok {E : Env} {ops : Array Oper} {o : Oper} {σ : St} {β : Type} {k : Option Prop → St → Option β} {z : β} {fp : BId → Bool} (hk : keepsB σ o fp = true) (hg : gOk ops σ o.guard = some true) (h : step1 E.Γ ops o σ k = some z) :
    ∃ p σ', k p σ' = some z ∧ (holds p → Step E o σ fp (fun σ'' => σ'' = σ')) := by
  unfold step1 at h
  rw [hg] at h
  simp only at h
  split at h
  · next d hd =>
    split at h
    · next hn =>
      split at h
      · next e x ho =>
        split at h
        · next cs hc =>
          rw [nfs_eq] at h
          refine ⟨_, _, h, fun _ => Step.box ho hd hn hc ?_⟩
          simpa [keepsB, ho, hd] using hk
        · cases h
      · next e ho =>
        split at h
        · next i hi =>
          rw [nfs_eq] at h
          refine ⟨_, _, h, fun _ => Step.alloc ho hd hn hi ?_⟩
          simpa [keepsB, ho, hd] using hk
        · cases h
      · next t len parts ho =>
        split at h
        · next e c hm =>
          rw [nfD_eq] at h
          exact ⟨_, _, h, fun _ => Step.buildSlice ho hd hn hm⟩
        · cases h
      · split at h
        · next p r hv =>
          rw [nf_eq] at h
          refine ⟨_, _, h, fun hp => ?_⟩
          have hp' : p := by
            split at hp
            · next ht => exact triv_ok hv ht
            · exact hp
          have := Step.val (fp := fp) hv (by rw [hd]; exact hn) hp'
          rw [hd] at this
          exact this
        · cases h
    · cases h
  · next hd =>
    split at h
    · next t x y ho =>
      split at h
      · next i hi =>
        split at h
        · next b q hx =>
          split at h
          · next bx hb =>
            split at h
            · next cs hc =>
              split at h
              · next hl =>
                simp only [Bool.and_eq_true] at hl
                rw [nfs_eq] at h
                refine ⟨_, _, h, fun _ => ?_⟩
                have := Step.store (E := E) (fp := fp) ho (by rw [hd]; rfl) hi hx hb hc hl.1.1 hl.1.2 hl.2 (by simpa [keepsB, ho, hx] using hk)
                rw [hd] at this
                exact this
              · cases h
            · cases h
          · cases h
        · cases h
      · cases h
    · cases h

/-- At most n operations, one behind the other. -/
def run (Γ : TypeId → Option TI) (ops : Array Oper) : Nat → List Oper → St → Option (List Prop × St × List Oper)
  | 0, l, σ => some ([], σ, l)
  | _ + 1, [], σ => some ([], σ, [])
  | n + 1, o :: rest, σ => step1 Γ ops o σ fun p σ' => match run Γ ops n rest σ' with
    | some (ps, x) => (match p with | none => some (ps, x) | some p => some (p :: ps, x))
    | none => none
def allP : List Prop → Prop
  | [] => True
  | [p] => p
  | p :: r => p ∧ allP r
theorem allP_cons {p : Prop} {r : List Prop} (h : allP (p :: r)) : p ∧ allP r := by
  cases r with
  | nil => exact ⟨h, trivial⟩
  | cons q r => exact h
theorem TriOps.r {E : Env} {ops : Array Oper} {Q : Qs} : ∀ (n : Nat) {l l' : List Oper} {σ σ' : St} {ps : List Prop}, run E.Γ ops n l σ = some (ps, σ', l') → allP ps → TriOps E ops l' σ' Q → TriOps E ops l σ Q
  | 0, l, l', σ, σ', ps, h, hp, k => by simp only [run, Option.some.injEq, Prod.mk.injEq] at h; obtain ⟨_, rfl, rfl⟩ := h; exact k
  | n + 1, [], l', σ, σ', ps, h, hp, k => by simp only [run, Option.some.injEq, Prod.mk.injEq] at h; obtain ⟨_, rfl, rfl⟩ := h; exact k
  | n + 1, o :: rest, l', σ, σ', ps, h, hp, k => by
    simp only [run] at h
    have fin : ∀ {p : Option Prop} {σ1 : St}, (match run E.Γ ops n rest σ1 with
        | some (ps, x) => (match p with | none => some (ps, x) | some p => some (p :: ps, x))
        | none => none) = some (ps, σ', l') → holds p ∧ TriOps E ops rest σ1 Q := by
      intro p σ1 h
      split at h
      · next ps' x hx =>
        split at h
        · cases h; exact ⟨trivial, TriOps.r n hx hp k⟩
        · cases h
          have := allP_cons hp
          exact ⟨this.1, TriOps.r n hx this.2 k⟩
      · cases h
    cases hg : gOk ops σ o.guard with
    | none => unfold step1 at h; rw [hg] at h; cases h
    | some b =>
      cases b with
      | true =>
        obtain ⟨p, σ1, h1, h2⟩ := step1_ok (fp := nofp) keepsB_nofp hg h
        obtain ⟨h3, h4⟩ := fin h1
        exact TriOps.eff hg (h2 h3) (by rintro σ'' rfl; exact h4)
      | false =>
        unfold step1 at h
        rw [hg] at h
        simp only at h
        split at h
        · next d hd =>
          split at h
          · next hn => exact TriOps.skip hg (by rw [hd]; exact hn) (by rw [hd]; exact (fin (p := none) h).2)
          · cases h
        · next hd => exact TriOps.skip hg (by rw [hd]; rfl) (by rw [hd]; exact (fin (p := none) h).2)
end Go.Proofs.YthmbdoegcpicbaaDoor.Abs
