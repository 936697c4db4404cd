/- The parts of the proof from 'AbsW' to 'C7': Drawn regions along a schedule that is checked once; guards that are not known; calls that give back memory. Conditions: none beyond those that each contract bears. -/
import Derived.Laws.StructEq
import Derived.Test.YthmbdoegcpicbaaDoorProg
import Derived.Shelf.Spec.TrailingZeros
import Derived.Test.YthmbdoegcpicbaaDoorK1
set_option linter.unusedVariables false
set_option linter.unusedSimpArgs false

/-! ## AbsW -/
namespace Go.Proofs.YthmbdoegcpicbaaDoor.Abs
open Go.Proofs.YthmbdoegcpicbaaDoorW.PrintLast

/-- A schedule: each operation with how it is taken (0: hangs on no memory; 1: a load; 2: alone; 3: the last; 4: at any time; 5: in its order, beside those at any time). -/
def chk0 (ops : Array Oper) (ds : List Nat) : Array Bool → List (Nat × Nat) → Bool
  | l, [] => Region.ready .any ops l == []
  | l, (i, k) :: r => (match k with
    | 0 => anyB .any ops l (up1 l i) i
    | 1 => takeB .any ops ds l (up1 l i) i
    | 2 => readyB .any ops l (up1 l i) i && !ds.contains i
    | _ => readyB .any ops l (up1 l i) i && ds.contains i) && chk0 ops ds (up1 l i) r
/-- fr may come up at any time, s1 in its order; then s2. -/
def chkF (ops : Array Oper) (ds : List Nat) : Nat → Array Bool → List Nat → List Nat → List (Nat × Nat) → Bool
  | 0, l, fr, s1, s2 => fr.isEmpty && s1.isEmpty && chk0 ops ds l s2
  | n + 1, l, fr, s1, s2 => (Region.ready .any ops l).all (fun j => fr.contains j || s1.head? == some j) && !(Region.ready .any ops l).isEmpty &&
    (match s1 with | [] => true | i :: r => !ds.contains i && chkF ops ds n (up1 l i) fr r s2) && fr.all fun f => !ds.contains f && chkF ops ds n (up1 l f) (fr.erase f) s1 s2
def kindF (k : Nat) : List (Nat × Nat) → List Nat
  | [] => []
  | (i, j) :: r => if Nat.beq j k then i :: kindF k r else kindF k r
def restF : List (Nat × Nat) → List (Nat × Nat)
  | [] => []
  | (i, j) :: r => if Nat.beq j 4 || Nat.beq j 5 then restF r else (i, j) :: r
def chkB (ops : Array Oper) (ds : List Nat) : Array Bool → List (Nat × Nat) → Bool
  | l, [] => Region.ready .any ops l == []
  | l, (i, k) :: r => (match k with
    | 0 => anyB .any ops l (up1 l i) i && chkB ops ds (up1 l i) r
    | 1 => takeB .any ops ds l (up1 l i) i && chkB ops ds (up1 l i) r
    | 2 => (readyB .any ops l (up1 l i) i && !ds.contains i) && chkB ops ds (up1 l i) r
    | 3 => (readyB .any ops l (up1 l i) i && ds.contains i) && chkB ops ds (up1 l i) r
    | _ => chkF ops ds ((kindF 4 ((i, k) :: r)).length + (kindF 5 ((i, k) :: r)).length) l (kindF 4 ((i, k) :: r)) (kindF 5 ((i, k) :: r)) (restF ((i, k) :: r)))

section
variable (E : Env) (ops : Array Oper)
structure TS (fp : List BId) (ds : List Nat) (cl : Bool) (s : List (Nat × Nat)) (σ : St) (Q : Qs) : Prop where
  go : ∀ l fuel, chkB ops ds l s = true → s.length ≤ fuel → TA E ops fp ds cl fuel l σ Q
end
section
variable {E : Env} {ops : Array Oper} {o : Oper} {σ : St} {Q : Qs} {fp : List BId} {ds : List Nat} {cl : Bool} {s : List (Nat × Nat)} {d i : Nat}

theorem Tri.dz {id : Nat} {ol : List Oper} (fp : List BId) (s : List (Nat × Nat)) (hc : chkB ol.toArray [] (Array.replicate ol.toArray.size false) s = true) (hs : Nat.ble s.length ol.toArray.size = true) (h : TS E ol.toArray fp [] true s σ Q) : Tri E (.region id ol.toArray true) σ Q :=
  Tri.dr fp [] rfl (h.go _ _ hc (Nat.le_of_ble_eq_true hs))
/-- The same where the last of the operations write what the loads lean on. -/
theorem Tri.dl {id : Nat} {ol : List Oper} (fp : List BId) (ds : List Nat) (s : List (Nat × Nat)) (hc : chkB ol.toArray ds (Array.replicate ol.toArray.size false) s = true) (hs : Nat.ble s.length ol.toArray.size = true) (h : TS E ol.toArray fp ds true s σ Q) : Tri E (.region id ol.toArray true) σ Q :=
  Tri.dr fp ds rfl (h.go _ _ hc (Nat.le_of_ble_eq_true hs))
theorem TS.nil (h : Q .normal σ) : TS E ops fp ds cl [] σ Q := ⟨fun l fuel hc _ => TA.done (by simpa [chkB] using hc) h⟩
theorem fuel_pos {n f : Nat} (h : n + 1 ≤ f) : ∃ g, f = g + 1 ∧ n ≤ g := ⟨f - 1, by omega, by omega⟩
theorem TS.v {p : Prop} {r : AV} (hi : ops[i]? = some o) (hpn : NoPanic Q) (hdst : o.dst = some d) (hg : gOk ops σ o.guard = some true) (hnl : isLoad o.op = false) (hv : opvN E.Γ σ o.op = some (p, r)) (hd : Nat.ble (d + 1) σ.n = true) (hp : p)
    (h : TS E ops fp ds cl s (σ.put (some d) r) Q) : TS E ops fp ds cl ((i, 0) :: s) σ Q := by
  refine ⟨fun l fuel hc hf => ?_⟩
  simp only [chkB, Bool.and_eq_true] at hc
  obtain ⟨g, rfl, hg'⟩ := fuel_pos hf
  exact TA.v i hi hc.1 hpn hdst hg hnl hv hd hp (h.go _ _ hc.2 hg')
theorem TS.t {p : Prop} {r : AV} (hi : ops[i]? = some o) (hpn : NoPanic Q) (hdst : o.dst = some d) (hg : gOk ops σ o.guard = some true) (ht : tk cl fp σ o.op = true) (hv : opvN E.Γ σ o.op = some (p, r)) (hd : Nat.ble (d + 1) σ.n = true) (hp : p)
    (h : TS E ops fp ds cl s (σ.put (some d) r) Q) : TS E ops fp ds cl ((i, 1) :: s) σ Q := by
  refine ⟨fun l fuel hc hf => ?_⟩
  simp only [chkB, Bool.and_eq_true] at hc
  obtain ⟨g, rfl, hg'⟩ := fuel_pos hf
  exact TA.t i hi hc.1 hpn hdst hg ht hv hd hp (h.go _ _ hc.2 hg')
/-- An operation that is not wanted. -/
theorem TS.s0 (hi : ops[i]? = some o) (hpn : NoPanic Q) (hdst : o.dst = some d) (hg : gOk ops σ o.guard = some false) (hd : Nat.ble (d + 1) σ.n = true)
    (h : TS E ops fp ds cl s (σ.put (some d) .undef) Q) : TS E ops fp ds cl ((i, 0) :: s) σ Q := by
  refine ⟨fun l fuel hc hf => ?_⟩
  simp only [chkB, Bool.and_eq_true] at hc
  obtain ⟨g, rfl, hg'⟩ := fuel_pos hf
  exact TA.s i hi hc.1 hpn hdst hg hd (h.go _ _ hc.2 hg')
theorem anyB_of_takeB {l l' : Array Bool} {ds : List Nat} (h : takeB .any ops ds l l' i = true) : anyB .any ops l l' i = true := by
  simp only [takeB, Bool.and_eq_true] at h
  simp only [anyB, Bool.and_eq_true]
  exact ⟨⟨⟨h.1.1.1.1.1, h.1.1.1.1.2⟩, h.1.1.1.2⟩, h.2⟩
theorem TS.s1 (hi : ops[i]? = some o) (hpn : NoPanic Q) (hdst : o.dst = some d) (hg : gOk ops σ o.guard = some false) (hd : Nat.ble (d + 1) σ.n = true)
    (h : TS E ops fp ds cl s (σ.put (some d) .undef) Q) : TS E ops fp ds cl ((i, 1) :: s) σ Q := by
  refine ⟨fun l fuel hc hf => ?_⟩
  simp only [chkB, Bool.and_eq_true] at hc
  obtain ⟨g, rfl, hg'⟩ := fuel_pos hf
  exact TA.s i hi (anyB_of_takeB hc.1) hpn hdst hg hd (h.go _ _ hc.2 hg')
/-- An operation alone that is not wanted (a call). -/
theorem TS.s2 (hi : ops[i]? = some o) (hdst : o.dst = some d) (hg : gOk ops σ o.guard = some false) (hd : Nat.ble (d + 1) σ.n = true)
    (h : TS E ops fp ds cl s (σ.put (some d) .undef) Q) : TS E ops fp ds cl ((i, 2) :: s) σ Q := by
  refine ⟨fun l fuel hc hf => ?_⟩
  simp only [chkB, Bool.and_eq_true] at hc
  obtain ⟨g, rfl, hg'⟩ := fuel_pos hf
  intro G0 w0 G a w hr hL hcl hβ hS
  refine one_ (up1 l i) hi hdst hc.1.1 (by simpa using hc.1.2) (fun K hK => ?_)
  rw [if_neg (by rw [gOk_ok hg hr]; simp)]
  exact hK.out _ w hS fun _ => h.go _ _ hc.2 hg' G0 w0 G _ w (hr.put (.undef _) hd) hL hcl hβ hS
theorem TS.e {R : St → Prop} (hi : ops[i]? = some o) (hal : aliveB σ fp = true) (hg : gOk ops σ o.guard = some true) (hs : Step E o σ (inL fp) R)
    (h : ∀ σ', R σ' → TS E ops fp ds false s σ' Q) : TS E ops fp ds cl ((i, 2) :: s) σ Q := by
  refine ⟨fun l fuel hc hf => ?_⟩
  simp only [chkB, Bool.and_eq_true] at hc
  obtain ⟨g, rfl, hg'⟩ := fuel_pos hf
  exact TA.e i hi hc.1.1 (by simpa using hc.1.2) hal hg hs fun σ' hσ => (h σ' hσ).go _ _ hc.2 hg'
/-- The last one: it may write what the loads lean on. -/
theorem TS.l {R : St → Prop} (hi : ops[i]? = some o) (hg : gOk ops σ o.guard = some true) (hs : Step E o σ nofp R) (h : ∀ σ', R σ' → Q .normal σ') : TS E ops fp ds cl ((i, 3) :: []) σ Q := by
  refine ⟨fun l fuel hc hf => ?_⟩
  simp only [chkB, Bool.and_eq_true] at hc
  obtain ⟨g, rfl, hg'⟩ := fuel_pos hf
  exact TA.w i hi hc.1.1 (by simpa using hc.1.2) hg hs fun σ' hσ => TL.done hc.2 (h σ' hσ)
/-- A call that gives back a plain value; what it may see is lent to it. -/
theorem TS.c {c : Call} {f : FuncId} {args : List AV} {r : AV} (hi : ops[i]? = some o) (hal : aliveB σ fp = true) (hop : o.op = .call c) (hdst : o.dst = some d) (hg : gOk ops σ o.guard = some true) (hce : calleeOf σ c = some (f, args)) (hd : Nat.ble (d + 1) σ.n = true)
    (hf : FnV E f (AV.lends σ args) r) (hr : r.flat = true) (h : TS E ops fp ds false s (σ.put (some d) r) Q) : TS E ops fp ds cl ((i, 2) :: s) σ Q :=
  TS.e hi hal hg (Step.callFlat hop hce (by rw [hdst]; exact hd) hf (fun r' _ _ e => by rw [e]; exact hr)) (by rintro σ' ⟨r', B', A', rfl, rfl⟩; rw [hdst]; exact h)
/-- A call that gives back what never changes. -/
theorem TS.m {c : Call} {f : FuncId} {args : List AV} {r : AV} (hi : ops[i]? = some o) (hal : aliveB σ fp = true) (hop : o.op = .call c) (hdst : o.dst = some d) (hg : gOk ops σ o.guard = some true) (hce : calleeOf σ c = some (f, args)) (hd : Nat.ble (d + 1) σ.n = true) (hpl : AV.plains args = true)
    (hf : FnV E f args r) (hr : r.plain = true) (h : TS E ops fp ds false s (σ.put (some d) r) Q) : TS E ops fp ds cl ((i, 2) :: s) σ Q :=
  TS.e hi hal hg (Step.callMem hop hce (by rw [hdst]; exact hd) hpl hf (fun r' _ _ e => by rw [e]; exact hr)) (by rintro σ' ⟨r', B', A', rfl, rfl⟩; rw [hdst]; exact h)
theorem St.put_same {σ : St} {d : Nat} {v : AV} (h : σ.tmps d = v) : σ.put (some d) v = σ := by
  cases σ with | mk n t b a =>
  simp only [St.put] at h ⊢
  congr
  funext i
  by_cases hi : i = d
  · subst hi; rw [upd_same, ← h]
  · rw [upd_ne _ _ hi]
/-- The next operation's guard is not known: both ways. -/
theorem TS.g {j k : Nat} {want b : Bool} (hi : ops[i]? = some o) (hgd : o.guard = some (j, want)) (hj : (ops[j]?).bind (·.dst) = some d) (hb : σ.tmps d = .d (.bool b))
    (ht : b = true → TS E ops fp ds cl ((i, k) :: s) (σ.put (some d) (.d (.bool true))) Q) (hf : b = false → TS E ops fp ds cl ((i, k) :: s) (σ.put (some d) (.d (.bool false))) Q) : TS E ops fp ds cl ((i, k) :: s) σ Q := by
  cases b with
  | true => have := ht rfl; rwa [St.put_same hb] at this
  | false => have := hf rfl; rwa [St.put_same hb] at this
end

section
variable {E : Env} {ops : Array Oper} {rest : List Oper} {o : Oper} {σ : St} {Q : Qs} {d : Nat}
theorem TriOps.g {j : Nat} {want b : Bool} (hgd : o.guard = some (j, want)) (hj : (ops[j]?).bind (·.dst) = some d) (hb : σ.tmps d = .d (.bool b))
    (ht : b = true → TriOps E ops (o :: rest) (σ.put (some d) (.d (.bool true))) Q) (hf : b = false → TriOps E ops (o :: rest) (σ.put (some d) (.d (.bool false))) Q) : TriOps E ops (o :: rest) σ Q := by
  cases b with
  | true => have := ht rfl; rwa [St.put_same hb] at this
  | false => have := hf rfl; rwa [St.put_same hb] at this
/-- A call that gives back what never changes. -/
theorem TriOps.m {c : Call} {f : FuncId} {args : List AV} {r : AV} (hop : o.op = .call c) (hdst : o.dst = some d) (hg : gOk ops σ o.guard = some true) (hc : calleeOf σ c = some (f, args)) (hd : Nat.ble (d + 1) σ.n = true) (hpl : AV.plains args = true) (hf : FnV E f args r) (hr : r.plain = true)
    (h : TriOps E ops rest (σ.put (some d) r) Q) : TriOps E ops (o :: rest) σ Q :=
  TriOps.eff (fp := nofp) hg (Step.callMem hop hc (by rw [hdst]; exact hd) hpl hf (fun r' _ _ e => by rw [e]; exact hr)) (by rintro σ' ⟨r', B', A', rfl, rfl⟩; rw [hdst]; exact h)

/-- The end of a function: an own slice is given back as what never changes. -/
theorem retQ_frz {Γ : TypeId → Option TI} {rs : List ResultVar} {R : RQ} {t : Tag} {e : TypeId} {c : D} {sz : Nat} (h : σ.arrs t = some ⟨e, c⟩) (hc : c.esz = some sz) (k : retQ Γ rs R .ret (σ.frz t c)) : retQ Γ rs R .ret σ := by
  obtain ⟨σ', r', r, h1, h2, h3⟩ := k
  exact ⟨σ', r', r, (Wk.frz h hc).trans h1, h2, h3⟩
end
end Go.Proofs.YthmbdoegcpicbaaDoor.Abs

/-! ## AbsX -/
namespace Go.Proofs.YthmbdoegcpicbaaDoor.Abs
open Go.Proofs.YthmbdoegcpicbaaDoorW.PrintLast

/-! ### '==' of structs -/
def eqCell (i : TI) (x y : AV) : Option Bool := match x, y with
  | .d (.int k a), .d (.int k' b) => (match i.desc with | .int _ => if decide (k = k') then some (a == b) else none | _ => none)
  | .d (.bool a), .d (.bool b) => (match i.desc with | .bool => some (a == b) | _ => none)
  | .d (.str a), .d (.str b) => (match i.desc with | .string => some (a.toList == b.toList) | _ => none)
  | _, _ => none
def eqFs (Γ : TypeId → Option TI) : List Field → List AV → List AV → Option Bool
  | [], _, _ => some true
  | f :: r, xs, ys => if f.name == "_" then eqFs Γ r xs ys else (match Γ f.type, xs[f.offset]?, ys[f.offset]? with
    | some i, some x, some y => (match eqCell i x y, eqFs Γ r xs ys with | some a, some b => some (a && b) | _, _ => none)
    | _, _, _ => none)
section
variable {P : Program} {G : Gh} {i : TI} {t : TypeId} {x y : AV} {v u : Value} {b : Bool}
theorem eqCell_ok (hi : TyOk P t i) (h : eqCell i x y = some b) (hx : VA G x v) (hy : VA G y u) (d : Nat) (w : World) : isAggD i.desc = false ∧ (Op.equalIn (d + 1) t v u).run P w = .ok b w := by
  unfold eqCell at h
  split at h
  · next k a k' c =>
    split at h
    · next kk hd =>
      split at h
      · next hk =>
        cases h
        obtain rfl := of_decide_eq_true hk
        obtain rfl := hx.intv
        obtain rfl := hy.intv
        have hu := hi.und
        rw [hd] at hu ⊢
        exact ⟨rfl, run_equalIn_int w d t _ _ _ _ hu⟩
      · cases h
    · cases h
  · split at h
    · next hd =>
      cases h
      obtain rfl := hx.boolv
      obtain rfl := hy.boolv
      have hu := hi.und
      rw [hd] at hu ⊢
      exact ⟨rfl, run_equalIn_bool' w d t _ _ hu⟩
    · cases h
  · split at h
    · next hd =>
      cases h
      obtain rfl := hx.strv
      obtain rfl := hy.strv
      have hu := hi.und
      rw [hd] at hu ⊢
      exact ⟨rfl, run_equalIn_string w d t _ _ hu⟩
    · cases h
  · cases h
theorem eqFs_ok {Γ : TypeId → Option TI} (hΓ : ∀ t i, Γ t = some i → TyOk P t i) {xs ys : List AV} {vs us : List Value} (hx : VAs G xs vs) (hy : VAs G ys us) (d : Nat) (w : World) : ∀ (fs : List Field) (b : Bool), eqFs Γ fs xs ys = some b → (Op.eqFields (d + 1) vs.toArray us.toArray fs).run P w = .ok b w
  | [], b, h => by simp only [eqFs, Option.some.injEq] at h; subst h; simp [Op.eqFields]
  | f :: fs, b, h => by
    simp only [eqFs] at h
    rw [Op.eqFields]
    split at h
    · next hn =>
      have hn' : ¬ (f.name ≠ "_") := by simpa using hn
      rw [if_neg hn']
      exact eqFs_ok hΓ hx hy d w fs b h
    · next hn =>
      have hn' : f.name ≠ "_" := by simpa using hn
      rw [if_pos hn']
      split at h
      · next i a c hi ha hc =>
        split at h
        · next r s hr hs =>
          cases h
          obtain ⟨v, hv, kv⟩ := hx.get _ _ ha
          obtain ⟨u, hu, ku⟩ := hy.get _ _ hc
          obtain ⟨h1, h2⟩ := eqCell_ok (hΓ _ _ hi) hr kv ku d w
          have hag := (hΓ _ _ hi).runAgg w
          rw [h1] at hag
          have p1 : (part f.type vs.toArray f.offset).run P w = .ok v w := by simp [part, hag, hv]
          have p2 : (part f.type us.toArray f.offset).run P w = .ok u w := by simp [part, hag, hu]
          simp only [Sem.run_bind, p1, p2, h2, Result.andThen_ok]
          have ih := eqFs_ok hΓ hx hy d w fs s hs
          cases r
          · simp
          · simpa using ih
        · cases h
      · cases h
end
def vEqS (Γ : TypeId → Option TI) (σ : St) (op : Op) : Option AV := match op with
  | .binOp .eql t x y _ => (match Γ t, σ.ev x, σ.ev y with
    | some i, .agg xs, .agg ys => (match i.desc with | .struct fs => (match eqFs Γ fs.toList xs ys with | some b => some (.d (.bool b)) | none => none) | _ => none)
    | _, _, _ => none)
  | .binOp .neq t x y _ => (match Γ t, σ.ev x, σ.ev y with
    | some i, .agg xs, .agg ys => (match i.desc with | .struct fs => (match eqFs Γ fs.toList xs ys with | some b => some (.d (.bool (!b))) | none => none) | _ => none)
    | _, _, _ => none)
  | _ => none
def tyOfEq : Op → TypeId
  | .binOp _ t _ _ _ => t
  | _ => 0
theorem vEqS_ok {E : Env} {σ : St} {o : Oper} {r : AV} {G : Gh} {a : Act} {w : World} (h : vEqS E.Γ σ o.op = some r) (hst : E.P.stoodInHeld (tyOfEq o.op) = false) (hge : E.P.eqGuardType E.P.depth (tyOfEq o.op) = false) (hr : Rel G σ a w) :
    ∃ v, VA G r v ∧ ∀ w2, (execOp a.eval o).run E.P w2 = .ok (.value v) w2 := by
  unfold vEqS at h
  split at h
  · next t x y yt ho =>
    simp only [ho, tyOfEq] at hst hge
    split at h
    · next i xs ys hi hx hy =>
      split at h
      · next fs hd =>
        split at h
        · next b hb =>
          cases h
          have vx := hr.ev x
          have vy := hr.ev y
          rw [hx] at vx
          rw [hy] at vy
          generalize hpx : a.eval x = px at vx
          generalize hpy : a.eval y = py at vy
          cases vx with | @agg _ vs vx =>
          cases vy with | @agg _ us vy =>
          refine ⟨_, .d (.bool b), fun w2 => ?_⟩
          have hu := (E.ok _ _ hi).und
          rw [hd] at hu
          have hf : E.P.fieldsOf t = fs := by simp [Program.fieldsOf, hu]
          have heq := eqFs_ok E.ok vx vy 9998 w2 fs.toList b hb
          have : (Op.equalIn 10000 t (.agg vs.toArray) (.agg us.toArray)).run E.P w2 = .ok b w2 := by
            rw [run_equalIn_struct w2 9999 t _ _ (by rw [hf]; exact hu) hst, hf]
            exact heq
          simp only [execOp, ho, hpx, hpy, Sem.run_bind, run_eqGuard_agg w2 .eql t x y _ _ hge, Result.andThen_ok, run_eql_struct, this, Sem.run_pure, Sem.run_map]
        · cases h
      · cases h
    · cases h
  · next t x y yt ho =>
    simp only [ho, tyOfEq] at hst hge
    split at h
    · next i xs ys hi hx hy =>
      split at h
      · next fs hd =>
        split at h
        · next b hb =>
          cases h
          have vx := hr.ev x
          have vy := hr.ev y
          rw [hx] at vx
          rw [hy] at vy
          generalize hpx : a.eval x = px at vx
          generalize hpy : a.eval y = py at vy
          cases vx with | @agg _ vs vx =>
          cases vy with | @agg _ us vy =>
          refine ⟨_, .d (.bool (!b)), fun w2 => ?_⟩
          have hu := (E.ok _ _ hi).und
          rw [hd] at hu
          have hf : E.P.fieldsOf t = fs := by simp [Program.fieldsOf, hu]
          have heq := eqFs_ok E.ok vx vy 9998 w2 fs.toList b hb
          have : (Op.equalIn 10000 t (.agg vs.toArray) (.agg us.toArray)).run E.P w2 = .ok b w2 := by
            rw [run_equalIn_struct w2 9999 t _ _ (by rw [hf]; exact hu) hst, hf]
            exact heq
          simp only [execOp, ho, hpx, hpy, Sem.run_bind, run_eqGuard_agg w2 .neq t x y _ _ hge, Result.andThen_ok, run_neq_struct, this, Sem.run_pure, Sem.run_map]
        · cases h
      · cases h
    · cases h
  · cases h
section
variable {E : Env} {ops : Array Oper} {rest : List Oper} {o : Oper} {σ : St} {Q : Qs} {fp : List BId} {ds : List Nat} {cl : Bool} {s : List (Nat × Nat)} {d i : Nat} {r : AV}
theorem TS.q (hi : ops[i]? = some o) (hpn : NoPanic Q) (hdst : o.dst = some d) (hg : gOk ops σ o.guard = some true) (hv : vEqS E.Γ σ o.op = some r) (hst : E.P.stoodInHeld (tyOfEq o.op) = false) (hge : E.P.eqGuardType E.P.depth (tyOfEq o.op) = false) (hd : Nat.ble (d + 1) σ.n = true)
    (h : TS E ops fp ds cl s (σ.put (some d) r) Q) : TS E ops fp ds cl ((i, 0) :: s) σ Q := by
  refine ⟨fun l fuel hc hf => ?_⟩
  simp only [chkB, Bool.and_eq_true] at hc
  obtain ⟨g, rfl, hg'⟩ := fuel_pos hf
  intro G0 w0 G a w hr hL hcl hβ hS
  obtain ⟨v, h1, h2⟩ := vEqS_ok hv hst hge hr
  have hc1 := hc.1
  exact pure_ (up1 l i) hi rfl hc1 (panic_put hpn _ _) (.inl ⟨gOk_ok hg hr, fun w2 => h2 w2⟩) rfl (h.go _ _ hc.2 hg' G0 w0 G _ w (by rw [hdst]; exact hr.put h1 hd) hL hcl hβ hS)
theorem TriOps.q (hdst : o.dst = some d) (hg : gOk ops σ o.guard = some true) (hv : vEqS E.Γ σ o.op = some r) (hst : E.P.stoodInHeld (tyOfEq o.op) = false) (hge : E.P.eqGuardType E.P.depth (tyOfEq o.op) = false) (hd : Nat.ble (d + 1) σ.n = true)
    (h : TriOps E ops rest (σ.put (some d) r) Q) : TriOps E ops (o :: rest) σ Q := by
  refine TriOps.step hg fun G a w hr K hK => ?_
  obtain ⟨v, h1, h2⟩ := vEqS_ok hv hst hge hr
  unfold Oper.wp
  rw [h2 w]
  exact hK G _ _ w (by rw [hdst]; exact hr.put h1 hd) (Later.refl G w) h
end
end Go.Proofs.YthmbdoegcpicbaaDoor.Abs

/-! ## AbsY -/
namespace Go.Proofs.YthmbdoegcpicbaaDoor.Abs

/-- Whence a name: another name, or a nil slice (none). -/
def rsrc : List (Tag × Option Tag) → Tag → Option Tag
  | [], t => some t
  | (k, s) :: r, t => bif decide (t = k) then s else rsrc r t
mutual
def AV.bk (f : Tag → Option Tag) : AV → AV
  | .own t => (match f t with | some u => .own u | none => .nils)
  | .agg cs => .agg (AV.bks f cs)
  | .tuple cs => .tuple (AV.bks f cs)
  | .fn g cs => .fn g (AV.bks f cs)
  | .eptr t sz i o => .eptr t sz i o
  | .ptr b o => .ptr b o
  | .undef => .undef
  | .d x => .d x
  | .nils => .nils
  | .dptr ds => .dptr ds
def AV.bks (f : Tag → Option Tag) : List AV → List AV
  | [] => []
  | c :: cs => AV.bk f c :: AV.bks f cs
end
mutual
def AV.noE : AV → Bool
  | .eptr _ _ _ _ => false
  | .agg cs => AV.noEs cs
  | .tuple cs => AV.noEs cs
  | .fn _ cs => AV.noEs cs
  | .own _ => true
  | .ptr _ _ => true
  | .undef => true
  | .d _ => true
  | .nils => true
  | .dptr _ => true
def AV.noEs : List AV → Bool
  | [] => true
  | c :: cs => AV.noE c && AV.noEs cs
end
def nilAv : Option Tag → (Tag → Value) → Value
  | some t, av => av t
  | none, _ => .slice none 0 0
mutual
theorem VA.bk {G H : Gh} {f : Tag → Option Tag} (hi : Sub G.im H.im) (hb : H.β = G.β) (ha : ∀ t, H.av t = nilAv (f t) G.av) : ∀ (x : AV) {v : Value}, x.noE = true → VA G (x.bk f) v → VA H x v
  | .undef, v, _, h => .undef v
  | .d y, v, _, h => by simp only [AV.bk] at h; cases h with | d h => exact .d (h.mono hi)
  | .nils, v, _, h => by simp only [AV.bk] at h; cases h; exact .nils
  | .own t, v, _, h => by
    simp only [AV.bk] at h
    have := ha t
    split at h
    · next u hu => rw [hu] at this; cases h with | own _ A l c h => exact .own t A l c (by rw [this]; exact h)
    · next hu => rw [hu] at this; cases h; exact .own t none 0 0 this
  | .agg cs, v, hn, h => by simp only [AV.bk] at h; simp only [AV.noE] at hn; cases h with | agg h => exact .agg (VAs.bk hi hb ha cs hn h)
  | .tuple cs, v, hn, h => by simp only [AV.bk] at h; simp only [AV.noE] at hn; cases h with | tuple h => exact .tuple (VAs.bk hi hb ha cs hn h)
  | .fn g cs, v, hn, h => by simp only [AV.bk] at h; simp only [AV.noE] at hn; cases h with | fn _ h => exact .fn g (VAs.bk hi hb ha cs hn h)
  | .ptr b o, v, _, h => by simp only [AV.bk] at h; cases h; rw [← hb]; exact .ptr b o
  | .dptr ds, v, _, h => by simp only [AV.bk] at h; cases h with | dptr g o h k => exact .dptr g o (h.mono hi) (k.mono hi)
  | .eptr _ _ _ _, v, hn, _ => by simp [AV.noE] at hn
theorem VAs.bk {G H : Gh} {f : Tag → Option Tag} (hi : Sub G.im H.im) (hb : H.β = G.β) (ha : ∀ t, H.av t = nilAv (f t) G.av) : ∀ (xs : List AV) {vs : List Value}, AV.noEs xs = true → VAs G (AV.bks f xs) vs → VAs H xs vs
  | [], vs, _, h => by simp only [AV.bks] at h; cases h; exact .nil
  | x :: xs, vs, hn, h => by
    simp only [AV.bks] at h
    simp only [AV.noEs, Bool.and_eq_true] at hn
    cases h with | cons h k => exact .cons (VA.bk hi hb ha x hn.1 h) (VAs.bk hi hb ha xs hn.2 k)
end

def agTR (f : Tag → Option Tag) (g : Nat → AV) : List (Nat × AV) → Prop
  | [] => True
  | (k, v) :: r => g k = v.bk f ∧ agTR f g r
def agBR (f : Tag → Option Tag) (g : BId → Option Box) : List (BId × Box) → Prop
  | [] => True
  | (k, x) :: r => g k = some ⟨x.E, AV.bks f x.cs⟩ ∧ agBR f g r
def emptyC (c : D) : Prop := match c.view with | some (_, []) => True | _ => False
def agA1 (g : Tag → Option Arr) (a : Arr) : Option Tag → Prop
  | some t => g t = some a
  | none => emptyC a.c
def agAR (f : Tag → Option Tag) (g : Tag → Option Arr) : List (Tag × Arr) → Prop
  | [] => True
  | (k, a) :: r => agA1 g a (f k) ∧ agAR f g r
def noEl : List (Nat × AV) → Bool
  | [] => true
  | (_, v) :: r => v.noE && noEl r
def noEb : List (BId × Box) → Bool
  | [] => true
  | (_, x) :: r => AV.noEs x.cs && noEb r
def srcs (f : Tag → Option Tag) : List (Tag × Arr) → List Tag
  | [] => []
  | (k, _) :: r => (match f k with | some t => t :: srcs f r | none => srcs f r)
def toOf (f : Tag → Option Tag) (t : Tag) : List (Tag × Arr) → Option Tag
  | [] => none
  | (k, _) :: r => if f k = some t then some k else toOf f t r
theorem toOf_of {f : Tag → Option Tag} {t : Tag} : ∀ {al : List (Tag × Arr)} {k : Tag} {a : Arr}, nodup (srcs f al) = true → am al k = some a → f k = some t → toOf f t al = some k
  | [], k, a, _, h, _ => by cases h
  | (j, b) :: r, k, a, hn, h, hf => by
    simp only [am] at h
    simp only [toOf]
    by_cases hk : k = j
    · subst hk; rw [if_pos hf]
    · simp only [hk, decide_false, cond_false] at h
      have mem : ∀ {al : List (Tag × Arr)}, am al k = some a → ∃ n : Nat, (srcs f al)[n]? = some t := by
        intro al
        induction al with
        | nil => intro h; cases h
        | cons p r ih =>
          obtain ⟨j, b⟩ := p
          intro h
          simp only [am] at h
          by_cases hk : k = j
          · subst hk; exact ⟨0, by simp [srcs, hf]⟩
          · simp only [hk, decide_false, cond_false] at h
            obtain ⟨n, hn⟩ := ih h
            simp only [srcs]
            split
            · exact ⟨n + 1, by simpa using hn⟩
            · exact ⟨n, hn⟩
      by_cases hj : f j = some t
      · simp only [srcs, hj, nodup, Bool.and_eq_true, Option.isNone_iff_eq_none] at hn
        obtain ⟨n, hm⟩ := mem h
        exact absurd hm (idx_none hn.1 n)
      · rw [if_neg hj]
        refine toOf_of ?_ h hf
        simp only [srcs] at hn
        split at hn
        · simp only [nodup, Bool.and_eq_true] at hn; exact hn.2
        · exact hn
def Gh.ren (G : Gh) (f : Tag → Option Tag) (al : List (Tag × Arr)) : Gh where
  role := fun g => match G.role g with
    | .arr t => (match toOf f t al with | some k => .arr k | none => .none)
    | r => r
  β := G.β
  av := fun t => nilAv (f t) G.av
theorem agTR_ok {f : Tag → Option Tag} {g : Nat → AV} : ∀ {l : List (Nat × AV)}, agTR f g l → noEl l = true → ∀ i, tm l i = .undef ∨ ((tm l i).noE = true ∧ g i = (tm l i).bk f)
  | [], _, _, i => .inl rfl
  | (k, v) :: r, h, hn, i => by
    simp only [noEl, Bool.and_eq_true] at hn
    simp only [tm]
    cases hb : Nat.beq i k
    · exact agTR_ok h.2 hn.2 i
    · have := Nat.eq_of_beq_eq_true hb
      subst this
      exact .inr ⟨hn.1, h.1⟩
theorem agBR_ok {f : Tag → Option Tag} {g : BId → Option Box} : ∀ {l : List (BId × Box)}, agBR f g l → noEb l = true → ∀ i x, bm l i = some x → AV.noEs x.cs = true ∧ g i = some ⟨x.E, AV.bks f x.cs⟩
  | [], _, _, i, x, h => by cases h
  | (k, v) :: r, h, hn, i, x, e => by
    simp only [noEb, Bool.and_eq_true] at hn
    simp only [bm] at e
    by_cases hb : i = k
    · subst hb
      simp only [decide_true, cond_true, Option.some.injEq] at e
      subst e; exact ⟨hn.1, h.1⟩
    · simp only [hb, decide_false, cond_false] at e
      exact agBR_ok h.2 hn.2 i x e
theorem agAR_ok {f : Tag → Option Tag} {g : Tag → Option Arr} : ∀ {l : List (Tag × Arr)}, agAR f g l → ∀ i x, am l i = some x → agA1 g x (f i)
  | [], _, i, x, h => by cases h
  | (k, v) :: r, h, i, x, e => by
    simp only [am] at e
    by_cases hb : i = k
    · subst hb
      simp only [decide_true, cond_true, Option.some.injEq] at e
      subst e; exact h.1
    · simp only [hb, decide_false, cond_false] at e
      exact agAR_ok h.2 i x e
/-- Own slices go on under other names. -/
theorem Wk.ren (ρ : List (Tag × Option Tag)) {σ : St} {n : Nat} {l : List (Nat × AV)} {bl : List (BId × Box)} {al : List (Tag × Arr)} (hn : σ.n = n) (h1 : agTR (rsrc ρ) σ.tmps l) (h2 : agBR (rsrc ρ) σ.boxes bl) (h3 : agAR (rsrc ρ) σ.arrs al)
    (hc : (noEl l && noEb bl && nodup (srcs (rsrc ρ) al)) = true) : Wk σ (stt n l bl al) := by
  simp only [Bool.and_eq_true] at hc
  intro G a w hr
  have him : ∀ g o, G.role g = .im o → (G.ren (rsrc ρ) al).role g = .im o := fun g o h => by simp only [Gh.ren, h]
  have hhid : ∀ g o, G.role g = .hid o → (G.ren (rsrc ρ) al).role g = .hid o := fun g o h => by simp only [Gh.ren, h]
  have hback : ∀ g o, ((G.ren (rsrc ρ) al).role g = .im o ∨ (G.ren (rsrc ρ) al).role g = .hid o) → G.role g = .im o ∨ G.role g = .hid o := fun g o h => by
    simp only [Gh.ren] at h
    split at h
    · split at h <;> rcases h with h | h <;> cases h
    · exact h
  have hsub : Sub G.im (G.ren (rsrc ρ) al).im := fun g o hg => im_of.2 (him g o (im_of.1 hg))
  refine ⟨G.ren (rsrc ρ) al, ⟨hn ▸ hr.n, fun i => ?_, hr.df, fun b o h => hr.s.im b o (hback b o h), ?_, ?_, hr.s.gl.mono him⟩, him, hhid, rfl, rfl, rfl, Nat.le_refl _, fun _ => rfl⟩
  · show VA _ (tm l i) _
    rcases agTR_ok h1 hc.1.1 i with h | ⟨h, k⟩
    · rw [h]; exact .undef _
    · have := hr.t i
      rw [k] at this
      exact VA.bk hsub rfl (fun _ => rfl) _ h this
  · intro i x hx
    obtain ⟨k1, k2⟩ := agBR_ok h2 hc.1.2 i x hx
    obtain ⟨k3, vs, k4, k5⟩ := hr.s.bx i _ k2
    exact ⟨by show (G.ren (rsrc ρ) al).role (G.β i) = _; simp only [Gh.ren, k3], vs, k4, VAs.bk hsub rfl (fun _ => rfl) _ k1 k5⟩
  · intro t x hx
    have k := agAR_ok h3 t x hx
    have hav : (G.ren (rsrc ρ) al).av t = nilAv (rsrc ρ t) G.av := rfl
    cases hs : rsrc ρ t with
    | some u =>
      rw [hs] at k hav
      obtain ⟨k1, sz, es, vs, k2, k3, k4⟩ := hr.s.ar u x k
      rw [hav]
      refine ⟨fun g hg => ?_, sz, es, vs, k2, k3.mono hsub, k4⟩
      have := k1 g hg
      simp only [Gh.ren, this, toOf_of hc.2 hx hs]
    | none =>
      rw [hs] at k hav
      rw [hav]
      simp only [agA1, emptyC] at k
      split at k
      · next sz hv => exact ⟨fun g hg => by simp [nilAv, Value.ownBlock] at hg, sz, [], [], hv, ⟨by simp, fun i hi => absurd hi (Nat.not_lt_zero _)⟩, by simp, .inl ⟨rfl, rfl⟩⟩
      · exact k.elim
end Go.Proofs.YthmbdoegcpicbaaDoor.Abs

/-! ## AbsZ -/
namespace Go.Proofs.YthmbdoegcpicbaaDoor.Abs
def D.bnd : D → Prop
  | .ints _ l => l.length ≤ 9223372036854775807
  | .strs l => l.length ≤ 9223372036854775807
  | .slice _ ds => ds.length ≤ 9223372036854775807
  | _ => True
mutual
def AV.bnd : AV → Prop
  | .d x => x.bnd
  | .agg cs => AV.bnds cs
  | .tuple cs => AV.bnds cs
  | _ => True
def AV.bnds : List AV → Prop
  | [] => True
  | c :: cs => AV.bnd c ∧ AV.bnds cs
end
theorem maxLen_le : maxLen ≤ 9223372036854775807 := by decide
theorem VD.bnd {I : Nat → Option Obj} {x : D} {v : Value} (h : VD I x v) : x.bnd := by
  cases h with
  | sl A cap vs hv h1 h2 hl hf ha =>
    have := maxLen_le
    cases x <;> simp only [D.view, Option.some.injEq, Prod.mk.injEq, reduceCtorEq] at hv <;> simp only [D.bnd]
    · obtain ⟨_, rfl⟩ := hv; simp only [List.length_map] at h1; omega
    · obtain ⟨_, rfl⟩ := hv; simp only [List.length_map] at h1; omega
    · obtain ⟨_, rfl⟩ := hv; omega
  | _ => trivial
theorem VA.bnd {G : Gh} {x : AV} {v : Value} (h : VA G x v) : x.bnd :=
  VA.rec (G := G) (motive_1 := fun x v _ => x.bnd) (motive_2 := fun xs vs _ => AV.bnds xs)
    (fun v => trivial) (fun h => h.bnd) trivial (fun u A l c h => trivial)
    (fun _ ih => ih) (fun _ ih => ih) (fun c o => trivial) (fun g o h ha => trivial) (fun u g sz i o h => trivial) (fun f _ _ _ ih => trivial)
    trivial (fun _ _ ih1 ih2 => ⟨ih1, ih2⟩) h
section
variable {E : Env} {σ : St} {Q : Qs}
theorem Tri.bnd {c : Code} (i : Nat) (h : (σ.tmps i).bnd → Tri E c σ Q) : Tri E c σ Q := fun G a w hr => h (hr.t i).bnd G a w hr
theorem TriOps.bnd {ops : Array Oper} {l : List Oper} (i : Nat) (h : (σ.tmps i).bnd → TriOps E ops l σ Q) : TriOps E ops l σ Q := fun G a w hr => h (hr.t i).bnd G a w hr
end
end Go.Proofs.YthmbdoegcpicbaaDoor.Abs

/-! ## AbsS2 -/
namespace Go.Proofs.YthmbdoegcpicbaaDoor.Abs
open Go.Proofs.YthmbdoegcpicbaaDoorW.PrintLast

abbrev SL := List (Nat × AV)
abbrev BL := List (BId × Box)
abbrev AL := List (Tag × Arr)
def numb : Nat → List AV → SL
  | _, [] => []
  | i, x :: r => (i, x) :: numb (i + 1) r
theorem tm_numb : ∀ (xs : List AV) (k i : Nat), tm (numb k xs) (k + i) = xs.getD i .undef
  | [], k, i => by simp [numb, tm]
  | x :: r, k, 0 => by simp [numb, tm]
  | x :: r, k, i + 1 => by
    have h : Nat.beq (k + (i + 1)) k = false := by
      cases hb : Nat.beq (k + (i + 1)) k
      · rfl
      · have := Nat.eq_of_beq_eq_true hb; omega
    simp only [numb, tm, h, cond_false, List.getD_cons_succ]
    rw [show k + (i + 1) = (k + 1) + i by omega]
    exact tm_numb r (k + 1) i
theorem enter_stt (n : Nat) (args : List AV) (bl : BL) (al : AL) : enter n args (bm bl) (am al) = stt n (numb 0 args) bl al := by
  simp only [enter, stt]
  congr
  funext i
  have := tm_numb args 0 i
  rw [Nat.zero_add] at this
  exact this.symm

/-! ### no name of a new block -/
mutual
def AV.clean (t : Tag) (b : BId) : AV → Bool
  | .own u => !decide (u = t)
  | .ptr c _ => !decide (c = b)
  | .eptr u _ _ _ => !decide (u = t)
  | .agg cs => AV.cleans t b cs
  | .tuple cs => AV.cleans t b cs
  | .fn _ cs => AV.cleans t b cs
  | .undef => true
  | .d _ => true
  | .nils => true
  | .dptr _ => true
def AV.cleans (t : Tag) (b : BId) : List AV → Bool
  | [] => true
  | c :: cs => AV.clean t b c && AV.cleans t b cs
end
mutual
theorem AV.purge_clean {t : Tag} {b : BId} {pt : Tag → Bool} {pb : BId → Bool} (ht : ∀ u, pt u = true → u = t) (hb : ∀ u, pb u = true → u = b) : ∀ x : AV, x.clean t b = true → x.purge pt pb = x
  | .own u, h => by
    simp only [AV.clean, Bool.not_eq_true', decide_eq_false_iff_not] at h
    have : pt u = false := by
      cases hu : pt u
      · rfl
      · exact absurd (ht u hu) h
    simp [AV.purge, this]
  | .ptr c _, h => by
    simp only [AV.clean, Bool.not_eq_true', decide_eq_false_iff_not] at h
    have : pb c = false := by
      cases hu : pb c
      · rfl
      · exact absurd (hb c hu) h
    simp [AV.purge, this]
  | .eptr u _ _ _, h => by
    simp only [AV.clean, Bool.not_eq_true', decide_eq_false_iff_not] at h
    have : pt u = false := by
      cases hu : pt u
      · rfl
      · exact absurd (ht u hu) h
    simp [AV.purge, this]
  | .agg cs, h => by simp only [AV.clean] at h; simp only [AV.purge, AV.purges_clean ht hb cs h]
  | .tuple cs, h => by simp only [AV.clean] at h; simp only [AV.purge, AV.purges_clean ht hb cs h]
  | .fn _ cs, h => by simp only [AV.clean] at h; simp only [AV.purge, AV.purges_clean ht hb cs h]
  | .undef, _ => by simp [AV.purge]
  | .d _, _ => by simp [AV.purge]
  | .nils, _ => by simp [AV.purge]
  | .dptr _, _ => by simp [AV.purge]
theorem AV.purges_clean {t : Tag} {b : BId} {pt : Tag → Bool} {pb : BId → Bool} (ht : ∀ u, pt u = true → u = t) (hb : ∀ u, pb u = true → u = b) : ∀ xs : List AV, AV.cleans t b xs = true → AV.purges pt pb xs = xs
  | [], _ => by simp [AV.purges]
  | x :: xs, h => by
    simp only [AV.cleans, Bool.and_eq_true] at h
    simp only [AV.purges, AV.purge_clean ht hb x h.1, AV.purges_clean ht hb xs h.2]
end
def cleanL (t : Tag) (b : BId) : SL → Bool
  | [] => true
  | (_, v) :: r => v.clean t b && cleanL t b r
def cleanB (t : Tag) (b : BId) : BL → Bool
  | [] => true
  | (_, x) :: r => AV.cleans t b x.cs && cleanB t b r
theorem cleanL_tm {t : Tag} {b : BId} : ∀ {l : SL}, cleanL t b l = true → ∀ i, (tm l i).clean t b = true
  | [], _, i => rfl
  | (k, v) :: r, h, i => by
    simp only [cleanL, Bool.and_eq_true] at h
    simp only [tm]
    cases Nat.beq i k
    · exact cleanL_tm h.2 i
    · exact h.1
theorem cleanB_bm {t : Tag} {b : BId} : ∀ {l : BL}, cleanB t b l = true → ∀ i x, bm l i = some x → AV.cleans t b x.cs = true
  | [], _, i, x, e => by cases e
  | (k, v) :: r, h, i, x, e => by
    simp only [cleanB, Bool.and_eq_true] at h
    simp only [bm] at e
    by_cases hk : i = k
    · simp only [hk, decide_true, cond_true, Option.some.injEq] at e; subst e; exact h.1
    · simp only [hk, decide_false, cond_false] at e; exact cleanB_bm h.2 i x e
/-- A tag that never stands for anything. -/
def noTag : Tag := .ret 4294967296
theorem newBox_stt {n : Nat} {l : SL} {bl : BL} {al : AL} {b : BId} {e : TypeId} {cs : List AV} (h : (cleanL noTag b l && cleanB noTag b bl && AV.cleans noTag b cs) = true) : (stt n l bl al).newBox b e cs = stt n l ((b, ⟨e, cs⟩) :: bl) al := by
  simp only [Bool.and_eq_true] at h
  have ht : ∀ u : Tag, (fun _ : Tag => false) u = true → u = noTag := fun u e => by cases e
  have hb : ∀ u : BId, (fun j => decide (j = b)) u = true → u = b := fun u e => of_decide_eq_true e
  have e1 : (fun i => (tm l i).purge (fun _ => false) (fun j => decide (j = b))) = tm l := funext fun i => AV.purge_clean ht hb _ (cleanL_tm h.1.1 i)
  have e2 := AV.purges_clean ht hb cs h.2
  simp only [St.newBox, stt, St.purge, e1, e2]
  congr
  funext i
  simp only [bm]
  by_cases hi : i = b
  · simp [hi]
  · simp only [hi, decide_false, cond_false]
    cases hx : bm bl i with
    | none => rfl
    | some x =>
      have := AV.purges_clean ht hb x.cs (cleanB_bm h.1.2 i x hx)
      simp only [this]

theorem setBox_stt {n : Nat} {l : SL} {bl : BL} {al : AL} {b : BId} {x : Box} {cs : List AV} (h : bm bl b = some x) : (stt n l bl al).setBox b cs = stt n l ((b, ⟨x.E, cs⟩) :: bl) al := by
  simp only [St.setBox, stt, h]
  congr
section
variable {E : Env} {ops : Array Oper} {rest : List Oper} {o : Oper} {n : Nat} {l : SL} {bl : BL} {al : AL} {Q : Qs} {d : Nat}

theorem Fn.s {f : FuncId} {fn : Func} {c : Code} {args : List AV} {R : RQ} (n : Nat) (bl : BL) (al : AL) (hf : E.P.funcs[f]? = some fn) (hb : fn.body = some c) (hname : (fn.name == "runtime.NumGoroutine") = false) (hn : Nat.beq fn.ntmps n = true) (ha : Nat.ble args.length n = true)
    (h : Tri E c (stt n (numb 0 args) bl al) (retQ E.Γ fn.results.toList R)) : Fn E f args (bm bl) (am al) R := by
  have hn := Nat.eq_of_beq_eq_true hn
  subst hn
  exact Fn.intro hf hb hname ha (by rw [enter_stt]; exact h)
theorem Fn.vs {f : FuncId} {fn : Func} {c : Code} {args : List AV} {r : AV} (n : Nat) (hf : E.P.funcs[f]? = some fn) (hb : fn.body = some c) (hname : (fn.name == "runtime.NumGoroutine") = false) (hn : Nat.beq fn.ntmps n = true) (ha : Nat.ble args.length n = true)
    (h : Tri E c (stt n (numb 0 args) [] []) (retQ E.Γ fn.results.toList fun r' _ _ => r' = r)) : FnV E f args r := Fn.s n [] [] hf hb hname hn ha h

theorem TriOps.v1 {p : Prop} {r : AV} (hdst : o.dst = some d) (hg : gOk ops (stt n l bl al) o.guard = some true) (hv : opvN E.Γ (stt n l bl al) o.op = some (p, r)) (hd : Nat.ble (d + 1) n = true) (hp : p) (h : TriOps E ops rest (stt n ((d, r) :: l) bl al) Q) : TriOps E ops (o :: rest) (stt n l bl al) Q :=
  TriOps.v hdst hg hv hd hp h
theorem TriOps.s1 (hdst : o.dst = some d) (hg : gOk ops (stt n l bl al) o.guard = some false) (hd : Nat.ble (d + 1) n = true) (h : TriOps E ops rest (stt n ((d, .undef) :: l) bl al) Q) : TriOps E ops (o :: rest) (stt n l bl al) Q :=
  TriOps.s hdst hg hd h
theorem TriOps.c1 {c : Call} {f : FuncId} {args : List AV} {r : AV} (hop : o.op = .call c) (hdst : o.dst = some d) (hg : gOk ops (stt n l bl al) o.guard = some true) (hc : calleeOf (stt n l bl al) c = some (f, args)) (hd : Nat.ble (d + 1) n = true) (hf : FnV E f (AV.lends (stt n l bl al) args) r) (hr : r.flat = true)
    (h : TriOps E ops rest (stt n ((d, r) :: l) bl al) Q) : TriOps E ops (o :: rest) (stt n l bl al) Q := TriOps.c hop hdst hg hc hd hf hr h
theorem TriOps.m1 {c : Call} {f : FuncId} {args : List AV} {r : AV} (hop : o.op = .call c) (hdst : o.dst = some d) (hg : gOk ops (stt n l bl al) o.guard = some true) (hc : calleeOf (stt n l bl al) c = some (f, args)) (hd : Nat.ble (d + 1) n = true) (hpl : AV.plains args = true) (hf : FnV E f args r) (hr : r.plain = true)
    (h : TriOps E ops rest (stt n ((d, r) :: l) bl al) Q) : TriOps E ops (o :: rest) (stt n l bl al) Q := TriOps.m hop hdst hg hc hd hpl hf hr h
theorem TriOps.g1 {j : Nat} {want b : Bool} (hgd : o.guard = some (j, want)) (hj : (ops[j]?).bind (·.dst) = some d) (hb : tm l d = .d (.bool b))
    (ht : b = true → TriOps E ops (o :: rest) (stt n ((d, .d (.bool true)) :: l) bl al) Q) (hf : b = false → TriOps E ops (o :: rest) (stt n ((d, .d (.bool false)) :: l) bl al) Q) : TriOps E ops (o :: rest) (stt n l bl al) Q := TriOps.g hgd hj hb ht hf
theorem TriOps.q1 {r : AV} (hdst : o.dst = some d) (hg : gOk ops (stt n l bl al) o.guard = some true) (hv : vEqS E.Γ (stt n l bl al) o.op = some r) (hst : E.P.stoodInHeld (tyOfEq o.op) = false) (hge : E.P.eqGuardType E.P.depth (tyOfEq o.op) = false) (hd : Nat.ble (d + 1) n = true)
    (h : TriOps E ops rest (stt n ((d, r) :: l) bl al) Q) : TriOps E ops (o :: rest) (stt n l bl al) Q := TriOps.q hdst hg hv hst hge hd h
/-- A new variable. -/
theorem TriOps.b1 {e : TypeId} {x : Operand} {cs : List AV} (hop : o.op = .box e x) (hdst : o.dst = some d) (hg : gOk ops (stt n l bl al) o.guard = some true) (hx : nfc ((stt n l bl al).ev x).cells = some cs) (hd : Nat.ble (d + 1) n = true) (hcl : (cleanL noTag (.loc d) l && cleanB noTag (.loc d) bl && AV.cleans noTag (.loc d) cs) = true)
    (h : TriOps E ops rest (stt n ((d, .ptr (.loc d) 0) :: l) ((.loc d, ⟨e, cs⟩) :: bl) al) Q) : TriOps E ops (o :: rest) (stt n l bl al) Q :=
  TriOps.eff (fp := nofp) hg (Step.box hop hdst hd (nfc_eq hx) rfl) (by rintro σ' rfl; rw [newBox_stt hcl]; exact h)
theorem TriOps.a1 {e : TypeId} {i : TI} {cs : List AV} (hop : o.op = .alloc e) (hdst : o.dst = some d) (hg : gOk ops (stt n l bl al) o.guard = some true) (hi : E.Γ e = some i) (hx : nfc (some (cvals i.zero.cells.toList)) = some cs) (hd : Nat.ble (d + 1) n = true) (hcl : (cleanL noTag (.loc d) l && cleanB noTag (.loc d) bl && AV.cleans noTag (.loc d) cs) = true)
    (h : TriOps E ops rest (stt n ((d, .ptr (.loc d) 0) :: l) ((.loc d, ⟨e, cs⟩) :: bl) al) Q) : TriOps E ops (o :: rest) (stt n l bl al) Q :=
  TriOps.eff (fp := nofp) hg (Step.alloc hop hdst hd hi rfl) (by
    rintro σ' rfl
    have := nfc_eq hx
    simp only [Option.some.injEq] at this
    rw [this, newBox_stt hcl]; exact h)
/-- A store into a variable. -/
theorem TriOps.w1 {t : TypeId} {x y : Operand} {i : TI} {b : BId} {q : Nat} {T : TypeId} {cs0 cs cs' : List AV} (hop : o.op = .store t x y) (hdst : o.dst = none) (hg : gOk ops (stt n l bl al) o.guard = some true) (hi : E.Γ t = some i) (hx : (stt n l bl al).ev x = .ptr b q) (hb : bm bl b = some ⟨T, cs0⟩) (hc : nfc ((stt n l bl al).ev y).cells = some cs)
    (hl : (allOne cs && Nat.beq cs.length i.size && Nat.ble (q + i.size) cs0.length) = true) (hs : nfc (some (splice cs0 q cs)) = some cs') (h : TriOps E ops rest (stt n l ((b, ⟨T, cs'⟩) :: bl) al) Q) : TriOps E ops (o :: rest) (stt n l bl al) Q := by
  simp only [Bool.and_eq_true] at hl
  have hs := nfc_eq hs
  simp only [Option.some.injEq] at hs
  refine TriOps.eff (fp := nofp) hg (Step.store hop (by rw [hdst]; rfl) hi hx hb (nfc_eq hc) hl.1.1 hl.1.2 hl.2 rfl) ?_
  rintro σ' rfl
  rw [hdst, hs, setBox_stt hb]
  exact h
/-- Back to a state written out. -/
theorem TriOps.w {σ : St} {ls : List Oper} (l : SL) (bl : BL) (al : AL) (hn : σ.n = n) (h1 : agT σ.tmps l) (h2 : agB σ.boxes bl) (h3 : agA σ.arrs al) (h : TriOps E ops ls (stt n l bl al) Q) : TriOps E ops ls σ Q := TriOps.weak (Wk.to hn h1 h2 h3) h
theorem Tri.w {σ : St} {c : Code} (l : SL) (bl : BL) (al : AL) (hn : σ.n = n) (h1 : agT σ.tmps l) (h2 : agB σ.boxes bl) (h3 : agA σ.arrs al) (h : Tri E c (stt n l bl al) Q) : Tri E c σ Q := Tri.weak (Wk.to hn h1 h2 h3) h
end
section
variable {E : Env} {ops : Array Oper} {o : Oper} {Q : Qs} {fp : List BId} {ds : List Nat} {cl : Bool} {s : List (Nat × Nat)} {d i n : Nat} {l : SL} {bl : BL} {al : AL}
theorem TS.v1 {p : Prop} {r : AV} (hi : ops[i]? = some o) (hpn : NoPanic Q) (hdst : o.dst = some d) (hg : gOk ops (stt n l bl al) o.guard = some true) (hnl : isLoad o.op = false) (hv : opvN E.Γ (stt n l bl al) o.op = some (p, r)) (hd : Nat.ble (d + 1) n = true) (hp : p)
    (h : TS E ops fp ds cl s (stt n ((d, r) :: l) bl al) Q) : TS E ops fp ds cl ((i, 0) :: s) (stt n l bl al) Q := TS.v hi hpn hdst hg hnl hv hd hp h
theorem TS.t1 {p : Prop} {r : AV} (hi : ops[i]? = some o) (hpn : NoPanic Q) (hdst : o.dst = some d) (hg : gOk ops (stt n l bl al) o.guard = some true) (ht : tk cl fp (stt n l bl al) o.op = true) (hv : opvN E.Γ (stt n l bl al) o.op = some (p, r)) (hd : Nat.ble (d + 1) n = true) (hp : p)
    (h : TS E ops fp ds cl s (stt n ((d, r) :: l) bl al) Q) : TS E ops fp ds cl ((i, 1) :: s) (stt n l bl al) Q := TS.t hi hpn hdst hg ht hv hd hp h
theorem TS.n0 (hi : ops[i]? = some o) (hpn : NoPanic Q) (hdst : o.dst = some d) (hg : gOk ops (stt n l bl al) o.guard = some false) (hd : Nat.ble (d + 1) n = true)
    (h : TS E ops fp ds cl s (stt n ((d, .undef) :: l) bl al) Q) : TS E ops fp ds cl ((i, 0) :: s) (stt n l bl al) Q := TS.s0 hi hpn hdst hg hd h
theorem TS.n1 (hi : ops[i]? = some o) (hpn : NoPanic Q) (hdst : o.dst = some d) (hg : gOk ops (stt n l bl al) o.guard = some false) (hd : Nat.ble (d + 1) n = true)
    (h : TS E ops fp ds cl s (stt n ((d, .undef) :: l) bl al) Q) : TS E ops fp ds cl ((i, 1) :: s) (stt n l bl al) Q := TS.s1 hi hpn hdst hg hd h
theorem TS.n2 (hi : ops[i]? = some o) (hdst : o.dst = some d) (hg : gOk ops (stt n l bl al) o.guard = some false) (hd : Nat.ble (d + 1) n = true)
    (h : TS E ops fp ds cl s (stt n ((d, .undef) :: l) bl al) Q) : TS E ops fp ds cl ((i, 2) :: s) (stt n l bl al) Q := TS.s2 hi hdst hg hd h
theorem TS.c1 {c : Call} {f : FuncId} {args : List AV} {r : AV} (hi : ops[i]? = some o) (hal : aliveB (stt n l bl al) fp = true) (hop : o.op = .call c) (hdst : o.dst = some d) (hg : gOk ops (stt n l bl al) o.guard = some true) (hce : calleeOf (stt n l bl al) c = some (f, args)) (hd : Nat.ble (d + 1) n = true)
    (hf : FnV E f (AV.lends (stt n l bl al) args) r) (hr : r.flat = true) (h : TS E ops fp ds false s (stt n ((d, r) :: l) bl al) Q) : TS E ops fp ds cl ((i, 2) :: s) (stt n l bl al) Q := TS.c hi hal hop hdst hg hce hd hf hr h
theorem TS.m1 {c : Call} {f : FuncId} {args : List AV} {r : AV} (hi : ops[i]? = some o) (hal : aliveB (stt n l bl al) fp = true) (hop : o.op = .call c) (hdst : o.dst = some d) (hg : gOk ops (stt n l bl al) o.guard = some true) (hce : calleeOf (stt n l bl al) c = some (f, args)) (hd : Nat.ble (d + 1) n = true) (hpl : AV.plains args = true)
    (hf : FnV E f args r) (hr : r.plain = true) (h : TS E ops fp ds false s (stt n ((d, r) :: l) bl al) Q) : TS E ops fp ds cl ((i, 2) :: s) (stt n l bl al) Q := TS.m hi hal hop hdst hg hce hd hpl hf hr h
theorem TS.g1 {j k : Nat} {want b : Bool} (hi : ops[i]? = some o) (hgd : o.guard = some (j, want)) (hj : (ops[j]?).bind (·.dst) = some d) (hb : tm l d = .d (.bool b))
    (ht : b = true → TS E ops fp ds cl ((i, k) :: s) (stt n ((d, .d (.bool true)) :: l) bl al) Q) (hf : b = false → TS E ops fp ds cl ((i, k) :: s) (stt n ((d, .d (.bool false)) :: l) bl al) Q) : TS E ops fp ds cl ((i, k) :: s) (stt n l bl al) Q := TS.g hi hgd hj hb ht hf
theorem TS.w1 {t : TypeId} {x y : Operand} {i' : TI} {b : BId} {q : Nat} {T : TypeId} {cs0 cs cs' : List AV} (hi : ops[i]? = some o) (hal : aliveB (stt n l bl al) fp = true) (hop : o.op = .store t x y) (hdst : o.dst = none) (hg : gOk ops (stt n l bl al) o.guard = some true) (ht : E.Γ t = some i') (hx : (stt n l bl al).ev x = .ptr b q) (hb : bm bl b = some ⟨T, cs0⟩) (hc : nfc ((stt n l bl al).ev y).cells = some cs)
    (hl : (allOne cs && Nat.beq cs.length i'.size && Nat.ble (q + i'.size) cs0.length) = true) (hfp : inL fp b = false) (hs : nfc (some (splice cs0 q cs)) = some cs') (h : TS E ops fp ds false s (stt n l ((b, ⟨T, cs'⟩) :: bl) al) Q) : TS E ops fp ds cl ((i, 2) :: s) (stt n l bl al) Q := by
  simp only [Bool.and_eq_true] at hl
  have hs := nfc_eq hs
  simp only [Option.some.injEq] at hs
  refine TS.e hi hal hg (Step.store hop (by rw [hdst]; rfl) ht hx hb (nfc_eq hc) hl.1.1 hl.1.2 hl.2 hfp) ?_
  rintro σ' rfl
  rw [hdst, hs, setBox_stt hb]
  exact h
/-- The region's last operation: a store, also into what its loads have read. -/
theorem TS.lw1 {t : TypeId} {x y : Operand} {i' : TI} {b : BId} {q : Nat} {T : TypeId} {cs0 cs cs' : List AV} (hi : ops[i]? = some o) (hop : o.op = .store t x y) (hdst : o.dst = none) (hg : gOk ops (stt n l bl al) o.guard = some true) (ht : E.Γ t = some i') (hx : (stt n l bl al).ev x = .ptr b q) (hb : bm bl b = some ⟨T, cs0⟩) (hc : nfc ((stt n l bl al).ev y).cells = some cs)
    (hl : (allOne cs && Nat.beq cs.length i'.size && Nat.ble (q + i'.size) cs0.length) = true) (hs : nfc (some (splice cs0 q cs)) = some cs') (h : Q .normal (stt n l ((b, ⟨T, cs'⟩) :: bl) al)) : TS E ops fp ds cl ((i, 3) :: []) (stt n l bl al) Q := by
  simp only [Bool.and_eq_true] at hl
  have hs := nfc_eq hs
  simp only [Option.some.injEq] at hs
  refine TS.l hi hg (Step.store hop (by rw [hdst]; rfl) ht hx hb (nfc_eq hc) hl.1.1 hl.1.2 hl.2 rfl) ?_
  rintro σ' rfl
  rw [hdst, hs, setBox_stt hb]
  exact h
theorem TS.q1 {r : AV} (hi : ops[i]? = some o) (hpn : NoPanic Q) (hdst : o.dst = some d) (hg : gOk ops (stt n l bl al) o.guard = some true) (hv : vEqS E.Γ (stt n l bl al) o.op = some r) (hst : E.P.stoodInHeld (tyOfEq o.op) = false) (hge : E.P.eqGuardType E.P.depth (tyOfEq o.op) = false) (hd : Nat.ble (d + 1) n = true)
    (h : TS E ops fp ds cl s (stt n ((d, r) :: l) bl al) Q) : TS E ops fp ds cl ((i, 0) :: s) (stt n l bl al) Q := TS.q hi hpn hdst hg hv hst hge hd h
end
end Go.Proofs.YthmbdoegcpicbaaDoor.Abs

/-! ## AbsS3 -/
namespace Go.Proofs.YthmbdoegcpicbaaDoor.Abs

def u64N (op : BinOp) (a b : Nat) : Option Nat := match op with
  | .and => some (a &&& b)
  | .or => some (a ||| b)
  | .xor => some (a ^^^ b)
  | .andNot => some (a ^^^ (a &&& b))
  | .add => some ((a + b) % 18446744073709551616)
  | .sub => some ((a + (18446744073709551616 - b)) % 18446744073709551616)
  | .mul => some ((a * b) % 18446744073709551616)
  | _ => none
theorem ofInt64 {a : Nat} (ha : a < 18446744073709551616) : (BitVec.ofInt 64 (a : Int)).toNat = a := by
  rw [BitVec.ofInt_natCast, BitVec.toNat_ofNat]; exact Nat.mod_eq_of_lt (by omega)
theorem wrap_nat {a : Nat} (ha : a < 18446744073709551616) : IntKind.u64.wrap (a : Int) = (a : Int) := by
  have : IntKind.u64.wrap (a : Int) = (a : Int) % 18446744073709551616 := by simp [IntKind.wrap, IntKind.bits, IntKind.signed]
  rw [this]; omega
theorem wrap_mod (n : Int) : IntKind.u64.wrap n = n % 18446744073709551616 := by simp [IntKind.wrap, IntKind.bits, IntKind.signed]
theorem u64_and {a b : Nat} (ha : a < 18446744073709551616) (hb : b < 18446744073709551616) : IntKind.u64.wrap ((BitVec.ofInt 64 (a : Int) &&& BitVec.ofInt 64 (b : Int)).toNat : Int) = ((a &&& b : Nat) : Int) := by
  rw [BitVec.toNat_and, ofInt64 ha, ofInt64 hb, wrap_nat (Nat.lt_of_le_of_lt Nat.and_le_left ha)]
theorem u64_or {a b : Nat} (ha : a < 18446744073709551616) (hb : b < 18446744073709551616) : IntKind.u64.wrap ((BitVec.ofInt 64 (a : Int) ||| BitVec.ofInt 64 (b : Int)).toNat : Int) = ((a ||| b : Nat) : Int) := by
  rw [BitVec.toNat_or, ofInt64 ha, ofInt64 hb, wrap_nat (Nat.or_lt_two_pow (n := 64) ha hb)]
theorem u64_xor {a b : Nat} (ha : a < 18446744073709551616) (hb : b < 18446744073709551616) : IntKind.u64.wrap ((BitVec.ofInt 64 (a : Int) ^^^ BitVec.ofInt 64 (b : Int)).toNat : Int) = ((a ^^^ b : Nat) : Int) := by
  rw [BitVec.toNat_xor, ofInt64 ha, ofInt64 hb, wrap_nat (Nat.xor_lt_two_pow (n := 64) ha hb)]
theorem and_not_eq (x y : BitVec 64) : x &&& ~~~y = x ^^^ (x &&& y) := by
  ext i hi
  simp only [BitVec.getElem_and, BitVec.getElem_not, BitVec.getElem_xor]
  cases x[i] <;> cases y[i] <;> rfl
theorem u64_andNot {a b : Nat} (ha : a < 18446744073709551616) (hb : b < 18446744073709551616) : IntKind.u64.wrap ((BitVec.ofInt 64 (a : Int) &&& ~~~BitVec.ofInt 64 (b : Int)).toNat : Int) = ((a ^^^ (a &&& b) : Nat) : Int) := by
  rw [and_not_eq, BitVec.toNat_xor, BitVec.toNat_and, ofInt64 ha, ofInt64 hb, wrap_nat (Nat.xor_lt_two_pow (n := 64) ha (Nat.lt_of_le_of_lt Nat.and_le_left ha))]
theorem int_eq {m n : Int} (h : m = n) : (some (True, AV.d (.int .u64 m)) : Option (Prop × AV)) = some (True, .d (.int .u64 n)) := by rw [h]
theorem vInt_u64 {op : BinOp} {a b c : Nat} (h : u64N op a b = some c) (ha : a < 18446744073709551616) (hb : b < 18446744073709551616) : vInt op .u64 (a : Int) (b : Int) = some (True, .d (.int .u64 (c : Int))) := by
  cases op
  case add => obtain rfl := Option.some.inj h; exact int_eq (by rw [wrap_mod]; omega)
  case sub => obtain rfl := Option.some.inj h; exact int_eq (by rw [wrap_mod]; omega)
  case mul => obtain rfl := Option.some.inj h; exact int_eq (by rw [wrap_mod, ← Int.natCast_mul]; omega)
  case and => obtain rfl := Option.some.inj h; exact int_eq (u64_and ha hb)
  case or => obtain rfl := Option.some.inj h; exact int_eq (u64_or ha hb)
  case xor => obtain rfl := Option.some.inj h; exact int_eq (u64_xor ha hb)
  case andNot => obtain rfl := Option.some.inj h; exact int_eq (u64_andNot ha hb)
  all_goals (change none = some c at h; cases h)
theorem opvN_u64 {Γ : TypeId → Option TI} {σ : St} {op : BinOp} {t yt : TypeId} {x y : Operand} {a b c : Nat} (hx : σ.ev x = .d (.int .u64 (a : Int))) (hy : σ.ev y = .d (.int .u64 (b : Int))) (h : u64N op a b = some c) (ha : a < 18446744073709551616) (hb : b < 18446744073709551616) :
    opvN Γ σ (.binOp op t x y yt) = some (True, .d (.int .u64 (c : Int))) := by
  have : opv Γ σ (.binOp op t x y yt) = some (True, .d (.int .u64 (c : Int))) := by
    simp only [opv, hx, hy, vBin]
    have hs : isShift op = false := by cases op <;> first | rfl | (simp [u64N] at h)
    simp only [hs, cond_false, decide_true, cond_true]
    exact vInt_u64 h ha hb
  simp only [opvN, this, nf, nfD]
/-- A shift to the left of a set's bit. -/
theorem opvN_shl {Γ : TypeId → Option TI} {σ : St} {t yt : TypeId} {x y : Operand} {a : Nat} {k : IntKind} {n : Int} (hx : σ.ev x = .d (.int .u64 (a : Int))) (hy : σ.ev y = .d (.int k n)) (h : 0 ≤ n ∧ n < 64) (ha : a * 2 ^ n.toNat < 18446744073709551616) :
    ∃ p : Prop, p ∧ opvN Γ σ (.binOp .shl t x y yt) = some (p, .d (.int .u64 ((a * 2 ^ n.toNat : Nat) : Int))) := by
  refine ⟨0 ≤ n, h.1, ?_⟩
  have e : IntKind.u64.wrap ((a : Int) * 2 ^ min n.toNat IntKind.u64.bits) = ((a * 2 ^ n.toNat : Nat) : Int) := by
    have : min n.toNat IntKind.u64.bits = n.toNat := Nat.min_eq_left (by show n.toNat ≤ 64; omega)
    rw [this, ← wrap_nat ha]
    norm_cast
  have : opv Γ σ (.binOp .shl t x y yt) = some (0 ≤ n, .d (.int .u64 ((a * 2 ^ n.toNat : Nat) : Int))) := by
    simp only [opv, hx, hy, vBin, isShift, cond_true, vShift, e]
  simp only [opvN, this, nf, nfD]
theorem opvN_shr {Γ : TypeId → Option TI} {σ : St} {t yt : TypeId} {x y : Operand} {a : Nat} {k : IntKind} {n : Int} (hx : σ.ev x = .d (.int .u64 (a : Int))) (hy : σ.ev y = .d (.int k n)) (h : 0 ≤ n ∧ n < 64) :
    ∃ p : Prop, p ∧ opvN Γ σ (.binOp .shr t x y yt) = some (p, .d (.int .u64 ((a / 2 ^ n.toNat : Nat) : Int))) := by
  refine ⟨0 ≤ n, h.1, ?_⟩
  have e : ((a : Int)).fdiv (2 ^ min n.toNat IntKind.u64.bits) = ((a / 2 ^ n.toNat : Nat) : Int) := by
    have : min n.toNat IntKind.u64.bits = n.toNat := Nat.min_eq_left (by show n.toNat ≤ 64; omega)
    rw [this, Int.fdiv_eq_ediv_of_nonneg _ (by exact_mod_cast Nat.zero_le _)]
    norm_cast
  have : opv Γ σ (.binOp .shr t x y yt) = some (0 ≤ n, .d (.int .u64 ((a / 2 ^ n.toNat : Nat) : Int))) := by
    simp only [opv, hx, hy, vBin, isShift, cond_true, vShift, e]
  simp only [opvN, this, nf, nfD]
section
variable {E : Env} {ops : Array Oper} {rest : List Oper} {o : Oper} {n : Nat} {l : SL} {bl : BL} {al : AL} {Q : Qs} {d i : Nat} {fp : List BId} {ds : List Nat} {cl : Bool} {s : List (Nat × Nat)}
theorem TriOps.u1 {op : BinOp} {t yt : TypeId} {x y : Operand} {a b c : Nat} (hop : o.op = .binOp op t x y yt) (hdst : o.dst = some d) (hg : gOk ops (stt n l bl al) o.guard = some true) (hx : (stt n l bl al).ev x = .d (.int .u64 (a : Int))) (hy : (stt n l bl al).ev y = .d (.int .u64 (b : Int))) (hc : u64N op a b = some c) (hd : Nat.ble (d + 1) n = true)
    (ha : a < 18446744073709551616) (hb : b < 18446744073709551616) (h : TriOps E ops rest (stt n ((d, .d (.int .u64 (c : Int))) :: l) bl al) Q) : TriOps E ops (o :: rest) (stt n l bl al) Q :=
  TriOps.v1 hdst hg (by rw [hop]; exact opvN_u64 hx hy hc ha hb) hd True.intro h
theorem TS.u1 {op : BinOp} {t yt : TypeId} {x y : Operand} {a b c : Nat} (hi : ops[i]? = some o) (hpn : NoPanic Q) (hop : o.op = .binOp op t x y yt) (hdst : o.dst = some d) (hg : gOk ops (stt n l bl al) o.guard = some true) (hx : (stt n l bl al).ev x = .d (.int .u64 (a : Int))) (hy : (stt n l bl al).ev y = .d (.int .u64 (b : Int))) (hc : u64N op a b = some c) (hd : Nat.ble (d + 1) n = true)
    (ha : a < 18446744073709551616) (hb : b < 18446744073709551616) (h : TS E ops fp ds cl s (stt n ((d, .d (.int .u64 (c : Int))) :: l) bl al) Q) : TS E ops fp ds cl ((i, 0) :: s) (stt n l bl al) Q :=
  TS.v1 hi hpn hdst hg (by rw [hop]; rfl) (by rw [hop]; exact opvN_u64 hx hy hc ha hb) hd True.intro h
theorem TriOps.shl1 {t yt : TypeId} {x y : Operand} {a : Nat} {k : IntKind} {m : Int} (hop : o.op = .binOp .shl t x y yt) (hdst : o.dst = some d) (hg : gOk ops (stt n l bl al) o.guard = some true) (hx : (stt n l bl al).ev x = .d (.int .u64 (a : Int))) (hy : (stt n l bl al).ev y = .d (.int k m)) (hd : Nat.ble (d + 1) n = true)
    (hm : 0 ≤ m ∧ m < 64) (ha : a * 2 ^ m.toNat < 18446744073709551616) (h : TriOps E ops rest (stt n ((d, .d (.int .u64 ((a * 2 ^ m.toNat : Nat) : Int))) :: l) bl al) Q) : TriOps E ops (o :: rest) (stt n l bl al) Q := by
  obtain ⟨p, hp, hv⟩ := opvN_shl (Γ := E.Γ) (t := t) (yt := yt) hx hy hm ha
  exact TriOps.v1 hdst hg (by rw [hop]; exact hv) hd hp h
theorem TS.shl1 {t yt : TypeId} {x y : Operand} {a : Nat} {k : IntKind} {m : Int} (hi : ops[i]? = some o) (hpn : NoPanic Q) (hop : o.op = .binOp .shl t x y yt) (hdst : o.dst = some d) (hg : gOk ops (stt n l bl al) o.guard = some true) (hx : (stt n l bl al).ev x = .d (.int .u64 (a : Int))) (hy : (stt n l bl al).ev y = .d (.int k m)) (hd : Nat.ble (d + 1) n = true)
    (hm : 0 ≤ m ∧ m < 64) (ha : a * 2 ^ m.toNat < 18446744073709551616) (h : TS E ops fp ds cl s (stt n ((d, .d (.int .u64 ((a * 2 ^ m.toNat : Nat) : Int))) :: l) bl al) Q) : TS E ops fp ds cl ((i, 0) :: s) (stt n l bl al) Q := by
  obtain ⟨p, hp, hv⟩ := opvN_shl (Γ := E.Γ) (t := t) (yt := yt) hx hy hm ha
  exact TS.v1 hi hpn hdst hg (by rw [hop]; rfl) (by rw [hop]; exact hv) hd hp h
theorem TriOps.shr1 {t yt : TypeId} {x y : Operand} {a : Nat} {k : IntKind} {m : Int} (hop : o.op = .binOp .shr t x y yt) (hdst : o.dst = some d) (hg : gOk ops (stt n l bl al) o.guard = some true) (hx : (stt n l bl al).ev x = .d (.int .u64 (a : Int))) (hy : (stt n l bl al).ev y = .d (.int k m)) (hd : Nat.ble (d + 1) n = true)
    (hm : 0 ≤ m ∧ m < 64) (h : TriOps E ops rest (stt n ((d, .d (.int .u64 ((a / 2 ^ m.toNat : Nat) : Int))) :: l) bl al) Q) : TriOps E ops (o :: rest) (stt n l bl al) Q := by
  obtain ⟨p, hp, hv⟩ := opvN_shr (Γ := E.Γ) (t := t) (yt := yt) hx hy hm
  exact TriOps.v1 hdst hg (by rw [hop]; exact hv) hd hp h
theorem TS.shr1 {t yt : TypeId} {x y : Operand} {a : Nat} {k : IntKind} {m : Int} (hi : ops[i]? = some o) (hpn : NoPanic Q) (hop : o.op = .binOp .shr t x y yt) (hdst : o.dst = some d) (hg : gOk ops (stt n l bl al) o.guard = some true) (hx : (stt n l bl al).ev x = .d (.int .u64 (a : Int))) (hy : (stt n l bl al).ev y = .d (.int k m)) (hd : Nat.ble (d + 1) n = true)
    (hm : 0 ≤ m ∧ m < 64) (h : TS E ops fp ds cl s (stt n ((d, .d (.int .u64 ((a / 2 ^ m.toNat : Nat) : Int))) :: l) bl al) Q) : TS E ops fp ds cl ((i, 0) :: s) (stt n l bl al) Q := by
  obtain ⟨p, hp, hv⟩ := opvN_shr (Γ := E.Γ) (t := t) (yt := yt) hx hy hm
  exact TS.v1 hi hpn hdst hg (by rw [hop]; rfl) (by rw [hop]; exact hv) hd hp h
end
end Go.Proofs.YthmbdoegcpicbaaDoor.Abs

/-! ## AbsS4 -/
namespace Go.Proofs.YthmbdoegcpicbaaDoor.Abs
open Go.Proofs.YthmbdoegcpicbaaDoorW.PrintLast

/-! ### a call that lends what it is handed and gives back slices of its own -/
mutual
def D.flat : D → Bool
  | .int _ _ => true
  | .bool _ => true
  | .str _ => true
  | .agg ds => D.flats ds
  | .ints _ _ => false
  | .strs _ => false
  | .slice _ _ => false
def D.flats : List D → Bool
  | [] => true
  | d :: ds => D.flat d && D.flats ds
end
mutual
theorem VD.flat {I J : Nat → Option Obj} : ∀ {x : D} {v : Value}, VD I x v → x.flat = true → VD J x v
  | .int k n, _, h, _ => by cases h with
    | int => exact .int _ _
    | sl A cap vs hv => simp [D.view] at hv
  | .bool b, _, h, _ => by cases h with
    | bool => exact .bool _
    | sl A cap vs hv => simp [D.view] at hv
  | .str b, _, h, _ => by cases h with
    | str => exact .str _
    | sl A cap vs hv => simp [D.view] at hv
  | .agg ds, _, h, hf => by cases h with
    | agg h => exact .agg (VDs.flat h (by simpa [D.flat] using hf))
    | sl A cap vs hv => simp [D.view] at hv
  | .ints _ _, _, _, hf => by simp [D.flat] at hf
  | .strs _, _, _, hf => by simp [D.flat] at hf
  | .slice _ _, _, _, hf => by simp [D.flat] at hf
theorem VDs.flat {I J : Nat → Option Obj} : ∀ {x : List D} {v : List Value}, VDs I x v → D.flats x = true → VDs J x v
  | [], _, h, _ => by cases h; exact .nil
  | x :: xs, _, h, hf => by
    simp only [D.flats, Bool.and_eq_true] at hf
    cases h with
    | cons h ho t => exact .cons (VD.flat h hf.1) ho (VDs.flat t hf.2)
end
/-- A slice whose elements hold no memory. -/
def D.flatE : D → Bool
  | .ints _ _ => true
  | .strs _ => true
  | .slice _ ds => D.flats ds
  | _ => false
theorem flats_mem : ∀ {ds : List D}, D.flats ds = true → ∀ x ∈ ds, x.flat = true
  | [], _, x, h => by cases h
  | d :: ds, hf, x, h => by
    simp only [D.flats, Bool.and_eq_true] at hf
    rcases List.mem_cons.1 h with rfl | h
    · exact hf.1
    · exact flats_mem hf.2 x h
theorem leaves_flat {x : D} (h : x.flat = true) : D.flats x.leaves = true := by
  cases x <;> simp_all [D.leaves, D.flat, D.flats]
theorem Flat.flat {I J : Nat → Option Obj} {c : D} {sz : Nat} {es : List D} {vs : List Value} (hc : c.flatE = true) (hv : c.view = some (sz, es)) (h : Flat I sz es vs) : Flat J sz es vs := by
  refine ⟨h.1, fun i hi => VDs.flat (h.2 i hi) (leaves_flat ?_)⟩
  cases c <;> simp only [D.view, Option.some.injEq, Prod.mk.injEq, reduceCtorEq] at hv <;> obtain ⟨rfl, rfl⟩ := hv
  · simp [D.flat]
  · simp [D.flat]
  · exact flats_mem (by simpa [D.flatE] using hc) _ (List.getElem_mem hi)
mutual
/-- A value without memory but for new slices. -/
def AV.ownly : AV → Bool
  | .d x => x.flat
  | .nils => true
  | .undef => true
  | .own t => (match t with | .ret _ => true | _ => false)
  | .agg cs => AV.ownlys cs
  | .tuple cs => AV.ownlys cs
  | _ => false
def AV.ownlys : List AV → Bool
  | [] => true
  | c :: cs => AV.ownly c && AV.ownlys cs
end
theorem VA.ownly {G H : Gh} {d : Nat} (hr : ∀ j, H.av (.tmp d j) = G.av (.ret j)) {x : AV} {v : Value} (h : VA G x v) (hf : x.ownly = true) : VA H (x.down [] [] d) v :=
  VA.rec (G := G) (motive_1 := fun x v _ => x.ownly = true → VA H (x.down [] [] d) v) (motive_2 := fun xs vs _ => AV.ownlys xs = true → VAs H (AV.downs [] [] d xs) vs)
    (fun v _ => by simpa [AV.down] using VA.undef v) (fun h hf => by simpa [AV.down] using VA.d (h.flat (by simpa [AV.ownly] using hf))) (fun _ => by simpa [AV.down] using VA.nils)
    (fun u A l c h hf => by
      cases u with
      | ext n => simp [AV.ownly] at hf
      | ret j => simp only [AV.down]; exact .own _ A l c (by rw [hr]; exact h)
      | tmp _ _ => simp [AV.ownly] at hf)
    (fun _ ih hf => by simpa [AV.down] using VA.agg (ih (by simpa [AV.ownly] using hf))) (fun _ ih hf => by simpa [AV.down] using VA.tuple (ih (by simpa [AV.ownly] using hf)))
    (fun c o hf => by simp [AV.ownly] at hf)
    (fun g o h ha hf => by simp [AV.ownly] at hf)
    (fun u g sz i o h hf => by simp [AV.ownly] at hf)
    (fun f _ _ _ ih hf => by simp [AV.ownly] at hf)
    (fun _ => by simpa [AV.downs] using VAs.nil) (fun _ _ ih1 ih2 hf => by simp only [AV.ownlys, Bool.and_eq_true] at hf; simpa [AV.downs] using VAs.cons (ih1 hf.1) (ih2 hf.2)) h hf

theorem call_lend {E : Env} {f : FuncId} {args : List AV} {Q : RQ} {G : Gh} {σ : St} {a : Act} {w : World} (hr : Rel G σ a w) {vals : List Value} (hv : VAs G args vals) (d : Nat)
    (hq : ∀ r B' A', Q r B' A' → r.ownly = true) (hf : Fn E f (AV.lends σ args) noB noA Q) :
    Calls E.P f vals.toArray w fun e w' => ∃ v r B' A' G2, e = .returned v ∧
      Rel G2 (σ.recv [] [] d noB (fun t => match A' t with | some x => (bif x.c.flatE then some x else none) | none => none)) a w' ∧ VA G2 (r.down [] [] d) v ∧ Later G w G2 w' ∧ KeepB (fun _ => true) σ G w G2 w' ∧ Q r B' A' := by
  have hS : Sat (Gh.all w) noB noA w := by
    refine ⟨fun b o h => ?_, (fun _ _ h => by cases h), (fun _ _ h => by cases h), hr.s.gl.mono fun b o h => by simp only [Gh.all, hr.s.im b o (.inl h)]⟩
    simp only [Gh.all] at h
    split at h
    · next o' ho => rcases h with h | h <;> cases h; exact ho
    · rcases h with h | h <;> cases h
  refine (hf.2 (Gh.all w) w vals hS (hv.lend hr.s)).mono ?_
  rintro e w' ⟨v, r, H, B', A', rfl, hS', hvr, hL, hQ⟩
  have him : ∀ g, g < w.heap.size → H.role g = .im w.heap[g]! := fun g hg => by
    have hget : w.heap[g]? = some w.heap[g] := Array.getElem?_eq_getElem hg
    have := hL.im g w.heap[g] (by simp only [Gh.all, hget])
    rw [this]; simp [hg]
  have hheap : ∀ g, g < w.heap.size → w'.heap[g]? = w.heap[g]? := by
    intro g hg
    have hget : w.heap[g]? = some w.heap[g] := Array.getElem?_eq_getElem hg
    rw [hget]
    exact hS'.im g _ (.inl (hL.im g _ (by simp only [Gh.all, hget])))
  let G2 : Gh := { role := fun g => if g < w.heap.size then G.role g else (match H.role g with | .arr (.ret j) => .arr (.tmp d j) | _ => .none), β := G.β, av := fun t => match t with | .tmp d' j => (bif Nat.beq d' d then H.av (.ret j) else G.av t) | _ => G.av t }
  have hlt : ∀ g, g < w.heap.size → G2.role g = G.role g := fun g h => if_pos h
  have hge : ∀ g, ¬ g < w.heap.size → G2.role g = (match H.role g with | .arr (.ret j) => .arr (.tmp d j) | _ => .none) := fun g h => if_neg h
  have hI2 : Sub G.im G2.im := fun g o hg => im_of.2 (by
    have h := im_of.1 hg
    rw [hlt g (hr.s.lt_im (.inl h))]; exact h)
  have hav : ∀ t, isTmp d t = false → G2.av t = G.av t := fun t ht => by
    cases t with
    | tmp d' j => simp only [isTmp] at ht; simp [G2, ht]
    | ext _ => rfl
    | ret _ => rfl
  have hret : ∀ j, G2.av (.tmp d j) = H.av (.ret j) := fun j => by simp [G2]
  have hLater : Later G w G2 w' := ⟨fun g o h => by rw [hlt g (hr.s.lt_im (.inl h))]; exact h, fun g o h => by rw [hlt g (hr.s.lt_im (.inr h))]; exact h, hL.os, hL.tape, hL.output, hL.size, fun _ => rfl⟩
  refine ⟨v, r, B', A', G2, rfl, ?_, hvr.ownly hret (hq _ _ _ hQ), hLater, fun i x _ hx => ⟨rfl, hheap _ (hr.s.lt_bx hx)⟩, hQ⟩
  have hpt : ∀ t, (isTmp d t || (idx ([] : List Tag) t).isSome) = false → G2.av t = G.av t := fun t ht => by
    simp only [Bool.or_eq_false_iff] at ht
    exact hav t ht.1
  refine ⟨hr.n, fun i => (hr.t i).purge _ _ hI2 hpt (fun _ _ => rfl), hr.df, ?_, ?_, ?_, hr.s.gl.mono hLater.im⟩
  · intro b o h
    by_cases hb : b < w.heap.size
    · rw [hlt b hb] at h
      rw [hheap b hb]; exact hr.s.im b o h
    · rw [hge b hb] at h
      split at h <;> rcases h with h | h <;> cases h
  · intro i x hx
    simp only [St.recv, idx, St.purge, cond_false] at hx
    split at hx
    · next y hy =>
      cases hx
      obtain ⟨h1, vs, h2, h3⟩ := hr.s.bx i y hy
      have hb := hr.s.lt_bx hy
      exact ⟨by show G2.role (G.β i) = _; rw [hlt _ hb]; exact h1, vs, (hheap _ hb).trans h2, h3.purge _ _ hI2 hpt (fun _ _ => rfl)⟩
    · cases hx
  · have kept : ∀ (t : Tag) (y : Arr), (σ.purge (fun t => isTmp d t || (idx ([] : List Tag) t).isSome) (fun _ => false)).arrs t = some y →
        (∀ g, (G2.av t).ownBlock = some g → G2.role g = .arr t) ∧ ∃ sz es vs, y.c.view = some (sz, es) ∧ Flat G2.im sz es vs ∧ w'.ownsRow 0 y.E sz (G2.av t) es.length vs := by
      intro t y hy
      simp only [St.purge] at hy
      cases hp : (isTmp d t || (idx ([] : List Tag) t).isSome)
      · rw [hp] at hy
        simp only [cond_false] at hy
        obtain ⟨h1, sz, es, vs, h2, h3, h4⟩ := hr.s.ar t y hy
        rw [hpt t hp]
        have hkp : ∀ g, (G.av t).ownBlock = some g → g < w.heap.size := fun g hg => hr.s.lt_ar hy hg
        refine ⟨fun g hg => by rw [hlt g (hkp g hg)]; exact h1 g hg, sz, es, vs, h2, h3.mono hI2, h4.1, ?_⟩
        rcases h4.2 with h5 | ⟨g, cap, cur, h5, h6, h7, h8⟩
        · exact .inl h5
        · exact .inr ⟨g, cap, cur, h5, h6, (hheap g (hkp g (by rw [h5]; rfl))).trans h7, h8⟩
      · rw [hp] at hy; cases hy
    intro t y hy
    simp only [St.recv, idx] at hy
    split at hy
    · next d' j =>
      cases hb : Nat.beq d' d
      · rw [hb] at hy; exact kept _ y hy
      · rw [hb] at hy
        have := Nat.eq_of_beq_eq_true hb
        subst this
        simp only [cond_true] at hy
        split at hy
        · next x hx =>
          cases hfe : x.c.flatE
          · rw [hfe] at hy; cases hy
          · rw [hfe] at hy
            simp only [cond_true, Option.some.injEq] at hy
            rw [← hy]
            obtain ⟨h1, sz, es, vs, h2, h3, h4⟩ := hS'.ar (.ret j) x hx
            rw [hret]
            refine ⟨fun g hg => ?_, sz, es, vs, h2, h3.flat hfe h2, h4⟩
            have h5 := h1 g hg
            have hnl : ¬ g < w.heap.size := fun hl => by rw [him g hl] at h5; cases h5
            rw [hge g hnl, h5]
        · cases hy
    · exact kept _ y hy
section
variable {E : Env} {ops : Array Oper} {rest : List Oper} {o : Oper} {σ : St} {Q : Qs}
theorem Step.callLend {c : Call} {f : FuncId} {args : List AV} {R : RQ} {fp : BId → Bool} (d : Nat) (ho : o.op = .call c) (hc : calleeOf σ c = some (f, args)) (hn : okd σ.n o.dst = true)
    (hf : Fn E f (AV.lends σ args) noB noA R) (h : ∀ r B' A', R r B' A' → r.ownly = true) :
    Step E o σ fp (fun σ' => ∃ r B' A', R r B' A' ∧ σ' = (σ.recv [] [] d noB (fun t => match A' t with | some x => (bif x.c.flatE then some x else none) | none => none)).put o.dst (r.down [] [] d)) := by
  intro G a w hr K Qx hK
  obtain ⟨vals, h1, h2⟩ := callee_ok (E := E) hr hc ho hf.1
  unfold Oper.wp
  rw [h2]
  refine Calls.mono (call_lend hr h1 d h hf) ?_
  rintro e w' ⟨v, r, B', A', G2, rfl, k1, k2, k3, k4, k5⟩
  exact hK _ _ _ _ (k1.put k2 hn) k3 (fun i x _ hx => k4 i x rfl hx) ⟨r, B', A', k5, rfl⟩
end

/-! ### names dropped from a state written out -/
def nob : BId → Bool := fun _ => false
def purL (p : Tag → Bool) : SL → SL
  | [] => []
  | (k, v) :: r => (k, v.purge p nob) :: purL p r
def purB (p : Tag → Bool) : BL → BL
  | [] => []
  | (k, ⟨E, cs⟩) :: r => (k, ⟨E, AV.purges p nob cs⟩) :: purB p r
def purA (p : Tag → Bool) : AL → AL
  | [] => []
  | (k, x) :: r => bif p k then purA p r else (k, x) :: purA p r
theorem purL_tm (p : Tag → Bool) : ∀ (l : SL) (i : Nat), tm (purL p l) i = (tm l i).purge p nob
  | [], i => by simp [purL, tm, AV.purge]
  | (k, v) :: r, i => by
    simp only [purL, tm]
    cases Nat.beq i k
    · exact purL_tm p r i
    · rfl
theorem purB_bm (p : Tag → Bool) : ∀ (l : BL) (i : BId), bm (purB p l) i = (match bm l i with | some x => some ⟨x.E, AV.purges p nob x.cs⟩ | none => none)
  | [], i => rfl
  | (k, ⟨E, cs⟩) :: r, i => by
    simp only [purB, bm]
    by_cases hi : i = k
    · simp [hi]
    · simp only [hi, decide_false, cond_false]; exact purB_bm p r i
theorem purA_am (p : Tag → Bool) : ∀ (l : AL) (t : Tag), am (purA p l) t = (bif p t then none else am l t)
  | [], t => by simp [purA, am]
  | (k, v) :: r, t => by
    simp only [purA, am]
    have ih := purA_am p r t
    cases hk : p k
    · simp only [cond_false, am]
      by_cases ht : t = k
      · subst ht; simp [hk]
      · simp only [ht, decide_false, cond_false]; exact ih
    · simp only [cond_true]
      by_cases ht : t = k
      · subst ht; rw [ih]; simp [hk]
      · simp only [ht, decide_false, cond_false]; exact ih
/-- States told alike. -/
structure Eqv (σ σ' : St) : Prop where
  n : σ.n = σ'.n
  t : ∀ i, σ.tmps i = σ'.tmps i
  b : ∀ i, σ.boxes i = σ'.boxes i
  a : ∀ t, σ.arrs t = σ'.arrs t
theorem Eqv.eq {σ σ' : St} (h : Eqv σ σ') : σ = σ' := by
  obtain ⟨n, t, b, a⟩ := h
  cases σ; cases σ'
  simp only at n t b a
  subst n
  obtain rfl := funext t
  obtain rfl := funext b
  obtain rfl := funext a
  rfl
theorem stt_purge (n : Nat) (l : SL) (bl : BL) (al : AL) (p : Tag → Bool) : (stt n l bl al).purge p (fun _ => false) = stt n (purL p l) (purB p bl) (purA p al) :=
  Eqv.eq ⟨rfl, fun i => (purL_tm p l i).symm, fun i => (purB_bm p bl i).symm, fun t => (purA_am p al t).symm⟩
theorem stt_grow (n : Nat) (l : SL) (bl : BL) (al : AL) (t u : Tag) (e : TypeId) (c : D) :
    (stt n l bl al).grow t u e c = stt n (purL (fun v => decide (v = t) || decide (v = u)) l) (purB (fun v => decide (v = t) || decide (v = u)) bl) ((u, ⟨e, c⟩) :: purA (fun v => decide (v = t) || decide (v = u)) al) := by
  unfold St.grow
  rw [stt_purge]
  rfl
theorem stt_newArr (n : Nat) (l : SL) (bl : BL) (al : AL) (u : Tag) (e : TypeId) (c : D) :
    (stt n l bl al).newArr u e c = stt n (purL (fun v => decide (v = u)) l) (purB (fun v => decide (v = u)) bl) ((u, ⟨e, c⟩) :: purA (fun v => decide (v = u)) al) := by
  unfold St.newArr
  rw [stt_purge]
  rfl
/-- A list of values written out. -/
def nfL {β : Type} (xs : SL) (k : SL → Option β) : Option β := match xs with
  | [] => k []
  | (i, x) :: r => nf x fun x' => nfL r fun r' => k ((i, x') :: r')
theorem nfL_eq {β : Type} : ∀ (xs : SL) (k : SL → Option β), nfL xs k = k xs
  | [], k => rfl
  | (i, x) :: r, k => by simp only [nfL, nf_eq, nfL_eq r]
def nfBL {β : Type} (xs : BL) (k : BL → Option β) : Option β := match xs with
  | [] => k []
  | (i, ⟨E, cs⟩) :: r => nfs cs fun cs' => nfBL r fun r' => k ((i, ⟨E, cs'⟩) :: r')
theorem nfBL_eq {β : Type} : ∀ (xs : BL) (k : BL → Option β), nfBL xs k = k xs
  | [], k => rfl
  | (i, ⟨E, cs⟩) :: r, k => by simp only [nfBL, nfs_eq, nfBL_eq r]
def nfAL {β : Type} (xs : AL) (k : AL → Option β) : Option β := match xs with
  | [] => k []
  | (i, ⟨E, c⟩) :: r => nfD c fun c' => nfAL r fun r' => k ((i, ⟨E, c'⟩) :: r')
theorem nfAL_eq {β : Type} : ∀ (xs : AL) (k : AL → Option β), nfAL xs k = k xs
  | [], k => rfl
  | (i, ⟨E, c⟩) :: r, k => by simp only [nfAL, nfD_eq, nfAL_eq r]
def nfT (l : SL) (bl : BL) (al : AL) : Option (SL × BL × AL) := nfL l fun l' => nfBL bl fun bl' => nfAL al fun al' => some (l', bl', al')
theorem nfT_eq {l l' : SL} {bl bl' : BL} {al al' : AL} (h : nfT l bl al = some (l', bl', al')) : l = l' ∧ bl = bl' ∧ al = al' := by
  unfold nfT at h
  rw [nfL_eq, nfBL_eq, nfAL_eq] at h
  simp only [Option.some.injEq, Prod.mk.injEq] at h
  exact h
/-- The slice of a name. -/
def arrOf (al : AL) (x : AV) : Option D := match x with
  | .own t => (match am al t with | some a => some a.c | none => none)
  | _ => none

mutual
theorem AV.frz_clean {t : Tag} {b : BId} {c : D} : ∀ x : AV, x.clean t b = true → x.frz t c = x
  | .own u, h => by simp only [AV.clean, Bool.not_eq_true', decide_eq_false_iff_not] at h; simp [AV.frz, h]
  | .ptr _ _, _ => by simp [AV.frz]
  | .eptr u _ _ _, h => by simp only [AV.clean, Bool.not_eq_true', decide_eq_false_iff_not] at h; simp [AV.frz, h]
  | .agg cs, h => by simp only [AV.clean] at h; simp only [AV.frz, AV.frzs_clean cs h]
  | .tuple cs, h => by simp only [AV.clean] at h; simp only [AV.frz, AV.frzs_clean cs h]
  | .fn _ cs, h => by simp only [AV.clean] at h; simp only [AV.frz, AV.frzs_clean cs h]
  | .undef, _ => by simp [AV.frz]
  | .d _, _ => by simp [AV.frz]
  | .nils, _ => by simp [AV.frz]
  | .dptr _, _ => by simp [AV.frz]
theorem AV.frzs_clean {t : Tag} {b : BId} {c : D} : ∀ xs : List AV, AV.cleans t b xs = true → AV.frzs t c xs = xs
  | [], _ => by simp [AV.frzs]
  | x :: xs, h => by
    simp only [AV.cleans, Bool.and_eq_true] at h
    simp only [AV.frzs, AV.frz_clean x h.1, AV.frzs_clean xs h.2]
end
def noBox : BId := .out 4294967296
/-- A new slice that is never written: told by what it holds. -/
theorem newFrz {n : Nat} {l : SL} {bl : BL} {al : AL} {d : Nat} {u : Tag} {e : TypeId} {c : D} (hcl : (cleanL u noBox l && cleanB u noBox bl && (am al u).isNone) = true) :
    (((stt n l bl al).newArr u e c).put (some d) (.own u)).frz u c = stt n ((d, .d c) :: l) bl al := by
  simp only [Bool.and_eq_true, Option.isNone_iff_eq_none] at hcl
  have ht : ∀ v : Tag, (fun v => decide (v = u)) v = true → v = u := fun v e => of_decide_eq_true e
  have hb : ∀ v : BId, (fun _ : BId => false) v = true → v = noBox := fun v e => by cases e
  refine Eqv.eq ⟨rfl, fun i => ?_, fun i => ?_, fun t => ?_⟩
  · show AV.frz u c (upd (fun i => (tm l i).purge (fun v => decide (v = u)) (fun _ => false)) d (.own u) i) = tm ((d, .d c) :: l) i
    by_cases hi : i = d
    · subst hi; rw [upd_same]; simp [AV.frz, tm]
    · rw [upd_ne _ _ hi]
      have hbq : Nat.beq i d = false := by
        cases hq : Nat.beq i d
        · rfl
        · exact absurd (Nat.eq_of_beq_eq_true hq) hi
      simp only [tm, hbq, cond_false]
      have := cleanL_tm hcl.1.1 i
      rw [AV.purge_clean ht hb _ this, AV.frz_clean _ this]
  · simp only [St.frz, St.put, St.newArr, St.purge, stt, cond_false]
    cases hx : bm bl i with
    | none => rfl
    | some x =>
      have := cleanB_bm hcl.1.2 i x hx
      simp only [AV.purges_clean ht hb _ this, AV.frzs_clean _ this]
  · simp only [St.frz, St.put, St.newArr, St.purge, stt]
    by_cases hk : t = u
    · subst hk; simp [hcl.2]
    · simp [hk]
section
variable {E : Env} {ops : Array Oper} {rest : List Oper} {o : Oper} {n : Nat} {l l' : SL} {bl bl' : BL} {al al' : AL} {Q : Qs} {d i : Nat} {fp : List BId} {ds : List Nat} {cl : Bool} {s : List (Nat × Nat)}

theorem TriOps.f1 {t e : TypeId} {len sz : Nat} {parts : Array (Nat × Operand)} {c c' : D} (hop : o.op = .buildSlice t len parts) (hdst : o.dst = some d) (hg : gOk ops (stt n l bl al) o.guard = some true)
    (hm : mkSl E.Γ t len (parts.toList.map fun p => (p.1, (stt n l bl al).ev p.2)) = some (e, c)) (hc : c.esz = some sz) (hn : nfD c some = some c') (hd : Nat.ble (d + 1) n = true)
    (hcl : (cleanL (.tmp d 0) noBox l && cleanB (.tmp d 0) noBox bl && (am al (.tmp d 0)).isNone) = true) (h : TriOps E ops rest (stt n ((d, .d c') :: l) bl al) Q) : TriOps E ops (o :: rest) (stt n l bl al) Q := by
  rw [nfD_eq] at hn
  obtain rfl : c = c' := by simpa using hn
  refine TriOps.eff (fp := nofp) hg (Step.buildSlice hop hdst hd hm) ?_
  rintro σ' rfl
  refine TriOps.weak (Wk.frz (t := .tmp d 0) (e := e) (c := c) (by simp [St.put, St.newArr]) hc) ?_
  rw [newFrz hcl]
  exact h
/-- A new slice of one's own. -/
theorem TriOps.y1 {t e : TypeId} {len : Nat} {parts : Array (Nat × Operand)} {c c' : D} (hop : o.op = .buildSlice t len parts) (hdst : o.dst = some d) (hg : gOk ops (stt n l bl al) o.guard = some true)
    (hm : mkSl E.Γ t len (parts.toList.map fun p => (p.1, (stt n l bl al).ev p.2)) = some (e, c)) (hn : nfD c some = some c') (hd : Nat.ble (d + 1) n = true)
    (hnf : nfT (purL (fun v => decide (v = .tmp d 0)) l) (purB (fun v => decide (v = .tmp d 0)) bl) (purA (fun v => decide (v = .tmp d 0)) al) = some (l', bl', al'))
    (h : TriOps E ops rest (stt n ((d, .own (.tmp d 0)) :: l') bl' ((.tmp d 0, ⟨e, c'⟩) :: al')) Q) : TriOps E ops (o :: rest) (stt n l bl al) Q := by
  rw [nfD_eq] at hn
  obtain rfl : c = c' := by simpa using hn
  obtain ⟨rfl, rfl, rfl⟩ := nfT_eq hnf
  refine TriOps.eff (fp := nofp) hg (Step.buildSlice hop hdst hd hm) ?_
  rintro σ' rfl
  rw [stt_newArr]
  exact h
/-- Append onto a slice of one's own. -/
theorem TriOps.p1 {t e : TypeId} {i j : TI} {sx x : Operand} {tg : Tag} {c c2 c3 c4 : D} (hop : o.op = .call { callee := .builtin .append, args := #[sx, x], argTypes := #[t, t] }) (hdst : o.dst = some d) (hg : gOk ops (stt n l bl al) o.guard = some true) (hd : Nat.ble (d + 1) n = true)
    (hi : E.Γ t = some i) (hde : i.desc = .slice e) (hj : E.Γ e = some j) (hsz : sizeOk j = true) (hb : baseOf (stt n l bl al) j e ((stt n l bl al).ev sx) = some (tg, c)) (hs : srcOf (stt n l bl al) j ((stt n l bl al).ev x) = some c2) (happ : c.app c2 = some c3) (hc : c.esz = some j.size)
    (hn : nfD c3 some = some c4) (hnf : nfT (purL (fun v => decide (v = tg) || decide (v = .tmp d 0)) l) (purB (fun v => decide (v = tg) || decide (v = .tmp d 0)) bl) (purA (fun v => decide (v = tg) || decide (v = .tmp d 0)) al) = some (l', bl', al'))
    (h63 : c4.len ≤ 140737488355328 ∧ c4.len * j.bytes ≤ 140737488355328) (h : TriOps E ops rest (stt n ((d, .own (.tmp d 0)) :: l') bl' ((.tmp d 0, ⟨e, c4⟩) :: al')) Q) : TriOps E ops (o :: rest) (stt n l bl al) Q := by
  rw [nfD_eq] at hn
  obtain rfl : c3 = c4 := by simpa using hn
  obtain ⟨rfl, rfl, rfl⟩ := nfT_eq hnf
  refine TriOps.eff (fp := nofp) hg (Step.append hop hdst hd hi hde hj hsz hb hs happ hc h63.1 h63.2) ?_
  rintro σ' rfl
  rw [stt_grow]
  exact h

/-! ### contracts that give back slices of the caller's own -/
def tmpOf (d : Nat) : Tag → Tag
  | .ret j => .tmp d j
  | t => t
def renA (d : Nat) : AL → AL
  | [] => []
  | (k, x) :: r => (tmpOf d k, x) :: renA d r
def retsB : AL → Bool
  | [] => true
  | (k, x) :: r => (match k with | .ret _ => x.c.flatE | _ => false) && retsB r
/-- The function gives back r, in which new slices lie as ral tells. -/
def FnO (E : Env) (f : FuncId) (args : List AV) (r : AV) (ral : AL) : Prop := Fn E f args noB noA fun r' _ A' => r' = r ∧ agA A' ral
def retK : AL → Bool
  | [] => true
  | (k, _) :: r => (match k with | .ret _ => true | _ => false) && retK r
theorem retsB_K : ∀ {ral : AL}, retsB ral = true → retK ral = true
  | [], _ => rfl
  | (k, x) :: r, h => by
    simp only [retsB, Bool.and_eq_true] at h
    cases k <;> simp_all [retK, retsB_K h.2]
theorem retsB_flat : ∀ {ral : AL}, retsB ral = true → ∀ {t : Tag} {x : Arr}, am ral t = some x → x.c.flatE = true
  | [], _, t, x, h => by cases h
  | (k, y) :: r, hb, t, x, h => by
    simp only [retsB, Bool.and_eq_true] at hb
    simp only [am] at h
    by_cases ht : t = k
    · simp only [ht, decide_true, cond_true, Option.some.injEq] at h
      subst h
      cases k <;> simp_all
    · simp only [ht, decide_false, cond_false] at h; exact retsB_flat hb.2 h
theorem renA_am {d : Nat} : ∀ {ral : AL}, retK ral = true → ∀ {t : Tag} {x : Arr}, am (renA d ral) t = some x → ∃ j, t = .tmp d j ∧ am ral (.ret j) = some x
  | [], _, t, x, h => by cases h
  | (k, y) :: r, hk, t, x, h => by
    simp only [retK, Bool.and_eq_true] at hk
    simp only [renA, am] at h
    cases k with
    | ret j =>
      simp only [tmpOf] at h
      by_cases ht : t = .tmp d j
      · subst ht
        simp only [decide_true, cond_true] at h
        exact ⟨j, rfl, by simp only [am, decide_true, cond_true]; exact h⟩
      · simp only [ht, decide_false, cond_false] at h
        obtain ⟨m, rfl, h3⟩ := renA_am hk.2 h
        have : m ≠ j := fun e => ht (by rw [e])
        exact ⟨m, rfl, by simp [am, this, h3]⟩
    | tmp _ _ => simp at hk
    | ext _ => simp at hk
theorem agT_tm : ∀ (f : Nat → AV) (l : SL), (∀ i, f i = tm l i) → ∀ (l2 : SL), (∀ i, tm l2 i = .undef ∨ tm l2 i = tm l i) → ∀ i, tm l2 i = .undef ∨ tm l2 i = f i := fun f l h l2 k i => by rw [h i]; exact k i
theorem WkB.to' {σ : St} {n : Nat} {l : SL} {bl : BL} {al : AL} (hn : σ.n = n) (h1 : ∀ i, tm l i = .undef ∨ tm l i = σ.tmps i) (h2 : ∀ i x, bm bl i = some x → σ.boxes i = some x) (h3 : ∀ t x, am al t = some x → σ.arrs t = some x) : WkB σ (stt n l bl al) := fun G a w hr =>
  ⟨G, ⟨hn ▸ hr.n, fun i => by
    rcases h1 i with h | h
    · show VA G (tm l i) _
      rw [h]; exact .undef _
    · show VA G (tm l i) _
      rw [h]; exact hr.t i, hr.df, hr.s.setB h2 h3⟩, Later.refl G w, rfl⟩
theorem am_append {al al2 : AL} {t : Tag} {x : Arr} (h : am (al ++ al2) t = some x) : am al t = some x ∨ am al2 t = some x := by
  induction al with
  | nil => exact .inr h
  | cons p r ih =>
    obtain ⟨k, y⟩ := p
    simp only [List.cons_append, am] at h ⊢
    by_cases hk : t = k
    · simp only [hk, decide_true, cond_true] at h ⊢; exact .inl h
    · simp only [hk, decide_false, cond_false] at h ⊢; exact ih h
theorem recv_nil {d : Nat} {B' : BId → Option Box} {A' : Tag → Option Arr} : (stt n l bl al).recv [] [] d B' A' = { n := n, tmps := tm (purL (isTmp d) l), boxes := bm (purB (isTmp d) bl), arrs := fun t => match t with | .tmp d' j => (bif Nat.beq d' d then A' (.ret j) else am (purA (isTmp d) al) t) | _ => am (purA (isTmp d) al) t } := by
  have e1 : (fun t => isTmp d t || (idx ([] : List Tag) t).isSome) = isTmp d := funext fun t => by simp [idx]
  have e2 := stt_purge n l bl al (isTmp d)
  unfold St.recv
  simp only [e1, e2]
  refine Eqv.eq ⟨rfl, fun _ => rfl, fun _ => rfl, fun t => ?_⟩
  cases t <;> rfl
theorem recv_own {d : Nat} {B' : BId → Option Box} {A' : Tag → Option Arr} {ral : AL} {r : AV} (hr : ∀ j x, am ral (.ret j) = some x → A' (.ret j) = some x) (hk : retK ral = true) :
    WkB (((stt n l bl al).recv [] [] d B' A').put (some d) r) (stt n ((d, r) :: purL (isTmp d) l) (purB (isTmp d) bl) (renA d ral ++ purA (isTmp d) al)) := by
  rw [recv_nil]
  refine WkB.to' rfl (fun i => .inr ?_) (fun i x hx => hx) (fun t x hx => ?_)
  · simp only [St.put, tm, upd]
  · simp only [St.put]
    rcases am_append hx with h | h
    · obtain ⟨j, rfl, h5⟩ := renA_am hk h
      simp [hr j x h5]
    · cases t with
      | tmp d' j =>
        have hp : Nat.beq d' d = false := by
          rw [purA_am] at h
          cases hq : Nat.beq d' d
          · rfl
          · simp [isTmp, hq] at h
        simp only [hp, cond_false]
        exact h
      | ext _ => exact h
      | ret _ => exact h
theorem recv_lend {d : Nat} {A' : Tag → Option Arr} {ral : AL} {r : AV} (hr : retsB ral = true) (ha : agA A' ral) :
    WkB (((stt n l bl al).recv [] [] d noB (fun t => match A' t with | some x => (bif x.c.flatE then some x else none) | none => none)).put (some d) r) (stt n ((d, r) :: purL (isTmp d) l) (purB (isTmp d) bl) (renA d ral ++ purA (isTmp d) al)) :=
  recv_own (fun j x h => by
    have h1 := agA_ok ha _ _ h
    have h2 := retsB_flat hr h
    simp only [h1, h2, cond_true]) (retsB_K hr)
mutual
theorem AV.up_plain {bs : List BId} {ts : List Tag} : ∀ x : AV, x.plain = true → x.up bs ts = x
  | .own _, h => by simp [AV.plain] at h
  | .ptr _ _, h => by simp [AV.plain] at h
  | .eptr _ _ _ _, h => by simp [AV.plain] at h
  | .agg cs, h => by simp only [AV.plain] at h; simp only [AV.up, AV.ups_plain cs h]
  | .tuple cs, h => by simp only [AV.plain] at h; simp only [AV.up, AV.ups_plain cs h]
  | .fn _ cs, h => by simp only [AV.plain] at h; simp only [AV.up, AV.ups_plain cs h]
  | .undef, _ => by simp [AV.up]
  | .d _, _ => by simp [AV.up]
  | .nils, _ => by simp [AV.up]
  | .dptr _, _ => by simp [AV.up]
theorem AV.ups_plain {bs : List BId} {ts : List Tag} : ∀ xs : List AV, AV.plains xs = true → AV.ups bs ts xs = xs
  | [], _ => by simp [AV.ups]
  | x :: xs, h => by
    simp only [AV.plains, Bool.and_eq_true] at h
    simp only [AV.ups, AV.up_plain x h.1, AV.ups_plain xs h.2]
end
mutual
theorem AV.down_plain {bs : List BId} {ts : List Tag} {d : Nat} : ∀ x : AV, x.plain = true → x.down bs ts d = x
  | .own _, h => by simp [AV.plain] at h
  | .ptr _ _, h => by simp [AV.plain] at h
  | .eptr _ _ _ _, h => by simp [AV.plain] at h
  | .agg cs, h => by simp only [AV.plain] at h; simp only [AV.down, AV.downs_plain cs h]
  | .tuple cs, h => by simp only [AV.plain] at h; simp only [AV.down, AV.downs_plain cs h]
  | .fn _ cs, h => by simp only [AV.plain] at h; simp only [AV.down, AV.downs_plain cs h]
  | .undef, _ => by simp [AV.down]
  | .d _, _ => by simp [AV.down]
  | .nils, _ => by simp [AV.down]
  | .dptr _, _ => by simp [AV.down]
theorem AV.downs_plain {bs : List BId} {ts : List Tag} {d : Nat} : ∀ xs : List AV, AV.plains xs = true → AV.downs bs ts d xs = xs
  | [], _ => by simp [AV.downs]
  | x :: xs, h => by
    simp only [AV.plains, Bool.and_eq_true] at h
    simp only [AV.downs, AV.down_plain x h.1, AV.downs_plain xs h.2]
end
theorem Fn.nil {f : FuncId} {args : List AV} {R : RQ} {σ : St} (hp : AV.plains args = true) (h : Fn E f args noB noA R) : Fn E f (AV.ups [] [] args) (upB σ [] []) (upA σ []) R := by
  rw [AV.ups_plain _ hp]
  have e1 : upB σ [] [] = noB := funext fun i => by cases i <;> simp [upB, noB]
  have e2 : upA σ [] = noA := funext fun t => by cases t <;> simp [upA, noA]
  rw [e1, e2]; exact h
/-- A call that gives back slices of one's own; what it may see is lent to it. -/
theorem TriOps.o1 {c : Call} {f : FuncId} {args : List AV} {r r' : AV} {ral : AL} (hop : o.op = .call c) (hdst : o.dst = some d) (hg : gOk ops (stt n l bl al) o.guard = some true) (hc : calleeOf (stt n l bl al) c = some (f, args)) (hd : Nat.ble (d + 1) n = true) (hf : FnO E f (AV.lends (stt n l bl al) args) r ral)
    (hr : (r.ownly && retsB ral) = true) (hr' : nf (r.down [] [] d) some = some r') (hnf : nfT (purL (isTmp d) l) (purB (isTmp d) bl) (renA d ral ++ purA (isTmp d) al) = some (l', bl', al')) (h : TriOps E ops rest (stt n ((d, r') :: l') bl' al') Q) : TriOps E ops (o :: rest) (stt n l bl al) Q := by
  simp only [Bool.and_eq_true] at hr
  rw [nf_eq] at hr'
  obtain rfl : r.down [] [] d = r' := by simpa using hr'
  obtain ⟨rfl, rfl, rfl⟩ := nfT_eq hnf
  refine TriOps.eff (fp := nofp) hg (Step.callLend d hop hc (by rw [hdst]; exact hd) hf (fun r' _ _ e => by rw [e.1]; exact hr.1)) ?_
  rintro σ' ⟨r2, B', A', ⟨rfl, ha⟩, rfl⟩
  rw [hdst]
  exact TriOps.weak (recv_lend hr.2 ha).wk h
/-- A call that gives back slices of one's own; nothing of the caller's own is lent to it. -/
theorem TriOps.o2 {c : Call} {f : FuncId} {args : List AV} {r r' : AV} {ral : AL} (hop : o.op = .call c) (hdst : o.dst = some d) (hg : gOk ops (stt n l bl al) o.guard = some true) (hc : calleeOf (stt n l bl al) c = some (f, args)) (hd : Nat.ble (d + 1) n = true) (hpl : AV.plains args = true) (hf : FnO E f args r ral)
    (hk : retK ral = true) (hr' : nf (r.down [] [] d) some = some r') (hnf : nfT (purL (isTmp d) l) (purB (isTmp d) bl) (renA d ral ++ purA (isTmp d) al) = some (l', bl', al')) (h : TriOps E ops rest (stt n ((d, r') :: l') bl' al') Q) : TriOps E ops (o :: rest) (stt n l bl al) Q := by
  rw [nf_eq] at hr'
  obtain rfl : r.down [] [] d = r' := by simpa using hr'
  obtain ⟨rfl, rfl, rfl⟩ := nfT_eq hnf
  refine TriOps.eff (fp := nofp) hg (Step.call [] [] d hop hc (by rw [hdst]; exact hd) rfl (Fn.nil hpl hf)) ?_
  rintro σ' ⟨r2, B', A', ⟨rfl, ha⟩, rfl⟩
  rw [hdst]
  exact TriOps.weak (recv_own (fun j x h => agA_ok ha _ _ h) hk).wk h
end
/-! ### the same in drawn regions -/
section
variable {E : Env} {ops : Array Oper} {rest : List Oper} {o : Oper} {n : Nat} {l l' : SL} {bl bl' : BL} {al al' : AL} {Q : Qs} {d i : Nat} {fp : List BId} {ds : List Nat} {cl : Bool} {s : List (Nat × Nat)}
theorem TS.weak {σ σ' : St} (h : WkB σ σ') (k : TS E ops fp ds false s σ' Q) : TS E ops fp ds false s σ Q := by
  refine ⟨fun l fuel hc hf => ?_⟩
  intro G0 w0 G a w hr hL hcl hβ hS
  obtain ⟨G', h1, h2, h3⟩ := h G a w hr
  exact k.go l fuel hc hf G0 w0 G' a w h1 (hL.trans h2) (fun e => by cases e) (fun i hi => by rw [h3]; exact hβ i hi) hS
theorem TS.f1 {t e : TypeId} {len sz : Nat} {parts : Array (Nat × Operand)} {c c' : D} (hi : ops[i]? = some o) (hal : aliveB (stt n l bl al) fp = true) (hop : o.op = .buildSlice t len parts) (hdst : o.dst = some d) (hg : gOk ops (stt n l bl al) o.guard = some true)
    (hm : mkSl E.Γ t len (parts.toList.map fun p => (p.1, (stt n l bl al).ev p.2)) = some (e, c)) (hc : c.esz = some sz) (hn : nfD c some = some c') (hd : Nat.ble (d + 1) n = true)
    (hcl : (cleanL (.tmp d 0) noBox l && cleanB (.tmp d 0) noBox bl && (am al (.tmp d 0)).isNone) = true) (h : TS E ops fp ds false s (stt n ((d, .d c') :: l) bl al) Q) : TS E ops fp ds cl ((i, 2) :: s) (stt n l bl al) Q := by
  rw [nfD_eq] at hn
  obtain rfl : c = c' := by simpa using hn
  refine TS.e hi hal hg (Step.buildSlice hop hdst hd hm) ?_
  rintro σ' rfl
  refine TS.weak (WkB.frz (t := .tmp d 0) (e := e) (c := c) (by simp [St.put, St.newArr]) hc) ?_
  rw [newFrz hcl]
  exact h
theorem TS.y1 {t e : TypeId} {len : Nat} {parts : Array (Nat × Operand)} {c c' : D} (hi : ops[i]? = some o) (hal : aliveB (stt n l bl al) fp = true) (hop : o.op = .buildSlice t len parts) (hdst : o.dst = some d) (hg : gOk ops (stt n l bl al) o.guard = some true)
    (hm : mkSl E.Γ t len (parts.toList.map fun p => (p.1, (stt n l bl al).ev p.2)) = some (e, c)) (hn : nfD c some = some c') (hd : Nat.ble (d + 1) n = true)
    (hnf : nfT (purL (fun v => decide (v = .tmp d 0)) l) (purB (fun v => decide (v = .tmp d 0)) bl) (purA (fun v => decide (v = .tmp d 0)) al) = some (l', bl', al'))
    (h : TS E ops fp ds false s (stt n ((d, .own (.tmp d 0)) :: l') bl' ((.tmp d 0, ⟨e, c'⟩) :: al')) Q) : TS E ops fp ds cl ((i, 2) :: s) (stt n l bl al) Q := by
  rw [nfD_eq] at hn
  obtain rfl : c = c' := by simpa using hn
  obtain ⟨rfl, rfl, rfl⟩ := nfT_eq hnf
  refine TS.e hi hal hg (Step.buildSlice hop hdst hd hm) ?_
  rintro σ' rfl
  rw [stt_newArr]
  exact h
theorem TS.p1 {t e : TypeId} {i' j : TI} {sx x : Operand} {tg : Tag} {c c2 c3 c4 : D} (hi : ops[i]? = some o) (hal : aliveB (stt n l bl al) fp = true) (hop : o.op = .call { callee := .builtin .append, args := #[sx, x], argTypes := #[t, t] }) (hdst : o.dst = some d) (hg : gOk ops (stt n l bl al) o.guard = some true) (hd : Nat.ble (d + 1) n = true)
    (ht : E.Γ t = some i') (hde : i'.desc = .slice e) (hj : E.Γ e = some j) (hsz : sizeOk j = true) (hb : baseOf (stt n l bl al) j e ((stt n l bl al).ev sx) = some (tg, c)) (hs : srcOf (stt n l bl al) j ((stt n l bl al).ev x) = some c2) (happ : c.app c2 = some c3) (hc : c.esz = some j.size)
    (hn : nfD c3 some = some c4) (hnf : nfT (purL (fun v => decide (v = tg) || decide (v = .tmp d 0)) l) (purB (fun v => decide (v = tg) || decide (v = .tmp d 0)) bl) (purA (fun v => decide (v = tg) || decide (v = .tmp d 0)) al) = some (l', bl', al'))
    (h63 : c4.len ≤ 140737488355328 ∧ c4.len * j.bytes ≤ 140737488355328) (h : TS E ops fp ds false s (stt n ((d, .own (.tmp d 0)) :: l') bl' ((.tmp d 0, ⟨e, c4⟩) :: al')) Q) : TS E ops fp ds cl ((i, 2) :: s) (stt n l bl al) Q := by
  rw [nfD_eq] at hn
  obtain rfl : c3 = c4 := by simpa using hn
  obtain ⟨rfl, rfl, rfl⟩ := nfT_eq hnf
  refine TS.e hi hal hg (Step.append hop hdst hd ht hde hj hsz hb hs happ hc h63.1 h63.2) ?_
  rintro σ' rfl
  rw [stt_grow]
  exact h
theorem TS.o1 {c : Call} {f : FuncId} {args : List AV} {r r' : AV} {ral : AL} (hi : ops[i]? = some o) (hal : aliveB (stt n l bl al) fp = true) (hop : o.op = .call c) (hdst : o.dst = some d) (hg : gOk ops (stt n l bl al) o.guard = some true) (hc : calleeOf (stt n l bl al) c = some (f, args)) (hd : Nat.ble (d + 1) n = true) (hf : FnO E f (AV.lends (stt n l bl al) args) r ral)
    (hr : (r.ownly && retsB ral) = true) (hr' : nf (r.down [] [] d) some = some r') (hnf : nfT (purL (isTmp d) l) (purB (isTmp d) bl) (renA d ral ++ purA (isTmp d) al) = some (l', bl', al')) (h : TS E ops fp ds false s (stt n ((d, r') :: l') bl' al') Q) : TS E ops fp ds cl ((i, 2) :: s) (stt n l bl al) Q := by
  simp only [Bool.and_eq_true] at hr
  rw [nf_eq] at hr'
  obtain rfl : r.down [] [] d = r' := by simpa using hr'
  obtain ⟨rfl, rfl, rfl⟩ := nfT_eq hnf
  refine TS.e hi hal hg (Step.callLend d hop hc (by rw [hdst]; exact hd) hf (fun r' _ _ e => by rw [e.1]; exact hr.1)) ?_
  rintro σ' ⟨r2, B', A', ⟨rfl, ha⟩, rfl⟩
  rw [hdst]
  exact TS.weak (recv_lend hr.2 ha) h
end
/-! ### calls that are handed one variable -/
section
variable {E : Env} {ops : Array Oper} {rest : List Oper} {o : Oper} {n : Nat} {l l' : SL} {bl bl' : BL} {al al' : AL} {Q : Qs} {d i : Nat} {fp : List BId} {ds : List Nat} {cl : Bool} {s : List (Nat × Nat)}
/-- Handed a variable that holds what never changes, the function leaves in it what never changes, and gives back what never changes: R tells of both. -/
def FnK (E : Env) (f : FuncId) (bx : Box) (args : List AV) (R : AV → Box → Prop) : Prop := Fn E f (.ptr (.out 0) 0 :: args) (bm [(.out 0, bx)]) noA fun r B' _ => ∃ bx', B' (.out 0) = some bx' ∧ r.plain = true ∧ AV.plains bx'.cs = true ∧ R r bx'
theorem recv_box {d : Nat} {b : BId} {bx' : Box} {B' : BId → Option Box} {A' : Tag → Option Arr} {r : AV} (hb : B' (.out 0) = some bx') (hp : AV.plains bx'.cs = true) :
    WkB (((stt n l bl al).recv [b] [] d B' A').put (some d) r) (stt n ((d, r) :: purL (isTmp d) l) ((b, bx') :: purB (isTmp d) bl) (purA (isTmp d) al)) := by
  have e1 : (fun t => isTmp d t || (idx ([] : List Tag) t).isSome) = isTmp d := funext fun t => by simp [idx]
  have e2 := stt_purge n l bl al (isTmp d)
  unfold St.recv
  simp only [e1, e2]
  refine WkB.to' rfl (fun i => .inr ?_) (fun i x hx => ?_) (fun t x hx => ?_)
  · simp only [St.put, tm, upd, stt]
  · simp only [St.put, bm] at hx ⊢
    by_cases hi : i = b
    · subst hi
      simp only [decide_true, cond_true, Option.some.injEq] at hx
      subst hx
      simp only [idx, decide_true, if_true, hb, AV.downs_plain _ hp]
    · have hi' : ¬ b = i := fun e => hi e.symm
      simp only [hi, decide_false, cond_false] at hx
      simp only [idx, hi', decide_false]
      exact hx
  · simp only [St.put, idx]
    cases t with
    | tmp d' j =>
      have hp : Nat.beq d' d = false := by
        rw [purA_am] at hx
        cases hq : Nat.beq d' d
        · rfl
        · simp [isTmp, hq] at hx
      simp only [hp, cond_false]
      exact hx
    | ext _ => exact hx
    | ret _ => exact hx
theorem Fn.box {f : FuncId} {args : List AV} {R : RQ} {b : BId} {bx : Box} (hb : bm bl b = some bx) (hp : AV.plains args = true) (hq : AV.plains bx.cs = true) (h : Fn E f (.ptr (.out 0) 0 :: args) (bm [(.out 0, bx)]) noA R) : Fn E f (AV.ups [b] [] (.ptr b 0 :: args)) (upB (stt n l bl al) [b] []) (upA (stt n l bl al) []) R := by
  have e0 : AV.ups [b] [] (.ptr b 0 :: args) = .ptr (.out 0) 0 :: args := by simp only [AV.ups, AV.up, idx, decide_true, if_true, AV.ups_plain _ hp]
  have e1 : upB (stt n l bl al) [b] [] = bm [(.out 0, bx)] := funext fun i => by
    cases i with
    | loc _ => rfl
    | out k =>
      cases k with
      | zero =>
        have : (stt n l bl al).boxes b = some bx := hb
        simp [upB, bm, this, AV.ups_plain _ hq]
      | succ k => simp [upB, bm]
  have e2 : upA (stt n l bl al) [] = noA := funext fun t => by cases t <;> simp [upA, noA]
  rw [e0, e1, e2]; exact h
theorem TriOps.k1 {c : Call} {f : FuncId} {args : List AV} {b : BId} {bx : Box} {R : AV → Box → Prop} (hop : o.op = .call c) (hdst : o.dst = some d) (hg : gOk ops (stt n l bl al) o.guard = some true) (hc : calleeOf (stt n l bl al) c = some (f, .ptr b 0 :: args)) (hd : Nat.ble (d + 1) n = true) (hb : bm bl b = some bx)
    (hpl : (AV.plains args && AV.plains bx.cs) = true) (hf : FnK E f bx args R) (hnf : nfT (purL (isTmp d) l) (purB (isTmp d) bl) (purA (isTmp d) al) = some (l', bl', al'))
    (h : ∀ r bx', R r bx' → TriOps E ops rest (stt n ((d, r) :: l') ((b, bx') :: bl') al') Q) : TriOps E ops (o :: rest) (stt n l bl al) Q := by
  simp only [Bool.and_eq_true] at hpl
  obtain ⟨rfl, rfl, rfl⟩ := nfT_eq hnf
  refine TriOps.eff (fp := nofp) hg (Step.call [b] [] d hop hc (by rw [hdst]; exact hd) ?_ (Fn.box hb hpl.1 hpl.2 hf)) ?_
  · have : (stt n l bl al).boxes b = some bx := hb
    simp [nodup, idx, aliveB, this, noTmp, apartB, nofp]
  rintro σ' ⟨r, B', A', ⟨bx', h1, h2, h3, h4⟩, rfl⟩
  rw [hdst, AV.down_plain r h2]
  exact TriOps.weak (recv_box h1 h3).wk (h r bx' h4)
theorem TS.k1 {c : Call} {f : FuncId} {args : List AV} {b : BId} {bx : Box} {R : AV → Box → Prop} (hi : ops[i]? = some o) (hal : aliveB (stt n l bl al) fp = true) (hop : o.op = .call c) (hdst : o.dst = some d) (hg : gOk ops (stt n l bl al) o.guard = some true) (hc : calleeOf (stt n l bl al) c = some (f, .ptr b 0 :: args)) (hd : Nat.ble (d + 1) n = true) (hb : bm bl b = some bx)
    (hpl : (AV.plains args && AV.plains bx.cs && !inL fp b) = true) (hf : FnK E f bx args R) (hnf : nfT (purL (isTmp d) l) (purB (isTmp d) bl) (purA (isTmp d) al) = some (l', bl', al'))
    (h : ∀ r bx', R r bx' → TS E ops fp ds false s (stt n ((d, r) :: l') ((b, bx') :: bl') al') Q) : TS E ops fp ds cl ((i, 2) :: s) (stt n l bl al) Q := by
  simp only [Bool.and_eq_true, Bool.not_eq_true'] at hpl
  obtain ⟨rfl, rfl, rfl⟩ := nfT_eq hnf
  refine TS.e hi hal hg (Step.call [b] [] d hop hc (by rw [hdst]; exact hd) ?_ (Fn.box hb hpl.1.1 hpl.1.2 hf)) ?_
  · have : (stt n l bl al).boxes b = some bx := hb
    simp [nodup, idx, aliveB, this, noTmp, apartB, hpl.2]
  rintro σ' ⟨r, B', A', ⟨bx', h1, h2, h3, h4⟩, rfl⟩
  rw [hdst, AV.down_plain r h2]
  exact TS.weak (recv_box h1 h3) (h r bx' h4)
/-- A call that gives back something of which R tells; what it may see is lent to it; what comes back holds no memory, or what never changes. -/
def FnR (E : Env) (f : FuncId) (args : List AV) (R : AV → Prop) : Prop := Fn E f args noB noA fun r _ _ => r.plain = true ∧ R r
theorem TriOps.m2 {c : Call} {f : FuncId} {args : List AV} {R : AV → Prop} (hop : o.op = .call c) (hdst : o.dst = some d) (hg : gOk ops (stt n l bl al) o.guard = some true) (hc : calleeOf (stt n l bl al) c = some (f, args)) (hd : Nat.ble (d + 1) n = true) (hpl : AV.plains args = true) (hf : FnR E f args R)
    (h : ∀ r, R r → TriOps E ops rest (stt n ((d, r) :: l) bl al) Q) : TriOps E ops (o :: rest) (stt n l bl al) Q :=
  TriOps.eff (fp := nofp) hg (Step.callMem hop hc (by rw [hdst]; exact hd) hpl hf (fun r' _ _ e => e.1)) (by rintro σ' ⟨r', B', A', ⟨_, hr⟩, rfl⟩; rw [hdst]; exact h r' hr)
theorem TS.m2 {c : Call} {f : FuncId} {args : List AV} {R : AV → Prop} (hi : ops[i]? = some o) (hal : aliveB (stt n l bl al) fp = true) (hop : o.op = .call c) (hdst : o.dst = some d) (hg : gOk ops (stt n l bl al) o.guard = some true) (hc : calleeOf (stt n l bl al) c = some (f, args)) (hd : Nat.ble (d + 1) n = true) (hpl : AV.plains args = true) (hf : FnR E f args R)
    (h : ∀ r, R r → TS E ops fp ds false s (stt n ((d, r) :: l) bl al) Q) : TS E ops fp ds cl ((i, 2) :: s) (stt n l bl al) Q :=
  TS.e hi hal hg (Step.callMem hop hc (by rw [hdst]; exact hd) hpl hf (fun r' _ _ e => e.1)) (by rintro σ' ⟨r', B', A', ⟨_, hr⟩, rfl⟩; rw [hdst]; exact h r' hr)
/-- Slices given back as the caller's own may as well be given back as what never changes. -/
theorem FnK.mono {f : FuncId} {bx : Box} {args : List AV} {R R' : AV → Box → Prop} (h : FnK E f bx args R) (k : ∀ r b, R r b → R' r b) : FnK E f bx args R' := Fn.mono h fun r B' A' ⟨bx', h1, h2, h3, h4⟩ => ⟨bx', h1, h2, h3, k _ _ h4⟩
/-- The end of a function that was handed a variable. -/
theorem retK1 {Γ : TypeId → Option TI} {rs : List ResultVar} {R : AV → Box → Prop} {r r' : AV} {bx' : Box} {σ : St} (h : resv Γ σ rs = some r') (hb : σ.boxes (.out 0) = some bx') (e : AV.Le r' r) (hp : (r.plain && AV.plains bx'.cs) = true) (hR : R r bx') :
    retQ Γ rs (fun r B' _ => ∃ bx', B' (.out 0) = some bx' ∧ r.plain = true ∧ AV.plains bx'.cs = true ∧ R r bx') .ret σ := by
  simp only [Bool.and_eq_true] at hp
  exact ⟨σ, r', r, Wk.refl σ, h, e, bx', hb, hp.1, hp.2, hR⟩
theorem retR1 {Γ : TypeId → Option TI} {rs : List ResultVar} {R : AV → Prop} {r r' : AV} {σ : St} (h : resv Γ σ rs = some r') (e : AV.Le r' r) (hp : r.plain = true) (hR : R r) : retQ Γ rs (fun r _ _ => r.plain = true ∧ R r) .ret σ := ⟨σ, r', r, Wk.refl σ, h, e, hp, hR⟩
/-- The end of a function that gives back slices of the caller's own. -/
theorem retO {Γ : TypeId → Option TI} {rs : List ResultVar} {r r' : AV} {ral : AL} {σ : St} (ρ : List (Tag × Option Tag)) (n : Nat) (l : SL) (bl : BL) (hn : σ.n = n) (h1 : agTR (rsrc ρ) σ.tmps l) (h2 : agBR (rsrc ρ) σ.boxes bl) (h3 : agAR (rsrc ρ) σ.arrs ral) (hc : (noEl l && noEb bl && nodup (srcs (rsrc ρ) ral)) = true)
    (h : resv Γ (stt n l bl ral) rs = some r') (e : AV.Le r' r) (ha : agA (am ral) ral) : retQ Γ rs (fun r' _ A' => r' = r ∧ agA A' ral) .ret σ := ⟨stt n l bl ral, r', r, Wk.ren ρ hn h1 h2 h3 hc, h, e, rfl, ha⟩
end
end Go.Proofs.YthmbdoegcpicbaaDoor.Abs

/-! ## AbsS5 -/
namespace Go.Proofs.YthmbdoegcpicbaaDoor.Abs

def i64N (op : BinOp) (a b : Nat) : Option Nat := match op with
  | .and => some (a &&& b)
  | .or => some (a ||| b)
  | .xor => some (a ^^^ b)
  | .andNot => some (a ^^^ (a &&& b))
  | _ => none
theorem iwrap_nat {a : Nat} (ha : a < 9223372036854775808) : IntKind.i64.wrap (a : Int) = (a : Int) := inR_i64 (by omega) (by omega)
theorem i64_and {a b : Nat} (ha : a < 9223372036854775808) (hb : b < 9223372036854775808) : IntKind.i64.wrap ((BitVec.ofInt 64 (a : Int) &&& BitVec.ofInt 64 (b : Int)).toNat : Int) = ((a &&& b : Nat) : Int) := by
  rw [BitVec.toNat_and, ofInt64 (by omega), ofInt64 (by omega), iwrap_nat (Nat.lt_of_le_of_lt Nat.and_le_left ha)]
theorem i64_or {a b : Nat} (ha : a < 9223372036854775808) (hb : b < 9223372036854775808) : IntKind.i64.wrap ((BitVec.ofInt 64 (a : Int) ||| BitVec.ofInt 64 (b : Int)).toNat : Int) = ((a ||| b : Nat) : Int) := by
  rw [BitVec.toNat_or, ofInt64 (by omega), ofInt64 (by omega), iwrap_nat (Nat.or_lt_two_pow (n := 63) ha hb)]
theorem i64_xor {a b : Nat} (ha : a < 9223372036854775808) (hb : b < 9223372036854775808) : IntKind.i64.wrap ((BitVec.ofInt 64 (a : Int) ^^^ BitVec.ofInt 64 (b : Int)).toNat : Int) = ((a ^^^ b : Nat) : Int) := by
  rw [BitVec.toNat_xor, ofInt64 (by omega), ofInt64 (by omega), iwrap_nat (Nat.xor_lt_two_pow (n := 63) ha hb)]
theorem i64_andNot {a b : Nat} (ha : a < 9223372036854775808) (hb : b < 9223372036854775808) : IntKind.i64.wrap ((BitVec.ofInt 64 (a : Int) &&& ~~~BitVec.ofInt 64 (b : Int)).toNat : Int) = ((a ^^^ (a &&& b) : Nat) : Int) := by
  rw [and_not_eq, BitVec.toNat_xor, BitVec.toNat_and, ofInt64 (by omega), ofInt64 (by omega), iwrap_nat (Nat.xor_lt_two_pow (n := 63) ha (Nat.lt_of_le_of_lt Nat.and_le_left ha))]
theorem int_eq' {k : IntKind} {m n : Int} (h : m = n) : (some (True, AV.d (.int k m)) : Option (Prop × AV)) = some (True, .d (.int k n)) := by rw [h]
theorem vInt_i64 {op : BinOp} {a b c : Nat} (h : i64N op a b = some c) (ha : a < 9223372036854775808) (hb : b < 9223372036854775808) : vInt op .i64 (a : Int) (b : Int) = some (True, .d (.int .i64 (c : Int))) := by
  cases op
  case and => obtain rfl := Option.some.inj h; exact int_eq' (i64_and ha hb)
  case or => obtain rfl := Option.some.inj h; exact int_eq' (i64_or ha hb)
  case xor => obtain rfl := Option.some.inj h; exact int_eq' (i64_xor ha hb)
  case andNot => obtain rfl := Option.some.inj h; exact int_eq' (i64_andNot ha hb)
  all_goals (change none = some c at h; cases h)
theorem opvN_i64 {Γ : TypeId → Option TI} {σ : St} {op : BinOp} {t yt : TypeId} {x y : Operand} {a b c : Nat} (hx : σ.ev x = .d (.int .i64 (a : Int))) (hy : σ.ev y = .d (.int .i64 (b : Int))) (h : i64N op a b = some c) (ha : a < 9223372036854775808) (hb : b < 9223372036854775808) :
    opvN Γ σ (.binOp op t x y yt) = some (True, .d (.int .i64 (c : Int))) := by
  have : opv Γ σ (.binOp op t x y yt) = some (True, .d (.int .i64 (c : Int))) := by
    simp only [opv, hx, hy, vBin]
    have hs : isShift op = false := by cases op <;> first | rfl | (simp [i64N] at h)
    simp only [hs, cond_false, decide_true, cond_true]
    exact vInt_i64 h ha hb
  simp only [opvN, this, nf, nfD]
theorem opvN_shi {Γ : TypeId → Option TI} {σ : St} {t yt : TypeId} {x y : Operand} {a : Nat} {k : IntKind} {n : Int} (hx : σ.ev x = .d (.int .i64 (a : Int))) (hy : σ.ev y = .d (.int k n)) (h : 0 ≤ n ∧ n < 64) (ha : a * 2 ^ n.toNat < 9223372036854775808) :
    ∃ p : Prop, p ∧ opvN Γ σ (.binOp .shl t x y yt) = some (p, .d (.int .i64 ((a * 2 ^ n.toNat : Nat) : Int))) := by
  refine ⟨0 ≤ n, h.1, ?_⟩
  have e : IntKind.i64.wrap ((a : Int) * 2 ^ min n.toNat IntKind.i64.bits) = ((a * 2 ^ n.toNat : Nat) : Int) := by
    have : min n.toNat IntKind.i64.bits = n.toNat := Nat.min_eq_left (by show n.toNat ≤ 64; omega)
    rw [this, show (a : Int) * 2 ^ n.toNat = ((a * 2 ^ n.toNat : Nat) : Int) by norm_cast, iwrap_nat ha]
  have : opv Γ σ (.binOp .shl t x y yt) = some (0 ≤ n, .d (.int .i64 ((a * 2 ^ n.toNat : Nat) : Int))) := by
    simp only [opv, hx, hy, vBin, isShift, cond_true, vShift, e]
  simp only [opvN, this, nf, nfD]
section
variable {E : Env} {ops : Array Oper} {rest : List Oper} {o : Oper} {n : Nat} {l : SL} {bl : BL} {al : AL} {Q : Qs} {d i : Nat} {fp : List BId} {ds : List Nat} {cl : Bool} {s : List (Nat × Nat)}
theorem TriOps.i1 {op : BinOp} {t yt : TypeId} {x y : Operand} {a b c : Nat} (hop : o.op = .binOp op t x y yt) (hdst : o.dst = some d) (hg : gOk ops (stt n l bl al) o.guard = some true) (hx : (stt n l bl al).ev x = .d (.int .i64 (a : Int))) (hy : (stt n l bl al).ev y = .d (.int .i64 (b : Int))) (hc : i64N op a b = some c) (hd : Nat.ble (d + 1) n = true)
    (ha : a < 9223372036854775808) (hb : b < 9223372036854775808) (h : TriOps E ops rest (stt n ((d, .d (.int .i64 (c : Int))) :: l) bl al) Q) : TriOps E ops (o :: rest) (stt n l bl al) Q :=
  TriOps.v1 hdst hg (by rw [hop]; exact opvN_i64 hx hy hc ha hb) hd True.intro h
theorem TS.i1 {op : BinOp} {t yt : TypeId} {x y : Operand} {a b c : Nat} (hi : ops[i]? = some o) (hpn : NoPanic Q) (hop : o.op = .binOp op t x y yt) (hdst : o.dst = some d) (hg : gOk ops (stt n l bl al) o.guard = some true) (hx : (stt n l bl al).ev x = .d (.int .i64 (a : Int))) (hy : (stt n l bl al).ev y = .d (.int .i64 (b : Int))) (hc : i64N op a b = some c) (hd : Nat.ble (d + 1) n = true)
    (ha : a < 9223372036854775808) (hb : b < 9223372036854775808) (h : TS E ops fp ds cl s (stt n ((d, .d (.int .i64 (c : Int))) :: l) bl al) Q) : TS E ops fp ds cl ((i, 0) :: s) (stt n l bl al) Q :=
  TS.v1 hi hpn hdst hg (by rw [hop]; rfl) (by rw [hop]; exact opvN_i64 hx hy hc ha hb) hd True.intro h
theorem TriOps.shi1 {t yt : TypeId} {x y : Operand} {a : Nat} {k : IntKind} {m : Int} (hop : o.op = .binOp .shl t x y yt) (hdst : o.dst = some d) (hg : gOk ops (stt n l bl al) o.guard = some true) (hx : (stt n l bl al).ev x = .d (.int .i64 (a : Int))) (hy : (stt n l bl al).ev y = .d (.int k m)) (hd : Nat.ble (d + 1) n = true)
    (hm : 0 ≤ m ∧ m < 64) (ha : a * 2 ^ m.toNat < 9223372036854775808) (h : TriOps E ops rest (stt n ((d, .d (.int .i64 ((a * 2 ^ m.toNat : Nat) : Int))) :: l) bl al) Q) : TriOps E ops (o :: rest) (stt n l bl al) Q := by
  obtain ⟨p, hp, hv⟩ := opvN_shi (Γ := E.Γ) (t := t) (yt := yt) hx hy hm ha
  exact TriOps.v1 hdst hg (by rw [hop]; exact hv) hd hp h
theorem TS.shi1 {t yt : TypeId} {x y : Operand} {a : Nat} {k : IntKind} {m : Int} (hi : ops[i]? = some o) (hpn : NoPanic Q) (hop : o.op = .binOp .shl t x y yt) (hdst : o.dst = some d) (hg : gOk ops (stt n l bl al) o.guard = some true) (hx : (stt n l bl al).ev x = .d (.int .i64 (a : Int))) (hy : (stt n l bl al).ev y = .d (.int k m)) (hd : Nat.ble (d + 1) n = true)
    (hm : 0 ≤ m ∧ m < 64) (ha : a * 2 ^ m.toNat < 9223372036854775808) (h : TS E ops fp ds cl s (stt n ((d, .d (.int .i64 ((a * 2 ^ m.toNat : Nat) : Int))) :: l) bl al) Q) : TS E ops fp ds cl ((i, 0) :: s) (stt n l bl al) Q := by
  obtain ⟨p, hp, hv⟩ := opvN_shi (Γ := E.Γ) (t := t) (yt := yt) hx hy hm ha
  exact TS.v1 hi hpn hdst hg (by rw [hop]; rfl) (by rw [hop]; exact hv) hd hp h
end
/-- Ways that part are brought together again. -/
theorem Tri.join {E : Env} {σ : St} {c y : Code} {Q1 Q2 : Qs} {X : Type} (inv : X → Prop) (I : X → St) (h : Tri E c σ (Abs.next (fun σ' => ∃ i, inv i ∧ Wk σ' (I i)) Q2)) (k : ∀ i, inv i → Tri E y (I i) Q1) : Tri E c σ (Abs.next (fun σ' => Tri E y σ' Q1) Q2) :=
  Tri.mono h fun e σ' q => by
    cases e with
    | normal => obtain ⟨i, h1, h2⟩ := q; exact Tri.weak h2 (k i h1)
    | _ => exact q
end Go.Proofs.YthmbdoegcpicbaaDoor.Abs

/-! ## AbsS6 -/
namespace Go.Proofs.YthmbdoegcpicbaaDoor.Abs

def frzAll : AL → AV → AV
  | [], x => x
  | (t, a) :: r, x => frzAll r (x.frz t a.c)
def keysA : AL → List Tag
  | [] => []
  | (k, _) :: r => k :: keysA r
def eszAll : AL → Bool
  | [] => true
  | (_, a) :: r => (a.c.esz).isSome && eszAll r
theorem agA_ne {f : Tag → Option Arr} {t : Tag} : ∀ {ral : AL}, agA f ral → idx (keysA ral) t = none → agA (fun u => if decide (u = t) then none else f u) ral
  | [], _, _ => trivial
  | (k, a) :: r, h, hn => by
    simp only [keysA, idx] at hn
    split at hn
    · cases hn
    · next hk =>
      split at hn
      · cases hn
      · next hr =>
        refine ⟨?_, agA_ne h.2 hr⟩
        simp only [hk]
        exact h.1
theorem wk_frzAll : ∀ (ral : AL) (σ : St), agA σ.arrs ral → nodup (keysA ral) = true → eszAll ral = true → ∃ σ', Wk σ σ' ∧ σ'.n = σ.n ∧ ∀ i, σ'.tmps i = frzAll ral (σ.tmps i)
  | [], σ, _, _, _ => ⟨σ, Wk.refl σ, rfl, fun _ => rfl⟩
  | (t, a) :: r, σ, h, hn, hz => by
    simp only [keysA, nodup, Bool.and_eq_true, Option.isNone_iff_eq_none] at hn
    simp only [eszAll, Bool.and_eq_true] at hz
    obtain ⟨sz, hs⟩ := Option.isSome_iff_exists.1 hz.1
    obtain ⟨E, c⟩ := a
    have h1 : Wk σ (σ.frz t c) := Wk.frz (e := E) h.1 hs
    obtain ⟨σ', k1, k2, k3⟩ := wk_frzAll r (σ.frz t c) (agA_ne h.2 hn.1) hn.2 hz.2
    exact ⟨σ', h1.trans k1, k2, fun i => k3 i⟩
/-- New slices that nobody will write: the result told as what never changes. -/
theorem FnO.frz {E : Env} {f : FuncId} {args : List AV} {r r' : AV} {ral : AL} (h : FnO E f args r ral) (hc : (nodup (keysA ral) && eszAll ral) = true) (hr : frzAll ral r = r') : FnV E f args r' := by
  simp only [Bool.and_eq_true] at hc
  refine ⟨h.1, fun G w vals hs hv => (h.2 G w vals hs hv).mono ?_⟩
  rintro e w' ⟨v, r0, G', B', A', rfl, h1, h2, h3, rfl, h5⟩
  have hrel : Rel G' { n := 1, tmps := fun i => if i = 0 then r0 else .undef, boxes := B', arrs := A' } { tmps := #[v], defers := [] } w' :=
    ⟨rfl, fun i => by
      cases i with
      | zero => exact h2
      | succ i => exact .undef _, rfl, h1⟩
  obtain ⟨σ', k1, k2, k3⟩ := wk_frzAll ral { n := 1, tmps := fun i => if i = 0 then r0 else .undef, boxes := B', arrs := A' } h5 hc.1 hc.2
  obtain ⟨G2, k4, k5⟩ := k1 G' _ w' hrel
  refine ⟨v, r', G2, σ'.boxes, σ'.arrs, rfl, k4.s, ?_, h3.trans k5, rfl⟩
  have := k4.t 0
  rw [k3 0] at this
  simp only [if_true, hr] at this
  exact this
section
variable {E : Env} {ops : Array Oper} {rest : List Oper} {o : Oper} {n : Nat} {l l' : SL} {bl bl' : BL} {al al' : AL} {Q : Qs} {d i : Nat}
theorem retO0 {Γ : TypeId → Option TI} {rs : List ResultVar} {r r' : AV} {ral : AL} {σ : St} (h : resv Γ σ rs = some r') (e : AV.Le r' r) (ha : agA σ.arrs ral) : retQ Γ rs (fun r' _ A' => r' = r ∧ agA A' ral) .ret σ := ⟨σ, r', r, Wk.refl σ, h, e, rfl, ha⟩
theorem Fn.os {f : FuncId} {fn : Func} {c : Code} {args : List AV} {r : AV} {ral : AL} (n : Nat) (hf : E.P.funcs[f]? = some fn) (hb : fn.body = some c) (hname : (fn.name == "runtime.NumGoroutine") = false) (hn : Nat.beq fn.ntmps n = true) (ha : Nat.ble args.length n = true)
    (h : Tri E c (stt n (numb 0 args) [] []) (retQ E.Γ fn.results.toList fun r' _ A' => r' = r ∧ agA A' ral)) : FnO E f args r ral := Fn.s n [] [] hf hb hname hn ha h
theorem Fn.rs {f : FuncId} {fn : Func} {c : Code} {args : List AV} {R : AV → Prop} (n : Nat) (hf : E.P.funcs[f]? = some fn) (hb : fn.body = some c) (hname : (fn.name == "runtime.NumGoroutine") = false) (hn : Nat.beq fn.ntmps n = true) (ha : Nat.ble args.length n = true)
    (h : Tri E c (stt n (numb 0 args) [] []) (retQ E.Γ fn.results.toList fun r _ _ => r.plain = true ∧ R r)) : FnR E f args R := Fn.s n [] [] hf hb hname hn ha h
end
end Go.Proofs.YthmbdoegcpicbaaDoor.Abs

/-! ## AbsS7 -/
namespace Go.Proofs.YthmbdoegcpicbaaDoor.Abs
section
variable {E : Env} {ops : Array Oper} {rest : List Oper} {o : Oper} {n : Nat} {l l' : SL} {bl bl' : BL} {al al' : AL} {Q : Qs} {d i : Nat}
def isT (d : Nat) (tg : Tag) (t : Tag) : Bool := isTmp d t || decide (t = tg)
theorem isT_eq (d : Nat) (tg : Tag) : (fun t => isTmp d t || (idx [tg] t).isSome) = isT d tg := funext fun t => by
  unfold isT
  by_cases h : tg = t
  · subst h; simp [idx]
  · have h' : ¬ t = tg := fun e => h e.symm
    simp [idx, h, h']
theorem recv_mv {tg : Tag} {B' : BId → Option Box} {A' : Tag → Option Arr} {ral : AL} {r : AV} (hr : ∀ j x, am ral (.ret j) = some x → A' (.ret j) = some x) (hk : retK ral = true) (htg : isTmp d tg = false) :
    WkB (((stt n l bl al).recv [] [tg] d B' A').put (some d) r) (stt n ((d, r) :: purL (isT d tg) l) (purB (isT d tg) bl) (renA d ral ++ purA (isT d tg) al)) := by
  have e2 := stt_purge n l bl al (isT d tg)
  unfold St.recv
  simp only [isT_eq, e2]
  refine WkB.to' rfl (fun i => .inr ?_) (fun i x hx => hx) (fun t x hx => ?_)
  · simp only [St.put, tm, upd, stt]
  · simp only [St.put]
    rcases am_append hx with h | h
    · obtain ⟨j, rfl, h5⟩ := renA_am hk h
      have hne : ¬ tg = .tmp d j := fun e => by rw [e] at htg; simp [isTmp] at htg
      simp only [idx, hne, decide_false, Bool.false_eq_true, if_false]
      simp [hr j x h5]
    · have hp : isT d tg t = false := by
        rw [purA_am] at h
        cases hq : isT d tg t
        · rfl
        · rw [hq] at h; cases h
      simp only [isT, Bool.or_eq_false_iff, decide_eq_false_iff_not] at hp
      have hne : ¬ tg = t := fun e => hp.2 e.symm
      simp only [idx, hne, decide_false, Bool.false_eq_true, if_false]
      cases t with
      | tmp d' j =>
        have hb : Nat.beq d' d = false := hp.1
        simp only [hb, cond_false]
        exact h
      | ext _ => exact h
      | ret _ => exact h
theorem Fn.mv {f : FuncId} {args : List AV} {R : RQ} {tg : Tag} {a : Arr} (ha : am al tg = some a) (hp : AV.plains args = true) (h : Fn E f (.own (.ext 0) :: args) noB (am [(.ext 0, a)]) R) : Fn E f (AV.ups [] [tg] (.own tg :: args)) (upB (stt n l bl al) [] [tg]) (upA (stt n l bl al) [tg]) R := by
  have e0 : AV.ups [] [tg] (.own tg :: args) = .own (.ext 0) :: args := by simp only [AV.ups, AV.up, idx, decide_true, if_true, AV.ups_plain _ hp]
  have e1 : upB (stt n l bl al) [] [tg] = noB := funext fun i => by cases i <;> simp [upB, noB]
  have e2 : upA (stt n l bl al) [tg] = am [(.ext 0, a)] := funext fun t => by
    cases t with
    | ext k =>
      cases k with
      | zero =>
        have : (stt n l bl al).arrs tg = some a := ha
        simp [upA, am, this]
      | succ k => simp [upA, am]
    | tmp _ _ => rfl
    | ret _ => rfl
  rw [e0, e1, e2]; exact h
/-- The slice of the first argument is the function's from now on; what comes back is the caller's. -/
def FnM (E : Env) (f : FuncId) (a : Arr) (args : List AV) (r : AV) (ral : AL) : Prop := Fn E f (.own (.ext 0) :: args) noB (am [(.ext 0, a)]) fun r' _ A' => r' = r ∧ agA A' ral
theorem TriOps.mv1 {c : Call} {f : FuncId} {args : List AV} {r r' : AV} {ral : AL} {tg : Tag} {a : Arr} (hop : o.op = .call c) (hdst : o.dst = some d) (hg : gOk ops (stt n l bl al) o.guard = some true) (hc : calleeOf (stt n l bl al) c = some (f, .own tg :: args)) (hd : Nat.ble (d + 1) n = true) (ha : am al tg = some a)
    (hpl : (AV.plains args && !isTmp d tg) = true) (hf : FnM E f a args r ral)
    (hk : retK ral = true) (hr' : nf (r.down [] [tg] d) some = some r') (hnf : nfT (purL (isT d tg) l) (purB (isT d tg) bl) (renA d ral ++ purA (isT d tg) al) = some (l', bl', al')) (h : TriOps E ops rest (stt n ((d, r') :: l') bl' al') Q) : TriOps E ops (o :: rest) (stt n l bl al) Q := by
  simp only [Bool.and_eq_true, Bool.not_eq_true'] at hpl
  rw [nf_eq] at hr'
  obtain rfl : r.down [] [tg] d = r' := by simpa using hr'
  obtain ⟨rfl, rfl, rfl⟩ := nfT_eq hnf
  refine TriOps.eff (fp := nofp) hg (Step.call [] [tg] d hop hc (by rw [hdst]; exact hd) ?_ (Fn.mv ha hpl.1 hf)) ?_
  · simp [nodup, idx, aliveB, noTmp, hpl.2, apartB]
  rintro σ' ⟨r2, B', A', ⟨rfl, ha⟩, rfl⟩
  rw [hdst]
  exact TriOps.weak (recv_mv (fun j x h => agA_ok ha _ _ h) hk hpl.2).wk h
end
end Go.Proofs.YthmbdoegcpicbaaDoor.Abs

/-! ## AbsS8 -/
namespace Go.Proofs.YthmbdoegcpicbaaDoor.Abs
section
variable {E : Env} {ops : Array Oper} {rest : List Oper} {o : Oper} {n : Nat} {l l' : SL} {bl bl' : BL} {al al' : AL} {Q : Qs} {d i : Nat} {fp : List BId} {ds : List Nat} {cl : Bool} {s : List (Nat × Nat)}
/-- As FnK, where what comes back lies in new slices. -/
def FnKO (E : Env) (f : FuncId) (bx : Box) (args : List AV) (R : AV → AL → Box → Prop) : Prop := Fn E f (.ptr (.out 0) 0 :: args) (bm [(.out 0, bx)]) noA fun r B' A' => ∃ bx' ral, B' (.out 0) = some bx' ∧ agA A' ral ∧ retK ral = true ∧ AV.plains bx'.cs = true ∧ R r ral bx'
theorem recv_boxO {b : BId} {bx' : Box} {B' : BId → Option Box} {A' : Tag → Option Arr} {ral : AL} {r : AV} (hb : B' (.out 0) = some bx') (hp : AV.plains bx'.cs = true) (hr : ∀ j x, am ral (.ret j) = some x → A' (.ret j) = some x) (hk : retK ral = true) :
    WkB (((stt n l bl al).recv [b] [] d B' A').put (some d) r) (stt n ((d, r) :: purL (isTmp d) l) ((b, bx') :: purB (isTmp d) bl) (renA d ral ++ purA (isTmp d) al)) := by
  have e1 : (fun t => isTmp d t || (idx ([] : List Tag) t).isSome) = isTmp d := funext fun t => by simp [idx]
  have e2 := stt_purge n l bl al (isTmp d)
  unfold St.recv
  simp only [e1, e2]
  refine WkB.to' rfl (fun i => .inr ?_) (fun i x hx => ?_) (fun t x hx => ?_)
  · simp only [St.put, tm, upd, stt]
  · simp only [St.put, bm] at hx ⊢
    by_cases hi : i = b
    · subst hi
      simp only [decide_true, cond_true, Option.some.injEq] at hx
      subst hx
      simp only [idx, decide_true, if_true, hb, AV.downs_plain _ hp]
    · have hi' : ¬ b = i := fun e => hi e.symm
      simp only [hi, decide_false, cond_false] at hx
      simp only [idx, hi', decide_false]
      exact hx
  · simp only [St.put, idx]
    rcases am_append hx with h | h
    · obtain ⟨j, rfl, h5⟩ := renA_am hk h
      simp [hr j x h5]
    · cases t with
      | tmp d' j =>
        have hp : Nat.beq d' d = false := by
          rw [purA_am] at h
          cases hq : Nat.beq d' d
          · rfl
          · simp [isTmp, hq] at h
        simp only [hp, cond_false]
        exact h
      | ext _ => exact h
      | ret _ => exact h
theorem TriOps.ko1 {c : Call} {f : FuncId} {args : List AV} {b : BId} {bx : Box} {R : AV → AL → Box → Prop} (hop : o.op = .call c) (hdst : o.dst = some d) (hg : gOk ops (stt n l bl al) o.guard = some true) (hc : calleeOf (stt n l bl al) c = some (f, .ptr b 0 :: args)) (hd : Nat.ble (d + 1) n = true) (hb : bm bl b = some bx)
    (hpl : (AV.plains args && AV.plains bx.cs) = true) (hf : FnKO E f bx args R) (hnf : nfT (purL (isTmp d) l) (purB (isTmp d) bl) (purA (isTmp d) al) = some (l', bl', al'))
    (h : ∀ r ral bx', R r ral bx' → TriOps E ops rest (stt n ((d, r.down [b] [] d) :: l') ((b, bx') :: bl') (renA d ral ++ al')) Q) : TriOps E ops (o :: rest) (stt n l bl al) Q := by
  simp only [Bool.and_eq_true] at hpl
  obtain ⟨rfl, rfl, rfl⟩ := nfT_eq hnf
  refine TriOps.eff (fp := nofp) hg (Step.call [b] [] d hop hc (by rw [hdst]; exact hd) ?_ (Fn.box hb hpl.1 hpl.2 hf)) ?_
  · have : (stt n l bl al).boxes b = some bx := hb
    simp [nodup, idx, aliveB, this, noTmp, apartB, nofp]
  rintro σ' ⟨r, B', A', ⟨bx', ral, h1, h2, h3, h4, h5⟩, rfl⟩
  rw [hdst]
  exact TriOps.weak (recv_boxO h1 h4 (fun j x h => agA_ok h2 _ _ h) h3).wk (h r ral bx' h5)
theorem TS.ko1 {c : Call} {f : FuncId} {args : List AV} {b : BId} {bx : Box} {R : AV → AL → Box → Prop} (hi : ops[i]? = some o) (hal : aliveB (stt n l bl al) fp = true) (hop : o.op = .call c) (hdst : o.dst = some d) (hg : gOk ops (stt n l bl al) o.guard = some true) (hc : calleeOf (stt n l bl al) c = some (f, .ptr b 0 :: args)) (hd : Nat.ble (d + 1) n = true) (hb : bm bl b = some bx)
    (hpl : (AV.plains args && AV.plains bx.cs && !inL fp b) = true) (hf : FnKO E f bx args R) (hnf : nfT (purL (isTmp d) l) (purB (isTmp d) bl) (purA (isTmp d) al) = some (l', bl', al'))
    (h : ∀ r ral bx', R r ral bx' → TS E ops fp ds false s (stt n ((d, r.down [b] [] d) :: l') ((b, bx') :: bl') (renA d ral ++ al')) Q) : TS E ops fp ds cl ((i, 2) :: s) (stt n l bl al) Q := by
  simp only [Bool.and_eq_true, Bool.not_eq_true'] at hpl
  obtain ⟨rfl, rfl, rfl⟩ := nfT_eq hnf
  refine TS.e hi hal hg (Step.call [b] [] d hop hc (by rw [hdst]; exact hd) ?_ (Fn.box hb hpl.1.1 hpl.1.2 hf)) ?_
  · have : (stt n l bl al).boxes b = some bx := hb
    simp [nodup, idx, aliveB, this, noTmp, apartB, hpl.2]
  rintro σ' ⟨r, B', A', ⟨bx', ral, h1, h2, h3, h4, h5⟩, rfl⟩
  rw [hdst]
  exact TS.weak (recv_boxO h1 h4 (fun j x h => agA_ok h2 _ _ h) h3) (h r ral bx' h5)
/-- The end of such a function. -/
theorem retKO {Γ : TypeId → Option TI} {rs : List ResultVar} {R : AV → AL → Box → Prop} {r r' : AV} {ral : AL} {bx' : Box} {σ : St} (ρ : List (Tag × Option Tag)) (n : Nat) (l : SL) (bl : BL) (hn : σ.n = n) (h1 : agTR (rsrc ρ) σ.tmps l) (h2 : agBR (rsrc ρ) σ.boxes bl) (h3 : agAR (rsrc ρ) σ.arrs ral) (hc : (noEl l && noEb bl && nodup (srcs (rsrc ρ) ral)) = true)
    (h : resv Γ (stt n l bl ral) rs = some r') (hb : bm bl (.out 0) = some bx') (e : AV.Le r' r) (hp : (retK ral && AV.plains bx'.cs) = true) (ha : agA (am ral) ral) (hR : R r ral bx') :
    retQ Γ rs (fun r B' A' => ∃ bx' ral, B' (.out 0) = some bx' ∧ agA A' ral ∧ retK ral = true ∧ AV.plains bx'.cs = true ∧ R r ral bx') .ret σ := by
  simp only [Bool.and_eq_true] at hp
  exact ⟨stt n l bl ral, r', r, Wk.ren ρ hn h1 h2 h3 hc, h, e, bx', ral, hb, ha, hp.1, hp.2, hR⟩
/-- The end of a function that was handed a variable; own slices told as what never changes. -/
theorem retKF {Γ : TypeId → Option TI} {rs : List ResultVar} {R : AV → Box → Prop} {r r' : AV} {bx' : Box} {σ σ' : St} (hw : Wk σ σ') (h : resv Γ σ' rs = some r') (hb : σ'.boxes (.out 0) = some bx') (e : AV.Le r' r) (hp : (r.plain && AV.plains bx'.cs) = true) (hR : R r bx') :
    retQ Γ rs (fun r B' _ => ∃ bx', B' (.out 0) = some bx' ∧ r.plain = true ∧ AV.plains bx'.cs = true ∧ R r bx') .ret σ := by
  simp only [Bool.and_eq_true] at hp
  exact ⟨σ', r', r, hw, h, e, bx', hb, hp.1, hp.2, hR⟩
/-- As FnO, of what is not told exactly. -/
def FnX (E : Env) (f : FuncId) (args : List AV) (R : AV → AL → Prop) : Prop := Fn E f args noB noA fun r _ A' => r.ownly = true ∧ ∃ ral, agA A' ral ∧ retsB ral = true ∧ R r ral
theorem TriOps.ox1 {c : Call} {f : FuncId} {args : List AV} {R : AV → AL → Prop} (hop : o.op = .call c) (hdst : o.dst = some d) (hg : gOk ops (stt n l bl al) o.guard = some true) (hc : calleeOf (stt n l bl al) c = some (f, args)) (hd : Nat.ble (d + 1) n = true) (hf : FnX E f (AV.lends (stt n l bl al) args) R)
    (hnf : nfT (purL (isTmp d) l) (purB (isTmp d) bl) (purA (isTmp d) al) = some (l', bl', al')) (h : ∀ r ral, R r ral → TriOps E ops rest (stt n ((d, r.down [] [] d) :: l') bl' (renA d ral ++ al')) Q) : TriOps E ops (o :: rest) (stt n l bl al) Q := by
  obtain ⟨rfl, rfl, rfl⟩ := nfT_eq hnf
  refine TriOps.eff (fp := nofp) hg (Step.callLend d hop hc (by rw [hdst]; exact hd) hf (fun r' _ _ e => e.1)) ?_
  rintro σ' ⟨r2, B', A', ⟨_, ral, ha, hb, hR⟩, rfl⟩
  rw [hdst]
  exact TriOps.weak (recv_lend hb ha).wk (h r2 ral hR)
theorem TS.ox1 {c : Call} {f : FuncId} {args : List AV} {R : AV → AL → Prop} (hi : ops[i]? = some o) (hal : aliveB (stt n l bl al) fp = true) (hop : o.op = .call c) (hdst : o.dst = some d) (hg : gOk ops (stt n l bl al) o.guard = some true) (hc : calleeOf (stt n l bl al) c = some (f, args)) (hd : Nat.ble (d + 1) n = true) (hf : FnX E f (AV.lends (stt n l bl al) args) R)
    (hnf : nfT (purL (isTmp d) l) (purB (isTmp d) bl) (purA (isTmp d) al) = some (l', bl', al')) (h : ∀ r ral, R r ral → TS E ops fp ds false s (stt n ((d, r.down [] [] d) :: l') bl' (renA d ral ++ al')) Q) : TS E ops fp ds cl ((i, 2) :: s) (stt n l bl al) Q := by
  obtain ⟨rfl, rfl, rfl⟩ := nfT_eq hnf
  refine TS.e hi hal hg (Step.callLend d hop hc (by rw [hdst]; exact hd) hf (fun r' _ _ e => e.1)) ?_
  rintro σ' ⟨r2, B', A', ⟨_, ral, ha, hb, hR⟩, rfl⟩
  rw [hdst]
  exact TS.weak (recv_lend hb ha) (h r2 ral hR)
theorem retX {Γ : TypeId → Option TI} {rs : List ResultVar} {R : AV → AL → Prop} {r r' : AV} {ral : AL} {σ : St} (ρ : List (Tag × Option Tag)) (n : Nat) (l : SL) (bl : BL) (hn : σ.n = n) (h1 : agTR (rsrc ρ) σ.tmps l) (h2 : agBR (rsrc ρ) σ.boxes bl) (h3 : agAR (rsrc ρ) σ.arrs ral) (hc : (noEl l && noEb bl && nodup (srcs (rsrc ρ) ral)) = true)
    (h : resv Γ (stt n l bl ral) rs = some r') (e : AV.Le r' r) (hp : (r.ownly && retsB ral) = true) (ha : agA (am ral) ral) (hR : R r ral) : retQ Γ rs (fun r _ A' => r.ownly = true ∧ ∃ ral, agA A' ral ∧ retsB ral = true ∧ R r ral) .ret σ := by
  simp only [Bool.and_eq_true] at hp
  exact ⟨stt n l bl ral, r', r, Wk.ren ρ hn h1 h2 h3 hc, h, e, hp.1, ral, ha, hp.2, hR⟩
end
end Go.Proofs.YthmbdoegcpicbaaDoor.Abs

/-! ## AbsF1 -/
namespace Go.Proofs.YthmbdoegcpicbaaDoor.Abs
open Go.Proofs.YthmbdoegcpicbaaDoorW.PrintLast
section
variable (E : Env) (ops : Array Oper)
structure TF (fp : List BId) (ds : List Nat) (fr s1 : List Nat) (s2 : List (Nat × Nat)) (σ : St) (Q : Qs) : Prop where
  go : ∀ l fuel, chkF ops ds (fr.length + s1.length) l fr s1 s2 = true → fr.length + s1.length + s2.length ≤ fuel → TA E ops fp ds false fuel l σ Q
/-- One operation carried out. -/
def Br (fp : List BId) (i : Nat) (σ : St) (K : St → Prop) : Prop := ∃ o R, ops[i]? = some o ∧ gOk ops σ o.guard = some true ∧ Step E o σ (inL fp) R ∧ ∀ σ', R σ' → K σ'
def BrFr (fp : List BId) (ds : List Nat) (fr0 s1 : List Nat) (s2 : List (Nat × Nat)) (σ : St) (Q : Qs) : List Nat → Prop
  | [] => True
  | f :: r => Br E ops fp f σ (fun σ' => TF E ops fp ds (fr0.erase f) s1 s2 σ' Q) ∧ BrFr fp ds fr0 s1 s2 σ Q r
def BrCh (fp : List BId) (ds : List Nat) (fr0 : List Nat) (s2 : List (Nat × Nat)) (σ : St) (Q : Qs) : List Nat → Prop
  | [] => True
  | i :: r => Br E ops fp i σ (fun σ' => TF E ops fp ds fr0 r s2 σ' Q)
end
section
variable {E : Env} {ops : Array Oper} {o : Oper} {Q : Qs} {fp : List BId} {ds : List Nat} {cl : Bool} {s : List (Nat × Nat)} {fr s1 : List Nat} {s2 : List (Nat × Nat)} {σ : St}
def plainS : List (Nat × Nat) → Bool
  | [] => true
  | (_, k) :: r => Nat.ble k 3 && plainS r
theorem chk0_B : ∀ {s : List (Nat × Nat)} {l : Array Bool}, plainS s = true → chk0 ops ds l s = true → chkB ops ds l s = true
  | [], l, _, h => by simpa [chk0, chkB] using h
  | (i, k) :: r, l, hp, h => by
    simp only [plainS, Bool.and_eq_true] at hp
    have hk := Nat.le_of_ble_eq_true hp.1
    simp only [chk0, Bool.and_eq_true] at h
    have ih := chk0_B hp.2 h.2
    match k, hk with
    | 0, _ => simp only [chkB, Bool.and_eq_true]; exact ⟨h.1, ih⟩
    | 1, _ => simp only [chkB, Bool.and_eq_true]; exact ⟨h.1, ih⟩
    | 2, _ => simp only [chkB, Bool.and_eq_true]; exact ⟨by simpa using h.1, ih⟩
    | 3, _ => simp only [chkB, Bool.and_eq_true]; exact ⟨by simpa using h.1, ih⟩
theorem TF.fin (hp : plainS s2 = true) (h : TS E ops fp ds false s2 σ Q) : TF E ops fp ds [] [] s2 σ Q := ⟨fun l fuel hc hf => h.go l fuel (chk0_B hp (by simpa [chkF] using hc)) (by simpa using hf)⟩
theorem TF.weak {σ' : St} (h : WkB σ σ') (k : TF E ops fp ds fr s1 s2 σ' Q) : TF E ops fp ds fr s1 s2 σ Q := by
  refine ⟨fun l fuel hc hf => ?_⟩
  intro G0 w0 G a w hr hL hcl hβ hS
  obtain ⟨G', h1, h2, h3⟩ := h G a w hr
  exact k.go l fuel hc hf G0 w0 G' a w h1 (hL.trans h2) (fun e => by cases e) (fun i hi => by rw [h3]; exact hβ i hi) hS
theorem BrFr.mem : ∀ {r : List Nat}, BrFr E ops fp ds fr s1 s2 σ Q r → ∀ f ∈ r, Br E ops fp f σ (fun σ' => TF E ops fp ds (fr.erase f) s1 s2 σ' Q)
  | [], _, f, h => by cases h
  | g :: r, hb, f, h => by
    rcases List.mem_cons.1 h with rfl | h
    · exact hb.1
    · exact BrFr.mem hb.2 f h
theorem allReady {md : Region.Mode} {Q : Exit → Act → World → Prop} {S : World → Prop} {fuel : Nat} {l : Array Bool} {a : Act} {w : World} {P : Program}
    (hne : (Region.ready md ops l).isEmpty = false)
    (h : ∀ i ∈ Region.ready md ops l, ∃ oi, ops[i]? = some oi ∧ i ∉ ds ∧ ∀ K : Act → World → Prop, (∀ a' w', S w' → wpAnyLast P md ops Q S ds fuel (l.setIfInBounds i true) a' w' → K a' w') → if Region.wanted oi (yielded ops a.tmps) = true then Oper.wp P oi a w K Q else K (a.put oi.dst undef) w) :
    wpAnyLast P md ops Q S ds (fuel + 1) l a w := by
  have key : ∀ r : List Nat, (∀ i ∈ r, i ∈ Region.ready md ops l) → AllReadyL P md ops Q S ds fuel l a w r := by
    intro r
    induction r with
    | nil => intro _; exact AllReadyL.nil
    | cons i r ih =>
      intro hm
      obtain ⟨oi, h1, h2, h3⟩ := h i (hm i (List.mem_cons_self ..))
      exact AllReadyL.cons h1 h2 (fun K hK => h3 K fun a' w' hS hk => hK.out a' w' hS fun _ => hk) (ih fun j hj => hm j (List.mem_cons_of_mem _ hj))
  exact wpAnyLast_ready rfl (by rintro e; rw [e] at hne; cases hne) (key _ fun _ h => h)
theorem TF.br (hne : (fr.isEmpty && s1.isEmpty) = false) (hal : aliveB σ fp = true) (h : BrCh E ops fp ds fr s2 σ Q s1 ∧ BrFr E ops fp ds fr s1 s2 σ Q fr) : TF E ops fp ds fr s1 s2 σ Q := by
  refine ⟨fun l fuel hc hf => ?_⟩
  obtain ⟨n, hn⟩ : ∃ n, fr.length + s1.length = n + 1 := by
    cases fr with
    | cons f r => exact ⟨r.length + s1.length, by simp; omega⟩
    | nil => cases s1 with
      | cons i r => exact ⟨r.length, by simp⟩
      | nil => simp at hne
  rw [hn] at hc
  simp only [chkF, Bool.and_eq_true, Bool.not_eq_true'] at hc
  obtain ⟨⟨⟨h1, h2⟩, h3⟩, h4⟩ := hc
  obtain ⟨g, rfl⟩ : ∃ g, fuel = g + 1 := ⟨fuel - 1, by omega⟩
  intro G0 w0 G a w hr hL hcl hβ hS
  have one : ∀ i (fr' s1' : List Nat), Br E ops fp i σ (fun σ' => TF E ops fp ds fr' s1' s2 σ' Q) → i ∉ ds → chkF ops ds n (up1 l i) fr' s1' s2 = true → fr'.length + s1'.length = n →
      ∃ oi, ops[i]? = some oi ∧ i ∉ ds ∧ ∀ K : Act → World → Prop, (∀ a' w', S0 G0 w0 fp w' → wpAnyLast E.P .any ops (Post G0 w0 Q) (S0 G0 w0 fp) ds g (l.setIfInBounds i true) a' w' → K a' w') → if Region.wanted oi (yielded ops a.tmps) = true then Oper.wp E.P oi a w K (Post G0 w0 Q) else K (a.put oi.dst undef) w := by
    rintro i fr' s1' ⟨oi, R, k1, k2, k3, k4⟩ hd hck hlen
    refine ⟨oi, k1, hd, fun K hK => ?_⟩
    rw [if_pos (gOk_ok k2 hr)]
    refine k3 G a w hr K _ fun G' σ' a' w' r1 r2 r3 r4 => ?_
    have hb : ∀ i ∈ fp, G'.β i = G.β i ∧ w'.heap[G.β i]? = w.heap[G.β i]? := fun i hi => by
      obtain ⟨n, hn, rfl⟩ := List.getElem_of_mem hi
      obtain ⟨x, hx⟩ := aliveB_get hal (List.getElem?_eq_getElem hn)
      exact r3 _ x (inL_mem hi) hx
    have hS' : S0 G0 w0 fp w' := ⟨fun g o hg => r1.s.im g o (.inl (r2.im g o (hL.im g o hg))), fun i hi => by
      have := (hb i hi).2
      rw [hβ i hi] at this
      rw [this]
      exact hS.2 i hi⟩
    exact hK a' w' hS' ((k4 σ' r4).go (up1 l i) g (by rw [hlen]; exact hck) (by omega) G0 w0 G' a' w' r1 (hL.trans r2) (fun e => by cases e) (fun i hi => (hb i hi).1.trans (hβ i hi)) hS')
  refine allReady h2 fun i hi => ?_
  have hor := List.all_eq_true.1 h1 i hi
  simp only [Bool.or_eq_true, List.contains_iff_mem, beq_iff_eq] at hor
  rcases hor with hor | hor
  · have h5 := List.all_eq_true.1 h4 i hor
    simp only [Bool.and_eq_true, Bool.not_eq_true'] at h5
    refine one i (fr.erase i) s1 (BrFr.mem h.2 i hor) (by simpa using h5.1) h5.2 ?_
    rw [List.length_erase_of_mem hor]
    have := List.length_pos_of_mem hor
    omega
  · cases s1 with
    | nil => cases hor
    | cons j r =>
      simp only [List.head?_cons, Option.some.injEq] at hor
      subst hor
      simp only [Bool.and_eq_true, Bool.not_eq_true'] at h3
      refine one j fr r h.1 (by simpa using h3.1) h3.2 ?_
      simp only [List.length_cons] at hn
      omega
theorem kind_len : ∀ s : List (Nat × Nat), (kindF 4 s).length + (kindF 5 s).length + (restF s).length ≤ s.length + (kindF 4 (restF s)).length + (kindF 5 (restF s)).length
  | [] => by simp [kindF, restF]
  | (i, j) :: r => by
    have ih := kind_len r
    by_cases h4 : Nat.beq j 4 = true
    · have := Nat.eq_of_beq_eq_true h4; subst this
      simp [kindF, restF]; omega
    · by_cases h5 : Nat.beq j 5 = true
      · have := Nat.eq_of_beq_eq_true h5; subst this
        simp [kindF, restF]; omega
      · simp [kindF, restF, h4, h5]; omega
/-- Into a part in which some operations may come up at any time. -/
theorem TS.free {i : Nat} {r : List (Nat × Nat)} {k : Nat} {fl s1 : List Nat} {s2 : List (Nat × Nat)} (h4 : kindF 4 ((i, k + 4) :: r) = fl) (h5 : kindF 5 ((i, k + 4) :: r) = s1) (h6 : restF ((i, k + 4) :: r) = s2) (h7 : kindF 4 s2 = []) (h8 : kindF 5 s2 = []) (hs : TF E ops fp ds fl s1 s2 σ Q) : TS E ops fp ds cl ((i, k + 4) :: r) σ Q := by
  refine ⟨fun l fuel hc hf => ?_⟩
  have hk := kind_len ((i, k + 4) :: r)
  simp only [chkB] at hc
  rw [h4, h5, h6] at hc
  rw [h4, h5, h6] at hk
  rw [h7, h8] at hk
  simp only [List.length_nil] at hk
  intro G0 w0 G a w hr hL hcl hβ hS
  exact hs.go l fuel hc (by omega) G0 w0 G a w hr hL (fun e => by cases e) hβ hS
end
section
variable {E : Env} {ops : Array Oper} {o : Oper} {n : Nat} {l l' : SL} {bl bl' : BL} {al al' : AL} {d i : Nat} {fp : List BId} {K : St → Prop}
theorem Br.a1 {e : TypeId} {j : TI} {cs : List AV} (hi : ops[i]? = some o) (hop : o.op = .alloc e) (hdst : o.dst = some d) (hg : gOk ops (stt n l bl al) o.guard = some true) (hj : E.Γ e = some j) (hx : nfc (some (cvals j.zero.cells.toList)) = some cs) (hd : Nat.ble (d + 1) n = true) (hcl : (cleanL noTag (.loc d) l && cleanB noTag (.loc d) bl && AV.cleans noTag (.loc d) cs) = true)
    (hfp : inL fp (.loc d) = false) (h : K (stt n ((d, .ptr (.loc d) 0) :: l) ((.loc d, ⟨e, cs⟩) :: bl) al)) : Br E ops fp i (stt n l bl al) K :=
  ⟨o, _, hi, hg, Step.alloc hop hdst hd hj hfp, by
    rintro σ' rfl
    have := nfc_eq hx
    simp only [Option.some.injEq] at this
    rw [this, newBox_stt hcl]; exact h⟩
theorem Br.y1 {t e : TypeId} {len : Nat} {parts : Array (Nat × Operand)} {c c' : D} (hi : ops[i]? = some o) (hop : o.op = .buildSlice t len parts) (hdst : o.dst = some d) (hg : gOk ops (stt n l bl al) o.guard = some true)
    (hm : mkSl E.Γ t len (parts.toList.map fun p => (p.1, (stt n l bl al).ev p.2)) = some (e, c)) (hn : nfD c some = some c') (hd : Nat.ble (d + 1) n = true)
    (hnf : nfT (purL (fun v => decide (v = .tmp d 0)) l) (purB (fun v => decide (v = .tmp d 0)) bl) (purA (fun v => decide (v = .tmp d 0)) al) = some (l', bl', al'))
    (h : K (stt n ((d, .own (.tmp d 0)) :: l') bl' ((.tmp d 0, ⟨e, c'⟩) :: al'))) : Br E ops fp i (stt n l bl al) K := by
  rw [nfD_eq] at hn
  obtain rfl : c = c' := by simpa using hn
  obtain ⟨rfl, rfl, rfl⟩ := nfT_eq hnf
  exact ⟨o, _, hi, hg, Step.buildSlice hop hdst hd hm, by rintro σ' rfl; rw [stt_newArr]; exact h⟩
theorem Br.c1 {c : Call} {f : FuncId} {args : List AV} {r : AV} (hi : ops[i]? = some o) (hop : o.op = .call c) (hdst : o.dst = some d) (hg : gOk ops (stt n l bl al) o.guard = some true) (hce : calleeOf (stt n l bl al) c = some (f, args)) (hd : Nat.ble (d + 1) n = true)
    (hf : FnV E f (AV.lends (stt n l bl al) args) r) (hr : r.flat = true) (h : K (stt n ((d, r) :: l) bl al)) : Br E ops fp i (stt n l bl al) K :=
  ⟨o, _, hi, hg, Step.callFlat hop hce (by rw [hdst]; exact hd) hf (fun r' _ _ e => by rw [e]; exact hr), by rintro σ' ⟨r', B', A', rfl, rfl⟩; rw [hdst]; exact h⟩
theorem Br.k1 {c : Call} {f : FuncId} {args : List AV} {b : BId} {bx : Box} {R : AV → Box → Prop} (hi : ops[i]? = some o) (hop : o.op = .call c) (hdst : o.dst = some d) (hg : gOk ops (stt n l bl al) o.guard = some true) (hc : calleeOf (stt n l bl al) c = some (f, .ptr b 0 :: args)) (hd : Nat.ble (d + 1) n = true) (hb : bm bl b = some bx)
    (hpl : (AV.plains args && AV.plains bx.cs && !inL fp b) = true) (hf : FnK E f bx args R) (hnf : nfT (purL (isTmp d) l) (purB (isTmp d) bl) (purA (isTmp d) al) = some (l', bl', al'))
    (h : ∀ r bx', R r bx' → K (stt n ((d, r) :: l') ((b, bx') :: bl') al')) (hK : ∀ σ σ', WkB σ σ' → K σ' → K σ) : Br E ops fp i (stt n l bl al) K := by
  simp only [Bool.and_eq_true, Bool.not_eq_true'] at hpl
  obtain ⟨rfl, rfl, rfl⟩ := nfT_eq hnf
  refine ⟨o, _, hi, hg, Step.call [b] [] d hop hc (by rw [hdst]; exact hd) ?_ (Fn.box hb hpl.1.1 hpl.1.2 hf), ?_⟩
  · have : (stt n l bl al).boxes b = some bx := hb
    simp [nodup, idx, aliveB, this, noTmp, apartB, hpl.2]
  rintro σ' ⟨r, B', A', ⟨bx', h1, h2, h3, h4⟩, rfl⟩
  rw [hdst, AV.down_plain r h2]
  exact hK _ _ (recv_box h1 h3) (h r bx' h4)
end
end Go.Proofs.YthmbdoegcpicbaaDoor.Abs

/-! ## AbsF2 -/
namespace Go.Proofs.YthmbdoegcpicbaaDoor.Abs
section
variable (E : Env) (ops : Array Oper)
def AllL (P : Nat → Prop) : List Nat → Prop
  | [] => True
  | f :: r => P f ∧ AllL P r
def HeadL (P : Nat → List Nat → Prop) : List Nat → Prop
  | [] => True
  | i :: r => P i r
/-- Every order ends in a state of which K holds. -/
def TFK (fp : List BId) : Nat → List Nat → List Nat → St → (St → Prop) → Prop
  | 0, _, _, σ, K => K σ
  | n + 1, fr, s1, σ, K => aliveB σ fp = true ∧ HeadL (fun i r => Br E ops fp i σ (fun σ' => TFK fp n fr r σ' K)) s1 ∧ AllL (fun f => Br E ops fp f σ (fun σ' => TFK fp n (fr.erase f) s1 σ' K)) fr
end
section
variable {E : Env} {ops : Array Oper} {o : Oper} {Q : Qs} {fp : List BId} {ds : List Nat} {cl : Bool} {s : List (Nat × Nat)} {fr s1 : List Nat} {s2 : List (Nat × Nat)} {σ : St}
theorem Br.mono {i : Nat} {K K' : St → Prop} (h : Br E ops fp i σ K) (k : ∀ σ', K σ' → K' σ') : Br E ops fp i σ K' := by
  obtain ⟨o, R, h1, h2, h3, h4⟩ := h
  exact ⟨o, R, h1, h2, h3, fun σ' hr => k _ (h4 σ' hr)⟩
theorem TFK.tf : ∀ (n : Nat) {fr s1 : List Nat} {σ : St} {K : St → Prop}, n = fr.length + s1.length → TFK E ops fp n fr s1 σ K → plainS s2 = true → (∀ σ', K σ' → TS E ops fp ds false s2 σ' Q) → TF E ops fp ds fr s1 s2 σ Q
  | 0, fr, s1, σ, K, hn, h, hp, k => by
    obtain rfl : fr = [] := List.eq_nil_of_length_eq_zero (by omega)
    obtain rfl : s1 = [] := List.eq_nil_of_length_eq_zero (by simp at hn; omega)
    exact TF.fin hp (k _ h)
  | n + 1, fr, s1, σ, K, hn, h, hp, k => by
    obtain ⟨h1, h2, h3⟩ := h
    refine TF.br ?_ h1 ⟨?_, ?_⟩
    · cases fr with
      | cons f r => rfl
      | nil => cases s1 with
        | cons i r => rfl
        | nil => simp at hn
    · cases s1 with
      | nil => trivial
      | cons i r => exact Br.mono h2 fun σ' h' => TFK.tf n (by simp at hn; omega) h' hp k
    · have : ∀ r : List Nat, (∀ f ∈ r, f ∈ fr) → AllL (fun f => Br E ops fp f σ (fun σ' => TFK E ops fp n (fr.erase f) s1 σ' K)) r → BrFr E ops fp ds fr s1 s2 σ Q r := by
        intro r
        induction r with
        | nil => intro _ _; trivial
        | cons f r ih =>
          intro hm ha
          refine ⟨Br.mono ha.1 fun σ' h' => TFK.tf n ?_ h' hp k, ih (fun g hg => hm g (List.mem_cons_of_mem _ hg)) ha.2⟩
          have hf := hm f (List.mem_cons_self ..)
          rw [List.length_erase_of_mem hf]
          have := List.length_pos_of_mem hf
          omega
      exact this fr (fun _ h => h) h3
/-- Every order is walked, each ends in a state that one family tells; from there on it goes once. -/
theorem TF.join {X : Type} (inv : X → Prop) (I : X → St) (hp : plainS s2 = true) (h : TFK E ops fp (fr.length + s1.length) fr s1 σ (fun σ' => ∃ x, inv x ∧ WkB σ' (I x))) (k : ∀ x, inv x → TS E ops fp ds false s2 (I x) Q) : TF E ops fp ds fr s1 s2 σ Q :=
  TFK.tf _ rfl h hp fun σ' ⟨x, hx, hw⟩ => TS.weak hw (k x hx)
theorem TFK.weak : ∀ (n : Nat) {fr s1 : List Nat} {σ σ' : St} {K : St → Prop}, (∀ τ τ', WkB τ τ' → K τ' → K τ) → WkB σ σ' → (n = 0 → K σ') → n = 0 → TFK E ops fp n fr s1 σ K
  | 0, _, _, σ, σ', K, hK, hw, h, _ => hK _ _ hw (h rfl)
  | n + 1, _, _, _, _, _, _, _, _, h => by cases h
theorem TFK.st {n : Nat} {fr s1 : List Nat} {σ : St} {K : St → Prop} (h1 : aliveB σ fp = true) (h2 : HeadL (fun i r => Br E ops fp i σ (fun σ' => TFK E ops fp n fr r σ' K)) s1) (h3 : AllL (fun f => Br E ops fp f σ (fun σ' => TFK E ops fp n (fr.erase f) s1 σ' K)) fr) : TFK E ops fp (n + 1) fr s1 σ K := ⟨h1, h2, h3⟩
theorem TFK.fi {fr s1 : List Nat} {σ : St} {K : St → Prop} (h : K σ) : TFK E ops fp 0 fr s1 σ K := h
theorem HeadL.c {P : Nat → List Nat → Prop} {i : Nat} {r : List Nat} (h : P i r) : HeadL P (i :: r) := h
theorem HeadL.n {P : Nat → List Nat → Prop} : HeadL P [] := trivial
theorem AllL.c {P : Nat → Prop} {i : Nat} {r : List Nat} (h : P i) (k : AllL P r) : AllL P (i :: r) := ⟨h, k⟩
theorem AllL.n {P : Nat → Prop} : AllL P [] := trivial
theorem WkB.to {σ : St} {n : Nat} {l : List (Nat × AV)} {bl : List (BId × Box)} {al : List (Tag × Arr)} (hn : σ.n = n) (h1 : agT σ.tmps l) (h2 : agB σ.boxes bl) (h3 : agA σ.arrs al) : WkB σ (stt n l bl al) :=
  WkB.to' hn (agT_ok h1) (agB_ok h2) (agA_ok h3)
theorem Step.weakB {o : Oper} {fp : BId → Bool} {R R' : St → Prop} (h : Step E o σ fp R) (k : ∀ σ', R σ' → ∃ σ'', WkB σ' σ'' ∧ R' σ'') : Step E o σ fp R' := by
  intro G a w hr K Qx hK
  refine h G a w hr K Qx fun G' σ' a' w' h1 h2 h3 h4 => ?_
  obtain ⟨σ'', hw, hR⟩ := k σ' h4
  obtain ⟨G2, k1, k2, k3⟩ := hw G' a' w' h1
  exact hK G2 σ'' a' w' k1 (h2.trans k2) (fun i x hi hx => by rw [k3]; exact h3 i x hi hx) hR
end
section
variable {E : Env} {ops : Array Oper} {o : Oper} {n : Nat} {l l' : SL} {bl bl' : BL} {al al' : AL} {d i : Nat} {fp : List BId} {K : St → Prop}
theorem Br.k2 {c : Call} {f : FuncId} {args : List AV} {b : BId} {bx : Box} {R : AV → Box → Prop} (hi : ops[i]? = some o) (hop : o.op = .call c) (hdst : o.dst = some d) (hg : gOk ops (stt n l bl al) o.guard = some true) (hc : calleeOf (stt n l bl al) c = some (f, .ptr b 0 :: args)) (hd : Nat.ble (d + 1) n = true) (hb : bm bl b = some bx)
    (hpl : (AV.plains args && AV.plains bx.cs && !inL fp b) = true) (hf : FnK E f bx args R) (hnf : nfT (purL (isTmp d) l) (purB (isTmp d) bl) (purA (isTmp d) al) = some (l', bl', al'))
    (h : ∀ r bx', R r bx' → K (stt n ((d, r) :: l') ((b, bx') :: bl') al')) : Br E ops fp i (stt n l bl al) K := by
  simp only [Bool.and_eq_true, Bool.not_eq_true'] at hpl
  obtain ⟨rfl, rfl, rfl⟩ := nfT_eq hnf
  refine ⟨o, fun σ' => ∃ r bx', R r bx' ∧ σ' = stt n ((d, r) :: purL (isTmp d) l) ((b, bx') :: purB (isTmp d) bl) (purA (isTmp d) al), hi, hg, Step.weakB (Step.call [b] [] d hop hc (by rw [hdst]; exact hd) ?_ (Fn.box hb hpl.1.1 hpl.1.2 hf)) ?_, ?_⟩
  · have : (stt n l bl al).boxes b = some bx := hb
    simp [nodup, idx, aliveB, this, noTmp, apartB, hpl.2]
  · rintro σ' ⟨r, B', A', ⟨bx', h1, h2, h3, h4⟩, rfl⟩
    rw [hdst, AV.down_plain r h2]
    exact ⟨_, recv_box h1 h3, r, bx', h4, rfl⟩
  · rintro σ' ⟨r, bx', h4, rfl⟩
    exact h r bx' h4
end
end Go.Proofs.YthmbdoegcpicbaaDoor.Abs

/-! ## AbsF3 -/
namespace Go.Proofs.YthmbdoegcpicbaaDoor.Abs
/-- What stands behind k statements. -/
def tailO : Nat → Option Code → Option Code
  | 0, some c => some c
  | n + 1, some (.seq _ y) => tailO n (some y)
  | _, _ => none
/-- From behind k statements on, the function's code ends as Q says. -/
def SegT (E : Env) (fn : Func) (k : Nat) (σ : St) (Q : Qs) : Prop := ∀ c, tailO k fn.body = some c → Tri E c σ Q
theorem SegT.mk {E : Env} {fn : Func} {k : Nat} {σ : St} {Q : Qs} {c : Code} (h : tailO k fn.body = some c) (t : Tri E c σ Q) : SegT E fn k σ Q := fun c' h' => by
  rw [h] at h'
  cases h'
  exact t
/-- A contract's end. -/
abbrev QV (E : Env) (fn : Func) (r : AV) : Qs := retQ E.Γ fn.results.toList fun r' _ _ => r' = r
end Go.Proofs.YthmbdoegcpicbaaDoor.Abs

/-! ## Env -/
namespace Go.Proofs.YthmbdoegcpicbaaDoor.Abs
open Go.Proofs
def ti3 : TI := { desc := .int .i64, zero := .int .i64 0, size := 1, bytes := 8 }
theorem ok3 : TyOk Tryd.prog 3 ti3 := ⟨Tryd.underlying3, by kernel_rfl⟩
def ti4 : TI := { desc := .bool, zero := .bool false, size := 1, bytes := 1 }
theorem ok4 : TyOk Tryd.prog 4 ti4 := ⟨Tryd.underlying4, by kernel_rfl⟩
def ti5 : TI := { desc := .int .u8, zero := .int .u8 0, size := 1, bytes := 1 }
theorem ok5 : TyOk Tryd.prog 5 ti5 := ⟨Tryd.underlying5, by kernel_rfl⟩
def ti9 : TI := { desc := .string, zero := .string ByteArray.empty, size := 1, bytes := 16 }
theorem ok9 : TyOk Tryd.prog 9 ti9 := ⟨Tryd.underlying9, by kernel_rfl⟩
def ti22 : TI := { desc := .slice 5, zero := .slice none 0 0, size := 1, bytes := 24 }
theorem ok22 : TyOk Tryd.prog 22 ti22 := ⟨Tryd.underlying22, by kernel_rfl⟩
def ti24 : TI := { desc := .slice 3, zero := .slice none 0 0, size := 1, bytes := 24 }
theorem ok24 : TyOk Tryd.prog 24 ti24 := ⟨Tryd.underlying24, by kernel_rfl⟩
def ti26 : TI := { desc := .struct #[{ name := "Wide", type := 3, offset := 0, embedded := false, tag := "", pkgPath := "", byteOffset := 0 }, { name := "High", type := 3, offset := 1, embedded := false, tag := "", pkgPath := "", byteOffset := 8 }, { name := "Across", type := 24, offset := 2, embedded := false, tag := "", pkgPath := "", byteOffset := 16 }, { name := "Upright", type := 24, offset := 3, embedded := false, tag := "", pkgPath := "", byteOffset := 40 }], zero := .agg #[.int .i64 0, .int .i64 0, .slice none 0 0, .slice none 0 0], size := 4, bytes := 64 }
theorem ok26 : TyOk Tryd.prog 26 ti26 := ⟨Tryd.underlying26, by kernel_rfl⟩
def ti45 : TI := { desc := .slice 26, zero := .slice none 0 0, size := 1, bytes := 24 }
theorem ok45 : TyOk Tryd.prog 45 ti45 := ⟨Tryd.underlying45, by kernel_rfl⟩
def ti46 : TI := { desc := .struct #[{ name := "Wide", type := 3, offset := 0, embedded := false, tag := "", pkgPath := "", byteOffset := 0 }, { name := "High", type := 3, offset := 1, embedded := false, tag := "", pkgPath := "", byteOffset := 8 }, { name := "Across", type := 24, offset := 2, embedded := false, tag := "", pkgPath := "", byteOffset := 16 }, { name := "Upright", type := 24, offset := 3, embedded := false, tag := "", pkgPath := "", byteOffset := 40 }], zero := .agg #[.int .i64 0, .int .i64 0, .slice none 0 0, .slice none 0 0], size := 4, bytes := 64 }
theorem ok46 : TyOk Tryd.prog 46 ti46 := ⟨Tryd.underlying46, by kernel_rfl⟩
def ti49 : TI := { desc := .struct #[{ name := "Figure", type := 26, offset := 0, embedded := false, tag := "", pkgPath := "", byteOffset := 0 }, { name := "Matches", type := 3, offset := 4, embedded := false, tag := "", pkgPath := "", byteOffset := 64 }, { name := "Moved", type := 4, offset := 5, embedded := false, tag := "", pkgPath := "", byteOffset := 72 }, { name := "Squares", type := 3, offset := 6, embedded := false, tag := "", pkgPath := "", byteOffset := 80 }], zero := .agg #[.int .i64 0, .int .i64 0, .slice none 0 0, .slice none 0 0, .int .i64 0, .bool false, .int .i64 0], size := 7, bytes := 88 }
theorem ok49 : TyOk Tryd.prog 49 ti49 := ⟨Tryd.underlying49, by kernel_rfl⟩
def ti57 : TI := { desc := .pointer 60, zero := .pointer none, size := 1, bytes := 8 }
theorem ok57 : TyOk Tryd.prog 57 ti57 := ⟨Tryd.underlying57, by kernel_rfl⟩
def ti58 : TI := { desc := .int .u64, zero := .int .u64 0, size := 1, bytes := 8 }
theorem ok58 : TyOk Tryd.prog 58 ti58 := ⟨Tryd.underlying58, by kernel_rfl⟩
def ti60 : TI := { desc := .struct #[{ name := "code", type := 22, offset := 0, embedded := false, tag := "", pkgPath := "loop.example/g01233/spec", byteOffset := 0 }, { name := "at", type := 3, offset := 1, embedded := false, tag := "", pkgPath := "loop.example/g01233/spec", byteOffset := 24 }, { name := "seed", type := 58, offset := 2, embedded := false, tag := "", pkgPath := "loop.example/g01233/spec", byteOffset := 32 }], zero := .agg #[.slice none 0 0, .int .i64 0, .int .u64 0], size := 3, bytes := 40 }
theorem ok60 : TyOk Tryd.prog 60 ti60 := ⟨Tryd.underlying60, by kernel_rfl⟩
def ti63 : TI := { desc := .struct #[{ name := "w", type := 3, offset := 0, embedded := false, tag := "", pkgPath := "loop.example/g01233/impl", byteOffset := 0 }, { name := "h", type := 3, offset := 1, embedded := false, tag := "", pkgPath := "loop.example/g01233/impl", byteOffset := 8 }], zero := .agg #[.int .i64 0, .int .i64 0], size := 2, bytes := 16 }
theorem ok63 : TyOk Tryd.prog 63 ti63 := ⟨Tryd.underlying63, by kernel_rfl⟩
def ti66 : TI := { desc := .int .u64, zero := .int .u64 0, size := 1, bytes := 8 }
theorem ok66 : TyOk Tryd.prog 66 ti66 := ⟨Tryd.underlying66, by kernel_rfl⟩
def ti102 : TI := { desc := .slice 9, zero := .slice none 0 0, size := 1, bytes := 24 }
theorem ok102 : TyOk Tryd.prog 102 ti102 := ⟨Tryd.underlying102, by kernel_rfl⟩
def ti110 : TI := { desc := .int .u64, zero := .int .u64 0, size := 1, bytes := 8 }
theorem ok110 : TyOk Tryd.prog 110 ti110 := ⟨Tryd.underlying110, by kernel_rfl⟩
def ti123 : TI := { desc := .slice 135, zero := .slice none 0 0, size := 1, bytes := 24 }
theorem ok123 : TyOk Tryd.prog 123 ti123 := ⟨Tryd.underlying123, by kernel_rfl⟩
def ti128 : TI := { desc := .struct #[{ name := "f", type := 26, offset := 0, embedded := false, tag := "", pkgPath := "loop.example/g01233/impl", byteOffset := 0 }, { name := "matches", type := 3, offset := 4, embedded := false, tag := "", pkgPath := "loop.example/g01233/impl", byteOffset := 64 }, { name := "moved", type := 4, offset := 5, embedded := false, tag := "", pkgPath := "loop.example/g01233/impl", byteOffset := 72 }], zero := .agg #[.int .i64 0, .int .i64 0, .slice none 0 0, .slice none 0 0, .int .i64 0, .bool false], size := 6, bytes := 80 }
theorem ok128 : TyOk Tryd.prog 128 ti128 := ⟨Tryd.underlying128, by kernel_rfl⟩
def ti131 : TI := { desc := .array 64 5, zero := .agg #[.int .u8 0, .int .u8 0, .int .u8 0, .int .u8 0, .int .u8 0, .int .u8 0, .int .u8 0, .int .u8 0, .int .u8 0, .int .u8 0, .int .u8 0, .int .u8 0, .int .u8 0, .int .u8 0, .int .u8 0, .int .u8 0, .int .u8 0, .int .u8 0, .int .u8 0, .int .u8 0, .int .u8 0, .int .u8 0, .int .u8 0, .int .u8 0, .int .u8 0, .int .u8 0, .int .u8 0, .int .u8 0, .int .u8 0, .int .u8 0, .int .u8 0, .int .u8 0, .int .u8 0, .int .u8 0, .int .u8 0, .int .u8 0, .int .u8 0, .int .u8 0, .int .u8 0, .int .u8 0, .int .u8 0, .int .u8 0, .int .u8 0, .int .u8 0, .int .u8 0, .int .u8 0, .int .u8 0, .int .u8 0, .int .u8 0, .int .u8 0, .int .u8 0, .int .u8 0, .int .u8 0, .int .u8 0, .int .u8 0, .int .u8 0, .int .u8 0, .int .u8 0, .int .u8 0, .int .u8 0, .int .u8 0, .int .u8 0, .int .u8 0, .int .u8 0], size := 64, bytes := 64 }
theorem ok131 : TyOk Tryd.prog 131 ti131 := ⟨Tryd.underlying131, by kernel_rfl⟩
def ti135 : TI := { desc := .struct #[{ name := "x", type := 3, offset := 0, embedded := false, tag := "", pkgPath := "loop.example/g01233/spec", byteOffset := 0 }, { name := "y", type := 3, offset := 1, embedded := false, tag := "", pkgPath := "loop.example/g01233/spec", byteOffset := 8 }, { name := "size", type := 3, offset := 2, embedded := false, tag := "", pkgPath := "loop.example/g01233/spec", byteOffset := 16 }, { name := "mask", type := 3, offset := 3, embedded := false, tag := "", pkgPath := "loop.example/g01233/spec", byteOffset := 24 }], zero := .agg #[.int .i64 0, .int .i64 0, .int .i64 0, .int .i64 0], size := 4, bytes := 32 }
theorem ok135 : TyOk Tryd.prog 135 ti135 := ⟨Tryd.underlying135, by kernel_rfl⟩
def ti138 : TI := { desc := .pointer 24, zero := .pointer none, size := 1, bytes := 8 }
theorem ok138 : TyOk Tryd.prog 138 ti138 := ⟨Tryd.underlying138, by kernel_rfl⟩
def ti140 : TI := { desc := .slice 66, zero := .slice none 0 0, size := 1, bytes := 24 }
theorem ok140 : TyOk Tryd.prog 140 ti140 := ⟨Tryd.underlying140, by kernel_rfl⟩
def ti146 : TI := { desc := .slice 153, zero := .slice none 0 0, size := 1, bytes := 24 }
theorem ok146 : TyOk Tryd.prog 146 ti146 := ⟨Tryd.underlying146, by kernel_rfl⟩
def ti153 : TI := { desc := .struct #[{ name := "x", type := 3, offset := 0, embedded := false, tag := "", pkgPath := "loop.example/g01233/impl", byteOffset := 0 }, { name := "y", type := 3, offset := 1, embedded := false, tag := "", pkgPath := "loop.example/g01233/impl", byteOffset := 8 }, { name := "size", type := 3, offset := 2, embedded := false, tag := "", pkgPath := "loop.example/g01233/impl", byteOffset := 16 }, { name := "edges", type := 66, offset := 3, embedded := false, tag := "", pkgPath := "loop.example/g01233/impl", byteOffset := 24 }], zero := .agg #[.int .i64 0, .int .i64 0, .int .i64 0, .int .u64 0], size := 4, bytes := 32 }
theorem ok153 : TyOk Tryd.prog 153 ti153 := ⟨Tryd.underlying153, by kernel_rfl⟩
def Γ (t : TypeId) : Option TI := look [(3, ti3), (4, ti4), (5, ti5), (9, ti9), (22, ti22), (24, ti24), (26, ti26), (45, ti45), (46, ti46), (49, ti49), (57, ti57), (58, ti58), (60, ti60), (63, ti63), (66, ti66), (102, ti102), (110, ti110), (123, ti123), (128, ti128), (131, ti131), (135, ti135), (138, ti138), (140, ti140), (146, ti146), (153, ti153)] t
theorem Γok : ∀ t i, Γ t = some i → TyOk Tryd.prog t i := look_ok (.cons ok3 (.cons ok4 (.cons ok5 (.cons ok9 (.cons ok22 (.cons ok24 (.cons ok26 (.cons ok45 (.cons ok46 (.cons ok49 (.cons ok57 (.cons ok58 (.cons ok60 (.cons ok63 (.cons ok66 (.cons ok102 (.cons ok110 (.cons ok123 (.cons ok128 (.cons ok131 (.cons ok135 (.cons ok138 (.cons ok140 (.cons ok146 (.cons ok153 .nil)))))))))))))))))))))))))
theorem mixed : Tryd.prog.follows .mixedOrders = true := by kernel_rfl
noncomputable def env : Env := { P := Tryd.prog, Γ := Γ, ok := Γok, mixed := mixed }
end Go.Proofs.YthmbdoegcpicbaaDoor.Abs

/-! ## C0 -/
namespace Go.Proofs.YthmbdoegcpicbaaDoor.Abs
open Go.Proofs
set_option maxHeartbeats 1000000 in
theorem tz64_core (x k idx : Nat) (w : World) (hx0 : ((x : Int) == 0) = false)
    (key : IntKind.u64.wrap (bits BinOp.and IntKind.u64 (x : Int) (IntKind.u64.wrap (-(x : Int))) * 285870213051353865) / 288230376151711744 = (idx : Int))
    (hi : idx < 64) (hk : k < 64) (hcell : w.cell? ⟨0, idx, none⟩ = some (.int .u8 k)) :
    Calls Tryd.prog 125 #[.int .u64 x] w fun e w' => e = .returned (.int .i64 k) ∧ w' = w := by
  go_enter Tryd.func125, Tryd.ntmps125
  go_wp2_with (simp only [key])
  go_ret
  exact ⟨rfl, rfl⟩
theorem tz64_zero (w : World) : Calls Tryd.prog 125 #[.int .u64 0] w fun e w' => e = .returned (.int .i64 64) ∧ w' = w := by
  go_enter Tryd.func125, Tryd.ntmps125
  go_wp2
  go_ret
  exact ⟨rfl, rfl⟩
theorem tz64_call (us : Array Value) (w : World) : (callFunc 125 us).run Tryd.prog w = .ok (.enter 125 us) w := by
  have hne : ¬ (Tryd.f125).name = "runtime.NumGoroutine" := by
    have : ((Tryd.f125).name == "runtime.NumGoroutine") = false := by kernel_rfl
    simpa using this
  have hb : (Tryd.f125).body.isSome = true := by kernel_rfl
  obtain ⟨c, hc⟩ := Option.isSome_iff_exists.1 hb
  simp only [callFunc, Sem.run_bind, Tryd.func125]
  simp [hne, hc, Tryd.func125]
theorem tz64_all (x : Nat) (hx : x < 18446744073709551616) (w : World) (hT : TabAt 0 Lib.deBruijn64tab w) : Calls Tryd.prog 125 #[.int .u64 x] w fun e w' => e = .returned (.int .i64 (Lib.ctz 64 x)) ∧ w' = w := by
  by_cases hx0 : x = 0
  · subst hx0
    exact tz64_zero w
  · obtain ⟨hlow, hk⟩ := Lib.lowest_bit 64 x hx0 hx
    obtain ⟨hi, htab⟩ := Lib.deBruijn64_at _ hk
    have hcell := hT _ hi
    rw [htab] at hcell
    exact tz64_core x _ _ w (by simp; omega) (tz64_key x _ hx hx0 hlow) hi hk hcell
theorem tabAt_of {G : Gh} {bx : BId → Option Box} {ar : Tag → Option Arr} {w : World} (hs : Sat G bx ar w) : TabAt 0 Lib.deBruijn64tab w := by
  intro j hj
  obtain ⟨xs, E', c, h1, h2⟩ := hs.gl (0, Lib.deBruijn64tab.map fun (n : Nat) => Value.int .u8 (n : Int)) (List.mem_cons_self ..)
  have h3 := hs.im _ _ (.inl h1)
  have h4 := h2 j (.int .u8 (Lib.deBruijn64tab.getD j 0)) (by
    rw [List.getElem?_map, List.getD_eq_getElem?_getD, List.getElem?_eq_getElem hj]
    rfl)
  simp only [World.cell?, h3]
  simpa using h4
theorem tz64_fn (x : Nat) (hx : x < 18446744073709551616) : FnV env 125 [.d (.int .u64 x)] (.d (.int .i64 (Lib.ctz 64 x))) := by
  refine ⟨tz64_call, fun G w vals hs hv => ?_⟩
  cases hv with | cons h t =>
  cases t
  obtain rfl := h.intv
  refine (tz64_all x hx w (tabAt_of hs)).mono ?_
  rintro e w' ⟨rfl, rfl⟩
  exact ⟨_, _, G, _, _, rfl, hs, .d (.int _ _), Later.refl G _, rfl⟩
end Go.Proofs.YthmbdoegcpicbaaDoor.Abs

/-! ## C1 -/
namespace Go.Proofs.YthmbdoegcpicbaaDoor.Abs
open Go.Proofs
def fig (w h : Int) (a u : List Int) : AV := .agg [.d (.int .i64 w), .d (.int .i64 h), .d (.ints .i64 a), .d (.ints .i64 u)]
def grd (w h : Int) : AV := .agg [.d (.int .i64 w), .d (.int .i64 h)]
def inB (lo hi n : Int) : Bool := decide (lo ≤ n) && decide (n ≤ hi)
theorem within_fn (n lo hi : Int) : FnV env 98 [.d (.int .i64 n), .d (.int .i64 lo), .d (.int .i64 hi)] (.d (.bool (inB lo hi n))) := by
  refine Fn.vs (E := env) 15 Tryd.func98 rfl (by kernel_rfl) rfl rfl ?_
  (repeat' (first | refine TriOps.v1 rfl rfl rfl rfl True.intro ?_ | refine TriOps.nil ?_ | refine Tri.region ?_ | refine Tri.seq ?_ | refine Tri.block ?_ | refine Tri.skip ?_ | refine Tri.exit ?_ | refine TriOps.s1 rfl rfl rfl ?_ | refine TriOps.b1 rfl rfl rfl rfl rfl rfl ?_ | refine TriOps.a1 rfl rfl rfl rfl rfl rfl rfl ?_ | refine TriOps.w1 rfl rfl rfl rfl rfl rfl rfl rfl rfl ?_ | fail))
  refine TriOps.g1 rfl rfl rfl (fun hg => ?_) (fun hg => ?_) <;> rw [inB, hg]
  · (repeat' (first | refine TriOps.v1 rfl rfl rfl rfl True.intro ?_ | refine TriOps.nil ?_ | refine Tri.region ?_ | refine Tri.seq ?_ | refine Tri.block ?_ | refine Tri.skip ?_ | refine Tri.exit ?_ | refine TriOps.s1 rfl rfl rfl ?_ | refine TriOps.b1 rfl rfl rfl rfl rfl rfl ?_ | refine TriOps.a1 rfl rfl rfl rfl rfl rfl rfl ?_ | refine TriOps.w1 rfl rfl rfl rfl rfl rfl rfl rfl rfl ?_ | fail))
    refine Tri.ret (retV rfl rfl)
  · (repeat' (first | refine TriOps.v1 rfl rfl rfl rfl True.intro ?_ | refine TriOps.nil ?_ | refine Tri.region ?_ | refine Tri.seq ?_ | refine Tri.block ?_ | refine Tri.skip ?_ | refine Tri.exit ?_ | refine TriOps.s1 rfl rfl rfl ?_ | refine TriOps.b1 rfl rfl rfl rfl rfl rfl ?_ | refine TriOps.a1 rfl rfl rfl rfl rfl rfl rfl ?_ | refine TriOps.w1 rfl rfl rfl rfl rfl rfl rfl rfl rfl ?_ | fail))
    refine Tri.ret (retV rfl rfl)
def isGrid (w h : Int) : Bool := inB 1 4 w && inB 1 4 h
theorem isGrid_fn (w h : Int) : FnV env 62 [.d (.int .i64 w), .d (.int .i64 h)] (.d (.bool (isGrid w h))) := by
  refine Fn.vs (E := env) 11 Tryd.func62 rfl (by kernel_rfl) rfl rfl ?_
  (repeat' (first | refine TriOps.v1 rfl rfl rfl rfl True.intro ?_ | refine TriOps.nil ?_ | refine Tri.region ?_ | refine Tri.seq ?_ | refine Tri.block ?_ | refine Tri.skip ?_ | refine Tri.exit ?_ | refine TriOps.s1 rfl rfl rfl ?_ | refine TriOps.b1 rfl rfl rfl rfl rfl rfl ?_ | refine TriOps.a1 rfl rfl rfl rfl rfl rfl rfl ?_ | refine TriOps.w1 rfl rfl rfl rfl rfl rfl rfl rfl rfl ?_ | fail))
  refine TriOps.c1 rfl rfl rfl rfl rfl (within_fn _ _ _) rfl ?_
  (repeat' (first | refine TriOps.v1 rfl rfl rfl rfl True.intro ?_ | refine TriOps.nil ?_ | refine Tri.region ?_ | refine Tri.seq ?_ | refine Tri.block ?_ | refine Tri.skip ?_ | refine Tri.exit ?_ | refine TriOps.s1 rfl rfl rfl ?_ | refine TriOps.b1 rfl rfl rfl rfl rfl rfl ?_ | refine TriOps.a1 rfl rfl rfl rfl rfl rfl rfl ?_ | refine TriOps.w1 rfl rfl rfl rfl rfl rfl rfl rfl rfl ?_ | fail))
  refine TriOps.g1 rfl rfl rfl (fun hg => ?_) (fun hg => ?_) <;> rw [isGrid, hg]
  · (repeat' (first | refine TriOps.v1 rfl rfl rfl rfl True.intro ?_ | refine TriOps.nil ?_ | refine Tri.region ?_ | refine Tri.seq ?_ | refine Tri.block ?_ | refine Tri.skip ?_ | refine Tri.exit ?_ | refine TriOps.s1 rfl rfl rfl ?_ | refine TriOps.b1 rfl rfl rfl rfl rfl rfl ?_ | refine TriOps.a1 rfl rfl rfl rfl rfl rfl rfl ?_ | refine TriOps.w1 rfl rfl rfl rfl rfl rfl rfl rfl rfl ?_ | fail))
    refine TriOps.c1 rfl rfl rfl rfl rfl (within_fn _ _ _) rfl ?_
    (repeat' (first | refine TriOps.v1 rfl rfl rfl rfl True.intro ?_ | refine TriOps.nil ?_ | refine Tri.region ?_ | refine Tri.seq ?_ | refine Tri.block ?_ | refine Tri.skip ?_ | refine Tri.exit ?_ | refine TriOps.s1 rfl rfl rfl ?_ | refine TriOps.b1 rfl rfl rfl rfl rfl rfl ?_ | refine TriOps.a1 rfl rfl rfl rfl rfl rfl rfl ?_ | refine TriOps.w1 rfl rfl rfl rfl rfl rfl rfl rfl rfl ?_ | fail))
    refine Tri.ret (retV rfl rfl)
  · (repeat' (first | refine TriOps.v1 rfl rfl rfl rfl True.intro ?_ | refine TriOps.nil ?_ | refine Tri.region ?_ | refine Tri.seq ?_ | refine Tri.block ?_ | refine Tri.skip ?_ | refine Tri.exit ?_ | refine TriOps.s1 rfl rfl rfl ?_ | refine TriOps.b1 rfl rfl rfl rfl rfl rfl ?_ | refine TriOps.a1 rfl rfl rfl rfl rfl rfl rfl ?_ | refine TriOps.w1 rfl rfl rfl rfl rfl rfl rfl rfl rfl ?_ | fail))
    refine Tri.ret (retV rfl rfl)
theorem levels_fn (w h : Int) (hw : 0 ≤ w ∧ w ≤ 1000) (hh : 0 ≤ h ∧ h ≤ 1000) : FnV env 65 [grd w h] (.d (.int .i64 (w * (h + 1)))) := by
  refine Fn.vs (E := env) 9 Tryd.func65 rfl (by kernel_rfl) rfl rfl ?_
  (repeat' (first | refine TriOps.v1 rfl rfl rfl rfl True.intro ?_ | refine TriOps.nil ?_ | refine Tri.region ?_ | refine Tri.seq ?_ | refine Tri.block ?_ | refine Tri.skip ?_ | refine Tri.exit ?_ | refine TriOps.s1 rfl rfl rfl ?_ | refine TriOps.b1 rfl rfl rfl rfl rfl rfl ?_ | refine TriOps.a1 rfl rfl rfl rfl rfl rfl rfl ?_ | refine TriOps.w1 rfl rfl rfl rfl rfl rfl rfl rfl rfl ?_ | fail))
  refine TriOps.v1 rfl rfl rfl rfl (by first | exact True.intro | exact inR_i64 (by omega) (by omega) | omega | (refine ⟨?_, ?_⟩ <;> omega)) ?_
  have h1 : 0 ≤ w * (h + 1) := Int.mul_nonneg hw.1 (by omega)
  have h2 : w * (h + 1) ≤ 1000 * 1001 := Int.mul_le_mul hw.2 (by omega) (by omega) (by omega)
  refine TriOps.v1 rfl rfl rfl rfl (by first | exact True.intro | exact inR_i64 (by omega) (by omega) | omega | (refine ⟨?_, ?_⟩ <;> omega)) ?_
  (repeat' (first | refine TriOps.v1 rfl rfl rfl rfl True.intro ?_ | refine TriOps.nil ?_ | refine Tri.region ?_ | refine Tri.seq ?_ | refine Tri.block ?_ | refine Tri.skip ?_ | refine Tri.exit ?_ | refine TriOps.s1 rfl rfl rfl ?_ | refine TriOps.b1 rfl rfl rfl rfl rfl rfl ?_ | refine TriOps.a1 rfl rfl rfl rfl rfl rfl rfl ?_ | refine TriOps.w1 rfl rfl rfl rfl rfl rfl rfl rfl rfl ?_ | fail))
  refine Tri.ret (retV rfl rfl)
theorem uprights_fn (w h : Int) (hw : 0 ≤ w ∧ w ≤ 1000) (hh : 0 ≤ h ∧ h ≤ 1000) : FnV env 66 [grd w h] (.d (.int .i64 (h * (w + 1)))) := by
  refine Fn.vs (E := env) 9 Tryd.func66 rfl (by kernel_rfl) rfl rfl ?_
  (repeat' (first | refine TriOps.v1 rfl rfl rfl rfl True.intro ?_ | refine TriOps.nil ?_ | refine Tri.region ?_ | refine Tri.seq ?_ | refine Tri.block ?_ | refine Tri.skip ?_ | refine Tri.exit ?_ | refine TriOps.s1 rfl rfl rfl ?_ | refine TriOps.b1 rfl rfl rfl rfl rfl rfl ?_ | refine TriOps.a1 rfl rfl rfl rfl rfl rfl rfl ?_ | refine TriOps.w1 rfl rfl rfl rfl rfl rfl rfl rfl rfl ?_ | fail))
  refine TriOps.v1 rfl rfl rfl rfl (by first | exact True.intro | exact inR_i64 (by omega) (by omega) | omega | (refine ⟨?_, ?_⟩ <;> omega)) ?_
  have h1 : 0 ≤ h * (w + 1) := Int.mul_nonneg hh.1 (by omega)
  have h2 : h * (w + 1) ≤ 1000 * 1001 := Int.mul_le_mul hh.2 (by omega) (by omega) (by omega)
  refine TriOps.v1 rfl rfl rfl rfl (by first | exact True.intro | exact inR_i64 (by omega) (by omega) | omega | (refine ⟨?_, ?_⟩ <;> omega)) ?_
  (repeat' (first | refine TriOps.v1 rfl rfl rfl rfl True.intro ?_ | refine TriOps.nil ?_ | refine Tri.region ?_ | refine Tri.seq ?_ | refine Tri.block ?_ | refine Tri.skip ?_ | refine Tri.exit ?_ | refine TriOps.s1 rfl rfl rfl ?_ | refine TriOps.b1 rfl rfl rfl rfl rfl rfl ?_ | refine TriOps.a1 rfl rfl rfl rfl rfl rfl rfl ?_ | refine TriOps.w1 rfl rfl rfl rfl rfl rfl rfl rfl rfl ?_ | fail))
  refine Tri.ret (retV rfl rfl)
theorem grid_fn (w h : Int) (a u : List Int) : FnV env 50 [fig w h a u] (grd w h) := by
  refine Fn.vs (E := env) 8 Tryd.func50 rfl (by kernel_rfl) rfl rfl ?_
  (repeat' (first | refine TriOps.v1 rfl rfl rfl rfl True.intro ?_ | refine TriOps.nil ?_ | refine Tri.region ?_ | refine Tri.seq ?_ | refine Tri.block ?_ | refine Tri.skip ?_ | refine Tri.exit ?_ | refine TriOps.s1 rfl rfl rfl ?_ | refine TriOps.b1 rfl rfl rfl rfl rfl rfl ?_ | refine TriOps.a1 rfl rfl rfl rfl rfl rfl rfl ?_ | refine TriOps.w1 rfl rfl rfl rfl rfl rfl rfl rfl rfl ?_ | fail))
  refine Tri.ret (retV rfl rfl)
theorem areWithin1_fn (n lo hi : Int) : FnV env 100 [.d (.int .i64 n), .dptr [.int .i64 lo], .dptr [.int .i64 hi]] (.d (.bool (!inB lo hi n))) := by
  refine Fn.vs (E := env) 10 Tryd.func100 rfl (by kernel_rfl) rfl rfl ?_
  (repeat' (first | refine TriOps.v1 rfl rfl rfl rfl True.intro ?_ | refine TriOps.nil ?_ | refine Tri.region ?_ | refine Tri.seq ?_ | refine Tri.block ?_ | refine Tri.skip ?_ | refine Tri.exit ?_ | refine TriOps.s1 rfl rfl rfl ?_ | refine TriOps.b1 rfl rfl rfl rfl rfl rfl ?_ | refine TriOps.a1 rfl rfl rfl rfl rfl rfl rfl ?_ | refine TriOps.w1 rfl rfl rfl rfl rfl rfl rfl rfl rfl ?_ | fail))
  refine TriOps.c1 rfl rfl rfl rfl rfl (within_fn _ _ _) rfl ?_
  (repeat' (first | refine TriOps.v1 rfl rfl rfl rfl True.intro ?_ | refine TriOps.nil ?_ | refine Tri.region ?_ | refine Tri.seq ?_ | refine Tri.block ?_ | refine Tri.skip ?_ | refine Tri.exit ?_ | refine TriOps.s1 rfl rfl rfl ?_ | refine TriOps.b1 rfl rfl rfl rfl rfl rfl ?_ | refine TriOps.a1 rfl rfl rfl rfl rfl rfl rfl ?_ | refine TriOps.w1 rfl rfl rfl rfl rfl rfl rfl rfl rfl ?_ | fail))
  refine Tri.ret (retV rfl rfl)
end Go.Proofs.YthmbdoegcpicbaaDoor.Abs

/-! ## C2 -/
namespace Go.Proofs.YthmbdoegcpicbaaDoor.Abs
open Go.Proofs
/-! ### rising -/
def rising : List Int → Bool
  | [] => true
  | [_] => true
  | a :: b :: r => decide (a < b) && rising (b :: r)
theorem rising_iff : ∀ l : List Int, rising l = true ↔ ∀ j : Nat, j + 1 < l.length → l.getD j 0 < l.getD (j + 1) 0
  | [] => by simp [rising]
  | [a] => by simp [rising]
  | a :: b :: r => by
    simp only [rising, Bool.and_eq_true, decide_eq_true_eq, rising_iff (b :: r)]
    constructor
    · rintro ⟨h1, h2⟩ j hj
      cases j with
      | zero => simpa using h1
      | succ j => have := h2 j (by simpa using hj); simpa using this
    · intro h
      refine ⟨by simpa using h 0 (by simp), fun j hj => ?_⟩
      have := h (j + 1) (by simpa using hj)
      simpa using this
theorem isRising_fn (l : List Int) : FnV env 63 [.d (.ints .i64 l)] (.d (.bool (rising l))) := by
  refine Fn.vs (E := env) 20 Tryd.func63 rfl (by kernel_rfl) rfl rfl ?_
  refine Tri.bnd 0 (fun hl => ?_)
  have hl : l.length ≤ 9223372036854775807 := hl
  (repeat' (first | refine TriOps.v1 rfl rfl rfl rfl True.intro ?_ | refine TriOps.nil ?_ | refine Tri.region ?_ | refine Tri.seq ?_ | refine Tri.block ?_ | refine Tri.skip ?_ | refine Tri.exit ?_ | refine TriOps.s1 rfl rfl rfl ?_ | refine TriOps.b1 rfl rfl rfl rfl rfl rfl ?_ | refine TriOps.a1 rfl rfl rfl rfl rfl rfl rfl ?_ | refine TriOps.w1 rfl rfl rfl rfl rfl rfl rfl rfl rfl ?_ | fail))
  refine Tri.loopI (fun i : Nat => (1 ≤ i ∧ (i ≤ 1 ∨ i ≤ l.length)) ∧ ∀ j, j + 1 < i → l.getD j 0 < l.getD (j + 1) 0) (fun i => stt 20 [(0, .d (.ints .i64 l)), (2, .d (.bool false)), (3, .d (.int .i64 i))]) (fun i => l.length + 1 - i) 1 ⟨by omega, fun j hj => by omega⟩ (Wk.to rfl ⟨rfl, rfl, rfl, trivial⟩ trivial trivial) ?_
  rintro i ⟨h1, h3⟩
  (repeat' (first | refine TriOps.v1 rfl rfl rfl rfl True.intro ?_ | refine TriOps.nil ?_ | refine Tri.region ?_ | refine Tri.seq ?_ | refine Tri.block ?_ | refine Tri.skip ?_ | refine Tri.exit ?_ | refine TriOps.s1 rfl rfl rfl ?_ | refine TriOps.b1 rfl rfl rfl rfl rfl rfl ?_ | refine TriOps.a1 rfl rfl rfl rfl rfl rfl rfl ?_ | refine TriOps.w1 rfl rfl rfl rfl rfl rfl rfl rfl rfl ?_ | fail))
  refine Tri.cond rfl (fun hc => ?_) (fun hc => ?_)
  · have hc : (i : Int) < l.length := of_decide_eq_true hc
    (repeat' (first | refine TriOps.v1 rfl rfl rfl rfl True.intro ?_ | refine TriOps.nil ?_ | refine Tri.region ?_ | refine Tri.seq ?_ | refine Tri.block ?_ | refine Tri.skip ?_ | refine Tri.exit ?_ | refine TriOps.s1 rfl rfl rfl ?_ | refine TriOps.b1 rfl rfl rfl rfl rfl rfl ?_ | refine TriOps.a1 rfl rfl rfl rfl rfl rfl rfl ?_ | refine TriOps.w1 rfl rfl rfl rfl rfl rfl rfl rfl rfl ?_ | fail))
    refine Tri.dz [] [(0, 0), (1, 0), (2, 0), (3, 1), (4, 0), (5, 0), (6, 0), (7, 0), (8, 1), (9, 0)] (by kernel_rfl) rfl ?_
    (repeat' (first | refine TS.v1 rfl (fun _ _ h => h) rfl rfl rfl rfl rfl True.intro ?_ | refine TS.t1 rfl (fun _ _ h => h) rfl rfl rfl rfl rfl True.intro ?_ | refine TS.nil ?_ | refine TS.n0 rfl (fun _ _ h => h) rfl rfl rfl ?_ | refine TS.n1 rfl (fun _ _ h => h) rfl rfl rfl ?_ | refine TS.n2 rfl rfl rfl rfl ?_ | refine TS.w1 rfl rfl rfl rfl rfl rfl rfl rfl rfl rfl rfl rfl ?_ | fail))
    refine TS.v1 rfl (fun _ _ h => h) rfl rfl rfl rfl rfl ⟨by omega, by exact hc⟩ ?_
    (repeat' (first | refine TS.v1 rfl (fun _ _ h => h) rfl rfl rfl rfl rfl True.intro ?_ | refine TS.t1 rfl (fun _ _ h => h) rfl rfl rfl rfl rfl True.intro ?_ | refine TS.nil ?_ | refine TS.n0 rfl (fun _ _ h => h) rfl rfl rfl ?_ | refine TS.n1 rfl (fun _ _ h => h) rfl rfl rfl ?_ | refine TS.n2 rfl rfl rfl rfl ?_ | refine TS.w1 rfl rfl rfl rfl rfl rfl rfl rfl rfl rfl rfl rfl ?_ | fail))
    refine TS.v1 rfl (fun _ _ h => h) rfl rfl rfl rfl rfl (by first | exact True.intro | exact inR_i64 (by omega) (by omega) | omega | (refine ⟨?_, ?_⟩ <;> omega)) ?_
    refine TS.v1 rfl (fun _ _ h => h) rfl rfl rfl rfl rfl ⟨by omega, by show (i : Int) - 1 < l.length; omega⟩ ?_
    (repeat' (first | refine TS.v1 rfl (fun _ _ h => h) rfl rfl rfl rfl rfl True.intro ?_ | refine TS.t1 rfl (fun _ _ h => h) rfl rfl rfl rfl rfl True.intro ?_ | refine TS.nil ?_ | refine TS.n0 rfl (fun _ _ h => h) rfl rfl rfl ?_ | refine TS.n1 rfl (fun _ _ h => h) rfl rfl rfl ?_ | refine TS.n2 rfl rfl rfl rfl ?_ | refine TS.w1 rfl rfl rfl rfl rfl rfl rfl rfl rfl rfl rfl rfl ?_ | fail))
    refine Tri.cond rfl (fun hd => ?_) (fun hd => ?_)
    · have hd := of_decide_eq_true hd
      (repeat' (first | refine TriOps.v1 rfl rfl rfl rfl True.intro ?_ | refine TriOps.nil ?_ | refine Tri.region ?_ | refine Tri.seq ?_ | refine Tri.block ?_ | refine Tri.skip ?_ | refine Tri.exit ?_ | refine TriOps.s1 rfl rfl rfl ?_ | refine TriOps.b1 rfl rfl rfl rfl rfl rfl ?_ | refine TriOps.a1 rfl rfl rfl rfl rfl rfl rfl ?_ | refine TriOps.w1 rfl rfl rfl rfl rfl rfl rfl rfl rfl ?_ | fail))
      refine Tri.ret (retV rfl ?_)
      have : rising l = false := by
        cases hb : rising l
        · rfl
        · have h4 := (rising_iff l).1 hb (i - 1) (by omega)
          rw [show i - 1 + 1 = i by omega] at h4
          rw [show ((i : Int) - 1).toNat = i - 1 by omega] at hd
          simp only [Int.toNat_natCast] at hd
          omega
      rw [this]; rfl
    · have hd := of_decide_eq_false hd
      (repeat' (first | refine TriOps.v1 rfl rfl rfl rfl True.intro ?_ | refine TriOps.nil ?_ | refine Tri.region ?_ | refine Tri.seq ?_ | refine Tri.block ?_ | refine Tri.skip ?_ | refine Tri.exit ?_ | refine TriOps.s1 rfl rfl rfl ?_ | refine TriOps.b1 rfl rfl rfl rfl rfl rfl ?_ | refine TriOps.a1 rfl rfl rfl rfl rfl rfl rfl ?_ | refine TriOps.w1 rfl rfl rfl rfl rfl rfl rfl rfl rfl ?_ | fail))
      refine TriOps.v1 rfl rfl rfl rfl (by first | exact True.intro | exact inR_i64 (by omega) (by omega) | omega | (refine ⟨?_, ?_⟩ <;> omega)) ?_
      (repeat' (first | refine TriOps.v1 rfl rfl rfl rfl True.intro ?_ | refine TriOps.nil ?_ | refine Tri.region ?_ | refine Tri.seq ?_ | refine Tri.block ?_ | refine Tri.skip ?_ | refine Tri.exit ?_ | refine TriOps.s1 rfl rfl rfl ?_ | refine TriOps.b1 rfl rfl rfl rfl rfl rfl ?_ | refine TriOps.a1 rfl rfl rfl rfl rfl rfl rfl ?_ | refine TriOps.w1 rfl rfl rfl rfl rfl rfl rfl rfl rfl ?_ | fail))
      refine ⟨i + 1, ⟨by omega, fun j hj => ?_⟩, by omega, Wk.to rfl ⟨rfl, rfl, rfl, trivial⟩ trivial trivial⟩
      rcases Nat.lt_or_ge (j + 1) i with h | h
      · exact h3 j h
      · obtain rfl : j = i - 1 := by omega
        rw [show i - 1 + 1 = i by omega]
        rw [show ((i : Int) - 1).toNat = i - 1 by omega] at hd
        simp only [Int.toNat_natCast] at hd
        omega
  · have hc : ¬ (i : Int) < l.length := of_decide_eq_false hc
    (repeat' (first | refine TriOps.v1 rfl rfl rfl rfl True.intro ?_ | refine TriOps.nil ?_ | refine Tri.region ?_ | refine Tri.seq ?_ | refine Tri.block ?_ | refine Tri.skip ?_ | refine Tri.exit ?_ | refine TriOps.s1 rfl rfl rfl ?_ | refine TriOps.b1 rfl rfl rfl rfl rfl rfl ?_ | refine TriOps.a1 rfl rfl rfl rfl rfl rfl rfl ?_ | refine TriOps.w1 rfl rfl rfl rfl rfl rfl rfl rfl rfl ?_ | fail))
    refine Tri.ret (retV rfl ?_)
    have : rising l = true := (rising_iff l).2 fun j hj => h3 j (by omega)
    rw [this]; rfl

/-! ### within bounds -/
def idxOf (p : Int → Bool) (l : List Int) : Int := match l.findIdx? p with | some i => i | none => -1
theorem idxOf_at {p : Int → Bool} {l : List Int} {i : Nat} (hi : i < l.length) (hp : p (l.getD i 0) = true) (h : ∀ j, j < i → p (l.getD j 0) = false) : idxOf p l = i := by
  have : l.findIdx? p = some i := by
    rw [List.findIdx?_eq_some_iff_getElem]
    refine ⟨hi, ?_, fun j hj => ?_⟩
    · rw [List.getD_eq_getElem?_getD, List.getElem?_eq_getElem hi] at hp; exact hp
    · have := h j hj
      rw [List.getD_eq_getElem?_getD, List.getElem?_eq_getElem (by omega)] at this
      simpa using this
  simp [idxOf, this]
theorem idxOf_none {p : Int → Bool} {l : List Int} (h : ∀ j, j < l.length → p (l.getD j 0) = false) : idxOf p l = -1 := by
  have : l.findIdx? p = none := by
    rw [List.findIdx?_eq_none_iff]
    intro x hx
    obtain ⟨j, hj, rfl⟩ := List.getElem_of_mem hx
    have := h j hj
    rw [List.getD_eq_getElem?_getD, List.getElem?_eq_getElem hj] at this
    exact this
  simp [idxOf, this]
theorem idxOf_ge (p : Int → Bool) (l : List Int) : decide (idxOf p l ≥ 0) = l.any p := by
  unfold idxOf
  cases h : l.findIdx? p with
  | some i =>
    rw [List.findIdx?_eq_some_iff_getElem] at h
    obtain ⟨h1, h2, _⟩ := h
    have : l.any p = true := List.any_eq_true.2 ⟨_, List.getElem_mem h1, h2⟩
    rw [this]; simp
  | none =>
    rw [List.findIdx?_eq_none_iff] at h
    have : l.any p = false := by
      rw [List.any_eq_false]
      intro x hx
      simp [h x hx]
    rw [this]; simp
theorem indexFunc_fn (l : List Int) (g : FuncId) (lo hi : Int) (p : Int → Bool) (hg : ∀ n, FnV env g [.d (.int .i64 n), .dptr [.int .i64 lo], .dptr [.int .i64 hi]] (.d (.bool (p n)))) :
    FnV env 128 [.d (.ints .i64 l), .fn g [.dptr [.int .i64 lo], .dptr [.int .i64 hi]]] (.d (.int .i64 (idxOf p l))) := by
  refine Fn.vs (E := env) 19 Tryd.func128 rfl (by kernel_rfl) rfl rfl ?_
  refine Tri.bnd 0 (fun hl => ?_)
  have hl : l.length ≤ 9223372036854775807 := hl
  (repeat' (first | refine TriOps.v1 rfl rfl rfl rfl True.intro ?_ | refine TriOps.nil ?_ | refine Tri.region ?_ | refine Tri.seq ?_ | refine Tri.block ?_ | refine Tri.skip ?_ | refine Tri.exit ?_ | refine TriOps.s1 rfl rfl rfl ?_ | refine TriOps.b1 rfl rfl rfl rfl rfl rfl ?_ | refine TriOps.a1 rfl rfl rfl rfl rfl rfl rfl ?_ | refine TriOps.w1 rfl rfl rfl rfl rfl rfl rfl rfl rfl ?_ | fail))
  refine Tri.loopI (fun i : Nat => i ≤ l.length ∧ ∀ j, j < i → p (l.getD j 0) = false) (fun i => stt 19 [(0, .d (.ints .i64 l)), (1, .fn g [.dptr [.int .i64 lo], .dptr [.int .i64 hi]]), (7, .d (.int .i64 l.length)), (8, .d (.int .i64 i))]) (fun i => l.length - i) 0 ⟨by omega, fun j hj => by omega⟩ (Wk.to rfl ⟨rfl, rfl, rfl, rfl, trivial⟩ trivial trivial) ?_
  rintro i ⟨h1, h3⟩
  (repeat' (first | refine TriOps.v1 rfl rfl rfl rfl True.intro ?_ | refine TriOps.nil ?_ | refine Tri.region ?_ | refine Tri.seq ?_ | refine Tri.block ?_ | refine Tri.skip ?_ | refine Tri.exit ?_ | refine TriOps.s1 rfl rfl rfl ?_ | refine TriOps.b1 rfl rfl rfl rfl rfl rfl ?_ | refine TriOps.a1 rfl rfl rfl rfl rfl rfl rfl ?_ | refine TriOps.w1 rfl rfl rfl rfl rfl rfl rfl rfl rfl ?_ | fail))
  refine Tri.cond rfl (fun hc => ?_) (fun hc => ?_)
  · have hc : (i : Int) < l.length := of_decide_eq_true hc
    (repeat' (first | refine TriOps.v1 rfl rfl rfl rfl True.intro ?_ | refine TriOps.nil ?_ | refine Tri.region ?_ | refine Tri.seq ?_ | refine Tri.block ?_ | refine Tri.skip ?_ | refine Tri.exit ?_ | refine TriOps.s1 rfl rfl rfl ?_ | refine TriOps.b1 rfl rfl rfl rfl rfl rfl ?_ | refine TriOps.a1 rfl rfl rfl rfl rfl rfl rfl ?_ | refine TriOps.w1 rfl rfl rfl rfl rfl rfl rfl rfl rfl ?_ | fail))
    refine TriOps.v1 rfl rfl rfl rfl ⟨by omega, by exact hc⟩ ?_
    (repeat' (first | refine TriOps.v1 rfl rfl rfl rfl True.intro ?_ | refine TriOps.nil ?_ | refine Tri.region ?_ | refine Tri.seq ?_ | refine Tri.block ?_ | refine Tri.skip ?_ | refine Tri.exit ?_ | refine TriOps.s1 rfl rfl rfl ?_ | refine TriOps.b1 rfl rfl rfl rfl rfl rfl ?_ | refine TriOps.a1 rfl rfl rfl rfl rfl rfl rfl ?_ | refine TriOps.w1 rfl rfl rfl rfl rfl rfl rfl rfl rfl ?_ | fail))
    refine TriOps.c1 rfl rfl rfl rfl rfl (hg _) rfl ?_
    (repeat' (first | refine TriOps.v1 rfl rfl rfl rfl True.intro ?_ | refine TriOps.nil ?_ | refine Tri.region ?_ | refine Tri.seq ?_ | refine Tri.block ?_ | refine Tri.skip ?_ | refine Tri.exit ?_ | refine TriOps.s1 rfl rfl rfl ?_ | refine TriOps.b1 rfl rfl rfl rfl rfl rfl ?_ | refine TriOps.a1 rfl rfl rfl rfl rfl rfl rfl ?_ | refine TriOps.w1 rfl rfl rfl rfl rfl rfl rfl rfl rfl ?_ | fail))
    refine Tri.cond rfl (fun hd => ?_) (fun hd => ?_)
    · (repeat' (first | refine TriOps.v1 rfl rfl rfl rfl True.intro ?_ | refine TriOps.nil ?_ | refine Tri.region ?_ | refine Tri.seq ?_ | refine Tri.block ?_ | refine Tri.skip ?_ | refine Tri.exit ?_ | refine TriOps.s1 rfl rfl rfl ?_ | refine TriOps.b1 rfl rfl rfl rfl rfl rfl ?_ | refine TriOps.a1 rfl rfl rfl rfl rfl rfl rfl ?_ | refine TriOps.w1 rfl rfl rfl rfl rfl rfl rfl rfl rfl ?_ | fail))
      refine Tri.ret (retV rfl ?_)
      rw [idxOf_at (i := i) (by omega) hd h3]
      rfl
    · (repeat' (first | refine TriOps.v1 rfl rfl rfl rfl True.intro ?_ | refine TriOps.nil ?_ | refine Tri.region ?_ | refine Tri.seq ?_ | refine Tri.block ?_ | refine Tri.skip ?_ | refine Tri.exit ?_ | refine TriOps.s1 rfl rfl rfl ?_ | refine TriOps.b1 rfl rfl rfl rfl rfl rfl ?_ | refine TriOps.a1 rfl rfl rfl rfl rfl rfl rfl ?_ | refine TriOps.w1 rfl rfl rfl rfl rfl rfl rfl rfl rfl ?_ | fail))
      refine TriOps.v1 rfl rfl rfl rfl (by first | exact True.intro | exact inR_i64 (by omega) (by omega) | omega | (refine ⟨?_, ?_⟩ <;> omega)) ?_
      (repeat' (first | refine TriOps.v1 rfl rfl rfl rfl True.intro ?_ | refine TriOps.nil ?_ | refine Tri.region ?_ | refine Tri.seq ?_ | refine Tri.block ?_ | refine Tri.skip ?_ | refine Tri.exit ?_ | refine TriOps.s1 rfl rfl rfl ?_ | refine TriOps.b1 rfl rfl rfl rfl rfl rfl ?_ | refine TriOps.a1 rfl rfl rfl rfl rfl rfl rfl ?_ | refine TriOps.w1 rfl rfl rfl rfl rfl rfl rfl rfl rfl ?_ | fail))
      refine ⟨i + 1, ⟨by omega, fun j hj => ?_⟩, by omega, Wk.to rfl ⟨rfl, rfl, rfl, rfl, trivial⟩ trivial trivial⟩
      rcases Nat.lt_or_ge j i with h | h
      · exact h3 j h
      · obtain rfl : j = i := by omega
        exact hd
  · have hc : ¬ (i : Int) < l.length := of_decide_eq_false hc
    (repeat' (first | refine TriOps.v1 rfl rfl rfl rfl True.intro ?_ | refine TriOps.nil ?_ | refine Tri.region ?_ | refine Tri.seq ?_ | refine Tri.block ?_ | refine Tri.skip ?_ | refine Tri.exit ?_ | refine TriOps.s1 rfl rfl rfl ?_ | refine TriOps.b1 rfl rfl rfl rfl rfl rfl ?_ | refine TriOps.a1 rfl rfl rfl rfl rfl rfl rfl ?_ | refine TriOps.w1 rfl rfl rfl rfl rfl rfl rfl rfl rfl ?_ | fail))
    refine Tri.ret (retV rfl ?_)
    rw [idxOf_none (fun j hj => h3 j (by omega))]
    rfl
theorem containsFunc_fn (l : List Int) (g : FuncId) (lo hi : Int) (p : Int → Bool) (hg : ∀ n, FnV env g [.d (.int .i64 n), .dptr [.int .i64 lo], .dptr [.int .i64 hi]] (.d (.bool (p n)))) :
    FnV env 99 [.d (.ints .i64 l), .fn g [.dptr [.int .i64 lo], .dptr [.int .i64 hi]]] (.d (.bool (l.any p))) := by
  refine Fn.vs (E := env) 9 Tryd.func99 rfl (by kernel_rfl) rfl rfl ?_
  (repeat' (first | refine TriOps.v1 rfl rfl rfl rfl True.intro ?_ | refine TriOps.nil ?_ | refine Tri.region ?_ | refine Tri.seq ?_ | refine Tri.block ?_ | refine Tri.skip ?_ | refine Tri.exit ?_ | refine TriOps.s1 rfl rfl rfl ?_ | refine TriOps.b1 rfl rfl rfl rfl rfl rfl ?_ | refine TriOps.a1 rfl rfl rfl rfl rfl rfl rfl ?_ | refine TriOps.w1 rfl rfl rfl rfl rfl rfl rfl rfl rfl ?_ | fail))
  refine TriOps.c1 rfl rfl rfl rfl rfl (indexFunc_fn l g lo hi p hg) rfl ?_
  (repeat' (first | refine TriOps.v1 rfl rfl rfl rfl True.intro ?_ | refine TriOps.nil ?_ | refine Tri.region ?_ | refine Tri.seq ?_ | refine Tri.block ?_ | refine Tri.skip ?_ | refine Tri.exit ?_ | refine TriOps.s1 rfl rfl rfl ?_ | refine TriOps.b1 rfl rfl rfl rfl rfl rfl ?_ | refine TriOps.a1 rfl rfl rfl rfl rfl rfl rfl ?_ | refine TriOps.w1 rfl rfl rfl rfl rfl rfl rfl rfl rfl ?_ | fail))
  refine Tri.ret (retV rfl ?_)
  rw [← idxOf_ge]
  rfl
def areIn (lo hi : Int) (l : List Int) : Bool := l.all (inB lo hi)
theorem areWithin_fn (l : List Int) (lo hi : Int) : FnV env 64 [.d (.ints .i64 l), .d (.int .i64 lo), .d (.int .i64 hi)] (.d (.bool (areIn lo hi l))) := by
  refine Fn.vs (E := env) 11 Tryd.func64 rfl (by kernel_rfl) rfl rfl ?_
  (repeat' (first | refine TriOps.v1 rfl rfl rfl rfl True.intro ?_ | refine TriOps.nil ?_ | refine Tri.region ?_ | refine Tri.seq ?_ | refine Tri.block ?_ | refine Tri.skip ?_ | refine Tri.exit ?_ | refine TriOps.s1 rfl rfl rfl ?_ | refine TriOps.b1 rfl rfl rfl rfl rfl rfl ?_ | refine TriOps.a1 rfl rfl rfl rfl rfl rfl rfl ?_ | refine TriOps.w1 rfl rfl rfl rfl rfl rfl rfl rfl rfl ?_ | fail))
  refine TriOps.c1 rfl rfl rfl rfl rfl (containsFunc_fn l _ lo hi _ (fun n => areWithin1_fn n lo hi)) rfl ?_
  (repeat' (first | refine TriOps.v1 rfl rfl rfl rfl True.intro ?_ | refine TriOps.nil ?_ | refine Tri.region ?_ | refine Tri.seq ?_ | refine Tri.block ?_ | refine Tri.skip ?_ | refine Tri.exit ?_ | refine TriOps.s1 rfl rfl rfl ?_ | refine TriOps.b1 rfl rfl rfl rfl rfl rfl ?_ | refine TriOps.a1 rfl rfl rfl rfl rfl rfl rfl ?_ | refine TriOps.w1 rfl rfl rfl rfl rfl rfl rfl rfl rfl ?_ | fail))
  refine Tri.ret (retV rfl ?_)
  rw [areIn, List.all_eq_not_any_not]
  rfl
end Go.Proofs.YthmbdoegcpicbaaDoor.Abs

/-! ## C3 -/
namespace Go.Proofs.YthmbdoegcpicbaaDoor.Abs
open Go.Proofs
def isFig (w h : Int) (a u : List Int) : Bool := (((isGrid w h && rising a) && rising u) && areIn 0 (w * (h + 1) - 1) a) && areIn 0 (h * (w + 1) - 1) u
theorem isGrid_bd {w h : Int} (hg : isGrid w h = true) : (1 ≤ w ∧ w ≤ 4) ∧ (1 ≤ h ∧ h ≤ 4) := by
  simpa only [isGrid, inB, Bool.and_eq_true, decide_eq_true_eq] using hg
theorem mul_bd {x y : Int} (hx : 1 ≤ x ∧ x ≤ 4) (hy : 1 ≤ y ∧ y ≤ 4) : 2 ≤ x * (y + 1) ∧ x * (y + 1) ≤ 20 := by
  have h1 : 1 * 2 ≤ x * (y + 1) := Int.mul_le_mul hx.1 (by omega) (by omega) (by omega)
  have h2 : x * (y + 1) ≤ 4 * 5 := Int.mul_le_mul hx.2 (by omega) (by omega) (by omega)
  omega
set_option maxHeartbeats 2000000 in
theorem isFigure_fn (w h : Int) (a u : List Int) : FnV env 21 [fig w h a u] (.d (.bool (isFig w h a u))) := by
  refine Fn.vs (E := env) 36 Tryd.func21 rfl (by kernel_rfl) rfl rfl ?_
  (repeat' (first | refine TriOps.v1 rfl rfl rfl rfl True.intro ?_ | refine TriOps.nil ?_ | refine Tri.region ?_ | refine Tri.seq ?_ | refine Tri.block ?_ | refine Tri.skip ?_ | refine Tri.exit ?_ | refine TriOps.s1 rfl rfl rfl ?_ | refine TriOps.b1 rfl rfl rfl rfl rfl rfl ?_ | refine TriOps.a1 rfl rfl rfl rfl rfl rfl rfl ?_ | refine TriOps.w1 rfl rfl rfl rfl rfl rfl rfl rfl rfl ?_ | fail))
  refine Tri.dz [.loc 1] [(0, 0), (1, 1), (2, 0), (3, 1), (4, 2), (5, 0), (6, 0), (7, 1), (8, 2), (9, 0), (10, 0), (11, 0), (12, 1), (13, 2), (14, 0), (15, 0), (16, 0), (17, 1), (18, 1), (19, 2), (20, 2), (21, 0), (22, 2), (23, 0), (24, 0), (25, 0), (26, 1), (27, 1), (28, 2), (29, 2), (30, 0), (31, 2), (32, 0), (33, 0)] (by kernel_rfl) rfl ?_
  (repeat' (first | refine TS.v1 rfl (fun _ _ h => h) rfl rfl rfl rfl rfl True.intro ?_ | refine TS.t1 rfl (fun _ _ h => h) rfl rfl rfl rfl rfl True.intro ?_ | refine TS.nil ?_ | refine TS.n0 rfl (fun _ _ h => h) rfl rfl rfl ?_ | refine TS.n1 rfl (fun _ _ h => h) rfl rfl rfl ?_ | refine TS.n2 rfl rfl rfl rfl ?_ | refine TS.w1 rfl rfl rfl rfl rfl rfl rfl rfl rfl rfl rfl rfl ?_ | fail))
  refine TS.c1 rfl rfl rfl rfl rfl rfl rfl (isGrid_fn _ _) rfl ?_
  (repeat' (first | refine TS.v1 rfl (fun _ _ h => h) rfl rfl rfl rfl rfl True.intro ?_ | refine TS.t1 rfl (fun _ _ h => h) rfl rfl rfl rfl rfl True.intro ?_ | refine TS.nil ?_ | refine TS.n0 rfl (fun _ _ h => h) rfl rfl rfl ?_ | refine TS.n1 rfl (fun _ _ h => h) rfl rfl rfl ?_ | refine TS.n2 rfl rfl rfl rfl ?_ | refine TS.w1 rfl rfl rfl rfl rfl rfl rfl rfl rfl rfl rfl rfl ?_ | fail))
  refine TS.g1 rfl rfl rfl rfl (fun hg => ?_) (fun hg => ?_)
  · obtain ⟨hw, hh⟩ := isGrid_bd hg
    have hm1 := mul_bd hw hh
    have hm2 := mul_bd hh hw
    rw [isFig, hg]
    (repeat' (first | refine TS.v1 rfl (fun _ _ h => h) rfl rfl rfl rfl rfl True.intro ?_ | refine TS.t1 rfl (fun _ _ h => h) rfl rfl rfl rfl rfl True.intro ?_ | refine TS.nil ?_ | refine TS.n0 rfl (fun _ _ h => h) rfl rfl rfl ?_ | refine TS.n1 rfl (fun _ _ h => h) rfl rfl rfl ?_ | refine TS.n2 rfl rfl rfl rfl ?_ | refine TS.w1 rfl rfl rfl rfl rfl rfl rfl rfl rfl rfl rfl rfl ?_ | fail))
    refine TS.c1 rfl rfl rfl rfl rfl rfl rfl (isRising_fn _) rfl ?_
    (repeat' (first | refine TS.v1 rfl (fun _ _ h => h) rfl rfl rfl rfl rfl True.intro ?_ | refine TS.t1 rfl (fun _ _ h => h) rfl rfl rfl rfl rfl True.intro ?_ | refine TS.nil ?_ | refine TS.n0 rfl (fun _ _ h => h) rfl rfl rfl ?_ | refine TS.n1 rfl (fun _ _ h => h) rfl rfl rfl ?_ | refine TS.n2 rfl rfl rfl rfl ?_ | refine TS.w1 rfl rfl rfl rfl rfl rfl rfl rfl rfl rfl rfl rfl ?_ | fail))
    refine TS.g1 rfl rfl rfl rfl (fun hg => ?_) (fun hg => ?_)
    · have hg : rising a = true := hg
      rw [hg]
      (repeat' (first | refine TS.v1 rfl (fun _ _ h => h) rfl rfl rfl rfl rfl True.intro ?_ | refine TS.t1 rfl (fun _ _ h => h) rfl rfl rfl rfl rfl True.intro ?_ | refine TS.nil ?_ | refine TS.n0 rfl (fun _ _ h => h) rfl rfl rfl ?_ | refine TS.n1 rfl (fun _ _ h => h) rfl rfl rfl ?_ | refine TS.n2 rfl rfl rfl rfl ?_ | refine TS.w1 rfl rfl rfl rfl rfl rfl rfl rfl rfl rfl rfl rfl ?_ | fail))
      refine TS.c1 rfl rfl rfl rfl rfl rfl rfl (isRising_fn _) rfl ?_
      (repeat' (first | refine TS.v1 rfl (fun _ _ h => h) rfl rfl rfl rfl rfl True.intro ?_ | refine TS.t1 rfl (fun _ _ h => h) rfl rfl rfl rfl rfl True.intro ?_ | refine TS.nil ?_ | refine TS.n0 rfl (fun _ _ h => h) rfl rfl rfl ?_ | refine TS.n1 rfl (fun _ _ h => h) rfl rfl rfl ?_ | refine TS.n2 rfl rfl rfl rfl ?_ | refine TS.w1 rfl rfl rfl rfl rfl rfl rfl rfl rfl rfl rfl rfl ?_ | fail))
      refine TS.g1 rfl rfl rfl rfl (fun hg => ?_) (fun hg => ?_)
      · have hg : rising u = true := hg
        rw [hg]
        (repeat' (first | refine TS.v1 rfl (fun _ _ h => h) rfl rfl rfl rfl rfl True.intro ?_ | refine TS.t1 rfl (fun _ _ h => h) rfl rfl rfl rfl rfl True.intro ?_ | refine TS.nil ?_ | refine TS.n0 rfl (fun _ _ h => h) rfl rfl rfl ?_ | refine TS.n1 rfl (fun _ _ h => h) rfl rfl rfl ?_ | refine TS.n2 rfl rfl rfl rfl ?_ | refine TS.w1 rfl rfl rfl rfl rfl rfl rfl rfl rfl rfl rfl rfl ?_ | fail))
        refine TS.c1 rfl rfl rfl rfl rfl rfl rfl (grid_fn _ _ _ _) rfl ?_
        refine TS.c1 rfl rfl rfl rfl rfl rfl rfl (levels_fn _ _ (by omega) (by omega)) rfl ?_
        refine TS.v1 rfl (fun _ _ h => h) rfl rfl rfl rfl rfl (by first | exact True.intro | exact inR_i64 (by omega) (by omega) | omega | (refine ⟨?_, ?_⟩ <;> omega)) ?_
        refine TS.c1 rfl rfl rfl rfl rfl rfl rfl (areWithin_fn _ _ _) rfl ?_
        (repeat' (first | refine TS.v1 rfl (fun _ _ h => h) rfl rfl rfl rfl rfl True.intro ?_ | refine TS.t1 rfl (fun _ _ h => h) rfl rfl rfl rfl rfl True.intro ?_ | refine TS.nil ?_ | refine TS.n0 rfl (fun _ _ h => h) rfl rfl rfl ?_ | refine TS.n1 rfl (fun _ _ h => h) rfl rfl rfl ?_ | refine TS.n2 rfl rfl rfl rfl ?_ | refine TS.w1 rfl rfl rfl rfl rfl rfl rfl rfl rfl rfl rfl rfl ?_ | fail))
        refine TS.g1 rfl rfl rfl rfl (fun hg => ?_) (fun hg => ?_)
        · have hg : areIn 0 (w * (h + 1) - 1) a = true := hg
          rw [hg]
          (repeat' (first | refine TS.v1 rfl (fun _ _ h => h) rfl rfl rfl rfl rfl True.intro ?_ | refine TS.t1 rfl (fun _ _ h => h) rfl rfl rfl rfl rfl True.intro ?_ | refine TS.nil ?_ | refine TS.n0 rfl (fun _ _ h => h) rfl rfl rfl ?_ | refine TS.n1 rfl (fun _ _ h => h) rfl rfl rfl ?_ | refine TS.n2 rfl rfl rfl rfl ?_ | refine TS.w1 rfl rfl rfl rfl rfl rfl rfl rfl rfl rfl rfl rfl ?_ | fail))
          refine TS.c1 rfl rfl rfl rfl rfl rfl rfl (grid_fn _ _ _ _) rfl ?_
          refine TS.c1 rfl rfl rfl rfl rfl rfl rfl (uprights_fn _ _ (by omega) (by omega)) rfl ?_
          refine TS.v1 rfl (fun _ _ h => h) rfl rfl rfl rfl rfl (by first | exact True.intro | exact inR_i64 (by omega) (by omega) | omega | (refine ⟨?_, ?_⟩ <;> omega)) ?_
          refine TS.c1 rfl rfl rfl rfl rfl rfl rfl (areWithin_fn _ _ _) rfl ?_
          (repeat' (first | refine TS.v1 rfl (fun _ _ h => h) rfl rfl rfl rfl rfl True.intro ?_ | refine TS.t1 rfl (fun _ _ h => h) rfl rfl rfl rfl rfl True.intro ?_ | refine TS.nil ?_ | refine TS.n0 rfl (fun _ _ h => h) rfl rfl rfl ?_ | refine TS.n1 rfl (fun _ _ h => h) rfl rfl rfl ?_ | refine TS.n2 rfl rfl rfl rfl ?_ | refine TS.w1 rfl rfl rfl rfl rfl rfl rfl rfl rfl rfl rfl rfl ?_ | fail))
          refine Tri.ret (retV rfl ?_)
          rfl
        · have hg : areIn 0 (w * (h + 1) - 1) a = false := hg
          rw [hg]
          (repeat' (first | refine TS.v1 rfl (fun _ _ h => h) rfl rfl rfl rfl rfl True.intro ?_ | refine TS.t1 rfl (fun _ _ h => h) rfl rfl rfl rfl rfl True.intro ?_ | refine TS.nil ?_ | refine TS.n0 rfl (fun _ _ h => h) rfl rfl rfl ?_ | refine TS.n1 rfl (fun _ _ h => h) rfl rfl rfl ?_ | refine TS.n2 rfl rfl rfl rfl ?_ | refine TS.w1 rfl rfl rfl rfl rfl rfl rfl rfl rfl rfl rfl rfl ?_ | fail))
          refine Tri.ret (retV rfl ?_)
          rfl
      · have hg : rising u = false := hg
        rw [hg]
        (repeat' (first | refine TS.v1 rfl (fun _ _ h => h) rfl rfl rfl rfl rfl True.intro ?_ | refine TS.t1 rfl (fun _ _ h => h) rfl rfl rfl rfl rfl True.intro ?_ | refine TS.nil ?_ | refine TS.n0 rfl (fun _ _ h => h) rfl rfl rfl ?_ | refine TS.n1 rfl (fun _ _ h => h) rfl rfl rfl ?_ | refine TS.n2 rfl rfl rfl rfl ?_ | refine TS.w1 rfl rfl rfl rfl rfl rfl rfl rfl rfl rfl rfl rfl ?_ | fail))
        refine Tri.ret (retV rfl ?_)
        rfl
    · have hg : rising a = false := hg
      rw [hg]
      (repeat' (first | refine TS.v1 rfl (fun _ _ h => h) rfl rfl rfl rfl rfl True.intro ?_ | refine TS.t1 rfl (fun _ _ h => h) rfl rfl rfl rfl rfl True.intro ?_ | refine TS.nil ?_ | refine TS.n0 rfl (fun _ _ h => h) rfl rfl rfl ?_ | refine TS.n1 rfl (fun _ _ h => h) rfl rfl rfl ?_ | refine TS.n2 rfl rfl rfl rfl ?_ | refine TS.w1 rfl rfl rfl rfl rfl rfl rfl rfl rfl rfl rfl rfl ?_ | fail))
      refine Tri.ret (retV rfl ?_)
      rfl
  · rw [isFig, hg]
    (repeat' (first | refine TS.v1 rfl (fun _ _ h => h) rfl rfl rfl rfl rfl True.intro ?_ | refine TS.t1 rfl (fun _ _ h => h) rfl rfl rfl rfl rfl True.intro ?_ | refine TS.nil ?_ | refine TS.n0 rfl (fun _ _ h => h) rfl rfl rfl ?_ | refine TS.n1 rfl (fun _ _ h => h) rfl rfl rfl ?_ | refine TS.n2 rfl rfl rfl rfl ?_ | refine TS.w1 rfl rfl rfl rfl rfl rfl rfl rfl rfl rfl rfl rfl ?_ | fail))
    refine Tri.ret (retV rfl ?_)
    rfl
def alike (w h : Int) (a u : List Int) (w' h' : Int) (a' u' : List Int) : Bool := (isFig w h a u && isFig w' h' a' u') && ((w == w') && ((h == h') && true))
set_option maxHeartbeats 2000000 in
theorem areAlike_fn (w h : Int) (a u : List Int) (w' h' : Int) (a' u' : List Int) : FnV env 49 [fig w h a u, fig w' h' a' u'] (.d (.bool (alike w h a u w' h' a' u'))) := by
  refine Fn.vs (E := env) 18 Tryd.func49 rfl (by kernel_rfl) rfl rfl ?_
  (repeat' (first | refine TriOps.v1 rfl rfl rfl rfl True.intro ?_ | refine TriOps.nil ?_ | refine Tri.region ?_ | refine Tri.seq ?_ | refine Tri.block ?_ | refine Tri.skip ?_ | refine Tri.exit ?_ | refine TriOps.s1 rfl rfl rfl ?_ | refine TriOps.b1 rfl rfl rfl rfl rfl rfl ?_ | refine TriOps.a1 rfl rfl rfl rfl rfl rfl rfl ?_ | refine TriOps.w1 rfl rfl rfl rfl rfl rfl rfl rfl rfl ?_ | fail))
  refine Tri.dz [.loc 2, .loc 3] [(0, 1), (1, 2), (2, 0), (3, 1), (4, 2), (5, 0), (6, 0), (7, 1), (9, 1), (8, 2), (10, 2), (11, 0), (12, 0), (13, 0)] (by kernel_rfl) rfl ?_
  (repeat' (first | refine TS.v1 rfl (fun _ _ h => h) rfl rfl rfl rfl rfl True.intro ?_ | refine TS.t1 rfl (fun _ _ h => h) rfl rfl rfl rfl rfl True.intro ?_ | refine TS.nil ?_ | refine TS.n0 rfl (fun _ _ h => h) rfl rfl rfl ?_ | refine TS.n1 rfl (fun _ _ h => h) rfl rfl rfl ?_ | refine TS.n2 rfl rfl rfl rfl ?_ | refine TS.w1 rfl rfl rfl rfl rfl rfl rfl rfl rfl rfl rfl rfl ?_ | fail))
  refine TS.c1 rfl rfl rfl rfl rfl rfl rfl (isFigure_fn _ _ _ _) rfl ?_
  (repeat' (first | refine TS.v1 rfl (fun _ _ h => h) rfl rfl rfl rfl rfl True.intro ?_ | refine TS.t1 rfl (fun _ _ h => h) rfl rfl rfl rfl rfl True.intro ?_ | refine TS.nil ?_ | refine TS.n0 rfl (fun _ _ h => h) rfl rfl rfl ?_ | refine TS.n1 rfl (fun _ _ h => h) rfl rfl rfl ?_ | refine TS.n2 rfl rfl rfl rfl ?_ | refine TS.w1 rfl rfl rfl rfl rfl rfl rfl rfl rfl rfl rfl rfl ?_ | fail))
  refine TS.g1 rfl rfl rfl rfl (fun hg => ?_) (fun hg => ?_)
  · rw [alike, hg]
    (repeat' (first | refine TS.v1 rfl (fun _ _ h => h) rfl rfl rfl rfl rfl True.intro ?_ | refine TS.t1 rfl (fun _ _ h => h) rfl rfl rfl rfl rfl True.intro ?_ | refine TS.nil ?_ | refine TS.n0 rfl (fun _ _ h => h) rfl rfl rfl ?_ | refine TS.n1 rfl (fun _ _ h => h) rfl rfl rfl ?_ | refine TS.n2 rfl rfl rfl rfl ?_ | refine TS.w1 rfl rfl rfl rfl rfl rfl rfl rfl rfl rfl rfl rfl ?_ | fail))
    refine TS.c1 rfl rfl rfl rfl rfl rfl rfl (isFigure_fn _ _ _ _) rfl ?_
    (repeat' (first | refine TS.v1 rfl (fun _ _ h => h) rfl rfl rfl rfl rfl True.intro ?_ | refine TS.t1 rfl (fun _ _ h => h) rfl rfl rfl rfl rfl True.intro ?_ | refine TS.nil ?_ | refine TS.n0 rfl (fun _ _ h => h) rfl rfl rfl ?_ | refine TS.n1 rfl (fun _ _ h => h) rfl rfl rfl ?_ | refine TS.n2 rfl rfl rfl rfl ?_ | refine TS.w1 rfl rfl rfl rfl rfl rfl rfl rfl rfl rfl rfl rfl ?_ | fail))
    refine TS.g1 rfl rfl rfl rfl (fun hg => ?_) (fun hg => ?_)
    · have hg : isFig w' h' a' u' = true := hg
      rw [hg]
      (repeat' (first | refine TS.v1 rfl (fun _ _ h => h) rfl rfl rfl rfl rfl True.intro ?_ | refine TS.t1 rfl (fun _ _ h => h) rfl rfl rfl rfl rfl True.intro ?_ | refine TS.nil ?_ | refine TS.n0 rfl (fun _ _ h => h) rfl rfl rfl ?_ | refine TS.n1 rfl (fun _ _ h => h) rfl rfl rfl ?_ | refine TS.n2 rfl rfl rfl rfl ?_ | refine TS.w1 rfl rfl rfl rfl rfl rfl rfl rfl rfl rfl rfl rfl ?_ | fail))
      refine TS.c1 rfl rfl rfl rfl rfl rfl rfl (grid_fn _ _ _ _) rfl ?_
      refine TS.c1 rfl rfl rfl rfl rfl rfl rfl (grid_fn _ _ _ _) rfl ?_
      refine TS.q1 rfl (fun _ _ h => h) rfl rfl rfl (by kernel_rfl) (by kernel_rfl) rfl ?_
      (repeat' (first | refine TS.v1 rfl (fun _ _ h => h) rfl rfl rfl rfl rfl True.intro ?_ | refine TS.t1 rfl (fun _ _ h => h) rfl rfl rfl rfl rfl True.intro ?_ | refine TS.nil ?_ | refine TS.n0 rfl (fun _ _ h => h) rfl rfl rfl ?_ | refine TS.n1 rfl (fun _ _ h => h) rfl rfl rfl ?_ | refine TS.n2 rfl rfl rfl rfl ?_ | refine TS.w1 rfl rfl rfl rfl rfl rfl rfl rfl rfl rfl rfl rfl ?_ | fail))
      refine Tri.ret (retV rfl ?_)
      rfl
    · have hg : isFig w' h' a' u' = false := hg
      rw [hg]
      (repeat' (first | refine TS.v1 rfl (fun _ _ h => h) rfl rfl rfl rfl rfl True.intro ?_ | refine TS.t1 rfl (fun _ _ h => h) rfl rfl rfl rfl rfl True.intro ?_ | refine TS.nil ?_ | refine TS.n0 rfl (fun _ _ h => h) rfl rfl rfl ?_ | refine TS.n1 rfl (fun _ _ h => h) rfl rfl rfl ?_ | refine TS.n2 rfl rfl rfl rfl ?_ | refine TS.w1 rfl rfl rfl rfl rfl rfl rfl rfl rfl rfl rfl rfl ?_ | fail))
      refine Tri.ret (retV rfl ?_)
      rfl
  · rw [alike, hg]
    (repeat' (first | refine TS.v1 rfl (fun _ _ h => h) rfl rfl rfl rfl rfl True.intro ?_ | refine TS.t1 rfl (fun _ _ h => h) rfl rfl rfl rfl rfl True.intro ?_ | refine TS.nil ?_ | refine TS.n0 rfl (fun _ _ h => h) rfl rfl rfl ?_ | refine TS.n1 rfl (fun _ _ h => h) rfl rfl rfl ?_ | refine TS.n2 rfl rfl rfl rfl ?_ | refine TS.w1 rfl rfl rfl rfl rfl rfl rfl rfl rfl rfl rfl rfl ?_ | fail))
    refine Tri.ret (retV rfl ?_)
    rfl
end Go.Proofs.YthmbdoegcpicbaaDoor.Abs

/-! ## C4 -/
namespace Go.Proofs.YthmbdoegcpicbaaDoor.Abs
open Go.Proofs
def orB (off : Nat) (l : List Int) (s : Nat) : Nat := l.foldl (fun s k => s ||| 2 ^ (off + k.toNat)) s
theorem orB_snoc (off : Nat) (l : List Int) (k : Int) (s : Nat) : orB off (l ++ [k]) s = orB off l s ||| 2 ^ (off + k.toNat) := by
  simp [orB, List.foldl_append]
theorem orB_lt (off m : Nat) : ∀ (l : List Int) (s : Nat), (∀ k ∈ l, off + k.toNat < m) → s < 2 ^ m → orB off l s < 2 ^ m
  | [], s, _, hs => hs
  | k :: l, s, h, hs => orB_lt off m l _ (fun j hj => h j (List.mem_cons_of_mem _ hj)) (Nat.or_lt_two_pow hs (Nat.pow_lt_pow_right (by omega) (h k (List.mem_cons_self ..))))
def setOf (w h : Int) (a u : List Int) : Nat := orB (w * (h + 1)).toNat u (orB 0 a 0)
theorem getD_mem {l : List Int} {i : Nat} (h : i < l.length) : l.getD i 0 ∈ l := by
  rw [List.getD_eq_getElem?_getD, List.getElem?_eq_getElem h]; exact List.getElem_mem h
theorem take_snoc {l : List Int} {i : Nat} (h : i < l.length) : l.take (i + 1) = l.take i ++ [l.getD i 0] := by
  rw [List.getD_eq_getElem?_getD, List.getElem?_eq_getElem h, Option.getD_some, List.take_succ_eq_append_getElem h]
theorem all_fn (w h : Int) (hw : 1 ≤ w ∧ w ≤ 4) (hh : 1 ≤ h ∧ h ≤ 4) : FnV env 59 [grd w h] (.d (.int .u64 ((2 ^ (w * (h + 1) + h * (w + 1)).toNat - 1 : Nat) : Int))) := by
  have h1 := mul_bd hw hh
  have h2 := mul_bd hh hw
  have h3 : 2 ^ (w * (h + 1) + h * (w + 1)).toNat ≤ 2 ^ 40 := Nat.pow_le_pow_right (by omega) (by omega)
  have h4 : 1 ≤ 2 ^ (w * (h + 1) + h * (w + 1)).toNat := Nat.one_le_two_pow
  refine Fn.vs (E := env) 10 Tryd.func59 rfl (by kernel_rfl) rfl rfl ?_
  (repeat' (first | refine TriOps.v1 rfl rfl rfl rfl True.intro ?_ | refine TriOps.nil ?_ | refine Tri.region ?_ | refine Tri.seq ?_ | refine Tri.block ?_ | refine Tri.skip ?_ | refine Tri.exit ?_ | refine TriOps.s1 rfl rfl rfl ?_ | refine TriOps.b1 rfl rfl rfl rfl rfl rfl ?_ | refine TriOps.a1 rfl rfl rfl rfl rfl rfl rfl ?_ | refine TriOps.w1 rfl rfl rfl rfl rfl rfl rfl rfl rfl ?_ | fail))
  refine Tri.dz [.loc 1] [(0, 1), (2, 1), (1, 2), (3, 2), (4, 0), (5, 0), (6, 0), (7, 0)] (by kernel_rfl) rfl ?_
  (repeat' (first | refine TS.v1 rfl (fun _ _ h => h) rfl rfl rfl rfl rfl True.intro ?_ | refine TS.t1 rfl (fun _ _ h => h) rfl rfl rfl rfl rfl True.intro ?_ | refine TS.nil ?_ | refine TS.n0 rfl (fun _ _ h => h) rfl rfl rfl ?_ | refine TS.n1 rfl (fun _ _ h => h) rfl rfl rfl ?_ | refine TS.n2 rfl rfl rfl rfl ?_ | refine TS.w1 rfl rfl rfl rfl rfl rfl rfl rfl rfl rfl rfl rfl ?_ | fail))
  refine TS.c1 rfl rfl rfl rfl rfl rfl rfl (levels_fn _ _ (by omega) (by omega)) rfl ?_
  refine TS.c1 rfl rfl rfl rfl rfl rfl rfl (uprights_fn _ _ (by omega) (by omega)) rfl ?_
  refine TS.v1 rfl (fun _ _ h => h) rfl rfl rfl rfl rfl (by first | exact True.intro | exact inR_i64 (by omega) (by omega) | omega | (refine ⟨?_, ?_⟩ <;> omega)) ?_
  refine TS.shl1 rfl (fun _ _ h => h) rfl rfl rfl (a := 1) rfl rfl rfl (by omega) (by rw [Nat.one_mul]; omega) ?_
  refine TS.u1 rfl (fun _ _ h => h) rfl rfl rfl rfl (b := 1) rfl rfl rfl (by rw [Nat.one_mul]; omega) (by omega) ?_
  (repeat' (first | refine TS.v1 rfl (fun _ _ h => h) rfl rfl rfl rfl rfl True.intro ?_ | refine TS.t1 rfl (fun _ _ h => h) rfl rfl rfl rfl rfl True.intro ?_ | refine TS.nil ?_ | refine TS.n0 rfl (fun _ _ h => h) rfl rfl rfl ?_ | refine TS.n1 rfl (fun _ _ h => h) rfl rfl rfl ?_ | refine TS.n2 rfl rfl rfl rfl ?_ | refine TS.w1 rfl rfl rfl rfl rfl rfl rfl rfl rfl rfl rfl rfl ?_ | fail))
  refine Tri.ret (retV rfl ?_)
  rw [Nat.one_mul, show (2 ^ (w * (h + 1) + h * (w + 1)).toNat + (18446744073709551616 - 1)) % 18446744073709551616 = 2 ^ (w * (h + 1) + h * (w + 1)).toNat - 1 by omega]
  rfl
theorem setA_lt {w h : Int} {a : List Int} (hw : 1 ≤ w ∧ w ≤ 4) (hh : 1 ≤ h ∧ h ≤ 4) (ha : ∀ k ∈ a, 0 ≤ k ∧ k < w * (h + 1)) (i : Nat) : orB 0 (a.take i) 0 < 2 ^ 40 := by
  have h1 := mul_bd hw hh
  exact orB_lt 0 40 _ 0 (fun k hk => by have := ha k (List.mem_of_mem_take hk); omega) (by decide)
theorem setU_lt {w h : Int} {a u : List Int} (hw : 1 ≤ w ∧ w ≤ 4) (hh : 1 ≤ h ∧ h ≤ 4) (ha : ∀ k ∈ a, 0 ≤ k ∧ k < w * (h + 1)) (hu : ∀ k ∈ u, 0 ≤ k ∧ k < h * (w + 1)) (i : Nat) : orB (w * (h + 1)).toNat (u.take i) (orB 0 a 0) < 2 ^ 40 := by
  have h1 := mul_bd hw hh
  have h2 := mul_bd hh hw
  refine orB_lt _ 40 _ _ (fun k hk => by have := hu k (List.mem_of_mem_take hk); omega) ?_
  have := setA_lt hw hh ha a.length
  rwa [List.take_length] at this
theorem set_fn (w h : Int) (a u : List Int) (hw : 1 ≤ w ∧ w ≤ 4) (hh : 1 ≤ h ∧ h ≤ 4) (ha : ∀ k ∈ a, 0 ≤ k ∧ k < w * (h + 1)) (hu : ∀ k ∈ u, 0 ≤ k ∧ k < h * (w + 1)) :
    FnV env 52 [fig w h a u] (.d (.int .u64 (setOf w h a u : Nat))) := by
  have h1 := mul_bd hw hh
  have h2 := mul_bd hh hw
  refine Fn.vs (E := env) 37 Tryd.func52 rfl (by kernel_rfl) rfl rfl ?_
  refine Tri.bnd 0 (fun hl => ?_)
  have hla : a.length ≤ 9223372036854775807 := hl.2.2.1
  have hlu : u.length ≤ 9223372036854775807 := hl.2.2.2.1
  (repeat' (first | refine TriOps.v1 rfl rfl rfl rfl True.intro ?_ | refine TriOps.nil ?_ | refine Tri.region ?_ | refine Tri.seq ?_ | refine Tri.block ?_ | refine Tri.skip ?_ | refine Tri.exit ?_ | refine TriOps.s1 rfl rfl rfl ?_ | refine TriOps.b1 rfl rfl rfl rfl rfl rfl ?_ | refine TriOps.a1 rfl rfl rfl rfl rfl rfl rfl ?_ | refine TriOps.w1 rfl rfl rfl rfl rfl rfl rfl rfl rfl ?_ | fail))
  refine Tri.loopI (fun i : Nat => i ≤ a.length) (fun i => stt 37 [(1, .ptr (.loc 1) 0), (3, .d (.int .u64 (orB 0 (a.take i) 0 : Nat))), (9, .d (.ints .i64 a)), (10, .d (.int .i64 a.length)), (11, .d (.int .i64 i))] [(.loc 1, ⟨26, [.d (.int .i64 w), .d (.int .i64 h), .d (.ints .i64 a), .d (.ints .i64 u)]⟩)] []) (fun i => a.length - i) 0 (by omega) (Wk.to rfl ⟨rfl, rfl, rfl, rfl, rfl, trivial⟩ ⟨rfl, trivial⟩ trivial) ?_
  · intro i hi
    (repeat' (first | refine TriOps.v1 rfl rfl rfl rfl True.intro ?_ | refine TriOps.nil ?_ | refine Tri.region ?_ | refine Tri.seq ?_ | refine Tri.block ?_ | refine Tri.skip ?_ | refine Tri.exit ?_ | refine TriOps.s1 rfl rfl rfl ?_ | refine TriOps.b1 rfl rfl rfl rfl rfl rfl ?_ | refine TriOps.a1 rfl rfl rfl rfl rfl rfl rfl ?_ | refine TriOps.w1 rfl rfl rfl rfl rfl rfl rfl rfl rfl ?_ | fail))
    refine Tri.cond rfl (fun hc => ?_) (fun hc => ?_)
    · have hc : (i : Int) < a.length := of_decide_eq_true hc
      have hk := ha _ (getD_mem (l := a) (i := i) (by omega))
      have hs := setA_lt hw hh ha i
      have hp : 2 ^ (a.getD i 0).toNat ≤ 2 ^ 40 := Nat.pow_le_pow_right (by omega) (by omega)
      (repeat' (first | refine TriOps.v1 rfl rfl rfl rfl True.intro ?_ | refine TriOps.nil ?_ | refine Tri.region ?_ | refine Tri.seq ?_ | refine Tri.block ?_ | refine Tri.skip ?_ | refine Tri.exit ?_ | refine TriOps.s1 rfl rfl rfl ?_ | refine TriOps.b1 rfl rfl rfl rfl rfl rfl ?_ | refine TriOps.a1 rfl rfl rfl rfl rfl rfl rfl ?_ | refine TriOps.w1 rfl rfl rfl rfl rfl rfl rfl rfl rfl ?_ | fail))
      refine TriOps.v1 rfl rfl rfl rfl ⟨by omega, by exact hc⟩ ?_
      (repeat' (first | refine TriOps.v1 rfl rfl rfl rfl True.intro ?_ | refine TriOps.nil ?_ | refine Tri.region ?_ | refine Tri.seq ?_ | refine Tri.block ?_ | refine Tri.skip ?_ | refine Tri.exit ?_ | refine TriOps.s1 rfl rfl rfl ?_ | refine TriOps.b1 rfl rfl rfl rfl rfl rfl ?_ | refine TriOps.a1 rfl rfl rfl rfl rfl rfl rfl ?_ | refine TriOps.w1 rfl rfl rfl rfl rfl rfl rfl rfl rfl ?_ | fail))
      refine TriOps.shl1 rfl rfl rfl (a := 1) (m := a.getD i 0) rfl rfl rfl (by omega) (by rw [Nat.one_mul]; omega) ?_
      refine TriOps.u1 rfl rfl rfl rfl rfl rfl rfl (by omega) (by rw [Nat.one_mul]; omega) ?_
      (repeat' (first | refine TriOps.v1 rfl rfl rfl rfl True.intro ?_ | refine TriOps.nil ?_ | refine Tri.region ?_ | refine Tri.seq ?_ | refine Tri.block ?_ | refine Tri.skip ?_ | refine Tri.exit ?_ | refine TriOps.s1 rfl rfl rfl ?_ | refine TriOps.b1 rfl rfl rfl rfl rfl rfl ?_ | refine TriOps.a1 rfl rfl rfl rfl rfl rfl rfl ?_ | refine TriOps.w1 rfl rfl rfl rfl rfl rfl rfl rfl rfl ?_ | fail))
      refine TriOps.v1 rfl rfl rfl rfl (by first | exact True.intro | exact inR_i64 (by omega) (by omega) | omega | (refine ⟨?_, ?_⟩ <;> omega)) ?_
      (repeat' (first | refine TriOps.v1 rfl rfl rfl rfl True.intro ?_ | refine TriOps.nil ?_ | refine Tri.region ?_ | refine Tri.seq ?_ | refine Tri.block ?_ | refine Tri.skip ?_ | refine Tri.exit ?_ | refine TriOps.s1 rfl rfl rfl ?_ | refine TriOps.b1 rfl rfl rfl rfl rfl rfl ?_ | refine TriOps.a1 rfl rfl rfl rfl rfl rfl rfl ?_ | refine TriOps.w1 rfl rfl rfl rfl rfl rfl rfl rfl rfl ?_ | fail))
      refine ⟨i + 1, by omega, by omega, Wk.to rfl ⟨rfl, ?_, rfl, rfl, rfl, trivial⟩ ⟨rfl, trivial⟩ trivial⟩
      rw [take_snoc (by omega), orB_snoc, Nat.zero_add]
      simp only [Nat.one_mul]
      rfl
    · have hc : ¬ (i : Int) < a.length := of_decide_eq_false hc
      obtain rfl : i = a.length := by omega
      (repeat' (first | refine TriOps.v1 rfl rfl rfl rfl True.intro ?_ | refine TriOps.nil ?_ | refine Tri.region ?_ | refine Tri.seq ?_ | refine Tri.block ?_ | refine Tri.skip ?_ | refine Tri.exit ?_ | refine TriOps.s1 rfl rfl rfl ?_ | refine TriOps.b1 rfl rfl rfl rfl rfl rfl ?_ | refine TriOps.a1 rfl rfl rfl rfl rfl rfl rfl ?_ | refine TriOps.w1 rfl rfl rfl rfl rfl rfl rfl rfl rfl ?_ | fail))
      refine Tri.loopI (fun i : Nat => i ≤ u.length) (fun i => stt 37 [(1, .ptr (.loc 1) 0), (3, .d (.int .u64 (orB (w * (h + 1)).toNat (u.take i) (orB 0 a 0) : Nat))), (21, .d (.ints .i64 u)), (22, .d (.int .i64 u.length)), (23, .d (.int .i64 i))] [(.loc 1, ⟨26, [.d (.int .i64 w), .d (.int .i64 h), .d (.ints .i64 a), .d (.ints .i64 u)]⟩)] []) (fun i => u.length - i) 0 (by omega) (Wk.to rfl ⟨rfl, ?_, rfl, rfl, rfl, trivial⟩ ⟨rfl, trivial⟩ trivial) ?_
      · rw [List.take_zero, List.take_length]
        rfl
      · intro i hi
        (repeat' (first | refine TriOps.v1 rfl rfl rfl rfl True.intro ?_ | refine TriOps.nil ?_ | refine Tri.region ?_ | refine Tri.seq ?_ | refine Tri.block ?_ | refine Tri.skip ?_ | refine Tri.exit ?_ | refine TriOps.s1 rfl rfl rfl ?_ | refine TriOps.b1 rfl rfl rfl rfl rfl rfl ?_ | refine TriOps.a1 rfl rfl rfl rfl rfl rfl rfl ?_ | refine TriOps.w1 rfl rfl rfl rfl rfl rfl rfl rfl rfl ?_ | fail))
        refine Tri.cond rfl (fun hc => ?_) (fun hc => ?_)
        · have hc : (i : Int) < u.length := of_decide_eq_true hc
          have hk := hu _ (getD_mem (l := u) (i := i) (by omega))
          have hs := setU_lt hw hh ha hu i
          have hp : 2 ^ (w * (h + 1) + u.getD i 0).toNat ≤ 2 ^ 40 := Nat.pow_le_pow_right (by omega) (by omega)
          (repeat' (first | refine TriOps.v1 rfl rfl rfl rfl True.intro ?_ | refine TriOps.nil ?_ | refine Tri.region ?_ | refine Tri.seq ?_ | refine Tri.block ?_ | refine Tri.skip ?_ | refine Tri.exit ?_ | refine TriOps.s1 rfl rfl rfl ?_ | refine TriOps.b1 rfl rfl rfl rfl rfl rfl ?_ | refine TriOps.a1 rfl rfl rfl rfl rfl rfl rfl ?_ | refine TriOps.w1 rfl rfl rfl rfl rfl rfl rfl rfl rfl ?_ | fail))
          refine TriOps.v1 rfl rfl rfl rfl ⟨by omega, by exact hc⟩ ?_
          (repeat' (first | refine TriOps.v1 rfl rfl rfl rfl True.intro ?_ | refine TriOps.nil ?_ | refine Tri.region ?_ | refine Tri.seq ?_ | refine Tri.block ?_ | refine Tri.skip ?_ | refine Tri.exit ?_ | refine TriOps.s1 rfl rfl rfl ?_ | refine TriOps.b1 rfl rfl rfl rfl rfl rfl ?_ | refine TriOps.a1 rfl rfl rfl rfl rfl rfl rfl ?_ | refine TriOps.w1 rfl rfl rfl rfl rfl rfl rfl rfl rfl ?_ | fail))
          refine TriOps.c1 rfl rfl rfl rfl rfl (grid_fn _ _ _ _) rfl ?_
          refine TriOps.c1 rfl rfl rfl rfl rfl (levels_fn _ _ (by omega) (by omega)) rfl ?_
          (repeat' (first | refine TriOps.v1 rfl rfl rfl rfl True.intro ?_ | refine TriOps.nil ?_ | refine Tri.region ?_ | refine Tri.seq ?_ | refine Tri.block ?_ | refine Tri.skip ?_ | refine Tri.exit ?_ | refine TriOps.s1 rfl rfl rfl ?_ | refine TriOps.b1 rfl rfl rfl rfl rfl rfl ?_ | refine TriOps.a1 rfl rfl rfl rfl rfl rfl rfl ?_ | refine TriOps.w1 rfl rfl rfl rfl rfl rfl rfl rfl rfl ?_ | fail))
          refine TriOps.v1 rfl rfl rfl rfl (inR_i64 (n := w * (h + 1) + u.getD i 0) (by omega) (by omega)) ?_
          refine TriOps.shl1 rfl rfl rfl (a := 1) (m := w * (h + 1) + u.getD i 0) rfl rfl rfl (by omega) (by rw [Nat.one_mul]; omega) ?_
          refine TriOps.u1 rfl rfl rfl rfl rfl rfl rfl (by omega) (by rw [Nat.one_mul]; omega) ?_
          (repeat' (first | refine TriOps.v1 rfl rfl rfl rfl True.intro ?_ | refine TriOps.nil ?_ | refine Tri.region ?_ | refine Tri.seq ?_ | refine Tri.block ?_ | refine Tri.skip ?_ | refine Tri.exit ?_ | refine TriOps.s1 rfl rfl rfl ?_ | refine TriOps.b1 rfl rfl rfl rfl rfl rfl ?_ | refine TriOps.a1 rfl rfl rfl rfl rfl rfl rfl ?_ | refine TriOps.w1 rfl rfl rfl rfl rfl rfl rfl rfl rfl ?_ | fail))
          refine TriOps.v1 rfl rfl rfl rfl (by first | exact True.intro | exact inR_i64 (by omega) (by omega) | omega | (refine ⟨?_, ?_⟩ <;> omega)) ?_
          (repeat' (first | refine TriOps.v1 rfl rfl rfl rfl True.intro ?_ | refine TriOps.nil ?_ | refine Tri.region ?_ | refine Tri.seq ?_ | refine Tri.block ?_ | refine Tri.skip ?_ | refine Tri.exit ?_ | refine TriOps.s1 rfl rfl rfl ?_ | refine TriOps.b1 rfl rfl rfl rfl rfl rfl ?_ | refine TriOps.a1 rfl rfl rfl rfl rfl rfl rfl ?_ | refine TriOps.w1 rfl rfl rfl rfl rfl rfl rfl rfl rfl ?_ | fail))
          refine ⟨i + 1, by omega, by omega, Wk.to rfl ⟨rfl, ?_, rfl, rfl, rfl, trivial⟩ ⟨rfl, trivial⟩ trivial⟩
          rw [take_snoc (by omega), orB_snoc, show (w * (h + 1)).toNat + (u.getD i 0).toNat = (w * (h + 1) + u.getD i 0).toNat by omega]
          simp only [Nat.one_mul]
          rfl
        · have hc : ¬ (i : Int) < u.length := of_decide_eq_false hc
          obtain rfl : i = u.length := by omega
          (repeat' (first | refine TriOps.v1 rfl rfl rfl rfl True.intro ?_ | refine TriOps.nil ?_ | refine Tri.region ?_ | refine Tri.seq ?_ | refine Tri.block ?_ | refine Tri.skip ?_ | refine Tri.exit ?_ | refine TriOps.s1 rfl rfl rfl ?_ | refine TriOps.b1 rfl rfl rfl rfl rfl rfl ?_ | refine TriOps.a1 rfl rfl rfl rfl rfl rfl rfl ?_ | refine TriOps.w1 rfl rfl rfl rfl rfl rfl rfl rfl rfl ?_ | fail))
          refine Tri.ret (retV rfl ?_)
          rw [List.take_length]
          rfl
end Go.Proofs.YthmbdoegcpicbaaDoor.Abs

/-! ## C5 -/
namespace Go.Proofs.YthmbdoegcpicbaaDoor.Abs
open Go.Proofs
def bitsL (s : Nat) : List Int := ((List.range 64).filter fun i => s.testBit i).map fun (i : Nat) => (i : Int)
theorem bitsL_zero : bitsL 0 = [] := by decide
theorem filter_step {p q : Nat → Bool} {k : Nat} : ∀ (n a : Nat), a ≤ k → k < a + n → (∀ j, j < k → p j = false) → p k = true → (∀ j, q j = (p j && !decide (j = k))) → (List.range' a n).filter p = k :: (List.range' a n).filter q
  | 0, a, h1, h2, _, _, _ => by omega
  | n + 1, a, h1, h2, h3, h4, h5 => by
    rw [List.range'_succ]
    by_cases ha : a = k
    · subst ha
      have hq : q a = false := by rw [h5]; simp
      rw [List.filter_cons_of_pos h4, List.filter_cons_of_neg (by rw [hq]; simp)]
      congr 1
      apply List.filter_congr
      intro j hj
      rw [h5]
      have : a < j := by rw [List.mem_range'_1] at hj; omega
      simp [show j ≠ a by omega]
    · have hp : p a = false := h3 a (by omega)
      have hq : q a = false := by rw [h5, hp]; rfl
      rw [List.filter_cons_of_neg (by rw [hp]; simp), List.filter_cons_of_neg (by rw [hq]; simp)]
      exact filter_step n (a + 1) (by omega) (by omega) h3 h4 h5
theorem low_bits {s c m : Nat} (hs : s = 2 ^ c * (2 * m + 1)) : (∀ j, j < c → s.testBit j = false) ∧ s.testBit c = true ∧ (∀ j, (s &&& (s - 1)).testBit j = (s.testBit j && !decide (j = c))) := by
  have hpos : 1 ≤ 2 ^ c := Nat.one_le_two_pow
  have e1 : s - 1 = 2 ^ c * (2 * m) + (2 ^ c - 1) := by rw [hs, Nat.mul_add]; omega
  have b1 : ∀ j, s.testBit j = (decide (j ≥ c) && (2 * m + 1).testBit (j - c)) := fun j => by rw [hs, Nat.testBit_two_pow_mul]
  have b2 : ∀ j, (s - 1).testBit j = if j < c then (2 ^ c - 1).testBit j else (2 * m).testBit (j - c) := fun j => by rw [e1, Nat.testBit_two_pow_mul_add _ (by omega)]
  refine ⟨fun j hj => by rw [b1]; simp [show ¬ c ≤ j by omega], by rw [b1]; simp, fun j => ?_⟩
  rw [Nat.testBit_and, b1, b2]
  rcases Nat.lt_trichotomy j c with h | h | h
  · simp [show ¬ c ≤ j by omega]
  · subst h; simp
  · obtain ⟨d, rfl⟩ : ∃ d, j = c + (d + 1) := ⟨j - c - 1, by omega⟩
    rw [if_neg (by omega), show c + (d + 1) - c = d + 1 by omega, Nat.testBit_succ, Nat.testBit_succ, show (2 * m + 1) / 2 = m by omega, show 2 * m / 2 = m by omega]
    simp
theorem ctz_spec {s : Nat} (h0 : s ≠ 0) (h : s < 18446744073709551616) : ∃ m, s = 2 ^ Lib.ctz 64 s * (2 * m + 1) ∧ Lib.ctz 64 s < 64 := by
  have := Lib.ctzFrom_spec 64 s (by omega) h
  simpa [Lib.ctz, h0] using this
theorem bitsL_step {s : Nat} (h0 : s ≠ 0) (h : s < 18446744073709551616) : bitsL s = (Lib.ctz 64 s : Int) :: bitsL (s &&& (s - 1)) := by
  obtain ⟨m, hm, hc⟩ := ctz_spec h0 h
  obtain ⟨h1, h2, h3⟩ := low_bits hm
  have := filter_step (p := fun i => s.testBit i) (q := fun i => (s &&& (s - 1)).testBit i) 64 0 (Nat.zero_le _) (by omega) h1 h2 h3
  rw [← List.range_eq_range'] at this
  unfold bitsL
  rw [this, List.map_cons]
theorem bitsL_len (s : Nat) : (bitsL s).length ≤ 64 := by
  rw [bitsL, List.length_map]
  exact Nat.le_trans (List.length_filter_le _ _) (by simp)
theorem and_pred_lt {s : Nat} (h0 : s ≠ 0) : s &&& (s - 1) < s := Nat.lt_of_le_of_lt Nat.and_le_right (by omega)
theorem app1_ok {k : IntKind} {l : List Int} {x : Int} {m b : Nat} (h : l.length = m) (hm : (m + 1) * 8 ≤ 140737488355328) (hb : b ≤ 8 := by decide) : (D.ints k (l ++ [x])).len ≤ 140737488355328 ∧ (D.ints k (l ++ [x])).len * b ≤ 140737488355328 := by
  have e : (D.ints k (l ++ [x])).len = m + 1 := by simp [D.len, h]
  rw [e]
  have := Nat.mul_le_mul_left (m + 1) hb
  omega
theorem listed_own (s : Nat) (hs : s < 18446744073709551616) : FnO env 94 [.d (.int .u64 s)] (.own (.ret 0)) [(.ret 0, ⟨3, .ints .i64 (bitsL s)⟩)] := by
  refine Fn.os (E := env) 17 Tryd.func94 rfl (by kernel_rfl) rfl rfl ?_
  (repeat' (first | refine TriOps.v1 rfl rfl rfl rfl True.intro ?_ | refine TriOps.nil ?_ | refine Tri.region ?_ | refine Tri.seq ?_ | refine Tri.block ?_ | refine Tri.skip ?_ | refine Tri.exit ?_ | refine TriOps.s1 rfl rfl rfl ?_ | refine TriOps.b1 rfl rfl rfl rfl rfl rfl ?_ | refine TriOps.a1 rfl rfl rfl rfl rfl rfl rfl ?_ | refine TriOps.w1 rfl rfl rfl rfl rfl rfl rfl rfl rfl ?_ | fail))
  refine TriOps.y1 rfl rfl rfl rfl rfl rfl rfl ?_
  (repeat' (first | refine TriOps.v1 rfl rfl rfl rfl True.intro ?_ | refine TriOps.nil ?_ | refine Tri.region ?_ | refine Tri.seq ?_ | refine Tri.block ?_ | refine Tri.skip ?_ | refine Tri.exit ?_ | refine TriOps.s1 rfl rfl rfl ?_ | refine TriOps.b1 rfl rfl rfl rfl rfl rfl ?_ | refine TriOps.a1 rfl rfl rfl rfl rfl rfl rfl ?_ | refine TriOps.w1 rfl rfl rfl rfl rfl rfl rfl rfl rfl ?_ | fail))
  refine Tri.loopI (fun x : Nat × List Int => x.1 < 18446744073709551616 ∧ x.2 ++ bitsL x.1 = bitsL s) (fun x => stt 17 [(0, .d (.int .u64 x.1)), (3, .own (.ret 0))] [] [(.ret 0, ⟨3, .ints .i64 x.2⟩)]) (fun x => x.1) (s, []) ⟨hs, rfl⟩ (Wk.ren [(.ret 0, some (.tmp 4 0))] rfl ⟨rfl, rfl, trivial⟩ trivial ⟨rfl, trivial⟩ rfl) ?_
  rintro ⟨x, l⟩ ⟨hx, hl⟩
  simp only at hx hl
  have hlen := congrArg List.length hl
  rw [List.length_append] at hlen
  have h64 := bitsL_len s
  (repeat' (first | refine TriOps.v1 rfl rfl rfl rfl True.intro ?_ | refine TriOps.nil ?_ | refine Tri.region ?_ | refine Tri.seq ?_ | refine Tri.block ?_ | refine Tri.skip ?_ | refine Tri.exit ?_ | refine TriOps.s1 rfl rfl rfl ?_ | refine TriOps.b1 rfl rfl rfl rfl rfl rfl ?_ | refine TriOps.a1 rfl rfl rfl rfl rfl rfl rfl ?_ | refine TriOps.w1 rfl rfl rfl rfl rfl rfl rfl rfl rfl ?_ | fail))
  refine Tri.cond rfl (fun hc => ?_) (fun hc => ?_)
  · have hc : (x : Int) > 0 := of_decide_eq_true hc
    have h0 : x ≠ 0 := by omega
    rw [bitsL_step h0 hx] at hl
    (repeat' (first | refine TriOps.v1 rfl rfl rfl rfl True.intro ?_ | refine TriOps.nil ?_ | refine Tri.region ?_ | refine Tri.seq ?_ | refine Tri.block ?_ | refine Tri.skip ?_ | refine Tri.exit ?_ | refine TriOps.s1 rfl rfl rfl ?_ | refine TriOps.b1 rfl rfl rfl rfl rfl rfl ?_ | refine TriOps.a1 rfl rfl rfl rfl rfl rfl rfl ?_ | refine TriOps.w1 rfl rfl rfl rfl rfl rfl rfl rfl rfl ?_ | fail))
    refine TriOps.c1 rfl rfl rfl rfl rfl (tz64_fn x hx) rfl ?_
    refine TriOps.f1 rfl rfl rfl rfl rfl rfl rfl rfl ?_
    refine TriOps.p1 rfl rfl rfl rfl rfl rfl rfl rfl rfl rfl rfl rfl rfl rfl (app1_ok (m := l.length) rfl (by omega)) ?_
    refine TriOps.v1 rfl rfl rfl rfl True.intro ?_
    (repeat' (first | refine TriOps.nil ?_ | refine Tri.region ?_ | refine Tri.seq ?_ | refine Tri.block ?_ | refine Tri.skip ?_ | refine Tri.exit ?_ | fail))
    refine TriOps.v1 rfl rfl rfl rfl True.intro ?_
    refine TriOps.v1 rfl rfl rfl rfl True.intro ?_
    refine TriOps.u1 rfl rfl rfl rfl (b := 1) rfl rfl rfl hx (by omega) ?_
    refine TriOps.u1 rfl rfl rfl rfl rfl rfl rfl hx (Nat.mod_lt _ (by omega)) ?_
    (repeat' (first | refine TriOps.v1 rfl rfl rfl rfl True.intro ?_ | refine TriOps.nil ?_ | refine Tri.region ?_ | refine Tri.seq ?_ | refine Tri.block ?_ | refine Tri.skip ?_ | refine Tri.exit ?_ | refine TriOps.s1 rfl rfl rfl ?_ | refine TriOps.b1 rfl rfl rfl rfl rfl rfl ?_ | refine TriOps.a1 rfl rfl rfl rfl rfl rfl rfl ?_ | refine TriOps.w1 rfl rfl rfl rfl rfl rfl rfl rfl rfl ?_ | fail))
    have e : (x + (18446744073709551616 - 1)) % 18446744073709551616 = x - 1 := by omega
    rw [e]
    have hlt := and_pred_lt h0
    exact ⟨(x &&& (x - 1), l ++ [(Lib.ctz 64 x : Int)]), ⟨by show x &&& (x - 1) < _; omega, by show (l ++ [(Lib.ctz 64 x : Int)]) ++ bitsL (x &&& (x - 1)) = _; rw [List.append_assoc]; exact hl⟩, hlt, Wk.ren [(.ret 0, some (.tmp 15 0))] rfl ⟨rfl, rfl, trivial⟩ trivial ⟨rfl, trivial⟩ rfl⟩
  · have hc : ¬ (x : Int) > 0 := of_decide_eq_false hc
    obtain rfl : x = 0 := by omega
    rw [bitsL_zero, List.append_nil] at hl
    subst hl
    (repeat' (first | refine TriOps.v1 rfl rfl rfl rfl True.intro ?_ | refine TriOps.nil ?_ | refine Tri.region ?_ | refine Tri.seq ?_ | refine Tri.block ?_ | refine Tri.skip ?_ | refine Tri.exit ?_ | refine TriOps.s1 rfl rfl rfl ?_ | refine TriOps.b1 rfl rfl rfl rfl rfl rfl ?_ | refine TriOps.a1 rfl rfl rfl rfl rfl rfl rfl ?_ | refine TriOps.w1 rfl rfl rfl rfl rfl rfl rfl rfl rfl ?_ | fail))
    refine Tri.ret (retO0 rfl (AV.Le.refl _) ⟨rfl, trivial⟩)
theorem listed_fn (s : Nat) (hs : s < 18446744073709551616) : FnV env 94 [.d (.int .u64 s)] (.d (.ints .i64 (bitsL s))) := (listed_own s hs).frz rfl rfl
def lv (w h : Int) : Nat := (w * (h + 1)).toNat
def lowS (w h : Int) (s : Nat) : List Int := bitsL (s &&& (2 ^ lv w h - 1))
def highS (w h : Int) (s : Nat) : List Int := bitsL (s / 2 ^ lv w h)
theorem figure_fn (w h : Int) (s : Nat) (hw : 1 ≤ w ∧ w ≤ 4) (hh : 1 ≤ h ∧ h ≤ 4) (hs : s < 18446744073709551616) : FnV env 51 [grd w h, .d (.int .u64 s)] (fig w h (lowS w h s) (highS w h s)) := by
  have h1 := mul_bd hw hh
  have h3 : 2 ^ (w * (h + 1)).toNat ≤ 2 ^ 20 := Nat.pow_le_pow_right (by omega) (by omega)
  have h4 : 1 ≤ 2 ^ (w * (h + 1)).toNat := Nat.one_le_two_pow
  have e1 : (1 * 2 ^ (w * (h + 1)).toNat + (18446744073709551616 - 1)) % 18446744073709551616 = 2 ^ lv w h - 1 := by rw [Nat.one_mul, lv]; omega
  refine Fn.vs (E := env) 24 Tryd.func51 rfl (by kernel_rfl) rfl rfl ?_
  (repeat' (first | refine TriOps.v1 rfl rfl rfl rfl True.intro ?_ | refine TriOps.nil ?_ | refine Tri.region ?_ | refine Tri.seq ?_ | refine Tri.block ?_ | refine Tri.skip ?_ | refine Tri.exit ?_ | refine TriOps.s1 rfl rfl rfl ?_ | refine TriOps.b1 rfl rfl rfl rfl rfl rfl ?_ | refine TriOps.a1 rfl rfl rfl rfl rfl rfl rfl ?_ | refine TriOps.w1 rfl rfl rfl rfl rfl rfl rfl rfl rfl ?_ | fail))
  refine TriOps.c1 rfl rfl rfl rfl rfl (levels_fn _ _ (by omega) (by omega)) rfl ?_
  refine TriOps.shl1 rfl rfl rfl (a := 1) (m := w * (h + 1)) rfl rfl rfl (by omega) (by rw [Nat.one_mul]; omega) ?_
  refine TriOps.u1 rfl rfl rfl rfl (b := 1) rfl rfl rfl (by rw [Nat.one_mul]; omega) (by omega) ?_
  rw [e1]
  (repeat' (first | refine TriOps.v1 rfl rfl rfl rfl True.intro ?_ | refine TriOps.nil ?_ | refine Tri.region ?_ | refine Tri.seq ?_ | refine Tri.block ?_ | refine Tri.skip ?_ | refine Tri.exit ?_ | refine TriOps.s1 rfl rfl rfl ?_ | refine TriOps.b1 rfl rfl rfl rfl rfl rfl ?_ | refine TriOps.a1 rfl rfl rfl rfl rfl rfl rfl ?_ | refine TriOps.w1 rfl rfl rfl rfl rfl rfl rfl rfl rfl ?_ | fail))
  refine Tri.dz [.loc 2] [(0, 0), (1, 1), (2, 0), (3, 1), (4, 0), (5, 0), (6, 0), (8, 0), (9, 1), (7, 2), (10, 2), (11, 0), (12, 2), (13, 0), (14, 2)] (by kernel_rfl) rfl ?_
  refine TS.v1 rfl (fun _ _ h => h) rfl rfl rfl rfl rfl True.intro ?_
  refine TS.t1 rfl (fun _ _ h => h) rfl rfl rfl rfl rfl True.intro ?_
  refine TS.v1 rfl (fun _ _ h => h) rfl rfl rfl rfl rfl True.intro ?_
  refine TS.t1 rfl (fun _ _ h => h) rfl rfl rfl rfl rfl True.intro ?_
  refine TS.v1 rfl (fun _ _ h => h) rfl rfl rfl rfl rfl True.intro ?_
  refine TS.v1 rfl (fun _ _ h => h) rfl rfl rfl rfl rfl True.intro ?_
  refine TS.u1 rfl (fun _ _ h => h) rfl rfl rfl rfl rfl rfl rfl hs (by rw [lv]; omega) ?_
  refine TS.v1 rfl (fun _ _ h => h) rfl rfl rfl rfl rfl True.intro ?_
  refine TS.t1 rfl (fun _ _ h => h) rfl rfl rfl rfl rfl True.intro ?_
  refine TS.m1 rfl rfl rfl rfl rfl rfl rfl rfl (listed_fn _ (Nat.lt_of_le_of_lt Nat.and_le_left hs)) rfl ?_
  refine TS.c1 rfl rfl rfl rfl rfl rfl rfl (levels_fn _ _ (by omega) (by omega)) rfl ?_
  refine TS.shr1 rfl (fun _ _ h => h) rfl rfl rfl (a := s) (m := w * (h + 1)) rfl rfl rfl (by omega) ?_
  refine TS.m1 rfl rfl rfl rfl rfl rfl rfl rfl (listed_fn _ (Nat.lt_of_le_of_lt (Nat.div_le_self _ _) hs)) rfl ?_
  (repeat' (first | refine TS.v1 rfl (fun _ _ h => h) rfl rfl rfl rfl rfl True.intro ?_ | refine TS.t1 rfl (fun _ _ h => h) rfl rfl rfl rfl rfl True.intro ?_ | refine TS.nil ?_ | refine TS.n0 rfl (fun _ _ h => h) rfl rfl rfl ?_ | refine TS.n1 rfl (fun _ _ h => h) rfl rfl rfl ?_ | refine TS.n2 rfl rfl rfl rfl ?_ | refine TS.w1 rfl rfl rfl rfl rfl rfl rfl rfl rfl rfl rfl rfl ?_ | fail))
  refine Tri.ret (retV rfl ?_)
  rfl
end Go.Proofs.YthmbdoegcpicbaaDoor.Abs

/-! ## C6 -/
namespace Go.Proofs.YthmbdoegcpicbaaDoor.Abs
open Go.Proofs
theorem fig0_le : AV.Le (.agg [.d (.int .i64 0), .d (.int .i64 0), .nils, .nils]) (fig 0 0 [] []) :=
  AV.Le.agg (AV.Les.cons (AV.Le.refl _) (AV.Les.cons (AV.Le.refl _) (AV.Les.cons (AV.Le.nil (sz := 1) rfl) (AV.Les.cons (AV.Le.nil (sz := 1) rfl) AV.Les.nil))))
def noFig : AV := .tuple [fig 0 0 [] [], .d (.bool false)]
theorem noFig_le : AV.Le (.tuple [.agg [.d (.int .i64 0), .d (.int .i64 0), .nils, .nils], .d (.bool false)]) noFig := AV.Le.tuple (AV.Les.cons fig0_le (AV.Les.cons (AV.Le.refl _) AV.Les.nil))
def figOf (w h : Int) (s : Nat) : AV := .tuple [fig w h (lowS w h s) (highS w h s), .d (.bool true)]
theorem areIn_iff {lo hi : Int} {l : List Int} (h : areIn lo hi l = true) : ∀ k ∈ l, lo ≤ k ∧ k ≤ hi := fun k hk => by
  have := List.all_eq_true.1 h k hk
  simpa only [inB, Bool.and_eq_true, decide_eq_true_eq] using this
structure IsF (w h : Int) (a u : List Int) : Prop where
  bw : 1 ≤ w ∧ w ≤ 4
  bh : 1 ≤ h ∧ h ≤ 4
  ra : rising a = true
  ru : rising u = true
  ba : ∀ k ∈ a, 0 ≤ k ∧ k < w * (h + 1)
  bu : ∀ k ∈ u, 0 ≤ k ∧ k < h * (w + 1)
theorem isF_of {w h : Int} {a u : List Int} (hf : isFig w h a u = true) : IsF w h a u := by
  simp only [isFig, Bool.and_eq_true] at hf
  obtain ⟨hw, hh⟩ := isGrid_bd hf.1.1.1.1
  exact ⟨hw, hh, hf.1.1.1.2, hf.1.1.2, fun k hk => by have := areIn_iff hf.1.2 k hk; omega, fun k hk => by have := areIn_iff hf.2 k hk; omega⟩
theorem alike_of {w h : Int} {a u : List Int} {w' h' : Int} {a' u' : List Int} (hf : alike w h a u w' h' a' u' = true) : IsF w h a u ∧ IsF w' h' a' u' ∧ w = w' ∧ h = h' := by
  simp only [alike, Bool.and_eq_true, beq_iff_eq] at hf
  exact ⟨isF_of hf.1.1, isF_of hf.1.2, hf.2.1, hf.2.2.1⟩
theorem IsF.lt {w h : Int} {a u : List Int} (hf : IsF w h a u) : setOf w h a u < 2 ^ 40 := by
  have := setU_lt hf.bw hf.bh hf.ba hf.bu u.length
  rwa [List.take_length] at this
theorem IsF.lt64 {w h : Int} {a u : List Int} (hf : IsF w h a u) : setOf w h a u < 18446744073709551616 := Nat.lt_trans hf.lt (by decide)
theorem join_fn (w h : Int) (a u : List Int) (w' h' : Int) (a' u' : List Int) : FnV env 8 [fig w h a u, fig w' h' a' u'] (bif alike w h a u w' h' a' u' then figOf w h (setOf w h a u ||| setOf w' h' a' u') else noFig) := by
  refine Fn.vs (E := env) 19 Tryd.func8 rfl (by kernel_rfl) rfl rfl ?_
  (repeat' (first | refine TriOps.v1 rfl rfl rfl rfl True.intro ?_ | refine TriOps.nil ?_ | refine Tri.region ?_ | refine Tri.seq ?_ | refine Tri.block ?_ | refine Tri.skip ?_ | refine Tri.exit ?_ | refine TriOps.s1 rfl rfl rfl ?_ | refine TriOps.b1 rfl rfl rfl rfl rfl rfl ?_ | refine TriOps.a1 rfl rfl rfl rfl rfl rfl rfl ?_ | refine TriOps.w1 rfl rfl rfl rfl rfl rfl rfl rfl rfl ?_ | fail))
  refine TriOps.c1 rfl rfl rfl rfl rfl (areAlike_fn _ _ _ _ _ _ _ _) rfl ?_
  (repeat' (first | refine TriOps.v1 rfl rfl rfl rfl True.intro ?_ | refine TriOps.nil ?_ | refine Tri.region ?_ | refine Tri.seq ?_ | refine Tri.block ?_ | refine Tri.skip ?_ | refine Tri.exit ?_ | refine TriOps.s1 rfl rfl rfl ?_ | refine TriOps.b1 rfl rfl rfl rfl rfl rfl ?_ | refine TriOps.a1 rfl rfl rfl rfl rfl rfl rfl ?_ | refine TriOps.w1 rfl rfl rfl rfl rfl rfl rfl rfl rfl ?_ | fail))
  refine Tri.cond rfl (fun hc => ?_) (fun hc => ?_)
  · have hc : alike w h a u w' h' a' u' = false := by simpa using hc
    rw [hc]
    (repeat' (first | refine TriOps.v1 rfl rfl rfl rfl True.intro ?_ | refine TriOps.nil ?_ | refine Tri.region ?_ | refine Tri.seq ?_ | refine Tri.block ?_ | refine Tri.skip ?_ | refine Tri.exit ?_ | refine TriOps.s1 rfl rfl rfl ?_ | refine TriOps.b1 rfl rfl rfl rfl rfl rfl ?_ | refine TriOps.a1 rfl rfl rfl rfl rfl rfl rfl ?_ | refine TriOps.w1 rfl rfl rfl rfl rfl rfl rfl rfl rfl ?_ | fail))
    refine Tri.ret (retL rfl noFig_le)
  · have hc : alike w h a u w' h' a' u' = true := by simpa using hc
    rw [hc]
    obtain ⟨f1, f2, rfl, rfl⟩ := alike_of hc
    have l1 := f1.lt64
    have l2 := f2.lt64
    (repeat' (first | refine TriOps.v1 rfl rfl rfl rfl True.intro ?_ | refine TriOps.nil ?_ | refine Tri.region ?_ | refine Tri.seq ?_ | refine Tri.block ?_ | refine Tri.skip ?_ | refine Tri.exit ?_ | refine TriOps.s1 rfl rfl rfl ?_ | refine TriOps.b1 rfl rfl rfl rfl rfl rfl ?_ | refine TriOps.a1 rfl rfl rfl rfl rfl rfl rfl ?_ | refine TriOps.w1 rfl rfl rfl rfl rfl rfl rfl rfl rfl ?_ | fail))
    refine Tri.dz [.loc 2, .loc 3] [(0, 1), (2, 1), (4, 1), (1, 2), (3, 2), (5, 2), (6, 0), (7, 2), (8, 2), (9, 0)] (by kernel_rfl) rfl ?_
    (repeat' (first | refine TS.v1 rfl (fun _ _ h => h) rfl rfl rfl rfl rfl True.intro ?_ | refine TS.t1 rfl (fun _ _ h => h) rfl rfl rfl rfl rfl True.intro ?_ | refine TS.nil ?_ | refine TS.n0 rfl (fun _ _ h => h) rfl rfl rfl ?_ | refine TS.n1 rfl (fun _ _ h => h) rfl rfl rfl ?_ | refine TS.n2 rfl rfl rfl rfl ?_ | refine TS.w1 rfl rfl rfl rfl rfl rfl rfl rfl rfl rfl rfl rfl ?_ | fail))
    refine TS.c1 rfl rfl rfl rfl rfl rfl rfl (grid_fn _ _ _ _) rfl ?_
    refine TS.c1 rfl rfl rfl rfl rfl rfl rfl (set_fn _ _ _ _ f1.bw f1.bh f1.ba f1.bu) rfl ?_
    refine TS.c1 rfl rfl rfl rfl rfl rfl rfl (set_fn _ _ _ _ f2.bw f2.bh f2.ba f2.bu) rfl ?_
    refine TS.u1 rfl (fun _ _ h => h) rfl rfl rfl rfl rfl rfl rfl l1 l2 ?_
    refine TS.m1 rfl rfl rfl rfl rfl rfl rfl rfl (figure_fn _ _ _ f1.bw f1.bh (Nat.or_lt_two_pow (n := 64) l1 l2)) rfl ?_
    (repeat' (first | refine TS.v1 rfl (fun _ _ h => h) rfl rfl rfl rfl rfl True.intro ?_ | refine TS.t1 rfl (fun _ _ h => h) rfl rfl rfl rfl rfl True.intro ?_ | refine TS.nil ?_ | refine TS.n0 rfl (fun _ _ h => h) rfl rfl rfl ?_ | refine TS.n1 rfl (fun _ _ h => h) rfl rfl rfl ?_ | refine TS.n2 rfl rfl rfl rfl ?_ | refine TS.w1 rfl rfl rfl rfl rfl rfl rfl rfl rfl rfl rfl rfl ?_ | fail))
    refine Tri.ret (retV rfl ?_)
    rfl
theorem common_fn (w h : Int) (a u : List Int) (w' h' : Int) (a' u' : List Int) : FnV env 10 [fig w h a u, fig w' h' a' u'] (bif alike w h a u w' h' a' u' then figOf w h (setOf w h a u &&& setOf w' h' a' u') else noFig) := by
  refine Fn.vs (E := env) 19 Tryd.func10 rfl (by kernel_rfl) rfl rfl ?_
  (repeat' (first | refine TriOps.v1 rfl rfl rfl rfl True.intro ?_ | refine TriOps.nil ?_ | refine Tri.region ?_ | refine Tri.seq ?_ | refine Tri.block ?_ | refine Tri.skip ?_ | refine Tri.exit ?_ | refine TriOps.s1 rfl rfl rfl ?_ | refine TriOps.b1 rfl rfl rfl rfl rfl rfl ?_ | refine TriOps.a1 rfl rfl rfl rfl rfl rfl rfl ?_ | refine TriOps.w1 rfl rfl rfl rfl rfl rfl rfl rfl rfl ?_ | fail))
  refine TriOps.c1 rfl rfl rfl rfl rfl (areAlike_fn _ _ _ _ _ _ _ _) rfl ?_
  (repeat' (first | refine TriOps.v1 rfl rfl rfl rfl True.intro ?_ | refine TriOps.nil ?_ | refine Tri.region ?_ | refine Tri.seq ?_ | refine Tri.block ?_ | refine Tri.skip ?_ | refine Tri.exit ?_ | refine TriOps.s1 rfl rfl rfl ?_ | refine TriOps.b1 rfl rfl rfl rfl rfl rfl ?_ | refine TriOps.a1 rfl rfl rfl rfl rfl rfl rfl ?_ | refine TriOps.w1 rfl rfl rfl rfl rfl rfl rfl rfl rfl ?_ | fail))
  refine Tri.cond rfl (fun hc => ?_) (fun hc => ?_)
  · have hc : alike w h a u w' h' a' u' = false := by simpa using hc
    rw [hc]
    (repeat' (first | refine TriOps.v1 rfl rfl rfl rfl True.intro ?_ | refine TriOps.nil ?_ | refine Tri.region ?_ | refine Tri.seq ?_ | refine Tri.block ?_ | refine Tri.skip ?_ | refine Tri.exit ?_ | refine TriOps.s1 rfl rfl rfl ?_ | refine TriOps.b1 rfl rfl rfl rfl rfl rfl ?_ | refine TriOps.a1 rfl rfl rfl rfl rfl rfl rfl ?_ | refine TriOps.w1 rfl rfl rfl rfl rfl rfl rfl rfl rfl ?_ | fail))
    refine Tri.ret (retL rfl noFig_le)
  · have hc : alike w h a u w' h' a' u' = true := by simpa using hc
    rw [hc]
    obtain ⟨f1, f2, rfl, rfl⟩ := alike_of hc
    have l1 := f1.lt64
    have l2 := f2.lt64
    (repeat' (first | refine TriOps.v1 rfl rfl rfl rfl True.intro ?_ | refine TriOps.nil ?_ | refine Tri.region ?_ | refine Tri.seq ?_ | refine Tri.block ?_ | refine Tri.skip ?_ | refine Tri.exit ?_ | refine TriOps.s1 rfl rfl rfl ?_ | refine TriOps.b1 rfl rfl rfl rfl rfl rfl ?_ | refine TriOps.a1 rfl rfl rfl rfl rfl rfl rfl ?_ | refine TriOps.w1 rfl rfl rfl rfl rfl rfl rfl rfl rfl ?_ | fail))
    refine Tri.dz [.loc 2, .loc 3] [(0, 1), (2, 1), (4, 1), (1, 2), (3, 2), (5, 2), (6, 0), (7, 2), (8, 2), (9, 0)] (by kernel_rfl) rfl ?_
    (repeat' (first | refine TS.v1 rfl (fun _ _ h => h) rfl rfl rfl rfl rfl True.intro ?_ | refine TS.t1 rfl (fun _ _ h => h) rfl rfl rfl rfl rfl True.intro ?_ | refine TS.nil ?_ | refine TS.n0 rfl (fun _ _ h => h) rfl rfl rfl ?_ | refine TS.n1 rfl (fun _ _ h => h) rfl rfl rfl ?_ | refine TS.n2 rfl rfl rfl rfl ?_ | refine TS.w1 rfl rfl rfl rfl rfl rfl rfl rfl rfl rfl rfl rfl ?_ | fail))
    refine TS.c1 rfl rfl rfl rfl rfl rfl rfl (grid_fn _ _ _ _) rfl ?_
    refine TS.c1 rfl rfl rfl rfl rfl rfl rfl (set_fn _ _ _ _ f1.bw f1.bh f1.ba f1.bu) rfl ?_
    refine TS.c1 rfl rfl rfl rfl rfl rfl rfl (set_fn _ _ _ _ f2.bw f2.bh f2.ba f2.bu) rfl ?_
    refine TS.u1 rfl (fun _ _ h => h) rfl rfl rfl rfl rfl rfl rfl l1 l2 ?_
    refine TS.m1 rfl rfl rfl rfl rfl rfl rfl rfl (figure_fn _ _ _ f1.bw f1.bh (Nat.lt_of_le_of_lt Nat.and_le_left l1)) rfl ?_
    (repeat' (first | refine TS.v1 rfl (fun _ _ h => h) rfl rfl rfl rfl rfl True.intro ?_ | refine TS.t1 rfl (fun _ _ h => h) rfl rfl rfl rfl rfl True.intro ?_ | refine TS.nil ?_ | refine TS.n0 rfl (fun _ _ h => h) rfl rfl rfl ?_ | refine TS.n1 rfl (fun _ _ h => h) rfl rfl rfl ?_ | refine TS.n2 rfl rfl rfl rfl ?_ | refine TS.w1 rfl rfl rfl rfl rfl rfl rfl rfl rfl rfl rfl rfl ?_ | fail))
    refine Tri.ret (retV rfl ?_)
    rfl
theorem less_fn (w h : Int) (a u : List Int) (w' h' : Int) (a' u' : List Int) : FnV env 12 [fig w h a u, fig w' h' a' u'] (bif alike w h a u w' h' a' u' then figOf w h (setOf w h a u ^^^ (setOf w h a u &&& setOf w' h' a' u')) else noFig) := by
  refine Fn.vs (E := env) 19 Tryd.func12 rfl (by kernel_rfl) rfl rfl ?_
  (repeat' (first | refine TriOps.v1 rfl rfl rfl rfl True.intro ?_ | refine TriOps.nil ?_ | refine Tri.region ?_ | refine Tri.seq ?_ | refine Tri.block ?_ | refine Tri.skip ?_ | refine Tri.exit ?_ | refine TriOps.s1 rfl rfl rfl ?_ | refine TriOps.b1 rfl rfl rfl rfl rfl rfl ?_ | refine TriOps.a1 rfl rfl rfl rfl rfl rfl rfl ?_ | refine TriOps.w1 rfl rfl rfl rfl rfl rfl rfl rfl rfl ?_ | fail))
  refine TriOps.c1 rfl rfl rfl rfl rfl (areAlike_fn _ _ _ _ _ _ _ _) rfl ?_
  (repeat' (first | refine TriOps.v1 rfl rfl rfl rfl True.intro ?_ | refine TriOps.nil ?_ | refine Tri.region ?_ | refine Tri.seq ?_ | refine Tri.block ?_ | refine Tri.skip ?_ | refine Tri.exit ?_ | refine TriOps.s1 rfl rfl rfl ?_ | refine TriOps.b1 rfl rfl rfl rfl rfl rfl ?_ | refine TriOps.a1 rfl rfl rfl rfl rfl rfl rfl ?_ | refine TriOps.w1 rfl rfl rfl rfl rfl rfl rfl rfl rfl ?_ | fail))
  refine Tri.cond rfl (fun hc => ?_) (fun hc => ?_)
  · have hc : alike w h a u w' h' a' u' = false := by simpa using hc
    rw [hc]
    (repeat' (first | refine TriOps.v1 rfl rfl rfl rfl True.intro ?_ | refine TriOps.nil ?_ | refine Tri.region ?_ | refine Tri.seq ?_ | refine Tri.block ?_ | refine Tri.skip ?_ | refine Tri.exit ?_ | refine TriOps.s1 rfl rfl rfl ?_ | refine TriOps.b1 rfl rfl rfl rfl rfl rfl ?_ | refine TriOps.a1 rfl rfl rfl rfl rfl rfl rfl ?_ | refine TriOps.w1 rfl rfl rfl rfl rfl rfl rfl rfl rfl ?_ | fail))
    refine Tri.ret (retL rfl noFig_le)
  · have hc : alike w h a u w' h' a' u' = true := by simpa using hc
    rw [hc]
    obtain ⟨f1, f2, rfl, rfl⟩ := alike_of hc
    have l1 := f1.lt64
    have l2 := f2.lt64
    (repeat' (first | refine TriOps.v1 rfl rfl rfl rfl True.intro ?_ | refine TriOps.nil ?_ | refine Tri.region ?_ | refine Tri.seq ?_ | refine Tri.block ?_ | refine Tri.skip ?_ | refine Tri.exit ?_ | refine TriOps.s1 rfl rfl rfl ?_ | refine TriOps.b1 rfl rfl rfl rfl rfl rfl ?_ | refine TriOps.a1 rfl rfl rfl rfl rfl rfl rfl ?_ | refine TriOps.w1 rfl rfl rfl rfl rfl rfl rfl rfl rfl ?_ | fail))
    refine Tri.dz [.loc 2, .loc 3] [(0, 1), (2, 1), (4, 1), (1, 2), (3, 2), (5, 2), (6, 0), (7, 2), (8, 2), (9, 0)] (by kernel_rfl) rfl ?_
    (repeat' (first | refine TS.v1 rfl (fun _ _ h => h) rfl rfl rfl rfl rfl True.intro ?_ | refine TS.t1 rfl (fun _ _ h => h) rfl rfl rfl rfl rfl True.intro ?_ | refine TS.nil ?_ | refine TS.n0 rfl (fun _ _ h => h) rfl rfl rfl ?_ | refine TS.n1 rfl (fun _ _ h => h) rfl rfl rfl ?_ | refine TS.n2 rfl rfl rfl rfl ?_ | refine TS.w1 rfl rfl rfl rfl rfl rfl rfl rfl rfl rfl rfl rfl ?_ | fail))
    refine TS.c1 rfl rfl rfl rfl rfl rfl rfl (grid_fn _ _ _ _) rfl ?_
    refine TS.c1 rfl rfl rfl rfl rfl rfl rfl (set_fn _ _ _ _ f1.bw f1.bh f1.ba f1.bu) rfl ?_
    refine TS.c1 rfl rfl rfl rfl rfl rfl rfl (set_fn _ _ _ _ f2.bw f2.bh f2.ba f2.bu) rfl ?_
    refine TS.u1 rfl (fun _ _ h => h) rfl rfl rfl rfl rfl rfl rfl l1 l2 ?_
    refine TS.m1 rfl rfl rfl rfl rfl rfl rfl rfl (figure_fn _ _ _ f1.bw f1.bh (Nat.xor_lt_two_pow (n := 64) l1 (Nat.lt_of_le_of_lt Nat.and_le_left l1))) rfl ?_
    (repeat' (first | refine TS.v1 rfl (fun _ _ h => h) rfl rfl rfl rfl rfl True.intro ?_ | refine TS.t1 rfl (fun _ _ h => h) rfl rfl rfl rfl rfl True.intro ?_ | refine TS.nil ?_ | refine TS.n0 rfl (fun _ _ h => h) rfl rfl rfl ?_ | refine TS.n1 rfl (fun _ _ h => h) rfl rfl rfl ?_ | refine TS.n2 rfl rfl rfl rfl ?_ | refine TS.w1 rfl rfl rfl rfl rfl rfl rfl rfl rfl rfl rfl rfl ?_ | fail))
    refine Tri.ret (retV rfl ?_)
    rfl
end Go.Proofs.YthmbdoegcpicbaaDoor.Abs

/-! ## C7 -/
namespace Go.Proofs.YthmbdoegcpicbaaDoor.Abs
open Go.Proofs
def allS (w h : Int) : Nat := 2 ^ (w * (h + 1) + h * (w + 1)).toNat - 1
theorem allS_lt {w h : Int} (hw : 1 ≤ w ∧ w ≤ 4) (hh : 1 ≤ h ∧ h ≤ 4) : allS w h < 18446744073709551616 := by
  have h1 := mul_bd hw hh
  have h2 := mul_bd hh hw
  have h3 : 2 ^ (w * (h + 1) + h * (w + 1)).toNat ≤ 2 ^ 40 := Nat.pow_le_pow_right (by omega) (by omega)
  unfold allS
  omega
theorem missing_fn (w h : Int) (a u : List Int) : FnV env 18 [fig w h a u] (bif isFig w h a u then figOf w h (allS w h ^^^ (allS w h &&& setOf w h a u)) else noFig) := by
  refine Fn.vs (E := env) 17 Tryd.func18 rfl (by kernel_rfl) rfl rfl ?_
  (repeat' (first | refine TriOps.v1 rfl rfl rfl rfl True.intro ?_ | refine TriOps.nil ?_ | refine Tri.region ?_ | refine Tri.seq ?_ | refine Tri.block ?_ | refine Tri.skip ?_ | refine Tri.exit ?_ | refine TriOps.s1 rfl rfl rfl ?_ | refine TriOps.b1 rfl rfl rfl rfl rfl rfl ?_ | refine TriOps.a1 rfl rfl rfl rfl rfl rfl rfl ?_ | refine TriOps.w1 rfl rfl rfl rfl rfl rfl rfl rfl rfl ?_ | fail))
  refine TriOps.c1 rfl rfl rfl rfl rfl (isFigure_fn _ _ _ _) rfl ?_
  (repeat' (first | refine TriOps.v1 rfl rfl rfl rfl True.intro ?_ | refine TriOps.nil ?_ | refine Tri.region ?_ | refine Tri.seq ?_ | refine Tri.block ?_ | refine Tri.skip ?_ | refine Tri.exit ?_ | refine TriOps.s1 rfl rfl rfl ?_ | refine TriOps.b1 rfl rfl rfl rfl rfl rfl ?_ | refine TriOps.a1 rfl rfl rfl rfl rfl rfl rfl ?_ | refine TriOps.w1 rfl rfl rfl rfl rfl rfl rfl rfl rfl ?_ | fail))
  refine Tri.cond rfl (fun hc => ?_) (fun hc => ?_)
  · have hc : isFig w h a u = false := by simpa using hc
    rw [hc]
    (repeat' (first | refine TriOps.v1 rfl rfl rfl rfl True.intro ?_ | refine TriOps.nil ?_ | refine Tri.region ?_ | refine Tri.seq ?_ | refine Tri.block ?_ | refine Tri.skip ?_ | refine Tri.exit ?_ | refine TriOps.s1 rfl rfl rfl ?_ | refine TriOps.b1 rfl rfl rfl rfl rfl rfl ?_ | refine TriOps.a1 rfl rfl rfl rfl rfl rfl rfl ?_ | refine TriOps.w1 rfl rfl rfl rfl rfl rfl rfl rfl rfl ?_ | fail))
    refine Tri.ret (retL rfl noFig_le)
  · have hc : isFig w h a u = true := by simpa using hc
    rw [hc]
    have f1 := isF_of hc
    have l1 := f1.lt64
    have l2 := allS_lt f1.bw f1.bh
    (repeat' (first | refine TriOps.v1 rfl rfl rfl rfl True.intro ?_ | refine TriOps.nil ?_ | refine Tri.region ?_ | refine Tri.seq ?_ | refine Tri.block ?_ | refine Tri.skip ?_ | refine Tri.exit ?_ | refine TriOps.s1 rfl rfl rfl ?_ | refine TriOps.b1 rfl rfl rfl rfl rfl rfl ?_ | refine TriOps.a1 rfl rfl rfl rfl rfl rfl rfl ?_ | refine TriOps.w1 rfl rfl rfl rfl rfl rfl rfl rfl rfl ?_ | fail))
    refine Tri.dz [.loc 1] [(0, 1), (2, 1), (5, 1), (1, 2), (3, 2), (4, 2), (6, 2), (7, 0), (8, 2), (9, 2), (10, 0)] (by kernel_rfl) rfl ?_
    (repeat' (first | refine TS.v1 rfl (fun _ _ h => h) rfl rfl rfl rfl rfl True.intro ?_ | refine TS.t1 rfl (fun _ _ h => h) rfl rfl rfl rfl rfl True.intro ?_ | refine TS.nil ?_ | refine TS.n0 rfl (fun _ _ h => h) rfl rfl rfl ?_ | refine TS.n1 rfl (fun _ _ h => h) rfl rfl rfl ?_ | refine TS.n2 rfl rfl rfl rfl ?_ | refine TS.w1 rfl rfl rfl rfl rfl rfl rfl rfl rfl rfl rfl rfl ?_ | fail))
    refine TS.c1 rfl rfl rfl rfl rfl rfl rfl (grid_fn _ _ _ _) rfl ?_
    refine TS.c1 rfl rfl rfl rfl rfl rfl rfl (grid_fn _ _ _ _) rfl ?_
    refine TS.c1 rfl rfl rfl rfl rfl rfl rfl (all_fn _ _ f1.bw f1.bh) rfl ?_
    refine TS.c1 rfl rfl rfl rfl rfl rfl rfl (set_fn _ _ _ _ f1.bw f1.bh f1.ba f1.bu) rfl ?_
    refine TS.u1 rfl (fun _ _ h => h) rfl rfl rfl (a := allS w h) rfl rfl rfl rfl l2 l1 ?_
    refine TS.m1 rfl rfl rfl rfl rfl rfl rfl rfl (figure_fn _ _ _ f1.bw f1.bh (Nat.xor_lt_two_pow (n := 64) l2 (Nat.lt_of_le_of_lt Nat.and_le_left l2))) rfl ?_
    (repeat' (first | refine TS.v1 rfl (fun _ _ h => h) rfl rfl rfl rfl rfl True.intro ?_ | refine TS.t1 rfl (fun _ _ h => h) rfl rfl rfl rfl rfl True.intro ?_ | refine TS.nil ?_ | refine TS.n0 rfl (fun _ _ h => h) rfl rfl rfl ?_ | refine TS.n1 rfl (fun _ _ h => h) rfl rfl rfl ?_ | refine TS.n2 rfl rfl rfl rfl ?_ | refine TS.w1 rfl rfl rfl rfl rfl rfl rfl rfl rfl rfl rfl rfl ?_ | fail))
    refine Tri.ret (retV rfl ?_)
    rfl
theorem empty_fn (w h : Int) : FnV env 24 [.d (.int .i64 w), .d (.int .i64 h)] (bif isGrid w h then figOf w h 0 else noFig) := by
  refine Fn.vs (E := env) 15 Tryd.func24 rfl (by kernel_rfl) rfl rfl ?_
  (repeat' (first | refine TriOps.v1 rfl rfl rfl rfl True.intro ?_ | refine TriOps.nil ?_ | refine Tri.region ?_ | refine Tri.seq ?_ | refine Tri.block ?_ | refine Tri.skip ?_ | refine Tri.exit ?_ | refine TriOps.s1 rfl rfl rfl ?_ | refine TriOps.b1 rfl rfl rfl rfl rfl rfl ?_ | refine TriOps.a1 rfl rfl rfl rfl rfl rfl rfl ?_ | refine TriOps.w1 rfl rfl rfl rfl rfl rfl rfl rfl rfl ?_ | fail))
  refine TriOps.c1 rfl rfl rfl rfl rfl (isGrid_fn _ _) rfl ?_
  (repeat' (first | refine TriOps.v1 rfl rfl rfl rfl True.intro ?_ | refine TriOps.nil ?_ | refine Tri.region ?_ | refine Tri.seq ?_ | refine Tri.block ?_ | refine Tri.skip ?_ | refine Tri.exit ?_ | refine TriOps.s1 rfl rfl rfl ?_ | refine TriOps.b1 rfl rfl rfl rfl rfl rfl ?_ | refine TriOps.a1 rfl rfl rfl rfl rfl rfl rfl ?_ | refine TriOps.w1 rfl rfl rfl rfl rfl rfl rfl rfl rfl ?_ | fail))
  refine Tri.cond rfl (fun hc => ?_) (fun hc => ?_)
  · have hc : isGrid w h = false := by simpa using hc
    rw [hc]
    (repeat' (first | refine TriOps.v1 rfl rfl rfl rfl True.intro ?_ | refine TriOps.nil ?_ | refine Tri.region ?_ | refine Tri.seq ?_ | refine Tri.block ?_ | refine Tri.skip ?_ | refine Tri.exit ?_ | refine TriOps.s1 rfl rfl rfl ?_ | refine TriOps.b1 rfl rfl rfl rfl rfl rfl ?_ | refine TriOps.a1 rfl rfl rfl rfl rfl rfl rfl ?_ | refine TriOps.w1 rfl rfl rfl rfl rfl rfl rfl rfl rfl ?_ | fail))
    refine Tri.ret (retL rfl noFig_le)
  · have hc : isGrid w h = true := by simpa using hc
    rw [hc]
    obtain ⟨bw, bh⟩ := isGrid_bd hc
    (repeat' (first | refine TriOps.v1 rfl rfl rfl rfl True.intro ?_ | refine TriOps.nil ?_ | refine Tri.region ?_ | refine Tri.seq ?_ | refine Tri.block ?_ | refine Tri.skip ?_ | refine Tri.exit ?_ | refine TriOps.s1 rfl rfl rfl ?_ | refine TriOps.b1 rfl rfl rfl rfl rfl rfl ?_ | refine TriOps.a1 rfl rfl rfl rfl rfl rfl rfl ?_ | refine TriOps.w1 rfl rfl rfl rfl rfl rfl rfl rfl rfl ?_ | fail))
    refine TriOps.m1 rfl rfl rfl rfl rfl rfl (figure_fn w h 0 bw bh (by omega)) rfl ?_
    (repeat' (first | refine TriOps.v1 rfl rfl rfl rfl True.intro ?_ | refine TriOps.nil ?_ | refine Tri.region ?_ | refine Tri.seq ?_ | refine Tri.block ?_ | refine Tri.skip ?_ | refine Tri.exit ?_ | refine TriOps.s1 rfl rfl rfl ?_ | refine TriOps.b1 rfl rfl rfl rfl rfl rfl ?_ | refine TriOps.a1 rfl rfl rfl rfl rfl rfl rfl ?_ | refine TriOps.w1 rfl rfl rfl rfl rfl rfl rfl rfl rfl ?_ | fail))
    refine Tri.ret (retV rfl ?_)
    rfl
theorem full_fn (w h : Int) : FnV env 23 [.d (.int .i64 w), .d (.int .i64 h)] (bif isGrid w h then figOf w h (allS w h) else noFig) := by
  refine Fn.vs (E := env) 19 Tryd.func23 rfl (by kernel_rfl) rfl rfl ?_
  (repeat' (first | refine TriOps.v1 rfl rfl rfl rfl True.intro ?_ | refine TriOps.nil ?_ | refine Tri.region ?_ | refine Tri.seq ?_ | refine Tri.block ?_ | refine Tri.skip ?_ | refine Tri.exit ?_ | refine TriOps.s1 rfl rfl rfl ?_ | refine TriOps.b1 rfl rfl rfl rfl rfl rfl ?_ | refine TriOps.a1 rfl rfl rfl rfl rfl rfl rfl ?_ | refine TriOps.w1 rfl rfl rfl rfl rfl rfl rfl rfl rfl ?_ | fail))
  refine TriOps.c1 rfl rfl rfl rfl rfl (isGrid_fn _ _) rfl ?_
  (repeat' (first | refine TriOps.v1 rfl rfl rfl rfl True.intro ?_ | refine TriOps.nil ?_ | refine Tri.region ?_ | refine Tri.seq ?_ | refine Tri.block ?_ | refine Tri.skip ?_ | refine Tri.exit ?_ | refine TriOps.s1 rfl rfl rfl ?_ | refine TriOps.b1 rfl rfl rfl rfl rfl rfl ?_ | refine TriOps.a1 rfl rfl rfl rfl rfl rfl rfl ?_ | refine TriOps.w1 rfl rfl rfl rfl rfl rfl rfl rfl rfl ?_ | fail))
  refine Tri.cond rfl (fun hc => ?_) (fun hc => ?_)
  · have hc : isGrid w h = false := by simpa using hc
    rw [hc]
    (repeat' (first | refine TriOps.v1 rfl rfl rfl rfl True.intro ?_ | refine TriOps.nil ?_ | refine Tri.region ?_ | refine Tri.seq ?_ | refine Tri.block ?_ | refine Tri.skip ?_ | refine Tri.exit ?_ | refine TriOps.s1 rfl rfl rfl ?_ | refine TriOps.b1 rfl rfl rfl rfl rfl rfl ?_ | refine TriOps.a1 rfl rfl rfl rfl rfl rfl rfl ?_ | refine TriOps.w1 rfl rfl rfl rfl rfl rfl rfl rfl rfl ?_ | fail))
    refine Tri.ret (retL rfl noFig_le)
  · have hc : isGrid w h = true := by simpa using hc
    rw [hc]
    obtain ⟨bw, bh⟩ := isGrid_bd hc
    (repeat' (first | refine TriOps.v1 rfl rfl rfl rfl True.intro ?_ | refine TriOps.nil ?_ | refine Tri.region ?_ | refine Tri.seq ?_ | refine Tri.block ?_ | refine Tri.skip ?_ | refine Tri.exit ?_ | refine TriOps.s1 rfl rfl rfl ?_ | refine TriOps.b1 rfl rfl rfl rfl rfl rfl ?_ | refine TriOps.a1 rfl rfl rfl rfl rfl rfl rfl ?_ | refine TriOps.w1 rfl rfl rfl rfl rfl rfl rfl rfl rfl ?_ | fail))
    refine TriOps.c1 rfl rfl rfl rfl rfl (all_fn w h bw bh) rfl ?_
    refine TriOps.m1 rfl rfl rfl rfl rfl rfl (figure_fn w h (allS w h) bw bh (allS_lt bw bh)) rfl ?_
    (repeat' (first | refine TriOps.v1 rfl rfl rfl rfl True.intro ?_ | refine TriOps.nil ?_ | refine Tri.region ?_ | refine Tri.seq ?_ | refine Tri.block ?_ | refine Tri.skip ?_ | refine Tri.exit ?_ | refine TriOps.s1 rfl rfl rfl ?_ | refine TriOps.b1 rfl rfl rfl rfl rfl rfl ?_ | refine TriOps.a1 rfl rfl rfl rfl rfl rfl rfl ?_ | refine TriOps.w1 rfl rfl rfl rfl rfl rfl rfl rfl rfl ?_ | fail))
    refine Tri.ret (retV rfl ?_)
    rfl
end Go.Proofs.YthmbdoegcpicbaaDoor.Abs
