/- The parts of the proof from 'C8' to 'C21': Contracts: the reference's figures. Conditions: none beyond those that each contract bears. -/
import Derived.Test.YthmbdoegcpicbaaDoorK2
set_option linter.unusedVariables false
set_option linter.unusedSimpArgs false

/-! ## C8 -/
namespace Go.Proofs.YthmbdoegcpicbaaDoor.Abs
open Go.Proofs
theorem l1In_fn (n lo hi : Int) : FnV env 103 [.d (.int .i64 n), .d (.int .i64 lo), .d (.int .i64 hi)] (.d (.bool (inB lo hi n))) := by
  refine Fn.vs (E := env) 15 Tryd.func103 rfl (by kernel_rfl) rfl rfl ?_
  (repeat' (first | refine TriOps.v1 rfl rfl rfl rfl True.intro ?_ | refine TriOps.nil ?_ | refine Tri.region ?_ | refine Tri.seq ?_ | refine Tri.block ?_ | refine Tri.skip ?_ | refine Tri.exit ?_ | refine TriOps.s1 rfl rfl rfl ?_ | refine TriOps.b1 rfl rfl rfl rfl rfl rfl ?_ | refine TriOps.a1 rfl rfl rfl rfl rfl rfl rfl ?_ | refine TriOps.w1 rfl rfl rfl rfl rfl rfl rfl rfl rfl ?_ | fail))
  refine TriOps.g1 rfl rfl rfl (fun hg => ?_) (fun hg => ?_)
  · have hg : decide (lo ≤ n) = true := hg
    rw [inB, hg]
    (repeat' (first | refine TriOps.v1 rfl rfl rfl rfl True.intro ?_ | refine TriOps.nil ?_ | refine Tri.region ?_ | refine Tri.seq ?_ | refine Tri.block ?_ | refine Tri.skip ?_ | refine Tri.exit ?_ | refine TriOps.s1 rfl rfl rfl ?_ | refine TriOps.b1 rfl rfl rfl rfl rfl rfl ?_ | refine TriOps.a1 rfl rfl rfl rfl rfl rfl rfl ?_ | refine TriOps.w1 rfl rfl rfl rfl rfl rfl rfl rfl rfl ?_ | fail))
    refine Tri.ret (retV rfl rfl)
  · have hg : decide (lo ≤ n) = false := hg
    rw [inB, hg]
    (repeat' (first | refine TriOps.v1 rfl rfl rfl rfl True.intro ?_ | refine TriOps.nil ?_ | refine Tri.region ?_ | refine Tri.seq ?_ | refine Tri.block ?_ | refine Tri.skip ?_ | refine Tri.exit ?_ | refine TriOps.s1 rfl rfl rfl ?_ | refine TriOps.b1 rfl rfl rfl rfl rfl rfl ?_ | refine TriOps.a1 rfl rfl rfl rfl rfl rfl rfl ?_ | refine TriOps.w1 rfl rfl rfl rfl rfl rfl rfl rfl rfl ?_ | fail))
    refine Tri.ret (retV rfl rfl)
theorem fiGrid_fn (w h : Int) : FnV env 71 [.d (.int .i64 w), .d (.int .i64 h)] (.d (.bool (isGrid w h))) := by
  refine Fn.vs (E := env) 11 Tryd.func71 rfl (by kernel_rfl) rfl rfl ?_
  (repeat' (first | refine TriOps.v1 rfl rfl rfl rfl True.intro ?_ | refine TriOps.nil ?_ | refine Tri.region ?_ | refine Tri.seq ?_ | refine Tri.block ?_ | refine Tri.skip ?_ | refine Tri.exit ?_ | refine TriOps.s1 rfl rfl rfl ?_ | refine TriOps.b1 rfl rfl rfl rfl rfl rfl ?_ | refine TriOps.a1 rfl rfl rfl rfl rfl rfl rfl ?_ | refine TriOps.w1 rfl rfl rfl rfl rfl rfl rfl rfl rfl ?_ | fail))
  refine TriOps.c1 rfl rfl rfl rfl rfl (l1In_fn _ _ _) rfl ?_
  (repeat' (first | refine TriOps.v1 rfl rfl rfl rfl True.intro ?_ | refine TriOps.nil ?_ | refine Tri.region ?_ | refine Tri.seq ?_ | refine Tri.block ?_ | refine Tri.skip ?_ | refine Tri.exit ?_ | refine TriOps.s1 rfl rfl rfl ?_ | refine TriOps.b1 rfl rfl rfl rfl rfl rfl ?_ | refine TriOps.a1 rfl rfl rfl rfl rfl rfl rfl ?_ | refine TriOps.w1 rfl rfl rfl rfl rfl rfl rfl rfl rfl ?_ | fail))
  refine TriOps.g1 rfl rfl rfl (fun hg => ?_) (fun hg => ?_) <;> rw [isGrid, hg]
  · (repeat' (first | refine TriOps.v1 rfl rfl rfl rfl True.intro ?_ | refine TriOps.nil ?_ | refine Tri.region ?_ | refine Tri.seq ?_ | refine Tri.block ?_ | refine Tri.skip ?_ | refine Tri.exit ?_ | refine TriOps.s1 rfl rfl rfl ?_ | refine TriOps.b1 rfl rfl rfl rfl rfl rfl ?_ | refine TriOps.a1 rfl rfl rfl rfl rfl rfl rfl ?_ | refine TriOps.w1 rfl rfl rfl rfl rfl rfl rfl rfl rfl ?_ | fail))
    refine TriOps.c1 rfl rfl rfl rfl rfl (l1In_fn _ _ _) rfl ?_
    (repeat' (first | refine TriOps.v1 rfl rfl rfl rfl True.intro ?_ | refine TriOps.nil ?_ | refine Tri.region ?_ | refine Tri.seq ?_ | refine Tri.block ?_ | refine Tri.skip ?_ | refine Tri.exit ?_ | refine TriOps.s1 rfl rfl rfl ?_ | refine TriOps.b1 rfl rfl rfl rfl rfl rfl ?_ | refine TriOps.a1 rfl rfl rfl rfl rfl rfl rfl ?_ | refine TriOps.w1 rfl rfl rfl rfl rfl rfl rfl rfl rfl ?_ | fail))
    refine Tri.ret (retV rfl rfl)
  · (repeat' (first | refine TriOps.v1 rfl rfl rfl rfl True.intro ?_ | refine TriOps.nil ?_ | refine Tri.region ?_ | refine Tri.seq ?_ | refine Tri.block ?_ | refine Tri.skip ?_ | refine Tri.exit ?_ | refine TriOps.s1 rfl rfl rfl ?_ | refine TriOps.b1 rfl rfl rfl rfl rfl rfl ?_ | refine TriOps.a1 rfl rfl rfl rfl rfl rfl rfl ?_ | refine TriOps.w1 rfl rfl rfl rfl rfl rfl rfl rfl rfl ?_ | fail))
    refine Tri.ret (retV rfl rfl)
theorem all_of_getD {p : Int → Bool} {l : List Int} (h : ∀ j, j < l.length → p (l.getD j 0) = true) : l.all p = true := by
  rw [List.all_eq_true]
  intro x hx
  obtain ⟨j, hj, rfl⟩ := List.getElem_of_mem hx
  have := h j hj
  rwa [List.getD_eq_getElem?_getD, List.getElem?_eq_getElem hj] at this
theorem not_all_of_getD {p : Int → Bool} {l : List Int} {j : Nat} (hj : j < l.length) (h : p (l.getD j 0) = false) : l.all p = false := by
  rw [List.all_eq_false]
  exact ⟨_, getD_mem hj, by rw [h]; simp⟩
theorem l1All_fn (l : List Int) (lo hi : Int) : FnV env 127 [.d (.ints .i64 l), .d (.int .i64 lo), .d (.int .i64 hi)] (.d (.bool (areIn lo hi l))) := by
  refine Fn.vs (E := env) 21 Tryd.func127 rfl (by kernel_rfl) rfl rfl ?_
  refine Tri.bnd 0 (fun hl => ?_)
  have hl : l.length ≤ 9223372036854775807 := hl
  (repeat' (first | refine TriOps.v1 rfl rfl rfl rfl True.intro ?_ | refine TriOps.nil ?_ | refine Tri.region ?_ | refine Tri.seq ?_ | refine Tri.block ?_ | refine Tri.skip ?_ | refine Tri.exit ?_ | refine TriOps.s1 rfl rfl rfl ?_ | refine TriOps.b1 rfl rfl rfl rfl rfl rfl ?_ | refine TriOps.a1 rfl rfl rfl rfl rfl rfl rfl ?_ | refine TriOps.w1 rfl rfl rfl rfl rfl rfl rfl rfl rfl ?_ | fail))
  refine Tri.loopI (fun i : Nat => i ≤ l.length ∧ ∀ j, j < i → inB lo hi (l.getD j 0) = true) (fun i => stt 21 [(1, .d (.int .i64 lo)), (2, .d (.int .i64 hi)), (9, .d (.ints .i64 l)), (10, .d (.int .i64 l.length)), (11, .d (.int .i64 i))]) (fun i => l.length - i) 0 ⟨by omega, fun j hj => by omega⟩ (Wk.to rfl ⟨rfl, rfl, rfl, rfl, rfl, trivial⟩ trivial trivial) ?_
  rintro i ⟨h1, h3⟩
  (repeat' (first | refine TriOps.v1 rfl rfl rfl rfl True.intro ?_ | refine TriOps.nil ?_ | refine Tri.region ?_ | refine Tri.seq ?_ | refine Tri.block ?_ | refine Tri.skip ?_ | refine Tri.exit ?_ | refine TriOps.s1 rfl rfl rfl ?_ | refine TriOps.b1 rfl rfl rfl rfl rfl rfl ?_ | refine TriOps.a1 rfl rfl rfl rfl rfl rfl rfl ?_ | refine TriOps.w1 rfl rfl rfl rfl rfl rfl rfl rfl rfl ?_ | fail))
  refine Tri.cond rfl (fun hc => ?_) (fun hc => ?_)
  · have hc : (i : Int) < l.length := of_decide_eq_true hc
    (repeat' (first | refine TriOps.v1 rfl rfl rfl rfl True.intro ?_ | refine TriOps.nil ?_ | refine Tri.region ?_ | refine Tri.seq ?_ | refine Tri.block ?_ | refine Tri.skip ?_ | refine Tri.exit ?_ | refine TriOps.s1 rfl rfl rfl ?_ | refine TriOps.b1 rfl rfl rfl rfl rfl rfl ?_ | refine TriOps.a1 rfl rfl rfl rfl rfl rfl rfl ?_ | refine TriOps.w1 rfl rfl rfl rfl rfl rfl rfl rfl rfl ?_ | fail))
    refine TriOps.v1 rfl rfl rfl rfl ⟨by omega, by exact hc⟩ ?_
    (repeat' (first | refine TriOps.v1 rfl rfl rfl rfl True.intro ?_ | refine TriOps.nil ?_ | refine Tri.region ?_ | refine Tri.seq ?_ | refine Tri.block ?_ | refine Tri.skip ?_ | refine Tri.exit ?_ | refine TriOps.s1 rfl rfl rfl ?_ | refine TriOps.b1 rfl rfl rfl rfl rfl rfl ?_ | refine TriOps.a1 rfl rfl rfl rfl rfl rfl rfl ?_ | refine TriOps.w1 rfl rfl rfl rfl rfl rfl rfl rfl rfl ?_ | fail))
    refine TriOps.c1 rfl rfl rfl rfl rfl (l1In_fn _ _ _) rfl ?_
    (repeat' (first | refine TriOps.v1 rfl rfl rfl rfl True.intro ?_ | refine TriOps.nil ?_ | refine Tri.region ?_ | refine Tri.seq ?_ | refine Tri.block ?_ | refine Tri.skip ?_ | refine Tri.exit ?_ | refine TriOps.s1 rfl rfl rfl ?_ | refine TriOps.b1 rfl rfl rfl rfl rfl rfl ?_ | refine TriOps.a1 rfl rfl rfl rfl rfl rfl rfl ?_ | refine TriOps.w1 rfl rfl rfl rfl rfl rfl rfl rfl rfl ?_ | fail))
    refine Tri.cond rfl (fun hd => ?_) (fun hd => ?_)
    · have hd : inB lo hi (l.getD i 0) = false := by simpa using hd
      (repeat' (first | refine TriOps.v1 rfl rfl rfl rfl True.intro ?_ | refine TriOps.nil ?_ | refine Tri.region ?_ | refine Tri.seq ?_ | refine Tri.block ?_ | refine Tri.skip ?_ | refine Tri.exit ?_ | refine TriOps.s1 rfl rfl rfl ?_ | refine TriOps.b1 rfl rfl rfl rfl rfl rfl ?_ | refine TriOps.a1 rfl rfl rfl rfl rfl rfl rfl ?_ | refine TriOps.w1 rfl rfl rfl rfl rfl rfl rfl rfl rfl ?_ | fail))
      refine Tri.ret (retV rfl ?_)
      rw [areIn, not_all_of_getD (by omega) hd]
      rfl
    · have hd : inB lo hi (l.getD i 0) = true := by simpa using hd
      (repeat' (first | refine TriOps.v1 rfl rfl rfl rfl True.intro ?_ | refine TriOps.nil ?_ | refine Tri.region ?_ | refine Tri.seq ?_ | refine Tri.block ?_ | refine Tri.skip ?_ | refine Tri.exit ?_ | refine TriOps.s1 rfl rfl rfl ?_ | refine TriOps.b1 rfl rfl rfl rfl rfl rfl ?_ | refine TriOps.a1 rfl rfl rfl rfl rfl rfl rfl ?_ | refine TriOps.w1 rfl rfl rfl rfl rfl rfl rfl rfl rfl ?_ | fail))
      refine TriOps.v1 rfl rfl rfl rfl (by first | exact True.intro | exact inR_i64 (by omega) (by omega) | omega | (refine ⟨?_, ?_⟩ <;> omega)) ?_
      (repeat' (first | refine TriOps.v1 rfl rfl rfl rfl True.intro ?_ | refine TriOps.nil ?_ | refine Tri.region ?_ | refine Tri.seq ?_ | refine Tri.block ?_ | refine Tri.skip ?_ | refine Tri.exit ?_ | refine TriOps.s1 rfl rfl rfl ?_ | refine TriOps.b1 rfl rfl rfl rfl rfl rfl ?_ | refine TriOps.a1 rfl rfl rfl rfl rfl rfl rfl ?_ | refine TriOps.w1 rfl rfl rfl rfl rfl rfl rfl rfl rfl ?_ | fail))
      refine ⟨i + 1, ⟨by omega, fun j hj => ?_⟩, by omega, Wk.to rfl ⟨rfl, rfl, rfl, rfl, rfl, trivial⟩ trivial trivial⟩
      rcases Nat.lt_or_ge j i with h | h
      · exact h3 j h
      · obtain rfl : j = i := by omega
        exact hd
  · have hc : ¬ (i : Int) < l.length := of_decide_eq_false hc
    (repeat' (first | refine TriOps.v1 rfl rfl rfl rfl True.intro ?_ | refine TriOps.nil ?_ | refine Tri.region ?_ | refine Tri.seq ?_ | refine Tri.block ?_ | refine Tri.skip ?_ | refine Tri.exit ?_ | refine TriOps.s1 rfl rfl rfl ?_ | refine TriOps.b1 rfl rfl rfl rfl rfl rfl ?_ | refine TriOps.a1 rfl rfl rfl rfl rfl rfl rfl ?_ | refine TriOps.w1 rfl rfl rfl rfl rfl rfl rfl rfl rfl ?_ | fail))
    refine Tri.ret (retV rfl ?_)
    rw [areIn, all_of_getD (fun j hj => h3 j (by omega))]
    rfl
def fiRises (most : Int) (l : List Int) : Bool := bif decide ((l.length : Int) > most + 1) || !areIn 0 most l then false else rising l
theorem fiRises_fn (l : List Int) (most : Int) (hm : -1 ≤ most ∧ most ≤ 1000) : FnV env 97 [.d (.ints .i64 l), .d (.int .i64 most)] (.d (.bool (fiRises most l))) := by
  refine Fn.vs (E := env) 33 Tryd.func97 rfl (by kernel_rfl) rfl rfl ?_
  refine Tri.bnd 0 (fun hl => ?_)
  have hl : l.length ≤ 9223372036854775807 := hl
  (repeat' (first | refine TriOps.v1 rfl rfl rfl rfl True.intro ?_ | refine TriOps.nil ?_ | refine Tri.region ?_ | refine Tri.seq ?_ | refine Tri.block ?_ | refine Tri.skip ?_ | refine Tri.exit ?_ | refine TriOps.s1 rfl rfl rfl ?_ | refine TriOps.b1 rfl rfl rfl rfl rfl rfl ?_ | refine TriOps.a1 rfl rfl rfl rfl rfl rfl rfl ?_ | refine TriOps.w1 rfl rfl rfl rfl rfl rfl rfl rfl rfl ?_ | fail))
  refine TriOps.v1 rfl rfl rfl rfl (by first | exact True.intro | exact inR_i64 (by omega) (by omega) | omega | (refine ⟨?_, ?_⟩ <;> omega)) ?_
  (repeat' (first | refine TriOps.v1 rfl rfl rfl rfl True.intro ?_ | refine TriOps.nil ?_ | refine Tri.region ?_ | refine Tri.seq ?_ | refine Tri.block ?_ | refine Tri.skip ?_ | refine Tri.exit ?_ | refine TriOps.s1 rfl rfl rfl ?_ | refine TriOps.b1 rfl rfl rfl rfl rfl rfl ?_ | refine TriOps.a1 rfl rfl rfl rfl rfl rfl rfl ?_ | refine TriOps.w1 rfl rfl rfl rfl rfl rfl rfl rfl rfl ?_ | fail))
  refine TriOps.g1 rfl rfl rfl (fun hg => ?_) (fun hg => ?_)
  · have hg : decide ((l.length : Int) > most + 1) = true := hg
    rw [fiRises, hg]
    (repeat' (first | refine TriOps.v1 rfl rfl rfl rfl True.intro ?_ | refine TriOps.nil ?_ | refine Tri.region ?_ | refine Tri.seq ?_ | refine Tri.block ?_ | refine Tri.skip ?_ | refine Tri.exit ?_ | refine TriOps.s1 rfl rfl rfl ?_ | refine TriOps.b1 rfl rfl rfl rfl rfl rfl ?_ | refine TriOps.a1 rfl rfl rfl rfl rfl rfl rfl ?_ | refine TriOps.w1 rfl rfl rfl rfl rfl rfl rfl rfl rfl ?_ | fail))
    refine Tri.cond rfl (fun hc => ?_) (fun hc => ?_)
    · (repeat' (first | refine TriOps.v1 rfl rfl rfl rfl True.intro ?_ | refine TriOps.nil ?_ | refine Tri.region ?_ | refine Tri.seq ?_ | refine Tri.block ?_ | refine Tri.skip ?_ | refine Tri.exit ?_ | refine TriOps.s1 rfl rfl rfl ?_ | refine TriOps.b1 rfl rfl rfl rfl rfl rfl ?_ | refine TriOps.a1 rfl rfl rfl rfl rfl rfl rfl ?_ | refine TriOps.w1 rfl rfl rfl rfl rfl rfl rfl rfl rfl ?_ | fail))
      refine Tri.ret (retV rfl rfl)
    · cases hc
  · have hg : decide ((l.length : Int) > most + 1) = false := hg
    rw [fiRises, hg]
    (repeat' (first | refine TriOps.v1 rfl rfl rfl rfl True.intro ?_ | refine TriOps.nil ?_ | refine Tri.region ?_ | refine Tri.seq ?_ | refine Tri.block ?_ | refine Tri.skip ?_ | refine Tri.exit ?_ | refine TriOps.s1 rfl rfl rfl ?_ | refine TriOps.b1 rfl rfl rfl rfl rfl rfl ?_ | refine TriOps.a1 rfl rfl rfl rfl rfl rfl rfl ?_ | refine TriOps.w1 rfl rfl rfl rfl rfl rfl rfl rfl rfl ?_ | fail))
    refine TriOps.c1 rfl rfl rfl rfl rfl (l1All_fn _ _ _) rfl ?_
    (repeat' (first | refine TriOps.v1 rfl rfl rfl rfl True.intro ?_ | refine TriOps.nil ?_ | refine Tri.region ?_ | refine Tri.seq ?_ | refine Tri.block ?_ | refine Tri.skip ?_ | refine Tri.exit ?_ | refine TriOps.s1 rfl rfl rfl ?_ | refine TriOps.b1 rfl rfl rfl rfl rfl rfl ?_ | refine TriOps.a1 rfl rfl rfl rfl rfl rfl rfl ?_ | refine TriOps.w1 rfl rfl rfl rfl rfl rfl rfl rfl rfl ?_ | fail))
    refine Tri.cond rfl (fun hc => ?_) (fun hc => ?_)
    · have hc : (!areIn 0 most l) = true := hc
      rw [hc]
      (repeat' (first | refine TriOps.v1 rfl rfl rfl rfl True.intro ?_ | refine TriOps.nil ?_ | refine Tri.region ?_ | refine Tri.seq ?_ | refine Tri.block ?_ | refine Tri.skip ?_ | refine Tri.exit ?_ | refine TriOps.s1 rfl rfl rfl ?_ | refine TriOps.b1 rfl rfl rfl rfl rfl rfl ?_ | refine TriOps.a1 rfl rfl rfl rfl rfl rfl rfl ?_ | refine TriOps.w1 rfl rfl rfl rfl rfl rfl rfl rfl rfl ?_ | fail))
      refine Tri.ret (retV rfl rfl)
    · have hc : (!areIn 0 most l) = false := hc
      rw [hc]
      (repeat' (first | refine TriOps.v1 rfl rfl rfl rfl True.intro ?_ | refine TriOps.nil ?_ | refine Tri.region ?_ | refine Tri.seq ?_ | refine Tri.block ?_ | refine Tri.skip ?_ | refine Tri.exit ?_ | refine TriOps.s1 rfl rfl rfl ?_ | refine TriOps.b1 rfl rfl rfl rfl rfl rfl ?_ | refine TriOps.a1 rfl rfl rfl rfl rfl rfl rfl ?_ | refine TriOps.w1 rfl rfl rfl rfl rfl rfl rfl rfl rfl ?_ | fail))
      refine Tri.loopI (fun i : Nat => (1 ≤ i ∧ (i ≤ 1 ∨ i ≤ l.length)) ∧ ∀ j, j + 1 < i → l.getD j 0 < l.getD (j + 1) 0) (fun i => stt 33 [(0, .d (.ints .i64 l)), (5, .d (.int .i64 i))]) (fun i => l.length + 1 - i) 1 ⟨by omega, fun j hj => by omega⟩ (Wk.to rfl ⟨rfl, rfl, trivial⟩ trivial trivial) ?_
      rintro i ⟨h1, h3⟩
      (repeat' (first | refine TriOps.v1 rfl rfl rfl rfl True.intro ?_ | refine TriOps.nil ?_ | refine Tri.region ?_ | refine Tri.seq ?_ | refine Tri.block ?_ | refine Tri.skip ?_ | refine Tri.exit ?_ | refine TriOps.s1 rfl rfl rfl ?_ | refine TriOps.b1 rfl rfl rfl rfl rfl rfl ?_ | refine TriOps.a1 rfl rfl rfl rfl rfl rfl rfl ?_ | refine TriOps.w1 rfl rfl rfl rfl rfl rfl rfl rfl rfl ?_ | fail))
      refine Tri.cond rfl (fun hc => ?_) (fun hc => ?_)
      · have hc : (i : Int) < l.length := of_decide_eq_true hc
        (repeat' (first | refine TriOps.v1 rfl rfl rfl rfl True.intro ?_ | refine TriOps.nil ?_ | refine Tri.region ?_ | refine Tri.seq ?_ | refine Tri.block ?_ | refine Tri.skip ?_ | refine Tri.exit ?_ | refine TriOps.s1 rfl rfl rfl ?_ | refine TriOps.b1 rfl rfl rfl rfl rfl rfl ?_ | refine TriOps.a1 rfl rfl rfl rfl rfl rfl rfl ?_ | refine TriOps.w1 rfl rfl rfl rfl rfl rfl rfl rfl rfl ?_ | fail))
        refine Tri.dz [] [(0, 0), (1, 0), (2, 0), (3, 0), (4, 1), (5, 0), (6, 0), (7, 0), (8, 1), (9, 0)] (by kernel_rfl) rfl ?_
        (repeat' (first | refine TS.v1 rfl (fun _ _ h => h) rfl rfl rfl rfl rfl True.intro ?_ | refine TS.t1 rfl (fun _ _ h => h) rfl rfl rfl rfl rfl True.intro ?_ | refine TS.nil ?_ | refine TS.n0 rfl (fun _ _ h => h) rfl rfl rfl ?_ | refine TS.n1 rfl (fun _ _ h => h) rfl rfl rfl ?_ | refine TS.n2 rfl rfl rfl rfl ?_ | refine TS.w1 rfl rfl rfl rfl rfl rfl rfl rfl rfl rfl rfl rfl ?_ | fail))
        refine TS.v1 rfl (fun _ _ h => h) rfl rfl rfl rfl rfl (by first | exact True.intro | exact inR_i64 (by omega) (by omega) | omega | (refine ⟨?_, ?_⟩ <;> omega)) ?_
        refine TS.v1 rfl (fun _ _ h => h) rfl rfl rfl rfl rfl ⟨by omega, by show (i : Int) - 1 < l.length; omega⟩ ?_
        (repeat' (first | refine TS.v1 rfl (fun _ _ h => h) rfl rfl rfl rfl rfl True.intro ?_ | refine TS.t1 rfl (fun _ _ h => h) rfl rfl rfl rfl rfl True.intro ?_ | refine TS.nil ?_ | refine TS.n0 rfl (fun _ _ h => h) rfl rfl rfl ?_ | refine TS.n1 rfl (fun _ _ h => h) rfl rfl rfl ?_ | refine TS.n2 rfl rfl rfl rfl ?_ | refine TS.w1 rfl rfl rfl rfl rfl rfl rfl rfl rfl rfl rfl rfl ?_ | fail))
        refine TS.v1 rfl (fun _ _ h => h) rfl rfl rfl rfl rfl ⟨by omega, by exact hc⟩ ?_
        (repeat' (first | refine TS.v1 rfl (fun _ _ h => h) rfl rfl rfl rfl rfl True.intro ?_ | refine TS.t1 rfl (fun _ _ h => h) rfl rfl rfl rfl rfl True.intro ?_ | refine TS.nil ?_ | refine TS.n0 rfl (fun _ _ h => h) rfl rfl rfl ?_ | refine TS.n1 rfl (fun _ _ h => h) rfl rfl rfl ?_ | refine TS.n2 rfl rfl rfl rfl ?_ | refine TS.w1 rfl rfl rfl rfl rfl rfl rfl rfl rfl rfl rfl rfl ?_ | fail))
        refine Tri.cond rfl (fun hd => ?_) (fun hd => ?_)
        · have hd := of_decide_eq_true hd
          (repeat' (first | refine TriOps.v1 rfl rfl rfl rfl True.intro ?_ | refine TriOps.nil ?_ | refine Tri.region ?_ | refine Tri.seq ?_ | refine Tri.block ?_ | refine Tri.skip ?_ | refine Tri.exit ?_ | refine TriOps.s1 rfl rfl rfl ?_ | refine TriOps.b1 rfl rfl rfl rfl rfl rfl ?_ | refine TriOps.a1 rfl rfl rfl rfl rfl rfl rfl ?_ | refine TriOps.w1 rfl rfl rfl rfl rfl rfl rfl rfl rfl ?_ | fail))
          refine Tri.ret (retV rfl ?_)
          have : rising l = false := by
            cases hb : rising l
            · rfl
            · have h4 := (rising_iff l).1 hb (i - 1) (by omega)
              rw [show i - 1 + 1 = i by omega] at h4
              rw [show ((i : Int) - 1).toNat = i - 1 by omega] at hd
              simp only [Int.toNat_natCast] at hd
              omega
          rw [this]; rfl
        · have hd := of_decide_eq_false hd
          (repeat' (first | refine TriOps.v1 rfl rfl rfl rfl True.intro ?_ | refine TriOps.nil ?_ | refine Tri.region ?_ | refine Tri.seq ?_ | refine Tri.block ?_ | refine Tri.skip ?_ | refine Tri.exit ?_ | refine TriOps.s1 rfl rfl rfl ?_ | refine TriOps.b1 rfl rfl rfl rfl rfl rfl ?_ | refine TriOps.a1 rfl rfl rfl rfl rfl rfl rfl ?_ | refine TriOps.w1 rfl rfl rfl rfl rfl rfl rfl rfl rfl ?_ | fail))
          refine TriOps.v1 rfl rfl rfl rfl (by first | exact True.intro | exact inR_i64 (by omega) (by omega) | omega | (refine ⟨?_, ?_⟩ <;> omega)) ?_
          (repeat' (first | refine TriOps.v1 rfl rfl rfl rfl True.intro ?_ | refine TriOps.nil ?_ | refine Tri.region ?_ | refine Tri.seq ?_ | refine Tri.block ?_ | refine Tri.skip ?_ | refine Tri.exit ?_ | refine TriOps.s1 rfl rfl rfl ?_ | refine TriOps.b1 rfl rfl rfl rfl rfl rfl ?_ | refine TriOps.a1 rfl rfl rfl rfl rfl rfl rfl ?_ | refine TriOps.w1 rfl rfl rfl rfl rfl rfl rfl rfl rfl ?_ | fail))
          refine ⟨i + 1, ⟨by omega, fun j hj => ?_⟩, by omega, Wk.to rfl ⟨rfl, rfl, trivial⟩ trivial trivial⟩
          rcases Nat.lt_or_ge (j + 1) i with h | h
          · exact h3 j h
          · obtain rfl : j = i - 1 := by omega
            rw [show i - 1 + 1 = i by omega]
            rw [show ((i : Int) - 1).toNat = i - 1 by omega] at hd
            simp only [Int.toNat_natCast] at hd
            omega
      · have hc : ¬ (i : Int) < l.length := of_decide_eq_false hc
        (repeat' (first | refine TriOps.v1 rfl rfl rfl rfl True.intro ?_ | refine TriOps.nil ?_ | refine Tri.region ?_ | refine Tri.seq ?_ | refine Tri.block ?_ | refine Tri.skip ?_ | refine Tri.exit ?_ | refine TriOps.s1 rfl rfl rfl ?_ | refine TriOps.b1 rfl rfl rfl rfl rfl rfl ?_ | refine TriOps.a1 rfl rfl rfl rfl rfl rfl rfl ?_ | refine TriOps.w1 rfl rfl rfl rfl rfl rfl rfl rfl rfl ?_ | fail))
        refine Tri.ret (retV rfl ?_)
        have : rising l = true := (rising_iff l).2 fun j hj => h3 j (by omega)
        rw [this]; rfl
end Go.Proofs.YthmbdoegcpicbaaDoor.Abs

/-! ## C9 -/
namespace Go.Proofs.YthmbdoegcpicbaaDoor.Abs
open Go.Proofs
def fiGood (w h : Int) (a u : List Int) : Bool := (isGrid w h && fiRises (w * (h + 1) - 1) a) && fiRises ((w + 1) * h - 1) u
theorem fiGood_fn0 (w h : Int) (a u : List Int) : FnV env 60 [fig w h a u] (.d (.bool (fiGood w h a u))) := by
  refine Fn.vs (E := env) 32 Tryd.func60 rfl (by kernel_rfl) rfl rfl ?_
  (repeat' (first | refine TriOps.v1 rfl rfl rfl rfl True.intro ?_ | refine TriOps.nil ?_ | refine Tri.region ?_ | refine Tri.seq ?_ | refine Tri.block ?_ | refine Tri.skip ?_ | refine Tri.exit ?_ | refine TriOps.s1 rfl rfl rfl ?_ | refine TriOps.b1 rfl rfl rfl rfl rfl rfl ?_ | refine TriOps.a1 rfl rfl rfl rfl rfl rfl rfl ?_ | refine TriOps.w1 rfl rfl rfl rfl rfl rfl rfl rfl rfl ?_ | fail))
  refine TriOps.c1 rfl rfl rfl rfl rfl (fiGrid_fn _ _) rfl ?_
  (repeat' (first | refine TriOps.v1 rfl rfl rfl rfl True.intro ?_ | refine TriOps.nil ?_ | refine Tri.region ?_ | refine Tri.seq ?_ | refine Tri.block ?_ | refine Tri.skip ?_ | refine Tri.exit ?_ | refine TriOps.s1 rfl rfl rfl ?_ | refine TriOps.b1 rfl rfl rfl rfl rfl rfl ?_ | refine TriOps.a1 rfl rfl rfl rfl rfl rfl rfl ?_ | refine TriOps.w1 rfl rfl rfl rfl rfl rfl rfl rfl rfl ?_ | fail))
  refine TriOps.g1 rfl rfl rfl (fun hg => ?_) (fun hg => ?_)
  · have hg : isGrid w h = true := hg
    rw [fiGood, hg]
    obtain ⟨bw, bh⟩ := isGrid_bd hg
    have h1 := mul_bd bw bh
    have h2 := mul_bd bh bw
    have h3 : (w + 1) * h = h * (w + 1) := Int.mul_comm _ _
    (repeat' (first | refine TriOps.v1 rfl rfl rfl rfl True.intro ?_ | refine TriOps.nil ?_ | refine Tri.region ?_ | refine Tri.seq ?_ | refine Tri.block ?_ | refine Tri.skip ?_ | refine Tri.exit ?_ | refine TriOps.s1 rfl rfl rfl ?_ | refine TriOps.b1 rfl rfl rfl rfl rfl rfl ?_ | refine TriOps.a1 rfl rfl rfl rfl rfl rfl rfl ?_ | refine TriOps.w1 rfl rfl rfl rfl rfl rfl rfl rfl rfl ?_ | fail))
    refine TriOps.v1 rfl rfl rfl rfl (by first | exact True.intro | exact inR_i64 (by omega) (by omega) | omega | (refine ⟨?_, ?_⟩ <;> omega)) ?_
    refine TriOps.v1 rfl rfl rfl rfl (by first | exact True.intro | exact inR_i64 (by omega) (by omega) | omega | (refine ⟨?_, ?_⟩ <;> omega)) ?_
    refine TriOps.v1 rfl rfl rfl rfl (by first | exact True.intro | exact inR_i64 (by omega) (by omega) | omega | (refine ⟨?_, ?_⟩ <;> omega)) ?_
    refine TriOps.c1 rfl rfl rfl rfl rfl (fiRises_fn _ _ (by omega)) rfl ?_
    (repeat' (first | refine TriOps.v1 rfl rfl rfl rfl True.intro ?_ | refine TriOps.nil ?_ | refine Tri.region ?_ | refine Tri.seq ?_ | refine Tri.block ?_ | refine Tri.skip ?_ | refine Tri.exit ?_ | refine TriOps.s1 rfl rfl rfl ?_ | refine TriOps.b1 rfl rfl rfl rfl rfl rfl ?_ | refine TriOps.a1 rfl rfl rfl rfl rfl rfl rfl ?_ | refine TriOps.w1 rfl rfl rfl rfl rfl rfl rfl rfl rfl ?_ | fail))
    refine TriOps.g1 rfl rfl rfl (fun hg => ?_) (fun hg => ?_)
    · have hg : fiRises (w * (h + 1) - 1) a = true := hg
      rw [hg]
      (repeat' (first | refine TriOps.v1 rfl rfl rfl rfl True.intro ?_ | refine TriOps.nil ?_ | refine Tri.region ?_ | refine Tri.seq ?_ | refine Tri.block ?_ | refine Tri.skip ?_ | refine Tri.exit ?_ | refine TriOps.s1 rfl rfl rfl ?_ | refine TriOps.b1 rfl rfl rfl rfl rfl rfl ?_ | refine TriOps.a1 rfl rfl rfl rfl rfl rfl rfl ?_ | refine TriOps.w1 rfl rfl rfl rfl rfl rfl rfl rfl rfl ?_ | fail))
      refine TriOps.v1 rfl rfl rfl rfl (by first | exact True.intro | exact inR_i64 (by omega) (by omega) | omega | (refine ⟨?_, ?_⟩ <;> omega)) ?_
      (repeat' (first | refine TriOps.v1 rfl rfl rfl rfl True.intro ?_ | refine TriOps.nil ?_ | refine Tri.region ?_ | refine Tri.seq ?_ | refine Tri.block ?_ | refine Tri.skip ?_ | refine Tri.exit ?_ | refine TriOps.s1 rfl rfl rfl ?_ | refine TriOps.b1 rfl rfl rfl rfl rfl rfl ?_ | refine TriOps.a1 rfl rfl rfl rfl rfl rfl rfl ?_ | refine TriOps.w1 rfl rfl rfl rfl rfl rfl rfl rfl rfl ?_ | fail))
      refine TriOps.v1 rfl rfl rfl rfl (by first | exact True.intro | exact inR_i64 (by omega) (by omega) | omega | (refine ⟨?_, ?_⟩ <;> omega)) ?_
      refine TriOps.v1 rfl rfl rfl rfl (by first | exact True.intro | exact inR_i64 (by omega) (by omega) | omega | (refine ⟨?_, ?_⟩ <;> omega)) ?_
      refine TriOps.c1 rfl rfl rfl rfl rfl (fiRises_fn _ _ (by omega)) rfl ?_
      (repeat' (first | refine TriOps.v1 rfl rfl rfl rfl True.intro ?_ | refine TriOps.nil ?_ | refine Tri.region ?_ | refine Tri.seq ?_ | refine Tri.block ?_ | refine Tri.skip ?_ | refine Tri.exit ?_ | refine TriOps.s1 rfl rfl rfl ?_ | refine TriOps.b1 rfl rfl rfl rfl rfl rfl ?_ | refine TriOps.a1 rfl rfl rfl rfl rfl rfl rfl ?_ | refine TriOps.w1 rfl rfl rfl rfl rfl rfl rfl rfl rfl ?_ | fail))
      refine Tri.ret (retV rfl rfl)
    · have hg : fiRises (w * (h + 1) - 1) a = false := hg
      rw [hg]
      (repeat' (first | refine TriOps.v1 rfl rfl rfl rfl True.intro ?_ | refine TriOps.nil ?_ | refine Tri.region ?_ | refine Tri.seq ?_ | refine Tri.block ?_ | refine Tri.skip ?_ | refine Tri.exit ?_ | refine TriOps.s1 rfl rfl rfl ?_ | refine TriOps.b1 rfl rfl rfl rfl rfl rfl ?_ | refine TriOps.a1 rfl rfl rfl rfl rfl rfl rfl ?_ | refine TriOps.w1 rfl rfl rfl rfl rfl rfl rfl rfl rfl ?_ | fail))
      refine Tri.ret (retV rfl rfl)
  · have hg : isGrid w h = false := hg
    rw [fiGood, hg]
    (repeat' (first | refine TriOps.v1 rfl rfl rfl rfl True.intro ?_ | refine TriOps.nil ?_ | refine Tri.region ?_ | refine Tri.seq ?_ | refine Tri.block ?_ | refine Tri.skip ?_ | refine Tri.exit ?_ | refine TriOps.s1 rfl rfl rfl ?_ | refine TriOps.b1 rfl rfl rfl rfl rfl rfl ?_ | refine TriOps.a1 rfl rfl rfl rfl rfl rfl rfl ?_ | refine TriOps.w1 rfl rfl rfl rfl rfl rfl rfl rfl rfl ?_ | fail))
    refine Tri.ret (retV rfl rfl)
/-- A strictly increasing list of numbers from lo to hi is no longer than there are such numbers. -/
theorem rising_len {lo hi : Int} : ∀ (l : List Int), rising l = true → (∀ k ∈ l, lo ≤ k ∧ k ≤ hi) → lo ≤ hi + 1 → (l.length : Int) ≤ hi + 1 - lo
  | [], _, _, h => by simp; omega
  | [a], _, h, _ => by have := h a (List.mem_cons_self ..); simp; omega
  | a :: b :: r, hr, h, _ => by
    simp only [rising, Bool.and_eq_true, decide_eq_true_eq] at hr
    have h1 := h a (List.mem_cons_self ..)
    have h2 := h b (List.mem_cons_of_mem _ (List.mem_cons_self ..))
    have lowb : ∀ (b : Int) (r : List Int), rising (b :: r) = true → ∀ k ∈ b :: r, b ≤ k := by
      intro b r
      induction r generalizing b with
      | nil => intro _ k hk; simp at hk; omega
      | cons c r ih =>
        intro hr k hk
        simp only [rising, Bool.and_eq_true, decide_eq_true_eq] at hr
        rcases List.mem_cons.1 hk with rfl | hk
        · omega
        · have := ih c hr.2 k hk; omega
    have := rising_len (lo := a + 1) (hi := hi) (b :: r) hr.2 (fun k hk => by have := lowb b r hr.2 k hk; have := h k (List.mem_cons_of_mem _ hk); omega) (by omega)
    simp only [List.length_cons] at this ⊢
    omega
theorem fiRises_eq (most : Int) (l : List Int) (hm : -1 ≤ most) : fiRises most l = (rising l && areIn 0 most l) := by
  unfold fiRises
  cases ha : areIn 0 most l
  · simp
  · cases hr : rising l
    · simp
    · have := rising_len l hr (fun k hk => areIn_iff ha k hk) (by omega)
      have : decide ((l.length : Int) > most + 1) = false := by simp; omega
      simp [this]
theorem fiGood_eq (w h : Int) (a u : List Int) : fiGood w h a u = isFig w h a u := by
  unfold fiGood isFig
  cases hg : isGrid w h
  · simp
  · obtain ⟨bw, bh⟩ := isGrid_bd hg
    have h1 := mul_bd bw bh
    have h2 := mul_bd bh bw
    rw [Int.mul_comm (w + 1) h, fiRises_eq _ _ (by omega), fiRises_eq _ _ (by omega)]
    cases rising a <;> cases rising u <;> cases areIn 0 (w * (h + 1) - 1) a <;> cases areIn 0 (h * (w + 1) - 1) u <;> rfl
theorem fiGood_fn (w h : Int) (a u : List Int) : FnV env 60 [fig w h a u] (.d (.bool (isFig w h a u))) := fiGood_eq w h a u ▸ fiGood_fn0 w h a u
end Go.Proofs.YthmbdoegcpicbaaDoor.Abs

/-! ## C10 -/
namespace Go.Proofs.YthmbdoegcpicbaaDoor.Abs
open Go.Proofs
def hasI (l : List Int) (n : Int) : Bool := l.any fun x => x == n
theorem l1Has_fn (l : List Int) (n : Int) : FnV env 126 [.d (.ints .i64 l), .d (.int .i64 n)] (.d (.bool (hasI l n))) := by
  refine Fn.vs (E := env) 17 Tryd.func126 rfl (by kernel_rfl) rfl rfl ?_
  refine Tri.bnd 0 (fun hl => ?_)
  have hl : l.length ≤ 9223372036854775807 := hl
  (repeat' (first | refine TriOps.v1 rfl rfl rfl rfl True.intro ?_ | refine TriOps.nil ?_ | refine Tri.region ?_ | refine Tri.seq ?_ | refine Tri.block ?_ | refine Tri.skip ?_ | refine Tri.exit ?_ | refine TriOps.s1 rfl rfl rfl ?_ | refine TriOps.b1 rfl rfl rfl rfl rfl rfl ?_ | refine TriOps.a1 rfl rfl rfl rfl rfl rfl rfl ?_ | refine TriOps.w1 rfl rfl rfl rfl rfl rfl rfl rfl rfl ?_ | fail))
  refine Tri.loopI (fun i : Nat => i ≤ l.length ∧ ∀ j, j < i → (l.getD j 0 == n) = false) (fun i => stt 17 [(1, .d (.int .i64 n)), (7, .d (.ints .i64 l)), (8, .d (.int .i64 l.length)), (9, .d (.int .i64 i))]) (fun i => l.length - i) 0 ⟨by omega, fun j hj => by omega⟩ (Wk.to rfl ⟨rfl, rfl, rfl, rfl, trivial⟩ trivial trivial) ?_
  rintro i ⟨h1, h3⟩
  (repeat' (first | refine TriOps.v1 rfl rfl rfl rfl True.intro ?_ | refine TriOps.nil ?_ | refine Tri.region ?_ | refine Tri.seq ?_ | refine Tri.block ?_ | refine Tri.skip ?_ | refine Tri.exit ?_ | refine TriOps.s1 rfl rfl rfl ?_ | refine TriOps.b1 rfl rfl rfl rfl rfl rfl ?_ | refine TriOps.a1 rfl rfl rfl rfl rfl rfl rfl ?_ | refine TriOps.w1 rfl rfl rfl rfl rfl rfl rfl rfl rfl ?_ | fail))
  refine Tri.cond rfl (fun hc => ?_) (fun hc => ?_)
  · have hc : (i : Int) < l.length := of_decide_eq_true hc
    (repeat' (first | refine TriOps.v1 rfl rfl rfl rfl True.intro ?_ | refine TriOps.nil ?_ | refine Tri.region ?_ | refine Tri.seq ?_ | refine Tri.block ?_ | refine Tri.skip ?_ | refine Tri.exit ?_ | refine TriOps.s1 rfl rfl rfl ?_ | refine TriOps.b1 rfl rfl rfl rfl rfl rfl ?_ | refine TriOps.a1 rfl rfl rfl rfl rfl rfl rfl ?_ | refine TriOps.w1 rfl rfl rfl rfl rfl rfl rfl rfl rfl ?_ | fail))
    refine TriOps.v1 rfl rfl rfl rfl ⟨by omega, by exact hc⟩ ?_
    (repeat' (first | refine TriOps.v1 rfl rfl rfl rfl True.intro ?_ | refine TriOps.nil ?_ | refine Tri.region ?_ | refine Tri.seq ?_ | refine Tri.block ?_ | refine Tri.skip ?_ | refine Tri.exit ?_ | refine TriOps.s1 rfl rfl rfl ?_ | refine TriOps.b1 rfl rfl rfl rfl rfl rfl ?_ | refine TriOps.a1 rfl rfl rfl rfl rfl rfl rfl ?_ | refine TriOps.w1 rfl rfl rfl rfl rfl rfl rfl rfl rfl ?_ | fail))
    refine Tri.cond rfl (fun hd => ?_) (fun hd => ?_)
    · have hd : (l.getD i 0 == n) = true := hd
      (repeat' (first | refine TriOps.v1 rfl rfl rfl rfl True.intro ?_ | refine TriOps.nil ?_ | refine Tri.region ?_ | refine Tri.seq ?_ | refine Tri.block ?_ | refine Tri.skip ?_ | refine Tri.exit ?_ | refine TriOps.s1 rfl rfl rfl ?_ | refine TriOps.b1 rfl rfl rfl rfl rfl rfl ?_ | refine TriOps.a1 rfl rfl rfl rfl rfl rfl rfl ?_ | refine TriOps.w1 rfl rfl rfl rfl rfl rfl rfl rfl rfl ?_ | fail))
      refine Tri.ret (retV rfl ?_)
      have : hasI l n = true := List.any_eq_true.2 ⟨_, getD_mem (by omega), hd⟩
      rw [this]
      rfl
    · have hd : (l.getD i 0 == n) = false := hd
      (repeat' (first | refine TriOps.v1 rfl rfl rfl rfl True.intro ?_ | refine TriOps.nil ?_ | refine Tri.region ?_ | refine Tri.seq ?_ | refine Tri.block ?_ | refine Tri.skip ?_ | refine Tri.exit ?_ | refine TriOps.s1 rfl rfl rfl ?_ | refine TriOps.b1 rfl rfl rfl rfl rfl rfl ?_ | refine TriOps.a1 rfl rfl rfl rfl rfl rfl rfl ?_ | refine TriOps.w1 rfl rfl rfl rfl rfl rfl rfl rfl rfl ?_ | fail))
      refine TriOps.v1 rfl rfl rfl rfl (by first | exact True.intro | exact inR_i64 (by omega) (by omega) | omega | (refine ⟨?_, ?_⟩ <;> omega)) ?_
      (repeat' (first | refine TriOps.v1 rfl rfl rfl rfl True.intro ?_ | refine TriOps.nil ?_ | refine Tri.region ?_ | refine Tri.seq ?_ | refine Tri.block ?_ | refine Tri.skip ?_ | refine Tri.exit ?_ | refine TriOps.s1 rfl rfl rfl ?_ | refine TriOps.b1 rfl rfl rfl rfl rfl rfl ?_ | refine TriOps.a1 rfl rfl rfl rfl rfl rfl rfl ?_ | refine TriOps.w1 rfl rfl rfl rfl rfl rfl rfl rfl rfl ?_ | fail))
      refine ⟨i + 1, ⟨by omega, fun j hj => ?_⟩, by omega, Wk.to rfl ⟨rfl, rfl, rfl, rfl, trivial⟩ trivial trivial⟩
      rcases Nat.lt_or_ge j i with h | h
      · exact h3 j h
      · obtain rfl : j = i := by omega
        exact hd
  · have hc : ¬ (i : Int) < l.length := of_decide_eq_false hc
    (repeat' (first | refine TriOps.v1 rfl rfl rfl rfl True.intro ?_ | refine TriOps.nil ?_ | refine Tri.region ?_ | refine Tri.seq ?_ | refine Tri.block ?_ | refine Tri.skip ?_ | refine Tri.exit ?_ | refine TriOps.s1 rfl rfl rfl ?_ | refine TriOps.b1 rfl rfl rfl rfl rfl rfl ?_ | refine TriOps.a1 rfl rfl rfl rfl rfl rfl rfl ?_ | refine TriOps.w1 rfl rfl rfl rfl rfl rfl rfl rfl rfl ?_ | fail))
    refine Tri.ret (retV rfl ?_)
    have : hasI l n = false := by
      rw [hasI, List.any_eq_false]
      intro x hx
      obtain ⟨j, hj, rfl⟩ := List.getElem_of_mem hx
      have := h3 j (by omega)
      rw [List.getD_eq_getElem?_getD, List.getElem?_eq_getElem hj, Option.getD_some] at this
      rw [this]; simp
    rw [this]
    rfl
theorem fiCount_fn (w h : Int) (a u : List Int) (ha : a.length ≤ 1000000) (hu : u.length ≤ 1000000) : FnV env 61 [fig w h a u] (.d (.int .i64 ((a.length : Int) + u.length))) := by
  refine Fn.vs (E := env) 10 Tryd.func61 rfl (by kernel_rfl) rfl rfl ?_
  (repeat' (first | refine TriOps.v1 rfl rfl rfl rfl True.intro ?_ | refine TriOps.nil ?_ | refine Tri.region ?_ | refine Tri.seq ?_ | refine Tri.block ?_ | refine Tri.skip ?_ | refine Tri.exit ?_ | refine TriOps.s1 rfl rfl rfl ?_ | refine TriOps.b1 rfl rfl rfl rfl rfl rfl ?_ | refine TriOps.a1 rfl rfl rfl rfl rfl rfl rfl ?_ | refine TriOps.w1 rfl rfl rfl rfl rfl rfl rfl rfl rfl ?_ | fail))
  refine TriOps.v1 rfl rfl rfl rfl (inR_i64 (n := (a.length : Int) + u.length) (by omega) (by omega)) ?_
  (repeat' (first | refine TriOps.v1 rfl rfl rfl rfl True.intro ?_ | refine TriOps.nil ?_ | refine Tri.region ?_ | refine Tri.seq ?_ | refine Tri.block ?_ | refine Tri.skip ?_ | refine Tri.exit ?_ | refine TriOps.s1 rfl rfl rfl ?_ | refine TriOps.b1 rfl rfl rfl rfl rfl rfl ?_ | refine TriOps.a1 rfl rfl rfl rfl rfl rfl rfl ?_ | refine TriOps.w1 rfl rfl rfl rfl rfl rfl rfl rfl rfl ?_ | fail))
  refine Tri.ret (retV rfl rfl)
def upTo (n : Nat) : List Int := (List.range n).map fun (i : Nat) => (i : Int)
theorem upTo_succ (n : Nat) : upTo (n + 1) = upTo n ++ [(n : Int)] := by simp [upTo, List.range_succ]
theorem upTo_len (n : Nat) : (upTo n).length = n := by simp [upTo]
theorem fiUpTo_own (n : Nat) (hn : n ≤ 1000000) : FnO env 104 [.d (.int .i64 n)] (.own (.ret 0)) [(.ret 0, ⟨3, .ints .i64 (upTo n)⟩)] := by
  refine Fn.os (E := env) 15 Tryd.func104 rfl (by kernel_rfl) rfl rfl ?_
  (repeat' (first | refine TriOps.v1 rfl rfl rfl rfl True.intro ?_ | refine TriOps.nil ?_ | refine Tri.region ?_ | refine Tri.seq ?_ | refine Tri.block ?_ | refine Tri.skip ?_ | refine Tri.exit ?_ | refine TriOps.s1 rfl rfl rfl ?_ | refine TriOps.b1 rfl rfl rfl rfl rfl rfl ?_ | refine TriOps.a1 rfl rfl rfl rfl rfl rfl rfl ?_ | refine TriOps.w1 rfl rfl rfl rfl rfl rfl rfl rfl rfl ?_ | fail))
  refine Tri.loopI (fun i : Nat => i ≤ n) (fun i => stt 15 [(0, .d (.int .i64 n)), (3, .own (.ret 0)), (4, .d (.int .i64 i))] [] [(.ret 0, ⟨3, .ints .i64 (upTo i)⟩)]) (fun i => n - i) 0 (by omega) (Wk.ren [(.ret 0, none)] rfl ⟨rfl, rfl, rfl, trivial⟩ trivial ⟨trivial, trivial⟩ rfl) ?_
  intro i hi
  have hlen := upTo_len i
  (repeat' (first | refine TriOps.v1 rfl rfl rfl rfl True.intro ?_ | refine TriOps.nil ?_ | refine Tri.region ?_ | refine Tri.seq ?_ | refine Tri.block ?_ | refine Tri.skip ?_ | refine Tri.exit ?_ | refine TriOps.s1 rfl rfl rfl ?_ | refine TriOps.b1 rfl rfl rfl rfl rfl rfl ?_ | refine TriOps.a1 rfl rfl rfl rfl rfl rfl rfl ?_ | refine TriOps.w1 rfl rfl rfl rfl rfl rfl rfl rfl rfl ?_ | fail))
  refine Tri.cond rfl (fun hc => ?_) (fun hc => ?_)
  · have hc : (i : Int) < n := of_decide_eq_true hc
    (repeat' (first | refine TriOps.v1 rfl rfl rfl rfl True.intro ?_ | refine TriOps.nil ?_ | refine Tri.region ?_ | refine Tri.seq ?_ | refine Tri.block ?_ | refine Tri.skip ?_ | refine Tri.exit ?_ | refine TriOps.s1 rfl rfl rfl ?_ | refine TriOps.b1 rfl rfl rfl rfl rfl rfl ?_ | refine TriOps.a1 rfl rfl rfl rfl rfl rfl rfl ?_ | refine TriOps.w1 rfl rfl rfl rfl rfl rfl rfl rfl rfl ?_ | fail))
    refine TriOps.f1 rfl rfl rfl rfl rfl rfl rfl rfl ?_
    refine TriOps.p1 rfl rfl rfl rfl rfl rfl rfl rfl rfl rfl rfl rfl rfl rfl (app1_ok (upTo_len i) (by omega)) ?_
    (repeat' (first | refine TriOps.v1 rfl rfl rfl rfl True.intro ?_ | refine TriOps.nil ?_ | refine Tri.region ?_ | refine Tri.seq ?_ | refine Tri.block ?_ | refine Tri.skip ?_ | refine Tri.exit ?_ | refine TriOps.s1 rfl rfl rfl ?_ | refine TriOps.b1 rfl rfl rfl rfl rfl rfl ?_ | refine TriOps.a1 rfl rfl rfl rfl rfl rfl rfl ?_ | refine TriOps.w1 rfl rfl rfl rfl rfl rfl rfl rfl rfl ?_ | fail))
    refine TriOps.v1 rfl rfl rfl rfl (by first | exact True.intro | exact inR_i64 (by omega) (by omega) | omega | (refine ⟨?_, ?_⟩ <;> omega)) ?_
    (repeat' (first | refine TriOps.v1 rfl rfl rfl rfl True.intro ?_ | refine TriOps.nil ?_ | refine Tri.region ?_ | refine Tri.seq ?_ | refine Tri.block ?_ | refine Tri.skip ?_ | refine Tri.exit ?_ | refine TriOps.s1 rfl rfl rfl ?_ | refine TriOps.b1 rfl rfl rfl rfl rfl rfl ?_ | refine TriOps.a1 rfl rfl rfl rfl rfl rfl rfl ?_ | refine TriOps.w1 rfl rfl rfl rfl rfl rfl rfl rfl rfl ?_ | fail))
    refine ⟨i + 1, by omega, by omega, Wk.ren [(.ret 0, some (.tmp 13 0))] rfl ⟨rfl, rfl, rfl, trivial⟩ trivial ⟨?_, trivial⟩ rfl⟩
    rw [upTo_succ]
    rfl
  · have hc : ¬ (i : Int) < n := of_decide_eq_false hc
    obtain rfl : i = n := by omega
    (repeat' (first | refine TriOps.v1 rfl rfl rfl rfl True.intro ?_ | refine TriOps.nil ?_ | refine Tri.region ?_ | refine Tri.seq ?_ | refine Tri.block ?_ | refine Tri.skip ?_ | refine Tri.exit ?_ | refine TriOps.s1 rfl rfl rfl ?_ | refine TriOps.b1 rfl rfl rfl rfl rfl rfl ?_ | refine TriOps.a1 rfl rfl rfl rfl rfl rfl rfl ?_ | refine TriOps.w1 rfl rfl rfl rfl rfl rfl rfl rfl rfl ?_ | fail))
    refine Tri.ret (retO0 rfl (AV.Le.refl _) ⟨rfl, trivial⟩)
theorem fiUpTo_fn (n : Nat) (hn : n ≤ 1000000) : FnV env 104 [.d (.int .i64 n)] (.d (.ints .i64 (upTo n))) := (fiUpTo_own n hn).frz rfl rfl
def those (a b : List Int) (c : Bool) : List Int := a.filter fun k => hasI b k == c
theorem those_snoc {a b : List Int} {c : Bool} {i : Nat} (h : i < a.length) : those (a.take (i + 1)) b c = those (a.take i) b c ++ (bif hasI b (a.getD i 0) == c then [a.getD i 0] else []) := by
  rw [take_snoc h, those, List.filter_append]
  cases hh : hasI b (a.getD i 0) == c
  · rw [List.filter_cons_of_neg (p := fun k => hasI b k == c) (by rw [hh]; simp)]; rfl
  · rw [List.filter_cons_of_pos (p := fun k => hasI b k == c) hh]; rfl
theorem those_len (a b : List Int) (c : Bool) : (those a b c).length ≤ a.length := List.length_filter_le _ _
theorem fiThose_own (a b : List Int) (c : Bool) (ha : a.length ≤ 1000000) : FnO env 95 [.d (.ints .i64 a), .d (.ints .i64 b), .d (.bool c)] (.own (.ret 0)) [(.ret 0, ⟨3, .ints .i64 (those a b c)⟩)] := by
  refine Fn.os (E := env) 27 Tryd.func95 rfl (by kernel_rfl) rfl rfl ?_
  (repeat' (first | refine TriOps.v1 rfl rfl rfl rfl True.intro ?_ | refine TriOps.nil ?_ | refine Tri.region ?_ | refine Tri.seq ?_ | refine Tri.block ?_ | refine Tri.skip ?_ | refine Tri.exit ?_ | refine TriOps.s1 rfl rfl rfl ?_ | refine TriOps.b1 rfl rfl rfl rfl rfl rfl ?_ | refine TriOps.a1 rfl rfl rfl rfl rfl rfl rfl ?_ | refine TriOps.w1 rfl rfl rfl rfl rfl rfl rfl rfl rfl ?_ | fail))
  refine Tri.loopI (fun i : Nat => i ≤ a.length) (fun i => stt 27 [(1, .d (.ints .i64 b)), (2, .d (.bool c)), (7, .own (.ret 0)), (10, .d (.ints .i64 a)), (11, .d (.int .i64 a.length)), (12, .d (.int .i64 i))] [] [(.ret 0, ⟨3, .ints .i64 (those (a.take i) b c)⟩)]) (fun i => a.length - i) 0 (by omega) (Wk.ren [(.ret 0, none)] rfl ⟨rfl, rfl, rfl, rfl, rfl, rfl, trivial⟩ trivial ⟨trivial, trivial⟩ rfl) ?_
  intro i hi
  have hlen := those_len (a.take i) b c
  rw [List.length_take] at hlen
  (repeat' (first | refine TriOps.v1 rfl rfl rfl rfl True.intro ?_ | refine TriOps.nil ?_ | refine Tri.region ?_ | refine Tri.seq ?_ | refine Tri.block ?_ | refine Tri.skip ?_ | refine Tri.exit ?_ | refine TriOps.s1 rfl rfl rfl ?_ | refine TriOps.b1 rfl rfl rfl rfl rfl rfl ?_ | refine TriOps.a1 rfl rfl rfl rfl rfl rfl rfl ?_ | refine TriOps.w1 rfl rfl rfl rfl rfl rfl rfl rfl rfl ?_ | fail))
  refine Tri.cond rfl (fun hc => ?_) (fun hc => ?_)
  · have hc : (i : Int) < a.length := of_decide_eq_true hc
    have hsn := those_snoc (b := b) (c := c) (show i < a.length by omega)
    (repeat' (first | refine TriOps.v1 rfl rfl rfl rfl True.intro ?_ | refine TriOps.nil ?_ | refine Tri.region ?_ | refine Tri.seq ?_ | refine Tri.block ?_ | refine Tri.skip ?_ | refine Tri.exit ?_ | refine TriOps.s1 rfl rfl rfl ?_ | refine TriOps.b1 rfl rfl rfl rfl rfl rfl ?_ | refine TriOps.a1 rfl rfl rfl rfl rfl rfl rfl ?_ | refine TriOps.w1 rfl rfl rfl rfl rfl rfl rfl rfl rfl ?_ | fail))
    refine TriOps.v1 rfl rfl rfl rfl ⟨by omega, by exact hc⟩ ?_
    (repeat' (first | refine TriOps.v1 rfl rfl rfl rfl True.intro ?_ | refine TriOps.nil ?_ | refine Tri.region ?_ | refine Tri.seq ?_ | refine Tri.block ?_ | refine Tri.skip ?_ | refine Tri.exit ?_ | refine TriOps.s1 rfl rfl rfl ?_ | refine TriOps.b1 rfl rfl rfl rfl rfl rfl ?_ | refine TriOps.a1 rfl rfl rfl rfl rfl rfl rfl ?_ | refine TriOps.w1 rfl rfl rfl rfl rfl rfl rfl rfl rfl ?_ | fail))
    refine TriOps.c1 rfl rfl rfl rfl rfl (l1Has_fn _ _) rfl ?_
    (repeat' (first | refine TriOps.v1 rfl rfl rfl rfl True.intro ?_ | refine TriOps.nil ?_ | refine Tri.region ?_ | refine Tri.seq ?_ | refine Tri.block ?_ | refine Tri.skip ?_ | refine Tri.exit ?_ | refine TriOps.s1 rfl rfl rfl ?_ | refine TriOps.b1 rfl rfl rfl rfl rfl rfl ?_ | refine TriOps.a1 rfl rfl rfl rfl rfl rfl rfl ?_ | refine TriOps.w1 rfl rfl rfl rfl rfl rfl rfl rfl rfl ?_ | fail))
    refine Tri.cond rfl (fun hd => ?_) (fun hd => ?_)
    · have hd : (hasI b (a.getD i 0) == c) = true := hd
      rw [hd] at hsn
      (repeat' (first | refine TriOps.v1 rfl rfl rfl rfl True.intro ?_ | refine TriOps.nil ?_ | refine Tri.region ?_ | refine Tri.seq ?_ | refine Tri.block ?_ | refine Tri.skip ?_ | refine Tri.exit ?_ | refine TriOps.s1 rfl rfl rfl ?_ | refine TriOps.b1 rfl rfl rfl rfl rfl rfl ?_ | refine TriOps.a1 rfl rfl rfl rfl rfl rfl rfl ?_ | refine TriOps.w1 rfl rfl rfl rfl rfl rfl rfl rfl rfl ?_ | fail))
      refine TriOps.f1 rfl rfl rfl rfl rfl rfl rfl rfl ?_
      refine TriOps.p1 rfl rfl rfl rfl rfl rfl rfl rfl rfl rfl rfl rfl rfl rfl (app1_ok (m := (those (a.take i) b c).length) rfl (by omega)) ?_
      (repeat' (first | refine TriOps.v1 rfl rfl rfl rfl True.intro ?_ | refine TriOps.nil ?_ | refine Tri.region ?_ | refine Tri.seq ?_ | refine Tri.block ?_ | refine Tri.skip ?_ | refine Tri.exit ?_ | refine TriOps.s1 rfl rfl rfl ?_ | refine TriOps.b1 rfl rfl rfl rfl rfl rfl ?_ | refine TriOps.a1 rfl rfl rfl rfl rfl rfl rfl ?_ | refine TriOps.w1 rfl rfl rfl rfl rfl rfl rfl rfl rfl ?_ | fail))
      refine TriOps.v1 rfl rfl rfl rfl (by first | exact True.intro | exact inR_i64 (by omega) (by omega) | omega | (refine ⟨?_, ?_⟩ <;> omega)) ?_
      (repeat' (first | refine TriOps.v1 rfl rfl rfl rfl True.intro ?_ | refine TriOps.nil ?_ | refine Tri.region ?_ | refine Tri.seq ?_ | refine Tri.block ?_ | refine Tri.skip ?_ | refine Tri.exit ?_ | refine TriOps.s1 rfl rfl rfl ?_ | refine TriOps.b1 rfl rfl rfl rfl rfl rfl ?_ | refine TriOps.a1 rfl rfl rfl rfl rfl rfl rfl ?_ | refine TriOps.w1 rfl rfl rfl rfl rfl rfl rfl rfl rfl ?_ | fail))
      refine ⟨i + 1, by omega, by omega, Wk.ren [(.ret 0, some (.tmp 24 0))] rfl ⟨rfl, rfl, rfl, rfl, rfl, rfl, trivial⟩ trivial ⟨?_, trivial⟩ rfl⟩
      rw [hsn]
      rfl
    · have hd : (hasI b (a.getD i 0) == c) = false := hd
      rw [hd] at hsn
      (repeat' (first | refine TriOps.v1 rfl rfl rfl rfl True.intro ?_ | refine TriOps.nil ?_ | refine Tri.region ?_ | refine Tri.seq ?_ | refine Tri.block ?_ | refine Tri.skip ?_ | refine Tri.exit ?_ | refine TriOps.s1 rfl rfl rfl ?_ | refine TriOps.b1 rfl rfl rfl rfl rfl rfl ?_ | refine TriOps.a1 rfl rfl rfl rfl rfl rfl rfl ?_ | refine TriOps.w1 rfl rfl rfl rfl rfl rfl rfl rfl rfl ?_ | fail))
      refine TriOps.v1 rfl rfl rfl rfl (by first | exact True.intro | exact inR_i64 (by omega) (by omega) | omega | (refine ⟨?_, ?_⟩ <;> omega)) ?_
      (repeat' (first | refine TriOps.v1 rfl rfl rfl rfl True.intro ?_ | refine TriOps.nil ?_ | refine Tri.region ?_ | refine Tri.seq ?_ | refine Tri.block ?_ | refine Tri.skip ?_ | refine Tri.exit ?_ | refine TriOps.s1 rfl rfl rfl ?_ | refine TriOps.b1 rfl rfl rfl rfl rfl rfl ?_ | refine TriOps.a1 rfl rfl rfl rfl rfl rfl rfl ?_ | refine TriOps.w1 rfl rfl rfl rfl rfl rfl rfl rfl rfl ?_ | fail))
      refine ⟨i + 1, by omega, by omega, Wk.to rfl ⟨rfl, rfl, rfl, rfl, rfl, rfl, trivial⟩ trivial ⟨?_, trivial⟩⟩
      rw [hsn, cond_false, List.append_nil]
      rfl
  · have hc : ¬ (i : Int) < a.length := of_decide_eq_false hc
    obtain rfl : i = a.length := by omega
    rw [List.take_length]
    (repeat' (first | refine TriOps.v1 rfl rfl rfl rfl True.intro ?_ | refine TriOps.nil ?_ | refine Tri.region ?_ | refine Tri.seq ?_ | refine Tri.block ?_ | refine Tri.skip ?_ | refine Tri.exit ?_ | refine TriOps.s1 rfl rfl rfl ?_ | refine TriOps.b1 rfl rfl rfl rfl rfl rfl ?_ | refine TriOps.a1 rfl rfl rfl rfl rfl rfl rfl ?_ | refine TriOps.w1 rfl rfl rfl rfl rfl rfl rfl rfl rfl ?_ | fail))
    refine Tri.ret (retO0 rfl (AV.Le.refl _) ⟨rfl, trivial⟩)
theorem fiThose_fn (a b : List Int) (c : Bool) (ha : a.length ≤ 1000000) : FnV env 95 [.d (.ints .i64 a), .d (.ints .i64 b), .d (.bool c)] (.d (.ints .i64 (those a b c))) := (fiThose_own a b c ha).frz rfl rfl
end Go.Proofs.YthmbdoegcpicbaaDoor.Abs

/-! ## C11 -/
namespace Go.Proofs.YthmbdoegcpicbaaDoor.Abs
open Go.Proofs
theorem fiLess_fn (w h : Int) (a u : List Int) (w' h' : Int) (a' u' : List Int) (ha : a.length ≤ 1000000) (hu : u.length ≤ 1000000) : FnV env 55 [fig w h a u, fig w' h' a' u'] (fig w h (those a a' false) (those u u' false)) := by
  refine Fn.vs (E := env) 20 Tryd.func55 rfl (by kernel_rfl) rfl rfl ?_
  (repeat' (first | refine TriOps.v1 rfl rfl rfl rfl True.intro ?_ | refine TriOps.nil ?_ | refine Tri.region ?_ | refine Tri.seq ?_ | refine Tri.block ?_ | refine Tri.skip ?_ | refine Tri.exit ?_ | refine TriOps.s1 rfl rfl rfl ?_ | refine TriOps.b1 rfl rfl rfl rfl rfl rfl ?_ | refine TriOps.a1 rfl rfl rfl rfl rfl rfl rfl ?_ | refine TriOps.w1 rfl rfl rfl rfl rfl rfl rfl rfl rfl ?_ | fail))
  refine Tri.dz [.loc 2, .loc 3] [(0, 0), (1, 1), (2, 0), (3, 1), (4, 0), (5, 1), (6, 0), (7, 1), (9, 0), (10, 1), (11, 0), (12, 1), (8, 2), (13, 2), (14, 0), (15, 2)] (by kernel_rfl) rfl ?_
  (repeat' (first | refine TS.v1 rfl (fun _ _ h => h) rfl rfl rfl rfl rfl True.intro ?_ | refine TS.t1 rfl (fun _ _ h => h) rfl rfl rfl rfl rfl True.intro ?_ | refine TS.nil ?_ | refine TS.n0 rfl (fun _ _ h => h) rfl rfl rfl ?_ | refine TS.n1 rfl (fun _ _ h => h) rfl rfl rfl ?_ | refine TS.n2 rfl rfl rfl rfl ?_ | refine TS.w1 rfl rfl rfl rfl rfl rfl rfl rfl rfl rfl rfl rfl ?_ | fail))
  refine TS.m1 rfl rfl rfl rfl rfl rfl rfl rfl (fiThose_fn _ _ _ ha) rfl ?_
  refine TS.m1 rfl rfl rfl rfl rfl rfl rfl rfl (fiThose_fn _ _ _ hu) rfl ?_
  (repeat' (first | refine TS.v1 rfl (fun _ _ h => h) rfl rfl rfl rfl rfl True.intro ?_ | refine TS.t1 rfl (fun _ _ h => h) rfl rfl rfl rfl rfl True.intro ?_ | refine TS.nil ?_ | refine TS.n0 rfl (fun _ _ h => h) rfl rfl rfl ?_ | refine TS.n1 rfl (fun _ _ h => h) rfl rfl rfl ?_ | refine TS.n2 rfl rfl rfl rfl ?_ | refine TS.w1 rfl rfl rfl rfl rfl rfl rfl rfl rfl rfl rfl rfl ?_ | fail))
  refine Tri.ret (retV rfl rfl)
theorem fiUpTo_int (n : Int) (h0 : 0 ≤ n) (hn : n ≤ 1000000) : FnV env 104 [.d (.int .i64 n)] (.d (.ints .i64 (upTo n.toNat))) := by
  have h := fiUpTo_fn n.toNat (by omega)
  rwa [show ((n.toNat : Nat) : Int) = n by omega] at h
theorem fiFull_fn (w h : Int) (hw : 1 ≤ w ∧ w ≤ 4) (hh : 1 ≤ h ∧ h ≤ 4) : FnV env 72 [.d (.int .i64 w), .d (.int .i64 h)] (fig w h (upTo (w * (h + 1)).toNat) (upTo (h * (w + 1)).toNat)) := by
  have h1 := mul_bd hw hh
  have h2 := mul_bd hh hw
  have h3 : (w + 1) * h = h * (w + 1) := Int.mul_comm _ _
  rw [← h3]
  refine Fn.vs (E := env) 18 Tryd.func72 rfl (by kernel_rfl) rfl rfl ?_
  (repeat' (first | refine TriOps.v1 rfl rfl rfl rfl True.intro ?_ | refine TriOps.nil ?_ | refine Tri.region ?_ | refine Tri.seq ?_ | refine Tri.block ?_ | refine Tri.skip ?_ | refine Tri.exit ?_ | refine TriOps.s1 rfl rfl rfl ?_ | refine TriOps.b1 rfl rfl rfl rfl rfl rfl ?_ | refine TriOps.a1 rfl rfl rfl rfl rfl rfl rfl ?_ | refine TriOps.w1 rfl rfl rfl rfl rfl rfl rfl rfl rfl ?_ | fail))
  refine TriOps.v1 rfl rfl rfl rfl (by first | exact True.intro | exact inR_i64 (by omega) (by omega) | omega | (refine ⟨?_, ?_⟩ <;> omega)) ?_
  refine TriOps.v1 rfl rfl rfl rfl (by first | exact True.intro | exact inR_i64 (by omega) (by omega) | omega | (refine ⟨?_, ?_⟩ <;> omega)) ?_
  refine TriOps.m1 rfl rfl rfl rfl rfl rfl (fiUpTo_int _ (by omega) (by omega)) rfl ?_
  (repeat' (first | refine TriOps.v1 rfl rfl rfl rfl True.intro ?_ | refine TriOps.nil ?_ | refine Tri.region ?_ | refine Tri.seq ?_ | refine Tri.block ?_ | refine Tri.skip ?_ | refine Tri.exit ?_ | refine TriOps.s1 rfl rfl rfl ?_ | refine TriOps.b1 rfl rfl rfl rfl rfl rfl ?_ | refine TriOps.a1 rfl rfl rfl rfl rfl rfl rfl ?_ | refine TriOps.w1 rfl rfl rfl rfl rfl rfl rfl rfl rfl ?_ | fail))
  refine TriOps.v1 rfl rfl rfl rfl (by first | exact True.intro | exact inR_i64 (by omega) (by omega) | omega | (refine ⟨?_, ?_⟩ <;> omega)) ?_
  (repeat' (first | refine TriOps.v1 rfl rfl rfl rfl True.intro ?_ | refine TriOps.nil ?_ | refine Tri.region ?_ | refine Tri.seq ?_ | refine Tri.block ?_ | refine Tri.skip ?_ | refine Tri.exit ?_ | refine TriOps.s1 rfl rfl rfl ?_ | refine TriOps.b1 rfl rfl rfl rfl rfl rfl ?_ | refine TriOps.a1 rfl rfl rfl rfl rfl rfl rfl ?_ | refine TriOps.w1 rfl rfl rfl rfl rfl rfl rfl rfl rfl ?_ | fail))
  refine TriOps.v1 rfl rfl rfl rfl (by first | exact True.intro | exact inR_i64 (by omega) (by omega) | omega | (refine ⟨?_, ?_⟩ <;> omega)) ?_
  refine TriOps.m1 rfl rfl rfl rfl rfl rfl (fiUpTo_int _ (by omega) (by omega)) rfl ?_
  (repeat' (first | refine TriOps.v1 rfl rfl rfl rfl True.intro ?_ | refine TriOps.nil ?_ | refine Tri.region ?_ | refine Tri.seq ?_ | refine Tri.block ?_ | refine Tri.skip ?_ | refine Tri.exit ?_ | refine TriOps.s1 rfl rfl rfl ?_ | refine TriOps.b1 rfl rfl rfl rfl rfl rfl ?_ | refine TriOps.a1 rfl rfl rfl rfl rfl rfl rfl ?_ | refine TriOps.w1 rfl rfl rfl rfl rfl rfl rfl rfl rfl ?_ | fail))
  refine Tri.ret (retV rfl rfl)
theorem fiMissing_fn (w h : Int) (a u : List Int) (hw : 1 ≤ w ∧ w ≤ 4) (hh : 1 ≤ h ∧ h ≤ 4) : FnV env 54 [fig w h a u] (fig w h (those (upTo (w * (h + 1)).toNat) a false) (those (upTo (h * (w + 1)).toNat) u false)) := by
  have h1 := mul_bd hw hh
  have h2 := mul_bd hh hw
  refine Fn.vs (E := env) 10 Tryd.func54 rfl (by kernel_rfl) rfl rfl ?_
  (repeat' (first | refine TriOps.v1 rfl rfl rfl rfl True.intro ?_ | refine TriOps.nil ?_ | refine Tri.region ?_ | refine Tri.seq ?_ | refine Tri.block ?_ | refine Tri.skip ?_ | refine Tri.exit ?_ | refine TriOps.s1 rfl rfl rfl ?_ | refine TriOps.b1 rfl rfl rfl rfl rfl rfl ?_ | refine TriOps.a1 rfl rfl rfl rfl rfl rfl rfl ?_ | refine TriOps.w1 rfl rfl rfl rfl rfl rfl rfl rfl rfl ?_ | fail))
  refine Tri.dz [.loc 1] [(0, 0), (1, 1), (2, 0), (3, 1), (5, 1), (4, 2), (6, 2), (7, 2)] (by kernel_rfl) rfl ?_
  (repeat' (first | refine TS.v1 rfl (fun _ _ h => h) rfl rfl rfl rfl rfl True.intro ?_ | refine TS.t1 rfl (fun _ _ h => h) rfl rfl rfl rfl rfl True.intro ?_ | refine TS.nil ?_ | refine TS.n0 rfl (fun _ _ h => h) rfl rfl rfl ?_ | refine TS.n1 rfl (fun _ _ h => h) rfl rfl rfl ?_ | refine TS.n2 rfl rfl rfl rfl ?_ | refine TS.w1 rfl rfl rfl rfl rfl rfl rfl rfl rfl rfl rfl rfl ?_ | fail))
  refine TS.m1 rfl rfl rfl rfl rfl rfl rfl rfl (fiFull_fn w h hw hh) rfl ?_
  refine TS.m1 rfl rfl rfl rfl rfl rfl rfl rfl (fiLess_fn w h _ _ _ _ _ _ (by rw [upTo_len]; omega) (by rw [upTo_len]; omega)) rfl ?_
  (repeat' (first | refine TS.v1 rfl (fun _ _ h => h) rfl rfl rfl rfl rfl True.intro ?_ | refine TS.t1 rfl (fun _ _ h => h) rfl rfl rfl rfl rfl True.intro ?_ | refine TS.nil ?_ | refine TS.n0 rfl (fun _ _ h => h) rfl rfl rfl ?_ | refine TS.n1 rfl (fun _ _ h => h) rfl rfl rfl ?_ | refine TS.n2 rfl rfl rfl rfl ?_ | refine TS.w1 rfl rfl rfl rfl rfl rfl rfl rfl rfl rfl rfl rfl ?_ | fail))
  refine Tri.ret (retV rfl rfl)
theorem fiTwo_eq (w h : Int) (a u : List Int) (w' h' : Int) (a' u' : List Int) : alike w h a u w' h' a' u' = (((isFig w h a u && isFig w' h' a' u') && (w == w')) && (h == h')) := by
  unfold alike
  cases isFig w h a u <;> cases isFig w' h' a' u' <;> cases (w == w') <;> cases (h == h') <;> rfl
theorem fiTwo_fn (w h : Int) (a u : List Int) (w' h' : Int) (a' u' : List Int) : FnV env 53 [fig w h a u, fig w' h' a' u'] (.d (.bool (alike w h a u w' h' a' u'))) := by
  rw [fiTwo_eq]
  refine Fn.vs (E := env) 25 Tryd.func53 rfl (by kernel_rfl) rfl rfl ?_
  (repeat' (first | refine TriOps.v1 rfl rfl rfl rfl True.intro ?_ | refine TriOps.nil ?_ | refine Tri.region ?_ | refine Tri.seq ?_ | refine Tri.block ?_ | refine Tri.skip ?_ | refine Tri.exit ?_ | refine TriOps.s1 rfl rfl rfl ?_ | refine TriOps.b1 rfl rfl rfl rfl rfl rfl ?_ | refine TriOps.a1 rfl rfl rfl rfl rfl rfl rfl ?_ | refine TriOps.w1 rfl rfl rfl rfl rfl rfl rfl rfl rfl ?_ | fail))
  refine TriOps.c1 rfl rfl rfl rfl rfl (fiGood_fn _ _ _ _) rfl ?_
  (repeat' (first | refine TriOps.v1 rfl rfl rfl rfl True.intro ?_ | refine TriOps.nil ?_ | refine Tri.region ?_ | refine Tri.seq ?_ | refine Tri.block ?_ | refine Tri.skip ?_ | refine Tri.exit ?_ | refine TriOps.s1 rfl rfl rfl ?_ | refine TriOps.b1 rfl rfl rfl rfl rfl rfl ?_ | refine TriOps.a1 rfl rfl rfl rfl rfl rfl rfl ?_ | refine TriOps.w1 rfl rfl rfl rfl rfl rfl rfl rfl rfl ?_ | fail))
  refine TriOps.g1 rfl rfl rfl (fun hg => ?_) (fun hg => ?_) <;> rw [hg]
  · (repeat' (first | refine TriOps.v1 rfl rfl rfl rfl True.intro ?_ | refine TriOps.nil ?_ | refine Tri.region ?_ | refine Tri.seq ?_ | refine Tri.block ?_ | refine Tri.skip ?_ | refine Tri.exit ?_ | refine TriOps.s1 rfl rfl rfl ?_ | refine TriOps.b1 rfl rfl rfl rfl rfl rfl ?_ | refine TriOps.a1 rfl rfl rfl rfl rfl rfl rfl ?_ | refine TriOps.w1 rfl rfl rfl rfl rfl rfl rfl rfl rfl ?_ | fail))
    refine TriOps.c1 rfl rfl rfl rfl rfl (fiGood_fn _ _ _ _) rfl ?_
    (repeat' (first | refine TriOps.v1 rfl rfl rfl rfl True.intro ?_ | refine TriOps.nil ?_ | refine Tri.region ?_ | refine Tri.seq ?_ | refine Tri.block ?_ | refine Tri.skip ?_ | refine Tri.exit ?_ | refine TriOps.s1 rfl rfl rfl ?_ | refine TriOps.b1 rfl rfl rfl rfl rfl rfl ?_ | refine TriOps.a1 rfl rfl rfl rfl rfl rfl rfl ?_ | refine TriOps.w1 rfl rfl rfl rfl rfl rfl rfl rfl rfl ?_ | fail))
    refine TriOps.g1 rfl rfl rfl (fun hg => ?_) (fun hg => ?_)
    · have hg : isFig w' h' a' u' = true := hg
      rw [hg]
      (repeat' (first | refine TriOps.v1 rfl rfl rfl rfl True.intro ?_ | refine TriOps.nil ?_ | refine Tri.region ?_ | refine Tri.seq ?_ | refine Tri.block ?_ | refine Tri.skip ?_ | refine Tri.exit ?_ | refine TriOps.s1 rfl rfl rfl ?_ | refine TriOps.b1 rfl rfl rfl rfl rfl rfl ?_ | refine TriOps.a1 rfl rfl rfl rfl rfl rfl rfl ?_ | refine TriOps.w1 rfl rfl rfl rfl rfl rfl rfl rfl rfl ?_ | fail))
      refine TriOps.g1 rfl rfl rfl (fun hg => ?_) (fun hg => ?_)
      · have hg : (w == w') = true := hg
        rw [hg]
        (repeat' (first | refine TriOps.v1 rfl rfl rfl rfl True.intro ?_ | refine TriOps.nil ?_ | refine Tri.region ?_ | refine Tri.seq ?_ | refine Tri.block ?_ | refine Tri.skip ?_ | refine Tri.exit ?_ | refine TriOps.s1 rfl rfl rfl ?_ | refine TriOps.b1 rfl rfl rfl rfl rfl rfl ?_ | refine TriOps.a1 rfl rfl rfl rfl rfl rfl rfl ?_ | refine TriOps.w1 rfl rfl rfl rfl rfl rfl rfl rfl rfl ?_ | fail))
        refine Tri.ret (retV rfl rfl)
      · have hg : (w == w') = false := hg
        rw [hg]
        (repeat' (first | refine TriOps.v1 rfl rfl rfl rfl True.intro ?_ | refine TriOps.nil ?_ | refine Tri.region ?_ | refine Tri.seq ?_ | refine Tri.block ?_ | refine Tri.skip ?_ | refine Tri.exit ?_ | refine TriOps.s1 rfl rfl rfl ?_ | refine TriOps.b1 rfl rfl rfl rfl rfl rfl ?_ | refine TriOps.a1 rfl rfl rfl rfl rfl rfl rfl ?_ | refine TriOps.w1 rfl rfl rfl rfl rfl rfl rfl rfl rfl ?_ | fail))
        refine Tri.ret (retV rfl rfl)
    · have hg : isFig w' h' a' u' = false := hg
      rw [hg]
      (repeat' (first | refine TriOps.v1 rfl rfl rfl rfl True.intro ?_ | refine TriOps.nil ?_ | refine Tri.region ?_ | refine Tri.seq ?_ | refine Tri.block ?_ | refine Tri.skip ?_ | refine Tri.exit ?_ | refine TriOps.s1 rfl rfl rfl ?_ | refine TriOps.b1 rfl rfl rfl rfl rfl rfl ?_ | refine TriOps.a1 rfl rfl rfl rfl rfl rfl rfl ?_ | refine TriOps.w1 rfl rfl rfl rfl rfl rfl rfl rfl rfl ?_ | fail))
      refine Tri.ret (retV rfl rfl)
  · (repeat' (first | refine TriOps.v1 rfl rfl rfl rfl True.intro ?_ | refine TriOps.nil ?_ | refine Tri.region ?_ | refine Tri.seq ?_ | refine Tri.block ?_ | refine Tri.skip ?_ | refine Tri.exit ?_ | refine TriOps.s1 rfl rfl rfl ?_ | refine TriOps.b1 rfl rfl rfl rfl rfl rfl ?_ | refine TriOps.a1 rfl rfl rfl rfl rfl rfl rfl ?_ | refine TriOps.w1 rfl rfl rfl rfl rfl rfl rfl rfl rfl ?_ | fail))
    refine Tri.ret (retV rfl rfl)
end Go.Proofs.YthmbdoegcpicbaaDoor.Abs

/-! ## C12 -/
namespace Go.Proofs.YthmbdoegcpicbaaDoor.Abs
open Go.Proofs
def okFig (w h : Int) (a u : List Int) : AV := .tuple [fig w h a u, .d (.bool true)]
theorem IsF.len {w h : Int} {a u : List Int} (hf : IsF w h a u) : a.length ≤ 20 ∧ u.length ≤ 20 := by
  have h1 := mul_bd hf.bw hf.bh
  have h2 := mul_bd hf.bh hf.bw
  have h3 := rising_len (lo := 0) (hi := w * (h + 1) - 1) a hf.ra (fun k hk => by have := hf.ba k hk; omega) (by omega)
  have h4 := rising_len (lo := 0) (hi := h * (w + 1) - 1) u hf.ru (fun k hk => by have := hf.bu k hk; omega) (by omega)
  omega
theorem sLess_fn (w h : Int) (a u : List Int) (w' h' : Int) (a' u' : List Int) : FnV env 13 [fig w h a u, fig w' h' a' u'] (bif alike w h a u w' h' a' u' then okFig w h (those a a' false) (those u u' false) else noFig) := by
  refine Fn.vs (E := env) 14 Tryd.func13 rfl (by kernel_rfl) rfl rfl ?_
  (repeat' (first | refine TriOps.v1 rfl rfl rfl rfl True.intro ?_ | refine TriOps.nil ?_ | refine Tri.region ?_ | refine Tri.seq ?_ | refine Tri.block ?_ | refine Tri.skip ?_ | refine Tri.exit ?_ | refine TriOps.s1 rfl rfl rfl ?_ | refine TriOps.b1 rfl rfl rfl rfl rfl rfl ?_ | refine TriOps.a1 rfl rfl rfl rfl rfl rfl rfl ?_ | refine TriOps.w1 rfl rfl rfl rfl rfl rfl rfl rfl rfl ?_ | fail))
  refine TriOps.c1 rfl rfl rfl rfl rfl (fiTwo_fn _ _ _ _ _ _ _ _) rfl ?_
  (repeat' (first | refine TriOps.v1 rfl rfl rfl rfl True.intro ?_ | refine TriOps.nil ?_ | refine Tri.region ?_ | refine Tri.seq ?_ | refine Tri.block ?_ | refine Tri.skip ?_ | refine Tri.exit ?_ | refine TriOps.s1 rfl rfl rfl ?_ | refine TriOps.b1 rfl rfl rfl rfl rfl rfl ?_ | refine TriOps.a1 rfl rfl rfl rfl rfl rfl rfl ?_ | refine TriOps.w1 rfl rfl rfl rfl rfl rfl rfl rfl rfl ?_ | fail))
  refine Tri.cond rfl (fun hc => ?_) (fun hc => ?_)
  · have hc : alike w h a u w' h' a' u' = false := by simpa using hc
    rw [hc]
    (repeat' (first | refine TriOps.v1 rfl rfl rfl rfl True.intro ?_ | refine TriOps.nil ?_ | refine Tri.region ?_ | refine Tri.seq ?_ | refine Tri.block ?_ | refine Tri.skip ?_ | refine Tri.exit ?_ | refine TriOps.s1 rfl rfl rfl ?_ | refine TriOps.b1 rfl rfl rfl rfl rfl rfl ?_ | refine TriOps.a1 rfl rfl rfl rfl rfl rfl rfl ?_ | refine TriOps.w1 rfl rfl rfl rfl rfl rfl rfl rfl rfl ?_ | fail))
    refine Tri.ret (retL rfl noFig_le)
  · have hc : alike w h a u w' h' a' u' = true := by simpa using hc
    rw [hc]
    obtain ⟨f1, f2, rfl, rfl⟩ := alike_of hc
    have l1 := f1.len
    (repeat' (first | refine TriOps.v1 rfl rfl rfl rfl True.intro ?_ | refine TriOps.nil ?_ | refine Tri.region ?_ | refine Tri.seq ?_ | refine Tri.block ?_ | refine Tri.skip ?_ | refine Tri.exit ?_ | refine TriOps.s1 rfl rfl rfl ?_ | refine TriOps.b1 rfl rfl rfl rfl rfl rfl ?_ | refine TriOps.a1 rfl rfl rfl rfl rfl rfl rfl ?_ | refine TriOps.w1 rfl rfl rfl rfl rfl rfl rfl rfl rfl ?_ | fail))
    refine TriOps.m1 rfl rfl rfl rfl rfl rfl (fiLess_fn _ _ _ _ _ _ _ _ (by omega) (by omega)) rfl ?_
    (repeat' (first | refine TriOps.v1 rfl rfl rfl rfl True.intro ?_ | refine TriOps.nil ?_ | refine Tri.region ?_ | refine Tri.seq ?_ | refine Tri.block ?_ | refine Tri.skip ?_ | refine Tri.exit ?_ | refine TriOps.s1 rfl rfl rfl ?_ | refine TriOps.b1 rfl rfl rfl rfl rfl rfl ?_ | refine TriOps.a1 rfl rfl rfl rfl rfl rfl rfl ?_ | refine TriOps.w1 rfl rfl rfl rfl rfl rfl rfl rfl rfl ?_ | fail))
    refine Tri.ret (retV rfl rfl)
theorem sFull_fn (w h : Int) : FnV env 28 [.d (.int .i64 w), .d (.int .i64 h)] (bif isGrid w h then okFig w h (upTo (w * (h + 1)).toNat) (upTo (h * (w + 1)).toNat) else noFig) := by
  refine Fn.vs (E := env) 14 Tryd.func28 rfl (by kernel_rfl) rfl rfl ?_
  (repeat' (first | refine TriOps.v1 rfl rfl rfl rfl True.intro ?_ | refine TriOps.nil ?_ | refine Tri.region ?_ | refine Tri.seq ?_ | refine Tri.block ?_ | refine Tri.skip ?_ | refine Tri.exit ?_ | refine TriOps.s1 rfl rfl rfl ?_ | refine TriOps.b1 rfl rfl rfl rfl rfl rfl ?_ | refine TriOps.a1 rfl rfl rfl rfl rfl rfl rfl ?_ | refine TriOps.w1 rfl rfl rfl rfl rfl rfl rfl rfl rfl ?_ | fail))
  refine TriOps.c1 rfl rfl rfl rfl rfl (fiGrid_fn _ _) rfl ?_
  (repeat' (first | refine TriOps.v1 rfl rfl rfl rfl True.intro ?_ | refine TriOps.nil ?_ | refine Tri.region ?_ | refine Tri.seq ?_ | refine Tri.block ?_ | refine Tri.skip ?_ | refine Tri.exit ?_ | refine TriOps.s1 rfl rfl rfl ?_ | refine TriOps.b1 rfl rfl rfl rfl rfl rfl ?_ | refine TriOps.a1 rfl rfl rfl rfl rfl rfl rfl ?_ | refine TriOps.w1 rfl rfl rfl rfl rfl rfl rfl rfl rfl ?_ | fail))
  refine Tri.cond rfl (fun hc => ?_) (fun hc => ?_)
  · have hc : isGrid w h = false := by simpa using hc
    rw [hc]
    (repeat' (first | refine TriOps.v1 rfl rfl rfl rfl True.intro ?_ | refine TriOps.nil ?_ | refine Tri.region ?_ | refine Tri.seq ?_ | refine Tri.block ?_ | refine Tri.skip ?_ | refine Tri.exit ?_ | refine TriOps.s1 rfl rfl rfl ?_ | refine TriOps.b1 rfl rfl rfl rfl rfl rfl ?_ | refine TriOps.a1 rfl rfl rfl rfl rfl rfl rfl ?_ | refine TriOps.w1 rfl rfl rfl rfl rfl rfl rfl rfl rfl ?_ | fail))
    refine Tri.ret (retL rfl noFig_le)
  · have hc : isGrid w h = true := by simpa using hc
    rw [hc]
    obtain ⟨bw, bh⟩ := isGrid_bd hc
    (repeat' (first | refine TriOps.v1 rfl rfl rfl rfl True.intro ?_ | refine TriOps.nil ?_ | refine Tri.region ?_ | refine Tri.seq ?_ | refine Tri.block ?_ | refine Tri.skip ?_ | refine Tri.exit ?_ | refine TriOps.s1 rfl rfl rfl ?_ | refine TriOps.b1 rfl rfl rfl rfl rfl rfl ?_ | refine TriOps.a1 rfl rfl rfl rfl rfl rfl rfl ?_ | refine TriOps.w1 rfl rfl rfl rfl rfl rfl rfl rfl rfl ?_ | fail))
    refine TriOps.m1 rfl rfl rfl rfl rfl rfl (fiFull_fn w h bw bh) rfl ?_
    (repeat' (first | refine TriOps.v1 rfl rfl rfl rfl True.intro ?_ | refine TriOps.nil ?_ | refine Tri.region ?_ | refine Tri.seq ?_ | refine Tri.block ?_ | refine Tri.skip ?_ | refine Tri.exit ?_ | refine TriOps.s1 rfl rfl rfl ?_ | refine TriOps.b1 rfl rfl rfl rfl rfl rfl ?_ | refine TriOps.a1 rfl rfl rfl rfl rfl rfl rfl ?_ | refine TriOps.w1 rfl rfl rfl rfl rfl rfl rfl rfl rfl ?_ | fail))
    refine Tri.ret (retV rfl rfl)
theorem sJoin_fn (w h : Int) (a u : List Int) (w' h' : Int) (a' u' : List Int) : FnV env 9 [fig w h a u, fig w' h' a' u'] (bif alike w h a u w' h' a' u' then
    okFig w h (those (upTo (w * (h + 1)).toNat) (those (those (upTo (w * (h + 1)).toNat) a false) a' false) false) (those (upTo (h * (w + 1)).toNat) (those (those (upTo (h * (w + 1)).toNat) u false) u' false) false) else noFig) := by
  refine Fn.vs (E := env) 16 Tryd.func9 rfl (by kernel_rfl) rfl rfl ?_
  (repeat' (first | refine TriOps.v1 rfl rfl rfl rfl True.intro ?_ | refine TriOps.nil ?_ | refine Tri.region ?_ | refine Tri.seq ?_ | refine Tri.block ?_ | refine Tri.skip ?_ | refine Tri.exit ?_ | refine TriOps.s1 rfl rfl rfl ?_ | refine TriOps.b1 rfl rfl rfl rfl rfl rfl ?_ | refine TriOps.a1 rfl rfl rfl rfl rfl rfl rfl ?_ | refine TriOps.w1 rfl rfl rfl rfl rfl rfl rfl rfl rfl ?_ | fail))
  refine TriOps.c1 rfl rfl rfl rfl rfl (fiTwo_fn _ _ _ _ _ _ _ _) rfl ?_
  (repeat' (first | refine TriOps.v1 rfl rfl rfl rfl True.intro ?_ | refine TriOps.nil ?_ | refine Tri.region ?_ | refine Tri.seq ?_ | refine Tri.block ?_ | refine Tri.skip ?_ | refine Tri.exit ?_ | refine TriOps.s1 rfl rfl rfl ?_ | refine TriOps.b1 rfl rfl rfl rfl rfl rfl ?_ | refine TriOps.a1 rfl rfl rfl rfl rfl rfl rfl ?_ | refine TriOps.w1 rfl rfl rfl rfl rfl rfl rfl rfl rfl ?_ | fail))
  refine Tri.cond rfl (fun hc => ?_) (fun hc => ?_)
  · have hc : alike w h a u w' h' a' u' = false := by simpa using hc
    rw [hc]
    (repeat' (first | refine TriOps.v1 rfl rfl rfl rfl True.intro ?_ | refine TriOps.nil ?_ | refine Tri.region ?_ | refine Tri.seq ?_ | refine Tri.block ?_ | refine Tri.skip ?_ | refine Tri.exit ?_ | refine TriOps.s1 rfl rfl rfl ?_ | refine TriOps.b1 rfl rfl rfl rfl rfl rfl ?_ | refine TriOps.a1 rfl rfl rfl rfl rfl rfl rfl ?_ | refine TriOps.w1 rfl rfl rfl rfl rfl rfl rfl rfl rfl ?_ | fail))
    refine Tri.ret (retL rfl noFig_le)
  · have hc : alike w h a u w' h' a' u' = true := by simpa using hc
    rw [hc]
    obtain ⟨f1, f2, rfl, rfl⟩ := alike_of hc
    have h1 := mul_bd f1.bw f1.bh
    have h2 := mul_bd f1.bh f1.bw
    have k1 := those_len (upTo (w * (h + 1)).toNat) a false
    have k2 := those_len (upTo (h * (w + 1)).toNat) u false
    rw [upTo_len] at k1 k2
    (repeat' (first | refine TriOps.v1 rfl rfl rfl rfl True.intro ?_ | refine TriOps.nil ?_ | refine Tri.region ?_ | refine Tri.seq ?_ | refine Tri.block ?_ | refine Tri.skip ?_ | refine Tri.exit ?_ | refine TriOps.s1 rfl rfl rfl ?_ | refine TriOps.b1 rfl rfl rfl rfl rfl rfl ?_ | refine TriOps.a1 rfl rfl rfl rfl rfl rfl rfl ?_ | refine TriOps.w1 rfl rfl rfl rfl rfl rfl rfl rfl rfl ?_ | fail))
    refine Tri.dz [.loc 2, .loc 3] [(0, 1), (2, 1), (1, 2), (3, 2), (4, 2), (5, 2), (6, 0)] (by kernel_rfl) rfl ?_
    (repeat' (first | refine TS.v1 rfl (fun _ _ h => h) rfl rfl rfl rfl rfl True.intro ?_ | refine TS.t1 rfl (fun _ _ h => h) rfl rfl rfl rfl rfl True.intro ?_ | refine TS.nil ?_ | refine TS.n0 rfl (fun _ _ h => h) rfl rfl rfl ?_ | refine TS.n1 rfl (fun _ _ h => h) rfl rfl rfl ?_ | refine TS.n2 rfl rfl rfl rfl ?_ | refine TS.w1 rfl rfl rfl rfl rfl rfl rfl rfl rfl rfl rfl rfl ?_ | fail))
    refine TS.m1 rfl rfl rfl rfl rfl rfl rfl rfl (fiMissing_fn _ _ _ _ f1.bw f1.bh) rfl ?_
    refine TS.m1 rfl rfl rfl rfl rfl rfl rfl rfl (fiLess_fn _ _ _ _ _ _ _ _ (by omega) (by omega)) rfl ?_
    refine TS.m1 rfl rfl rfl rfl rfl rfl rfl rfl (fiMissing_fn _ _ _ _ f1.bw f1.bh) rfl ?_
    (repeat' (first | refine TS.v1 rfl (fun _ _ h => h) rfl rfl rfl rfl rfl True.intro ?_ | refine TS.t1 rfl (fun _ _ h => h) rfl rfl rfl rfl rfl True.intro ?_ | refine TS.nil ?_ | refine TS.n0 rfl (fun _ _ h => h) rfl rfl rfl ?_ | refine TS.n1 rfl (fun _ _ h => h) rfl rfl rfl ?_ | refine TS.n2 rfl rfl rfl rfl ?_ | refine TS.w1 rfl rfl rfl rfl rfl rfl rfl rfl rfl rfl rfl rfl ?_ | fail))
    refine Tri.ret (retV rfl rfl)
end Go.Proofs.YthmbdoegcpicbaaDoor.Abs

/-! ## C13 -/
namespace Go.Proofs.YthmbdoegcpicbaaDoor.Abs
open Go.Proofs
theorem sMissing_fn (w h : Int) (a u : List Int) : FnV env 19 [fig w h a u] (bif isFig w h a u then okFig w h (those (upTo (w * (h + 1)).toNat) a false) (those (upTo (h * (w + 1)).toNat) u false) else noFig) := by
  refine Fn.vs (E := env) 10 Tryd.func19 rfl (by kernel_rfl) rfl rfl ?_
  (repeat' (first | refine TriOps.v1 rfl rfl rfl rfl True.intro ?_ | refine TriOps.nil ?_ | refine Tri.region ?_ | refine Tri.seq ?_ | refine Tri.block ?_ | refine Tri.skip ?_ | refine Tri.exit ?_ | refine TriOps.s1 rfl rfl rfl ?_ | refine TriOps.b1 rfl rfl rfl rfl rfl rfl ?_ | refine TriOps.a1 rfl rfl rfl rfl rfl rfl rfl ?_ | refine TriOps.w1 rfl rfl rfl rfl rfl rfl rfl rfl rfl ?_ | fail))
  refine TriOps.c1 rfl rfl rfl rfl rfl (fiGood_fn _ _ _ _) rfl ?_
  (repeat' (first | refine TriOps.v1 rfl rfl rfl rfl True.intro ?_ | refine TriOps.nil ?_ | refine Tri.region ?_ | refine Tri.seq ?_ | refine Tri.block ?_ | refine Tri.skip ?_ | refine Tri.exit ?_ | refine TriOps.s1 rfl rfl rfl ?_ | refine TriOps.b1 rfl rfl rfl rfl rfl rfl ?_ | refine TriOps.a1 rfl rfl rfl rfl rfl rfl rfl ?_ | refine TriOps.w1 rfl rfl rfl rfl rfl rfl rfl rfl rfl ?_ | fail))
  refine Tri.cond rfl (fun hc => ?_) (fun hc => ?_)
  · have hc : isFig w h a u = false := by simpa using hc
    rw [hc]
    (repeat' (first | refine TriOps.v1 rfl rfl rfl rfl True.intro ?_ | refine TriOps.nil ?_ | refine Tri.region ?_ | refine Tri.seq ?_ | refine Tri.block ?_ | refine Tri.skip ?_ | refine Tri.exit ?_ | refine TriOps.s1 rfl rfl rfl ?_ | refine TriOps.b1 rfl rfl rfl rfl rfl rfl ?_ | refine TriOps.a1 rfl rfl rfl rfl rfl rfl rfl ?_ | refine TriOps.w1 rfl rfl rfl rfl rfl rfl rfl rfl rfl ?_ | fail))
    refine Tri.ret (retL rfl noFig_le)
  · have hc : isFig w h a u = true := by simpa using hc
    rw [hc]
    have f1 := isF_of hc
    (repeat' (first | refine TriOps.v1 rfl rfl rfl rfl True.intro ?_ | refine TriOps.nil ?_ | refine Tri.region ?_ | refine Tri.seq ?_ | refine Tri.block ?_ | refine Tri.skip ?_ | refine Tri.exit ?_ | refine TriOps.s1 rfl rfl rfl ?_ | refine TriOps.b1 rfl rfl rfl rfl rfl rfl ?_ | refine TriOps.a1 rfl rfl rfl rfl rfl rfl rfl ?_ | refine TriOps.w1 rfl rfl rfl rfl rfl rfl rfl rfl rfl ?_ | fail))
    refine TriOps.m1 rfl rfl rfl rfl rfl rfl (fiMissing_fn _ _ _ _ f1.bw f1.bh) rfl ?_
    (repeat' (first | refine TriOps.v1 rfl rfl rfl rfl True.intro ?_ | refine TriOps.nil ?_ | refine Tri.region ?_ | refine Tri.seq ?_ | refine Tri.block ?_ | refine Tri.skip ?_ | refine Tri.exit ?_ | refine TriOps.s1 rfl rfl rfl ?_ | refine TriOps.b1 rfl rfl rfl rfl rfl rfl ?_ | refine TriOps.a1 rfl rfl rfl rfl rfl rfl rfl ?_ | refine TriOps.w1 rfl rfl rfl rfl rfl rfl rfl rfl rfl ?_ | fail))
    refine Tri.ret (retV rfl rfl)
theorem sCommon_fn (w h : Int) (a u : List Int) (w' h' : Int) (a' u' : List Int) : FnV env 11 [fig w h a u, fig w' h' a' u'] (bif alike w h a u w' h' a' u' then
    okFig w h (those a (those (upTo (w * (h + 1)).toNat) a' false) false) (those u (those (upTo (h * (w + 1)).toNat) u' false) false) else noFig) := by
  refine Fn.vs (E := env) 15 Tryd.func11 rfl (by kernel_rfl) rfl rfl ?_
  (repeat' (first | refine TriOps.v1 rfl rfl rfl rfl True.intro ?_ | refine TriOps.nil ?_ | refine Tri.region ?_ | refine Tri.seq ?_ | refine Tri.block ?_ | refine Tri.skip ?_ | refine Tri.exit ?_ | refine TriOps.s1 rfl rfl rfl ?_ | refine TriOps.b1 rfl rfl rfl rfl rfl rfl ?_ | refine TriOps.a1 rfl rfl rfl rfl rfl rfl rfl ?_ | refine TriOps.w1 rfl rfl rfl rfl rfl rfl rfl rfl rfl ?_ | fail))
  refine TriOps.c1 rfl rfl rfl rfl rfl (fiTwo_fn _ _ _ _ _ _ _ _) rfl ?_
  (repeat' (first | refine TriOps.v1 rfl rfl rfl rfl True.intro ?_ | refine TriOps.nil ?_ | refine Tri.region ?_ | refine Tri.seq ?_ | refine Tri.block ?_ | refine Tri.skip ?_ | refine Tri.exit ?_ | refine TriOps.s1 rfl rfl rfl ?_ | refine TriOps.b1 rfl rfl rfl rfl rfl rfl ?_ | refine TriOps.a1 rfl rfl rfl rfl rfl rfl rfl ?_ | refine TriOps.w1 rfl rfl rfl rfl rfl rfl rfl rfl rfl ?_ | fail))
  refine Tri.cond rfl (fun hc => ?_) (fun hc => ?_)
  · have hc : alike w h a u w' h' a' u' = false := by simpa using hc
    rw [hc]
    (repeat' (first | refine TriOps.v1 rfl rfl rfl rfl True.intro ?_ | refine TriOps.nil ?_ | refine Tri.region ?_ | refine Tri.seq ?_ | refine Tri.block ?_ | refine Tri.skip ?_ | refine Tri.exit ?_ | refine TriOps.s1 rfl rfl rfl ?_ | refine TriOps.b1 rfl rfl rfl rfl rfl rfl ?_ | refine TriOps.a1 rfl rfl rfl rfl rfl rfl rfl ?_ | refine TriOps.w1 rfl rfl rfl rfl rfl rfl rfl rfl rfl ?_ | fail))
    refine Tri.ret (retL rfl noFig_le)
  · have hc : alike w h a u w' h' a' u' = true := by simpa using hc
    rw [hc]
    obtain ⟨f1, f2, rfl, rfl⟩ := alike_of hc
    have l1 := f1.len
    (repeat' (first | refine TriOps.v1 rfl rfl rfl rfl True.intro ?_ | refine TriOps.nil ?_ | refine Tri.region ?_ | refine Tri.seq ?_ | refine Tri.block ?_ | refine Tri.skip ?_ | refine Tri.exit ?_ | refine TriOps.s1 rfl rfl rfl ?_ | refine TriOps.b1 rfl rfl rfl rfl rfl rfl ?_ | refine TriOps.a1 rfl rfl rfl rfl rfl rfl rfl ?_ | refine TriOps.w1 rfl rfl rfl rfl rfl rfl rfl rfl rfl ?_ | fail))
    refine Tri.dz [.loc 2, .loc 3] [(0, 1), (1, 1), (2, 2), (3, 2), (4, 2), (5, 0)] (by kernel_rfl) rfl ?_
    (repeat' (first | refine TS.v1 rfl (fun _ _ h => h) rfl rfl rfl rfl rfl True.intro ?_ | refine TS.t1 rfl (fun _ _ h => h) rfl rfl rfl rfl rfl True.intro ?_ | refine TS.nil ?_ | refine TS.n0 rfl (fun _ _ h => h) rfl rfl rfl ?_ | refine TS.n1 rfl (fun _ _ h => h) rfl rfl rfl ?_ | refine TS.n2 rfl rfl rfl rfl ?_ | refine TS.w1 rfl rfl rfl rfl rfl rfl rfl rfl rfl rfl rfl rfl ?_ | fail))
    refine TS.m1 rfl rfl rfl rfl rfl rfl rfl rfl (fiMissing_fn _ _ _ _ f1.bw f1.bh) rfl ?_
    refine TS.m1 rfl rfl rfl rfl rfl rfl rfl rfl (fiLess_fn _ _ _ _ _ _ _ _ (by omega) (by omega)) rfl ?_
    (repeat' (first | refine TS.v1 rfl (fun _ _ h => h) rfl rfl rfl rfl rfl True.intro ?_ | refine TS.t1 rfl (fun _ _ h => h) rfl rfl rfl rfl rfl True.intro ?_ | refine TS.nil ?_ | refine TS.n0 rfl (fun _ _ h => h) rfl rfl rfl ?_ | refine TS.n1 rfl (fun _ _ h => h) rfl rfl rfl ?_ | refine TS.n2 rfl rfl rfl rfl ?_ | refine TS.w1 rfl rfl rfl rfl rfl rfl rfl rfl rfl rfl rfl rfl ?_ | fail))
    refine Tri.ret (retV rfl rfl)
theorem emptyFig_le (w h : Int) : AV.Le (.tuple [.agg [.d (.int .i64 w), .d (.int .i64 h), .nils, .nils], .d (.bool true)]) (okFig w h [] []) :=
  AV.Le.tuple (AV.Les.cons (AV.Le.agg (AV.Les.cons (AV.Le.refl _) (AV.Les.cons (AV.Le.refl _) (AV.Les.cons (AV.Le.nil (sz := 1) rfl) (AV.Les.cons (AV.Le.nil (sz := 1) rfl) AV.Les.nil))))) (AV.Les.cons (AV.Le.refl _) AV.Les.nil))
theorem sEmpty_fn (w h : Int) : FnV env 29 [.d (.int .i64 w), .d (.int .i64 h)] (bif isGrid w h then okFig w h [] [] else noFig) := by
  refine Fn.vs (E := env) 14 Tryd.func29 rfl (by kernel_rfl) rfl rfl ?_
  (repeat' (first | refine TriOps.v1 rfl rfl rfl rfl True.intro ?_ | refine TriOps.nil ?_ | refine Tri.region ?_ | refine Tri.seq ?_ | refine Tri.block ?_ | refine Tri.skip ?_ | refine Tri.exit ?_ | refine TriOps.s1 rfl rfl rfl ?_ | refine TriOps.b1 rfl rfl rfl rfl rfl rfl ?_ | refine TriOps.a1 rfl rfl rfl rfl rfl rfl rfl ?_ | refine TriOps.w1 rfl rfl rfl rfl rfl rfl rfl rfl rfl ?_ | fail))
  refine TriOps.c1 rfl rfl rfl rfl rfl (fiGrid_fn _ _) rfl ?_
  (repeat' (first | refine TriOps.v1 rfl rfl rfl rfl True.intro ?_ | refine TriOps.nil ?_ | refine Tri.region ?_ | refine Tri.seq ?_ | refine Tri.block ?_ | refine Tri.skip ?_ | refine Tri.exit ?_ | refine TriOps.s1 rfl rfl rfl ?_ | refine TriOps.b1 rfl rfl rfl rfl rfl rfl ?_ | refine TriOps.a1 rfl rfl rfl rfl rfl rfl rfl ?_ | refine TriOps.w1 rfl rfl rfl rfl rfl rfl rfl rfl rfl ?_ | fail))
  refine Tri.cond rfl (fun hc => ?_) (fun hc => ?_)
  · have hc : isGrid w h = false := by simpa using hc
    rw [hc]
    (repeat' (first | refine TriOps.v1 rfl rfl rfl rfl True.intro ?_ | refine TriOps.nil ?_ | refine Tri.region ?_ | refine Tri.seq ?_ | refine Tri.block ?_ | refine Tri.skip ?_ | refine Tri.exit ?_ | refine TriOps.s1 rfl rfl rfl ?_ | refine TriOps.b1 rfl rfl rfl rfl rfl rfl ?_ | refine TriOps.a1 rfl rfl rfl rfl rfl rfl rfl ?_ | refine TriOps.w1 rfl rfl rfl rfl rfl rfl rfl rfl rfl ?_ | fail))
    refine Tri.ret (retL rfl noFig_le)
  · have hc : isGrid w h = true := by simpa using hc
    rw [hc]
    (repeat' (first | refine TriOps.v1 rfl rfl rfl rfl True.intro ?_ | refine TriOps.nil ?_ | refine Tri.region ?_ | refine Tri.seq ?_ | refine Tri.block ?_ | refine Tri.skip ?_ | refine Tri.exit ?_ | refine TriOps.s1 rfl rfl rfl ?_ | refine TriOps.b1 rfl rfl rfl rfl rfl rfl ?_ | refine TriOps.a1 rfl rfl rfl rfl rfl rfl rfl ?_ | refine TriOps.w1 rfl rfl rfl rfl rfl rfl rfl rfl rfl ?_ | fail))
    refine Tri.ret (retL rfl (emptyFig_le w h))
def noInt : AV := .tuple [.d (.int .i64 0), .d (.bool false)]
def okInt (n : Int) : AV := .tuple [.d (.int .i64 n), .d (.bool true)]
theorem sCount_fn (w h : Int) (a u : List Int) : FnV env 20 [fig w h a u] (bif isFig w h a u then okInt ((a.length : Int) + u.length) else noInt) := by
  refine Fn.vs (E := env) 9 Tryd.func20 rfl (by kernel_rfl) rfl rfl ?_
  (repeat' (first | refine TriOps.v1 rfl rfl rfl rfl True.intro ?_ | refine TriOps.nil ?_ | refine Tri.region ?_ | refine Tri.seq ?_ | refine Tri.block ?_ | refine Tri.skip ?_ | refine Tri.exit ?_ | refine TriOps.s1 rfl rfl rfl ?_ | refine TriOps.b1 rfl rfl rfl rfl rfl rfl ?_ | refine TriOps.a1 rfl rfl rfl rfl rfl rfl rfl ?_ | refine TriOps.w1 rfl rfl rfl rfl rfl rfl rfl rfl rfl ?_ | fail))
  refine TriOps.c1 rfl rfl rfl rfl rfl (fiGood_fn _ _ _ _) rfl ?_
  (repeat' (first | refine TriOps.v1 rfl rfl rfl rfl True.intro ?_ | refine TriOps.nil ?_ | refine Tri.region ?_ | refine Tri.seq ?_ | refine Tri.block ?_ | refine Tri.skip ?_ | refine Tri.exit ?_ | refine TriOps.s1 rfl rfl rfl ?_ | refine TriOps.b1 rfl rfl rfl rfl rfl rfl ?_ | refine TriOps.a1 rfl rfl rfl rfl rfl rfl rfl ?_ | refine TriOps.w1 rfl rfl rfl rfl rfl rfl rfl rfl rfl ?_ | fail))
  refine Tri.cond rfl (fun hc => ?_) (fun hc => ?_)
  · have hc : isFig w h a u = false := by simpa using hc
    rw [hc]
    (repeat' (first | refine TriOps.v1 rfl rfl rfl rfl True.intro ?_ | refine TriOps.nil ?_ | refine Tri.region ?_ | refine Tri.seq ?_ | refine Tri.block ?_ | refine Tri.skip ?_ | refine Tri.exit ?_ | refine TriOps.s1 rfl rfl rfl ?_ | refine TriOps.b1 rfl rfl rfl rfl rfl rfl ?_ | refine TriOps.a1 rfl rfl rfl rfl rfl rfl rfl ?_ | refine TriOps.w1 rfl rfl rfl rfl rfl rfl rfl rfl rfl ?_ | fail))
    refine Tri.ret (retV rfl rfl)
  · have hc : isFig w h a u = true := by simpa using hc
    rw [hc]
    have l1 := (isF_of hc).len
    (repeat' (first | refine TriOps.v1 rfl rfl rfl rfl True.intro ?_ | refine TriOps.nil ?_ | refine Tri.region ?_ | refine Tri.seq ?_ | refine Tri.block ?_ | refine Tri.skip ?_ | refine Tri.exit ?_ | refine TriOps.s1 rfl rfl rfl ?_ | refine TriOps.b1 rfl rfl rfl rfl rfl rfl ?_ | refine TriOps.a1 rfl rfl rfl rfl rfl rfl rfl ?_ | refine TriOps.w1 rfl rfl rfl rfl rfl rfl rfl rfl rfl ?_ | fail))
    refine TriOps.c1 rfl rfl rfl rfl rfl (fiCount_fn _ _ _ _ (by omega) (by omega)) rfl ?_
    (repeat' (first | refine TriOps.v1 rfl rfl rfl rfl True.intro ?_ | refine TriOps.nil ?_ | refine Tri.region ?_ | refine Tri.seq ?_ | refine Tri.block ?_ | refine Tri.skip ?_ | refine Tri.exit ?_ | refine TriOps.s1 rfl rfl rfl ?_ | refine TriOps.b1 rfl rfl rfl rfl rfl rfl ?_ | refine TriOps.a1 rfl rfl rfl rfl rfl rfl rfl ?_ | refine TriOps.w1 rfl rfl rfl rfl rfl rfl rfl rfl rfl ?_ | fail))
    refine Tri.ret (retV rfl rfl)
end Go.Proofs.YthmbdoegcpicbaaDoor.Abs

/-! ## C14 -/
namespace Go.Proofs.YthmbdoegcpicbaaDoor.Abs
open Go.Proofs
theorem sIsFigure_fn (w h : Int) (a u : List Int) : FnV env 22 [fig w h a u] (.d (.bool (isFig w h a u))) := by
  refine Fn.vs (E := env) 5 Tryd.func22 rfl (by kernel_rfl) rfl rfl ?_
  (repeat' (first | refine TriOps.v1 rfl rfl rfl rfl True.intro ?_ | refine TriOps.nil ?_ | refine Tri.region ?_ | refine Tri.seq ?_ | refine Tri.block ?_ | refine Tri.skip ?_ | refine Tri.exit ?_ | refine TriOps.s1 rfl rfl rfl ?_ | refine TriOps.b1 rfl rfl rfl rfl rfl rfl ?_ | refine TriOps.a1 rfl rfl rfl rfl rfl rfl rfl ?_ | refine TriOps.w1 rfl rfl rfl rfl rfl rfl rfl rfl rfl ?_ | fail))
  refine TriOps.c1 rfl rfl rfl rfl rfl (fiGood_fn _ _ _ _) rfl ?_
  (repeat' (first | refine TriOps.v1 rfl rfl rfl rfl True.intro ?_ | refine TriOps.nil ?_ | refine Tri.region ?_ | refine Tri.seq ?_ | refine Tri.block ?_ | refine Tri.skip ?_ | refine Tri.exit ?_ | refine TriOps.s1 rfl rfl rfl ?_ | refine TriOps.b1 rfl rfl rfl rfl rfl rfl ?_ | refine TriOps.a1 rfl rfl rfl rfl rfl rfl rfl ?_ | refine TriOps.w1 rfl rfl rfl rfl rfl rfl rfl rfl rfl ?_ | fail))
  refine Tri.ret (retV rfl rfl)
def sameI (a b : List Int) : Bool := decide (a = b)
theorem kSame_fn (a b : List Int) : FnV env 56 [.d (.ints .i64 a), .d (.ints .i64 b)] (.d (.bool (sameI a b))) := by
  refine Fn.vs (E := env) 26 Tryd.func56 rfl (by kernel_rfl) rfl rfl ?_
  refine Tri.bnd 0 (fun hl => ?_)
  have hl : a.length ≤ 9223372036854775807 := hl
  (repeat' (first | refine TriOps.v1 rfl rfl rfl rfl True.intro ?_ | refine TriOps.nil ?_ | refine Tri.region ?_ | refine Tri.seq ?_ | refine Tri.block ?_ | refine Tri.skip ?_ | refine Tri.exit ?_ | refine TriOps.s1 rfl rfl rfl ?_ | refine TriOps.b1 rfl rfl rfl rfl rfl rfl ?_ | refine TriOps.a1 rfl rfl rfl rfl rfl rfl rfl ?_ | refine TriOps.w1 rfl rfl rfl rfl rfl rfl rfl rfl rfl ?_ | fail))
  refine Tri.cond rfl (fun hc => ?_) (fun hc => ?_)
  · have hc : ((a.length : Int) != (b.length : Int)) = true := hc
    have : sameI a b = false := by
      refine decide_eq_false fun e => ?_
      rw [e] at hc
      simp at hc
    rw [this]
    (repeat' (first | refine TriOps.v1 rfl rfl rfl rfl True.intro ?_ | refine TriOps.nil ?_ | refine Tri.region ?_ | refine Tri.seq ?_ | refine Tri.block ?_ | refine Tri.skip ?_ | refine Tri.exit ?_ | refine TriOps.s1 rfl rfl rfl ?_ | refine TriOps.b1 rfl rfl rfl rfl rfl rfl ?_ | refine TriOps.a1 rfl rfl rfl rfl rfl rfl rfl ?_ | refine TriOps.w1 rfl rfl rfl rfl rfl rfl rfl rfl rfl ?_ | fail))
    refine Tri.ret (retV rfl rfl)
  · have hc : ((a.length : Int) != (b.length : Int)) = false := hc
    have hab : a.length = b.length := by
      have : (a.length : Int) = b.length := by simpa using hc
      omega
    (repeat' (first | refine TriOps.v1 rfl rfl rfl rfl True.intro ?_ | refine TriOps.nil ?_ | refine Tri.region ?_ | refine Tri.seq ?_ | refine Tri.block ?_ | refine Tri.skip ?_ | refine Tri.exit ?_ | refine TriOps.s1 rfl rfl rfl ?_ | refine TriOps.b1 rfl rfl rfl rfl rfl rfl ?_ | refine TriOps.a1 rfl rfl rfl rfl rfl rfl rfl ?_ | refine TriOps.w1 rfl rfl rfl rfl rfl rfl rfl rfl rfl ?_ | fail))
    refine Tri.loopI (fun i : Nat => i ≤ a.length ∧ ∀ j, j < i → a.getD j 0 = b.getD j 0) (fun i => stt 26 [(0, .d (.ints .i64 a)), (1, .d (.ints .i64 b)), (12, .d (.int .i64 a.length)), (13, .d (.int .i64 i))]) (fun i => a.length - i) 0 ⟨by omega, fun j hj => by omega⟩ (Wk.to rfl ⟨rfl, rfl, rfl, rfl, trivial⟩ trivial trivial) ?_
    rintro i ⟨h1, h3⟩
    (repeat' (first | refine TriOps.v1 rfl rfl rfl rfl True.intro ?_ | refine TriOps.nil ?_ | refine Tri.region ?_ | refine Tri.seq ?_ | refine Tri.block ?_ | refine Tri.skip ?_ | refine Tri.exit ?_ | refine TriOps.s1 rfl rfl rfl ?_ | refine TriOps.b1 rfl rfl rfl rfl rfl rfl ?_ | refine TriOps.a1 rfl rfl rfl rfl rfl rfl rfl ?_ | refine TriOps.w1 rfl rfl rfl rfl rfl rfl rfl rfl rfl ?_ | fail))
    refine Tri.cond rfl (fun hd => ?_) (fun hd => ?_)
    · have hd : (i : Int) < a.length := of_decide_eq_true hd
      (repeat' (first | refine TriOps.v1 rfl rfl rfl rfl True.intro ?_ | refine TriOps.nil ?_ | refine Tri.region ?_ | refine Tri.seq ?_ | refine Tri.block ?_ | refine Tri.skip ?_ | refine Tri.exit ?_ | refine TriOps.s1 rfl rfl rfl ?_ | refine TriOps.b1 rfl rfl rfl rfl rfl rfl ?_ | refine TriOps.a1 rfl rfl rfl rfl rfl rfl rfl ?_ | refine TriOps.w1 rfl rfl rfl rfl rfl rfl rfl rfl rfl ?_ | fail))
      refine Tri.dz [] [(0, 0), (1, 0), (2, 0), (3, 1), (4, 0), (5, 0), (6, 0), (7, 1), (8, 0)] (by kernel_rfl) rfl ?_
      (repeat' (first | refine TS.v1 rfl (fun _ _ h => h) rfl rfl rfl rfl rfl True.intro ?_ | refine TS.t1 rfl (fun _ _ h => h) rfl rfl rfl rfl rfl True.intro ?_ | refine TS.nil ?_ | refine TS.n0 rfl (fun _ _ h => h) rfl rfl rfl ?_ | refine TS.n1 rfl (fun _ _ h => h) rfl rfl rfl ?_ | refine TS.n2 rfl rfl rfl rfl ?_ | refine TS.w1 rfl rfl rfl rfl rfl rfl rfl rfl rfl rfl rfl rfl ?_ | fail))
      refine TS.v1 rfl (fun _ _ h => h) rfl rfl rfl rfl rfl ⟨by omega, by exact hd⟩ ?_
      (repeat' (first | refine TS.v1 rfl (fun _ _ h => h) rfl rfl rfl rfl rfl True.intro ?_ | refine TS.t1 rfl (fun _ _ h => h) rfl rfl rfl rfl rfl True.intro ?_ | refine TS.nil ?_ | refine TS.n0 rfl (fun _ _ h => h) rfl rfl rfl ?_ | refine TS.n1 rfl (fun _ _ h => h) rfl rfl rfl ?_ | refine TS.n2 rfl rfl rfl rfl ?_ | refine TS.w1 rfl rfl rfl rfl rfl rfl rfl rfl rfl rfl rfl rfl ?_ | fail))
      refine TS.v1 rfl (fun _ _ h => h) rfl rfl rfl rfl rfl ⟨by omega, by show (i : Int) < b.length; omega⟩ ?_
      (repeat' (first | refine TS.v1 rfl (fun _ _ h => h) rfl rfl rfl rfl rfl True.intro ?_ | refine TS.t1 rfl (fun _ _ h => h) rfl rfl rfl rfl rfl True.intro ?_ | refine TS.nil ?_ | refine TS.n0 rfl (fun _ _ h => h) rfl rfl rfl ?_ | refine TS.n1 rfl (fun _ _ h => h) rfl rfl rfl ?_ | refine TS.n2 rfl rfl rfl rfl ?_ | refine TS.w1 rfl rfl rfl rfl rfl rfl rfl rfl rfl rfl rfl rfl ?_ | fail))
      refine Tri.cond rfl (fun he => ?_) (fun he => ?_)
      · have he : (a.getD i 0 != b.getD i 0) = true := he
        have : sameI a b = false := by
          refine decide_eq_false fun e => ?_
          rw [e] at he
          simp at he
        rw [this]
        (repeat' (first | refine TriOps.v1 rfl rfl rfl rfl True.intro ?_ | refine TriOps.nil ?_ | refine Tri.region ?_ | refine Tri.seq ?_ | refine Tri.block ?_ | refine Tri.skip ?_ | refine Tri.exit ?_ | refine TriOps.s1 rfl rfl rfl ?_ | refine TriOps.b1 rfl rfl rfl rfl rfl rfl ?_ | refine TriOps.a1 rfl rfl rfl rfl rfl rfl rfl ?_ | refine TriOps.w1 rfl rfl rfl rfl rfl rfl rfl rfl rfl ?_ | fail))
        refine Tri.ret (retV rfl rfl)
      · have he : (a.getD i 0 != b.getD i 0) = false := he
        (repeat' (first | refine TriOps.v1 rfl rfl rfl rfl True.intro ?_ | refine TriOps.nil ?_ | refine Tri.region ?_ | refine Tri.seq ?_ | refine Tri.block ?_ | refine Tri.skip ?_ | refine Tri.exit ?_ | refine TriOps.s1 rfl rfl rfl ?_ | refine TriOps.b1 rfl rfl rfl rfl rfl rfl ?_ | refine TriOps.a1 rfl rfl rfl rfl rfl rfl rfl ?_ | refine TriOps.w1 rfl rfl rfl rfl rfl rfl rfl rfl rfl ?_ | fail))
        refine TriOps.v1 rfl rfl rfl rfl (by first | exact True.intro | exact inR_i64 (by omega) (by omega) | omega | (refine ⟨?_, ?_⟩ <;> omega)) ?_
        (repeat' (first | refine TriOps.v1 rfl rfl rfl rfl True.intro ?_ | refine TriOps.nil ?_ | refine Tri.region ?_ | refine Tri.seq ?_ | refine Tri.block ?_ | refine Tri.skip ?_ | refine Tri.exit ?_ | refine TriOps.s1 rfl rfl rfl ?_ | refine TriOps.b1 rfl rfl rfl rfl rfl rfl ?_ | refine TriOps.a1 rfl rfl rfl rfl rfl rfl rfl ?_ | refine TriOps.w1 rfl rfl rfl rfl rfl rfl rfl rfl rfl ?_ | fail))
        refine ⟨i + 1, ⟨by omega, fun j hj => ?_⟩, by omega, Wk.to rfl ⟨rfl, rfl, rfl, rfl, trivial⟩ trivial trivial⟩
        rcases Nat.lt_or_ge j i with h | h
        · exact h3 j h
        · obtain rfl : j = i := by omega
          simpa using he
    · have hd : ¬ (i : Int) < a.length := of_decide_eq_false hd
      have : sameI a b = true := by
        refine decide_eq_true (List.ext_getElem hab fun j j1 j2 => ?_)
        have := h3 j (by omega)
        rwa [List.getD_eq_getElem?_getD, List.getD_eq_getElem?_getD, List.getElem?_eq_getElem j1, List.getElem?_eq_getElem j2] at this
      rw [this]
      (repeat' (first | refine TriOps.v1 rfl rfl rfl rfl True.intro ?_ | refine TriOps.nil ?_ | refine Tri.region ?_ | refine Tri.seq ?_ | refine Tri.block ?_ | refine Tri.skip ?_ | refine Tri.exit ?_ | refine TriOps.s1 rfl rfl rfl ?_ | refine TriOps.b1 rfl rfl rfl rfl rfl rfl ?_ | refine TriOps.a1 rfl rfl rfl rfl rfl rfl rfl ?_ | refine TriOps.w1 rfl rfl rfl rfl rfl rfl rfl rfl rfl ?_ | fail))
      refine Tri.ret (retV rfl rfl)
def sameF (w h : Int) (a u : List Int) (w' h' : Int) (a' u' : List Int) : Bool := (((w == w') && (h == h')) && sameI a a') && sameI u u'
theorem kFigure_fn (w h : Int) (a u : List Int) (w' h' : Int) (a' u' : List Int) : FnV env 14 [fig w h a u, fig w' h' a' u'] (.d (.bool (sameF w h a u w' h' a' u'))) := by
  refine Fn.vs (E := env) 31 Tryd.func14 rfl (by kernel_rfl) rfl rfl ?_
  (repeat' (first | refine TriOps.v1 rfl rfl rfl rfl True.intro ?_ | refine TriOps.nil ?_ | refine Tri.region ?_ | refine Tri.seq ?_ | refine Tri.block ?_ | refine Tri.skip ?_ | refine Tri.exit ?_ | refine TriOps.s1 rfl rfl rfl ?_ | refine TriOps.b1 rfl rfl rfl rfl rfl rfl ?_ | refine TriOps.a1 rfl rfl rfl rfl rfl rfl rfl ?_ | refine TriOps.w1 rfl rfl rfl rfl rfl rfl rfl rfl rfl ?_ | fail))
  refine TriOps.g1 rfl rfl rfl (fun hg => ?_) (fun hg => ?_)
  · have hg : (w == w') = true := hg
    rw [sameF, hg]
    (repeat' (first | refine TriOps.v1 rfl rfl rfl rfl True.intro ?_ | refine TriOps.nil ?_ | refine Tri.region ?_ | refine Tri.seq ?_ | refine Tri.block ?_ | refine Tri.skip ?_ | refine Tri.exit ?_ | refine TriOps.s1 rfl rfl rfl ?_ | refine TriOps.b1 rfl rfl rfl rfl rfl rfl ?_ | refine TriOps.a1 rfl rfl rfl rfl rfl rfl rfl ?_ | refine TriOps.w1 rfl rfl rfl rfl rfl rfl rfl rfl rfl ?_ | fail))
    refine TriOps.g1 rfl rfl rfl (fun hg => ?_) (fun hg => ?_)
    · have hg : (h == h') = true := hg
      rw [hg]
      (repeat' (first | refine TriOps.v1 rfl rfl rfl rfl True.intro ?_ | refine TriOps.nil ?_ | refine Tri.region ?_ | refine Tri.seq ?_ | refine Tri.block ?_ | refine Tri.skip ?_ | refine Tri.exit ?_ | refine TriOps.s1 rfl rfl rfl ?_ | refine TriOps.b1 rfl rfl rfl rfl rfl rfl ?_ | refine TriOps.a1 rfl rfl rfl rfl rfl rfl rfl ?_ | refine TriOps.w1 rfl rfl rfl rfl rfl rfl rfl rfl rfl ?_ | fail))
      refine TriOps.c1 rfl rfl rfl rfl rfl (kSame_fn _ _) rfl ?_
      (repeat' (first | refine TriOps.v1 rfl rfl rfl rfl True.intro ?_ | refine TriOps.nil ?_ | refine Tri.region ?_ | refine Tri.seq ?_ | refine Tri.block ?_ | refine Tri.skip ?_ | refine Tri.exit ?_ | refine TriOps.s1 rfl rfl rfl ?_ | refine TriOps.b1 rfl rfl rfl rfl rfl rfl ?_ | refine TriOps.a1 rfl rfl rfl rfl rfl rfl rfl ?_ | refine TriOps.w1 rfl rfl rfl rfl rfl rfl rfl rfl rfl ?_ | fail))
      refine TriOps.g1 rfl rfl rfl (fun hg => ?_) (fun hg => ?_)
      · have hg : sameI a a' = true := hg
        rw [hg]
        (repeat' (first | refine TriOps.v1 rfl rfl rfl rfl True.intro ?_ | refine TriOps.nil ?_ | refine Tri.region ?_ | refine Tri.seq ?_ | refine Tri.block ?_ | refine Tri.skip ?_ | refine Tri.exit ?_ | refine TriOps.s1 rfl rfl rfl ?_ | refine TriOps.b1 rfl rfl rfl rfl rfl rfl ?_ | refine TriOps.a1 rfl rfl rfl rfl rfl rfl rfl ?_ | refine TriOps.w1 rfl rfl rfl rfl rfl rfl rfl rfl rfl ?_ | fail))
        refine TriOps.c1 rfl rfl rfl rfl rfl (kSame_fn _ _) rfl ?_
        (repeat' (first | refine TriOps.v1 rfl rfl rfl rfl True.intro ?_ | refine TriOps.nil ?_ | refine Tri.region ?_ | refine Tri.seq ?_ | refine Tri.block ?_ | refine Tri.skip ?_ | refine Tri.exit ?_ | refine TriOps.s1 rfl rfl rfl ?_ | refine TriOps.b1 rfl rfl rfl rfl rfl rfl ?_ | refine TriOps.a1 rfl rfl rfl rfl rfl rfl rfl ?_ | refine TriOps.w1 rfl rfl rfl rfl rfl rfl rfl rfl rfl ?_ | fail))
        refine Tri.ret (retV rfl rfl)
      · have hg : sameI a a' = false := hg
        rw [hg]
        (repeat' (first | refine TriOps.v1 rfl rfl rfl rfl True.intro ?_ | refine TriOps.nil ?_ | refine Tri.region ?_ | refine Tri.seq ?_ | refine Tri.block ?_ | refine Tri.skip ?_ | refine Tri.exit ?_ | refine TriOps.s1 rfl rfl rfl ?_ | refine TriOps.b1 rfl rfl rfl rfl rfl rfl ?_ | refine TriOps.a1 rfl rfl rfl rfl rfl rfl rfl ?_ | refine TriOps.w1 rfl rfl rfl rfl rfl rfl rfl rfl rfl ?_ | fail))
        refine Tri.ret (retV rfl rfl)
    · have hg : (h == h') = false := hg
      rw [hg]
      (repeat' (first | refine TriOps.v1 rfl rfl rfl rfl True.intro ?_ | refine TriOps.nil ?_ | refine Tri.region ?_ | refine Tri.seq ?_ | refine Tri.block ?_ | refine Tri.skip ?_ | refine Tri.exit ?_ | refine TriOps.s1 rfl rfl rfl ?_ | refine TriOps.b1 rfl rfl rfl rfl rfl rfl ?_ | refine TriOps.a1 rfl rfl rfl rfl rfl rfl rfl ?_ | refine TriOps.w1 rfl rfl rfl rfl rfl rfl rfl rfl rfl ?_ | fail))
      refine Tri.ret (retV rfl rfl)
  · have hg : (w == w') = false := hg
    rw [sameF, hg]
    (repeat' (first | refine TriOps.v1 rfl rfl rfl rfl True.intro ?_ | refine TriOps.nil ?_ | refine Tri.region ?_ | refine Tri.seq ?_ | refine Tri.block ?_ | refine Tri.skip ?_ | refine Tri.exit ?_ | refine TriOps.s1 rfl rfl rfl ?_ | refine TriOps.b1 rfl rfl rfl rfl rfl rfl ?_ | refine TriOps.a1 rfl rfl rfl rfl rfl rfl rfl ?_ | refine TriOps.w1 rfl rfl rfl rfl rfl rfl rfl rfl rfl ?_ | fail))
    refine Tri.ret (retV rfl rfl)
end Go.Proofs.YthmbdoegcpicbaaDoor.Abs

/-! ## C15 -/
namespace Go.Proofs.YthmbdoegcpicbaaDoor.Abs
open Go.Proofs
/-- Byte by byte. -/
def byBytes (q : Nat → Nat) : Nat → Nat → Nat
  | 0, _ => 0
  | n + 1, s => q (s % 256) + 256 * byBytes q n (s / 256)
def maskOf (m : Nat) : Nat → Nat
  | 0 => 0
  | n + 1 => m + 256 * maskOf m n
theorem and_bytes {a b m M : Nat} (ha : a < 256) (hm : m < 256) : (a + 256 * b) &&& (m + 256 * M) = (a &&& m) + 256 * (b &&& M) := by
  have h1 : a &&& m < 256 := Nat.lt_of_le_of_lt Nat.and_le_left ha
  apply Nat.eq_of_testBit_eq
  intro i
  rw [Nat.testBit_and, Nat.add_comm a, Nat.add_comm m, Nat.add_comm (a &&& m), show (256 : Nat) = 2 ^ 8 by rfl, Nat.testBit_two_pow_mul_add _ (by omega), Nat.testBit_two_pow_mul_add _ (by omega), Nat.testBit_two_pow_mul_add _ (by omega)]
  split
  · rw [Nat.testBit_and]
  · rw [Nat.testBit_and]
def p1 (b : Nat) : Nat := (b / 2 &&& 85) + (b &&& 85)
def p2 (b : Nat) : Nat := (b / 4 &&& 51) + (b &&& 51)
def p3 (b : Nat) : Nat := (b / 16 + b) &&& 15
theorem p1_lt : ∀ b : Fin 256, p1 b.val < 256 := by decide +kernel
theorem p2_lt : ∀ b : Fin 256, p2 b.val < 256 := by decide +kernel
theorem low1 : ∀ (b : Fin 256) (t : Fin 2), (b.val / 2 + 128 * t.val) &&& 85 = b.val / 2 &&& 85 := by decide +kernel
theorem low2 : ∀ (b : Fin 256) (t : Fin 4), (b.val / 4 + 64 * t.val) &&& 51 = b.val / 4 &&& 51 := by decide +kernel
theorem nib : ∀ b : Fin 256, p2 (p1 b.val) % 16 ≤ 4 ∧ p2 (p1 b.val) / 16 ≤ 4 := by decide +kernel
theorem low3 : ∀ (b : Fin 80) (t : Fin 5), (b.val / 16 + 16 * t.val + b.val) &&& 15 = (b.val / 16 + b.val) &&& 15 := by decide +kernel
theorem swar1 : ∀ n s, (s / 2 &&& maskOf 85 n) + (s &&& maskOf 85 n) = byBytes p1 n s
  | 0, s => by simp [maskOf, byBytes]
  | n + 1, s => by
    have ih := swar1 n (s / 256)
    have e1 : s &&& maskOf 85 (n + 1) = (s % 256 &&& 85) + 256 * (s / 256 &&& maskOf 85 n) := by
      conv => lhs; rw [show s = s % 256 + 256 * (s / 256) by omega, maskOf]
      exact and_bytes (Nat.mod_lt _ (by omega)) (by omega)
    have e2 : s / 2 &&& maskOf 85 (n + 1) = ((s % 256) / 2 &&& 85) + 256 * (s / 256 / 2 &&& maskOf 85 n) := by
      conv => lhs; rw [show s / 2 = ((s % 256) / 2 + 128 * (s / 256 % 2)) + 256 * (s / 256 / 2) by omega, maskOf]
      rw [and_bytes (by omega) (by omega), low1 ⟨s % 256, Nat.mod_lt _ (by omega)⟩ ⟨s / 256 % 2, Nat.mod_lt _ (by omega)⟩]
    rw [e1, e2, byBytes, p1, ← ih]
    omega
theorem swar2 : ∀ n s, (s / 4 &&& maskOf 51 n) + (s &&& maskOf 51 n) = byBytes p2 n s
  | 0, s => by simp [maskOf, byBytes]
  | n + 1, s => by
    have ih := swar2 n (s / 256)
    have e1 : s &&& maskOf 51 (n + 1) = (s % 256 &&& 51) + 256 * (s / 256 &&& maskOf 51 n) := by
      conv => lhs; rw [show s = s % 256 + 256 * (s / 256) by omega, maskOf]
      exact and_bytes (Nat.mod_lt _ (by omega)) (by omega)
    have e2 : s / 4 &&& maskOf 51 (n + 1) = ((s % 256) / 4 &&& 51) + 256 * (s / 256 / 4 &&& maskOf 51 n) := by
      conv => lhs; rw [show s / 4 = ((s % 256) / 4 + 64 * (s / 256 % 4)) + 256 * (s / 256 / 4) by omega, maskOf]
      rw [and_bytes (by omega) (by omega), low2 ⟨s % 256, Nat.mod_lt _ (by omega)⟩ ⟨s / 256 % 4, Nat.mod_lt _ (by omega)⟩]
    rw [e1, e2, byBytes, p2, ← ih]
    omega
theorem byBytes_comp {q r : Nat → Nat} (hq : ∀ b, b < 256 → q b < 256) : ∀ n s, byBytes r n (byBytes q n s) = byBytes (fun b => r (q b)) n s
  | 0, s => rfl
  | n + 1, s => by
    have h := hq (s % 256) (Nat.mod_lt _ (by omega))
    rw [byBytes, byBytes, byBytes, ← byBytes_comp hq n (s / 256), show (q (s % 256) + 256 * byBytes q n (s / 256)) % 256 = q (s % 256) by omega, show (q (s % 256) + 256 * byBytes q n (s / 256)) / 256 = byBytes q n (s / 256) by omega]
theorem bytes_mod16 {q : Nat → Nat} (hq : ∀ b, b < 256 → q b % 16 ≤ 4 ∧ q b / 16 ≤ 4) : ∀ n s, byBytes q n s % 16 ≤ 4
  | 0, s => by simp [byBytes]
  | n + 1, s => by
    have h := hq (s % 256) (Nat.mod_lt _ (by omega))
    rw [byBytes]
    omega
theorem swar3 {q : Nat → Nat} (hq : ∀ b, b < 256 → q b % 16 ≤ 4 ∧ q b / 16 ≤ 4) : ∀ n s, (byBytes q n s / 16 + byBytes q n s) &&& maskOf 15 n = byBytes (fun b => p3 (q b)) n s
  | 0, s => by simp [maskOf, byBytes]
  | n + 1, s => by
    have h := hq (s % 256) (Nat.mod_lt _ (by omega))
    have ih := swar3 hq n (s / 256)
    have hm := bytes_mod16 hq n (s / 256)
    rw [byBytes, byBytes, maskOf]
    generalize hc : q (s % 256) = c at h
    generalize hy : byBytes q n (s / 256) = y at ih hm
    rw [show (c + 256 * y) / 16 + (c + 256 * y) = (c / 16 + 16 * (y % 16) + c) + 256 * (y / 16 + y) by omega, and_bytes (by omega) (by omega), low3 ⟨c, by omega⟩ ⟨y % 16, by omega⟩, ih]
    rfl
def cnt (s : Nat) : Nat := (bitsL s).length
def cntN (n s : Nat) : Nat := ((List.range (8 * n)).filter fun i => s.testBit i).length
def pc8 (b : Nat) : Nat := ((List.range 8).filter fun i => b.testBit i).length
theorem pc8_eq : ∀ b : Fin 256, p3 (p2 (p1 b.val)) = pc8 b.val := by decide +kernel
theorem pc8_le : ∀ b : Fin 256, pc8 b.val ≤ 8 := by decide +kernel
theorem cntN_succ (n s : Nat) : cntN (n + 1) s = pc8 (s % 256) + cntN n (s / 256) := by
  unfold cntN pc8
  rw [show 8 * (n + 1) = 8 + 8 * n by omega, List.range_add, List.filter_append, List.length_append]
  congr 1
  · congr 1
    apply List.filter_congr
    intro i hi
    rw [List.mem_range] at hi
    rw [show (256 : Nat) = 2 ^ 8 by rfl, Nat.testBit_mod_two_pow]
    simp [hi]
  · rw [List.filter_map, List.length_map]
    congr 1
    apply List.filter_congr
    intro i _
    show s.testBit (8 + i) = _
    rw [show (256 : Nat) = 2 ^ 8 by rfl, Nat.testBit_div_two_pow, Nat.add_comm]
def q8 (b : Nat) : Nat := p3 (p2 (p1 b))
theorem q8_le {b : Nat} (h : b < 256) : q8 b ≤ 8 := by
  have h1 := pc8_eq ⟨b, h⟩
  have h2 := pc8_le ⟨b, h⟩
  show p3 (p2 (p1 b)) ≤ 8
  simp only at h1 h2
  rw [h1]; exact h2
theorem swar_all {s : Nat} (h : s < 18446744073709551616) : byBytes p3 0 s = 0 ∧ byBytes q8 8 s = (byBytes (fun b => p2 (p1 b)) 8 s / 16 + byBytes (fun b => p2 (p1 b)) 8 s) &&& maskOf 15 8 :=
  ⟨rfl, (swar3 (fun b hb => nib ⟨b, hb⟩) 8 s).symm⟩
theorem q8_pc {b : Nat} (h : b < 256) : q8 b = pc8 b := pc8_eq ⟨b, h⟩
def addUp (y : Nat) : Nat :=
  let w := y + y / 256
  let z := w + w / 65536
  z + z / 4294967296
theorem addUp_cnt (s : Nat) (h : s < 18446744073709551616) : byBytes q8 8 s < 1152921504606846976 ∧ addUp (byBytes q8 8 s) % 128 = cnt s := by
  have hc : cnt s = cntN 8 s := by simp [cnt, cntN, bitsL]
  rw [hc]
  have e : ∀ n s, cntN (n + 1) s = q8 (s % 256) + cntN n (s / 256) := fun n s => by rw [cntN_succ, q8_pc (Nat.mod_lt _ (by omega))]
  have z : ∀ s, cntN 0 s = 0 := fun s => rfl
  have k : ∀ s, q8 (s % 256) ≤ 8 := fun s => q8_le (Nat.mod_lt _ (by omega))
  simp only [e, z, byBytes, addUp]
  have k0 := k s
  have k1 := k (s / 256)
  have k2 := k (s / 256 / 256)
  have k3 := k (s / 256 / 256 / 256)
  have k4 := k (s / 256 / 256 / 256 / 256)
  have k5 := k (s / 256 / 256 / 256 / 256 / 256)
  have k6 := k (s / 256 / 256 / 256 / 256 / 256 / 256)
  have k7 := k (s / 256 / 256 / 256 / 256 / 256 / 256 / 256)
  generalize q8 (s % 256) = c0 at *
  generalize q8 (s / 256 % 256) = c1 at *
  generalize q8 (s / 256 / 256 % 256) = c2 at *
  generalize q8 (s / 256 / 256 / 256 % 256) = c3 at *
  generalize q8 (s / 256 / 256 / 256 / 256 % 256) = c4 at *
  generalize q8 (s / 256 / 256 / 256 / 256 / 256 % 256) = c5 at *
  generalize q8 (s / 256 / 256 / 256 / 256 / 256 / 256 % 256) = c6 at *
  generalize q8 (s / 256 / 256 / 256 / 256 / 256 / 256 / 256 % 256) = c7 at *
  clear hc e z k
  constructor
  · omega
  · have e1 : ∀ c R : Nat, c < 256 → (c + 256 * R) / 256 = R := fun c R h => by omega
    have e2 : ∀ c d R : Nat, c < 256 → d < 256 → (c + 256 * (d + 256 * R)) / 65536 = R := fun c d R h1 h2 => by omega
    have e3 : ∀ a b c d R : Nat, a < 256 → b < 256 → c < 256 → d < 256 → (a + 256 * (b + 256 * (c + 256 * (d + 256 * R)))) / 4294967296 = R := fun a b c d R h1 h2 h3 h4 => by omega
    have e4 : ∀ a R : Nat, (a + 256 * R) % 128 = a % 128 := fun a R => by omega
    have s1 : ∀ a b R S : Nat, (a + 256 * R) + (b + 256 * S) = (a + b) + 256 * (R + S) := fun a b R S => by omega
    simp only [Nat.mul_zero, Nat.add_zero]
    rw [e1 c0 _ (by omega)]
    simp only [s1]
    have s2 : ∀ a b R : Nat, (a + 256 * R) + b = (a + b) + 256 * R := fun a b R => by omega
    rw [s2 c6 c7 c7]
    rw [e2 (c0 + c1) (c1 + c2) _ (by omega) (by omega)]
    simp only [s1, s2]
    rw [e3 _ _ _ _ _ (by omega) (by omega) (by omega) (by omega)]
    simp only [s1, s2, e4]
    omega
set_option maxRecDepth 4000 in
theorem ones_fn (s : Nat) (hs : s < 18446744073709551616) : FnV env 96 [.d (.int .u64 s)] (.d (.int .i64 (cnt s : Nat))) := by
  have m1 : maskOf 85 8 = 6148914691236517205 := by decide +kernel
  have m2 : maskOf 51 8 = 3689348814741910323 := by decide +kernel
  have m3 : maskOf 15 8 = 1085102592571150095 := by decide +kernel
  have a1 : s / 2 ^ 1 &&& 6148914691236517205 ≤ 6148914691236517205 := Nat.and_le_right
  have a2 : s &&& 6148914691236517205 ≤ 6148914691236517205 := Nat.and_le_right
  have b1 := swar1 8 s
  rw [m1] at b1
  have c1 : byBytes p1 8 s < 18446744073709551616 := by rw [← b1]; have := a1; have := a2; simp only [Nat.pow_one] at a1; omega
  have e1 : ((s / 2 ^ 1 &&& 6148914691236517205) + (s &&& 6148914691236517205)) % 18446744073709551616 = byBytes p1 8 s := by
    rw [Nat.mod_eq_of_lt (by omega), Nat.pow_one, b1]
  have b2 := swar2 8 (byBytes p1 8 s)
  rw [m2, byBytes_comp (fun b hb => p1_lt ⟨b, hb⟩)] at b2
  have a3 : byBytes p1 8 s / 2 ^ 2 &&& 3689348814741910323 ≤ 3689348814741910323 := Nat.and_le_right
  have a4 : byBytes p1 8 s &&& 3689348814741910323 ≤ 3689348814741910323 := Nat.and_le_right
  have e2 : ((byBytes p1 8 s / 2 ^ 2 &&& 3689348814741910323) + (byBytes p1 8 s &&& 3689348814741910323)) % 18446744073709551616 = byBytes (fun b => p2 (p1 b)) 8 s := by
    rw [Nat.mod_eq_of_lt (by omega)]; exact b2
  have c2 : byBytes (fun b => p2 (p1 b)) 8 s ≤ 7378697629483820646 := by rw [← b2]; have h1 := a3; have h2 := a4; rw [show (2 : Nat) ^ 2 = 4 by rfl] at h1; omega
  have b3 := (swar_all hs).2
  rw [m3] at b3
  have e3 : (byBytes (fun b => p2 (p1 b)) 8 s / 2 ^ 4 + byBytes (fun b => p2 (p1 b)) 8 s) % 18446744073709551616 &&& 1085102592571150095 = byBytes q8 8 s := by
    rw [Nat.mod_eq_of_lt (by omega), b3]
  obtain ⟨c3, c4⟩ := addUp_cnt s hs
  unfold addUp at c4
  refine Fn.vs (E := env) 35 Tryd.func96 rfl (by kernel_rfl) rfl rfl ?_
  (repeat' (first | refine TriOps.nil ?_ | refine Tri.region ?_ | refine Tri.seq ?_ | refine Tri.block ?_ | refine Tri.skip ?_ | refine Tri.exit ?_ | fail))
  refine TriOps.v1 rfl rfl rfl rfl True.intro ?_
  (repeat' (first | refine TriOps.nil ?_ | refine Tri.region ?_ | refine Tri.seq ?_ | refine Tri.block ?_ | refine Tri.skip ?_ | refine Tri.exit ?_ | fail))
  refine TriOps.v1 rfl rfl rfl rfl True.intro ?_
  refine TriOps.shr1 rfl rfl rfl (a := s) (m := 1) rfl rfl rfl (by omega) ?_
  refine TriOps.u1 rfl rfl rfl (a := s / 2 ^ 1) (b := 6148914691236517205) rfl rfl rfl rfl (by omega) (by omega) ?_
  refine TriOps.v1 rfl rfl rfl rfl True.intro ?_
  refine TriOps.u1 rfl rfl rfl (a := s) (b := 6148914691236517205) rfl rfl rfl rfl hs (by omega) ?_
  refine TriOps.u1 rfl rfl rfl (a := s / 2 ^ 1 &&& 6148914691236517205) (b := s &&& 6148914691236517205) rfl rfl rfl rfl (by omega) (by omega) ?_
  rw [e1]
  refine TriOps.v1 rfl rfl rfl rfl True.intro ?_
  (repeat' (first | refine TriOps.nil ?_ | refine Tri.region ?_ | refine Tri.seq ?_ | refine Tri.block ?_ | refine Tri.skip ?_ | refine Tri.exit ?_ | fail))
  refine TriOps.v1 rfl rfl rfl rfl True.intro ?_
  refine TriOps.shr1 rfl rfl rfl (a := byBytes p1 8 s) (m := 2) rfl rfl rfl (by omega) ?_
  refine TriOps.u1 rfl rfl rfl (a := byBytes p1 8 s / 2 ^ 2) (b := 3689348814741910323) rfl rfl rfl rfl (by omega) (by omega) ?_
  refine TriOps.v1 rfl rfl rfl rfl True.intro ?_
  refine TriOps.u1 rfl rfl rfl (a := byBytes p1 8 s) (b := 3689348814741910323) rfl rfl rfl rfl c1 (by omega) ?_
  refine TriOps.u1 rfl rfl rfl (a := byBytes p1 8 s / 2 ^ 2 &&& 3689348814741910323) (b := byBytes p1 8 s &&& 3689348814741910323) rfl rfl rfl rfl (by omega) (by omega) ?_
  rw [e2]
  refine TriOps.v1 rfl rfl rfl rfl True.intro ?_
  (repeat' (first | refine TriOps.nil ?_ | refine Tri.region ?_ | refine Tri.seq ?_ | refine Tri.block ?_ | refine Tri.skip ?_ | refine Tri.exit ?_ | fail))
  refine TriOps.v1 rfl rfl rfl rfl True.intro ?_
  refine TriOps.shr1 rfl rfl rfl (a := byBytes (fun b => p2 (p1 b)) 8 s) (m := 4) rfl rfl rfl (by omega) ?_
  refine TriOps.v1 rfl rfl rfl rfl True.intro ?_
  refine TriOps.u1 rfl rfl rfl (a := byBytes (fun b => p2 (p1 b)) 8 s / 2 ^ 4) (b := byBytes (fun b => p2 (p1 b)) 8 s) rfl rfl rfl rfl (by omega) (by omega) ?_
  refine TriOps.u1 rfl rfl rfl (a := (byBytes (fun b => p2 (p1 b)) 8 s / 2 ^ 4 + byBytes (fun b => p2 (p1 b)) 8 s) % 18446744073709551616) (b := 1085102592571150095) rfl rfl rfl rfl (by omega) (by omega) ?_
  rw [e3]
  generalize byBytes q8 8 s = y at *
  refine TriOps.v1 rfl rfl rfl rfl True.intro ?_
  (repeat' (first | refine TriOps.nil ?_ | refine Tri.region ?_ | refine Tri.seq ?_ | refine Tri.block ?_ | refine Tri.skip ?_ | refine Tri.exit ?_ | fail))
  refine TriOps.v1 rfl rfl rfl rfl True.intro ?_
  refine TriOps.v1 rfl rfl rfl rfl True.intro ?_
  refine TriOps.shr1 rfl rfl rfl (a := y) (m := 8) rfl rfl rfl (by omega) ?_
  refine TriOps.u1 rfl rfl rfl (a := y) (b := y / 2 ^ 8) rfl rfl rfl rfl (by omega) (by omega) ?_
  rw [show (y + y / 2 ^ 8) % 18446744073709551616 = y + y / 256 by omega]
  refine TriOps.v1 rfl rfl rfl rfl True.intro ?_
  (repeat' (first | refine TriOps.nil ?_ | refine Tri.region ?_ | refine Tri.seq ?_ | refine Tri.block ?_ | refine Tri.skip ?_ | refine Tri.exit ?_ | fail))
  refine TriOps.v1 rfl rfl rfl rfl True.intro ?_
  refine TriOps.v1 rfl rfl rfl rfl True.intro ?_
  refine TriOps.shr1 rfl rfl rfl (a := y + y / 256) (m := 16) rfl rfl rfl (by omega) ?_
  refine TriOps.u1 rfl rfl rfl (a := y + y / 256) (b := (y + y / 256) / 2 ^ 16) rfl rfl rfl rfl (by omega) (by omega) ?_
  rw [show (y + y / 256 + (y + y / 256) / 2 ^ 16) % 18446744073709551616 = (y + y / 256) + (y + y / 256) / 65536 by omega]
  refine TriOps.v1 rfl rfl rfl rfl True.intro ?_
  (repeat' (first | refine TriOps.nil ?_ | refine Tri.region ?_ | refine Tri.seq ?_ | refine Tri.block ?_ | refine Tri.skip ?_ | refine Tri.exit ?_ | fail))
  refine TriOps.v1 rfl rfl rfl rfl True.intro ?_
  refine TriOps.v1 rfl rfl rfl rfl True.intro ?_
  refine TriOps.shr1 rfl rfl rfl (a := (y + y / 256) + (y + y / 256) / 65536) (m := 32) rfl rfl rfl (by omega) ?_
  refine TriOps.u1 rfl rfl rfl (a := (y + y / 256) + (y + y / 256) / 65536) (b := ((y + y / 256) + (y + y / 256) / 65536) / 2 ^ 32) rfl rfl rfl rfl (by omega) (by omega) ?_
  rw [show ((y + y / 256) + (y + y / 256) / 65536 + ((y + y / 256) + (y + y / 256) / 65536) / 2 ^ 32) % 18446744073709551616 = ((y + y / 256) + (y + y / 256) / 65536) + ((y + y / 256) + (y + y / 256) / 65536) / 4294967296 by omega]
  generalize hx : ((y + y / 256) + (y + y / 256) / 65536) + ((y + y / 256) + (y + y / 256) / 65536) / 4294967296 = x at *
  have hx2 : x < 9223372036854775808 := by omega
  refine TriOps.v1 rfl rfl rfl rfl True.intro ?_
  (repeat' (first | refine TriOps.nil ?_ | refine Tri.region ?_ | refine Tri.seq ?_ | refine Tri.block ?_ | refine Tri.skip ?_ | refine Tri.exit ?_ | fail))
  refine TriOps.v1 rfl rfl rfl rfl True.intro ?_
  refine TriOps.v1 rfl rfl rfl rfl (inR_i64 (n := (x : Int)) (by omega) (by omega)) ?_
  refine TriOps.i1 rfl rfl rfl (a := x) (b := 127) rfl rfl rfl rfl hx2 (by omega) ?_
  rw [show x &&& 127 = cnt s by rw [← c4, show (127 : Nat) = 2 ^ 7 - 1 by rfl, Nat.and_two_pow_sub_one_eq_mod]]
  refine TriOps.v1 rfl rfl rfl rfl True.intro ?_
  (repeat' (first | refine TriOps.v1 rfl rfl rfl rfl True.intro ?_ | refine TriOps.nil ?_ | refine Tri.region ?_ | refine Tri.seq ?_ | refine Tri.block ?_ | refine Tri.skip ?_ | refine Tri.exit ?_ | refine TriOps.s1 rfl rfl rfl ?_ | refine TriOps.b1 rfl rfl rfl rfl rfl rfl ?_ | refine TriOps.a1 rfl rfl rfl rfl rfl rfl rfl ?_ | refine TriOps.w1 rfl rfl rfl rfl rfl rfl rfl rfl rfl ?_ | fail))
  refine Tri.ret (retV rfl rfl)
theorem cnt_le (s : Nat) : cnt s ≤ 64 := bitsL_len s
theorem count_fn (s : Nat) (hs : s < 18446744073709551616) : FnV env 57 [.d (.int .u64 s)] (.d (.int .i64 (cnt s : Nat))) := by
  refine Fn.vs (E := env) 5 Tryd.func57 rfl (by kernel_rfl) rfl rfl ?_
  (repeat' (first | refine TriOps.v1 rfl rfl rfl rfl True.intro ?_ | refine TriOps.nil ?_ | refine Tri.region ?_ | refine Tri.seq ?_ | refine Tri.block ?_ | refine Tri.skip ?_ | refine Tri.exit ?_ | refine TriOps.s1 rfl rfl rfl ?_ | refine TriOps.b1 rfl rfl rfl rfl rfl rfl ?_ | refine TriOps.a1 rfl rfl rfl rfl rfl rfl rfl ?_ | refine TriOps.w1 rfl rfl rfl rfl rfl rfl rfl rfl rfl ?_ | fail))
  refine TriOps.c1 rfl rfl rfl rfl rfl (ones_fn s hs) rfl ?_
  (repeat' (first | refine TriOps.v1 rfl rfl rfl rfl True.intro ?_ | refine TriOps.nil ?_ | refine Tri.region ?_ | refine Tri.seq ?_ | refine Tri.block ?_ | refine Tri.skip ?_ | refine Tri.exit ?_ | refine TriOps.s1 rfl rfl rfl ?_ | refine TriOps.b1 rfl rfl rfl rfl rfl rfl ?_ | refine TriOps.a1 rfl rfl rfl rfl rfl rfl rfl ?_ | refine TriOps.w1 rfl rfl rfl rfl rfl rfl rfl rfl rfl ?_ | fail))
  refine Tri.ret (retV rfl rfl)
theorem countMatches_fn (w h : Int) (a u : List Int) : FnV env 15 [fig w h a u] (bif isFig w h a u then okInt (cnt (setOf w h a u) : Nat) else noInt) := by
  refine Fn.vs (E := env) 10 Tryd.func15 rfl (by kernel_rfl) rfl rfl ?_
  (repeat' (first | refine TriOps.v1 rfl rfl rfl rfl True.intro ?_ | refine TriOps.nil ?_ | refine Tri.region ?_ | refine Tri.seq ?_ | refine Tri.block ?_ | refine Tri.skip ?_ | refine Tri.exit ?_ | refine TriOps.s1 rfl rfl rfl ?_ | refine TriOps.b1 rfl rfl rfl rfl rfl rfl ?_ | refine TriOps.a1 rfl rfl rfl rfl rfl rfl rfl ?_ | refine TriOps.w1 rfl rfl rfl rfl rfl rfl rfl rfl rfl ?_ | fail))
  refine TriOps.c1 rfl rfl rfl rfl rfl (isFigure_fn _ _ _ _) rfl ?_
  (repeat' (first | refine TriOps.v1 rfl rfl rfl rfl True.intro ?_ | refine TriOps.nil ?_ | refine Tri.region ?_ | refine Tri.seq ?_ | refine Tri.block ?_ | refine Tri.skip ?_ | refine Tri.exit ?_ | refine TriOps.s1 rfl rfl rfl ?_ | refine TriOps.b1 rfl rfl rfl rfl rfl rfl ?_ | refine TriOps.a1 rfl rfl rfl rfl rfl rfl rfl ?_ | refine TriOps.w1 rfl rfl rfl rfl rfl rfl rfl rfl rfl ?_ | fail))
  refine Tri.cond rfl (fun hc => ?_) (fun hc => ?_)
  · have hc : isFig w h a u = false := by simpa using hc
    rw [hc]
    (repeat' (first | refine TriOps.v1 rfl rfl rfl rfl True.intro ?_ | refine TriOps.nil ?_ | refine Tri.region ?_ | refine Tri.seq ?_ | refine Tri.block ?_ | refine Tri.skip ?_ | refine Tri.exit ?_ | refine TriOps.s1 rfl rfl rfl ?_ | refine TriOps.b1 rfl rfl rfl rfl rfl rfl ?_ | refine TriOps.a1 rfl rfl rfl rfl rfl rfl rfl ?_ | refine TriOps.w1 rfl rfl rfl rfl rfl rfl rfl rfl rfl ?_ | fail))
    refine Tri.ret (retV rfl rfl)
  · have hc : isFig w h a u = true := by simpa using hc
    rw [hc]
    have f1 := isF_of hc
    (repeat' (first | refine TriOps.v1 rfl rfl rfl rfl True.intro ?_ | refine TriOps.nil ?_ | refine Tri.region ?_ | refine Tri.seq ?_ | refine Tri.block ?_ | refine Tri.skip ?_ | refine Tri.exit ?_ | refine TriOps.s1 rfl rfl rfl ?_ | refine TriOps.b1 rfl rfl rfl rfl rfl rfl ?_ | refine TriOps.a1 rfl rfl rfl rfl rfl rfl rfl ?_ | refine TriOps.w1 rfl rfl rfl rfl rfl rfl rfl rfl rfl ?_ | fail))
    refine TriOps.c1 rfl rfl rfl rfl rfl (set_fn _ _ _ _ f1.bw f1.bh f1.ba f1.bu) rfl ?_
    refine TriOps.c1 rfl rfl rfl rfl rfl (count_fn _ f1.lt64) rfl ?_
    (repeat' (first | refine TriOps.v1 rfl rfl rfl rfl True.intro ?_ | refine TriOps.nil ?_ | refine Tri.region ?_ | refine Tri.seq ?_ | refine Tri.block ?_ | refine Tri.skip ?_ | refine Tri.exit ?_ | refine TriOps.s1 rfl rfl rfl ?_ | refine TriOps.b1 rfl rfl rfl rfl rfl rfl ?_ | refine TriOps.a1 rfl rfl rfl rfl rfl rfl rfl ?_ | refine TriOps.w1 rfl rfl rfl rfl rfl rfl rfl rfl rfl ?_ | fail))
    refine Tri.ret (retV rfl rfl)
end Go.Proofs.YthmbdoegcpicbaaDoor.Abs

/-! ## C16 -/
namespace Go.Proofs.YthmbdoegcpicbaaDoor.Abs
open Go.Proofs
theorem movesBetween_fn (w h : Int) (a u : List Int) (w' h' : Int) (a' u' : List Int) : FnV env 16 [fig w h a u, fig w' h' a' u']
    (bif alike w h a u w' h' a' u' && decide (cnt (setOf w h a u) = cnt (setOf w' h' a' u')) then okInt (cnt (setOf w' h' a' u' ^^^ (setOf w' h' a' u' &&& setOf w h a u)) : Nat) else noInt) := by
  refine Fn.vs (E := env) 25 Tryd.func16 rfl (by kernel_rfl) rfl rfl ?_
  (repeat' (first | refine TriOps.v1 rfl rfl rfl rfl True.intro ?_ | refine TriOps.nil ?_ | refine Tri.region ?_ | refine Tri.seq ?_ | refine Tri.block ?_ | refine Tri.skip ?_ | refine Tri.exit ?_ | refine TriOps.s1 rfl rfl rfl ?_ | refine TriOps.b1 rfl rfl rfl rfl rfl rfl ?_ | refine TriOps.a1 rfl rfl rfl rfl rfl rfl rfl ?_ | refine TriOps.w1 rfl rfl rfl rfl rfl rfl rfl rfl rfl ?_ | fail))
  refine Tri.dz [.loc 2, .loc 3] [(0, 1), (1, 1), (2, 2), (3, 0), (4, 0), (5, 1), (8, 1), (6, 2), (7, 2), (9, 2), (10, 2), (11, 0), (12, 0)] (by kernel_rfl) rfl ?_
  (repeat' (first | refine TS.v1 rfl (fun _ _ h => h) rfl rfl rfl rfl rfl True.intro ?_ | refine TS.t1 rfl (fun _ _ h => h) rfl rfl rfl rfl rfl True.intro ?_ | refine TS.nil ?_ | refine TS.n0 rfl (fun _ _ h => h) rfl rfl rfl ?_ | refine TS.n1 rfl (fun _ _ h => h) rfl rfl rfl ?_ | refine TS.n2 rfl rfl rfl rfl ?_ | refine TS.w1 rfl rfl rfl rfl rfl rfl rfl rfl rfl rfl rfl rfl ?_ | fail))
  refine TS.c1 rfl rfl rfl rfl rfl rfl rfl (areAlike_fn _ _ _ _ _ _ _ _) rfl ?_
  (repeat' (first | refine TS.v1 rfl (fun _ _ h => h) rfl rfl rfl rfl rfl True.intro ?_ | refine TS.t1 rfl (fun _ _ h => h) rfl rfl rfl rfl rfl True.intro ?_ | refine TS.nil ?_ | refine TS.n0 rfl (fun _ _ h => h) rfl rfl rfl ?_ | refine TS.n1 rfl (fun _ _ h => h) rfl rfl rfl ?_ | refine TS.n2 rfl rfl rfl rfl ?_ | refine TS.w1 rfl rfl rfl rfl rfl rfl rfl rfl rfl rfl rfl rfl ?_ | fail))
  refine TS.g1 rfl rfl rfl rfl (fun hg => ?_) (fun hg => ?_)
  · have hg : alike w h a u w' h' a' u' = false := by simpa using hg
    rw [hg]
    (repeat' (first | refine TS.v1 rfl (fun _ _ h => h) rfl rfl rfl rfl rfl True.intro ?_ | refine TS.t1 rfl (fun _ _ h => h) rfl rfl rfl rfl rfl True.intro ?_ | refine TS.nil ?_ | refine TS.n0 rfl (fun _ _ h => h) rfl rfl rfl ?_ | refine TS.n1 rfl (fun _ _ h => h) rfl rfl rfl ?_ | refine TS.n2 rfl rfl rfl rfl ?_ | refine TS.w1 rfl rfl rfl rfl rfl rfl rfl rfl rfl rfl rfl rfl ?_ | fail))
    refine Tri.cond rfl (fun hc => ?_) (fun hc => by cases hc)
    (repeat' (first | refine TriOps.v1 rfl rfl rfl rfl True.intro ?_ | refine TriOps.nil ?_ | refine Tri.region ?_ | refine Tri.seq ?_ | refine Tri.block ?_ | refine Tri.skip ?_ | refine Tri.exit ?_ | refine TriOps.s1 rfl rfl rfl ?_ | refine TriOps.b1 rfl rfl rfl rfl rfl rfl ?_ | refine TriOps.a1 rfl rfl rfl rfl rfl rfl rfl ?_ | refine TriOps.w1 rfl rfl rfl rfl rfl rfl rfl rfl rfl ?_ | fail))
    refine Tri.ret (retV rfl rfl)
  · have hg : alike w h a u w' h' a' u' = true := by simpa using hg
    rw [hg]
    obtain ⟨f1, f2, rfl, rfl⟩ := alike_of hg
    (repeat' (first | refine TS.v1 rfl (fun _ _ h => h) rfl rfl rfl rfl rfl True.intro ?_ | refine TS.t1 rfl (fun _ _ h => h) rfl rfl rfl rfl rfl True.intro ?_ | refine TS.nil ?_ | refine TS.n0 rfl (fun _ _ h => h) rfl rfl rfl ?_ | refine TS.n1 rfl (fun _ _ h => h) rfl rfl rfl ?_ | refine TS.n2 rfl rfl rfl rfl ?_ | refine TS.w1 rfl rfl rfl rfl rfl rfl rfl rfl rfl rfl rfl rfl ?_ | fail))
    refine TS.c1 rfl rfl rfl rfl rfl rfl rfl (set_fn _ _ _ _ f1.bw f1.bh f1.ba f1.bu) rfl ?_
    refine TS.c1 rfl rfl rfl rfl rfl rfl rfl (count_fn _ f1.lt64) rfl ?_
    refine TS.c1 rfl rfl rfl rfl rfl rfl rfl (set_fn _ _ _ _ f2.bw f2.bh f2.ba f2.bu) rfl ?_
    refine TS.c1 rfl rfl rfl rfl rfl rfl rfl (count_fn _ f2.lt64) rfl ?_
    (repeat' (first | refine TS.v1 rfl (fun _ _ h => h) rfl rfl rfl rfl rfl True.intro ?_ | refine TS.t1 rfl (fun _ _ h => h) rfl rfl rfl rfl rfl True.intro ?_ | refine TS.nil ?_ | refine TS.n0 rfl (fun _ _ h => h) rfl rfl rfl ?_ | refine TS.n1 rfl (fun _ _ h => h) rfl rfl rfl ?_ | refine TS.n2 rfl rfl rfl rfl ?_ | refine TS.w1 rfl rfl rfl rfl rfl rfl rfl rfl rfl rfl rfl rfl ?_ | fail))
    refine Tri.cond rfl (fun hc => ?_) (fun hc => ?_)
    · have hc : ((cnt (setOf w h a u) : Int) != (cnt (setOf w h a' u') : Int)) = true := hc
      have : decide (cnt (setOf w h a u) = cnt (setOf w h a' u')) = false := decide_eq_false fun e => by rw [e] at hc; simp at hc
      rw [this]
      (repeat' (first | refine TriOps.v1 rfl rfl rfl rfl True.intro ?_ | refine TriOps.nil ?_ | refine Tri.region ?_ | refine Tri.seq ?_ | refine Tri.block ?_ | refine Tri.skip ?_ | refine Tri.exit ?_ | refine TriOps.s1 rfl rfl rfl ?_ | refine TriOps.b1 rfl rfl rfl rfl rfl rfl ?_ | refine TriOps.a1 rfl rfl rfl rfl rfl rfl rfl ?_ | refine TriOps.w1 rfl rfl rfl rfl rfl rfl rfl rfl rfl ?_ | fail))
      refine Tri.ret (retV rfl rfl)
    · have hc : ((cnt (setOf w h a u) : Int) != (cnt (setOf w h a' u') : Int)) = false := hc
      have : decide (cnt (setOf w h a u) = cnt (setOf w h a' u')) = true := decide_eq_true (by have : (cnt (setOf w h a u) : Int) = (cnt (setOf w h a' u') : Int) := by simpa using hc
                                                                                               omega)
      rw [this]
      have l1 := f1.lt64
      have l2 := f2.lt64
      (repeat' (first | refine TriOps.v1 rfl rfl rfl rfl True.intro ?_ | refine TriOps.nil ?_ | refine Tri.region ?_ | refine Tri.seq ?_ | refine Tri.block ?_ | refine Tri.skip ?_ | refine Tri.exit ?_ | refine TriOps.s1 rfl rfl rfl ?_ | refine TriOps.b1 rfl rfl rfl rfl rfl rfl ?_ | refine TriOps.a1 rfl rfl rfl rfl rfl rfl rfl ?_ | refine TriOps.w1 rfl rfl rfl rfl rfl rfl rfl rfl rfl ?_ | fail))
      refine Tri.dz [.loc 2, .loc 3] [(0, 1), (2, 1), (1, 2), (3, 2), (4, 0), (5, 2), (6, 0), (7, 0)] (by kernel_rfl) rfl ?_
      (repeat' (first | refine TS.v1 rfl (fun _ _ h => h) rfl rfl rfl rfl rfl True.intro ?_ | refine TS.t1 rfl (fun _ _ h => h) rfl rfl rfl rfl rfl True.intro ?_ | refine TS.nil ?_ | refine TS.n0 rfl (fun _ _ h => h) rfl rfl rfl ?_ | refine TS.n1 rfl (fun _ _ h => h) rfl rfl rfl ?_ | refine TS.n2 rfl rfl rfl rfl ?_ | refine TS.w1 rfl rfl rfl rfl rfl rfl rfl rfl rfl rfl rfl rfl ?_ | fail))
      refine TS.c1 rfl rfl rfl rfl rfl rfl rfl (set_fn _ _ _ _ f2.bw f2.bh f2.ba f2.bu) rfl ?_
      refine TS.c1 rfl rfl rfl rfl rfl rfl rfl (set_fn _ _ _ _ f1.bw f1.bh f1.ba f1.bu) rfl ?_
      refine TS.u1 rfl (fun _ _ h => h) rfl rfl rfl rfl rfl rfl rfl l2 l1 ?_
      refine TS.c1 rfl rfl rfl rfl rfl rfl rfl (count_fn _ (Nat.xor_lt_two_pow (n := 64) l2 (Nat.lt_of_le_of_lt Nat.and_le_left l2))) rfl ?_
      (repeat' (first | refine TS.v1 rfl (fun _ _ h => h) rfl rfl rfl rfl rfl True.intro ?_ | refine TS.t1 rfl (fun _ _ h => h) rfl rfl rfl rfl rfl True.intro ?_ | refine TS.nil ?_ | refine TS.n0 rfl (fun _ _ h => h) rfl rfl rfl ?_ | refine TS.n1 rfl (fun _ _ h => h) rfl rfl rfl ?_ | refine TS.n2 rfl rfl rfl rfl ?_ | refine TS.w1 rfl rfl rfl rfl rfl rfl rfl rfl rfl rfl rfl rfl ?_ | fail))
      refine Tri.ret (retV rfl rfl)
/-! ### draws -/
def curBox (code : List Int) (p s : Int) : Box := ⟨60, [.d (.ints .u8 code), .d (.int .i64 p), .d (.int .u64 s)]⟩
def Bytes (code : List Int) : Prop := ∀ x ∈ code, 0 ≤ x ∧ x ≤ 255
/-- A draw: it goes on by at most K places, and gives back something of which R holds. -/
def Draws (f : FuncId) (args : List AV) (K : Int) (R : AV → Prop) : Prop := ∀ (code : List Int) (p s : Int), Bytes code → 0 ≤ p → p + K ≤ 4611686018427387904 →
  FnK env f (curBox code p s) args fun r bx => ∃ p' s', bx = curBox code p' s' ∧ p ≤ p' ∧ p' ≤ p + K ∧ R r
theorem Draws.mono {f : FuncId} {args : List AV} {K : Int} {R R' : AV → Prop} (h : Draws f args K R) (k : ∀ r, R r → R' r) : Draws f args K R' := fun code p s hb h1 h2 =>
  FnK.mono (h code p s hb h1 h2) fun _ _ ⟨p', s', h3, h4, h5, h6⟩ => ⟨p', s', h3, h4, h5, k _ h6⟩
theorem Draws.more {f : FuncId} {args : List AV} {K K' : Int} {R : AV → Prop} (h : Draws f args K R) (k : K ≤ K') : Draws f args K' R := fun code p s hb h1 h2 =>
  FnK.mono (h code p s hb h1 (by omega)) fun _ _ ⟨p', s', h3, h4, h5, h6⟩ => ⟨p', s', h3, h4, by omega, h6⟩
theorem and255 (x : Int) : ∃ n : Nat, n ≤ 255 ∧ IntKind.u64.wrap ((BitVec.ofInt 64 x &&& BitVec.ofInt 64 255).toNat : Int) = (n : Int) := by
  have h : (BitVec.ofInt 64 x &&& BitVec.ofInt 64 255).toNat ≤ 255 := by
    rw [BitVec.toNat_and]
    exact Nat.le_trans Nat.and_le_right (by decide)
  exact ⟨_, h, wrap_nat (by omega)⟩
section
variable {ops : Array Oper} {rest : List Oper} {o : Oper} {n : Nat} {l : SL} {bl : BL} {al : AL} {Q : Qs} {d : Nat}
/-- The low byte. -/
theorem TriOps.low8 {t yt : TypeId} {x y : Operand} {a : Int} (hop : o.op = .binOp .and t x y yt) (hdst : o.dst = some d) (hg : gOk ops (stt n l bl al) o.guard = some true) (hx : (stt n l bl al).ev x = .d (.int .u64 a)) (hy : (stt n l bl al).ev y = .d (.int .u64 255)) (hd : Nat.ble (d + 1) n = true)
    (h : ∀ m : Nat, m ≤ 255 → TriOps env ops rest (stt n ((d, .d (.int .u64 (m : Int))) :: l) bl al) Q) : TriOps env ops (o :: rest) (stt n l bl al) Q := by
  obtain ⟨m, hm, he⟩ := and255 a
  refine TriOps.v1 hdst hg (p := True) (r := .d (.int .u64 (m : Int))) ?_ hd True.intro (h m hm)
  have : opv env.Γ (stt n l bl al) o.op = some (True, .d (.int .u64 (m : Int))) := by
    simp only [hop, opv, hx, hy, vBin, isShift, cond_false, decide_true, cond_true, vInt, bitv, Option.map_some]
    exact int_eq' he
  simp only [opvN, this, nf, nfD]
end
theorem next_draw : Draws 101 [] 1 (fun r => ∃ n : Int, r = .d (.int .i64 n) ∧ 0 ≤ n ∧ n ≤ 255) := by
  intro code p s hb hp hK
  refine Fn.s (E := env) 62 [(.out 0, curBox code p s)] [] Tryd.func101 rfl (by kernel_rfl) rfl rfl ?_
  unfold curBox
  (repeat' (first | refine TriOps.v1 rfl rfl rfl rfl True.intro ?_ | refine TriOps.nil ?_ | refine Tri.region ?_ | refine Tri.seq ?_ | refine Tri.block ?_ | refine Tri.skip ?_ | refine Tri.exit ?_ | refine TriOps.s1 rfl rfl rfl ?_ | refine TriOps.b1 rfl rfl rfl rfl rfl rfl ?_ | refine TriOps.a1 rfl rfl rfl rfl rfl rfl rfl ?_ | refine TriOps.w1 rfl rfl rfl rfl rfl rfl rfl rfl rfl ?_ | fail))
  refine Tri.dz [.out 0] [(0, 0), (1, 0), (2, 0), (3, 1), (4, 0), (5, 0), (6, 0), (7, 1), (8, 0), (9, 0)] (by kernel_rfl) rfl ?_
  (repeat' (first | refine TS.v1 rfl (fun _ _ h => h) rfl rfl rfl rfl rfl True.intro ?_ | refine TS.t1 rfl (fun _ _ h => h) rfl rfl rfl rfl rfl True.intro ?_ | refine TS.nil ?_ | refine TS.n0 rfl (fun _ _ h => h) rfl rfl rfl ?_ | refine TS.n1 rfl (fun _ _ h => h) rfl rfl rfl ?_ | refine TS.n2 rfl rfl rfl rfl ?_ | refine TS.w1 rfl rfl rfl rfl rfl rfl rfl rfl rfl rfl rfl rfl ?_ | fail))
  refine Tri.join (fun b : Int => 0 ≤ b ∧ b ≤ 255) (fun b => stt 62 [(0, .ptr (.out 0) 0), (3, .d (.int .i64 b))] [(.out 0, curBox code p s)] []) ?_ ?_
  · refine Tri.cond rfl (fun hc => ?_) (fun hc => ?_)
    · have hc : p < code.length := of_decide_eq_true hc
      (repeat' (first | refine TriOps.v1 rfl rfl rfl rfl True.intro ?_ | refine TriOps.nil ?_ | refine Tri.region ?_ | refine Tri.seq ?_ | refine Tri.block ?_ | refine Tri.skip ?_ | refine Tri.exit ?_ | refine TriOps.s1 rfl rfl rfl ?_ | refine TriOps.b1 rfl rfl rfl rfl rfl rfl ?_ | refine TriOps.a1 rfl rfl rfl rfl rfl rfl rfl ?_ | refine TriOps.w1 rfl rfl rfl rfl rfl rfl rfl rfl rfl ?_ | fail))
      refine Tri.dz [.out 0] [(0, 0), (1, 0), (2, 0), (3, 1), (4, 0), (5, 0), (6, 0), (7, 1), (8, 0), (9, 1), (10, 0), (11, 0)] (by kernel_rfl) rfl ?_
      (repeat' (first | refine TS.v1 rfl (fun _ _ h => h) rfl rfl rfl rfl rfl True.intro ?_ | refine TS.t1 rfl (fun _ _ h => h) rfl rfl rfl rfl rfl True.intro ?_ | refine TS.nil ?_ | refine TS.n0 rfl (fun _ _ h => h) rfl rfl rfl ?_ | refine TS.n1 rfl (fun _ _ h => h) rfl rfl rfl ?_ | refine TS.n2 rfl rfl rfl rfl ?_ | refine TS.w1 rfl rfl rfl rfl rfl rfl rfl rfl rfl rfl rfl rfl ?_ | fail))
      refine TS.v1 rfl (fun _ _ h => h) rfl rfl rfl rfl rfl ⟨by omega, by exact hc⟩ ?_
      (repeat' (first | refine TS.v1 rfl (fun _ _ h => h) rfl rfl rfl rfl rfl True.intro ?_ | refine TS.t1 rfl (fun _ _ h => h) rfl rfl rfl rfl rfl True.intro ?_ | refine TS.nil ?_ | refine TS.n0 rfl (fun _ _ h => h) rfl rfl rfl ?_ | refine TS.n1 rfl (fun _ _ h => h) rfl rfl rfl ?_ | refine TS.n2 rfl rfl rfl rfl ?_ | refine TS.w1 rfl rfl rfl rfl rfl rfl rfl rfl rfl rfl rfl rfl ?_ | fail))
      have hm : code.getD p.toNat 0 ∈ code := getD_mem (by omega)
      have hk := hb _ hm
      refine TS.v1 rfl (fun _ _ h => h) rfl rfl rfl rfl rfl (inR_i64 (by omega) (by omega)) ?_
      (repeat' (first | refine TS.v1 rfl (fun _ _ h => h) rfl rfl rfl rfl rfl True.intro ?_ | refine TS.t1 rfl (fun _ _ h => h) rfl rfl rfl rfl rfl True.intro ?_ | refine TS.nil ?_ | refine TS.n0 rfl (fun _ _ h => h) rfl rfl rfl ?_ | refine TS.n1 rfl (fun _ _ h => h) rfl rfl rfl ?_ | refine TS.n2 rfl rfl rfl rfl ?_ | refine TS.w1 rfl rfl rfl rfl rfl rfl rfl rfl rfl rfl rfl rfl ?_ | fail))
      exact ⟨_, hk, Wk.to rfl ⟨rfl, rfl, trivial⟩ ⟨rfl, trivial⟩ trivial⟩
    · (repeat' (first | refine TriOps.v1 rfl rfl rfl rfl True.intro ?_ | refine TriOps.nil ?_ | refine Tri.region ?_ | refine Tri.seq ?_ | refine Tri.block ?_ | refine Tri.skip ?_ | refine Tri.exit ?_ | refine TriOps.s1 rfl rfl rfl ?_ | refine TriOps.b1 rfl rfl rfl rfl rfl rfl ?_ | refine TriOps.a1 rfl rfl rfl rfl rfl rfl rfl ?_ | refine TriOps.w1 rfl rfl rfl rfl rfl rfl rfl rfl rfl ?_ | fail))
      exact ⟨0, by omega, Wk.to rfl ⟨rfl, rfl, trivial⟩ ⟨rfl, trivial⟩ trivial⟩
  · intro b hk
    unfold curBox
    (repeat' (first | refine TriOps.v1 rfl rfl rfl rfl True.intro ?_ | refine TriOps.nil ?_ | refine Tri.region ?_ | refine Tri.seq ?_ | refine Tri.block ?_ | refine Tri.skip ?_ | refine Tri.exit ?_ | refine TriOps.s1 rfl rfl rfl ?_ | refine TriOps.b1 rfl rfl rfl rfl rfl rfl ?_ | refine TriOps.a1 rfl rfl rfl rfl rfl rfl rfl ?_ | refine TriOps.w1 rfl rfl rfl rfl rfl rfl rfl rfl rfl ?_ | fail))
    refine TriOps.v1 rfl rfl rfl rfl (by first | exact True.intro | exact inR_i64 (by omega) (by omega) | omega | (refine ⟨?_, ?_⟩ <;> omega)) ?_
    (repeat' (first | refine TriOps.v1 rfl rfl rfl rfl True.intro ?_ | refine TriOps.nil ?_ | refine Tri.region ?_ | refine Tri.seq ?_ | refine Tri.block ?_ | refine Tri.skip ?_ | refine Tri.exit ?_ | refine TriOps.s1 rfl rfl rfl ?_ | refine TriOps.b1 rfl rfl rfl rfl rfl rfl ?_ | refine TriOps.a1 rfl rfl rfl rfl rfl rfl rfl ?_ | refine TriOps.w1 rfl rfl rfl rfl rfl rfl rfl rfl rfl ?_ | fail))
    refine TriOps.v1 rfl rfl rfl rfl (by rw [inR, wrap_mod]; omega) ?_
    (repeat' (first | refine TriOps.v1 rfl rfl rfl rfl True.intro ?_ | refine TriOps.nil ?_ | refine Tri.region ?_ | refine Tri.seq ?_ | refine Tri.block ?_ | refine Tri.skip ?_ | refine Tri.exit ?_ | refine TriOps.s1 rfl rfl rfl ?_ | refine TriOps.b1 rfl rfl rfl rfl rfl rfl ?_ | refine TriOps.a1 rfl rfl rfl rfl rfl rfl rfl ?_ | refine TriOps.w1 rfl rfl rfl rfl rfl rfl rfl rfl rfl ?_ | fail))
    refine Tri.dz [.out 0] [(0, 0), (1, 0), (2, 0), (3, 1), (4, 0), (5, 0), (6, 0), (7, 1), (8, 0), (9, 0)] (by kernel_rfl) rfl ?_
    (repeat' (first | refine TS.v1 rfl (fun _ _ h => h) rfl rfl rfl rfl rfl True.intro ?_ | refine TS.t1 rfl (fun _ _ h => h) rfl rfl rfl rfl rfl True.intro ?_ | refine TS.nil ?_ | refine TS.n0 rfl (fun _ _ h => h) rfl rfl rfl ?_ | refine TS.n1 rfl (fun _ _ h => h) rfl rfl rfl ?_ | refine TS.n2 rfl rfl rfl rfl ?_ | refine TS.w1 rfl rfl rfl rfl rfl rfl rfl rfl rfl rfl rfl rfl ?_ | fail))
    refine Tri.cond rfl (fun hc => ?_) (fun hc => ?_)
    · (repeat' (first | refine TriOps.v1 rfl rfl rfl rfl True.intro ?_ | refine TriOps.nil ?_ | refine Tri.region ?_ | refine Tri.seq ?_ | refine Tri.block ?_ | refine Tri.skip ?_ | refine Tri.exit ?_ | refine TriOps.s1 rfl rfl rfl ?_ | refine TriOps.b1 rfl rfl rfl rfl rfl rfl ?_ | refine TriOps.a1 rfl rfl rfl rfl rfl rfl rfl ?_ | refine TriOps.w1 rfl rfl rfl rfl rfl rfl rfl rfl rfl ?_ | fail))
      refine Tri.ret (retK1 (bx' := curBox code (p + 1) _) rfl rfl (AV.Le.refl _) rfl ⟨p + 1, _, rfl, by omega, by omega, b, rfl, hk.1, hk.2⟩)
    · (repeat' (first | refine TriOps.v1 rfl rfl rfl rfl True.intro ?_ | refine TriOps.nil ?_ | refine Tri.region ?_ | refine Tri.seq ?_ | refine Tri.block ?_ | refine Tri.skip ?_ | refine Tri.exit ?_ | refine TriOps.s1 rfl rfl rfl ?_ | refine TriOps.b1 rfl rfl rfl rfl rfl rfl ?_ | refine TriOps.a1 rfl rfl rfl rfl rfl rfl rfl ?_ | refine TriOps.w1 rfl rfl rfl rfl rfl rfl rfl rfl rfl ?_ | fail))
      refine TriOps.v1 rfl rfl rfl rfl (by first | exact True.intro | exact inR_i64 (by omega) (by omega) | omega | (refine ⟨?_, ?_⟩ <;> omega)) ?_
      refine TriOps.low8 rfl rfl rfl rfl rfl rfl (fun m hm => ?_)
      refine TriOps.v1 rfl rfl rfl rfl (inR_i64 (by omega) (by omega)) ?_
      (repeat' (first | refine TriOps.v1 rfl rfl rfl rfl True.intro ?_ | refine TriOps.nil ?_ | refine Tri.region ?_ | refine Tri.seq ?_ | refine Tri.block ?_ | refine Tri.skip ?_ | refine Tri.exit ?_ | refine TriOps.s1 rfl rfl rfl ?_ | refine TriOps.b1 rfl rfl rfl rfl rfl rfl ?_ | refine TriOps.a1 rfl rfl rfl rfl rfl rfl rfl ?_ | refine TriOps.w1 rfl rfl rfl rfl rfl rfl rfl rfl rfl ?_ | fail))
      refine Tri.ret (retK1 (bx' := curBox code (p + 1) _) rfl rfl (AV.Le.refl _) rfl ⟨p + 1, _, rfl, by omega, by omega, (m : Int), rfl, by omega, by omega⟩)
theorem pick_draw (n : Int) : Draws 68 [.d (.int .i64 n)] 2 (fun r => ∃ k : Int, r = .d (.int .i64 k) ∧ 0 ≤ k ∧ (k = 0 ∨ k < n)) := by
  intro code p s hb hp hK
  refine Fn.s (E := env) 20 [(.out 0, curBox code p s)] [] Tryd.func68 rfl (by kernel_rfl) rfl rfl ?_
  (repeat' (first | refine TriOps.v1 rfl rfl rfl rfl True.intro ?_ | refine TriOps.nil ?_ | refine Tri.region ?_ | refine Tri.seq ?_ | refine Tri.block ?_ | refine Tri.skip ?_ | refine Tri.exit ?_ | refine TriOps.s1 rfl rfl rfl ?_ | refine TriOps.b1 rfl rfl rfl rfl rfl rfl ?_ | refine TriOps.a1 rfl rfl rfl rfl rfl rfl rfl ?_ | refine TriOps.w1 rfl rfl rfl rfl rfl rfl rfl rfl rfl ?_ | fail))
  refine Tri.cond rfl (fun hc => ?_) (fun hc => ?_)
  · (repeat' (first | refine TriOps.v1 rfl rfl rfl rfl True.intro ?_ | refine TriOps.nil ?_ | refine Tri.region ?_ | refine Tri.seq ?_ | refine Tri.block ?_ | refine Tri.skip ?_ | refine Tri.exit ?_ | refine TriOps.s1 rfl rfl rfl ?_ | refine TriOps.b1 rfl rfl rfl rfl rfl rfl ?_ | refine TriOps.a1 rfl rfl rfl rfl rfl rfl rfl ?_ | refine TriOps.w1 rfl rfl rfl rfl rfl rfl rfl rfl rfl ?_ | fail))
    refine Tri.ret (retK1 (bx' := curBox code p s) rfl rfl (AV.Le.refl _) rfl ⟨p, s, rfl, by omega, by omega, 0, rfl, by omega, .inl rfl⟩)
  · have hc : ¬ n ≤ 1 := of_decide_eq_false hc
    (repeat' (first | refine TriOps.v1 rfl rfl rfl rfl True.intro ?_ | refine TriOps.nil ?_ | refine Tri.region ?_ | refine Tri.seq ?_ | refine Tri.block ?_ | refine Tri.skip ?_ | refine Tri.exit ?_ | refine TriOps.s1 rfl rfl rfl ?_ | refine TriOps.b1 rfl rfl rfl rfl rfl rfl ?_ | refine TriOps.a1 rfl rfl rfl rfl rfl rfl rfl ?_ | refine TriOps.w1 rfl rfl rfl rfl rfl rfl rfl rfl rfl ?_ | fail))
    refine TriOps.k1 rfl rfl rfl rfl rfl rfl rfl (next_draw code p s hb hp (by omega)) rfl ?_
    rintro _ _ ⟨p1, s1, rfl, h1, h2, k, rfl, h3, h4⟩
    (repeat' (first | refine TriOps.v1 rfl rfl rfl rfl True.intro ?_ | refine TriOps.nil ?_ | refine Tri.region ?_ | refine Tri.seq ?_ | refine Tri.block ?_ | refine Tri.skip ?_ | refine Tri.exit ?_ | refine TriOps.s1 rfl rfl rfl ?_ | refine TriOps.b1 rfl rfl rfl rfl rfl rfl ?_ | refine TriOps.a1 rfl rfl rfl rfl rfl rfl rfl ?_ | refine TriOps.w1 rfl rfl rfl rfl rfl rfl rfl rfl rfl ?_ | fail))
    refine Tri.join (fun x : Int × Int × Int => (p ≤ x.1 ∧ x.1 ≤ p + 2) ∧ 0 ≤ x.2.2) (fun x => stt 20 [(1, .d (.int .i64 n)), (5, .d (.int .i64 x.2.2))] [(.out 0, curBox code x.1 x.2.1)] []) ?_ ?_
    · refine Tri.cond rfl (fun hd => ?_) (fun hd => ?_)
      · (repeat' (first | refine TriOps.v1 rfl rfl rfl rfl True.intro ?_ | refine TriOps.nil ?_ | refine Tri.region ?_ | refine Tri.seq ?_ | refine Tri.block ?_ | refine Tri.skip ?_ | refine Tri.exit ?_ | refine TriOps.s1 rfl rfl rfl ?_ | refine TriOps.b1 rfl rfl rfl rfl rfl rfl ?_ | refine TriOps.a1 rfl rfl rfl rfl rfl rfl rfl ?_ | refine TriOps.w1 rfl rfl rfl rfl rfl rfl rfl rfl rfl ?_ | fail))
        refine TriOps.v1 rfl rfl rfl rfl (by first | exact True.intro | exact inR_i64 (by omega) (by omega) | omega | (refine ⟨?_, ?_⟩ <;> omega)) ?_
        (repeat' (first | refine TriOps.v1 rfl rfl rfl rfl True.intro ?_ | refine TriOps.nil ?_ | refine Tri.region ?_ | refine Tri.seq ?_ | refine Tri.block ?_ | refine Tri.skip ?_ | refine Tri.exit ?_ | refine TriOps.s1 rfl rfl rfl ?_ | refine TriOps.b1 rfl rfl rfl rfl rfl rfl ?_ | refine TriOps.a1 rfl rfl rfl rfl rfl rfl rfl ?_ | refine TriOps.w1 rfl rfl rfl rfl rfl rfl rfl rfl rfl ?_ | fail))
        refine TriOps.k1 rfl rfl rfl rfl rfl rfl rfl (next_draw code p1 s1 hb (by omega) (by omega)) rfl ?_
        rintro _ _ ⟨p2, s2, rfl, h5, h6, k2, rfl, h7, h8⟩
        refine TriOps.v1 rfl rfl rfl rfl (by first | exact True.intro | exact inR_i64 (by omega) (by omega) | omega | (refine ⟨?_, ?_⟩ <;> omega)) ?_
        (repeat' (first | refine TriOps.v1 rfl rfl rfl rfl True.intro ?_ | refine TriOps.nil ?_ | refine Tri.region ?_ | refine Tri.seq ?_ | refine Tri.block ?_ | refine Tri.skip ?_ | refine Tri.exit ?_ | refine TriOps.s1 rfl rfl rfl ?_ | refine TriOps.b1 rfl rfl rfl rfl rfl rfl ?_ | refine TriOps.a1 rfl rfl rfl rfl rfl rfl rfl ?_ | refine TriOps.w1 rfl rfl rfl rfl rfl rfl rfl rfl rfl ?_ | fail))
        exact ⟨(p2, s2, k * 256 + k2), ⟨⟨by show p ≤ p2; omega, by show p2 ≤ p + 2; omega⟩, by show 0 ≤ k * 256 + k2; omega⟩, Wk.to rfl ⟨rfl, rfl, trivial⟩ ⟨rfl, trivial⟩ trivial⟩
      · (repeat' (first | refine TriOps.v1 rfl rfl rfl rfl True.intro ?_ | refine TriOps.nil ?_ | refine Tri.region ?_ | refine Tri.seq ?_ | refine Tri.block ?_ | refine Tri.skip ?_ | refine Tri.exit ?_ | refine TriOps.s1 rfl rfl rfl ?_ | refine TriOps.b1 rfl rfl rfl rfl rfl rfl ?_ | refine TriOps.a1 rfl rfl rfl rfl rfl rfl rfl ?_ | refine TriOps.w1 rfl rfl rfl rfl rfl rfl rfl rfl rfl ?_ | fail))
        exact ⟨(p1, s1, k), ⟨⟨by show p ≤ p1; omega, by show p1 ≤ p + 2; omega⟩, h3⟩, Wk.to rfl ⟨rfl, rfl, trivial⟩ ⟨rfl, trivial⟩ trivial⟩
    · rintro ⟨p2, s2, k2⟩ ⟨⟨h5, h6⟩, h7⟩
      (repeat' (first | refine TriOps.v1 rfl rfl rfl rfl True.intro ?_ | refine TriOps.nil ?_ | refine Tri.region ?_ | refine Tri.seq ?_ | refine Tri.block ?_ | refine Tri.skip ?_ | refine Tri.exit ?_ | refine TriOps.s1 rfl rfl rfl ?_ | refine TriOps.b1 rfl rfl rfl rfl rfl rfl ?_ | refine TriOps.a1 rfl rfl rfl rfl rfl rfl rfl ?_ | refine TriOps.w1 rfl rfl rfl rfl rfl rfl rfl rfl rfl ?_ | fail))
      refine TriOps.v1 rfl rfl rfl rfl (by first | exact True.intro | exact inR_i64 (by omega) (by omega) | omega | (refine ⟨?_, ?_⟩ <;> omega)) ?_
      (repeat' (first | refine TriOps.v1 rfl rfl rfl rfl True.intro ?_ | refine TriOps.nil ?_ | refine Tri.region ?_ | refine Tri.seq ?_ | refine Tri.block ?_ | refine Tri.skip ?_ | refine Tri.exit ?_ | refine TriOps.s1 rfl rfl rfl ?_ | refine TriOps.b1 rfl rfl rfl rfl rfl rfl ?_ | refine TriOps.a1 rfl rfl rfl rfl rfl rfl rfl ?_ | refine TriOps.w1 rfl rfl rfl rfl rfl rfl rfl rfl rfl ?_ | fail))
      refine Tri.ret (retK1 (bx' := curBox code p2 s2) rfl rfl (AV.Le.refl _) rfl ⟨p2, s2, rfl, h5, h6, k2.tmod n, rfl, Int.tmod_nonneg _ h7, .inr (Int.tmod_lt_of_pos _ (by omega))⟩)
theorem one_draw (n : Int) : Draws 67 [.d (.int .i64 n)] 2 (fun r => ∃ b : Bool, r = .d (.bool b)) := by
  intro code p s hb hp hK
  refine Fn.s (E := env) 9 [(.out 0, curBox code p s)] [] Tryd.func67 rfl (by kernel_rfl) rfl rfl ?_
  (repeat' (first | refine TriOps.v1 rfl rfl rfl rfl True.intro ?_ | refine TriOps.nil ?_ | refine Tri.region ?_ | refine Tri.seq ?_ | refine Tri.block ?_ | refine Tri.skip ?_ | refine Tri.exit ?_ | refine TriOps.s1 rfl rfl rfl ?_ | refine TriOps.b1 rfl rfl rfl rfl rfl rfl ?_ | refine TriOps.a1 rfl rfl rfl rfl rfl rfl rfl ?_ | refine TriOps.w1 rfl rfl rfl rfl rfl rfl rfl rfl rfl ?_ | fail))
  refine TriOps.k1 rfl rfl rfl rfl rfl rfl rfl (pick_draw n code p s hb hp (by omega)) rfl ?_
  rintro _ _ ⟨p1, s1, rfl, h1, h2, k, rfl, h3, h4⟩
  (repeat' (first | refine TriOps.v1 rfl rfl rfl rfl True.intro ?_ | refine TriOps.nil ?_ | refine Tri.region ?_ | refine Tri.seq ?_ | refine Tri.block ?_ | refine Tri.skip ?_ | refine Tri.exit ?_ | refine TriOps.s1 rfl rfl rfl ?_ | refine TriOps.b1 rfl rfl rfl rfl rfl rfl ?_ | refine TriOps.a1 rfl rfl rfl rfl rfl rfl rfl ?_ | refine TriOps.w1 rfl rfl rfl rfl rfl rfl rfl rfl rfl ?_ | fail))
  refine Tri.ret (retK1 (bx' := curBox code p1 s1) rfl rfl (AV.Le.refl _) rfl ⟨p1, s1, rfl, by omega, by omega, _, rfl⟩)
theorem among_draw (l : List Int) (hl : l ≠ []) (hll : l.length ≤ 1000000) : Draws 102 [.d (.ints .i64 l)] 2 (fun r => ∃ k : Int, r = .d (.int .i64 k) ∧ k ∈ l) := by
  intro code p s hb hp hK
  have h0 : 0 < l.length := List.length_pos_iff.2 hl
  refine Fn.s (E := env) 12 [(.out 0, curBox code p s)] [] Tryd.func102 rfl (by kernel_rfl) rfl rfl ?_
  (repeat' (first | refine TriOps.v1 rfl rfl rfl rfl True.intro ?_ | refine TriOps.nil ?_ | refine Tri.region ?_ | refine Tri.seq ?_ | refine Tri.block ?_ | refine Tri.skip ?_ | refine Tri.exit ?_ | refine TriOps.s1 rfl rfl rfl ?_ | refine TriOps.b1 rfl rfl rfl rfl rfl rfl ?_ | refine TriOps.a1 rfl rfl rfl rfl rfl rfl rfl ?_ | refine TriOps.w1 rfl rfl rfl rfl rfl rfl rfl rfl rfl ?_ | fail))
  refine TriOps.k1 rfl rfl rfl rfl rfl rfl rfl (pick_draw (l.length : Int) code p s hb hp (by omega)) rfl ?_
  rintro _ _ ⟨p1, s1, rfl, h1, h2, k, rfl, h3, h4⟩
  have hk : k.toNat < l.length := by omega
  refine TriOps.v1 rfl rfl rfl rfl ⟨by omega, by show k < (l.length : Int); omega⟩ ?_
  (repeat' (first | refine TriOps.v1 rfl rfl rfl rfl True.intro ?_ | refine TriOps.nil ?_ | refine Tri.region ?_ | refine Tri.seq ?_ | refine Tri.block ?_ | refine Tri.skip ?_ | refine Tri.exit ?_ | refine TriOps.s1 rfl rfl rfl ?_ | refine TriOps.b1 rfl rfl rfl rfl rfl rfl ?_ | refine TriOps.a1 rfl rfl rfl rfl rfl rfl rfl ?_ | refine TriOps.w1 rfl rfl rfl rfl rfl rfl rfl rfl rfl ?_ | fail))
  refine Tri.ret (retK1 (bx' := curBox code p1 s1) rfl rfl (AV.Le.refl _) rfl ⟨p1, s1, rfl, by omega, by omega, _, rfl, getD_mem hk⟩)
end Go.Proofs.YthmbdoegcpicbaaDoor.Abs

/-! ## C17 -/
namespace Go.Proofs.YthmbdoegcpicbaaDoor.Abs
open Go.Proofs
def figO (w h : Int) : AV := .agg [.d (.int .i64 w), .d (.int .i64 h), .own (.ret 0), .own (.ret 1)]
def iArr (l : List Int) : Arr := ⟨3, .ints .i64 l⟩
def figA (a u : List Int) : AL := [(.ret 0, iArr a), (.ret 1, iArr u)]
theorem fiLess_own (w h : Int) (a u : List Int) (w' h' : Int) (a' u' : List Int) (ha : a.length ≤ 1000000) (hu : u.length ≤ 1000000) : FnO env 55 [fig w h a u, fig w' h' a' u'] (figO w h) (figA (those a a' false) (those u u' false)) := by
  refine Fn.os (E := env) 20 Tryd.func55 rfl (by kernel_rfl) rfl rfl ?_
  (repeat' (first | refine TriOps.v1 rfl rfl rfl rfl True.intro ?_ | refine TriOps.nil ?_ | refine Tri.region ?_ | refine Tri.seq ?_ | refine Tri.block ?_ | refine Tri.skip ?_ | refine Tri.exit ?_ | refine TriOps.s1 rfl rfl rfl ?_ | refine TriOps.b1 rfl rfl rfl rfl rfl rfl ?_ | refine TriOps.a1 rfl rfl rfl rfl rfl rfl rfl ?_ | refine TriOps.w1 rfl rfl rfl rfl rfl rfl rfl rfl rfl ?_ | fail))
  refine Tri.dz [.loc 2, .loc 3] [(0, 0), (1, 1), (2, 0), (3, 1), (4, 0), (5, 1), (6, 0), (7, 1), (9, 0), (10, 1), (11, 0), (12, 1), (8, 2), (13, 2), (14, 0), (15, 2)] (by kernel_rfl) rfl ?_
  (repeat' (first | refine TS.v1 rfl (fun _ _ h => h) rfl rfl rfl rfl rfl True.intro ?_ | refine TS.t1 rfl (fun _ _ h => h) rfl rfl rfl rfl rfl True.intro ?_ | refine TS.nil ?_ | refine TS.n0 rfl (fun _ _ h => h) rfl rfl rfl ?_ | refine TS.n1 rfl (fun _ _ h => h) rfl rfl rfl ?_ | refine TS.n2 rfl rfl rfl rfl ?_ | refine TS.w1 rfl rfl rfl rfl rfl rfl rfl rfl rfl rfl rfl rfl ?_ | fail))
  refine TS.o1 rfl rfl rfl rfl rfl rfl rfl (fiThose_own _ _ _ ha) rfl rfl rfl ?_
  refine TS.o1 rfl rfl rfl rfl rfl rfl rfl (fiThose_own _ _ _ hu) rfl rfl rfl ?_
  (repeat' (first | refine TS.v1 rfl (fun _ _ h => h) rfl rfl rfl rfl rfl True.intro ?_ | refine TS.t1 rfl (fun _ _ h => h) rfl rfl rfl rfl rfl True.intro ?_ | refine TS.nil ?_ | refine TS.n0 rfl (fun _ _ h => h) rfl rfl rfl ?_ | refine TS.n1 rfl (fun _ _ h => h) rfl rfl rfl ?_ | refine TS.n2 rfl rfl rfl rfl ?_ | refine TS.w1 rfl rfl rfl rfl rfl rfl rfl rfl rfl rfl rfl rfl ?_ | fail))
  refine Tri.ret (retO [(.ret 0, some (.tmp 13 0)), (.ret 1, some (.tmp 18 0))] 20 [(4, .ptr (.loc 4) 0)] [(.loc 4, ⟨26, [.d (.int .i64 w), .d (.int .i64 h), .own (.ret 0), .own (.ret 1)]⟩)] rfl ⟨rfl, trivial⟩ ⟨rfl, trivial⟩ ⟨rfl, rfl, trivial⟩ rfl rfl (AV.Le.refl _) ⟨rfl, rfl, trivial⟩)
theorem fiUpTo_int_own (n : Int) (h0 : 0 ≤ n) (hn : n ≤ 1000000) : FnO env 104 [.d (.int .i64 n)] (.own (.ret 0)) [(.ret 0, iArr (upTo n.toNat))] := by
  have h := fiUpTo_own n.toNat (by omega)
  rwa [show ((n.toNat : Nat) : Int) = n by omega] at h
theorem fiFull_own (w h : Int) (hw : 1 ≤ w ∧ w ≤ 4) (hh : 1 ≤ h ∧ h ≤ 4) : FnO env 72 [.d (.int .i64 w), .d (.int .i64 h)] (figO w h) (figA (upTo (w * (h + 1)).toNat) (upTo (h * (w + 1)).toNat)) := by
  have h1 := mul_bd hw hh
  have h2 := mul_bd hh hw
  have h3 : (w + 1) * h = h * (w + 1) := Int.mul_comm _ _
  rw [← h3]
  refine Fn.os (E := env) 18 Tryd.func72 rfl (by kernel_rfl) rfl rfl ?_
  (repeat' (first | refine TriOps.v1 rfl rfl rfl rfl True.intro ?_ | refine TriOps.nil ?_ | refine Tri.region ?_ | refine Tri.seq ?_ | refine Tri.block ?_ | refine Tri.skip ?_ | refine Tri.exit ?_ | refine TriOps.s1 rfl rfl rfl ?_ | refine TriOps.b1 rfl rfl rfl rfl rfl rfl ?_ | refine TriOps.a1 rfl rfl rfl rfl rfl rfl rfl ?_ | refine TriOps.w1 rfl rfl rfl rfl rfl rfl rfl rfl rfl ?_ | fail))
  refine TriOps.v1 rfl rfl rfl rfl (by first | exact True.intro | exact inR_i64 (by omega) (by omega) | omega | (refine ⟨?_, ?_⟩ <;> omega)) ?_
  refine TriOps.v1 rfl rfl rfl rfl (by first | exact True.intro | exact inR_i64 (by omega) (by omega) | omega | (refine ⟨?_, ?_⟩ <;> omega)) ?_
  refine TriOps.o1 rfl rfl rfl rfl rfl (fiUpTo_int_own _ (by omega) (by omega)) rfl rfl rfl ?_
  (repeat' (first | refine TriOps.v1 rfl rfl rfl rfl True.intro ?_ | refine TriOps.nil ?_ | refine Tri.region ?_ | refine Tri.seq ?_ | refine Tri.block ?_ | refine Tri.skip ?_ | refine Tri.exit ?_ | refine TriOps.s1 rfl rfl rfl ?_ | refine TriOps.b1 rfl rfl rfl rfl rfl rfl ?_ | refine TriOps.a1 rfl rfl rfl rfl rfl rfl rfl ?_ | refine TriOps.w1 rfl rfl rfl rfl rfl rfl rfl rfl rfl ?_ | fail))
  refine TriOps.v1 rfl rfl rfl rfl (by first | exact True.intro | exact inR_i64 (by omega) (by omega) | omega | (refine ⟨?_, ?_⟩ <;> omega)) ?_
  (repeat' (first | refine TriOps.v1 rfl rfl rfl rfl True.intro ?_ | refine TriOps.nil ?_ | refine Tri.region ?_ | refine Tri.seq ?_ | refine Tri.block ?_ | refine Tri.skip ?_ | refine Tri.exit ?_ | refine TriOps.s1 rfl rfl rfl ?_ | refine TriOps.b1 rfl rfl rfl rfl rfl rfl ?_ | refine TriOps.a1 rfl rfl rfl rfl rfl rfl rfl ?_ | refine TriOps.w1 rfl rfl rfl rfl rfl rfl rfl rfl rfl ?_ | fail))
  refine TriOps.v1 rfl rfl rfl rfl (by first | exact True.intro | exact inR_i64 (by omega) (by omega) | omega | (refine ⟨?_, ?_⟩ <;> omega)) ?_
  refine TriOps.o1 rfl rfl rfl rfl rfl (fiUpTo_int_own _ (by omega) (by omega)) rfl rfl rfl ?_
  (repeat' (first | refine TriOps.v1 rfl rfl rfl rfl True.intro ?_ | refine TriOps.nil ?_ | refine Tri.region ?_ | refine Tri.seq ?_ | refine Tri.block ?_ | refine Tri.skip ?_ | refine Tri.exit ?_ | refine TriOps.s1 rfl rfl rfl ?_ | refine TriOps.b1 rfl rfl rfl rfl rfl rfl ?_ | refine TriOps.a1 rfl rfl rfl rfl rfl rfl rfl ?_ | refine TriOps.w1 rfl rfl rfl rfl rfl rfl rfl rfl rfl ?_ | fail))
  refine Tri.ret (retO [(.ret 0, some (.tmp 11 0)), (.ret 1, some (.tmp 16 0))] 18 [(4, .ptr (.loc 4) 0)] [(.loc 4, ⟨26, [.d (.int .i64 w), .d (.int .i64 h), .own (.ret 0), .own (.ret 1)]⟩)] rfl ⟨rfl, trivial⟩ ⟨rfl, trivial⟩ ⟨rfl, rfl, trivial⟩ rfl rfl (AV.Le.refl _) ⟨rfl, rfl, trivial⟩)
theorem those_upTo_len (n : Nat) (b : List Int) (c : Bool) : (those (upTo n) b c).length ≤ n := Nat.le_trans (those_len _ _ _) (by rw [upTo_len]; omega)
theorem fiPick_own (b : List Int) (m : Int) (c : Bool) (hm : -1 ≤ m ∧ m ≤ 100000) : FnO env 124 [.d (.ints .i64 b), .d (.int .i64 m), .d (.bool c)] (.own (.ret 0)) [(.ret 0, iArr (those (upTo (m + 1).toNat) b c))] := by
  obtain ⟨N, hN⟩ : ∃ N : Nat, m + 1 = N := ⟨(m + 1).toNat, by omega⟩
  obtain rfl : m = (N : Int) - 1 := by omega
  rw [show ((N : Int) - 1 + 1).toNat = N by omega]
  refine Fn.os (E := env) 24 Tryd.func124 rfl (by kernel_rfl) rfl rfl ?_
  (repeat' (first | refine TriOps.v1 rfl rfl rfl rfl True.intro ?_ | refine TriOps.nil ?_ | refine Tri.region ?_ | refine Tri.seq ?_ | refine Tri.block ?_ | refine Tri.skip ?_ | refine Tri.exit ?_ | refine TriOps.s1 rfl rfl rfl ?_ | refine TriOps.b1 rfl rfl rfl rfl rfl rfl ?_ | refine TriOps.a1 rfl rfl rfl rfl rfl rfl rfl ?_ | refine TriOps.w1 rfl rfl rfl rfl rfl rfl rfl rfl rfl ?_ | fail))
  refine Tri.loopI (fun i : Nat => i ≤ N) (fun i => stt 24 [(0, .d (.ints .i64 b)), (1, .d (.int .i64 ((N : Int) - 1))), (2, .d (.bool c)), (7, .own (.ret 0)), (8, .d (.int .i64 i))] [] [(.ret 0, iArr (those (upTo i) b c))]) (fun i => N - i) 0 (by omega) (Wk.ren [(.ret 0, none)] rfl ⟨rfl, rfl, rfl, rfl, rfl, trivial⟩ trivial ⟨trivial, trivial⟩ rfl) ?_
  intro i hi
  have hlen := those_upTo_len i b c
  (repeat' (first | refine TriOps.v1 rfl rfl rfl rfl True.intro ?_ | refine TriOps.nil ?_ | refine Tri.region ?_ | refine Tri.seq ?_ | refine Tri.block ?_ | refine Tri.skip ?_ | refine Tri.exit ?_ | refine TriOps.s1 rfl rfl rfl ?_ | refine TriOps.b1 rfl rfl rfl rfl rfl rfl ?_ | refine TriOps.a1 rfl rfl rfl rfl rfl rfl rfl ?_ | refine TriOps.w1 rfl rfl rfl rfl rfl rfl rfl rfl rfl ?_ | fail))
  refine Tri.cond rfl (fun hc => ?_) (fun hc => ?_)
  · have hc : (i : Int) ≤ (N : Int) - 1 := of_decide_eq_true hc
    have hsn : those (upTo (i + 1)) b c = those (upTo i) b c ++ (bif hasI b i == c then [(i : Int)] else []) := by
      rw [upTo_succ, those, List.filter_append]
      cases hh : hasI b i == c
      · rw [List.filter_cons_of_neg (p := fun k => hasI b k == c) (by rw [hh]; simp)]; rfl
      · rw [List.filter_cons_of_pos (p := fun k => hasI b k == c) hh]; rfl
    (repeat' (first | refine TriOps.v1 rfl rfl rfl rfl True.intro ?_ | refine TriOps.nil ?_ | refine Tri.region ?_ | refine Tri.seq ?_ | refine Tri.block ?_ | refine Tri.skip ?_ | refine Tri.exit ?_ | refine TriOps.s1 rfl rfl rfl ?_ | refine TriOps.b1 rfl rfl rfl rfl rfl rfl ?_ | refine TriOps.a1 rfl rfl rfl rfl rfl rfl rfl ?_ | refine TriOps.w1 rfl rfl rfl rfl rfl rfl rfl rfl rfl ?_ | fail))
    refine TriOps.c1 rfl rfl rfl rfl rfl (l1Has_fn _ _) rfl ?_
    (repeat' (first | refine TriOps.v1 rfl rfl rfl rfl True.intro ?_ | refine TriOps.nil ?_ | refine Tri.region ?_ | refine Tri.seq ?_ | refine Tri.block ?_ | refine Tri.skip ?_ | refine Tri.exit ?_ | refine TriOps.s1 rfl rfl rfl ?_ | refine TriOps.b1 rfl rfl rfl rfl rfl rfl ?_ | refine TriOps.a1 rfl rfl rfl rfl rfl rfl rfl ?_ | refine TriOps.w1 rfl rfl rfl rfl rfl rfl rfl rfl rfl ?_ | fail))
    refine Tri.cond rfl (fun hd => ?_) (fun hd => ?_)
    · have hd : (hasI b i == c) = true := hd
      rw [hd] at hsn
      (repeat' (first | refine TriOps.v1 rfl rfl rfl rfl True.intro ?_ | refine TriOps.nil ?_ | refine Tri.region ?_ | refine Tri.seq ?_ | refine Tri.block ?_ | refine Tri.skip ?_ | refine Tri.exit ?_ | refine TriOps.s1 rfl rfl rfl ?_ | refine TriOps.b1 rfl rfl rfl rfl rfl rfl ?_ | refine TriOps.a1 rfl rfl rfl rfl rfl rfl rfl ?_ | refine TriOps.w1 rfl rfl rfl rfl rfl rfl rfl rfl rfl ?_ | fail))
      refine TriOps.f1 rfl rfl rfl rfl rfl rfl rfl rfl ?_
      refine TriOps.p1 rfl rfl rfl rfl rfl rfl rfl rfl rfl rfl rfl rfl rfl rfl (app1_ok (m := (those (upTo i) b c).length) rfl (by omega)) ?_
      (repeat' (first | refine TriOps.v1 rfl rfl rfl rfl True.intro ?_ | refine TriOps.nil ?_ | refine Tri.region ?_ | refine Tri.seq ?_ | refine Tri.block ?_ | refine Tri.skip ?_ | refine Tri.exit ?_ | refine TriOps.s1 rfl rfl rfl ?_ | refine TriOps.b1 rfl rfl rfl rfl rfl rfl ?_ | refine TriOps.a1 rfl rfl rfl rfl rfl rfl rfl ?_ | refine TriOps.w1 rfl rfl rfl rfl rfl rfl rfl rfl rfl ?_ | fail))
      refine TriOps.v1 rfl rfl rfl rfl (by first | exact True.intro | exact inR_i64 (by omega) (by omega) | omega | (refine ⟨?_, ?_⟩ <;> omega)) ?_
      (repeat' (first | refine TriOps.v1 rfl rfl rfl rfl True.intro ?_ | refine TriOps.nil ?_ | refine Tri.region ?_ | refine Tri.seq ?_ | refine Tri.block ?_ | refine Tri.skip ?_ | refine Tri.exit ?_ | refine TriOps.s1 rfl rfl rfl ?_ | refine TriOps.b1 rfl rfl rfl rfl rfl rfl ?_ | refine TriOps.a1 rfl rfl rfl rfl rfl rfl rfl ?_ | refine TriOps.w1 rfl rfl rfl rfl rfl rfl rfl rfl rfl ?_ | fail))
      refine ⟨i + 1, by omega, by omega, Wk.ren [(.ret 0, some (.tmp 22 0))] rfl ⟨rfl, rfl, rfl, rfl, rfl, trivial⟩ trivial ⟨?_, trivial⟩ rfl⟩
      rw [hsn]
      rfl
    · have hd : (hasI b i == c) = false := hd
      rw [hd] at hsn
      (repeat' (first | refine TriOps.v1 rfl rfl rfl rfl True.intro ?_ | refine TriOps.nil ?_ | refine Tri.region ?_ | refine Tri.seq ?_ | refine Tri.block ?_ | refine Tri.skip ?_ | refine Tri.exit ?_ | refine TriOps.s1 rfl rfl rfl ?_ | refine TriOps.b1 rfl rfl rfl rfl rfl rfl ?_ | refine TriOps.a1 rfl rfl rfl rfl rfl rfl rfl ?_ | refine TriOps.w1 rfl rfl rfl rfl rfl rfl rfl rfl rfl ?_ | fail))
      refine TriOps.v1 rfl rfl rfl rfl (by first | exact True.intro | exact inR_i64 (by omega) (by omega) | omega | (refine ⟨?_, ?_⟩ <;> omega)) ?_
      (repeat' (first | refine TriOps.v1 rfl rfl rfl rfl True.intro ?_ | refine TriOps.nil ?_ | refine Tri.region ?_ | refine Tri.seq ?_ | refine Tri.block ?_ | refine Tri.skip ?_ | refine Tri.exit ?_ | refine TriOps.s1 rfl rfl rfl ?_ | refine TriOps.b1 rfl rfl rfl rfl rfl rfl ?_ | refine TriOps.a1 rfl rfl rfl rfl rfl rfl rfl ?_ | refine TriOps.w1 rfl rfl rfl rfl rfl rfl rfl rfl rfl ?_ | fail))
      refine ⟨i + 1, by omega, by omega, Wk.to rfl ⟨rfl, rfl, rfl, rfl, rfl, trivial⟩ trivial ⟨?_, trivial⟩⟩
      rw [hsn, cond_false, List.append_nil]
      rfl
  · have hc : ¬ (i : Int) ≤ (N : Int) - 1 := of_decide_eq_false hc
    obtain rfl : i = N := by omega
    (repeat' (first | refine TriOps.v1 rfl rfl rfl rfl True.intro ?_ | refine TriOps.nil ?_ | refine Tri.region ?_ | refine Tri.seq ?_ | refine Tri.block ?_ | refine Tri.skip ?_ | refine Tri.exit ?_ | refine TriOps.s1 rfl rfl rfl ?_ | refine TriOps.b1 rfl rfl rfl rfl rfl rfl ?_ | refine TriOps.a1 rfl rfl rfl rfl rfl rfl rfl ?_ | refine TriOps.w1 rfl rfl rfl rfl rfl rfl rfl rfl rfl ?_ | fail))
    refine Tri.ret (retO0 rfl (AV.Le.refl _) ⟨rfl, trivial⟩)
/-! ### a number put into a list -/
def putAt (l : List Int) (n : Int) : Nat := (l.takeWhile fun x => decide (x < n)).length
def putL (l : List Int) (n : Int) : List Int := bif decide (putAt l n < l.length) && decide (l.getD (putAt l n) 0 = n) then l else l.take (putAt l n) ++ [n] ++ l.drop (putAt l n)
theorem putAt_le : ∀ (l : List Int) (n : Int), putAt l n ≤ l.length
  | [], n => by simp [putAt]
  | a :: l, n => by
    have := putAt_le l n
    by_cases ha : a < n
    · have e : putAt (a :: l) n = putAt l n + 1 := by simp [putAt, ha]
      rw [e]; simpa using this
    · have e : putAt (a :: l) n = 0 := by simp [putAt, ha]
      rw [e]; omega
theorem putAt_lt {n : Int} : ∀ {l : List Int} {j : Nat}, j < putAt l n → l.getD j 0 < n
  | [], j, h => by simp [putAt] at h
  | a :: l, j, h => by
    by_cases ha : a < n
    · simp only [putAt, List.takeWhile_cons, ha, decide_true, if_true, List.length_cons] at h
      cases j with
      | zero => simpa using ha
      | succ j => simpa using putAt_lt (l := l) (j := j) (by simp only [putAt]; omega)
    · simp [putAt, ha] at h
theorem putAt_ge {n : Int} : ∀ {l : List Int}, putAt l n < l.length → ¬ l.getD (putAt l n) 0 < n
  | [], h => by simp at h
  | a :: l, h => by
    by_cases ha : a < n
    · have e : putAt (a :: l) n = putAt l n + 1 := by simp [putAt, ha]
      rw [e] at h ⊢
      simpa using putAt_ge (l := l) (by simpa using h)
    · have e : putAt (a :: l) n = 0 := by simp [putAt, ha]
      rw [e]; simpa using ha
theorem putAt_eq {l : List Int} {n : Int} {k : Nat} (hk : k ≤ l.length) (h1 : ∀ j, j < k → l.getD j 0 < n) (h2 : k < l.length → ¬ l.getD k 0 < n) : putAt l n = k := by
  rcases Nat.lt_trichotomy (putAt l n) k with h | h | h
  · exact absurd (h1 _ h) (putAt_ge (by omega))
  · exact h
  · exact absurd (putAt_lt h) (h2 (by have := putAt_le l n; omega))
theorem app_ok {k : IntKind} {l : List Int} {m b : Nat} (h : l.length = m) (hm : m * 8 ≤ 140737488355328) (hb : b ≤ 8 := by decide) : (D.ints k l).len ≤ 140737488355328 ∧ (D.ints k l).len * b ≤ 140737488355328 := by
  have e : (D.ints k l).len = m := h
  rw [e]
  have := Nat.mul_le_mul_left m hb
  omega
theorem l1Own_own (l : List Int) (hl : l.length ≤ 1000000) : FnO env 110 [.d (.ints .i64 l)] (.own (.ret 0)) [(.ret 0, iArr l)] := by
  refine Fn.os (E := env) 6 Tryd.func110 rfl (by kernel_rfl) rfl rfl ?_
  (repeat' (first | refine TriOps.v1 rfl rfl rfl rfl True.intro ?_ | refine TriOps.nil ?_ | refine Tri.region ?_ | refine Tri.seq ?_ | refine Tri.block ?_ | refine Tri.skip ?_ | refine Tri.exit ?_ | refine TriOps.s1 rfl rfl rfl ?_ | refine TriOps.b1 rfl rfl rfl rfl rfl rfl ?_ | refine TriOps.a1 rfl rfl rfl rfl rfl rfl rfl ?_ | refine TriOps.w1 rfl rfl rfl rfl rfl rfl rfl rfl rfl ?_ | fail))
  refine TriOps.y1 rfl rfl rfl rfl rfl rfl rfl ?_
  (repeat' (first | refine TriOps.v1 rfl rfl rfl rfl True.intro ?_ | refine TriOps.nil ?_ | refine Tri.region ?_ | refine Tri.seq ?_ | refine Tri.block ?_ | refine Tri.skip ?_ | refine Tri.exit ?_ | refine TriOps.s1 rfl rfl rfl ?_ | refine TriOps.b1 rfl rfl rfl rfl rfl rfl ?_ | refine TriOps.a1 rfl rfl rfl rfl rfl rfl rfl ?_ | refine TriOps.w1 rfl rfl rfl rfl rfl rfl rfl rfl rfl ?_ | fail))
  refine TriOps.p1 rfl rfl rfl rfl rfl rfl rfl rfl rfl rfl rfl rfl rfl rfl ⟨by show (([] : List Int) ++ l).length ≤ _; simp; omega, by show (([] : List Int) ++ l).length * 8 ≤ _; simp; omega⟩ ?_
  (repeat' (first | refine TriOps.v1 rfl rfl rfl rfl True.intro ?_ | refine TriOps.nil ?_ | refine Tri.region ?_ | refine Tri.seq ?_ | refine Tri.block ?_ | refine Tri.skip ?_ | refine Tri.exit ?_ | refine TriOps.s1 rfl rfl rfl ?_ | refine TriOps.b1 rfl rfl rfl rfl rfl rfl ?_ | refine TriOps.a1 rfl rfl rfl rfl rfl rfl rfl ?_ | refine TriOps.w1 rfl rfl rfl rfl rfl rfl rfl rfl rfl ?_ | fail))
  refine Tri.ret (retO [(.ret 0, some (.tmp 5 0))] 6 [(2, .own (.ret 0))] [] rfl ⟨rfl, trivial⟩ trivial ⟨rfl, trivial⟩ rfl rfl (AV.Le.refl _) ⟨rfl, trivial⟩)
theorem l1Put_mv (l : List Int) (n : Int) (hl : l.length ≤ 1000000) : FnM env 130 (iArr l) [.d (.int .i64 n)] (.own (.ret 0)) [(.ret 0, iArr (putL l n))] := by
  refine Fn.s (E := env) 48 [] [(.ext 0, iArr l)] Tryd.func130 rfl (by kernel_rfl) rfl rfl ?_
  (repeat' (first | refine TriOps.v1 rfl rfl rfl rfl True.intro ?_ | refine TriOps.nil ?_ | refine Tri.region ?_ | refine Tri.seq ?_ | refine TriOps.s1 rfl rfl rfl ?_ | refine TriOps.b1 rfl rfl rfl rfl rfl rfl ?_ | refine TriOps.a1 rfl rfl rfl rfl rfl rfl rfl ?_ | refine TriOps.w1 rfl rfl rfl rfl rfl rfl rfl rfl rfl ?_ | fail))
  refine Tri.join (fun _ : Unit => True) (fun _ => stt 48 [(0, .own (.ext 0)), (1, .d (.int .i64 n)), (5, .d (.int .i64 (putAt l n)))] [] [(.ext 0, iArr l)]) ?_ ?_
  · refine Tri.block ?_
    refine Tri.loopI (fun i : Nat => i ≤ l.length ∧ ∀ j, j < i → l.getD j 0 < n) (fun i => stt 48 [(0, .own (.ext 0)), (1, .d (.int .i64 n)), (5, .d (.int .i64 i))] [] [(.ext 0, iArr l)]) (fun i => l.length - i) 0 ⟨by omega, fun j hj => by omega⟩ (Wk.to rfl ⟨rfl, rfl, rfl, trivial⟩ trivial ⟨rfl, trivial⟩) ?_
    rintro i ⟨h1, h2⟩
    (repeat' (first | refine TriOps.v1 rfl rfl rfl rfl True.intro ?_ | refine TriOps.nil ?_ | refine Tri.region ?_ | refine Tri.seq ?_ | refine Tri.block ?_ | refine Tri.skip ?_ | refine Tri.exit ?_ | refine TriOps.s1 rfl rfl rfl ?_ | refine TriOps.b1 rfl rfl rfl rfl rfl rfl ?_ | refine TriOps.a1 rfl rfl rfl rfl rfl rfl rfl ?_ | refine TriOps.w1 rfl rfl rfl rfl rfl rfl rfl rfl rfl ?_ | fail))
    refine TriOps.g1 rfl rfl rfl (fun hg => ?_) (fun hg => ?_)
    · have hg : (i : Int) < l.length := of_decide_eq_true hg
      (repeat' (first | refine TriOps.v1 rfl rfl rfl rfl True.intro ?_ | refine TriOps.nil ?_ | refine Tri.region ?_ | refine Tri.seq ?_ | refine Tri.block ?_ | refine Tri.skip ?_ | refine Tri.exit ?_ | refine TriOps.s1 rfl rfl rfl ?_ | refine TriOps.b1 rfl rfl rfl rfl rfl rfl ?_ | refine TriOps.a1 rfl rfl rfl rfl rfl rfl rfl ?_ | refine TriOps.w1 rfl rfl rfl rfl rfl rfl rfl rfl rfl ?_ | fail))
      refine TriOps.v1 rfl rfl rfl rfl ⟨by omega, by exact hg⟩ ?_
      refine TriOps.v1 rfl rfl rfl rfl (show (i : Int).toNat < l.length by omega) ?_
      (repeat' (first | refine TriOps.v1 rfl rfl rfl rfl True.intro ?_ | refine TriOps.nil ?_ | refine Tri.region ?_ | refine Tri.seq ?_ | refine Tri.block ?_ | refine Tri.skip ?_ | refine Tri.exit ?_ | refine TriOps.s1 rfl rfl rfl ?_ | refine TriOps.b1 rfl rfl rfl rfl rfl rfl ?_ | refine TriOps.a1 rfl rfl rfl rfl rfl rfl rfl ?_ | refine TriOps.w1 rfl rfl rfl rfl rfl rfl rfl rfl rfl ?_ | fail))
      refine Tri.cond rfl (fun hc => ?_) (fun hc => ?_)
      · have hc : l.getD i 0 < n := of_decide_eq_true hc
        (repeat' (first | refine TriOps.v1 rfl rfl rfl rfl True.intro ?_ | refine TriOps.nil ?_ | refine Tri.region ?_ | refine Tri.seq ?_ | refine Tri.block ?_ | refine Tri.skip ?_ | refine Tri.exit ?_ | refine TriOps.s1 rfl rfl rfl ?_ | refine TriOps.b1 rfl rfl rfl rfl rfl rfl ?_ | refine TriOps.a1 rfl rfl rfl rfl rfl rfl rfl ?_ | refine TriOps.w1 rfl rfl rfl rfl rfl rfl rfl rfl rfl ?_ | fail))
        refine TriOps.v1 rfl rfl rfl rfl (by first | exact True.intro | exact inR_i64 (by omega) (by omega) | omega | (refine ⟨?_, ?_⟩ <;> omega)) ?_
        (repeat' (first | refine TriOps.v1 rfl rfl rfl rfl True.intro ?_ | refine TriOps.nil ?_ | refine Tri.region ?_ | refine Tri.seq ?_ | refine Tri.block ?_ | refine Tri.skip ?_ | refine Tri.exit ?_ | refine TriOps.s1 rfl rfl rfl ?_ | refine TriOps.b1 rfl rfl rfl rfl rfl rfl ?_ | refine TriOps.a1 rfl rfl rfl rfl rfl rfl rfl ?_ | refine TriOps.w1 rfl rfl rfl rfl rfl rfl rfl rfl rfl ?_ | fail))
        refine ⟨i + 1, ⟨by omega, fun j hj => ?_⟩, by omega, Wk.to rfl ⟨rfl, rfl, rfl, trivial⟩ trivial ⟨rfl, trivial⟩⟩
        rcases Nat.lt_or_ge j i with h | h
        · exact h2 j h
        · obtain rfl : j = i := by omega
          exact hc
      · have hc : ¬ l.getD i 0 < n := of_decide_eq_false hc
        obtain rfl := putAt_eq h1 h2 (fun _ => hc)
        (repeat' (first | refine TriOps.v1 rfl rfl rfl rfl True.intro ?_ | refine TriOps.nil ?_ | refine Tri.region ?_ | refine Tri.seq ?_ | refine Tri.block ?_ | refine Tri.skip ?_ | refine Tri.exit ?_ | refine TriOps.s1 rfl rfl rfl ?_ | refine TriOps.b1 rfl rfl rfl rfl rfl rfl ?_ | refine TriOps.a1 rfl rfl rfl rfl rfl rfl rfl ?_ | refine TriOps.w1 rfl rfl rfl rfl rfl rfl rfl rfl rfl ?_ | fail))
        exact ⟨(), trivial, Wk.to rfl ⟨rfl, rfl, rfl, trivial⟩ trivial ⟨rfl, trivial⟩⟩
    · have hg : ¬ (i : Int) < l.length := of_decide_eq_false hg
      obtain rfl := putAt_eq h1 h2 (fun h => absurd h (by omega))
      (repeat' (first | refine TriOps.v1 rfl rfl rfl rfl True.intro ?_ | refine TriOps.nil ?_ | refine Tri.region ?_ | refine Tri.seq ?_ | refine Tri.block ?_ | refine Tri.skip ?_ | refine Tri.exit ?_ | refine TriOps.s1 rfl rfl rfl ?_ | refine TriOps.b1 rfl rfl rfl rfl rfl rfl ?_ | refine TriOps.a1 rfl rfl rfl rfl rfl rfl rfl ?_ | refine TriOps.w1 rfl rfl rfl rfl rfl rfl rfl rfl rfl ?_ | fail))
      refine Tri.cond rfl (fun hc => by cases hc) (fun hc => ?_)
      (repeat' (first | refine TriOps.v1 rfl rfl rfl rfl True.intro ?_ | refine TriOps.nil ?_ | refine Tri.region ?_ | refine Tri.seq ?_ | refine Tri.block ?_ | refine Tri.skip ?_ | refine Tri.exit ?_ | refine TriOps.s1 rfl rfl rfl ?_ | refine TriOps.b1 rfl rfl rfl rfl rfl rfl ?_ | refine TriOps.a1 rfl rfl rfl rfl rfl rfl rfl ?_ | refine TriOps.w1 rfl rfl rfl rfl rfl rfl rfl rfl rfl ?_ | fail))
      exact ⟨(), trivial, Wk.to rfl ⟨rfl, rfl, rfl, trivial⟩ trivial ⟨rfl, trivial⟩⟩
  · rintro _ _
    have hp := putAt_le l n
    refine Tri.seq ?_
    refine Tri.join (fun _ : Unit => putL l n = l.take (putAt l n) ++ [n] ++ l.drop (putAt l n)) (fun _ => stt 48 [(0, .own (.ext 0)), (1, .d (.int .i64 n)), (5, .d (.int .i64 (putAt l n)))] [] [(.ext 0, iArr l)]) ?_ ?_
    · (repeat' (first | refine TriOps.v1 rfl rfl rfl rfl True.intro ?_ | refine TriOps.nil ?_ | refine Tri.region ?_ | refine Tri.seq ?_ | refine Tri.block ?_ | refine Tri.skip ?_ | refine Tri.exit ?_ | refine TriOps.s1 rfl rfl rfl ?_ | refine TriOps.b1 rfl rfl rfl rfl rfl rfl ?_ | refine TriOps.a1 rfl rfl rfl rfl rfl rfl rfl ?_ | refine TriOps.w1 rfl rfl rfl rfl rfl rfl rfl rfl rfl ?_ | fail))
      refine TriOps.g1 rfl rfl rfl (fun hg => ?_) (fun hg => ?_)
      · have hg : (putAt l n : Int) < l.length := of_decide_eq_true hg
        (repeat' (first | refine TriOps.v1 rfl rfl rfl rfl True.intro ?_ | refine TriOps.nil ?_ | refine Tri.region ?_ | refine Tri.seq ?_ | refine Tri.block ?_ | refine Tri.skip ?_ | refine Tri.exit ?_ | refine TriOps.s1 rfl rfl rfl ?_ | refine TriOps.b1 rfl rfl rfl rfl rfl rfl ?_ | refine TriOps.a1 rfl rfl rfl rfl rfl rfl rfl ?_ | refine TriOps.w1 rfl rfl rfl rfl rfl rfl rfl rfl rfl ?_ | fail))
        refine TriOps.v1 rfl rfl rfl rfl ⟨by omega, by exact hg⟩ ?_
        refine TriOps.v1 rfl rfl rfl rfl (show (putAt l n : Int).toNat < l.length by omega) ?_
        (repeat' (first | refine TriOps.v1 rfl rfl rfl rfl True.intro ?_ | refine TriOps.nil ?_ | refine Tri.region ?_ | refine Tri.seq ?_ | refine Tri.block ?_ | refine Tri.skip ?_ | refine Tri.exit ?_ | refine TriOps.s1 rfl rfl rfl ?_ | refine TriOps.b1 rfl rfl rfl rfl rfl rfl ?_ | refine TriOps.a1 rfl rfl rfl rfl rfl rfl rfl ?_ | refine TriOps.w1 rfl rfl rfl rfl rfl rfl rfl rfl rfl ?_ | fail))
        refine Tri.cond rfl (fun hd => ?_) (fun hd => ?_)
        · have hd : (l.getD (putAt l n) 0 == n) = true := hd
          have e : putL l n = l := by
            unfold putL
            rw [decide_eq_true (by omega : putAt l n < l.length), decide_eq_true (by simpa using hd : l.getD (putAt l n) 0 = n)]
            rfl
          rw [e]
          (repeat' (first | refine TriOps.v1 rfl rfl rfl rfl True.intro ?_ | refine TriOps.nil ?_ | refine Tri.region ?_ | refine Tri.seq ?_ | refine Tri.block ?_ | refine Tri.skip ?_ | refine Tri.exit ?_ | refine TriOps.s1 rfl rfl rfl ?_ | refine TriOps.b1 rfl rfl rfl rfl rfl rfl ?_ | refine TriOps.a1 rfl rfl rfl rfl rfl rfl rfl ?_ | refine TriOps.w1 rfl rfl rfl rfl rfl rfl rfl rfl rfl ?_ | fail))
          refine Tri.ret (retO [(.ret 0, some (.ext 0))] 48 [(4, .own (.ret 0))] [] rfl ⟨rfl, trivial⟩ trivial ⟨rfl, trivial⟩ rfl rfl (AV.Le.refl _) ⟨rfl, trivial⟩)
        · have hd : (l.getD (putAt l n) 0 == n) = false := hd
          (repeat' (first | refine TriOps.v1 rfl rfl rfl rfl True.intro ?_ | refine TriOps.nil ?_ | refine Tri.region ?_ | refine Tri.seq ?_ | refine Tri.block ?_ | refine Tri.skip ?_ | refine Tri.exit ?_ | refine TriOps.s1 rfl rfl rfl ?_ | refine TriOps.b1 rfl rfl rfl rfl rfl rfl ?_ | refine TriOps.a1 rfl rfl rfl rfl rfl rfl rfl ?_ | refine TriOps.w1 rfl rfl rfl rfl rfl rfl rfl rfl rfl ?_ | fail))
          refine ⟨(), ?_, Wk.to rfl ⟨rfl, rfl, rfl, trivial⟩ trivial ⟨rfl, trivial⟩⟩
          have h1 : putAt l n < l.length := by omega
          have h2 : ¬ l.getD (putAt l n) 0 = n := by simpa using hd
          unfold putL
          rw [decide_eq_true h1, decide_eq_false h2]
          rfl
      · have hg : ¬ (putAt l n : Int) < l.length := of_decide_eq_false hg
        (repeat' (first | refine TriOps.v1 rfl rfl rfl rfl True.intro ?_ | refine TriOps.nil ?_ | refine Tri.region ?_ | refine Tri.seq ?_ | refine Tri.block ?_ | refine Tri.skip ?_ | refine Tri.exit ?_ | refine TriOps.s1 rfl rfl rfl ?_ | refine TriOps.b1 rfl rfl rfl rfl rfl rfl ?_ | refine TriOps.a1 rfl rfl rfl rfl rfl rfl rfl ?_ | refine TriOps.w1 rfl rfl rfl rfl rfl rfl rfl rfl rfl ?_ | fail))
        refine Tri.cond rfl (fun hc => by cases hc) (fun hc => ?_)
        (repeat' (first | refine TriOps.v1 rfl rfl rfl rfl True.intro ?_ | refine TriOps.nil ?_ | refine Tri.region ?_ | refine Tri.seq ?_ | refine Tri.block ?_ | refine Tri.skip ?_ | refine Tri.exit ?_ | refine TriOps.s1 rfl rfl rfl ?_ | refine TriOps.b1 rfl rfl rfl rfl rfl rfl ?_ | refine TriOps.a1 rfl rfl rfl rfl rfl rfl rfl ?_ | refine TriOps.w1 rfl rfl rfl rfl rfl rfl rfl rfl rfl ?_ | fail))
        refine ⟨(), ?_, Wk.to rfl ⟨rfl, rfl, rfl, trivial⟩ trivial ⟨rfl, trivial⟩⟩
        have h1 : ¬ putAt l n < l.length := by omega
        unfold putL
        rw [decide_eq_false h1]
        rfl
    · rintro _ e
      rw [e]
      refine Tri.weak (Wk.frz (t := .ext 0) rfl rfl) ?_
      refine Tri.w (n := 48) [(0, .d (.ints .i64 l)), (1, .d (.int .i64 n)), (5, .d (.int .i64 (putAt l n)))] [] [] rfl ⟨rfl, rfl, rfl, trivial⟩ trivial trivial ?_
      (repeat' (first | refine TriOps.v1 rfl rfl rfl rfl True.intro ?_ | refine TriOps.nil ?_ | refine Tri.region ?_ | refine Tri.seq ?_ | refine Tri.block ?_ | refine Tri.skip ?_ | refine Tri.exit ?_ | refine TriOps.s1 rfl rfl rfl ?_ | refine TriOps.b1 rfl rfl rfl rfl rfl rfl ?_ | refine TriOps.a1 rfl rfl rfl rfl rfl rfl rfl ?_ | refine TriOps.w1 rfl rfl rfl rfl rfl rfl rfl rfl rfl ?_ | fail))
      refine TriOps.y1 rfl rfl rfl rfl rfl rfl rfl ?_
      (repeat' (first | refine TriOps.v1 rfl rfl rfl rfl True.intro ?_ | refine TriOps.nil ?_ | refine Tri.region ?_ | refine Tri.seq ?_ | refine Tri.block ?_ | refine Tri.skip ?_ | refine Tri.exit ?_ | refine TriOps.s1 rfl rfl rfl ?_ | refine TriOps.b1 rfl rfl rfl rfl rfl rfl ?_ | refine TriOps.a1 rfl rfl rfl rfl rfl rfl rfl ?_ | refine TriOps.w1 rfl rfl rfl rfl rfl rfl rfl rfl rfl ?_ | fail))
      refine TriOps.v1 rfl rfl rfl rfl ⟨by omega, by omega, by show (putAt l n : Int) ≤ l.length; omega⟩ ?_
      rw [show List.drop (Int.toNat 0) (List.take (putAt l n : Int).toNat l) = l.take (putAt l n) by simp]
      refine TriOps.p1 rfl rfl rfl rfl rfl rfl rfl rfl rfl rfl rfl rfl rfl rfl (app_ok (m := putAt l n) (by simp [hp]) (by omega)) ?_
      (repeat' (first | refine TriOps.v1 rfl rfl rfl rfl True.intro ?_ | refine TriOps.nil ?_ | refine Tri.region ?_ | refine Tri.seq ?_ | refine Tri.block ?_ | refine Tri.skip ?_ | refine Tri.exit ?_ | refine TriOps.s1 rfl rfl rfl ?_ | refine TriOps.b1 rfl rfl rfl rfl rfl rfl ?_ | refine TriOps.a1 rfl rfl rfl rfl rfl rfl rfl ?_ | refine TriOps.w1 rfl rfl rfl rfl rfl rfl rfl rfl rfl ?_ | fail))
      refine TriOps.f1 rfl rfl rfl rfl rfl rfl rfl rfl ?_
      refine TriOps.p1 rfl rfl rfl rfl rfl rfl rfl rfl rfl rfl rfl rfl rfl rfl (app_ok (m := putAt l n + 1) (by simp [hp]) (by omega)) ?_
      (repeat' (first | refine TriOps.v1 rfl rfl rfl rfl True.intro ?_ | refine TriOps.nil ?_ | refine Tri.region ?_ | refine Tri.seq ?_ | refine Tri.block ?_ | refine Tri.skip ?_ | refine Tri.exit ?_ | refine TriOps.s1 rfl rfl rfl ?_ | refine TriOps.b1 rfl rfl rfl rfl rfl rfl ?_ | refine TriOps.a1 rfl rfl rfl rfl rfl rfl rfl ?_ | refine TriOps.w1 rfl rfl rfl rfl rfl rfl rfl rfl rfl ?_ | fail))
      refine TriOps.v1 rfl rfl rfl rfl ⟨by omega, by show (putAt l n : Int) ≤ l.length; omega, by show (l.length : Int) ≤ l.length; omega⟩ ?_
      rw [show List.drop (putAt l n : Int).toNat (List.take ((D.ints .i64 l).len : Int).toNat l) = l.drop (putAt l n) by simp [D.len]]
      refine TriOps.p1 rfl rfl rfl rfl rfl rfl rfl rfl rfl rfl rfl rfl rfl rfl (app_ok (m := l.length + 1) (by simp; omega) (by omega)) ?_
      (repeat' (first | refine TriOps.v1 rfl rfl rfl rfl True.intro ?_ | refine TriOps.nil ?_ | refine Tri.region ?_ | refine Tri.seq ?_ | refine Tri.block ?_ | refine Tri.skip ?_ | refine Tri.exit ?_ | refine TriOps.s1 rfl rfl rfl ?_ | refine TriOps.b1 rfl rfl rfl rfl rfl rfl ?_ | refine TriOps.a1 rfl rfl rfl rfl rfl rfl rfl ?_ | refine TriOps.w1 rfl rfl rfl rfl rfl rfl rfl rfl rfl ?_ | fail))
      refine Tri.ret (retO [(.ret 0, some (.tmp 47 0))] 48 [(4, .own (.ret 0))] [] rfl ⟨rfl, trivial⟩ trivial ⟨rfl, trivial⟩ rfl rfl (AV.Le.refl _) ⟨rfl, trivial⟩)
end Go.Proofs.YthmbdoegcpicbaaDoor.Abs

/-! ## C18 -/
namespace Go.Proofs.YthmbdoegcpicbaaDoor.Abs
open Go.Proofs
def edgeK (w : Int) (up : Bool) (x y : Int) : Int := bif up then y * (w + 1) + x else y * w + x
def edgeOk (w h : Int) (up : Bool) (x y : Int) : Bool := bif up then inB 0 w x && inB 0 (h - 1) y else inB 0 (w - 1) x && inB 0 h y
theorem mul_small {x y a b : Int} (hx : -a ≤ x ∧ x ≤ a) (hy : 0 ≤ y ∧ y ≤ b) (ha : 0 ≤ a) : -(a * b) ≤ x * y ∧ x * y ≤ a * b := by
  have h1 : x * y ≤ a * y := Int.mul_le_mul_of_nonneg_right hx.2 hy.1
  have h2 : a * y ≤ a * b := Int.mul_le_mul_of_nonneg_left hy.2 ha
  have h3 : -a * y ≤ x * y := Int.mul_le_mul_of_nonneg_right hx.1 hy.1
  have h4 : -a * y = -(a * y) := Int.neg_mul ..
  omega
theorem fiEdge_fn (w h : Int) (a u : List Int) (up : Bool) (x y : Int) (bw : 1 ≤ w ∧ w ≤ 4) (bh : 1 ≤ h ∧ h ≤ 4) (bx : -1000 ≤ x ∧ x ≤ 1000) (by' : -1000 ≤ y ∧ y ≤ 1000) :
    FnV env 129 [fig w h a u, .d (.bool up), .d (.int .i64 x), .d (.int .i64 y)] (.tuple [.d (.int .i64 (edgeK w up x y)), .d (.bool (edgeOk w h up x y))]) := by
  have m1 := mul_small (x := y) (y := w + 1) (a := 1000) (b := 5) by' (by omega) (by omega)
  have m2 := mul_small (x := y) (y := w) (a := 1000) (b := 4) by' (by omega) (by omega)
  refine Fn.vs (E := env) 46 Tryd.func129 rfl (by kernel_rfl) rfl rfl ?_
  (repeat' (first | refine TriOps.v1 rfl rfl rfl rfl True.intro ?_ | refine TriOps.nil ?_ | refine Tri.region ?_ | refine Tri.seq ?_ | refine Tri.block ?_ | refine Tri.skip ?_ | refine Tri.exit ?_ | refine TriOps.s1 rfl rfl rfl ?_ | refine TriOps.b1 rfl rfl rfl rfl rfl rfl ?_ | refine TriOps.a1 rfl rfl rfl rfl rfl rfl rfl ?_ | refine TriOps.w1 rfl rfl rfl rfl rfl rfl rfl rfl rfl ?_ | fail))
  refine Tri.cond rfl (fun hc => ?_) (fun hc => ?_)
  · subst hc
    (repeat' (first | refine TriOps.v1 rfl rfl rfl rfl True.intro ?_ | refine TriOps.nil ?_ | refine Tri.region ?_ | refine Tri.seq ?_ | refine Tri.block ?_ | refine Tri.skip ?_ | refine Tri.exit ?_ | refine TriOps.s1 rfl rfl rfl ?_ | refine TriOps.b1 rfl rfl rfl rfl rfl rfl ?_ | refine TriOps.a1 rfl rfl rfl rfl rfl rfl rfl ?_ | refine TriOps.w1 rfl rfl rfl rfl rfl rfl rfl rfl rfl ?_ | fail))
    refine Tri.dz [.loc 4] [(0, 0), (1, 0), (2, 1), (3, 0), (4, 0), (5, 0), (6, 0), (7, 0), (8, 0), (9, 1), (10, 2), (11, 0), (12, 0), (13, 0), (14, 1), (15, 0), (16, 2), (17, 0), (18, 0), (19, 0)] (by kernel_rfl) rfl ?_
    (repeat' (first | refine TS.v1 rfl (fun _ _ h => h) rfl rfl rfl rfl rfl True.intro ?_ | refine TS.t1 rfl (fun _ _ h => h) rfl rfl rfl rfl rfl True.intro ?_ | refine TS.nil ?_ | refine TS.n0 rfl (fun _ _ h => h) rfl rfl rfl ?_ | refine TS.n1 rfl (fun _ _ h => h) rfl rfl rfl ?_ | refine TS.n2 rfl rfl rfl rfl ?_ | refine TS.w1 rfl rfl rfl rfl rfl rfl rfl rfl rfl rfl rfl rfl ?_ | fail))
    refine TS.v1 rfl (fun _ _ h => h) rfl rfl rfl rfl rfl (by first | exact True.intro | exact inR_i64 (by omega) (by omega) | omega | (refine ⟨?_, ?_⟩ <;> omega)) ?_
    refine TS.v1 rfl (fun _ _ h => h) rfl rfl rfl rfl rfl (by first | exact True.intro | exact inR_i64 (by omega) (by omega) | omega | (refine ⟨?_, ?_⟩ <;> omega)) ?_
    (repeat' (first | refine TS.v1 rfl (fun _ _ h => h) rfl rfl rfl rfl rfl True.intro ?_ | refine TS.t1 rfl (fun _ _ h => h) rfl rfl rfl rfl rfl True.intro ?_ | refine TS.nil ?_ | refine TS.n0 rfl (fun _ _ h => h) rfl rfl rfl ?_ | refine TS.n1 rfl (fun _ _ h => h) rfl rfl rfl ?_ | refine TS.n2 rfl rfl rfl rfl ?_ | refine TS.w1 rfl rfl rfl rfl rfl rfl rfl rfl rfl rfl rfl rfl ?_ | fail))
    refine TS.v1 rfl (fun _ _ h => h) rfl rfl rfl rfl rfl (by first | exact True.intro | exact inR_i64 (by omega) (by omega) | omega | (refine ⟨?_, ?_⟩ <;> omega)) ?_
    (repeat' (first | refine TS.v1 rfl (fun _ _ h => h) rfl rfl rfl rfl rfl True.intro ?_ | refine TS.t1 rfl (fun _ _ h => h) rfl rfl rfl rfl rfl True.intro ?_ | refine TS.nil ?_ | refine TS.n0 rfl (fun _ _ h => h) rfl rfl rfl ?_ | refine TS.n1 rfl (fun _ _ h => h) rfl rfl rfl ?_ | refine TS.n2 rfl rfl rfl rfl ?_ | refine TS.w1 rfl rfl rfl rfl rfl rfl rfl rfl rfl rfl rfl rfl ?_ | fail))
    refine TS.c1 rfl rfl rfl rfl rfl rfl rfl (l1In_fn _ _ _) rfl ?_
    (repeat' (first | refine TS.v1 rfl (fun _ _ h => h) rfl rfl rfl rfl rfl True.intro ?_ | refine TS.t1 rfl (fun _ _ h => h) rfl rfl rfl rfl rfl True.intro ?_ | refine TS.nil ?_ | refine TS.n0 rfl (fun _ _ h => h) rfl rfl rfl ?_ | refine TS.n1 rfl (fun _ _ h => h) rfl rfl rfl ?_ | refine TS.n2 rfl rfl rfl rfl ?_ | refine TS.w1 rfl rfl rfl rfl rfl rfl rfl rfl rfl rfl rfl rfl ?_ | fail))
    refine TS.g1 rfl rfl rfl rfl (fun hg => ?_) (fun hg => ?_)
    · have hg : inB 0 w x = true := hg
      simp only [edgeOk, edgeK, cond_true, hg, Bool.true_and]
      (repeat' (first | refine TS.v1 rfl (fun _ _ h => h) rfl rfl rfl rfl rfl True.intro ?_ | refine TS.t1 rfl (fun _ _ h => h) rfl rfl rfl rfl rfl True.intro ?_ | refine TS.nil ?_ | refine TS.n0 rfl (fun _ _ h => h) rfl rfl rfl ?_ | refine TS.n1 rfl (fun _ _ h => h) rfl rfl rfl ?_ | refine TS.n2 rfl rfl rfl rfl ?_ | refine TS.w1 rfl rfl rfl rfl rfl rfl rfl rfl rfl rfl rfl rfl ?_ | fail))
      refine TS.v1 rfl (fun _ _ h => h) rfl rfl rfl rfl rfl (by first | exact True.intro | exact inR_i64 (by omega) (by omega) | omega | (refine ⟨?_, ?_⟩ <;> omega)) ?_
      refine TS.c1 rfl rfl rfl rfl rfl rfl rfl (l1In_fn _ _ _) rfl ?_
      (repeat' (first | refine TS.v1 rfl (fun _ _ h => h) rfl rfl rfl rfl rfl True.intro ?_ | refine TS.t1 rfl (fun _ _ h => h) rfl rfl rfl rfl rfl True.intro ?_ | refine TS.nil ?_ | refine TS.n0 rfl (fun _ _ h => h) rfl rfl rfl ?_ | refine TS.n1 rfl (fun _ _ h => h) rfl rfl rfl ?_ | refine TS.n2 rfl rfl rfl rfl ?_ | refine TS.w1 rfl rfl rfl rfl rfl rfl rfl rfl rfl rfl rfl rfl ?_ | fail))
      refine Tri.ret (retV rfl rfl)
    · have hg : inB 0 w x = false := hg
      simp only [edgeOk, edgeK, cond_true, hg, Bool.false_and]
      (repeat' (first | refine TS.v1 rfl (fun _ _ h => h) rfl rfl rfl rfl rfl True.intro ?_ | refine TS.t1 rfl (fun _ _ h => h) rfl rfl rfl rfl rfl True.intro ?_ | refine TS.nil ?_ | refine TS.n0 rfl (fun _ _ h => h) rfl rfl rfl ?_ | refine TS.n1 rfl (fun _ _ h => h) rfl rfl rfl ?_ | refine TS.n2 rfl rfl rfl rfl ?_ | refine TS.w1 rfl rfl rfl rfl rfl rfl rfl rfl rfl rfl rfl rfl ?_ | fail))
      refine Tri.ret (retV rfl rfl)
  · subst hc
    (repeat' (first | refine TriOps.v1 rfl rfl rfl rfl True.intro ?_ | refine TriOps.nil ?_ | refine Tri.region ?_ | refine Tri.seq ?_ | refine Tri.block ?_ | refine Tri.skip ?_ | refine Tri.exit ?_ | refine TriOps.s1 rfl rfl rfl ?_ | refine TriOps.b1 rfl rfl rfl rfl rfl rfl ?_ | refine TriOps.a1 rfl rfl rfl rfl rfl rfl rfl ?_ | refine TriOps.w1 rfl rfl rfl rfl rfl rfl rfl rfl rfl ?_ | fail))
    refine Tri.dz [.loc 4] [(0, 0), (1, 0), (2, 1), (3, 0), (4, 0), (5, 0), (6, 0), (7, 0), (8, 1), (9, 0), (10, 2), (11, 0), (12, 0), (13, 0), (14, 1), (15, 2), (16, 0), (17, 0), (18, 0)] (by kernel_rfl) rfl ?_
    (repeat' (first | refine TS.v1 rfl (fun _ _ h => h) rfl rfl rfl rfl rfl True.intro ?_ | refine TS.t1 rfl (fun _ _ h => h) rfl rfl rfl rfl rfl True.intro ?_ | refine TS.nil ?_ | refine TS.n0 rfl (fun _ _ h => h) rfl rfl rfl ?_ | refine TS.n1 rfl (fun _ _ h => h) rfl rfl rfl ?_ | refine TS.n2 rfl rfl rfl rfl ?_ | refine TS.w1 rfl rfl rfl rfl rfl rfl rfl rfl rfl rfl rfl rfl ?_ | fail))
    refine TS.v1 rfl (fun _ _ h => h) rfl rfl rfl rfl rfl (by first | exact True.intro | exact inR_i64 (by omega) (by omega) | omega | (refine ⟨?_, ?_⟩ <;> omega)) ?_
    (repeat' (first | refine TS.v1 rfl (fun _ _ h => h) rfl rfl rfl rfl rfl True.intro ?_ | refine TS.t1 rfl (fun _ _ h => h) rfl rfl rfl rfl rfl True.intro ?_ | refine TS.nil ?_ | refine TS.n0 rfl (fun _ _ h => h) rfl rfl rfl ?_ | refine TS.n1 rfl (fun _ _ h => h) rfl rfl rfl ?_ | refine TS.n2 rfl rfl rfl rfl ?_ | refine TS.w1 rfl rfl rfl rfl rfl rfl rfl rfl rfl rfl rfl rfl ?_ | fail))
    refine TS.v1 rfl (fun _ _ h => h) rfl rfl rfl rfl rfl (by first | exact True.intro | exact inR_i64 (by omega) (by omega) | omega | (refine ⟨?_, ?_⟩ <;> omega)) ?_
    (repeat' (first | refine TS.v1 rfl (fun _ _ h => h) rfl rfl rfl rfl rfl True.intro ?_ | refine TS.t1 rfl (fun _ _ h => h) rfl rfl rfl rfl rfl True.intro ?_ | refine TS.nil ?_ | refine TS.n0 rfl (fun _ _ h => h) rfl rfl rfl ?_ | refine TS.n1 rfl (fun _ _ h => h) rfl rfl rfl ?_ | refine TS.n2 rfl rfl rfl rfl ?_ | refine TS.w1 rfl rfl rfl rfl rfl rfl rfl rfl rfl rfl rfl rfl ?_ | fail))
    refine TS.v1 rfl (fun _ _ h => h) rfl rfl rfl rfl rfl (by first | exact True.intro | exact inR_i64 (by omega) (by omega) | omega | (refine ⟨?_, ?_⟩ <;> omega)) ?_
    refine TS.c1 rfl rfl rfl rfl rfl rfl rfl (l1In_fn _ _ _) rfl ?_
    (repeat' (first | refine TS.v1 rfl (fun _ _ h => h) rfl rfl rfl rfl rfl True.intro ?_ | refine TS.t1 rfl (fun _ _ h => h) rfl rfl rfl rfl rfl True.intro ?_ | refine TS.nil ?_ | refine TS.n0 rfl (fun _ _ h => h) rfl rfl rfl ?_ | refine TS.n1 rfl (fun _ _ h => h) rfl rfl rfl ?_ | refine TS.n2 rfl rfl rfl rfl ?_ | refine TS.w1 rfl rfl rfl rfl rfl rfl rfl rfl rfl rfl rfl rfl ?_ | fail))
    refine TS.g1 rfl rfl rfl rfl (fun hg => ?_) (fun hg => ?_)
    · have hg : inB 0 (w - 1) x = true := hg
      simp only [edgeOk, edgeK, cond_false, hg, Bool.true_and]
      (repeat' (first | refine TS.v1 rfl (fun _ _ h => h) rfl rfl rfl rfl rfl True.intro ?_ | refine TS.t1 rfl (fun _ _ h => h) rfl rfl rfl rfl rfl True.intro ?_ | refine TS.nil ?_ | refine TS.n0 rfl (fun _ _ h => h) rfl rfl rfl ?_ | refine TS.n1 rfl (fun _ _ h => h) rfl rfl rfl ?_ | refine TS.n2 rfl rfl rfl rfl ?_ | refine TS.w1 rfl rfl rfl rfl rfl rfl rfl rfl rfl rfl rfl rfl ?_ | fail))
      refine TS.c1 rfl rfl rfl rfl rfl rfl rfl (l1In_fn _ _ _) rfl ?_
      (repeat' (first | refine TS.v1 rfl (fun _ _ h => h) rfl rfl rfl rfl rfl True.intro ?_ | refine TS.t1 rfl (fun _ _ h => h) rfl rfl rfl rfl rfl True.intro ?_ | refine TS.nil ?_ | refine TS.n0 rfl (fun _ _ h => h) rfl rfl rfl ?_ | refine TS.n1 rfl (fun _ _ h => h) rfl rfl rfl ?_ | refine TS.n2 rfl rfl rfl rfl ?_ | refine TS.w1 rfl rfl rfl rfl rfl rfl rfl rfl rfl rfl rfl rfl ?_ | fail))
      refine Tri.ret (retV rfl rfl)
    · have hg : inB 0 (w - 1) x = false := hg
      simp only [edgeOk, edgeK, cond_false, hg, Bool.false_and]
      (repeat' (first | refine TS.v1 rfl (fun _ _ h => h) rfl rfl rfl rfl rfl True.intro ?_ | refine TS.t1 rfl (fun _ _ h => h) rfl rfl rfl rfl rfl True.intro ?_ | refine TS.nil ?_ | refine TS.n0 rfl (fun _ _ h => h) rfl rfl rfl ?_ | refine TS.n1 rfl (fun _ _ h => h) rfl rfl rfl ?_ | refine TS.n2 rfl rfl rfl rfl ?_ | refine TS.w1 rfl rfl rfl rfl rfl rfl rfl rfl rfl rfl rfl rfl ?_ | fail))
      refine Tri.ret (retV rfl rfl)
def hasM (w : Int) (a u : List Int) (up : Bool) (x y : Int) : Bool := hasI (bif up then u else a) (edgeK w up x y)
theorem fiHas_fn (w h : Int) (a u : List Int) (up : Bool) (x y : Int) (bw : 1 ≤ w ∧ w ≤ 4) (bh : 1 ≤ h ∧ h ≤ 4) (bx : -1000 ≤ x ∧ x ≤ 1000) (by' : -1000 ≤ y ∧ y ≤ 1000) :
    FnV env 107 [fig w h a u, .d (.bool up), .d (.int .i64 x), .d (.int .i64 y)] (.d (.bool (hasM w a u up x y))) := by
  refine Fn.vs (E := env) 28 Tryd.func107 rfl (by kernel_rfl) rfl rfl ?_
  (repeat' (first | refine TriOps.v1 rfl rfl rfl rfl True.intro ?_ | refine TriOps.nil ?_ | refine Tri.region ?_ | refine Tri.seq ?_ | refine Tri.block ?_ | refine Tri.skip ?_ | refine Tri.exit ?_ | refine TriOps.s1 rfl rfl rfl ?_ | refine TriOps.b1 rfl rfl rfl rfl rfl rfl ?_ | refine TriOps.a1 rfl rfl rfl rfl rfl rfl rfl ?_ | refine TriOps.w1 rfl rfl rfl rfl rfl rfl rfl rfl rfl ?_ | fail))
  refine TriOps.c1 rfl rfl rfl rfl rfl (fiEdge_fn w h a u up x y bw bh bx by') rfl ?_
  (repeat' (first | refine TriOps.v1 rfl rfl rfl rfl True.intro ?_ | refine TriOps.nil ?_ | refine Tri.region ?_ | refine Tri.seq ?_ | refine Tri.block ?_ | refine Tri.skip ?_ | refine Tri.exit ?_ | refine TriOps.s1 rfl rfl rfl ?_ | refine TriOps.b1 rfl rfl rfl rfl rfl rfl ?_ | refine TriOps.a1 rfl rfl rfl rfl rfl rfl rfl ?_ | refine TriOps.w1 rfl rfl rfl rfl rfl rfl rfl rfl rfl ?_ | fail))
  refine Tri.cond rfl (fun hc => ?_) (fun hc => ?_)
  · subst hc
    (repeat' (first | refine TriOps.v1 rfl rfl rfl rfl True.intro ?_ | refine TriOps.nil ?_ | refine Tri.region ?_ | refine Tri.seq ?_ | refine Tri.block ?_ | refine Tri.skip ?_ | refine Tri.exit ?_ | refine TriOps.s1 rfl rfl rfl ?_ | refine TriOps.b1 rfl rfl rfl rfl rfl rfl ?_ | refine TriOps.a1 rfl rfl rfl rfl rfl rfl rfl ?_ | refine TriOps.w1 rfl rfl rfl rfl rfl rfl rfl rfl rfl ?_ | fail))
    refine TriOps.c1 rfl rfl rfl rfl rfl (l1Has_fn _ _) rfl ?_
    (repeat' (first | refine TriOps.v1 rfl rfl rfl rfl True.intro ?_ | refine TriOps.nil ?_ | refine Tri.region ?_ | refine Tri.seq ?_ | refine Tri.block ?_ | refine Tri.skip ?_ | refine Tri.exit ?_ | refine TriOps.s1 rfl rfl rfl ?_ | refine TriOps.b1 rfl rfl rfl rfl rfl rfl ?_ | refine TriOps.a1 rfl rfl rfl rfl rfl rfl rfl ?_ | refine TriOps.w1 rfl rfl rfl rfl rfl rfl rfl rfl rfl ?_ | fail))
    refine Tri.ret (retV rfl rfl)
  · subst hc
    (repeat' (first | refine TriOps.v1 rfl rfl rfl rfl True.intro ?_ | refine TriOps.nil ?_ | refine Tri.region ?_ | refine Tri.seq ?_ | refine Tri.block ?_ | refine Tri.skip ?_ | refine Tri.exit ?_ | refine TriOps.s1 rfl rfl rfl ?_ | refine TriOps.b1 rfl rfl rfl rfl rfl rfl ?_ | refine TriOps.a1 rfl rfl rfl rfl rfl rfl rfl ?_ | refine TriOps.w1 rfl rfl rfl rfl rfl rfl rfl rfl rfl ?_ | fail))
    refine TriOps.c1 rfl rfl rfl rfl rfl (l1Has_fn _ _) rfl ?_
    (repeat' (first | refine TriOps.v1 rfl rfl rfl rfl True.intro ?_ | refine TriOps.nil ?_ | refine Tri.region ?_ | refine Tri.seq ?_ | refine Tri.block ?_ | refine Tri.skip ?_ | refine Tri.exit ?_ | refine TriOps.s1 rfl rfl rfl ?_ | refine TriOps.b1 rfl rfl rfl rfl rfl rfl ?_ | refine TriOps.a1 rfl rfl rfl rfl rfl rfl rfl ?_ | refine TriOps.w1 rfl rfl rfl rfl rfl rfl rfl rfl rfl ?_ | fail))
    refine Tri.ret (retV rfl rfl)
theorem fiOwn_own (w h : Int) (a u : List Int) (ha : a.length ≤ 1000000) (hu : u.length ≤ 1000000) : FnO env 81 [fig w h a u] (figO w h) (figA a u) := by
  refine Fn.os (E := env) 12 Tryd.func81 rfl (by kernel_rfl) rfl rfl ?_
  (repeat' (first | refine TriOps.v1 rfl rfl rfl rfl True.intro ?_ | refine TriOps.nil ?_ | refine Tri.region ?_ | refine Tri.seq ?_ | refine Tri.block ?_ | refine Tri.skip ?_ | refine Tri.exit ?_ | refine TriOps.s1 rfl rfl rfl ?_ | refine TriOps.b1 rfl rfl rfl rfl rfl rfl ?_ | refine TriOps.a1 rfl rfl rfl rfl rfl rfl rfl ?_ | refine TriOps.w1 rfl rfl rfl rfl rfl rfl rfl rfl rfl ?_ | fail))
  refine TriOps.o1 rfl rfl rfl rfl rfl (l1Own_own _ ha) rfl rfl rfl ?_
  (repeat' (first | refine TriOps.v1 rfl rfl rfl rfl True.intro ?_ | refine TriOps.nil ?_ | refine Tri.region ?_ | refine Tri.seq ?_ | refine Tri.block ?_ | refine Tri.skip ?_ | refine Tri.exit ?_ | refine TriOps.s1 rfl rfl rfl ?_ | refine TriOps.b1 rfl rfl rfl rfl rfl rfl ?_ | refine TriOps.a1 rfl rfl rfl rfl rfl rfl rfl ?_ | refine TriOps.w1 rfl rfl rfl rfl rfl rfl rfl rfl rfl ?_ | fail))
  refine TriOps.o1 rfl rfl rfl rfl rfl (l1Own_own _ hu) rfl rfl rfl ?_
  (repeat' (first | refine TriOps.v1 rfl rfl rfl rfl True.intro ?_ | refine TriOps.nil ?_ | refine Tri.region ?_ | refine Tri.seq ?_ | refine Tri.block ?_ | refine Tri.skip ?_ | refine Tri.exit ?_ | refine TriOps.s1 rfl rfl rfl ?_ | refine TriOps.b1 rfl rfl rfl rfl rfl rfl ?_ | refine TriOps.a1 rfl rfl rfl rfl rfl rfl rfl ?_ | refine TriOps.w1 rfl rfl rfl rfl rfl rfl rfl rfl rfl ?_ | fail))
  refine Tri.ret (retO [(.ret 0, some (.tmp 5 0)), (.ret 1, some (.tmp 9 0))] 12 [(2, .ptr (.loc 2) 0)] [(.loc 2, ⟨26, [.d (.int .i64 w), .d (.int .i64 h), .own (.ret 0), .own (.ret 1)]⟩)] rfl ⟨rfl, trivial⟩ ⟨rfl, trivial⟩ ⟨rfl, rfl, trivial⟩ rfl rfl (AV.Le.refl _) ⟨rfl, rfl, trivial⟩)
def putA (w : Int) (a u : List Int) (up : Bool) (x y : Int) : List Int := bif hasM w a u up x y then a else bif up then a else putL a (edgeK w up x y)
def putU (w : Int) (a u : List Int) (up : Bool) (x y : Int) : List Int := bif hasM w a u up x y then u else bif up then putL u (edgeK w up x y) else u
theorem fiPut_own (w h : Int) (a u : List Int) (up : Bool) (x y : Int) (bw : 1 ≤ w ∧ w ≤ 4) (bh : 1 ≤ h ∧ h ≤ 4) (bx : -1000 ≤ x ∧ x ≤ 1000) (by' : -1000 ≤ y ∧ y ≤ 1000) (ha : a.length ≤ 1000000) (hu : u.length ≤ 1000000) :
    FnO env 108 [fig w h a u, .d (.bool up), .d (.int .i64 x), .d (.int .i64 y)] (figO w h) (figA (putA w a u up x y) (putU w a u up x y)) := by
  refine Fn.os (E := env) 41 Tryd.func108 rfl (by kernel_rfl) rfl rfl ?_
  (repeat' (first | refine TriOps.v1 rfl rfl rfl rfl True.intro ?_ | refine TriOps.nil ?_ | refine Tri.region ?_ | refine Tri.seq ?_ | refine Tri.block ?_ | refine Tri.skip ?_ | refine Tri.exit ?_ | refine TriOps.s1 rfl rfl rfl ?_ | refine TriOps.b1 rfl rfl rfl rfl rfl rfl ?_ | refine TriOps.a1 rfl rfl rfl rfl rfl rfl rfl ?_ | refine TriOps.w1 rfl rfl rfl rfl rfl rfl rfl rfl rfl ?_ | fail))
  refine TriOps.o1 rfl rfl rfl rfl rfl (fiOwn_own _ _ _ _ ha hu) rfl rfl rfl ?_
  (repeat' (first | refine TriOps.v1 rfl rfl rfl rfl True.intro ?_ | refine TriOps.nil ?_ | refine Tri.region ?_ | refine Tri.seq ?_ | refine Tri.block ?_ | refine Tri.skip ?_ | refine Tri.exit ?_ | refine TriOps.s1 rfl rfl rfl ?_ | refine TriOps.b1 rfl rfl rfl rfl rfl rfl ?_ | refine TriOps.a1 rfl rfl rfl rfl rfl rfl rfl ?_ | refine TriOps.w1 rfl rfl rfl rfl rfl rfl rfl rfl rfl ?_ | fail))
  refine TriOps.c1 rfl rfl rfl rfl rfl (fiEdge_fn w h a u up x y bw bh bx by') rfl ?_
  (repeat' (first | refine TriOps.v1 rfl rfl rfl rfl True.intro ?_ | refine TriOps.nil ?_ | refine Tri.region ?_ | refine Tri.seq ?_ | refine Tri.block ?_ | refine Tri.skip ?_ | refine Tri.exit ?_ | refine TriOps.s1 rfl rfl rfl ?_ | refine TriOps.b1 rfl rfl rfl rfl rfl rfl ?_ | refine TriOps.a1 rfl rfl rfl rfl rfl rfl rfl ?_ | refine TriOps.w1 rfl rfl rfl rfl rfl rfl rfl rfl rfl ?_ | fail))
  refine TriOps.c1 rfl rfl rfl rfl rfl (fiHas_fn w h a u up x y bw bh bx by') rfl ?_
  (repeat' (first | refine TriOps.v1 rfl rfl rfl rfl True.intro ?_ | refine TriOps.nil ?_ | refine Tri.region ?_ | refine Tri.seq ?_ | refine Tri.block ?_ | refine Tri.skip ?_ | refine Tri.exit ?_ | refine TriOps.s1 rfl rfl rfl ?_ | refine TriOps.b1 rfl rfl rfl rfl rfl rfl ?_ | refine TriOps.a1 rfl rfl rfl rfl rfl rfl rfl ?_ | refine TriOps.w1 rfl rfl rfl rfl rfl rfl rfl rfl rfl ?_ | fail))
  refine Tri.cond rfl (fun hc => ?_) (fun hc => ?_)
  · (repeat' (first | refine TriOps.v1 rfl rfl rfl rfl True.intro ?_ | refine TriOps.nil ?_ | refine Tri.region ?_ | refine Tri.seq ?_ | refine Tri.block ?_ | refine Tri.skip ?_ | refine Tri.exit ?_ | refine TriOps.s1 rfl rfl rfl ?_ | refine TriOps.b1 rfl rfl rfl rfl rfl rfl ?_ | refine TriOps.a1 rfl rfl rfl rfl rfl rfl rfl ?_ | refine TriOps.w1 rfl rfl rfl rfl rfl rfl rfl rfl rfl ?_ | fail))
    rw [putA, putU, hc]
    refine Tri.ret (retO [(.ret 0, some (.tmp 13 0)), (.ret 1, some (.tmp 13 1))] 41 [(8, .ptr (.loc 8) 0)] [(.loc 8, ⟨26, [.d (.int .i64 w), .d (.int .i64 h), .own (.ret 0), .own (.ret 1)]⟩)] rfl ⟨rfl, trivial⟩ ⟨rfl, trivial⟩ ⟨rfl, rfl, trivial⟩ rfl rfl (AV.Le.refl _) ⟨rfl, rfl, trivial⟩)
  · (repeat' (first | refine TriOps.v1 rfl rfl rfl rfl True.intro ?_ | refine TriOps.nil ?_ | refine Tri.region ?_ | refine Tri.seq ?_ | refine Tri.block ?_ | refine Tri.skip ?_ | refine Tri.exit ?_ | refine TriOps.s1 rfl rfl rfl ?_ | refine TriOps.b1 rfl rfl rfl rfl rfl rfl ?_ | refine TriOps.a1 rfl rfl rfl rfl rfl rfl rfl ?_ | refine TriOps.w1 rfl rfl rfl rfl rfl rfl rfl rfl rfl ?_ | fail))
    refine Tri.cond rfl (fun hd => ?_) (fun hd => ?_)
    · subst hd
      rw [putA, putU, hc]
      (repeat' (first | refine TriOps.v1 rfl rfl rfl rfl True.intro ?_ | refine TriOps.nil ?_ | refine Tri.region ?_ | refine Tri.seq ?_ | refine Tri.block ?_ | refine Tri.skip ?_ | refine Tri.exit ?_ | refine TriOps.s1 rfl rfl rfl ?_ | refine TriOps.b1 rfl rfl rfl rfl rfl rfl ?_ | refine TriOps.a1 rfl rfl rfl rfl rfl rfl rfl ?_ | refine TriOps.w1 rfl rfl rfl rfl rfl rfl rfl rfl rfl ?_ | fail))
      refine TriOps.mv1 rfl rfl rfl rfl rfl rfl rfl (l1Put_mv u _ hu) rfl rfl rfl ?_
      (repeat' (first | refine TriOps.v1 rfl rfl rfl rfl True.intro ?_ | refine TriOps.nil ?_ | refine Tri.region ?_ | refine Tri.seq ?_ | refine Tri.block ?_ | refine Tri.skip ?_ | refine Tri.exit ?_ | refine TriOps.s1 rfl rfl rfl ?_ | refine TriOps.b1 rfl rfl rfl rfl rfl rfl ?_ | refine TriOps.a1 rfl rfl rfl rfl rfl rfl rfl ?_ | refine TriOps.w1 rfl rfl rfl rfl rfl rfl rfl rfl rfl ?_ | fail))
      refine Tri.ret (retO [(.ret 0, some (.tmp 13 0)), (.ret 1, some (.tmp 38 0))] 41 [(8, .ptr (.loc 8) 0)] [(.loc 8, ⟨26, [.d (.int .i64 w), .d (.int .i64 h), .own (.ret 0), .own (.ret 1)]⟩)] rfl ⟨rfl, trivial⟩ ⟨rfl, trivial⟩ ⟨rfl, rfl, trivial⟩ rfl rfl (AV.Le.refl _) ⟨rfl, rfl, trivial⟩)
    · subst hd
      rw [putA, putU, hc]
      (repeat' (first | refine TriOps.v1 rfl rfl rfl rfl True.intro ?_ | refine TriOps.nil ?_ | refine Tri.region ?_ | refine Tri.seq ?_ | refine Tri.block ?_ | refine Tri.skip ?_ | refine Tri.exit ?_ | refine TriOps.s1 rfl rfl rfl ?_ | refine TriOps.b1 rfl rfl rfl rfl rfl rfl ?_ | refine TriOps.a1 rfl rfl rfl rfl rfl rfl rfl ?_ | refine TriOps.w1 rfl rfl rfl rfl rfl rfl rfl rfl rfl ?_ | fail))
      refine TriOps.mv1 rfl rfl rfl rfl rfl rfl rfl (l1Put_mv a _ ha) rfl rfl rfl ?_
      (repeat' (first | refine TriOps.v1 rfl rfl rfl rfl True.intro ?_ | refine TriOps.nil ?_ | refine Tri.region ?_ | refine Tri.seq ?_ | refine Tri.block ?_ | refine Tri.skip ?_ | refine Tri.exit ?_ | refine TriOps.s1 rfl rfl rfl ?_ | refine TriOps.b1 rfl rfl rfl rfl rfl rfl ?_ | refine TriOps.a1 rfl rfl rfl rfl rfl rfl rfl ?_ | refine TriOps.w1 rfl rfl rfl rfl rfl rfl rfl rfl rfl ?_ | fail))
      refine Tri.ret (retO [(.ret 0, some (.tmp 25 0)), (.ret 1, some (.tmp 13 1))] 41 [(8, .ptr (.loc 8) 0)] [(.loc 8, ⟨26, [.d (.int .i64 w), .d (.int .i64 h), .own (.ret 0), .own (.ret 1)]⟩)] rfl ⟨rfl, trivial⟩ ⟨rfl, trivial⟩ ⟨rfl, rfl, trivial⟩ rfl rfl (AV.Le.refl _) ⟨rfl, rfl, trivial⟩)
end Go.Proofs.YthmbdoegcpicbaaDoor.Abs

/-! ## C19 -/
namespace Go.Proofs.YthmbdoegcpicbaaDoor.Abs
open Go.Proofs
theorem putL_len (l : List Int) (n : Int) : (putL l n).length ≤ l.length + 1 := by
  have h := putAt_le l n
  unfold putL
  cases decide (putAt l n < l.length) && decide (l.getD (putAt l n) 0 = n)
  · simp; omega
  · simp
theorem putA_len (w : Int) (a u : List Int) (up : Bool) (x y : Int) : (putA w a u up x y).length ≤ a.length + 1 := by
  have h := putL_len a (edgeK w up x y)
  unfold putA
  cases hasM w a u up x y <;> cases up <;> simp <;> omega
theorem putU_len (w : Int) (a u : List Int) (up : Bool) (x y : Int) : (putU w a u up x y).length ≤ u.length + 1 := by
  have h := putL_len u (edgeK w up x y)
  unfold putU
  cases hasM w a u up x y <;> cases up <;> simp <;> omega
def isCellB (w h : Int) (a u : List Int) (x y : Int) : Bool := (isFig w h a u && inB 0 (w - 1) x) && inB 0 (h - 1) y
theorem fiCell_fn (w h : Int) (a u : List Int) (x y : Int) : FnV env 140 [fig w h a u, .d (.int .i64 x), .d (.int .i64 y)] (.d (.bool (isCellB w h a u x y))) := by
  refine Fn.vs (E := env) 23 Tryd.func140 rfl (by kernel_rfl) rfl rfl ?_
  (repeat' (first | refine TriOps.v1 rfl rfl rfl rfl True.intro ?_ | refine TriOps.nil ?_ | refine Tri.region ?_ | refine Tri.seq ?_ | refine Tri.block ?_ | refine Tri.skip ?_ | refine Tri.exit ?_ | refine TriOps.s1 rfl rfl rfl ?_ | refine TriOps.b1 rfl rfl rfl rfl rfl rfl ?_ | refine TriOps.a1 rfl rfl rfl rfl rfl rfl rfl ?_ | refine TriOps.w1 rfl rfl rfl rfl rfl rfl rfl rfl rfl ?_ | fail))
  refine TriOps.c1 rfl rfl rfl rfl rfl (fiGood_fn _ _ _ _) rfl ?_
  (repeat' (first | refine TriOps.v1 rfl rfl rfl rfl True.intro ?_ | refine TriOps.nil ?_ | refine Tri.region ?_ | refine Tri.seq ?_ | refine Tri.block ?_ | refine Tri.skip ?_ | refine Tri.exit ?_ | refine TriOps.s1 rfl rfl rfl ?_ | refine TriOps.b1 rfl rfl rfl rfl rfl rfl ?_ | refine TriOps.a1 rfl rfl rfl rfl rfl rfl rfl ?_ | refine TriOps.w1 rfl rfl rfl rfl rfl rfl rfl rfl rfl ?_ | fail))
  refine TriOps.g1 rfl rfl rfl (fun hg => ?_) (fun hg => ?_)
  · have hg : isFig w h a u = true := hg
    rw [isCellB, hg]
    have f1 := isF_of hg
    have bw := f1.bw
    have bh := f1.bh
    (repeat' (first | refine TriOps.v1 rfl rfl rfl rfl True.intro ?_ | refine TriOps.nil ?_ | refine Tri.region ?_ | refine Tri.seq ?_ | refine Tri.block ?_ | refine Tri.skip ?_ | refine Tri.exit ?_ | refine TriOps.s1 rfl rfl rfl ?_ | refine TriOps.b1 rfl rfl rfl rfl rfl rfl ?_ | refine TriOps.a1 rfl rfl rfl rfl rfl rfl rfl ?_ | refine TriOps.w1 rfl rfl rfl rfl rfl rfl rfl rfl rfl ?_ | fail))
    refine TriOps.v1 rfl rfl rfl rfl (by first | exact True.intro | exact inR_i64 (by omega) (by omega) | omega | (refine ⟨?_, ?_⟩ <;> omega)) ?_
    refine TriOps.c1 rfl rfl rfl rfl rfl (l1In_fn _ _ _) rfl ?_
    (repeat' (first | refine TriOps.v1 rfl rfl rfl rfl True.intro ?_ | refine TriOps.nil ?_ | refine Tri.region ?_ | refine Tri.seq ?_ | refine Tri.block ?_ | refine Tri.skip ?_ | refine Tri.exit ?_ | refine TriOps.s1 rfl rfl rfl ?_ | refine TriOps.b1 rfl rfl rfl rfl rfl rfl ?_ | refine TriOps.a1 rfl rfl rfl rfl rfl rfl rfl ?_ | refine TriOps.w1 rfl rfl rfl rfl rfl rfl rfl rfl rfl ?_ | fail))
    refine TriOps.g1 rfl rfl rfl (fun hg => ?_) (fun hg => ?_)
    · have hg : inB 0 (w - 1) x = true := hg
      rw [hg]
      (repeat' (first | refine TriOps.v1 rfl rfl rfl rfl True.intro ?_ | refine TriOps.nil ?_ | refine Tri.region ?_ | refine Tri.seq ?_ | refine Tri.block ?_ | refine Tri.skip ?_ | refine Tri.exit ?_ | refine TriOps.s1 rfl rfl rfl ?_ | refine TriOps.b1 rfl rfl rfl rfl rfl rfl ?_ | refine TriOps.a1 rfl rfl rfl rfl rfl rfl rfl ?_ | refine TriOps.w1 rfl rfl rfl rfl rfl rfl rfl rfl rfl ?_ | fail))
      refine TriOps.v1 rfl rfl rfl rfl (by first | exact True.intro | exact inR_i64 (by omega) (by omega) | omega | (refine ⟨?_, ?_⟩ <;> omega)) ?_
      refine TriOps.c1 rfl rfl rfl rfl rfl (l1In_fn _ _ _) rfl ?_
      (repeat' (first | refine TriOps.v1 rfl rfl rfl rfl True.intro ?_ | refine TriOps.nil ?_ | refine Tri.region ?_ | refine Tri.seq ?_ | refine Tri.block ?_ | refine Tri.skip ?_ | refine Tri.exit ?_ | refine TriOps.s1 rfl rfl rfl ?_ | refine TriOps.b1 rfl rfl rfl rfl rfl rfl ?_ | refine TriOps.a1 rfl rfl rfl rfl rfl rfl rfl ?_ | refine TriOps.w1 rfl rfl rfl rfl rfl rfl rfl rfl rfl ?_ | fail))
      refine Tri.ret (retV rfl rfl)
    · have hg : inB 0 (w - 1) x = false := hg
      rw [hg]
      (repeat' (first | refine TriOps.v1 rfl rfl rfl rfl True.intro ?_ | refine TriOps.nil ?_ | refine Tri.region ?_ | refine Tri.seq ?_ | refine Tri.block ?_ | refine Tri.skip ?_ | refine Tri.exit ?_ | refine TriOps.s1 rfl rfl rfl ?_ | refine TriOps.b1 rfl rfl rfl rfl rfl rfl ?_ | refine TriOps.a1 rfl rfl rfl rfl rfl rfl rfl ?_ | refine TriOps.w1 rfl rfl rfl rfl rfl rfl rfl rfl rfl ?_ | fail))
      refine Tri.ret (retV rfl rfl)
  · have hg : isFig w h a u = false := hg
    rw [isCellB, hg]
    (repeat' (first | refine TriOps.v1 rfl rfl rfl rfl True.intro ?_ | refine TriOps.nil ?_ | refine Tri.region ?_ | refine Tri.seq ?_ | refine Tri.block ?_ | refine Tri.skip ?_ | refine Tri.exit ?_ | refine TriOps.s1 rfl rfl rfl ?_ | refine TriOps.b1 rfl rfl rfl rfl rfl rfl ?_ | refine TriOps.a1 rfl rfl rfl rfl rfl rfl rfl ?_ | refine TriOps.w1 rfl rfl rfl rfl rfl rfl rfl rfl rfl ?_ | fail))
    refine Tri.ret (retV rfl rfl)
theorem inB_iff {lo hi n : Int} (h : inB lo hi n = true) : lo ≤ n ∧ n ≤ hi := by
  simpa only [inB, Bool.and_eq_true, decide_eq_true_eq] using h
/-- A cell is added: the figure is told loosely. -/
theorem addCell_x (w h : Int) (a u : List Int) (x y : Int) : FnX env 123 [fig w h a u, .d (.int .i64 x), .d (.int .i64 y)] (fun r ral => ∃ w' h' a' u' b, r = .tuple [figO w' h', .d (.bool b)] ∧ ral = figA a' u' ∧ a'.length ≤ 50 ∧ u'.length ≤ 50) := by
  refine Fn.s (E := env) 31 [] [] Tryd.func123 rfl (by kernel_rfl) rfl rfl ?_
  (repeat' (first | refine TriOps.v1 rfl rfl rfl rfl True.intro ?_ | refine TriOps.nil ?_ | refine Tri.region ?_ | refine Tri.seq ?_ | refine Tri.block ?_ | refine Tri.skip ?_ | refine Tri.exit ?_ | refine TriOps.s1 rfl rfl rfl ?_ | refine TriOps.b1 rfl rfl rfl rfl rfl rfl ?_ | refine TriOps.a1 rfl rfl rfl rfl rfl rfl rfl ?_ | refine TriOps.w1 rfl rfl rfl rfl rfl rfl rfl rfl rfl ?_ | fail))
  refine TriOps.c1 rfl rfl rfl rfl rfl (fiCell_fn _ _ _ _ _ _) rfl ?_
  (repeat' (first | refine TriOps.v1 rfl rfl rfl rfl True.intro ?_ | refine TriOps.nil ?_ | refine Tri.region ?_ | refine Tri.seq ?_ | refine Tri.block ?_ | refine Tri.skip ?_ | refine Tri.exit ?_ | refine TriOps.s1 rfl rfl rfl ?_ | refine TriOps.b1 rfl rfl rfl rfl rfl rfl ?_ | refine TriOps.a1 rfl rfl rfl rfl rfl rfl rfl ?_ | refine TriOps.w1 rfl rfl rfl rfl rfl rfl rfl rfl rfl ?_ | fail))
  refine Tri.cond rfl (fun hc => ?_) (fun hc => ?_)
  · (repeat' (first | refine TriOps.v1 rfl rfl rfl rfl True.intro ?_ | refine TriOps.nil ?_ | refine Tri.region ?_ | refine Tri.seq ?_ | refine Tri.block ?_ | refine Tri.skip ?_ | refine Tri.exit ?_ | refine TriOps.s1 rfl rfl rfl ?_ | refine TriOps.b1 rfl rfl rfl rfl rfl rfl ?_ | refine TriOps.a1 rfl rfl rfl rfl rfl rfl rfl ?_ | refine TriOps.w1 rfl rfl rfl rfl rfl rfl rfl rfl rfl ?_ | fail))
    refine Tri.ret (retX (r := .tuple [figO 0 0, .d (.bool false)]) (ral := figA [] []) [(.ret 0, none), (.ret 1, none)] 31 [(6, .ptr (.loc 6) 0), (7, .d (.bool false))] [(.loc 6, ⟨26, [.d (.int .i64 0), .d (.int .i64 0), .own (.ret 0), .own (.ret 1)]⟩)] rfl ⟨rfl, rfl, trivial⟩ ⟨rfl, trivial⟩ ⟨trivial, trivial, trivial⟩ rfl rfl (AV.Le.refl _) rfl ⟨rfl, rfl, trivial⟩ ⟨0, 0, [], [], false, rfl, rfl, by simp, by simp⟩)
  · have hc : isCellB w h a u x y = true := by simpa using hc
    simp only [isCellB, Bool.and_eq_true] at hc
    obtain ⟨⟨hf, hx⟩, hy⟩ := hc
    have f1 := isF_of hf
    have hl := f1.len
    have bw := f1.bw
    have bh := f1.bh
    have hx := inB_iff hx
    have hy := inB_iff hy
    have la1 := putA_len w a u false x y
    have lu1 := putU_len w a u false x y
    (repeat' (first | refine TriOps.v1 rfl rfl rfl rfl True.intro ?_ | refine TriOps.nil ?_ | refine Tri.region ?_ | refine Tri.seq ?_ | refine Tri.block ?_ | refine Tri.skip ?_ | refine Tri.exit ?_ | refine TriOps.s1 rfl rfl rfl ?_ | refine TriOps.b1 rfl rfl rfl rfl rfl rfl ?_ | refine TriOps.a1 rfl rfl rfl rfl rfl rfl rfl ?_ | refine TriOps.w1 rfl rfl rfl rfl rfl rfl rfl rfl rfl ?_ | fail))
    refine TriOps.o1 rfl rfl rfl rfl rfl (fiPut_own w h a u false x y bw bh (by omega) (by omega) (by omega) (by omega)) rfl rfl rfl ?_
    generalize putA w a u false x y = a1 at la1 ⊢
    generalize putU w a u false x y = u1 at lu1 ⊢
    have la2 := putA_len w a1 u1 false x (y + 1)
    have lu2 := putU_len w a1 u1 false x (y + 1)
    (repeat' (first | refine TriOps.v1 rfl rfl rfl rfl True.intro ?_ | refine TriOps.nil ?_ | refine Tri.region ?_ | refine Tri.seq ?_ | refine Tri.block ?_ | refine Tri.skip ?_ | refine Tri.exit ?_ | refine TriOps.s1 rfl rfl rfl ?_ | refine TriOps.b1 rfl rfl rfl rfl rfl rfl ?_ | refine TriOps.a1 rfl rfl rfl rfl rfl rfl rfl ?_ | refine TriOps.w1 rfl rfl rfl rfl rfl rfl rfl rfl rfl ?_ | fail))
    refine TriOps.v1 rfl rfl rfl rfl (by first | exact True.intro | exact inR_i64 (by omega) (by omega) | omega | (refine ⟨?_, ?_⟩ <;> omega)) ?_
    refine TriOps.o1 rfl rfl rfl rfl rfl (fiPut_own w h a1 u1 false x (y + 1) bw bh (by omega) (by omega) (by omega) (by omega)) rfl rfl rfl ?_
    generalize putA w a1 u1 false x (y + 1) = a2 at la2 ⊢
    generalize putU w a1 u1 false x (y + 1) = u2 at lu2 ⊢
    have la3 := putA_len w a2 u2 true x y
    have lu3 := putU_len w a2 u2 true x y
    (repeat' (first | refine TriOps.v1 rfl rfl rfl rfl True.intro ?_ | refine TriOps.nil ?_ | refine Tri.region ?_ | refine Tri.seq ?_ | refine Tri.block ?_ | refine Tri.skip ?_ | refine Tri.exit ?_ | refine TriOps.s1 rfl rfl rfl ?_ | refine TriOps.b1 rfl rfl rfl rfl rfl rfl ?_ | refine TriOps.a1 rfl rfl rfl rfl rfl rfl rfl ?_ | refine TriOps.w1 rfl rfl rfl rfl rfl rfl rfl rfl rfl ?_ | fail))
    refine TriOps.o1 rfl rfl rfl rfl rfl (fiPut_own w h a2 u2 true x y bw bh (by omega) (by omega) (by omega) (by omega)) rfl rfl rfl ?_
    generalize putA w a2 u2 true x y = a3 at la3 ⊢
    generalize putU w a2 u2 true x y = u3 at lu3 ⊢
    have la4 := putA_len w a3 u3 true (x + 1) y
    have lu4 := putU_len w a3 u3 true (x + 1) y
    (repeat' (first | refine TriOps.v1 rfl rfl rfl rfl True.intro ?_ | refine TriOps.nil ?_ | refine Tri.region ?_ | refine Tri.seq ?_ | refine Tri.block ?_ | refine Tri.skip ?_ | refine Tri.exit ?_ | refine TriOps.s1 rfl rfl rfl ?_ | refine TriOps.b1 rfl rfl rfl rfl rfl rfl ?_ | refine TriOps.a1 rfl rfl rfl rfl rfl rfl rfl ?_ | refine TriOps.w1 rfl rfl rfl rfl rfl rfl rfl rfl rfl ?_ | fail))
    refine TriOps.v1 rfl rfl rfl rfl (by first | exact True.intro | exact inR_i64 (by omega) (by omega) | omega | (refine ⟨?_, ?_⟩ <;> omega)) ?_
    (repeat' (first | refine TriOps.v1 rfl rfl rfl rfl True.intro ?_ | refine TriOps.nil ?_ | refine Tri.region ?_ | refine Tri.seq ?_ | refine Tri.block ?_ | refine Tri.skip ?_ | refine Tri.exit ?_ | refine TriOps.s1 rfl rfl rfl ?_ | refine TriOps.b1 rfl rfl rfl rfl rfl rfl ?_ | refine TriOps.a1 rfl rfl rfl rfl rfl rfl rfl ?_ | refine TriOps.w1 rfl rfl rfl rfl rfl rfl rfl rfl rfl ?_ | fail))
    refine TriOps.o1 rfl rfl rfl rfl rfl (fiPut_own w h a3 u3 true (x + 1) y bw bh (by omega) (by omega) (by omega) (by omega)) rfl rfl rfl ?_
    generalize putA w a3 u3 true (x + 1) y = a4 at la4 ⊢
    generalize putU w a3 u3 true (x + 1) y = u4 at lu4 ⊢
    (repeat' (first | refine TriOps.v1 rfl rfl rfl rfl True.intro ?_ | refine TriOps.nil ?_ | refine Tri.region ?_ | refine Tri.seq ?_ | refine Tri.block ?_ | refine Tri.skip ?_ | refine Tri.exit ?_ | refine TriOps.s1 rfl rfl rfl ?_ | refine TriOps.b1 rfl rfl rfl rfl rfl rfl ?_ | refine TriOps.a1 rfl rfl rfl rfl rfl rfl rfl ?_ | refine TriOps.w1 rfl rfl rfl rfl rfl rfl rfl rfl rfl ?_ | fail))
    refine Tri.ret (retX (r := .tuple [figO w h, .d (.bool true)]) (ral := figA a4 u4) [(.ret 0, some (.tmp 30 0)), (.ret 1, some (.tmp 30 1))] 31 [(6, .ptr (.loc 6) 0), (7, .d (.bool true))] [(.loc 6, ⟨26, [.d (.int .i64 w), .d (.int .i64 h), .own (.ret 0), .own (.ret 1)]⟩)] rfl ⟨rfl, rfl, trivial⟩ ⟨rfl, trivial⟩ ⟨rfl, rfl, trivial⟩ rfl rfl (AV.Le.refl _) rfl ⟨rfl, rfl, trivial⟩ ⟨w, h, a4, u4, true, rfl, rfl, by omega, by omega⟩)
theorem fig_le (w h : Int) (a u : List Int) (x y : AV) (hx : AV.Le x (.d (.ints .i64 a))) (hy : AV.Le y (.d (.ints .i64 u))) : AV.Le (.agg [.d (.int .i64 w), .d (.int .i64 h), x, y]) (fig w h a u) :=
  AV.Le.agg (AV.Les.cons (AV.Le.refl _) (AV.Les.cons (AV.Le.refl _) (AV.Les.cons hx (AV.Les.cons hy AV.Les.nil))))
theorem nil_le : AV.Le .nils (.d (.ints .i64 [])) := AV.Le.nil (sz := 1) rfl
theorem edgeOf_draw (w h : Int) (bw : 1 ≤ w ∧ w ≤ 4) (bh : 1 ≤ h ∧ h ≤ 4) : Draws 69 [.d (.int .i64 w), .d (.int .i64 h)] 4 (fun r => ∃ a u, r = fig w h a u ∧ a.length ≤ 1 ∧ u.length ≤ 1) := by
  intro code p s hb hp hK
  have h1 := mul_bd bw bh
  have h2 := mul_bd bh bw
  have h3 : (w + 1) * h = h * (w + 1) := Int.mul_comm _ _
  refine Fn.s (E := env) 30 [(.out 0,  curBox code p s)] [] Tryd.func69 rfl (by kernel_rfl) rfl rfl ?_
  (repeat' (first | refine TriOps.v1 rfl rfl rfl rfl True.intro ?_ | refine TriOps.nil ?_ | refine Tri.region ?_ | refine Tri.seq ?_ | refine Tri.block ?_ | refine Tri.skip ?_ | refine Tri.exit ?_ | refine TriOps.s1 rfl rfl rfl ?_ | refine TriOps.b1 rfl rfl rfl rfl rfl rfl ?_ | refine TriOps.a1 rfl rfl rfl rfl rfl rfl rfl ?_ | refine TriOps.w1 rfl rfl rfl rfl rfl rfl rfl rfl rfl ?_ | fail))
  refine TriOps.k1 rfl rfl rfl rfl rfl rfl rfl (one_draw 2 code p s hb hp (by omega)) rfl ?_
  rintro _ _ ⟨p1, s1, rfl, h4, h5, b, rfl⟩
  (repeat' (first | refine TriOps.v1 rfl rfl rfl rfl True.intro ?_ | refine TriOps.nil ?_ | refine Tri.region ?_ | refine Tri.seq ?_ | refine Tri.block ?_ | refine Tri.skip ?_ | refine Tri.exit ?_ | refine TriOps.s1 rfl rfl rfl ?_ | refine TriOps.b1 rfl rfl rfl rfl rfl rfl ?_ | refine TriOps.a1 rfl rfl rfl rfl rfl rfl rfl ?_ | refine TriOps.w1 rfl rfl rfl rfl rfl rfl rfl rfl rfl ?_ | fail))
  refine Tri.cond rfl (fun hc => ?_) (fun hc => ?_)
  · (repeat' (first | refine TriOps.v1 rfl rfl rfl rfl True.intro ?_ | refine TriOps.nil ?_ | refine Tri.region ?_ | refine Tri.seq ?_ | refine Tri.block ?_ | refine Tri.skip ?_ | refine Tri.exit ?_ | refine TriOps.s1 rfl rfl rfl ?_ | refine TriOps.b1 rfl rfl rfl rfl rfl rfl ?_ | refine TriOps.a1 rfl rfl rfl rfl rfl rfl rfl ?_ | refine TriOps.w1 rfl rfl rfl rfl rfl rfl rfl rfl rfl ?_ | fail))
    refine TriOps.v1 rfl rfl rfl rfl (by first | exact True.intro | exact inR_i64 (by omega) (by omega) | omega | (refine ⟨?_, ?_⟩ <;> omega)) ?_
    refine TriOps.v1 rfl rfl rfl rfl (by first | exact True.intro | exact inR_i64 (by omega) (by omega) | omega | (refine ⟨?_, ?_⟩ <;> omega)) ?_
    refine TriOps.k1 rfl rfl rfl rfl rfl rfl rfl (pick_draw _ code p1 s1 hb (by omega) (by omega)) rfl ?_
    rintro _ _ ⟨p2, s2, rfl, h6, h7, k, rfl, h8⟩
    refine TriOps.f1 rfl rfl rfl rfl rfl rfl rfl rfl ?_
    (repeat' (first | refine TriOps.v1 rfl rfl rfl rfl True.intro ?_ | refine TriOps.nil ?_ | refine Tri.region ?_ | refine Tri.seq ?_ | refine Tri.block ?_ | refine Tri.skip ?_ | refine Tri.exit ?_ | refine TriOps.s1 rfl rfl rfl ?_ | refine TriOps.b1 rfl rfl rfl rfl rfl rfl ?_ | refine TriOps.a1 rfl rfl rfl rfl rfl rfl rfl ?_ | refine TriOps.w1 rfl rfl rfl rfl rfl rfl rfl rfl rfl ?_ | fail))
    refine Tri.ret (retK1 (bx' := curBox code p2 s2) rfl rfl (fig_le w h [k] [] _ _ (AV.Le.refl _) nil_le) rfl ⟨p2, s2, rfl, by omega, by omega, [k], [], rfl, by simp, by simp⟩)
  · (repeat' (first | refine TriOps.v1 rfl rfl rfl rfl True.intro ?_ | refine TriOps.nil ?_ | refine Tri.region ?_ | refine Tri.seq ?_ | refine Tri.block ?_ | refine Tri.skip ?_ | refine Tri.exit ?_ | refine TriOps.s1 rfl rfl rfl ?_ | refine TriOps.b1 rfl rfl rfl rfl rfl rfl ?_ | refine TriOps.a1 rfl rfl rfl rfl rfl rfl rfl ?_ | refine TriOps.w1 rfl rfl rfl rfl rfl rfl rfl rfl rfl ?_ | fail))
    refine TriOps.v1 rfl rfl rfl rfl (by first | exact True.intro | exact inR_i64 (by omega) (by omega) | omega | (refine ⟨?_, ?_⟩ <;> omega)) ?_
    (repeat' (first | refine TriOps.v1 rfl rfl rfl rfl True.intro ?_ | refine TriOps.nil ?_ | refine Tri.region ?_ | refine Tri.seq ?_ | refine Tri.block ?_ | refine Tri.skip ?_ | refine Tri.exit ?_ | refine TriOps.s1 rfl rfl rfl ?_ | refine TriOps.b1 rfl rfl rfl rfl rfl rfl ?_ | refine TriOps.a1 rfl rfl rfl rfl rfl rfl rfl ?_ | refine TriOps.w1 rfl rfl rfl rfl rfl rfl rfl rfl rfl ?_ | fail))
    refine TriOps.v1 rfl rfl rfl rfl (by first | exact True.intro | exact inR_i64 (by omega) (by omega) | omega | (refine ⟨?_, ?_⟩ <;> omega)) ?_
    refine TriOps.k1 rfl rfl rfl rfl rfl rfl rfl (pick_draw _ code p1 s1 hb (by omega) (by omega)) rfl ?_
    rintro _ _ ⟨p2, s2, rfl, h6, h7, k, rfl, h8⟩
    refine TriOps.f1 rfl rfl rfl rfl rfl rfl rfl rfl ?_
    (repeat' (first | refine TriOps.v1 rfl rfl rfl rfl True.intro ?_ | refine TriOps.nil ?_ | refine Tri.region ?_ | refine Tri.seq ?_ | refine Tri.block ?_ | refine Tri.skip ?_ | refine Tri.exit ?_ | refine TriOps.s1 rfl rfl rfl ?_ | refine TriOps.b1 rfl rfl rfl rfl rfl rfl ?_ | refine TriOps.a1 rfl rfl rfl rfl rfl rfl rfl ?_ | refine TriOps.w1 rfl rfl rfl rfl rfl rfl rfl rfl rfl ?_ | fail))
    refine Tri.ret (retK1 (bx' := curBox code p2 s2) rfl rfl (fig_le w h [] [k] _ _ nil_le (AV.Le.refl _)) rfl ⟨p2, s2, rfl, by omega, by omega, [], [k], rfl, by simp, by simp⟩)
end Go.Proofs.YthmbdoegcpicbaaDoor.Abs

/-! ## C20 -/
namespace Go.Proofs.YthmbdoegcpicbaaDoor.Abs
open Go.Proofs
/-- A drawn figure in memory of its own. -/
def DrawsO (f : FuncId) (args : List AV) (K : Int) : Prop := ∀ (code : List Int) (p s : Int), Bytes code → 0 ≤ p → p + K ≤ 4611686018427387904 →
  FnKO env f (curBox code p s) args fun r ral bx => ∃ p' s' w h a u, bx = curBox code p' s' ∧ p ≤ p' ∧ p' ≤ p + K ∧ r = figO w h ∧ ral = figA a u ∧ a.length ≤ 60 ∧ u.length ≤ 60
structure SX where
  k : Nat
  p : Int
  s : Int
  w : Int
  h : Int
  a : List Int
  u : List Int
def SX.ok (P B c : Int) (x : SX) : Prop := P ≤ x.p ∧ x.p + c * x.k ≤ B ∧ x.a.length ≤ 60 ∧ x.u.length ≤ 60
def figB (w h : Int) : Box := ⟨26, [.d (.int .i64 w), .d (.int .i64 h), .own (.ret 0), .own (.ret 1)]⟩
def figZ : Box := ⟨26, [.d (.int .i64 0), .d (.int .i64 0), .nils, .nils]⟩
theorem fiPick_nil (m : Int) (c : Bool) (hm : -1 ≤ m ∧ m ≤ 100000) : FnO env 124 [.nils, .d (.int .i64 m), .d (.bool c)] (.own (.ret 0)) [(.ret 0, iArr (those (upTo (m + 1).toNat) [] c))] :=
  Fn.le (AV.Les.cons nil_le (AV.Les.cons (AV.Le.refl _) (AV.Les.cons (AV.Le.refl _) AV.Les.nil))) (fiPick_own [] m c hm)
set_option maxHeartbeats 1000000 in
theorem sure_draw (w h : Int) (bw : 1 ≤ w ∧ w ≤ 4) (bh : 1 ≤ h ∧ h ≤ 4) : DrawsO 93 [.d (.int .i64 w), .d (.int .i64 h)] 100 := by
  intro code p s hb hp hK
  have h1 := mul_bd bw bh
  have h2 := mul_bd bh bw
  have h3 : (w + 1) * h = h * (w + 1) := Int.mul_comm _ _
  refine Fn.s (E := env) 84 [(.out 0,  curBox code p s)] [] Tryd.func93 rfl (by kernel_rfl) rfl rfl ?_
  (repeat' (first | refine TriOps.v1 rfl rfl rfl rfl True.intro ?_ | refine TriOps.nil ?_ | refine Tri.region ?_ | refine Tri.seq ?_ | refine Tri.block ?_ | refine Tri.skip ?_ | refine Tri.exit ?_ | refine TriOps.s1 rfl rfl rfl ?_ | refine TriOps.b1 rfl rfl rfl rfl rfl rfl ?_ | refine TriOps.a1 rfl rfl rfl rfl rfl rfl rfl ?_ | refine TriOps.w1 rfl rfl rfl rfl rfl rfl rfl rfl rfl ?_ | fail))
  refine TriOps.k1 rfl rfl rfl rfl rfl rfl rfl (pick_draw 4 code p s hb hp (by omega)) rfl ?_
  rintro _ _ ⟨p1, s1, rfl, h4, h5, k, rfl, h6, h7⟩
  (repeat' (first | refine TriOps.v1 rfl rfl rfl rfl True.intro ?_ | refine TriOps.nil ?_ | refine Tri.region ?_ | refine Tri.seq ?_ | refine TriOps.s1 rfl rfl rfl ?_ | refine TriOps.b1 rfl rfl rfl rfl rfl rfl ?_ | refine TriOps.a1 rfl rfl rfl rfl rfl rfl rfl ?_ | refine TriOps.w1 rfl rfl rfl rfl rfl rfl rfl rfl rfl ?_ | fail))
  refine Tri.join (fun _ : Unit => True) (fun _ => stt 84 [(0, .ptr (.out 0) 0), (1, .d (.int .i64 w)), (2, .d (.int .i64 h)), (6, .ptr (.loc 6) 0), (7, .ptr (.loc 7) 0)] [(.out 0, curBox code p1 s1), (.loc 6, figZ), (.loc 7, ⟨26, [.d (.int .i64 w), .d (.int .i64 h), .nils, .nils]⟩)] []) ?_ ?_
  · (repeat' (first | refine TriOps.v1 rfl rfl rfl rfl True.intro ?_ | refine TriOps.nil ?_ | refine Tri.region ?_ | refine Tri.seq ?_ | refine Tri.block ?_ | refine Tri.skip ?_ | refine Tri.exit ?_ | refine TriOps.s1 rfl rfl rfl ?_ | refine TriOps.b1 rfl rfl rfl rfl rfl rfl ?_ | refine TriOps.a1 rfl rfl rfl rfl rfl rfl rfl ?_ | refine TriOps.w1 rfl rfl rfl rfl rfl rfl rfl rfl rfl ?_ | fail))
    refine Tri.cond rfl (fun hc => ?_) (fun hc => ?_)
    · -- the full figure, less some edges
      (repeat' (first | refine TriOps.v1 rfl rfl rfl rfl True.intro ?_ | refine TriOps.nil ?_ | refine Tri.region ?_ | refine Tri.seq ?_ | refine Tri.block ?_ | refine Tri.skip ?_ | refine Tri.exit ?_ | refine TriOps.s1 rfl rfl rfl ?_ | refine TriOps.b1 rfl rfl rfl rfl rfl rfl ?_ | refine TriOps.a1 rfl rfl rfl rfl rfl rfl rfl ?_ | refine TriOps.w1 rfl rfl rfl rfl rfl rfl rfl rfl rfl ?_ | fail))
      refine TriOps.o1 rfl rfl rfl rfl rfl (fiFull_own w h bw bh) rfl rfl rfl ?_
      (repeat' (first | refine TriOps.v1 rfl rfl rfl rfl True.intro ?_ | refine TriOps.nil ?_ | refine Tri.region ?_ | refine Tri.seq ?_ | refine Tri.block ?_ | refine Tri.skip ?_ | refine Tri.exit ?_ | refine TriOps.s1 rfl rfl rfl ?_ | refine TriOps.b1 rfl rfl rfl rfl rfl rfl ?_ | refine TriOps.a1 rfl rfl rfl rfl rfl rfl rfl ?_ | refine TriOps.w1 rfl rfl rfl rfl rfl rfl rfl rfl rfl ?_ | fail))
      refine TriOps.k1 rfl rfl rfl rfl rfl rfl rfl (pick_draw 4 code p1 s1 hb (by omega) (by omega)) rfl ?_
      rintro _ _ ⟨p2, s2, rfl, h8, h9, k2, rfl, h10, h11⟩
      (repeat' (first | refine TriOps.v1 rfl rfl rfl rfl True.intro ?_ | refine TriOps.nil ?_ | refine Tri.region ?_ | refine Tri.seq ?_ | refine Tri.block ?_ | refine Tri.skip ?_ | refine Tri.exit ?_ | refine TriOps.s1 rfl rfl rfl ?_ | refine TriOps.b1 rfl rfl rfl rfl rfl rfl ?_ | refine TriOps.a1 rfl rfl rfl rfl rfl rfl rfl ?_ | refine TriOps.w1 rfl rfl rfl rfl rfl rfl rfl rfl rfl ?_ | fail))
      refine Tri.loopI (SX.ok p (p2 + 12) 4) (fun x => stt 84 [(0, .ptr (.out 0) 0), (1, .d (.int .i64 w)), (2, .d (.int .i64 h)), (6, .ptr (.loc 6) 0), (7, .ptr (.loc 7) 0), (8, .d (.int .i64 x.k))] [(.out 0, curBox code x.p x.s), (.loc 6, figZ), (.loc 7, figB x.w x.h)] (figA x.a x.u)) (fun x => x.k)
        ⟨k2.toNat, p2, s2, w, h, upTo (w * (h + 1)).toNat, upTo (h * (w + 1)).toNat⟩ ⟨by show p ≤ p2; omega, by show p2 + 4 * (k2.toNat : Int) ≤ p2 + 12; omega, by show (upTo _).length ≤ 60; rw [upTo_len]; omega, by show (upTo _).length ≤ 60; rw [upTo_len]; omega⟩
        (Wk.ren [(.ret 0, some (.tmp 20 0)), (.ret 1, some (.tmp 20 1))] rfl ⟨rfl, rfl, rfl, rfl, rfl, by show AV.d (.int .i64 k2) = .d (.int .i64 ((k2.toNat : Nat) : Int)); rw [Int.toNat_of_nonneg h10], trivial⟩ ⟨rfl, rfl, rfl, trivial⟩ ⟨rfl, rfl, trivial⟩ rfl) ?_
      rintro ⟨k3, p3, s3, w3, h3, a3, u3⟩ ⟨i1, i2, i3, i4⟩
      dsimp only at i1 i2 i3 i4 ⊢
      unfold curBox figB figA
      (repeat' (first | refine TriOps.v1 rfl rfl rfl rfl True.intro ?_ | refine TriOps.nil ?_ | refine Tri.region ?_ | refine Tri.seq ?_ | refine Tri.block ?_ | refine Tri.skip ?_ | refine Tri.exit ?_ | refine TriOps.s1 rfl rfl rfl ?_ | refine TriOps.b1 rfl rfl rfl rfl rfl rfl ?_ | refine TriOps.a1 rfl rfl rfl rfl rfl rfl rfl ?_ | refine TriOps.w1 rfl rfl rfl rfl rfl rfl rfl rfl rfl ?_ | fail))
      refine Tri.cond rfl (fun hd => ?_) (fun hd => ?_)
      · have hd : (k3 : Int) > 0 := of_decide_eq_true hd
        (repeat' (first | refine TriOps.v1 rfl rfl rfl rfl True.intro ?_ | refine TriOps.nil ?_ | refine Tri.region ?_ | refine Tri.seq ?_ | refine Tri.block ?_ | refine Tri.skip ?_ | refine Tri.exit ?_ | refine TriOps.s1 rfl rfl rfl ?_ | refine TriOps.b1 rfl rfl rfl rfl rfl rfl ?_ | refine TriOps.a1 rfl rfl rfl rfl rfl rfl rfl ?_ | refine TriOps.w1 rfl rfl rfl rfl rfl rfl rfl rfl rfl ?_ | fail))
        refine Tri.dl [.loc 7] [6] [(0, 1), (1, 0), (2, 0), (3, 0), (4, 2), (5, 2), (6, 3)] (by kernel_rfl) rfl ?_
        (repeat' (first | refine TS.v1 rfl (fun _ _ h => h) rfl rfl rfl rfl rfl True.intro ?_ | refine TS.t1 rfl (fun _ _ h => h) rfl rfl rfl rfl rfl True.intro ?_ | refine TS.nil ?_ | refine TS.n0 rfl (fun _ _ h => h) rfl rfl rfl ?_ | refine TS.n1 rfl (fun _ _ h => h) rfl rfl rfl ?_ | refine TS.n2 rfl rfl rfl rfl ?_ | refine TS.w1 rfl rfl rfl rfl rfl rfl rfl rfl rfl rfl rfl rfl ?_ | fail))
        refine TS.k1 rfl rfl rfl rfl rfl rfl rfl rfl rfl (edgeOf_draw w h bw bh code p3 s3 hb (by omega) (by omega)) rfl ?_
        rintro _ _ ⟨p4, s4, rfl, h12, h13, a4, u4, rfl, h14, h15⟩
        refine TS.o1 rfl rfl rfl rfl rfl rfl rfl (fiLess_own w3 h3 a3 u3 w h a4 u4 (by omega) (by omega)) rfl rfl rfl ?_
        refine TS.lw1 rfl rfl rfl rfl rfl rfl rfl rfl rfl rfl ?_
        (repeat' (first | refine TriOps.v1 rfl rfl rfl rfl True.intro ?_ | refine TriOps.nil ?_ | refine Tri.region ?_ | refine Tri.seq ?_ | refine Tri.block ?_ | refine Tri.skip ?_ | refine Tri.exit ?_ | refine TriOps.s1 rfl rfl rfl ?_ | refine TriOps.b1 rfl rfl rfl rfl rfl rfl ?_ | refine TriOps.a1 rfl rfl rfl rfl rfl rfl rfl ?_ | refine TriOps.w1 rfl rfl rfl rfl rfl rfl rfl rfl rfl ?_ | fail))
        refine TriOps.v1 rfl rfl rfl rfl (by first | exact True.intro | exact inR_i64 (by omega) (by omega) | omega | (refine ⟨?_, ?_⟩ <;> omega)) ?_
        (repeat' (first | refine TriOps.v1 rfl rfl rfl rfl True.intro ?_ | refine TriOps.nil ?_ | refine Tri.region ?_ | refine Tri.seq ?_ | refine Tri.block ?_ | refine Tri.skip ?_ | refine Tri.exit ?_ | refine TriOps.s1 rfl rfl rfl ?_ | refine TriOps.b1 rfl rfl rfl rfl rfl rfl ?_ | refine TriOps.a1 rfl rfl rfl rfl rfl rfl rfl ?_ | refine TriOps.w1 rfl rfl rfl rfl rfl rfl rfl rfl rfl ?_ | fail))
        have l1 := those_len a3 a4 false
        have l2 := those_len u3 u4 false
        exact ⟨⟨k3 - 1, p4, s4, w3, h3, those a3 a4 false, those u3 u4 false⟩, ⟨by show p ≤ p4; omega, by show p4 + 4 * ((k3 - 1 : Nat) : Int) ≤ p2 + 12; omega, by show (those _ _ _).length ≤ 60; omega, by show (those _ _ _).length ≤ 60; omega⟩, by show k3 - 1 < k3; omega,
          Wk.ren [(.ret 0, some (.tmp 32 0)), (.ret 1, some (.tmp 32 1))] rfl ⟨rfl, rfl, rfl, rfl, rfl, by show AV.d (.int .i64 ((k3 : Int) - 1)) = .d (.int .i64 ((k3 - 1 : Nat) : Int)); rw [show ((k3 - 1 : Nat) : Int) = (k3 : Int) - 1 by omega], trivial⟩ ⟨rfl, rfl, rfl, trivial⟩ ⟨rfl, rfl, trivial⟩ rfl⟩
      · (repeat' (first | refine TriOps.v1 rfl rfl rfl rfl True.intro ?_ | refine TriOps.nil ?_ | refine Tri.region ?_ | refine Tri.seq ?_ | refine Tri.block ?_ | refine Tri.skip ?_ | refine Tri.exit ?_ | refine TriOps.s1 rfl rfl rfl ?_ | refine TriOps.b1 rfl rfl rfl rfl rfl rfl ?_ | refine TriOps.a1 rfl rfl rfl rfl rfl rfl rfl ?_ | refine TriOps.w1 rfl rfl rfl rfl rfl rfl rfl rfl rfl ?_ | fail))
        refine Tri.ret (retKO (r := figO w3 h3) (ral := figA a3 u3) (bx' := curBox code p3 s3) [(.ret 0, some (.ret 0)), (.ret 1, some (.ret 1))] 84 [(6, .ptr (.loc 6) 0)] [(.out 0, curBox code p3 s3), (.loc 6, figB w3 h3)] rfl ⟨rfl, trivial⟩ ⟨rfl, rfl, trivial⟩ ⟨rfl, rfl, trivial⟩ rfl rfl rfl (AV.Le.refl _) rfl ⟨rfl, rfl, trivial⟩ ⟨p3, s3, w3, h3, a3, u3, rfl, by omega, by omega, rfl, rfl, i3, i4⟩)
    · (repeat' (first | refine TriOps.v1 rfl rfl rfl rfl True.intro ?_ | refine TriOps.nil ?_ | refine Tri.region ?_ | refine Tri.seq ?_ | refine Tri.block ?_ | refine Tri.skip ?_ | refine Tri.exit ?_ | refine TriOps.s1 rfl rfl rfl ?_ | refine TriOps.b1 rfl rfl rfl rfl rfl rfl ?_ | refine TriOps.a1 rfl rfl rfl rfl rfl rfl rfl ?_ | refine TriOps.w1 rfl rfl rfl rfl rfl rfl rfl rfl rfl ?_ | fail))
      refine Tri.cond rfl (fun hd => ?_) (fun hd => ?_)
      · -- some cells
        (repeat' (first | refine TriOps.v1 rfl rfl rfl rfl True.intro ?_ | refine TriOps.nil ?_ | refine Tri.region ?_ | refine Tri.seq ?_ | refine Tri.block ?_ | refine Tri.skip ?_ | refine Tri.exit ?_ | refine TriOps.s1 rfl rfl rfl ?_ | refine TriOps.b1 rfl rfl rfl rfl rfl rfl ?_ | refine TriOps.a1 rfl rfl rfl rfl rfl rfl rfl ?_ | refine TriOps.w1 rfl rfl rfl rfl rfl rfl rfl rfl rfl ?_ | fail))
        refine TriOps.k1 rfl rfl rfl rfl rfl rfl rfl (pick_draw 3 code p1 s1 hb (by omega) (by omega)) rfl ?_
        rintro _ _ ⟨p2, s2, rfl, h8, h9, k2, rfl, h10, h11⟩
        refine TriOps.v1 rfl rfl rfl rfl (by first | exact True.intro | exact inR_i64 (by omega) (by omega) | omega | (refine ⟨?_, ?_⟩ <;> omega)) ?_
        (repeat' (first | refine TriOps.v1 rfl rfl rfl rfl True.intro ?_ | refine TriOps.nil ?_ | refine Tri.region ?_ | refine Tri.seq ?_ | refine Tri.block ?_ | refine Tri.skip ?_ | refine Tri.exit ?_ | refine TriOps.s1 rfl rfl rfl ?_ | refine TriOps.b1 rfl rfl rfl rfl rfl rfl ?_ | refine TriOps.a1 rfl rfl rfl rfl rfl rfl rfl ?_ | refine TriOps.w1 rfl rfl rfl rfl rfl rfl rfl rfl rfl ?_ | fail))
        refine Tri.loopI (SX.ok p (p2 + 12) 4) (fun x => stt 84 [(0, .ptr (.out 0) 0), (1, .d (.int .i64 w)), (2, .d (.int .i64 h)), (6, .ptr (.loc 6) 0), (7, .ptr (.loc 7) 0), (9, .d (.int .i64 x.k))] [(.out 0, curBox code x.p x.s), (.loc 6, figZ), (.loc 7, figB x.w x.h)] (figA x.a x.u)) (fun x => x.k)
          ⟨(1 + k2).toNat, p2, s2, w, h, [], []⟩ ⟨by show p ≤ p2; omega, by show p2 + 4 * ((1 + k2).toNat : Int) ≤ p2 + 12; omega, by show 0 ≤ 60; omega, by show 0 ≤ 60; omega⟩
          (Wk.ren [(.ret 0, none), (.ret 1, none)] rfl ⟨rfl, rfl, rfl, rfl, rfl, by show AV.d (.int .i64 (1 + k2)) = .d (.int .i64 (((1 + k2).toNat : Nat) : Int)); rw [Int.toNat_of_nonneg (by omega)], trivial⟩ ⟨rfl, rfl, rfl, trivial⟩ ⟨trivial, trivial, trivial⟩ rfl) ?_
        rintro ⟨k3, p3, s3, w3, h3, a3, u3⟩ ⟨i1, i2, i3, i4⟩
        dsimp only at i1 i2 i3 i4 ⊢
        unfold curBox figB figA
        (repeat' (first | refine TriOps.v1 rfl rfl rfl rfl True.intro ?_ | refine TriOps.nil ?_ | refine Tri.region ?_ | refine Tri.seq ?_ | refine Tri.block ?_ | refine Tri.skip ?_ | refine Tri.exit ?_ | refine TriOps.s1 rfl rfl rfl ?_ | refine TriOps.b1 rfl rfl rfl rfl rfl rfl ?_ | refine TriOps.a1 rfl rfl rfl rfl rfl rfl rfl ?_ | refine TriOps.w1 rfl rfl rfl rfl rfl rfl rfl rfl rfl ?_ | fail))
        refine Tri.cond rfl (fun hd => ?_) (fun hd => ?_)
        · have hd : (k3 : Int) > 0 := of_decide_eq_true hd
          (repeat' (first | refine TriOps.v1 rfl rfl rfl rfl True.intro ?_ | refine TriOps.nil ?_ | refine Tri.region ?_ | refine Tri.seq ?_ | refine Tri.block ?_ | refine Tri.skip ?_ | refine Tri.exit ?_ | refine TriOps.s1 rfl rfl rfl ?_ | refine TriOps.b1 rfl rfl rfl rfl rfl rfl ?_ | refine TriOps.a1 rfl rfl rfl rfl rfl rfl rfl ?_ | refine TriOps.w1 rfl rfl rfl rfl rfl rfl rfl rfl rfl ?_ | fail))
          refine Tri.dl [.loc 7] [11] [(0, 1), (1, 0), (2, 0), (4, 0), (5, 0), (3, 2), (6, 2), (7, 2), (8, 0), (9, 0), (10, 0), (11, 3)] (by kernel_rfl) rfl ?_
          (repeat' (first | refine TS.v1 rfl (fun _ _ h => h) rfl rfl rfl rfl rfl True.intro ?_ | refine TS.t1 rfl (fun _ _ h => h) rfl rfl rfl rfl rfl True.intro ?_ | refine TS.nil ?_ | refine TS.n0 rfl (fun _ _ h => h) rfl rfl rfl ?_ | refine TS.n1 rfl (fun _ _ h => h) rfl rfl rfl ?_ | refine TS.n2 rfl rfl rfl rfl ?_ | refine TS.w1 rfl rfl rfl rfl rfl rfl rfl rfl rfl rfl rfl rfl ?_ | fail))
          refine TS.k1 rfl rfl rfl rfl rfl rfl rfl rfl rfl (pick_draw w code p3 s3 hb (by omega) (by omega)) rfl ?_
          rintro _ _ ⟨p4, s4, rfl, h12, h13, x4, rfl, h14, h15⟩
          (repeat' (first | refine TS.v1 rfl (fun _ _ h => h) rfl rfl rfl rfl rfl True.intro ?_ | refine TS.t1 rfl (fun _ _ h => h) rfl rfl rfl rfl rfl True.intro ?_ | refine TS.nil ?_ | refine TS.n0 rfl (fun _ _ h => h) rfl rfl rfl ?_ | refine TS.n1 rfl (fun _ _ h => h) rfl rfl rfl ?_ | refine TS.n2 rfl rfl rfl rfl ?_ | refine TS.w1 rfl rfl rfl rfl rfl rfl rfl rfl rfl rfl rfl rfl ?_ | fail))
          refine TS.k1 rfl rfl rfl rfl rfl rfl rfl rfl rfl (pick_draw h code p4 s4 hb (by omega) (by omega)) rfl ?_
          rintro _ _ ⟨p5, s5, rfl, h16, h17, y4, rfl, h18, h19⟩
          refine TS.ox1 rfl rfl rfl rfl rfl rfl rfl (addCell_x w3 h3 a3 u3 x4 y4) rfl ?_
          rintro _ _ ⟨w5, h5, a5, u5, b5, rfl, rfl, h20, h21⟩
          (repeat' (first | refine TS.v1 rfl (fun _ _ h => h) rfl rfl rfl rfl rfl True.intro ?_ | refine TS.t1 rfl (fun _ _ h => h) rfl rfl rfl rfl rfl True.intro ?_ | refine TS.nil ?_ | refine TS.n0 rfl (fun _ _ h => h) rfl rfl rfl ?_ | refine TS.n1 rfl (fun _ _ h => h) rfl rfl rfl ?_ | refine TS.n2 rfl rfl rfl rfl ?_ | refine TS.w1 rfl rfl rfl rfl rfl rfl rfl rfl rfl rfl rfl rfl ?_ | fail))
          refine TS.lw1 rfl rfl rfl rfl rfl rfl rfl rfl rfl rfl ?_
          (repeat' (first | refine TriOps.v1 rfl rfl rfl rfl True.intro ?_ | refine TriOps.nil ?_ | refine Tri.region ?_ | refine Tri.seq ?_ | refine Tri.block ?_ | refine Tri.skip ?_ | refine Tri.exit ?_ | refine TriOps.s1 rfl rfl rfl ?_ | refine TriOps.b1 rfl rfl rfl rfl rfl rfl ?_ | refine TriOps.a1 rfl rfl rfl rfl rfl rfl rfl ?_ | refine TriOps.w1 rfl rfl rfl rfl rfl rfl rfl rfl rfl ?_ | fail))
          refine TriOps.v1 rfl rfl rfl rfl (by first | exact True.intro | exact inR_i64 (by omega) (by omega) | omega | (refine ⟨?_, ?_⟩ <;> omega)) ?_
          (repeat' (first | refine TriOps.v1 rfl rfl rfl rfl True.intro ?_ | refine TriOps.nil ?_ | refine Tri.region ?_ | refine Tri.seq ?_ | refine Tri.block ?_ | refine Tri.skip ?_ | refine Tri.exit ?_ | refine TriOps.s1 rfl rfl rfl ?_ | refine TriOps.b1 rfl rfl rfl rfl rfl rfl ?_ | refine TriOps.a1 rfl rfl rfl rfl rfl rfl rfl ?_ | refine TriOps.w1 rfl rfl rfl rfl rfl rfl rfl rfl rfl ?_ | fail))
          exact ⟨⟨k3 - 1, p5, s5, w5, h5, a5, u5⟩, ⟨by show p ≤ p5; omega, by show p5 + 4 * ((k3 - 1 : Nat) : Int) ≤ p2 + 12; omega, by show a5.length ≤ 60; omega, by show u5.length ≤ 60; omega⟩, by show k3 - 1 < k3; omega,
            Wk.ren [(.ret 0, some (.tmp 51 0)), (.ret 1, some (.tmp 51 1))] rfl ⟨rfl, rfl, rfl, rfl, rfl, by show AV.d (.int .i64 ((k3 : Int) - 1)) = .d (.int .i64 ((k3 - 1 : Nat) : Int)); rw [show ((k3 - 1 : Nat) : Int) = (k3 : Int) - 1 by omega], trivial⟩ ⟨rfl, rfl, rfl, trivial⟩ ⟨rfl, rfl, trivial⟩ rfl⟩
        · (repeat' (first | refine TriOps.v1 rfl rfl rfl rfl True.intro ?_ | refine TriOps.nil ?_ | refine Tri.region ?_ | refine Tri.seq ?_ | refine Tri.block ?_ | refine Tri.skip ?_ | refine Tri.exit ?_ | refine TriOps.s1 rfl rfl rfl ?_ | refine TriOps.b1 rfl rfl rfl rfl rfl rfl ?_ | refine TriOps.a1 rfl rfl rfl rfl rfl rfl rfl ?_ | refine TriOps.w1 rfl rfl rfl rfl rfl rfl rfl rfl rfl ?_ | fail))
          refine Tri.ret (retKO (r := figO w3 h3) (ral := figA a3 u3) (bx' := curBox code p3 s3) [(.ret 0, some (.ret 0)), (.ret 1, some (.ret 1))] 84 [(6, .ptr (.loc 6) 0)] [(.out 0, curBox code p3 s3), (.loc 6, figB w3 h3)] rfl ⟨rfl, trivial⟩ ⟨rfl, rfl, trivial⟩ ⟨rfl, rfl, trivial⟩ rfl rfl rfl (AV.Le.refl _) rfl ⟨rfl, rfl, trivial⟩ ⟨p3, s3, w3, h3, a3, u3, rfl, by omega, by omega, rfl, rfl, i3, i4⟩)
      · (repeat' (first | refine TriOps.v1 rfl rfl rfl rfl True.intro ?_ | refine TriOps.nil ?_ | refine Tri.region ?_ | refine Tri.seq ?_ | refine Tri.block ?_ | refine Tri.skip ?_ | refine Tri.exit ?_ | refine TriOps.s1 rfl rfl rfl ?_ | refine TriOps.b1 rfl rfl rfl rfl rfl rfl ?_ | refine TriOps.a1 rfl rfl rfl rfl rfl rfl rfl ?_ | refine TriOps.w1 rfl rfl rfl rfl rfl rfl rfl rfl rfl ?_ | fail))
        exact ⟨(), trivial, Wk.to rfl ⟨rfl, rfl, rfl, rfl, rfl, trivial⟩ ⟨rfl, rfl, rfl, trivial⟩ trivial⟩
  · rintro _ _
    unfold curBox
    have l1 := those_upTo_len (w * (h + 1) - 1 + 1).toNat [] false
    have l2 := those_upTo_len ((w + 1) * h - 1 + 1).toNat [] false
    (repeat' (first | refine TriOps.v1 rfl rfl rfl rfl True.intro ?_ | refine TriOps.nil ?_ | refine Tri.region ?_ | refine Tri.seq ?_ | refine Tri.block ?_ | refine Tri.skip ?_ | refine Tri.exit ?_ | refine TriOps.s1 rfl rfl rfl ?_ | refine TriOps.b1 rfl rfl rfl rfl rfl rfl ?_ | refine TriOps.a1 rfl rfl rfl rfl rfl rfl rfl ?_ | refine TriOps.w1 rfl rfl rfl rfl rfl rfl rfl rfl rfl ?_ | fail))
    refine TriOps.m1 rfl rfl rfl rfl rfl rfl (fiUpTo_fn 0 (by omega)) rfl ?_
    (repeat' (first | refine TriOps.v1 rfl rfl rfl rfl True.intro ?_ | refine TriOps.nil ?_ | refine Tri.region ?_ | refine Tri.seq ?_ | refine Tri.block ?_ | refine Tri.skip ?_ | refine Tri.exit ?_ | refine TriOps.s1 rfl rfl rfl ?_ | refine TriOps.b1 rfl rfl rfl rfl rfl rfl ?_ | refine TriOps.a1 rfl rfl rfl rfl rfl rfl rfl ?_ | refine TriOps.w1 rfl rfl rfl rfl rfl rfl rfl rfl rfl ?_ | fail))
    refine TriOps.v1 rfl rfl rfl rfl (by first | exact True.intro | exact inR_i64 (by omega) (by omega) | omega | (refine ⟨?_, ?_⟩ <;> omega)) ?_
    refine TriOps.v1 rfl rfl rfl rfl (by first | exact True.intro | exact inR_i64 (by omega) (by omega) | omega | (refine ⟨?_, ?_⟩ <;> omega)) ?_
    refine TriOps.v1 rfl rfl rfl rfl (by first | exact True.intro | exact inR_i64 (by omega) (by omega) | omega | (refine ⟨?_, ?_⟩ <;> omega)) ?_
    refine TriOps.o1 rfl rfl rfl rfl rfl (fiPick_own [] _ false (by omega)) rfl rfl rfl ?_
    (repeat' (first | refine TriOps.v1 rfl rfl rfl rfl True.intro ?_ | refine TriOps.nil ?_ | refine Tri.region ?_ | refine Tri.seq ?_ | refine Tri.block ?_ | refine Tri.skip ?_ | refine Tri.exit ?_ | refine TriOps.s1 rfl rfl rfl ?_ | refine TriOps.b1 rfl rfl rfl rfl rfl rfl ?_ | refine TriOps.a1 rfl rfl rfl rfl rfl rfl rfl ?_ | refine TriOps.w1 rfl rfl rfl rfl rfl rfl rfl rfl rfl ?_ | fail))
    refine TriOps.v1 rfl rfl rfl rfl (by first | exact True.intro | exact inR_i64 (by omega) (by omega) | omega | (refine ⟨?_, ?_⟩ <;> omega)) ?_
    (repeat' (first | refine TriOps.v1 rfl rfl rfl rfl True.intro ?_ | refine TriOps.nil ?_ | refine Tri.region ?_ | refine Tri.seq ?_ | refine Tri.block ?_ | refine Tri.skip ?_ | refine Tri.exit ?_ | refine TriOps.s1 rfl rfl rfl ?_ | refine TriOps.b1 rfl rfl rfl rfl rfl rfl ?_ | refine TriOps.a1 rfl rfl rfl rfl rfl rfl rfl ?_ | refine TriOps.w1 rfl rfl rfl rfl rfl rfl rfl rfl rfl ?_ | fail))
    refine TriOps.v1 rfl rfl rfl rfl (by first | exact True.intro | exact inR_i64 (by omega) (by omega) | omega | (refine ⟨?_, ?_⟩ <;> omega)) ?_
    refine TriOps.v1 rfl rfl rfl rfl (by first | exact True.intro | exact inR_i64 (by omega) (by omega) | omega | (refine ⟨?_, ?_⟩ <;> omega)) ?_
    refine TriOps.o1 rfl rfl rfl rfl rfl (fiPick_nil _ false (by omega)) rfl rfl rfl ?_
    (repeat' (first | refine TriOps.v1 rfl rfl rfl rfl True.intro ?_ | refine TriOps.nil ?_ | refine Tri.region ?_ | refine Tri.seq ?_ | refine Tri.block ?_ | refine Tri.skip ?_ | refine Tri.exit ?_ | refine TriOps.s1 rfl rfl rfl ?_ | refine TriOps.b1 rfl rfl rfl rfl rfl rfl ?_ | refine TriOps.a1 rfl rfl rfl rfl rfl rfl rfl ?_ | refine TriOps.w1 rfl rfl rfl rfl rfl rfl rfl rfl rfl ?_ | fail))
    generalize those (upTo (w * (h + 1) - 1 + 1).toNat) [] false = a0 at l1 ⊢
    generalize those (upTo ((w + 1) * h - 1 + 1).toNat) [] false = u0 at l2 ⊢
    refine TriOps.c1 rfl rfl rfl rfl rfl (fiCount_fn w h a0 u0 (by omega) (by omega)) rfl ?_
    have e : ((a0.length : Int) + u0.length).tdiv 2 = (((a0.length + u0.length) / 2 : Nat) : Int) := by
      rw [Int.tdiv_eq_ediv_of_nonneg (by omega)]; omega
    refine TriOps.v1 rfl rfl rfl rfl ⟨by omega, by rw [e]; exact inR_i64 (by omega) (by omega)⟩ ?_
    rw [e]
    (repeat' (first | refine TriOps.v1 rfl rfl rfl rfl True.intro ?_ | refine TriOps.nil ?_ | refine Tri.region ?_ | refine Tri.seq ?_ | refine Tri.block ?_ | refine Tri.skip ?_ | refine Tri.exit ?_ | refine TriOps.s1 rfl rfl rfl ?_ | refine TriOps.b1 rfl rfl rfl rfl rfl rfl ?_ | refine TriOps.a1 rfl rfl rfl rfl rfl rfl rfl ?_ | refine TriOps.w1 rfl rfl rfl rfl rfl rfl rfl rfl rfl ?_ | fail))
    refine Tri.loopI (SX.ok p (p1 + 98) 4) (fun x => stt 84 [(0, .ptr (.out 0) 0), (1, .d (.int .i64 w)), (2, .d (.int .i64 h)), (6, .ptr (.loc 6) 0), (7, .ptr (.loc 7) 0), (10, .d (.int .i64 x.k))] [(.out 0, curBox code x.p x.s), (.loc 6, figZ), (.loc 7, figB x.w x.h)] (figA x.a x.u)) (fun x => x.k)
      ⟨(a0.length + u0.length) / 2, p1, s1, w, h, a0, u0⟩ ⟨by show p ≤ p1; omega, by show p1 + 4 * (((a0.length + u0.length) / 2 : Nat) : Int) ≤ p1 + 98; omega, by show a0.length ≤ 60; omega, by show u0.length ≤ 60; omega⟩
      (Wk.ren [(.ret 0, some (.tmp 61 0)), (.ret 1, some (.tmp 68 0))] rfl ⟨rfl, rfl, rfl, rfl, rfl, rfl, trivial⟩ ⟨rfl, rfl, rfl, trivial⟩ ⟨rfl, rfl, trivial⟩ rfl) ?_
    rintro ⟨k3, p3, s3, w3, h3, a3, u3⟩ ⟨i1, i2, i3, i4⟩
    dsimp only at i1 i2 i3 i4 ⊢
    unfold curBox figB figA
    (repeat' (first | refine TriOps.v1 rfl rfl rfl rfl True.intro ?_ | refine TriOps.nil ?_ | refine Tri.region ?_ | refine Tri.seq ?_ | refine Tri.block ?_ | refine Tri.skip ?_ | refine Tri.exit ?_ | refine TriOps.s1 rfl rfl rfl ?_ | refine TriOps.b1 rfl rfl rfl rfl rfl rfl ?_ | refine TriOps.a1 rfl rfl rfl rfl rfl rfl rfl ?_ | refine TriOps.w1 rfl rfl rfl rfl rfl rfl rfl rfl rfl ?_ | fail))
    refine Tri.cond rfl (fun hd => ?_) (fun hd => ?_)
    · have hd : (k3 : Int) > 0 := of_decide_eq_true hd
      (repeat' (first | refine TriOps.v1 rfl rfl rfl rfl True.intro ?_ | refine TriOps.nil ?_ | refine Tri.region ?_ | refine Tri.seq ?_ | refine Tri.block ?_ | refine Tri.skip ?_ | refine Tri.exit ?_ | refine TriOps.s1 rfl rfl rfl ?_ | refine TriOps.b1 rfl rfl rfl rfl rfl rfl ?_ | refine TriOps.a1 rfl rfl rfl rfl rfl rfl rfl ?_ | refine TriOps.w1 rfl rfl rfl rfl rfl rfl rfl rfl rfl ?_ | fail))
      refine Tri.dl [.loc 7] [6] [(0, 1), (1, 0), (2, 0), (3, 0), (4, 2), (5, 2), (6, 3)] (by kernel_rfl) rfl ?_
      (repeat' (first | refine TS.v1 rfl (fun _ _ h => h) rfl rfl rfl rfl rfl True.intro ?_ | refine TS.t1 rfl (fun _ _ h => h) rfl rfl rfl rfl rfl True.intro ?_ | refine TS.nil ?_ | refine TS.n0 rfl (fun _ _ h => h) rfl rfl rfl ?_ | refine TS.n1 rfl (fun _ _ h => h) rfl rfl rfl ?_ | refine TS.n2 rfl rfl rfl rfl ?_ | refine TS.w1 rfl rfl rfl rfl rfl rfl rfl rfl rfl rfl rfl rfl ?_ | fail))
      refine TS.k1 rfl rfl rfl rfl rfl rfl rfl rfl rfl (edgeOf_draw w h bw bh code p3 s3 hb (by omega) (by omega)) rfl ?_
      rintro _ _ ⟨p4, s4, rfl, h12, h13, a4, u4, rfl, h14, h15⟩
      refine TS.o1 rfl rfl rfl rfl rfl rfl rfl (fiLess_own w3 h3 a3 u3 w h a4 u4 (by omega) (by omega)) rfl rfl rfl ?_
      refine TS.lw1 rfl rfl rfl rfl rfl rfl rfl rfl rfl rfl ?_
      (repeat' (first | refine TriOps.v1 rfl rfl rfl rfl True.intro ?_ | refine TriOps.nil ?_ | refine Tri.region ?_ | refine Tri.seq ?_ | refine Tri.block ?_ | refine Tri.skip ?_ | refine Tri.exit ?_ | refine TriOps.s1 rfl rfl rfl ?_ | refine TriOps.b1 rfl rfl rfl rfl rfl rfl ?_ | refine TriOps.a1 rfl rfl rfl rfl rfl rfl rfl ?_ | refine TriOps.w1 rfl rfl rfl rfl rfl rfl rfl rfl rfl ?_ | fail))
      refine TriOps.v1 rfl rfl rfl rfl (by first | exact True.intro | exact inR_i64 (by omega) (by omega) | omega | (refine ⟨?_, ?_⟩ <;> omega)) ?_
      (repeat' (first | refine TriOps.v1 rfl rfl rfl rfl True.intro ?_ | refine TriOps.nil ?_ | refine Tri.region ?_ | refine Tri.seq ?_ | refine Tri.block ?_ | refine Tri.skip ?_ | refine Tri.exit ?_ | refine TriOps.s1 rfl rfl rfl ?_ | refine TriOps.b1 rfl rfl rfl rfl rfl rfl ?_ | refine TriOps.a1 rfl rfl rfl rfl rfl rfl rfl ?_ | refine TriOps.w1 rfl rfl rfl rfl rfl rfl rfl rfl rfl ?_ | fail))
      have l1 := those_len a3 a4 false
      have l2 := those_len u3 u4 false
      exact ⟨⟨k3 - 1, p4, s4, w3, h3, those a3 a4 false, those u3 u4 false⟩, ⟨by show p ≤ p4; omega, by show p4 + 4 * ((k3 - 1 : Nat) : Int) ≤ p1 + 98; omega, by show (those _ _ _).length ≤ 60; omega, by show (those _ _ _).length ≤ 60; omega⟩, by show k3 - 1 < k3; omega,
        Wk.ren [(.ret 0, some (.tmp 82 0)), (.ret 1, some (.tmp 82 1))] rfl ⟨rfl, rfl, rfl, rfl, rfl, by show AV.d (.int .i64 ((k3 : Int) - 1)) = .d (.int .i64 ((k3 - 1 : Nat) : Int)); rw [show ((k3 - 1 : Nat) : Int) = (k3 : Int) - 1 by omega], trivial⟩ ⟨rfl, rfl, rfl, trivial⟩ ⟨rfl, rfl, trivial⟩ rfl⟩
    · (repeat' (first | refine TriOps.v1 rfl rfl rfl rfl True.intro ?_ | refine TriOps.nil ?_ | refine Tri.region ?_ | refine Tri.seq ?_ | refine Tri.block ?_ | refine Tri.skip ?_ | refine Tri.exit ?_ | refine TriOps.s1 rfl rfl rfl ?_ | refine TriOps.b1 rfl rfl rfl rfl rfl rfl ?_ | refine TriOps.a1 rfl rfl rfl rfl rfl rfl rfl ?_ | refine TriOps.w1 rfl rfl rfl rfl rfl rfl rfl rfl rfl ?_ | fail))
      refine Tri.ret (retKO (r := figO w3 h3) (ral := figA a3 u3) (bx' := curBox code p3 s3) [(.ret 0, some (.ret 0)), (.ret 1, some (.ret 1))] 84 [(6, .ptr (.loc 6) 0)] [(.out 0, curBox code p3 s3), (.loc 6, figB w3 h3)] rfl ⟨rfl, trivial⟩ ⟨rfl, rfl, trivial⟩ ⟨rfl, rfl, trivial⟩ rfl rfl rfl (AV.Le.refl _) rfl ⟨rfl, rfl, trivial⟩ ⟨p3, s3, w3, h3, a3, u3, rfl, by omega, by omega, rfl, rfl, i3, i4⟩)
end Go.Proofs.YthmbdoegcpicbaaDoor.Abs

/-! ## C21 -/
namespace Go.Proofs.YthmbdoegcpicbaaDoor.Abs
open Go.Proofs
def AFig (r : AV) : Prop := ∃ w h a u, r = fig w h a u ∧ a.length ≤ 100 ∧ u.length ≤ 100
set_option maxHeartbeats 1000000 in
theorem figure_draw (m : Int) (hm : 1 ≤ m ∧ m ≤ 4) : Draws 92 [.d (.int .i64 m)] 110 AFig := by
  intro code p s hb hp hK
  refine Fn.s (E := env) 45 [(.out 0,  curBox code p s)] [] Tryd.func92 rfl (by kernel_rfl) rfl rfl ?_
  (repeat' (first | refine TriOps.v1 rfl rfl rfl rfl True.intro ?_ | refine TriOps.nil ?_ | refine Tri.region ?_ | refine Tri.seq ?_ | refine Tri.block ?_ | refine Tri.skip ?_ | refine Tri.exit ?_ | refine TriOps.s1 rfl rfl rfl ?_ | refine TriOps.b1 rfl rfl rfl rfl rfl rfl ?_ | refine TriOps.a1 rfl rfl rfl rfl rfl rfl rfl ?_ | refine TriOps.w1 rfl rfl rfl rfl rfl rfl rfl rfl rfl ?_ | fail))
  refine TriOps.k1 rfl rfl rfl rfl rfl rfl rfl (pick_draw m code p s hb hp (by omega)) rfl ?_
  rintro _ _ ⟨p1, s1, rfl, h4, h5, k, rfl, h6, h7⟩
  refine TriOps.v1 rfl rfl rfl rfl (by first | exact True.intro | exact inR_i64 (by omega) (by omega) | omega | (refine ⟨?_, ?_⟩ <;> omega)) ?_
  (repeat' (first | refine TriOps.v1 rfl rfl rfl rfl True.intro ?_ | refine TriOps.nil ?_ | refine Tri.region ?_ | refine Tri.seq ?_ | refine Tri.block ?_ | refine Tri.skip ?_ | refine Tri.exit ?_ | refine TriOps.s1 rfl rfl rfl ?_ | refine TriOps.b1 rfl rfl rfl rfl rfl rfl ?_ | refine TriOps.a1 rfl rfl rfl rfl rfl rfl rfl ?_ | refine TriOps.w1 rfl rfl rfl rfl rfl rfl rfl rfl rfl ?_ | fail))
  refine TriOps.k1 rfl rfl rfl rfl rfl rfl rfl (pick_draw m code p1 s1 hb (by omega) (by omega)) rfl ?_
  rintro _ _ ⟨p2, s2, rfl, h8, h9, k2, rfl, h10, h11⟩
  refine TriOps.v1 rfl rfl rfl rfl (by first | exact True.intro | exact inR_i64 (by omega) (by omega) | omega | (refine ⟨?_, ?_⟩ <;> omega)) ?_
  refine TriOps.ko1 rfl rfl rfl rfl rfl rfl rfl (sure_draw (1 + k) (1 + k2) (by omega) (by omega) code p2 s2 hb (by omega) (by omega)) rfl ?_
  rintro _ _ _ ⟨p3, s3, w, h, a, u, rfl, h12, h13, rfl, rfl, h14, h15⟩
  unfold figA iArr
  (repeat' (first | refine TriOps.v1 rfl rfl rfl rfl True.intro ?_ | refine TriOps.nil ?_ | refine Tri.region ?_ | refine Tri.seq ?_ | refine Tri.block ?_ | refine Tri.skip ?_ | refine Tri.exit ?_ | refine TriOps.s1 rfl rfl rfl ?_ | refine TriOps.b1 rfl rfl rfl rfl rfl rfl ?_ | refine TriOps.a1 rfl rfl rfl rfl rfl rfl rfl ?_ | refine TriOps.w1 rfl rfl rfl rfl rfl rfl rfl rfl rfl ?_ | fail))
  refine TriOps.k1 rfl rfl rfl rfl rfl rfl rfl (pick_draw 18 code p3 s3 hb (by omega) (by omega)) rfl ?_
  rintro _ _ ⟨p4, s4, rfl, h16, h17, k4, rfl, h18, h19⟩
  (repeat' (first | refine TriOps.v1 rfl rfl rfl rfl True.intro ?_ | refine TriOps.nil ?_ | refine Tri.region ?_ | refine Tri.seq ?_ | refine TriOps.s1 rfl rfl rfl ?_ | refine TriOps.b1 rfl rfl rfl rfl rfl rfl ?_ | refine TriOps.a1 rfl rfl rfl rfl rfl rfl rfl ?_ | refine TriOps.w1 rfl rfl rfl rfl rfl rfl rfl rfl rfl ?_ | fail))
  refine Tri.join (fun x : SX => (p ≤ x.p ∧ x.p ≤ p + 110) ∧ x.a.length ≤ 100 ∧ x.u.length ≤ 100) (fun x => stt 45 [(4, .ptr (.loc 4) 0), (5, .ptr (.loc 5) 0)] [(.out 0, curBox code x.p x.s), (.loc 4, figZ), (.loc 5, figB x.w x.h)] (figA x.a x.u)) ?_ ?_
  · (repeat' (first | refine TriOps.v1 rfl rfl rfl rfl True.intro ?_ | refine TriOps.nil ?_ | refine Tri.region ?_ | refine Tri.seq ?_ | refine Tri.block ?_ | refine Tri.skip ?_ | refine Tri.exit ?_ | refine TriOps.s1 rfl rfl rfl ?_ | refine TriOps.b1 rfl rfl rfl rfl rfl rfl ?_ | refine TriOps.a1 rfl rfl rfl rfl rfl rfl rfl ?_ | refine TriOps.w1 rfl rfl rfl rfl rfl rfl rfl rfl rfl ?_ | fail))
    refine Tri.cond rfl (fun hc => ?_) (fun hc => ?_)
    · (repeat' (first | refine TriOps.v1 rfl rfl rfl rfl True.intro ?_ | refine TriOps.nil ?_ | refine Tri.region ?_ | refine Tri.seq ?_ | refine Tri.block ?_ | refine Tri.skip ?_ | refine Tri.exit ?_ | refine TriOps.s1 rfl rfl rfl ?_ | refine TriOps.b1 rfl rfl rfl rfl rfl rfl ?_ | refine TriOps.a1 rfl rfl rfl rfl rfl rfl rfl ?_ | refine TriOps.w1 rfl rfl rfl rfl rfl rfl rfl rfl rfl ?_ | fail))
      refine TriOps.f1 rfl rfl rfl rfl rfl rfl rfl rfl ?_
      refine TriOps.k1 rfl rfl rfl rfl rfl rfl rfl (among_draw [0, 1, 5, -1, 4611686018427387904] (by simp) (by simp) code p4 s4 hb (by omega) (by omega)) rfl ?_
      rintro _ _ ⟨p5, s5, rfl, h20, h21, k5, rfl, h22⟩
      (repeat' (first | refine TriOps.v1 rfl rfl rfl rfl True.intro ?_ | refine TriOps.nil ?_ | refine Tri.region ?_ | refine Tri.seq ?_ | refine Tri.block ?_ | refine Tri.skip ?_ | refine Tri.exit ?_ | refine TriOps.s1 rfl rfl rfl ?_ | refine TriOps.b1 rfl rfl rfl rfl rfl rfl ?_ | refine TriOps.a1 rfl rfl rfl rfl rfl rfl rfl ?_ | refine TriOps.w1 rfl rfl rfl rfl rfl rfl rfl rfl rfl ?_ | fail))
      exact ⟨⟨0, p5, s5, k5, h, a, u⟩, ⟨⟨by show p ≤ p5; omega, by show p5 ≤ p + 110; omega⟩, by show a.length ≤ 100; omega, by show u.length ≤ 100; omega⟩, Wk.ren [(.ret 0, some (.tmp 15 0)), (.ret 1, some (.tmp 15 1))] rfl ⟨rfl, rfl, trivial⟩ ⟨rfl, rfl, rfl, trivial⟩ ⟨rfl, rfl, trivial⟩ rfl⟩
    · (repeat' (first | refine TriOps.v1 rfl rfl rfl rfl True.intro ?_ | refine TriOps.nil ?_ | refine Tri.region ?_ | refine Tri.seq ?_ | refine Tri.block ?_ | refine Tri.skip ?_ | refine Tri.exit ?_ | refine TriOps.s1 rfl rfl rfl ?_ | refine TriOps.b1 rfl rfl rfl rfl rfl rfl ?_ | refine TriOps.a1 rfl rfl rfl rfl rfl rfl rfl ?_ | refine TriOps.w1 rfl rfl rfl rfl rfl rfl rfl rfl rfl ?_ | fail))
      refine Tri.cond rfl (fun hc => ?_) (fun hc => ?_)
      · (repeat' (first | refine TriOps.v1 rfl rfl rfl rfl True.intro ?_ | refine TriOps.nil ?_ | refine Tri.region ?_ | refine Tri.seq ?_ | refine Tri.block ?_ | refine Tri.skip ?_ | refine Tri.exit ?_ | refine TriOps.s1 rfl rfl rfl ?_ | refine TriOps.b1 rfl rfl rfl rfl rfl rfl ?_ | refine TriOps.a1 rfl rfl rfl rfl rfl rfl rfl ?_ | refine TriOps.w1 rfl rfl rfl rfl rfl rfl rfl rfl rfl ?_ | fail))
        refine Tri.dl [.loc 5] [8] [(0, 0), (1, 1), (2, 0), (3, 2), (4, 2), (5, 2), (6, 2), (7, 0), (8, 3)] (by kernel_rfl) rfl ?_
        (repeat' (first | refine TS.v1 rfl (fun _ _ h => h) rfl rfl rfl rfl rfl True.intro ?_ | refine TS.t1 rfl (fun _ _ h => h) rfl rfl rfl rfl rfl True.intro ?_ | refine TS.nil ?_ | refine TS.n0 rfl (fun _ _ h => h) rfl rfl rfl ?_ | refine TS.n1 rfl (fun _ _ h => h) rfl rfl rfl ?_ | refine TS.n2 rfl rfl rfl rfl ?_ | refine TS.w1 rfl rfl rfl rfl rfl rfl rfl rfl rfl rfl rfl rfl ?_ | fail))
        refine TS.f1 rfl rfl rfl rfl rfl rfl rfl rfl rfl rfl ?_
        refine TS.k1 rfl rfl rfl rfl rfl rfl rfl rfl rfl (among_draw [-1, 0, 19, 20, 4611686018427387904] (by simp) (by simp) code p4 s4 hb (by omega) (by omega)) rfl ?_
        rintro _ _ ⟨p5, s5, rfl, h20, h21, k5, rfl, h22⟩
        refine TS.f1 rfl rfl rfl rfl rfl rfl rfl rfl rfl rfl ?_
        refine TS.p1 rfl rfl rfl rfl rfl rfl rfl rfl rfl rfl rfl rfl rfl rfl rfl rfl (app_ok (m := a.length + 1) (by simp) (by omega)) ?_
        (repeat' (first | refine TS.v1 rfl (fun _ _ h => h) rfl rfl rfl rfl rfl True.intro ?_ | refine TS.t1 rfl (fun _ _ h => h) rfl rfl rfl rfl rfl True.intro ?_ | refine TS.nil ?_ | refine TS.n0 rfl (fun _ _ h => h) rfl rfl rfl ?_ | refine TS.n1 rfl (fun _ _ h => h) rfl rfl rfl ?_ | refine TS.n2 rfl rfl rfl rfl ?_ | refine TS.w1 rfl rfl rfl rfl rfl rfl rfl rfl rfl rfl rfl rfl ?_ | fail))
        refine TS.lw1 rfl rfl rfl rfl rfl rfl rfl rfl rfl rfl ?_
        (repeat' (first | refine TriOps.v1 rfl rfl rfl rfl True.intro ?_ | refine TriOps.nil ?_ | refine Tri.region ?_ | refine Tri.seq ?_ | refine Tri.block ?_ | refine Tri.skip ?_ | refine Tri.exit ?_ | refine TriOps.s1 rfl rfl rfl ?_ | refine TriOps.b1 rfl rfl rfl rfl rfl rfl ?_ | refine TriOps.a1 rfl rfl rfl rfl rfl rfl rfl ?_ | refine TriOps.w1 rfl rfl rfl rfl rfl rfl rfl rfl rfl ?_ | fail))
        exact ⟨⟨0, p5, s5, w, h, a ++ [k5], u⟩, ⟨⟨by show p ≤ p5; omega, by show p5 ≤ p + 110; omega⟩, by show (a ++ [k5]).length ≤ 100; simp; omega, by show u.length ≤ 100; omega⟩, Wk.ren [(.ret 0, some (.tmp 32 0)), (.ret 1, some (.tmp 15 1))] rfl ⟨rfl, rfl, trivial⟩ ⟨rfl, rfl, rfl, trivial⟩ ⟨rfl, rfl, trivial⟩ rfl⟩
      · (repeat' (first | refine TriOps.v1 rfl rfl rfl rfl True.intro ?_ | refine TriOps.nil ?_ | refine Tri.region ?_ | refine Tri.seq ?_ | refine Tri.block ?_ | refine Tri.skip ?_ | refine Tri.exit ?_ | refine TriOps.s1 rfl rfl rfl ?_ | refine TriOps.b1 rfl rfl rfl rfl rfl rfl ?_ | refine TriOps.a1 rfl rfl rfl rfl rfl rfl rfl ?_ | refine TriOps.w1 rfl rfl rfl rfl rfl rfl rfl rfl rfl ?_ | fail))
        refine Tri.cond rfl (fun hc => ?_) (fun hc => ?_)
        · (repeat' (first | refine TriOps.v1 rfl rfl rfl rfl True.intro ?_ | refine TriOps.nil ?_ | refine Tri.region ?_ | refine Tri.seq ?_ | refine Tri.block ?_ | refine Tri.skip ?_ | refine Tri.exit ?_ | refine TriOps.s1 rfl rfl rfl ?_ | refine TriOps.b1 rfl rfl rfl rfl rfl rfl ?_ | refine TriOps.a1 rfl rfl rfl rfl rfl rfl rfl ?_ | refine TriOps.w1 rfl rfl rfl rfl rfl rfl rfl rfl rfl ?_ | fail))
          refine Tri.dl [.loc 5] [8] [(0, 0), (4, 0), (5, 1), (1, 2), (2, 2), (3, 2), (6, 2), (7, 0), (8, 3)] (by kernel_rfl) rfl ?_
          (repeat' (first | refine TS.v1 rfl (fun _ _ h => h) rfl rfl rfl rfl rfl True.intro ?_ | refine TS.t1 rfl (fun _ _ h => h) rfl rfl rfl rfl rfl True.intro ?_ | refine TS.nil ?_ | refine TS.n0 rfl (fun _ _ h => h) rfl rfl rfl ?_ | refine TS.n1 rfl (fun _ _ h => h) rfl rfl rfl ?_ | refine TS.n2 rfl rfl rfl rfl ?_ | refine TS.w1 rfl rfl rfl rfl rfl rfl rfl rfl rfl rfl rfl rfl ?_ | fail))
          refine TS.f1 rfl rfl rfl rfl rfl rfl rfl rfl rfl rfl ?_
          refine TS.k1 rfl rfl rfl rfl rfl rfl rfl rfl rfl (among_draw [-1, 3, 0] (by simp) (by simp) code p4 s4 hb (by omega) (by omega)) rfl ?_
          rintro _ _ ⟨p5, s5, rfl, h20, h21, k5, rfl, h22⟩
          refine TS.y1 rfl rfl rfl rfl rfl rfl rfl rfl rfl ?_
          refine TS.p1 rfl rfl rfl rfl rfl rfl rfl rfl rfl rfl rfl rfl rfl rfl rfl rfl (app_ok (m := u.length + 1) (by simp) (by omega)) ?_
          (repeat' (first | refine TS.v1 rfl (fun _ _ h => h) rfl rfl rfl rfl rfl True.intro ?_ | refine TS.t1 rfl (fun _ _ h => h) rfl rfl rfl rfl rfl True.intro ?_ | refine TS.nil ?_ | refine TS.n0 rfl (fun _ _ h => h) rfl rfl rfl ?_ | refine TS.n1 rfl (fun _ _ h => h) rfl rfl rfl ?_ | refine TS.n2 rfl rfl rfl rfl ?_ | refine TS.w1 rfl rfl rfl rfl rfl rfl rfl rfl rfl rfl rfl rfl ?_ | fail))
          refine TS.lw1 rfl rfl rfl rfl rfl rfl rfl rfl rfl rfl ?_
          (repeat' (first | refine TriOps.v1 rfl rfl rfl rfl True.intro ?_ | refine TriOps.nil ?_ | refine Tri.region ?_ | refine Tri.seq ?_ | refine Tri.block ?_ | refine Tri.skip ?_ | refine Tri.exit ?_ | refine TriOps.s1 rfl rfl rfl ?_ | refine TriOps.b1 rfl rfl rfl rfl rfl rfl ?_ | refine TriOps.a1 rfl rfl rfl rfl rfl rfl rfl ?_ | refine TriOps.w1 rfl rfl rfl rfl rfl rfl rfl rfl rfl ?_ | fail))
          exact ⟨⟨0, p5, s5, w, h, a, [k5] ++ u⟩, ⟨⟨by show p ≤ p5; omega, by show p5 ≤ p + 110; omega⟩, by show a.length ≤ 100; omega, by show ([k5] ++ u).length ≤ 100; simp; omega⟩, Wk.ren [(.ret 0, some (.tmp 15 0)), (.ret 1, some (.tmp 42 0))] rfl ⟨rfl, rfl, trivial⟩ ⟨rfl, rfl, rfl, trivial⟩ ⟨rfl, rfl, trivial⟩ rfl⟩
        · (repeat' (first | refine TriOps.v1 rfl rfl rfl rfl True.intro ?_ | refine TriOps.nil ?_ | refine Tri.region ?_ | refine Tri.seq ?_ | refine Tri.block ?_ | refine Tri.skip ?_ | refine Tri.exit ?_ | refine TriOps.s1 rfl rfl rfl ?_ | refine TriOps.b1 rfl rfl rfl rfl rfl rfl ?_ | refine TriOps.a1 rfl rfl rfl rfl rfl rfl rfl ?_ | refine TriOps.w1 rfl rfl rfl rfl rfl rfl rfl rfl rfl ?_ | fail))
          exact ⟨⟨0, p4, s4, w, h, a, u⟩, ⟨⟨by show p ≤ p4; omega, by show p4 ≤ p + 110; omega⟩, by show a.length ≤ 100; omega, by show u.length ≤ 100; omega⟩, Wk.ren [(.ret 0, some (.tmp 15 0)), (.ret 1, some (.tmp 15 1))] rfl ⟨rfl, rfl, trivial⟩ ⟨rfl, rfl, rfl, trivial⟩ ⟨rfl, rfl, trivial⟩ rfl⟩
  · rintro ⟨_, p5, s5, w5, h5, a5, u5⟩ ⟨⟨i1, i2⟩, i3, i4⟩
    dsimp only at i1 i2 i3 i4 ⊢
    unfold figB figA
    (repeat' (first | refine TriOps.v1 rfl rfl rfl rfl True.intro ?_ | refine TriOps.nil ?_ | refine Tri.region ?_ | refine Tri.seq ?_ | refine Tri.block ?_ | refine Tri.skip ?_ | refine Tri.exit ?_ | refine TriOps.s1 rfl rfl rfl ?_ | refine TriOps.b1 rfl rfl rfl rfl rfl rfl ?_ | refine TriOps.a1 rfl rfl rfl rfl rfl rfl rfl ?_ | refine TriOps.w1 rfl rfl rfl rfl rfl rfl rfl rfl rfl ?_ | fail))
    refine Tri.weak (Wk.frz (t := .ret 0) rfl rfl) ?_
    refine Tri.weak (Wk.frz (t := .ret 1) rfl rfl) ?_
    refine Tri.w (n := 45) [(4, .ptr (.loc 4) 0)] [(.out 0, curBox code p5 s5), (.loc 4, ⟨26, [.d (.int .i64 w5), .d (.int .i64 h5), .d (.ints .i64 a5), .d (.ints .i64 u5)]⟩)] [] rfl ⟨rfl, trivial⟩ ⟨rfl, rfl, trivial⟩ trivial ?_
    refine Tri.ret (retK1 (r := fig w5 h5 a5 u5) (bx' := curBox code p5 s5) rfl rfl (AV.Le.refl _) rfl ⟨p5, s5, rfl, i1, i2, w5, h5, a5, u5, rfl, i3, i4⟩)
def A2Fig (r : AV) : Prop := ∃ w h a u w' h' a' u', r = .tuple [fig w h a u, fig w' h' a' u'] ∧ (a.length ≤ 100 ∧ u.length ≤ 100) ∧ a'.length ≤ 100 ∧ u'.length ≤ 100
set_option maxHeartbeats 1000000 in
theorem twoFigures_draw : Draws 48 [] 250 A2Fig := by
  intro code p s hb hp hK
  refine Fn.s (E := env) 26 [(.out 0,  curBox code p s)] [] Tryd.func48 rfl (by kernel_rfl) rfl rfl ?_
  (repeat' (first | refine TriOps.v1 rfl rfl rfl rfl True.intro ?_ | refine TriOps.nil ?_ | refine Tri.region ?_ | refine Tri.seq ?_ | refine Tri.block ?_ | refine Tri.skip ?_ | refine Tri.exit ?_ | refine TriOps.s1 rfl rfl rfl ?_ | refine TriOps.b1 rfl rfl rfl rfl rfl rfl ?_ | refine TriOps.a1 rfl rfl rfl rfl rfl rfl rfl ?_ | refine TriOps.w1 rfl rfl rfl rfl rfl rfl rfl rfl rfl ?_ | fail))
  refine TriOps.k1 rfl rfl rfl rfl rfl rfl rfl (one_draw 10 code p s hb hp (by omega)) rfl ?_
  rintro _ _ ⟨p1, s1, rfl, h4, h5, b, rfl⟩
  (repeat' (first | refine TriOps.v1 rfl rfl rfl rfl True.intro ?_ | refine TriOps.nil ?_ | refine Tri.region ?_ | refine Tri.seq ?_ | refine Tri.block ?_ | refine Tri.skip ?_ | refine Tri.exit ?_ | refine TriOps.s1 rfl rfl rfl ?_ | refine TriOps.b1 rfl rfl rfl rfl rfl rfl ?_ | refine TriOps.a1 rfl rfl rfl rfl rfl rfl rfl ?_ | refine TriOps.w1 rfl rfl rfl rfl rfl rfl rfl rfl rfl ?_ | fail))
  refine Tri.cond rfl (fun hc => ?_) (fun hc => ?_)
  · (repeat' (first | refine TriOps.v1 rfl rfl rfl rfl True.intro ?_ | refine TriOps.nil ?_ | refine Tri.region ?_ | refine Tri.seq ?_ | refine Tri.block ?_ | refine Tri.skip ?_ | refine Tri.exit ?_ | refine TriOps.s1 rfl rfl rfl ?_ | refine TriOps.b1 rfl rfl rfl rfl rfl rfl ?_ | refine TriOps.a1 rfl rfl rfl rfl rfl rfl rfl ?_ | refine TriOps.w1 rfl rfl rfl rfl rfl rfl rfl rfl rfl ?_ | fail))
    refine TriOps.k1 rfl rfl rfl rfl rfl rfl rfl (figure_draw 3 (by omega) code p1 s1 hb (by omega) (by omega)) rfl ?_
    rintro _ _ ⟨p2, s2, rfl, h6, h7, w2, h2, a2, u2, rfl, h8, h9⟩
    (repeat' (first | refine TriOps.v1 rfl rfl rfl rfl True.intro ?_ | refine TriOps.nil ?_ | refine Tri.region ?_ | refine Tri.seq ?_ | refine Tri.block ?_ | refine Tri.skip ?_ | refine Tri.exit ?_ | refine TriOps.s1 rfl rfl rfl ?_ | refine TriOps.b1 rfl rfl rfl rfl rfl rfl ?_ | refine TriOps.a1 rfl rfl rfl rfl rfl rfl rfl ?_ | refine TriOps.w1 rfl rfl rfl rfl rfl rfl rfl rfl rfl ?_ | fail))
    refine TriOps.k1 rfl rfl rfl rfl rfl rfl rfl (figure_draw 3 (by omega) code p2 s2 hb (by omega) (by omega)) rfl ?_
    rintro _ _ ⟨p3, s3, rfl, h10, h11, w3, h3, a3, u3, rfl, h12, h13⟩
    (repeat' (first | refine TriOps.v1 rfl rfl rfl rfl True.intro ?_ | refine TriOps.nil ?_ | refine Tri.region ?_ | refine Tri.seq ?_ | refine Tri.block ?_ | refine Tri.skip ?_ | refine Tri.exit ?_ | refine TriOps.s1 rfl rfl rfl ?_ | refine TriOps.b1 rfl rfl rfl rfl rfl rfl ?_ | refine TriOps.a1 rfl rfl rfl rfl rfl rfl rfl ?_ | refine TriOps.w1 rfl rfl rfl rfl rfl rfl rfl rfl rfl ?_ | fail))
    refine Tri.ret (retK1 (bx' := curBox code p3 s3) rfl rfl (AV.Le.refl _) rfl ⟨p3, s3, rfl, by omega, by omega, w2, h2, a2, u2, w3, h3, a3, u3, rfl, ⟨h8, h9⟩, h12, h13⟩)
  · (repeat' (first | refine TriOps.v1 rfl rfl rfl rfl True.intro ?_ | refine TriOps.nil ?_ | refine Tri.region ?_ | refine Tri.seq ?_ | refine Tri.block ?_ | refine Tri.skip ?_ | refine Tri.exit ?_ | refine TriOps.s1 rfl rfl rfl ?_ | refine TriOps.b1 rfl rfl rfl rfl rfl rfl ?_ | refine TriOps.a1 rfl rfl rfl rfl rfl rfl rfl ?_ | refine TriOps.w1 rfl rfl rfl rfl rfl rfl rfl rfl rfl ?_ | fail))
    refine TriOps.k1 rfl rfl rfl rfl rfl rfl rfl (pick_draw 3 code p1 s1 hb (by omega) (by omega)) rfl ?_
    rintro _ _ ⟨p2, s2, rfl, h6, h7, k, rfl, h8, h9⟩
    refine TriOps.v1 rfl rfl rfl rfl (by first | exact True.intro | exact inR_i64 (by omega) (by omega) | omega | (refine ⟨?_, ?_⟩ <;> omega)) ?_
    (repeat' (first | refine TriOps.v1 rfl rfl rfl rfl True.intro ?_ | refine TriOps.nil ?_ | refine Tri.region ?_ | refine Tri.seq ?_ | refine Tri.block ?_ | refine Tri.skip ?_ | refine Tri.exit ?_ | refine TriOps.s1 rfl rfl rfl ?_ | refine TriOps.b1 rfl rfl rfl rfl rfl rfl ?_ | refine TriOps.a1 rfl rfl rfl rfl rfl rfl rfl ?_ | refine TriOps.w1 rfl rfl rfl rfl rfl rfl rfl rfl rfl ?_ | fail))
    refine TriOps.k1 rfl rfl rfl rfl rfl rfl rfl (pick_draw 3 code p2 s2 hb (by omega) (by omega)) rfl ?_
    rintro _ _ ⟨p3, s3, rfl, h10, h11, k2, rfl, h12, h13⟩
    refine TriOps.v1 rfl rfl rfl rfl (by first | exact True.intro | exact inR_i64 (by omega) (by omega) | omega | (refine ⟨?_, ?_⟩ <;> omega)) ?_
    (repeat' (first | refine TriOps.v1 rfl rfl rfl rfl True.intro ?_ | refine TriOps.nil ?_ | refine Tri.region ?_ | refine Tri.seq ?_ | refine Tri.block ?_ | refine Tri.skip ?_ | refine Tri.exit ?_ | refine TriOps.s1 rfl rfl rfl ?_ | refine TriOps.b1 rfl rfl rfl rfl rfl rfl ?_ | refine TriOps.a1 rfl rfl rfl rfl rfl rfl rfl ?_ | refine TriOps.w1 rfl rfl rfl rfl rfl rfl rfl rfl rfl ?_ | fail))
    refine TriOps.ko1 rfl rfl rfl rfl rfl rfl rfl (sure_draw (1 + k) (1 + k2) (by omega) (by omega) code p3 s3 hb (by omega) (by omega)) rfl ?_
    rintro _ _ _ ⟨p4, s4, w, h, a, u, rfl, h14, h15, rfl, rfl, h16, h17⟩
    unfold figA iArr
    (repeat' (first | refine TriOps.v1 rfl rfl rfl rfl True.intro ?_ | refine TriOps.nil ?_ | refine Tri.region ?_ | refine Tri.seq ?_ | refine Tri.block ?_ | refine Tri.skip ?_ | refine Tri.exit ?_ | refine TriOps.s1 rfl rfl rfl ?_ | refine TriOps.b1 rfl rfl rfl rfl rfl rfl ?_ | refine TriOps.a1 rfl rfl rfl rfl rfl rfl rfl ?_ | refine TriOps.w1 rfl rfl rfl rfl rfl rfl rfl rfl rfl ?_ | fail))
    refine TriOps.ko1 rfl rfl rfl rfl rfl rfl rfl (sure_draw (1 + k) (1 + k2) (by omega) (by omega) code p4 s4 hb (by omega) (by omega)) rfl ?_
    rintro _ _ _ ⟨p5, s5, w5, h5, a5, u5, rfl, h18, h19, rfl, rfl, h20, h21⟩
    unfold figA iArr
    (repeat' (first | refine TriOps.v1 rfl rfl rfl rfl True.intro ?_ | refine TriOps.nil ?_ | refine Tri.region ?_ | refine Tri.seq ?_ | refine Tri.block ?_ | refine Tri.skip ?_ | refine Tri.exit ?_ | refine TriOps.s1 rfl rfl rfl ?_ | refine TriOps.b1 rfl rfl rfl rfl rfl rfl ?_ | refine TriOps.a1 rfl rfl rfl rfl rfl rfl rfl ?_ | refine TriOps.w1 rfl rfl rfl rfl rfl rfl rfl rfl rfl ?_ | fail))
    refine Tri.weak (Wk.frz (t := .tmp 21 0) rfl rfl) ?_
    refine Tri.weak (Wk.frz (t := .tmp 21 1) rfl rfl) ?_
    refine Tri.weak (Wk.frz (t := .tmp 25 0) rfl rfl) ?_
    refine Tri.weak (Wk.frz (t := .tmp 25 1) rfl rfl) ?_
    refine Tri.w (n := 26) [(2, .ptr (.loc 2) 0), (3, .ptr (.loc 3) 0)] [(.out 0, curBox code p5 s5), (.loc 2, ⟨26, [.d (.int .i64 w), .d (.int .i64 h), .d (.ints .i64 a), .d (.ints .i64 u)]⟩), (.loc 3, ⟨26, [.d (.int .i64 w5), .d (.int .i64 h5), .d (.ints .i64 a5), .d (.ints .i64 u5)]⟩)] [] rfl ⟨rfl, rfl, trivial⟩ ⟨rfl, rfl, rfl, trivial⟩ trivial ?_
    refine Tri.ret (retK1 (bx' := curBox code p5 s5) rfl rfl (AV.Le.refl _) rfl ⟨p5, s5, rfl, by omega, by omega, w, h, a, u, w5, h5, a5, u5, rfl, ⟨by omega, by omega⟩, by omega, by omega⟩)
end Go.Proofs.YthmbdoegcpicbaaDoor.Abs
