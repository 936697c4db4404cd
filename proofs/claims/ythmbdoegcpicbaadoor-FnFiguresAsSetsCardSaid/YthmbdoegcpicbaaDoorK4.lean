/- The parts of the proof from 'C22' to 'R0': Contracts: the arguments that the law draws. Conditions: none beyond those that each contract bears. -/
import Derived.Test.YthmbdoegcpicbaaDoorRows
import Derived.ProofKit
import Derived.LaidMore
import Derived.OpenShut
import Derived.Stop.Joined
import Derived.Carry
import Derived.Below
import Derived.Test.YthmbdoegcpicbaaDoorK3
set_option linter.unusedVariables false
set_option linter.unusedSimpArgs false

/-! ## C22 -/
namespace Go.Proofs.YthmbdoegcpicbaaDoor.Abs
open Go.Proofs
theorem drawJoin_fn (code : List Int) (hb : Bytes code) : FnR env 7 [.d (.ints .u8 code)] A2Fig := by
  refine Fn.rs (E := env) 12 Tryd.func7 rfl (by kernel_rfl) rfl rfl ?_
  (repeat' (first | refine TriOps.v1 rfl rfl rfl rfl True.intro ?_ | refine TriOps.nil ?_ | refine Tri.region ?_ | refine Tri.seq ?_ | refine Tri.block ?_ | refine Tri.skip ?_ | refine Tri.exit ?_ | refine TriOps.s1 rfl rfl rfl ?_ | refine TriOps.b1 rfl rfl rfl rfl rfl rfl ?_ | refine TriOps.a1 rfl rfl rfl rfl rfl rfl rfl ?_ | refine TriOps.w1 rfl rfl rfl rfl rfl rfl rfl rfl rfl ?_ | fail))
  refine TriOps.k1 rfl rfl rfl rfl rfl rfl rfl (twoFigures_draw code 0 0 hb (by omega) (by omega)) rfl ?_
  rintro _ _ ⟨p1, s1, rfl, h4, h5, w, h, a, u, w', h', a', u', rfl, h6, h7⟩
  (repeat' (first | refine TriOps.v1 rfl rfl rfl rfl True.intro ?_ | refine TriOps.nil ?_ | refine Tri.region ?_ | refine Tri.seq ?_ | refine Tri.block ?_ | refine Tri.skip ?_ | refine Tri.exit ?_ | refine TriOps.s1 rfl rfl rfl ?_ | refine TriOps.b1 rfl rfl rfl rfl rfl rfl ?_ | refine TriOps.a1 rfl rfl rfl rfl rfl rfl rfl ?_ | refine TriOps.w1 rfl rfl rfl rfl rfl rfl rfl rfl rfl ?_ | fail))
  refine Tri.ret (retR1 rfl (AV.Le.refl _) rfl ⟨w, h, a, u, w', h', a', u', rfl, h6, h7⟩)
theorem drawIsFigure_fn (code : List Int) (hb : Bytes code) : FnR env 58 [.d (.ints .u8 code)] AFig := by
  refine Fn.rs (E := env) 9 Tryd.func58 rfl (by kernel_rfl) rfl rfl ?_
  (repeat' (first | refine TriOps.v1 rfl rfl rfl rfl True.intro ?_ | refine TriOps.nil ?_ | refine Tri.region ?_ | refine Tri.seq ?_ | refine Tri.block ?_ | refine Tri.skip ?_ | refine Tri.exit ?_ | refine TriOps.s1 rfl rfl rfl ?_ | refine TriOps.b1 rfl rfl rfl rfl rfl rfl ?_ | refine TriOps.a1 rfl rfl rfl rfl rfl rfl rfl ?_ | refine TriOps.w1 rfl rfl rfl rfl rfl rfl rfl rfl rfl ?_ | fail))
  refine TriOps.k1 rfl rfl rfl rfl rfl rfl rfl (figure_draw 4 (by omega) code 0 0 hb (by omega) (by omega)) rfl ?_
  rintro _ _ ⟨p1, s1, rfl, h4, h5, w, h, a, u, rfl, h6, h7⟩
  (repeat' (first | refine TriOps.v1 rfl rfl rfl rfl True.intro ?_ | refine TriOps.nil ?_ | refine Tri.region ?_ | refine Tri.seq ?_ | refine Tri.block ?_ | refine Tri.skip ?_ | refine Tri.exit ?_ | refine TriOps.s1 rfl rfl rfl ?_ | refine TriOps.b1 rfl rfl rfl rfl rfl rfl ?_ | refine TriOps.a1 rfl rfl rfl rfl rfl rfl rfl ?_ | refine TriOps.w1 rfl rfl rfl rfl rfl rfl rfl rfl rfl ?_ | fail))
  refine Tri.ret (retR1 rfl (AV.Le.refl _) rfl ⟨w, h, a, u, rfl, h6, h7⟩)
theorem drawMissing_fn (code : List Int) (hb : Bytes code) : FnR env 17 [.d (.ints .u8 code)] AFig := by
  refine Fn.rs (E := env) 5 Tryd.func17 rfl (by kernel_rfl) rfl rfl ?_
  (repeat' (first | refine TriOps.v1 rfl rfl rfl rfl True.intro ?_ | refine TriOps.nil ?_ | refine Tri.region ?_ | refine Tri.seq ?_ | refine Tri.block ?_ | refine Tri.skip ?_ | refine Tri.exit ?_ | refine TriOps.s1 rfl rfl rfl ?_ | refine TriOps.b1 rfl rfl rfl rfl rfl rfl ?_ | refine TriOps.a1 rfl rfl rfl rfl rfl rfl rfl ?_ | refine TriOps.w1 rfl rfl rfl rfl rfl rfl rfl rfl rfl ?_ | fail))
  refine TriOps.m2 rfl rfl rfl rfl rfl rfl (drawIsFigure_fn code hb) ?_
  rintro _ ⟨w, h, a, u, rfl, h6, h7⟩
  (repeat' (first | refine TriOps.v1 rfl rfl rfl rfl True.intro ?_ | refine TriOps.nil ?_ | refine Tri.region ?_ | refine Tri.seq ?_ | refine Tri.block ?_ | refine Tri.skip ?_ | refine Tri.exit ?_ | refine TriOps.s1 rfl rfl rfl ?_ | refine TriOps.b1 rfl rfl rfl rfl rfl rfl ?_ | refine TriOps.a1 rfl rfl rfl rfl rfl rfl rfl ?_ | refine TriOps.w1 rfl rfl rfl rfl rfl rfl rfl rfl rfl ?_ | fail))
  refine Tri.ret (retR1 rfl (AV.Le.refl _) rfl ⟨w, h, a, u, rfl, h6, h7⟩)
def TwoInts (r : AV) : Prop := ∃ w h : Int, r = .tuple [.d (.int .i64 w), .d (.int .i64 h)]
theorem drawEmpty_fn (code : List Int) (hb : Bytes code) : FnR env 70 [.d (.ints .u8 code)] TwoInts := by
  refine Fn.rs (E := env) 14 Tryd.func70 rfl (by kernel_rfl) rfl rfl ?_
  (repeat' (first | refine TriOps.v1 rfl rfl rfl rfl True.intro ?_ | refine TriOps.nil ?_ | refine Tri.region ?_ | refine Tri.seq ?_ | refine Tri.block ?_ | refine Tri.skip ?_ | refine Tri.exit ?_ | refine TriOps.s1 rfl rfl rfl ?_ | refine TriOps.b1 rfl rfl rfl rfl rfl rfl ?_ | refine TriOps.a1 rfl rfl rfl rfl rfl rfl rfl ?_ | refine TriOps.w1 rfl rfl rfl rfl rfl rfl rfl rfl rfl ?_ | fail))
  refine TriOps.f1 rfl rfl rfl rfl rfl rfl rfl rfl ?_
  refine TriOps.k1 rfl rfl rfl rfl rfl rfl rfl (among_draw [1, 2, 3, 4, 5, 0, -1] (by simp) (by simp) code 0 0 hb (by omega) (by omega)) rfl ?_
  rintro _ _ ⟨p1, s1, rfl, h4, h5, k, rfl, _⟩
  (repeat' (first | refine TriOps.v1 rfl rfl rfl rfl True.intro ?_ | refine TriOps.nil ?_ | refine Tri.region ?_ | refine Tri.seq ?_ | refine Tri.block ?_ | refine Tri.skip ?_ | refine Tri.exit ?_ | refine TriOps.s1 rfl rfl rfl ?_ | refine TriOps.b1 rfl rfl rfl rfl rfl rfl ?_ | refine TriOps.a1 rfl rfl rfl rfl rfl rfl rfl ?_ | refine TriOps.w1 rfl rfl rfl rfl rfl rfl rfl rfl rfl ?_ | fail))
  refine TriOps.f1 rfl rfl rfl rfl rfl rfl rfl rfl ?_
  refine TriOps.k1 rfl rfl rfl rfl rfl rfl rfl (among_draw [1, 2, 3, 4, 5, 0, 4611686018427387904] (by simp) (by simp) code p1 s1 hb (by omega) (by omega)) rfl ?_
  rintro _ _ ⟨p2, s2, rfl, h6, h7, k2, rfl, _⟩
  (repeat' (first | refine TriOps.v1 rfl rfl rfl rfl True.intro ?_ | refine TriOps.nil ?_ | refine Tri.region ?_ | refine Tri.seq ?_ | refine Tri.block ?_ | refine Tri.skip ?_ | refine Tri.exit ?_ | refine TriOps.s1 rfl rfl rfl ?_ | refine TriOps.b1 rfl rfl rfl rfl rfl rfl ?_ | refine TriOps.a1 rfl rfl rfl rfl rfl rfl rfl ?_ | refine TriOps.w1 rfl rfl rfl rfl rfl rfl rfl rfl rfl ?_ | fail))
  refine Tri.ret (retR1 rfl (AV.Le.refl _) rfl ⟨k, k2, rfl⟩)
theorem drawFull_fn (code : List Int) (hb : Bytes code) : FnR env 27 [.d (.ints .u8 code)] TwoInts := by
  refine Fn.rs (E := env) 8 Tryd.func27 rfl (by kernel_rfl) rfl rfl ?_
  (repeat' (first | refine TriOps.v1 rfl rfl rfl rfl True.intro ?_ | refine TriOps.nil ?_ | refine Tri.region ?_ | refine Tri.seq ?_ | refine Tri.block ?_ | refine Tri.skip ?_ | refine Tri.exit ?_ | refine TriOps.s1 rfl rfl rfl ?_ | refine TriOps.b1 rfl rfl rfl rfl rfl rfl ?_ | refine TriOps.a1 rfl rfl rfl rfl rfl rfl rfl ?_ | refine TriOps.w1 rfl rfl rfl rfl rfl rfl rfl rfl rfl ?_ | fail))
  refine TriOps.m2 rfl rfl rfl rfl rfl rfl (drawEmpty_fn code hb) ?_
  rintro _ ⟨k, k2, rfl⟩
  (repeat' (first | refine TriOps.v1 rfl rfl rfl rfl True.intro ?_ | refine TriOps.nil ?_ | refine Tri.region ?_ | refine Tri.seq ?_ | refine Tri.block ?_ | refine Tri.skip ?_ | refine Tri.exit ?_ | refine TriOps.s1 rfl rfl rfl ?_ | refine TriOps.b1 rfl rfl rfl rfl rfl rfl ?_ | refine TriOps.a1 rfl rfl rfl rfl rfl rfl rfl ?_ | refine TriOps.w1 rfl rfl rfl rfl rfl rfl rfl rfl rfl ?_ | fail))
  refine Tri.ret (retR1 rfl (AV.Le.refl _) rfl ⟨k, k2, rfl⟩)
def bigB (c m : List Int) : Bool := bif decide ((c.length : Int) > 1048576) then true else decide ((m.length : Int) > 1048576 - c.length)
theorem big_fn (c m : List Int) : FnV env 6 [.d (.ints .u8 c), .d (.ints .u8 m)] (.d (.bool (bigB c m))) := by
  refine Fn.vs (E := env) 16 Tryd.func6 rfl (by kernel_rfl) rfl rfl ?_
  refine Tri.bnd 0 (fun hl => ?_)
  have hl : c.length ≤ 9223372036854775807 := hl
  (repeat' (first | refine TriOps.v1 rfl rfl rfl rfl True.intro ?_ | refine TriOps.nil ?_ | refine Tri.region ?_ | refine Tri.seq ?_ | refine Tri.block ?_ | refine Tri.skip ?_ | refine Tri.exit ?_ | refine TriOps.s1 rfl rfl rfl ?_ | refine TriOps.b1 rfl rfl rfl rfl rfl rfl ?_ | refine TriOps.a1 rfl rfl rfl rfl rfl rfl rfl ?_ | refine TriOps.w1 rfl rfl rfl rfl rfl rfl rfl rfl rfl ?_ | fail))
  refine TriOps.g1 rfl rfl rfl (fun hg => ?_) (fun hg => ?_)
  · have hg : decide ((c.length : Int) > 1048576) = true := hg
    rw [bigB, hg]
    (repeat' (first | refine TriOps.v1 rfl rfl rfl rfl True.intro ?_ | refine TriOps.nil ?_ | refine Tri.region ?_ | refine Tri.seq ?_ | refine Tri.block ?_ | refine Tri.skip ?_ | refine Tri.exit ?_ | refine TriOps.s1 rfl rfl rfl ?_ | refine TriOps.b1 rfl rfl rfl rfl rfl rfl ?_ | refine TriOps.a1 rfl rfl rfl rfl rfl rfl rfl ?_ | refine TriOps.w1 rfl rfl rfl rfl rfl rfl rfl rfl rfl ?_ | fail))
    refine Tri.ret (retV rfl rfl)
  · have hg : decide ((c.length : Int) > 1048576) = false := hg
    rw [bigB, hg]
    (repeat' (first | refine TriOps.v1 rfl rfl rfl rfl True.intro ?_ | refine TriOps.nil ?_ | refine Tri.region ?_ | refine Tri.seq ?_ | refine Tri.block ?_ | refine Tri.skip ?_ | refine Tri.exit ?_ | refine TriOps.s1 rfl rfl rfl ?_ | refine TriOps.b1 rfl rfl rfl rfl rfl rfl ?_ | refine TriOps.a1 rfl rfl rfl rfl rfl rfl rfl ?_ | refine TriOps.w1 rfl rfl rfl rfl rfl rfl rfl rfl rfl ?_ | fail))
    refine TriOps.v1 rfl rfl rfl rfl (inR_i64 (n := 1048576 - (c.length : Int)) (by omega) (by omega)) ?_
    (repeat' (first | refine TriOps.v1 rfl rfl rfl rfl True.intro ?_ | refine TriOps.nil ?_ | refine Tri.region ?_ | refine Tri.seq ?_ | refine Tri.block ?_ | refine Tri.skip ?_ | refine Tri.exit ?_ | refine TriOps.s1 rfl rfl rfl ?_ | refine TriOps.b1 rfl rfl rfl rfl rfl rfl ?_ | refine TriOps.a1 rfl rfl rfl rfl rfl rfl rfl ?_ | refine TriOps.w1 rfl rfl rfl rfl rfl rfl rfl rfl rfl ?_ | fail))
    refine Tri.ret (retV rfl rfl)
theorem sMoves_fn (w h : Int) (a u : List Int) (w' h' : Int) (a' u' : List Int) : FnV env 26 [fig w h a u, fig w' h' a' u']
    (bif alike w h a u w' h' a' u' && decide (a.length + u.length = a'.length + u'.length) then okInt (((those a a' false).length : Int) + (those u u' false).length) else noInt) := by
  refine Fn.vs (E := env) 21 Tryd.func26 rfl (by kernel_rfl) rfl rfl ?_
  (repeat' (first | refine TriOps.v1 rfl rfl rfl rfl True.intro ?_ | refine TriOps.nil ?_ | refine Tri.region ?_ | refine Tri.seq ?_ | refine Tri.block ?_ | refine Tri.skip ?_ | refine Tri.exit ?_ | refine TriOps.s1 rfl rfl rfl ?_ | refine TriOps.b1 rfl rfl rfl rfl rfl rfl ?_ | refine TriOps.a1 rfl rfl rfl rfl rfl rfl rfl ?_ | refine TriOps.w1 rfl rfl rfl rfl rfl rfl rfl rfl rfl ?_ | fail))
  refine Tri.dz [.loc 2, .loc 3] [(0, 1), (1, 1), (2, 2), (3, 0), (4, 0), (5, 1), (7, 1), (6, 2), (8, 2), (9, 0), (10, 0)] (by kernel_rfl) rfl ?_
  (repeat' (first | refine TS.v1 rfl (fun _ _ h => h) rfl rfl rfl rfl rfl True.intro ?_ | refine TS.t1 rfl (fun _ _ h => h) rfl rfl rfl rfl rfl True.intro ?_ | refine TS.nil ?_ | refine TS.n0 rfl (fun _ _ h => h) rfl rfl rfl ?_ | refine TS.n1 rfl (fun _ _ h => h) rfl rfl rfl ?_ | refine TS.n2 rfl rfl rfl rfl ?_ | refine TS.w1 rfl rfl rfl rfl rfl rfl rfl rfl rfl rfl rfl rfl ?_ | fail))
  refine TS.c1 rfl rfl rfl rfl rfl rfl rfl (fiTwo_fn _ _ _ _ _ _ _ _) rfl ?_
  (repeat' (first | refine TS.v1 rfl (fun _ _ h => h) rfl rfl rfl rfl rfl True.intro ?_ | refine TS.t1 rfl (fun _ _ h => h) rfl rfl rfl rfl rfl True.intro ?_ | refine TS.nil ?_ | refine TS.n0 rfl (fun _ _ h => h) rfl rfl rfl ?_ | refine TS.n1 rfl (fun _ _ h => h) rfl rfl rfl ?_ | refine TS.n2 rfl rfl rfl rfl ?_ | refine TS.w1 rfl rfl rfl rfl rfl rfl rfl rfl rfl rfl rfl rfl ?_ | fail))
  refine TS.g1 rfl rfl rfl rfl (fun hg => ?_) (fun hg => ?_)
  · have hg : alike w h a u w' h' a' u' = false := by simpa using hg
    rw [hg]
    (repeat' (first | refine TS.v1 rfl (fun _ _ h => h) rfl rfl rfl rfl rfl True.intro ?_ | refine TS.t1 rfl (fun _ _ h => h) rfl rfl rfl rfl rfl True.intro ?_ | refine TS.nil ?_ | refine TS.n0 rfl (fun _ _ h => h) rfl rfl rfl ?_ | refine TS.n1 rfl (fun _ _ h => h) rfl rfl rfl ?_ | refine TS.n2 rfl rfl rfl rfl ?_ | refine TS.w1 rfl rfl rfl rfl rfl rfl rfl rfl rfl rfl rfl rfl ?_ | fail))
    refine Tri.cond rfl (fun hc => ?_) (fun hc => by cases hc)
    (repeat' (first | refine TriOps.v1 rfl rfl rfl rfl True.intro ?_ | refine TriOps.nil ?_ | refine Tri.region ?_ | refine Tri.seq ?_ | refine Tri.block ?_ | refine Tri.skip ?_ | refine Tri.exit ?_ | refine TriOps.s1 rfl rfl rfl ?_ | refine TriOps.b1 rfl rfl rfl rfl rfl rfl ?_ | refine TriOps.a1 rfl rfl rfl rfl rfl rfl rfl ?_ | refine TriOps.w1 rfl rfl rfl rfl rfl rfl rfl rfl rfl ?_ | fail))
    refine Tri.ret (retV rfl rfl)
  · have hg : alike w h a u w' h' a' u' = true := by simpa using hg
    rw [hg]
    obtain ⟨f1, f2, rfl, rfl⟩ := alike_of hg
    have l1 := f1.len
    have l2 := f2.len
    (repeat' (first | refine TS.v1 rfl (fun _ _ h => h) rfl rfl rfl rfl rfl True.intro ?_ | refine TS.t1 rfl (fun _ _ h => h) rfl rfl rfl rfl rfl True.intro ?_ | refine TS.nil ?_ | refine TS.n0 rfl (fun _ _ h => h) rfl rfl rfl ?_ | refine TS.n1 rfl (fun _ _ h => h) rfl rfl rfl ?_ | refine TS.n2 rfl rfl rfl rfl ?_ | refine TS.w1 rfl rfl rfl rfl rfl rfl rfl rfl rfl rfl rfl rfl ?_ | fail))
    refine TS.c1 rfl rfl rfl rfl rfl rfl rfl (fiCount_fn _ _ _ _ (by omega) (by omega)) rfl ?_
    (repeat' (first | refine TS.v1 rfl (fun _ _ h => h) rfl rfl rfl rfl rfl True.intro ?_ | refine TS.t1 rfl (fun _ _ h => h) rfl rfl rfl rfl rfl True.intro ?_ | refine TS.nil ?_ | refine TS.n0 rfl (fun _ _ h => h) rfl rfl rfl ?_ | refine TS.n1 rfl (fun _ _ h => h) rfl rfl rfl ?_ | refine TS.n2 rfl rfl rfl rfl ?_ | refine TS.w1 rfl rfl rfl rfl rfl rfl rfl rfl rfl rfl rfl rfl ?_ | fail))
    refine TS.c1 rfl rfl rfl rfl rfl rfl rfl (fiCount_fn _ _ _ _ (by omega) (by omega)) rfl ?_
    (repeat' (first | refine TS.v1 rfl (fun _ _ h => h) rfl rfl rfl rfl rfl True.intro ?_ | refine TS.t1 rfl (fun _ _ h => h) rfl rfl rfl rfl rfl True.intro ?_ | refine TS.nil ?_ | refine TS.n0 rfl (fun _ _ h => h) rfl rfl rfl ?_ | refine TS.n1 rfl (fun _ _ h => h) rfl rfl rfl ?_ | refine TS.n2 rfl rfl rfl rfl ?_ | refine TS.w1 rfl rfl rfl rfl rfl rfl rfl rfl rfl rfl rfl rfl ?_ | fail))
    refine Tri.cond rfl (fun hc => ?_) (fun hc => ?_)
    · have hc : (((a.length : Int) + u.length) != ((a'.length : Int) + u'.length)) = true := hc
      have : decide (a.length + u.length = a'.length + u'.length) = false := decide_eq_false fun e => by
        have : ((a.length : Int) + u.length) = ((a'.length : Int) + u'.length) := by omega
        rw [this] at hc; simp at hc
      rw [this]
      (repeat' (first | refine TriOps.v1 rfl rfl rfl rfl True.intro ?_ | refine TriOps.nil ?_ | refine Tri.region ?_ | refine Tri.seq ?_ | refine Tri.block ?_ | refine Tri.skip ?_ | refine Tri.exit ?_ | refine TriOps.s1 rfl rfl rfl ?_ | refine TriOps.b1 rfl rfl rfl rfl rfl rfl ?_ | refine TriOps.a1 rfl rfl rfl rfl rfl rfl rfl ?_ | refine TriOps.w1 rfl rfl rfl rfl rfl rfl rfl rfl rfl ?_ | fail))
      refine Tri.ret (retV rfl rfl)
    · have hc : (((a.length : Int) + u.length) != ((a'.length : Int) + u'.length)) = false := hc
      have : decide (a.length + u.length = a'.length + u'.length) = true := decide_eq_true (by
        have : ((a.length : Int) + u.length) = ((a'.length : Int) + u'.length) := by simpa using hc
        omega)
      rw [this]
      have k1 := those_len a a' false
      have k2 := those_len u u' false
      (repeat' (first | refine TriOps.v1 rfl rfl rfl rfl True.intro ?_ | refine TriOps.nil ?_ | refine Tri.region ?_ | refine Tri.seq ?_ | refine Tri.block ?_ | refine Tri.skip ?_ | refine Tri.exit ?_ | refine TriOps.s1 rfl rfl rfl ?_ | refine TriOps.b1 rfl rfl rfl rfl rfl rfl ?_ | refine TriOps.a1 rfl rfl rfl rfl rfl rfl rfl ?_ | refine TriOps.w1 rfl rfl rfl rfl rfl rfl rfl rfl rfl ?_ | fail))
      refine TriOps.m1 rfl rfl rfl rfl rfl rfl (fiLess_fn _ _ _ _ _ _ _ _ (by omega) (by omega)) rfl ?_
      refine TriOps.c1 rfl rfl rfl rfl rfl (fiCount_fn _ _ _ _ (by omega) (by omega)) rfl ?_
      (repeat' (first | refine TriOps.v1 rfl rfl rfl rfl True.intro ?_ | refine TriOps.nil ?_ | refine Tri.region ?_ | refine Tri.seq ?_ | refine Tri.block ?_ | refine Tri.skip ?_ | refine Tri.exit ?_ | refine TriOps.s1 rfl rfl rfl ?_ | refine TriOps.b1 rfl rfl rfl rfl rfl rfl ?_ | refine TriOps.a1 rfl rfl rfl rfl rfl rfl rfl ?_ | refine TriOps.w1 rfl rfl rfl rfl rfl rfl rfl rfl rfl ?_ | fail))
      refine Tri.ret (retV rfl rfl)
end Go.Proofs.YthmbdoegcpicbaaDoor.Abs

/-! ## C23 -/
namespace Go.Proofs.YthmbdoegcpicbaaDoor.Abs
open Go.Proofs
theorem sJoin_some (w h : Int) (a u : List Int) (w' h' : Int) (a' u' : List Int) : ∃ w2 h2 a2 u2 b, FnV env 9 [fig w h a u, fig w' h' a' u'] (.tuple [fig w2 h2 a2 u2, .d (.bool b)]) ∧ a2.length ≤ 100 ∧ u2.length ≤ 100 := by
  have h0 := sJoin_fn w h a u w' h' a' u'
  cases hc : alike w h a u w' h' a' u'
  · rw [hc] at h0
    exact ⟨0, 0, [], [], false, h0, by simp, by simp⟩
  · rw [hc] at h0
    obtain ⟨f1, f2, rfl, rfl⟩ := alike_of hc
    have m1 := mul_bd f1.bw f1.bh
    have m2 := mul_bd f1.bh f1.bw
    refine ⟨_, _, _, _, _, h0, Nat.le_trans (those_upTo_len _ _ _) (by omega), Nat.le_trans (those_upTo_len _ _ _) (by omega)⟩
def figD (w h : Int) (a u : List Int) : Box := ⟨26, [.d (.int .i64 w), .d (.int .i64 h), .d (.ints .i64 a), .d (.ints .i64 u)]⟩
structure EX where
  p : Int
  s : Int
  a : List Int
  u : List Int
  a' : List Int
  u' : List Int
set_option maxHeartbeats 2000000 in
theorem drawMoves_fn (code : List Int) (hb : Bytes code) : FnR env 25 [.d (.ints .u8 code)] A2Fig := by
  refine Fn.rs (E := env) 69 Tryd.func25 rfl (by kernel_rfl) rfl rfl ?_
  (repeat' (first | refine TriOps.v1 rfl rfl rfl rfl True.intro ?_ | refine TriOps.nil ?_ | refine Tri.region ?_ | refine Tri.seq ?_ | refine Tri.block ?_ | refine Tri.skip ?_ | refine Tri.exit ?_ | refine TriOps.s1 rfl rfl rfl ?_ | refine TriOps.b1 rfl rfl rfl rfl rfl rfl ?_ | refine TriOps.a1 rfl rfl rfl rfl rfl rfl rfl ?_ | refine TriOps.w1 rfl rfl rfl rfl rfl rfl rfl rfl rfl ?_ | fail))
  refine TriOps.k1 rfl rfl rfl rfl rfl rfl rfl (twoFigures_draw code 0 0 hb (by omega) (by omega)) rfl ?_
  rintro _ _ ⟨p1, s1, rfl, h4, h5, w, h, a, u, w', h', a', u', rfl, ⟨h6, h6'⟩, h7, h7'⟩
  (repeat' (first | refine TriOps.v1 rfl rfl rfl rfl True.intro ?_ | refine TriOps.s1 rfl rfl rfl ?_ | refine TriOps.b1 rfl rfl rfl rfl rfl rfl ?_ | refine TriOps.a1 rfl rfl rfl rfl rfl rfl rfl ?_ | refine TriOps.w1 rfl rfl rfl rfl rfl rfl rfl rfl rfl ?_ | fail)); refine TriOps.nil ?_; refine Tri.seq ?_
  refine Tri.join (fun ps : Int × Int => (1 ≤ w ∧ w ≤ 4) ∧ (1 ≤ h ∧ h ≤ 4) ∧ (p1 ≤ ps.1 ∧ ps.1 ≤ p1 + 2)) (fun ps => stt 69 [(2, .ptr (.loc 2) 0), (3, .ptr (.loc 3) 0), (4, .ptr (.loc 12) 0), (5, .ptr (.loc 5) 0), (6, .ptr (.loc 6) 0)] [(.loc 12, curBox code ps.1 ps.2), (.loc 2, figZ), (.loc 3, figZ), (.loc 5, figD w h a u), (.loc 6, figD w' h' a' u')] []) ?_ ?_
  · (repeat' (first | refine TriOps.v1 rfl rfl rfl rfl True.intro ?_ | refine TriOps.nil ?_ | refine Tri.region ?_ | refine Tri.seq ?_ | refine Tri.block ?_ | refine Tri.skip ?_ | refine Tri.exit ?_ | refine TriOps.s1 rfl rfl rfl ?_ | refine TriOps.b1 rfl rfl rfl rfl rfl rfl ?_ | refine TriOps.a1 rfl rfl rfl rfl rfl rfl rfl ?_ | refine TriOps.w1 rfl rfl rfl rfl rfl rfl rfl rfl rfl ?_ | fail))
    refine TriOps.c1 rfl rfl rfl rfl rfl (fiTwo_fn _ _ _ _ _ _ _ _) rfl ?_
    (repeat' (first | refine TriOps.v1 rfl rfl rfl rfl True.intro ?_ | refine TriOps.nil ?_ | refine Tri.region ?_ | refine Tri.seq ?_ | refine Tri.block ?_ | refine Tri.skip ?_ | refine Tri.exit ?_ | refine TriOps.s1 rfl rfl rfl ?_ | refine TriOps.b1 rfl rfl rfl rfl rfl rfl ?_ | refine TriOps.a1 rfl rfl rfl rfl rfl rfl rfl ?_ | refine TriOps.w1 rfl rfl rfl rfl rfl rfl rfl rfl rfl ?_ | fail))
    refine TriOps.g1 rfl rfl rfl (fun hg => ?_) (fun hg => ?_)
    · (repeat' (first | refine TriOps.v1 rfl rfl rfl rfl True.intro ?_ | refine TriOps.nil ?_ | refine Tri.region ?_ | refine Tri.seq ?_ | refine Tri.block ?_ | refine Tri.skip ?_ | refine Tri.exit ?_ | refine TriOps.s1 rfl rfl rfl ?_ | refine TriOps.b1 rfl rfl rfl rfl rfl rfl ?_ | refine TriOps.a1 rfl rfl rfl rfl rfl rfl rfl ?_ | refine TriOps.w1 rfl rfl rfl rfl rfl rfl rfl rfl rfl ?_ | fail))
      refine Tri.cond rfl (fun hc => ?_) (fun hc => by cases hc)
      (repeat' (first | refine TriOps.v1 rfl rfl rfl rfl True.intro ?_ | refine TriOps.nil ?_ | refine Tri.region ?_ | refine Tri.seq ?_ | refine Tri.block ?_ | refine Tri.skip ?_ | refine Tri.exit ?_ | refine TriOps.s1 rfl rfl rfl ?_ | refine TriOps.b1 rfl rfl rfl rfl rfl rfl ?_ | refine TriOps.a1 rfl rfl rfl rfl rfl rfl rfl ?_ | refine TriOps.w1 rfl rfl rfl rfl rfl rfl rfl rfl rfl ?_ | fail))
      refine Tri.dz [.loc 5, .loc 6] [(0, 1), (1, 1), (2, 2), (3, 2)] (by kernel_rfl) rfl ?_
      (repeat' (first | refine TS.v1 rfl (fun _ _ h => h) rfl rfl rfl rfl rfl True.intro ?_ | refine TS.t1 rfl (fun _ _ h => h) rfl rfl rfl rfl rfl True.intro ?_ | refine TS.nil ?_ | refine TS.n0 rfl (fun _ _ h => h) rfl rfl rfl ?_ | refine TS.n1 rfl (fun _ _ h => h) rfl rfl rfl ?_ | refine TS.n2 rfl rfl rfl rfl ?_ | refine TS.w1 rfl rfl rfl rfl rfl rfl rfl rfl rfl rfl rfl rfl ?_ | fail))
      refine Tri.ret (retR1 rfl (AV.Le.refl _) rfl ⟨w, h, a, u, w', h', a', u', rfl, ⟨h6, h6'⟩, h7, h7'⟩)
    · have hg : alike w h a u w' h' a' u' = true := by simpa using hg
      obtain ⟨f1, f2, rfl, rfl⟩ := alike_of hg
      (repeat' (first | refine TriOps.v1 rfl rfl rfl rfl True.intro ?_ | refine TriOps.nil ?_ | refine Tri.region ?_ | refine Tri.seq ?_ | refine Tri.block ?_ | refine Tri.skip ?_ | refine Tri.exit ?_ | refine TriOps.s1 rfl rfl rfl ?_ | refine TriOps.b1 rfl rfl rfl rfl rfl rfl ?_ | refine TriOps.a1 rfl rfl rfl rfl rfl rfl rfl ?_ | refine TriOps.w1 rfl rfl rfl rfl rfl rfl rfl rfl rfl ?_ | fail))
      refine TriOps.k1 rfl rfl rfl rfl rfl rfl rfl (one_draw 6 code p1 s1 hb (by omega) (by omega)) rfl ?_
      rintro _ _ ⟨p2, s2, rfl, h8, h9, b, rfl⟩
      (repeat' (first | refine TriOps.v1 rfl rfl rfl rfl True.intro ?_ | refine TriOps.nil ?_ | refine Tri.region ?_ | refine Tri.seq ?_ | refine Tri.block ?_ | refine Tri.skip ?_ | refine Tri.exit ?_ | refine TriOps.s1 rfl rfl rfl ?_ | refine TriOps.b1 rfl rfl rfl rfl rfl rfl ?_ | refine TriOps.a1 rfl rfl rfl rfl rfl rfl rfl ?_ | refine TriOps.w1 rfl rfl rfl rfl rfl rfl rfl rfl rfl ?_ | fail))
      refine Tri.cond rfl (fun hc => ?_) (fun hc => ?_)
      · (repeat' (first | refine TriOps.v1 rfl rfl rfl rfl True.intro ?_ | refine TriOps.nil ?_ | refine Tri.region ?_ | refine Tri.seq ?_ | refine Tri.block ?_ | refine Tri.skip ?_ | refine Tri.exit ?_ | refine TriOps.s1 rfl rfl rfl ?_ | refine TriOps.b1 rfl rfl rfl rfl rfl rfl ?_ | refine TriOps.a1 rfl rfl rfl rfl rfl rfl rfl ?_ | refine TriOps.w1 rfl rfl rfl rfl rfl rfl rfl rfl rfl ?_ | fail))
        refine Tri.dz [.loc 5, .loc 6] [(0, 1), (1, 1), (2, 2), (3, 2)] (by kernel_rfl) rfl ?_
        (repeat' (first | refine TS.v1 rfl (fun _ _ h => h) rfl rfl rfl rfl rfl True.intro ?_ | refine TS.t1 rfl (fun _ _ h => h) rfl rfl rfl rfl rfl True.intro ?_ | refine TS.nil ?_ | refine TS.n0 rfl (fun _ _ h => h) rfl rfl rfl ?_ | refine TS.n1 rfl (fun _ _ h => h) rfl rfl rfl ?_ | refine TS.n2 rfl rfl rfl rfl ?_ | refine TS.w1 rfl rfl rfl rfl rfl rfl rfl rfl rfl rfl rfl rfl ?_ | fail))
        refine Tri.ret (retR1 rfl (AV.Le.refl _) rfl ⟨w, h, a, u, w, h, a', u', rfl, ⟨h6, h6'⟩, h7, h7'⟩)
      · (repeat' (first | refine TriOps.v1 rfl rfl rfl rfl True.intro ?_ | refine TriOps.nil ?_ | refine Tri.region ?_ | refine Tri.seq ?_ | refine Tri.block ?_ | refine Tri.skip ?_ | refine Tri.exit ?_ | refine TriOps.s1 rfl rfl rfl ?_ | refine TriOps.b1 rfl rfl rfl rfl rfl rfl ?_ | refine TriOps.a1 rfl rfl rfl rfl rfl rfl rfl ?_ | refine TriOps.w1 rfl rfl rfl rfl rfl rfl rfl rfl rfl ?_ | fail))
        exact ⟨(p2, s2), ⟨f1.bw, f1.bh, h8, h9⟩, Wk.to rfl ⟨rfl, rfl, rfl, rfl, rfl, trivial⟩ ⟨rfl, rfl, rfl, rfl, rfl, trivial⟩ trivial⟩
  · rintro ⟨p2, s2⟩ ⟨bw, bh, h8, h9⟩
    dsimp only at h8 h9 ⊢
    unfold curBox figD figZ
    (repeat' (first | refine TriOps.v1 rfl rfl rfl rfl True.intro ?_ | refine TriOps.nil ?_ | refine Tri.region ?_ | refine Tri.seq ?_ | refine Tri.block ?_ | refine Tri.skip ?_ | refine Tri.exit ?_ | refine TriOps.s1 rfl rfl rfl ?_ | refine TriOps.b1 rfl rfl rfl rfl rfl rfl ?_ | refine TriOps.a1 rfl rfl rfl rfl rfl rfl rfl ?_ | refine TriOps.w1 rfl rfl rfl rfl rfl rfl rfl rfl rfl ?_ | fail))
    refine TriOps.k1 rfl rfl rfl rfl rfl rfl rfl (pick_draw 4 code p2 s2 hb (by omega) (by omega)) rfl ?_
    rintro _ _ ⟨p3, s3, rfl, h10, h11, k, rfl, h12, h13⟩
    (repeat' (first | refine TriOps.v1 rfl rfl rfl rfl True.intro ?_ | refine TriOps.nil ?_ | refine Tri.region ?_ | refine Tri.seq ?_ | refine Tri.block ?_ | refine Tri.skip ?_ | refine Tri.exit ?_ | refine TriOps.s1 rfl rfl rfl ?_ | refine TriOps.b1 rfl rfl rfl rfl rfl rfl ?_ | refine TriOps.a1 rfl rfl rfl rfl rfl rfl rfl ?_ | refine TriOps.w1 rfl rfl rfl rfl rfl rfl rfl rfl rfl ?_ | fail))
    refine Tri.loopI (fun x : SX => 0 ≤ x.p ∧ x.p + 8 * x.k ≤ p3 + 24 ∧ x.a.length ≤ 100 ∧ x.u.length ≤ 100) (fun x => stt 69 [(2, .ptr (.loc 2) 0), (3, .ptr (.loc 3) 0), (4, .ptr (.loc 12) 0), (5, .ptr (.loc 5) 0), (6, .ptr (.loc 6) 0), (7, .d (.int .i64 x.k))] [(.loc 12, curBox code x.p x.s), (.loc 2, figZ), (.loc 3, figZ), (.loc 5, figD w h a u), (.loc 6, figD x.w x.h x.a x.u)] []) (fun x => x.k)
      ⟨k.toNat, p3, s3, w, h, a, u⟩ ⟨by show 0 ≤ p3; omega, by show p3 + 8 * (k.toNat : Int) ≤ p3 + 24; omega, h6, h6'⟩ (Wk.to rfl ⟨rfl, rfl, rfl, rfl, rfl, by show AV.d (.int .i64 k) = .d (.int .i64 ((k.toNat : Nat) : Int)); rw [Int.toNat_of_nonneg h12], trivial⟩ ⟨rfl, rfl, rfl, rfl, rfl, trivial⟩ trivial) ?_
    rintro ⟨k4, p4, s4, w4, h4', a4, u4⟩ ⟨i1, i2, i3, i4⟩
    dsimp only at i1 i2 i3 i4 ⊢
    unfold curBox figD figZ
    (repeat' (first | refine TriOps.v1 rfl rfl rfl rfl True.intro ?_ | refine TriOps.nil ?_ | refine Tri.region ?_ | refine Tri.seq ?_ | refine Tri.block ?_ | refine Tri.skip ?_ | refine Tri.exit ?_ | refine TriOps.s1 rfl rfl rfl ?_ | refine TriOps.b1 rfl rfl rfl rfl rfl rfl ?_ | refine TriOps.a1 rfl rfl rfl rfl rfl rfl rfl ?_ | refine TriOps.w1 rfl rfl rfl rfl rfl rfl rfl rfl rfl ?_ | fail))
    refine Tri.cond rfl (fun hd => ?_) (fun hd => ?_)
    · have hd : (k4 : Int) > 0 := of_decide_eq_true hd
      (repeat' (first | refine TriOps.v1 rfl rfl rfl rfl True.intro ?_ | refine TriOps.nil ?_ | refine Tri.region ?_ | refine Tri.seq ?_ | refine Tri.block ?_ | refine Tri.skip ?_ | refine Tri.exit ?_ | refine TriOps.s1 rfl rfl rfl ?_ | refine TriOps.b1 rfl rfl rfl rfl rfl rfl ?_ | refine TriOps.a1 rfl rfl rfl rfl rfl rfl rfl ?_ | refine TriOps.w1 rfl rfl rfl rfl rfl rfl rfl rfl rfl ?_ | fail))
      refine Tri.dz [.loc 5] [(0, 0), (1, 0), (2, 1), (3, 0), (4, 1), (6, 0), (7, 0), (8, 1), (9, 0), (10, 1), (12, 4), (13, 4), (5, 5), (11, 5), (14, 2), (15, 2)] (by kernel_rfl) rfl ?_
      (repeat' (first | refine TS.v1 rfl (fun _ _ h => h) rfl rfl rfl rfl rfl True.intro ?_ | refine TS.t1 rfl (fun _ _ h => h) rfl rfl rfl rfl rfl True.intro ?_ | refine TS.nil ?_ | refine TS.n0 rfl (fun _ _ h => h) rfl rfl rfl ?_ | refine TS.n1 rfl (fun _ _ h => h) rfl rfl rfl ?_ | refine TS.n2 rfl rfl rfl rfl ?_ | refine TS.w1 rfl rfl rfl rfl rfl rfl rfl rfl rfl rfl rfl rfl ?_ | fail))
      refine TS.free (fl := [12, 13]) (s1 := [5, 11]) (s2 := [(14, 2), (15, 2)]) rfl rfl rfl rfl rfl ?_
      refine TF.weak (WkB.to (n := 69) (l := [(2, .ptr (.loc 2) 0), (3, .ptr (.loc 3) 0), (4, .ptr (.loc 12) 0), (5, .ptr (.loc 5) 0), (6, .ptr (.loc 6) 0), (7, .d (.int .i64 k4)), (35, .ptr (.loc 12) 0), (37, .d (.int .i64 w)), (39, .d (.int .i64 h)), (41, .ptr (.loc 12) 0), (43, .d (.int .i64 w)), (45, .d (.int .i64 h))]) (bl := [(.loc 12, curBox code p4 s4), (.loc 2, figZ), (.loc 3, figZ), (.loc 5, figD w h a u), (.loc 6, figD w4 h4' a4 u4)]) (al := []) rfl ⟨rfl, rfl, rfl, rfl, rfl, rfl, rfl, rfl, rfl, rfl, rfl, rfl, trivial⟩ ⟨rfl, rfl, rfl, rfl, rfl, trivial⟩ trivial) ?_
      refine TF.join (fun x : EX => (p4 ≤ x.p ∧ x.p ≤ p4 + 8) ∧ (x.a.length ≤ 1 ∧ x.u.length ≤ 1) ∧ x.a'.length ≤ 1 ∧ x.u'.length ≤ 1) (fun x => stt 69 [(2, .ptr (.loc 2) 0), (3, .ptr (.loc 3) 0), (4, .ptr (.loc 12) 0), (5, .ptr (.loc 5) 0), (6, .ptr (.loc 6) 0), (7, .d (.int .i64 k4)), (8, .ptr (.loc 8) 0), (9, .ptr (.loc 9) 0), (40, fig w h x.a x.u), (46, fig w h x.a' x.u')]
          [(.loc 12, curBox code x.p x.s), (.loc 2, figZ), (.loc 3, figZ), (.loc 5, figD w h a u), (.loc 6, figD w4 h4' a4 u4), (.loc 8, figZ), (.loc 9, figZ)] []) rfl ?_ ?_
      · repeat' (first | refine TFK.st rfl ?_ ?_ | exact HeadL.n | exact AllL.n | refine HeadL.c ?_ | refine AllL.c ?_ ?_ | refine Br.a1 rfl rfl rfl rfl rfl rfl rfl rfl rfl ?_ | (refine Br.k2 rfl rfl rfl rfl rfl rfl rfl rfl (edgeOf_draw w h bw bh code _ _ hb (by omega) (by omega)) rfl ?_; rintro _ _ ⟨q, z, rfl, g1, g2, e1, e2, rfl, g3, g4⟩) | fail)
        all_goals refine TFK.fi ?_
        all_goals refine ⟨⟨_, _, _, _, _, _⟩, ⟨⟨?_, ?_⟩, ⟨?_, ?_⟩, ?_, ?_⟩, WkB.to rfl ⟨rfl, rfl, rfl, rfl, rfl, rfl, rfl, rfl, rfl, rfl, trivial⟩ ⟨rfl, rfl, rfl, rfl, rfl, rfl, rfl, trivial⟩ trivial⟩
        all_goals dsimp only
        all_goals first | assumption | omega
      · rintro ⟨p5, s5, a5, u5, a6, u6⟩ ⟨⟨j1, j2⟩, ⟨j3, j4⟩, j5, j6⟩
        dsimp only at j1 j2 j3 j4 j5 j6 ⊢
        unfold curBox figD figZ fig
        (repeat' (first | refine TS.v1 rfl (fun _ _ h => h) rfl rfl rfl rfl rfl True.intro ?_ | refine TS.t1 rfl (fun _ _ h => h) rfl rfl rfl rfl rfl True.intro ?_ | refine TS.nil ?_ | refine TS.n0 rfl (fun _ _ h => h) rfl rfl rfl ?_ | refine TS.n1 rfl (fun _ _ h => h) rfl rfl rfl ?_ | refine TS.n2 rfl rfl rfl rfl ?_ | refine TS.w1 rfl rfl rfl rfl rfl rfl rfl rfl rfl rfl rfl rfl ?_ | fail))
        (repeat' (first | refine TriOps.v1 rfl rfl rfl rfl True.intro ?_ | refine TriOps.nil ?_ | refine Tri.region ?_ | refine Tri.seq ?_ | refine Tri.block ?_ | refine Tri.skip ?_ | refine Tri.exit ?_ | refine TriOps.s1 rfl rfl rfl ?_ | refine TriOps.b1 rfl rfl rfl rfl rfl rfl ?_ | refine TriOps.a1 rfl rfl rfl rfl rfl rfl rfl ?_ | refine TriOps.w1 rfl rfl rfl rfl rfl rfl rfl rfl rfl ?_ | fail))
        have l1 := those_len a5 a4 false
        have l2 := those_len u5 u4 false
        have l3 := those_len a6 a4 false
        have l4 := those_len u6 u4 false
        refine TriOps.m1 rfl rfl rfl rfl rfl rfl (fiLess_fn w h a5 u5 w4 h4' a4 u4 (by omega) (by omega)) rfl ?_
        refine TriOps.c1 rfl rfl rfl rfl rfl (fiCount_fn _ _ _ _ (by omega) (by omega)) rfl ?_
        (repeat' (first | refine TriOps.v1 rfl rfl rfl rfl True.intro ?_ | refine TriOps.nil ?_ | refine Tri.region ?_ | refine Tri.seq ?_ | refine Tri.block ?_ | refine Tri.skip ?_ | refine Tri.exit ?_ | refine TriOps.s1 rfl rfl rfl ?_ | refine TriOps.b1 rfl rfl rfl rfl rfl rfl ?_ | refine TriOps.a1 rfl rfl rfl rfl rfl rfl rfl ?_ | refine TriOps.w1 rfl rfl rfl rfl rfl rfl rfl rfl rfl ?_ | fail))
        refine TriOps.g1 rfl rfl rfl (fun hg => ?_) (fun hg => ?_)
        · (repeat' (first | refine TriOps.v1 rfl rfl rfl rfl True.intro ?_ | refine TriOps.nil ?_ | refine Tri.region ?_ | refine Tri.seq ?_ | refine Tri.block ?_ | refine Tri.skip ?_ | refine Tri.exit ?_ | refine TriOps.s1 rfl rfl rfl ?_ | refine TriOps.b1 rfl rfl rfl rfl rfl rfl ?_ | refine TriOps.a1 rfl rfl rfl rfl rfl rfl rfl ?_ | refine TriOps.w1 rfl rfl rfl rfl rfl rfl rfl rfl rfl ?_ | fail))
          refine TriOps.m1 rfl rfl rfl rfl rfl rfl (fiLess_fn w h a6 u6 w4 h4' a4 u4 (by omega) (by omega)) rfl ?_
          refine TriOps.c1 rfl rfl rfl rfl rfl (fiCount_fn _ _ _ _ (by omega) (by omega)) rfl ?_
          (repeat' (first | refine TriOps.v1 rfl rfl rfl rfl True.intro ?_ | refine TriOps.nil ?_ | refine Tri.region ?_ | refine Tri.seq ?_ | refine Tri.block ?_ | refine Tri.skip ?_ | refine Tri.exit ?_ | refine TriOps.s1 rfl rfl rfl ?_ | refine TriOps.b1 rfl rfl rfl rfl rfl rfl ?_ | refine TriOps.a1 rfl rfl rfl rfl rfl rfl rfl ?_ | refine TriOps.w1 rfl rfl rfl rfl rfl rfl rfl rfl rfl ?_ | fail))
          refine Tri.cond rfl (fun he => ?_) (fun he => ?_)
          · (repeat' (first | refine TriOps.v1 rfl rfl rfl rfl True.intro ?_ | refine TriOps.nil ?_ | refine Tri.region ?_ | refine Tri.seq ?_ | refine Tri.block ?_ | refine Tri.skip ?_ | refine Tri.exit ?_ | refine TriOps.s1 rfl rfl rfl ?_ | refine TriOps.b1 rfl rfl rfl rfl rfl rfl ?_ | refine TriOps.a1 rfl rfl rfl rfl rfl rfl rfl ?_ | refine TriOps.w1 rfl rfl rfl rfl rfl rfl rfl rfl rfl ?_ | fail))
            refine Tri.dl [.loc 6, .loc 8, .loc 9] [8] [(0, 1), (1, 1), (3, 1), (2, 2), (4, 2), (5, 0), (6, 0), (7, 0), (8, 3)] (by kernel_rfl) rfl ?_
            (repeat' (first | refine TS.v1 rfl (fun _ _ h => h) rfl rfl rfl rfl rfl True.intro ?_ | refine TS.t1 rfl (fun _ _ h => h) rfl rfl rfl rfl rfl True.intro ?_ | refine TS.nil ?_ | refine TS.n0 rfl (fun _ _ h => h) rfl rfl rfl ?_ | refine TS.n1 rfl (fun _ _ h => h) rfl rfl rfl ?_ | refine TS.n2 rfl rfl rfl rfl ?_ | refine TS.w1 rfl rfl rfl rfl rfl rfl rfl rfl rfl rfl rfl rfl ?_ | fail))
            have l5 := those_len a4 a5 false
            have l6 := those_len u4 u5 false
            refine TS.m1 rfl rfl rfl rfl rfl rfl rfl rfl (fiLess_fn w4 h4' a4 u4 w h a5 u5 (by omega) (by omega)) rfl ?_
            obtain ⟨w7, h7'', a7, u7, b7, hj, l7, l8⟩ := sJoin_some w4 h4' (those a4 a5 false) (those u4 u5 false) w h a6 u6
            refine TS.m1 rfl rfl rfl rfl rfl rfl rfl rfl hj rfl ?_
            (repeat' (first | refine TS.v1 rfl (fun _ _ h => h) rfl rfl rfl rfl rfl True.intro ?_ | refine TS.t1 rfl (fun _ _ h => h) rfl rfl rfl rfl rfl True.intro ?_ | refine TS.nil ?_ | refine TS.n0 rfl (fun _ _ h => h) rfl rfl rfl ?_ | refine TS.n1 rfl (fun _ _ h => h) rfl rfl rfl ?_ | refine TS.n2 rfl rfl rfl rfl ?_ | refine TS.w1 rfl rfl rfl rfl rfl rfl rfl rfl rfl rfl rfl rfl ?_ | fail))
            refine TS.lw1 rfl rfl rfl rfl rfl rfl rfl rfl rfl rfl ?_
            (repeat' (first | refine TriOps.v1 rfl rfl rfl rfl True.intro ?_ | refine TriOps.nil ?_ | refine Tri.region ?_ | refine Tri.seq ?_ | refine Tri.block ?_ | refine Tri.skip ?_ | refine Tri.exit ?_ | refine TriOps.s1 rfl rfl rfl ?_ | refine TriOps.b1 rfl rfl rfl rfl rfl rfl ?_ | refine TriOps.a1 rfl rfl rfl rfl rfl rfl rfl ?_ | refine TriOps.w1 rfl rfl rfl rfl rfl rfl rfl rfl rfl ?_ | fail))
            refine TriOps.v1 rfl rfl rfl rfl (by first | exact True.intro | exact inR_i64 (by omega) (by omega) | omega | (refine ⟨?_, ?_⟩ <;> omega)) ?_
            (repeat' (first | refine TriOps.v1 rfl rfl rfl rfl True.intro ?_ | refine TriOps.nil ?_ | refine Tri.region ?_ | refine Tri.seq ?_ | refine Tri.block ?_ | refine Tri.skip ?_ | refine Tri.exit ?_ | refine TriOps.s1 rfl rfl rfl ?_ | refine TriOps.b1 rfl rfl rfl rfl rfl rfl ?_ | refine TriOps.a1 rfl rfl rfl rfl rfl rfl rfl ?_ | refine TriOps.w1 rfl rfl rfl rfl rfl rfl rfl rfl rfl ?_ | fail))
            exact ⟨⟨k4 - 1, p5, s5, w7, h7'', a7, u7⟩, ⟨by show 0 ≤ p5; omega, by show p5 + 8 * ((k4 - 1 : Nat) : Int) ≤ p3 + 24; omega, l7, l8⟩, by show k4 - 1 < k4; omega, Wk.to rfl ⟨rfl, rfl, rfl, rfl, rfl, by show AV.d (.int .i64 ((k4 : Int) - 1)) = .d (.int .i64 ((k4 - 1 : Nat) : Int)); rw [show ((k4 - 1 : Nat) : Int) = (k4 : Int) - 1 by omega], trivial⟩ ⟨rfl, rfl, rfl, rfl, rfl, trivial⟩ trivial⟩
          · (repeat' (first | refine TriOps.v1 rfl rfl rfl rfl True.intro ?_ | refine TriOps.nil ?_ | refine Tri.region ?_ | refine Tri.seq ?_ | refine Tri.block ?_ | refine Tri.skip ?_ | refine Tri.exit ?_ | refine TriOps.s1 rfl rfl rfl ?_ | refine TriOps.b1 rfl rfl rfl rfl rfl rfl ?_ | refine TriOps.a1 rfl rfl rfl rfl rfl rfl rfl ?_ | refine TriOps.w1 rfl rfl rfl rfl rfl rfl rfl rfl rfl ?_ | fail))
            refine TriOps.v1 rfl rfl rfl rfl (by first | exact True.intro | exact inR_i64 (by omega) (by omega) | omega | (refine ⟨?_, ?_⟩ <;> omega)) ?_
            (repeat' (first | refine TriOps.v1 rfl rfl rfl rfl True.intro ?_ | refine TriOps.nil ?_ | refine Tri.region ?_ | refine Tri.seq ?_ | refine Tri.block ?_ | refine Tri.skip ?_ | refine Tri.exit ?_ | refine TriOps.s1 rfl rfl rfl ?_ | refine TriOps.b1 rfl rfl rfl rfl rfl rfl ?_ | refine TriOps.a1 rfl rfl rfl rfl rfl rfl rfl ?_ | refine TriOps.w1 rfl rfl rfl rfl rfl rfl rfl rfl rfl ?_ | fail))
            exact ⟨⟨k4 - 1, p5, s5, w4, h4', a4, u4⟩, ⟨by show 0 ≤ p5; omega, by show p5 + 8 * ((k4 - 1 : Nat) : Int) ≤ p3 + 24; omega, i3, i4⟩, by show k4 - 1 < k4; omega, Wk.to rfl ⟨rfl, rfl, rfl, rfl, rfl, by show AV.d (.int .i64 ((k4 : Int) - 1)) = .d (.int .i64 ((k4 - 1 : Nat) : Int)); rw [show ((k4 - 1 : Nat) : Int) = (k4 : Int) - 1 by omega], trivial⟩ ⟨rfl, rfl, rfl, rfl, rfl, trivial⟩ trivial⟩
        · (repeat' (first | refine TriOps.v1 rfl rfl rfl rfl True.intro ?_ | refine TriOps.nil ?_ | refine Tri.region ?_ | refine Tri.seq ?_ | refine Tri.block ?_ | refine Tri.skip ?_ | refine Tri.exit ?_ | refine TriOps.s1 rfl rfl rfl ?_ | refine TriOps.b1 rfl rfl rfl rfl rfl rfl ?_ | refine TriOps.a1 rfl rfl rfl rfl rfl rfl rfl ?_ | refine TriOps.w1 rfl rfl rfl rfl rfl rfl rfl rfl rfl ?_ | fail))
          refine Tri.cond rfl (fun he => by cases he) (fun he => ?_)
          (repeat' (first | refine TriOps.v1 rfl rfl rfl rfl True.intro ?_ | refine TriOps.nil ?_ | refine Tri.region ?_ | refine Tri.seq ?_ | refine Tri.block ?_ | refine Tri.skip ?_ | refine Tri.exit ?_ | refine TriOps.s1 rfl rfl rfl ?_ | refine TriOps.b1 rfl rfl rfl rfl rfl rfl ?_ | refine TriOps.a1 rfl rfl rfl rfl rfl rfl rfl ?_ | refine TriOps.w1 rfl rfl rfl rfl rfl rfl rfl rfl rfl ?_ | fail))
          refine TriOps.v1 rfl rfl rfl rfl (by first | exact True.intro | exact inR_i64 (by omega) (by omega) | omega | (refine ⟨?_, ?_⟩ <;> omega)) ?_
          (repeat' (first | refine TriOps.v1 rfl rfl rfl rfl True.intro ?_ | refine TriOps.nil ?_ | refine Tri.region ?_ | refine Tri.seq ?_ | refine Tri.block ?_ | refine Tri.skip ?_ | refine Tri.exit ?_ | refine TriOps.s1 rfl rfl rfl ?_ | refine TriOps.b1 rfl rfl rfl rfl rfl rfl ?_ | refine TriOps.a1 rfl rfl rfl rfl rfl rfl rfl ?_ | refine TriOps.w1 rfl rfl rfl rfl rfl rfl rfl rfl rfl ?_ | fail))
          exact ⟨⟨k4 - 1, p5, s5, w4, h4', a4, u4⟩, ⟨by show 0 ≤ p5; omega, by show p5 + 8 * ((k4 - 1 : Nat) : Int) ≤ p3 + 24; omega, i3, i4⟩, by show k4 - 1 < k4; omega, Wk.to rfl ⟨rfl, rfl, rfl, rfl, rfl, by show AV.d (.int .i64 ((k4 : Int) - 1)) = .d (.int .i64 ((k4 - 1 : Nat) : Int)); rw [show ((k4 - 1 : Nat) : Int) = (k4 : Int) - 1 by omega], trivial⟩ ⟨rfl, rfl, rfl, rfl, rfl, trivial⟩ trivial⟩
    · (repeat' (first | refine TriOps.v1 rfl rfl rfl rfl True.intro ?_ | refine TriOps.nil ?_ | refine Tri.region ?_ | refine Tri.seq ?_ | refine Tri.block ?_ | refine Tri.skip ?_ | refine Tri.exit ?_ | refine TriOps.s1 rfl rfl rfl ?_ | refine TriOps.b1 rfl rfl rfl rfl rfl rfl ?_ | refine TriOps.a1 rfl rfl rfl rfl rfl rfl rfl ?_ | refine TriOps.w1 rfl rfl rfl rfl rfl rfl rfl rfl rfl ?_ | fail))
      refine Tri.dz [.loc 5, .loc 6] [(0, 1), (1, 1), (2, 2), (3, 2)] (by kernel_rfl) rfl ?_
      (repeat' (first | refine TS.v1 rfl (fun _ _ h => h) rfl rfl rfl rfl rfl True.intro ?_ | refine TS.t1 rfl (fun _ _ h => h) rfl rfl rfl rfl rfl True.intro ?_ | refine TS.nil ?_ | refine TS.n0 rfl (fun _ _ h => h) rfl rfl rfl ?_ | refine TS.n1 rfl (fun _ _ h => h) rfl rfl rfl ?_ | refine TS.n2 rfl rfl rfl rfl ?_ | refine TS.w1 rfl rfl rfl rfl rfl rfl rfl rfl rfl rfl rfl rfl ?_ | fail))
      refine Tri.ret (retR1 rfl (AV.Le.refl _) rfl ⟨w, h, a, u, w4, h4', a4, u4, rfl, ⟨h6, h6'⟩, i3, i4⟩)
end Go.Proofs.YthmbdoegcpicbaaDoor.Abs

/-! ## C24 -/
namespace Go.Proofs.YthmbdoegcpicbaaDoor.Abs
/-! ### lists in order -/
def Asc (l : List Int) : Prop := l.Pairwise (· < ·)
theorem rising_asc : ∀ {l : List Int}, rising l = true ↔ Asc l
  | [] => by simp [rising, Asc]
  | [a] => by simp [rising, Asc]
  | a :: b :: r => by
    have ih := rising_asc (l := b :: r)
    unfold Asc at ih ⊢
    rw [List.pairwise_cons]
    simp only [rising, Bool.and_eq_true, decide_eq_true_eq, ih]
    constructor
    · rintro ⟨h1, h2⟩
      refine ⟨fun x hx => ?_, h2⟩
      rcases List.mem_cons.1 hx with rfl | hx
      · exact h1
      · have := (List.pairwise_cons.1 h2).1 x hx
        omega
    · rintro ⟨h1, h2⟩
      exact ⟨h1 b (List.mem_cons_self ..), h2⟩
theorem Asc.ext : ∀ {l m : List Int}, Asc l → Asc m → (∀ x, x ∈ l ↔ x ∈ m) → l = m
  | [], [], _, _, _ => rfl
  | [], b :: m, _, _, h => by have := (h b).2 (List.mem_cons_self ..); cases this
  | a :: l, [], _, _, h => by have := (h a).1 (List.mem_cons_self ..); cases this
  | a :: l, b :: m, h1, h2, h => by
    obtain ⟨k1, k2⟩ := List.pairwise_cons.1 h1
    obtain ⟨k3, k4⟩ := List.pairwise_cons.1 h2
    have e : a = b := by
      rcases List.mem_cons.1 ((h a).1 (List.mem_cons_self ..)) with e | e
      · exact e
      · rcases List.mem_cons.1 ((h b).2 (List.mem_cons_self ..)) with e' | e'
        · exact e'.symm
        · have := k1 b e'; have := k3 a e; omega
    subst e
    congr 1
    refine Asc.ext k2 k4 fun x => ?_
    have := h x
    simp only [List.mem_cons] at this
    constructor
    · intro hx
      rcases this.1 (.inr hx) with e | e
      · have := k1 x hx; omega
      · exact e
    · intro hx
      rcases this.2 (.inr hx) with e | e
      · have := k3 x hx; omega
      · exact e
theorem Asc.filter {l : List Int} (p : Int → Bool) (h : Asc l) : Asc (l.filter p) := List.Pairwise.filter p h
theorem asc_range (p : Nat → Bool) (n : Nat) : Asc (((List.range n).filter p).map fun (i : Nat) => (i : Int)) := by
  unfold Asc
  rw [List.pairwise_map]
  refine (List.Pairwise.filter p List.pairwise_lt_range).imp fun h => ?_
  omega
theorem asc_bitsL (s : Nat) : Asc (bitsL s) := asc_range _ _
theorem asc_upTo (n : Nat) : Asc (upTo n) := by
  have := asc_range (fun _ => true) n
  rwa [List.filter_eq_self.2 (fun _ _ => rfl)] at this
theorem mem_bitsL {s : Nat} {x : Int} : x ∈ bitsL s ↔ (0 ≤ x ∧ x < 64) ∧ s.testBit x.toNat = true := by
  unfold bitsL
  simp only [List.mem_map, List.mem_filter, List.mem_range]
  constructor
  · rintro ⟨i, ⟨h1, h2⟩, rfl⟩
    exact ⟨by omega, by simpa using h2⟩
  · rintro ⟨h1, h2⟩
    exact ⟨x.toNat, ⟨by omega, h2⟩, by omega⟩
theorem mem_upTo {n : Nat} {x : Int} : x ∈ upTo n ↔ 0 ≤ x ∧ x < n := by
  unfold upTo
  simp only [List.mem_map, List.mem_range]
  constructor
  · rintro ⟨i, h1, rfl⟩; omega
  · rintro h; exact ⟨x.toNat, by omega, by omega⟩
theorem hasI_iff {l : List Int} {x : Int} : hasI l x = true ↔ x ∈ l := by
  unfold hasI
  rw [List.any_eq_true]
  constructor
  · rintro ⟨y, h, e⟩; have : y = x := by simpa using e
    exact this ▸ h
  · intro h; exact ⟨x, h, by simp⟩
theorem mem_those {a b : List Int} {c : Bool} {x : Int} : x ∈ those a b c ↔ x ∈ a ∧ (hasI b x == c) = true := by
  unfold those
  rw [List.mem_filter]
theorem mem_less {a b : List Int} {x : Int} : x ∈ those a b false ↔ x ∈ a ∧ x ∉ b := by
  rw [mem_those]
  have := hasI_iff (l := b) (x := x)
  cases h : hasI b x
  · rw [h] at this
    have : x ∉ b := fun e => by have := this.2 e; cases this
    simp [this]
  · rw [h] at this
    simp [this.1 rfl]
theorem Asc.those {a : List Int} (b : List Int) (c : Bool) (h : Asc a) : Asc (those a b c) := h.filter _
/-! ### bits -/
theorem testBit_orB (off : Nat) : ∀ (l : List Int) (s j : Nat), (orB off l s).testBit j = (s.testBit j || l.any fun k => decide (off + k.toNat = j))
  | [], s, j => by simp [orB]
  | k :: l, s, j => by
    have := testBit_orB off l (s ||| 2 ^ (off + k.toNat)) j
    have e : orB off (k :: l) s = orB off l (s ||| 2 ^ (off + k.toNat)) := rfl
    rw [e, this, Nat.testBit_or, Nat.testBit_two_pow, List.any_cons, Bool.or_assoc]
def uv (w h : Int) : Nat := (h * (w + 1)).toNat
/-- How many edges a grid has. -/
def ev (w h : Int) : Nat := lv w h + uv w h
section
variable {w h : Int} {a u : List Int}
theorem IsF.la (f : IsF w h a u) : 2 ≤ lv w h ∧ lv w h ≤ 20 := by have := mul_bd f.bw f.bh; unfold lv; omega
theorem IsF.lu (f : IsF w h a u) : 2 ≤ uv w h ∧ uv w h ≤ 20 := by have := mul_bd f.bh f.bw; unfold uv; omega
theorem IsF.mem_a (f : IsF w h a u) {x : Int} (hx : x ∈ a) : 0 ≤ x ∧ x < lv w h := by have := f.ba x hx; unfold lv; omega
theorem IsF.mem_u (f : IsF w h a u) {x : Int} (hx : x ∈ u) : 0 ≤ x ∧ x < uv w h := by have := f.bu x hx; unfold uv; omega
theorem IsF.bit_a (f : IsF w h a u) {j : Nat} (hj : j < lv w h) : (setOf w h a u).testBit j = true ↔ (j : Int) ∈ a := by
  unfold setOf
  rw [testBit_orB, testBit_orB]
  simp only [Nat.zero_testBit, Bool.false_or, Bool.or_eq_true, List.any_eq_true, decide_eq_true_eq, Nat.zero_add]
  constructor
  · rintro (⟨k, hk, e⟩ | ⟨k, hk, e⟩)
    · have := f.mem_a hk
      have : k = (j : Int) := by omega
      exact this ▸ hk
    · change lv w h + k.toNat = j at e; omega
  · intro hj; exact .inl ⟨_, hj, by omega⟩
theorem IsF.bit_u (f : IsF w h a u) (j : Nat) : (setOf w h a u).testBit (lv w h + j) = true ↔ (j : Int) ∈ u := by
  unfold setOf
  rw [testBit_orB, testBit_orB]
  simp only [Nat.zero_testBit, Bool.false_or, Bool.or_eq_true, List.any_eq_true, decide_eq_true_eq, Nat.zero_add]
  constructor
  · rintro (⟨k, hk, e⟩ | ⟨k, hk, e⟩)
    · have := f.mem_a hk; omega
    · have := f.mem_u hk
      have e : lv w h + k.toNat = lv w h + j := e
      have : k = (j : Int) := by omega
      exact this ▸ hk
  · intro hj; exact .inr ⟨_, hj, by show lv w h + (j : Int).toNat = _; omega⟩
theorem IsF.set_lt (f : IsF w h a u) : setOf w h a u < 2 ^ ev w h := by
  refine Nat.lt_pow_two_of_testBit _ fun i hi => ?_
  obtain ⟨j, rfl⟩ : ∃ j, i = lv w h + j := ⟨i - lv w h, by unfold ev at hi; omega⟩
  cases hb : (setOf w h a u).testBit (lv w h + j)
  · rfl
  · have := f.mem_u ((f.bit_u j).1 hb)
    unfold ev at hi; omega
theorem asc_low (w h : Int) (s : Nat) : Asc (lowS w h s) := asc_bitsL _
theorem asc_high (w h : Int) (s : Nat) : Asc (highS w h s) := asc_bitsL _
theorem mem_low {w h : Int} {s : Nat} (h20 : lv w h ≤ 20) {x : Int} : x ∈ lowS w h s ↔ (0 ≤ x ∧ x < lv w h) ∧ s.testBit x.toNat = true := by
  unfold lowS
  rw [mem_bitsL, Nat.testBit_and, Nat.testBit_two_pow_sub_one]
  simp only [Bool.and_eq_true, decide_eq_true_eq]
  constructor
  · rintro ⟨h1, h2, h3⟩; exact ⟨by omega, h2⟩
  · rintro ⟨h1, h2⟩; exact ⟨by omega, h2, by omega⟩
theorem mem_high {w h : Int} {s : Nat} {x : Int} : x ∈ highS w h s ↔ (0 ≤ x ∧ x < 64) ∧ s.testBit (lv w h + x.toNat) = true := by
  unfold highS
  rw [mem_bitsL, Nat.testBit_div_two_pow, Nat.add_comm]
theorem low_of (f : IsF w h a u) {s : Nat} {l : List Int} (hl : Asc l) (hm : ∀ x, x ∈ l ↔ (0 ≤ x ∧ x < lv w h) ∧ s.testBit x.toNat = true) : lowS w h s = l :=
  (asc_low w h s).ext hl fun x => by rw [mem_low f.la.2, hm]
theorem lt_of_bit {s n i : Nat} (hs : s < 2 ^ n) (h : s.testBit i = true) : i < n := by
  rcases Nat.lt_or_ge i n with h' | h'
  · exact h'
  · have : s < 2 ^ i := Nat.lt_of_lt_of_le hs (Nat.pow_le_pow_right (by omega) h')
    rw [Nat.testBit_lt_two_pow this] at h; cases h
theorem high_of (f : IsF w h a u) {s : Nat} (hs : s < 2 ^ ev w h) {l : List Int} (hl : Asc l) (hm : ∀ x, x ∈ l ↔ (0 ≤ x ∧ x < uv w h) ∧ s.testBit (lv w h + x.toNat) = true) : highS w h s = l :=
  (asc_high w h s).ext hl fun x => by
    rw [mem_high, hm]
    have := f.lu
    constructor
    · rintro ⟨h1, h2⟩
      have := lt_of_bit hs h2
      unfold ev at this
      exact ⟨by omega, h2⟩
    · rintro ⟨h1, h2⟩; exact ⟨by omega, h2⟩
/-- A figure's lists are those of its set. -/
theorem IsF.low (f : IsF w h a u) : lowS w h (setOf w h a u) = a := low_of f (rising_asc.1 f.ra) fun x => by
  constructor
  · intro hx
    have := f.mem_a hx
    refine ⟨this, (f.bit_a (by omega)).2 ?_⟩
    rwa [Int.toNat_of_nonneg this.1]
  · rintro ⟨h1, h2⟩
    have := (f.bit_a (by omega)).1 h2
    rwa [Int.toNat_of_nonneg h1.1] at this
theorem IsF.high (f : IsF w h a u) : highS w h (setOf w h a u) = u := high_of f f.set_lt (rising_asc.1 f.ru) fun x => by
  constructor
  · intro hx
    have := f.mem_u hx
    refine ⟨this, (f.bit_u _).2 ?_⟩
    rwa [Int.toNat_of_nonneg this.1]
  · rintro ⟨h1, h2⟩
    have := (f.bit_u _).1 h2
    rwa [Int.toNat_of_nonneg h1.1] at this
end
/-- A set of a grid's edges gives a figure. -/
theorem isF_set {w h : Int} (bw : 1 ≤ w ∧ w ≤ 4) (bh : 1 ≤ h ∧ h ≤ 4) {s : Nat} (hs : s < 2 ^ ev w h) : IsF w h (lowS w h s) (highS w h s) := by
  have h1 := mul_bd bw bh
  have h2 := mul_bd bh bw
  refine ⟨bw, bh, rising_asc.2 (asc_low w h s), rising_asc.2 (asc_high w h s), fun k hk => ?_, fun k hk => ?_⟩
  · have := (mem_low (by unfold lv; omega)).1 hk
    have := this.1
    unfold lv at this; omega
  · obtain ⟨k1, k2⟩ := mem_high.1 hk
    have := lt_of_bit hs k2
    unfold ev uv at this; omega
theorem set_set {w h : Int} (bw : 1 ≤ w ∧ w ≤ 4) (bh : 1 ≤ h ∧ h ≤ 4) {s : Nat} (hs : s < 2 ^ ev w h) : setOf w h (lowS w h s) (highS w h s) = s := by
  have f := isF_set bw bh hs
  have la := f.la
  have lu := f.lu
  apply Nat.eq_of_testBit_eq
  intro i
  rcases Nat.lt_or_ge i (lv w h) with hi | hi
  · have := f.bit_a hi
    rw [mem_low la.2] at this
    rw [Bool.eq_iff_iff, this]
    constructor
    · rintro ⟨_, h2⟩; simpa using h2
    · intro h2; exact ⟨by omega, by simpa using h2⟩
  · obtain ⟨j, rfl⟩ : ∃ j, i = lv w h + j := ⟨i - lv w h, by omega⟩
    have := f.bit_u j
    rw [mem_high] at this
    rw [Bool.eq_iff_iff, this]
    constructor
    · rintro ⟨_, h2⟩; simpa using h2
    · intro h2
      have := lt_of_bit hs h2
      unfold ev at this
      exact ⟨by omega, by simpa using h2⟩
theorem isFig_of {w h : Int} {a u : List Int} (f : IsF w h a u) : isFig w h a u = true := by
  unfold isFig isGrid areIn inB
  simp only [Bool.and_eq_true, decide_eq_true_eq, List.all_eq_true]
  exact ⟨⟨⟨⟨⟨f.bw, f.bh⟩, f.ra⟩, f.ru⟩, fun k hk => by have := f.ba k hk; omega⟩, fun k hk => by have := f.bu k hk; omega⟩
theorem set_inj {w h : Int} {a u a' u' : List Int} (f : IsF w h a u) (g : IsF w h a' u') (e : setOf w h a u = setOf w h a' u') : a = a' ∧ u = u' := by
  exact ⟨by rw [← f.low, e, g.low], by rw [← f.high, e, g.high]⟩
/-! ### counting -/
theorem filter_or_and {α : Type} (p q : α → Bool) : ∀ l : List α, (l.filter fun x => p x || q x).length + (l.filter fun x => p x && q x).length = (l.filter p).length + (l.filter q).length
  | [] => rfl
  | x :: l => by
    have := filter_or_and p q l
    simp only [List.filter_cons]
    cases p x <;> cases q x <;> simp <;> omega
theorem filter_diff {α : Type} (p q : α → Bool) : ∀ l : List α, (l.filter fun x => p x && !q x).length + (l.filter fun x => p x && q x).length = (l.filter p).length
  | [] => rfl
  | x :: l => by
    have := filter_diff p q l
    simp only [List.filter_cons]
    cases p x <;> cases q x <;> simp <;> omega
theorem cnt_eq (s : Nat) : cnt s = ((List.range 64).filter fun i => s.testBit i).length := by simp [cnt, bitsL]
theorem cnt_or_and (s t : Nat) : cnt (s ||| t) + cnt (s &&& t) = cnt s + cnt t := by
  simp only [cnt_eq, Nat.testBit_or, Nat.testBit_and]
  exact filter_or_and _ _ _
/-- What s has and t does not have. -/
theorem diff_bit (s t i : Nat) : (s ^^^ (s &&& t)).testBit i = (s.testBit i && !t.testBit i) := by
  rw [Nat.testBit_xor, Nat.testBit_and]
  cases s.testBit i <;> cases t.testBit i <;> rfl
theorem cnt_diff (s t : Nat) : cnt (s ^^^ (s &&& t)) + cnt (s &&& t) = cnt s := by
  simp only [cnt_eq, diff_bit, Nat.testBit_and]
  exact filter_diff _ _ _
theorem diff_lt {s t n : Nat} (h : s < 2 ^ n) : s ^^^ (s &&& t) < 2 ^ n := Nat.xor_lt_two_pow h (Nat.lt_of_le_of_lt Nat.and_le_left h)
theorem and_lt' {s t n : Nat} (h : s < 2 ^ n) : s &&& t < 2 ^ n := Nat.lt_of_le_of_lt Nat.and_le_left h
theorem split_len (p : Nat → Bool) (n m : Nat) : ((List.range (n + m)).filter p).length = ((List.range n).filter p).length + ((List.range m).filter fun i => p (n + i)).length := by
  rw [List.range_add, List.filter_append, List.length_append, List.filter_map, List.length_map]
  rfl
theorem len_below {p : Nat → Bool} {n m : Nat} (hnm : n ≤ m) (hp : ∀ i, n ≤ i → p i = false) : ((List.range m).filter p).length = ((List.range n).filter p).length := by
  obtain ⟨k, rfl⟩ : ∃ k, m = n + k := ⟨m - n, by omega⟩
  have : (List.range k).filter (fun i => p (n + i)) = [] := List.filter_eq_nil_iff.2 fun i _ => by rw [hp (n + i) (by omega)]; simp
  rw [split_len, this]
  simp
theorem cnt_lists {w h : Int} (bw : 1 ≤ w ∧ w ≤ 4) (bh : 1 ≤ h ∧ h ≤ 4) {s : Nat} (hs : s < 2 ^ ev w h) : (lowS w h s).length + (highS w h s).length = cnt s := by
  have h1 := mul_bd bw bh
  have h2 := mul_bd bh bw
  have hl : lv w h ≤ 20 := by unfold lv; omega
  have hu : uv w h ≤ 20 := by unfold uv; omega
  have e1 : (lowS w h s).length = ((List.range (lv w h)).filter fun i => s.testBit i).length := by
    unfold lowS
    show cnt _ = _
    rw [cnt_eq, len_below (n := lv w h) (by omega) (fun i hi => by rw [Nat.testBit_and, Nat.testBit_two_pow_sub_one]; simp; omega)]
    congr 1
    apply List.filter_congr
    intro i hi
    rw [List.mem_range] at hi
    rw [Nat.testBit_and, Nat.testBit_two_pow_sub_one]
    simp [hi]
  have e2 : (highS w h s).length = ((List.range (64 - lv w h)).filter fun i => s.testBit (lv w h + i)).length := by
    unfold highS
    show cnt _ = _
    rw [cnt_eq, len_below (n := 64 - lv w h) (by omega) (fun i hi => by
      rw [Nat.testBit_div_two_pow]
      cases hb : s.testBit (i + lv w h)
      · rfl
      · have := lt_of_bit hs hb
        unfold ev at this; omega)]
    congr 1
    apply List.filter_congr
    intro i _
    rw [Nat.testBit_div_two_pow, Nat.add_comm]
  rw [e1, e2, cnt_eq, show 64 = lv w h + (64 - lv w h) by omega, split_len, show lv w h + (64 - lv w h) - lv w h = 64 - lv w h by omega]
theorem IsF.cnt_len {w h : Int} {a u : List Int} (f : IsF w h a u) : a.length + u.length = cnt (setOf w h a u) := by
  have := cnt_lists f.bw f.bh f.set_lt
  rwa [f.low, f.high] at this
theorem cnt_zero {s : Nat} (h : s < 2 ^ 64) (h0 : cnt s = 0) : s = 0 := by
  rw [cnt_eq, List.length_eq_zero_iff, List.filter_eq_nil_iff] at h0
  apply Nat.eq_of_testBit_eq
  intro i
  rw [Nat.zero_testBit]
  rcases Nat.lt_or_ge i 64 with hi | hi
  · simpa using h0 i (List.mem_range.2 hi)
  · exact Nat.testBit_lt_two_pow (Nat.lt_of_lt_of_le h (Nat.pow_le_pow_right (by omega) hi))
end Go.Proofs.YthmbdoegcpicbaaDoor.Abs

/-! ## C25 -/
namespace Go.Proofs.YthmbdoegcpicbaaDoor.Abs
open Go.Proofs
def figS (w h : Int) (s : Nat) : AV := fig w h (lowS w h s) (highS w h s)
def okS (w h : Int) (s : Nat) : AV := .tuple [figS w h s, .d (.bool true)]
/-- A grid, and a set of its edges. -/
structure Gr (w h : Int) : Prop where
  bw : 1 ≤ w ∧ w ≤ 4
  bh : 1 ≤ h ∧ h ≤ 4
section
variable {w h : Int} {a u a' u' : List Int} {s t : Nat}
theorem IsF.gr (f : IsF w h a u) : Gr w h := ⟨f.bw, f.bh⟩
theorem IsF.figS (f : IsF w h a u) : fig w h a u = figS w h (setOf w h a u) := by unfold Abs.figS; rw [f.low, f.high]
theorem Gr.isF (g : Gr w h) (hs : s < 2 ^ ev w h) : IsF w h (lowS w h s) (highS w h s) := isF_set g.bw g.bh hs
theorem Gr.ev_le (g : Gr w h) : 4 ≤ ev w h ∧ ev w h ≤ 40 := by
  have h1 := mul_bd g.bw g.bh
  have h2 := mul_bd g.bh g.bw
  unfold ev lv uv; omega
theorem Gr.lv20 (g : Gr w h) : lv w h ≤ 20 := by
  have h1 := mul_bd g.bw g.bh
  unfold lv; omega
theorem alike_set (g : Gr w h) (hs : s < 2 ^ ev w h) (ht : t < 2 ^ ev w h) : alike w h (lowS w h s) (highS w h s) w h (lowS w h t) (highS w h t) = true := by
  unfold alike
  rw [isFig_of (g.isF hs), isFig_of (g.isF ht)]
  simp
theorem Gr.low (g : Gr w h) (hs : s < 2 ^ ev w h) {l : List Int} (hl : Asc l) (hm : ∀ x, x ∈ l ↔ (0 ≤ x ∧ x < lv w h) ∧ s.testBit x.toNat = true) : lowS w h s = l := low_of (g.isF hs) hl hm
theorem Gr.high (g : Gr w h) (hs : s < 2 ^ ev w h) {l : List Int} (hl : Asc l) (hm : ∀ x, x ∈ l ↔ (0 ≤ x ∧ x < uv w h) ∧ s.testBit (lv w h + x.toNat) = true) : highS w h s = l := high_of (g.isF hs) hs hl hm
theorem Gr.mem_low (g : Gr w h) {x : Int} : x ∈ lowS w h s ↔ (0 ≤ x ∧ x < lv w h) ∧ s.testBit x.toNat = true := Abs.mem_low g.lv20
theorem Gr.mem_high (_g : Gr w h) (hs : s < 2 ^ ev w h) {x : Int} : x ∈ highS w h s ↔ (0 ≤ x ∧ x < uv w h) ∧ s.testBit (lv w h + x.toNat) = true := by
  rw [Abs.mem_high]
  constructor
  · rintro ⟨h1, h2⟩
    have := lt_of_bit hs h2
    unfold ev at this
    exact ⟨by omega, h2⟩
  · rintro ⟨h1, h2⟩
    have := _g.ev_le
    unfold ev at this
    exact ⟨by omega, h2⟩
theorem bit_not {x y : Nat} {i : Nat} (P : Prop) (h : P → (x.testBit i = true ↔ y.testBit i = true)) : P ∧ x.testBit i = true ↔ P ∧ y.testBit i = true := ⟨fun ⟨a, b⟩ => ⟨a, (h a).1 b⟩, fun ⟨a, b⟩ => ⟨a, (h a).2 b⟩⟩
/-- The matches that g does not have. -/
theorem those_low (g : Gr w h) (hs : s < 2 ^ ev w h) : those (lowS w h s) (lowS w h t) false = lowS w h (s ^^^ (s &&& t)) :=
  (g.low (diff_lt hs) ((asc_low w h s).those _ _) fun x => by
    rw [mem_less, g.mem_low, g.mem_low, diff_bit]
    cases s.testBit x.toNat <;> cases t.testBit x.toNat <;> simp <;> omega).symm
theorem those_high (g : Gr w h) (hs : s < 2 ^ ev w h) (ht : t < 2 ^ ev w h) : those (highS w h s) (highS w h t) false = highS w h (s ^^^ (s &&& t)) :=
  (g.high (diff_lt hs) ((asc_high w h s).those _ _) fun x => by
    rw [mem_less, g.mem_high hs, g.mem_high ht, diff_bit]
    cases s.testBit (lv w h + x.toNat) <;> cases t.testBit (lv w h + x.toNat) <;> simp <;> omega).symm
theorem allS_eq (w h : Int) (g : Gr w h) : allS w h = 2 ^ ev w h - 1 := by
  have h1 := mul_bd g.bw g.bh
  have h2 := mul_bd g.bh g.bw
  have : (w * (h + 1) + h * (w + 1)).toNat = ev w h := by unfold ev lv uv; omega
  unfold allS
  rw [this]
theorem all_lt (g : Gr w h) : allS w h < 2 ^ ev w h := by
  rw [allS_eq w h g]
  have := Nat.one_le_two_pow (n := ev w h)
  omega
theorem all_bit (g : Gr w h) (i : Nat) : (allS w h).testBit i = decide (i < ev w h) := by rw [allS_eq w h g, Nat.testBit_two_pow_sub_one]
theorem upTo_low (g : Gr w h) : upTo (w * (h + 1)).toNat = lowS w h (allS w h) :=
  (g.low (all_lt g) (asc_upTo _) fun x => by
    rw [mem_upTo, all_bit g]
    show 0 ≤ x ∧ x < (lv w h : Nat) ↔ _
    simp only [decide_eq_true_eq]
    unfold ev; omega).symm
theorem upTo_high (g : Gr w h) : upTo (h * (w + 1)).toNat = highS w h (allS w h) :=
  (g.high (all_lt g) (asc_upTo _) fun x => by
    rw [mem_upTo, all_bit g]
    show 0 ≤ x ∧ x < (uv w h : Nat) ↔ _
    simp only [decide_eq_true_eq]
    unfold ev; omega).symm
theorem nil_low : lowS w h 0 = [] := by unfold lowS; rw [Nat.zero_and]; exact bitsL_zero
theorem nil_high : highS w h 0 = [] := by unfold highS; rw [Nat.zero_div]; exact bitsL_zero
theorem or_lt (hs : s < 2 ^ ev w h) (ht : t < 2 ^ ev w h) : s ||| t < 2 ^ ev w h := Nat.or_lt_two_pow hs ht
/-- All but what is not in s: s again. -/
theorem all_diff (g : Gr w h) (hs : s < 2 ^ ev w h) : allS w h ^^^ (allS w h &&& (allS w h ^^^ (allS w h &&& s))) = s := by
  apply Nat.eq_of_testBit_eq
  intro i
  rw [diff_bit, diff_bit, all_bit g]
  rcases Nat.lt_or_ge i (ev w h) with hi | hi
  · simp [hi]
  · have : s.testBit i = false := Nat.testBit_lt_two_pow (Nat.lt_of_lt_of_le hs (Nat.pow_le_pow_right (by omega) hi))
    simp [this]
theorem diff_missing (g : Gr w h) (hs : s < 2 ^ ev w h) : s ^^^ (s &&& (allS w h ^^^ (allS w h &&& t))) = s &&& t := by
  apply Nat.eq_of_testBit_eq
  intro i
  rw [diff_bit, diff_bit, all_bit g, Nat.testBit_and]
  cases hb : s.testBit i
  · simp
  · simp [lt_of_bit hs hb]
theorem join_missing (g : Gr w h) (hs : s < 2 ^ ev w h) (ht : t < 2 ^ ev w h) : allS w h ^^^ (allS w h &&& ((allS w h ^^^ (allS w h &&& s)) ^^^ ((allS w h ^^^ (allS w h &&& s)) &&& t))) = s ||| t := by
  apply Nat.eq_of_testBit_eq
  intro i
  rw [diff_bit, diff_bit, diff_bit, all_bit g, Nat.testBit_or]
  rcases Nat.lt_or_ge i (ev w h) with hi | hi
  · simp [hi]
  · have h1 : s.testBit i = false := Nat.testBit_lt_two_pow (Nat.lt_of_lt_of_le hs (Nat.pow_le_pow_right (by omega) hi))
    have h2 : t.testBit i = false := Nat.testBit_lt_two_pow (Nat.lt_of_lt_of_le ht (Nat.pow_le_pow_right (by omega) hi))
    have : ¬ i < ev w h := by omega
    simp [h1, h2, this]
/-! ### contracts -/
theorem iJoin (g : Gr w h) (hs : s < 2 ^ ev w h) (ht : t < 2 ^ ev w h) : FnV env 8 [figS w h s, figS w h t] (okS w h (s ||| t)) := by
  have := join_fn w h (lowS w h s) (highS w h s) w h (lowS w h t) (highS w h t)
  rwa [alike_set g hs ht, set_set g.bw g.bh hs, set_set g.bw g.bh ht] at this
theorem iCommon (g : Gr w h) (hs : s < 2 ^ ev w h) (ht : t < 2 ^ ev w h) : FnV env 10 [figS w h s, figS w h t] (okS w h (s &&& t)) := by
  have := common_fn w h (lowS w h s) (highS w h s) w h (lowS w h t) (highS w h t)
  rwa [alike_set g hs ht, set_set g.bw g.bh hs, set_set g.bw g.bh ht] at this
theorem iLess (g : Gr w h) (hs : s < 2 ^ ev w h) (ht : t < 2 ^ ev w h) : FnV env 12 [figS w h s, figS w h t] (okS w h (s ^^^ (s &&& t))) := by
  have := less_fn w h (lowS w h s) (highS w h s) w h (lowS w h t) (highS w h t)
  rwa [alike_set g hs ht, set_set g.bw g.bh hs, set_set g.bw g.bh ht] at this
theorem sLess (g : Gr w h) (hs : s < 2 ^ ev w h) (ht : t < 2 ^ ev w h) : FnV env 13 [figS w h s, figS w h t] (okS w h (s ^^^ (s &&& t))) := by
  have := sLess_fn w h (lowS w h s) (highS w h s) w h (lowS w h t) (highS w h t)
  rwa [alike_set g hs ht, those_low g hs, those_high g hs ht] at this
theorem sCommon (g : Gr w h) (hs : s < 2 ^ ev w h) (ht : t < 2 ^ ev w h) : FnV env 11 [figS w h s, figS w h t] (okS w h (s &&& t)) := by
  have := sCommon_fn w h (lowS w h s) (highS w h s) w h (lowS w h t) (highS w h t)
  rwa [alike_set g hs ht, upTo_low g, upTo_high g, those_low g (all_lt g), those_high g (all_lt g) ht, those_low g hs, those_high g hs (diff_lt (all_lt g)), diff_missing g hs] at this
theorem sJoin (g : Gr w h) (hs : s < 2 ^ ev w h) (ht : t < 2 ^ ev w h) : FnV env 9 [figS w h s, figS w h t] (okS w h (s ||| t)) := by
  have := sJoin_fn w h (lowS w h s) (highS w h s) w h (lowS w h t) (highS w h t)
  rwa [alike_set g hs ht, upTo_low g, upTo_high g, those_low g (all_lt g), those_high g (all_lt g) hs, those_low g (diff_lt (all_lt g)), those_high g (diff_lt (all_lt g)) ht, those_low g (all_lt g), those_high g (all_lt g) (diff_lt (diff_lt (all_lt g))), join_missing g hs ht] at this
theorem iMissing (g : Gr w h) (hs : s < 2 ^ ev w h) : FnV env 18 [figS w h s] (okS w h (allS w h ^^^ (allS w h &&& s))) := by
  have := missing_fn w h (lowS w h s) (highS w h s)
  rwa [isFig_of (g.isF hs), set_set g.bw g.bh hs] at this
theorem sMissing (g : Gr w h) (hs : s < 2 ^ ev w h) : FnV env 19 [figS w h s] (okS w h (allS w h ^^^ (allS w h &&& s))) := by
  have := sMissing_fn w h (lowS w h s) (highS w h s)
  rwa [isFig_of (g.isF hs), upTo_low g, upTo_high g, those_low g (all_lt g), those_high g (all_lt g) hs] at this
theorem iCount (g : Gr w h) (hs : s < 2 ^ ev w h) : FnV env 15 [figS w h s] (okInt (cnt s : Nat)) := by
  have := countMatches_fn w h (lowS w h s) (highS w h s)
  rwa [isFig_of (g.isF hs), set_set g.bw g.bh hs] at this
theorem sCount (g : Gr w h) (hs : s < 2 ^ ev w h) : FnV env 20 [figS w h s] (okInt (cnt s : Nat)) := by
  have := sCount_fn w h (lowS w h s) (highS w h s)
  rwa [isFig_of (g.isF hs), show ((lowS w h s).length : Int) + (highS w h s).length = (cnt s : Nat) by rw [← cnt_lists g.bw g.bh hs]; omega] at this
theorem iMoves (g : Gr w h) (hs : s < 2 ^ ev w h) (ht : t < 2 ^ ev w h) : FnV env 16 [figS w h s, figS w h t] (bif decide (cnt s = cnt t) then okInt (cnt (t ^^^ (t &&& s)) : Nat) else noInt) := by
  have := movesBetween_fn w h (lowS w h s) (highS w h s) w h (lowS w h t) (highS w h t)
  rwa [alike_set g hs ht, set_set g.bw g.bh hs, set_set g.bw g.bh ht, Bool.true_and] at this
theorem sMoves (g : Gr w h) (hs : s < 2 ^ ev w h) (ht : t < 2 ^ ev w h) : FnV env 26 [figS w h s, figS w h t] (bif decide (cnt s = cnt t) then okInt (cnt (s ^^^ (s &&& t)) : Nat) else noInt) := by
  have := sMoves_fn w h (lowS w h s) (highS w h s) w h (lowS w h t) (highS w h t)
  rwa [alike_set g hs ht, cnt_lists g.bw g.bh hs, cnt_lists g.bw g.bh ht, Bool.true_and, those_low g hs, those_high g hs ht,
    show ((lowS w h (s ^^^ (s &&& t))).length : Int) + (highS w h (s ^^^ (s &&& t))).length = (cnt (s ^^^ (s &&& t)) : Nat) by rw [← cnt_lists g.bw g.bh (diff_lt hs)]; omega] at this
theorem iFull (g : Gr w h) : FnV env 23 [.d (.int .i64 w), .d (.int .i64 h)] (okS w h (allS w h)) := by
  have := full_fn w h
  have hg : isGrid w h = true := by unfold isGrid inB; simp only [Bool.and_eq_true, decide_eq_true_eq]; exact ⟨g.bw, g.bh⟩
  rwa [hg] at this
theorem sFull (g : Gr w h) : FnV env 28 [.d (.int .i64 w), .d (.int .i64 h)] (okS w h (allS w h)) := by
  have := sFull_fn w h
  have hg : isGrid w h = true := by unfold isGrid inB; simp only [Bool.and_eq_true, decide_eq_true_eq]; exact ⟨g.bw, g.bh⟩
  rwa [hg, upTo_low g, upTo_high g] at this
theorem iEmpty (g : Gr w h) : FnV env 24 [.d (.int .i64 w), .d (.int .i64 h)] (okS w h 0) := by
  have := empty_fn w h
  have hg : isGrid w h = true := by unfold isGrid inB; simp only [Bool.and_eq_true, decide_eq_true_eq]; exact ⟨g.bw, g.bh⟩
  rwa [hg] at this
theorem sEmpty (g : Gr w h) : FnV env 29 [.d (.int .i64 w), .d (.int .i64 h)] (okS w h 0) := by
  have := sEmpty_fn w h
  have hg : isGrid w h = true := by unfold isGrid inB; simp only [Bool.and_eq_true, decide_eq_true_eq]; exact ⟨g.bw, g.bh⟩
  rw [hg] at this
  have e : okS w h 0 = okFig w h [] [] := by unfold okS figS okFig; rw [nil_low, nil_high]
  rw [e]; exact this
theorem sameF_refl (w h : Int) (a u : List Int) : sameF w h a u w h a u = true := by simp [sameF, sameI]
theorem kSelf (w h : Int) (a u : List Int) : FnV env 14 [fig w h a u, fig w h a u] (.d (.bool true)) := by
  have := kFigure_fn w h a u w h a u
  rwa [sameF_refl] at this
theorem kFig (g : Gr w h) (hs : s < 2 ^ ev w h) (ht : t < 2 ^ ev w h) : FnV env 14 [figS w h s, figS w h t] (.d (.bool (decide (s = t)))) := by
  have := kFigure_fn w h (lowS w h s) (highS w h s) w h (lowS w h t) (highS w h t)
  have e : sameF w h (lowS w h s) (highS w h s) w h (lowS w h t) (highS w h t) = decide (s = t) := by
    by_cases hst : s = t
    · subst hst; rw [sameF_refl]; simp
    · rw [decide_eq_false hst]
      cases hb : sameF w h (lowS w h s) (highS w h s) w h (lowS w h t) (highS w h t)
      · rfl
      · simp only [sameF, sameI, Bool.and_eq_true, decide_eq_true_eq] at hb
        refine absurd ?_ hst
        rw [← set_set g.bw g.bh hs, ← set_set g.bw g.bh ht, hb.1.2, hb.2]
  rwa [e] at this
end
end Go.Proofs.YthmbdoegcpicbaaDoor.Abs

/-! ## C26 -/
namespace Go.Proofs.YthmbdoegcpicbaaDoor.Abs
open Go.Proofs
theorem bits_ext {s t : Nat} (h : ∀ i, s.testBit i = t.testBit i) : s = t := Nat.eq_of_testBit_eq h
theorem less_or_common (s t : Nat) : (s ^^^ (s &&& t)) ||| (s &&& t) = s := bits_ext fun i => by
  rw [Nat.testBit_or, diff_bit, Nat.testBit_and]
  cases s.testBit i <;> cases t.testBit i <;> rfl
theorem or_missing {w h : Int} (g : Gr w h) {s : Nat} (hs : s < 2 ^ ev w h) : s ||| (allS w h ^^^ (allS w h &&& s)) = allS w h := bits_ext fun i => by
  rw [Nat.testBit_or, diff_bit, all_bit g]
  cases hb : s.testBit i
  · simp
  · simp [lt_of_bit hs hb]
theorem and_missing {w h : Int} (g : Gr w h) (s : Nat) : s &&& (allS w h ^^^ (allS w h &&& s)) = 0 := bits_ext fun i => by
  rw [Nat.testBit_and, diff_bit, Nat.zero_testBit]
  cases s.testBit i <;> simp
theorem cnt_all {n : Nat} (hn : n ≤ 64) : cnt (2 ^ n - 1) = n := by
  rw [cnt_eq, len_below (n := n) hn (fun i hi => by rw [Nat.testBit_two_pow_sub_one]; simp; omega)]
  rw [List.filter_eq_self.2 (fun i hi => by rw [Nat.testBit_two_pow_sub_one]; simpa using hi), List.length_range]
theorem cnt_allS {w h : Int} (g : Gr w h) : ((cnt (allS w h) : Nat) : Int) = 2 * w * h + w + h := by
  have h1 := mul_bd g.bw g.bh
  have h2 := mul_bd g.bh g.bw
  have := g.ev_le
  rw [allS_eq w h g, cnt_all (by omega)]
  have e1 : w * (h + 1) = w * h + w := by rw [Int.mul_add, Int.mul_one]
  have e2 : h * (w + 1) = w * h + h := by rw [Int.mul_add, Int.mul_one, Int.mul_comm h w]
  have e3 : 2 * w * h = 2 * (w * h) := Int.mul_assoc ..
  unfold ev lv uv
  omega
theorem cnt_missing {w h : Int} (g : Gr w h) {s : Nat} (hs : s < 2 ^ ev w h) : cnt s + cnt (allS w h ^^^ (allS w h &&& s)) = cnt (allS w h) := by
  have := cnt_diff (allS w h) s
  have e : allS w h &&& s = s := bits_ext fun i => by
    rw [Nat.testBit_and, all_bit g]
    cases hb : s.testBit i
    · simp
    · simp [lt_of_bit hs hb]
  rw [e] at this ⊢
  omega
theorem moves_eq {s t : Nat} (h : cnt s = cnt t) : cnt (t ^^^ (t &&& s)) = cnt (s ^^^ (s &&& t)) := by
  have h1 := cnt_diff s t
  have h2 := cnt_diff t s
  rw [Nat.and_comm] at h2
  rw [Nat.and_comm t s]
  omega
theorem moves_zero {s t : Nat} (hs : s < 2 ^ 64) (ht : t < 2 ^ 64) (h : cnt s = cnt t) : cnt (t ^^^ (t &&& s)) = 0 ↔ s = t := by
  constructor
  · intro h0
    have h1 : cnt (s ^^^ (s &&& t)) = 0 := by rw [← moves_eq h]; exact h0
    have z1 := cnt_zero (diff_lt ht) h0
    have z2 := cnt_zero (diff_lt hs) h1
    refine bits_ext fun i => ?_
    have k1 := diff_bit t s i
    have k2 := diff_bit s t i
    rw [z1, Nat.zero_testBit] at k1
    rw [z2, Nat.zero_testBit] at k2
    revert k1 k2
    generalize s.testBit i = x
    generalize t.testBit i = y
    revert x y
    decide
  · rintro rfl
    have : s ^^^ (s &&& s) = 0 := bits_ext fun i => by rw [diff_bit, Nat.zero_testBit]; cases s.testBit i <;> rfl
    rw [this]; decide
section
variable {w h : Int}
theorem Gr.lt64 (g : Gr w h) {s : Nat} (hs : s < 2 ^ ev w h) : s < 2 ^ 64 := Nat.lt_of_lt_of_le hs (Nat.pow_le_pow_right (by omega) (by have := g.ev_le; omega))
end
theorem join_no {w h : Int} {a u : List Int} {w' h' : Int} {a' u' : List Int} (hc : alike w h a u w' h' a' u' = false) :
    FnV env 8 [fig w h a u, fig w' h' a' u'] noFig ∧ FnV env 9 [fig w h a u, fig w' h' a' u'] noFig ∧ FnV env 10 [fig w h a u, fig w' h' a' u'] noFig ∧ FnV env 11 [fig w h a u, fig w' h' a' u'] noFig ∧
    FnV env 12 [fig w h a u, fig w' h' a' u'] noFig ∧ FnV env 13 [fig w h a u, fig w' h' a' u'] noFig := by
  have h1 := join_fn w h a u w' h' a' u'
  have h2 := sJoin_fn w h a u w' h' a' u'
  have h3 := common_fn w h a u w' h' a' u'
  have h4 := sCommon_fn w h a u w' h' a' u'
  have h5 := less_fn w h a u w' h' a' u'
  have h6 := sLess_fn w h a u w' h' a' u'
  rw [hc] at h1 h2 h3 h4 h5 h6
  exact ⟨h1, h2, h3, h4, h5, h6⟩
noncomputable def law1F : Func := Tryd.f3
noncomputable def Q1 : Qs := QV env law1F (.d (.bool true))
theorem moves_some (w h : Int) (a u : List Int) (w' h' : Int) (a' u' : List Int) : ∃ n ok, FnV env 16 [fig w h a u, fig w' h' a' u'] (.tuple [.d (.int .i64 n), .d (.bool ok)]) ∧ FnV env 26 [fig w h a u, fig w' h' a' u'] (.tuple [.d (.int .i64 n), .d (.bool ok)]) ∧
    (ok = true → FnV env 16 [fig w' h' a' u', fig w h a u] (.tuple [.d (.int .i64 n), .d (.bool true)]) ∧ ∃ b, FnV env 14 [fig w h a u, fig w' h' a' u'] (.d (.bool b)) ∧ ((n == 0) == b) = true) := by
  have h1 := movesBetween_fn w h a u w' h' a' u'
  have h2 := sMoves_fn w h a u w' h' a' u'
  cases hal : alike w h a u w' h' a' u'
  · rw [hal] at h1 h2
    exact ⟨0, false, h1, h2, fun e => by cases e⟩
  · obtain ⟨f1, f2, rfl, rfl⟩ := alike_of hal
    clear h1 h2
    have g := f1.gr
    have h1 := f1.set_lt
    have h2 := f2.set_lt
    rw [f1.figS, f2.figS]
    generalize setOf w h a u = s at h1 ⊢
    generalize setOf w h a' u' = t at h2 ⊢
    have k1 := iMoves g h1 h2
    have k2 := sMoves g h1 h2
    have k3 := iMoves g h2 h1
    by_cases he : cnt s = cnt t
    · rw [decide_eq_true he] at k1 k2
      rw [decide_eq_true he.symm] at k3
      rw [moves_eq he] at k1
      refine ⟨_, true, k1, k2, fun _ => ⟨k3, _, kFig g h1 h2, ?_⟩⟩
      have h0 := moves_zero (g.lt64 h1) (g.lt64 h2) he
      rw [moves_eq he] at h0
      by_cases hst : s = t
      · have : cnt (s ^^^ (s &&& t)) = 0 := h0.2 hst
        rw [this, decide_eq_true hst]; rfl
      · have : ¬ cnt (s ^^^ (s &&& t)) = 0 := fun e => hst (h0.1 e)
        rw [decide_eq_false hst]
        have : (((cnt (s ^^^ (s &&& t)) : Nat) : Int) == 0) = false := by simp; omega
        rw [this]; rfl
    · rw [decide_eq_false he] at k1 k2
      exact ⟨0, false, k1, k2, fun e => by cases e⟩
theorem full_some (w h : Int) : ∃ w1 h1 a1 u1 w2 h2 a2 u2 b1 b2, FnV env 23 [.d (.int .i64 w), .d (.int .i64 h)] (.tuple [fig w1 h1 a1 u1, .d (.bool b1)]) ∧ FnV env 28 [.d (.int .i64 w), .d (.int .i64 h)] (.tuple [fig w1 h1 a1 u1, .d (.bool b1)]) ∧
    FnV env 24 [.d (.int .i64 w), .d (.int .i64 h)] (.tuple [fig w2 h2 a2 u2, .d (.bool b2)]) ∧ FnV env 29 [.d (.int .i64 w), .d (.int .i64 h)] (.tuple [fig w2 h2 a2 u2, .d (.bool b2)]) := by
  cases hg : isGrid w h
  · have h1 := full_fn w h
    have h2 := sFull_fn w h
    have h3 := empty_fn w h
    have h4 := sEmpty_fn w h
    rw [hg] at h1 h2 h3 h4
    exact ⟨0, 0, [], [], 0, 0, [], [], false, false, h1, h2, h3, h4⟩
  · have g : Gr w h := ⟨(isGrid_bd hg).1, (isGrid_bd hg).2⟩
    exact ⟨w, h, _, _, w, h, _, _, true, true, iFull g, sFull g, iEmpty g, sEmpty g⟩
/-- The third part. -/
theorem law1c (m : List Int) (hbm : Bytes m) : SegT env law1F 18 (stt 519 [(1, .d (.ints .u8 m))] [] []) Q1 := by
  refine SegT.mk rfl ?_
  (repeat' (first | refine TriOps.v1 rfl rfl rfl rfl True.intro ?_ | refine TriOps.nil ?_ | refine Tri.region ?_ | refine Tri.seq ?_ | refine Tri.block ?_ | refine Tri.skip ?_ | refine Tri.exit ?_ | refine TriOps.s1 rfl rfl rfl ?_ | refine TriOps.b1 rfl rfl rfl rfl rfl rfl ?_ | refine TriOps.a1 rfl rfl rfl rfl rfl rfl rfl ?_ | refine TriOps.w1 rfl rfl rfl rfl rfl rfl rfl rfl rfl ?_ | fail))
  refine TriOps.m2 rfl rfl rfl rfl rfl rfl (drawMoves_fn m hbm) ?_
  rintro _ ⟨w, h, a, u, w', h', a', u', rfl, _, _⟩
  obtain ⟨n, ok, k1, k2, k3⟩ := moves_some w h a u w' h' a' u'
  (repeat' (first | refine TriOps.v1 rfl rfl rfl rfl True.intro ?_ | refine TriOps.nil ?_ | refine Tri.region ?_ | refine Tri.seq ?_ | refine Tri.block ?_ | refine Tri.skip ?_ | refine Tri.exit ?_ | refine TriOps.s1 rfl rfl rfl ?_ | refine TriOps.b1 rfl rfl rfl rfl rfl rfl ?_ | refine TriOps.a1 rfl rfl rfl rfl rfl rfl rfl ?_ | refine TriOps.w1 rfl rfl rfl rfl rfl rfl rfl rfl rfl ?_ | fail))
  refine TriOps.c1 rfl rfl rfl rfl rfl k1 rfl ?_
  (repeat' (first | refine TriOps.v1 rfl rfl rfl rfl True.intro ?_ | refine TriOps.nil ?_ | refine Tri.region ?_ | refine Tri.seq ?_ | refine Tri.block ?_ | refine Tri.skip ?_ | refine Tri.exit ?_ | refine TriOps.s1 rfl rfl rfl ?_ | refine TriOps.b1 rfl rfl rfl rfl rfl rfl ?_ | refine TriOps.a1 rfl rfl rfl rfl rfl rfl rfl ?_ | refine TriOps.w1 rfl rfl rfl rfl rfl rfl rfl rfl rfl ?_ | fail))
  refine TriOps.c1 rfl rfl rfl rfl rfl k2 rfl ?_
  (repeat' (first | refine TriOps.v1 rfl rfl rfl rfl True.intro ?_ | refine TriOps.nil ?_ | refine Tri.region ?_ | refine Tri.seq ?_ | refine Tri.block ?_ | refine Tri.skip ?_ | refine Tri.exit ?_ | refine TriOps.s1 rfl rfl rfl ?_ | refine TriOps.b1 rfl rfl rfl rfl rfl rfl ?_ | refine TriOps.a1 rfl rfl rfl rfl rfl rfl rfl ?_ | refine TriOps.w1 rfl rfl rfl rfl rfl rfl rfl rfl rfl ?_ | fail))
  refine TriOps.m2 rfl rfl rfl rfl rfl rfl (drawFull_fn m hbm) ?_
  rintro _ ⟨x, y, rfl⟩
  obtain ⟨w1, h1, a1, u1, w2, h2, a2, u2, b1, b2, k4, k5, k6, k7⟩ := full_some x y
  (repeat' (first | refine TriOps.v1 rfl rfl rfl rfl True.intro ?_ | refine TriOps.nil ?_ | refine Tri.region ?_ | refine Tri.seq ?_ | refine Tri.block ?_ | refine Tri.skip ?_ | refine Tri.exit ?_ | refine TriOps.s1 rfl rfl rfl ?_ | refine TriOps.b1 rfl rfl rfl rfl rfl rfl ?_ | refine TriOps.a1 rfl rfl rfl rfl rfl rfl rfl ?_ | refine TriOps.w1 rfl rfl rfl rfl rfl rfl rfl rfl rfl ?_ | fail))
  refine TriOps.m1 rfl rfl rfl rfl rfl rfl k4 rfl ?_
  (repeat' (first | refine TriOps.v1 rfl rfl rfl rfl True.intro ?_ | refine TriOps.nil ?_ | refine Tri.region ?_ | refine Tri.seq ?_ | refine Tri.block ?_ | refine Tri.skip ?_ | refine Tri.exit ?_ | refine TriOps.s1 rfl rfl rfl ?_ | refine TriOps.b1 rfl rfl rfl rfl rfl rfl ?_ | refine TriOps.a1 rfl rfl rfl rfl rfl rfl rfl ?_ | refine TriOps.w1 rfl rfl rfl rfl rfl rfl rfl rfl rfl ?_ | fail))
  refine TriOps.m1 rfl rfl rfl rfl rfl rfl k5 rfl ?_
  (repeat' (first | refine TriOps.v1 rfl rfl rfl rfl True.intro ?_ | refine TriOps.nil ?_ | refine Tri.region ?_ | refine Tri.seq ?_ | refine Tri.block ?_ | refine Tri.skip ?_ | refine Tri.exit ?_ | refine TriOps.s1 rfl rfl rfl ?_ | refine TriOps.b1 rfl rfl rfl rfl rfl rfl ?_ | refine TriOps.a1 rfl rfl rfl rfl rfl rfl rfl ?_ | refine TriOps.w1 rfl rfl rfl rfl rfl rfl rfl rfl rfl ?_ | fail))
  refine TriOps.m1 rfl rfl rfl rfl rfl rfl k6 rfl ?_
  (repeat' (first | refine TriOps.v1 rfl rfl rfl rfl True.intro ?_ | refine TriOps.nil ?_ | refine Tri.region ?_ | refine Tri.seq ?_ | refine Tri.block ?_ | refine Tri.skip ?_ | refine Tri.exit ?_ | refine TriOps.s1 rfl rfl rfl ?_ | refine TriOps.b1 rfl rfl rfl rfl rfl rfl ?_ | refine TriOps.a1 rfl rfl rfl rfl rfl rfl rfl ?_ | refine TriOps.w1 rfl rfl rfl rfl rfl rfl rfl rfl rfl ?_ | fail))
  refine TriOps.m1 rfl rfl rfl rfl rfl rfl k7 rfl ?_
  (repeat' (first | refine TriOps.v1 rfl rfl rfl rfl True.intro ?_ | refine TriOps.nil ?_ | refine Tri.region ?_ | refine Tri.seq ?_ | refine Tri.block ?_ | refine Tri.skip ?_ | refine Tri.exit ?_ | refine TriOps.s1 rfl rfl rfl ?_ | refine TriOps.b1 rfl rfl rfl rfl rfl rfl ?_ | refine TriOps.a1 rfl rfl rfl rfl rfl rfl rfl ?_ | refine TriOps.w1 rfl rfl rfl rfl rfl rfl rfl rfl rfl ?_ | fail))
  simp only [bne_self_eq_false]
  (repeat' (first | refine TriOps.v1 rfl rfl rfl rfl True.intro ?_ | refine TriOps.nil ?_ | refine Tri.region ?_ | refine Tri.seq ?_ | refine Tri.block ?_ | refine Tri.skip ?_ | refine Tri.exit ?_ | refine TriOps.s1 rfl rfl rfl ?_ | refine TriOps.b1 rfl rfl rfl rfl rfl rfl ?_ | refine TriOps.a1 rfl rfl rfl rfl rfl rfl rfl ?_ | refine TriOps.w1 rfl rfl rfl rfl rfl rfl rfl rfl rfl ?_ | fail))
  simp only [bne_self_eq_false]
  (repeat' (first | refine TriOps.v1 rfl rfl rfl rfl True.intro ?_ | refine TriOps.nil ?_ | refine Tri.region ?_ | refine Tri.seq ?_ | refine Tri.block ?_ | refine Tri.skip ?_ | refine Tri.exit ?_ | refine TriOps.s1 rfl rfl rfl ?_ | refine TriOps.b1 rfl rfl rfl rfl rfl rfl ?_ | refine TriOps.a1 rfl rfl rfl rfl rfl rfl rfl ?_ | refine TriOps.w1 rfl rfl rfl rfl rfl rfl rfl rfl rfl ?_ | fail))
  simp only [bne_self_eq_false]
  (repeat' (first | refine TriOps.v1 rfl rfl rfl rfl True.intro ?_ | refine TriOps.nil ?_ | refine Tri.region ?_ | refine Tri.seq ?_ | refine Tri.block ?_ | refine Tri.skip ?_ | refine Tri.exit ?_ | refine TriOps.s1 rfl rfl rfl ?_ | refine TriOps.b1 rfl rfl rfl rfl rfl rfl ?_ | refine TriOps.a1 rfl rfl rfl rfl rfl rfl rfl ?_ | refine TriOps.w1 rfl rfl rfl rfl rfl rfl rfl rfl rfl ?_ | fail))
  refine TriOps.c1 rfl rfl rfl rfl rfl (kSelf _ _ _ _) rfl ?_
  (repeat' (first | refine TriOps.v1 rfl rfl rfl rfl True.intro ?_ | refine TriOps.nil ?_ | refine Tri.region ?_ | refine Tri.seq ?_ | refine Tri.block ?_ | refine Tri.skip ?_ | refine Tri.exit ?_ | refine TriOps.s1 rfl rfl rfl ?_ | refine TriOps.b1 rfl rfl rfl rfl rfl rfl ?_ | refine TriOps.a1 rfl rfl rfl rfl rfl rfl rfl ?_ | refine TriOps.w1 rfl rfl rfl rfl rfl rfl rfl rfl rfl ?_ | fail))
  simp only [bne_self_eq_false]
  (repeat' (first | refine TriOps.v1 rfl rfl rfl rfl True.intro ?_ | refine TriOps.nil ?_ | refine Tri.region ?_ | refine Tri.seq ?_ | refine Tri.block ?_ | refine Tri.skip ?_ | refine Tri.exit ?_ | refine TriOps.s1 rfl rfl rfl ?_ | refine TriOps.b1 rfl rfl rfl rfl rfl rfl ?_ | refine TriOps.a1 rfl rfl rfl rfl rfl rfl rfl ?_ | refine TriOps.w1 rfl rfl rfl rfl rfl rfl rfl rfl rfl ?_ | fail))
  refine TriOps.c1 rfl rfl rfl rfl rfl (kSelf _ _ _ _) rfl ?_
  (repeat' (first | refine TriOps.v1 rfl rfl rfl rfl True.intro ?_ | refine TriOps.nil ?_ | refine Tri.region ?_ | refine Tri.seq ?_ | refine Tri.block ?_ | refine Tri.skip ?_ | refine Tri.exit ?_ | refine TriOps.s1 rfl rfl rfl ?_ | refine TriOps.b1 rfl rfl rfl rfl rfl rfl ?_ | refine TriOps.a1 rfl rfl rfl rfl rfl rfl rfl ?_ | refine TriOps.w1 rfl rfl rfl rfl rfl rfl rfl rfl rfl ?_ | fail))
  refine Tri.cond rfl (fun hc => by cases hc) (fun hc => ?_)
  (repeat' (first | refine TriOps.v1 rfl rfl rfl rfl True.intro ?_ | refine TriOps.nil ?_ | refine Tri.region ?_ | refine Tri.seq ?_ | refine Tri.block ?_ | refine Tri.skip ?_ | refine Tri.exit ?_ | refine TriOps.s1 rfl rfl rfl ?_ | refine TriOps.b1 rfl rfl rfl rfl rfl rfl ?_ | refine TriOps.a1 rfl rfl rfl rfl rfl rfl rfl ?_ | refine TriOps.w1 rfl rfl rfl rfl rfl rfl rfl rfl rfl ?_ | fail))
  refine Tri.cond rfl (fun hc => ?_) (fun hc => ?_)
  · obtain ⟨k8, b, k9, k10⟩ := k3 hc
    (repeat' (first | refine TriOps.v1 rfl rfl rfl rfl True.intro ?_ | refine TriOps.nil ?_ | refine Tri.region ?_ | refine Tri.seq ?_ | refine Tri.block ?_ | refine Tri.skip ?_ | refine Tri.exit ?_ | refine TriOps.s1 rfl rfl rfl ?_ | refine TriOps.b1 rfl rfl rfl rfl rfl rfl ?_ | refine TriOps.a1 rfl rfl rfl rfl rfl rfl rfl ?_ | refine TriOps.w1 rfl rfl rfl rfl rfl rfl rfl rfl rfl ?_ | fail))
    refine TriOps.c1 rfl rfl rfl rfl rfl k8 rfl ?_
    (repeat' (first | refine TriOps.v1 rfl rfl rfl rfl True.intro ?_ | refine TriOps.nil ?_ | refine Tri.region ?_ | refine Tri.seq ?_ | refine Tri.block ?_ | refine Tri.skip ?_ | refine Tri.exit ?_ | refine TriOps.s1 rfl rfl rfl ?_ | refine TriOps.b1 rfl rfl rfl rfl rfl rfl ?_ | refine TriOps.a1 rfl rfl rfl rfl rfl rfl rfl ?_ | refine TriOps.w1 rfl rfl rfl rfl rfl rfl rfl rfl rfl ?_ | fail))
    simp only [beq_self_eq_true]
    (repeat' (first | refine TriOps.v1 rfl rfl rfl rfl True.intro ?_ | refine TriOps.nil ?_ | refine Tri.region ?_ | refine Tri.seq ?_ | refine Tri.block ?_ | refine Tri.skip ?_ | refine Tri.exit ?_ | refine TriOps.s1 rfl rfl rfl ?_ | refine TriOps.b1 rfl rfl rfl rfl rfl rfl ?_ | refine TriOps.a1 rfl rfl rfl rfl rfl rfl rfl ?_ | refine TriOps.w1 rfl rfl rfl rfl rfl rfl rfl rfl rfl ?_ | fail))
    refine TriOps.c1 rfl rfl rfl rfl rfl k9 rfl ?_
    (repeat' (first | refine TriOps.v1 rfl rfl rfl rfl True.intro ?_ | refine TriOps.nil ?_ | refine Tri.region ?_ | refine Tri.seq ?_ | refine Tri.block ?_ | refine Tri.skip ?_ | refine Tri.exit ?_ | refine TriOps.s1 rfl rfl rfl ?_ | refine TriOps.b1 rfl rfl rfl rfl rfl rfl ?_ | refine TriOps.a1 rfl rfl rfl rfl rfl rfl rfl ?_ | refine TriOps.w1 rfl rfl rfl rfl rfl rfl rfl rfl rfl ?_ | fail))
    refine Tri.ret (retV rfl ?_)
    rw [k10]
    rfl
  · (repeat' (first | refine TriOps.v1 rfl rfl rfl rfl True.intro ?_ | refine TriOps.nil ?_ | refine Tri.region ?_ | refine Tri.seq ?_ | refine Tri.block ?_ | refine Tri.skip ?_ | refine Tri.exit ?_ | refine TriOps.s1 rfl rfl rfl ?_ | refine TriOps.b1 rfl rfl rfl rfl rfl rfl ?_ | refine TriOps.a1 rfl rfl rfl rfl rfl rfl rfl ?_ | refine TriOps.w1 rfl rfl rfl rfl rfl rfl rfl rfl rfl ?_ | fail))
    refine Tri.ret (retV rfl rfl)
set_option maxHeartbeats 4000000 in
/-- The second part. -/
theorem law1b (m : List Int) (hbm : Bytes m) : SegT env law1F 11 (stt 519 [(1, .d (.ints .u8 m))] [] []) Q1 := by
  refine SegT.mk rfl ?_
  (repeat' (first | refine TriOps.v1 rfl rfl rfl rfl True.intro ?_ | refine TriOps.nil ?_ | refine Tri.region ?_ | refine Tri.seq ?_ | refine Tri.block ?_ | refine Tri.skip ?_ | refine Tri.exit ?_ | refine TriOps.s1 rfl rfl rfl ?_ | refine TriOps.b1 rfl rfl rfl rfl rfl rfl ?_ | refine TriOps.a1 rfl rfl rfl rfl rfl rfl rfl ?_ | refine TriOps.w1 rfl rfl rfl rfl rfl rfl rfl rfl rfl ?_ | fail))
  refine TriOps.m2 rfl rfl rfl rfl rfl rfl (drawMissing_fn m hbm) ?_
  rintro _ ⟨w, h, a, u, rfl, _, _⟩
  have kf := isFigure_fn w h a u
  have ks := sIsFigure_fn w h a u
  cases hf : isFig w h a u
  · have k1 := missing_fn w h a u
    have k2 := sMissing_fn w h a u
    have k3 := countMatches_fn w h a u
    have k4 := sCount_fn w h a u
    rw [hf] at k1 k2 k3 k4 kf ks
    (repeat' (first | refine TriOps.v1 rfl rfl rfl rfl True.intro ?_ | refine TriOps.nil ?_ | refine Tri.region ?_ | refine Tri.seq ?_ | refine Tri.block ?_ | refine Tri.skip ?_ | refine Tri.exit ?_ | refine TriOps.s1 rfl rfl rfl ?_ | refine TriOps.b1 rfl rfl rfl rfl rfl rfl ?_ | refine TriOps.a1 rfl rfl rfl rfl rfl rfl rfl ?_ | refine TriOps.w1 rfl rfl rfl rfl rfl rfl rfl rfl rfl ?_ | fail))
    refine TriOps.m1 rfl rfl rfl rfl rfl rfl k1 rfl ?_
    (repeat' (first | refine TriOps.v1 rfl rfl rfl rfl True.intro ?_ | refine TriOps.nil ?_ | refine Tri.region ?_ | refine Tri.seq ?_ | refine Tri.block ?_ | refine Tri.skip ?_ | refine Tri.exit ?_ | refine TriOps.s1 rfl rfl rfl ?_ | refine TriOps.b1 rfl rfl rfl rfl rfl rfl ?_ | refine TriOps.a1 rfl rfl rfl rfl rfl rfl rfl ?_ | refine TriOps.w1 rfl rfl rfl rfl rfl rfl rfl rfl rfl ?_ | fail))
    refine TriOps.m1 rfl rfl rfl rfl rfl rfl k2 rfl ?_
    (repeat' (first | refine TriOps.v1 rfl rfl rfl rfl True.intro ?_ | refine TriOps.nil ?_ | refine Tri.region ?_ | refine Tri.seq ?_ | refine Tri.block ?_ | refine Tri.skip ?_ | refine Tri.exit ?_ | refine TriOps.s1 rfl rfl rfl ?_ | refine TriOps.b1 rfl rfl rfl rfl rfl rfl ?_ | refine TriOps.a1 rfl rfl rfl rfl rfl rfl rfl ?_ | refine TriOps.w1 rfl rfl rfl rfl rfl rfl rfl rfl rfl ?_ | fail))
    refine TriOps.c1 rfl rfl rfl rfl rfl k3 rfl ?_
    (repeat' (first | refine TriOps.v1 rfl rfl rfl rfl True.intro ?_ | refine TriOps.nil ?_ | refine Tri.region ?_ | refine Tri.seq ?_ | refine Tri.block ?_ | refine Tri.skip ?_ | refine Tri.exit ?_ | refine TriOps.s1 rfl rfl rfl ?_ | refine TriOps.b1 rfl rfl rfl rfl rfl rfl ?_ | refine TriOps.a1 rfl rfl rfl rfl rfl rfl rfl ?_ | refine TriOps.w1 rfl rfl rfl rfl rfl rfl rfl rfl rfl ?_ | fail))
    refine TriOps.c1 rfl rfl rfl rfl rfl k4 rfl ?_
    (repeat' (first | refine TriOps.v1 rfl rfl rfl rfl True.intro ?_ | refine TriOps.nil ?_ | refine Tri.region ?_ | refine Tri.seq ?_ | refine Tri.block ?_ | refine Tri.skip ?_ | refine Tri.exit ?_ | refine TriOps.s1 rfl rfl rfl ?_ | refine TriOps.b1 rfl rfl rfl rfl rfl rfl ?_ | refine TriOps.a1 rfl rfl rfl rfl rfl rfl rfl ?_ | refine TriOps.w1 rfl rfl rfl rfl rfl rfl rfl rfl rfl ?_ | fail))
    refine Tri.dz [.loc 35, .loc 36, .loc 38] [(0, 0), (1, 0), (2, 0), (3, 0), (4, 1), (5, 1), (6, 2), (7, 0), (8, 0), (9, 0), (10, 0), (11, 0), (12, 0), (13, 0), (14, 0), (15, 0), (16, 0), (17, 0), (18, 0), (19, 0), (20, 0), (21, 1), (22, 2), (23, 0), (24, 0), (25, 0), (26, 1), (28, 1), (27, 2), (29, 2), (30, 0), (31, 0), (32, 0), (33, 0), (34, 0), (35, 0), (36, 0)] (by kernel_rfl) rfl ?_
    (repeat' (first | refine TS.v1 rfl (fun _ _ h => h) rfl rfl rfl rfl rfl True.intro ?_ | refine TS.t1 rfl (fun _ _ h => h) rfl rfl rfl rfl rfl True.intro ?_ | refine TS.nil ?_ | refine TS.n0 rfl (fun _ _ h => h) rfl rfl rfl ?_ | refine TS.n1 rfl (fun _ _ h => h) rfl rfl rfl ?_ | refine TS.n2 rfl rfl rfl rfl ?_ | refine TS.w1 rfl rfl rfl rfl rfl rfl rfl rfl rfl rfl rfl rfl ?_ | fail))
    refine TS.c1 rfl rfl rfl rfl rfl rfl rfl (kSelf _ _ _ _) rfl ?_
    (repeat' (first | refine TS.v1 rfl (fun _ _ h => h) rfl rfl rfl rfl rfl True.intro ?_ | refine TS.t1 rfl (fun _ _ h => h) rfl rfl rfl rfl rfl True.intro ?_ | refine TS.nil ?_ | refine TS.n0 rfl (fun _ _ h => h) rfl rfl rfl ?_ | refine TS.n1 rfl (fun _ _ h => h) rfl rfl rfl ?_ | refine TS.n2 rfl rfl rfl rfl ?_ | refine TS.w1 rfl rfl rfl rfl rfl rfl rfl rfl rfl rfl rfl rfl ?_ | fail))
    refine TS.c1 rfl rfl rfl rfl rfl rfl rfl kf rfl ?_
    (repeat' (first | refine TS.v1 rfl (fun _ _ h => h) rfl rfl rfl rfl rfl True.intro ?_ | refine TS.t1 rfl (fun _ _ h => h) rfl rfl rfl rfl rfl True.intro ?_ | refine TS.nil ?_ | refine TS.n0 rfl (fun _ _ h => h) rfl rfl rfl ?_ | refine TS.n1 rfl (fun _ _ h => h) rfl rfl rfl ?_ | refine TS.n2 rfl rfl rfl rfl ?_ | refine TS.w1 rfl rfl rfl rfl rfl rfl rfl rfl rfl rfl rfl rfl ?_ | fail))
    refine TS.c1 rfl rfl rfl rfl rfl rfl rfl kf rfl ?_
    (repeat' (first | refine TS.v1 rfl (fun _ _ h => h) rfl rfl rfl rfl rfl True.intro ?_ | refine TS.t1 rfl (fun _ _ h => h) rfl rfl rfl rfl rfl True.intro ?_ | refine TS.nil ?_ | refine TS.n0 rfl (fun _ _ h => h) rfl rfl rfl ?_ | refine TS.n1 rfl (fun _ _ h => h) rfl rfl rfl ?_ | refine TS.n2 rfl rfl rfl rfl ?_ | refine TS.w1 rfl rfl rfl rfl rfl rfl rfl rfl rfl rfl rfl rfl ?_ | fail))
    refine TS.c1 rfl rfl rfl rfl rfl rfl rfl ks rfl ?_
    (repeat' (first | refine TS.v1 rfl (fun _ _ h => h) rfl rfl rfl rfl rfl True.intro ?_ | refine TS.t1 rfl (fun _ _ h => h) rfl rfl rfl rfl rfl True.intro ?_ | refine TS.nil ?_ | refine TS.n0 rfl (fun _ _ h => h) rfl rfl rfl ?_ | refine TS.n1 rfl (fun _ _ h => h) rfl rfl rfl ?_ | refine TS.n2 rfl rfl rfl rfl ?_ | refine TS.w1 rfl rfl rfl rfl rfl rfl rfl rfl rfl rfl rfl rfl ?_ | fail))
    refine Tri.cond rfl (fun hc => by cases hc) (fun hc => ?_)
    (repeat' (first | refine TriOps.v1 rfl rfl rfl rfl True.intro ?_ | refine TriOps.nil ?_ | refine Tri.region ?_ | refine Tri.seq ?_ | refine Tri.block ?_ | refine Tri.skip ?_ | refine Tri.exit ?_ | refine TriOps.s1 rfl rfl rfl ?_ | refine TriOps.b1 rfl rfl rfl rfl rfl rfl ?_ | refine TriOps.a1 rfl rfl rfl rfl rfl rfl rfl ?_ | refine TriOps.w1 rfl rfl rfl rfl rfl rfl rfl rfl rfl ?_ | fail))
    refine Tri.cond rfl (fun hc => by cases hc) (fun hc => ?_)
    refine Tri.skip ?_
    exact Tri.w (n := 519) [(1, .d (.ints .u8 m))] [] [] rfl ⟨rfl, trivial⟩ trivial trivial (law1c m hbm _ rfl)
  · have f1 := isF_of hf
    have g := f1.gr
    have h1 := f1.set_lt
    rw [hf] at kf ks
    rw [f1.figS] at kf ks ⊢
    generalize setOf w h a u = s at h1 kf ks ⊢
    have h2 : allS w h ^^^ (allS w h &&& s) < 2 ^ ev w h := diff_lt (all_lt g)
    have k5 : FnV env 8 [figS w h s, figS w h (allS w h ^^^ (allS w h &&& s))] (okS w h (allS w h)) := by
      have := iJoin g h1 h2
      rwa [or_missing g h1] at this
    have k6 : FnV env 10 [figS w h s, figS w h (allS w h ^^^ (allS w h &&& s))] (okS w h 0) := by
      have := iCommon g h1 h2
      rwa [and_missing g] at this
    have n1 := cnt_allS g
    have n2 := cnt_missing g h1
    have c1 := cnt_le s
    have c2 := cnt_le (allS w h ^^^ (allS w h &&& s))
    have bw := g.bw
    have bh := g.bh
    have m1 := mul_small (x := 2 * w) (y := h) (a := 8) (b := 4) (by omega) (by omega) (by omega)
    (repeat' (first | refine TriOps.v1 rfl rfl rfl rfl True.intro ?_ | refine TriOps.nil ?_ | refine Tri.region ?_ | refine Tri.seq ?_ | refine Tri.block ?_ | refine Tri.skip ?_ | refine Tri.exit ?_ | refine TriOps.s1 rfl rfl rfl ?_ | refine TriOps.b1 rfl rfl rfl rfl rfl rfl ?_ | refine TriOps.a1 rfl rfl rfl rfl rfl rfl rfl ?_ | refine TriOps.w1 rfl rfl rfl rfl rfl rfl rfl rfl rfl ?_ | fail))
    refine TriOps.m1 rfl rfl rfl rfl rfl rfl (iMissing g h1) rfl ?_
    (repeat' (first | refine TriOps.v1 rfl rfl rfl rfl True.intro ?_ | refine TriOps.nil ?_ | refine Tri.region ?_ | refine Tri.seq ?_ | refine Tri.block ?_ | refine Tri.skip ?_ | refine Tri.exit ?_ | refine TriOps.s1 rfl rfl rfl ?_ | refine TriOps.b1 rfl rfl rfl rfl rfl rfl ?_ | refine TriOps.a1 rfl rfl rfl rfl rfl rfl rfl ?_ | refine TriOps.w1 rfl rfl rfl rfl rfl rfl rfl rfl rfl ?_ | fail))
    refine TriOps.m1 rfl rfl rfl rfl rfl rfl (sMissing g h1) rfl ?_
    (repeat' (first | refine TriOps.v1 rfl rfl rfl rfl True.intro ?_ | refine TriOps.nil ?_ | refine Tri.region ?_ | refine Tri.seq ?_ | refine Tri.block ?_ | refine Tri.skip ?_ | refine Tri.exit ?_ | refine TriOps.s1 rfl rfl rfl ?_ | refine TriOps.b1 rfl rfl rfl rfl rfl rfl ?_ | refine TriOps.a1 rfl rfl rfl rfl rfl rfl rfl ?_ | refine TriOps.w1 rfl rfl rfl rfl rfl rfl rfl rfl rfl ?_ | fail))
    refine TriOps.c1 rfl rfl rfl rfl rfl (iCount g h1) rfl ?_
    (repeat' (first | refine TriOps.v1 rfl rfl rfl rfl True.intro ?_ | refine TriOps.nil ?_ | refine Tri.region ?_ | refine Tri.seq ?_ | refine Tri.block ?_ | refine Tri.skip ?_ | refine Tri.exit ?_ | refine TriOps.s1 rfl rfl rfl ?_ | refine TriOps.b1 rfl rfl rfl rfl rfl rfl ?_ | refine TriOps.a1 rfl rfl rfl rfl rfl rfl rfl ?_ | refine TriOps.w1 rfl rfl rfl rfl rfl rfl rfl rfl rfl ?_ | fail))
    refine TriOps.c1 rfl rfl rfl rfl rfl (sCount g h1) rfl ?_
    (repeat' (first | refine TriOps.v1 rfl rfl rfl rfl True.intro ?_ | refine TriOps.nil ?_ | refine Tri.region ?_ | refine Tri.seq ?_ | refine Tri.block ?_ | refine Tri.skip ?_ | refine Tri.exit ?_ | refine TriOps.s1 rfl rfl rfl ?_ | refine TriOps.b1 rfl rfl rfl rfl rfl rfl ?_ | refine TriOps.a1 rfl rfl rfl rfl rfl rfl rfl ?_ | refine TriOps.w1 rfl rfl rfl rfl rfl rfl rfl rfl rfl ?_ | fail))
    refine Tri.dz [.loc 35, .loc 36, .loc 38] [(0, 0), (1, 0), (2, 0), (3, 0), (4, 1), (5, 1), (6, 2), (7, 0), (8, 0), (9, 0), (10, 0), (11, 0), (12, 0), (13, 0), (14, 0), (15, 0), (16, 0), (17, 0), (18, 0), (19, 0), (20, 0), (21, 1), (22, 2), (23, 0), (24, 0), (25, 0), (26, 1), (28, 1), (27, 2), (29, 2), (30, 0), (31, 0), (32, 0), (33, 0), (34, 0), (35, 0), (36, 0)] (by kernel_rfl) rfl ?_
    (repeat' (first | refine TS.v1 rfl (fun _ _ h => h) rfl rfl rfl rfl rfl True.intro ?_ | refine TS.t1 rfl (fun _ _ h => h) rfl rfl rfl rfl rfl True.intro ?_ | refine TS.nil ?_ | refine TS.n0 rfl (fun _ _ h => h) rfl rfl rfl ?_ | refine TS.n1 rfl (fun _ _ h => h) rfl rfl rfl ?_ | refine TS.n2 rfl rfl rfl rfl ?_ | refine TS.w1 rfl rfl rfl rfl rfl rfl rfl rfl rfl rfl rfl rfl ?_ | fail))
    refine TS.c1 rfl rfl rfl rfl rfl rfl rfl (kSelf _ _ _ _) rfl ?_
    (repeat' (first | refine TS.v1 rfl (fun _ _ h => h) rfl rfl rfl rfl rfl True.intro ?_ | refine TS.t1 rfl (fun _ _ h => h) rfl rfl rfl rfl rfl True.intro ?_ | refine TS.nil ?_ | refine TS.n0 rfl (fun _ _ h => h) rfl rfl rfl ?_ | refine TS.n1 rfl (fun _ _ h => h) rfl rfl rfl ?_ | refine TS.n2 rfl rfl rfl rfl ?_ | refine TS.w1 rfl rfl rfl rfl rfl rfl rfl rfl rfl rfl rfl rfl ?_ | fail))
    simp only [bne_self_eq_false]
    (repeat' (first | refine TS.v1 rfl (fun _ _ h => h) rfl rfl rfl rfl rfl True.intro ?_ | refine TS.t1 rfl (fun _ _ h => h) rfl rfl rfl rfl rfl True.intro ?_ | refine TS.nil ?_ | refine TS.n0 rfl (fun _ _ h => h) rfl rfl rfl ?_ | refine TS.n1 rfl (fun _ _ h => h) rfl rfl rfl ?_ | refine TS.n2 rfl rfl rfl rfl ?_ | refine TS.w1 rfl rfl rfl rfl rfl rfl rfl rfl rfl rfl rfl rfl ?_ | fail))
    refine TS.c1 rfl rfl rfl rfl rfl rfl rfl kf rfl ?_
    (repeat' (first | refine TS.v1 rfl (fun _ _ h => h) rfl rfl rfl rfl rfl True.intro ?_ | refine TS.t1 rfl (fun _ _ h => h) rfl rfl rfl rfl rfl True.intro ?_ | refine TS.nil ?_ | refine TS.n0 rfl (fun _ _ h => h) rfl rfl rfl ?_ | refine TS.n1 rfl (fun _ _ h => h) rfl rfl rfl ?_ | refine TS.n2 rfl rfl rfl rfl ?_ | refine TS.w1 rfl rfl rfl rfl rfl rfl rfl rfl rfl rfl rfl rfl ?_ | fail))
    refine TS.c1 rfl rfl rfl rfl rfl rfl rfl kf rfl ?_
    (repeat' (first | refine TS.v1 rfl (fun _ _ h => h) rfl rfl rfl rfl rfl True.intro ?_ | refine TS.t1 rfl (fun _ _ h => h) rfl rfl rfl rfl rfl True.intro ?_ | refine TS.nil ?_ | refine TS.n0 rfl (fun _ _ h => h) rfl rfl rfl ?_ | refine TS.n1 rfl (fun _ _ h => h) rfl rfl rfl ?_ | refine TS.n2 rfl rfl rfl rfl ?_ | refine TS.w1 rfl rfl rfl rfl rfl rfl rfl rfl rfl rfl rfl rfl ?_ | fail))
    refine TS.c1 rfl rfl rfl rfl rfl rfl rfl ks rfl ?_
    (repeat' (first | refine TS.v1 rfl (fun _ _ h => h) rfl rfl rfl rfl rfl True.intro ?_ | refine TS.t1 rfl (fun _ _ h => h) rfl rfl rfl rfl rfl True.intro ?_ | refine TS.nil ?_ | refine TS.n0 rfl (fun _ _ h => h) rfl rfl rfl ?_ | refine TS.n1 rfl (fun _ _ h => h) rfl rfl rfl ?_ | refine TS.n2 rfl rfl rfl rfl ?_ | refine TS.w1 rfl rfl rfl rfl rfl rfl rfl rfl rfl rfl rfl rfl ?_ | fail))
    refine Tri.cond rfl (fun hc => by cases hc) (fun hc => ?_)
    refine Tri.skip ?_
    refine Tri.seq ?_
    refine Tri.w (n := 519) [(1, .d (.ints .u8 m)), (35, .ptr (.loc 35) 0), (36, .ptr (.loc 36) 0), (37, .d (.bool true)), (40, .d (.int .i64 (cnt s : Nat)))]
      [(.loc 35, figD w h (lowS w h s) (highS w h s)), (.loc 36, figD w h (lowS w h (allS w h ^^^ (allS w h &&& s))) (highS w h (allS w h ^^^ (allS w h &&& s))))] []
      rfl ⟨rfl, rfl, rfl, rfl, rfl, trivial⟩ ⟨rfl, rfl, trivial⟩ trivial ?_
    unfold figD
    refine Tri.join (fun _ : Unit => True) (fun _ => stt 519 [(1, .d (.ints .u8 m))] [] []) ?_ (fun _ _ => law1c m hbm _ rfl)
    (repeat' (first | refine TriOps.v1 rfl rfl rfl rfl True.intro ?_ | refine TriOps.nil ?_ | refine Tri.region ?_ | refine Tri.seq ?_ | refine Tri.block ?_ | refine Tri.skip ?_ | refine Tri.exit ?_ | refine TriOps.s1 rfl rfl rfl ?_ | refine TriOps.b1 rfl rfl rfl rfl rfl rfl ?_ | refine TriOps.a1 rfl rfl rfl rfl rfl rfl rfl ?_ | refine TriOps.w1 rfl rfl rfl rfl rfl rfl rfl rfl rfl ?_ | fail))
    refine Tri.cond rfl (fun hc => ?_) (fun hc => by cases hc)
    (repeat' (first | refine TriOps.v1 rfl rfl rfl rfl True.intro ?_ | refine TriOps.nil ?_ | refine Tri.region ?_ | refine Tri.seq ?_ | refine Tri.block ?_ | refine Tri.skip ?_ | refine Tri.exit ?_ | refine TriOps.s1 rfl rfl rfl ?_ | refine TriOps.b1 rfl rfl rfl rfl rfl rfl ?_ | refine TriOps.a1 rfl rfl rfl rfl rfl rfl rfl ?_ | refine TriOps.w1 rfl rfl rfl rfl rfl rfl rfl rfl rfl ?_ | fail))
    refine TriOps.m1 rfl rfl rfl rfl rfl rfl (iFull g) rfl ?_
    (repeat' (first | refine TriOps.v1 rfl rfl rfl rfl True.intro ?_ | refine TriOps.nil ?_ | refine Tri.region ?_ | refine Tri.seq ?_ | refine Tri.block ?_ | refine Tri.skip ?_ | refine Tri.exit ?_ | refine TriOps.s1 rfl rfl rfl ?_ | refine TriOps.b1 rfl rfl rfl rfl rfl rfl ?_ | refine TriOps.a1 rfl rfl rfl rfl rfl rfl rfl ?_ | refine TriOps.w1 rfl rfl rfl rfl rfl rfl rfl rfl rfl ?_ | fail))
    refine TriOps.m1 rfl rfl rfl rfl rfl rfl (iEmpty g) rfl ?_
    (repeat' (first | refine TriOps.v1 rfl rfl rfl rfl True.intro ?_ | refine TriOps.nil ?_ | refine Tri.region ?_ | refine Tri.seq ?_ | refine Tri.block ?_ | refine Tri.skip ?_ | refine Tri.exit ?_ | refine TriOps.s1 rfl rfl rfl ?_ | refine TriOps.b1 rfl rfl rfl rfl rfl rfl ?_ | refine TriOps.a1 rfl rfl rfl rfl rfl rfl rfl ?_ | refine TriOps.w1 rfl rfl rfl rfl rfl rfl rfl rfl rfl ?_ | fail))
    refine TriOps.m1 rfl rfl rfl rfl rfl rfl k5 rfl ?_
    (repeat' (first | refine TriOps.v1 rfl rfl rfl rfl True.intro ?_ | refine TriOps.nil ?_ | refine Tri.region ?_ | refine Tri.seq ?_ | refine Tri.block ?_ | refine Tri.skip ?_ | refine Tri.exit ?_ | refine TriOps.s1 rfl rfl rfl ?_ | refine TriOps.b1 rfl rfl rfl rfl rfl rfl ?_ | refine TriOps.a1 rfl rfl rfl rfl rfl rfl rfl ?_ | refine TriOps.w1 rfl rfl rfl rfl rfl rfl rfl rfl rfl ?_ | fail))
    refine TriOps.m1 rfl rfl rfl rfl rfl rfl k6 rfl ?_
    (repeat' (first | refine TriOps.v1 rfl rfl rfl rfl True.intro ?_ | refine TriOps.nil ?_ | refine Tri.region ?_ | refine Tri.seq ?_ | refine Tri.block ?_ | refine Tri.skip ?_ | refine Tri.exit ?_ | refine TriOps.s1 rfl rfl rfl ?_ | refine TriOps.b1 rfl rfl rfl rfl rfl rfl ?_ | refine TriOps.a1 rfl rfl rfl rfl rfl rfl rfl ?_ | refine TriOps.w1 rfl rfl rfl rfl rfl rfl rfl rfl rfl ?_ | fail))
    refine TriOps.c1 rfl rfl rfl rfl rfl (iCount g (all_lt g)) rfl ?_
    (repeat' (first | refine TriOps.v1 rfl rfl rfl rfl True.intro ?_ | refine TriOps.nil ?_ | refine Tri.region ?_ | refine Tri.seq ?_ | refine Tri.block ?_ | refine Tri.skip ?_ | refine Tri.exit ?_ | refine TriOps.s1 rfl rfl rfl ?_ | refine TriOps.b1 rfl rfl rfl rfl rfl rfl ?_ | refine TriOps.a1 rfl rfl rfl rfl rfl rfl rfl ?_ | refine TriOps.w1 rfl rfl rfl rfl rfl rfl rfl rfl rfl ?_ | fail))
    refine TriOps.c1 rfl rfl rfl rfl rfl (iCount g h2) rfl ?_
    (repeat' (first | refine TriOps.v1 rfl rfl rfl rfl True.intro ?_ | refine TriOps.nil ?_ | refine Tri.region ?_ | refine Tri.seq ?_ | refine Tri.block ?_ | refine Tri.skip ?_ | refine Tri.exit ?_ | refine TriOps.s1 rfl rfl rfl ?_ | refine TriOps.b1 rfl rfl rfl rfl rfl rfl ?_ | refine TriOps.a1 rfl rfl rfl rfl rfl rfl rfl ?_ | refine TriOps.w1 rfl rfl rfl rfl rfl rfl rfl rfl rfl ?_ | fail))
    refine TriOps.c1 rfl rfl rfl rfl rfl (kSelf _ _ _ _) rfl ?_
    (repeat' (first | refine TriOps.v1 rfl rfl rfl rfl True.intro ?_ | refine TriOps.nil ?_ | refine Tri.region ?_ | refine Tri.seq ?_ | refine Tri.block ?_ | refine Tri.skip ?_ | refine Tri.exit ?_ | refine TriOps.s1 rfl rfl rfl ?_ | refine TriOps.b1 rfl rfl rfl rfl rfl rfl ?_ | refine TriOps.a1 rfl rfl rfl rfl rfl rfl rfl ?_ | refine TriOps.w1 rfl rfl rfl rfl rfl rfl rfl rfl rfl ?_ | fail))
    refine TriOps.c1 rfl rfl rfl rfl rfl (kSelf _ _ _ _) rfl ?_
    (repeat' (first | refine TriOps.v1 rfl rfl rfl rfl True.intro ?_ | refine TriOps.nil ?_ | refine Tri.region ?_ | refine Tri.seq ?_ | refine Tri.block ?_ | refine Tri.skip ?_ | refine Tri.exit ?_ | refine TriOps.s1 rfl rfl rfl ?_ | refine TriOps.b1 rfl rfl rfl rfl rfl rfl ?_ | refine TriOps.a1 rfl rfl rfl rfl rfl rfl rfl ?_ | refine TriOps.w1 rfl rfl rfl rfl rfl rfl rfl rfl rfl ?_ | fail))
    refine TriOps.v1 rfl rfl rfl rfl (by first | exact True.intro | exact inR_i64 (by omega) (by omega) | omega | (refine ⟨?_, ?_⟩ <;> omega)) ?_
    (repeat' (first | refine TriOps.v1 rfl rfl rfl rfl True.intro ?_ | refine TriOps.nil ?_ | refine Tri.region ?_ | refine Tri.seq ?_ | refine Tri.block ?_ | refine Tri.skip ?_ | refine Tri.exit ?_ | refine TriOps.s1 rfl rfl rfl ?_ | refine TriOps.b1 rfl rfl rfl rfl rfl rfl ?_ | refine TriOps.a1 rfl rfl rfl rfl rfl rfl rfl ?_ | refine TriOps.w1 rfl rfl rfl rfl rfl rfl rfl rfl rfl ?_ | fail))
    refine TriOps.v1 rfl rfl rfl rfl (by first | exact True.intro | exact inR_i64 (by omega) (by omega) | omega | (refine ⟨?_, ?_⟩ <;> omega)) ?_
    (repeat' (first | refine TriOps.v1 rfl rfl rfl rfl True.intro ?_ | refine TriOps.nil ?_ | refine Tri.region ?_ | refine Tri.seq ?_ | refine Tri.block ?_ | refine Tri.skip ?_ | refine Tri.exit ?_ | refine TriOps.s1 rfl rfl rfl ?_ | refine TriOps.b1 rfl rfl rfl rfl rfl rfl ?_ | refine TriOps.a1 rfl rfl rfl rfl rfl rfl rfl ?_ | refine TriOps.w1 rfl rfl rfl rfl rfl rfl rfl rfl rfl ?_ | fail))
    refine TriOps.v1 rfl rfl rfl rfl (by first | exact True.intro | exact inR_i64 (by omega) (by omega) | omega | (refine ⟨?_, ?_⟩ <;> omega)) ?_
    (repeat' (first | refine TriOps.v1 rfl rfl rfl rfl True.intro ?_ | refine TriOps.nil ?_ | refine Tri.region ?_ | refine Tri.seq ?_ | refine Tri.block ?_ | refine Tri.skip ?_ | refine Tri.exit ?_ | refine TriOps.s1 rfl rfl rfl ?_ | refine TriOps.b1 rfl rfl rfl rfl rfl rfl ?_ | refine TriOps.a1 rfl rfl rfl rfl rfl rfl rfl ?_ | refine TriOps.w1 rfl rfl rfl rfl rfl rfl rfl rfl rfl ?_ | fail))
    refine TriOps.v1 rfl rfl rfl rfl (by first | exact True.intro | exact inR_i64 (by omega) (by omega) | omega | (refine ⟨?_, ?_⟩ <;> omega)) ?_
    refine TriOps.v1 rfl rfl rfl rfl True.intro ?_
    rw [show (((cnt (allS w h) : Nat) : Int) != 2 * w * h + w + h) = false by simp; omega]
    (repeat' (first | refine TriOps.v1 rfl rfl rfl rfl True.intro ?_ | refine TriOps.nil ?_ | refine Tri.region ?_ | refine Tri.seq ?_ | refine Tri.block ?_ | refine Tri.skip ?_ | refine Tri.exit ?_ | refine TriOps.s1 rfl rfl rfl ?_ | refine TriOps.b1 rfl rfl rfl rfl rfl rfl ?_ | refine TriOps.a1 rfl rfl rfl rfl rfl rfl rfl ?_ | refine TriOps.w1 rfl rfl rfl rfl rfl rfl rfl rfl rfl ?_ | fail))
    refine TriOps.v1 rfl rfl rfl rfl (by first | exact True.intro | exact inR_i64 (by omega) (by omega) | omega | (refine ⟨?_, ?_⟩ <;> omega)) ?_
    (repeat' (first | refine TriOps.v1 rfl rfl rfl rfl True.intro ?_ | refine TriOps.nil ?_ | refine Tri.region ?_ | refine Tri.seq ?_ | refine Tri.block ?_ | refine Tri.skip ?_ | refine Tri.exit ?_ | refine TriOps.s1 rfl rfl rfl ?_ | refine TriOps.b1 rfl rfl rfl rfl rfl rfl ?_ | refine TriOps.a1 rfl rfl rfl rfl rfl rfl rfl ?_ | refine TriOps.w1 rfl rfl rfl rfl rfl rfl rfl rfl rfl ?_ | fail))
    rw [show (((cnt s : Nat) : Int) + (cnt (allS w h ^^^ (allS w h &&& s)) : Nat) != (cnt (allS w h) : Nat)) = false by simp; omega]
    (repeat' (first | refine TriOps.v1 rfl rfl rfl rfl True.intro ?_ | refine TriOps.nil ?_ | refine Tri.region ?_ | refine Tri.seq ?_ | refine Tri.block ?_ | refine Tri.skip ?_ | refine Tri.exit ?_ | refine TriOps.s1 rfl rfl rfl ?_ | refine TriOps.b1 rfl rfl rfl rfl rfl rfl ?_ | refine TriOps.a1 rfl rfl rfl rfl rfl rfl rfl ?_ | refine TriOps.w1 rfl rfl rfl rfl rfl rfl rfl rfl rfl ?_ | fail))
    refine Tri.cond rfl (fun hc => by cases hc) (fun hc => ?_)
    (repeat' (first | refine TriOps.v1 rfl rfl rfl rfl True.intro ?_ | refine TriOps.nil ?_ | refine Tri.region ?_ | refine Tri.seq ?_ | refine Tri.block ?_ | refine Tri.skip ?_ | refine Tri.exit ?_ | refine TriOps.s1 rfl rfl rfl ?_ | refine TriOps.b1 rfl rfl rfl rfl rfl rfl ?_ | refine TriOps.a1 rfl rfl rfl rfl rfl rfl rfl ?_ | refine TriOps.w1 rfl rfl rfl rfl rfl rfl rfl rfl rfl ?_ | fail))
    exact ⟨(), trivial, Wk.to rfl ⟨rfl, trivial⟩ trivial trivial⟩
set_option maxHeartbeats 4000000 in
theorem law1 (c m : List Int) (hbc : Bytes c) (hbm : Bytes m) : FnV env 3 [.d (.ints .u8 c), .d (.ints .u8 m)] (.d (.bool true)) := by
  refine Fn.vs (E := env) 519 Tryd.func3 rfl (by kernel_rfl) rfl rfl ?_
  (repeat' (first | refine TriOps.v1 rfl rfl rfl rfl True.intro ?_ | refine TriOps.nil ?_ | refine Tri.region ?_ | refine Tri.seq ?_ | refine Tri.block ?_ | refine Tri.skip ?_ | refine Tri.exit ?_ | refine TriOps.s1 rfl rfl rfl ?_ | refine TriOps.b1 rfl rfl rfl rfl rfl rfl ?_ | refine TriOps.a1 rfl rfl rfl rfl rfl rfl rfl ?_ | refine TriOps.w1 rfl rfl rfl rfl rfl rfl rfl rfl rfl ?_ | fail))
  refine TriOps.c1 rfl rfl rfl rfl rfl (big_fn c m) rfl ?_
  (repeat' (first | refine TriOps.v1 rfl rfl rfl rfl True.intro ?_ | refine TriOps.nil ?_ | refine Tri.region ?_ | refine Tri.seq ?_ | refine Tri.block ?_ | refine Tri.skip ?_ | refine Tri.exit ?_ | refine TriOps.s1 rfl rfl rfl ?_ | refine TriOps.b1 rfl rfl rfl rfl rfl rfl ?_ | refine TriOps.a1 rfl rfl rfl rfl rfl rfl rfl ?_ | refine TriOps.w1 rfl rfl rfl rfl rfl rfl rfl rfl rfl ?_ | fail))
  refine Tri.cond rfl (fun hc => ?_) (fun hc => ?_)
  · (repeat' (first | refine TriOps.v1 rfl rfl rfl rfl True.intro ?_ | refine TriOps.nil ?_ | refine Tri.region ?_ | refine Tri.seq ?_ | refine Tri.block ?_ | refine Tri.skip ?_ | refine Tri.exit ?_ | refine TriOps.s1 rfl rfl rfl ?_ | refine TriOps.b1 rfl rfl rfl rfl rfl rfl ?_ | refine TriOps.a1 rfl rfl rfl rfl rfl rfl rfl ?_ | refine TriOps.w1 rfl rfl rfl rfl rfl rfl rfl rfl rfl ?_ | fail))
    refine Tri.ret (retV rfl rfl)
  (repeat' (first | refine TriOps.v1 rfl rfl rfl rfl True.intro ?_ | refine TriOps.nil ?_ | refine Tri.region ?_ | refine Tri.seq ?_ | refine Tri.block ?_ | refine Tri.skip ?_ | refine Tri.exit ?_ | refine TriOps.s1 rfl rfl rfl ?_ | refine TriOps.b1 rfl rfl rfl rfl rfl rfl ?_ | refine TriOps.a1 rfl rfl rfl rfl rfl rfl rfl ?_ | refine TriOps.w1 rfl rfl rfl rfl rfl rfl rfl rfl rfl ?_ | fail))
  refine TriOps.m2 rfl rfl rfl rfl rfl rfl (drawJoin_fn c hbc) ?_
  rintro _ ⟨w, h, a, u, w', h', a', u', rfl, _, _⟩
  cases hal : alike w h a u w' h' a' u'
  · obtain ⟨k1, k2, k3, k4, k5, k6⟩ := join_no hal
    (repeat' (first | refine TriOps.v1 rfl rfl rfl rfl True.intro ?_ | refine TriOps.nil ?_ | refine Tri.region ?_ | refine Tri.seq ?_ | refine Tri.block ?_ | refine Tri.skip ?_ | refine Tri.exit ?_ | refine TriOps.s1 rfl rfl rfl ?_ | refine TriOps.b1 rfl rfl rfl rfl rfl rfl ?_ | refine TriOps.a1 rfl rfl rfl rfl rfl rfl rfl ?_ | refine TriOps.w1 rfl rfl rfl rfl rfl rfl rfl rfl rfl ?_ | fail))
    refine TriOps.m1 rfl rfl rfl rfl rfl rfl k1 rfl ?_
    (repeat' (first | refine TriOps.v1 rfl rfl rfl rfl True.intro ?_ | refine TriOps.nil ?_ | refine Tri.region ?_ | refine Tri.seq ?_ | refine Tri.block ?_ | refine Tri.skip ?_ | refine Tri.exit ?_ | refine TriOps.s1 rfl rfl rfl ?_ | refine TriOps.b1 rfl rfl rfl rfl rfl rfl ?_ | refine TriOps.a1 rfl rfl rfl rfl rfl rfl rfl ?_ | refine TriOps.w1 rfl rfl rfl rfl rfl rfl rfl rfl rfl ?_ | fail))
    refine TriOps.m1 rfl rfl rfl rfl rfl rfl k2 rfl ?_
    (repeat' (first | refine TriOps.v1 rfl rfl rfl rfl True.intro ?_ | refine TriOps.nil ?_ | refine Tri.region ?_ | refine Tri.seq ?_ | refine Tri.block ?_ | refine Tri.skip ?_ | refine Tri.exit ?_ | refine TriOps.s1 rfl rfl rfl ?_ | refine TriOps.b1 rfl rfl rfl rfl rfl rfl ?_ | refine TriOps.a1 rfl rfl rfl rfl rfl rfl rfl ?_ | refine TriOps.w1 rfl rfl rfl rfl rfl rfl rfl rfl rfl ?_ | fail))
    refine TriOps.m1 rfl rfl rfl rfl rfl rfl k3 rfl ?_
    (repeat' (first | refine TriOps.v1 rfl rfl rfl rfl True.intro ?_ | refine TriOps.nil ?_ | refine Tri.region ?_ | refine Tri.seq ?_ | refine Tri.block ?_ | refine Tri.skip ?_ | refine Tri.exit ?_ | refine TriOps.s1 rfl rfl rfl ?_ | refine TriOps.b1 rfl rfl rfl rfl rfl rfl ?_ | refine TriOps.a1 rfl rfl rfl rfl rfl rfl rfl ?_ | refine TriOps.w1 rfl rfl rfl rfl rfl rfl rfl rfl rfl ?_ | fail))
    refine TriOps.m1 rfl rfl rfl rfl rfl rfl k4 rfl ?_
    (repeat' (first | refine TriOps.v1 rfl rfl rfl rfl True.intro ?_ | refine TriOps.nil ?_ | refine Tri.region ?_ | refine Tri.seq ?_ | refine Tri.block ?_ | refine Tri.skip ?_ | refine Tri.exit ?_ | refine TriOps.s1 rfl rfl rfl ?_ | refine TriOps.b1 rfl rfl rfl rfl rfl rfl ?_ | refine TriOps.a1 rfl rfl rfl rfl rfl rfl rfl ?_ | refine TriOps.w1 rfl rfl rfl rfl rfl rfl rfl rfl rfl ?_ | fail))
    refine TriOps.m1 rfl rfl rfl rfl rfl rfl k5 rfl ?_
    (repeat' (first | refine TriOps.v1 rfl rfl rfl rfl True.intro ?_ | refine TriOps.nil ?_ | refine Tri.region ?_ | refine Tri.seq ?_ | refine Tri.block ?_ | refine Tri.skip ?_ | refine Tri.exit ?_ | refine TriOps.s1 rfl rfl rfl ?_ | refine TriOps.b1 rfl rfl rfl rfl rfl rfl ?_ | refine TriOps.a1 rfl rfl rfl rfl rfl rfl rfl ?_ | refine TriOps.w1 rfl rfl rfl rfl rfl rfl rfl rfl rfl ?_ | fail))
    refine TriOps.m1 rfl rfl rfl rfl rfl rfl k6 rfl ?_
    (repeat' (first | refine TriOps.v1 rfl rfl rfl rfl True.intro ?_ | refine TriOps.nil ?_ | refine Tri.region ?_ | refine Tri.seq ?_ | refine Tri.block ?_ | refine Tri.skip ?_ | refine Tri.exit ?_ | refine TriOps.s1 rfl rfl rfl ?_ | refine TriOps.b1 rfl rfl rfl rfl rfl rfl ?_ | refine TriOps.a1 rfl rfl rfl rfl rfl rfl rfl ?_ | refine TriOps.w1 rfl rfl rfl rfl rfl rfl rfl rfl rfl ?_ | fail))
    refine TriOps.c1 rfl rfl rfl rfl rfl (kSelf _ _ _ _) rfl ?_
    (repeat' (first | refine TriOps.v1 rfl rfl rfl rfl True.intro ?_ | refine TriOps.nil ?_ | refine Tri.region ?_ | refine Tri.seq ?_ | refine Tri.block ?_ | refine Tri.skip ?_ | refine Tri.exit ?_ | refine TriOps.s1 rfl rfl rfl ?_ | refine TriOps.b1 rfl rfl rfl rfl rfl rfl ?_ | refine TriOps.a1 rfl rfl rfl rfl rfl rfl rfl ?_ | refine TriOps.w1 rfl rfl rfl rfl rfl rfl rfl rfl rfl ?_ | fail))
    refine TriOps.c1 rfl rfl rfl rfl rfl (kSelf _ _ _ _) rfl ?_
    (repeat' (first | refine TriOps.v1 rfl rfl rfl rfl True.intro ?_ | refine TriOps.nil ?_ | refine Tri.region ?_ | refine Tri.seq ?_ | refine Tri.block ?_ | refine Tri.skip ?_ | refine Tri.exit ?_ | refine TriOps.s1 rfl rfl rfl ?_ | refine TriOps.b1 rfl rfl rfl rfl rfl rfl ?_ | refine TriOps.a1 rfl rfl rfl rfl rfl rfl rfl ?_ | refine TriOps.w1 rfl rfl rfl rfl rfl rfl rfl rfl rfl ?_ | fail))
    refine TriOps.c1 rfl rfl rfl rfl rfl (kSelf _ _ _ _) rfl ?_
    (repeat' (first | refine TriOps.v1 rfl rfl rfl rfl True.intro ?_ | refine TriOps.nil ?_ | refine Tri.region ?_ | refine Tri.seq ?_ | refine Tri.block ?_ | refine Tri.skip ?_ | refine Tri.exit ?_ | refine TriOps.s1 rfl rfl rfl ?_ | refine TriOps.b1 rfl rfl rfl rfl rfl rfl ?_ | refine TriOps.a1 rfl rfl rfl rfl rfl rfl rfl ?_ | refine TriOps.w1 rfl rfl rfl rfl rfl rfl rfl rfl rfl ?_ | fail))
    refine Tri.cond rfl (fun hc => by cases hc) (fun hc => ?_)
    (repeat' (first | refine TriOps.v1 rfl rfl rfl rfl True.intro ?_ | refine TriOps.nil ?_ | refine Tri.region ?_ | refine Tri.seq ?_ | refine Tri.block ?_ | refine Tri.skip ?_ | refine Tri.exit ?_ | refine TriOps.s1 rfl rfl rfl ?_ | refine TriOps.b1 rfl rfl rfl rfl rfl rfl ?_ | refine TriOps.a1 rfl rfl rfl rfl rfl rfl rfl ?_ | refine TriOps.w1 rfl rfl rfl rfl rfl rfl rfl rfl rfl ?_ | fail))
    refine Tri.cond rfl (fun hc => by cases hc) (fun hc => ?_)
    refine Tri.skip ?_
    exact Tri.w (n := 519) [(1, .d (.ints .u8 m))] [] [] rfl ⟨rfl, trivial⟩ trivial trivial (law1b m hbm _ rfl)
  · obtain ⟨f1, f2, rfl, rfl⟩ := alike_of hal
    have g := f1.gr
    have h1 := f1.set_lt
    have h2 := f2.set_lt
    rw [f1.figS, f2.figS]
    generalize setOf w h a u = s at h1 ⊢
    generalize setOf w h a' u' = t at h2 ⊢
    have ho := or_lt h1 h2
    have ha := and_lt' (t := t) h1
    have hd := diff_lt (t := t) h1
    have hb : FnV env 8 [figS w h (s ^^^ (s &&& t)), figS w h (s &&& t)] (okS w h s) := by
      have := iJoin g hd ha
      rwa [less_or_common] at this
    have ht : FnV env 8 [figS w h t, figS w h s] (okS w h (s ||| t)) := by
      have := iJoin g h2 h1
      rwa [Nat.or_comm] at this
    have n1 := cnt_or_and s t
    have n2 := cnt_diff s t
    have c1 := cnt_le s
    have c2 := cnt_le t
    have c3 := cnt_le (s ||| t)
    have c4 := cnt_le (s &&& t)
    have c5 := cnt_le (s ^^^ (s &&& t))
    (repeat' (first | refine TriOps.v1 rfl rfl rfl rfl True.intro ?_ | refine TriOps.nil ?_ | refine Tri.region ?_ | refine Tri.seq ?_ | refine Tri.block ?_ | refine Tri.skip ?_ | refine Tri.exit ?_ | refine TriOps.s1 rfl rfl rfl ?_ | refine TriOps.b1 rfl rfl rfl rfl rfl rfl ?_ | refine TriOps.a1 rfl rfl rfl rfl rfl rfl rfl ?_ | refine TriOps.w1 rfl rfl rfl rfl rfl rfl rfl rfl rfl ?_ | fail))
    refine TriOps.m1 rfl rfl rfl rfl rfl rfl (iJoin g h1 h2) rfl ?_
    (repeat' (first | refine TriOps.v1 rfl rfl rfl rfl True.intro ?_ | refine TriOps.nil ?_ | refine Tri.region ?_ | refine Tri.seq ?_ | refine Tri.block ?_ | refine Tri.skip ?_ | refine Tri.exit ?_ | refine TriOps.s1 rfl rfl rfl ?_ | refine TriOps.b1 rfl rfl rfl rfl rfl rfl ?_ | refine TriOps.a1 rfl rfl rfl rfl rfl rfl rfl ?_ | refine TriOps.w1 rfl rfl rfl rfl rfl rfl rfl rfl rfl ?_ | fail))
    refine TriOps.m1 rfl rfl rfl rfl rfl rfl (sJoin g h1 h2) rfl ?_
    (repeat' (first | refine TriOps.v1 rfl rfl rfl rfl True.intro ?_ | refine TriOps.nil ?_ | refine Tri.region ?_ | refine Tri.seq ?_ | refine Tri.block ?_ | refine Tri.skip ?_ | refine Tri.exit ?_ | refine TriOps.s1 rfl rfl rfl ?_ | refine TriOps.b1 rfl rfl rfl rfl rfl rfl ?_ | refine TriOps.a1 rfl rfl rfl rfl rfl rfl rfl ?_ | refine TriOps.w1 rfl rfl rfl rfl rfl rfl rfl rfl rfl ?_ | fail))
    refine TriOps.m1 rfl rfl rfl rfl rfl rfl (iCommon g h1 h2) rfl ?_
    (repeat' (first | refine TriOps.v1 rfl rfl rfl rfl True.intro ?_ | refine TriOps.nil ?_ | refine Tri.region ?_ | refine Tri.seq ?_ | refine Tri.block ?_ | refine Tri.skip ?_ | refine Tri.exit ?_ | refine TriOps.s1 rfl rfl rfl ?_ | refine TriOps.b1 rfl rfl rfl rfl rfl rfl ?_ | refine TriOps.a1 rfl rfl rfl rfl rfl rfl rfl ?_ | refine TriOps.w1 rfl rfl rfl rfl rfl rfl rfl rfl rfl ?_ | fail))
    refine TriOps.m1 rfl rfl rfl rfl rfl rfl (sCommon g h1 h2) rfl ?_
    (repeat' (first | refine TriOps.v1 rfl rfl rfl rfl True.intro ?_ | refine TriOps.nil ?_ | refine Tri.region ?_ | refine Tri.seq ?_ | refine Tri.block ?_ | refine Tri.skip ?_ | refine Tri.exit ?_ | refine TriOps.s1 rfl rfl rfl ?_ | refine TriOps.b1 rfl rfl rfl rfl rfl rfl ?_ | refine TriOps.a1 rfl rfl rfl rfl rfl rfl rfl ?_ | refine TriOps.w1 rfl rfl rfl rfl rfl rfl rfl rfl rfl ?_ | fail))
    refine TriOps.m1 rfl rfl rfl rfl rfl rfl (iLess g h1 h2) rfl ?_
    (repeat' (first | refine TriOps.v1 rfl rfl rfl rfl True.intro ?_ | refine TriOps.nil ?_ | refine Tri.region ?_ | refine Tri.seq ?_ | refine Tri.block ?_ | refine Tri.skip ?_ | refine Tri.exit ?_ | refine TriOps.s1 rfl rfl rfl ?_ | refine TriOps.b1 rfl rfl rfl rfl rfl rfl ?_ | refine TriOps.a1 rfl rfl rfl rfl rfl rfl rfl ?_ | refine TriOps.w1 rfl rfl rfl rfl rfl rfl rfl rfl rfl ?_ | fail))
    refine TriOps.m1 rfl rfl rfl rfl rfl rfl (sLess g h1 h2) rfl ?_
    (repeat' (first | refine TriOps.v1 rfl rfl rfl rfl True.intro ?_ | refine TriOps.nil ?_ | refine Tri.region ?_ | refine Tri.seq ?_ | refine Tri.block ?_ | refine Tri.skip ?_ | refine Tri.exit ?_ | refine TriOps.s1 rfl rfl rfl ?_ | refine TriOps.b1 rfl rfl rfl rfl rfl rfl ?_ | refine TriOps.a1 rfl rfl rfl rfl rfl rfl rfl ?_ | refine TriOps.w1 rfl rfl rfl rfl rfl rfl rfl rfl rfl ?_ | fail))
    refine TriOps.c1 rfl rfl rfl rfl rfl (kSelf _ _ _ _) rfl ?_
    (repeat' (first | refine TriOps.v1 rfl rfl rfl rfl True.intro ?_ | refine TriOps.nil ?_ | refine Tri.region ?_ | refine Tri.seq ?_ | refine Tri.block ?_ | refine Tri.skip ?_ | refine Tri.exit ?_ | refine TriOps.s1 rfl rfl rfl ?_ | refine TriOps.b1 rfl rfl rfl rfl rfl rfl ?_ | refine TriOps.a1 rfl rfl rfl rfl rfl rfl rfl ?_ | refine TriOps.w1 rfl rfl rfl rfl rfl rfl rfl rfl rfl ?_ | fail))
    refine TriOps.c1 rfl rfl rfl rfl rfl (kSelf _ _ _ _) rfl ?_
    (repeat' (first | refine TriOps.v1 rfl rfl rfl rfl True.intro ?_ | refine TriOps.nil ?_ | refine Tri.region ?_ | refine Tri.seq ?_ | refine Tri.block ?_ | refine Tri.skip ?_ | refine Tri.exit ?_ | refine TriOps.s1 rfl rfl rfl ?_ | refine TriOps.b1 rfl rfl rfl rfl rfl rfl ?_ | refine TriOps.a1 rfl rfl rfl rfl rfl rfl rfl ?_ | refine TriOps.w1 rfl rfl rfl rfl rfl rfl rfl rfl rfl ?_ | fail))
    refine TriOps.c1 rfl rfl rfl rfl rfl (kSelf _ _ _ _) rfl ?_
    (repeat' (first | refine TriOps.v1 rfl rfl rfl rfl True.intro ?_ | refine TriOps.nil ?_ | refine Tri.region ?_ | refine Tri.seq ?_ | refine Tri.block ?_ | refine Tri.skip ?_ | refine Tri.exit ?_ | refine TriOps.s1 rfl rfl rfl ?_ | refine TriOps.b1 rfl rfl rfl rfl rfl rfl ?_ | refine TriOps.a1 rfl rfl rfl rfl rfl rfl rfl ?_ | refine TriOps.w1 rfl rfl rfl rfl rfl rfl rfl rfl rfl ?_ | fail))
    refine Tri.cond rfl (fun hc => by cases hc) (fun hc => ?_)
    refine Tri.skip ?_
    refine Tri.seq ?_
    refine Tri.w (n := 519) [(1, .d (.ints .u8 m)), (5, .ptr (.loc 5) 0), (6, .ptr (.loc 6) 0), (7, .ptr (.loc 7) 0), (8, .d (.bool true)), (11, .ptr (.loc 11) 0), (15, .ptr (.loc 15) 0)]
      [(.loc 5, figD w h (lowS w h s) (highS w h s)), (.loc 6, figD w h (lowS w h t) (highS w h t)), (.loc 7, figD w h (lowS w h (s ||| t)) (highS w h (s ||| t))), (.loc 11, figD w h (lowS w h (s &&& t)) (highS w h (s &&& t))), (.loc 15, figD w h (lowS w h (s ^^^ (s &&& t))) (highS w h (s ^^^ (s &&& t))))] []
      rfl ⟨rfl, rfl, rfl, rfl, rfl, rfl, rfl, trivial⟩ ⟨rfl, rfl, rfl, rfl, rfl, trivial⟩ trivial ?_
    unfold figD
    refine Tri.join (fun _ : Unit => True) (fun _ => stt 519 [(1, .d (.ints .u8 m))] [] []) ?_ (fun _ _ => law1b m hbm _ rfl)
    (repeat' (first | refine TriOps.v1 rfl rfl rfl rfl True.intro ?_ | refine TriOps.nil ?_ | refine Tri.region ?_ | refine Tri.seq ?_ | refine Tri.block ?_ | refine Tri.skip ?_ | refine Tri.exit ?_ | refine TriOps.s1 rfl rfl rfl ?_ | refine TriOps.b1 rfl rfl rfl rfl rfl rfl ?_ | refine TriOps.a1 rfl rfl rfl rfl rfl rfl rfl ?_ | refine TriOps.w1 rfl rfl rfl rfl rfl rfl rfl rfl rfl ?_ | fail))
    refine Tri.cond rfl (fun hc => ?_) (fun hc => by cases hc)
    (repeat' (first | refine TriOps.v1 rfl rfl rfl rfl True.intro ?_ | refine TriOps.nil ?_ | refine Tri.region ?_ | refine Tri.seq ?_ | refine Tri.block ?_ | refine Tri.skip ?_ | refine Tri.exit ?_ | refine TriOps.s1 rfl rfl rfl ?_ | refine TriOps.b1 rfl rfl rfl rfl rfl rfl ?_ | refine TriOps.a1 rfl rfl rfl rfl rfl rfl rfl ?_ | refine TriOps.w1 rfl rfl rfl rfl rfl rfl rfl rfl rfl ?_ | fail))
    refine TriOps.c1 rfl rfl rfl rfl rfl (iCount g h1) rfl ?_
    (repeat' (first | refine TriOps.v1 rfl rfl rfl rfl True.intro ?_ | refine TriOps.nil ?_ | refine Tri.region ?_ | refine Tri.seq ?_ | refine Tri.block ?_ | refine Tri.skip ?_ | refine Tri.exit ?_ | refine TriOps.s1 rfl rfl rfl ?_ | refine TriOps.b1 rfl rfl rfl rfl rfl rfl ?_ | refine TriOps.a1 rfl rfl rfl rfl rfl rfl rfl ?_ | refine TriOps.w1 rfl rfl rfl rfl rfl rfl rfl rfl rfl ?_ | fail))
    refine TriOps.c1 rfl rfl rfl rfl rfl (iCount g h2) rfl ?_
    (repeat' (first | refine TriOps.v1 rfl rfl rfl rfl True.intro ?_ | refine TriOps.nil ?_ | refine Tri.region ?_ | refine Tri.seq ?_ | refine Tri.block ?_ | refine Tri.skip ?_ | refine Tri.exit ?_ | refine TriOps.s1 rfl rfl rfl ?_ | refine TriOps.b1 rfl rfl rfl rfl rfl rfl ?_ | refine TriOps.a1 rfl rfl rfl rfl rfl rfl rfl ?_ | refine TriOps.w1 rfl rfl rfl rfl rfl rfl rfl rfl rfl ?_ | fail))
    refine TriOps.c1 rfl rfl rfl rfl rfl (iCount g ho) rfl ?_
    (repeat' (first | refine TriOps.v1 rfl rfl rfl rfl True.intro ?_ | refine TriOps.nil ?_ | refine Tri.region ?_ | refine Tri.seq ?_ | refine Tri.block ?_ | refine Tri.skip ?_ | refine Tri.exit ?_ | refine TriOps.s1 rfl rfl rfl ?_ | refine TriOps.b1 rfl rfl rfl rfl rfl rfl ?_ | refine TriOps.a1 rfl rfl rfl rfl rfl rfl rfl ?_ | refine TriOps.w1 rfl rfl rfl rfl rfl rfl rfl rfl rfl ?_ | fail))
    refine TriOps.c1 rfl rfl rfl rfl rfl (iCount g ha) rfl ?_
    (repeat' (first | refine TriOps.v1 rfl rfl rfl rfl True.intro ?_ | refine TriOps.nil ?_ | refine Tri.region ?_ | refine Tri.seq ?_ | refine Tri.block ?_ | refine Tri.skip ?_ | refine Tri.exit ?_ | refine TriOps.s1 rfl rfl rfl ?_ | refine TriOps.b1 rfl rfl rfl rfl rfl rfl ?_ | refine TriOps.a1 rfl rfl rfl rfl rfl rfl rfl ?_ | refine TriOps.w1 rfl rfl rfl rfl rfl rfl rfl rfl rfl ?_ | fail))
    refine TriOps.c1 rfl rfl rfl rfl rfl (iCount g hd) rfl ?_
    (repeat' (first | refine TriOps.v1 rfl rfl rfl rfl True.intro ?_ | refine TriOps.nil ?_ | refine Tri.region ?_ | refine Tri.seq ?_ | refine Tri.block ?_ | refine Tri.skip ?_ | refine Tri.exit ?_ | refine TriOps.s1 rfl rfl rfl ?_ | refine TriOps.b1 rfl rfl rfl rfl rfl rfl ?_ | refine TriOps.a1 rfl rfl rfl rfl rfl rfl rfl ?_ | refine TriOps.w1 rfl rfl rfl rfl rfl rfl rfl rfl rfl ?_ | fail))
    refine TriOps.m1 rfl rfl rfl rfl rfl rfl hb rfl ?_
    (repeat' (first | refine TriOps.v1 rfl rfl rfl rfl True.intro ?_ | refine TriOps.nil ?_ | refine Tri.region ?_ | refine Tri.seq ?_ | refine Tri.block ?_ | refine Tri.skip ?_ | refine Tri.exit ?_ | refine TriOps.s1 rfl rfl rfl ?_ | refine TriOps.b1 rfl rfl rfl rfl rfl rfl ?_ | refine TriOps.a1 rfl rfl rfl rfl rfl rfl rfl ?_ | refine TriOps.w1 rfl rfl rfl rfl rfl rfl rfl rfl rfl ?_ | fail))
    refine TriOps.m1 rfl rfl rfl rfl rfl rfl ht rfl ?_
    (repeat' (first | refine TriOps.v1 rfl rfl rfl rfl True.intro ?_ | refine TriOps.nil ?_ | refine Tri.region ?_ | refine Tri.seq ?_ | refine Tri.block ?_ | refine Tri.skip ?_ | refine Tri.exit ?_ | refine TriOps.s1 rfl rfl rfl ?_ | refine TriOps.b1 rfl rfl rfl rfl rfl rfl ?_ | refine TriOps.a1 rfl rfl rfl rfl rfl rfl rfl ?_ | refine TriOps.w1 rfl rfl rfl rfl rfl rfl rfl rfl rfl ?_ | fail))
    refine TriOps.v1 rfl rfl rfl rfl (by first | exact True.intro | exact inR_i64 (by omega) (by omega) | omega | (refine ⟨?_, ?_⟩ <;> omega)) ?_
    (repeat' (first | refine TriOps.v1 rfl rfl rfl rfl True.intro ?_ | refine TriOps.nil ?_ | refine Tri.region ?_ | refine Tri.seq ?_ | refine Tri.block ?_ | refine Tri.skip ?_ | refine Tri.exit ?_ | refine TriOps.s1 rfl rfl rfl ?_ | refine TriOps.b1 rfl rfl rfl rfl rfl rfl ?_ | refine TriOps.a1 rfl rfl rfl rfl rfl rfl rfl ?_ | refine TriOps.w1 rfl rfl rfl rfl rfl rfl rfl rfl rfl ?_ | fail))
    refine TriOps.v1 rfl rfl rfl rfl (by first | exact True.intro | exact inR_i64 (by omega) (by omega) | omega | (refine ⟨?_, ?_⟩ <;> omega)) ?_
    refine TriOps.v1 rfl rfl rfl rfl True.intro ?_
    rw [show (((cnt s : Nat) : Int) + (cnt t : Nat) != (cnt (s ||| t) : Nat) + (cnt (s &&& t) : Nat)) = false by simp; omega]
    (repeat' (first | refine TriOps.v1 rfl rfl rfl rfl True.intro ?_ | refine TriOps.nil ?_ | refine Tri.region ?_ | refine Tri.seq ?_ | refine Tri.block ?_ | refine Tri.skip ?_ | refine Tri.exit ?_ | refine TriOps.s1 rfl rfl rfl ?_ | refine TriOps.b1 rfl rfl rfl rfl rfl rfl ?_ | refine TriOps.a1 rfl rfl rfl rfl rfl rfl rfl ?_ | refine TriOps.w1 rfl rfl rfl rfl rfl rfl rfl rfl rfl ?_ | fail))
    refine TriOps.v1 rfl rfl rfl rfl (by first | exact True.intro | exact inR_i64 (by omega) (by omega) | omega | (refine ⟨?_, ?_⟩ <;> omega)) ?_
    refine TriOps.v1 rfl rfl rfl rfl True.intro ?_
    rw [show (((cnt (s ^^^ (s &&& t)) : Nat) : Int) != (cnt s : Nat) - (cnt (s &&& t) : Nat)) = false by simp; omega]
    (repeat' (first | refine TriOps.v1 rfl rfl rfl rfl True.intro ?_ | refine TriOps.nil ?_ | refine Tri.region ?_ | refine Tri.seq ?_ | refine Tri.block ?_ | refine Tri.skip ?_ | refine Tri.exit ?_ | refine TriOps.s1 rfl rfl rfl ?_ | refine TriOps.b1 rfl rfl rfl rfl rfl rfl ?_ | refine TriOps.a1 rfl rfl rfl rfl rfl rfl rfl ?_ | refine TriOps.w1 rfl rfl rfl rfl rfl rfl rfl rfl rfl ?_ | fail))
    refine TriOps.c1 rfl rfl rfl rfl rfl (kSelf _ _ _ _) rfl ?_
    (repeat' (first | refine TriOps.v1 rfl rfl rfl rfl True.intro ?_ | refine TriOps.nil ?_ | refine Tri.region ?_ | refine Tri.seq ?_ | refine Tri.block ?_ | refine Tri.skip ?_ | refine Tri.exit ?_ | refine TriOps.s1 rfl rfl rfl ?_ | refine TriOps.b1 rfl rfl rfl rfl rfl rfl ?_ | refine TriOps.a1 rfl rfl rfl rfl rfl rfl rfl ?_ | refine TriOps.w1 rfl rfl rfl rfl rfl rfl rfl rfl rfl ?_ | fail))
    refine TriOps.c1 rfl rfl rfl rfl rfl (kSelf _ _ _ _) rfl ?_
    (repeat' (first | refine TriOps.v1 rfl rfl rfl rfl True.intro ?_ | refine TriOps.nil ?_ | refine Tri.region ?_ | refine Tri.seq ?_ | refine Tri.block ?_ | refine Tri.skip ?_ | refine Tri.exit ?_ | refine TriOps.s1 rfl rfl rfl ?_ | refine TriOps.b1 rfl rfl rfl rfl rfl rfl ?_ | refine TriOps.a1 rfl rfl rfl rfl rfl rfl rfl ?_ | refine TriOps.w1 rfl rfl rfl rfl rfl rfl rfl rfl rfl ?_ | fail))
    refine Tri.cond rfl (fun hc => by cases hc) (fun hc => ?_)
    (repeat' (first | refine TriOps.v1 rfl rfl rfl rfl True.intro ?_ | refine TriOps.nil ?_ | refine Tri.region ?_ | refine Tri.seq ?_ | refine Tri.block ?_ | refine Tri.skip ?_ | refine Tri.exit ?_ | refine TriOps.s1 rfl rfl rfl ?_ | refine TriOps.b1 rfl rfl rfl rfl rfl rfl ?_ | refine TriOps.a1 rfl rfl rfl rfl rfl rfl rfl ?_ | refine TriOps.w1 rfl rfl rfl rfl rfl rfl rfl rfl rfl ?_ | fail))
    refine Tri.cond rfl (fun he => ?_) (fun he => ?_)
    · have he : cnt s = cnt t := by
        have : ((cnt s : Nat) : Int) = (cnt t : Nat) := by simpa using he
        omega
      have hm := iMoves g h1 h2
      rw [decide_eq_true he, moves_eq he] at hm
      (repeat' (first | refine TriOps.v1 rfl rfl rfl rfl True.intro ?_ | refine TriOps.nil ?_ | refine Tri.region ?_ | refine Tri.seq ?_ | refine Tri.block ?_ | refine Tri.skip ?_ | refine Tri.exit ?_ | refine TriOps.s1 rfl rfl rfl ?_ | refine TriOps.b1 rfl rfl rfl rfl rfl rfl ?_ | refine TriOps.a1 rfl rfl rfl rfl rfl rfl rfl ?_ | refine TriOps.w1 rfl rfl rfl rfl rfl rfl rfl rfl rfl ?_ | fail))
      refine TriOps.c1 rfl rfl rfl rfl rfl hm rfl ?_
      (repeat' (first | refine TriOps.v1 rfl rfl rfl rfl True.intro ?_ | refine TriOps.nil ?_ | refine Tri.region ?_ | refine Tri.seq ?_ | refine Tri.block ?_ | refine Tri.skip ?_ | refine Tri.exit ?_ | refine TriOps.s1 rfl rfl rfl ?_ | refine TriOps.b1 rfl rfl rfl rfl rfl rfl ?_ | refine TriOps.a1 rfl rfl rfl rfl rfl rfl rfl ?_ | refine TriOps.w1 rfl rfl rfl rfl rfl rfl rfl rfl rfl ?_ | fail))
      rw [show (((cnt (s ^^^ (s &&& t)) : Nat) : Int) != (cnt (s ^^^ (s &&& t)) : Nat)) = false by simp]
      (repeat' (first | refine TriOps.v1 rfl rfl rfl rfl True.intro ?_ | refine TriOps.nil ?_ | refine Tri.region ?_ | refine Tri.seq ?_ | refine Tri.block ?_ | refine Tri.skip ?_ | refine Tri.exit ?_ | refine TriOps.s1 rfl rfl rfl ?_ | refine TriOps.b1 rfl rfl rfl rfl rfl rfl ?_ | refine TriOps.a1 rfl rfl rfl rfl rfl rfl rfl ?_ | refine TriOps.w1 rfl rfl rfl rfl rfl rfl rfl rfl rfl ?_ | fail))
      refine Tri.cond rfl (fun hc => by cases hc) (fun hc => ?_)
      (repeat' (first | refine TriOps.v1 rfl rfl rfl rfl True.intro ?_ | refine TriOps.nil ?_ | refine Tri.region ?_ | refine Tri.seq ?_ | refine Tri.block ?_ | refine Tri.skip ?_ | refine Tri.exit ?_ | refine TriOps.s1 rfl rfl rfl ?_ | refine TriOps.b1 rfl rfl rfl rfl rfl rfl ?_ | refine TriOps.a1 rfl rfl rfl rfl rfl rfl rfl ?_ | refine TriOps.w1 rfl rfl rfl rfl rfl rfl rfl rfl rfl ?_ | fail))
      exact ⟨(), trivial, Wk.to rfl ⟨rfl, trivial⟩ trivial trivial⟩
    · (repeat' (first | refine TriOps.v1 rfl rfl rfl rfl True.intro ?_ | refine TriOps.nil ?_ | refine Tri.region ?_ | refine Tri.seq ?_ | refine Tri.block ?_ | refine Tri.skip ?_ | refine Tri.exit ?_ | refine TriOps.s1 rfl rfl rfl ?_ | refine TriOps.b1 rfl rfl rfl rfl rfl rfl ?_ | refine TriOps.a1 rfl rfl rfl rfl rfl rfl rfl ?_ | refine TriOps.w1 rfl rfl rfl rfl rfl rfl rfl rfl rfl ?_ | fail))
      exact ⟨(), trivial, Wk.to rfl ⟨rfl, trivial⟩ trivial trivial⟩
end Go.Proofs.YthmbdoegcpicbaaDoor.Abs

/-! ## R0 -/
namespace Go.Proofs.YthmbdoegcpicbaaDoor.Abs
open Go.Proofs Go.ChangeShapes Go.WideShapes Go.ChangeAt Go.WideMaps Go.WideElems Go.RowKit
theorem own : ownKnob Tryd.prog.godebug = none := by kernel_rfl
theorem laidOut : laidOutB Tryd.prog = true := by kernel_rfl
theorem gTab : Tryd.prog.globalNamed "math/bits.deBruijn64tab" = some 0 := by kernel_rfl
theorem tTab : (Tryd.prog.globals[0]?).map (·.type) = some 131 := by kernel_rfl
/-- The table as the row's condition tells it. -/
theorem tab_of_laid {W : World} {D : DataW Unit} (h : laidMetH Tryd.prog [("math/bits.deBruijn64tab", D)] W) (hD : D = .agg (Lib.deBruijn64tab.map fun (n : Nat) => DataW.lit (.int .u8 (n : Int)))) :
    ∀ (j : Nat) (v : Value), (Lib.deBruijn64tab.map fun (n : Nat) => Value.int .u8 (n : Int))[j]? = some v → W.cell? ⟨0, j, none⟩ = some v := by
  have hpl : ([("math/bits.deBruijn64tab", D)].all fun x => x.2.handleName?.isNone) = true := by rw [hD]; rfl
  rw [MakeChecks.laidMetH_plain _ _ _ hpl] at h
  obtain ⟨ps, ⟨g0, t0, cs0, f0, p0, q0, hg0, ht0, hv0, hd0, _, _⟩, _, _⟩ := h
  obtain rfl := Option.some.inj (gTab.symm.trans hg0)
  obtain rfl := Option.some.inj (tTab.symm.trans ht0)
  obtain ⟨xs, m1, rfl, hx1, hlen, hn, hel⟩ := DataW.trod_array Tryd.underlying131 hd0
  have c1 : Tryd.prog.cellsOf 5 = 1 := by kernel_rfl
  simp only [Prod.mk.injEq] at hx1
  rw [hD] at hx1
  have hmap : Lib.deBruijn64tab.map (fun (n : Nat) => (DataW.lit (.int .u8 (n : Int)) : DataW Unit)) = xs.map (·.1) := by
    have := hx1.1
    simpa using this
  intro j v hj
  rw [List.getElem?_map, Option.map_eq_some_iff] at hj
  obtain ⟨n, hn1, rfl⟩ := hj
  have hj64 : j < 64 := by
    have := (List.getElem?_eq_some_iff.1 hn1).1
    have e : Lib.deBruijn64tab.length = 64 := by rfl
    omega
  have h1 := congrArg (fun l => l[j]?) hmap
  simp only [List.getElem?_map, hn1, Option.map_some] at h1
  obtain ⟨x, hx, hxe⟩ := Option.map_eq_some_iff.1 h1.symm
  have h2 := hel j hj64
  rw [hx, c1] at h2
  obtain ⟨k, e1, e2, _⟩ := DataW.trod_int Tryd.underlying5 h2
  rw [World.var?_cell hg0 hv0 j]
  rw [e2] at hxe
  have hk : k = (n : Int) := by simpa using hxe
  subst hk
  have : (cs0.toList.drop (j * 1)).take 1 = [Value.int .u8 (n : Int)] := e1
  rw [Nat.mul_one] at this
  have h3 : cs0.toList[j]? = some (.int .u8 (n : Int)) := by
    have := congrArg (fun l => l[0]?) this
    simpa [List.getElem?_take, List.getElem?_drop] using this
  simpa using h3
def IsRow (W : World) (a : Option Addr) (len cap : Nat) (zs : List Int) : Prop :=
  (a = none ∧ len = 0 ∧ cap = 0 ∧ zs = []) ∨
  ∃ x, a = some x ∧ len ≤ cap ∧ cap ≤ maxLen ∧ zs.length = cap ∧ (∀ i, i < zs.length → W.cell? (x.add i) = some (.int .u8 (zs.getD i 0))) ∧ ∀ n ∈ zs, (Lit.int .u8 n).wf = true
/-- Such a slice of bytes reads as its numbers. -/
theorem row_va {W : World} {a : Option Addr} {len cap : Nat} {zs : List Int} (h : IsRow W a len cap zs) : VA (Gh.all W) (.d (.ints .u8 (zs.take len))) (.slice a len cap) ∧ Bytes (zs.take len) := by
  rcases h with ⟨rfl, rfl, rfl, rfl⟩ | ⟨x, rfl, hl, hm, hz, hcell, hwf⟩
  · exact ⟨.d (VD.empty (sz := 1) rfl), fun _ h => by simp at h⟩
  · have hlen : (zs.take len).length = len := by rw [List.length_take]; omega
    refine ⟨.d ?_, fun n hn => ?_⟩
    · have hv := VD.slice_mk (I := (Gh.all W).im) (c := .ints .u8 (zs.take len)) (sz := 1) rfl (some x) cap ((zs.take len).map (Value.int .u8)) (by show (zs.take len).length ≤ cap; omega) hm (by show _ = (zs.take len).length * 1; simp) (fun i hi => ?_) ?_
      · have e : (D.ints .u8 (zs.take len)).len = len := hlen
        rw [e] at hv; exact hv
      · have hi : i < (zs.take len).length := hi
        have : (((zs.take len).map (Value.int .u8)).drop (i * 1)).take 1 = [.int .u8 ((zs.take len).getD i 0)] := by
          have e : (zs.take len).getD i 0 = (zs.take len)[i] := by simp only [List.getD_eq_getElem?_getD, List.getElem?_eq_getElem hi, Option.getD_some]
          rw [Nat.mul_one, List.drop_eq_getElem_cons (by simpa using hi), e, List.take_succ_cons, List.take_zero, List.getElem_map]
        rw [this]
        exact .cons (.int _ _) rfl .nil
      · rcases Nat.eq_zero_or_pos len with h0 | h0
        · left
          subst h0; rfl
        · right
          have h1 := hcell 0 (by omega)
          have hsp : x.add 0 = x := by simp [Addr.add]
          rw [hsp] at h1
          obtain ⟨g, o, sp⟩ := x
          simp only [World.cell?] at h1
          split at h1
          · next c e fr hc =>
            cases sp with
            | some s => simp at h1
            | none =>
              refine ⟨g, o, c, e, fr, rfl, by rw [all_im]; exact hc, fun j v hv => ?_⟩
              rw [List.getElem?_map, Option.map_eq_some_iff] at hv
              obtain ⟨n, hn, rfl⟩ := hv
              have hj : j < (zs.take len).length := (List.getElem?_eq_some_iff.1 hn).1
              have h2 := hcell j (by omega)
              rw [add_at] at h2
              simp only [World.cell?, hc] at h2
              simp only [Option.isSome_none, Bool.false_eq_true, if_false] at h2
              rw [h2]
              rw [List.getElem?_take] at hn
              split at hn
              · rw [List.getD_eq_getElem?_getD, hn]; rfl
              · cases hn
          · cases h1
    · have := hwf n (List.mem_of_mem_take hn)
      have h3 : (Lit.int .u8 n).wf = true := this
      have h4 : IntKind.u8.min ≤ n ∧ n ≤ IntKind.u8.max := by simpa [Lit.wf] using h3
      have e1 : IntKind.u8.min = 0 := by decide
      have e2 : IntKind.u8.max = 255 := by decide
      omega
theorem law_calls {f : FuncId} (hf : ∀ c m : List Int, Bytes c → Bytes m → FnV env f [.d (.ints .u8 c), .d (.ints .u8 m)] (.d (.bool true))) {W : World}
    (hgl : ∀ (j : Nat) (v : Value), (Lib.deBruijn64tab.map fun (n : Nat) => Value.int .u8 (n : Int))[j]? = some v → W.cell? ⟨0, j, none⟩ = some v)
    {a0 a1 : Option Addr} {len0 cap0 len1 cap1 : Nat} {z0 z1 : List Int} (h0 : IsRow W a0 len0 cap0 z0) (h1 : IsRow W a1 len1 cap1 z1) :
    Calls Tryd.prog f #[.slice a0 len0 cap0, .slice a1 len1 cap1] W fun e W' => e = .returned (.bool true) ∧ Below W.heap.size W W' := by
  obtain ⟨v0, b0⟩ := row_va h0
  obtain ⟨v1, b1⟩ := row_va h1
  have hS : Sat (Gh.all W) noB noA W := by
    refine ⟨fun b o h => ?_, (fun _ _ h => by cases h), (fun _ _ h => by cases h), fun p hp => ?_⟩
    · simp only [Gh.all] at h
      split at h
      · next o' ho => rcases h with h | h <;> cases h; exact ho
      · rcases h with h | h <;> cases h
    · obtain rfl : p = (0, Lib.deBruijn64tab.map fun (n : Nat) => Value.int .u8 (n : Int)) := by simpa [glob] using hp
      have h2 := hgl 0 (.int .u8 0) rfl
      simp only [World.cell?] at h2
      split at h2
      · next c e fr hc =>
        refine ⟨c, e, fr, by simp only [Gh.all, hc], fun j v hv => ?_⟩
        have h3 := hgl j v hv
        simpa [World.cell?, hc] using h3
      · cases h2
  have := (hf _ _ b0 b1).2 (Gh.all W) W [.slice a0 len0 cap0, .slice a1 len1 cap1] hS (.cons v0 (.cons v1 .nil))
  refine this.mono ?_
  rintro e W' ⟨v, r, G', B', A', rfl, hS', hv, hL, rfl⟩
  have hb : v = .bool true := hv.boolv
  subst hb
  refine ⟨rfl, hL.os, hL.tape, hL.output, hL.size, fun k hk => ?_⟩
  have hget : W.heap[k]? = some W.heap[k] := Array.getElem?_eq_getElem hk
  rw [hget]
  exact hS'.im k _ (.inl (hL.im k _ (by simp only [Gh.all, hget])))
set_option maxRecDepth 100000 in
theorem open_row {H : Type} {enc : TypeId × Value → H} {W : World} {base : Nat} {v : Value} {d : DataW H} {p : List MemPlace} (hv : Value.okWide Tryd.prog W .any base 22 v) (h : DataW.Trod enc Tryd.prog W 0 (fun _ => true) true 22 v d p) :
    ∃ a len cap zs, v = .slice a len cap ∧ IsRow W a len cap zs := by
  obtain ⟨a, len, cap, rfl⟩ := okWide_slice Tryd.underlying22 hv
  obtain ⟨fuel, hf⟩ := h
  rcases open_ints Tryd.underlying22 Tryd.underlying5 (by kernel_rfl) hf with ⟨hcs, _⟩ | ⟨x, l, c, zs, hcs, _, hl, hm, hz, _, hcell, hwz⟩
  · simp [Value.cells] at hcs
    obtain ⟨rfl, rfl, rfl⟩ := hcs
    exact ⟨_, _, _, [], rfl, .inl ⟨rfl, rfl, rfl, rfl⟩⟩
  · simp [Value.cells] at hcs
    obtain ⟨rfl, rfl, rfl⟩ := hcs
    exact ⟨_, _, _, zs, rfl, .inr ⟨_, rfl, hl, hm, by simpa using hz, hcell, hwz⟩⟩
end Go.Proofs.YthmbdoegcpicbaaDoor.Abs
