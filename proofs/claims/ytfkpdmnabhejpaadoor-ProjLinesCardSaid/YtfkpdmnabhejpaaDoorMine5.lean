/- The engine and the contracts on which the statement stands: no conditions of its own. -/
import Derived.Test.YtfkpdmnabhejpaaDoorMine4
set_option linter.unusedSimpArgs false
set_option linter.unusedVariables false
set_option linter.unusedSectionVars false
namespace Go.Eng
theorem zgl {d u w : FQ} {D U S : Int} (hd : d.is D 1) (hu : u.is U 1) (hw : w.is S 1) (zd : fsz 5 d) (zu : fsz 5 u) (zw : fsz 5 w) (b1 : -1000000 ≤ D * S + U) (b2 : D * S + U ≤ 1000000) : ∃ a b : FQ, pf E0 8 [fqP d, fqP w] = some (.tu [fqP a, .i .i64 0]) ∧ pf E0 9 [fqP a, fqP u] = some (.tu [fqP b, .i .i64 0]) ∧ b.p.v = D * S + U ∧ b.q.v = 1 ∧ fsz 5 b := by
 obtain ⟨a, fa, ia, za⟩ := zeA d w zd zw (by omega) hd hw
 obtain ⟨b, fb, ib, _⟩ := zgB a u za zu (by omega) ia hu
 obtain ⟨c, ic, zc, c1, c2, _⟩ := zaT (n := D * S + U) (by unfold Fits64; omega)
 have e : b = c := zhc (by decide) (by decide) ib ic (by simp only [Int.mul_one])
 exact ⟨a, b, fa, fb, e ▸ c1, e ▸ c2, e ▸ zc⟩
theorem zhe {p : Nat → Int} (hp : ∀ e, Fits64 (p e)) (hv : vlP p = 0) {f g : FQ} {N M : Int} (f1 : f.p.v = N) (f2 : f.q.v = 1) (g1 : g.p.v = M) (g2 : g.q.v = 1) (zf : fsz 5 f) (zg : fsz 5 g) (b1 : -1000000 ≤ N ∧ N ≤ 1000000) (b2 : -1000000 ≤ M ∧ M ≤ 1000000) :
  pf E0 305 [pI p, fqP f, fqP g] = some (.tu [fqP fq0, fqP fq0, .i .i64 9]) ∨
  (p 6 * N + p 7 * M + p 8 ≠ 0 ∧ ∃ x y : FQ, pf E0 305 [pI p, fqP f, fqP g] = some (.tu [fqP x, fqP y, .i .i64 0]) ∧ x.is (p 0 * N + p 1 * M + p 2) (p 6 * N + p 7 * M + p 8) ∧ y.is (p 3 * N + p 4 * M + p 5) (p 6 * N + p 7 * M + p 8) ∧ fsz 60 x ∧ fsz 60 y) := by
 have d1 := zmI (f := f) (by rw [f1]; omega) (by rw [f2]; decide)
 have d2 := zmI (f := g) (by rw [g1]; omega) (by rw [g2]; decide)
 have if_ := zb4 f
 have ig := zb4 g
 rw [f1, f2] at if_
 rw [g1, g2] at ig
 have e : ∀ a b c : Int, rwV a b c N 1 M 1 = a * N + b * M + c := fun a b c => by unfold rwV; simp only [Int.mul_one]
 by_cases h0 : rwF p 2 f g = 0
 ·exact .inl (ziU hp f g hv ⟨Nat.max_le.1 d1, Nat.max_le.1 d2⟩ h0)
 ·right
  have h0 : rwV (p 6) (p 7) (p 8) N 1 M 1 ≠ 0 := by rw [← f1, ← g1, ← f2]; show rwV _ _ _ f.p.v f.q.v g.p.v f.q.v ≠ 0; rw [f2, ← g2]; unfold rwF at h0; rw [f2, ← g2] at h0; exact h0
  obtain ⟨x, y, ax, ix, iy, zx, zy⟩ := zfa hp hv zf zg (by omega) (by decide) (by decide) if_ ig d1 d2 h0
  rw [e] at ix iy h0
  rw [e] at ix iy
  exact ⟨h0, x, y, ax, ix, iy, zx, zy⟩
theorem zj7 {X0 Y0 W0 XC YC WC s1 s2 X1 Y1 W1 X2 Y2 W2 : Int} (x1 : X1 = X0 + s1 * XC) (y1 : Y1 = Y0 + s1 * YC) (w1 : W1 = W0 + s1 * WC) (x2 : X2 = X0 + s2 * XC) (y2 : Y2 = Y0 + s2 * YC) (w2 : W2 = W0 + s2 * WC) :
  (X1 * W0 - X0 * W1) * (Y2 * W0 - Y0 * W2) = (Y1 * W0 - Y0 * W1) * (X2 * W0 - X0 * W2) := by
 subst x1 y1 w1 x2 y2 w2
 grind
theorem la1 (b0 b1 b2 b3 b4 b5 b6 b7 : Option PB) (c0 c1 c2 c3 : PV) : appP [b0, b1, b2, b3, b4, b5, b6, b7, some ⟨[c0, c1, c2, c3], true, 0⟩] 4 64 .nl (.sl 8 0 1 1 4) = some (.sl 9 0 1 1 4, [b0, b1, b2, b3, b4, b5, b6, b7, some ⟨[c0, c1, c2, c3], true, 0⟩, some ⟨[c0, c1, c2, c3], true, 0⟩]) := rfl
theorem la2 (b0 b1 b2 b3 b4 b5 b6 b7 b8 b9 : Option PB) (c0 c1 c2 c3 : PV) : appP [b0, b1, b2, b3, b4, b5, b6, b7, b8, b9, some ⟨[c0, c1, c2, c3], true, 0⟩] 4 64 .nl (.sl 10 0 1 1 4) = some (.sl 11 0 1 1 4, [b0, b1, b2, b3, b4, b5, b6, b7, b8, b9, some ⟨[c0, c1, c2, c3], true, 0⟩, some ⟨[c0, c1, c2, c3], true, 0⟩]) := rfl
theorem la3 (b0 b1 b2 b3 b4 b5 b6 b7 b8 b10 b11 b12 b13 b14 b15 : Option PB) (d0 d1 d2 d3 c0 c1 c2 c3 : PV) : appP [b0, b1, b2, b3, b4, b5, b6, b7, b8, some ⟨[d0, d1, d2, d3], true, 0⟩, b10, b11, b12, b13, b14, b15, some ⟨[c0, c1, c2, c3], true, 0⟩] 4 64 (.sl 9 0 1 1 4) (.sl 16 0 1 1 4) = some (.sl 17 0 2 2 4, [b0, b1, b2, b3, b4, b5, b6, b7, b8, none, b10, b11, b12, b13, b14, b15, some ⟨[c0, c1, c2, c3], true, 0⟩, some ⟨[d0, d1, d2, d3, c0, c1, c2, c3], true, 0⟩]) := rfl
theorem la4 (b0 b1 b2 b3 b4 b5 b6 b7 b8 b9 b10 b12 b13 b14 b15 b16 b17 : Option PB) (d0 d1 d2 d3 c0 c1 c2 c3 : PV) : appP [b0, b1, b2, b3, b4, b5, b6, b7, b8, b9, b10, some ⟨[d0, d1, d2, d3], true, 0⟩, b12, b13, b14, b15, b16, b17, some ⟨[c0, c1, c2, c3], true, 0⟩] 4 64 (.sl 11 0 1 1 4) (.sl 18 0 1 1 4) = some (.sl 19 0 2 2 4, [b0, b1, b2, b3, b4, b5, b6, b7, b8, b9, b10, none, b12, b13, b14, b15, b16, b17, some ⟨[c0, c1, c2, c3], true, 0⟩, some ⟨[d0, d1, d2, d3, c0, c1, c2, c3], true, 0⟩]) := rfl
theorem la5 (b0 b1 b2 b3 b4 b5 b6 b7 b8 b9 b10 b11 b12 b13 b14 b15 b16 b18 b19 b20 b21 b22 b23 : Option PB) (d0 d1 d2 d3 d4 d5 d6 d7 c0 c1 c2 c3 : PV) : appP [b0, b1, b2, b3, b4, b5, b6, b7, b8, b9, b10, b11, b12, b13, b14, b15, b16, some ⟨[d0, d1, d2, d3, d4, d5, d6, d7], true, 0⟩, b18, b19, b20, b21, b22, b23, some ⟨[c0, c1, c2, c3], true, 0⟩] 4 64 (.sl 17 0 2 2 4) (.sl 24 0 1 1 4) = some (.sl 25 0 3 3 4, [b0, b1, b2, b3, b4, b5, b6, b7, b8, b9, b10, b11, b12, b13, b14, b15, b16, none, b18, b19, b20, b21, b22, b23, some ⟨[c0, c1, c2, c3], true, 0⟩, some ⟨[d0, d1, d2, d3, d4, d5, d6, d7, c0, c1, c2, c3], true, 0⟩]) := rfl
theorem la6 (b0 b1 b2 b3 b4 b5 b6 b7 b8 b9 b10 b11 b12 b13 b14 b15 b16 b17 b18 b20 b21 b22 b23 b24 b25 : Option PB) (d0 d1 d2 d3 d4 d5 d6 d7 c0 c1 c2 c3 : PV) : appP [b0, b1, b2, b3, b4, b5, b6, b7, b8, b9, b10, b11, b12, b13, b14, b15, b16, b17, b18, some ⟨[d0, d1, d2, d3, d4, d5, d6, d7], true, 0⟩, b20, b21, b22, b23, b24, b25, some ⟨[c0, c1, c2, c3], true, 0⟩] 4 64 (.sl 19 0 2 2 4) (.sl 26 0 1 1 4) = some (.sl 27 0 3 3 4, [b0, b1, b2, b3, b4, b5, b6, b7, b8, b9, b10, b11, b12, b13, b14, b15, b16, b17, b18, none, b20, b21, b22, b23, b24, b25, some ⟨[c0, c1, c2, c3], true, 0⟩, some ⟨[d0, d1, d2, d3, d4, d5, d6, d7, c0, c1, c2, c3], true, 0⟩]) := rfl
set_option maxHeartbeats 16000000 in
set_option maxRecDepth 100000 in
theorem p_ProjLines {ls ms : List Int} {t : Int} (hl : Ints ls) (hm : Ints ms) (ht : Fits64 t) : pf E0 300 [ints ls, ints ms, .i .i64 t] = some (.b true) := by
 obtain ⟨p, hp, gp⟩ := zku hl
 have lv := zhJ
 have pv := zcT hp
 by_cases v0 : vlP p = 0
 ·rw [v0] at pv
  obtain ⟨m0, _, k0⟩ := zcn hm (i := 0) (by decide)
  obtain ⟨m1, _, k1⟩ := zcn hm (i := 1) (by decide)
  obtain ⟨m2, _, k2⟩ := zcn hm (i := 2) (by decide)
  obtain ⟨m3, _, k3⟩ := zcn hm (i := 3) (by decide)
  have rg : ∀ (x : Int) (n : Int), 0 < n → -n < x.tmod n ∧ x.tmod n < n := fun x n hn => ⟨by have := Int.lt_tmod_of_pos x hn; omega, Int.tmod_lt_of_pos x hn⟩
  have r0 := rg m0 1000 (by decide)
  have r1 := rg m1 1000 (by decide)
  have r2 := rg m2 1000 (by decide)
  have r3 := rg m3 1000 (by decide)
  have t1 := rg t 50 (by decide)
  have t2 := rg t 7 (by decide)
  generalize hU0 : m0.tmod 1000 = U0 at *
  generalize hU1 : m1.tmod 1000 = U1 at *
  generalize hD0 : m2.tmod 1000 = D0 at *
  generalize hD1 : m3.tmod 1000 = D1 at *
  have S1 : -49 < 1 + t.tmod 50 ∧ 1 + t.tmod 50 < 51 := by omega
  have S2 : -10 < -3 - t.tmod 7 ∧ -3 - t.tmod 7 < 4 := by omega
  obtain ⟨u0, iu0, zu0, _, _, fu0⟩ := zaT (n := U0) (by unfold Fits64; omega)
  obtain ⟨u1, iu1, zu1, _, _, fu1⟩ := zaT (n := U1) (by unfold Fits64; omega)
  obtain ⟨d0, id0, zd0, _, _, fd0⟩ := zaT (n := D0) (by unfold Fits64; omega)
  obtain ⟨d1, id1, zd1, _, _, fd1⟩ := zaT (n := D1) (by unfold Fits64; omega)
  obtain ⟨w0, iw0, zw0, _, _, fw0⟩ := zaT (n := 0) (by unfold Fits64; omega)
  obtain ⟨w1, iw1, zw1, _, _, fw1⟩ := zaT (n := 1 + t.tmod 50) (by unfold Fits64; omega)
  have bb : ∀ A B S : Int, -1000 < A ∧ A < 1000 → -1000 < B ∧ B < 1000 → -50 < S ∧ S < 51 → -1000000 ≤ A * S + B ∧ A * S + B ≤ 1000000 := fun A B S h1 h2 h3 => by
   have : (A * S).natAbs ≤ 1000 * 51 := by rw [Int.natAbs_mul]; exact Nat.mul_le_mul (by omega) (by omega)
   omega
  obtain ⟨w2, iw2, zw2, _, _, fw2⟩ := zaT (n := -3 - t.tmod 7) (by unfold Fits64; omega)
  obtain ⟨x0, a0, e0, e0', n0, n0', zz0⟩ := zgl id0 iu0 iw0 zd0 zu0 zw0 (bb _ _ _ r2 r0 (by omega)).1 (bb _ _ _ r2 r0 (by omega)).2
  obtain ⟨y0, b0, g0, g0', o0, o0', q0⟩ := zgl id1 iu1 iw0 zd1 zu1 zw0 (bb _ _ _ r3 r1 (by omega)).1 (bb _ _ _ r3 r1 (by omega)).2
  obtain ⟨x1, a1, e1, e1', n1, n1', zz1⟩ := zgl id0 iu0 iw1 zd0 zu0 zw1 (bb _ _ _ r2 r0 (by omega)).1 (bb _ _ _ r2 r0 (by omega)).2
  obtain ⟨y1, b1, g1, g1', o1, o1', q1⟩ := zgl id1 iu1 iw1 zd1 zu1 zw1 (bb _ _ _ r3 r1 (by omega)).1 (bb _ _ _ r3 r1 (by omega)).2
  obtain ⟨x2, a2, e2, e2', n2, n2', zz2⟩ := zgl id0 iu0 iw2 zd0 zu0 zw2 (bb _ _ _ r2 r0 (by omega)).1 (bb _ _ _ r2 r0 (by omega)).2
  obtain ⟨y2, b2, g2, g2', o2, o2', q2⟩ := zgl id1 iu1 iw2 zd1 zu1 zw2 (bb _ _ _ r3 r1 (by omega)).1 (bb _ _ _ r3 r1 (by omega)).2
  refine zae (xf := x_l12_ProjLines) rfl (by simp [x_l12_ProjLines]) ?_
  simp only [x_l12_ProjLines]
  simp (disch := omega) only [go_sem, seval, wqq, gp, pv, lv, zao, hF, k0, k1, k2, k3, hU0, hU1, hD0, hD1, fu0, fu1, fd0, fd1, zav, zai]
  refine zac x_l12_ProjLines_l1.eq_1 ?_
  simp (disch := omega) only [go_sem, seval, wqq, gp, pv, lv, zao, hF, fw0, zav, zai]
  refine zad [69] rfl ?_ ?_
  ·simp (disch := omega) only [go_sem, seval, wqq, fw0, e0]
   exact ⟨_, rfl, rfl⟩
  simp (disch := omega) only [go_sem, seval, wqq, fw0, e0]
  refine zad [80] rfl ?_ ?_
  ·simp (disch := omega) only [go_sem, seval, wqq, fw0, g0]
   exact ⟨_, rfl, rfl⟩
  simp (disch := omega) only [go_sem, seval, wqq, fw0, g0, e0', g0', zao, hF]
  rcases zhe hp v0 n0 n0' o0 o0' zz0 q0 (bb _ _ _ r2 r0 (by omega)) (bb _ _ _ r3 r1 (by omega)) with z | ⟨W0, f0, h0, p0, i0, j0, l0, s0⟩
  ·simp (disch := omega) only [go_sem, seval, wqq, z, lv]
  simp (disch := omega) only [go_sem, seval, wqq, p0, la1, la2, zav, zai]
  refine zac x_l12_ProjLines_l1.eq_1 ?_
  simp (disch := omega) only [go_sem, seval, wqq, gp, pv, lv, zao, hF, fw1, zav, zai]
  refine zad [69] rfl ?_ ?_
  ·simp (disch := omega) only [go_sem, seval, wqq, fw1, e1]
   exact ⟨_, rfl, rfl⟩
  simp (disch := omega) only [go_sem, seval, wqq, fw1, e1]
  refine zad [80] rfl ?_ ?_
  ·simp (disch := omega) only [go_sem, seval, wqq, fw1, g1]
   exact ⟨_, rfl, rfl⟩
  simp (disch := omega) only [go_sem, seval, wqq, fw1, g1, e1', g1', zao, hF]
  rcases zhe hp v0 n1 n1' o1 o1' zz1 q1 (bb _ _ _ r2 r0 (by omega)) (bb _ _ _ r3 r1 (by omega)) with z | ⟨W1, f1, h1, p1, i1, j1, l1, s1⟩
  ·simp (disch := omega) only [go_sem, seval, wqq, z, lv]
  simp (disch := omega) only [go_sem, seval, wqq, p1, la3, la4, zav, zai]
  refine zac x_l12_ProjLines_l1.eq_1 ?_
  simp (disch := omega) only [go_sem, seval, wqq, gp, pv, lv, zao, hF, fw2, zav, zai]
  refine zad [69] rfl ?_ ?_
  ·simp (disch := omega) only [go_sem, seval, wqq, fw2, e2]
   exact ⟨_, rfl, rfl⟩
  simp (disch := omega) only [go_sem, seval, wqq, fw2, e2]
  refine zad [80] rfl ?_ ?_
  ·simp (disch := omega) only [go_sem, seval, wqq, fw2, g2]
   exact ⟨_, rfl, rfl⟩
  simp (disch := omega) only [go_sem, seval, wqq, fw2, g2, e2', g2', zao, hF]
  rcases zhe hp v0 n2 n2' o2 o2' zz2 q2 (bb _ _ _ r2 r0 (by omega)) (bb _ _ _ r3 r1 (by omega)) with z | ⟨W2, f2, h2, p2, i2, j2, l2, s2⟩
  ·simp (disch := omega) only [go_sem, seval, wqq, z, lv]
  simp (disch := omega) only [go_sem, seval, wqq, p2, la5, la6, zav, zai]
  obtain ⟨dx, fdx, idx, zdx⟩ := zf8 f1 f0 l1 l0 (by omega) i1 i0
  obtain ⟨dy, fdy, idy, zdy⟩ := zf8 h1 h0 s1 s0 (by omega) j1 j0
  obtain ⟨ex, fex, iex, zex⟩ := zf8 f2 f0 l2 l0 (by omega) i2 i0
  obtain ⟨ey, fey, iey, zey⟩ := zf8 h2 h0 s2 s0 (by omega) j2 j0
  obtain ⟨o1_, fo1, io1, _⟩ := zeA dx ey zdx zey (by omega) idx iey
  obtain ⟨o2_, fo2, io2, _⟩ := zeA dy ex zdy zex (by omega) idy iex
  have ee : o1_ = o2_ := by
   have D := Int.mul_ne_zero (Int.mul_ne_zero W1 W0) (Int.mul_ne_zero W2 W0)
   refine zhc D D io1 io2 (congrArg (· * _) ?_)
   refine zj7 (XC := p 0 * D0 + p 1 * D1) (YC := p 3 * D0 + p 4 * D1) (WC := p 6 * D0 + p 7 * D1) (s1 := 1 + t.tmod 50) (s2 := -3 - t.tmod 7) ?_ ?_ ?_ ?_ ?_ ?_
   all_goals
    generalize 1 + t.tmod 50 = S
    generalize -3 - t.tmod 7 = R
    rw [Int.mul_zero, Int.mul_zero, Int.zero_add, Int.zero_add]
    grind
  subst ee
  have cc := zgq o1_ o1_
  rw [zgH] at cc
  refine zac x_l12_ProjLines_l1.eq_1 ?_
  simp (disch := omega) only [go_sem, seval, wqq, fdx, fdy, fex, fey, fo1, fo2, cc, lv]
 ·have t0 : (vlP p = 0) = False := eq_false v0
  refine zae (xf := x_l12_ProjLines) rfl (by simp [x_l12_ProjLines]) ?_
  simp only [x_l12_ProjLines]
  simp (disch := omega) only [go_sem, seval, wqq, gp, pv, t0, lv, zao, hF]
end Go.Eng
