/- The engine and the contracts on which the statement stands: no conditions of its own. -/
import Derived.Test.YtnpmfhlpgjfbfaaDoorMine4
set_option linter.unusedSimpArgs false
set_option linter.unusedVariables false
set_option linter.unusedSectionVars false
namespace Go.Eng
theorem is_low' {f : FQ} {n d : Int} (hd : d ≠ 0) (h : f.is n d) : f.p.v = lowP n d ∧ f.q.v = lowQ n d := by
  have hq := f.q1
  unfold FQ.is at h
  have c := low_cross (p := n) hd
  refine low_uniq (by omega) (low_pos hd) f.cop (low_cop hd) ?_
  apply Int.eq_of_mul_eq_mul_right hd
  calc f.p.v * lowQ n d * d = f.p.v * d * lowQ n d := by grind
    _ = n * f.q.v * lowQ n d := by rw [h]
    _ = n * lowQ n d * f.q.v := by grind
    _ = lowP n d * d * f.q.v := by rw [c]
    _ = lowP n d * f.q.v * d := by grind
theorem few_is {f : FQ} {n d : Int} (hd : d ≠ 0) (h : f.is n d) (hn : n.natAbs ≤ 4611686018427387904) (hl : d.natAbs ≤ 4611686018427387904) : few f := by
  obtain ⟨h1, h2⟩ := is_low' hd h
  have l1 := lowP_le (p := n) hd
  have l2 := lowQ_le (p := n) hd
  rw [← h1] at l1
  rw [← h2] at l2
  exact ⟨by omega, by omega⟩
theorem p_on {f0 f1 f2 f3 : Int} (h0 : Fits64 f0) (h1 : Fits64 f1) (h2 : Fits64 f2) (h3 : Fits64 f3) {p q : FQ} (zp : fsz 20 p) (zq : fsz 20 q) {a b c d : Int} (hb : b ≠ 0) (hd : d ≠ 0) (pi : p.is a b) (qi : q.is c d) :
    ∃ o : FQ, pf E0 12 [arr4 f0 f1 f2 f3, fqP p, fqP q] = some (fqP o) ∧ o.is (bil f0 f1 f2 f3 a b c d) (b * d) := by
  obtain ⟨w0, i0, z0, _, _, g0⟩ := p_of10 h0 (d := 1) (by decide) (by decide)
  obtain ⟨w1, i1, z1, _, _, g1⟩ := p_of10 h1 (d := 1) (by decide) (by decide)
  obtain ⟨w2, i2, z2, _, _, g2⟩ := p_of10 h2 (d := 1) (by decide) (by decide)
  obtain ⟨w3, i3, z3, _, _, g3⟩ := p_of10 h3 (d := 1) (by decide) (by decide)
  obtain ⟨pq, m0, j0, y0⟩ := mul_ix p q zp zq (by decide) pi qi
  obtain ⟨x1, m1, j1, y1⟩ := mul_ix w1 p z1 zp (by decide) i1 pi
  obtain ⟨o1, s1, k1, v1⟩ := add_ix w0 x1 z0 y1 (by decide) i0 j1
  obtain ⟨x2, m2, j2, y2⟩ := mul_ix w2 q z2 zq (by decide) i2 qi
  obtain ⟨o2, s2, k2, v2⟩ := add_ix o1 x2 v1 y2 (by decide) k1 j2
  obtain ⟨x3, m3, j3, y3⟩ := mul_ix w3 pq z3 y0 (by decide) i3 j0
  obtain ⟨o3, s3, k3, v3⟩ := add_ix o2 x3 v2 y3 (by decide) k2 j3
  refine ⟨o3, ?_, is_conv ?_ k3 (by unfold bil; grind)⟩
  · clear j0 j1 j2 j3 k1 k2 k3 i0 i1 i2 i3 pi qi
    refine pf_run (xf := x_skymosaic_skymosaiclaw10_on) rfl (by simp [x_skymosaic_skymosaiclaw10_on]) ?_
    simp only [x_skymosaic_skymosaiclaw10_on]
    simp (disch := omega) only [go_sem, seval, wrap_i64, wrap_u64, wrap_u32, wrap_u8, wrap_i32, g0, m0, fill_C, fillC_def]
    refine wk_roll x_skymosaic_skymosaiclaw10_on_l1.eq_1 ?_
    simp (disch := omega) only [go_sem, seval, wrap_i64, wrap_u64, wrap_u32, wrap_u8, wrap_i32]
    refine wk_calmR [39] rfl ?_ ?_
    · simp (disch := omega) only [go_sem, seval, wrap_i64, wrap_u64, wrap_u32, wrap_u8, wrap_i32, g1, m1]
      exact ⟨_, rfl, rfl⟩
    simp (disch := omega) only [go_sem, seval, wrap_i64, wrap_u64, wrap_u32, wrap_u8, wrap_i32, g1, m1, s1]
    refine wk_roll x_skymosaic_skymosaiclaw10_on_l1.eq_1 ?_
    simp (disch := omega) only [go_sem, seval, wrap_i64, wrap_u64, wrap_u32, wrap_u8, wrap_i32]
    refine wk_calmR [39] rfl ?_ ?_
    · simp (disch := omega) only [go_sem, seval, wrap_i64, wrap_u64, wrap_u32, wrap_u8, wrap_i32, g2, m2]
      exact ⟨_, rfl, rfl⟩
    simp (disch := omega) only [go_sem, seval, wrap_i64, wrap_u64, wrap_u32, wrap_u8, wrap_i32, g2, m2, s2]
    refine wk_roll x_skymosaic_skymosaiclaw10_on_l1.eq_1 ?_
    simp (disch := omega) only [go_sem, seval, wrap_i64, wrap_u64, wrap_u32, wrap_u8, wrap_i32]
    refine wk_calmR [39] rfl ?_ ?_
    · simp (disch := omega) only [go_sem, seval, wrap_i64, wrap_u64, wrap_u32, wrap_u8, wrap_i32, g3, m3]
      exact ⟨_, rfl, rfl⟩
    simp (disch := omega) only [go_sem, seval, wrap_i64, wrap_u64, wrap_u32, wrap_u8, wrap_i32, g3, m3, s3]
    refine wk_roll x_skymosaic_skymosaiclaw10_on_l1.eq_1 ?_
    simp (disch := omega) only [go_sem, seval, wrap_i64, wrap_u64, wrap_u32, wrap_u8, wrap_i32]
  · simp only [Int.one_mul]
    exact Int.mul_ne_zero (Int.mul_ne_zero hb hd) (Int.mul_ne_zero hb hd)
theorem on_ex {X Y S : Int} {C R : Nat} {hs : List Int} (t : TerOk X Y S C R hs) (i j : Nat) {p q : FQ} (zp : fsz 20 p) (zq : fsz 20 q) {a b c d : Int} (hb : b ≠ 0) (hd : d ≠ 0) (pi : p.is a b) (qi : q.is c d) :
    ∃ o : FQ, pf E0 12 [formV hs C i j, fqP p, fqP q] = some (fqP o) ∧ o.is (bilV hs C i j a b c d) (b * d) := by
  have b := hAt_all t
  have b1 := b ((j : Int) * C + i)
  have b2 := b ((j : Int) * C + i + 1)
  have b3 := b (((j : Int) + 1) * C + i)
  have b4 := b (((j : Int) + 1) * C + i + 1)
  exact p_on (by unfold Fits64 f0V; omega) (by unfold Fits64 f1V; omega) (by unfold Fits64 f2V; omega) (by unfold Fits64 f3V; omega) zp zq hb hd pi qi
theorem cmp_same {f g : FQ} {n d n' d' : Int} (hd : d ≠ 0) (hd' : d' ≠ 0) (hf : f.is n d) (hg : g.is n' d') (e : n * d' = n' * d) : pf E0 11 [fqP f, fqP g] = some (.i .i64 0) := by
  have h := is_uniq hd hd' hf hg e
  rw [p_fCompare, (cmpF_eq0 f g).2 h]
set_option maxHeartbeats 4000000 in
set_option maxRecDepth 40000 in
theorem p_TerrainContinuous {xs : List Int} (hx : Ints xs) {i j n : Int} (hi : Fits64 i) (hj : Fits64 j) (hn : Fits64 n) : pf E0 1 [ints xs, .i .i64 i, .i .i64 j, .i .i64 n] = some (.b true) := by
  obtain ⟨X, Y, S, C, R, hs, t, hX, hY, hS, hC, hR, hh, ht⟩ := p_Terrain hx
  have hc := t.c
  have hr := t.r
  have ts := t.s
  have lv := p_lives10
  have ra := p_Around (n := i) (m := (C : Int) - 1) hi (by unfold Fits64; omega) (by omega)
  have rb := p_Around (n := j) (m := (R : Int) - 1) hj (by unfold Fits64; omega) (by omega)
  have rk := p_Around (n := n) (m := 8) hn (by decide) (by decide)
  have a0 := aro_nonneg i (m := (C : Int) - 1) (by omega)
  have a1 := aro_lt i (m := (C : Int) - 1) (by omega)
  have b0 := aro_nonneg j (m := (R : Int) - 1) (by omega)
  have b1 := aro_lt j (m := (R : Int) - 1) (by omega)
  have k0 := aro_nonneg n (m := 8) (by omega)
  have k1 := aro_lt n (m := 8) (by omega)
  generalize aro n 8 = k at *
  obtain ⟨a, ha⟩ : ∃ a : Nat, aro i ((C : Int) - 1) = (a : Int) := ⟨_, (Int.toNat_of_nonneg a0).symm⟩
  obtain ⟨b, hb⟩ : ∃ b : Nat, aro j ((R : Int) - 1) = (b : Int) := ⟨_, (Int.toNat_of_nonneg b0).symm⟩
  rw [ha] at ra a1
  rw [hb] at rb b1
  clear a0 b0 ha hb
  have m1 : 0 ≤ (a : Int) * S := Int.mul_nonneg (by omega) (by omega)
  have m2 : (a : Int) * S ≤ 6 * 20 := Int.mul_le_mul (by omega) (by omega) (by omega) (by omega)
  have m3 : 0 ≤ (b : Int) * S := Int.mul_nonneg (by omega) (by omega)
  have m4 : (b : Int) * S ≤ 6 * 20 := Int.mul_le_mul (by omega) (by omega) (by omega) (by omega)
  have m5 : 0 ≤ k * S := Int.mul_nonneg (by omega) (by omega)
  have m6 : k * S ≤ 7 * S := Int.mul_le_mul_of_nonneg_right (by omega) (by omega)
  obtain ⟨pF, pi, pz, p1, p2, gp⟩ := p_of10 (n := k) (d := 7) (by unfold Fits64; omega) (by decide) (by decide)
  obtain ⟨sF, si, sz, _, _, gs⟩ := p_of10 (n := S) (d := 1) (by unfold Fits64; omega) (by decide) (by decide)
  obtain ⟨zF, zi, zz, z1, z2, gz⟩ := p_of10 (n := 0) (d := 1) (by decide) (by decide) (by decide)
  obtain ⟨oF, oi, oz, o1, o2, go⟩ := p_of10 (n := 1) (d := 1) (by decide) (by decide) (by decide)
  obtain ⟨al, fal, ali, alz⟩ := mul_ix pF sF pz sz (by decide) pi si
  obtain ⟨wx, wxi, wxz, wx1, wx2, gwx⟩ := p_of10 (n := X + (a : Int) * S) (d := 1) (by unfold Fits64; omega) (by decide) (by decide)
  obtain ⟨wy, wyi, wyz, wy1, wy2, gwy⟩ := p_of10 (n := Y + (b : Int) * S) (d := 1) (by unfold Fits64; omega) (by decide) (by decide)
  obtain ⟨x, fx, xi, xz⟩ := add_ix wx al wxz alz (by decide) wxi ali
  obtain ⟨y, fy, yi, yz⟩ := add_ix wy al wyz alz (by decide) wyi ali
  have xi := is_conv (n' := (X + (a : Int) * S) * 7 + k * S) (d' := 7) (by decide) xi (by grind)
  have yi := is_conv (n' := (Y + (b : Int) * S) * 7 + k * S) (d' := 7) (by decide) yi (by grind)
  have hx1 : few x := few_is (by decide) xi (by omega) (by decide)
  have hy1 : few y := few_is (by decide) yi (by omega) (by decide)
  have hwx : few wx := ⟨by omega, by omega⟩
  have hwy : few wy := ⟨by omega, by omega⟩
  have e1 : (a : Int) * (7 * S) = 7 * ((a : Int) * S) := by grind
  have e2 : ((a : Int) + 1) * (7 * S) = 7 * ((a : Int) * S) + 7 * S := by grind
  have e3 : (b : Int) * (7 * S) = 7 * ((b : Int) * S) := by grind
  have e4 : ((b : Int) + 1) * (7 * S) = 7 * ((b : Int) * S) + 7 * S := by grind
  have e5 : (a : Int) * (1 * S) = (a : Int) * S := by rw [Int.one_mul]
  have e6 : ((a : Int) + 1) * (1 * S) = (a : Int) * S + S := by grind
  have e7 : (b : Int) * (1 * S) = (b : Int) * S := by rw [Int.one_mul]
  have e8 : ((b : Int) + 1) * (1 * S) = (b : Int) * S + S := by grind
  have zx20 : fsz 20 x := fsz_mono xz (by decide)
  have zy20 : fsz 20 y := fsz_mono yz (by decide)
  have wx20 : fsz 20 wx := fsz_mono wxz (by decide)
  have wy20 : fsz 20 wy := fsz_mono wyz (by decide)
  have p20 : fsz 20 pF := fsz_mono pz (by decide)
  have z20 : fsz 20 zF := fsz_mono zz (by decide)
  have o20 : fsz 20 oF := fsz_mono oz (by decide)
  obtain ⟨lo, flo, loi, _⟩ := p_HeightAt t hx1 hwy zx20 wy20 (by decide) (by decide) xi wyi (i := a) (j := b) (by omega) (by omega) (by omega) (by omega) (by omega) (by omega)
  obtain ⟨le, fle, lei, _⟩ := p_HeightAt t hwx hy1 wx20 zy20 (by decide) (by decide) wxi yi (i := a) (j := b) (by omega) (by omega) (by omega) (by omega) (by omega) (by omega)
  obtain ⟨no, fno, noi, _⟩ := p_HeightAt t hwx hwy wx20 wy20 (by decide) (by decide) wxi wyi (i := a) (j := b) (by omega) (by omega) (by omega) (by omega) (by omega) (by omega)
  have u1 : (X + (a : Int) * S) * 7 + k * S - X * 7 - (a : Int) * (7 * S) = k * S := by grind
  have u2 : Y + (b : Int) * S - Y * 1 - (b : Int) * (1 * S) = 0 := by grind
  have u3 : X + (a : Int) * S - X * 1 - (a : Int) * (1 * S) = 0 := by grind
  have u4 : (Y + (b : Int) * S) * 7 + k * S - Y * 7 - (b : Int) * (7 * S) = k * S := by grind
  rw [u1, u2] at loi
  rw [u3, u4] at lei
  rw [u3, u2] at noi
  have hS7 : (7 * S : Int) ≠ 0 := by omega
  have hS1 : (1 * S : Int) ≠ 0 := by omega
  obtain ⟨q1, fq1, q1i⟩ := on_ex t a b p20 z20 (by decide) (by decide) pi zi
  obtain ⟨q2, fq2, q2i⟩ := on_ex t a b z20 p20 (by decide) (by decide) zi pi
  have c1 := cmp_same (Int.mul_ne_zero hS7 hS1) (by decide) loi q1i (by unfold bilV bil; grind)
  have c2 := cmp_same (Int.mul_ne_zero hS1 hS7) (by decide) lei q2i (by unfold bilV bil; grind)
  have nd := node_at t (i := a) (j := b) (by omega) (by omega)
  have hb3 := hAt_b t nd
  obtain ⟨nF, ni, _, _, _, gn⟩ := p_of10 (n := hs.getD (b * C + a) 0) (d := 1) (by unfold Fits64; omega) (by decide) (by decide)
  have e9 : (b : Int) * (C : Int) + (a : Int) = ((b * C + a : Nat) : Int) := by push_cast; rfl
  have hf0 : f0V hs C a b = hs.getD (b * C + a) 0 := by unfold f0V; rw [e9]; rfl
  have c3 := cmp_same (Int.mul_ne_zero hS1 hS1) (by decide) noi ni (by unfold bilV bil; rw [hf0]; grind)
  have gi := get_some nd
  have ff := p_tForm t (i := a) (j := b) (by omega) (by omega)
  have bl : (b : Int) * (C : Int) ≤ 6 * 6 := Int.mul_le_mul (by omega) (by omega) (by omega) (by omega)
  have bl0 : 0 ≤ (b : Int) * (C : Int) := Int.mul_nonneg (by omega) (by omega)
  have kb : (((b : Int) > 0) = False) ∨ (((b : Int) > 0) = True ∧ ∃ (bm : Nat) (g0 g1 g2 g3 : Int) (o : FQ), (b : Int) - 1 = (bm : Int) ∧ pf E0 3 [terP X Y S C R hs, .i .i64 a, .i .i64 bm] = some (.tu [arr4 g0 g1 g2 g3, .i .i64 0]) ∧
      pf E0 12 [arr4 g0 g1 g2 g3, fqP pF, fqP oF] = some (fqP o) ∧ pf E0 11 [fqP lo, fqP o] = some (.i .i64 0)) := by
    by_cases h : (b : Int) > 0
    · right
      obtain ⟨bm, rfl⟩ : ∃ bm, b = bm + 1 := ⟨b - 1, by omega⟩
      obtain ⟨o, fo, oi'⟩ := on_ex t a bm p20 o20 (by decide) (by decide) pi oi
      refine ⟨eq_true h, bm, _, _, _, _, o, by omega, p_tForm t (i := a) (j := bm) (by omega) (by omega), fo, ?_⟩
      have eu := bil_up hs C a bm k 7 1
      rw [eu, show ((bm : Int) + 1) = ((bm + 1 : Nat) : Int) by omega] at oi'
      exact cmp_same (Int.mul_ne_zero hS7 hS1) (by decide) loi oi' (by unfold bilV bil; grind)
    · exact .inl (eq_false h)
  have ka : (((a : Int) > 0) = False) ∨ (((a : Int) > 0) = True ∧ ∃ (am : Nat) (g0 g1 g2 g3 : Int) (o : FQ), (a : Int) - 1 = (am : Int) ∧ pf E0 3 [terP X Y S C R hs, .i .i64 am, .i .i64 b] = some (.tu [arr4 g0 g1 g2 g3, .i .i64 0]) ∧
      pf E0 12 [arr4 g0 g1 g2 g3, fqP oF, fqP pF] = some (fqP o) ∧ pf E0 11 [fqP le, fqP o] = some (.i .i64 0)) := by
    by_cases h : (a : Int) > 0
    · right
      obtain ⟨am, rfl⟩ : ∃ am, a = am + 1 := ⟨a - 1, by omega⟩
      obtain ⟨o, fo, oi'⟩ := on_ex t am b o20 p20 (by decide) (by decide) oi pi
      refine ⟨eq_true h, am, _, _, _, _, o, by omega, p_tForm t (i := am) (j := b) (by omega) (by omega), fo, ?_⟩
      have eu := bil_right hs C am b 1 k 7
      rw [eu, show ((am : Int) + 1) = ((am + 1 : Nat) : Int) by omega] at oi'
      exact cmp_same (Int.mul_ne_zero hS1 hS7) (by decide) lei oi' (by unfold bilV bil; grind)
    · exact .inl (eq_false h)
  obtain ⟨g0, g1, g2, g3, hg⟩ : ∃ g0 g1 g2 g3, formV hs C a b = arr4 g0 g1 g2 g3 := ⟨_, _, _, _, rfl⟩
  rw [hg] at ff fq1 fq2
  clear loi lei noi q1i q2i xi yi ali pi si zi oi wxi wyi ni hg u1 u2 u3 u4 e1 e2 e3 e4 e5 e6 e7 e8 hf0
  refine pf_run (xf := x_skymosaic_skymosaiclaw10_TerrainContinuous) rfl (by simp [x_skymosaic_skymosaiclaw10_TerrainContinuous]) ?_
  simp only [x_skymosaic_skymosaiclaw10_TerrainContinuous]
  rcases kb with d0 | ⟨d0, bm, _, _, _, _, ob, d1, d2, d4, d3⟩
  · rcases ka with h0 | ⟨h0, am, _, _, _, _, oa, h1, h2, h4, h3⟩
    · simp (disch := omega) only [go_sem, seval, wrap_i64, wrap_u64, wrap_u32, wrap_u8, wrap_i32, ht, ra, rb, rk, gp, gs, fal]
      refine wk_calmX [14] rfl (by simp only [go_sem, seval]) ?_
      simp (disch := omega) only [go_sem, seval, wrap_i64, wrap_u64, wrap_u32, wrap_u8, wrap_i32, gwx, fx]
      refine wk_calmX [14] rfl (by simp only [go_sem, seval]) ?_
      simp (disch := omega) only [go_sem, seval, wrap_i64, wrap_u64, wrap_u32, wrap_u8, wrap_i32, gwy, fy, ff]
      refine wk_calmX [9, 16] rfl (by simp only [go_sem, seval]) ?_
      simp (disch := omega) only [go_sem, seval, wrap_i64, wrap_u64, wrap_u32, wrap_u8, wrap_i32, gwy, flo]
      refine wk_calmX [9, 18] rfl (by simp only [go_sem, seval]) ?_
      simp (disch := omega) only [go_sem, seval, wrap_i64, wrap_u64, wrap_u32, wrap_u8, wrap_i32, gwx, fle]
      refine wk_calmR [9, 127, 130] rfl ?_ ?_
      · simp (disch := omega) only [go_sem, seval, wrap_i64, wrap_u64, wrap_u32, wrap_u8, wrap_i32, gwx, gwy, fno]
        exact ⟨_, rfl, rfl⟩
      simp (disch := omega) only [go_sem, seval, wrap_i64, wrap_u64, wrap_u32, wrap_u8, wrap_i32, gwx, gwy, fno]
      refine wk_calmX [22, 20, 12, 24, 26] rfl (by simp only [go_sem, seval]) ?_
      simp (disch := omega) only [go_sem, seval, wrap_i64, wrap_u64, wrap_u32, wrap_u8, wrap_i32, gz, fq1, fq2, c1, c2, c3, e9, idxP_ints gi, gn, d0, h0, lv]
    · simp (disch := omega) only [go_sem, seval, wrap_i64, wrap_u64, wrap_u32, wrap_u8, wrap_i32, ht, ra, rb, rk, gp, gs, fal]
      refine wk_calmX [14] rfl (by simp only [go_sem, seval]) ?_
      simp (disch := omega) only [go_sem, seval, wrap_i64, wrap_u64, wrap_u32, wrap_u8, wrap_i32, gwx, fx]
      refine wk_calmX [14] rfl (by simp only [go_sem, seval]) ?_
      simp (disch := omega) only [go_sem, seval, wrap_i64, wrap_u64, wrap_u32, wrap_u8, wrap_i32, gwy, fy, ff]
      refine wk_calmX [9, 16] rfl (by simp only [go_sem, seval]) ?_
      simp (disch := omega) only [go_sem, seval, wrap_i64, wrap_u64, wrap_u32, wrap_u8, wrap_i32, gwy, flo]
      refine wk_calmX [9, 18] rfl (by simp only [go_sem, seval]) ?_
      simp (disch := omega) only [go_sem, seval, wrap_i64, wrap_u64, wrap_u32, wrap_u8, wrap_i32, gwx, fle]
      refine wk_calmR [9, 127, 130] rfl ?_ ?_
      · simp (disch := omega) only [go_sem, seval, wrap_i64, wrap_u64, wrap_u32, wrap_u8, wrap_i32, gwx, gwy, fno]
        exact ⟨_, rfl, rfl⟩
      simp (disch := omega) only [go_sem, seval, wrap_i64, wrap_u64, wrap_u32, wrap_u8, wrap_i32, gwx, gwy, fno]
      refine wk_calmX [22, 20, 12, 24, 26] rfl (by simp only [go_sem, seval]) ?_
      simp (disch := omega) only [go_sem, seval, wrap_i64, wrap_u64, wrap_u32, wrap_u8, wrap_i32, gz, fq1, fq2, c1, c2, c3, e9, idxP_ints gi, gn, d0, h0, h1, h2]
      refine wk_calmX [24, 30, 12] rfl (by simp only [go_sem, seval]) ?_
      simp (disch := omega) only [go_sem, seval, wrap_i64, wrap_u64, wrap_u32, wrap_u8, wrap_i32, go, h4, h3, lv]
  · rcases ka with h0 | ⟨h0, am, _, _, _, _, oa, h1, h2, h4, h3⟩
    · simp (disch := omega) only [go_sem, seval, wrap_i64, wrap_u64, wrap_u32, wrap_u8, wrap_i32, ht, ra, rb, rk, gp, gs, fal]
      refine wk_calmX [14] rfl (by simp only [go_sem, seval]) ?_
      simp (disch := omega) only [go_sem, seval, wrap_i64, wrap_u64, wrap_u32, wrap_u8, wrap_i32, gwx, fx]
      refine wk_calmX [14] rfl (by simp only [go_sem, seval]) ?_
      simp (disch := omega) only [go_sem, seval, wrap_i64, wrap_u64, wrap_u32, wrap_u8, wrap_i32, gwy, fy, ff]
      refine wk_calmX [9, 16] rfl (by simp only [go_sem, seval]) ?_
      simp (disch := omega) only [go_sem, seval, wrap_i64, wrap_u64, wrap_u32, wrap_u8, wrap_i32, gwy, flo]
      refine wk_calmX [9, 18] rfl (by simp only [go_sem, seval]) ?_
      simp (disch := omega) only [go_sem, seval, wrap_i64, wrap_u64, wrap_u32, wrap_u8, wrap_i32, gwx, fle]
      refine wk_calmR [9, 127, 130] rfl ?_ ?_
      · simp (disch := omega) only [go_sem, seval, wrap_i64, wrap_u64, wrap_u32, wrap_u8, wrap_i32, gwx, gwy, fno]
        exact ⟨_, rfl, rfl⟩
      simp (disch := omega) only [go_sem, seval, wrap_i64, wrap_u64, wrap_u32, wrap_u8, wrap_i32, gwx, gwy, fno]
      refine wk_calmX [22, 20, 12, 24, 26] rfl (by simp only [go_sem, seval]) ?_
      simp (disch := omega) only [go_sem, seval, wrap_i64, wrap_u64, wrap_u32, wrap_u8, wrap_i32, gz, fq1, fq2, c1, c2, c3, e9, idxP_ints gi, gn, d0, d1, d2]
      refine wk_calmX [22, 28, 12] rfl (by simp only [go_sem, seval]) ?_
      simp (disch := omega) only [go_sem, seval, wrap_i64, wrap_u64, wrap_u32, wrap_u8, wrap_i32, go, d4, d3, h0, lv]
    · simp (disch := omega) only [go_sem, seval, wrap_i64, wrap_u64, wrap_u32, wrap_u8, wrap_i32, ht, ra, rb, rk, gp, gs, fal]
      refine wk_calmX [14] rfl (by simp only [go_sem, seval]) ?_
      simp (disch := omega) only [go_sem, seval, wrap_i64, wrap_u64, wrap_u32, wrap_u8, wrap_i32, gwx, fx]
      refine wk_calmX [14] rfl (by simp only [go_sem, seval]) ?_
      simp (disch := omega) only [go_sem, seval, wrap_i64, wrap_u64, wrap_u32, wrap_u8, wrap_i32, gwy, fy, ff]
      refine wk_calmX [9, 16] rfl (by simp only [go_sem, seval]) ?_
      simp (disch := omega) only [go_sem, seval, wrap_i64, wrap_u64, wrap_u32, wrap_u8, wrap_i32, gwy, flo]
      refine wk_calmX [9, 18] rfl (by simp only [go_sem, seval]) ?_
      simp (disch := omega) only [go_sem, seval, wrap_i64, wrap_u64, wrap_u32, wrap_u8, wrap_i32, gwx, fle]
      refine wk_calmR [9, 127, 130] rfl ?_ ?_
      · simp (disch := omega) only [go_sem, seval, wrap_i64, wrap_u64, wrap_u32, wrap_u8, wrap_i32, gwx, gwy, fno]
        exact ⟨_, rfl, rfl⟩
      simp (disch := omega) only [go_sem, seval, wrap_i64, wrap_u64, wrap_u32, wrap_u8, wrap_i32, gwx, gwy, fno]
      refine wk_calmX [22, 20, 12, 24, 26] rfl (by simp only [go_sem, seval]) ?_
      simp (disch := omega) only [go_sem, seval, wrap_i64, wrap_u64, wrap_u32, wrap_u8, wrap_i32, gz, fq1, fq2, c1, c2, c3, e9, idxP_ints gi, gn, d0, d1, d2]
      refine wk_calmX [22, 28, 12] rfl (by simp only [go_sem, seval]) ?_
      simp (disch := omega) only [go_sem, seval, wrap_i64, wrap_u64, wrap_u32, wrap_u8, wrap_i32, go, d4, d3, h0, h1, h2]
      refine wk_calmX [24, 30, 12] rfl (by simp only [go_sem, seval]) ?_
      simp (disch := omega) only [go_sem, seval, wrap_i64, wrap_u64, wrap_u32, wrap_u8, wrap_i32, go, h4, h3, lv]
end Go.Eng
