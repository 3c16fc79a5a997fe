/- The engine and the contracts on which the statement stands: no conditions of its own. -/
import Derived.Test.YtndbnkkjmeeldaaGreatDoorMine4
set_option linter.unusedSimpArgs false
set_option linter.unusedVariables false
set_option linter.unusedSectionVars false
namespace Go.Eng
theorem p_SameInts {hs : List Int} (hl : hs.length ≤ 1000000) : pf E0 262 [ints hs, ints hs] = some (.b true) := by
  refine pf_run (xf := x_r01_SameInts) rfl (by simp [x_r01_SameInts]) ?_
  simp only [x_r01_SameInts]
  simp (disch := omega) only [go_sem, seval, wrap_i64, wrap_u64, wrap_u32, wrap_u8, wrap_i32]
  refine wk_ind x_r01_SameInts_l1.eq_1 (fun (i : Nat) fr M => i ≤ hs.length ∧ fr 0 = ints hs ∧ fr 1 = ints hs ∧ fr 5 = (PV.i .i64 ((i : Nat) : Int)) ∧ M = []) (fun i => hs.length - i) ?_ 0 ⟨Nat.zero_le _, by simp only [go_sem, seval], by simp only [go_sem, seval], by simp only [go_sem, seval], rfl⟩
  rintro i fr M ⟨hi, f0, f1, f5, rfl⟩ ih
  by_cases hil : i < hs.length
  · have q1 : ((i : Int) < (hs.length : Int)) = True := eq_true (by omega)
    have gi := get_some hil
    generalize hs.getD i 0 = z at *
    simp (disch := omega) only [go_sem, seval, wrap_i64, wrap_u64, wrap_u32, wrap_u8, wrap_i32, f0, f1, f5, q1, idxP_ints gi, Int.toNat_natCast]
    exact ih (i + 1) _ _ (by omega) ⟨by omega, by simp only [go_sem, seval, f0], by simp only [go_sem, seval, f1], by simp only [go_sem, seval]; rw [Int.natCast_succ], rfl⟩
  · have q1 : ((i : Int) < (hs.length : Int)) = False := eq_false (by omega)
    simp (disch := omega) only [go_sem, seval, wrap_i64, wrap_u64, wrap_u32, wrap_u8, wrap_i32, f0, f1, f5, q1]
theorem p_Same {X Y S C R : Int} {hs : List Int} (hl : hs.length ≤ 1000000) : pf E0 238 [terP X Y S C R hs, terP X Y S C R hs] = some (.b true) := by
  have sm := p_SameInts hl
  refine pf_run (xf := x_r10_Same) rfl (by simp [x_r10_Same]) ?_
  simp only [x_r10_Same]
  simp (disch := omega) only [go_sem, seval, wrap_i64, wrap_u64, wrap_u32, wrap_u8, wrap_i32, sm]
theorem p_RaiseO {X Y S : Int} {C R : Nat} {hs : List Int} (t : TerOk X Y S C R hs) {i j h : Int} (hi : -10 ≤ i ∧ i ≤ 100) (hj : -10 ≤ j ∧ j ≤ 100) (hh : Fits64 h) (ho : i < 0 ∨ j < 0 ∨ (C : Int) ≤ i ∨ (R : Int) ≤ j ∨ outR 16384 h) :
    pf E0 239 [terP X Y S C R hs, .i .i64 i, .i .i64 j, .i .i64 h] = some (.tu [terP 0 0 0 0 0 [], .i .i64 5]) := by
  have hv := p_Valid0 t
  have hc := t.c
  have hr := t.r
  have w0 := p_within (most := 16384) (by decide) (ns := [h]) ⟨by simp, fun n hn => by simp at hn; subst hn; exact hh⟩
  rw [empT]
  refine pf_run (xf := x_terrain_Raise) rfl (by simp [x_terrain_Raise]) ?_
  simp only [x_terrain_Raise]
  rcases fst1 ((if j < i then j else i) < 0) with t1 | t1
  · simp (disch := omega) only [go_sem, seval, wrap_i64, wrap_u64, wrap_u32, wrap_u8, wrap_i32, hv, t1]
  · rcases fst1 ((C : Int) ≤ i) with t2 | t2
    · have t2 : (i ≥ (C : Int)) = True := t2
      simp (disch := omega) only [go_sem, seval, wrap_i64, wrap_u64, wrap_u32, wrap_u8, wrap_i32, hv, t1, t2]
    · have e2 := of_eq_false t2
      have t2 : (i ≥ (C : Int)) = False := t2
      rcases fst1 ((R : Int) ≤ j) with t3 | t3
      · have t3 : (j ≥ (R : Int)) = True := t3
        simp (disch := omega) only [go_sem, seval, wrap_i64, wrap_u64, wrap_u32, wrap_u8, wrap_i32, hv, t1, t2, t3]
      · have e3 := of_eq_false t3
        have t3 : (j ≥ (R : Int)) = False := t3
        have e1 := of_eq_false t1
        have hO : outR 16384 h := by
          rcases ho with q | q | q | q | q
          · exfalso; split at e1 <;> omega
          · exfalso; split at e1 <;> omega
          · omega
          · omega
          · exact q
        have w1 : (∀ n ∈ [h], ¬ outR 16384 n) = False := eq_false fun q => q h (by simp) hO
        rw [show decide (∀ n ∈ [h], ¬ outR 16384 n) = false from decide_eq_false (of_eq_false w1)] at w0
        simp (disch := omega) only [go_sem, seval, wrap_i64, wrap_u64, wrap_u32, wrap_u8, wrap_i32, hv, t1, t2, t3, intsG1, w0]
theorem p_rRaise {X Y S : Int} {C R : Nat} {hs : List Int} (t : TerOk X Y S C R hs) {i j : Nat} (hi : i < C) (hj : j < R) {h : Int} (hh : -16384 ≤ h ∧ h ≤ 16384) :
    pf E0 240 [terP X Y S C R hs, .i .i64 i, .i .i64 j, .i .i64 h] = some (.tu [terP X Y S C R (hs.set (j * C + i) h), .i .i64 0]) := by
  have hv := p_rValid0 t
  have hc := t.c
  have hr := t.r
  have hk := node_at t hi hj
  have hl := t.le
  have e1 : (j : Int) * (C : Int) + (i : Int) = ((j * C + i : Nat) : Int) := by push_cast; rfl
  have p0 : 0 ≤ (j : Int) * (C : Int) := Int.mul_nonneg (by omega) (by omega)
  have p1 : (j : Int) * (C : Int) ≤ 16384 := by omega
  have t1 : ((i : Int) < 0) = False := eq_false (by omega)
  have t2 : ((i : Int) ≥ (C : Int)) = False := eq_false (by omega)
  have t3 : ((j : Int) < 0) = False := eq_false (by omega)
  have t4 : ((j : Int) ≥ (R : Int)) = False := eq_false (by omega)
  have t5 : (h < -16384) = False := eq_false (by omega)
  have t6 : (h > 16384) = False := eq_false (by omega)
  have ap := fun M => app_ints M t.ne (Nat.le_trans hl (by decide))
  have st : (hs.map fun n => PV.i .i64 n).set (j * C + i) (.i .i64 h) = (hs.set (j * C + i) h).map fun n => PV.i .i64 n := List.map_set.symm
  have gr : group 1 (hs.set (j * C + i) h).length ((hs.set (j * C + i) h).map fun n => PV.i .i64 n) = (hs.set (j * C + i) h).map fun n => PV.i .i64 n := group_one _ _ (by simp)
  rw [List.length_set] at gr
  generalize j * C + i = k at *
  have hI : PV.lst ((hs.set k h).map fun n => PV.i .i64 n) = ints (hs.set k h) := rfl
  have hn0 : (hs.length = 0) = False := eq_false (by omega)
  have ls : (hs.set k h).length = hs.length := List.length_set
  have htk : ((hs.set k h).map fun n => PV.i .i64 n).take hs.length = (hs.set k h).map fun n => PV.i .i64 n := List.take_of_length_le (by simp)
  refine pf_run (xf := x_r10_Raise) rfl (by simp [x_r10_Raise]) ?_
  simp only [x_r10_Raise]
  simp (disch := omega) only [go_sem, seval, wrap_i64, wrap_u64, wrap_u32, wrap_u8, wrap_i32, hv, t1, t2, t3, t4, t5, t6, ap, e1, hk, st, gr, hI, hn0, htk, fz_ints_b, List.length_map, ls]
theorem p_rRaiseO {X Y S : Int} {C R : Nat} {hs : List Int} (t : TerOk X Y S C R hs) {i j h : Int} (hi : -10 ≤ i ∧ i ≤ 100) (hj : -10 ≤ j ∧ j ≤ 100) (hh : Fits64 h) (ho : i < 0 ∨ j < 0 ∨ (C : Int) ≤ i ∨ (R : Int) ≤ j ∨ outR 16384 h) :
    pf E0 240 [terP X Y S C R hs, .i .i64 i, .i .i64 j, .i .i64 h] = some (.tu [terP 0 0 0 0 0 [], .i .i64 5]) := by
  have hv := p_rValid0 t
  have hc := t.c
  have hr := t.r
  unfold Fits64 at hh
  unfold outR at ho
  rw [empT]
  refine pf_run (xf := x_r10_Raise) rfl (by simp [x_r10_Raise]) ?_
  simp only [x_r10_Raise]
  rcases fst1 (i < 0) with t1 | t1
  · simp (disch := omega) only [go_sem, seval, wrap_i64, wrap_u64, wrap_u32, wrap_u8, wrap_i32, hv, t1]
  rcases fst1 (i ≥ (C : Int)) with t2 | t2
  · simp (disch := omega) only [go_sem, seval, wrap_i64, wrap_u64, wrap_u32, wrap_u8, wrap_i32, hv, t1, t2]
  rcases fst1 (j < 0) with t3 | t3
  · simp (disch := omega) only [go_sem, seval, wrap_i64, wrap_u64, wrap_u32, wrap_u8, wrap_i32, hv, t1, t2, t3]
  rcases fst1 (j ≥ (R : Int)) with t4 | t4
  · simp (disch := omega) only [go_sem, seval, wrap_i64, wrap_u64, wrap_u32, wrap_u8, wrap_i32, hv, t1, t2, t3, t4]
  rcases fst1 (h < -16384) with t5 | t5
  · simp (disch := omega) only [go_sem, seval, wrap_i64, wrap_u64, wrap_u32, wrap_u8, wrap_i32, hv, t1, t2, t3, t4, t5]
  have t6 : (h > 16384) = True := eq_true (by
    have e1 := of_eq_false t1
    have e2 := of_eq_false t2
    have e3 := of_eq_false t3
    have e4 := of_eq_false t4
    have e5 := of_eq_false t5
    omega)
  simp (disch := omega) only [go_sem, seval, wrap_i64, wrap_u64, wrap_u32, wrap_u8, wrap_i32, hv, t1, t2, t3, t4, t5, t6]
theorem raise_both {X Y S : Int} {C R : Nat} {hs : List Int} (t : TerOk X Y S C R hs) {i j h : Int} (hi : -10 ≤ i ∧ i ≤ 100) (hj : -10 ≤ j ∧ j ≤ 100) (hh : Fits64 h) : ∃ (X' Y' S' C' R' : Int) (hs' : List Int) (e : Int), hs'.length ≤ 1000000 ∧
    pf E0 239 [terP X Y S C R hs, .i .i64 i, .i .i64 j, .i .i64 h] = some (.tu [terP X' Y' S' C' R' hs', .i .i64 e]) ∧ pf E0 240 [terP X Y S C R hs, .i .i64 i, .i .i64 j, .i .i64 h] = some (.tu [terP X' Y' S' C' R' hs', .i .i64 e]) := by
  by_cases ho : i < 0 ∨ j < 0 ∨ (C : Int) ≤ i ∨ (R : Int) ≤ j ∨ outR 16384 h
  · exact ⟨0, 0, 0, 0, 0, [], 5, by simp, p_RaiseO t hi hj hh ho, p_rRaiseO t hi hj hh ho⟩
  · unfold outR at ho
    obtain ⟨a, rfl⟩ : ∃ a : Nat, i = (a : Int) := ⟨i.toNat, by omega⟩
    obtain ⟨b, rfl⟩ : ∃ b : Nat, j = (b : Int) := ⟨j.toNat, by omega⟩
    have hl := t.le
    exact ⟨X, Y, S, C, R, hs.set (b * C + a) h, 0, by rw [List.length_set]; omega, p_Raise t (by omega) (by omega) (by omega), p_rRaise t (by omega) (by omega) (by omega)⟩
end Go.Eng
namespace Go.Eng
theorem rep_succ (h : Int) (i : Nat) : List.replicate i (PV.i .i64 h) ++ [.i .i64 h] = List.replicate (i + 1) (.i .i64 h) := by
  rw [show i + 1 = i + 1 from rfl, List.replicate_succ', ]
theorem rep_map (h : Int) (i : Nat) : List.replicate i (PV.i .i64 h) = (List.replicate i h).map fun n => .i .i64 n := by simp
theorem ap_G2 (b0 b1 : Option PB) (G : PM) (L : List PV) (w : PV) {i : Nat} (hl : L.length = i) (hi : i ≤ 100000) (h0 : 0 < i) : appP (b0 :: b1 :: (G ++ [some ⟨L, true, 0⟩, some ⟨[w], true, 0⟩])) 1 8 (.sl (G.length + 2) 0 i i 1) (.sl (G.length + 3) 0 1 1 1) =
    some (.sl (G.length + 4) 0 (i + 1) (i + 1) 1, b0 :: b1 :: (G ++ [none, some ⟨[w], true, 0⟩, some ⟨L ++ [w], true, 0⟩])) := by
  have e1 : PM.blk (b0 :: b1 :: (G ++ [some (⟨L, true, 0⟩ : PB), some (⟨[w], true, 0⟩ : PB)])) (G.length + 3) = some (⟨[w], true, 0⟩ : PB) := by
    show PM.blk (G ++ [some (⟨L, true, 0⟩ : PB), some (⟨[w], true, 0⟩ : PB)]) (G.length + 1) = _
    rw [mG]; rfl
  have e2 : PM.blk (b0 :: b1 :: (G ++ [some (⟨L, true, 0⟩ : PB), some (⟨[w], true, 0⟩ : PB)])) (G.length + 2) = some (⟨L, true, 0⟩ : PB) := by
    show PM.blk (G ++ [some (⟨L, true, 0⟩ : PB), some (⟨[w], true, 0⟩ : PB)]) (G.length) = _
    rw [mG0]; rfl
  have e3 : (b0 :: b1 :: (G ++ [some (⟨L, true, 0⟩ : PB), some (⟨[w], true, 0⟩ : PB)])).set (G.length + 2) none = b0 :: b1 :: (G ++ [none, some (⟨[w], true, 0⟩ : PB)]) := by
    show b0 :: b1 :: (G ++ [some (⟨L, true, 0⟩ : PB), some (⟨[w], true, 0⟩ : PB)]).set G.length none = _
    rw [sG0]; rfl
  have es : srcP (b0 :: b1 :: (G ++ [some (⟨L, true, 0⟩ : PB), some (⟨[w], true, 0⟩ : PB)])) 1 (.sl (G.length + 3) 0 1 1 1) = some (1, [w]) := by
    simp only [srcP, PM.rd, e1]
    rfl
  unfold appP
  rw [es]
  simp only [e2]
  rw [if_neg (by simp), if_neg (by decide), if_pos ⟨trivial, by rw [hl]; omega, by omega⟩, e3]
  simp only [List.drop_zero, Nat.mul_one, List.cons_append, List.append_assoc, List.nil_append, List.length_cons, List.length_append, List.length_nil]
  rw [List.take_of_length_le (by omega)]
theorem p_rFlat {X Y S h : Int} (fX : Fits64 X) (fY : Fits64 Y) (fS : Fits64 S) (fh : Fits64 h) {C R : Nat} (hC : 2 ≤ C ∧ C ≤ 130) (hR : 2 ≤ R ∧ R ≤ 128) (hC' : C ≤ 128) {e : Int} (hv : pf E0 242 [terP X Y S C R (List.replicate (C * R) h)] = some (.i .i64 e)) :
    pf E0 237 [.i .i64 X, .i .i64 Y, .i .i64 S, .i .i64 C, .i .i64 R, .i .i64 h] = some (.tu [if e = 0 then terP X Y S C R (List.replicate (C * R) h) else terP 0 0 0 0 0 [], .i .i64 e]) := by
  have hCR : 4 ≤ C * R ∧ C * R ≤ 16384 := by
    have : 2 * 2 ≤ C * R := Nat.mul_le_mul hC.1 hR.1
    have : C * R ≤ 128 * 128 := Nat.mul_le_mul hC' hR.2
    omega
  have eCR : (C : Int) * (R : Int) = ((C * R : Nat) : Int) := by push_cast; rfl
  have t1 : ((C : Int) < 2) = False := eq_false (by omega)
  have t2 : ((C : Int) > 128) = False := eq_false (by omega)
  have t3 : ((R : Int) < 2) = False := eq_false (by omega)
  have t4 : ((R : Int) > 128) = False := eq_false (by omega)
  generalize hN : C * R = N at *
  have rs := fun i => (rep_succ h i).symm
  have hI : PV.lst (List.replicate N (PV.i .i64 h)) = ints (List.replicate N h) := by rw [rep_map]; rfl
  have r1 : List.replicate 1 (PV.i .i64 h) = [.i .i64 h] := rfl
  rw [empT]
  refine pf_run (xf := x_r10_Flat) rfl (by simp [x_r10_Flat]) ?_
  simp only [x_r10_Flat]
  simp (disch := omega) only [go_sem, seval, wrap_i64, wrap_u64, wrap_u32, wrap_u8, wrap_i32, t1, t2, t3, t4, fill_C, fillC_def]
  refine wk_roll x_r10_Flat_l1.eq_1 ?_
  have q1 : ((0 : Int) < (N : Int)) = True := eq_true (by omega)
  simp (disch := omega) only [go_sem, seval, wrap_i64, wrap_u64, wrap_u32, wrap_u8, wrap_i32, eCR, q1, ap_nil1]
  refine wk_ind x_r10_Flat_l1.eq_1 (fun (i : Nat) fr M => 1 ≤ i ∧ i ≤ N ∧ fr 3 = .i .i64 C ∧ fr 4 = .i .i64 R ∧ fr 5 = .i .i64 h ∧ fr 12 = .p 0 0 ∧ fr 14 = .p 1 0 ∧ fr 15 = (PV.i .i64 ((i : Nat) : Int)) ∧ ∃ v G, M = some ⟨[.i .i64 0, .i .i64 0, .i .i64 0, .i .i64 0, .i .i64 0, .nl], true, 0⟩ :: some ⟨[.i .i64 X, .i .i64 Y, .i .i64 S, .i .i64 C, .i .i64 R, .sl (G.length + 2) 0 i i 1], true, v⟩ :: (G ++ [some ⟨List.replicate i (.i .i64 h), true, 0⟩]))
    (fun i => N - i) ?_ 1 ⟨by omega, by omega, by simp only [go_sem, seval], by simp only [go_sem, seval], by simp only [go_sem, seval], by simp only [go_sem, seval], by simp only [go_sem, seval], by simp only [go_sem, seval], _, [some ⟨[.i .i64 h], true, 0⟩], by rfl⟩
  rintro i fr M ⟨hi1, hi, f3, f4, f5, f12, f14, f15, v, G, rfl⟩ ih
  have hll : (List.replicate i (PV.i .i64 h)).length = i := List.length_replicate
  by_cases hil : i < N
  · have q1 : ((i : Int) < (N : Int)) = True := eq_true (by omega)
    have apx : appP (some ⟨[.i .i64 0, .i .i64 0, .i .i64 0, .i .i64 0, .i .i64 0, .nl], true, 0⟩ :: some ⟨[.i .i64 X, .i .i64 Y, .i .i64 S, .i .i64 C, .i .i64 R, .sl (G.length + 2) 0 i i 1], true, v⟩ :: (G ++ [some ⟨List.replicate i (.i .i64 h), true, 0⟩, some ⟨[.i .i64 h], true, 0⟩])) 1 8 (.sl (G.length + 2) 0 i i 1) (.sl (G.length + 3) 0 1 1 1) = _ := ap_G2 _ _ G (List.replicate i (.i .i64 h)) (.i .i64 h) hll (by omega) hi1
    simp (disch := omega) only [go_sem, seval, wrap_i64, wrap_u64, wrap_u32, wrap_u8, wrap_i32, f3, f4, f5, f12, f14, f15, eCR, q1, apx, mG, mG0, sG, sG0, lG, List.append_assoc, List.cons_append, List.nil_append]
    exact ih (i + 1) _ _ (by omega) ⟨by omega, by omega, by simp only [go_sem, seval, f3], by simp only [go_sem, seval, f4], by simp only [go_sem, seval, f5], by simp only [go_sem, seval, f12], by simp only [go_sem, seval, f14], by simp only [go_sem, seval]; rw [Int.natCast_succ], v + 1, G ++ [none, some ⟨[.i .i64 h], true, 0⟩], by rw [rs]; simp⟩
  · obtain rfl : i = N := by omega
    have q1 : ((i : Int) < (i : Int)) = False := eq_false (by omega)
    have hne : (i = 0) = False := eq_false (by omega)
    have hle : (i ≤ i) = True := eq_true (Nat.le_refl _)
    have htk : (List.replicate i (PV.i .i64 h)).take i = List.replicate i (.i .i64 h) := List.take_of_length_le (by rw [hll]; omega)
    have gr : group 1 i (List.replicate i (PV.i .i64 h)) = List.replicate i (.i .i64 h) := group_one _ _ hll
    have fzH : ∀ (M : PM) (d : Nat), fzL (fz M (d + 1)) (List.replicate i (PV.i .i64 h)) = some (List.replicate i (.i .i64 h), []) := fun M d => by
      rw [rep_map]; exact fzL_map' M d _ (fun _ => rfl) _
    by_cases he : e = 0
    · subst he
      rw [if_pos rfl]
      simp (disch := omega) only [go_sem, seval, wrap_i64, wrap_u64, wrap_u32, wrap_u8, wrap_i32, f3, f4, f5, f12, f14, f15, eCR, q1, hne, hll, hle, htk, fzH, gr, hI, hv, mG, mG0, sG, sG0, lG, List.append_assoc, List.cons_append, List.nil_append]
    · have he' : (e = 0) = False := eq_false he
      simp only [he', if_false]
      simp (disch := omega) only [go_sem, seval, wrap_i64, wrap_u64, wrap_u32, wrap_u8, wrap_i32, f3, f4, f5, f12, f14, f15, eCR, q1, hne, hll, hle, htk, fzH, gr, hI, hv, he', mG, mG0, sG, sG0, lG, List.append_assoc, List.cons_append, List.nil_append, fill_C, fillC_def]
end Go.Eng
namespace Go.Eng
theorem p_FlatO {X Y S C R h : Int} (hC : -2 ≤ C ∧ C ≤ 1000) (hR : -2 ≤ R ∧ R ≤ 1000) (ho : C < 2 ∨ R < 2 ∨ C > 128 ∨ R > 128) :
    pf E0 236 [.i .i64 X, .i .i64 Y, .i .i64 S, .i .i64 C, .i .i64 R, .i .i64 h] = some (.tu [terP 0 0 0 0 0 [], .i .i64 1]) := by
  rw [empT]
  refine pf_run (xf := x_terrain_Flat) rfl (by simp [x_terrain_Flat]) ?_
  simp only [x_terrain_Flat]
  rcases fst1 ((if R < C then R else C) < 2) with t1 | t1
  · simp (disch := omega) only [go_sem, seval, wrap_i64, wrap_u64, wrap_u32, wrap_u8, wrap_i32, t1]
  · have t2 : ((if R > C then R else C) > 128) = True := eq_true (by
      have e := of_eq_false t1
      split at e <;> split <;> omega)
    simp (disch := omega) only [go_sem, seval, wrap_i64, wrap_u64, wrap_u32, wrap_u8, wrap_i32, t1, t2]
theorem p_rFlatO {X Y S C R h : Int} (hC : -2 ≤ C ∧ C ≤ 1000) (hR : -2 ≤ R ∧ R ≤ 1000) (ho : C < 2 ∨ R < 2 ∨ C > 128 ∨ R > 128) :
    pf E0 237 [.i .i64 X, .i .i64 Y, .i .i64 S, .i .i64 C, .i .i64 R, .i .i64 h] = some (.tu [terP 0 0 0 0 0 [], .i .i64 1]) := by
  rw [empT]
  refine pf_run (xf := x_r10_Flat) rfl (by simp [x_r10_Flat]) ?_
  simp only [x_r10_Flat]
  rcases fst1 (C < 2) with t1 | t1
  · simp (disch := omega) only [go_sem, seval, wrap_i64, wrap_u64, wrap_u32, wrap_u8, wrap_i32, t1, fill_C, fillC_def]
  rcases fst1 (C > 128) with t2 | t2
  · simp (disch := omega) only [go_sem, seval, wrap_i64, wrap_u64, wrap_u32, wrap_u8, wrap_i32, t1, t2, fill_C, fillC_def]
  rcases fst1 (R < 2) with t3 | t3
  · simp (disch := omega) only [go_sem, seval, wrap_i64, wrap_u64, wrap_u32, wrap_u8, wrap_i32, t1, t2, t3, fill_C, fillC_def]
  have t4 : (R > 128) = True := eq_true (by
    have e1 := of_eq_false t1
    have e2 := of_eq_false t2
    have e3 := of_eq_false t3
    omega)
  simp (disch := omega) only [go_sem, seval, wrap_i64, wrap_u64, wrap_u32, wrap_u8, wrap_i32, t1, t2, t3, t4, fill_C, fillC_def]
theorem flat_both {X Y S C R h : Int} (fX : Fits64 X) (fY : Fits64 Y) (fS : Fits64 S) (fh : Fits64 h) (hC : -2 ≤ C ∧ C ≤ 1000) (hR : -2 ≤ R ∧ R ≤ 1000) : ∃ (X' Y' S' C' R' : Int) (hs' : List Int) (e : Int), hs'.length ≤ 1000000 ∧
    pf E0 236 [.i .i64 X, .i .i64 Y, .i .i64 S, .i .i64 C, .i .i64 R, .i .i64 h] = some (.tu [terP X' Y' S' C' R' hs', .i .i64 e]) ∧ pf E0 237 [.i .i64 X, .i .i64 Y, .i .i64 S, .i .i64 C, .i .i64 R, .i .i64 h] = some (.tu [terP X' Y' S' C' R' hs', .i .i64 e]) := by
  by_cases ho : C < 2 ∨ R < 2 ∨ C > 128 ∨ R > 128
  · exact ⟨0, 0, 0, 0, 0, [], 1, by simp, p_FlatO hC hR ho, p_rFlatO hC hR ho⟩
  · obtain ⟨c, rfl⟩ : ∃ c : Nat, C = (c : Int) := ⟨C.toNat, by omega⟩
    obtain ⟨r, rfl⟩ : ∃ r : Nat, R = (r : Int) := ⟨R.toNat, by omega⟩
    have hCR : c * r ≤ 128 * 128 := Nat.mul_le_mul (by omega) (by omega)
    have hI : Ints (List.replicate (c * r) h) := ⟨by rw [List.length_replicate]; omega, fun n hn => by obtain ⟨_, rfl⟩ := List.mem_replicate.1 hn; exact fh⟩
    have v1 := p_ValidG (X := X) (Y := Y) (S := S) (C := c) (R := r) fX fY fS (by unfold Fits64; omega) (by unfold Fits64; omega) hI
    have v2 := p_rValidG (X := X) (Y := Y) (S := S) (C := c) (R := r) fX fY fS (by unfold Fits64; omega) (by unfold Fits64; omega) hI
    have f1 := p_Flat (X := X) (Y := Y) (S := S) (C := c) (R := r) (h := h) (by omega) (by omega) v1
    have f2 := p_rFlat (X := X) (Y := Y) (S := S) (C := c) (R := r) (h := h) fX fY fS fh (by omega) (by omega) (by omega) v2
    generalize validV X Y S c r (List.replicate (c * r) h) = e at *
    by_cases he : e = 0
    · rw [if_pos he] at f1 f2
      exact ⟨_, _, _, _, _, _, e, by rw [List.length_replicate]; omega, f1, f2⟩
    · rw [if_neg he] at f1 f2
      exact ⟨_, _, _, _, _, _, e, by simp, f1, f2⟩
theorem wrap_fits (n : Int) : Fits64 (IntKind.i64.wrap n) := by
  have h0 := Int.emod_nonneg n (show (18446744073709551616 : Int) ≠ 0 by decide)
  have h1 := Int.emod_lt_of_pos n (show (0 : Int) < 18446744073709551616 by decide)
  have e : IntKind.i64.wrap n = if n % 18446744073709551616 ≥ 9223372036854775808 then n % 18446744073709551616 - 18446744073709551616 else n % 18446744073709551616 := by
    show (if (true && decide (n % 18446744073709551616 ≥ 9223372036854775808)) = true then n % 18446744073709551616 - 18446744073709551616 else n % 18446744073709551616) = _
    simp
  unfold Fits64
  rw [e]
  split <;> omega
set_option maxHeartbeats 4000000 in
set_option maxRecDepth 40000 in
theorem p_TerrainMakes {xs : List Int} (hx : Ints xs) {x step cols rows h i j : Int} (fx : Fits64 x) (fs : Fits64 step) (fc : Fits64 cols) (fr : Fits64 rows) (fh : Fits64 h) (fi : Fits64 i) (fj : Fits64 j) :
    pf E0 228 [ints xs, .i .i64 x, .i .i64 step, .i .i64 cols, .i .i64 rows, .i .i64 h, .i .i64 i, .i .i64 j] = some (.b true) := by
  obtain ⟨X, Y, S, C, R, hs, t, hX, hY, hS, hC, hR, hh, ht⟩ := p_Terrain hx
  have tl := t.le
  have lv := p_lives10
  have rc := p_Around (n := cols) (m := 132) fc (by decide) (by decide)
  have rr := p_Around (n := rows) (m := 8) fr (by decide) (by decide)
  have rs := p_Around (n := step) (m := 9000) fs (by decide) (by decide)
  have ri := p_Around (n := i) (m := 9) fi (by decide) (by decide)
  have rj := p_Around (n := j) (m := 9) fj (by decide) (by decide)
  have c0 := aro_nonneg cols (m := 132) (by decide)
  have c1 := aro_lt cols (m := 132) (by decide)
  have r0 := aro_nonneg rows (m := 8) (by decide)
  have r1 := aro_lt rows (m := 8) (by decide)
  have s0 := aro_nonneg step (m := 9000) (by decide)
  have s1 := aro_lt step (m := 9000) (by decide)
  have i0 := aro_nonneg i (m := 9) (by decide)
  have i1 := aro_lt i (m := 9) (by decide)
  have j0 := aro_nonneg j (m := 9) (by decide)
  have j1 := aro_lt j (m := 9) (by decide)
  generalize aro cols 132 = c at *
  generalize aro rows 8 = r at *
  generalize aro step 9000 = s at *
  generalize aro i 9 = m at *
  generalize aro j 9 = n at *
  obtain ⟨y, hy⟩ : ∃ y, IntKind.i64.wrap (0 - x) = y := ⟨_, rfl⟩
  have fy : Fits64 y := hy ▸ wrap_fits _
  obtain ⟨X1, Y1, S1, C1, R1, hs1, e1, l1, f1, g1⟩ := flat_both (X := x) (Y := y) (S := s) (C := c - 2) (R := r - 1) (h := h) fx fy (by unfold Fits64; omega) fh (by omega) (by omega)
  have ft : Fits64 (h.tmod 16400) := by
    have := Int.mul_tdiv_add_tmod h 16400
    have a1 := Int.tmod_lt_of_pos h (show (0 : Int) < 16400 by decide)
    have a2 := Int.lt_tmod_of_pos h (show (0 : Int) < 16400 by decide)
    unfold Fits64; omega
  have w1 : IntKind.i64.wrap (h.tmod 16400) = h.tmod 16400 := wrap_i64 (by unfold Fits64 at ft; omega) (by unfold Fits64 at ft; omega)
  have fm : -10 ≤ m - 1 ∧ m - 1 ≤ 100 := by omega
  have fn : -10 ≤ n - 1 ∧ n - 1 ≤ 100 := by omega
  obtain ⟨A1, A2, A3, A4, A5, A6, A7, A8, A9, A10⟩ := raise_both t fm fn fh
  obtain ⟨V1, V2, V3, V4, V5, V6, V7, V8, V9, V10⟩ := raise_both t fm fn ft
  obtain ⟨K1, K2, K3, K4, K5, K6, K7, K8, K9, K10⟩ := raise_both t fm fn (h := 16384) (by decide)
  obtain ⟨L1, L2, L3, L4, L5, L6, L7, L8, L9, L10⟩ := raise_both t fm fn (h := -16385) (by decide)
  have sm := p_Same (X := X1) (Y := Y1) (S := S1) (C := C1) (R := R1) l1
  have st := p_Same (X := X) (Y := Y) (S := S) (C := C) (R := R) (hs := hs) (by omega)
  have sA := p_Same (X := A1) (Y := A2) (S := A3) (C := A4) (R := A5) A8
  have sV := p_Same (X := V1) (Y := V2) (S := V3) (C := V4) (R := V5) V8
  have sK := p_Same (X := K1) (Y := K2) (S := K3) (C := K4) (R := K5) K8
  have sL := p_Same (X := L1) (Y := L2) (S := L3) (C := L4) (R := L5) L8
  refine pf_run (xf := x_l10_TerrainMakes) rfl (by simp [x_l10_TerrainMakes]) ?_
  simp only [x_l10_TerrainMakes]
  simp (disch := omega) only [go_sem, seval, wrap_i64, wrap_u64, wrap_u32, wrap_u8, wrap_i32, rc, rr, rs, hy, f1, g1, sm, ht, ri, rj, w1, fill_C, fillC_def]
  refine wk_roll x_l10_TerrainMakes_l1.eq_1 ?_
  simp (disch := omega) only [go_sem, seval, wrap_i64, wrap_u64, wrap_u32, wrap_u8, wrap_i32, A9, A10, sA, st]
  refine wk_roll x_l10_TerrainMakes_l1.eq_1 ?_
  simp (disch := omega) only [go_sem, seval, wrap_i64, wrap_u64, wrap_u32, wrap_u8, wrap_i32, V9, V10, sV, st]
  refine wk_roll x_l10_TerrainMakes_l1.eq_1 ?_
  simp (disch := omega) only [go_sem, seval, wrap_i64, wrap_u64, wrap_u32, wrap_u8, wrap_i32, K9, K10, sK, st]
  refine wk_roll x_l10_TerrainMakes_l1.eq_1 ?_
  simp (disch := omega) only [go_sem, seval, wrap_i64, wrap_u64, wrap_u32, wrap_u8, wrap_i32, L9, L10, sL, st]
  refine wk_roll x_l10_TerrainMakes_l1.eq_1 ?_
  simp (disch := omega) only [go_sem, seval, wrap_i64, wrap_u64, wrap_u32, wrap_u8, wrap_i32, lv]
end Go.Eng
