/- The engine and the contracts on which the statement stands: no conditions of its own. -/
import Derived.Test.YtndbnkkjmeeldaaGreatDoorMine4
set_option linter.unusedSimpArgs false
set_option linter.unusedVariables false
set_option linter.unusedSectionVars false
namespace Go.Eng
set_option maxHeartbeats 4000000 in
set_option maxRecDepth 40000 in
theorem p_Spoilt {X Y S C R : Int} {hs : List Int} (fX : Fits64 X) (fY : Fits64 Y) (fS : Fits64 S) (fC : Fits64 C) (fR : Fits64 R) (hi : Ints hs) (hl : 1 ≤ hs.length ∧ hs.length ≤ 1000) {how by_ : Int} (fh : Fits64 how) (fb : Fits64 by_) :
    ∃ (X' Y' S' C' R' : Int) (hs' : List Int), Fits64 X' ∧ Fits64 Y' ∧ Fits64 S' ∧ Fits64 C' ∧ Fits64 R' ∧ Ints hs' ∧ 1 ≤ hs'.length ∧ hs'.length ≤ hs.length + 1 ∧ pf E0 241 [terP X Y S C R hs, .i .i64 how, .i .i64 by_] = some (terP X' Y' S' C' R' hs') := by
  have r7 := p_Around (n := how) (m := 7) fh (by decide) (by decide)
  have r4 := p_Around (n := by_) (m := 4) fb (by decide) (by decide)
  have r5 := p_Around (n := by_) (m := 5) fb (by decide) (by decide)
  have a7 := aro_nonneg how (m := 7) (by decide)
  have b7 := aro_lt how (m := 7) (by decide)
  have a4 := aro_nonneg by_ (m := 4) (by decide)
  have b4 := aro_lt by_ (m := 4) (by decide)
  have a5 := aro_nonneg by_ (m := 5) (by decide)
  have b5 := aro_lt by_ (m := 5) (by decide)
  generalize aro how 7 = k at *
  generalize aro by_ 4 = m4 at *
  generalize aro by_ 5 = m5 at *
  have hl' : hs.length ≤ hs.length + 1 := by omega
  obtain rfl | rfl | rfl | rfl | rfl | rfl | rfl : k = 0 ∨ k = 1 ∨ k = 2 ∨ k = 3 ∨ k = 4 ∨ k = 5 ∨ k = 6 := by omega
  · obtain rfl | rfl | rfl | rfl : m4 = 0 ∨ m4 = 1 ∨ m4 = 2 ∨ m4 = 3 := by omega
    · refine ⟨by_, Y, S, C, R, hs, fb, fY, fS, fC, fR, hi, hl.1, hl', ?_⟩
      refine pf_run (xf := x_r10_Spoilt) rfl (by simp [x_r10_Spoilt]) ?_
      simp only [x_r10_Spoilt]
      simp (disch := omega) only [go_sem, seval, wqa, wqb, wqc, wqd, wqe, r7, r4, r5, fill_C, fillC_def]
    · refine ⟨1048570, Y, S, C, R, hs, (by decide), fY, fS, fC, fR, hi, hl.1, hl', ?_⟩
      refine pf_run (xf := x_r10_Spoilt) rfl (by simp [x_r10_Spoilt]) ?_
      simp only [x_r10_Spoilt]
      simp (disch := omega) only [go_sem, seval, wqa, wqb, wqc, wqd, wqe, r7, r4, r5, fill_C, fillC_def]
    · refine ⟨(-1048576), Y, S, C, R, hs, (by decide), fY, fS, fC, fR, hi, hl.1, hl', ?_⟩
      refine pf_run (xf := x_r10_Spoilt) rfl (by simp [x_r10_Spoilt]) ?_
      simp only [x_r10_Spoilt]
      simp (disch := omega) only [go_sem, seval, wqa, wqb, wqc, wqd, wqe, r7, r4, r5, fill_C, fillC_def]
    · refine ⟨(-1048577), Y, S, C, R, hs, (by decide), fY, fS, fC, fR, hi, hl.1, hl', ?_⟩
      refine pf_run (xf := x_r10_Spoilt) rfl (by simp [x_r10_Spoilt]) ?_
      simp only [x_r10_Spoilt]
      simp (disch := omega) only [go_sem, seval, wqa, wqb, wqc, wqd, wqe, r7, r4, r5, fill_C, fillC_def]
  · obtain rfl | rfl | rfl | rfl : m4 = 0 ∨ m4 = 1 ∨ m4 = 2 ∨ m4 = 3 := by omega
    · refine ⟨X, by_, S, C, R, hs, fX, fb, fS, fC, fR, hi, hl.1, hl', ?_⟩
      refine pf_run (xf := x_r10_Spoilt) rfl (by simp [x_r10_Spoilt]) ?_
      simp only [x_r10_Spoilt]
      simp (disch := omega) only [go_sem, seval, wqa, wqb, wqc, wqd, wqe, r7, r4, r5, fill_C, fillC_def]
    · refine ⟨X, 1048570, S, C, R, hs, fX, (by decide), fS, fC, fR, hi, hl.1, hl', ?_⟩
      refine pf_run (xf := x_r10_Spoilt) rfl (by simp [x_r10_Spoilt]) ?_
      simp only [x_r10_Spoilt]
      simp (disch := omega) only [go_sem, seval, wqa, wqb, wqc, wqd, wqe, r7, r4, r5, fill_C, fillC_def]
    · refine ⟨X, (-1048576), S, C, R, hs, fX, (by decide), fS, fC, fR, hi, hl.1, hl', ?_⟩
      refine pf_run (xf := x_r10_Spoilt) rfl (by simp [x_r10_Spoilt]) ?_
      simp only [x_r10_Spoilt]
      simp (disch := omega) only [go_sem, seval, wqa, wqb, wqc, wqd, wqe, r7, r4, r5, fill_C, fillC_def]
    · refine ⟨X, (-1048577), S, C, R, hs, fX, (by decide), fS, fC, fR, hi, hl.1, hl', ?_⟩
      refine pf_run (xf := x_r10_Spoilt) rfl (by simp [x_r10_Spoilt]) ?_
      simp only [x_r10_Spoilt]
      simp (disch := omega) only [go_sem, seval, wqa, wqb, wqc, wqd, wqe, r7, r4, r5, fill_C, fillC_def]
  · obtain rfl | rfl | rfl | rfl | rfl : m5 = 0 ∨ m5 = 1 ∨ m5 = 2 ∨ m5 = 3 ∨ m5 = 4 := by omega
    · refine ⟨X, Y, by_, C, R, hs, fX, fY, fb, fC, fR, hi, hl.1, hl', ?_⟩
      refine pf_run (xf := x_r10_Spoilt) rfl (by simp [x_r10_Spoilt]) ?_
      simp only [x_r10_Spoilt]
      simp (disch := omega) only [go_sem, seval, wqa, wqb, wqc, wqd, wqe, r7, r4, r5, fill_C, fillC_def]
    · refine ⟨X, Y, 0, C, R, hs, fX, fY, (by decide), fC, fR, hi, hl.1, hl', ?_⟩
      refine pf_run (xf := x_r10_Spoilt) rfl (by simp [x_r10_Spoilt]) ?_
      simp only [x_r10_Spoilt]
      simp (disch := omega) only [go_sem, seval, wqa, wqb, wqc, wqd, wqe, r7, r4, r5, fill_C, fillC_def]
    · refine ⟨X, Y, 65536, C, R, hs, fX, fY, (by decide), fC, fR, hi, hl.1, hl', ?_⟩
      refine pf_run (xf := x_r10_Spoilt) rfl (by simp [x_r10_Spoilt]) ?_
      simp only [x_r10_Spoilt]
      simp (disch := omega) only [go_sem, seval, wqa, wqb, wqc, wqd, wqe, r7, r4, r5, fill_C, fillC_def]
    · refine ⟨X, Y, 65537, C, R, hs, fX, fY, (by decide), fC, fR, hi, hl.1, hl', ?_⟩
      refine pf_run (xf := x_r10_Spoilt) rfl (by simp [x_r10_Spoilt]) ?_
      simp only [x_r10_Spoilt]
      simp (disch := omega) only [go_sem, seval, wqa, wqb, wqc, wqd, wqe, r7, r4, r5, fill_C, fillC_def]
    · refine ⟨X, Y, (-1), C, R, hs, fX, fY, (by decide), fC, fR, hi, hl.1, hl', ?_⟩
      refine pf_run (xf := x_r10_Spoilt) rfl (by simp [x_r10_Spoilt]) ?_
      simp only [x_r10_Spoilt]
      simp (disch := omega) only [go_sem, seval, wqa, wqb, wqc, wqd, wqe, r7, r4, r5, fill_C, fillC_def]
  · obtain rfl | rfl | rfl | rfl : m4 = 0 ∨ m4 = 1 ∨ m4 = 2 ∨ m4 = 3 := by omega
    · refine ⟨X, Y, S, by_, R, hs, fX, fY, fS, fb, fR, hi, hl.1, hl', ?_⟩
      refine pf_run (xf := x_r10_Spoilt) rfl (by simp [x_r10_Spoilt]) ?_
      simp only [x_r10_Spoilt]
      simp (disch := omega) only [go_sem, seval, wqa, wqb, wqc, wqd, wqe, r7, r4, r5]
      refine wk_calmX [3] rfl (by simp only [go_sem, seval]) ?_
      simp (disch := omega) only [go_sem, seval, wqa, wqb, wqc, wqd, wqe, r7, r4, r5, fill_C, fillC_def]
    · refine ⟨X, Y, S, (IntKind.i64.wrap (C + 1)), R, hs, fX, fY, fS, (wrap_fits _), fR, hi, hl.1, hl', ?_⟩
      refine pf_run (xf := x_r10_Spoilt) rfl (by simp [x_r10_Spoilt]) ?_
      simp only [x_r10_Spoilt]
      simp (disch := omega) only [go_sem, seval, wqa, wqb, wqc, wqd, wqe, r7, r4, r5]
      refine wk_calmX [3] rfl (by simp only [go_sem, seval]) ?_
      simp (disch := omega) only [go_sem, seval, wqa, wqb, wqc, wqd, wqe, r7, r4, r5, fill_C, fillC_def]
    · refine ⟨X, Y, S, 1, R, hs, fX, fY, fS, (by decide), fR, hi, hl.1, hl', ?_⟩
      refine pf_run (xf := x_r10_Spoilt) rfl (by simp [x_r10_Spoilt]) ?_
      simp only [x_r10_Spoilt]
      simp (disch := omega) only [go_sem, seval, wqa, wqb, wqc, wqd, wqe, r7, r4, r5]
      refine wk_calmX [3] rfl (by simp only [go_sem, seval]) ?_
      simp (disch := omega) only [go_sem, seval, wqa, wqb, wqc, wqd, wqe, r7, r4, r5, fill_C, fillC_def]
    · refine ⟨X, Y, S, 0, R, hs, fX, fY, fS, (by decide), fR, hi, hl.1, hl', ?_⟩
      refine pf_run (xf := x_r10_Spoilt) rfl (by simp [x_r10_Spoilt]) ?_
      simp only [x_r10_Spoilt]
      simp (disch := omega) only [go_sem, seval, wqa, wqb, wqc, wqd, wqe, r7, r4, r5]
      refine wk_calmX [3] rfl (by simp only [go_sem, seval]) ?_
      simp (disch := omega) only [go_sem, seval, wqa, wqb, wqc, wqd, wqe, r7, r4, r5, fill_C, fillC_def]
  · obtain rfl | rfl | rfl | rfl : m4 = 0 ∨ m4 = 1 ∨ m4 = 2 ∨ m4 = 3 := by omega
    · refine ⟨X, Y, S, C, by_, hs, fX, fY, fS, fC, fb, hi, hl.1, hl', ?_⟩
      refine pf_run (xf := x_r10_Spoilt) rfl (by simp [x_r10_Spoilt]) ?_
      simp only [x_r10_Spoilt]
      simp (disch := omega) only [go_sem, seval, wqa, wqb, wqc, wqd, wqe, r7, r4, r5]
      refine wk_calmX [3] rfl (by simp only [go_sem, seval]) ?_
      simp (disch := omega) only [go_sem, seval, wqa, wqb, wqc, wqd, wqe, r7, r4, r5, fill_C, fillC_def]
    · refine ⟨X, Y, S, C, (IntKind.i64.wrap (R - 1)), hs, fX, fY, fS, fC, (wrap_fits _), hi, hl.1, hl', ?_⟩
      refine pf_run (xf := x_r10_Spoilt) rfl (by simp [x_r10_Spoilt]) ?_
      simp only [x_r10_Spoilt]
      simp (disch := omega) only [go_sem, seval, wqa, wqb, wqc, wqd, wqe, r7, r4, r5]
      refine wk_calmX [3] rfl (by simp only [go_sem, seval]) ?_
      simp (disch := omega) only [go_sem, seval, wqa, wqb, wqc, wqd, wqe, r7, r4, r5, fill_C, fillC_def]
    · refine ⟨X, Y, S, C, 1, hs, fX, fY, fS, fC, (by decide), hi, hl.1, hl', ?_⟩
      refine pf_run (xf := x_r10_Spoilt) rfl (by simp [x_r10_Spoilt]) ?_
      simp only [x_r10_Spoilt]
      simp (disch := omega) only [go_sem, seval, wqa, wqb, wqc, wqd, wqe, r7, r4, r5]
      refine wk_calmX [3] rfl (by simp only [go_sem, seval]) ?_
      simp (disch := omega) only [go_sem, seval, wqa, wqb, wqc, wqd, wqe, r7, r4, r5, fill_C, fillC_def]
    · refine ⟨X, Y, S, C, (-2), hs, fX, fY, fS, fC, (by decide), hi, hl.1, hl', ?_⟩
      refine pf_run (xf := x_r10_Spoilt) rfl (by simp [x_r10_Spoilt]) ?_
      simp only [x_r10_Spoilt]
      simp (disch := omega) only [go_sem, seval, wqa, wqb, wqc, wqd, wqe, r7, r4, r5]
      refine wk_calmX [3] rfl (by simp only [go_sem, seval]) ?_
      simp (disch := omega) only [go_sem, seval, wqa, wqb, wqc, wqd, wqe, r7, r4, r5, fill_C, fillC_def]
  · refine ⟨X, Y, S, C, R, hs ++ [by_], fX, fY, fS, fC, fR, ⟨by simp; omega, fun n hn => by
      rcases List.mem_append.1 hn with q | q
      · exact hi.2 n q
      · obtain rfl : n = by_ := by simpa using q
        exact fb⟩, by simp, by simp, ?_⟩
    have ne : hs ≠ [] := fun q => by rw [q] at hl; simp at hl
    have ap := fun M => app_ints M ne (by omega)
    have hM : (hs.map fun n => PV.i .i64 n) ++ [PV.i .i64 by_] = (hs ++ [by_]).map fun n => PV.i .i64 n := by rw [List.map_append]; rfl
    have ap2 : ∀ b0 b1 : Option PB, appP [b0, b1, some ⟨hs.map fun n => PV.i .i64 n, true, 0⟩, some ⟨[PV.i .i64 by_], true, 0⟩] 1 8 (.sl 2 0 hs.length hs.length 1) (.sl 3 0 1 1 1) = some (.sl 4 0 (hs.length + 1) (hs.length + 1) 1, [b0, b1, none, some ⟨[PV.i .i64 by_], true, 0⟩, some ⟨(hs ++ [by_]).map fun n => PV.i .i64 n, true, 0⟩]) := fun b0 b1 => by
      rw [← hM]
      exact ap_G2 b0 b1 [] (hs.map fun n => PV.i .i64 n) (.i .i64 by_) (by simp) (by omega) (by omega)
    have ll : (hs ++ [by_]).length = hs.length + 1 := by simp
    have gr : group 1 (hs.length + 1) ((hs ++ [by_]).map fun n => PV.i .i64 n) = (hs ++ [by_]).map fun n => PV.i .i64 n := group_one _ _ (by simp)
    have htk : ((hs ++ [by_]).map fun n => PV.i .i64 n).take (hs.length + 1) = (hs ++ [by_]).map fun n => PV.i .i64 n := List.take_of_length_le (by simp)
    have hI : PV.lst ((hs ++ [by_]).map fun n => PV.i .i64 n) = ints (hs ++ [by_]) := rfl
    have hn0 : (hs.length + 1 = 0) = False := eq_false (by omega)
    generalize hs ++ [by_] = hs2 at *
    refine pf_run (xf := x_r10_Spoilt) rfl (by simp [x_r10_Spoilt]) ?_
    simp only [x_r10_Spoilt]
    simp (disch := omega) only [go_sem, seval, wqa, wqb, wqc, wqd, wqe, r7, r4, r5, ap, ap2, gr, hI, hn0, htk, fz_ints_b, List.length_map, ll, fill_C, fillC_def]
  · have ne : hs ≠ [] := fun q => by rw [q] at hl; simp at hl
    have ap := fun M => app_ints M ne (by omega)
    have rk := p_Around (n := by_) (m := (hs.length : Int)) fb (by unfold Fits64; omega) (by omega)
    have k0 := aro_nonneg by_ (m := (hs.length : Int)) (by omega)
    have k1 := aro_lt by_ (m := (hs.length : Int)) (by omega)
    obtain ⟨k, hk'⟩ : ∃ k : Nat, aro by_ (hs.length : Int) = (k : Int) := ⟨(aro by_ (hs.length : Int)).toNat, by omega⟩
    rw [hk'] at rk k1
    clear hk' k0
    have hk : k < hs.length := by omega
    obtain ⟨z, hz, hv⟩ : ∃ z, Fits64 z ∧ ((m5 = 0 ∧ z = by_) ∨ (m5 = 1 ∧ z = 16384) ∨ (m5 = 2 ∧ z = 16385) ∨ (m5 = 3 ∧ z = -16384) ∨ (m5 = 4 ∧ z = -16385)) := by
      obtain rfl | rfl | rfl | rfl | rfl : m5 = 0 ∨ m5 = 1 ∨ m5 = 2 ∨ m5 = 3 ∨ m5 = 4 := by omega
      · exact ⟨_, fb, .inl ⟨rfl, rfl⟩⟩
      · exact ⟨_, by decide, .inr (.inl ⟨rfl, rfl⟩)⟩
      · exact ⟨_, by decide, .inr (.inr (.inl ⟨rfl, rfl⟩))⟩
      · exact ⟨_, by decide, .inr (.inr (.inr (.inl ⟨rfl, rfl⟩)))⟩
      · exact ⟨_, by decide, .inr (.inr (.inr (.inr ⟨rfl, rfl⟩)))⟩
    refine ⟨X, Y, S, C, R, hs.set k z, fX, fY, fS, fC, fR, ⟨by rw [List.length_set]; omega, fun n hn => by
      rcases List.mem_or_eq_of_mem_set hn with q | rfl
      · exact hi.2 n q
      · exact hz⟩, by rw [List.length_set]; omega, by rw [List.length_set]; omega, ?_⟩
    have st : (hs.map fun n => PV.i .i64 n).set k (.i .i64 z) = (hs.set k z).map fun n => PV.i .i64 n := List.map_set.symm
    have gr : group 1 hs.length ((hs.set k z).map fun n => PV.i .i64 n) = (hs.set k z).map fun n => PV.i .i64 n := group_one _ _ (by simp)
    have hI : PV.lst ((hs.set k z).map fun n => PV.i .i64 n) = ints (hs.set k z) := rfl
    have hn0 : (hs.length = 0) = False := eq_false (by omega)
    have hgt : ((hs.length : Int) > 0) = True := eq_true (by omega)
    have ls : (hs.set k z).length = hs.length := List.length_set
    have htk : ((hs.set k z).map fun n => PV.i .i64 n).take hs.length = (hs.set k z).map fun n => PV.i .i64 n := List.take_of_length_le (by simp)
    clear hz hl'
    rcases hv with ⟨rfl, rfl⟩ | ⟨rfl, rfl⟩ | ⟨rfl, rfl⟩ | ⟨rfl, rfl⟩ | ⟨rfl, rfl⟩ <;>
    ( refine pf_run (xf := x_r10_Spoilt) rfl (by simp [x_r10_Spoilt]) ?_
      simp only [x_r10_Spoilt]
      simp (disch := omega) only [go_sem, seval, wqa, wqb, wqc, wqd, wqe, r7, r4, r5, ap, rk, hgt, hk, st, gr, hI, hn0, htk, fz_ints_b, List.length_map, ls, fill_C, fillC_def] )
end Go.Eng
namespace Go.Eng
theorem ap_P (P : PM) (L : List PV) (w : PV) {i : Nat} (hl : L.length = i) (hi : i ≤ 100000) (h0 : 0 < i) : appP (P ++ [some ⟨L, true, 0⟩, some ⟨[w], true, 0⟩]) 1 8 (.sl P.length 0 i i 1) (.sl (P.length + 1) 0 1 1 1) =
    some (.sl (P.length + 2) 0 (i + 1) (i + 1) 1, P ++ [none, some ⟨[w], true, 0⟩, some ⟨L ++ [w], true, 0⟩]) := by
  have es : srcP (P ++ [some (⟨L, true, 0⟩ : PB), some (⟨[w], true, 0⟩ : PB)]) 1 (.sl (P.length + 1) 0 1 1 1) = some (1, [w]) := by
    simp only [srcP, PM.rd, mG]
    rfl
  have e2 : PM.blk (P ++ [some (⟨L, true, 0⟩ : PB), some (⟨[w], true, 0⟩ : PB)]) P.length = some (⟨L, true, 0⟩ : PB) := by rw [mG0]; rfl
  unfold appP
  rw [es]
  simp only [e2]
  rw [if_neg (by simp), if_neg (by decide), if_pos ⟨trivial, by rw [hl]; omega, by omega⟩, sG0]
  simp only [List.drop_zero, Nat.mul_one, List.set_cons_zero, List.append_assoc, List.cons_append, List.nil_append, List.length_append, List.length_cons, List.length_nil]
  rw [List.take_of_length_le (by omega)]
def Elt (z : FQ) (t : PV) : Prop := ∃ e : Int, pf E0 242 [t] = some (.i .i64 e) ∧ pf E0 14 [t] = some (.i .i64 e) ∧ (e = 0 ∨ ((e = 0) = False ∧ pf E0 10 [t, fqP z, fqP z] = some (.tu [fqP fq0, .i .i64 e]) ∧ pf E0 243 [t, fqP z, fqP z] = some (.tu [.i .i64 0, .i .i64 0, .i .i64 e]) ∧
    pf E0 3 [t, .i .i64 0, .i .i64 0] = some (.tu [arr4 0 0 0 0, .i .i64 e]) ∧ pf E0 244 [t, .ag [.b false, .lst [], .b false, .lst []], .ag [.b false, .lst [], .b false, .lst []]] = some (.tu [.i .i64 0, .i .i64 0, .i .i64 e]) ∧ pf E0 239 [t, .i .i64 0, .i .i64 0, .i .i64 0] = some (.tu [terP 0 0 0 0 0 [], .i .i64 e])))
theorem elt_ex (z : FQ) {X Y S C R : Int} {hs : List Int} (fX : Fits64 X) (fY : Fits64 Y) (fS : Fits64 S) (fC : Fits64 C) (fR : Fits64 R) (hi : Ints hs) : Elt z (terP X Y S C R hs) := by
  have v1 := p_rValidG fX fY fS fC fR hi
  have v2 := p_ValidG fX fY fS fC fR hi
  refine ⟨_, v1, v2, ?_⟩
  by_cases he : validV X Y S C R hs = 0
  · exact .inl he
  · exact .inr ⟨eq_false he, p_HeightE he v2 z z, p_Facet (p_findE he v2 z z), p_FormE he v2 0 0, p_RangeE he v2, p_RaiseE he v2 0 0 0⟩
def w7 (i : Nat) : List Int := (List.range i).map fun k => ((k % 7 : Nat) : Int)
theorem w7_succ (i : Nat) : (w7 (i + 1)).map (fun n => PV.i .i64 n) = (w7 i).map (fun n => PV.i .i64 n) ++ [.i .i64 ((i % 7 : Nat) : Int)] := by unfold w7; rw [List.range_succ, List.map_append, List.map_append]; rfl
theorem w7_len (i : Nat) : (w7 i).length = i := by unfold w7; simp
set_option maxHeartbeats 8000000 in
set_option maxRecDepth 40000 in
theorem p_TerrainValid {xs : List Int} (hx : Ints xs) {how by_ other cols : Int} (fh : Fits64 how) (fb : Fits64 by_) (fo : Fits64 other) (fc : Fits64 cols) : pf E0 230 [ints xs, .i .i64 how, .i .i64 by_, .i .i64 other, .i .i64 cols] = some (.b true) := by
  obtain ⟨X, Y, S, C, R, hs, t, hX, hY, hS, hC, hR, hh, ht⟩ := p_Terrain hx
  have tc := t.c
  have tr := t.r
  have ts := t.s
  have ti := t.ints
  have tl := t.len
  have CR : C * R ≤ 6 * 6 := Nat.mul_le_mul hC hR
  have CR4 : 2 * 2 ≤ C * R := Nat.mul_le_mul tc.1 tr.1
  have lv := p_lives10
  have f7 : Fits64 (how.tdiv 7) := by
    unfold Fits64 at fh ⊢
    have := Int.mul_tdiv_add_tmod how 7
    have a1 := Int.tmod_lt_of_pos how (show (0 : Int) < 7 by decide)
    have a2 := Int.lt_tmod_of_pos how (show (0 : Int) < 7 by decide)
    omega
  obtain ⟨X1, Y1, S1, C1, R1, h1, a1, a2, a3, a4, a5, a6, a7, a8, a9⟩ := p_Spoilt (X := X) (Y := Y) (S := S) (C := C) (R := R) (by unfold Fits64; omega) (by unfold Fits64; omega) (by unfold Fits64; omega) (by unfold Fits64; omega) (by unfold Fits64; omega) ti ⟨by omega, by omega⟩ fh fb
  obtain ⟨X2, Y2, S2, C2, R2, h2, b1, b2, b3, b4, b5, b6, b7, b8, b9⟩ := p_Spoilt a1 a2 a3 a4 a5 a6 ⟨a7, by omega⟩ f7 fo
  have rc := p_Around (n := cols) (m := 4) fc (by decide) (by decide)
  have c0 := aro_nonneg cols (m := 4) (by decide)
  have c1 := aro_lt cols (m := 4) (by decide)
  obtain ⟨c, hc⟩ : ∃ c : Nat, 126 + aro cols 4 = (c : Int) := ⟨(126 + aro cols 4).toNat, by omega⟩
  have hcb : 126 ≤ c ∧ c ≤ 129 := by omega
  generalize aro cols 4 = ca at *
  obtain ⟨z, zi, _, _, _, gz⟩ := p_of10 (n := 0) (d := 1) (by decide) (by decide) (by decide)
  have e0 := elt_ex z (X := X) (Y := Y) (S := S) (C := C) (R := R) (by unfold Fits64; omega) (by unfold Fits64; omega) (by unfold Fits64; omega) (by unfold Fits64; omega) (by unfold Fits64; omega) ti
  have e1 := elt_ex z a1 a2 a3 a4 a5 a6
  have e2 := elt_ex z b1 b2 b3 b4 b5 b6
  have e3 := elt_ex z (X := 0) (Y := 0) (S := 1) (C := c) (R := 2) (hs := w7 (2 * c)) (by decide) (by decide) (by decide) (by unfold Fits64; omega) (by decide) ⟨by rw [w7_len]; omega, fun n hn => by
    unfold w7 at hn
    obtain ⟨k, _, rfl⟩ := List.mem_map.1 hn
    unfold Fits64; omega⟩
  have sg := p_fSign fq0
  have sg0 : cmpI fq0.p.v 0 = 0 := rfl
  rw [sg0] at sg
  have ec : (2 : Int) * (c : Int) = ((2 * c : Nat) : Int) := by push_cast; rfl
  have hN2 : 2 * c ≤ 258 ∧ 0 < 2 * c := by omega
  generalize hN : 2 * c = N at *
  have hll := w7_len N
  have hne : (N = 0) = False := eq_false (by omega)
  have htk : ((w7 N).map fun n => PV.i .i64 n).take N = (w7 N).map fun n => PV.i .i64 n := List.take_of_length_le (by simp [hll])
  have gr : group 1 N ((w7 N).map fun n => PV.i .i64 n) = (w7 N).map fun n => PV.i .i64 n := group_one _ _ (by simp [hll])
  have hI : PV.lst ((w7 N).map fun n => PV.i .i64 n) = ints (w7 N) := rfl
  have hle : (N ≤ N) = True := eq_true (Nat.le_refl _)
  unfold Fits64 at fh f7
  refine pf_run (xf := x_l10_TerrainValid) rfl (by simp [x_l10_TerrainValid]) ?_
  simp only [x_l10_TerrainValid]
  simp (disch := omega) only [go_sem, seval, wqa, wqb, wqc, wqd, wqe, ht, a9, rc, hc]
  refine wk_roll x_l10_TerrainValid_l1.eq_1 ?_
  have q1 : ((0 : Int) < (N : Int)) = True := eq_true (by omega)
  have m07 : (0 : Int).tmod 7 = 0 := rfl
  have ap1 : ∀ (b0 b1 b2 : Option PB), appP [b0, b1, b2, some ⟨[PV.i .i64 0], true, 0⟩] 1 8 .nl (.sl 3 0 1 1 1) = some (.sl 4 0 1 1 1, [b0, b1, b2, some ⟨[PV.i .i64 0], true, 0⟩, some ⟨[PV.i .i64 0], true, 0⟩]) := fun b0 b1 b2 => rfl
  simp (disch := omega) only [go_sem, seval, wqa, wqb, wqc, wqd, wqe, ec, q1, m07, ap1]
  refine wk_ind x_l10_TerrainValid_l1.eq_1 (fun (i : Nat) fr M => 1 ≤ i ∧ i ≤ N ∧ fr 1 = .i .i64 how ∧ fr 3 = .i .i64 other ∧ fr 11 = .p 0 0 ∧ fr 12 = .p 1 0 ∧ fr 13 = .p 2 0 ∧ fr 14 = (PV.i .i64 ((i : Nat) : Int)) ∧ ∃ v G, M = some ⟨[.i .i64 X, .i .i64 Y, .i .i64 S, .i .i64 C, .i .i64 R, ints hs], true, 1⟩ :: some ⟨[.i .i64 X1, .i .i64 Y1, .i .i64 S1, .i .i64 C1, .i .i64 R1, ints h1], true, 1⟩ :: some ⟨[.i .i64 0, .i .i64 0, .i .i64 1, .i .i64 c, .i .i64 2, .sl (G.length + 3) 0 i i 1], true, v⟩ :: (G ++ [some ⟨(w7 i).map fun n => .i .i64 n, true, 0⟩]))
    (fun i => N - i) ?_ 1 ⟨by omega, by omega, by simp only [go_sem, seval], by simp only [go_sem, seval], by simp only [go_sem, seval], by simp only [go_sem, seval], by simp only [go_sem, seval], by simp only [go_sem, seval], _, [some ⟨[.i .i64 0], true, 0⟩], rfl⟩
  rintro i fr M ⟨hi1, hi, f1, f3, f11, f12, f13, f14, v, G, rfl⟩ ih
  by_cases hil : i < N
  · have q1 : ((i : Int) < (N : Int)) = True := eq_true (by omega)
    have m7 : (i : Int).tmod 7 = ((i % 7 : Nat) : Int) := nat_tmod _ 7
    have apx : ∀ b0 b1 b2 : Option PB, appP (b0 :: b1 :: b2 :: (G ++ [some ⟨(w7 i).map fun n => PV.i .i64 n, true, 0⟩, some ⟨[PV.i .i64 ((i % 7 : Nat) : Int)], true, 0⟩])) 1 8 (.sl (G.length + 3) 0 i i 1) (.sl (G.length + 4) 0 1 1 1) =
      some (.sl (G.length + 5) 0 (i + 1) (i + 1) 1, b0 :: b1 :: b2 :: (G ++ [none, some ⟨[PV.i .i64 ((i % 7 : Nat) : Int)], true, 0⟩, some ⟨(w7 (i + 1)).map fun n => PV.i .i64 n, true, 0⟩])) := fun b0 b1 b2 => by
      rw [w7_succ]
      exact ap_P (b0 :: b1 :: b2 :: G) ((w7 i).map fun n => PV.i .i64 n) (PV.i .i64 ((i % 7 : Nat) : Int)) (by simp [w7_len]) (by omega) (by omega)
    simp (disch := omega) only [go_sem, seval, wqa, wqb, wqc, wqd, wqe, f1, f3, f11, f12, f13, f14, ec, q1, m7, apx, mG, mG0, sG, sG0, lG, List.append_assoc, List.cons_append, List.nil_append]
    exact ih (i + 1) _ _ (by omega) ⟨by omega, by omega, by simp only [go_sem, seval, f1], by simp only [go_sem, seval, f3], by simp only [go_sem, seval, f11], by simp only [go_sem, seval, f12], by simp only [go_sem, seval, f13], by simp only [go_sem, seval]; rw [Int.natCast_succ], v + 1, G ++ [none, some ⟨[PV.i .i64 ((i % 7 : Nat) : Int)], true, 0⟩], by simp⟩
  · obtain rfl : i = N := by omega
    clear ih
    have q1 : ((i : Int) < (i : Int)) = False := eq_false (by omega)
    simp (disch := omega) only [go_sem, seval, wqa, wqb, wqc, wqd, wqe, f1, f3, f11, f12, f13, f14, ec, q1, mG, mG0, sG, sG0, lG, List.append_assoc, List.cons_append, List.nil_append]
    refine wk_calmX [11, 12, 13] rfl (by simp only [go_sem, seval, f11, f12, f13]) ?_
    simp (disch := omega) only [go_sem, seval, wqa, wqb, wqc, wqd, wqe, f1, f3, f11, f12, f13, f14, b9, mG, mG0, sG, sG0, lG, List.append_assoc, List.cons_append, List.nil_append, fill_C, fillC_def]
    refine wk_ind x_l10_TerrainValid_l2.eq_1 (fun (j : Nat) fr M => j ≤ 4 ∧ fr 15 = .sl (G.length + 4) 0 4 4 6 ∧ fr 16 = (PV.i .i64 ((j : Nat) : Int)) ∧ ∃ b0 b1 b2 rb G', M = b0 :: b1 :: b2 :: (G ++ (some ⟨(w7 i).map fun n => .i .i64 n, rb, 0⟩ ::
      some ⟨[.i .i64 X, .i .i64 Y, .i .i64 S, .i .i64 C, .i .i64 R, ints hs, .i .i64 X1, .i .i64 Y1, .i .i64 S1, .i .i64 C1, .i .i64 R1, ints h1, .i .i64 X2, .i .i64 Y2, .i .i64 S2, .i .i64 C2, .i .i64 R2, ints h2, .i .i64 0, .i .i64 0, .i .i64 1, .i .i64 c, .i .i64 2, .sl (G.length + 3) 0 i i 1], true, 0⟩ :: G')))
      (fun j => 4 - j) ?_ 0 ⟨by omega, by simp only [go_sem, seval], by simp only [go_sem, seval], _, _, _, _, [], rfl⟩
    rintro j fr M ⟨hj, f15, f16, b0, b1, b2, rb, G', rfl⟩ ih
    rcases Nat.lt_or_ge j 4 with hj4 | hj4
    · have q2 : ((j : Int) < 4) = True := eq_true (by omega)
      obtain rfl | rfl | rfl | rfl : j = 0 ∨ j = 1 ∨ j = 2 ∨ j = 3 := by omega
      · obtain ⟨e, k1, k2, rfl | ⟨k3, k4, k5, k6, k7, k8⟩⟩ := e0
        · simp (disch := omega) only [go_sem, seval, wqa, wqb, wqc, wqd, wqe, f15, f16, k1, k2, mG, mG0, sG, sG0, lG, List.append_assoc, List.cons_append, List.nil_append]
          exact ih 1 _ _ (by omega) ⟨by omega, by simp only [go_sem, seval, f15], by simp only [go_sem, seval], b0, b1, b2, _, G', rfl⟩
        · simp (disch := omega) only [go_sem, seval, wqa, wqb, wqc, wqd, wqe, f15, f16, k1, k2, k3, mG, mG0, sG, sG0, lG, List.append_assoc, List.cons_append, List.nil_append]
          refine wk_calmR [84] rfl ?_ ?_
          · simp (disch := omega) only [go_sem, seval, wqa, wqb, wqc, wqd, wqe, f15, f16, gz, k4, mG, mG0, sG, sG0, lG, List.append_assoc, List.cons_append, List.nil_append]
            exact ⟨_, rfl, rfl⟩
          simp (disch := omega) only [go_sem, seval, wqa, wqb, wqc, wqd, wqe, f15, f16, gz, k4, mG, mG0, sG, sG0, lG, List.append_assoc, List.cons_append, List.nil_append]
          refine wk_calmR [94] rfl ?_ ?_
          · simp (disch := omega) only [go_sem, seval, wqa, wqb, wqc, wqd, wqe, f15, f16, gz, k5, mG, mG0, sG, sG0, lG, List.append_assoc, List.cons_append, List.nil_append]
            exact ⟨_, rfl, rfl⟩
          simp (disch := omega) only [go_sem, seval, wqa, wqb, wqc, wqd, wqe, f15, f16, gz, k5, k6, k7, k8, sg, fill_C, fillC_def, mG, mG0, sG, sG0, lG, List.append_assoc, List.cons_append, List.nil_append]
          exact ih 1 _ _ (by omega) ⟨by omega, by simp only [go_sem, seval, f15], by simp only [go_sem, seval], b0, b1, b2, _, _, rfl⟩
      · obtain ⟨e, k1, k2, rfl | ⟨k3, k4, k5, k6, k7, k8⟩⟩ := e1
        · simp (disch := omega) only [go_sem, seval, wqa, wqb, wqc, wqd, wqe, f15, f16, k1, k2, mG, mG0, sG, sG0, lG, List.append_assoc, List.cons_append, List.nil_append]
          exact ih 2 _ _ (by omega) ⟨by omega, by simp only [go_sem, seval, f15], by simp only [go_sem, seval], b0, b1, b2, _, G', rfl⟩
        · simp (disch := omega) only [go_sem, seval, wqa, wqb, wqc, wqd, wqe, f15, f16, k1, k2, k3, mG, mG0, sG, sG0, lG, List.append_assoc, List.cons_append, List.nil_append]
          refine wk_calmR [84] rfl ?_ ?_
          · simp (disch := omega) only [go_sem, seval, wqa, wqb, wqc, wqd, wqe, f15, f16, gz, k4, mG, mG0, sG, sG0, lG, List.append_assoc, List.cons_append, List.nil_append]
            exact ⟨_, rfl, rfl⟩
          simp (disch := omega) only [go_sem, seval, wqa, wqb, wqc, wqd, wqe, f15, f16, gz, k4, mG, mG0, sG, sG0, lG, List.append_assoc, List.cons_append, List.nil_append]
          refine wk_calmR [94] rfl ?_ ?_
          · simp (disch := omega) only [go_sem, seval, wqa, wqb, wqc, wqd, wqe, f15, f16, gz, k5, mG, mG0, sG, sG0, lG, List.append_assoc, List.cons_append, List.nil_append]
            exact ⟨_, rfl, rfl⟩
          simp (disch := omega) only [go_sem, seval, wqa, wqb, wqc, wqd, wqe, f15, f16, gz, k5, k6, k7, k8, sg, fill_C, fillC_def, mG, mG0, sG, sG0, lG, List.append_assoc, List.cons_append, List.nil_append]
          exact ih 2 _ _ (by omega) ⟨by omega, by simp only [go_sem, seval, f15], by simp only [go_sem, seval], b0, b1, b2, _, _, rfl⟩
      · obtain ⟨e, k1, k2, rfl | ⟨k3, k4, k5, k6, k7, k8⟩⟩ := e2
        · simp (disch := omega) only [go_sem, seval, wqa, wqb, wqc, wqd, wqe, f15, f16, k1, k2, mG, mG0, sG, sG0, lG, List.append_assoc, List.cons_append, List.nil_append]
          exact ih 3 _ _ (by omega) ⟨by omega, by simp only [go_sem, seval, f15], by simp only [go_sem, seval], b0, b1, b2, _, G', rfl⟩
        · simp (disch := omega) only [go_sem, seval, wqa, wqb, wqc, wqd, wqe, f15, f16, k1, k2, k3, mG, mG0, sG, sG0, lG, List.append_assoc, List.cons_append, List.nil_append]
          refine wk_calmR [84] rfl ?_ ?_
          · simp (disch := omega) only [go_sem, seval, wqa, wqb, wqc, wqd, wqe, f15, f16, gz, k4, mG, mG0, sG, sG0, lG, List.append_assoc, List.cons_append, List.nil_append]
            exact ⟨_, rfl, rfl⟩
          simp (disch := omega) only [go_sem, seval, wqa, wqb, wqc, wqd, wqe, f15, f16, gz, k4, mG, mG0, sG, sG0, lG, List.append_assoc, List.cons_append, List.nil_append]
          refine wk_calmR [94] rfl ?_ ?_
          · simp (disch := omega) only [go_sem, seval, wqa, wqb, wqc, wqd, wqe, f15, f16, gz, k5, mG, mG0, sG, sG0, lG, List.append_assoc, List.cons_append, List.nil_append]
            exact ⟨_, rfl, rfl⟩
          simp (disch := omega) only [go_sem, seval, wqa, wqb, wqc, wqd, wqe, f15, f16, gz, k5, k6, k7, k8, sg, fill_C, fillC_def, mG, mG0, sG, sG0, lG, List.append_assoc, List.cons_append, List.nil_append]
          exact ih 3 _ _ (by omega) ⟨by omega, by simp only [go_sem, seval, f15], by simp only [go_sem, seval], b0, b1, b2, _, _, rfl⟩
      · obtain ⟨e, k1, k2, rfl | ⟨k3, k4, k5, k6, k7, k8⟩⟩ := e3
        · simp (disch := omega) only [go_sem, seval, wqa, wqb, wqc, wqd, wqe, f15, f16, k1, k2, hne, hll, hle, htk, gr, hI, fz_ints_b, List.length_map, mG, mG0, sG, sG0, lG, List.append_assoc, List.cons_append, List.nil_append]
          exact ih 4 _ _ (by omega) ⟨by omega, by simp only [go_sem, seval, f15], by simp only [go_sem, seval], b0, b1, b2, _, G', rfl⟩
        · simp (disch := omega) only [go_sem, seval, wqa, wqb, wqc, wqd, wqe, f15, f16, k1, k2, k3, hne, hll, hle, htk, gr, hI, fz_ints_b, List.length_map, mG, mG0, sG, sG0, lG, List.append_assoc, List.cons_append, List.nil_append]
          refine wk_calmR [84] rfl ?_ ?_
          · simp (disch := omega) only [go_sem, seval, wqa, wqb, wqc, wqd, wqe, f15, f16, gz, k4, hne, hll, hle, htk, gr, hI, fz_ints_b, List.length_map, mG, mG0, sG, sG0, lG, List.append_assoc, List.cons_append, List.nil_append]
            exact ⟨_, rfl, rfl⟩
          simp (disch := omega) only [go_sem, seval, wqa, wqb, wqc, wqd, wqe, f15, f16, gz, k4, hne, hll, hle, htk, gr, hI, fz_ints_b, List.length_map, mG, mG0, sG, sG0, lG, List.append_assoc, List.cons_append, List.nil_append]
          refine wk_calmR [94] rfl ?_ ?_
          · simp (disch := omega) only [go_sem, seval, wqa, wqb, wqc, wqd, wqe, f15, f16, gz, k5, hne, hll, hle, htk, gr, hI, fz_ints_b, List.length_map, mG, mG0, sG, sG0, lG, List.append_assoc, List.cons_append, List.nil_append]
            exact ⟨_, rfl, rfl⟩
          simp (disch := omega) only [go_sem, seval, wqa, wqb, wqc, wqd, wqe, f15, f16, gz, k5, k6, k7, k8, sg, hne, hll, hle, htk, gr, hI, fz_ints_b, List.length_map, fill_C, fillC_def, mG, mG0, sG, sG0, lG, List.append_assoc, List.cons_append, List.nil_append]
          exact ih 4 _ _ (by omega) ⟨by omega, by simp only [go_sem, seval, f15], by simp only [go_sem, seval], b0, b1, b2, _, _, rfl⟩
    · obtain rfl : j = 4 := by omega
      simp (disch := omega) only [go_sem, seval, wqa, wqb, wqc, wqd, wqe, f15, f16, lv]
end Go.Eng
