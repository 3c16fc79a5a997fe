/- The engine and the contracts on which the statement stands: no conditions of its own. -/
import Derived.Test.YthdnkdjofncncaaGreatDoorMine4
import Derived.Below
import Derived.Shelf.Strings.Repeat
import Derived.Shelf.Strings.Builder1
import Derived.Shelf.Strings.SlTrimAscii
import Derived.Shelf.Strings.Search2
import Derived.Shelf.Strconv.Atoi
import Derived.Shelf.Strconv.Itoa3
import Derived.Lib.AppendIntMem
import Derived.Lib.SmallJoins
import Derived.Lib.Case
import Derived.Lib.Join
import Derived.BigCall
import Derived.BigGuard
import Derived.KernelRfl
import Derived.Lib.LaidTab
import Derived.ProofKit
import Derived.OpenShut
set_option linter.unusedSimpArgs false
set_option linter.unusedVariables false
set_option linter.unusedSectionVars false
namespace Go.Eng
noncomputable def dgi (v : Nat) (z : Int) : Nat := if z < 0 then 0 else tdg v z.toNat
theorem dgi_lt (v : Nat) (z : Int) : dgi v z < 10000 := by unfold dgi; split; omega; exact tdg_lt _ _
theorem p_digits {v : Nat} {z : Int} (hz : Fits64 z) (hv : tlen v < 100000000) : pf E0 159 [T v, .i .i64 z] = some (PV.i .i64 ((dgi v z : Nat) : Int)) := by
  refine pf_run (xf := x_skymosaic_skymosaicref03_digits) rfl (by simp [x_skymosaic_skymosaicref03_digits]) ?_
  simp only [x_skymosaic_skymosaicref03_digits]
  unfold Fits64 at hz
  unfold dgi
  by_cases h : z < 0
  · rw [if_pos h]
    simp (disch := omega) only [go_sem, seval, wrap_i64, wrap_u64, wrap_u32, wrap_u8, wrap_i32, h, Int.natCast_zero]
  · rw [if_neg h]
    obtain ⟨i, rfl⟩ : ∃ i : Nat, z = i := ⟨z.toNat, by omega⟩
    rw [Int.toNat_natCast]
    by_cases h' : tlen v ≤ i
    · have q1 : ((i : Int) ≥ (tlen v : Int)) = True := by simp; omega
      rw [tdg_big (tlen_lt v) h']
      simp (disch := omega) only [go_sem, seval, wrap_i64, wrap_u64, wrap_u32, wrap_u8, wrap_i32, h, q1, Int.natCast_zero]
    · have q1 : ((i : Int) ≥ (tlen v : Int)) = False := by simp; omega
      have e : T v = Tw (tlen v) v := rfl
      simp (disch := omega) only [go_sem, seval, wrap_i64, wrap_u64, wrap_u32, wrap_u8, wrap_i32, h, q1, e, idxP_Tw]
theorem low_eq {b k : Nat} (hk : 0 < k) (hb : b < 10000 ^ k) : 10000 * tdg b (k - 1) + dgi b ((k : Int) - 2) = 10000 * b / 10000 ^ (k - 1) := by
  obtain ⟨j, rfl⟩ : ∃ j, k = j + 1 := ⟨k - 1, by omega⟩
  have e0 : tdg b j = b / 10000 ^ j := by
    rw [tdg_def, Nat.mod_eq_of_lt]
    rw [Nat.pow_succ] at hb
    exact Nat.div_lt_of_lt_mul hb
  have e1 : j + 1 - 1 = j := by omega
  rw [e1]
  cases j with
  | zero =>
    have : dgi b (((0 + 1 : Nat) : Int) - 2) = 0 := by unfold dgi; rw [if_pos (by omega)]
    rw [this, e0]; simp
  | succ j =>
    have e2 : dgi b (((j + 1 + 1 : Nat) : Int) - 2) = tdg b j := by
      unfold dgi
      rw [if_neg (by omega)]
      congr 1; omega
    rw [e2, e0, Nat.pow_succ, ← Nat.div_div_eq_div_mul, tdg_def, Nat.mul_comm (10000 ^ j) 10000, Nat.mul_div_mul_left _ _ (by decide : 0 < 10000)]
    omega
theorem upp_eq {R k : Nat} (hk : 0 < k) (hR : R < 10000 ^ (k + 1)) : 10000 * (10000 * tdg R k + tdg R (k - 1)) + dgi R ((k : Int) - 2) = 10000 * R / 10000 ^ (k - 1) := by
  obtain ⟨j, rfl⟩ : ∃ j, k = j + 1 := ⟨k - 1, by omega⟩
  have e0 : 10000 * tdg R (j + 1) + tdg R j = R / 10000 ^ j := by
    have h1 : tdg R (j + 1) = R / 10000 ^ j / 10000 := by
      rw [tdg_def, Nat.mod_eq_of_lt, pow_div_succ]
      rw [Nat.pow_succ] at hR
      exact Nat.div_lt_of_lt_mul hR
    rw [h1, tdg_def]; omega
  have e1 : j + 1 - 1 = j := by omega
  rw [e1, e0]
  cases j with
  | zero =>
    have : dgi R (((0 + 1 : Nat) : Int) - 2) = 0 := by unfold dgi; rw [if_pos (by omega)]
    rw [this]; simp
  | succ j =>
    have e2 : dgi R (((j + 1 + 1 : Nat) : Int) - 2) = tdg R j := by
      unfold dgi
      rw [if_neg (by omega)]
      congr 1; omega
    rw [e2, Nat.pow_succ, ← Nat.div_div_eq_div_mul, tdg_def, Nat.mul_comm (10000 ^ j) 10000, Nat.mul_div_mul_left _ _ (by decide : 0 < 10000)]
    omega
theorem est {R b p : Nat} (hp : 0 < p) (hb : p ≤ b) : 10000 * R / p / (10000 * b / p + 1) ≤ R / b ∧ R / b ≤ 10000 * R / p / (10000 * b / p) := by
  have hb0 : 0 < b := Nat.lt_of_lt_of_le hp hb
  have u1 := Nat.div_mul_le_self (10000 * R) p
  have u2 := Nat.lt_div_mul_add hp (a := 10000 * R)
  have l1 := Nat.div_mul_le_self (10000 * b) p
  have l2 := Nat.lt_div_mul_add hp (a := 10000 * b)
  have l3 : 0 < 10000 * b / p := Nat.div_pos (by omega) hp
  generalize 10000 * R / p = U at *
  generalize 10000 * b / p = L at *
  constructor
  · rw [Nat.le_div_iff_mul_le hb0]
    have h1 := Nat.div_mul_le_self U (L + 1)
    generalize U / (L + 1) = l at *
    have h2 : l * (L + 1) * p ≤ U * p := Nat.mul_le_mul_right _ h1
    have h3 : l * (10000 * b) ≤ l * (L * p + p) := Nat.mul_le_mul_left _ (by omega)
    have h4 : l * (L * p + p) = l * (L + 1) * p := by grind
    have h5 : l * (10000 * b) = 10000 * (l * b) := by grind
    omega
  · rw [Nat.le_div_iff_mul_le l3]
    have h1 := Nat.div_mul_le_self R b
    generalize R / b = q at *
    have h2 : q * (L * p) ≤ q * (10000 * b) := Nat.mul_le_mul_left _ l1
    have h5 : q * (10000 * b) = 10000 * (q * b) := by grind
    have h6 : q * (L * p) = q * L * p := by grind
    have h7 : q * L * p < (U + 1) * p := by rw [Nat.add_mul]; omega
    have := Nat.lt_of_mul_lt_mul_right h7
    omega
theorem p_digit {R b : Nat} (hb : b ≠ 0) (hR : R < 10000 * b) (lb : tlen b < 10000000) :
    ∃ lo hi : Nat, pf E0 148 [T R, T b] = some (.tu [(PV.i .i64 ((lo : Nat) : Int)), (PV.i .i64 ((hi : Nat) : Int))]) ∧ lo ≤ R / b ∧ R / b ≤ hi ∧ hi ≤ 9999 ∧ lo ≤ hi := by
  have hk := tlen_pos hb
  have hb1 := tlen_lt b
  have hR1 : R < 10000 ^ (tlen b + 1) := by rw [Nat.pow_succ]; omega
  have lR : tlen R ≤ tlen b + 1 := tlen_small hR1
  by_cases hlt : tlen R < tlen b
  · refine ⟨0, 0, ?_, Nat.zero_le _, ?_, by omega, by omega⟩
    · refine pf_run (xf := x_skymosaic_skymosaicref03_digit) rfl (by simp [x_skymosaic_skymosaicref03_digit]) ?_
      simp only [x_skymosaic_skymosaicref03_digit]
      have q1 : ((tlen R : Int) < (tlen b : Int)) = True := by simp; omega
      simp (disch := omega) only [go_sem, seval, wrap_i64, wrap_u64, wrap_u32, wrap_u8, wrap_i32, q1, Int.natCast_zero]
    · have : R < b := by
        rcases Nat.lt_or_ge R b with q | q
        · exact q
        · have := tlen_mono q; omega
      exact Nat.le_of_eq (Nat.div_eq_of_lt this)
  · have hpb : 10000 ^ (tlen b - 1) ≤ b := by
      rcases Nat.lt_or_ge b (10000 ^ (tlen b - 1)) with q | q
      · have := tlen_small q; omega
      · exact q
    obtain ⟨m1, m2⟩ := est (R := R) (Tpos (tlen b - 1)) hpb
    rw [← low_eq hk hb1, ← upp_eq hk hR1] at m1 m2
    have hq : R / b < 10000 := Nat.div_lt_of_lt_mul (by omega)
    have hL : 0 < 10000 * tdg b (tlen b - 1) + dgi b ((tlen b : Int) - 2) := by
      rw [low_eq hk hb1]
      exact Nat.div_pos (by omega) (Tpos _)
    have dR : ∀ z, Fits64 z → pf E0 159 [T R, .i .i64 z] = some (PV.i .i64 ((dgi R z : Nat) : Int)) := fun z hz => p_digits hz (by omega)
    have db : ∀ z, Fits64 z → pf E0 159 [T b, .i .i64 z] = some (PV.i .i64 ((dgi b z : Nat) : Int)) := fun z hz => p_digits hz (by omega)
    have e1 : dgi R (tlen b : Int) = tdg R (tlen b) := by unfold dgi; rw [if_neg (by omega), Int.toNat_natCast]
    have e2 : dgi R ((tlen b : Int) - 1) = tdg R (tlen b - 1) := by unfold dgi; rw [if_neg (by omega)]; congr 1; omega
    have e3 : dgi b ((tlen b : Int) - 1) = tdg b (tlen b - 1) := by unfold dgi; rw [if_neg (by omega)]; congr 1; omega
    have r1 := dR (tlen b : Int) (by unfold Fits64; omega)
    have r2 := dR ((tlen b : Int) - 1) (by unfold Fits64; omega)
    have r3 := dR ((tlen b : Int) - 2) (by unfold Fits64; omega)
    have r4 := db ((tlen b : Int) - 1) (by unfold Fits64; omega)
    have r5 := db ((tlen b : Int) - 2) (by unfold Fits64; omega)
    rw [e1] at r1
    rw [e2] at r2
    rw [e3] at r4
    have t1 := tdg_lt R (tlen b)
    have t2 := tdg_lt R (tlen b - 1)
    have t3 := dgi_lt R ((tlen b : Int) - 2)
    have t4 := tdg_lt b (tlen b - 1)
    have t5 := dgi_lt b ((tlen b : Int) - 2)
    generalize tdg R (tlen b) = x1 at *
    generalize tdg R (tlen b - 1) = x2 at *
    generalize dgi R ((tlen b : Int) - 2) = x3 at *
    generalize tdg b (tlen b - 1) = y1 at *
    generalize dgi b ((tlen b : Int) - 2) = y2 at *
    have hU : 10000 * (10000 * (x1 : Int) + (x2 : Int)) + (x3 : Int) = ((10000 * (10000 * x1 + x2) + x3 : Nat) : Int) := by omega
    have hLc : 10000 * (y1 : Int) + (y2 : Int) = ((10000 * y1 + y2 : Nat) : Int) := by omega
    have uB : 10000 * (10000 * x1 + x2) + x3 < 1000000000000 := by omega
    have lB : 10000 * y1 + y2 < 100000000 := by omega
    generalize 10000 * (10000 * x1 + x2) + x3 = U at *
    generalize 10000 * y1 + y2 = L at *
    have f1 : (U : Int).tdiv ((L : Int) + 1) = ((U / (L + 1) : Nat) : Int) := nat_tdiv U (L + 1)
    have f2 : (U : Int).tdiv (L : Int) = ((U / L : Nat) : Int) := nat_tdiv U L
    have b1 : U / (L + 1) ≤ U := Nat.div_le_self _ _
    have b2 : U / L ≤ U := Nat.div_le_self _ _
    generalize U / (L + 1) = lo at *
    generalize U / L = hi at *
    refine ⟨min 9999 lo, min 9999 hi, ?_, by omega, by omega, by omega, by omega⟩
    have g1 : (if (lo : Int) < 9999 then (lo : Int) else 9999) = ((min 9999 lo : Nat) : Int) := by split <;> omega
    have g2 : (if (hi : Int) < 9999 then (hi : Int) else 9999) = ((min 9999 hi : Nat) : Int) := by split <;> omega
    have z1 : ((L : Int) = 0) = False := by simp; omega
    have z2 : ((L : Int) + 1 = 0) = False := by simp; omega
    refine pf_run (xf := x_skymosaic_skymosaicref03_digit) rfl (by simp [x_skymosaic_skymosaicref03_digit]) ?_
    simp only [x_skymosaic_skymosaicref03_digit]
    have q1 : ((tlen R : Int) < (tlen b : Int)) = False := by simp; omega
    have q2 : ((tlen b : Int) = 0) = False := by simp; omega
    simp (disch := omega) only [go_sem, seval, wrap_i64, wrap_u64, wrap_u32, wrap_u8, wrap_i32, q1, q2, r1, r2, r3, r4, r5, hU, hLc, f1, f2, g1, g2, z1, z2]
end Go.Eng
namespace Go.Eng
theorem div_step4 (a w i : Nat) (hw0 : 0 < w) : (a / 10000 ^ (i + 1) % w * 10000 + tdg a i) % w = a / 10000 ^ i % w ∧ (a / 10000 ^ (i + 1) % w * 10000 + tdg a i) / w = tdg (a / w) i := by
  have e : a / 10000 ^ i = a / 10000 ^ (i + 1) * 10000 + tdg a i := by
    rw [pow_div_succ, tdg_def]; omega
  have e2 : tdg (a / w) i = a / 10000 ^ i / w % 10000 := by
    rw [tdg_def, Nat.div_div_eq_div_mul, Nat.div_div_eq_div_mul, Nat.mul_comm]
  rw [e2, e]
  have hd := tdg_lt a i
  generalize tdg a i = d at *
  generalize a / 10000 ^ (i + 1) = z at *
  have h1 := Nat.mod_add_div z w
  generalize hr : z % w = r at *
  have hrw : r < w := by rw [← hr]; exact Nat.mod_lt _ hw0
  generalize z / w = q at *
  subst h1
  have e3 : (r + w * q) * 10000 + d = r * 10000 + d + w * (q * 10000) := by grind
  rw [e3, Nat.add_mul_mod_self_left, Nat.add_mul_div_left _ _ hw0]
  have : (r * 10000 + d) / w < 10000 := by
    rw [Nat.div_lt_iff_lt_mul hw0]
    have : r * 10000 + 10000 ≤ w * 10000 := by rw [← Nat.succ_mul]; exact Nat.mul_le_mul_right _ hrw
    omega
  exact ⟨rfl, by rw [Nat.add_mul_mod_self_right, Nat.mod_eq_of_lt this]⟩
theorem cmp_le {x y : Nat} : (cmpI (x : Int) (y : Int) ≤ 0) = (x ≤ y) := by
  unfold cmpI
  apply propext
  constructor
  · intro h
    split at h
    · omega
    · split at h <;> omega
  · intro h
    split
    · omega
    · split <;> omega
theorem bin_loop {F : PFin} {ks : List KI} {R b : Nat} (hb : b ≠ 0) (lb : tlen b < 10000000) (lR : tlen R < 100000000) {lo hi : Nat} {fr : PFr} {M : PM} {A0 A6 A10 : PV} (h0 : fr 0 = A0) (h1 : fr 1 = T b) (h6 : fr 6 = A6) (h9 : fr 9 = T R) (h10 : fr 10 = A10) (h12 : fr 12 = (PV.i .i64 ((lo : Nat) : Int))) (h13 : fr 13 = (PV.i .i64 ((hi : Nat) : Int)))
    (hlo : lo ≤ R / b) (hhi : R / b ≤ hi) (hh : hi ≤ 9999)
    (cont : ∀ fr', fr' 0 = A0 → fr' 1 = T b → fr' 6 = A6 → fr' 9 = T R → fr' 10 = A10 → fr' 12 = (PV.i .i64 ((R / b : Nat) : Int)) → UK E0 F (.exit 2) ks fr' M) : WK E0 F (.loop x_skymosaic_skymosaicref03_divided_l2) ks fr M := by
  refine wk_ind x_skymosaic_skymosaicref03_divided_l2.eq_1 (fun (p : Nat × Nat) fr M' => p.1 ≤ R / b ∧ R / b ≤ p.2 ∧ p.2 ≤ 9999 ∧ fr 0 = A0 ∧ fr 1 = T b ∧ fr 6 = A6 ∧ fr 9 = T R ∧ fr 10 = A10 ∧ fr 12 = (PV.i .i64 ((p.1 : Nat) : Int)) ∧ fr 13 = (PV.i .i64 ((p.2 : Nat) : Int)) ∧ M' = M) (fun p => p.2 - p.1) ?_ (lo, hi) ⟨hlo, hhi, hh, h0, h1, h6, h9, h10, h12, h13, rfl⟩
  rintro ⟨lo, hi⟩ fr M' ⟨hlo, hhi, hh, h0, h1, h6, h9, h10, h12, h13, rfl⟩ ih
  simp only at hlo hhi hh h12 h13
  by_cases hlt : lo < hi
  · have q1 : ((lo : Int) < (hi : Int)) = True := by simp; omega
    have e1 : (lo : Int) + (hi : Int) + 1 = ((lo + hi + 1 : Nat) : Int) := by omega
    have e2 : ((lo + hi + 1 : Nat) : Int).tdiv 2 = (((lo + hi + 1) / 2 : Nat) : Int) := nat_tdiv _ 2
    have m1 : lo < (lo + hi + 1) / 2 := by omega
    have m2 : (lo + hi + 1) / 2 ≤ hi := by omega
    generalize (lo + hi + 1) / 2 = mid at *
    have hs := p_rsmall (k := mid) (tlen_lt b) (by omega) (by omega)
    have lbm : tlen (b * mid) ≤ tlen b + 1 := tlen_small (by rw [Nat.pow_succ]; exact Nat.mul_lt_mul'' (tlen_lt b) (by omega))
    have hcm := p_compared (b * mid) R (by omega) (by omega)
    have hcl : (cmpI ((b * mid : Nat) : Int) (R : Int) ≤ 0) = (mid ≤ R / b) := by
      rw [cmp_le, Nat.le_div_iff_mul_le (Nat.pos_of_ne_zero hb), Nat.mul_comm]
    by_cases hm : mid ≤ R / b
    · have q2 : (cmpI ((b * mid : Nat) : Int) (R : Int) ≤ 0) = True := by rw [hcl]; simp [hm]
      simp (disch := omega) only [go_sem, seval, wrap_i64, wrap_u64, wrap_u32, wrap_u8, wrap_i32, h0, h1, h6, h9, h10, h12, h13, q1, e1, e2, hs, hcm, q2]
      exact ih (mid, hi) _ _ (by simp only; omega) ⟨hm, hhi, hh, by simp only [go_sem, seval, h0], by simp only [go_sem, seval, h1], by simp only [go_sem, seval, h6], by simp only [go_sem, seval, h9], by simp only [go_sem, seval, h10], by simp only [go_sem, seval], by simp only [go_sem, seval, h13], rfl⟩
    · have q2 : (cmpI ((b * mid : Nat) : Int) (R : Int) ≤ 0) = False := by rw [hcl]; simp [hm]
      simp (disch := omega) only [go_sem, seval, wrap_i64, wrap_u64, wrap_u32, wrap_u8, wrap_i32, h0, h1, h6, h9, h10, h12, h13, q1, e1, e2, hs, hcm, q2]
      exact ih (lo, mid - 1) _ _ (by simp only; omega) ⟨hlo, by simp only; omega, by simp only; omega, by simp only [go_sem, seval, h0], by simp only [go_sem, seval, h1], by simp only [go_sem, seval, h6], by simp only [go_sem, seval, h9], by simp only [go_sem, seval, h10], by simp only [go_sem, seval, h12], by simp only [go_sem, seval]; congr 1; omega, rfl⟩
  · have q1 : ((lo : Int) < (hi : Int)) = False := by simp; omega
    have : lo = R / b := by omega
    simp (disch := omega) only [go_sem, seval, wrap_i64, wrap_u64, wrap_u32, wrap_u8, wrap_i32, h12, h13, q1]
    exact cont _ (by simp only [go_sem, seval, h0]) (by simp only [go_sem, seval, h1]) (by simp only [go_sem, seval, h6]) (by simp only [go_sem, seval, h9]) (by simp only [go_sem, seval, h10]) (by simp only [go_sem, seval, h12, this])
theorem app_digits {M : PM} {r d : Nat} (hd : d < 10000) (hr : tlen r < 1000000000) :
    ∃ v' M', appP (M ++ [some (⟨[(PV.i .i64 ((d : Nat) : Int))], true, 0⟩ : PB)]) 1 8 (.sl M.length 0 1 1 1) (T r) = some (v', M') ∧ Grows M' v' (tab (tlen r + 1) fun k => (PV.i .i64 ((tdg (r * 10000 + d) k : Nat) : Int))) ∧ (∀ j b, PM.blk M j = some b → PM.blk M' j = some b ∧ NotIn v' j) := by
  have hsrc : srcP (M ++ [some (⟨[(PV.i .i64 ((d : Nat) : Int))], true, 0⟩ : PB)]) 1 (T r) = some (tlen r, tab (tlen r) fun k => (PV.i .i64 ((tdg r k : Nat) : Int))) := by
    show (if ez 1 _ = true then some (_, flat _) else none) = _
    rw [ez_tab, if_pos rfl, flat_tab, tab_length]
  have hcons : (PV.i .i64 ((d : Nat) : Int)) :: (tab (tlen r) fun k => (PV.i .i64 ((tdg r k : Nat) : Int))) = tab (tlen r + 1) fun k => (PV.i .i64 ((tdg (r * 10000 + d) k : Nat) : Int)) := by
    apply List.ext_getElem?
    intro k
    cases k with
    | zero =>
      rw [tab_lt (by omega), tdg_def]
      simp; omega
    | succ k =>
      rw [List.getElem?_cons_succ, tab_get, tab_get]
      have : tdg (r * 10000 + d) (k + 1) = tdg r k := by
        rw [tdg_succ]; congr 1; omega
      by_cases h : k < tlen r
      · rw [if_pos h, if_pos (by omega), this]
      · rw [if_neg h, if_neg (by omega)]
  by_cases h0 : tlen r = 0
  · refine ⟨.sl M.length 0 1 1 1, M ++ [some (⟨[(PV.i .i64 ((d : Nat) : Int))], true, 0⟩ : PB)], ?_, .inr ⟨M.length, 0, ?_, ?_⟩, fun j b hj => ⟨blk_old hj _, ?_⟩⟩
    · simp only [appP, hsrc]; simp [h0]
    · rw [h0]; rfl
    · rw [blk_app, ← hcons, h0]; rfl
    · have := blk_lt hj; simp [NotIn]; omega
  · refine ⟨.sl (M.length + 1) 0 (1 + tlen r) (1 + tlen r) 1, (M ++ [some (⟨[(PV.i .i64 ((d : Nat) : Int))], true, 0⟩ : PB)]).set M.length none ++ [some (⟨tab (tlen r + 1) fun k => (PV.i .i64 ((tdg (r * 10000 + d) k : Nat) : Int)), true, 0⟩ : PB)], ?_, .inr ⟨M.length + 1, 0, ?_, ?_⟩, fun j b hj => ⟨?_, ?_⟩⟩
    · simp only [appP, hsrc, blk_app]
      rw [← hcons]
      simp [h0]
      omega
    · rw [tab_length, Nat.add_comm 1 (tlen r)]
    · have := blk_app ((M ++ [some (⟨[(PV.i .i64 ((d : Nat) : Int))], true, 0⟩ : PB)]).set M.length none) (some (⟨tab (tlen r + 1) fun k => (PV.i .i64 ((tdg (r * 10000 + d) k : Nat) : Int)), true, 0⟩ : PB))
      simpa using this
    · have hlt := blk_lt hj
      rw [set_app]
      exact blk_old (blk_old hj _) _
    · have := blk_lt hj; simp [NotIn]; omega
theorem slP_drop (n v f : Nat) (h : f ≤ n) : slP 1 (Tw n v) (some (.i .i64 (f : Int))) none none = some (Tw (n - f) (v / 10000 ^ f)) := by
  have hz : ez 1 (tab n fun k => (PV.i .i64 ((tdg v k : Nat) : Int))) = true := ez_tab n .i64 _
  have hd : ∀ k, tdg v (f + k) = tdg (v / 10000 ^ f) k := fun k => by rw [tdg_def, tdg_def, Nat.div_div_eq_div_mul, Nat.pow_add]
  simp only [slP, Tw, Option.isSome_none, Bool.false_eq_true, if_false, optP, asNP_nat, hz, tab_length]
  rw [if_pos ⟨h, Nat.le_refl _, trivial⟩, tab_take _ _ _ (Nat.le_refl _), tab_drop]
  simp only [hd]
theorem first_lt {a b : Nat} (hb : b ≠ 0) : a / 10000 ^ (tlen a + 1 - tlen b) < b := by
  have hk := tlen_pos hb
  have hpb : 10000 ^ (tlen b - 1) ≤ b := by
    rcases Nat.lt_or_ge b (10000 ^ (tlen b - 1)) with q | q
    · have := tlen_small q; omega
    · exact q
  have h1 : a < 10000 ^ (tlen a + 1 - tlen b) * 10000 ^ (tlen b - 1) := by
    rw [← Nat.pow_add]
    exact Nat.lt_of_lt_of_le (tlen_lt a) (Nat.pow_le_pow_right (by decide) (by omega))
  exact Nat.lt_of_lt_of_le (Nat.div_lt_of_lt_mul h1) hpb
theorem p_divided1 {a b : Nat} (ha : a ≠ 0) (hb : b ≠ 0) (la : tlen a < 1000000) (lb : tlen b < 1000000) : pf E0 136 [T a, T b] = some (.tu [Tw (tlen a) (a / b), T (a % b)]) := by
  refine pf_run (xf := x_skymosaic_skymosaicref03_divided) rfl (by simp [x_skymosaic_skymosaicref03_divided]) ?_
  simp only [x_skymosaic_skymosaicref03_divided]
  have hn := tlen_pos ha
  have hk := tlen_pos hb
  have hfl := first_lt (a := a) hb
  have hf : (if ((if (tlen a : Int) - (tlen b : Int) + 1 < (tlen a : Int) then (tlen a : Int) - (tlen b : Int) + 1 else (tlen a : Int))) > 0 then (if (tlen a : Int) - (tlen b : Int) + 1 < (tlen a : Int) then (tlen a : Int) - (tlen b : Int) + 1 else (tlen a : Int)) else 0) = ((tlen a + 1 - tlen b : Nat) : Int) := by
    split <;> split <;> omega
  have hfn : tlen a + 1 - tlen b ≤ tlen a := by omega
  have hbp : 0 < b := Nat.pos_of_ne_zero hb
  generalize tlen a + 1 - tlen b = f at *
  have eT : T a = Tw (tlen a) a := rfl
  have hs := slP_drop (tlen a) a f hfn
  rw [← eT] at hs
  have hlt2 : a / 10000 ^ f < 10000 ^ (tlen a - f) := by
    apply Nat.div_lt_of_lt_mul
    rw [← Nat.pow_add, show f + (tlen a - f) = tlen a by omega]; exact tlen_lt a
  have hno := p_rnormal false (tlen a - f) (a / 10000 ^ f) hlt2 (by omega)
  have e1 : ∀ v : Nat, sgn false v = (v : Int) := fun v => rfl
  rw [e1] at hno
  have cN : ∀ v : Nat, (nP (v : Int)).cells = [.b false, T v] := fun v => by
    show [PV.b (decide ((v : Int) < 0)), T (v : Int).natAbs] = _
    rw [Int.natAbs_natCast]
    have : decide ((v : Int) < 0) = false := by simp
    rw [this]
  have lq : tlen (a / b) ≤ tlen a := tlen_mono (Nat.div_le_self _ _)
  simp (disch := omega) only [go_sem, seval, wrap_i64, wrap_u64, wrap_u32, wrap_u8, wrap_i32, mslP_i, hf, hs, hno, cN]
  refine wk_ind x_skymosaic_skymosaicref03_divided_l1.eq_1 (fun (i : Nat) fr M => i ≤ f ∧ fr 0 = T a ∧ fr 1 = T b ∧ fr 6 = .sl 0 0 (tlen a) (tlen a) 1 ∧ fr 9 = T (a / 10000 ^ i % b) ∧ fr 10 = .i .i64 ((i : Int) - 1) ∧
    ∃ e, PM.blk M 0 = some ⟨tab (tlen a) fun j => (PV.i .i64 ((if i ≤ j then tdg (a / b) j else 0 : Nat) : Int)), true, e⟩) id ?_ f ⟨Nat.le_refl _, by simp only [go_sem, seval], by simp only [go_sem, seval], by simp only [go_sem, seval], by simp only [go_sem, seval]; rw [Nat.mod_eq_of_lt hfl], by simp only [go_sem, seval], 0, ?_⟩
  · rintro i fr M ⟨hi, h0, h1, h6, h9, h10, e, hb0⟩ ih
    by_cases hi0 : i = 0
    · subst hi0
      rw [Nat.pow_zero, Nat.div_one] at h9
      simp only [Nat.zero_le, if_true] at hb0
      have hz : (tlen a = 0) = False := by simp; omega
      simp (disch := omega) only [go_sem, seval, wrap_i64, wrap_u64, wrap_u32, wrap_u8, wrap_i32, h0, h1, h6, h9, h10, Int.natCast_zero, Int.zero_sub, Int.reduceNeg, Int.reduceLE, ge_iff_le, hb0, hz]
    · obtain ⟨m, rfl⟩ : ∃ m, i = m + 1 := ⟨i - 1, by omega⟩
      have q1 : (((m + 1 : Nat) : Int) - 1 ≥ 0) = True := by simp
      have q2 : (((m + 1 : Nat) : Int) - 1) = (m : Int) := by omega
      obtain ⟨s1, s2⟩ := div_step4 a b m hbp
      have hr : a / 10000 ^ (m + 1) % b < b := Nat.mod_lt _ hbp
      have lr : tlen (a / 10000 ^ (m + 1) % b) ≤ tlen b := tlen_mono (Nat.le_of_lt hr)
      generalize a / 10000 ^ (m + 1) % b = r at *
      have hd := tdg_lt a m
      obtain ⟨v', M1, he, hg, hk1⟩ := app_digits (M := M) (r := r) (d := tdg a m) hd (by omega)
      obtain ⟨ns, f1, f2⟩ := fz_grows hg
      obtain ⟨k1, k2⟩ := hk1 0 _ hb0
      have hb2 := f2 0 _ k1 k2
      have hR : r * 10000 + tdg a m < 10000 * b := by omega
      have hRl : r * 10000 + tdg a m < 10000 ^ (tlen r + 1) := by
        have := tlen_lt r
        rw [Nat.pow_succ]; omega
      have lR := tlen_small hRl
      have hno := p_rnormal false (tlen r + 1) (r * 10000 + tdg a m) hRl (by omega)
      rw [e1] at hno
      obtain ⟨lo, hi', hdg, d1, d2, d3, d4⟩ := p_digit hb hR (by omega)
      generalize r * 10000 + tdg a m = R at *
      simp (disch := omega) only [go_sem, seval, wrap_i64, wrap_u64, wrap_u32, wrap_u8, wrap_i32, h0, h1, h6, h9, h10, q1, q2, eT, idxP_Tw, he, f1, hno, cN, blk_app, set_app, hdg]
      refine bin_loop (R := R) hb (by omega) (by omega) (A0 := T a) (A6 := .sl 0 0 (tlen a) (tlen a) 1) (A10 := .i .i64 (m : Int)) (by simp only [go_sem, seval, h0]) (by simp only [go_sem, seval, h1]) (by simp only [go_sem, seval, h6]) (by simp only [go_sem, seval]) (by simp only [go_sem, seval, h10, q2]) (by simp only [go_sem, seval]) (by simp only [go_sem, seval]) d1 d2 d3 fun fr' g0 g1 g6 g9 g10 g12 => ?_
      have hq9 : R / b < 10000 := by omega
      have hsm := p_rsmall (k := R / b) (tlen_lt b) (by omega) hq9
      have hml : b * (R / b) ≤ R := Nat.mul_div_le R b
      have lml := tlen_mono hml
      have hmi := p_minus (a := R) (b := b * (R / b)) (s := R % b) (n := tlen R) (m := tlen (b * (R / b))) (Nat.mod_add_div R b).symm (tlen_lt R) (tlen_lt _) (by omega) (by omega)
      have hno2 := p_rnormal false (tlen R) (R % b) (Nat.lt_of_le_of_lt (Nat.mod_le R b) (tlen_lt R)) (by omega)
      rw [e1] at hno2
      have eR : T R = Tw (tlen R) R := rfl
      have hb3 : ∀ c c2 : Option PB, PM.blk (roM M1 ns ++ [c] ++ [c2]) 0 = _ := fun c c2 => blk_old (blk_old hb2 c) c2
      have hb4 : ∀ (c c2 z : Option PB), PM.blk (List.set (roM M1 ns ++ [c] ++ [c2]) 0 z) (List.length (roM M1 ns ++ [c])) = c2 := fun c c2 z => by
        rw [blk_setN (by simp), blk_app]
      have hma : m < tlen a := by omega
      simp (disch := omega) only [go_sem, seval, wrap_i64, wrap_u64, wrap_u32, wrap_u8, wrap_i32, g0, g1, g6, g9, g10, g12, hsm, hmi, hno2, cN, blk_app, set_app, hb3, hb4, hma, tab_set]
      refine ih m _ _ (by simp only [id]; omega) ⟨by omega, by simp only [go_sem, seval, g0], by simp only [go_sem, seval, g1], by simp only [go_sem, seval, g6], by simp only [go_sem, seval]; rw [s1], by simp only [go_sem, seval], e + 1, ?_⟩
      rw [blk_setE (by simp)]
      congr 2
      refine tab_congr fun k hk => ?_
      by_cases hkm : k = m
      · subst hkm
        rw [if_pos rfl, if_pos (Nat.le_refl _), s2]
      · rw [if_neg hkm]
        congr 2
        by_cases h : m ≤ k
        · rw [if_pos h, if_pos (by omega)]
        · rw [if_neg h, if_neg (by omega)]
  · simp only [go_sem, seval]
    rw [tab_rep]
    congr 2
    refine tab_congr fun k hk => ?_
    by_cases h : f ≤ k
    · rw [if_pos h, tdg_def, Nat.div_div_eq_div_mul, Nat.mul_comm, ← Nat.div_div_eq_div_mul, Nat.div_eq_of_lt]
      · rfl
      · exact Nat.lt_of_le_of_lt (Nat.div_le_div_left (Nat.pow_le_pow_right (by decide) h) (Tpos f)) hfl
    · rw [if_neg h]; rfl
end Go.Eng
namespace Go.Eng
theorem p_divided0 {b : Nat} (hb : b ≠ 0) (lb : tlen b < 1000000) : pf E0 136 [T 0, T b] = some (.tu [Tw (tlen 0) (0 / b), T (0 % b)]) := by
  refine pf_run (xf := x_skymosaic_skymosaicref03_divided) rfl (by simp [x_skymosaic_skymosaicref03_divided]) ?_
  simp only [x_skymosaic_skymosaicref03_divided]
  have hk := tlen_pos hb
  have hno := p_rnormal false 0 0 (by decide) (by omega)
  have z0 : (Tw 0 0 : PV) = .lst [] := rfl
  have zT : (T 0 : PV) = .lst [] := by show Tw (tlen 0) 0 = _; rw [tlen_zero]; rfl
  have s0 : sgn false 0 = 0 := rfl
  have zN : (nP 0 : PV).cells = [.b false, .lst []] := by show [PV.b (decide ((0 : Int) < 0)), T 0] = _; rw [zT]; rfl
  rw [z0, s0] at hno
  rw [Nat.zero_div, Nat.zero_mod, tlen_zero, z0, zT]
  have hf : (if ((if -(tlen b : Int) + 1 < 0 then -(tlen b : Int) + 1 else (0 : Int))) > 0 then (if -(tlen b : Int) + 1 < 0 then -(tlen b : Int) + 1 else (0 : Int)) else 0) = 0 := by
    split <;> split <;> omega
  have hs : slP 1 (.lst []) (some (.i .i64 0)) none none = some (.lst []) := rfl
  simp (disch := omega) only [go_sem, seval, wrap_i64, wrap_u64, wrap_u32, wrap_u8, wrap_i32, List.length_nil, Int.natCast_zero, Int.add_zero, asNP_lit, Int.reduceLE, Int.reduceToNat, mslP_i0, hf, hs, hno, zN, Int.zero_sub, Int.reduceNeg]
  refine wk_loop ?_
  simp only [x_skymosaic_skymosaicref03_divided_l1]
  simp (disch := omega) only [go_sem, seval, wrap_i64, wrap_u64, wrap_u32, wrap_u8, wrap_i32, Int.zero_sub, Int.reduceNeg, Int.reduceLE, ge_iff_le]
theorem p_divided {a b : Nat} (hb : b ≠ 0) (la : tlen a < 1000000) (lb : tlen b < 1000000) : pf E0 136 [T a, T b] = some (.tu [Tw (tlen a) (a / b), T (a % b)]) := by
  by_cases ha : a = 0
  · subst ha; exact p_divided0 hb lb
  · exact p_divided1 ha hb la lb
theorem p_rDiv {x y : Int} (hy : y ≠ 0) (lx : tlen x.natAbs < 100000) (ly : tlen y.natAbs < 100000) : pf E0 120 [nP x, nP y] = some (.tu [nP (x / y), nP (x % y)]) := by
  refine pf_run (xf := x_skymosaic_skymosaicref03_Div) rfl (by simp [x_skymosaic_skymosaicref03_Div]) ?_
  simp only [x_skymosaic_skymosaicref03_Div]
  have hy0 : y.natAbs ≠ 0 := by omega
  have hd := p_divided (a := x.natAbs) hy0 (by omega) (by omega)
  have lql : x.natAbs / y.natAbs < 10000 ^ tlen x.natAbs := Nat.lt_of_le_of_lt (Nat.div_le_self _ _) (tlen_lt _)
  have n1 : pf E0 132 [.b (!(decide (x < 0) == decide (y < 0))), Tw (tlen x.natAbs) (x.natAbs / y.natAbs)] = _ := p_rnormal (decide (x < 0) != decide (y < 0)) (tlen x.natAbs) (x.natAbs / y.natAbs) lql (by omega)
  have lrl := Nat.mod_lt x.natAbs (Nat.pos_of_ne_zero hy0)
  have n2 := p_rnormal false (tlen (x.natAbs % y.natAbs)) (x.natAbs % y.natAbs) (tlen_lt _) (by have := tlen_mono (Nat.le_of_lt lrl); omega)
  have dm := Nat.div_add_mod x.natAbs y.natAbs
  have lq := tlen_small lql
  generalize x.natAbs / y.natAbs = q at *
  have lr := tlen_mono (Nat.le_of_lt lrl)
  generalize x.natAbs % y.natAbs = r at *
  have lst1 : PV.lst (group 1 1 [.i .i64 1]) = Tw 1 1 := by
    rw [group_one _ _ (by rfl), Tw]
    have : tab 1 (fun k => (PV.i .i64 ((tdg 1 k : Nat) : Int))) = [(PV.i .i64 ((tdg 1 0 : Nat) : Int))] := rfl
    rw [this, tdg_def]; rfl
  have one_lt : 1 < 10000 ^ 1 := by decide
  by_cases hx : x < 0
  · by_cases hr : r = 0
    · subst hr
      have hf := div_fact (q := q) (r := 0) hy (by rw [if_pos hx]; omega) (by omega)
      have s1 : sgn (decide (x < 0) != decide (y < 0)) q = x / y := hf.1
      have s2 : sgn false 0 = x % y := hf.2
      rw [s1] at n1
      rw [s2] at n2
      simp only [hx, decide_true] at n1
      have hl : ((tlen (x % y).natAbs : Int) > 0) = False := by rw [← s2]; show ((tlen 0 : Int) > 0) = False; rw [tlen_zero]; simp
      simp (disch := omega) only [go_sem, seval, wrap_i64, wrap_u64, wrap_u32, wrap_u8, wrap_i32, hd, hx, n1, n2, hl]
      refine wk_calm' ⟨.inr ⟨9, 4, rfl, by simp only [go_sem, seval]⟩, trivial⟩ ?_
      simp (disch := omega) only [go_sem, seval, wrap_i64, wrap_u64, wrap_u32, wrap_u8, wrap_i32]
    · have hf := div_fact (q := q + 1) (r := y.natAbs - r) hy (by rw [if_pos hx, Nat.mul_add]; omega) (by omega)
      have hl : ((tlen r : Int) > 0) = True := by have := tlen_pos hr; simp; omega
      have n3 : pf E0 132 [.b (!(decide (x < 0) == decide (y < 0))), Tw 1 1] = _ := p_rnormal (decide (x < 0) != decide (y < 0)) 1 1 one_lt (by omega)
      have hsum : sgn (decide (x < 0) != decide (y < 0)) q + sgn (decide (x < 0) != decide (y < 0)) 1 = x / y := by
        rw [← hf.1]; unfold sgn; split <;> omega
      have hadd := p_rAdd (sgn (decide (x < 0) != decide (y < 0)) q) (sgn (decide (x < 0) != decide (y < 0)) 1) (by
        have : (sgn (decide (x < 0) != decide (y < 0)) q).natAbs = q := by unfold sgn; split <;> omega
        rw [this]; omega) (by
        have : (sgn (decide (x < 0) != decide (y < 0)) 1).natAbs = 1 := by unfold sgn; split <;> omega
        rw [this]; have := tlen_small one_lt; omega)
      rw [hsum] at hadd
      have hmi := p_minus (a := y.natAbs) (b := r) (s := y.natAbs - r) (by omega) (tlen_lt _) (tlen_lt _) (by omega) (by omega)
      have n4 := p_rnormal false (tlen y.natAbs) (y.natAbs - r) (Nat.lt_of_le_of_lt (Nat.sub_le _ _) (tlen_lt _)) (by omega)
      have s2 : sgn false (y.natAbs - r) = x % y := hf.2
      rw [s2] at n4
      have s3 : sgn false r = (r : Int) := rfl
      rw [s3] at n2
      have cN : (nP (r : Int)).cells = [.b false, T r] := by
        show [PV.b (decide ((r : Int) < 0)), T (r : Int).natAbs] = _
        rw [Int.natAbs_natCast]
        have : decide ((r : Int) < 0) = false := by simp
        rw [this]
      generalize sgn (decide (x < 0) != decide (y < 0)) q = Z at *
      generalize sgn (decide (x < 0) != decide (y < 0)) 1 = O at *
      simp only [hx, decide_true] at n1 n3
      simp (disch := omega) only [go_sem, seval, wrap_i64, wrap_u64, wrap_u32, wrap_u8, wrap_i32, hd, hx, n1, n2, cN, hl, lst1, n3, hadd, hmi, n4]
      refine wk_calm' ⟨.inr ⟨9, 4, rfl, by simp only [go_sem, seval]⟩, trivial⟩ ?_
      simp (disch := omega) only [go_sem, seval, wrap_i64, wrap_u64, wrap_u32, wrap_u8, wrap_i32]
  · have hf := div_fact (q := q) (r := r) hy (by rw [if_neg hx]; omega) (by omega)
    have s1 : sgn (decide (x < 0) != decide (y < 0)) q = x / y := hf.1
    have s2 : sgn false r = x % y := hf.2
    rw [s1] at n1
    rw [s2] at n2
    simp only [hx, decide_false] at n1
    simp (disch := omega) only [go_sem, seval, wrap_i64, wrap_u64, wrap_u32, wrap_u8, wrap_i32, hd, hx, n1, n2]
    refine wk_calm' ⟨.inr ⟨9, 4, rfl, by simp only [go_sem, seval]⟩, trivial⟩ ?_
    simp (disch := omega) only [go_sem, seval, wrap_i64, wrap_u64, wrap_u32, wrap_u8, wrap_i32]
end Go.Eng
namespace Go.Eng
theorem two1 (M : PM) (c c' : Option PB) : PM.blk (M ++ [c] ++ [c']) M.length = c := by
  rw [List.append_assoc]
  unfold PM.blk
  rw [List.getElem?_append_right (Nat.le_refl _)]
  simp
theorem two2 (M : PM) (c c' d : Option PB) : List.set (M ++ [c] ++ [c']) M.length d = M ++ [d] ++ [c'] := by
  rw [List.append_assoc, List.append_assoc]; simp [List.set_append]
theorem two3 (M : PM) (c c' d : Option PB) : PM.blk (M ++ [d] ++ [c']) (List.length (M ++ [c])) = c' := by
  have h := blk_app (M ++ [d]) c'
  rw [show List.length (M ++ [c]) = List.length (M ++ [d]) by simp]; exact h
theorem two4 (M : PM) (c c' d z : Option PB) : List.set (M ++ [d] ++ [c']) (List.length (M ++ [c])) z = M ++ [d] ++ [z] := by
  rw [show List.length (M ++ [c]) = List.length (M ++ [d]) by simp]; exact set_app _ _ _
theorem nP_nat (a : Nat) : nP (a : Int) = .ag [.b false, T a] := by
  show PV.ag [PV.b (decide ((a : Int) < 0)), T (a : Int).natAbs] = _
  rw [Int.natAbs_natCast]
  have : decide ((a : Int) < 0) = false := by simp
  rw [this]
theorem p_rGcd (x y : Int) (lx : tlen x.natAbs < 100000) (ly : tlen y.natAbs < 100000) : pf E0 125 [nP x, nP y] = some (nP (Nat.gcd x.natAbs y.natAbs : Nat)) := by
  refine pf_run (xf := x_skymosaic_skymosaicref03_Gcd) rfl (by simp [x_skymosaic_skymosaicref03_Gcd]) ?_
  simp only [x_skymosaic_skymosaicref03_Gcd]
  have n1 := p_rnormal false (tlen x.natAbs) x.natAbs (tlen_lt _) (by omega)
  have n2 := p_rnormal false (tlen y.natAbs) y.natAbs (tlen_lt _) (by omega)
  have s0 : ∀ v : Nat, sgn false v = (v : Int) := fun _ => rfl
  rw [s0, nP_nat] at n1 n2
  rw [nP_nat]
  simp (disch := omega) only [go_sem, seval, wrap_i64, wrap_u64, wrap_u32, wrap_u8, wrap_i32, n1, n2]
  refine wk_ind x_skymosaic_skymosaicref03_Gcd_l1.eq_1 (fun (p : Nat × Nat) fr M => Nat.gcd p.1 p.2 = Nat.gcd x.natAbs y.natAbs ∧ tlen p.1 < 100000 ∧ tlen p.2 < 100000 ∧ fr 4 = .p 2 0 ∧ fr 5 = .p 3 0 ∧ fr 6 = .p 4 0 ∧
    PM.blk M 2 = some ⟨[.b false, .nl], true, 0⟩ ∧ ∃ e1 e2, PM.blk M 3 = some ⟨[.b false, T p.1], true, e1⟩ ∧ PM.blk M 4 = some ⟨[.b false, T p.2], true, e2⟩) (fun p => p.2) ?_ (x.natAbs, y.natAbs) ⟨rfl, lx, ly, by simp only [go_sem, seval], by simp only [go_sem, seval], by simp only [go_sem, seval], rfl, 1, 1, rfl, rfl⟩
  rintro ⟨a, b⟩ fr M ⟨hg, la, lb, h4, h5, h6, hb2, e1, e2, hb3, hb4⟩ ih
  simp only at hg la lb hb3 hb4
  have l4 := blk_lt hb4
  by_cases hb : b = 0
  · subst hb
    rw [Nat.gcd_zero_right] at hg
    subst hg
    have q1 : ((tlen 0 : Int) > 0) = False := by rw [tlen_zero]; simp
    simp (disch := omega) only [go_sem, seval, wrap_i64, wrap_u64, wrap_u32, wrap_u8, wrap_i32, h4, h5, h6, hb2, hb3, hb4, q1, blk_setE]
  · have q1 : ((tlen b : Int) > 0) = True := by have := tlen_pos hb; simp; omega
    have hd := p_rDiv (x := (a : Int)) (y := (b : Int)) (by omega) (by rw [Int.natAbs_natCast]; exact la) (by rw [Int.natAbs_natCast]; exact lb)
    rw [← Int.natCast_ediv, ← Int.natCast_emod, nP_nat, nP_nat, nP_nat, nP_nat] at hd
    have ml := Nat.mod_lt a (Nat.pos_of_ne_zero hb)
    have lm := tlen_mono (Nat.le_of_lt ml)
    have o3 : ∀ c c' : Option PB, PM.blk (M ++ [c] ++ [c']) 3 = _ := fun c c' => blk_old (blk_old hb3 c) c'
    have o4 : ∀ c c' : Option PB, PM.blk (M ++ [c] ++ [c']) 4 = _ := fun c c' => blk_old (blk_old hb4 c) c'
    have o2 : ∀ c c' : Option PB, PM.blk (M ++ [c] ++ [c']) 2 = _ := fun c c' => blk_old (blk_old hb2 c) c'
    have o5 : ∀ c c' z d : Option PB, PM.blk (List.set (M ++ [d] ++ [c']) 3 z) (List.length (M ++ [c])) = c' := fun c c' z d => by
      rw [blk_setN (by simp; omega), two3]
    have o6 : ∀ c c' z : Option PB, PM.blk (List.set (M ++ [c] ++ [c']) 3 z) 4 = _ := fun c c' z => by
      exact (blk_setN (by decide)).trans (o4 c c')
    simp (disch := omega) only [go_sem, seval, wrap_i64, wrap_u64, wrap_u32, wrap_u8, wrap_i32, h4, h5, h6, hb2, hb3, hb4, q1, hd, two1, two2, two3, two4, o3, o4, o5, o6]
    refine ih (b, a % b) _ _ ml ⟨by rw [← hg, Nat.gcd_comm b, ← Nat.gcd_rec, Nat.gcd_comm], lb, by show tlen (a % b) < 100000; omega, by simp only [go_sem, seval, h4], by simp only [go_sem, seval, h5], by simp only [go_sem, seval, h6], ?_, e1 + 1, e2 + 1, ?_, ?_⟩
    · exact (blk_setN (by decide)).trans ((blk_setN (by decide)).trans (o2 _ _))
    · exact (blk_setN (by decide)).trans (blk_setE (by simp; omega))
    · exact blk_setE (by simp; omega)
end Go.Eng
namespace Go.Eng
theorem dig_cut : ∀ d : Fin 10, slStrP [48, 49, 50, 51, 52, 53, 54, 55, 56, 57] (some (.i .i64 (d.val : Int))) (some (.i .i64 ((d.val : Int) + 1))) = some (.s [UInt8.ofNat (48 + d.val)]) := by
  intro d
  have : ∀ d : Fin 10, (([48, 49, 50, 51, 52, 53, 54, 55, 56, 57] : List UInt8).take (d.val + 1)).drop d.val = [UInt8.ofNat (48 + d.val)] := by decide
  simp only [slStrP, optP, asNP_nat]
  rw [show ((d.val : Int) + 1) = ((d.val + 1 : Nat) : Int) by omega, asNP_nat]
  simp only
  rw [if_pos ⟨by omega, by simp; omega⟩, this d]
theorem p_Decimal {n : Int} (h : Fits64 n) : pf E0 127 [.i .i64 n] = some (.s (decI n)) := by
  refine pf_run (xf := x_skymosaic_skymosaicref01_Decimal) rfl (by simp [x_skymosaic_skymosaicref01_Decimal]) ?_
  simp only [x_skymosaic_skymosaicref01_Decimal]
  unfold Fits64 at h
  by_cases hn : n = 0
  · subst hn
    simp (disch := omega) only [go_sem, seval, wrap_i64, wrap_u64, wrap_u32, wrap_u8, wrap_i32]
    rfl
  · have q0 : (n = 0) = False := by simp [hn]
    simp (disch := omega) only [go_sem, seval, wrap_i64, wrap_u64, wrap_u32, wrap_u8, wrap_i32, q0]
    refine wk_ind x_skymosaic_skymosaicref01_Decimal_l1.eq_1 (fun (z : Int) fr M => fr 0 = .i .i64 n ∧ fr 3 = .s [48, 49, 50, 51, 52, 53, 54, 55, 56, 57] ∧ fr 5 = .i .i64 z ∧ -9223372036854775808 ≤ z ∧ z ≤ 9223372036854775807 ∧ M = [] ∧
      ∃ i, i + dlen z.natAbs = dlen n.natAbs ∧ z.natAbs = n.natAbs / 10 ^ i ∧ fr 4 = .s (dtx i n.natAbs)) (fun z => z.natAbs) ?_ n ⟨by simp only [go_sem, seval], by simp only [go_sem, seval], by simp only [go_sem, seval], by omega, by omega, rfl, 0, by omega, by simp, by simp only [go_sem, seval]; rfl⟩
    rintro z fr M ⟨h0, h3, h5, z1, z2, rfl, i, hi, hz, h4⟩ ih
    have dl : dlen n.natAbs ≤ 20 := dlen_iff.2 (by omega)
    by_cases hz0 : z = 0
    · subst hz0
      have d0 : dlen (0 : Int).natAbs = 0 := by have : dlen 0 ≤ 0 := dlen_iff.2 (by decide); show dlen 0 = 0; omega
      have hi' : i = dlen n.natAbs := by omega
      subst hi'
      have hd : dec n.natAbs = dtx (dlen n.natAbs) n.natAbs := by unfold dec; rw [if_neg (by omega)]
      by_cases hs : n < 0
      · have hadd : binP .add (.s [45]) (.s (dtx (dlen n.natAbs) n.natAbs)) = some (.s (decI n)) := by
          rw [bin_sadd _ _ (by simp; omega)]; unfold decI; rw [if_pos hs, hd]; rfl
        simp (disch := omega) only [go_sem, seval, wrap_i64, wrap_u64, wrap_u32, wrap_u8, wrap_i32, h0, h3, h4, h5, hs, hadd]
      · have : decI n = dtx (dlen n.natAbs) n.natAbs := by unfold decI; rw [if_neg hs, hd]
        rw [this]
        simp (disch := omega) only [go_sem, seval, wrap_i64, wrap_u64, wrap_u32, wrap_u8, wrap_i32, h0, h3, h4, h5, hs]
    · have q1 : (z = 0) = False := by simp [hz0]
      have r1 : (z.tmod 10).natAbs = z.natAbs % 10 := by rw [Int.natAbs_tmod]; rfl
      have r2 : (z.tdiv 10).natAbs = z.natAbs / 10 := by rw [Int.natAbs_tdiv]; rfl
      have hc := dig_cut ⟨z.natAbs % 10, Nat.mod_lt _ (by decide)⟩
      simp only at hc
      have hadd : binP .add (.s [UInt8.ofNat (48 + z.natAbs % 10)]) (.s (dtx i n.natAbs)) = some (.s (dtx (i + 1) n.natAbs)) := by
        rw [bin_sadd _ _ (by simp; omega)]
        show _ = some (PV.s (UInt8.ofNat (48 + n.natAbs / 10 ^ i % 10) :: dtx i n.natAbs))
        rw [← hz]; rfl
      have hdl : i + 1 + dlen (z.natAbs / 10) = dlen n.natAbs := by
        have e1 : dlen (z.natAbs / 10) + 1 = dlen z.natAbs := by
          have k : ∀ m, dlen (z.natAbs / 10) ≤ m ↔ dlen z.natAbs ≤ m + 1 := fun m => by
            rw [dlen_iff, dlen_iff, Nat.pow_succ, Nat.div_lt_iff_lt_mul (by decide)]
          have k1 := (k (dlen (z.natAbs / 10))).1 (Nat.le_refl _)
          have k2 : 0 < dlen z.natAbs := by
            rcases Nat.eq_zero_or_pos (dlen z.natAbs) with q | q
            · have := dlen_lt z.natAbs; rw [q] at this; simp at this; omega
            · exact q
          have k3 := (k (dlen z.natAbs - 1)).2 (by omega)
          omega
        omega
      have hnz : z.natAbs / 10 = n.natAbs / 10 ^ (i + 1) := by rw [hz, Nat.pow_succ, Nat.div_div_eq_div_mul]
      generalize hr : z.tmod 10 = r at *
      generalize hq : z.tdiv 10 = q at *
      by_cases hr0 : r < 0
      · have e1 : (0 : Int) - r = ((z.natAbs % 10 : Nat) : Int) := by omega
        simp (disch := omega) only [go_sem, seval, wrap_i64, wrap_u64, wrap_u32, wrap_u8, wrap_i32, h0, h3, h4, h5, q1, hr, hq, hr0, e1, hc, hadd]
        exact ih q _ _ (by omega) ⟨by simp only [go_sem, seval, h0], by simp only [go_sem, seval, h3], by simp only [go_sem, seval], by omega, by omega, rfl, i + 1, by rw [r2]; exact hdl, by rw [r2, hnz], by simp only [go_sem, seval]⟩
      · have e1 : r = ((z.natAbs % 10 : Nat) : Int) := by omega
        rw [← e1] at hc
        simp (disch := omega) only [go_sem, seval, wrap_i64, wrap_u64, wrap_u32, wrap_u8, wrap_i32, h0, h3, h4, h5, q1, hr, hq, hr0, hc, hadd]
        exact ih q _ _ (by omega) ⟨by simp only [go_sem, seval, h0], by simp only [go_sem, seval, h3], by simp only [go_sem, seval], by omega, by omega, rfl, i + 1, by rw [r2]; exact hdl, by rw [r2, hnz], by simp only [go_sem, seval]⟩
end Go.Eng
namespace Go.Eng
theorem dtx_add (m : Nat) : ∀ (n v : Nat), dtx (n + m) v = dtx n (v / 10 ^ m) ++ dtx m v
  | 0, v => by simp [dtx]
  | n + 1, v => by
    rw [show n + 1 + m = (n + m) + 1 by omega]
    show UInt8.ofNat (48 + v / 10 ^ (n + m) % 10) :: dtx (n + m) v = UInt8.ofNat (48 + v / 10 ^ m / 10 ^ n % 10) :: dtx n (v / 10 ^ m) ++ dtx m v
    rw [dtx_add m n v, Nat.div_div_eq_div_mul, ← Nat.pow_add, Nat.add_comm m n]; rfl
theorem dtx_mod : ∀ (n m v : Nat), n ≤ m → dtx n (v % 10 ^ m) = dtx n v
  | 0, _, _, _ => rfl
  | n + 1, m, v, h => by
    show UInt8.ofNat (48 + v % 10 ^ m / 10 ^ n % 10) :: dtx n (v % 10 ^ m) = UInt8.ofNat (48 + v / 10 ^ n % 10) :: dtx n v
    rw [dtx_mod n m v (by omega)]
    congr 2
    have e : (10 : Nat) ^ m = 10 ^ n * (10 * 10 ^ (m - n - 1)) := by
      rw [← Nat.pow_succ', ← Nat.pow_add]; congr 1; omega
    rw [e, Nat.mod_mul_right_div_self, Nat.mod_mul_right_mod]
theorem dtx_pad (n m v : Nat) (h : v < 10 ^ n) (hm : n ≤ m) : dtx m v = List.replicate (m - n) 48 ++ dtx n v := by
  obtain ⟨k, rfl⟩ : ∃ k, m = k + n := ⟨m - n, by omega⟩
  rw [dtx_add n k v, Nat.div_eq_of_lt h, Nat.add_sub_cancel]
  congr 1
  induction k with
  | zero => rfl
  | succ k ih =>
    show UInt8.ofNat (48 + 0 / 10 ^ k % 10) :: dtx k 0 = _
    rw [ih (by omega), List.replicate_succ, Nat.zero_div]; rfl
theorem dlen_le4 {d : Nat} (h : d < 10000) : dlen d ≤ 4 := dlen_iff.2 (by omega)
theorem dec_dtx {v : Nat} (h : v ≠ 0) : dec v = dtx (dlen v) v := by unfold dec; rw [if_neg h]
theorem p_pad {F : PFin} {ks : List KI} {e L : Nat} {fr : PFr} {M : PM} {A1 A3 A4 : PV} (h1 : fr 1 = A1) (h3 : fr 3 = A3) (h4 : fr 4 = A4) (h5 : fr 5 = .s (dtx L e)) (hL : L ≤ 4) (he : e < 10 ^ L)
    (cont : ∀ fr', fr' 1 = A1 → fr' 3 = A3 → fr' 4 = A4 → fr' 5 = .s (dtx 4 e) → UK E0 F (.exit 2) ks fr' M) : WK E0 F (.loop x_skymosaic_skymosaicref03_Text_l2) ks fr M := by
  refine wk_ind x_skymosaic_skymosaicref03_Text_l2.eq_1 (fun (L : Nat) fr M' => L ≤ 4 ∧ e < 10 ^ L ∧ fr 1 = A1 ∧ fr 3 = A3 ∧ fr 4 = A4 ∧ fr 5 = .s (dtx L e) ∧ M' = M) (fun L => 4 - L) ?_ L ⟨hL, he, h1, h3, h4, h5, rfl⟩
  rintro L fr M' ⟨hL, he, h1, h3, h4, h5, rfl⟩ ih
  have hl : ((dtx L e).length : Int) = (L : Int) := by rw [dtx_len]
  by_cases h : L < 4
  · have q1 : ((L : Int) < 4) = True := by simp; omega
    have hadd : binP .add (.s [48]) (.s (dtx L e)) = some (.s (dtx (L + 1) e)) := by
      rw [bin_sadd _ _ (by simp; omega)]
      show _ = some (PV.s (UInt8.ofNat (48 + e / 10 ^ L % 10) :: dtx L e))
      rw [Nat.div_eq_of_lt he]; rfl
    simp (disch := omega) only [go_sem, seval, wrap_i64, wrap_u64, wrap_u32, wrap_u8, wrap_i32, h5, hl, q1, hadd]
    exact ih (L + 1) _ _ (by omega) ⟨by omega, by rw [Nat.pow_succ]; omega, by simp only [go_sem, seval, h1], by simp only [go_sem, seval, h3], by simp only [go_sem, seval, h4], by simp only [go_sem, seval], rfl⟩
  · have q1 : ((L : Int) < 4) = False := by simp; omega
    have : L = 4 := by omega
    simp (disch := omega) only [go_sem, seval, wrap_i64, wrap_u64, wrap_u32, wrap_u8, wrap_i32, h5, hl, q1]
    exact cont _ (by simp only [go_sem, seval, h1]) (by simp only [go_sem, seval, h3]) (by simp only [go_sem, seval, h4]) (by simp only [go_sem, seval, h5, this])
theorem dec_mul {x e : Nat} (hx : x ≠ 0) (he : e < 10000) : dec (x * 10000 + e) = dec x ++ dtx 4 e := by
  have hd : dlen (x * 10000 + e) = dlen x + 4 := by
    have k : ∀ m, dlen x ≤ m ↔ dlen (x * 10000 + e) ≤ m + 4 := fun m => by
      rw [dlen_iff, dlen_iff, Nat.pow_add]
      generalize 10 ^ m = p
      have : (10 : Nat) ^ 4 = 10000 := rfl
      rw [this]; omega
    have k1 := (k (dlen x)).1 (Nat.le_refl _)
    have k2 : ∀ m, dlen (x * 10000 + e) ≤ m → 4 ≤ m := fun m h => by
      rw [dlen_iff] at h
      rcases Nat.lt_or_ge m 4 with q | q
      · have : (10 : Nat) ^ m ≤ 10 ^ 3 := Nat.pow_le_pow_right (by decide) (by omega)
        have : (10 : Nat) ^ 3 = 1000 := rfl
        omega
      · exact q
    have k3 := k2 _ (Nat.le_refl _)
    have k4 := (k (dlen (x * 10000 + e) - 4)).2 (by omega)
    omega
  rw [dec_dtx (by omega), dec_dtx hx, hd, dtx_add]
  have e1 : (x * 10000 + e) / 10 ^ 4 = x := by show (x * 10000 + e) / 10000 = x; omega
  have e2 : (x * 10000 + e) % 10 ^ 4 = e := by show (x * 10000 + e) % 10000 = e; omega
  rw [e1, ← dtx_mod 4 4 (x * 10000 + e) (Nat.le_refl _), e2]
theorem dec_len {v t : Nat} (h : v < 10000 ^ t) (ht : 0 < t) : (dec v).length ≤ 4 * t := by
  unfold dec
  split
  · simp; omega
  · rw [dtx_len, dlen_iff, Nat.pow_mul]; exact h
theorem dec_1 (e : Nat) (he : e < 10000) : ∃ L, dec e = dtx L e ∧ L ≤ 4 ∧ e < 10 ^ L := by
  by_cases h : e = 0
  · subst h; exact ⟨1, rfl, by omega, by decide⟩
  · exact ⟨dlen e, dec_dtx h, dlen_le4 he, dlen_lt e⟩
end Go.Eng
namespace Go.Eng
theorem p_Text0 : pf E0 107 [nP 0] = some (.s (decI 0)) := by
  refine pf_run (xf := x_skymosaic_skymosaicref03_Text) rfl (by simp [x_skymosaic_skymosaicref03_Text]) ?_
  simp only [x_skymosaic_skymosaicref03_Text]
  have c0 : (nP 0).cells = [.b false, T 0] := rfl
  have e0 : ((tlen 0 : Int) = 0) = True := by rw [tlen_zero]; simp
  simp (disch := omega) only [go_sem, seval, wrap_i64, wrap_u64, wrap_u32, wrap_u8, wrap_i32, c0, e0]
  rfl
theorem p_Text {z : Int} (lz : tlen z.natAbs < 100000) : pf E0 107 [nP z] = some (.s (decI z)) := by
  by_cases hz : z = 0
  · subst hz; exact p_Text0
  refine pf_run (xf := x_skymosaic_skymosaicref03_Text) rfl (by simp [x_skymosaic_skymosaicref03_Text]) ?_
  simp only [x_skymosaic_skymosaicref03_Text]
  have hv : z.natAbs ≠ 0 := by omega
  have hdI : decI z = if z < 0 then 45 :: dec z.natAbs else dec z.natAbs := rfl
  generalize hs : decide (z < 0) = sg at *
  have hcz : (nP z).cells = [.b sg, T z.natAbs] := by rw [← hs]; rfl
  have hdI2 : decI z = if sg = true then 45 :: dec z.natAbs else dec z.natAbs := by
    rw [hdI, ← hs]; by_cases q : z < 0 <;> simp [q]
  rw [hdI2]
  generalize z.natAbs = v at *
  have ht := tlen_pos hv
  have eT : T v = Tw (tlen v) v := rfl
  have hq : ((tlen v : Int) = 0) = False := by simp; omega
  have hdg := tdg_lt v (tlen v - 1)
  have htop : tdg v (tlen v - 1) = v / 10000 ^ (tlen v - 1) := by
    rw [tdg_def, Nat.mod_eq_of_lt]
    apply Nat.div_lt_of_lt_mul
    rw [← Nat.pow_succ, show (tlen v - 1).succ = tlen v by omega]; exact tlen_lt v
  have hpb : 10000 ^ (tlen v - 1) ≤ v := by
    rcases Nat.lt_or_ge v (10000 ^ (tlen v - 1)) with q | q
    · have := tlen_small q; omega
    · exact q
  have hD : ∀ e : Nat, e < 10000 → pf E0 127 [(PV.i .i64 ((e : Nat) : Int))] = some (.s (dec e)) := fun e he => by
    have h1 := p_Decimal (n := (e : Int)) (by unfold Fits64; omega)
    have h2 : decI (e : Int) = dec e := by unfold decI; rw [if_neg (by omega), Int.natAbs_natCast]
    rw [h2] at h1; exact h1
  have hD0 := hD _ hdg
  have i1 : (tlen v : Int) - 1 = ((tlen v - 1 : Nat) : Int) := by omega
  simp (disch := omega) only [go_sem, seval, wrap_i64, wrap_u64, wrap_u32, wrap_u8, wrap_i32, hcz, hq, eT, i1, idxP_Tw, hD0]
  refine wk_ind x_skymosaic_skymosaicref03_Text_l1.eq_1 (fun (i : Nat) fr M => i ≤ tlen v - 1 ∧ fr 1 = .p 0 0 ∧ fr 3 = .s (dec (v / 10000 ^ i)) ∧ fr 4 = .i .i64 ((i : Int) - 1) ∧ M = [some ⟨[.b sg, T v], true, 0⟩]) id ?_ (tlen v - 1) ⟨Nat.le_refl _, by simp only [go_sem, seval], by simp only [go_sem, seval]; rw [htop], by simp only [go_sem, seval]; congr 1; omega, rfl⟩
  rintro i fr M ⟨hi, h1, h3, h4, rfl⟩ ih
  by_cases hi0 : i = 0
  · subst hi0
    rw [Nat.pow_zero, Nat.div_one] at h3
    cases sg
    · simp (disch := omega) only [go_sem, seval, wrap_i64, wrap_u64, wrap_u32, wrap_u8, wrap_i32, h1, h3, h4, Int.natCast_zero, Int.zero_sub, Int.reduceNeg, Int.reduceLE, ge_iff_le]
    · have hl := dec_len (tlen_lt v) ht
      have hadd : binP .add (.s [45]) (.s (dec v)) = some (.s (45 :: dec v)) := by
        rw [bin_sadd _ _ (by simp; omega)]; rfl
      simp (disch := omega) only [go_sem, seval, wrap_i64, wrap_u64, wrap_u32, wrap_u8, wrap_i32, h1, h3, h4, Int.natCast_zero, Int.zero_sub, Int.reduceNeg, Int.reduceLE, ge_iff_le, hadd]
  · obtain ⟨m, rfl⟩ : ∃ m, i = m + 1 := ⟨i - 1, by omega⟩
    have q1 : (((m + 1 : Nat) : Int) - 1 ≥ 0) = True := by simp
    have q2 : (((m + 1 : Nat) : Int) - 1) = (m : Int) := by omega
    have he := tdg_lt v m
    have hDm := hD _ he
    obtain ⟨L, hL1, hL2, hL3⟩ := dec_1 _ he
    have hx : v / 10000 ^ (m + 1) ≠ 0 := by
      have h1 : 10000 ^ (m + 1) ≤ v := Nat.le_trans (Nat.pow_le_pow_right (by decide) hi) hpb
      have := Nat.div_pos h1 (Tpos (m + 1))
      omega
    have hsp : v / 10000 ^ m = v / 10000 ^ (m + 1) * 10000 + tdg v m := by rw [pow_div_succ, tdg_def]; omega
    have hdm := dec_mul hx he
    rw [← hsp] at hdm
    have hxl : v / 10000 ^ (m + 1) < 10000 ^ tlen v := Nat.lt_of_le_of_lt (Nat.div_le_self _ _) (tlen_lt v)
    have hl := dec_len hxl ht
    have hadd : binP .add (.s (dec (v / 10000 ^ (m + 1)))) (.s (dtx 4 (tdg v m))) = some (.s (dec (v / 10000 ^ m))) := by
      rw [bin_sadd _ _ (by simp; omega), hdm]
    have hml : m < tlen v := by omega
    simp (disch := omega) only [go_sem, seval, wrap_i64, wrap_u64, wrap_u32, wrap_u8, wrap_i32, h1, h3, h4, q1, q2, eT, idxP_Tw, hDm]
    refine p_pad (A1 := .p 0 0) (A3 := .s (dec (v / 10000 ^ (m + 1)))) (A4 := .i .i64 (m : Int)) (by simp only [go_sem, seval, h1]) (by simp only [go_sem, seval, h3]) (by simp only [go_sem, seval, h4, q2]) (by simp only [go_sem, seval]; rw [hL1]) hL2 hL3 fun fr' g1 g3 g4 g5 => ?_
    simp (disch := omega) only [go_sem, seval, wrap_i64, wrap_u64, wrap_u32, wrap_u8, wrap_i32, g1, g3, g4, g5, hadd]
    exact ih m _ _ (by simp only [id]; omega) ⟨by omega, by simp only [go_sem, seval, g1], by simp only [go_sem, seval], by simp only [go_sem, seval], rfl⟩
end Go.Eng
namespace Go.Eng
theorem wk_calmG {E : PEnv} {F : PFin} {ops : List XOper} {chk : List (Nat × Nat)} {ks : List KI} {fr : PFr} {M : PM} (hc : ∀ fr2 Ms, pOpsT E.glob (pcl E) ops fr M = some (fr2, Ms) → chk.all (chkP E.glob ops fr2 Ms) = true) (w : WL E F ops ks fr M) : WK E F (.drw ops chk) ks fr M := by
  obtain ⟨lf, w⟩ := w
  refine ⟨lf, ?_⟩
  have key : pCode E.glob (pcl E) lf (.drw ops chk) fr M = (pOps E.glob (pcl E) ops fr M).map fun r => (.normal, r.1, r.2) := by
    simp only [pCode]
    congr 1
    cases hops : pOps E.glob (pcl E) ops fr M with
    | none => rw [hops] at w; exact (Ends.none w).elim
    | some r =>
      unfold pDrw
      by_cases h0 : chk = []
      · rw [if_pos h0, hops]
      · rw [if_neg h0]
        obtain ⟨fr2, M2⟩ := r
        obtain ⟨Ms, h1, h2⟩ := pOpsT_of hops
        rw [h1]
        have hall : chk.all (chkP E.glob ops fr2 Ms) = true := by
          exact hc _ _ h1
        simp only [hall, if_true, h2, Option.map_some]
  rw [key]
  cases hops : pOps E.glob (pcl E) ops fr M with
  | none => rw [hops] at w; exact (Ends.none w).elim
  | some r => rw [hops] at w; exact w
theorem calm_chkL {E : PEnv} {ops : List XOper} {fr fr2 : PFr} {M : PM} {Ms : List PM} {i j s n o : Nat} {a b : XOper} {z : Bool} {k : Nat} (h1 : pOpsT E.glob (pcl E) ops fr M = some (fr2, Ms)) (ha : ops[i]? = some a) (hb : ops[j]? = some b)
    (hop : a.op = .load z k (.t s)) (hcb : calmOp E b.op = true) (hall : (ops.all fun o => o.dst != some s) = true) (hs : fr s = .p n o) : chkP E.glob ops fr2 Ms (i, j) = true := by
  have hk := (pOpsT_keep h1).2
  obtain ⟨fri, A, B, q1, q2, q3, q4⟩ := pOpsT_at h1 ha
  obtain ⟨frj, C, D, p1, p2, p3, p4⟩ := pOpsT_at h1 hb
  have p2' : Ms[(i, j).2 + 1]? = some D := p2
  have q2' : Ms[(i, j).1 + 1]? = some B := q2
  simp only [chkP, ha, q1, q2, p1, p2]
  rw [if_neg (by rw [hop]; simp [XO.cls])]
  rw [hop]
  show chkV ops j (.t s) C D (fr2 s) = true
  rw [hk s hall, hs]
  show verP (some n) C D = true
  rcases p3 with ⟨_, v, p3⟩ | ⟨_, p3⟩
  · cases hop : b.op with
    | call f l =>
      rw [hop] at p3 hcb
      obtain ⟨ns, rfl⟩ := pcl_mem hcb p3
      exact roM_verP ns C _
    | _ => rw [hop] at hcb; simp [calmOp] at hcb
  · rw [p3]; simp [verP]
end Go.Eng
namespace Go.Eng
theorem tv_app : ∀ (a b : List UInt8), tv (a ++ b) = tv a * 10 ^ b.length + tv b
  | [], b => by simp [tv]
  | c :: a, b => by
    show (c.toNat - 48) * 10 ^ (a ++ b).length + tv (a ++ b) = _
    rw [tv_app a b, List.length_append, Nat.pow_add]
    show _ = ((c.toNat - 48) * 10 ^ a.length + tv a) * 10 ^ b.length + tv b
    grind
theorem tv_lt : ∀ (l : List UInt8), l.all isDig = true → tv l < 10 ^ l.length
  | [], _ => by simp [tv]
  | c :: l, h => by
    simp only [List.all_cons, Bool.and_eq_true, isDig, decide_eq_true_eq] at h
    have h2 := tv_lt l h.2
    show (c.toNat - 48) * 10 ^ l.length + tv l < 10 ^ (l.length + 1)
    rw [Nat.pow_succ]
    have : (c.toNat - 48) * 10 ^ l.length ≤ 9 * 10 ^ l.length := Nat.mul_le_mul_right _ (by omega)
    omega
theorem dch (d : Nat) (h : d < 10) : (UInt8.ofNat (48 + d)).toNat = 48 + d := by
  have : ∀ d : Fin 10, (UInt8.ofNat (48 + d.val)).toNat = 48 + d.val := by decide
  exact this ⟨d, h⟩
theorem tv_dtx : ∀ (n v : Nat), tv (dtx n v) = v % 10 ^ n
  | 0, v => by simp [dtx, tv, Nat.mod_one]
  | n + 1, v => by
    show ((UInt8.ofNat (48 + v / 10 ^ n % 10)).toNat - 48) * 10 ^ (dtx n v).length + tv (dtx n v) = _
    rw [dch _ (Nat.mod_lt _ (by decide)), dtx_len, tv_dtx n v, Nat.pow_succ, Nat.mod_mul, Nat.add_sub_cancel_left, Nat.mul_comm, Nat.add_comm]
theorem dig_dtx : ∀ (n v : Nat), (dtx n v).all isDig = true
  | 0, _ => rfl
  | n + 1, v => by
    show (isDig (UInt8.ofNat (48 + v / 10 ^ n % 10)) && (dtx n v).all isDig) = true
    rw [dig_dtx n v, Bool.and_true]
    unfold isDig
    rw [dch _ (Nat.mod_lt _ (by decide))]
    have := Nat.mod_lt (v / 10 ^ n) (by decide : 0 < 10)
    exact decide_eq_true (by omega)
theorem tv_dec (v : Nat) : tv (dec v) = v := by
  unfold dec
  split
  · rename_i h; rw [h]; rfl
  · rw [tv_dtx, Nat.mod_eq_of_lt (dlen_lt v)]
theorem dig_dec (v : Nat) : (dec v).all isDig = true := by
  unfold dec
  split
  · rfl
  · exact dig_dtx _ _
end Go.Eng
namespace Go.Eng
noncomputable def E1 : PEnv := { E0 with prog := fun f => if f = 33 then none else prog f }
theorem e1pcl_48 (a : List PV) (M : PM) : pcl E1 48 a M = pclA E1 48 M (fzL (fz M fzD) a) := pcl_eq a M rfl
theorem e1pcl_49 (a : List PV) (M : PM) : pcl E1 49 a M = pclA E1 49 M (fzL (fz M fzD) a) := pcl_eq a M rfl
theorem e1pcl_50 (a : List PV) (M : PM) : pcl E1 50 a M = pclA E1 50 M (fzL (fz M fzD) a) := pcl_eq a M rfl
theorem e1pcl_51 (a : List PV) (M : PM) : pcl E1 51 a M = pclA E1 51 M (fzL (fz M fzD) a) := pcl_eq a M rfl
def XC.cut : XC → XC
  | .ret => .fail
  | .seq a b => .seq a.cut b.cut
  | .cond c a b => .cond c a.cut b.cut
  | .block id a => .block id a.cut
  | .loop a => .loop a.cut
  | .scope a => .scope a.cut
  | x => x
theorem pLoop_cut {b b' : PStep} (h : ∀ fr M o fr' M', b' fr M = some (o, fr', M') → b fr M = some (o, fr', M') ∧ o ≠ .ret) : ∀ k fr M o fr' M', pLoop b' k fr M = some (o, fr', M') → pLoop b k fr M = some (o, fr', M') ∧ o ≠ .ret
  | 0, fr, M, o, fr', M', e => by simp [pLoop] at e
  | k + 1, fr, M, o, fr', M', e => by
    simp only [pLoop] at e ⊢
    cases h1 : b' fr M with
    | none => rw [h1] at e; cases e
    | some r =>
      obtain ⟨o1, fr1, M1⟩ := r
      obtain ⟨g1, g2⟩ := h _ _ _ _ _ h1
      rw [h1] at e; rw [g1]
      cases o1 with
      | normal => exact pLoop_cut h k _ _ _ _ _ e
      | exit i => cases e; exact ⟨rfl, g2⟩
      | ret => exact (g2 rfl).elim
theorem pCode_cut {G : Nat → Option (List AV)} {call : PCall} {lf : Nat} : ∀ (c : XC) fr M o fr' M', pCode G call lf c.cut fr M = some (o, fr', M') → pCode G call lf c fr M = some (o, fr', M') ∧ o ≠ .ret
  | .skip, fr, M, o, fr', M', e => ⟨e, by simp [XC.cut, pCode] at e; rw [← e.1]; simp⟩
  | .ret, fr, M, o, fr', M', e => by simp [XC.cut, pCode] at e
  | .exit id, fr, M, o, fr', M', e => ⟨e, by simp [XC.cut, pCode] at e; rw [← e.1]; simp⟩
  | .fail, fr, M, o, fr', M', e => by simp [XC.cut, pCode] at e
  | .scope a, fr, M, o, fr', M', e => pCode_cut a fr M o fr' M' e
  | .loop a, fr, M, o, fr', M', e => pLoop_cut (pCode_cut a) lf fr M o fr' M' e
  | .reg ops, fr, M, o, fr', M', e => ⟨e, by
      simp only [XC.cut, pCode, Option.map_eq_some_iff] at e
      obtain ⟨q, _, e⟩ := e
      cases e; simp⟩
  | .drw ops chk, fr, M, o, fr', M', e => ⟨e, by
      simp only [XC.cut, pCode, Option.map_eq_some_iff] at e
      obtain ⟨q, _, e⟩ := e
      cases e; simp⟩
  | .seq a b, fr, M, o, fr', M', e => by
    simp only [XC.cut, pCode] at e ⊢
    cases h1 : pCode G call lf a.cut fr M with
    | none => rw [h1] at e; cases e
    | some r =>
      obtain ⟨o1, fr1, M1⟩ := r
      obtain ⟨g1, g2⟩ := pCode_cut a _ _ _ _ _ h1
      rw [h1] at e; rw [g1]
      cases o1 with
      | normal => exact pCode_cut b _ _ _ _ _ e
      | exit i => cases e; exact ⟨rfl, g2⟩
      | ret => exact (g2 rfl).elim
  | .cond x a b, fr, M, o, fr', M', e => by
    simp only [XC.cut, pCode] at e ⊢
    split at e
    · rename_i v hv
      cases v with
      | true => exact pCode_cut a _ _ _ _ _ e
      | false => exact pCode_cut b _ _ _ _ _ e
    · cases e
  | .block id a, fr, M, o, fr', M', e => by
    simp only [XC.cut, pCode] at e ⊢
    cases h1 : pCode G call lf a.cut fr M with
    | none => rw [h1] at e; cases e
    | some r =>
      obtain ⟨o1, fr1, M1⟩ := r
      obtain ⟨g1, g2⟩ := pCode_cut a _ _ _ _ _ h1
      rw [h1] at e; rw [g1]
      cases o1 with
      | normal => cases e; exact ⟨rfl, g2⟩
      | exit i =>
        simp only at e ⊢
        split at e
        · rename_i hi; cases e; rw [if_pos hi]; exact ⟨rfl, by simp⟩
        · rename_i hi; cases e; rw [if_neg hi]; exact ⟨rfl, g2⟩
      | ret => exact (g2 rfl).elim
theorem dec_mulK {x e k : Nat} (hx : x ≠ 0) (hk : 0 < k) (he : e < 10 ^ k) : dec (x * 10 ^ k + e) = dec x ++ dtx k e := by
  have hp : 0 < 10 ^ k := Nat.pow_pos (by decide)
  have hdv : (x * 10 ^ k + e) / 10 ^ k = x := by rw [Nat.mul_comm, Nat.mul_add_div hp, Nat.div_eq_of_lt he, Nat.add_zero]
  have hmd : (x * 10 ^ k + e) % 10 ^ k = e := by rw [Nat.mul_comm, Nat.mul_add_mod, Nat.mod_eq_of_lt he]
  have hge : 10 ^ k ≤ x * 10 ^ k + e := Nat.le_trans (Nat.le_mul_of_pos_left _ (Nat.pos_of_ne_zero hx)) (Nat.le_add_right _ _)
  have hd : dlen (x * 10 ^ k + e) = dlen x + k := by
    have h1 : ∀ m, dlen x ≤ m ↔ dlen (x * 10 ^ k + e) ≤ m + k := fun m => by
      rw [dlen_iff, dlen_iff, Nat.pow_add, ← Nat.div_lt_iff_lt_mul hp, hdv]
    have k1 := (h1 (dlen x)).1 (Nat.le_refl _)
    have k2 : k ≤ dlen (x * 10 ^ k + e) := by
      rcases Nat.lt_or_ge (dlen (x * 10 ^ k + e)) k with q | q
      · have h3 := dlen_lt (x * 10 ^ k + e)
        have : 10 ^ dlen (x * 10 ^ k + e) ≤ 10 ^ k := Nat.pow_le_pow_right (by decide) (by omega)
        omega
      · exact q
    have k4 := (h1 (dlen (x * 10 ^ k + e) - k)).2 (by omega)
    omega
  rw [dec_dtx (by omega), dec_dtx hx, hd, dtx_add, hdv, ← dtx_mod k k _ (Nat.le_refl _), hmd]
theorem rep_pad {e : Nat} (he : e < 1000000000) : (dec e).length ≤ 9 ∧ (List.replicate (9 - (dec e).length) [(48 : UInt8)]).flatten ++ dec e = dtx 9 e := by
  have fl : ∀ n, (List.replicate n [(48 : UInt8)]).flatten = List.replicate n 48 := fun n => by
    induction n with
    | zero => rfl
    | succ n ih => rw [List.replicate_succ, List.flatten_cons, ih, List.replicate_succ]; rfl
  rw [fl]
  by_cases h : e = 0
  · subst h; decide
  · have h9 : dlen e ≤ 9 := dlen_iff.2 he
    rw [dec_dtx h, dtx_len]
    exact ⟨h9, (dtx_pad _ _ _ (dlen_lt e) h9).symm⟩
theorem dlen_drop {z : Nat} (h : z ≠ 0) : dlen (z / 1000000000) + 1 ≤ dlen z := by
  have h1 := dlen_lt z
  have h2 : 0 < dlen z := by
    rcases Nat.eq_zero_or_pos (dlen z) with q | q
    · rw [q] at h1; simp at h1; omega
    · exact q
  have : dlen (z / 1000000000) ≤ dlen z - 1 := by
    rw [dlen_iff]
    refine Nat.lt_of_le_of_lt (Nat.div_le_div_left (by decide : 10 ≤ 1000000000) (by decide)) ?_
    rw [Nat.div_lt_iff_lt_mul (by decide), ← Nat.pow_succ, show (dlen z - 1).succ = dlen z by omega]
    exact h1
  omega
theorem dlen_w {v : Nat} (h : wlen v ≤ 512) : dlen v ≤ 16384 := by
  have h1 := wlen_iff.1 h
  obtain ⟨n, hn⟩ : ∃ n, n = 512 := ⟨_, rfl⟩
  rw [← hn] at h1
  have h2 : (4294967296 : Nat) ^ n ≤ (10 ^ 32) ^ n := Nat.pow_le_pow_left (by decide) n
  rw [← Nat.pow_mul] at h2
  have : dlen v ≤ 32 * n := dlen_iff.2 (Nat.lt_of_lt_of_le h1 h2)
  omega
def strA : XC :=
  .seq (.reg [⟨some 1, .box (.t 0), [], none⟩, ⟨some 2, .mov (.k (.s [])), [], none⟩]) (.seq (.seq (.reg [⟨some 10, .fad 1 (.t 1), [], none⟩, ⟨some 11, .load false 1 (.t 10), [0], none⟩, ⟨some 12, .len (.t 11), [1], none⟩, ⟨some 13, .bin .eql (.t 12) (.k (.i .i64 0)), [2], none⟩]) (.cond (.t 13) (.seq (.reg [⟨some 2, .mov (.k (.s [48])), [], none⟩]) .ret) .skip)) (.seq (.reg [⟨some 3, .mov (.k .sn), [], none⟩]) (.seq (.reg [⟨some 14, .fad 1 (.t 1), [], none⟩, ⟨some 15, .load false 1 (.t 14), [0], none⟩, ⟨some 4, .mov (.t 15), [1, 0, 1], none⟩]) (.block 0 (.loop x__skymosaic_wide_Int__String_l1)))))
def strQ (neg : Bool) (v : Nat) (w : PV) (M : PM) : Prop := ∃ p ps, w = .tu [.p 0 0, p] ∧ Grows M p (ps.map PV.s) ∧ ps ≠ [] ∧ ps.length ≤ 20000 ∧ ps.reverse.flatten = dec v ∧ PM.blk M 0 = some ⟨[.b neg, D v], true, 0⟩
theorem str_wk {neg : Bool} {v : Nat} (h0 : v ≠ 0) (hl : wlen v ≤ 512) : WK E1 ⟨[.tmp 1, .tmp 3], strQ neg v⟩ strA.cut [] (frOf [.ag [.b neg, D v]]) [] := by
  simp only [strA, XC.cut]
  have hpos := wlen_pos h0
  have q0 : ((wlen v : Int) = 0) = False := by simp; omega
  have hcl : XC.cut x__skymosaic_wide_Int__String_l1 = x__skymosaic_wide_Int__String_l1 := rfl
  rw [hcl]
  simp (disch := omega) only [go_sem, seval, wrap_i64, wrap_u64, wrap_u32, wrap_u8, wrap_i32, q0]
  refine wk_ind x__skymosaic_wide_Int__String_l1.eq_1 (fun (z : Nat) fr M => wlen z ≤ 512 ∧ fr 1 = .p 0 0 ∧ fr 4 = D z ∧ ∃ ps : List (List UInt8), Grows M (fr 3) (ps.map PV.s) ∧ NotIn (fr 3) 0 ∧ (z = 0 → ps ≠ []) ∧ ps.length + dlen z ≤ 20000 ∧ (if z = 0 then [] else dec z) ++ ps.reverse.flatten = dec v ∧ PM.blk M 0 = some ⟨[.b neg, D v], true, 0⟩) id ?_ v ⟨hl, by simp only [go_sem, seval], by simp only [go_sem, seval], [], .inl ⟨rfl, by simp only [go_sem, seval]⟩, by simp only [go_sem, seval]; trivial, fun h => (h0 h).elim, ?_, by rw [if_neg h0]; simp, rfl⟩
  · rintro z fr M ⟨hz, h1, h4, ps, hg, hni, hne, hpl, htx, hb⟩ ih
    by_cases hz0 : z = 0
    · have q1 : ((wlen z : Int) > 0) = False := by rw [hz0, wlen_zero]; simp
      have htx' : ps.reverse.flatten = dec v := by rw [if_pos hz0] at htx; simpa using htx
      simp (disch := omega) only [go_sem, seval, wrap_i64, wrap_u64, wrap_u32, wrap_u8, wrap_i32, h1, h4, q1]
      exact ⟨_, ps, rfl, hg, hne hz0, by omega, htx', hb⟩
    · have q1 : ((wlen z : Int) > 0) = True := by have := wlen_pos hz0; simp; omega
      have hzl := wlen_lt z
      have h48 : pf E1 48 [Dw (wlen z) z, .i .u32 1000000000] = some (.tu [Dw (wlen z) (z / 1000000000), (PV.i .u32 ((z % 1000000000 : Nat) : Int))]) := by
        have := p_shortE (E := E1) rfl (n := wlen z) (a := z) (w := 1000000000) hzl (by decide) (by decide) (by omega)
        simpa only [Int.cast_ofNat_Int] using this
      have hz' : z / 1000000000 < 4294967296 ^ wlen z := Nat.lt_of_le_of_lt (Nat.div_le_self _ _) hzl
      have h49 := p_normalE (E := E1) rfl (wlen z) (z / 1000000000) hz' (by omega)
      have hr : z % 1000000000 < 1000000000 := Nat.mod_lt _ (by decide)
      have h50 : pf E1 50 [.i .i64 ((z % 1000000000 : Nat) : Int)] = some (.s (dec (z % 1000000000))) := pf_orc (o := orcA 50) (w := .s (dec (z % 1000000000))) (M2 := []) rfl (by
        have hd : decI ((z % 1000000000 : Nat) : Int) = dec (z % 1000000000) := by unfold decI; rw [if_neg (by omega), Int.natAbs_natCast]
        have hf : Fits64 ((z % 1000000000 : Nat) : Int) := ⟨by omega, by omega⟩
        show orcP 50 _ [] = _
        simp only [orcP, libP]
        rw [if_neg (by decide), if_pos ⟨trivial, hf⟩, hd]; rfl) rfl
      obtain ⟨r1, r2⟩ := rep_pad hr
      have hze : z = z / 1000000000 * 10 ^ 9 + z % 1000000000 := by
        show z = z / 1000000000 * 1000000000 + z % 1000000000; omega
      have hwl : wlen (z / 1000000000) ≤ 512 := Nat.le_trans (wlen_iff.2 hz') hz
      by_cases hz2 : z / 1000000000 = 0
      · have q2 : ((wlen (z / 1000000000) : Int) > 0) = False := by rw [hz2, wlen_zero]; simp
        obtain ⟨v', M', he, hg', hk⟩ := app_outB (by_ := 16) (by decide) hg (.s (dec (z % 1000000000))) (by simp; omega)
        obtain ⟨k1, k2⟩ := hk 0 _ hb hni
        simp (disch := omega) only [go_sem, seval, wrap_i64, wrap_u64, wrap_u32, wrap_u8, wrap_i32, h1, h4, q1, q2, e1pcl_48, e1pcl_49, e1pcl_50, e1pcl_51, h48, h49, h50, he]
        have hzr : z % 1000000000 = z := by omega
        rw [if_neg hz0] at htx
        refine ih (z / 1000000000) _ M' (by simp only [id]; omega) ⟨hwl, by simp only [go_sem, seval, h1], by simp only [go_sem, seval], ps ++ [dec (z % 1000000000)], by simp only [go_sem, seval]; simpa using hg', by simp only [go_sem, seval]; exact k2, fun _ => by simp, ?_, ?_, k1⟩
        · have := dlen_drop hz0
          simp only [List.length_append, List.length_cons, List.length_nil]; omega
        · rw [if_pos hz2, hzr, List.reverse_append]; simpa using htx
      · have q2 : ((wlen (z / 1000000000) : Int) > 0) = True := by have := wlen_pos hz2; simp; omega
        obtain ⟨v', M', he, hg', hk⟩ := app_outB (by_ := 16) (by decide) hg (.s (dtx 9 (z % 1000000000))) (by simp; omega)
        obtain ⟨k1, k2⟩ := hk 0 _ hb hni
        have i9 : (9 : Int) - ((dec (z % 1000000000)).length : Int) = ((9 - (dec (z % 1000000000)).length : Nat) : Int) := by omega
        have h51 : pf E1 51 [.s [48], .i .i64 ((9 - (dec (z % 1000000000)).length : Nat) : Int)] = some (.s (List.replicate (9 - (dec (z % 1000000000)).length) [(48 : UInt8)]).flatten) := pf_orc (o := orcA 51) (w := .s (List.replicate (9 - (dec (z % 1000000000)).length) [(48 : UInt8)]).flatten) (M2 := []) rfl (by
          show orcP 51 _ [] = _
          simp only [orcP, libP]
          rw [if_neg (by decide), if_pos ⟨trivial, by omega, by omega, by simp⟩]; rfl) rfl
        have hadd : binP .add (.s (List.replicate (9 - (dec (z % 1000000000)).length) [(48 : UInt8)]).flatten) (.s (dec (z % 1000000000))) = some (.s (dtx 9 (z % 1000000000))) := by
          have hlen := congrArg List.length r2
          rw [List.length_append, dtx_len] at hlen
          rw [bin_sadd _ _ (by omega), r2]
        generalize (List.replicate (9 - (dec (z % 1000000000)).length) [(48 : UInt8)]).flatten = pd at *
        simp (disch := omega) only [go_sem, seval, wrap_i64, wrap_u64, wrap_u32, wrap_u8, wrap_i32, h1, h4, q1, q2, e1pcl_48, e1pcl_49, e1pcl_50, e1pcl_51, h48, h49, h50, i9, h51, hadd, he]
        rw [if_neg hz0] at htx
        refine ih (z / 1000000000) _ M' (by simp only [id]; omega) ⟨hwl, by simp only [go_sem, seval, h1], by simp only [go_sem, seval], ps ++ [dtx 9 (z % 1000000000)], by simp only [go_sem, seval]; simpa using hg', by simp only [go_sem, seval]; exact k2, fun _ => by simp, ?_, ?_, k1⟩
        · have := dlen_drop hz0
          simp only [List.length_append, List.length_cons, List.length_nil]; omega
        · have hm := dec_mulK (k := 9) hz2 (by decide) hr
          rw [← hze] at hm
          rw [if_neg hz2, List.reverse_append, ← htx, hm]
          simp
  · have h1 := dlen_w hl
    simp only [List.length_nil]; omega
end Go.Eng
namespace Go.Eng
theorem strA_run {neg : Bool} {v : Nat} (h0 : v ≠ 0) (hl : wlen v ≤ 512) : ∃ lf fr M p ps, pCode E1.glob (pvF E1 lf) lf strA (frOf [.ag [.b neg, D v]]) [] = some (.normal, fr, M) ∧ fr 1 = .p 0 0 ∧ fr 3 = p ∧ Grows M p (ps.map PV.s) ∧ ps ≠ [] ∧ ps.length ≤ 20000 ∧ ps.reverse.flatten = dec v ∧ PM.blk M 0 = some ⟨[.b neg, D v], true, 0⟩ := by
  obtain ⟨lf, q, fr, M, vs, e, h1, h2, h3⟩ := str_wk (neg := neg) h0 hl
  simp only [Option.bind_eq_some_iff] at e
  obtain ⟨⟨o, fr1, M1⟩, e1, e2⟩ := e
  simp only [unw] at e2
  cases e2
  obtain ⟨e3, hno⟩ := pCode_cut _ _ _ _ _ _ e1
  have hq : q = .normal := by
    cases q with
    | normal => rfl
    | exit i => exact (h1 i rfl).elim
    | ret => exact (hno rfl).elim
  subst hq
  obtain ⟨k, e4⟩ := pCode_cont _ e3
  have e5 := pCode_le (pvF_le (Nat.le_max_left k lf)) (Nat.le_max_right k lf) _ e4
  simp only [pRes, pResOne] at h2
  cases h2
  obtain ⟨p, ps, g1, g2, g3, g4, g5, g6⟩ := h3
  simp only [packP, PV.tu.injEq, List.cons.injEq, and_true] at g1
  exact ⟨max k lf, fr, M, p, ps, e5, g1.1, g1.2, g2, g3, g4, g5, g6⟩
theorem val_app (a : List Nat) (x : Nat) : val (a ++ [x]) = val a + 4294967296 ^ a.length * x := by
  induction a with
  | nil => simp [val]
  | cons y a ih => simp only [List.cons_append, val, ih, List.length_cons, Nat.pow_succ]; grind
theorem norm_dig {xs : List Nat} (h : Ok32 xs) (hz : xs.getLast? ≠ some 0) : xs = dig (val xs) := by
  have hlen : wlen (val xs) = xs.length := by
    rcases List.eq_nil_or_concat xs with rfl | ⟨a, x, rfl⟩
    · rfl
    · rw [List.concat_eq_append] at h hz ⊢
      have hx : x ≠ 0 := fun e => by subst e; simp at hz
      have h1 : wlen (val (a ++ [x])) ≤ (a ++ [x]).length := wlen_iff.2 (val_lt h)
      have h2 : ¬ wlen (val (a ++ [x])) ≤ a.length := fun q => by
        have := wlen_iff.1 q
        rw [val_app] at this
        have : 4294967296 ^ a.length * 1 ≤ 4294967296 ^ a.length * x := Nat.mul_le_mul_left _ (by omega)
        omega
      simp at h1 ⊢
      omega
  unfold dig
  rw [hlen]
  exact dw_val h
theorem wordsA_ok : ∀ {cs : List AV} {xs : List Nat}, wordsA cs = some xs → cs = xs.map (fun n => .i .u32 (n : Int)) ∧ Ok32 xs
  | [], xs, e => by simp [wordsA] at e; subst e; exact ⟨rfl, fun x hx => by cases hx⟩
  | c :: cs, xs, e => by
    unfold wordsA at e
    split at e
    · rename_i he; cases he
    · rename_i n l he
      cases he
      split at e
      · rename_i hn
        simp only [Option.map_eq_some_iff] at e
        obtain ⟨ys, e1, rfl⟩ := e
        obtain ⟨p1, p2⟩ := wordsA_ok e1
        refine ⟨by rw [p1, List.map_cons, Int.toNat_of_nonneg hn.1], fun x hx => ?_⟩
        rcases List.mem_cons.1 hx with rfl | hx
        · omega
        · exact p2 x hx
      · cases e
    · cases e
theorem txtA_inv {neg : Bool} {w : AV} {h : Hp} {l : List UInt8} (e : txtA [.ag [.b neg, w]] h = some l) (hcap : ∀ n off len cap z, w = .sl n off len cap z → len ≤ cap) :
    ∃ v, wlen v ≤ 512 ∧ (neg = true → v ≠ 0) ∧ l = decI (if neg then -(v : Int) else (v : Int)) ∧ V h (fun _ => False) [] (D v) w := by
  have nil : ∀ {l}, wtx neg [] = some l → (neg = true → False) ∧ l = decI (if neg then -((0 : Nat) : Int) else ((0 : Nat) : Int)) := fun {l} e => by
    unfold wtx at e
    split at e
    · rename_i hc; cases e; exact ⟨fun hn => hc.2.2 hn rfl, rfl⟩
    · cases e
  have D0 : D 0 = .lst [] := rfl
  have fin0 : ∀ {l}, wtx neg [] = some l → V h (fun _ => False) [] (.lst []) w → ∃ v, wlen v ≤ 512 ∧ (neg = true → v ≠ 0) ∧ l = decI (if neg then -(v : Int) else (v : Int)) ∧ V h (fun _ => False) [] (D v) w := fun {l} e hv => by
    obtain ⟨n1, n2⟩ := nil e
    exact ⟨0, by rw [wlen_zero]; omega, fun hn => (n1 hn).elim, n2, by rw [D0]; exact hv⟩
  unfold txtA at e
  split at e
  · rename_i neg' n off len cap z heq
    simp only [List.cons.injEq, AV.ag.injEq, AV.b.injEq, and_true] at heq
    obtain ⟨rfl, rfl⟩ := heq
    split at e
    · rename_i h0
      subst h0
      exact fin0 e (.lst0 n off cap z)
    · rename_i h0
      split at e
      · rename_i hz
        subst hz
        simp only [Option.bind_eq_some_iff] at e
        obtain ⟨xs, ⟨cs, e1, e2⟩, e3⟩ := e
        obtain ⟨w1, w2⟩ := wordsA_ok e2
        unfold wtx at e3
        split at e3
        · rename_i hc
          cases e3
          have hd := norm_dig w2 hc.2.1
          have hlen : cs.length = len := by
            unfold Hp.rd at e1
            split at e1
            · rename_i b hb
              split at e1
              · cases e1; simp; omega
              · cases e1
            · cases e1
          have hxl : xs.length = len := by rw [← hlen, w1, List.length_map]
          have hwl : wlen (val xs) = len := by rw [← hxl]; conv => rhs; rw [hd]
                                               simp
          have hD : D (val xs) = .lst (xs.map fun n => (PV.i .u32 ((n : Nat) : Int))) := by
            have : W (dig (val xs)) = D (val xs) := W_dw _ _
            rw [← this, ← hd]; rfl
          refine ⟨val xs, by omega, fun hn h0' => ?_, rfl, ?_⟩
          · rw [h0', wlen_zero] at hwl; omega
          · rw [hD]
            unfold Hp.rd at e1
            split at e1
            · rename_i b hb
              split at e1
              · rename_i hle
                cases e1
                have hfl : flat (xs.map fun n => (PV.i .u32 ((n : Nat) : Int))) = xs.map fun n => (PV.i .u32 ((n : Nat) : Int)) := by
                  clear hD hwl hxl hlen hd hc w1 e2 w2
                  induction xs with
                  | nil => rfl
                  | cons x xs ih => rw [List.map_cons]; show [(PV.i .u32 ((x : Nat) : Int))] ++ flat _ = _; rw [ih]; rfl
                have hg : ∀ i (hi : i < xs.length), b.v[off + i]? = some (.i .u32 ((xs[i] : Nat) : Int)) := fun i hi => by
                  have : ((b.v.drop off).take len)[i]? = some (.i .u32 ((xs[i] : Nat) : Int)) := by
                    rw [w1, List.getElem?_map, List.getElem?_eq_getElem hi]; rfl
                  rw [List.getElem?_take, if_pos (by omega), List.getElem?_drop] at this
                  exact this
                have hl : (xs.map fun n => (PV.i .u32 ((n : Nat) : Int))).length = len := by rw [List.length_map, hxl]
                have := V.lst (D := fun _ => False) (r := []) (xs := xs.map fun n => (PV.i .u32 ((n : Nat) : Int))) (m := n) (off := off) (cap := cap) (z := 1) (fun i => .i .u32 ((xs.getD i 0 : Nat) : Int)) hb (fun q => q) (by rw [hfl]; simp [PV.scal]) (by decide) (fun x hx => by
                  obtain ⟨y, _, rfl⟩ := List.mem_map.1 hx; rfl) (by rw [hl]; exact hcap n off len cap 1 rfl) (fun i hi => by
                  rw [hfl, List.length_map] at hi
                  rw [hg i hi, List.getD, List.getElem?_eq_getElem hi]; rfl) (fun i hi => by
                  have hi' : i < xs.length := by rw [hfl, List.length_map] at hi; exact hi
                  have e : (flat (xs.map fun n => (PV.i .u32 ((n : Nat) : Int))))[i] = (PV.i .u32 ((xs[i] : Nat) : Int)) := by simp only [hfl]; rw [List.getElem_map]
                  rw [e, List.getD, List.getElem?_eq_getElem hi']
                  exact .i _ _)
                rw [hl] at this
                exact this
              · cases e1
            · cases e1
        · cases e3
      · cases e
  · rename_i neg' heq
    simp only [List.cons.injEq, AV.ag.injEq, AV.b.injEq, and_true] at heq
    obtain ⟨rfl, rfl⟩ := heq
    exact fin0 e .lsn
  · rename_i neg' heq
    simp only [List.cons.injEq, AV.ag.injEq, AV.b.injEq, and_true] at heq
    obtain ⟨rfl, rfl⟩ := heq
    exact fin0 e .lse
  · rename_i neg' heq
    simp only [List.cons.injEq, AV.ag.injEq, AV.b.injEq, and_true] at heq
    obtain ⟨rfl, rfl⟩ := heq
    exact fin0 e .le0
  · cases e
end Go.Eng
namespace Go.Eng
def HasT (h : Hp) : Prop := ∃ b, h.m 0 = some b ∧ b.v = powT
theorem noDM (m : Nat) : ¬ DM [] [] m := fun d => by
  obtain ⟨n, b, q, _⟩ := d
  simp at q
theorem PInv.start {h : Hp} (w : h.wf) (t : HasT h) : PInv globG (fun _ => False) [] [] h := by
  refine ⟨rfl, fun i j m q => by simp at q, fun m q => by simp at q, w, fun n m q => by simp at q, fun n b m q => by simp at q, fun m d => d.elim, fun g l q => ?_⟩
  unfold globG at q
  split at q
  · rename_i hg
    cases q; subst hg
    obtain ⟨b, t1, t2⟩ := t
    refine ⟨b, t1, ⟨t2, by decide⟩, fun d => ?_⟩
    rcases d with d | d
    · exact d
    · exact noDM _ d
  · cases q
theorem VL.dd {h : Hp} {args : List PV} {asq : List AV} (v : VL h (fun _ => False) [] args asq) : VL h (DD (fun _ => False) [] []) [] args asq :=
  v.anti fun m d => by
    rcases d with d | d
    · exact d
    · exact (noDM _ d).elim
theorem VL_strs {h : Hp} {D : Nat → Prop} {r : List Nat} : ∀ {ps : List (List UInt8)} {l : List AV}, VL h D r (ps.map PV.s) l → l = ps.map AV.s
  | [], l, v => v.of_nil
  | x :: ps, l, v => by
    obtain ⟨y, ys, e1, e2, e3⟩ := v.uncons
    rw [e1, List.map_cons, ← VL_strs e3]
    cases e2; rfl
theorem strA_ev (K : PEnvOk E1) {neg : Bool} {v : Nat} {w : AV} {h : Hp} (hw : h.wf) (t : HasT h) (h0 : v ≠ 0) (hl : wlen v ≤ 512) (hv : V h (fun _ => False) [] (D v) w) :
    ∃ lf fr' h' m0 m len cap ps, evCode (evF E1.prog lf) lf strA ([.ag [.b neg, w]] ++ List.replicate 57 undefA) h = some (.normal, fr', h') ∧ fr'.length = 58 ∧ fr'.getD 1 undefA = .p m0 0 ∧ (∃ b, h'.m m0 = some b ∧ b.v[0]? = some (.b neg)) ∧
      fr'.getD 3 undefA = .sl m 0 len cap 1 ∧ (∃ b, h'.m m = some b ∧ b.v = ps.map AV.s) ∧ len = ps.length ∧ ps ≠ [] ∧ ps.length ≤ 20000 ∧ ps.reverse.flatten = dec v := by
  obtain ⟨lf, fr, M, p, ps, e, f1, f3, hg, g1, g2, g3, hb⟩ := strA_run (neg := neg) h0 hl
  have hv0 : VL h (DD (fun _ => False) [] []) [] [.ag [.b neg, D v]] [.ag [.b neg, w]] :=
    VL.dd (.cons ((fun q : VL h (fun _ => False) [] [.b neg, D v] [.b neg, w] => V.ag q.1 q.2) (.cons (.b neg) (.cons hv .nil))) .nil)
  have F0 : VFr h (DD (fun _ => False) [] []) [] (frOf [.ag [.b neg, D v]]) ([.ag [.b neg, w]] ++ List.replicate 57 undefA) := by
    intro k
    cases k with
    | zero => exact hv0.2 0 (by simp) (by simp)
    | succ k =>
      have e2 : ([AV.ag [.b neg, w]] ++ List.replicate 57 undefA).getD (k + 1) undefA = undefA := by
        simp only [List.singleton_append, List.getD, List.getElem?_cons_succ, List.getElem?_replicate]
        split <;> rfl
      rw [e2]
      exact .junk _ rfl fun _ q => by cases q
  obtain ⟨fr', h', r', q1, q2, q3, q4, q5⟩ := pCode_ok (pvF_ok K lf) lf strA rfl _ _ _ _ _ _ _ _ e (PInv.start hw t) F0 rfl
  have a1 := q4 1
  rw [f1] at a1
  have a3 := q4 3
  rw [f3] at a3
  rcases hg with ⟨hn, _⟩ | ⟨k, ev, rfl, hk⟩
  · simp at hn; exact (g1 hn).elim
  rw [blk_some] at hb hk
  generalize ha1 : fr'.getD 1 undefA = A1 at a1
  generalize ha3 : fr'.getD 3 undefA = A3 at a3
  cases a1 with
  | @p _ _ m0 _ hm0 =>
    cases a3 with
    | @sl _ _ m _ len cap z hm hlc =>
      obtain ⟨b0, c1, c2, c3, c4, c5⟩ := q2.blk 0 _ m0 hb hm0
      obtain ⟨b1, d1, d2, d3, d4, d5⟩ := q2.blk k _ m hk hm
      refine ⟨lf, fr', h', m0, m, _, _, ps, q1, q5, ha1, ⟨b0, c1, ?_⟩, ha3, ⟨b1, d1, ?_⟩, by simp, g1, g2, g3⟩
      · obtain ⟨x, xs, e1, e2, e3⟩ := c4.uncons
        rw [e1]
        cases e2; rfl
      · exact VL_strs d4
theorem str0_ev (K : PEnvOk E1) {w : AV} {h : Hp} (hw : h.wf) (t : HasT h) (hv : V h (fun _ => False) [] (D 0) w) :
    ∃ lf fr' h', evCode (evF E1.prog lf) lf strA ([.ag [.b false, w]] ++ List.replicate 57 undefA) h = some (.ret, fr', h') ∧ fr'.getD 2 undefA = .s [48] := by
  have wk : WK E1 ⟨[.tmp 2], fun q _ => q = .s [48]⟩ (.seq strA .fail) [] (frOf [.ag [.b false, D 0]]) [] := by
    simp only [strA]
    have q0 : ((wlen 0 : Int) = 0) = True := by rw [wlen_zero]; simp
    simp (disch := omega) only [go_sem, seval, wrap_i64, wrap_u64, wrap_u32, wrap_u8, wrap_i32, q0]
  obtain ⟨lf, q, fr, M, vs, e, h1, h2, h3⟩ := wk
  simp only [Option.bind_eq_some_iff] at e
  obtain ⟨⟨o, fr1, M1⟩, e1, e2⟩ := e
  simp only [unw] at e2
  cases e2
  have e0 : pCode E1.glob (pcl E1) lf strA (frOf [.ag [.b false, D 0]]) [] = some (.ret, fr, M) := by
    simp only [pCode] at e1
    cases hs : pCode E1.glob (pcl E1) lf strA (frOf [.ag [.b false, D 0]]) [] with
    | none => rw [hs] at e1; cases e1
    | some r =>
      obtain ⟨o2, fr2, M2⟩ := r
      rw [hs] at e1
      cases o2 with
      | normal => cases e1
      | exit i => cases e1; exact (h1 i rfl).elim
      | ret => cases e1; rfl
  obtain ⟨k, e4⟩ := pCode_cont _ e0
  have e5 := pCode_le (pvF_le (Nat.le_max_left k lf)) (Nat.le_max_right k lf) _ e4
  simp only [pRes, pResOne] at h2
  cases h2
  simp only [packP] at h3
  have hv0 : VL h (DD (fun _ => False) [] []) [] [.ag [.b false, D 0]] [.ag [.b false, w]] :=
    VL.dd (.cons ((fun q : VL h (fun _ => False) [] [.b false, D 0] [.b false, w] => V.ag q.1 q.2) (.cons (.b false) (.cons hv .nil))) .nil)
  have F0 : VFr h (DD (fun _ => False) [] []) [] (frOf [.ag [.b false, D 0]]) ([.ag [.b false, w]] ++ List.replicate 57 undefA) := by
    intro k
    cases k with
    | zero => exact hv0.2 0 (by simp) (by simp)
    | succ k =>
      have e2 : ([AV.ag [.b false, w]] ++ List.replicate 57 undefA).getD (k + 1) undefA = undefA := by
        simp only [List.singleton_append, List.getD, List.getElem?_cons_succ, List.getElem?_replicate]
        split <;> rfl
      rw [e2]
      exact .junk _ rfl fun _ q => by cases q
  obtain ⟨fr', h', r', q1, q2, q3, q4, q5⟩ := pCode_ok (pvF_ok K (max k lf)) (max k lf) strA rfl _ _ _ _ _ _ _ _ e5 (PInv.start hw t) F0 rfl
  have a2 := q4 2
  rw [h3] at a2
  generalize ha2 : fr'.getD 2 undefA = A2 at a2
  cases a2
  exact ⟨_, fr', h', q1, ha2⟩
end Go.Eng
namespace Go.Eng
variable {F : Nat} {key : Nat → Option FuncId}
theorem Ext.below {l : Loc} {h : Hp} {w w' : World} {B : Nat} (hB : w.heap.size ≤ B) (b : RowKit.Below B w w') : Ext l h w l h w' :=
  ⟨l.le_refl, .refl h, fun _ _ e => .inl e, b.size, b.os, b.tape, b.output, fun k hk _ => b.block k (Nat.lt_of_lt_of_le hk hB)⟩
theorem Sim.below {l : Loc} {h : Hp} {w w' : World} {B : Nat} (S : Sim key F l h w) (hB : w.heap.size ≤ B) (b : RowKit.Below B w w') : Sim key F l h w' :=
  ⟨fun n blk a e1 e2 => (S.holds n blk a e1 e2).move l.le_refl b.size (b.block _ (Nat.lt_of_lt_of_le (S.lt n a e2) hB)), S.apart, fun n a e => Nat.lt_of_lt_of_le (S.lt n a e) b.size, S.dom, S.wf⟩
theorem orc_below {P : Program} {l : Loc} {h : Hp} {w : World} {g : FuncId} {vs : Array Value} {v : AV} {val : Value} (S : Sim key F l h w)
    (c : Calls P g vs w fun e w' => e = .returned val ∧ RowKit.Below w.heap.size w w') (r : Rel key l v val) :
    Calls P g vs w fun e w' => ∃ l' val, e = .returned val ∧ Ext l h w l' h w' ∧ Sim key F l' h w' ∧ Rel key l' v val :=
  c.mono fun e w' ⟨e1, b⟩ => ⟨l, val, e1, .below (Nat.le_refl _) b, S.below (Nat.le_refl _) b, r⟩
theorem rel_str {l : Loc} (bs : List UInt8) : Rel key l (.s bs) (.string ⟨bs.toArray⟩) := by
  have := Rel.s (key := key) (l := l) (⟨bs.toArray⟩ : ByteArray)
  simpa using this
end Go.Eng
namespace Go.Eng
open Go.Proofs Go.RowKit Go.Shelf
theorem dec_small {v : Nat} (h : v < 10) : dec v = [UInt8.ofNat (48 + v)] := by
  unfold dec
  split
  · rename_i h0; subst h0; rfl
  · rename_i h0
    have hd : dlen v = 1 := by
      have h1 : dlen v ≤ 1 := dlen_iff.2 (by omega)
      have h2 := dlen_lt v
      rcases Nat.eq_zero_or_pos (dlen v) with q | q
      · rw [q] at h2; simp at h2; omega
      · omega
    rw [hd]
    show [UInt8.ofNat (48 + v / 10 ^ 0 % 10)] = _
    rw [Nat.pow_zero, Nat.div_one, Nat.mod_eq_of_lt h]
theorem dtx_last : ∀ (n v : Nat), dtx (n + 1) v = dtx n (v / 10) ++ [UInt8.ofNat (48 + v % 10)]
  | 0, v => by show [UInt8.ofNat (48 + v / 10 ^ 0 % 10)] = _; rw [Nat.pow_zero, Nat.div_one]; rfl
  | n + 1, v => by
    show UInt8.ofNat (48 + v / 10 ^ (n + 1) % 10) :: dtx (n + 1) v = (UInt8.ofNat (48 + v / 10 / 10 ^ n % 10) :: dtx n (v / 10)) ++ _
    rw [dtx_last n v, Nat.div_div_eq_div_mul, ← Nat.pow_succ']; rfl
theorem dec_big {v : Nat} (h : ¬ v < 10) : dec v = dec (v / 10) ++ [UInt8.ofNat (48 + v % 10)] := by
  have hd : dlen v = dlen (v / 10) + 1 := by
    have k : ∀ m, dlen (v / 10) ≤ m ↔ dlen v ≤ m + 1 := fun m => by
      rw [dlen_iff, dlen_iff, Nat.pow_succ, Nat.div_lt_iff_lt_mul (by decide)]
    have k1 := (k (dlen (v / 10))).1 (Nat.le_refl _)
    have k2 : 0 < dlen v := by
      rcases Nat.eq_zero_or_pos (dlen v) with q | q
      · have := dlen_lt v; rw [q] at this; simp at this; omega
      · exact q
    have k3 := (k (dlen v - 1)).2 (by omega)
    omega
  unfold dec
  rw [if_neg (by omega), if_neg (by omega), hd, dtx_last]
theorem dec_lib (v : Nat) : Lib.decDigits v = dec v := by
  induction v using Nat.strongRecOn with
  | _ v ih =>
    rw [Lib.decDigits]
    split
    · rename_i h; exact (dec_small h).symm
    · rename_i h
      rw [ih (v / 10) (by omega), ← dec_big h]
theorem decI_lib (n : Int) : Lib.itoa n = decI n := by
  unfold Lib.itoa decI
  split
  · rw [dec_lib]
  · rename_i h
    rw [dec_lib]
    congr 1; omega
theorem rep_lib (l : List UInt8) : ∀ c, Lib.repeatL l c = (List.replicate c l).flatten
  | 0 => rfl
  | c + 1 => by rw [Lib.repeatL, rep_lib l c, List.replicate_succ, List.flatten_cons]
theorem dig_lib {c : UInt8} (h : isDig c = true) : Lib.digitVal c = some (c.toNat - 48) := by
  simp only [isDig, decide_eq_true_eq] at h
  unfold Lib.digitVal
  rw [if_pos h]
theorem tv_from : ∀ (l : List UInt8) (a : Nat), l.all isDig = true → Lib.decFrom a l = some (a * 10 ^ l.length + tv l)
  | [], a, _ => by simp [Lib.decFrom, tv]
  | c :: l, a, h => by
    simp only [List.all_cons, Bool.and_eq_true] at h
    unfold Lib.decFrom
    rw [dig_lib h.1]
    simp only
    rw [tv_from l _ h.2]
    congr 1
    show (a * 10 + (c.toNat - 48)) * 10 ^ l.length + tv l = a * 10 ^ (l.length + 1) + ((c.toNat - 48) * 10 ^ l.length + tv l)
    rw [Nat.pow_succ]; grind
theorem atoi_lib {l : List UInt8} (h0 : l ≠ []) (h : l.all isDig = true) : Lib.atoi l = some (tv l : Int) := by
  cases l with
  | nil => exact (h0 rfl).elim
  | cons c l =>
    have hc : isDig c = true := by simp only [List.all_cons, Bool.and_eq_true] at h; exact h.1
    simp only [isDig, decide_eq_true_eq] at hc
    have h45 : (c == 45) = false := by
      rw [beq_eq_false_iff_ne]; rintro rfl; revert hc; decide
    have h43 : (c == 43) = false := by
      rw [beq_eq_false_iff_ne]; rintro rfl; revert hc; decide
    simp only [Lib.atoi, h45, h43, Bool.false_eq_true, if_false]
    unfold Lib.decNat
    simp only [List.isEmpty_cons, Bool.false_eq_true, if_false]
    rw [tv_from _ _ h]
    simp
theorem idx_lib (c : UInt8) : ∀ l : List UInt8, Lib.indexByte l c = idxB l c
  | [] => rfl
  | b :: l => by unfold Lib.indexByte idxB; rw [idx_lib c l]
structure LibOk (P : Program) (ρ : Ren) (key : Nat → Option FuncId) (T : Tab) (G : Nat) : Prop where
  l105 : Lays.n105 P ρ
  l171 : LaysM.n171 P ρ
  lX : Builder.Extra P ρ
  gname : P.globalNamed "internal/strconv.uint64pow10" = some G
  gkey : T.gkey G = some 0
  k50 : key 50 = some (ρ.f 171)
  k51 : key 51 = some (ρ.f 105)
  o130 : ∀ g, key 130 = some g → Lays.n160 P ρ ∧ (P.info? (ρ.t 116)).map (fun i => (i.zero, i.size)) = some (some (.agg (Array.replicate 256 (.bool false))), 256) ∧ g = ρ.f 160
  o131 : ∀ g, key 131 = some g → Lays.n172 P ρ ∧ g = ρ.f 172
  o222 : ∀ g, key 222 = some g → Lays.n219 P ρ ∧ g = ρ.f 219
variable {P : Program} {ρ : Ren} {key : Nat → Option FuncId} {T : Tab} {G : Nat}
theorem rel_s {l : Loc} {xs : List UInt8} {v : Value} (h : Rel key l (.s xs) v) : ∃ s : ByteArray, v = .string s ∧ s.data.toList = xs := by
  generalize hx : AV.s xs = x at h
  cases h <;> cases hx
  exact ⟨_, rfl, rfl⟩
theorem rel_i {l : Loc} {k : IntKind} {n : Int} {v : Value} (h : Rel key l (.i k n) v) : v = .int k n := by
  cases h; rfl
theorem relL_one {l : Loc} {a : AV} {vs : Array Value} (h : RelL key l [a] vs.toList) : ∃ v, vs = #[v] ∧ Rel key l a v := by
  have hl := h.1
  rcases vs with ⟨vs⟩
  match vs, hl with
  | [v], _ => exact ⟨v, rfl, h.2 0 (by simp) (by simp)⟩
theorem relL_two {l : Loc} {a b : AV} {vs : Array Value} (h : RelL key l [a, b] vs.toList) : ∃ v w, vs = #[v, w] ∧ Rel key l a v ∧ Rel key l b w := by
  have hl := h.1
  rcases vs with ⟨vs⟩
  match vs, hl with
  | [v, w], _ => exact ⟨v, w, rfl, h.2 0 (by simp) (by simp), h.2 1 (by simp) (by simp)⟩
theorem mkS {s : ByteArray} {xs : List UInt8} (h : s.data.toList = xs) : s = ⟨xs.toArray⟩ := by
  rcases s with ⟨d⟩
  rw [← h]
theorem tab_ok (K : LibOk P ρ key T G) {F : Nat} {l : Loc} {h : Hp} {w : World} (TO : TabOk key T l) (S : Sim key F l h w) (t : ∃ b, h.m 0 = some b ∧ b.v = powT) : Lib.TabIs P w "internal/strconv.uint64pow10" .u64 Lib.pow10Tab := by
  obtain ⟨m, hm⟩ := TO.g G 0 K.gkey
  obtain ⟨b, b1, b2⟩ := t
  have H := S.holds 0 b _ b1 hm
  obtain ⟨_, _, cs, ty, fz, h3, h4⟩ := H.whole rfl
  unfold Lib.TabIs World.var?
  rw [K.gname]
  simp only [Option.bind_some]
  simp only at h3
  rw [h3]
  simp only [Option.some.injEq]
  have hlen : b.v.length = 20 := by rw [b2]; rfl
  apply Array.ext_getElem?
  intro i
  by_cases hi : i < 20
  · obtain ⟨v, c1, c2⟩ := H.cell i (by omega)
    have hcs : cs[i]? = some v := by
      have := c1
      simp only [World.cell?, Nat.zero_add] at this
      rw [h3] at this
      simpa using this
    have hb : b.v[i]'(by omega) = .i .u64 ((10 ^ i : Nat) : Int) := by
      simp only [b2, powT]
      rw [List.getElem_map, List.getElem_range]
    rw [hb] at c2
    rw [hcs, rel_i c2]
    simp [Lib.pow10Tab, hi]
  · rw [Array.getElem?_eq_none (by omega), Array.getElem?_eq_none (by simp [Lib.pow10Tab]; omega)]
theorem lib_orc (K : LibOk P ρ key T G) {f g : Nat} (hk : key f = some g) (hf : f ≠ 33) {F : Nat} {args : List AV} {vs : Array Value} {h h' : Hp} {v : AV} {l : Loc} {w : World} (e : orcA f args h = some (v, h')) (TO : TabOk key T l)
    (RL : RelL key l args vs.toList) (S : Sim key F l h w) : Calls P g vs w fun e w' => ∃ l' val, e = .returned val ∧ Ext l h w l' h' w' ∧ Sim key F l' h' w' ∧ Rel key l' v val := by
  unfold orcA at e
  rw [if_neg hf] at e
  split at e
  · cases e
  rename_i ht
  simp only [Option.map_eq_some_iff, Prod.mk.injEq] at e
  obtain ⟨v', e1, rfl, rfl⟩ := e
  unfold libA at e1
  split at e1
  · rename_i n
    split at e1
    · rename_i hc
      cases e1
      obtain ⟨rfl, hn⟩ := hc
      obtain ⟨x, rfl, r1⟩ := relL_one RL
      rw [rel_i r1]
      obtain rfl := Option.some.inj (K.k50.symm.trans hk)
      have t : ∃ b, h.m 0 = some b ∧ b.v = powT := by
        by_cases q : ∃ b, h.m 0 = some b ∧ b.v = powT
        · exact q
        · exact (ht ⟨rfl, q⟩).elim
      refine orc_below S (val := .string ⟨(decI n).toArray⟩) ((Any.strconv_Itoa K.l171 n hn.1 hn.2 w (tab_ok K TO S t)).mono ?_) (rel_str _)
      rintro e w' ⟨rfl, k, os, rfl⟩
      exact ⟨by rw [decI_lib], Lib.below_grow _ _ (Nat.le_refl _) _ _⟩
    · cases e1
  · rename_i xs c
    split at e1
    · rename_i hc
      cases e1
      obtain ⟨rfl, h1, h2, h3⟩ := hc
      obtain ⟨x, y, rfl, r1, r2⟩ := relL_two RL
      obtain ⟨s, rfl, rfl⟩ := rel_s r1
      rw [rel_i r2]
      obtain rfl := Option.some.inj (K.k51.symm.trans hk)
      obtain ⟨c, rfl⟩ : ∃ k : Nat, c = (k : Int) := ⟨c.toNat, by omega⟩
      have hsz : s.size ≤ 1000 := by simpa using h3
      have hm : s.size * c ≤ 1000 * 1000 := Nat.mul_le_mul hsz (by omega)
      refine orc_below S (val := .string ⟨((List.replicate c s.data.toList).flatten).toArray⟩) ((Any.strings_Repeat K.l105 K.lX s c w (by omega) (by omega)).mono ?_) (rel_str _)
      rintro e w' ⟨rfl, hb⟩
      exact ⟨by rw [rep_lib], hb⟩
    · cases e1
  · rename_i xs cs
    split at e1
    · rename_i hc
      cases e1
      obtain ⟨rfl, h1, h2, h3⟩ := hc
      obtain ⟨x, y, rfl, r1, r2⟩ := relL_two RL
      obtain ⟨s, rfl, rfl⟩ := rel_s r1
      obtain ⟨c, rfl, rfl⟩ := rel_s r2
      obtain ⟨l160, i116, rfl⟩ := K.o130 _ hk
      refine orc_below S (val := .string ⟨(((s.data.toList.reverse.dropWhile (c.data.toList.contains ·)).reverse).dropWhile (c.data.toList.contains ·)).toArray⟩) ((Any.strings_Trim_laid l160 i116 s c w (by simpa using h1) (by simpa using h2) (ascii_of_all h3)).mono ?_) (rel_str _)
      rintro e w' ⟨rfl, hb⟩
      exact ⟨rfl, hb⟩
    · split at e1
      · rename_i hf
        subst hf
        split at e1
        · rename_i c hh
          cases e1
          obtain ⟨x, y, rfl, r1, r2⟩ := relL_two RL
          obtain ⟨s, rfl, rfl⟩ := rel_s r1
          obtain ⟨z, rfl, hz⟩ := rel_s r2
          obtain ⟨l219, rfl⟩ := K.o222 _ hk
          have ez : z = ⟨#[c]⟩ := mkS hz
          subst ez
          refine orc_below S (val := .int .i64 (idxB s.data.toList c)) ((Any.stringslite_Index_one l219 s c w).mono ?_) (.i _ _)
          rintro e w' ⟨rfl, rfl⟩
          exact ⟨by rw [idx_lib], .refl _ _⟩
        · cases e1
      · cases e1
  · rename_i xs
    split at e1
    · rename_i hc
      cases e1
      obtain ⟨rfl, h1, h2, h3⟩ := hc
      obtain ⟨x, rfl, r1⟩ := relL_one RL
      obtain ⟨s, rfl, rfl⟩ := rel_s r1
      obtain ⟨l172, rfl⟩ := K.o131 _ hk
      refine orc_below S (val := .tuple #[.int .i64 (tv s.data.toList : Nat), .nilIface]) ((Any.strconv_Atoi l172 s _ (by simpa using h2) (atoi_lib h1 h3) w).mono ?_) ?_
      · rintro e w' ⟨rfl, t, rfl⟩
        exact ⟨rfl, Go.Joins.below_bytesWorld _ _ _ _ (Nat.le_refl _)⟩
      · exact RelL.tu (.cons (.i _ _) (.cons .inil .nil))
    · cases e1
  · cases e1
end Go.Eng
namespace Go.Eng
variable {key : Nat → Option FuncId} {P : Program} {T : Tab} {call : Nat → List AV → Hp → Option (AV × Hp)} {F : Nat}
def graft : Code → Code → Code
  | .seq x y, r => .seq x (graft y r)
  | c, r => .seq c r
theorem graft_one (G : GoodCall call) (HC : Callable P key) (CS : CallSound P key T call) (hm : P.follows .mixedOrders = true) (lf : Nat) (c r : Code) (hg : graft c r = .seq c r) (hr : (cCode P T c).regsOk = true)
    {Q : Exit → Act → World → Prop} {l : Loc} {fr fr' : Fr} {a : Act} {h h' : Hp} {w : World} {out : Out} (TO : TabOk key T l) (R : RelF key l fr a.tmps) (S : Sim key F l h w) (hF : h'.next ≤ F)
    (he : evCode call lf (cCode P T c) fr h = some (out, fr', h'))
    (cont : ∀ l' a' w', Ext l h w l' h' w' → RelF key l' fr' a'.tmps → Sim key F l' h' w' → a'.defers = a.defers → Exit.then (r.wp P Q) Q out.toExit a' w') : (graft c r).wp P Q a w := by
  rw [hg]
  exact wp_seq (code_ok G HC CS lf c (draws_ok G HC CS hm c hr) TO R S hF he cont)
theorem graft_ok (G : GoodCall call) (HC : Callable P key) (CS : CallSound P key T call) (hm : P.follows .mixedOrders = true) (lf : Nat) (r : Code) : ∀ (c : Code), (cCode P T c).regsOk = true →
    ∀ {Q : Exit → Act → World → Prop} {l : Loc} {fr fr' : Fr} {a : Act} {h h' : Hp} {w : World} {out : Out}, TabOk key T l → RelF key l fr a.tmps → Sim key F l h w → h'.next ≤ F →
    evCode call lf (cCode P T c) fr h = some (out, fr', h') →
    (∀ l' a' w', Ext l h w l' h' w' → RelF key l' fr' a'.tmps → Sim key F l' h' w' → a'.defers = a.defers → Exit.then (r.wp P Q) Q out.toExit a' w') → (graft c r).wp P Q a w := by
  intro c
  induction c with
  | seq x y _ ihy =>
    intro hr Q l fr fr' a h h' w out TO R S hF he cont
    simp only [cCode, XC.regsOk, Bool.and_eq_true] at hr
    simp only [cCode, evCode] at he
    show (Code.seq x (graft y r)).wp P Q a w
    cases h1 : evCode call lf (cCode P T x) fr h with
    | none => rw [h1] at he; cases he
    | some q =>
      obtain ⟨o1, fr1, h1'⟩ := q
      rw [h1] at he
      have good1 := evCode_good G lf _ h1
      cases o1 with
      | normal =>
        simp only at he
        have good2 := evCode_good G lf _ he
        have hF1 : h1'.next ≤ F := Nat.le_trans good2.le.next hF
        refine wp_seq (code_ok G HC CS lf x (draws_ok G HC CS hm x hr.1) TO R S hF1 h1 fun l1 a1 w1 E1 R1 S1 d1 => ?_)
        exact ihy hr.2 (TO.mono E1.le) R1 S1 hF he fun l2 a2 w2 E2 R2 S2 d2 => cont l2 a2 w2 (.trans (S.hd S1.wf hF1) E1 E2) R2 S2 (d2.trans d1)
      | exit i =>
        cases he
        exact wp_seq (code_ok G HC CS lf x (draws_ok G HC CS hm x hr.1) TO R S hF h1 fun l1 a1 w1 E1 R1 S1 d1 => cont l1 a1 w1 E1 R1 S1 d1)
      | ret =>
        cases he
        exact wp_seq (code_ok G HC CS lf x (draws_ok G HC CS hm x hr.1) TO R S hF h1 fun l1 a1 w1 E1 R1 S1 d1 => cont l1 a1 w1 E1 R1 S1 d1)
  | _ => exact fun hr _ _ _ _ _ _ _ _ _ TO R S hF he cont => graft_one G HC CS hm lf _ r rfl hr TO R S hF he cont
theorem lst_uncons {n : Nat} {l : List Value} (h : l.length = n + 1) : ∃ t l2, l = t :: l2 ∧ l2.length = n := by
  cases l with
  | nil => simp at h
  | cons t l => exact ⟨t, l, rfl, by simpa using h⟩
theorem arr58 (tm : Array Value) (h : tm.size = 58) : ∃ t0 t1 t2 t3 t4 t5 t6 t7 t8 t9 t10 t11 t12 t13 t14 t15 t16 t17 t18 t19 t20 t21 t22 t23 t24 t25 t26 t27 t28 t29 t30 t31 t32 t33 t34 t35 t36 t37 t38 t39 t40 t41 t42 t43 t44 t45 t46 t47 t48 t49 t50 t51 t52 t53 t54 t55 t56 t57, tm = #[t0, t1, t2, t3, t4, t5, t6, t7, t8, t9, t10, t11, t12, t13, t14, t15, t16, t17, t18, t19, t20, t21, t22, t23, t24, t25, t26, t27, t28, t29, t30, t31, t32, t33, t34, t35, t36, t37, t38, t39, t40, t41, t42, t43, t44, t45, t46, t47, t48, t49, t50, t51, t52, t53, t54, t55, t56, t57] := by
  rcases tm with ⟨l⟩
  have h : l.length = 58 := h
  obtain ⟨t0, l0, rfl, h0⟩ := lst_uncons h
  obtain ⟨t1, l1, rfl, h1⟩ := lst_uncons h0
  obtain ⟨t2, l2, rfl, h2⟩ := lst_uncons h1
  obtain ⟨t3, l3, rfl, h3⟩ := lst_uncons h2
  obtain ⟨t4, l4, rfl, h4⟩ := lst_uncons h3
  obtain ⟨t5, l5, rfl, h5⟩ := lst_uncons h4
  obtain ⟨t6, l6, rfl, h6⟩ := lst_uncons h5
  obtain ⟨t7, l7, rfl, h7⟩ := lst_uncons h6
  obtain ⟨t8, l8, rfl, h8⟩ := lst_uncons h7
  obtain ⟨t9, l9, rfl, h9⟩ := lst_uncons h8
  obtain ⟨t10, l10, rfl, h10⟩ := lst_uncons h9
  obtain ⟨t11, l11, rfl, h11⟩ := lst_uncons h10
  obtain ⟨t12, l12, rfl, h12⟩ := lst_uncons h11
  obtain ⟨t13, l13, rfl, h13⟩ := lst_uncons h12
  obtain ⟨t14, l14, rfl, h14⟩ := lst_uncons h13
  obtain ⟨t15, l15, rfl, h15⟩ := lst_uncons h14
  obtain ⟨t16, l16, rfl, h16⟩ := lst_uncons h15
  obtain ⟨t17, l17, rfl, h17⟩ := lst_uncons h16
  obtain ⟨t18, l18, rfl, h18⟩ := lst_uncons h17
  obtain ⟨t19, l19, rfl, h19⟩ := lst_uncons h18
  obtain ⟨t20, l20, rfl, h20⟩ := lst_uncons h19
  obtain ⟨t21, l21, rfl, h21⟩ := lst_uncons h20
  obtain ⟨t22, l22, rfl, h22⟩ := lst_uncons h21
  obtain ⟨t23, l23, rfl, h23⟩ := lst_uncons h22
  obtain ⟨t24, l24, rfl, h24⟩ := lst_uncons h23
  obtain ⟨t25, l25, rfl, h25⟩ := lst_uncons h24
  obtain ⟨t26, l26, rfl, h26⟩ := lst_uncons h25
  obtain ⟨t27, l27, rfl, h27⟩ := lst_uncons h26
  obtain ⟨t28, l28, rfl, h28⟩ := lst_uncons h27
  obtain ⟨t29, l29, rfl, h29⟩ := lst_uncons h28
  obtain ⟨t30, l30, rfl, h30⟩ := lst_uncons h29
  obtain ⟨t31, l31, rfl, h31⟩ := lst_uncons h30
  obtain ⟨t32, l32, rfl, h32⟩ := lst_uncons h31
  obtain ⟨t33, l33, rfl, h33⟩ := lst_uncons h32
  obtain ⟨t34, l34, rfl, h34⟩ := lst_uncons h33
  obtain ⟨t35, l35, rfl, h35⟩ := lst_uncons h34
  obtain ⟨t36, l36, rfl, h36⟩ := lst_uncons h35
  obtain ⟨t37, l37, rfl, h37⟩ := lst_uncons h36
  obtain ⟨t38, l38, rfl, h38⟩ := lst_uncons h37
  obtain ⟨t39, l39, rfl, h39⟩ := lst_uncons h38
  obtain ⟨t40, l40, rfl, h40⟩ := lst_uncons h39
  obtain ⟨t41, l41, rfl, h41⟩ := lst_uncons h40
  obtain ⟨t42, l42, rfl, h42⟩ := lst_uncons h41
  obtain ⟨t43, l43, rfl, h43⟩ := lst_uncons h42
  obtain ⟨t44, l44, rfl, h44⟩ := lst_uncons h43
  obtain ⟨t45, l45, rfl, h45⟩ := lst_uncons h44
  obtain ⟨t46, l46, rfl, h46⟩ := lst_uncons h45
  obtain ⟨t47, l47, rfl, h47⟩ := lst_uncons h46
  obtain ⟨t48, l48, rfl, h48⟩ := lst_uncons h47
  obtain ⟨t49, l49, rfl, h49⟩ := lst_uncons h48
  obtain ⟨t50, l50, rfl, h50⟩ := lst_uncons h49
  obtain ⟨t51, l51, rfl, h51⟩ := lst_uncons h50
  obtain ⟨t52, l52, rfl, h52⟩ := lst_uncons h51
  obtain ⟨t53, l53, rfl, h53⟩ := lst_uncons h52
  obtain ⟨t54, l54, rfl, h54⟩ := lst_uncons h53
  obtain ⟨t55, l55, rfl, h55⟩ := lst_uncons h54
  obtain ⟨t56, l56, rfl, h56⟩ := lst_uncons h55
  obtain ⟨t57, l57, rfl, h57⟩ := lst_uncons h56
  obtain rfl := List.eq_nil_of_length_eq_zero h57
  exact ⟨t0, t1, t2, t3, t4, t5, t6, t7, t8, t9, t10, t11, t12, t13, t14, t15, t16, t17, t18, t19, t20, t21, t22, t23, t24, t25, t26, t27, t28, t29, t30, t31, t32, t33, t34, t35, t36, t37, t38, t39, t40, t41, t42, t43, t44, t45, t46, t47, t48, t49, t50, t51, t52, t53, t54, t55, t56, t57, rfl⟩
end Go.Eng
namespace Go.Proofs
open Go.Eng Go.RowKit Go.Shelf
noncomputable def Tryz.strPre : Code := match Tryz.f67.body with | some (.seq a (.seq b (.seq c (.seq d (.seq e _))))) => .seq a (.seq b (.seq c (.seq d e))) | _ => .skip
noncomputable def Tryz.strTail : Code := match Tryz.f67.body with | some (.seq _ (.seq _ (.seq _ (.seq _ (.seq _ r))))) => r | _ => .skip
theorem Tryz.hidS {p : Prop} (h : p) : Hid p := h
set_option maxHeartbeats 4000000 in
set_option maxRecDepth 100000 in
theorem Tryz.str_tail (neg : Bool) (ps : List (List UInt8)) (hne : ps.reverse.flatten ≠ []) (hlen : ps.length ≤ 20000) (htot : ps.flatten.length ≤ 1000000)
    (b1 o1 b3 o3 c : Nat) (w : World) (hneg : w.cell? ⟨b1, o1, none⟩ = some (.bool neg)) (hb1 : b1 < w.heap.size) (hb3 : b3 < w.heap.size)
    (hcells : ∀ j x, ps[j]? = some x → w.cell? ⟨b3, o3 + j, none⟩ = some (.string ⟨x.toArray⟩))
    (tm : Array Value) (hsz : tm.size = 58) (h1 : tm[1]? = some (.pointer (some ⟨b1, o1, none⟩))) (h3 : tm[3]? = some (.slice (some ⟨b3, o3, none⟩) ps.length c)) :
    Tryz.strTail.wp Tryz.prog (fun e a w' => e = .ret ∧ a.defers = [] ∧ a.tmps.getD 2 undef = .string ⟨((if neg then [45] else []) ++ ps.reverse.flatten).toArray⟩ ∧ Below w.heap.size w w') ⟨tm, []⟩ w := by
  have HC := Tryz.hidS hcells
  clear hcells
  obtain ⟨t0, t1, t2, t3, t4, t5, t6, t7, t8, t9, t10, t11, t12, t13, t14, t15, t16, t17, t18, t19, t20, t21, t22, t23, t24, t25, t26, t27, t28, t29, t30, t31, t32, t33, t34, t35, t36, t37, t38, t39, t40, t41, t42, t43, t44, t45, t46, t47, t48, t49, t50, t51, t52, t53, t54, t55, t56, t57, rfl⟩ := arr58 tm hsz
  simp only [List.getElem?_toArray, List.getElem?_cons_succ, List.getElem?_cons_zero, Option.some.injEq] at h1 h3
  subst h1
  subst h3
  clear hsz
  unfold Tryz.strTail
  simp only [Tryz.f67]
  have hF : Lib.IsBuilder 141 5 w.heap.size w.heap.size [] (w.alloc (.cells #[.pointer none, .slice none 0 0] 141)) := Lib.fresh_isBuilder 141 5 w
  have hB0 : Below w.heap.size w (w.alloc (.cells #[.pointer none, .slice none 0 0] 141)) := (Below.refl w.heap.size w).alloc (Nat.le_refl _) _
  have HF := Tryz.hidS hF
  have HB0 := Tryz.hidS hB0
  clear hF hB0
  obtain ⟨pre, hpre⟩ : ∃ pre : List UInt8, pre = if neg then [45] else [] := ⟨_, rfl⟩
  have hprel : pre.length ≤ 1 := by rw [hpre]; split <;> simp
  rw [← hpre]
  have tail : ∀ (k : Nat), ((ps.drop k).reverse.flatten).length ≤ 1000000 := fun k => by
    have e := congrArg (fun l => (List.flatten l).length) (List.take_append_drop k ps)
    simp only [List.flatten_append, List.length_append] at e
    have e2 : ((ps.drop k).reverse.flatten).length = ((ps.drop k).flatten).length := by
      simp only [List.length_flatten, List.map_reverse, List.sum_reverse]
    omega
  have HT := Tryz.hidS tail
  clear tail
  cases neg
  case' false =>
    have e0 : pre = [] := by simpa using hpre
    have H1 := Tryz.hidS (show Lib.IsBuilder 141 5 w.heap.size w.heap.size (Lib.byteCells pre) (w.alloc (.cells #[.pointer none, .slice none 0 0] 141)) by rw [e0]; exact HF.out)
    have HB1 := HB0
    go_wp2_with fail
  case' true =>
    have e0 : pre = [45] := by simpa using hpre
    go_wp2_with fail
    refine (Any.Builder_WriteByte Tryz.l167 Tryz.lX w.heap.size w.heap.size [] 45 _ HF.out (by simp) (by simp)).mono ?_
    rintro e w2 ⟨rfl, h2, hb2⟩
    have H1 := Tryz.hidS (show Lib.IsBuilder 141 5 w.heap.size w.heap.size (Lib.byteCells pre) w2 by rw [e0]; exact Or.inr h2)
    have HB1 := Tryz.hidS (HB0.out.trans hb2)
    clear h2 hb2
    go_wp2_with fail
  all_goals (
    go_loopw [9] (fun i wr => ∃ k : Nat, k ≤ ps.length ∧ i = .int .i64 ((k : Int) - 1) ∧ Hid (Lib.IsBuilder 141 5 w.heap.size w.heap.size (Lib.byteCells (pre ++ (ps.drop k).reverse.flatten)) wr) ∧ Hid (Below w.heap.size w wr)) (fun i _ => (intOf i + 1).toNat)
    case atStart => exact ⟨ps.length, Nat.le_refl _, rfl, by rw [List.drop_length]; simpa using H1, HB1⟩
    case round =>
      obtain ⟨k, hk, rfl, HB, HW⟩ := hrel
      by_cases hk0 : k = 0
      · subst hk0
        have hd : (ps.drop 0) = ps := List.drop_zero
        rw [hd] at HB
        go_wp2_with fail
        refine (Any.Builder_String { Tryz.l105 with } Tryz.lX w.heap.size w.heap.size (pre ++ ps.reverse.flatten) wr HB.out (fun q => hne (List.append_eq_nil_iff.1 q).2)).mono ?_
        rintro e w3 ⟨rfl, hb3'⟩
        go_wp2_with fail
        exact HW.out.trans hb3'
      · obtain ⟨m, rfl⟩ : ∃ m, k = m + 1 := ⟨k - 1, by omega⟩
        have hm : m < ps.length := by omega
        obtain ⟨x, hx⟩ : ∃ x, ps[m]? = some x := ⟨ps[m], List.getElem?_eq_getElem hm⟩
        have hc := HC.out m x hx
        rw [← HW.out.cell (p := ⟨b3, o3 + m, none⟩) hb3] at hc
        have hdrop : (ps.drop m).reverse.flatten = (ps.drop (m + 1)).reverse.flatten ++ x := by
          have e : ps.drop m = x :: ps.drop (m + 1) := by
            have := List.drop_eq_getElem_cons hm
            rw [List.getElem?_eq_getElem hm] at hx
            cases hx; exact this
          rw [e]; simp
        have hl := HT.out m
        rw [hdrop, List.length_append] at hl
        have Hd := Tryz.hidS hdrop
        have hBw : w.heap.size ≤ wr.heap.size := HW.out.size
        have i1 : ((m + 1 : Nat) : Int) - 1 = (m : Int) := by omega
        rw [i1]
        clear hdrop hx
        have hxs : (⟨x.toArray⟩ : ByteArray).size = x.length := rfl
        go_wp2_with fail
        refine (Any.Builder_WriteString { Tryz.l105 with } Tryz.lX w.heap.size w.heap.size _ ⟨x.toArray⟩ wr HB.out (by rw [Lib.byteCells_length, List.length_append, hxs]; omega) hBw).mono ?_
        rintro e w2' ⟨rfl, h2', hb2'⟩
        have H2 := Tryz.hidS (show Lib.IsBuilder 141 5 w.heap.size w.heap.size (Lib.byteCells (pre ++ (ps.drop m).reverse.flatten)) w2' by
          rw [Hd.out, ← List.append_assoc, Lib.byteCells_append]
          rw [Lib.strCells_eq] at h2'
          exact Or.inr h2')
        have Hb2 := Tryz.hidS (HW.out.trans hb2')
        clear h2' hb2'
        go_wp2_with fail
        exact ⟨⟨m, by omega, rfl, H2, Hb2⟩, by simp [intOf]⟩)
end Go.Proofs
namespace Go.Eng
open Go.RowKit
variable {key : Nat → Option FuncId} {P : Program} {T : Tab}
def Hp.tw (h : Hp) (t : Blk) (n : Nat) (cs : List AV) : Hp := ⟨fun k => if k = 0 then some { t with rw := false } else if k = n then some ⟨cs, false, 0⟩ else none, h.next⟩
def Loc.tw (a0 : At) (n : Nat) (a1 : At) : Loc := fun k => if k = 0 then some a0 else if k = n then some a1 else none
theorem powT_rel {l l2 : Loc} {i : Nat} (hi : i < powT.length) {v : Value} (r : Rel key l powT[i] v) : Rel key l2 powT[i] v := by
  have e : powT[i] = .i .u64 ((10 ^ i : Nat) : Int) := by
    simp only [powT]; rw [List.getElem_map, List.getElem_range]
  rw [e] at r ⊢
  cases r; exact .i _ _
theorem tw_sim {F F' : Nat} {l : Loc} {h : Hp} {w : World} (S : Sim key F l h w) {t : Blk} {a0 : At} (ht : h.m 0 = some t) (hv : t.v = powT) (h0 : l 0 = some a0) {n : Nat} (hn : n = 0 ∨ n < h.next) {xs : List Nat} {a1 : At}
    (hb : n ≠ 0 → a1.b < w.heap.size ∧ a1.w = false ∧ xs.length ≤ a1.n ∧ ∀ i (hi : i < xs.length), w.cell? ⟨a1.b, a1.o + i, none⟩ = some (.int .u32 ((xs[i] : Nat) : Int))) :
    Sim key F' (Loc.tw a0 n a1) (h.tw t n (xs.map fun x : Nat => .i .u32 (x : Int))) w := by
  have h0n : 0 < h.next := by
    rcases Nat.eq_zero_or_pos h.next with q | q
    · rw [S.wf 0 (by omega)] at ht; cases ht
    · exact q
  refine ⟨fun k b a e1 e2 => ?_, fun k b a k' b' a' e1 e2 e3 => ?_, fun k a e => ?_, fun k a e => ?_, fun k hk => ?_⟩
  · by_cases hk : k = 0
    · subst hk
      simp only [Hp.tw, Loc.tw, if_true] at e1 e2
      cases e1; cases e2
      have H := S.holds 0 t a0 ht h0
      refine ⟨H.lt, H.len, fun i hi => ?_, H.scal, fun q => (by cases q), fun q => ⟨rfl, (H.whole q).2⟩⟩
      obtain ⟨v, c1, c2⟩ := H.cell i hi
      refine ⟨v, c1, ?_⟩
      have hi' : i < powT.length := by rw [← hv]; exact hi
      have e : t.v[i] = powT[i] := by simp only [hv]
      simp only at hi ⊢
      rw [e] at c2 ⊢
      exact powT_rel hi' c2
    · by_cases hkn : k = n
      · subst hkn
        simp only [Hp.tw, Loc.tw, if_neg hk, if_true] at e1 e2
        cases e1; cases e2
        obtain ⟨q1, q0, q2, q3⟩ := hb hk
        refine ⟨q1, by simpa using q2, fun i hi => ?_, fun i hi => ?_, fun q => (by cases q), fun q => ?_⟩
        · simp only [List.length_map] at hi
          refine ⟨_, q3 i hi, ?_⟩
          simp only [List.getElem_map]
          exact .i _ _
        · simp only [List.getElem_map]; rfl
        · rw [q0] at q; cases q
      · simp only [Hp.tw, if_neg hk, if_neg hkn] at e1; cases e1
  · simp only [Hp.tw] at e1
    split at e1
    · cases e1; cases e3
    · split at e1
      · cases e1; cases e3
      · cases e1
  · simp only [Loc.tw] at e
    split at e
    · cases e; exact S.lt 0 a0 h0
    · rename_i hk
      split at e
      · rename_i hkn; cases e; exact (hb (hkn ▸ hk)).1
      · cases e
  · left
    simp only [Loc.tw] at e
    split at e
    · rename_i hk; subst hk; exact h0n
    · rename_i hk
      split at e
      · rename_i hkn; subst hkn; exact hn.resolve_left hk
      · cases e
  · have hk' : h.next ≤ k := hk
    simp only [Hp.tw]
    rw [if_neg (by omega), if_neg (by omega)]
theorem txt_tw {F : Nat} {l : Loc} {h : Hp} {w : World} (S : Sim key F l h w) {t : Blk} {a0 : At} (ht : h.m 0 = some t) (hv : t.v = powT) (h0 : l 0 = some a0) {neg : Bool} {wv : AV} {val : Value} {tx : List UInt8}
    (e : txtA [.ag [.b neg, wv]] h = some tx) (r : Rel key l wv val) : ∃ n cs a1 wv' v, (∀ F', Sim key F' (Loc.tw a0 n a1) (h.tw t n cs) w) ∧ Rel key (Loc.tw a0 n a1) wv' val ∧ wlen v ≤ 512 ∧ (neg = true → v ≠ 0) ∧
      tx = decI (if neg then -(v : Int) else (v : Int)) ∧ V (h.tw t n cs) (fun _ => False) [] (D v) wv' := by
  have small : ∀ {wv' : AV}, Rel key (Loc.tw a0 0 a0) wv' val → txtA [.ag [.b neg, wv']] (h.tw t 0 []) = some tx → (∀ m off len cap z, wv' = .sl m off len cap z → False) →
      ∃ n cs a1 wv' v, (∀ F', Sim key F' (Loc.tw a0 n a1) (h.tw t n cs) w) ∧ Rel key (Loc.tw a0 n a1) wv' val ∧ wlen v ≤ 512 ∧ (neg = true → v ≠ 0) ∧
      tx = decI (if neg then -(v : Int) else (v : Int)) ∧ V (h.tw t n cs) (fun _ => False) [] (D v) wv' := fun {wv'} r1 e1 hs => by
    obtain ⟨v, v1, v2, v3, v4⟩ := txtA_inv e1 fun m off len cap z q => (hs _ _ _ _ _ q).elim
    exact ⟨0, [], a0, wv', v, fun F' => tw_sim (xs := []) S ht hv h0 (.inl rfl) fun q => (q rfl).elim, r1, v1, v2, v3, v4⟩
  cases r with
  | @sl n off len cap cap' z a ha q1 q2 q3 =>
      replace e : (if len = 0 then wtx neg [] else if z = 1 then ((h.rd n off len).bind wordsA).bind (wtx neg) else none) = some tx := e
      split at e
      · rename_i hl
        subst hl
        exact small (wv' := .e0) (.e0 _ _) e fun _ _ _ _ _ q => by cases q
      · rename_i hl
        split at e
        · rename_i hz
          subst hz
          simp only [Option.bind_eq_some_iff] at e
          obtain ⟨xs, ⟨cs, e1, e2⟩, e3⟩ := e
          obtain ⟨w1, w2⟩ := wordsA_ok e2
          unfold Hp.rd at e1
          split at e1
          · rename_i b hb
            split at e1
            · rename_i hle
              cases e1
              have hxl : xs.length = len := by
                have := congrArg List.length w1
                simp at this; omega
              have hg : ∀ i (hi : i < xs.length), b.v[off + i]? = some (.i .u32 ((xs[i] : Nat) : Int)) := fun i hi => by
                have : ((b.v.drop off).take len)[i]? = some (.i .u32 ((xs[i] : Nat) : Int)) := by
                  rw [w1, List.getElem?_map, List.getElem?_eq_getElem hi]; rfl
                rw [List.getElem?_take, if_pos (by omega), List.getElem?_drop] at this
                exact this
              have hn0 : n ≠ 0 := fun q => by
                subst q
                rw [ht] at hb; cases hb
                have h1 := hg 0 (by omega)
                rw [hv] at h1
                simp only [powT, List.getElem?_map] at h1
                cases h2 : (List.range 20)[off + 0]? with
                | none => rw [h2] at h1; cases h1
                | some y => rw [h2] at h1; cases h1
              have hlt : n < h.next := by
                by_cases q : n < h.next
                · exact q
                · rw [S.wf n (by omega)] at hb; cases hb
              have H := S.holds n b a hb ha
              let a1 : At := ⟨a.b, a.o + off, a.n - off, false⟩
              have hsim : ∀ F', Sim key F' (Loc.tw a0 n a1) (h.tw t n (xs.map fun x : Nat => .i .u32 (x : Int))) w := fun F' => tw_sim S ht hv h0 (.inr hlt) fun _ => ⟨H.lt, rfl, by show xs.length ≤ a.n - off; have := H.len; omega, fun i hi => by
                have h1 := hg i hi
                have hoi : off + i < b.v.length := by omega
                obtain ⟨v, c1, c2⟩ := H.cell (off + i) hoi
                rw [List.getElem?_eq_getElem hoi] at h1
                cases h1' : b.v[off + i] with
                | i k m =>
                  rw [h1'] at h1 c2
                  cases h1
                  cases c2
                  show w.cell? ⟨a.b, a.o + off + i, none⟩ = _
                  rw [Nat.add_assoc]; exact c1
                | _ => rw [h1'] at h1; cases h1⟩
              have hrel : Rel key (Loc.tw a0 n a1) (.sl n 0 len cap 1) (.slice (some ⟨a.b, a.o + off, none⟩) len cap') := by
                have hl : Loc.tw a0 n a1 n = some a1 := by simp only [Loc.tw, if_neg hn0, if_true]
                have := Rel.sl (key := key) (off := 0) (len := len) (cap := cap) (cap' := cap') (z := 1) hl q1 (by show 0 + cap' * 1 ≤ a.n - off; omega) q3
                exact this
              have htx : txtA [.ag [.b neg, .sl n 0 len cap 1]] (h.tw t n (xs.map fun x : Nat => .i .u32 (x : Int))) = some tx := by
                have hrd : (h.tw t n (xs.map fun x : Nat => AV.i .u32 (x : Int))).rd n 0 len = some (xs.map fun x : Nat => .i .u32 (x : Int)) := by
                  simp only [Hp.rd, Hp.tw, if_neg hn0, if_true]
                  rw [if_pos (by simp; omega), List.drop_zero, List.take_of_length_le (by simp; omega)]
                show (if len = 0 then wtx neg [] else if 1 = 1 then (((h.tw t n (xs.map fun x : Nat => AV.i .u32 (x : Int))).rd n 0 len).bind wordsA).bind (wtx neg) else none) = _
                rw [if_neg hl, if_pos rfl, hrd, Option.bind_some, ← w1, e2, Option.bind_some]
                exact e3
              obtain ⟨v, v1, v2, v3, v4⟩ := txtA_inv htx fun m off' len' cap'' z q => by cases q; exact q3
              exact ⟨n, _, a1, _, v, hsim, hrel, v1, v2, v3, v4⟩
            · cases e1
          · cases e1
        · cases e
  | sn => exact small .sn e fun _ _ _ _ _ q => by cases q
  | se b => exact small (.se b) e fun _ _ _ _ _ q => by cases q
  | e0 b c => exact small (.e0 b c) e fun _ _ _ _ _ q => by cases q
  | _ => simp [txtA] at e
end Go.Eng
namespace Go.Eng
open Go.RowKit
variable {key : Nat → Option FuncId} {P : Program} {T : Tab}
theorem res_tmp2 {fn : Func} (h : fn.results = #[.tmp 2]) (tmps : Array Value) (w : World) : (results fn tmps).run P w = .ok (tmps.getD 2 undef) w := by
  unfold results
  rw [h, Array.mapM_eq_mapM_toList]
  rfl
theorem rel_sv {l : Loc} {xs : List UInt8} {v : Value} (h : Rel key l (.s xs) v) : v = .string ⟨xs.toArray⟩ := by
  generalize hx : AV.s xs = x at h
  cases h <;> cases hx
  rfl
theorem dec_ne (v : Nat) : dec v ≠ [] := by
  unfold dec
  split
  · simp
  · rename_i h
    intro q
    have h1 := congrArg List.length q
    rw [dtx_len] at h1
    have := dlen_lt v
    simp at h1
    rw [h1] at this
    simp at this; omega
theorem txtA_shape {args : List AV} {h : Hp} {l : List UInt8} (e : txtA args h = some l) : ∃ neg w, args = [.ag [.b neg, w]] := by
  unfold txtA at e
  split at e
  · exact ⟨_, _, rfl⟩
  · exact ⟨_, _, rfl⟩
  · exact ⟨_, _, rfl⟩
  · exact ⟨_, _, rfl⟩
  · cases e
theorem str_orc (K1 : ProgOk P key T E1.prog) (KE : PEnvOk E1) (hT0 : ∀ g n, T.gkey g = some n → n = 0) {G : Nat} (hG : T.gkey G = some 0) {fn : Func} {g : Nat} (hfn : P.funcs[g]? = some fn) {pre tail : Code} (hbody : fn.body = some (graft pre tail)) (hpre : cCode P T pre = strA)
    (hnt : fn.ntmps = 58) (hres : fn.results = #[.tmp 2])
    (htail : ∀ (neg : Bool) (ps : List (List UInt8)), ps.reverse.flatten ≠ [] → ps.length ≤ 20000 → ps.flatten.length ≤ 1000000 →
      ∀ (b1 o1 b3 o3 c : Nat) (w : World), w.cell? ⟨b1, o1, none⟩ = some (.bool neg) → b1 < w.heap.size → b3 < w.heap.size →
      (∀ j x, ps[j]? = some x → w.cell? ⟨b3, o3 + j, none⟩ = some (.string ⟨x.toArray⟩)) →
      ∀ (tm : Array Value), tm.size = 58 → tm[1]? = some (.pointer (some ⟨b1, o1, none⟩)) → tm[3]? = some (.slice (some ⟨b3, o3, none⟩) ps.length c) →
      tail.wp P (fun e a w' => e = .ret ∧ a.defers = [] ∧ a.tmps.getD 2 undef = .string ⟨((if neg then [45] else []) ++ ps.reverse.flatten).toArray⟩ ∧ Below w.heap.size w w') ⟨tm, []⟩ w)
    {F : Nat} {args : List AV} {vs : Array Value} {h h' : Hp} {v : AV} {l : Loc} {w : World} (e : orcA 33 args h = some (v, h')) (TO : TabOk key T l)
    (RL : RelL key l args vs.toList) (S : Sim key F l h w) : Calls P g vs w fun e w' => ∃ l' val, e = .returned val ∧ Ext l h w l' h' w' ∧ Sim key F l' h' w' ∧ Rel key l' v val := by
  unfold orcA at e
  rw [if_pos rfl] at e
  split at e
  case isFalse => cases e
  rename_i ht
  simp only [Option.map_eq_some_iff, Prod.mk.injEq] at e
  obtain ⟨tx, e1, rfl, rfl⟩ := e
  obtain ⟨t, t1, t2⟩ := ht
  obtain ⟨m0, hl0⟩ := TO.g G 0 hG
  obtain ⟨neg, wv, rfl⟩ := txtA_shape e1
  have hvs : ∃ val, vs = #[.agg #[.bool neg, val]] ∧ Rel key l wv val := by
    have hlen := RL.1
    rcases vs with ⟨vs⟩
    match vs, hlen with
    | [x], _ =>
      have r := RL.2 0 (by simp) (by simp)
      simp only [List.getElem_cons_zero] at r
      cases r with
      | @ag _ ws hn hv =>
        rcases ws with ⟨ws⟩
        match ws, hn with
        | [a, b], _ =>
          have r1 := hv 0 (by simp) (by simp)
          have r2 := hv 1 (by simp) (by simp)
          simp only [List.getElem_cons_zero, List.getElem_toArray, List.getElem_cons_succ] at r1 r2
          cases r1
          exact ⟨b, rfl, r2⟩
  obtain ⟨val, rfl, rv⟩ := hvs
  obtain ⟨n, cs, a1, wv', z, hsim, rv', hz, hneg, htx, hV⟩ := txt_tw S t1 t2 hl0 e1 rv
  generalize hh0 : h.tw t n cs = h0 at hsim hV
  generalize hll : Loc.tw ⟨G, 0, m0, true⟩ n a1 = l0 at hsim rv'
  have hw0 : h0.wf := (hsim 0).wf
  have hT : HasT h0 := ⟨{ t with rw := false }, by rw [← hh0]; rfl, t2⟩
  have norw : ∀ k b, h0.m k = some b → b.rw = false := fun k b q => by
    rw [← hh0] at q
    simp only [Hp.tw] at q
    split at q
    · cases q; rfl
    · split at q
      · cases q; rfl
      · cases q
  have TO0 : TabOk key T l0 := ⟨TO.f, fun g' n' q => by
    obtain rfl := hT0 g' n' q
    obtain ⟨m, hm⟩ := TO.g g' 0 q
    rw [hl0] at hm; cases hm
    exact ⟨m0, by rw [← hll]; rfl⟩⟩
  have RA : RelL key l0 [.ag [.b neg, wv']] [.agg #[.bool neg, val]] := .cons ((RelL.cons (.b neg) (.cons rv' .nil)).ag) .nil
  have RF : RelF key l0 ([.ag [.b neg, wv']] ++ List.replicate 57 undefA) (#[.agg #[.bool neg, val]] ++ Array.replicate (fn.ntmps - (#[Value.agg #[.bool neg, val]] : Array Value).size) undef) := by
    rw [hnt]
    unfold RelF
    rw [Array.toList_append, Array.toList_replicate]
    exact RA.append ⟨by simp, fun i q1 q2 => by rw [List.getElem_replicate, List.getElem_replicate]; exact rel_undef⟩
  have hbel : ∀ {l1 h1 w1}, Ext l0 h0 w l1 h1 w1 → Below w.heap.size w w1 := fun {l1 h1 w1} E =>
    ⟨E.os, E.tape, E.output, E.size, fun b hb => E.frame b hb fun m blk a q1 q2 => by rw [norw m blk q1] at q2; cases q2⟩
  have hregs : (cCode P T pre).regsOk = true := by rw [hpre]; decide
  have goodCall := evF_good K1
  have final : Calls P g #[.agg #[.bool neg, val]] w fun e w' => e = .returned (.string ⟨tx.toArray⟩) ∧ Below w.heap.size w w' := by
    refine calls_of_wp hfn hbody ?_
    by_cases hz0 : z = 0
    · subst hz0
      have hnf : neg = false := by
        cases neg
        · rfl
        · exact (hneg rfl rfl).elim
      subst hnf
      have htx' : tx = [48] := by rw [htx]; rfl
      obtain ⟨lf, fr', h1, ev, f2⟩ := str0_ev KE hw0 hT hV
      refine graft_ok (goodCall lf) K1.call (evF_sound K1 lf) K1.mixed lf tail pre hregs TO0 RF (hsim h1.next) (Nat.le_refl _) (by rw [hpre]; exact ev) fun l' a' w' E R' S' hd => ?_
      have r2 := RelF.get R' 2
      rw [f2] at r2
      refine ⟨hd, _, res_tmp2 hres _ _, ?_, hbel E⟩
      rw [htx']
      generalize a'.tmps.getD 2 undef = x at r2
      rw [rel_sv r2]
    · obtain ⟨lf, fr', h1, p0, m, len, cap, ps, ev, hlen, f1, ⟨b0, hb0, hb0v⟩, f3, ⟨b1, hb1, hb1v⟩, rfl, g1, g2, g3⟩ := strA_ev KE (neg := neg) hw0 hT hz0 hz hV
      refine graft_ok (goodCall lf) K1.call (evF_sound K1 lf) K1.mixed lf tail pre hregs TO0 RF (hsim h1.next) (Nat.le_refl _) (by rw [hpre]; exact ev) fun l' a' w' E R' S' hd => ?_
      have r1 := RelF.get R' 1
      have r3 := RelF.get R' 3
      rw [f1] at r1
      rw [f3] at r3
      have hsz : a'.tmps.size = 58 := by
        have := R'.1
        simp at this; omega
      have gd : ∀ i, i < 58 → a'.tmps[i]? = some (a'.tmps.getD i undef) := fun i hi => by
        rw [Array.getD_eq_getD_getElem?, Array.getElem?_eq_getElem (by omega)]; rfl
      have gd1 := gd 1 (by omega)
      have gd3 := gd 3 (by omega)
      generalize a'.tmps.getD 1 undef = x1 at r1 gd1
      generalize a'.tmps.getD 3 undef = x3 at r3 gd3
      cases r1 with
      | @p _ _ a1' q1 =>
        cases r3 with
        | @sl _ _ _ _ cap' _ a3 q3 s1 s2 s3 =>
          have H0 := S'.holds _ _ _ hb0 q1
          have H3 := S'.holds _ _ _ hb1 q3
          have hneg' : w'.cell? ⟨a1'.b, a1'.o + 0, none⟩ = some (.bool neg) := by
            have hl : 0 < b0.v.length := by
              rcases Nat.eq_zero_or_pos b0.v.length with q | q
              · rw [List.getElem?_eq_none (by omega)] at hb0v; cases hb0v
              · exact q
            obtain ⟨y, c1, c2⟩ := H0.cell 0 hl
            rw [List.getElem?_eq_getElem hl] at hb0v
            rw [Option.some.inj hb0v] at c2
            cases c2; exact c1
          have hcells : ∀ j x, ps[j]? = some x → w'.cell? ⟨a3.b, a3.o + 0 + j, none⟩ = some (.string ⟨x.toArray⟩) := fun j x hx => by
            have hj : j < ps.length := by
              by_cases q : j < ps.length
              · exact q
              · rw [List.getElem?_eq_none (by omega)] at hx; cases hx
            have hj' : j < b1.v.length := by rw [hb1v]; simpa using hj
            obtain ⟨y, c1, c2⟩ := H3.cell j hj'
            have e : b1.v[j] = .s x := by
              simp only [hb1v, List.getElem_map]
              rw [List.getElem?_eq_getElem hj] at hx
              rw [Option.some.inj hx]
            rw [e] at c2
            have hy : y = .string ⟨x.toArray⟩ := by
              generalize hs : AV.s x = ax at c2
              cases c2 <;> cases hs
              rfl
            rw [Nat.add_zero, ← hy]; exact c1
          have hne : ps.reverse.flatten ≠ [] := by rw [g3]; exact dec_ne z
          have htot : ps.flatten.length ≤ 1000000 := by
            have h1 : ps.flatten.length = ps.reverse.flatten.length := by
              simp only [List.length_flatten, List.map_reverse, List.sum_reverse]
            rw [h1, g3]
            have h2 := dlen_w hz
            unfold dec
            rw [if_neg hz0, dtx_len]; omega
          have tl := htail neg ps hne g2 htot a1'.b (a1'.o + 0) a3.b (a3.o + 0) cap' w' hneg' H0.lt H3.lt hcells a'.tmps hsz gd1 gd3
          have ha : a' = ⟨a'.tmps, []⟩ := by
            rcases a' with ⟨tm, df⟩
            simp only at hd
            rw [hd]
          show tail.wp P (bodyPost P fn _) a' w'
          rw [ha]
          refine wp_mono tl ?_
          rintro e a2 w2 ⟨rfl, d2, v2, bl⟩
          refine ⟨d2, _, res_tmp2 hres _ _, ?_, (hbel E).trans ⟨bl.os, bl.tape, bl.output, bl.size, fun k hk => bl.block k (Nat.lt_of_lt_of_le hk E.size)⟩⟩
          rw [v2, g3, htx]
          unfold decI
          cases neg
          · simp only [Bool.false_eq_true, if_false]
            rw [if_neg (by omega)]
            simp
          · simp only [if_true]
            rw [if_pos (by omega)]
            simp
  exact orc_below S final (rel_str tx)
end Go.Eng
namespace Go.Eng
theorem prog_mem {f : Nat} {d : XD} (h : prog f = some d) : some d ∈ progL := by
  unfold prog at h
  cases h1 : progL[f]? with
  | none => rw [h1] at h; cases h
  | some x =>
    rw [h1] at h
    cases x with
    | none => cases h
    | some y => cases h; exact List.mem_of_getElem? h1
def dOkD : Option XD → Bool
  | some (.fn xf) => xf.body.dOk xf.n
  | _ => true
theorem dOk_all : progL.all dOkD = true := by kernel_rfl
def isO : Option XD → Bool
  | some (.orc _) => true
  | _ => false
theorem orc_at {f : Nat} {o : List AV → Hp → Option (AV × Hp)} (h : prog f = some (.orc o)) : o = orcA f ∧ (f = 33 ∨ f = 50 ∨ f = 51 ∨ f = 130 ∨ f = 131 ∨ f = 222) := by
  have hf : isO (prog f) = true := by rw [h]; rfl
  have all : (List.range progL.length).all (fun f => !isO (prog f) || (f == 33 || f == 50 || f == 51 || f == 130 || f == 131 || f == 222)) = true := by kernel_rfl
  have hlt : f < progL.length := by
    unfold prog at h
    by_cases q : f < progL.length
    · exact q
    · rw [List.getElem?_eq_none (by omega)] at h; cases h
  rw [List.all_eq_true] at all
  have := all f (List.mem_range.2 hlt)
  rw [hf] at this
  simp only [Bool.not_true, Bool.false_or, Bool.or_eq_true, beq_iff_eq] at this
  have hc : f = 33 ∨ f = 50 ∨ f = 51 ∨ f = 130 ∨ f = 131 ∨ f = 222 := by omega
  refine ⟨?_, hc⟩
  rcases hc with rfl | rfl | rfl | rfl | rfl | rfl
  · first | (have e : prog 33 = some (.orc (orcA 33)) := rfl; rw [e] at h; cases h; rfl) | (have h' : (none : Option XD) = some (.orc o) := h; cases h')
  · first | (have e : prog 50 = some (.orc (orcA 50)) := rfl; rw [e] at h; cases h; rfl) | (have h' : (none : Option XD) = some (.orc o) := h; cases h')
  · first | (have e : prog 51 = some (.orc (orcA 51)) := rfl; rw [e] at h; cases h; rfl) | (have h' : (none : Option XD) = some (.orc o) := h; cases h')
  · first | (have e : prog 130 = some (.orc (orcA 130)) := rfl; rw [e] at h; cases h; rfl) | (have h' : (none : Option XD) = some (.orc o) := h; cases h')
  · first | (have e : prog 131 = some (.orc (orcA 131)) := rfl; rw [e] at h; cases h; rfl) | (have h' : (none : Option XD) = some (.orc o) := h; cases h')
  · first | (have e : prog 222 = some (.orc (orcA 222)) := rfl; rw [e] at h; cases h; rfl) | (have h' : (none : Option XD) = some (.orc o) := h; cases h')
theorem e1_prog {f : Nat} {d : XD} (h : E1.prog f = some d) : prog f = some d ∧ f ≠ 33 := by
  have h2 : (if f = 33 then none else prog f) = some d := h
  split at h2
  · cases h2
  · rename_i hf; exact ⟨h2, hf⟩
theorem KE0 : PEnvOk E0 where
  fn := fun f xf h => by
    have := dOk_all
    rw [List.all_eq_true] at this
    exact this _ (prog_mem (show prog f = _ from h))
  orc := fun f o h Db r M hp args asv v M' e I hv => by
    obtain ⟨rfl, _⟩ := orc_at (show prog f = _ from h)
    exact orc_V e I hv
theorem KE1 : PEnvOk E1 where
  fn := fun f xf h => by
    have := dOk_all
    rw [List.all_eq_true] at this
    exact this _ (prog_mem (e1_prog h).1)
  orc := fun f o h Db r M hp args asv v M' e I hv => by
    obtain ⟨rfl, _⟩ := orc_at (e1_prog h).1
    exact orc_V e I hv
variable (P : Program) (T : Tab)
def AllOk : List (Option XD) → List (Option FuncId) → Prop
  | some (.fn xf) :: ps, some g :: ks => (∃ fn, P.funcs[g]? = some fn ∧ cFunc P T fn = some xf ∧ xf.body.regsOk = true) ∧ AllOk ps ks
  | _ :: ps, _ :: ks => AllOk ps ks
  | _, _ => True
def AllCal : List (Option FuncId) → Prop
  | some g :: ks => (∃ fn, P.funcs[g]? = some fn ∧ fn.body.isNone = false ∧ (fn.name == "runtime.NumGoroutine") = false) ∧ AllCal ks
  | none :: ks => AllCal ks
  | [] => True
variable {P T}
theorem allOk_at : ∀ {ps : List (Option XD)} {ks : List (Option FuncId)}, AllOk P T ps ks → ∀ {f : Nat} {xf : XF} {g : FuncId}, (ps[f]?).join = some (.fn xf) → (ks[f]?).join = some g → ∃ fn, P.funcs[g]? = some fn ∧ cFunc P T fn = some xf ∧ xf.body.regsOk = true
  | [], _, _, f, xf, g, h1, h2 => by simp at h1
  | p :: ps, [], _, f, xf, g, h1, h2 => by simp at h2
  | p :: ps, k :: ks, h, 0, xf, g, h1, h2 => by
    simp only [List.getElem?_cons_zero, Option.join_some] at h1 h2
    subst h1; subst h2
    exact h.1
  | p :: ps, k :: ks, h, f + 1, xf, g, h1, h2 => by
    simp only [List.getElem?_cons_succ] at h1 h2
    refine allOk_at (ps := ps) (ks := ks) ?_ h1 h2
    match p, k, h with
    | some (.fn xf), some g, h => exact h.2
    | some (.fn xf), none, h => exact h
    | some (.orc _), _, h => exact h
    | none, _, h => exact h
theorem allC_at : ∀ {ks : List (Option FuncId)}, AllCal P ks → ∀ {f : Nat} {g : FuncId}, (ks[f]?).join = some g → ∃ fn, P.funcs[g]? = some fn ∧ fn.body.isNone = false ∧ (fn.name == "runtime.NumGoroutine") = false
  | [], _, f, g, h => by simp at h
  | k :: ks, h, 0, g, h1 => by
    simp only [List.getElem?_cons_zero, Option.join_some] at h1
    subst h1
    exact h.1
  | k :: ks, h, f + 1, g, h1 => by
    simp only [List.getElem?_cons_succ] at h1
    refine allC_at (ks := ks) ?_ h1
    match k, h with
    | some g, h => exact h.2
    | none, h => exact h
theorem lib_good {f : Nat} {args : List AV} {h h' : Hp} {v : AV} (e : orcA f args h = some (v, h')) : HpOk h h' := by
  unfold orcA at e
  split at e
  · split at e
    · simp only [Option.map_eq_some_iff, Prod.mk.injEq] at e
      obtain ⟨_, _, _, rfl⟩ := e
      exact .refl h
    · cases e
  · split at e
    · cases e
    · simp only [Option.map_eq_some_iff, Prod.mk.injEq] at e
      obtain ⟨_, _, _, rfl⟩ := e
      exact .refl h
theorem progOk1 {keyL : List (Option FuncId)} {ρ : Go.Shelf.Ren} {G : Nat} (mixed : P.follows .mixedOrders = true) (hc : AllCal P keyL) (ha : AllOk P T progL keyL) (L : LibOk P ρ (fun f => (keyL[f]?).join) T G) :
    ProgOk P (fun f => (keyL[f]?).join) T E1.prog where
  mixed := mixed
  call := fun f g h => allC_at hc h
  fn := fun f xf g h1 h2 => allOk_at ha (e1_prog h1).1 h2
  good := fun f o args h v h' h1 e => by
    obtain ⟨rfl, _⟩ := orc_at (e1_prog h1).1
    exact lib_good e
  orc := fun f o g h1 hk F args vs h h' v l w e hF TO RL S => by
    obtain ⟨rfl, _⟩ := orc_at (e1_prog h1).1
    exact lib_orc L hk (e1_prog h1).2 e TO RL S
theorem progOk0 {keyL : List (Option FuncId)} {ρ : Go.Shelf.Ren} {G : Nat} (mixed : P.follows .mixedOrders = true) (hc : AllCal P keyL) (ha : AllOk P T progL keyL) (L : LibOk P ρ (fun f => (keyL[f]?).join) T G)
    (str : ∀ {g : Nat}, (keyL[33]?).join = some g → ∀ {F : Nat} {args : List AV} {vs : Array Value} {h h' : Hp} {v : AV} {l : Loc} {w : World}, orcA 33 args h = some (v, h') → TabOk (fun f => (keyL[f]?).join) T l →
      RelL (fun f => (keyL[f]?).join) l args vs.toList → Sim (fun f => (keyL[f]?).join) F l h w → Calls P g vs w fun e w' => ∃ l' val, e = .returned val ∧ Ext l h w l' h' w' ∧ Sim (fun f => (keyL[f]?).join) F l' h' w' ∧ Rel (fun f => (keyL[f]?).join) l' v val) :
    ProgOk P (fun f => (keyL[f]?).join) T E0.prog where
  mixed := mixed
  call := fun f g h => allC_at hc h
  fn := fun f xf g h1 h2 => allOk_at ha (show prog f = _ from h1) h2
  good := fun f o args h v h' h1 e => by
    obtain ⟨rfl, _⟩ := orc_at (show prog f = _ from h1)
    exact lib_good e
  orc := fun f o g h1 hk F args vs h h' v l w e hF TO RL S => by
    obtain ⟨rfl, hf⟩ := orc_at (show prog f = _ from h1)
    by_cases h33 : f = 33
    · subst h33
      exact str hk e TO RL S
    · exact lib_orc L hk h33 e TO RL S
end Go.Eng
namespace Go.Proofs
open Go.Eng
def Tryz.keyL : List (Option FuncId) := [none, none, none, none, none, none, none, none, some 31, some 27, none, some 45, none, none, none, none, some 42, some 20, some 60, some 49, some 69, some 62, some 61, some 47, some 16, none, none, none, none, some 75, some 76, some 58, none, some 67, some 37, some 90, some 72, some 81, some 106, some 91, some 78, some 79, some 80, some 59, none, none, none, none, some 99, some 95, some 100, some 101, none, none, none, some 118, some 119, some 120, some 108, some 96, some 109, some 110, some 111, none, some 48, some 33, none, some 39, none, none, none, none, none, none, none, none, some 147, some 141, some 142, some 143, some 139, some 29, none, none, none, some 148, none, none, none, none, none, none, none, none, none, none, none, none, none, none, none, none, none, none, none, none, none, some 64, none, none, some 63, some 74, none, none, some 15, none, none, none, some 12, some 56, some 66, some 35, none, some 14, some 77, some 65, some 70, some 97, some 13, some 92, some 93, some 94, some 57, some 87, some 88, some 89, some 98, some 121, none, none, none, none, none, none, none, none, none, some 117, some 131, some 132, none, none, none, none, none, none, none, none, none, some 158, none, none, none, none, none, none, none, none, none, none, none, none, some 3, some 4, some 5, some 6, some 7, some 8, none, some 10, some 11, some 17, some 18, some 19, some 21, some 22, some 23, some 24, some 25, some 26, some 28, some 30, some 32, some 34, some 36, some 38, some 40, some 41, some 43, some 44, some 46, none, none, none, none, none, none, some 68, some 71, some 73, none, none, none, none, none, some 105, some 107, none, none, none, none, none, some 140, none, none, none, none, none]
def Tryz.fkeyL : List (Option Nat) := [none, none, none, some 172, some 173, some 174, some 175, some 176, some 177, none, some 179, some 180, some 118, some 128, some 123, some 114, some 24, some 181, some 182, some 183, some 17, some 184, some 185, some 186, some 187, some 188, some 189, some 9, some 190, some 81, some 191, some 8, some 192, some 65, some 193, some 121, some 194, some 34, some 195, some 67, some 196, some 197, some 16, some 198, some 199, some 11, some 200, some 23, some 64, some 19, none, none, none, none, none, none, some 119, some 132, some 31, some 43, some 18, some 22, some 21, some 110, some 107, some 125, some 120, some 33, some 207, some 20, some 126, some 208, some 36, some 209, some 111, some 29, some 30, some 124, some 40, some 41, some 42, some 37, none, none, none, none, none, some 133, some 134, some 135, some 35, some 39, some 129, some 130, some 131, some 49, some 59, some 127, some 136, some 48, some 50, some 51, none, none, none, some 215, some 38, some 216, some 58, some 60, some 61, some 62, none, none, none, none, none, some 147, some 55, some 56, some 57, some 137, none, none, none, none, none, none, none, none, none, some 148, some 149, none, none, none, none, none, none, some 80, some 222, some 77, some 78, some 79, none, none, none, some 76, some 85, none, none, none, none, none, none, none, none, none, some 159]
def Tryz.T : Tab := { fkey := fun f => (Tryz.fkeyL[f]?).join, gkey := fun g => if g = 5 then some 0 else none }
theorem Tryz.okc8 : ∃ fn, Tryz.prog.funcs[31]? = some fn ∧ fn.body.isNone = false ∧ (fn.name == "runtime.NumGoroutine") = false := ⟨_, Tryz.func31, by kernel_rfl, by kernel_rfl⟩
theorem Tryz.okc9 : ∃ fn, Tryz.prog.funcs[27]? = some fn ∧ fn.body.isNone = false ∧ (fn.name == "runtime.NumGoroutine") = false := ⟨_, Tryz.func27, by kernel_rfl, by kernel_rfl⟩
theorem Tryz.okc11 : ∃ fn, Tryz.prog.funcs[45]? = some fn ∧ fn.body.isNone = false ∧ (fn.name == "runtime.NumGoroutine") = false := ⟨_, Tryz.func45, by kernel_rfl, by kernel_rfl⟩
theorem Tryz.okc16 : ∃ fn, Tryz.prog.funcs[42]? = some fn ∧ fn.body.isNone = false ∧ (fn.name == "runtime.NumGoroutine") = false := ⟨_, Tryz.func42, by kernel_rfl, by kernel_rfl⟩
theorem Tryz.okc17 : ∃ fn, Tryz.prog.funcs[20]? = some fn ∧ fn.body.isNone = false ∧ (fn.name == "runtime.NumGoroutine") = false := ⟨_, Tryz.func20, by kernel_rfl, by kernel_rfl⟩
theorem Tryz.okc18 : ∃ fn, Tryz.prog.funcs[60]? = some fn ∧ fn.body.isNone = false ∧ (fn.name == "runtime.NumGoroutine") = false := ⟨_, Tryz.func60, by kernel_rfl, by kernel_rfl⟩
theorem Tryz.okc19 : ∃ fn, Tryz.prog.funcs[49]? = some fn ∧ fn.body.isNone = false ∧ (fn.name == "runtime.NumGoroutine") = false := ⟨_, Tryz.func49, by kernel_rfl, by kernel_rfl⟩
theorem Tryz.okc20 : ∃ fn, Tryz.prog.funcs[69]? = some fn ∧ fn.body.isNone = false ∧ (fn.name == "runtime.NumGoroutine") = false := ⟨_, Tryz.func69, by kernel_rfl, by kernel_rfl⟩
theorem Tryz.okc21 : ∃ fn, Tryz.prog.funcs[62]? = some fn ∧ fn.body.isNone = false ∧ (fn.name == "runtime.NumGoroutine") = false := ⟨_, Tryz.func62, by kernel_rfl, by kernel_rfl⟩
theorem Tryz.okc22 : ∃ fn, Tryz.prog.funcs[61]? = some fn ∧ fn.body.isNone = false ∧ (fn.name == "runtime.NumGoroutine") = false := ⟨_, Tryz.func61, by kernel_rfl, by kernel_rfl⟩
theorem Tryz.okc23 : ∃ fn, Tryz.prog.funcs[47]? = some fn ∧ fn.body.isNone = false ∧ (fn.name == "runtime.NumGoroutine") = false := ⟨_, Tryz.func47, by kernel_rfl, by kernel_rfl⟩
theorem Tryz.okc24 : ∃ fn, Tryz.prog.funcs[16]? = some fn ∧ fn.body.isNone = false ∧ (fn.name == "runtime.NumGoroutine") = false := ⟨_, Tryz.func16, by kernel_rfl, by kernel_rfl⟩
theorem Tryz.okc29 : ∃ fn, Tryz.prog.funcs[75]? = some fn ∧ fn.body.isNone = false ∧ (fn.name == "runtime.NumGoroutine") = false := ⟨_, Tryz.func75, by kernel_rfl, by kernel_rfl⟩
theorem Tryz.okc30 : ∃ fn, Tryz.prog.funcs[76]? = some fn ∧ fn.body.isNone = false ∧ (fn.name == "runtime.NumGoroutine") = false := ⟨_, Tryz.func76, by kernel_rfl, by kernel_rfl⟩
theorem Tryz.okc31 : ∃ fn, Tryz.prog.funcs[58]? = some fn ∧ fn.body.isNone = false ∧ (fn.name == "runtime.NumGoroutine") = false := ⟨_, Tryz.func58, by kernel_rfl, by kernel_rfl⟩
theorem Tryz.okc33 : ∃ fn, Tryz.prog.funcs[67]? = some fn ∧ fn.body.isNone = false ∧ (fn.name == "runtime.NumGoroutine") = false := ⟨_, Tryz.func67, by kernel_rfl, by kernel_rfl⟩
theorem Tryz.okc34 : ∃ fn, Tryz.prog.funcs[37]? = some fn ∧ fn.body.isNone = false ∧ (fn.name == "runtime.NumGoroutine") = false := ⟨_, Tryz.func37, by kernel_rfl, by kernel_rfl⟩
theorem Tryz.okc35 : ∃ fn, Tryz.prog.funcs[90]? = some fn ∧ fn.body.isNone = false ∧ (fn.name == "runtime.NumGoroutine") = false := ⟨_, Tryz.func90, by kernel_rfl, by kernel_rfl⟩
theorem Tryz.okc36 : ∃ fn, Tryz.prog.funcs[72]? = some fn ∧ fn.body.isNone = false ∧ (fn.name == "runtime.NumGoroutine") = false := ⟨_, Tryz.func72, by kernel_rfl, by kernel_rfl⟩
theorem Tryz.okc37 : ∃ fn, Tryz.prog.funcs[81]? = some fn ∧ fn.body.isNone = false ∧ (fn.name == "runtime.NumGoroutine") = false := ⟨_, Tryz.func81, by kernel_rfl, by kernel_rfl⟩
theorem Tryz.okc38 : ∃ fn, Tryz.prog.funcs[106]? = some fn ∧ fn.body.isNone = false ∧ (fn.name == "runtime.NumGoroutine") = false := ⟨_, Tryz.func106, by kernel_rfl, by kernel_rfl⟩
theorem Tryz.okc39 : ∃ fn, Tryz.prog.funcs[91]? = some fn ∧ fn.body.isNone = false ∧ (fn.name == "runtime.NumGoroutine") = false := ⟨_, Tryz.func91, by kernel_rfl, by kernel_rfl⟩
theorem Tryz.okc40 : ∃ fn, Tryz.prog.funcs[78]? = some fn ∧ fn.body.isNone = false ∧ (fn.name == "runtime.NumGoroutine") = false := ⟨_, Tryz.func78, by kernel_rfl, by kernel_rfl⟩
theorem Tryz.okc41 : ∃ fn, Tryz.prog.funcs[79]? = some fn ∧ fn.body.isNone = false ∧ (fn.name == "runtime.NumGoroutine") = false := ⟨_, Tryz.func79, by kernel_rfl, by kernel_rfl⟩
theorem Tryz.okc42 : ∃ fn, Tryz.prog.funcs[80]? = some fn ∧ fn.body.isNone = false ∧ (fn.name == "runtime.NumGoroutine") = false := ⟨_, Tryz.func80, by kernel_rfl, by kernel_rfl⟩
theorem Tryz.okc43 : ∃ fn, Tryz.prog.funcs[59]? = some fn ∧ fn.body.isNone = false ∧ (fn.name == "runtime.NumGoroutine") = false := ⟨_, Tryz.func59, by kernel_rfl, by kernel_rfl⟩
theorem Tryz.okc48 : ∃ fn, Tryz.prog.funcs[99]? = some fn ∧ fn.body.isNone = false ∧ (fn.name == "runtime.NumGoroutine") = false := ⟨_, Tryz.func99, by kernel_rfl, by kernel_rfl⟩
theorem Tryz.okc49 : ∃ fn, Tryz.prog.funcs[95]? = some fn ∧ fn.body.isNone = false ∧ (fn.name == "runtime.NumGoroutine") = false := ⟨_, Tryz.func95, by kernel_rfl, by kernel_rfl⟩
theorem Tryz.okc50 : ∃ fn, Tryz.prog.funcs[100]? = some fn ∧ fn.body.isNone = false ∧ (fn.name == "runtime.NumGoroutine") = false := ⟨_, Tryz.func100, by kernel_rfl, by kernel_rfl⟩
theorem Tryz.okc51 : ∃ fn, Tryz.prog.funcs[101]? = some fn ∧ fn.body.isNone = false ∧ (fn.name == "runtime.NumGoroutine") = false := ⟨_, Tryz.func101, by kernel_rfl, by kernel_rfl⟩
theorem Tryz.okc55 : ∃ fn, Tryz.prog.funcs[118]? = some fn ∧ fn.body.isNone = false ∧ (fn.name == "runtime.NumGoroutine") = false := ⟨_, Tryz.func118, by kernel_rfl, by kernel_rfl⟩
theorem Tryz.okc56 : ∃ fn, Tryz.prog.funcs[119]? = some fn ∧ fn.body.isNone = false ∧ (fn.name == "runtime.NumGoroutine") = false := ⟨_, Tryz.func119, by kernel_rfl, by kernel_rfl⟩
theorem Tryz.okc57 : ∃ fn, Tryz.prog.funcs[120]? = some fn ∧ fn.body.isNone = false ∧ (fn.name == "runtime.NumGoroutine") = false := ⟨_, Tryz.func120, by kernel_rfl, by kernel_rfl⟩
theorem Tryz.okc58 : ∃ fn, Tryz.prog.funcs[108]? = some fn ∧ fn.body.isNone = false ∧ (fn.name == "runtime.NumGoroutine") = false := ⟨_, Tryz.func108, by kernel_rfl, by kernel_rfl⟩
theorem Tryz.okc59 : ∃ fn, Tryz.prog.funcs[96]? = some fn ∧ fn.body.isNone = false ∧ (fn.name == "runtime.NumGoroutine") = false := ⟨_, Tryz.func96, by kernel_rfl, by kernel_rfl⟩
theorem Tryz.okc60 : ∃ fn, Tryz.prog.funcs[109]? = some fn ∧ fn.body.isNone = false ∧ (fn.name == "runtime.NumGoroutine") = false := ⟨_, Tryz.func109, by kernel_rfl, by kernel_rfl⟩
theorem Tryz.okc61 : ∃ fn, Tryz.prog.funcs[110]? = some fn ∧ fn.body.isNone = false ∧ (fn.name == "runtime.NumGoroutine") = false := ⟨_, Tryz.func110, by kernel_rfl, by kernel_rfl⟩
theorem Tryz.okc62 : ∃ fn, Tryz.prog.funcs[111]? = some fn ∧ fn.body.isNone = false ∧ (fn.name == "runtime.NumGoroutine") = false := ⟨_, Tryz.func111, by kernel_rfl, by kernel_rfl⟩
theorem Tryz.okc64 : ∃ fn, Tryz.prog.funcs[48]? = some fn ∧ fn.body.isNone = false ∧ (fn.name == "runtime.NumGoroutine") = false := ⟨_, Tryz.func48, by kernel_rfl, by kernel_rfl⟩
theorem Tryz.okc65 : ∃ fn, Tryz.prog.funcs[33]? = some fn ∧ fn.body.isNone = false ∧ (fn.name == "runtime.NumGoroutine") = false := ⟨_, Tryz.func33, by kernel_rfl, by kernel_rfl⟩
theorem Tryz.okc67 : ∃ fn, Tryz.prog.funcs[39]? = some fn ∧ fn.body.isNone = false ∧ (fn.name == "runtime.NumGoroutine") = false := ⟨_, Tryz.func39, by kernel_rfl, by kernel_rfl⟩
theorem Tryz.okc76 : ∃ fn, Tryz.prog.funcs[147]? = some fn ∧ fn.body.isNone = false ∧ (fn.name == "runtime.NumGoroutine") = false := ⟨_, Tryz.func147, by kernel_rfl, by kernel_rfl⟩
theorem Tryz.okc77 : ∃ fn, Tryz.prog.funcs[141]? = some fn ∧ fn.body.isNone = false ∧ (fn.name == "runtime.NumGoroutine") = false := ⟨_, Tryz.func141, by kernel_rfl, by kernel_rfl⟩
theorem Tryz.okc78 : ∃ fn, Tryz.prog.funcs[142]? = some fn ∧ fn.body.isNone = false ∧ (fn.name == "runtime.NumGoroutine") = false := ⟨_, Tryz.func142, by kernel_rfl, by kernel_rfl⟩
theorem Tryz.okc79 : ∃ fn, Tryz.prog.funcs[143]? = some fn ∧ fn.body.isNone = false ∧ (fn.name == "runtime.NumGoroutine") = false := ⟨_, Tryz.func143, by kernel_rfl, by kernel_rfl⟩
theorem Tryz.okc80 : ∃ fn, Tryz.prog.funcs[139]? = some fn ∧ fn.body.isNone = false ∧ (fn.name == "runtime.NumGoroutine") = false := ⟨_, Tryz.func139, by kernel_rfl, by kernel_rfl⟩
theorem Tryz.okc81 : ∃ fn, Tryz.prog.funcs[29]? = some fn ∧ fn.body.isNone = false ∧ (fn.name == "runtime.NumGoroutine") = false := ⟨_, Tryz.func29, by kernel_rfl, by kernel_rfl⟩
theorem Tryz.okc85 : ∃ fn, Tryz.prog.funcs[148]? = some fn ∧ fn.body.isNone = false ∧ (fn.name == "runtime.NumGoroutine") = false := ⟨_, Tryz.func148, by kernel_rfl, by kernel_rfl⟩
theorem Tryz.okc107 : ∃ fn, Tryz.prog.funcs[64]? = some fn ∧ fn.body.isNone = false ∧ (fn.name == "runtime.NumGoroutine") = false := ⟨_, Tryz.func64, by kernel_rfl, by kernel_rfl⟩
theorem Tryz.okc110 : ∃ fn, Tryz.prog.funcs[63]? = some fn ∧ fn.body.isNone = false ∧ (fn.name == "runtime.NumGoroutine") = false := ⟨_, Tryz.func63, by kernel_rfl, by kernel_rfl⟩
theorem Tryz.okc111 : ∃ fn, Tryz.prog.funcs[74]? = some fn ∧ fn.body.isNone = false ∧ (fn.name == "runtime.NumGoroutine") = false := ⟨_, Tryz.func74, by kernel_rfl, by kernel_rfl⟩
theorem Tryz.okc114 : ∃ fn, Tryz.prog.funcs[15]? = some fn ∧ fn.body.isNone = false ∧ (fn.name == "runtime.NumGoroutine") = false := ⟨_, Tryz.func15, by kernel_rfl, by kernel_rfl⟩
theorem Tryz.okc118 : ∃ fn, Tryz.prog.funcs[12]? = some fn ∧ fn.body.isNone = false ∧ (fn.name == "runtime.NumGoroutine") = false := ⟨_, Tryz.func12, by kernel_rfl, by kernel_rfl⟩
theorem Tryz.okc119 : ∃ fn, Tryz.prog.funcs[56]? = some fn ∧ fn.body.isNone = false ∧ (fn.name == "runtime.NumGoroutine") = false := ⟨_, Tryz.func56, by kernel_rfl, by kernel_rfl⟩
theorem Tryz.okc120 : ∃ fn, Tryz.prog.funcs[66]? = some fn ∧ fn.body.isNone = false ∧ (fn.name == "runtime.NumGoroutine") = false := ⟨_, Tryz.func66, by kernel_rfl, by kernel_rfl⟩
theorem Tryz.okc121 : ∃ fn, Tryz.prog.funcs[35]? = some fn ∧ fn.body.isNone = false ∧ (fn.name == "runtime.NumGoroutine") = false := ⟨_, Tryz.func35, by kernel_rfl, by kernel_rfl⟩
theorem Tryz.okc123 : ∃ fn, Tryz.prog.funcs[14]? = some fn ∧ fn.body.isNone = false ∧ (fn.name == "runtime.NumGoroutine") = false := ⟨_, Tryz.func14, by kernel_rfl, by kernel_rfl⟩
theorem Tryz.okc124 : ∃ fn, Tryz.prog.funcs[77]? = some fn ∧ fn.body.isNone = false ∧ (fn.name == "runtime.NumGoroutine") = false := ⟨_, Tryz.func77, by kernel_rfl, by kernel_rfl⟩
theorem Tryz.okc125 : ∃ fn, Tryz.prog.funcs[65]? = some fn ∧ fn.body.isNone = false ∧ (fn.name == "runtime.NumGoroutine") = false := ⟨_, Tryz.func65, by kernel_rfl, by kernel_rfl⟩
theorem Tryz.okc126 : ∃ fn, Tryz.prog.funcs[70]? = some fn ∧ fn.body.isNone = false ∧ (fn.name == "runtime.NumGoroutine") = false := ⟨_, Tryz.func70, by kernel_rfl, by kernel_rfl⟩
theorem Tryz.okc127 : ∃ fn, Tryz.prog.funcs[97]? = some fn ∧ fn.body.isNone = false ∧ (fn.name == "runtime.NumGoroutine") = false := ⟨_, Tryz.func97, by kernel_rfl, by kernel_rfl⟩
theorem Tryz.okc128 : ∃ fn, Tryz.prog.funcs[13]? = some fn ∧ fn.body.isNone = false ∧ (fn.name == "runtime.NumGoroutine") = false := ⟨_, Tryz.func13, by kernel_rfl, by kernel_rfl⟩
theorem Tryz.okc129 : ∃ fn, Tryz.prog.funcs[92]? = some fn ∧ fn.body.isNone = false ∧ (fn.name == "runtime.NumGoroutine") = false := ⟨_, Tryz.func92, by kernel_rfl, by kernel_rfl⟩
theorem Tryz.okc130 : ∃ fn, Tryz.prog.funcs[93]? = some fn ∧ fn.body.isNone = false ∧ (fn.name == "runtime.NumGoroutine") = false := ⟨_, Tryz.func93, by kernel_rfl, by kernel_rfl⟩
theorem Tryz.okc131 : ∃ fn, Tryz.prog.funcs[94]? = some fn ∧ fn.body.isNone = false ∧ (fn.name == "runtime.NumGoroutine") = false := ⟨_, Tryz.func94, by kernel_rfl, by kernel_rfl⟩
theorem Tryz.okc132 : ∃ fn, Tryz.prog.funcs[57]? = some fn ∧ fn.body.isNone = false ∧ (fn.name == "runtime.NumGoroutine") = false := ⟨_, Tryz.func57, by kernel_rfl, by kernel_rfl⟩
theorem Tryz.okc133 : ∃ fn, Tryz.prog.funcs[87]? = some fn ∧ fn.body.isNone = false ∧ (fn.name == "runtime.NumGoroutine") = false := ⟨_, Tryz.func87, by kernel_rfl, by kernel_rfl⟩
theorem Tryz.okc134 : ∃ fn, Tryz.prog.funcs[88]? = some fn ∧ fn.body.isNone = false ∧ (fn.name == "runtime.NumGoroutine") = false := ⟨_, Tryz.func88, by kernel_rfl, by kernel_rfl⟩
theorem Tryz.okc135 : ∃ fn, Tryz.prog.funcs[89]? = some fn ∧ fn.body.isNone = false ∧ (fn.name == "runtime.NumGoroutine") = false := ⟨_, Tryz.func89, by kernel_rfl, by kernel_rfl⟩
theorem Tryz.okc136 : ∃ fn, Tryz.prog.funcs[98]? = some fn ∧ fn.body.isNone = false ∧ (fn.name == "runtime.NumGoroutine") = false := ⟨_, Tryz.func98, by kernel_rfl, by kernel_rfl⟩
theorem Tryz.okc137 : ∃ fn, Tryz.prog.funcs[121]? = some fn ∧ fn.body.isNone = false ∧ (fn.name == "runtime.NumGoroutine") = false := ⟨_, Tryz.func121, by kernel_rfl, by kernel_rfl⟩
theorem Tryz.okc147 : ∃ fn, Tryz.prog.funcs[117]? = some fn ∧ fn.body.isNone = false ∧ (fn.name == "runtime.NumGoroutine") = false := ⟨_, Tryz.func117, by kernel_rfl, by kernel_rfl⟩
theorem Tryz.okc148 : ∃ fn, Tryz.prog.funcs[131]? = some fn ∧ fn.body.isNone = false ∧ (fn.name == "runtime.NumGoroutine") = false := ⟨_, Tryz.func131, by kernel_rfl, by kernel_rfl⟩
theorem Tryz.okc149 : ∃ fn, Tryz.prog.funcs[132]? = some fn ∧ fn.body.isNone = false ∧ (fn.name == "runtime.NumGoroutine") = false := ⟨_, Tryz.func132, by kernel_rfl, by kernel_rfl⟩
theorem Tryz.okc159 : ∃ fn, Tryz.prog.funcs[158]? = some fn ∧ fn.body.isNone = false ∧ (fn.name == "runtime.NumGoroutine") = false := ⟨_, Tryz.func158, by kernel_rfl, by kernel_rfl⟩
theorem Tryz.okc172 : ∃ fn, Tryz.prog.funcs[3]? = some fn ∧ fn.body.isNone = false ∧ (fn.name == "runtime.NumGoroutine") = false := ⟨_, Tryz.func3, by kernel_rfl, by kernel_rfl⟩
theorem Tryz.okc173 : ∃ fn, Tryz.prog.funcs[4]? = some fn ∧ fn.body.isNone = false ∧ (fn.name == "runtime.NumGoroutine") = false := ⟨_, Tryz.func4, by kernel_rfl, by kernel_rfl⟩
theorem Tryz.okc174 : ∃ fn, Tryz.prog.funcs[5]? = some fn ∧ fn.body.isNone = false ∧ (fn.name == "runtime.NumGoroutine") = false := ⟨_, Tryz.func5, by kernel_rfl, by kernel_rfl⟩
theorem Tryz.okc175 : ∃ fn, Tryz.prog.funcs[6]? = some fn ∧ fn.body.isNone = false ∧ (fn.name == "runtime.NumGoroutine") = false := ⟨_, Tryz.func6, by kernel_rfl, by kernel_rfl⟩
theorem Tryz.okc176 : ∃ fn, Tryz.prog.funcs[7]? = some fn ∧ fn.body.isNone = false ∧ (fn.name == "runtime.NumGoroutine") = false := ⟨_, Tryz.func7, by kernel_rfl, by kernel_rfl⟩
theorem Tryz.okc177 : ∃ fn, Tryz.prog.funcs[8]? = some fn ∧ fn.body.isNone = false ∧ (fn.name == "runtime.NumGoroutine") = false := ⟨_, Tryz.func8, by kernel_rfl, by kernel_rfl⟩
theorem Tryz.okc179 : ∃ fn, Tryz.prog.funcs[10]? = some fn ∧ fn.body.isNone = false ∧ (fn.name == "runtime.NumGoroutine") = false := ⟨_, Tryz.func10, by kernel_rfl, by kernel_rfl⟩
theorem Tryz.okc180 : ∃ fn, Tryz.prog.funcs[11]? = some fn ∧ fn.body.isNone = false ∧ (fn.name == "runtime.NumGoroutine") = false := ⟨_, Tryz.func11, by kernel_rfl, by kernel_rfl⟩
theorem Tryz.okc181 : ∃ fn, Tryz.prog.funcs[17]? = some fn ∧ fn.body.isNone = false ∧ (fn.name == "runtime.NumGoroutine") = false := ⟨_, Tryz.func17, by kernel_rfl, by kernel_rfl⟩
theorem Tryz.okc182 : ∃ fn, Tryz.prog.funcs[18]? = some fn ∧ fn.body.isNone = false ∧ (fn.name == "runtime.NumGoroutine") = false := ⟨_, Tryz.func18, by kernel_rfl, by kernel_rfl⟩
theorem Tryz.okc183 : ∃ fn, Tryz.prog.funcs[19]? = some fn ∧ fn.body.isNone = false ∧ (fn.name == "runtime.NumGoroutine") = false := ⟨_, Tryz.func19, by kernel_rfl, by kernel_rfl⟩
theorem Tryz.okc184 : ∃ fn, Tryz.prog.funcs[21]? = some fn ∧ fn.body.isNone = false ∧ (fn.name == "runtime.NumGoroutine") = false := ⟨_, Tryz.func21, by kernel_rfl, by kernel_rfl⟩
theorem Tryz.okc185 : ∃ fn, Tryz.prog.funcs[22]? = some fn ∧ fn.body.isNone = false ∧ (fn.name == "runtime.NumGoroutine") = false := ⟨_, Tryz.func22, by kernel_rfl, by kernel_rfl⟩
theorem Tryz.okc186 : ∃ fn, Tryz.prog.funcs[23]? = some fn ∧ fn.body.isNone = false ∧ (fn.name == "runtime.NumGoroutine") = false := ⟨_, Tryz.func23, by kernel_rfl, by kernel_rfl⟩
theorem Tryz.okc187 : ∃ fn, Tryz.prog.funcs[24]? = some fn ∧ fn.body.isNone = false ∧ (fn.name == "runtime.NumGoroutine") = false := ⟨_, Tryz.func24, by kernel_rfl, by kernel_rfl⟩
theorem Tryz.okc188 : ∃ fn, Tryz.prog.funcs[25]? = some fn ∧ fn.body.isNone = false ∧ (fn.name == "runtime.NumGoroutine") = false := ⟨_, Tryz.func25, by kernel_rfl, by kernel_rfl⟩
theorem Tryz.okc189 : ∃ fn, Tryz.prog.funcs[26]? = some fn ∧ fn.body.isNone = false ∧ (fn.name == "runtime.NumGoroutine") = false := ⟨_, Tryz.func26, by kernel_rfl, by kernel_rfl⟩
theorem Tryz.okc190 : ∃ fn, Tryz.prog.funcs[28]? = some fn ∧ fn.body.isNone = false ∧ (fn.name == "runtime.NumGoroutine") = false := ⟨_, Tryz.func28, by kernel_rfl, by kernel_rfl⟩
theorem Tryz.okc191 : ∃ fn, Tryz.prog.funcs[30]? = some fn ∧ fn.body.isNone = false ∧ (fn.name == "runtime.NumGoroutine") = false := ⟨_, Tryz.func30, by kernel_rfl, by kernel_rfl⟩
theorem Tryz.okc192 : ∃ fn, Tryz.prog.funcs[32]? = some fn ∧ fn.body.isNone = false ∧ (fn.name == "runtime.NumGoroutine") = false := ⟨_, Tryz.func32, by kernel_rfl, by kernel_rfl⟩
theorem Tryz.okc193 : ∃ fn, Tryz.prog.funcs[34]? = some fn ∧ fn.body.isNone = false ∧ (fn.name == "runtime.NumGoroutine") = false := ⟨_, Tryz.func34, by kernel_rfl, by kernel_rfl⟩
theorem Tryz.okc194 : ∃ fn, Tryz.prog.funcs[36]? = some fn ∧ fn.body.isNone = false ∧ (fn.name == "runtime.NumGoroutine") = false := ⟨_, Tryz.func36, by kernel_rfl, by kernel_rfl⟩
theorem Tryz.okc195 : ∃ fn, Tryz.prog.funcs[38]? = some fn ∧ fn.body.isNone = false ∧ (fn.name == "runtime.NumGoroutine") = false := ⟨_, Tryz.func38, by kernel_rfl, by kernel_rfl⟩
theorem Tryz.okc196 : ∃ fn, Tryz.prog.funcs[40]? = some fn ∧ fn.body.isNone = false ∧ (fn.name == "runtime.NumGoroutine") = false := ⟨_, Tryz.func40, by kernel_rfl, by kernel_rfl⟩
theorem Tryz.okc197 : ∃ fn, Tryz.prog.funcs[41]? = some fn ∧ fn.body.isNone = false ∧ (fn.name == "runtime.NumGoroutine") = false := ⟨_, Tryz.func41, by kernel_rfl, by kernel_rfl⟩
theorem Tryz.okc198 : ∃ fn, Tryz.prog.funcs[43]? = some fn ∧ fn.body.isNone = false ∧ (fn.name == "runtime.NumGoroutine") = false := ⟨_, Tryz.func43, by kernel_rfl, by kernel_rfl⟩
theorem Tryz.okc199 : ∃ fn, Tryz.prog.funcs[44]? = some fn ∧ fn.body.isNone = false ∧ (fn.name == "runtime.NumGoroutine") = false := ⟨_, Tryz.func44, by kernel_rfl, by kernel_rfl⟩
theorem Tryz.okc200 : ∃ fn, Tryz.prog.funcs[46]? = some fn ∧ fn.body.isNone = false ∧ (fn.name == "runtime.NumGoroutine") = false := ⟨_, Tryz.func46, by kernel_rfl, by kernel_rfl⟩
theorem Tryz.okc207 : ∃ fn, Tryz.prog.funcs[68]? = some fn ∧ fn.body.isNone = false ∧ (fn.name == "runtime.NumGoroutine") = false := ⟨_, Tryz.func68, by kernel_rfl, by kernel_rfl⟩
theorem Tryz.okc208 : ∃ fn, Tryz.prog.funcs[71]? = some fn ∧ fn.body.isNone = false ∧ (fn.name == "runtime.NumGoroutine") = false := ⟨_, Tryz.func71, by kernel_rfl, by kernel_rfl⟩
theorem Tryz.okc209 : ∃ fn, Tryz.prog.funcs[73]? = some fn ∧ fn.body.isNone = false ∧ (fn.name == "runtime.NumGoroutine") = false := ⟨_, Tryz.func73, by kernel_rfl, by kernel_rfl⟩
theorem Tryz.okc215 : ∃ fn, Tryz.prog.funcs[105]? = some fn ∧ fn.body.isNone = false ∧ (fn.name == "runtime.NumGoroutine") = false := ⟨_, Tryz.func105, by kernel_rfl, by kernel_rfl⟩
theorem Tryz.okc216 : ∃ fn, Tryz.prog.funcs[107]? = some fn ∧ fn.body.isNone = false ∧ (fn.name == "runtime.NumGoroutine") = false := ⟨_, Tryz.func107, by kernel_rfl, by kernel_rfl⟩
theorem Tryz.okc222 : ∃ fn, Tryz.prog.funcs[140]? = some fn ∧ fn.body.isNone = false ∧ (fn.name == "runtime.NumGoroutine") = false := ⟨_, Tryz.func140, by kernel_rfl, by kernel_rfl⟩
theorem Tryz.okf8 : ∃ fn, Tryz.prog.funcs[31]? = some fn ∧ cFunc Tryz.prog Tryz.T fn = some x_skymosaic_frac_Mul ∧ x_skymosaic_frac_Mul.body.regsOk = true := ⟨_, Tryz.func31, by kernel_rfl, by kernel_rfl⟩
theorem Tryz.okf9 : ∃ fn, Tryz.prog.funcs[27]? = some fn ∧ cFunc Tryz.prog Tryz.T fn = some x_skymosaic_frac_Add ∧ x_skymosaic_frac_Add.body.regsOk = true := ⟨_, Tryz.func27, by kernel_rfl, by kernel_rfl⟩
theorem Tryz.okf11 : ∃ fn, Tryz.prog.funcs[45]? = some fn ∧ cFunc Tryz.prog Tryz.T fn = some x_skymosaic_frac_Compare ∧ x_skymosaic_frac_Compare.body.regsOk = true := ⟨_, Tryz.func45, by kernel_rfl, by kernel_rfl⟩
theorem Tryz.okf16 : ∃ fn, Tryz.prog.funcs[42]? = some fn ∧ cFunc Tryz.prog Tryz.T fn = some x__skymosaic_frac_Frac__String ∧ x__skymosaic_frac_Frac__String.body.regsOk = true := ⟨_, Tryz.func42, by kernel_rfl, by kernel_rfl⟩
theorem Tryz.okf17 : ∃ fn, Tryz.prog.funcs[20]? = some fn ∧ cFunc Tryz.prog Tryz.T fn = some x_skymosaic_frac_Of ∧ x_skymosaic_frac_Of.body.regsOk = true := ⟨_, Tryz.func20, by kernel_rfl, by kernel_rfl⟩
theorem Tryz.okf18 : ∃ fn, Tryz.prog.funcs[60]? = some fn ∧ cFunc Tryz.prog Tryz.T fn = some x_skymosaic_wide_Gcd ∧ x_skymosaic_wide_Gcd.body.regsOk = true := ⟨_, Tryz.func60, by kernel_rfl, by kernel_rfl⟩
theorem Tryz.okf19 : ∃ fn, Tryz.prog.funcs[49]? = some fn ∧ cFunc Tryz.prog Tryz.T fn = some x__skymosaic_frac_Frac__Den ∧ x__skymosaic_frac_Frac__Den.body.regsOk = true := ⟨_, Tryz.func49, by kernel_rfl, by kernel_rfl⟩
theorem Tryz.okf20 : ∃ fn, Tryz.prog.funcs[69]? = some fn ∧ cFunc Tryz.prog Tryz.T fn = some x_skymosaic_frac_times ∧ x_skymosaic_frac_times.body.regsOk = true := ⟨_, Tryz.func69, by kernel_rfl, by kernel_rfl⟩
theorem Tryz.okf21 : ∃ fn, Tryz.prog.funcs[62]? = some fn ∧ cFunc Tryz.prog Tryz.T fn = some x_skymosaic_frac_over ∧ x_skymosaic_frac_over.body.regsOk = true := ⟨_, Tryz.func62, by kernel_rfl, by kernel_rfl⟩
theorem Tryz.okf22 : ∃ fn, Tryz.prog.funcs[61]? = some fn ∧ cFunc Tryz.prog Tryz.T fn = some x_skymosaic_frac_lowest ∧ x_skymosaic_frac_lowest.body.regsOk = true := ⟨_, Tryz.func61, by kernel_rfl, by kernel_rfl⟩
theorem Tryz.okf23 : ∃ fn, Tryz.prog.funcs[47]? = some fn ∧ cFunc Tryz.prog Tryz.T fn = some x_skymosaic_wide_Add ∧ x_skymosaic_wide_Add.body.regsOk = true := ⟨_, Tryz.func47, by kernel_rfl, by kernel_rfl⟩
theorem Tryz.okf24 : ∃ fn, Tryz.prog.funcs[16]? = some fn ∧ cFunc Tryz.prog Tryz.T fn = some x_skymosaic_frac_Make ∧ x_skymosaic_frac_Make.body.regsOk = true := ⟨_, Tryz.func16, by kernel_rfl, by kernel_rfl⟩
theorem Tryz.okf29 : ∃ fn, Tryz.prog.funcs[75]? = some fn ∧ cFunc Tryz.prog Tryz.T fn = some x_skymosaic_wide_Div ∧ x_skymosaic_wide_Div.body.regsOk = true := ⟨_, Tryz.func75, by kernel_rfl, by kernel_rfl⟩
theorem Tryz.okf30 : ∃ fn, Tryz.prog.funcs[76]? = some fn ∧ cFunc Tryz.prog Tryz.T fn = some x_skymosaic_wide_Compare ∧ x_skymosaic_wide_Compare.body.regsOk = true := ⟨_, Tryz.func76, by kernel_rfl, by kernel_rfl⟩
theorem Tryz.okf31 : ∃ fn, Tryz.prog.funcs[58]? = some fn ∧ cFunc Tryz.prog Tryz.T fn = some x_skymosaic_wide_Sign ∧ x_skymosaic_wide_Sign.body.regsOk = true := ⟨_, Tryz.func58, by kernel_rfl, by kernel_rfl⟩
theorem Tryz.okf34 : ∃ fn, Tryz.prog.funcs[37]? = some fn ∧ cFunc Tryz.prog Tryz.T fn = some x_skymosaic_wide_From ∧ x_skymosaic_wide_From.body.regsOk = true := ⟨_, Tryz.func37, by kernel_rfl, by kernel_rfl⟩
theorem Tryz.okf35 : ∃ fn, Tryz.prog.funcs[90]? = some fn ∧ cFunc Tryz.prog Tryz.T fn = some x_skymosaic_wide_divide ∧ x_skymosaic_wide_divide.body.regsOk = true := ⟨_, Tryz.func90, by kernel_rfl, by kernel_rfl⟩
theorem Tryz.okf36 : ∃ fn, Tryz.prog.funcs[72]? = some fn ∧ cFunc Tryz.prog Tryz.T fn = some x_skymosaic_wide_signed ∧ x_skymosaic_wide_signed.body.regsOk = true := ⟨_, Tryz.func72, by kernel_rfl, by kernel_rfl⟩
theorem Tryz.okf37 : ∃ fn, Tryz.prog.funcs[81]? = some fn ∧ cFunc Tryz.prog Tryz.T fn = some x_skymosaic_frac_must ∧ x_skymosaic_frac_must.body.regsOk = true := ⟨_, Tryz.func81, by kernel_rfl, by kernel_rfl⟩
theorem Tryz.okf38 : ∃ fn, Tryz.prog.funcs[106]? = some fn ∧ cFunc Tryz.prog Tryz.T fn = some x_skymosaic_wide_Mul ∧ x_skymosaic_wide_Mul.body.regsOk = true := ⟨_, Tryz.func106, by kernel_rfl, by kernel_rfl⟩
theorem Tryz.okf39 : ∃ fn, Tryz.prog.funcs[91]? = some fn ∧ cFunc Tryz.prog Tryz.T fn = some x_skymosaic_wide_Sub ∧ x_skymosaic_wide_Sub.body.regsOk = true := ⟨_, Tryz.func91, by kernel_rfl, by kernel_rfl⟩
theorem Tryz.okf40 : ∃ fn, Tryz.prog.funcs[78]? = some fn ∧ cFunc Tryz.prog Tryz.T fn = some x_skymosaic_wide_sum ∧ x_skymosaic_wide_sum.body.regsOk = true := ⟨_, Tryz.func78, by kernel_rfl, by kernel_rfl⟩
theorem Tryz.okf41 : ∃ fn, Tryz.prog.funcs[79]? = some fn ∧ cFunc Tryz.prog Tryz.T fn = some x_skymosaic_wide_compare ∧ x_skymosaic_wide_compare.body.regsOk = true := ⟨_, Tryz.func79, by kernel_rfl, by kernel_rfl⟩
theorem Tryz.okf42 : ∃ fn, Tryz.prog.funcs[80]? = some fn ∧ cFunc Tryz.prog Tryz.T fn = some x_skymosaic_wide_difference ∧ x_skymosaic_wide_difference.body.regsOk = true := ⟨_, Tryz.func80, by kernel_rfl, by kernel_rfl⟩
theorem Tryz.okf43 : ∃ fn, Tryz.prog.funcs[59]? = some fn ∧ cFunc Tryz.prog Tryz.T fn = some x_skymosaic_wide_Neg ∧ x_skymosaic_wide_Neg.body.regsOk = true := ⟨_, Tryz.func59, by kernel_rfl, by kernel_rfl⟩
theorem Tryz.okf48 : ∃ fn, Tryz.prog.funcs[99]? = some fn ∧ cFunc Tryz.prog Tryz.T fn = some x_skymosaic_wide_short ∧ x_skymosaic_wide_short.body.regsOk = true := ⟨_, Tryz.func99, by kernel_rfl, by kernel_rfl⟩
theorem Tryz.okf49 : ∃ fn, Tryz.prog.funcs[95]? = some fn ∧ cFunc Tryz.prog Tryz.T fn = some x_skymosaic_wide_normal ∧ x_skymosaic_wide_normal.body.regsOk = true := ⟨_, Tryz.func95, by kernel_rfl, by kernel_rfl⟩
theorem Tryz.okf55 : ∃ fn, Tryz.prog.funcs[118]? = some fn ∧ cFunc Tryz.prog Tryz.T fn = some x_math_bits_LeadingZeros32 ∧ x_math_bits_LeadingZeros32.body.regsOk = true := ⟨_, Tryz.func118, by kernel_rfl, by kernel_rfl⟩
theorem Tryz.okf56 : ∃ fn, Tryz.prog.funcs[119]? = some fn ∧ cFunc Tryz.prog Tryz.T fn = some x_skymosaic_wide_shifted ∧ x_skymosaic_wide_shifted.body.regsOk = true := ⟨_, Tryz.func119, by kernel_rfl, by kernel_rfl⟩
theorem Tryz.okf57 : ∃ fn, Tryz.prog.funcs[120]? = some fn ∧ cFunc Tryz.prog Tryz.T fn = some x_skymosaic_wide_take ∧ x_skymosaic_wide_take.body.regsOk = true := ⟨_, Tryz.func120, by kernel_rfl, by kernel_rfl⟩
theorem Tryz.okf58 : ∃ fn, Tryz.prog.funcs[108]? = some fn ∧ cFunc Tryz.prog Tryz.T fn = some x_skymosaic_wide_carrier ∧ x_skymosaic_wide_carrier.body.regsOk = true := ⟨_, Tryz.func108, by kernel_rfl, by kernel_rfl⟩
theorem Tryz.okf59 : ∃ fn, Tryz.prog.funcs[96]? = some fn ∧ cFunc Tryz.prog Tryz.T fn = some x_skymosaic_wide_times ∧ x_skymosaic_wide_times.body.regsOk = true := ⟨_, Tryz.func96, by kernel_rfl, by kernel_rfl⟩
theorem Tryz.okf60 : ∃ fn, Tryz.prog.funcs[109]? = some fn ∧ cFunc Tryz.prog Tryz.T fn = some x_cmp_Compare_int_ ∧ x_cmp_Compare_int_.body.regsOk = true := ⟨_, Tryz.func109, by kernel_rfl, by kernel_rfl⟩
theorem Tryz.okf61 : ∃ fn, Tryz.prog.funcs[110]? = some fn ∧ cFunc Tryz.prog Tryz.T fn = some x_cmp_Compare_uint32_ ∧ x_cmp_Compare_uint32_.body.regsOk = true := ⟨_, Tryz.func110, by kernel_rfl, by kernel_rfl⟩
theorem Tryz.okf62 : ∃ fn, Tryz.prog.funcs[111]? = some fn ∧ cFunc Tryz.prog Tryz.T fn = some x_skymosaic_wide_subtract ∧ x_skymosaic_wide_subtract.body.regsOk = true := ⟨_, Tryz.func111, by kernel_rfl, by kernel_rfl⟩
theorem Tryz.okf64 : ∃ fn, Tryz.prog.funcs[48]? = some fn ∧ cFunc Tryz.prog Tryz.T fn = some x__skymosaic_frac_Frac__Num ∧ x__skymosaic_frac_Frac__Num.body.regsOk = true := ⟨_, Tryz.func48, by kernel_rfl, by kernel_rfl⟩
theorem Tryz.okf65 : ∃ fn, Tryz.prog.funcs[33]? = some fn ∧ cFunc Tryz.prog Tryz.T fn = some x_skymosaic_frac_Div ∧ x_skymosaic_frac_Div.body.regsOk = true := ⟨_, Tryz.func33, by kernel_rfl, by kernel_rfl⟩
theorem Tryz.okf67 : ∃ fn, Tryz.prog.funcs[39]? = some fn ∧ cFunc Tryz.prog Tryz.T fn = some x_skymosaic_frac_Sign ∧ x_skymosaic_frac_Sign.body.regsOk = true := ⟨_, Tryz.func39, by kernel_rfl, by kernel_rfl⟩
theorem Tryz.okf76 : ∃ fn, Tryz.prog.funcs[147]? = some fn ∧ cFunc Tryz.prog Tryz.T fn = some x_math_bits_Len32 ∧ x_math_bits_Len32.body.regsOk = true := ⟨_, Tryz.func147, by kernel_rfl, by kernel_rfl⟩
theorem Tryz.okf77 : ∃ fn, Tryz.prog.funcs[141]? = some fn ∧ cFunc Tryz.prog Tryz.T fn = some x_skymosaic_wide_carrier_1 ∧ x_skymosaic_wide_carrier_1.body.regsOk = true := ⟨_, Tryz.func141, by kernel_rfl, by kernel_rfl⟩
theorem Tryz.okf78 : ∃ fn, Tryz.prog.funcs[142]? = some fn ∧ cFunc Tryz.prog Tryz.T fn = some x_cmp_isNaN_int_ ∧ x_cmp_isNaN_int_.body.regsOk = true := ⟨_, Tryz.func142, by kernel_rfl, by kernel_rfl⟩
theorem Tryz.okf79 : ∃ fn, Tryz.prog.funcs[143]? = some fn ∧ cFunc Tryz.prog Tryz.T fn = some x_cmp_isNaN_uint32_ ∧ x_cmp_isNaN_uint32_.body.regsOk = true := ⟨_, Tryz.func143, by kernel_rfl, by kernel_rfl⟩
theorem Tryz.okf80 : ∃ fn, Tryz.prog.funcs[139]? = some fn ∧ cFunc Tryz.prog Tryz.T fn = some x__skymosaic_wide_Int__Small ∧ x__skymosaic_wide_Int__Small.body.regsOk = true := ⟨_, Tryz.func139, by kernel_rfl, by kernel_rfl⟩
theorem Tryz.okf81 : ∃ fn, Tryz.prog.funcs[29]? = some fn ∧ cFunc Tryz.prog Tryz.T fn = some x_skymosaic_frac_Sub ∧ x_skymosaic_frac_Sub.body.regsOk = true := ⟨_, Tryz.func29, by kernel_rfl, by kernel_rfl⟩
theorem Tryz.okf85 : ∃ fn, Tryz.prog.funcs[148]? = some fn ∧ cFunc Tryz.prog Tryz.T fn = some x_internal_stringslite_HasPrefix ∧ x_internal_stringslite_HasPrefix.body.regsOk = true := ⟨_, Tryz.func148, by kernel_rfl, by kernel_rfl⟩
theorem Tryz.okf107 : ∃ fn, Tryz.prog.funcs[64]? = some fn ∧ cFunc Tryz.prog Tryz.T fn = some x_skymosaic_skymosaicref03_Text ∧ x_skymosaic_skymosaicref03_Text.body.regsOk = true := ⟨_, Tryz.func64, by kernel_rfl, by kernel_rfl⟩
theorem Tryz.okf110 : ∃ fn, Tryz.prog.funcs[63]? = some fn ∧ cFunc Tryz.prog Tryz.T fn = some x_skymosaic_wide_Parse ∧ x_skymosaic_wide_Parse.body.regsOk = true := ⟨_, Tryz.func63, by kernel_rfl, by kernel_rfl⟩
theorem Tryz.okf111 : ∃ fn, Tryz.prog.funcs[74]? = some fn ∧ cFunc Tryz.prog Tryz.T fn = some x_skymosaic_skymosaicref03_Parse ∧ x_skymosaic_skymosaicref03_Parse.body.regsOk = true := ⟨_, Tryz.func74, by kernel_rfl, by kernel_rfl⟩
theorem Tryz.okf114 : ∃ fn, Tryz.prog.funcs[15]? = some fn ∧ cFunc Tryz.prog Tryz.T fn = some x_skymosaic_skymosaicref03_Of ∧ x_skymosaic_skymosaicref03_Of.body.regsOk = true := ⟨_, Tryz.func15, by kernel_rfl, by kernel_rfl⟩
theorem Tryz.okf118 : ∃ fn, Tryz.prog.funcs[12]? = some fn ∧ cFunc Tryz.prog Tryz.T fn = some x_skymosaic_skymosaicref03_Mul ∧ x_skymosaic_skymosaicref03_Mul.body.regsOk = true := ⟨_, Tryz.func12, by kernel_rfl, by kernel_rfl⟩
theorem Tryz.okf119 : ∃ fn, Tryz.prog.funcs[56]? = some fn ∧ cFunc Tryz.prog Tryz.T fn = some x_skymosaic_skymosaicref03_Add ∧ x_skymosaic_skymosaicref03_Add.body.regsOk = true := ⟨_, Tryz.func56, by kernel_rfl, by kernel_rfl⟩
theorem Tryz.okf120 : ∃ fn, Tryz.prog.funcs[66]? = some fn ∧ cFunc Tryz.prog Tryz.T fn = some x_skymosaic_skymosaicref03_Div ∧ x_skymosaic_skymosaicref03_Div.body.regsOk = true := ⟨_, Tryz.func66, by kernel_rfl, by kernel_rfl⟩
theorem Tryz.okf121 : ∃ fn, Tryz.prog.funcs[35]? = some fn ∧ cFunc Tryz.prog Tryz.T fn = some x_skymosaic_skymosaicref03_Sub ∧ x_skymosaic_skymosaicref03_Sub.body.regsOk = true := ⟨_, Tryz.func35, by kernel_rfl, by kernel_rfl⟩
theorem Tryz.okf123 : ∃ fn, Tryz.prog.funcs[14]? = some fn ∧ cFunc Tryz.prog Tryz.T fn = some x_skymosaic_skymosaicref03_Neg ∧ x_skymosaic_skymosaicref03_Neg.body.regsOk = true := ⟨_, Tryz.func14, by kernel_rfl, by kernel_rfl⟩
theorem Tryz.okf124 : ∃ fn, Tryz.prog.funcs[77]? = some fn ∧ cFunc Tryz.prog Tryz.T fn = some x_skymosaic_skymosaicref03_Compare ∧ x_skymosaic_skymosaicref03_Compare.body.regsOk = true := ⟨_, Tryz.func77, by kernel_rfl, by kernel_rfl⟩
theorem Tryz.okf125 : ∃ fn, Tryz.prog.funcs[65]? = some fn ∧ cFunc Tryz.prog Tryz.T fn = some x_skymosaic_skymosaicref03_Gcd ∧ x_skymosaic_skymosaicref03_Gcd.body.regsOk = true := ⟨_, Tryz.func65, by kernel_rfl, by kernel_rfl⟩
theorem Tryz.okf126 : ∃ fn, Tryz.prog.funcs[70]? = some fn ∧ cFunc Tryz.prog Tryz.T fn = some x_skymosaic_skymosaicref03_Fits ∧ x_skymosaic_skymosaicref03_Fits.body.regsOk = true := ⟨_, Tryz.func70, by kernel_rfl, by kernel_rfl⟩
theorem Tryz.okf127 : ∃ fn, Tryz.prog.funcs[97]? = some fn ∧ cFunc Tryz.prog Tryz.T fn = some x_skymosaic_skymosaicref01_Decimal ∧ x_skymosaic_skymosaicref01_Decimal.body.regsOk = true := ⟨_, Tryz.func97, by kernel_rfl, by kernel_rfl⟩
theorem Tryz.okf128 : ∃ fn, Tryz.prog.funcs[13]? = some fn ∧ cFunc Tryz.prog Tryz.T fn = some x_skymosaic_skymosaicref03_Power ∧ x_skymosaic_skymosaicref03_Power.body.regsOk = true := ⟨_, Tryz.func13, by kernel_rfl, by kernel_rfl⟩
theorem Tryz.okf129 : ∃ fn, Tryz.prog.funcs[92]? = some fn ∧ cFunc Tryz.prog Tryz.T fn = some x_strings_CutPrefix ∧ x_strings_CutPrefix.body.regsOk = true := ⟨_, Tryz.func92, by kernel_rfl, by kernel_rfl⟩
theorem Tryz.okf132 : ∃ fn, Tryz.prog.funcs[57]? = some fn ∧ cFunc Tryz.prog Tryz.T fn = some x_skymosaic_skymosaicref03_normal ∧ x_skymosaic_skymosaicref03_normal.body.regsOk = true := ⟨_, Tryz.func57, by kernel_rfl, by kernel_rfl⟩
theorem Tryz.okf133 : ∃ fn, Tryz.prog.funcs[87]? = some fn ∧ cFunc Tryz.prog Tryz.T fn = some x_skymosaic_skymosaicref03_plus ∧ x_skymosaic_skymosaicref03_plus.body.regsOk = true := ⟨_, Tryz.func87, by kernel_rfl, by kernel_rfl⟩
theorem Tryz.okf134 : ∃ fn, Tryz.prog.funcs[88]? = some fn ∧ cFunc Tryz.prog Tryz.T fn = some x_skymosaic_skymosaicref03_compared ∧ x_skymosaic_skymosaicref03_compared.body.regsOk = true := ⟨_, Tryz.func88, by kernel_rfl, by kernel_rfl⟩
theorem Tryz.okf135 : ∃ fn, Tryz.prog.funcs[89]? = some fn ∧ cFunc Tryz.prog Tryz.T fn = some x_skymosaic_skymosaicref03_minus ∧ x_skymosaic_skymosaicref03_minus.body.regsOk = true := ⟨_, Tryz.func89, by kernel_rfl, by kernel_rfl⟩
theorem Tryz.okf136 : ∃ fn, Tryz.prog.funcs[98]? = some fn ∧ cFunc Tryz.prog Tryz.T fn = some x_skymosaic_skymosaicref03_divided ∧ x_skymosaic_skymosaicref03_divided.body.regsOk = true := ⟨_, Tryz.func98, by kernel_rfl, by kernel_rfl⟩
theorem Tryz.okf137 : ∃ fn, Tryz.prog.funcs[121]? = some fn ∧ cFunc Tryz.prog Tryz.T fn = some x_internal_stringslite_CutPrefix ∧ x_internal_stringslite_CutPrefix.body.regsOk = true := ⟨_, Tryz.func121, by kernel_rfl, by kernel_rfl⟩
theorem Tryz.okf147 : ∃ fn, Tryz.prog.funcs[117]? = some fn ∧ cFunc Tryz.prog Tryz.T fn = some x_skymosaic_skymosaicref03_at ∧ x_skymosaic_skymosaicref03_at.body.regsOk = true := ⟨_, Tryz.func117, by kernel_rfl, by kernel_rfl⟩
theorem Tryz.okf148 : ∃ fn, Tryz.prog.funcs[131]? = some fn ∧ cFunc Tryz.prog Tryz.T fn = some x_skymosaic_skymosaicref03_digit ∧ x_skymosaic_skymosaicref03_digit.body.regsOk = true := ⟨_, Tryz.func131, by kernel_rfl, by kernel_rfl⟩
theorem Tryz.okf149 : ∃ fn, Tryz.prog.funcs[132]? = some fn ∧ cFunc Tryz.prog Tryz.T fn = some x_skymosaic_skymosaicref03_small ∧ x_skymosaic_skymosaicref03_small.body.regsOk = true := ⟨_, Tryz.func132, by kernel_rfl, by kernel_rfl⟩
theorem Tryz.okf159 : ∃ fn, Tryz.prog.funcs[158]? = some fn ∧ cFunc Tryz.prog Tryz.T fn = some x_skymosaic_skymosaicref03_digits ∧ x_skymosaic_skymosaicref03_digits.body.regsOk = true := ⟨_, Tryz.func158, by kernel_rfl, by kernel_rfl⟩
theorem Tryz.okf172 : ∃ fn, Tryz.prog.funcs[3]? = some fn ∧ cFunc Tryz.prog Tryz.T fn = some x_skymosaic_skymosaiclaw04_FracMakes ∧ x_skymosaic_skymosaiclaw04_FracMakes.body.regsOk = true := ⟨_, Tryz.func3, by kernel_rfl, by kernel_rfl⟩
theorem Tryz.okf173 : ∃ fn, Tryz.prog.funcs[4]? = some fn ∧ cFunc Tryz.prog Tryz.T fn = some x_skymosaic_skymosaiclaw04_FracSums ∧ x_skymosaic_skymosaiclaw04_FracSums.body.regsOk = true := ⟨_, Tryz.func4, by kernel_rfl, by kernel_rfl⟩
theorem Tryz.okf174 : ∃ fn, Tryz.prog.funcs[5]? = some fn ∧ cFunc Tryz.prog Tryz.T fn = some x_skymosaic_skymosaiclaw04_FracBounds ∧ x_skymosaic_skymosaiclaw04_FracBounds.body.regsOk = true := ⟨_, Tryz.func5, by kernel_rfl, by kernel_rfl⟩
theorem Tryz.okf175 : ∃ fn, Tryz.prog.funcs[6]? = some fn ∧ cFunc Tryz.prog Tryz.T fn = some x_skymosaic_skymosaiclaw04_FracField ∧ x_skymosaic_skymosaiclaw04_FracField.body.regsOk = true := ⟨_, Tryz.func6, by kernel_rfl, by kernel_rfl⟩
theorem Tryz.okf176 : ∃ fn, Tryz.prog.funcs[7]? = some fn ∧ cFunc Tryz.prog Tryz.T fn = some x_skymosaic_skymosaiclaw04_FracTexts ∧ x_skymosaic_skymosaiclaw04_FracTexts.body.regsOk = true := ⟨_, Tryz.func7, by kernel_rfl, by kernel_rfl⟩
theorem Tryz.okf177 : ∃ fn, Tryz.prog.funcs[8]? = some fn ∧ cFunc Tryz.prog Tryz.T fn = some x_skymosaic_skymosaiclaw04_FracOrder ∧ x_skymosaic_skymosaiclaw04_FracOrder.body.regsOk = true := ⟨_, Tryz.func8, by kernel_rfl, by kernel_rfl⟩
theorem Tryz.okf179 : ∃ fn, Tryz.prog.funcs[10]? = some fn ∧ cFunc Tryz.prog Tryz.T fn = some x_skymosaic_skymosaicref04_Number ∧ x_skymosaic_skymosaicref04_Number.body.regsOk = true := ⟨_, Tryz.func10, by kernel_rfl, by kernel_rfl⟩
theorem Tryz.okf180 : ∃ fn, Tryz.prog.funcs[11]? = some fn ∧ cFunc Tryz.prog Tryz.T fn = some x_skymosaic_skymosaicref04_Pick ∧ x_skymosaic_skymosaicref04_Pick.body.regsOk = true := ⟨_, Tryz.func11, by kernel_rfl, by kernel_rfl⟩
theorem Tryz.okf181 : ∃ fn, Tryz.prog.funcs[17]? = some fn ∧ cFunc Tryz.prog Tryz.T fn = some x_skymosaic_skymosaiclaw04_number ∧ x_skymosaic_skymosaiclaw04_number.body.regsOk = true := ⟨_, Tryz.func17, by kernel_rfl, by kernel_rfl⟩
theorem Tryz.okf182 : ∃ fn, Tryz.prog.funcs[18]? = some fn ∧ cFunc Tryz.prog Tryz.T fn = some x_skymosaic_skymosaicref04_Make ∧ x_skymosaic_skymosaicref04_Make.body.regsOk = true := ⟨_, Tryz.func18, by kernel_rfl, by kernel_rfl⟩
theorem Tryz.okf183 : ∃ fn, Tryz.prog.funcs[19]? = some fn ∧ cFunc Tryz.prog Tryz.T fn = some x_skymosaic_skymosaiclaw04_same ∧ x_skymosaic_skymosaiclaw04_same.body.regsOk = true := ⟨_, Tryz.func19, by kernel_rfl, by kernel_rfl⟩
theorem Tryz.okf184 : ∃ fn, Tryz.prog.funcs[21]? = some fn ∧ cFunc Tryz.prog Tryz.T fn = some x_skymosaic_skymosaiclaw04_whole ∧ x_skymosaic_skymosaiclaw04_whole.body.regsOk = true := ⟨_, Tryz.func21, by kernel_rfl, by kernel_rfl⟩
theorem Tryz.okf185 : ∃ fn, Tryz.prog.funcs[22]? = some fn ∧ cFunc Tryz.prog Tryz.T fn = some x_skymosaic_skymosaicref04_Of ∧ x_skymosaic_skymosaicref04_Of.body.regsOk = true := ⟨_, Tryz.func22, by kernel_rfl, by kernel_rfl⟩
theorem Tryz.okf186 : ∃ fn, Tryz.prog.funcs[23]? = some fn ∧ cFunc Tryz.prog Tryz.T fn = some x_skymosaic_skymosaiclaw04_lives ∧ x_skymosaic_skymosaiclaw04_lives.body.regsOk = true := ⟨_, Tryz.func23, by kernel_rfl, by kernel_rfl⟩
theorem Tryz.okf187 : ∃ fn, Tryz.prog.funcs[24]? = some fn ∧ cFunc Tryz.prog Tryz.T fn = some x_skymosaic_skymosaicref04_Frac ∧ x_skymosaic_skymosaicref04_Frac.body.regsOk = true := ⟨_, Tryz.func24, by kernel_rfl, by kernel_rfl⟩
theorem Tryz.okf188 : ∃ fn, Tryz.prog.funcs[25]? = some fn ∧ cFunc Tryz.prog Tryz.T fn = some x_skymosaic_skymosaicref04_Neg ∧ x_skymosaic_skymosaicref04_Neg.body.regsOk = true := ⟨_, Tryz.func25, by kernel_rfl, by kernel_rfl⟩
theorem Tryz.okf189 : ∃ fn, Tryz.prog.funcs[26]? = some fn ∧ cFunc Tryz.prog Tryz.T fn = some x_skymosaic_skymosaiclaw04_of ∧ x_skymosaic_skymosaiclaw04_of.body.regsOk = true := ⟨_, Tryz.func26, by kernel_rfl, by kernel_rfl⟩
theorem Tryz.okf190 : ∃ fn, Tryz.prog.funcs[28]? = some fn ∧ cFunc Tryz.prog Tryz.T fn = some x_skymosaic_skymosaicref04_Add ∧ x_skymosaic_skymosaicref04_Add.body.regsOk = true := ⟨_, Tryz.func28, by kernel_rfl, by kernel_rfl⟩
theorem Tryz.okf191 : ∃ fn, Tryz.prog.funcs[30]? = some fn ∧ cFunc Tryz.prog Tryz.T fn = some x_skymosaic_skymosaicref04_Sub ∧ x_skymosaic_skymosaicref04_Sub.body.regsOk = true := ⟨_, Tryz.func30, by kernel_rfl, by kernel_rfl⟩
theorem Tryz.okf192 : ∃ fn, Tryz.prog.funcs[32]? = some fn ∧ cFunc Tryz.prog Tryz.T fn = some x_skymosaic_skymosaicref04_Mul ∧ x_skymosaic_skymosaicref04_Mul.body.regsOk = true := ⟨_, Tryz.func32, by kernel_rfl, by kernel_rfl⟩
theorem Tryz.okf193 : ∃ fn, Tryz.prog.funcs[34]? = some fn ∧ cFunc Tryz.prog Tryz.T fn = some x_skymosaic_skymosaicref04_Div ∧ x_skymosaic_skymosaicref04_Div.body.regsOk = true := ⟨_, Tryz.func34, by kernel_rfl, by kernel_rfl⟩
theorem Tryz.okf194 : ∃ fn, Tryz.prog.funcs[36]? = some fn ∧ cFunc Tryz.prog Tryz.T fn = some x_skymosaic_skymosaiclaw04_around ∧ x_skymosaic_skymosaiclaw04_around.body.regsOk = true := ⟨_, Tryz.func36, by kernel_rfl, by kernel_rfl⟩
theorem Tryz.okf195 : ∃ fn, Tryz.prog.funcs[38]? = some fn ∧ cFunc Tryz.prog Tryz.T fn = some x_skymosaic_skymosaiclaw04_equal ∧ x_skymosaic_skymosaiclaw04_equal.body.regsOk = true := ⟨_, Tryz.func38, by kernel_rfl, by kernel_rfl⟩
theorem Tryz.okf196 : ∃ fn, Tryz.prog.funcs[40]? = some fn ∧ cFunc Tryz.prog Tryz.T fn = some x_skymosaic_skymosaicref04_Text ∧ x_skymosaic_skymosaicref04_Text.body.regsOk = true := ⟨_, Tryz.func40, by kernel_rfl, by kernel_rfl⟩
theorem Tryz.okf197 : ∃ fn, Tryz.prog.funcs[41]? = some fn ∧ cFunc Tryz.prog Tryz.T fn = some x_skymosaic_frac_Parse ∧ x_skymosaic_frac_Parse.body.regsOk = true := ⟨_, Tryz.func41, by kernel_rfl, by kernel_rfl⟩
theorem Tryz.okf198 : ∃ fn, Tryz.prog.funcs[43]? = some fn ∧ cFunc Tryz.prog Tryz.T fn = some x_skymosaic_skymosaicref04_Parse ∧ x_skymosaic_skymosaicref04_Parse.body.regsOk = true := ⟨_, Tryz.func43, by kernel_rfl, by kernel_rfl⟩
theorem Tryz.okf199 : ∃ fn, Tryz.prog.funcs[44]? = some fn ∧ cFunc Tryz.prog Tryz.T fn = some x_skymosaic_skymosaicref04_Sign ∧ x_skymosaic_skymosaicref04_Sign.body.regsOk = true := ⟨_, Tryz.func44, by kernel_rfl, by kernel_rfl⟩
theorem Tryz.okf200 : ∃ fn, Tryz.prog.funcs[46]? = some fn ∧ cFunc Tryz.prog Tryz.T fn = some x_skymosaic_skymosaicref04_Compare ∧ x_skymosaic_skymosaicref04_Compare.body.regsOk = true := ⟨_, Tryz.func46, by kernel_rfl, by kernel_rfl⟩
theorem Tryz.okf207 : ∃ fn, Tryz.prog.funcs[68]? = some fn ∧ cFunc Tryz.prog Tryz.T fn = some x_skymosaic_frac_Pow ∧ x_skymosaic_frac_Pow.body.regsOk = true := ⟨_, Tryz.func68, by kernel_rfl, by kernel_rfl⟩
theorem Tryz.okf208 : ∃ fn, Tryz.prog.funcs[71]? = some fn ∧ cFunc Tryz.prog Tryz.T fn = some x_skymosaic_skymosaicref04_ranged ∧ x_skymosaic_skymosaicref04_ranged.body.regsOk = true := ⟨_, Tryz.func71, by kernel_rfl, by kernel_rfl⟩
theorem Tryz.okf209 : ∃ fn, Tryz.prog.funcs[73]? = some fn ∧ cFunc Tryz.prog Tryz.T fn = some x_strings_Cut ∧ x_strings_Cut.body.regsOk = true := ⟨_, Tryz.func73, by kernel_rfl, by kernel_rfl⟩
theorem Tryz.okf215 : ∃ fn, Tryz.prog.funcs[105]? = some fn ∧ cFunc Tryz.prog Tryz.T fn = some x_skymosaic_frac_power ∧ x_skymosaic_frac_power.body.regsOk = true := ⟨_, Tryz.func105, by kernel_rfl, by kernel_rfl⟩
theorem Tryz.okf216 : ∃ fn, Tryz.prog.funcs[107]? = some fn ∧ cFunc Tryz.prog Tryz.T fn = some x_internal_stringslite_Cut ∧ x_internal_stringslite_Cut.body.regsOk = true := ⟨_, Tryz.func107, by kernel_rfl, by kernel_rfl⟩
theorem Tryz.allc : AllCal Tryz.prog Tryz.keyL := ⟨Tryz.okc8, Tryz.okc9, Tryz.okc11, Tryz.okc16, Tryz.okc17, Tryz.okc18, Tryz.okc19, Tryz.okc20, Tryz.okc21, Tryz.okc22, Tryz.okc23, Tryz.okc24, Tryz.okc29, Tryz.okc30, Tryz.okc31, Tryz.okc33, Tryz.okc34, Tryz.okc35, Tryz.okc36, Tryz.okc37, Tryz.okc38, Tryz.okc39, Tryz.okc40, Tryz.okc41, Tryz.okc42, Tryz.okc43, Tryz.okc48, Tryz.okc49, Tryz.okc50, Tryz.okc51, Tryz.okc55, Tryz.okc56, Tryz.okc57, Tryz.okc58, Tryz.okc59, Tryz.okc60, Tryz.okc61, Tryz.okc62, Tryz.okc64, Tryz.okc65, Tryz.okc67, Tryz.okc76, Tryz.okc77, Tryz.okc78, Tryz.okc79, Tryz.okc80, Tryz.okc81, Tryz.okc85, Tryz.okc107, Tryz.okc110, Tryz.okc111, Tryz.okc114, Tryz.okc118, Tryz.okc119, Tryz.okc120, Tryz.okc121, Tryz.okc123, Tryz.okc124, Tryz.okc125, Tryz.okc126, Tryz.okc127, Tryz.okc128, Tryz.okc129, Tryz.okc130, Tryz.okc131, Tryz.okc132, Tryz.okc133, Tryz.okc134, Tryz.okc135, Tryz.okc136, Tryz.okc137, Tryz.okc147, Tryz.okc148, Tryz.okc149, Tryz.okc159, Tryz.okc172, Tryz.okc173, Tryz.okc174, Tryz.okc175, Tryz.okc176, Tryz.okc177, Tryz.okc179, Tryz.okc180, Tryz.okc181, Tryz.okc182, Tryz.okc183, Tryz.okc184, Tryz.okc185, Tryz.okc186, Tryz.okc187, Tryz.okc188, Tryz.okc189, Tryz.okc190, Tryz.okc191, Tryz.okc192, Tryz.okc193, Tryz.okc194, Tryz.okc195, Tryz.okc196, Tryz.okc197, Tryz.okc198, Tryz.okc199, Tryz.okc200, Tryz.okc207, Tryz.okc208, Tryz.okc209, Tryz.okc215, Tryz.okc216, Tryz.okc222, True.intro⟩
theorem Tryz.allf : AllOk Tryz.prog Tryz.T progL Tryz.keyL := ⟨Tryz.okf8, Tryz.okf9, Tryz.okf11, Tryz.okf16, Tryz.okf17, Tryz.okf18, Tryz.okf19, Tryz.okf20, Tryz.okf21, Tryz.okf22, Tryz.okf23, Tryz.okf24, Tryz.okf29, Tryz.okf30, Tryz.okf31, Tryz.okf34, Tryz.okf35, Tryz.okf36, Tryz.okf37, Tryz.okf38, Tryz.okf39, Tryz.okf40, Tryz.okf41, Tryz.okf42, Tryz.okf43, Tryz.okf48, Tryz.okf49, Tryz.okf55, Tryz.okf56, Tryz.okf57, Tryz.okf58, Tryz.okf59, Tryz.okf60, Tryz.okf61, Tryz.okf62, Tryz.okf64, Tryz.okf65, Tryz.okf67, Tryz.okf76, Tryz.okf77, Tryz.okf78, Tryz.okf79, Tryz.okf80, Tryz.okf81, Tryz.okf85, Tryz.okf107, Tryz.okf110, Tryz.okf111, Tryz.okf114, Tryz.okf118, Tryz.okf119, Tryz.okf120, Tryz.okf121, Tryz.okf123, Tryz.okf124, Tryz.okf125, Tryz.okf126, Tryz.okf127, Tryz.okf128, Tryz.okf129, Tryz.okf132, Tryz.okf133, Tryz.okf134, Tryz.okf135, Tryz.okf136, Tryz.okf137, Tryz.okf147, Tryz.okf148, Tryz.okf149, Tryz.okf159, Tryz.okf172, Tryz.okf173, Tryz.okf174, Tryz.okf175, Tryz.okf176, Tryz.okf177, Tryz.okf179, Tryz.okf180, Tryz.okf181, Tryz.okf182, Tryz.okf183, Tryz.okf184, Tryz.okf185, Tryz.okf186, Tryz.okf187, Tryz.okf188, Tryz.okf189, Tryz.okf190, Tryz.okf191, Tryz.okf192, Tryz.okf193, Tryz.okf194, Tryz.okf195, Tryz.okf196, Tryz.okf197, Tryz.okf198, Tryz.okf199, Tryz.okf200, Tryz.okf207, Tryz.okf208, Tryz.okf209, Tryz.okf215, Tryz.okf216, True.intro⟩
theorem Tryz.libok : LibOk Tryz.prog Tryz.lren (fun f => (Tryz.keyL[f]?).join) Tryz.T 5 where
  l105 := Tryz.l105
  l171 := Tryz.l171
  lX := Tryz.lX
  gname := by kernel_rfl
  gkey := rfl
  k50 := rfl
  k51 := rfl
  o130 := fun g h => ⟨Tryz.l160, by kernel_rfl, (Option.some.inj h).symm⟩
  o131 := fun g h => ⟨Tryz.l172, (Option.some.inj h).symm⟩
  o222 := fun g h => ⟨Tryz.l219, (Option.some.inj h).symm⟩
theorem Tryz.mixed : Tryz.prog.follows .mixedOrders = true := by kernel_rfl
theorem Tryz.progok1 : ProgOk Tryz.prog (fun f => (Tryz.keyL[f]?).join) Tryz.T E1.prog := progOk1 Tryz.mixed Tryz.allc Tryz.allf Tryz.libok
theorem Tryz.gk0 : ∀ g n, Tryz.T.gkey g = some n → n = 0 := fun g n h => by
  have h : (if g = 5 then some 0 else none) = some n := h
  split at h
  · cases h; rfl
  · cases h
theorem Tryz.progok : ProgOk Tryz.prog (fun f => (Tryz.keyL[f]?).join) Tryz.T E0.prog := progOk0 Tryz.mixed Tryz.allc Tryz.allf Tryz.libok fun {g} hk => by
  obtain rfl : g = 67 := (Option.some.inj hk).symm
  exact fun {_ _ _ _ _ _ _ _} e TO RL S => str_orc (pre := Tryz.strPre) (tail := Tryz.strTail) Tryz.progok1 KE1 Tryz.gk0 (G := 5) rfl Tryz.func67 rfl (by kernel_rfl) rfl rfl (fun neg ps h1 h2 h3 b1 o1 b3 o3 c w h4 h5 h6 h7 tm h8 h9 h10 => Tryz.str_tail neg ps h1 h2 h3 b1 o1 b3 o3 c w h4 h5 h6 h7 tm h8 h9 h10) e TO RL S
end Go.Proofs
namespace Go.Eng
open Go.RowKit
theorem tabIs_mem {P : Program} {W : World} {name : String} {k : IntKind} {zs : List Int} {g : Nat} {t e : TypeId} {n : Nat}
    (hg : P.globalNamed name = some g) (hty : (P.globals[g]?).map (·.type) = some t) (ht : P.underlying t = some (.array n e)) (he : P.underlying e = some (.int k)) (hce : P.cellsOf e = 1) (hct : P.cellsOf t = n) :
    ∀ {laid : List (String × DataW Unit)} {ps : List MemPlace}, DataW.LaidVars P W laid ps → (name, Lib.tabData k zs) ∈ laid → Lib.TabIs P W name k zs
  | [], _, _, hm => by cases hm
  | x :: laid, ps, h, hm => by
    obtain ⟨g', t', cs, fuel, p, q, hg', ht', hvar, hd, h2, h3⟩ := h
    rcases List.mem_cons.1 hm with rfl | hm
    · obtain rfl := Option.some.inj (hg.symm.trans hg')
      obtain rfl := Option.some.inj (hty.symm.trans ht')
      unfold Lib.TabIs
      rw [hvar, ← Lib.cells_of_tab ht he hce hct hd]
    · exact tabIs_mem hg hty ht he hce hct (by first | exact h2 | exact h3 | exact h3.1 | exact h2.1) hm
def IsRow (k : IntKind) (w : World) (a : Option Addr) (len cap : Nat) (zs : List Int) : Prop :=
  (a = none ∧ len = 0 ∧ cap = 0 ∧ zs = []) ∨
  ∃ x, a = some x ∧ len ≤ cap ∧ cap ≤ maxLen ∧ zs.length = cap ∧ (∀ i, i < zs.length → w.cell? (x.add i) = some (.int k (zs.getD i 0))) ∧ ∀ n ∈ zs, (Lit.int k n).wf = true
def hpA (bs : List (List AV)) : Hp := ⟨fun n => match n with | 0 => some ⟨powT, false, 0⟩ | n + 1 => (bs[n]?).map fun c => ⟨c, false, 0⟩, bs.length + 1⟩
def locA (a0 : At) (ats : List At) : Loc := fun n => match n with | 0 => some a0 | n + 1 => ats[n]?
def InW (c : List AV) (a : At) (W : World) : Prop :=
  a.b < W.heap.size ∧ a.w = false ∧ c.length ≤ a.n ∧ ∀ i (h : i < c.length), c[i].scal = true ∧ ∃ v, W.cell? ⟨a.b, a.o + i, none⟩ = some v ∧ ∀ key l, Rel key l c[i] v
theorem simA {P : Program} {key : Nat → Option FuncId} {F : Nat} {W : World} {G : Nat} (hg : P.globalNamed "internal/strconv.uint64pow10" = some G) (ht : Lib.TabIs P W "internal/strconv.uint64pow10" .u64 Lib.pow10Tab)
    {bs : List (List AV)} {ats : List At} (hl : ats.length = bs.length) (hin : ∀ (n : Nat) c a, bs[n]? = some c → ats[n]? = some a → InW c a W) : Sim key F (locA ⟨G, 0, 20, true⟩ ats) (hpA bs) W := by
  have hb : ∃ cs t fz, W.heap[G]? = some (.cells cs t fz) ∧ cs = (Lib.pow10Tab.map fun z => Value.int .u64 z).toArray := by
    unfold Lib.TabIs World.var? at ht
    rw [hg] at ht
    simp only [Option.bind_some] at ht
    split at ht
    · rename_i cs t fz hh
      cases ht
      exact ⟨_, t, fz, hh, rfl⟩
    · cases ht
  obtain ⟨cs, t, fz, hh, rfl⟩ := hb
  have hlt : G < W.heap.size := by
    rcases Nat.lt_or_ge G W.heap.size with q | q
    · exact q
    · rw [Array.getElem?_eq_none q] at hh; cases hh
  have hout : ∀ n, bs.length ≤ n → ats[n]? = none := fun n hn => List.getElem?_eq_none (by omega)
  refine ⟨fun n blk a e1 e2 => ?_, fun n blk a n' blk' a' e1 e2 e3 => ?_, fun n a e => ?_, fun n a e => ?_, fun n hn => ?_⟩
  · cases n with
    | zero =>
      cases e1; cases e2
      have hpl : powT.length = 20 := rfl
      refine ⟨hlt, by show powT.length ≤ 20; omega, fun i hi => ?_, fun i hi => ?_, fun q => (by cases q), fun _ => ⟨rfl, rfl, _, t, fz, hh, by simp [Lib.pow10Tab, powT]⟩⟩
      · have hi' : i < 20 := by rw [← hpl]; exact hi
        refine ⟨.int .u64 ((10 ^ i : Nat) : Int), ?_, ?_⟩
        · simp only [World.cell?, hh, Nat.zero_add]
          simp [Lib.pow10Tab, hi']
        · simp only [powT, List.getElem_map, List.getElem_range]
          exact .i _ _
      · simp only [powT, List.getElem_map]; rfl
    | succ n =>
      have e2 : ats[n]? = some a := e2
      simp only [hpA, Option.map_eq_some_iff] at e1
      obtain ⟨c, c1, rfl⟩ := e1
      obtain ⟨q1, q2, q3, q4⟩ := hin n c a c1 e2
      exact ⟨q1, q3, fun i hi => by obtain ⟨_, v, v1, v2⟩ := q4 i hi; exact ⟨v, v1, v2 key _⟩, fun i hi => (q4 i hi).1, fun q => (by cases q), fun q => by rw [q2] at q; cases q⟩
  · cases n with
    | zero => cases e1; cases e3
    | succ n =>
      simp only [hpA, Option.map_eq_some_iff] at e1
      obtain ⟨c, c1, rfl⟩ := e1
      cases e3
  · cases n with
    | zero => cases e; exact hlt
    | succ n =>
      have e : ats[n]? = some a := e
      have hn : n < bs.length := by
        rcases Nat.lt_or_ge n bs.length with q | q
        · exact q
        · rw [hout n q] at e; cases e
      exact (hin n _ a (List.getElem?_eq_getElem hn) e).1
  · left
    cases n with
    | zero => show 0 < bs.length + 1; omega
    | succ n =>
      have e : ats[n]? = some a := e
      rcases Nat.lt_or_ge n bs.length with q | q
      · show n + 1 < bs.length + 1; omega
      · rw [hout n q] at e; cases e
  · cases n with
    | zero => have : bs.length + 1 ≤ 0 := hn; omega
    | succ n =>
      have hn : bs.length + 1 ≤ n + 1 := hn
      simp only [hpA]
      rw [List.getElem?_eq_none (by omega)]; rfl
theorem law_calls {P : Program} {key : Nat → Option FuncId} {T : Tab} (K : ProgOk P key T E0.prog) (hTf : ∀ f k, T.fkey f = some k → key k = some f) (hT : ∀ g n, T.gkey g = some n → n = 0) {G : Nat} (hTG : T.gkey G = some 0) (hTu : ∀ g, T.gkey g = some 0 → g = G)
    {W : World} (hg : P.globalNamed "internal/strconv.uint64pow10" = some G) (ht : Lib.TabIs P W "internal/strconv.uint64pow10" .u64 Lib.pow10Tab)
    {bs : List (List AV)} {ats : List At} (hl : ats.length = bs.length) (hin : ∀ (n : Nat) c a, bs[n]? = some c → ats[n]? = some a → InW c a W)
    {k g : Nat} (hk : key k = some g) (hpure : E0.pure k = true) {ps : List PV} (hfz : fzL (fz [] fzD) ps = some (ps, [])) (hpf : pf E0 k ps = some (.b true))
    {avs : List AV} {vs : Array Value} (hV : VL (hpA bs) (fun _ => False) [] ps avs) (hR : RelL key (locA ⟨G, 0, 20, true⟩ ats) avs vs.toList) :
    Calls P g vs W fun e w' => e = .returned (.bool true) ∧ Below W.heap.size W w' := by
  have hc : pcl E0 k ps [] = some (.b true, roM [] []) := pcl_pure hpure hfz hpf
  obtain ⟨kk, hev⟩ := pcl_ex hc
  have hw : (hpA bs).wf := (simA (key := key) (F := 0) hg ht hl hin).wf
  have I : PInv globG (fun _ => False) [] [] (hpA bs) := PInv.start hw ⟨_, rfl, rfl⟩
  obtain ⟨a, h', r', q1, q2, q3, q4⟩ := pvF_ok KE0 kk _ _ _ _ _ _ _ _ _ hev I (VL.dd hV)
  have ha : a = .b true := by cases q4; rfl
  subst ha
  have S := simA (key := key) (F := h'.next) hg ht hl hin
  have TO : TabOk key T (locA ⟨G, 0, 20, true⟩ ats) := by
    refine ⟨fun f k e => ?_, fun g n e => ?_⟩
    · exact hTf f k e
    · obtain rfl := hT g n e
      obtain rfl := hTu g e
      exact ⟨20, rfl⟩
  refine (evF_sound K kk h'.next k g avs vs _ h' _ _ W q1 hk (Nat.le_refl _) TO hR S).mono ?_
  rintro e w' ⟨l', val, rfl, E, S', rv⟩
  cases rv
  refine ⟨rfl, E.os, E.tape, E.output, E.size, fun b hb => E.frame b hb fun m blk a e1 e2 => ?_⟩
  exfalso
  cases m with
  | zero => cases e1; cases e2
  | succ m =>
    simp only [hpA, Option.map_eq_some_iff] at e1
    obtain ⟨c, c1, rfl⟩ := e1
    cases e2
theorem arg_row {k : IntKind} {W : World} (h0 : 0 < W.heap.size) {a : Option Addr} {len cap : Nat} {zs : List Int} (h : IsRow k W a len cap zs) (n : Nat) : ∃ (c : List AV) (at_ : At) (av : AV), InW c at_ W ∧
    (∀ key (l : Loc), l n = some at_ → Rel key l av (.slice a len cap)) ∧ (∀ (h : Hp) (D : Nat → Prop), h.m n = some ⟨c, false, 0⟩ → ¬ D n → V h D [] (.lst ((zs.take len).map fun z => .i k z)) av) := by
  have nilIn : InW [] ⟨0, 0, 0, false⟩ W := ⟨h0, rfl, Nat.le_refl _, fun i hi => by simp at hi⟩
  rcases h with ⟨rfl, rfl, rfl, rfl⟩ | ⟨x, rfl, hl, hm, hz, hcell, hwz⟩
  · exact ⟨[], ⟨0, 0, 0, false⟩, .sn, nilIn, fun key l _ => .sn, fun h D _ _ => .lsn⟩
  · by_cases hlen : len = 0
    · subst hlen
      exact ⟨[], ⟨0, 0, 0, false⟩, .e0, nilIn, fun key l _ => .e0 _ _, fun h D _ _ => .le0⟩
    · obtain ⟨b, off, spot⟩ := x
      have hc := hcell 0 (by omega)
      have hspot : spot = none := by simpa [Addr.add] using World.cell?_spot hc
      subst hspot
      have hlt : b < W.heap.size := by
        rcases Nat.lt_or_ge b W.heap.size with q | q
        · exact q
        · rw [add_at] at hc
          simp [World.cell?, Array.getElem?_eq_none q] at hc
      have hget : ∀ i (hi : i < ((zs.take len).map fun z => AV.i k z).length), ((zs.take len).map fun z => AV.i k z)[i] = .i k (zs.getD i 0) := fun i hi => by
        have hi' : i < zs.length := by simp at hi; omega
        simp only [List.getElem_map, List.getElem_take, List.getD]
        rw [List.getElem?_eq_getElem hi']; rfl
      refine ⟨(zs.take len).map fun z => .i k z, ⟨b, off, cap, false⟩, .sl n 0 len cap 1, ⟨hlt, rfl, by simp; omega, fun i hi => ?_⟩, fun key l hn => ?_, fun h D hb hD => ?_⟩
      · rw [hget i hi]
        have hi' : i < zs.length := by simp at hi; omega
        have := hcell i hi'
        rw [add_at] at this
        exact ⟨rfl, _, this, fun key l => .i _ _⟩
      · have := Rel.sl (key := key) (off := 0) (len := len) (cap := cap) (cap' := cap) (z := 1) hn (Nat.le_refl _) (by show 0 + cap * 1 ≤ cap; omega) hl
        exact this
      · have hfl : flat ((zs.take len).map fun z => PV.i k z) = (zs.take len).map fun z => PV.i k z := by
          generalize zs.take len = ys
          induction ys with
          | nil => rfl
          | cons y ys ih => rw [List.map_cons]; show [PV.i k y] ++ flat _ = _; rw [ih]; rfl
        have hll : ((zs.take len).map fun z => PV.i k z).length = len := by simp; omega
        have := V.lst (h := h) (D := D) (r := []) (xs := (zs.take len).map fun z => PV.i k z) (m := n) (off := 0) (cap := cap) (z := 1) (fun i => .i k (zs.getD i 0)) hb hD (by rw [hfl, List.all_eq_true]; intro x hx; obtain ⟨y, _, rfl⟩ := List.mem_map.1 hx; rfl) (by decide) (fun x hx => by
          obtain ⟨y, _, rfl⟩ := List.mem_map.1 hx; rfl) (by rw [hll]; exact hl) (fun i hi => by
          rw [hfl] at hi
          have hi2 : i < ((zs.take len).map fun z => AV.i k z).length := by simpa using hi
          rw [Nat.zero_add, List.getElem?_eq_getElem hi2, hget i hi2]) (fun i hi => by
          have hi1 : i < ((zs.take len).map fun z => PV.i k z).length := by rw [hfl] at hi; exact hi
          have e : (flat ((zs.take len).map fun z => PV.i k z))[i] = .i k (zs.getD i 0) := by
            simp only [hfl, List.getElem_map, List.getElem_take, List.getD]
            rw [List.getElem?_eq_getElem (by simp at hi1; omega)]; rfl
          rw [e]
          exact .i _ _)
        rw [hll] at this
        exact this
theorem row_heap {P : Program} {W : World} {G : Nat} (hg : P.globalNamed "internal/strconv.uint64pow10" = some G) (ht : Lib.TabIs P W "internal/strconv.uint64pow10" .u64 Lib.pow10Tab) : 0 < W.heap.size := by
  unfold Lib.TabIs World.var? at ht
  rw [hg] at ht
  simp only [Option.bind_some] at ht
  split at ht
  · rename_i cs t fz hh
    rcases Nat.eq_zero_or_pos W.heap.size with q | q
    · rw [Array.getElem?_eq_none (by omega)] at hh; cases hh
    · exact q
  · cases ht
theorem ints_row {W : World} {a : Option Addr} {len cap : Nat} {zs : List Int} (h : IsRow .i64 W a len cap zs) : Ints (zs.take len) := by
  rcases h with ⟨rfl, rfl, rfl, rfl⟩ | ⟨x, rfl, hl, hm, hz, hcell, hwz⟩
  · exact ⟨by simp, fun n hn => by simp at hn⟩
  · refine ⟨?_, fun n hn => ?_⟩
    · have : maxLen ≤ 9223372036854775807 := by decide
      simp; omega
    · have := bounds_i64 (hwz n (List.mem_of_mem_take hn))
      exact this
end Go.Eng
namespace Go.Eng
def gI (p q : Int) : Int := ((Nat.gcd p.natAbs q.natAbs : Nat) : Int)
def lowP (p q : Int) : Int := (if q < 0 then -p else p) / gI p q
def lowQ (p q : Int) : Int := (if q < 0 then -q else q) / gI p q
theorem gI_ne {p q : Int} (h : q ≠ 0) : gI p q ≠ 0 := by
  unfold gI
  intro e
  have : Nat.gcd p.natAbs q.natAbs = 0 := by omega
  have := Nat.eq_zero_of_gcd_eq_zero_right this
  omega
theorem gI_pos {p q : Int} (h : q ≠ 0) : 0 < gI p q := by
  have := gI_ne (p := p) h
  unfold gI at *
  omega
theorem gI_dvdl (p q : Int) : gI p q ∣ p := Int.ofNat_dvd_left.2 (Nat.gcd_dvd_left _ _)
theorem gI_dvdr (p q : Int) : gI p q ∣ q := Int.ofNat_dvd_left.2 (Nat.gcd_dvd_right _ _)
theorem gI_neg (p q : Int) : gI (-p) (-q) = gI p q := by unfold gI; rw [Int.natAbs_neg, Int.natAbs_neg]
theorem low_mul {p q : Int} (h : q ≠ 0) : lowP p q * gI p q = (if q < 0 then -p else p) ∧ lowQ p q * gI p q = (if q < 0 then -q else q) := by
  unfold lowP lowQ
  refine ⟨Int.ediv_mul_cancel ?_, Int.ediv_mul_cancel ?_⟩
  · split
    · exact Int.dvd_neg.2 (gI_dvdl p q)
    · exact gI_dvdl p q
  · split
    · exact Int.dvd_neg.2 (gI_dvdr p q)
    · exact gI_dvdr p q
theorem low_pos {p q : Int} (h : q ≠ 0) : 0 < lowQ p q := by
  have h1 := (low_mul (p := p) h).2
  have h2 := gI_pos (p := p) h
  have h3 : 0 < lowQ p q * gI p q := by rw [h1]; split <;> omega
  exact Int.pos_of_mul_pos_left h3 h2
theorem low_cross {p q : Int} (h : q ≠ 0) : lowP p q * q = p * lowQ p q := by
  obtain ⟨h1, h2⟩ := low_mul (p := p) h
  have h3 := gI_ne (p := p) h
  apply Int.eq_of_mul_eq_mul_right h3
  rw [Int.mul_right_comm, h1, Int.mul_assoc, h2]
  split <;> grind
theorem low_cop {p q : Int} (h : q ≠ 0) : Nat.gcd (lowP p q).natAbs (lowQ p q).natAbs = 1 := by
  obtain ⟨h1, h2⟩ := low_mul (p := p) h
  have h3 := gI_pos (p := p) h
  have e1 : (lowP p q).natAbs * (gI p q).natAbs = p.natAbs := by rw [← Int.natAbs_mul, h1]; split <;> omega
  have e2 : (lowQ p q).natAbs * (gI p q).natAbs = q.natAbs := by rw [← Int.natAbs_mul, h2]; split <;> omega
  have e3 : (gI p q).natAbs = Nat.gcd p.natAbs q.natAbs := Int.natAbs_natCast _
  have e4 := Nat.gcd_mul_right (lowP p q).natAbs (gI p q).natAbs (lowQ p q).natAbs
  rw [e1, e2, ← e3] at e4
  have : 0 < (gI p q).natAbs := by omega
  exact Nat.eq_of_mul_eq_mul_right this (by rw [Nat.one_mul]; exact e4.symm)
theorem low_uniq {p q r s : Int} (hq : 0 < q) (hs : 0 < s) (c1 : Nat.gcd p.natAbs q.natAbs = 1) (c2 : Nat.gcd r.natAbs s.natAbs = 1) (h : p * s = r * q) : p = r ∧ q = s := by
  have n1 : p.natAbs * s.natAbs = r.natAbs * q.natAbs := by rw [← Int.natAbs_mul, ← Int.natAbs_mul, h]
  have d1 : q.natAbs ∣ s.natAbs := by
    have : q.natAbs ∣ p.natAbs * s.natAbs := ⟨r.natAbs, by rw [n1, Nat.mul_comm]⟩
    exact (Nat.Coprime.dvd_of_dvd_mul_left (by rw [Nat.coprime_comm]; exact c1) this)
  have d2 : s.natAbs ∣ q.natAbs := by
    have : s.natAbs ∣ r.natAbs * q.natAbs := ⟨p.natAbs, by rw [← n1, Nat.mul_comm]⟩
    exact (Nat.Coprime.dvd_of_dvd_mul_left (by rw [Nat.coprime_comm]; exact c2) this)
  have e : q.natAbs = s.natAbs := Nat.dvd_antisymm d1 d2
  have e2 : q = s := by omega
  subst e2
  exact ⟨Int.eq_of_mul_eq_mul_right (by omega) h, rfl⟩
theorem low_self {p q : Int} (hq : 0 < q) (c : Nat.gcd p.natAbs q.natAbs = 1) : lowP p q = p ∧ lowQ p q = q := by
  unfold lowP lowQ gI
  rw [c, if_neg (by omega), if_neg (by omega)]
  exact ⟨Int.ediv_one _, Int.ediv_one _⟩
theorem lowP_le {p q : Int} (h : q ≠ 0) : (lowP p q).natAbs ≤ p.natAbs := by
  have h1 := (low_mul (p := p) h).1
  have h3 := gI_pos (p := p) h
  have e1 : (lowP p q).natAbs * (gI p q).natAbs = p.natAbs := by rw [← Int.natAbs_mul, h1]; split <;> omega
  rw [← e1]
  exact Nat.le_mul_of_pos_right _ (by omega)
theorem lowQ_le {p q : Int} (h : q ≠ 0) : (lowQ p q).natAbs ≤ q.natAbs := by
  have h1 := (low_mul (p := p) h).2
  have h3 := gI_pos (p := p) h
  have e1 : (lowQ p q).natAbs * (gI p q).natAbs = q.natAbs := by rw [← Int.natAbs_mul, h1]; split <;> omega
  rw [← e1]
  exact Nat.le_mul_of_pos_right _ (by omega)
end Go.Eng
namespace Go.Eng
theorem pow_bound {n K : Nat} (hn : n = 1229) (hK : K = 16384) : 10000 ^ n ≤ 2 ^ K := by
  obtain ⟨m, hm⟩ : ∃ m, m = 83 := ⟨_, rfl⟩
  have e : (10000 : Nat) ^ n = (10 ^ 59) ^ m * 10 ^ 19 := by
    rw [show (10000 : Nat) = 10 ^ 4 from rfl, ← Nat.pow_mul, ← Nat.pow_mul, ← Nat.pow_add]
    congr 1; omega
  have h1 : (10 : Nat) ^ 59 ≤ 2 ^ 196 := by decide
  have h2 : (10 : Nat) ^ 19 ≤ 2 ^ 64 := by decide
  have h3 : ((10 : Nat) ^ 59) ^ m ≤ (2 ^ 196) ^ m := Nat.pow_le_pow_left h1 m
  have h4 : (2 ^ 196) ^ m * 2 ^ 64 = 2 ^ (196 * m + 64) := by rw [← Nat.pow_mul, ← Nat.pow_add]
  rw [e]
  refine Nat.le_trans (Nat.mul_le_mul h3 h2) ?_
  rw [h4]
  exact Nat.pow_le_pow_right (by decide) (by omega)
def inR (v : Nat) : Prop := v < 2 ^ 16384
theorem fits_iff (v : Nat) : (tlen v < 1230 ∨ v < 2 ^ 16384) ↔ inR v := by
  obtain ⟨n, hn⟩ : ∃ n, n = 1229 := ⟨_, rfl⟩
  have hb := pow_bound (K := 16384) hn rfl
  unfold inR
  generalize (2 : Nat) ^ 16384 = q at *
  constructor
  · rintro (h | h)
    · have h2 : v < 10000 ^ n := tlen_iff.1 (by omega)
      exact Nat.lt_of_lt_of_le h2 hb
    · exact h
  · exact .inr
theorem wide_iff (v : Nat) : wlen v ≤ 512 ↔ inR v := by
  obtain ⟨n, hn⟩ : ∃ n, n = 512 := ⟨_, rfl⟩
  rw [← hn, wlen_iff]
  unfold inR
  have : (4294967296 : Nat) ^ n = 2 ^ 16384 := by
    rw [show (4294967296 : Nat) = 2 ^ 32 from rfl, ← Nat.pow_mul]
    congr 1; omega
  rw [this]
end Go.Eng
namespace Go.Eng
theorem cut_succ {ds : List UInt8} {s i : Nat} {c : UInt8} (hs : s ≤ i) (hc : ds[i]? = some c) : (ds.take (i + 1)).drop s = (ds.take i).drop s ++ [c] := by
  have hi : i < ds.length := by
    rcases Nat.lt_or_ge i ds.length with h | h
    · exact h
    · rw [List.getElem?_eq_none h] at hc; cases hc
  rw [List.take_add_one, hc, List.drop_append_of_le_length (by simp; omega)]; rfl
theorem p_l3 {F : PFin} {ks : List KI} {ds : List UInt8} {s e : Nat} {fr : PFr} {M : PM} {A2 A3 A4 A7 : PV} (hd : ds.all isDig = true) (hse : s ≤ e) (he : e ≤ ds.length) (h4 : e - s ≤ 4) (hl : ds.length < 100000)
    (h2 : fr 2 = A2) (h3 : fr 3 = A3) (h4' : fr 4 = A4) (h5 : fr 5 = .s ds) (h7 : fr 7 = A7) (h8 : fr 8 = (PV.i .i64 ((e : Nat) : Int))) (h9 : fr 9 = .i .i64 0) (h10 : fr 10 = (PV.i .i64 ((s : Nat) : Int)))
    (cont : ∀ fr', fr' 2 = A2 → fr' 3 = A3 → fr' 4 = A4 → fr' 5 = .s ds → fr' 7 = A7 → fr' 8 = (PV.i .i64 ((e : Nat) : Int)) → fr' 9 = (PV.i .i64 ((tv ((ds.take e).drop s) : Nat) : Int)) → UK E0 F (.exit 4) ks fr' M) : WK E0 F (.loop x_skymosaic_skymosaicref03_Parse_l3) ks fr M := by
  refine wk_ind x_skymosaic_skymosaicref03_Parse_l3.eq_1 (fun (i : Nat) fr M' => s ≤ i ∧ i ≤ e ∧ fr 2 = A2 ∧ fr 3 = A3 ∧ fr 4 = A4 ∧ fr 5 = .s ds ∧ fr 7 = A7 ∧ fr 8 = (PV.i .i64 ((e : Nat) : Int)) ∧ fr 9 = (PV.i .i64 ((tv ((ds.take i).drop s) : Nat) : Int)) ∧ fr 10 = (PV.i .i64 ((i : Nat) : Int)) ∧ M' = M) (fun i => e - i) ?_ s ⟨Nat.le_refl _, hse, h2, h3, h4', h5, h7, h8, by rw [h9, List.drop_of_length_le (by simp; omega)]; rfl, h10, rfl⟩
  rintro i fr M' ⟨hi, hie, h2, h3, h4', h5, h7, h8, h9, h10, rfl⟩ ih
  by_cases hlt : i < e
  · have q1 : ((i : Int) < (e : Int)) = True := by simp; omega
    obtain ⟨c, hc⟩ : ∃ c, ds[i]? = some c := ⟨ds[i]'(by omega), List.getElem?_eq_getElem (by omega)⟩
    have hcd : isDig c = true := by
      rw [List.all_eq_true] at hd
      exact hd c (List.mem_of_getElem? hc)
    simp only [isDig, decide_eq_true_eq] at hcd
    have hsub : ((ds.take i).drop s).all isDig = true := by
      rw [List.all_eq_true] at hd ⊢
      exact fun x hx => hd x (List.mem_of_mem_take (List.mem_of_mem_drop hx))
    have hv := tv_lt _ hsub
    have hlen : ((ds.take i).drop s).length ≤ 3 := by simp; omega
    have hv2 : tv ((ds.take i).drop s) < 1000 := Nat.lt_of_lt_of_le hv (Nat.pow_le_pow_right (by decide) hlen)
    have hnew : tv ((ds.take (i + 1)).drop s) = 10 * tv ((ds.take i).drop s) + (c.toNat - 48) := by
      rw [cut_succ hi hc, tv_app]
      show tv _ * 10 ^ 1 + ((c.toNat - 48) * 10 ^ 0 + 0) = _
      omega
    have e1 : 10 * ((tv ((ds.take i).drop s) : Nat) : Int) + ((c.toNat : Int) - 48) = ((tv ((ds.take (i + 1)).drop s) : Nat) : Int) := by omega
    generalize tv ((ds.take i).drop s) = v at *
    have hg : istrP (.s ds) (some i) = some (.i .u8 (c.toNat : Int)) := by simp [istrP, hc]
    simp (disch := omega) only [go_sem, seval, wrap_i64, wrap_u64, wrap_u32, wrap_u8, wrap_i32, h5, h8, h9, h10, q1, hg, e1]
    exact ih (i + 1) _ _ (by omega) ⟨by omega, by omega, by simp only [go_sem, seval, h2], by simp only [go_sem, seval, h3], by simp only [go_sem, seval, h4'], by simp only [go_sem, seval, h5], by simp only [go_sem, seval, h7], by simp only [go_sem, seval, h8], by simp only [go_sem, seval], by simp only [go_sem, seval]; rfl, rfl⟩
  · have q1 : ((i : Int) < (e : Int)) = False := by simp; omega
    obtain rfl : i = e := by omega
    simp (disch := omega) only [go_sem, seval, wrap_i64, wrap_u64, wrap_u32, wrap_u8, wrap_i32, h8, h10, q1]
    exact cont _ (by simp only [go_sem, seval, h2]) (by simp only [go_sem, seval, h3]) (by simp only [go_sem, seval, h4']) (by simp only [go_sem, seval, h5]) (by simp only [go_sem, seval, h7]) (by simp only [go_sem, seval, h8]) (by simp only [go_sem, seval, h9])
end Go.Eng
namespace Go.Eng
noncomputable instance inRdec (v : Nat) : Decidable (inR v) := Classical.propDecidable _
noncomputable def parseT (s : List UInt8) : Int × Int :=
  let neg : Bool := s.head? == some 45
  let ds := if neg then s.drop 1 else s
  if 5000 < s.length then (0, 4)
  else if ds = [] ∨ (ds.head? = some 48 ∧ (neg = true ∨ 1 < ds.length)) ∨ ¬ ds.all isDig = true then (0, 2)
  else if inR (tv ds) then (sgn neg (tv ds), 0) else (0, 4)
theorem tvT (l : List UInt8) (h : l.all isDig = true) {k : Nat} (hk : l.length ≤ 4 * k) : tv l < 10000 ^ k := by
  have h1 := tv_lt l h
  have h2 : (10 : Nat) ^ l.length ≤ 10 ^ (4 * k) := Nat.pow_le_pow_right (by decide) hk
  rw [Nat.pow_mul] at h2
  exact Nat.lt_of_lt_of_le h1 h2
def rparse_rest : XC := match x_skymosaic_skymosaicref03_Parse.body with
  | .seq _ (.seq _ (.seq _ (.seq _ (.seq _ r)))) => r
  | _ => .skip
def rparse_1 : XC := match x_skymosaic_skymosaicref03_Parse.body with | .seq a _ => a | _ => .skip
def rparse_2 : XC := match x_skymosaic_skymosaicref03_Parse.body with | .seq _ (.seq a _) => a | _ => .skip
def rparse_3 : XC := match x_skymosaic_skymosaicref03_Parse.body with | .seq _ (.seq _ (.seq a _)) => a | _ => .skip
def rparse_4 : XC := match x_skymosaic_skymosaicref03_Parse.body with | .seq _ (.seq _ (.seq _ (.seq a _))) => a | _ => .skip
def rparse_5 : XC := match x_skymosaic_skymosaicref03_Parse.body with | .seq _ (.seq _ (.seq _ (.seq _ (.seq a _)))) => a | _ => .skip
theorem rparse_body : x_skymosaic_skymosaicref03_Parse.body = .seq rparse_1 (.seq rparse_2 (.seq rparse_3 (.seq rparse_4 (.seq rparse_5 rparse_rest)))) := rfl
def rparse_R : XC := match rparse_rest with
  | .seq _ (.seq _ r) => r
  | _ => .skip
def rparse_R2 : XC := match rparse_R with
  | .seq _ (.seq _ r) => r
  | _ => .skip
theorem head_len {l : List UInt8} : (l = [] ∨ ∃ c t, l = c :: t) := by cases l with
  | nil => exact .inl rfl
  | cons c t => exact .inr ⟨c, t, rfl⟩
theorem n_zero : PV.ag [PV.b false, PV.lst []] = nP 0 := by
  have e0 : T 0 = .lst [] := by unfold T; rw [tlen_zero]; rfl
  unfold nP; rw [Int.natAbs_zero, e0]; rfl
def rpF (z e : Int) : PFin := ⟨[.cell 2 true 2, .tmp 3], fun w M2 => (fz M2 fzD w).map Prod.fst = some (.tu [nP z, .i .i64 e])⟩
theorem rparse_end {neg : Bool} {ds : List UInt8} {z e : Int} {k : Nat} (hk : k ≤ 1500) (hv : tv ds < 10000 ^ k)
    (hsp : inR (tv ds) ∧ z = sgn neg (tv ds) ∧ e = 0 ∨ ¬ inR (tv ds) ∧ z = 0 ∧ e = 4)
    {fr : PFr} {M : PM} (h2 : fr 2 = .p 0 0) (h3 : fr 3 = .i .i64 0) (h4 : fr 4 = .b neg) (hni : NotIn (fr 7) 0) (h7 : Grows M (fr 7) (tab k fun i => (PV.i .i64 ((tdg (tv ds) i : Nat) : Int)))) (hb : PM.blk M 0 = some ⟨[.b false, .nl], true, 0⟩) :
    WK E0 (rpF z e) rparse_R2 [] fr M := by
  unfold rparse_R2 rparse_R rparse_rest rpF
  simp only [x_skymosaic_skymosaicref03_Parse]
  obtain ⟨ns, f1, f2⟩ := fz_grows h7
  have hb2 := f2 0 _ hb hni
  have hno := p_rnormal neg k (tv ds) hv (by omega)
  have hft := p_rFits (sgn neg (tv ds)) (by
    have : (sgn neg (tv ds)).natAbs = tv ds := by unfold sgn; cases neg <;> simp
    rw [this]
    have := tlen_iff.2 hv; omega)
  have hna : (sgn neg (tv ds)).natAbs = tv ds := by unfold sgn; cases neg <;> simp
  rw [hna] at hft
  have hcz : (nP (sgn neg (tv ds))).cells = [.b (decide (sgn neg (tv ds) < 0)), T (tv ds)] := by unfold nP; rw [hna]; rfl
  have hO : ∀ X, PM.blk (roM M ns ++ [X]) 0 = some ⟨[.b false, .nl], true, 0⟩ := fun X => blk_old hb2 X
  have hlt := blk_lt hb2
  have hset : ∀ X Y, PM.blk ((roM M ns ++ [X]).set 0 (some Y)) 0 = some Y := fun X Y => blk_setE (by simp)
  by_cases hfit : inR (tv ds)
  · have hd : decide (tlen (tv ds) < 1230 ∨ tv ds < 2 ^ 16384) = true := decide_eq_true ((fits_iff _).2 hfit)
    rw [hd] at hft
    rcases hsp with ⟨_, rfl, rfl⟩ | ⟨q, _⟩
    · simp (disch := omega) only [go_sem, seval, wrap_i64, wrap_u64, wrap_u32, wrap_u8, wrap_i32, h2, h3, h4, f1, hno, set_app, blk_app, hO, hft, hset]
    · exact (q hfit).elim
  · have hd : decide (tlen (tv ds) < 1230 ∨ tv ds < 2 ^ 16384) = false := decide_eq_false fun q => hfit ((fits_iff _).1 q)
    rw [hd] at hft
    rcases hsp with ⟨q, _⟩ | ⟨_, rfl, rfl⟩
    · exact (hfit q).elim
    · simp (disch := omega) only [go_sem, seval, wrap_i64, wrap_u64, wrap_u32, wrap_u8, wrap_i32, h2, h3, h4, f1, hno, set_app, blk_app, hO, hft, hset]
      exact congrArg some (by rw [← n_zero]; rfl)
theorem tv_cut {ds : List UInt8} (hd : ds.all isDig = true) {k e : Nat} (he : e + 4 * k = ds.length) : tdg (tv ds) k = tv ((ds.take e).drop (e - 4)) := by
  have sub : ∀ (l : List UInt8), (∀ x ∈ l, x ∈ ds) → l.all isDig = true := fun l h => by
    rw [List.all_eq_true] at hd ⊢; exact fun x hx => hd x (h x hx)
  have h1 : tv ds = tv (ds.take e) * 10 ^ (4 * k) + tv (ds.drop e) := by
    have := tv_app (ds.take e) (ds.drop e)
    rw [List.take_append_drop, List.length_drop, show ds.length - e = 4 * k by omega] at this
    exact this
  have h2 : tv (ds.drop e) < 10 ^ (4 * k) := by
    have := tv_lt (ds.drop e) (sub _ fun x hx => List.mem_of_mem_drop hx)
    rwa [List.length_drop, show ds.length - e = 4 * k by omega] at this
  have h3 : tv (ds.take e) = tv ((ds.take e).take (e - 4)) * 10 ^ (e - (e - 4)) + tv ((ds.take e).drop (e - 4)) := by
    have := tv_app ((ds.take e).take (e - 4)) ((ds.take e).drop (e - 4))
    rw [List.take_append_drop, List.length_drop, List.length_take, Nat.min_eq_left (by omega)] at this
    exact this
  have h4 : tv ((ds.take e).drop (e - 4)) < 10 ^ (e - (e - 4)) := by
    have := tv_lt ((ds.take e).drop (e - 4)) (sub _ fun x hx => List.mem_of_mem_take (List.mem_of_mem_drop hx))
    rwa [List.length_drop, List.length_take, Nat.min_eq_left (by omega)] at this
  rw [tdg_def, show (10000 : Nat) ^ k = 10 ^ (4 * k) by rw [Nat.pow_mul], h1, Nat.mul_comm, Nat.mul_add_div (Nat.pow_pos (by decide)), Nat.div_eq_of_lt h2, Nat.add_zero]
  by_cases hs : 4 ≤ e
  · rw [show e - (e - 4) = 4 by omega] at h3 h4
    rw [h3, show (10 : Nat) ^ 4 = 10000 from rfl] at *
    omega
  · rw [h3, show e - 4 = 0 by omega] at *
    simp only [List.take_zero]
    have : (10 : Nat) ^ (e - 0) ≤ 10 ^ 3 := Nat.pow_le_pow_right (by decide) (by omega)
    have h5 : (10 : Nat) ^ 3 = 1000 := rfl
    show (0 * _ + _) % 10000 = _
    omega
theorem rparse_l2 {neg : Bool} {ds : List UInt8} {z e : Int} (hl : ds.length ≤ 5000) (hd : ds.all isDig = true)
    (hsp : inR (tv ds) ∧ z = sgn neg (tv ds) ∧ e = 0 ∨ ¬ inR (tv ds) ∧ z = 0 ∧ e = 4)
    {fr : PFr} {M : PM} (h2 : fr 2 = .p 0 0) (h3 : fr 3 = .i .i64 0) (h4 : fr 4 = .b neg) (h5 : fr 5 = .s ds) (h7 : fr 7 = .nl) (h8 : fr 8 = (PV.i .i64 ((ds.length : Nat) : Int))) (hb : PM.blk M 0 = some ⟨[.b false, .nl], true, 0⟩) :
    WK E0 (rpF z e) (.loop x_skymosaic_skymosaicref03_Parse_l2) [.block 2, .seq rparse_R2] fr M := by
  refine wk_ind x_skymosaic_skymosaicref03_Parse_l2.eq_1 (fun (k : Nat) fr M => 4 * k < ds.length + 4 ∧ fr 2 = .p 0 0 ∧ fr 3 = .i .i64 0 ∧ fr 4 = .b neg ∧ fr 5 = .s ds ∧ fr 8 = .i .i64 ((ds.length : Int) - 4 * k) ∧ NotIn (fr 7) 0 ∧ Grows M (fr 7) (tab k fun i => (PV.i .i64 ((tdg (tv ds) i : Nat) : Int))) ∧ PM.blk M 0 = some ⟨[.b false, .nl], true, 0⟩) (fun k => ds.length + 4 - 4 * k) ?_ 0 ⟨by omega, h2, h3, h4, h5, by rw [h8]; simp, by rw [h7]; trivial, .inl ⟨rfl, h7⟩, hb⟩
  rintro k fr M ⟨hk, h2, h3, h4, h5, h8, hni, hg, hb⟩ ih
  by_cases hlt : 4 * k < ds.length
  · obtain ⟨e1, he1⟩ : ∃ e1 : Nat, e1 + 4 * k = ds.length := ⟨ds.length - 4 * k, by omega⟩
    have i1 : (ds.length : Int) - 4 * k = (e1 : Int) := by omega
    rw [i1] at h8
    have q1 : ((e1 : Int) > 0) = True := by simp; omega
    have hmm : mmP true (.i .i64 0) [.i .i64 ((e1 : Int) - 4)] = some ((PV.i .i64 ((e1 - 4 : Nat) : Int))) := by
      simp only [mmP, if_true]
      congr 2
      by_cases q : (e1 : Int) - 4 > 0
      · rw [if_pos q]; omega
      · rw [if_neg q]; omega
    have hv := tv_cut hd he1
    simp (disch := omega) only [go_sem, seval, wrap_i64, wrap_u64, wrap_u32, wrap_u8, wrap_i32, h8, q1, hmm]
    refine p_l3 (s := e1 - 4) (e := e1) (A2 := .p 0 0) (A3 := .i .i64 0) (A4 := .b neg) (A7 := fr 7) hd (by omega) (by omega) (by omega) (by omega) (by simp only [go_sem, seval, h2]) (by simp only [go_sem, seval, h3]) (by simp only [go_sem, seval, h4]) (by simp only [go_sem, seval, h5]) (by simp only [go_sem, seval]) (by simp only [go_sem, seval, h8]) (by simp only [go_sem, seval]) (by simp only [go_sem, seval]) fun fr' g2 g3 g4 g5 g7 g8 g9 => ?_
    rw [← hv] at g9
    obtain ⟨v', M', he, hg', hk2⟩ := app_out hg (PV.i .i64 ((tdg (tv ds) k : Nat) : Int)) (by simp; omega)
    rw [tab_snoc k fun i => (PV.i .i64 ((tdg (tv ds) i : Nat) : Int))] at hg'
    obtain ⟨k1, k2⟩ := hk2 0 _ hb hni
    simp (disch := omega) only [go_sem, seval, wrap_i64, wrap_u64, wrap_u32, wrap_u8, wrap_i32, g7, g8, g9, he]
    exact ih (k + 1) _ M' (by omega) ⟨by omega, by simp only [go_sem, seval, g2], by simp only [go_sem, seval, g3], by simp only [go_sem, seval, g4], by simp only [go_sem, seval, g5], by simp only [go_sem, seval]; congr 1; omega, by simp only [go_sem, seval]; exact k2, by simp only [go_sem, seval]; exact hg', k1⟩
  · have q1 : ((ds.length : Int) - 4 * k > 0) = False := by simp; omega
    simp (disch := omega) only [go_sem, seval, wrap_i64, wrap_u64, wrap_u32, wrap_u8, wrap_i32, h8, q1]
    exact rparse_end (k := k) (by omega) (tvT ds hd (by omega)) hsp (by simp only [go_sem, seval, h2]) (by simp only [go_sem, seval, h3]) (by simp only [go_sem, seval, h4]) (by simp only [go_sem, seval]; exact hni) (by simp only [go_sem, seval]; exact hg) hb
theorem rparse_l1 {neg : Bool} {ds : List UInt8} {z e : Int} (hl : ds.length ≤ 5000)
    (hsp : ¬ ds.all isDig = true ∧ z = 0 ∧ e = 2 ∨ ds.all isDig = true ∧ (inR (tv ds) ∧ z = sgn neg (tv ds) ∧ e = 0 ∨ ¬ inR (tv ds) ∧ z = 0 ∧ e = 4))
    {fr : PFr} (h2 : fr 2 = .p 0 0) (h3 : fr 3 = .i .i64 0) (h4 : fr 4 = .b neg) (h5 : fr 5 = .s ds) (h6 : fr 6 = .i .i64 0) :
    WK E0 (rpF z e) (.loop x_skymosaic_skymosaicref03_Parse_l1) [.block 0, .seq rparse_R] fr [some ⟨[.b false, .nl], true, 0⟩] := by
  refine wk_ind x_skymosaic_skymosaicref03_Parse_l1.eq_1 (fun (i : Nat) fr M => i ≤ ds.length ∧ fr 2 = .p 0 0 ∧ fr 3 = .i .i64 0 ∧ fr 4 = .b neg ∧ fr 5 = .s ds ∧ fr 6 = (PV.i .i64 ((i : Nat) : Int)) ∧ (ds.take i).all isDig = true ∧ M = [some ⟨[.b false, .nl], true, 0⟩]) (fun i => ds.length - i) ?_ 0 ⟨by omega, h2, h3, h4, h5, h6, rfl, rfl⟩
  rintro i fr M ⟨hi, h2, h3, h4, h5, h6, ha, rfl⟩ ih
  by_cases hlt : i < ds.length
  · have q1 : ((i : Int) < (ds.length : Int)) = True := by simp; omega
    obtain ⟨c, hc⟩ : ∃ c, ds[i]? = some c := ⟨ds[i], List.getElem?_eq_getElem hlt⟩
    have hg : istrP (.s ds) (some i) = some (.i .u8 (c.toNat : Int)) := by simp [istrP, hc]
    have bad : ¬ isDig c = true → z = 0 ∧ e = 2 := fun hn => by
      rcases hsp with ⟨_, h⟩ | ⟨h, _⟩
      · exact h
      · rw [List.all_eq_true] at h
        exact (hn (h c (List.mem_of_getElem? hc))).elim
    by_cases hc1 : c.toNat < 48
    · obtain ⟨rfl, rfl⟩ := bad (by simp [isDig]; omega)
      have q2 : ((c.toNat : Int) < 48) = True := by simp; omega
      unfold rpF
      simp (disch := omega) only [go_sem, seval, wrap_i64, wrap_u64, wrap_u32, wrap_u8, wrap_i32, h2, h3, h5, h6, q1, hg, q2]
      exact congrArg some (by rw [← n_zero]; rfl)
    · have q2 : ((c.toNat : Int) < 48) = False := by simp; omega
      by_cases hc2 : 57 < c.toNat
      · obtain ⟨rfl, rfl⟩ := bad (by simp [isDig]; omega)
        have q3 : ((c.toNat : Int) > 57) = True := by simp; omega
        unfold rpF
        simp (disch := omega) only [go_sem, seval, wrap_i64, wrap_u64, wrap_u32, wrap_u8, wrap_i32, h2, h3, h5, h6, q1, hg, q2, q3]
        exact congrArg some (by rw [← n_zero]; rfl)
      · have q3 : ((c.toNat : Int) > 57) = False := by simp; omega
        simp (disch := omega) only [go_sem, seval, wrap_i64, wrap_u64, wrap_u32, wrap_u8, wrap_i32, h2, h3, h5, h6, q1, hg, q2, q3]
        refine ih (i + 1) _ _ (by omega) ⟨by omega, by simp only [go_sem, seval, h2], by simp only [go_sem, seval, h3], by simp only [go_sem, seval, h4], by simp only [go_sem, seval, h5], by simp only [go_sem, seval]; rfl, ?_, rfl⟩
        rw [List.take_add_one, hc, List.all_append, ha]
        simp [isDig]; omega
  · have q1 : ((i : Int) < (ds.length : Int)) = False := by simp; omega
    obtain rfl : i = ds.length := by omega
    rw [List.take_length] at ha
    rcases hsp with ⟨h, _⟩ | ⟨_, hsp⟩
    · exact (h ha).elim
    simp (disch := omega) only [go_sem, seval, wrap_i64, wrap_u64, wrap_u32, wrap_u8, wrap_i32, h5, h6, q1]
    show WK E0 (rpF z e) rparse_R [] _ _
    unfold rparse_R rparse_rest
    simp only [x_skymosaic_skymosaicref03_Parse]
    simp (disch := omega) only [go_sem, seval, wrap_i64, wrap_u64, wrap_u32, wrap_u8, wrap_i32, h5]
    exact rparse_l2 hl ha hsp (by simp only [go_sem, seval, h2]) (by simp only [go_sem, seval, h3]) (by simp only [go_sem, seval, h4]) (by simp only [go_sem, seval, h5]) (by simp only [go_sem, seval]) (by simp only [go_sem, seval]) rfl
theorem rparse_key {neg : Bool} {ds : List UInt8} {z e : Int} (hl : ds.length ≤ 5000)
    (hsp : (ds = [] ∨ (ds.head? = some 48 ∧ (neg = true ∨ 1 < ds.length)) ∨ ¬ ds.all isDig = true) ∧ z = 0 ∧ e = 2 ∨
      ds ≠ [] ∧ (ds.head? = some 48 → neg = false ∧ ds.length = 1) ∧ ds.all isDig = true ∧ (inR (tv ds) ∧ z = sgn neg (tv ds) ∧ e = 0 ∨ ¬ inR (tv ds) ∧ z = 0 ∧ e = 4))
    {fr : PFr} (h2 : fr 2 = .p 0 0) (h3 : fr 3 = .i .i64 0) (h4 : fr 4 = .b neg) (h5 : fr 5 = .s ds) :
    WK E0 (rpF z e) rparse_rest [] fr [some ⟨[.b false, .nl], true, 0⟩] := by
  unfold rparse_rest rpF
  simp only [x_skymosaic_skymosaicref03_Parse]
  have zero : PV.ag [.b false, .lst []] = nP 0 := by
    have e0 : T 0 = .lst [] := by unfold T; rw [tlen_zero]; rfl
    unfold nP; rw [Int.natAbs_zero, e0]; rfl
  rcases head_len (l := ds) with rfl | ⟨c, t, rfl⟩
  · rcases hsp with ⟨_, rfl, rfl⟩ | ⟨q, _⟩
    · simp (disch := omega) only [go_sem, seval, wrap_i64, wrap_u64, wrap_u32, wrap_u8, wrap_i32, h2, h3, h4, h5, Int.natCast_zero]
      exact congrArg some (by rw [← zero]; rfl)
    · exact (q rfl).elim
  · have q0 : (((t.length + 1 : Nat) : Int) = 0) = False := by simp; omega
    have bad : (c.toNat = 48 ∧ (neg = true ∨ t ≠ [])) → z = 0 ∧ e = 2 := fun ⟨h48, hh⟩ => by
      have hc : c = 48 := UInt8.toNat_inj.1 h48
      rcases hsp with ⟨_, h⟩ | ⟨_, h, _⟩
      · exact h
      · obtain ⟨g1, g2⟩ := h (by rw [hc]; rfl)
        rcases hh with hh | hh
        · rw [g1] at hh; cases hh
        · cases t with
          | nil => exact (hh rfl).elim
          | cons _ _ => simp at g2
    have rest : ¬ (c.toNat = 48 ∧ (neg = true ∨ t ≠ [])) → (¬ (c :: t).all isDig = true ∧ z = 0 ∧ e = 2 ∨ (c :: t).all isDig = true ∧ (inR (tv (c :: t)) ∧ z = sgn neg (tv (c :: t)) ∧ e = 0 ∨ ¬ inR (tv (c :: t)) ∧ z = 0 ∧ e = 4)) := fun hn => by
      rcases hsp with ⟨h | ⟨h1, h2⟩ | h, h'⟩ | ⟨_, _, h, h'⟩
      · cases h
      · exfalso
        apply hn
        simp only [List.head?_cons, Option.some.injEq] at h1
        refine ⟨by rw [h1]; rfl, ?_⟩
        rcases h2 with h2 | h2
        · exact .inl h2
        · right; rintro rfl; simp at h2
      · exact .inl ⟨h, h'⟩
      · exact .inr ⟨h, h'⟩
    by_cases h48 : c.toNat = 48
    · have q1 : ((c.toNat : Int) = 48) = True := by simp; omega
      cases neg
      · by_cases ht : t = []
        · have q2 : (((t.length + 1 : Nat) : Int) > 1) = False := by subst ht; simp
          simp (disch := omega) only [go_sem, seval, wrap_i64, wrap_u64, wrap_u32, wrap_u8, wrap_i32, h2, h3, h4, h5, q0, q1, q2]
          exact rparse_l1 hl (rest fun q => by rcases q.2 with q | q; cases q; exact q ht) (by simp only [go_sem, seval, h2]) (by simp only [go_sem, seval, h3]) (by simp only [go_sem, seval, h4]) (by simp only [go_sem, seval, h5]) (by simp only [go_sem, seval])
        · have q2 : (((t.length + 1 : Nat) : Int) > 1) = True := by
            cases t with
            | nil => exact (ht rfl).elim
            | cons _ _ => simp; omega
          obtain ⟨rfl, rfl⟩ := bad ⟨h48, .inr ht⟩
          simp (disch := omega) only [go_sem, seval, wrap_i64, wrap_u64, wrap_u32, wrap_u8, wrap_i32, h2, h3, h4, h5, q0, q1, q2]
          exact congrArg some (by rw [← zero]; rfl)
      · obtain ⟨rfl, rfl⟩ := bad ⟨h48, .inl rfl⟩
        simp (disch := omega) only [go_sem, seval, wrap_i64, wrap_u64, wrap_u32, wrap_u8, wrap_i32, h2, h3, h4, h5, q0, q1]
        exact congrArg some (by rw [← zero]; rfl)
    · have q1 : ((c.toNat : Int) = 48) = False := by simp; omega
      simp (disch := omega) only [go_sem, seval, wrap_i64, wrap_u64, wrap_u32, wrap_u8, wrap_i32, h2, h3, h4, h5, q0, q1]
      exact rparse_l1 hl (rest fun q => h48 q.1) (by simp only [go_sem, seval, h2]) (by simp only [go_sem, seval, h3]) (by simp only [go_sem, seval, h4]) (by simp only [go_sem, seval, h5]) (by simp only [go_sem, seval])
theorem parseT_cases (s : List UInt8) : (5000 < s.length ∧ parseT s = (0, 4)) ∨ (s.length ≤ 5000 ∧ ∃ neg ds, ((neg = true ∧ s = 45 :: ds) ∨ (neg = false ∧ s = ds ∧ ds.head? ≠ some 45)) ∧
    ((ds = [] ∨ (ds.head? = some 48 ∧ (neg = true ∨ 1 < ds.length)) ∨ ¬ ds.all isDig = true) ∧ parseT s = (0, 2) ∨
      ds ≠ [] ∧ (ds.head? = some 48 → neg = false ∧ ds.length = 1) ∧ ds.all isDig = true ∧ (inR (tv ds) ∧ parseT s = (sgn neg (tv ds), 0) ∨ ¬ inR (tv ds) ∧ parseT s = (0, 4)))) := by
  by_cases hl : 5000 < s.length
  · exact .inl ⟨hl, by unfold parseT; simp only [hl, if_true]⟩
  · right
    refine ⟨by omega, s.head? == some 45, if (s.head? == some 45) then s.drop 1 else s, ?_, ?_⟩
    · by_cases h : s.head? = some 45
      · left
        rw [h]
        refine ⟨rfl, ?_⟩
        cases s with
        | nil => cases h
        | cons c t => simp only [List.head?_cons, Option.some.injEq] at h; subst h; rfl
      · right
        have : (s.head? == some 45) = false := by simpa using h
        rw [this]
        exact ⟨rfl, by simp, by simpa using h⟩
    · have e : parseT s = (if (if (s.head? == some 45) then s.drop 1 else s) = [] ∨ ((if (s.head? == some 45) then s.drop 1 else s).head? = some 48 ∧ ((s.head? == some 45) = true ∨ 1 < (if (s.head? == some 45) then s.drop 1 else s).length)) ∨ ¬ (if (s.head? == some 45) then s.drop 1 else s).all isDig = true then (0, 2)
          else if inR (tv (if (s.head? == some 45) then s.drop 1 else s)) then (sgn (s.head? == some 45) (tv (if (s.head? == some 45) then s.drop 1 else s)), 0) else (0, 4)) := by
        unfold parseT
        simp only [hl, if_false]
      rw [e]
      generalize (if (s.head? == some 45) = true then s.drop 1 else s) = ds
      generalize (s.head? == some 45) = neg
      by_cases h1 : ds = [] ∨ (ds.head? = some 48 ∧ (neg = true ∨ 1 < ds.length)) ∨ ¬ ds.all isDig = true
      · exact .inl ⟨h1, by rw [if_pos h1]⟩
      · right
        rw [if_neg h1]
        have n1 : ds ≠ [] := fun q => h1 (.inl q)
        refine ⟨n1, fun q => ?_, ?_, ?_⟩
        · have h2 : ¬ (neg = true ∨ 1 < ds.length) := fun r => h1 (.inr (.inl ⟨q, r⟩))
          have h3 : ds.length ≠ 0 := fun r => n1 (List.eq_nil_of_length_eq_zero r)
          refine ⟨?_, ?_⟩
          · cases neg
            · rfl
            · exact (h2 (.inl rfl)).elim
          · have : ¬ 1 < ds.length := fun r => h2 (.inr r)
            omega
        · by_cases q : ds.all isDig = true
          · exact q
          · exact (h1 (.inr (.inr q))).elim
        · by_cases h3 : inR (tv ds)
          · exact .inl ⟨h3, by rw [if_pos h3]⟩
          · exact .inr ⟨h3, by rw [if_neg h3]⟩
theorem p_rParse (s : List UInt8) (hs : s.length < 4611686018427387904) : pf E0 111 [.s s] = some (.tu [nP (parseT s).1, .i .i64 (parseT s).2]) := by
  refine pf_run (xf := x_skymosaic_skymosaicref03_Parse) rfl (by simp [x_skymosaic_skymosaicref03_Parse]) ?_
  rw [rparse_body, show x_skymosaic_skymosaicref03_Parse.res = [.cell 2 true 2, .tmp 3] from rfl]
  rcases parseT_cases s with ⟨hl, hp⟩ | ⟨hl, neg, ds, hsg, hsp⟩
  · rw [hp]
    simp only [rparse_1, rparse_2, rparse_3, rparse_4, rparse_5, x_skymosaic_skymosaicref03_Parse]
    have q1 : ((s.length : Int) > 5000) = True := by simp; omega
    simp (disch := omega) only [go_sem, seval, wrap_i64, wrap_u64, wrap_u32, wrap_u8, wrap_i32, q1]
    try exact congrArg some (by rw [← n_zero]; rfl)
  · have hdl : ds.length ≤ 5000 := by
      rcases hsg with ⟨_, rfl⟩ | ⟨_, rfl, _⟩
      · simp at hl; omega
      · exact hl
    have q1 : ((s.length : Int) > 5000) = False := by simp; omega
    have fin : ∀ {fr : PFr}, fr 2 = .p 0 0 → fr 3 = .i .i64 0 → fr 4 = .b neg → fr 5 = .s ds → WK E0 (rpF (parseT s).1 (parseT s).2) rparse_rest [] fr [some ⟨[.b false, .nl], true, 0⟩] := fun {fr} a b c d =>
      rparse_key hdl (by
        rcases hsp with ⟨h, h2⟩ | ⟨h1, h2, h3, ⟨h4, h5⟩ | ⟨h4, h5⟩⟩
        · exact .inl ⟨h, by rw [h2], by rw [h2]⟩
        · exact .inr ⟨h1, h2, h3, .inl ⟨h4, by rw [h5], by rw [h5]⟩⟩
        · exact .inr ⟨h1, h2, h3, .inr ⟨h4, by rw [h5], by rw [h5]⟩⟩) a b c d
    generalize (parseT s).1 = z at *
    generalize (parseT s).2 = e at *
    rcases hsg with ⟨rfl, rfl⟩ | ⟨rfl, rfl, h45⟩
    · have hc : slStrP (45 :: ds) (some (.i .i64 1)) none = some (.s ds) := by
        simp only [slStrP, optP, show (PV.i IntKind.i64 1) = .i .i64 ((1 : Nat) : Int) from rfl, asNP_nat]
        rw [if_pos ⟨by simp, Nat.le_refl _⟩]
        simp
      have q2 : ((45 : UInt8).toNat : Int) = 45 := rfl
      have q3 : (((ds.length + 1 : Nat) : Int) > 0) = True := by simp
      have q1' : (((ds.length + 1 : Nat) : Int) > 5000) = False := by simpa using q1
      simp only [rparse_1, rparse_2, rparse_3, rparse_4, rparse_5, x_skymosaic_skymosaicref03_Parse]
      simp (disch := omega) only [go_sem, seval, wrap_i64, wrap_u64, wrap_u32, wrap_u8, wrap_i32, q1', q2, q3, hc]
      exact fin (by simp only [go_sem, seval]) (by simp only [go_sem, seval]) (by simp only [go_sem, seval]) (by simp only [go_sem, seval])
    · cases s with
      | nil =>
        simp only [rparse_1, rparse_2, rparse_3, rparse_4, rparse_5, x_skymosaic_skymosaicref03_Parse]
        simp (disch := omega) only [go_sem, seval, wrap_i64, wrap_u64, wrap_u32, wrap_u8, wrap_i32, Int.natCast_zero]
        exact fin (by simp only [go_sem, seval]) (by simp only [go_sem, seval]) (by simp only [go_sem, seval]) (by simp only [go_sem, seval])
      | cons c t =>
        have q2 : ((c.toNat : Int) = 45) = False := by
          simp only [eq_iff_iff, iff_false]
          intro q
          apply h45
          have : c = 45 := UInt8.toNat_inj.1 (show c.toNat = 45 by omega)
          rw [this]; rfl
        have q3 : (((t.length + 1 : Nat) : Int) > 0) = True := by simp
        have q1' : (((t.length + 1 : Nat) : Int) > 5000) = False := by simpa using q1
        simp only [rparse_1, rparse_2, rparse_3, rparse_4, rparse_5, x_skymosaic_skymosaicref03_Parse]
        simp (disch := omega) only [go_sem, seval, wrap_i64, wrap_u64, wrap_u32, wrap_u8, wrap_i32, q1', q2, q3]
        exact fin (by simp only [go_sem, seval]) (by simp only [go_sem, seval]) (by simp only [go_sem, seval]) (by simp only [go_sem, seval])
end Go.Eng
