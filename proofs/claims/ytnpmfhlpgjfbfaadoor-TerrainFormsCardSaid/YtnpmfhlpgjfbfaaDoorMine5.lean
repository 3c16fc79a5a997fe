/- The engine and the contracts on which the statement stands: no conditions of its own. -/
import Derived.Test.YtnpmfhlpgjfbfaaDoorMine4
set_option linter.unusedSimpArgs false
set_option linter.unusedVariables false
set_option linter.unusedSectionVars false
namespace Go.Eng
set_option maxHeartbeats 4000000 in
set_option maxRecDepth 40000 in
theorem p_TerrainForms {xs : List Int} (hx : Ints xs) : pf E0 0 [ints xs] = some (.b true) := by
  obtain ⟨X, Y, S, C, R, hs, t, hX, hY, hS, hC, hR, _, ht⟩ := p_Terrain hx
  have hc := t.c
  have hr := t.r
  have ts := t.s
  have lv := p_lives10
  refine pf_run (xf := x_skymosaic_skymosaiclaw10_TerrainForms) rfl (by simp [x_skymosaic_skymosaiclaw10_TerrainForms]) ?_
  simp only [x_skymosaic_skymosaiclaw10_TerrainForms]
  simp (disch := omega) only [go_sem, seval, wrap_i64, wrap_u64, wrap_u32, wrap_u8, wrap_i32, ht]
  refine wk_ind x_skymosaic_skymosaiclaw10_TerrainForms_l1.eq_1 (fun (j : Nat) fr M => j ≤ R + 2 ∧ fr 3 = .p 0 0 ∧ fr 4 = .i .i64 ((j : Int) - 1) ∧ ∃ v G, M = some ⟨[.i .i64 X, .i .i64 Y, .i .i64 S, .i .i64 C, .i .i64 R, ints hs], true, v⟩ :: G) (fun j => R + 2 - j) ?_ 0 ⟨by omega, by simp only [go_sem, seval], by simp only [go_sem, seval], _, [], rfl⟩
  rintro j fr M ⟨hj, f3, f4, v, G, rfl⟩ ih
  by_cases hjl : j < R + 2
  · have q1 : ((j : Int) - 1 ≤ (R : Int)) = True := eq_true (by omega)
    simp (disch := omega) only [go_sem, seval, wrap_i64, wrap_u64, wrap_u32, wrap_u8, wrap_i32, f3, f4, q1]
    refine wk_ind x_skymosaic_skymosaiclaw10_TerrainForms_l2.eq_1 (fun (i : Nat) fr M => i ≤ C + 2 ∧ fr 3 = .p 0 0 ∧ fr 4 = .i .i64 ((j : Int) - 1) ∧ fr 5 = .i .i64 ((i : Int) - 1) ∧ ∃ v G, M = some ⟨[.i .i64 X, .i .i64 Y, .i .i64 S, .i .i64 C, .i .i64 R, ints hs], true, v⟩ :: G) (fun i => C + 2 - i) ?_ 0 ⟨by omega, by simp only [go_sem, seval, f3], by simp only [go_sem, seval, f4], by simp only [go_sem, seval], _, G, rfl⟩
    rintro i fr M ⟨hi, f3, f4, f5, v, G, rfl⟩ ih2
    by_cases hil : i < C + 2
    · have q2 : ((i : Int) - 1 ≤ (C : Int)) = True := eq_true (by omega)
      by_cases hin : 1 ≤ i ∧ 1 ≤ j ∧ i < C ∧ j < R
      · obtain ⟨ii, rfl⟩ : ∃ ii, i = ii + 1 := ⟨i - 1, by omega⟩
        obtain ⟨jj, rfl⟩ : ∃ jj, j = jj + 1 := ⟨j - 1, by omega⟩
        have ei : ((ii + 1 : Nat) : Int) - 1 = (ii : Int) := by omega
        have ej : ((jj + 1 : Nat) : Int) - 1 = (jj : Int) := by omega
        have ff := p_tForm t (i := ii) (j := jj) (by omega) (by omega)
        have rf := p_rForm t (i := ii) (j := jj) (by omega) (by omega)
        obtain ⟨a, b, c, d, he⟩ : ∃ a b c d, formV hs C ii jj = arr4 a b c d := ⟨_, _, _, _, rfl⟩
        rw [he] at ff rf
        rw [ei] at f5 q2
        rw [ej] at f4
        have t1 : ((ii : Int) < 0) = False := eq_false (by omega)
        have t2 : ((jj : Int) < 0) = False := eq_false (by omega)
        have t3 : ((ii : Int) ≥ (C : Int) - 1) = False := eq_false (by omega)
        have t4 : ((jj : Int) ≥ (R : Int) - 1) = False := eq_false (by omega)
        simp (disch := omega) only [go_sem, seval, wrap_i64, wrap_u64, wrap_u32, wrap_u8, wrap_i32, f3, f4, f5, q2, ff, t1, t2, t3, t4, mG, mG0, sG, sG0, lG, List.append_assoc, List.cons_append, List.nil_append]
        refine wk_calmX [6] rfl (by simp only [go_sem, seval]) ?_
        simp (disch := omega) only [go_sem, seval, wrap_i64, wrap_u64, wrap_u32, wrap_u8, wrap_i32, f3, f4, f5, rf, eqa_self, mG, mG0, sG, sG0, lG, List.append_assoc, List.cons_append, List.nil_append]
        exact ih2 (ii + 1 + 1) _ _ (by omega) ⟨by omega, by simp only [go_sem, seval, f3], by simp only [go_sem, seval, f4]; rw [ej], by simp only [go_sem, seval]; congr 1; omega, _, _, rfl⟩
      · have ho : i = 0 ∨ j = 0 ∨ C ≤ i ∨ R ≤ j := by
          rcases Nat.lt_or_ge i 1 with h | h
          · omega
          · rcases Nat.lt_or_ge j 1 with h' | h'
            · omega
            · rcases Nat.lt_or_ge i C with h2 | h2
              · rcases Nat.lt_or_ge j R with h3 | h3
                · exact (hin ⟨h, h', h2, h3⟩).elim
                · omega
              · omega
        have fo := p_tFormO t (i := (i : Int) - 1) (j := (j : Int) - 1) (by omega) (by omega) (by omega)
        have key : ∀ (Q : Prop), ((((i : Int) - 1 < 0) = True → Q) ∧ (((i : Int) - 1 < 0) = False → ((j : Int) - 1 < 0) = True → Q) ∧ (((i : Int) - 1 < 0) = False → ((j : Int) - 1 < 0) = False → ((i : Int) - 1 ≥ (C : Int) - 1) = True → Q) ∧
            (((i : Int) - 1 < 0) = False → ((j : Int) - 1 < 0) = False → ((i : Int) - 1 ≥ (C : Int) - 1) = False → ((j : Int) - 1 ≥ (R : Int) - 1) = True → Q)) → Q := fun Q ⟨k1, k2, k3, k4⟩ => by
          by_cases h1 : (i : Int) - 1 < 0
          · exact k1 (eq_true h1)
          · by_cases h2 : (j : Int) - 1 < 0
            · exact k2 (eq_false h1) (eq_true h2)
            · by_cases h3 : (i : Int) - 1 ≥ (C : Int) - 1
              · exact k3 (eq_false h1) (eq_false h2) (eq_true h3)
              · exact k4 (eq_false h1) (eq_false h2) (eq_false h3) (eq_true (by omega))
        refine key _ ⟨fun s1 => ?_, fun s1 s2 => ?_, fun s1 s2 s3 => ?_, fun s1 s2 s3 s4 => ?_⟩
        · simp (disch := omega) only [go_sem, seval, wrap_i64, wrap_u64, wrap_u32, wrap_u8, wrap_i32, f3, f4, f5, q2, fo, s1, eqa_self, mG, mG0, sG, sG0, lG, List.append_assoc, List.cons_append, List.nil_append]
          exact ih2 (i + 1) _ _ (by omega) ⟨by omega, by simp only [go_sem, seval, f3], by simp only [go_sem, seval, f4], by simp only [go_sem, seval]; congr 1; omega, _, _, rfl⟩
        · simp (disch := omega) only [go_sem, seval, wrap_i64, wrap_u64, wrap_u32, wrap_u8, wrap_i32, f3, f4, f5, q2, fo, s1, s2, eqa_self, mG, mG0, sG, sG0, lG, List.append_assoc, List.cons_append, List.nil_append]
          exact ih2 (i + 1) _ _ (by omega) ⟨by omega, by simp only [go_sem, seval, f3], by simp only [go_sem, seval, f4], by simp only [go_sem, seval]; congr 1; omega, _, _, rfl⟩
        · simp (disch := omega) only [go_sem, seval, wrap_i64, wrap_u64, wrap_u32, wrap_u8, wrap_i32, f3, f4, f5, q2, fo, s1, s2, s3, eqa_self, mG, mG0, sG, sG0, lG, List.append_assoc, List.cons_append, List.nil_append]
          exact ih2 (i + 1) _ _ (by omega) ⟨by omega, by simp only [go_sem, seval, f3], by simp only [go_sem, seval, f4], by simp only [go_sem, seval]; congr 1; omega, _, _, rfl⟩
        · simp (disch := omega) only [go_sem, seval, wrap_i64, wrap_u64, wrap_u32, wrap_u8, wrap_i32, f3, f4, f5, q2, fo, s1, s2, s3, s4, eqa_self, mG, mG0, sG, sG0, lG, List.append_assoc, List.cons_append, List.nil_append]
          exact ih2 (i + 1) _ _ (by omega) ⟨by omega, by simp only [go_sem, seval, f3], by simp only [go_sem, seval, f4], by simp only [go_sem, seval]; congr 1; omega, _, _, rfl⟩
    · have q2 : ((i : Int) - 1 ≤ (C : Int)) = False := eq_false (by omega)
      simp (disch := omega) only [go_sem, seval, wrap_i64, wrap_u64, wrap_u32, wrap_u8, wrap_i32, f3, f4, f5, q2]
      exact ih (j + 1) _ _ (by omega) ⟨by omega, by simp only [go_sem, seval, f3], by simp only [go_sem, seval]; congr 1; omega, _, _, rfl⟩
  · have q1 : ((j : Int) - 1 ≤ (R : Int)) = False := eq_false (by omega)
    simp (disch := omega) only [go_sem, seval, wrap_i64, wrap_u64, wrap_u32, wrap_u8, wrap_i32, f3, f4, q1, lv]
end Go.Eng
