/- The engine and the contracts on which the statement stands: no conditions of its own. -/
import Derived.Test.YtndbnkkjmeeldaaGreatDoorMine5
set_option linter.unusedSimpArgs false
set_option linter.unusedVariables false
set_option linter.unusedSectionVars false
namespace Go.Eng
def outR (most n : Int) : Prop := n < 0 - most ∨ n > most
instance (most n : Int) : Decidable (outR most n) := inferInstanceAs (Decidable (_ ∨ _))
theorem p_wclos {most n : Int} (hm : 0 ≤ most ∧ most ≤ 1152921504606846976) (hn : Fits64 n) : pf E0 47 [.i .i64 n, .fp [.i .i64 most]] = some (.b (decide (outR most n))) := by
 unfold Fits64 at hn
 refine pf_run (xf := x_terrain_within_1) rfl (by simp [x_terrain_within_1]) ?_
 simp only [x_terrain_within_1]
 by_cases h1 : n < 0 - most
 ·rw [decide_eq_true (show outR most n from .inl h1)]
  have h1 : (n < 0 - most) = True := eq_true h1
  simp (disch := omega) only [go_sem, seval, wqa, wqb, wqc, wqd, wqe, h1]
 ·by_cases h2 : n > most
  ·rw [decide_eq_true (show outR most n from .inr h2)]
   have h1 : (n < 0 - most) = False := eq_false h1
   have h2 : (n > most) = True := by simp [h2]
   simp (disch := omega) only [go_sem, seval, wqa, wqb, wqc, wqd, wqe, h1, h2]
  ·rw [decide_eq_false (show ¬ outR most n from fun q => q.elim h1 h2)]
   have h1 : (n < 0 - most) = False := eq_false h1
   have h2 : (n > most) = False := by simp [h2]
   simp (disch := omega) only [go_sem, seval, wqa, wqb, wqc, wqd, wqe, h1, h2]
theorem first_ex {P : Nat → Prop} (h : ∃ j, P j) : ∃ j, P j ∧ ∀ i, i < j → ¬ P i := by
 obtain ⟨j, hj⟩ := h
 induction j using Nat.strongRecOn with
 | _ j ih =>
  by_cases q : ∃ i, i < j ∧ P i
  ·obtain ⟨i, h1, h2⟩ := q
   exact ih i h1 h2
  ·exact ⟨j, hj, fun i hi hp => q ⟨i, hi, hp⟩⟩
theorem p_IndexF {most : Int} (hm : 0 ≤ most ∧ most ≤ 1152921504606846976) {ns : List Int} (hs : Ints ns) : ∃ k : Int, (0 ≤ k ↔ ∃ n ∈ ns, outR most n) ∧ pf E0 69 [ints ns, .fn 47 [.fp [.i .i64 most]]] = some (.i .i64 k) := by
 obtain ⟨l1, l2⟩ := hs
 have key : ∀ k : Int, ((∃ j : Nat, k = (j : Int) ∧ j < ns.length ∧ outR most (ns.getD j 0) ∧ ∀ i, i < j → ¬ outR most (ns.getD i 0)) ∨ (k = -1 ∧ ∀ i, i < ns.length → ¬ outR most (ns.getD i 0))) → pf E0 69 [ints ns, .fn 47 [.fp [.i .i64 most]]] = some (.i .i64 k) := by
  intro k hk
  refine pf_run (xf := x_slices_IndexFunc___int_int_) rfl (by simp [x_slices_IndexFunc___int_int_]) ?_
  simp only [x_slices_IndexFunc___int_int_]
  simp (disch := omega) only [go_sem, seval, wqa, wqb, wqc, wqd, wqe]
  refine wk_ind x_slices_IndexFunc___int_int__l1.eq_1 (fun (j : Nat) fr M => j ≤ ns.length ∧ (∀ i : Nat, k = (i : Int) → j ≤ i) ∧ fr 0 = ints ns ∧ fr 1 = .fn 47 [.fp [.i .i64 most]] ∧ fr 7 = .i .i64 (ns.length : Int) ∧ fr 8 = (PV.i .i64 ((j : Nat) : Int)) ∧ M = []) (fun j => ns.length - j) ?_ 0 ⟨Nat.zero_le _, fun i _ => Nat.zero_le _, by simp only [go_sem, seval], by simp only [go_sem, seval], by simp only [go_sem, seval], by simp only [go_sem, seval], rfl⟩
  rintro j fr M ⟨hj, hlo, f0, f1, f7, f8, rfl⟩ ih
  by_cases hjl : j < ns.length
  ·have q1 : ((j : Int) < (ns.length : Int)) = True := by simp; omega
   have hg : ns[j]? = some (ns.getD j 0) := by simp [hjl]
   have cl := p_wclos (n := ns.getD j 0) hm (l2 _ (by simp [hjl]))
   by_cases ho : outR most (ns.getD j 0)
   ·rw [decide_eq_true ho] at cl
    have hkj : k = (j : Int) := by
     rcases hk with ⟨i, h1, h2, h3, h4⟩ | ⟨h1, h2⟩
     ·have := hlo i h1
      rcases Nat.lt_or_ge j i with q | q
      ·exact (h4 j q ho).elim
      ·omega
     ·exact (h2 j hjl ho).elim
    rw [hkj]
    simp (disch := omega) only [go_sem, seval, wqa, wqb, wqc, wqd, wqe, f0, f1, f7, f8, q1, idxP_ints hg, Int.toNat_natCast, cl]
   ·rw [decide_eq_false ho] at cl
    simp (disch := omega) only [go_sem, seval, wqa, wqb, wqc, wqd, wqe, f0, f1, f7, f8, q1, idxP_ints hg, Int.toNat_natCast, cl]
    refine ih (j + 1) _ _ (by omega) ⟨by omega, ?_, by simp only [go_sem, seval, f0], by simp only [go_sem, seval, f1], by simp only [go_sem, seval, f7], by simp only [go_sem, seval]; rw [Int.natCast_succ], rfl⟩
    intro i hi
    have := hlo i hi
    rcases hk with ⟨i', h1, h2, h3, h4⟩ | ⟨h1, h2⟩
    ·have : i = i' := by omega
     subst this
     rcases Nat.lt_or_ge j i with q | q
     ·omega
     ·have : j = i := by omega
      subst this; exact (ho h3).elim
    ·omega
  ·have q1 : ((j : Int) < (ns.length : Int)) = False := by simp; omega
   have hkm : k = -1 := by
    rcases hk with ⟨i, h1, h2, h3, h4⟩ | ⟨h1, h2⟩
    ·have := hlo i h1; omega
    ·exact h1
   rw [hkm]
   simp (disch := omega) only [go_sem, seval, wqa, wqb, wqc, wqd, wqe, f7, f8, q1]
 by_cases h : ∃ j : Nat, j < ns.length ∧ outR most (ns.getD j 0)
 ·obtain ⟨j, hj1, hj2, hj3⟩ : ∃ j : Nat, j < ns.length ∧ outR most (ns.getD j 0) ∧ ∀ i, i < j → ¬ outR most (ns.getD i 0) := by
   obtain ⟨j, h1, h2⟩ := first_ex h
   exact ⟨j, h1.1, h1.2, fun i hi ho => h2 i hi ⟨by omega, ho⟩⟩
  refine ⟨j, ⟨fun _ => ⟨ns.getD j 0, by simp [hj1], hj2⟩, fun _ => by omega⟩, key _ (.inl ⟨j, rfl, hj1, hj2, hj3⟩)⟩
 ·refine ⟨-1, ⟨fun q => by omega, ?_⟩, key _ (.inr ⟨rfl, fun i hi ho => h ⟨i, hi, ho⟩⟩)⟩
  rintro ⟨n, h1, h2⟩
  obtain ⟨i, hi, rfl⟩ := List.getElem_of_mem h1
  exact (h ⟨i, hi, by simpa [hi] using h2⟩).elim
theorem p_within {most : Int} (hm : 0 ≤ most ∧ most ≤ 1152921504606846976) {ns : List Int} (hs : Ints ns) : pf E0 32 [.i .i64 most, ints ns] = some (.b (decide (∀ n ∈ ns, ¬ outR most n))) := by
 obtain ⟨k, h1, h2⟩ := p_IndexF hm hs
 have h3 : pf E0 46 [ints ns, .fn 47 [.fp [.i .i64 most]]] = some (.b (decide (0 ≤ k))) := by
  refine pf_run (xf := x_slices_ContainsFunc___int_int_) rfl (by simp [x_slices_ContainsFunc___int_int_]) ?_
  simp only [x_slices_ContainsFunc___int_int_]
  have e : (k ≥ 0) = (0 ≤ k) := rfl
  simp (disch := omega) only [go_sem, seval, wqa, wqb, wqc, wqd, wqe, h2, e]
 have h4 : decide (∀ n ∈ ns, ¬ outR most n) = !decide (0 ≤ k) := by
  by_cases hk : 0 ≤ k
  ·rw [decide_eq_true hk]
   obtain ⟨n, q1, q2⟩ := h1.1 hk
   exact decide_eq_false fun q => q n q1 q2
  ·rw [decide_eq_false hk]
   exact decide_eq_true fun n q1 q2 => hk (h1.2 ⟨n, q1, q2⟩)
 rw [h4]
 refine pf_run (xf := x_terrain_within) rfl (by simp [x_terrain_within]) ?_
 simp only [x_terrain_within]
 simp (disch := omega) only [go_sem, seval, wqa, wqb, wqc, wqd, wqe, h3]
end Go.Eng
namespace Go.Eng
structure TerOk (X Y S : Int) (C R : Nat) (hs : List Int) : Prop where
 c : 2 ≤ C ∧ C ≤ 128
 r : 2 ≤ R ∧ R ≤ 128
 s : 1 ≤ S ∧ S ≤ 65536
 x : -1048576 ≤ X ∧ X + (C - 1) * S ≤ 1048576
 y : -1048576 ≤ Y ∧ Y + (R - 1) * S ≤ 1048576
 len : hs.length = C * R
 h : ∀ n ∈ hs, -16384 ≤ n ∧ n ≤ 16384
theorem TerOk.ints {X Y S : Int} {C R : Nat} {hs : List Int} (t : TerOk X Y S C R hs) : Ints hs := by
 refine ⟨?_, fun n hn => ?_⟩
 ·have : C * R ≤ 128 * 128 := Nat.mul_le_mul t.c.2 t.r.2
  rw [t.len]; omega
 ·have := t.h n hn
  unfold Fits64; omega
theorem intsG2 (a b : Int) : PV.lst (group 1 2 [.i .i64 a, .i .i64 b]) = ints [a, b] := rfl
theorem p_Valid0 {X Y S : Int} {C R : Nat} {hs : List Int} (t : TerOk X Y S C R hs) : pf E0 14 [terP X Y S C R hs] = some (.i .i64 0) := by
 obtain ⟨⟨c1, c2⟩, ⟨r1, r2⟩, ⟨s1, s2⟩, ⟨x1, x2⟩, ⟨y1, y2⟩, hl, hh⟩ := id t
 have m1 : 0 ≤ ((C : Int) - 1) * S := Int.mul_nonneg (by omega) (by omega)
 have m2 : 0 ≤ ((R : Int) - 1) * S := Int.mul_nonneg (by omega) (by omega)
 have hCR : (C : Int) * (R : Int) = ((C * R : Nat) : Int) := by push_cast; rfl
 have hcr : C * R ≤ 128 * 128 := Nat.mul_le_mul c2 r2
 have w1 := p_within (most := 1048576) (by decide) (ns := [X, Y]) ⟨by simp, fun n hn => by
  simp only [List.mem_cons, List.not_mem_nil, or_false] at hn
  unfold Fits64; omega⟩
 have w2 := p_within (most := 1048576) (by decide) (ns := [X + ((C : Int) - 1) * S, Y + ((R : Int) - 1) * S]) ⟨by simp, fun n hn => by
  simp only [List.mem_cons, List.not_mem_nil, or_false] at hn
  unfold Fits64; omega⟩
 have w3 := p_within (most := 16384) (by decide) t.ints
 rw [decide_eq_true (fun n hn => by
  simp only [List.mem_cons, List.not_mem_nil, or_false] at hn
  unfold outR; omega)] at w1
 rw [decide_eq_true (fun n hn => by
  simp only [List.mem_cons, List.not_mem_nil, or_false] at hn
  unfold outR; omega)] at w2
 rw [decide_eq_true (fun n hn => by have := hh n hn; unfold outR; omega)] at w3
 have g1 : mmP false (.i .i64 (C : Int)) [.i .i64 (R : Int)] = some (.i .i64 ((min C R : Nat) : Int)) := by
  simp only [mmP, if_true, Bool.false_eq_true, if_false]
  congr 2
  split <;> omega
 have g2 : mmP true (.i .i64 (C : Int)) [.i .i64 (R : Int)] = some (.i .i64 ((max C R : Nat) : Int)) := by
  simp only [mmP, if_true]
  congr 2
  split <;> omega
 have t1 : (((min C R : Nat) : Int) < 2) = False := by simp; omega
 have t2 : (((max C R : Nat) : Int) > 128) = False := by simp; omega
 have t3 : (S < 1) = False := by simp; omega
 have t4 : (S > 65536) = False := by simp; omega
 have t5 : ((hs.length : Int) = (C : Int) * (R : Int)) = True := eq_true (by rw [hCR, hl])
 have b1 : ((C : Int) - 1) * S ≤ 127 * 65536 := Int.mul_le_mul (by omega) (by omega) (by omega) (by omega)
 have b2 : ((R : Int) - 1) * S ≤ 127 * 65536 := Int.mul_le_mul (by omega) (by omega) (by omega) (by omega)
 refine pf_run (xf := x_terrain_Valid) rfl (by simp [x_terrain_Valid]) ?_
 simp only [x_terrain_Valid]
 simp (disch := omega) only [go_sem, seval, wqa, wqb, wqc, wqd, wqe, g1, g2, t1, t2, t3, t4, t5, intsG2, w1, w2, w3, fill_C, fillC_def]
end Go.Eng
namespace Go.Eng
def arr4 (a b c d : Int) : PV := .ag [.i .i64 a, .i .i64 b, .i .i64 c, .i .i64 d]
@[go_sem] theorem fz_arr4 (M : PM) (e : Nat) (a b c d : Int) : fz M (e + 1 + 1) (arr4 a b c d) = some (arr4 a b c d, []) := _root_.id rfl
@[go_sem] theorem cells_arr4 (a b c d : Int) : (arr4 a b c d).cells = [.i .i64 a, .i .i64 b, .i .i64 c, .i .i64 d] := _root_.id rfl
@[go_sem] theorem fold_arr4 (a b c d : Int) : PV.ag [.i .i64 a, .i .i64 b, .i .i64 c, .i .i64 d] = arr4 a b c d := _root_.id rfl
def formV (hs : List Int) (C i j : Int) : PV := arr4 (f0V hs C i j) (f1V hs C i j) (f2V hs C i j) (f3V hs C i j)
theorem ez_ints (hs : List Int) : ez 1 (hs.map fun n => PV.i .i64 n) = true := by
 unfold ez
 simp [List.all_map, PV.cells]
theorem slP_ints {hs : List Int} {k : Nat} (hk : k ≤ hs.length) : slP 1 (ints hs) (some (.i .i64 (k : Int))) none none = some (ints (hs.drop k)) := by
 unfold ints
 have e := ez_ints hs
 simp [slP, optP, asNP_nat, e, hk]
 rw [List.take_of_length_le (by simp)]
theorem node_at {X Y S : Int} {C R : Nat} {hs : List Int} (t : TerOk X Y S C R hs) {i j : Nat} (hi : i < C) (hj : j < R) : j * C + i < hs.length := by
 rw [t.len]
 have : j * C + C ≤ R * C := by
  have : (j + 1) * C ≤ R * C := Nat.mul_le_mul_right C (by omega)
  rw [Nat.add_mul, Nat.one_mul] at this; exact this
 rw [Nat.mul_comm C R]; omega
theorem hAt_b {X Y S : Int} {C R : Nat} {hs : List Int} (t : TerOk X Y S C R hs) {k : Nat} (hk : k < hs.length) : -16384 ≤ hs.getD k 0 ∧ hs.getD k 0 ≤ 16384 := t.h _ (by simp [hk])
theorem get_some {hs : List Int} {k : Nat} (hk : k < hs.length) : hs[k]? = some (hs.getD k 0) := by simp [hk]
theorem p_tform {X Y S : Int} {C R : Nat} {hs : List Int} (t : TerOk X Y S C R hs) {i j : Nat} (hi : i + 1 < C) (hj : j + 1 < R) : pf E0 15 [terP X Y S C R hs, .i .i64 i, .i .i64 j] = some (formV hs C i j) := by
 have n1 := node_at t (i := i) (j := j) (by omega) (by omega)
 have n2 := node_at t (i := i + 1) (j := j) hi (by omega)
 have n3 := node_at t (i := i) (j := j + 1) (by omega) hj
 have n4 := node_at t (i := i + 1) (j := j + 1) hi hj
 have e1 : (j : Int) * (C : Int) + (i : Int) = ((j * C + i : Nat) : Int) := by push_cast; rfl
 have e2 : ((j : Int) + 1) * (C : Int) + (i : Int) = (((j + 1) * C + i : Nat) : Int) := by push_cast; rfl
 have v0 : f0V hs C i j = hs.getD (j * C + i) 0 := by unfold f0V; rw [e1]; rfl
 have v1 : f1V hs C i j = hs.getD (j * C + i + 1) 0 - hs.getD (j * C + i) 0 := by
  unfold f1V; rw [e1, show ((j * C + i : Nat) : Int) + 1 = ((j * C + i + 1 : Nat) : Int) by omega]; rfl
 have v2 : f2V hs C i j = hs.getD ((j + 1) * C + i) 0 - hs.getD (j * C + i) 0 := by unfold f2V; rw [e1, e2]; rfl
 have v3 : f3V hs C i j = hs.getD ((j + 1) * C + i + 1) 0 - hs.getD ((j + 1) * C + i) 0 - hs.getD (j * C + i + 1) 0 + hs.getD (j * C + i) 0 := by
  unfold f3V; rw [e1, e2, show ((j * C + i : Nat) : Int) + 1 = ((j * C + i + 1 : Nat) : Int) by omega, show (((j + 1) * C + i : Nat) : Int) + 1 = (((j + 1) * C + i + 1 : Nat) : Int) by omega]; rfl
 have b1 := hAt_b t n1
 have b2 := hAt_b t (k := j * C + i + 1) n2
 have b3 := hAt_b t n3
 have b4 := hAt_b t (k := (j + 1) * C + i + 1) n4
 have g1 : (hs.drop (j * C + i))[0]? = some (hs.getD (j * C + i) 0) := by rw [List.getElem?_drop]; exact get_some n1
 have g2 : (hs.drop (j * C + i))[1]? = some (hs.getD (j * C + i + 1) 0) := by rw [List.getElem?_drop]; exact get_some n2
 have g3 : (hs.drop ((j + 1) * C + i))[0]? = some (hs.getD ((j + 1) * C + i) 0) := by rw [List.getElem?_drop]; exact get_some n3
 have g4 : (hs.drop ((j + 1) * C + i))[1]? = some (hs.getD ((j + 1) * C + i + 1) 0) := by rw [List.getElem?_drop]; exact get_some n4
 have s1 := slP_ints (hs := hs) (k := j * C + i) (by omega)
 have s2 := slP_ints (hs := hs) (k := (j + 1) * C + i) (by omega)
 have hl : hs.length ≤ 16384 := by
  have : C * R ≤ 128 * 128 := Nat.mul_le_mul t.c.2 t.r.2
  rw [t.len]; omega
 have hc := t.c
 have hr := t.r
 have p1 : (j : Int) * (C : Int) ≤ 16384 := by omega
 have p0 : 0 ≤ (j : Int) * (C : Int) := Int.mul_nonneg (by omega) (by omega)
 have p2 : ((j : Int) + 1) * (C : Int) ≤ 16600 := by rw [Int.add_mul, Int.one_mul]; omega
 have p3 : 0 ≤ ((j : Int) + 1) * (C : Int) := Int.mul_nonneg (by omega) (by omega)
 unfold formV
 rw [v0, v1, v2, v3]
 generalize hs.getD (j * C + i + 1) 0 = z2 at *
 generalize hs.getD (j * C + i) 0 = z1 at *
 generalize hs.getD ((j + 1) * C + i + 1) 0 = z4 at *
 generalize hs.getD ((j + 1) * C + i) 0 = z3 at *
 refine pf_run (xf := x_terrain_form) rfl (by simp [x_terrain_form]) ?_
 simp only [x_terrain_form]
 simp (disch := omega) only [go_sem, seval, wqa, wqb, wqc, wqd, wqe, e1, e2, s1, s2, idxP_ints g1, idxP_ints g2, idxP_ints g3, idxP_ints g4]
theorem p_tForm {X Y S : Int} {C R : Nat} {hs : List Int} (t : TerOk X Y S C R hs) {i j : Nat} (hi : i + 1 < C) (hj : j + 1 < R) : pf E0 3 [terP X Y S C R hs, .i .i64 i, .i .i64 j] = some (.tu [formV hs C i j, .i .i64 0]) := by
 have hv := p_Valid0 t
 have hf := p_tform t hi hj
 obtain ⟨a, b, c, d, he⟩ : ∃ a b c d, formV hs C i j = arr4 a b c d := ⟨_, _, _, _, rfl⟩
 rw [he] at hf ⊢
 have hc := t.c
 have hr := t.r
 have t1 : ((if (j : Int) < (i : Int) then (j : Int) else (i : Int)) < 0) = False := eq_false (by split <;> omega)
 have t2 : ((i : Int) > (C : Int) - 2) = False := by simp; omega
 have t3 : ((j : Int) > (R : Int) - 2) = False := by simp; omega
 refine pf_run (xf := x_terrain_Form) rfl (by simp [x_terrain_Form]) ?_
 simp only [x_terrain_Form]
 simp (disch := omega) only [go_sem, seval, wqa, wqb, wqc, wqd, wqe, hv, hf, t1, t2, t3]
theorem p_rForm {X Y S : Int} {C R : Nat} {hs : List Int} (t : TerOk X Y S C R hs) {i j : Nat} (hi : i + 1 < C) (hj : j + 1 < R) : pf E0 4 [terP X Y S C R hs, .i .i64 i, .i .i64 j] = some (formV hs C i j) := by
 have n1 := node_at t (i := i) (j := j) (by omega) (by omega)
 have n2 := node_at t (i := i + 1) (j := j) hi (by omega)
 have n3 := node_at t (i := i) (j := j + 1) (by omega) hj
 have n4 := node_at t (i := i + 1) (j := j + 1) hi hj
 have hc := t.c
 have hr := t.r
 have hl : hs.length ≤ 16384 := by
  have : C * R ≤ 128 * 128 := Nat.mul_le_mul t.c.2 t.r.2
  rw [t.len]; omega
 have x3 : (j + 1) * C + i = j * C + i + C := by rw [Nat.add_mul, Nat.one_mul]; omega
 have e1 : (j : Int) * (C : Int) + (i : Int) = ((j * C + i : Nat) : Int) := by push_cast; rfl
 have e2 : ((j : Int) + 1) * (C : Int) + (i : Int) = ((j * C + i + C : Nat) : Int) := by rw [← x3]; push_cast; rfl
 rw [show (j + 1) * C + (i + 1) = j * C + i + C + 1 by omega] at n4
 rw [x3] at n3
 have n2 : j * C + i + 1 < hs.length := n2
 have p1 : (j : Int) * (C : Int) ≤ 16384 := by omega
 have p0 : 0 ≤ (j : Int) * (C : Int) := Int.mul_nonneg (by omega) (by omega)
 unfold formV f0V f1V f2V f3V
 rw [e1, e2]
 have b1 := hAt_b t n1
 have b2 := hAt_b t n2
 have b3 := hAt_b t n3
 have b4 := hAt_b t n4
 have g1 := get_some n1
 have g2 := get_some n2
 have g3 := get_some n3
 have g4 := get_some n4
 have v1 : hAt hs ((j * C + i : Nat) : Int) = hs.getD (j * C + i) 0 := rfl
 have v2 : hAt hs (((j * C + i : Nat) : Int) + 1) = hs.getD (j * C + i + 1) 0 := by rw [show ((j * C + i : Nat) : Int) + 1 = ((j * C + i + 1 : Nat) : Int) by omega]; rfl
 have v3 : hAt hs ((j * C + i + C : Nat) : Int) = hs.getD (j * C + i + C) 0 := rfl
 have v4 : hAt hs (((j * C + i + C : Nat) : Int) + 1) = hs.getD (j * C + i + C + 1) 0 := by rw [show ((j * C + i + C : Nat) : Int) + 1 = ((j * C + i + C + 1 : Nat) : Int) by omega]; rfl
 rw [v1, v2, v3, v4]
 generalize hs.getD (j * C + i + 1) 0 = z2 at *
 generalize hs.getD (j * C + i) 0 = z1 at *
 generalize hs.getD (j * C + i + C + 1) 0 = z4 at *
 generalize hs.getD (j * C + i + C) 0 = z3 at *
 have w1 : ((j * C + i : Nat) : Int) + 1 = ((j * C + i + 1 : Nat) : Int) := by omega
 have w2 : ((j * C + i : Nat) : Int) + (C : Int) = ((j * C + i + C : Nat) : Int) := by omega
 have w3 : ((j * C + i + C : Nat) : Int) + 1 = ((j * C + i + C + 1 : Nat) : Int) := by omega
 have r1 : z4 - z1 - (z2 - z1) - (z3 - z1) = z4 - z3 - z2 + z1 := by omega
 generalize hk1 : j * C + i + C + 1 = k4 at *
 generalize hk2 : j * C + i + C = k3 at *
 generalize hk3 : j * C + i + 1 = k2 at *
 generalize hk4 : j * C + i = k1 at *
 refine pf_run (xf := x_r10_Form) rfl (by simp [x_r10_Form]) ?_
 simp only [x_r10_Form]
 simp (disch := omega) only [go_sem, seval, wqa, wqb, wqc, wqd, wqe, e1, w1, w2, w3, idxP_ints g1, idxP_ints g2, idxP_ints g3, idxP_ints g4, r1]
end Go.Eng
namespace Go.Eng
noncomputable def spotP (i j : Int) (p q : FQ) : PV := .ag [.i .i64 i, .i .i64 j, .b (decide (p.p.v < 0)), D p.p.v.natAbs, .b (decide (p.l.v < 0)), D p.l.v.natAbs, .b (decide (q.p.v < 0)), D q.p.v.natAbs, .b (decide (q.l.v < 0)), D q.l.v.natAbs]
@[go_sem] theorem fz_spotP (M : PM) (e : Nat) (i j : Int) (p q : FQ) : fz M (e + 1 + 1) (spotP i j p q) = some (spotP i j p q, []) := _root_.id rfl
@[go_sem] theorem cells_spotP (i j : Int) (p q : FQ) : (spotP i j p q).cells = [.i .i64 i, .i .i64 j, .b (decide (p.p.v < 0)), D p.p.v.natAbs, .b (decide (p.l.v < 0)), D p.l.v.natAbs, .b (decide (q.p.v < 0)), D q.p.v.natAbs, .b (decide (q.l.v < 0)), D q.l.v.natAbs] := _root_.id rfl
@[go_sem] theorem fold_spot (i j : Int) (p q : FQ) : PV.ag [.i .i64 i, .i .i64 j, .b (decide (p.p.v < 0)), D p.p.v.natAbs, .b (decide (p.l.v < 0)), D p.l.v.natAbs, .b (decide (q.p.v < 0)), D q.p.v.natAbs, .b (decide (q.l.v < 0)), D q.l.v.natAbs] = spotP i j p q := _root_.id rfl
theorem spot0 : spotP 0 0 fq0 fq0 = .ag [.i .i64 0, .i .i64 0, .b false, .lst [], .b false, .lst [], .b false, .lst [], .b false, .lst []] := by
 have h := fqP0
 unfold fqP at h
 injection h with h
 injection h with h1 h
 injection h with h2 h
 injection h with h3 h
 injection h with h4 _
 unfold spotP
 rw [h1, h2, h3, h4]
def few (x : FQ) : Prop := x.p.v.natAbs ≤ 4611686018427387904 ∧ x.q.v.natAbs ≤ 4611686018427387904
theorem p_find {X Y S : Int} {C R : Nat} {hs : List Int} (t : TerOk X Y S C R hs) {x y : FQ} (hx : few x) (hy : few y) {i j : Int} {p q : FQ}
  (px : pf E0 45 [fqP x, .i .i64 X, .i .i64 S, .i .i64 C] = some (.tu [.i .i64 i, fqP p, .b true])) (py : pf E0 45 [fqP y, .i .i64 Y, .i .i64 S, .i .i64 R] = some (.tu [.i .i64 j, fqP q, .b true])) :
  pf E0 25 [terP X Y S C R hs, fqP x, fqP y] = some (.tu [spotP i j p q, .i .i64 0]) := by
 have hv := p_Valid0 t
 have d1 := p_Digits x hx.1 hx.2
 have d2 := p_Digits y hy.1 hy.2
 have l1 : max (nbits x.p.v.natAbs) (nbits x.q.v.natAbs) ≤ 63 := by
  have := nbits_le (k := x.p.v.natAbs) (n := 63) (by have := hx.1; omega)
  have := nbits_le (k := x.q.v.natAbs) (n := 63) (by have := hx.2; omega)
  omega
 have l2 : max (nbits y.p.v.natAbs) (nbits y.q.v.natAbs) ≤ 63 := by
  have := nbits_le (k := y.p.v.natAbs) (n := 63) (by have := hy.1; omega)
  have := nbits_le (k := y.q.v.natAbs) (n := 63) (by have := hy.2; omega)
  omega
 generalize max (nbits x.p.v.natAbs) (nbits x.q.v.natAbs) = a at *
 generalize max (nbits y.p.v.natAbs) (nbits y.q.v.natAbs) = b at *
 have t1 : ((if (b : Int) > (a : Int) then (b : Int) else (a : Int)) > 1024) = False := eq_false (by split <;> omega)
 refine pf_run (xf := x_terrain_find) rfl (by simp [x_terrain_find]) ?_
 simp only [x_terrain_find]
 simp (disch := omega) only [go_sem, seval, wqa, wqb, wqc, wqd, wqe, hv]
 refine wk_calmX [5] rfl (by simp only [go_sem, seval]) ?_
 simp (disch := omega) only [go_sem, seval, wqa, wqb, wqc, wqd, wqe, d1, d2, t1, px, py, fill_C, fillC_def]
theorem p_findO {X Y S : Int} {C R : Nat} {hs : List Int} (t : TerOk X Y S C R hs) {x y : FQ} (hx : few x) (hy : few y) {i j : Int} {p q : FQ} {bx by_ : Bool} (hb : bx = false ∨ by_ = false)
  (px : pf E0 45 [fqP x, .i .i64 X, .i .i64 S, .i .i64 C] = some (.tu [.i .i64 i, fqP p, .b bx])) (py : pf E0 45 [fqP y, .i .i64 Y, .i .i64 S, .i .i64 R] = some (.tu [.i .i64 j, fqP q, .b by_])) :
  pf E0 25 [terP X Y S C R hs, fqP x, fqP y] = some (.tu [spotP 0 0 fq0 fq0, .i .i64 15]) := by
 have hv := p_Valid0 t
 have d1 := p_Digits x hx.1 hx.2
 have d2 := p_Digits y hy.1 hy.2
 have l1 : max (nbits x.p.v.natAbs) (nbits x.q.v.natAbs) ≤ 63 := by
  have := nbits_le (k := x.p.v.natAbs) (n := 63) (by have := hx.1; omega)
  have := nbits_le (k := x.q.v.natAbs) (n := 63) (by have := hx.2; omega)
  omega
 have l2 : max (nbits y.p.v.natAbs) (nbits y.q.v.natAbs) ≤ 63 := by
  have := nbits_le (k := y.p.v.natAbs) (n := 63) (by have := hy.1; omega)
  have := nbits_le (k := y.q.v.natAbs) (n := 63) (by have := hy.2; omega)
  omega
 generalize max (nbits x.p.v.natAbs) (nbits x.q.v.natAbs) = a at *
 generalize max (nbits y.p.v.natAbs) (nbits y.q.v.natAbs) = b at *
 have t1 : ((if (b : Int) > (a : Int) then (b : Int) else (a : Int)) > 1024) = False := eq_false (by split <;> omega)
 rw [spot0]
 refine pf_run (xf := x_terrain_find) rfl (by simp [x_terrain_find]) ?_
 simp only [x_terrain_find]
 cases bx
 ·simp (disch := omega) only [go_sem, seval, wqa, wqb, wqc, wqd, wqe, hv]
  refine wk_calmX [5] rfl (by simp only [go_sem, seval]) ?_
  simp (disch := omega) only [go_sem, seval, wqa, wqb, wqc, wqd, wqe, d1, d2, t1, px, py]
 ·obtain rfl : by_ = false := by simpa using hb
  simp (disch := omega) only [go_sem, seval, wqa, wqb, wqc, wqd, wqe, hv]
  refine wk_calmX [5] rfl (by simp only [go_sem, seval]) ?_
  simp (disch := omega) only [go_sem, seval, wqa, wqb, wqc, wqd, wqe, d1, d2, t1, px, py]
theorem p_HeightO {X Y S : Int} {C R : Nat} {hs : List Int} {x y : FQ} {s : PV} {e : Int} (he : e ≠ 0) (hs' : ∃ i j p q, s = spotP i j p q) (hf : pf E0 25 [terP X Y S C R hs, fqP x, fqP y] = some (.tu [s, .i .i64 e])) :
  pf E0 10 [terP X Y S C R hs, fqP x, fqP y] = some (.tu [fqP fq0, .i .i64 e]) := by
 obtain ⟨i, j, p, q, rfl⟩ := hs'
 have he : (e = 0) = False := by simp [he]
 rw [fqP0]
 refine pf_run (xf := x_terrain_Height) rfl (by simp [x_terrain_Height]) ?_
 simp only [x_terrain_Height]
 simp (disch := omega) only [go_sem, seval, wqa, wqb, wqc, wqd, wqe, hf, he]
end Go.Eng
namespace Go.Eng
theorem height_ex {k : Nat} (hk : k ≤ 500) {p q : FQ} (zp : fsz k p) (zq : fsz 40 q) {u D v E : Int} (hD : D ≠ 0) (hE : E ≠ 0) (pi : p.is u D) (qi : q.is v E) {f0 f1 f2 f3 : Int} (h0 : Fits64 f0) (h1 : Fits64 f1) (h2 : Fits64 f2) (h3 : Fits64 f3) :
  ∃ w0 w1 w2 w3 m1 lo m3 sl m h : FQ, pf E0 27 [.i .i64 f0] = some (fqP w0) ∧ pf E0 27 [.i .i64 f1] = some (fqP w1) ∧ pf E0 27 [.i .i64 f2] = some (fqP w2) ∧ pf E0 27 [.i .i64 f3] = some (fqP w3) ∧
   pf E0 28 [fqP w1, fqP p] = some (fqP m1) ∧ pf E0 26 [fqP w0, fqP m1] = some (fqP lo) ∧ pf E0 28 [fqP w3, fqP p] = some (fqP m3) ∧ pf E0 26 [fqP w2, fqP m3] = some (fqP sl) ∧ pf E0 28 [fqP sl, fqP q] = some (fqP m) ∧ pf E0 26 [fqP lo, fqP m] = some (fqP h) ∧
   h.is (bil f0 f1 f2 f3 u D v E) (D * E) ∧ fsz (2 * k + 70) h := by
 obtain ⟨w0, a0, b0, z0, g0⟩ := p_twhole h0
 obtain ⟨w1, a1, b1, z1, g1⟩ := p_twhole h1
 obtain ⟨w2, a2, b2, z2, g2⟩ := p_twhole h2
 obtain ⟨w3, a3, b3, z3, g3⟩ := p_twhole h3
 have i0 := is_self w0
 have i1 := is_self w1
 have i2 := is_self w2
 have i3 := is_self w3
 rw [a0, b0] at i0
 rw [a1, b1] at i1
 rw [a2, b2] at i2
 rw [a3, b3] at i3
 obtain ⟨m1, c1, j1, y1⟩ := mul_ix w1 p z1 zp (by omega) i1 pi
 obtain ⟨lo, c2, j2, y2⟩ := add_ix w0 m1 z0 y1 (by omega) i0 j1
 obtain ⟨m3, c3, j3, y3⟩ := mul_ix w3 p z3 zp (by omega) i3 pi
 obtain ⟨sl, c4, j4, y4⟩ := add_ix w2 m3 z2 y3 (by omega) i2 j3
 obtain ⟨m, c5, j5, y5⟩ := mul_ix sl q y4 zq (by omega) j4 qi
 obtain ⟨h, c6, j6, y6⟩ := add_ix lo m y2 y5 (by omega) j2 j5
 refine ⟨w0, w1, w2, w3, m1, lo, m3, sl, m, h, g0, g1, g2, g3, p_tmul c1, p_tadd c2, p_tmul c3, p_tadd c4, p_tmul c5, p_tadd c6, ?_, Nat.le_trans y6.1 (by omega), Nat.le_trans y6.2 (by omega)⟩
 refine is_conv ?_ j6 ?_
 ·refine Int.mul_ne_zero ?_ ?_
  ·rw [Int.one_mul, Int.one_mul]; exact hD
  ·rw [Int.one_mul, Int.one_mul]; exact Int.mul_ne_zero hD hE
 ·unfold bil; grind
theorem hAt_all {X Y S : Int} {C R : Nat} {hs : List Int} (t : TerOk X Y S C R hs) (k : Int) : -16384 ≤ hAt hs k ∧ hAt hs k ≤ 16384 := by
 unfold hAt
 by_cases h : k.toNat < hs.length
 ·exact hAt_b t h
 ·have : hs.getD k.toNat 0 = 0 := by simp [List.getD, List.getElem?_eq_none (Nat.le_of_not_lt h)]
  rw [this]; omega
theorem p_HeightG {k : Nat} (hk : k ≤ 500) {X Y S : Int} {C R : Nat} {hs : List Int} (t : TerOk X Y S C R hs) {x y : FQ} {i j : Nat} (hi : i + 1 < C) (hj : j + 1 < R) {p q : FQ} (zp : fsz k p) (zq : fsz 40 q) {u D v E : Int} (hD : D ≠ 0) (hE : E ≠ 0) (pi : p.is u D) (qi : q.is v E)
  (hf : pf E0 25 [terP X Y S C R hs, fqP x, fqP y] = some (.tu [spotP i j p q, .i .i64 0])) : ∃ h : FQ, pf E0 10 [terP X Y S C R hs, fqP x, fqP y] = some (.tu [fqP h, .i .i64 0]) ∧ h.is (bilV hs C i j u D v E) (D * E) ∧ fsz (2 * k + 70) h := by
 have b := hAt_all t
 have b1 := b ((j : Int) * C + i)
 have b2 := b ((j : Int) * C + i + 1)
 have b3 := b (((j : Int) + 1) * C + i)
 have b4 := b (((j : Int) + 1) * C + i + 1)
 obtain ⟨w0, w1, w2, w3, m1, lo, m3, sl, m, h, g0, g1, g2, g3, c1, c2, c3, c4, c5, c6, hi', hz⟩ := height_ex hk zp zq hD hE pi qi (f0 := f0V hs C i j) (f1 := f1V hs C i j) (f2 := f2V hs C i j) (f3 := f3V hs C i j)
  (by unfold Fits64 f0V; omega) (by unfold Fits64 f1V; omega) (by unfold Fits64 f2V; omega) (by unfold Fits64 f3V; omega)
 have tf := p_tform t hi hj
 have tf : pf E0 15 [terP X Y S C R hs, .i .i64 i, .i .i64 j] = some (arr4 (f0V hs C i j) (f1V hs C i j) (f2V hs C i j) (f3V hs C i j)) := tf
 refine ⟨h, ?_, hi', hz⟩
 clear hi'
 generalize f0V hs C i j = f0 at *
 generalize f1V hs C i j = f1 at *
 generalize f2V hs C i j = f2 at *
 generalize f3V hs C i j = f3 at *
 refine pf_run (xf := x_terrain_Height) rfl (by simp [x_terrain_Height]) ?_
 simp only [x_terrain_Height]
 simp (disch := omega) only [go_sem, seval, wqa, wqb, wqc, wqd, wqe, hf, tf]
 refine wk_calmR [33, 36] rfl ?_ ?_
 ·simp (disch := omega) only [go_sem, seval, wqa, wqb, wqc, wqd, wqe, g0, g1, c1, c2]
  exact ⟨_, rfl, rfl⟩
 simp (disch := omega) only [go_sem, seval, wqa, wqb, wqc, wqd, wqe, g0, g1, c1, c2]
 refine wk_calmR [43, 46] rfl ?_ ?_
 ·simp (disch := omega) only [go_sem, seval, wqa, wqb, wqc, wqd, wqe, g2, g3, c3, c4]
  exact ⟨_, rfl, rfl⟩
 simp (disch := omega) only [go_sem, seval, wqa, wqb, wqc, wqd, wqe, g2, g3, c3, c4]
 refine wk_calmX [11] rfl (by simp only [go_sem, seval]) ?_
 simp (disch := omega) only [go_sem, seval, wqa, wqb, wqc, wqd, wqe, c5, c6]
theorem p_HeightR {X Y S : Int} {C R : Nat} {hs : List Int} (t : TerOk X Y S C R hs) {x y : FQ} {i j : Nat} (hi : i + 1 < C) (hj : j + 1 < R) {p q : FQ} (zp : fsz 40 p) (zq : fsz 40 q) {u D v E : Int} (hD : D ≠ 0) (hE : E ≠ 0) (pi : p.is u D) (qi : q.is v E)
  (hf : pf E0 25 [terP X Y S C R hs, fqP x, fqP y] = some (.tu [spotP i j p q, .i .i64 0])) : ∃ h : FQ, pf E0 10 [terP X Y S C R hs, fqP x, fqP y] = some (.tu [fqP h, .i .i64 0]) ∧ h.is (bilV hs C i j u D v E) (D * E) ∧ fsz 150 h :=
 p_HeightG (k := 40) (by decide) t hi hj zp zq hD hE pi qi hf
theorem p_HeightAt {X Y S : Int} {C R : Nat} {hs : List Int} (t : TerOk X Y S C R hs) {x y : FQ} (hx : few x) (hy : few y) (zx : fsz 20 x) (zy : fsz 20 y) {xn xd yn yd : Int} (dx : 0 < xd) (dy : 0 < yd) (xi : x.is xn xd) (yi : y.is yn yd)
  {i j : Nat} (hi : i + 1 < C) (hj : j + 1 < R) (x1 : (i : Int) * (xd * S) ≤ xn - X * xd) (x2 : xn - X * xd ≤ ((i : Int) + 1) * (xd * S)) (y1 : (j : Int) * (yd * S) ≤ yn - Y * yd) (y2 : yn - Y * yd ≤ ((j : Int) + 1) * (yd * S)) :
  ∃ h : FQ, pf E0 10 [terP X Y S C R hs, fqP x, fqP y] = some (.tu [fqP h, .i .i64 0]) ∧
   h.is (bilV hs C i j (xn - X * xd - i * (xd * S)) (xd * S) (yn - Y * yd - j * (yd * S)) (yd * S)) (xd * S * (yd * S)) ∧ fsz 150 h := by
 have hS := t.s
 have hc := t.c
 have hr := t.r
 have tx := t.x
 have ty := t.y
 have m1 : 0 ≤ ((C : Int) - 1) * S := Int.mul_nonneg (by omega) (by omega)
 have m2 : 0 ≤ ((R : Int) - 1) * S := Int.mul_nonneg (by omega) (by omega)
 have hD : 0 < xd * S := Int.mul_pos dx (by omega)
 have hE : 0 < yd * S := Int.mul_pos dy (by omega)
 have pX := (p_place zx dx xi (F := X) (S := S) (N := C) (by omega) hS hc).1
 have pY := (p_place zy dy yi (F := Y) (S := S) (N := R) (by omega) hS hr).1
 generalize xn - X * xd = u at *
 generalize yn - Y * yd = v at *
 generalize xd * S = D at *
 generalize yd * S = E at *
 have q1 : 0 ≤ (i : Int) * D := Int.mul_nonneg (by omega) (by omega)
 have q2 : 0 ≤ (j : Int) * E := Int.mul_nonneg (by omega) (by omega)
 have q3 : ((i : Int) + 1) * D ≤ ((C : Int) - 1) * D := Int.mul_le_mul_of_nonneg_right (by omega) (by omega)
 have q4 : ((j : Int) + 1) * E ≤ ((R : Int) - 1) * E := Int.mul_le_mul_of_nonneg_right (by omega) (by omega)
 obtain ⟨p, pi, zp, fp⟩ := pX ⟨by omega, by omega⟩
 obtain ⟨q, qi, zq, fq⟩ := pY ⟨by omega, by omega⟩
 have kx : ∃ iN : Nat, (iN : Int) = min (u / D) ((C : Int) - 2) ∧ iN + 1 < C ∧ ∀ jj c d : Int, bilV hs C iN jj (u - iN * D) D c d = bilV hs C i jj (u - i * D) D c d := by
  rcases facet_pick (N := C) hD hc.1 (i := (i : Int)) (by omega) (by omega) x1 x2 with h | ⟨h, hu⟩
  ·exact ⟨i, h.symm, hi, fun jj c d => rfl⟩
  ·refine ⟨i + 1, by rw [h]; push_cast; rfl, by omega, fun jj c d => ?_⟩
   have e1 : u - ((i + 1 : Nat) : Int) * D = 0 := by rw [hu]; push_cast; omega
   have e2 : u - (i : Int) * D = D := by rw [hu, Int.add_mul, Int.one_mul]; omega
   rw [e1, e2, bil_right]; push_cast; rfl
 have ky : ∃ jN : Nat, (jN : Int) = min (v / E) ((R : Int) - 2) ∧ jN + 1 < R ∧ ∀ ii a b : Int, bilV hs C ii jN a b (v - jN * E) E = bilV hs C ii j a b (v - j * E) E := by
  rcases facet_pick (N := R) hE hr.1 (i := (j : Int)) (by omega) (by omega) y1 y2 with h | ⟨h, hu⟩
  ·exact ⟨j, h.symm, hj, fun jj c d => rfl⟩
  ·refine ⟨j + 1, by rw [h]; push_cast; rfl, by omega, fun ii a b => ?_⟩
   have e1 : v - ((j + 1 : Nat) : Int) * E = 0 := by rw [hu]; push_cast; omega
   have e2 : v - (j : Int) * E = E := by rw [hu, Int.add_mul, Int.one_mul]; omega
   rw [e1, e2, bil_up]; push_cast; rfl
 obtain ⟨iN, hiN, hiC, bx⟩ := kx
 obtain ⟨jN, hjN, hjR, by_⟩ := ky
 rw [← hiN] at fp pi
 rw [← hjN] at fq qi
 have hfind := p_find t hx hy fp fq
 obtain ⟨h, fh, hh, hz⟩ := p_HeightR t hiC hjR zp zq (by omega) (by omega) pi qi hfind
 rw [bx, by_] at hh
 exact ⟨h, fh, hh, hz⟩
theorem p_HeightOut {X Y S : Int} {C R : Nat} {hs : List Int} (t : TerOk X Y S C R hs) {x y : FQ} (hx : few x) (hy : few y) (zx : fsz 20 x) (zy : fsz 20 y) {xn xd yn yd : Int} (dx : 0 < xd) (dy : 0 < yd) (xi : x.is xn xd) (yi : y.is yn yd)
  (ho : ¬ (0 ≤ xn - X * xd ∧ xn - X * xd ≤ ((C : Int) - 1) * (xd * S)) ∨ ¬ (0 ≤ yn - Y * yd ∧ yn - Y * yd ≤ ((R : Int) - 1) * (yd * S))) : pf E0 10 [terP X Y S C R hs, fqP x, fqP y] = some (.tu [fqP fq0, .i .i64 15]) := by
 have hS := t.s
 have hc := t.c
 have hr := t.r
 have tx := t.x
 have ty := t.y
 have m1 : 0 ≤ ((C : Int) - 1) * S := Int.mul_nonneg (by omega) (by omega)
 have m2 : 0 ≤ ((R : Int) - 1) * S := Int.mul_nonneg (by omega) (by omega)
 have pX := p_place zx dx xi (F := X) (S := S) (N := C) (by omega) hS hc
 have pY := p_place zy dy yi (F := Y) (S := S) (N := R) (by omega) hS hr
 have kx : ∃ (i : Int) (p : FQ) (b : Bool), pf E0 45 [fqP x, .i .i64 X, .i .i64 S, .i .i64 C] = some (.tu [.i .i64 i, fqP p, .b b]) ∧ (¬ (0 ≤ xn - X * xd ∧ xn - X * xd ≤ ((C : Int) - 1) * (xd * S)) → b = false) := by
  by_cases h : 0 ≤ xn - X * xd ∧ xn - X * xd ≤ ((C : Int) - 1) * (xd * S)
  ·obtain ⟨p, _, _, fp⟩ := pX.1 h
   exact ⟨_, p, true, fp, fun q => (q h).elim⟩
  ·exact ⟨0, fq0, false, pX.2 h, fun _ => rfl⟩
 have ky : ∃ (i : Int) (p : FQ) (b : Bool), pf E0 45 [fqP y, .i .i64 Y, .i .i64 S, .i .i64 R] = some (.tu [.i .i64 i, fqP p, .b b]) ∧ (¬ (0 ≤ yn - Y * yd ∧ yn - Y * yd ≤ ((R : Int) - 1) * (yd * S)) → b = false) := by
  by_cases h : 0 ≤ yn - Y * yd ∧ yn - Y * yd ≤ ((R : Int) - 1) * (yd * S)
  ·obtain ⟨p, _, _, fp⟩ := pY.1 h
   exact ⟨_, p, true, fp, fun q => (q h).elim⟩
  ·exact ⟨0, fq0, false, pY.2 h, fun _ => rfl⟩
 obtain ⟨i, p, b, fp, hb⟩ := kx
 obtain ⟨j, q, c, fq, hc'⟩ := ky
 have hf := p_findO t hx hy (ho.imp hb hc') fp fq
 exact p_HeightO (by decide) ⟨_, _, _, _, rfl⟩ hf
end Go.Eng
namespace Go.Eng
def hgtN (n : Nat) : Int := (((if n % 3 = 0 then 0 else n) % 90 : Nat) : Int) - 20
def hgtV (xs : List Int) (i : Nat) : Int := hgtN (pick xs (5 + (i : Int)) 1000).toNat
theorem hgtN_b (n : Nat) : -20 ≤ hgtN n ∧ hgtN n ≤ 69 := by
 unfold hgtN
 have := Nat.mod_lt (if n % 3 = 0 then 0 else n) (show 0 < 90 by decide)
 omega
def hgtL (xs : List Int) (i : Nat) : List PV := ((List.range i).map (hgtV xs)).map fun n => PV.i .i64 n
theorem hgtL_succ (xs : List Int) (i : Nat) : hgtL xs (i + 1) = hgtL xs i ++ [.i .i64 (hgtV xs i)] := by unfold hgtL; rw [List.range_succ, List.map_append, List.map_append]; rfl
theorem hgtL_len (xs : List Int) (i : Nat) : (hgtL xs i).length = i := by unfold hgtL; simp
theorem ap_nil1 (b0 b1 : Option PB) (w : PV) : appP [b0, b1, some ⟨[w], true, 0⟩] 1 8 .nl (.sl 2 0 1 1 1) = some (.sl 3 0 1 1 1, [b0, b1, some ⟨[w], true, 0⟩, some ⟨[w], true, 0⟩]) := rfl
theorem ap_G (b0 b1 : Option PB) (G : PM) (L : List PV) (w : PV) {i : Nat} (hl : L.length = i) (hi : i ≤ 100) (h0 : 0 < i) : appP (b0 :: b1 :: (G ++ [some ⟨L, true, 0⟩, some ⟨[w], true, 0⟩])) 1 8 (.sl (G.length + 2) 0 i i 1) (.sl (G.length + 3) 0 1 1 1) =
  some (.sl (G.length + 4) 0 (i + 1) (i + 1) 1, b0 :: b1 :: (G ++ [none, some ⟨[w], true, 0⟩, some ⟨L ++ [w], true, 0⟩])) := by
 have e1 : PM.blk (b0 :: b1 :: (G ++ [some (⟨L, true, 0⟩ : PB), some (⟨[w], true, 0⟩ : PB)])) (G.length + 3) = some (⟨[w], true, 0⟩ : PB) := by
  show PM.blk (G ++ [some (⟨L, true, 0⟩ : PB), some (⟨[w], true, 0⟩ : PB)]) (G.length + 1) = _
  rw [mG]; rfl
 have e2 : PM.blk (b0 :: b1 :: (G ++ [some (⟨L, true, 0⟩ : PB), some (⟨[w], true, 0⟩ : PB)])) (G.length + 2) = some (⟨L, true, 0⟩ : PB) := by
  show PM.blk (G ++ [some (⟨L, true, 0⟩ : PB), some (⟨[w], true, 0⟩ : PB)]) (G.length) = _
  rw [mG0]; rfl
 have e3 : (b0 :: b1 :: (G ++ [some (⟨L, true, 0⟩ : PB), some (⟨[w], true, 0⟩ : PB)])).set (G.length + 2) none = b0 :: b1 :: (G ++ [none, some (⟨[w], true, 0⟩ : PB)]) := by
  show b0 :: b1 :: (G ++ [some (⟨L, true, 0⟩ : PB), some (⟨[w], true, 0⟩ : PB)]).set G.length none = _
  rw [sG0]; rfl
 have es : srcP (b0 :: b1 :: (G ++ [some (⟨L, true, 0⟩ : PB), some (⟨[w], true, 0⟩ : PB)])) 1 (.sl (G.length + 3) 0 1 1 1) = some (1, [w]) := by
  simp only [srcP, PM.rd, e1]
  rfl
 unfold appP
 rw [es]
 simp only [e2]
 rw [if_neg (by simp), if_neg (by decide), if_pos ⟨trivial, by rw [hl]; omega, by omega⟩, e3]
 simp only [List.drop_zero, Nat.mul_one, List.cons_append, List.append_assoc, List.nil_append, List.length_cons, List.length_append, List.length_nil]
 rw [List.take_of_length_le (by omega)]
theorem p_Terrain {xs : List Int} (hx : Ints xs) : ∃ (X Y S : Int) (C R : Nat) (hs : List Int), TerOk X Y S C R hs ∧ (-30 ≤ X ∧ X ≤ 29) ∧ (-30 ≤ Y ∧ Y ≤ 29) ∧ S ≤ 20 ∧ C ≤ 6 ∧ R ≤ 6 ∧ (∀ n ∈ hs, -20 ≤ n ∧ n ≤ 69) ∧ pf E0 2 [ints xs] = some (terP X Y S C R hs) := by
 have k0 := p_Pick hx (i := 0) (m := 60) (by decide) (by decide) (by decide)
 have k1 := p_Pick hx (i := 1) (m := 60) (by decide) (by decide) (by decide)
 have k2 := p_Pick hx (i := 2) (m := 20) (by decide) (by decide) (by decide)
 have k3 := p_Pick hx (i := 3) (m := 5) (by decide) (by decide) (by decide)
 have k4 := p_Pick hx (i := 4) (m := 5) (by decide) (by decide) (by decide)
 have a0 := pick_nonneg xs 0 (m := 60) (by decide)
 have a1 := pick_nonneg xs 1 (m := 60) (by decide)
 have a2 := pick_nonneg xs 2 (m := 20) (by decide)
 have a3 := pick_nonneg xs 3 (m := 5) (by decide)
 have a4 := pick_nonneg xs 4 (m := 5) (by decide)
 have b0 := pick_lt xs 0 (m := 60) (by decide)
 have b1 := pick_lt xs 1 (m := 60) (by decide)
 have b2 := pick_lt xs 2 (m := 20) (by decide)
 have b3 := pick_lt xs 3 (m := 5) (by decide)
 have b4 := pick_lt xs 4 (m := 5) (by decide)
 generalize pick xs 0 60 = x0 at *
 generalize pick xs 1 60 = x1 at *
 generalize pick xs 2 20 = x2 at *
 obtain ⟨c, hc⟩ : ∃ c : Nat, pick xs 3 5 = (c : Int) := ⟨(pick xs 3 5).toNat, by omega⟩
 obtain ⟨r, hr⟩ : ∃ r : Nat, pick xs 4 5 = (r : Int) := ⟨(pick xs 4 5).toNat, by omega⟩
 rw [hc] at k3 b3
 rw [hr] at k4 b4
 clear a3 a4
 obtain ⟨C, hC⟩ : ∃ C : Nat, C = c + 2 := ⟨_, rfl⟩
 obtain ⟨R, hR⟩ : ∃ R : Nat, R = r + 2 := ⟨_, rfl⟩
 have eC : (2 : Int) + (c : Int) = (C : Int) := by omega
 have eR : (2 : Int) + (r : Int) = (R : Int) := by omega
 have eCR : (C : Int) * (R : Int) = ((C * R : Nat) : Int) := by push_cast; rfl
 have hCR : C * R ≤ 36 := by
  have : C * R ≤ 6 * 6 := Nat.mul_le_mul (by omega) (by omega)
  omega
 have hCR4 : 4 ≤ C * R := by
  have : 2 * 2 ≤ C * R := Nat.mul_le_mul (by omega) (by omega)
  omega
 have fin : ∃ hs : List Int, hs.length = C * R ∧ (∀ n ∈ hs, -20 ≤ n ∧ n ≤ 69) ∧ pf E0 2 [ints xs] = some (terP (x0 - 30) (x1 - 30) (1 + x2) C R hs) := by
  refine ⟨(List.range (C * R)).map (hgtV xs), by simp, fun n hn => by
   obtain ⟨i, _, rfl⟩ := List.mem_map.1 hn
   exact hgtN_b _, ?_⟩
  refine pf_run (xf := x_r10_Terrain) rfl (by simp [x_r10_Terrain]) ?_
  simp only [x_r10_Terrain]
  simp (disch := omega) only [go_sem, seval, wqa, wqb, wqc, wqd, wqe, k0, k1, k2, k3, k4, eC, eR, fill_C, fillC_def]
  have pk : ∀ i : Nat, i ≤ 100 → ∃ n : Nat, n < 1000 ∧ hgtV xs i = hgtN n ∧ pf E0 13 [ints xs, .i .i64 (5 + (i : Int)), .i .i64 1000] = some (.i .i64 (n : Int)) := fun i hi => by
   have h1 := p_Pick hx (i := 5 + (i : Int)) (m := 1000) (by unfold Fits64; omega) (by decide) (by decide)
   have h2 := pick_nonneg xs (5 + (i : Int)) (m := 1000) (by decide)
   have h3 := pick_lt xs (5 + (i : Int)) (m := 1000) (by decide)
   refine ⟨(pick xs (5 + (i : Int)) 1000).toNat, by omega, rfl, ?_⟩
   rw [h1, Int.toNat_of_nonneg h2]
  have z90 : (0 : Int).tmod 90 = 0 := rfl
  refine wk_roll x_r10_Terrain_l1.eq_1 ?_
  obtain ⟨n, hn, hv, pn⟩ := pk 0 (by decide)
  have pn : pf E0 13 [ints xs, .i .i64 5, .i .i64 1000] = some (.i .i64 (n : Int)) := pn
  have q1 : ((0 : Int) < ((C * R : Nat) : Int)) = True := eq_true (by omega)
  have t3 : (n : Int).tmod 3 = ((n % 3 : Nat) : Int) := nat_tmod _ 3
  have t90 : (n : Int).tmod 90 = ((n % 90 : Nat) : Int) := nat_tmod _ 90
  have hT : hgtL xs 1 = [.i .i64 (hgtN n)] := by rw [hgtL_succ, hv]; rfl
  by_cases h3 : n % 3 = 0
  ·have t0 : (((n % 3 : Nat) : Int) = 0) = True := eq_true (by omega)
   have hw : hgtN n = -20 := by unfold hgtN; rw [if_pos h3]; rfl
   rw [hw] at hT
   simp (disch := omega) only [go_sem, seval, wqa, wqb, wqc, wqd, wqe, eCR, q1, pn, t3, t0, z90, ap_nil1]
   refine wk_ind x_r10_Terrain_l1.eq_1 (fun (i : Nat) fr M => 1 ≤ i ∧ i ≤ C * R ∧ fr 0 = ints xs ∧ fr 2 = .p 0 0 ∧ fr 3 = .p 1 0 ∧ fr 4 = (PV.i .i64 ((i : Nat) : Int)) ∧ ∃ v G, M = some ⟨[.i .i64 0, .i .i64 0, .i .i64 0, .i .i64 0, .i .i64 0, .nl], true, 0⟩ :: some ⟨[.i .i64 (x0 - 30), .i .i64 (x1 - 30), .i .i64 (1 + x2), .i .i64 C, .i .i64 R, .sl (G.length + 2) 0 i i 1], true, v⟩ :: (G ++ [some ⟨hgtL xs i, true, 0⟩]))
    (fun i => C * R - i) ?_ 1 ⟨by omega, by omega, by simp only [go_sem, seval], by simp only [go_sem, seval], by simp only [go_sem, seval], by simp only [go_sem, seval], _, [some ⟨[.i .i64 (-20)], true, 0⟩], by rw [hT]; rfl⟩
   rintro i fr M ⟨hi1, hi, f0, f2, f3, f4, v, G, rfl⟩ ih
   have hll := hgtL_len xs i
   by_cases hil : i < C * R
   ·have q1 : ((i : Int) < ((C * R : Nat) : Int)) = True := eq_true (by omega)
    obtain ⟨n, hn, hv, pn⟩ := pk i (by omega)
    have t3 : (n : Int).tmod 3 = ((n % 3 : Nat) : Int) := nat_tmod _ 3
    have t90 : (n : Int).tmod 90 = ((n % 90 : Nat) : Int) := nat_tmod _ 90
    have hT := hgtL_succ xs i
    rw [hv] at hT
    have apx : ∀ w : PV, appP (some ⟨[.i .i64 0, .i .i64 0, .i .i64 0, .i .i64 0, .i .i64 0, .nl], true, 0⟩ :: some ⟨[.i .i64 (x0 - 30), .i .i64 (x1 - 30), .i .i64 (1 + x2), .i .i64 C, .i .i64 R, .sl (G.length + 2) 0 i i 1], true, v⟩ :: (G ++ [some ⟨hgtL xs i, true, 0⟩, some ⟨[w], true, 0⟩])) 1 8 (.sl (G.length + 2) 0 i i 1) (.sl (G.length + 3) 0 1 1 1) = _ := fun w => ap_G _ _ G (hgtL xs i) w hll (by omega) hi1
    by_cases h3 : n % 3 = 0
    ·have t0 : (((n % 3 : Nat) : Int) = 0) = True := eq_true (by omega)
     have hw : hgtN n = -20 := by unfold hgtN; rw [if_pos h3]; rfl
     rw [hw] at hT
     simp (disch := omega) only [go_sem, seval, wqa, wqb, wqc, wqd, wqe, f0, f2, f3, f4, eCR, q1, pn, t3, t0, z90, apx, mG, mG0, sG, sG0, lG, List.append_assoc, List.cons_append, List.nil_append]
     exact ih (i + 1) _ _ (by omega) ⟨by omega, by omega, by simp only [go_sem, seval, f0], by simp only [go_sem, seval, f2], by simp only [go_sem, seval, f3], by simp only [go_sem, seval]; rw [Int.natCast_succ], v + 1, G ++ [none, some ⟨[.i .i64 (-20)], true, 0⟩], by rw [hT]; simp⟩
    ·have t0 : (((n % 3 : Nat) : Int) = 0) = False := eq_false (by omega)
     have hw : hgtN n = ((n % 90 : Nat) : Int) - 20 := by unfold hgtN; rw [if_neg h3]
     rw [hw] at hT
     simp (disch := omega) only [go_sem, seval, wqa, wqb, wqc, wqd, wqe, f0, f2, f3, f4, eCR, q1, pn, t3, t0, t90, apx, mG, mG0, sG, sG0, lG, List.append_assoc, List.cons_append, List.nil_append]
     exact ih (i + 1) _ _ (by omega) ⟨by omega, by omega, by simp only [go_sem, seval, f0], by simp only [go_sem, seval, f2], by simp only [go_sem, seval, f3], by simp only [go_sem, seval]; rw [Int.natCast_succ], v + 1, G ++ [none, some ⟨[.i .i64 (((n % 90 : Nat) : Int) - 20)], true, 0⟩], by rw [hT]; simp⟩
   ·obtain rfl : i = C * R := by omega
    have q1 : (((C * R : Nat) : Int) < ((C * R : Nat) : Int)) = False := eq_false (by omega)
    have hne : (C * R = 0) = False := eq_false (by omega)
    have hle : (C * R ≤ C * R) = True := eq_true (Nat.le_refl _)
    have htk : (hgtL xs (C * R)).take (C * R) = hgtL xs (C * R) := List.take_of_length_le (by rw [hll]; omega)
    have fzH : ∀ (M : PM) (d : Nat), fzL (fz M (d + 1)) (hgtL xs (C * R)) = some (hgtL xs (C * R), []) := fun M d => fzL_map' M d _ (fun _ => rfl) _
    have gr : group 1 (C * R) (hgtL xs (C * R)) = hgtL xs (C * R) := group_one _ _ hll
    have hI : PV.lst (hgtL xs (C * R)) = ints ((List.range (C * R)).map (hgtV xs)) := rfl
    simp (disch := omega) only [go_sem, seval, wqa, wqb, wqc, wqd, wqe, f0, f2, f3, f4, eCR, q1, hne, hll, hle, htk, fzH, gr, hI, mG, mG0, sG, sG0, lG, List.append_assoc, List.cons_append, List.nil_append]
  ·have t0 : (((n % 3 : Nat) : Int) = 0) = False := eq_false (by omega)
   have hw : hgtN n = ((n % 90 : Nat) : Int) - 20 := by unfold hgtN; rw [if_neg h3]
   rw [hw] at hT
   simp (disch := omega) only [go_sem, seval, wqa, wqb, wqc, wqd, wqe, eCR, q1, pn, t3, t0, t90, ap_nil1]
   refine wk_ind x_r10_Terrain_l1.eq_1 (fun (i : Nat) fr M => 1 ≤ i ∧ i ≤ C * R ∧ fr 0 = ints xs ∧ fr 2 = .p 0 0 ∧ fr 3 = .p 1 0 ∧ fr 4 = (PV.i .i64 ((i : Nat) : Int)) ∧ ∃ v G, M = some ⟨[.i .i64 0, .i .i64 0, .i .i64 0, .i .i64 0, .i .i64 0, .nl], true, 0⟩ :: some ⟨[.i .i64 (x0 - 30), .i .i64 (x1 - 30), .i .i64 (1 + x2), .i .i64 C, .i .i64 R, .sl (G.length + 2) 0 i i 1], true, v⟩ :: (G ++ [some ⟨hgtL xs i, true, 0⟩]))
    (fun i => C * R - i) ?_ 1 ⟨by omega, by omega, by simp only [go_sem, seval], by simp only [go_sem, seval], by simp only [go_sem, seval], by simp only [go_sem, seval], _, [some ⟨[.i .i64 (((n % 90 : Nat) : Int) - 20)], true, 0⟩], by rw [hT]; rfl⟩
   rintro i fr M ⟨hi1, hi, f0, f2, f3, f4, v, G, rfl⟩ ih
   have hll := hgtL_len xs i
   by_cases hil : i < C * R
   ·have q1 : ((i : Int) < ((C * R : Nat) : Int)) = True := eq_true (by omega)
    obtain ⟨n, hn, hv, pn⟩ := pk i (by omega)
    have t3 : (n : Int).tmod 3 = ((n % 3 : Nat) : Int) := nat_tmod _ 3
    have t90 : (n : Int).tmod 90 = ((n % 90 : Nat) : Int) := nat_tmod _ 90
    have hT := hgtL_succ xs i
    rw [hv] at hT
    have apx : ∀ w : PV, appP (some ⟨[.i .i64 0, .i .i64 0, .i .i64 0, .i .i64 0, .i .i64 0, .nl], true, 0⟩ :: some ⟨[.i .i64 (x0 - 30), .i .i64 (x1 - 30), .i .i64 (1 + x2), .i .i64 C, .i .i64 R, .sl (G.length + 2) 0 i i 1], true, v⟩ :: (G ++ [some ⟨hgtL xs i, true, 0⟩, some ⟨[w], true, 0⟩])) 1 8 (.sl (G.length + 2) 0 i i 1) (.sl (G.length + 3) 0 1 1 1) = _ := fun w => ap_G _ _ G (hgtL xs i) w hll (by omega) hi1
    by_cases h3 : n % 3 = 0
    ·have t0 : (((n % 3 : Nat) : Int) = 0) = True := eq_true (by omega)
     have hw : hgtN n = -20 := by unfold hgtN; rw [if_pos h3]; rfl
     rw [hw] at hT
     simp (disch := omega) only [go_sem, seval, wqa, wqb, wqc, wqd, wqe, f0, f2, f3, f4, eCR, q1, pn, t3, t0, z90, apx, mG, mG0, sG, sG0, lG, List.append_assoc, List.cons_append, List.nil_append]
     exact ih (i + 1) _ _ (by omega) ⟨by omega, by omega, by simp only [go_sem, seval, f0], by simp only [go_sem, seval, f2], by simp only [go_sem, seval, f3], by simp only [go_sem, seval]; rw [Int.natCast_succ], v + 1, G ++ [none, some ⟨[.i .i64 (-20)], true, 0⟩], by rw [hT]; simp⟩
    ·have t0 : (((n % 3 : Nat) : Int) = 0) = False := eq_false (by omega)
     have hw : hgtN n = ((n % 90 : Nat) : Int) - 20 := by unfold hgtN; rw [if_neg h3]
     rw [hw] at hT
     simp (disch := omega) only [go_sem, seval, wqa, wqb, wqc, wqd, wqe, f0, f2, f3, f4, eCR, q1, pn, t3, t0, t90, apx, mG, mG0, sG, sG0, lG, List.append_assoc, List.cons_append, List.nil_append]
     exact ih (i + 1) _ _ (by omega) ⟨by omega, by omega, by simp only [go_sem, seval, f0], by simp only [go_sem, seval, f2], by simp only [go_sem, seval, f3], by simp only [go_sem, seval]; rw [Int.natCast_succ], v + 1, G ++ [none, some ⟨[.i .i64 (((n % 90 : Nat) : Int) - 20)], true, 0⟩], by rw [hT]; simp⟩
   ·obtain rfl : i = C * R := by omega
    have q1 : (((C * R : Nat) : Int) < ((C * R : Nat) : Int)) = False := eq_false (by omega)
    have hne : (C * R = 0) = False := eq_false (by omega)
    have hle : (C * R ≤ C * R) = True := eq_true (Nat.le_refl _)
    have htk : (hgtL xs (C * R)).take (C * R) = hgtL xs (C * R) := List.take_of_length_le (by rw [hll]; omega)
    have fzH : ∀ (M : PM) (d : Nat), fzL (fz M (d + 1)) (hgtL xs (C * R)) = some (hgtL xs (C * R), []) := fun M d => fzL_map' M d _ (fun _ => rfl) _
    have gr : group 1 (C * R) (hgtL xs (C * R)) = hgtL xs (C * R) := group_one _ _ hll
    have hI : PV.lst (hgtL xs (C * R)) = ints ((List.range (C * R)).map (hgtV xs)) := rfl
    simp (disch := omega) only [go_sem, seval, wqa, wqb, wqc, wqd, wqe, f0, f2, f3, f4, eCR, q1, hne, hll, hle, htk, fzH, gr, hI, mG, mG0, sG, sG0, lG, List.append_assoc, List.cons_append, List.nil_append]
 obtain ⟨hs, h1, h2, h3⟩ := fin
 have m1 : ((C : Int) - 1) * (1 + x2) ≤ 5 * 20 := Int.mul_le_mul (by omega) (by omega) (by omega) (by omega)
 have m2 : ((R : Int) - 1) * (1 + x2) ≤ 5 * 20 := Int.mul_le_mul (by omega) (by omega) (by omega) (by omega)
 exact ⟨x0 - 30, x1 - 30, 1 + x2, C, R, hs, ⟨by omega, by omega, by omega, by omega, by omega, h1, fun n hn => by have := h2 n hn; omega⟩, by omega, by omega, by omega, by omega, by omega, h2, h3⟩
end Go.Eng
namespace Go.Eng
theorem eqa_self (a b c d : Int) : eqaP [1, 1, 1, 1] (arr4 a b c d) (arr4 a b c d) = some true := by
 unfold arr4
 rw [eqaP_ag]
 simp [eqCellsP, eqCellP]
theorem p_of10 {n d : Int} (hn : Fits64 n) (hd : Fits64 d) (h : d ≠ 0) : ∃ f : FQ, f.is n d ∧ fsz 5 f ∧ f.p.v.natAbs ≤ n.natAbs ∧ f.q.v.natAbs ≤ d.natAbs ∧ pf E0 7 [.i .i64 n, .i .i64 d] = some (fqP f) := by
 obtain ⟨f, f1, f2, fo⟩ := p_fOf hn hd h
 have l1 : f.p.v.natAbs ≤ n.natAbs := by rw [f1]; exact lowP_le h
 have l2 : f.q.v.natAbs ≤ d.natAbs := by rw [f2]; exact lowQ_le h
 unfold Fits64 at hn hd
 refine ⟨f, is_low h f1 f2, ⟨tlen_small (by omega), tlen_small (by omega)⟩, l1, l2, ?_⟩
 refine pf_run (xf := x_l10_of) rfl (by simp [x_l10_of]) ?_
 simp only [x_l10_of]
 simp (disch := omega) only [go_sem, seval, wqa, wqb, wqc, wqd, wqe, fo]
theorem fsz_mono {n m : Nat} {f : FQ} (h : fsz n f) (l : n ≤ m) : fsz m f := ⟨Nat.le_trans h.1 l, Nat.le_trans h.2 l⟩
theorem p_lives10 : pf E0 5 [] = some (.b true) := by
 have t : TerOk 0 0 10 2 2 [0, 10, 20, 40] := ⟨by decide, by decide, by decide, by decide, by decide, rfl, by decide⟩
 have ff := p_tForm t (i := 0) (j := 0) (by decide) (by decide)
 have fe : formV [0, 10, 20, 40] ((2 : Nat) : Int) ((0 : Nat) : Int) ((0 : Nat) : Int) = arr4 0 10 20 10 := rfl
 rw [fe] at ff
 have ff : pf E0 3 [terP 0 0 10 2 2 [0, 10, 20, 40], .i .i64 0, .i .i64 0] = some (.tu [arr4 0 10 20 10, .i .i64 0]) := ff
 obtain ⟨a, ai, az, a1, a2, fa⟩ := p_of10 (n := 5) (d := 1) (by decide) (by decide) (by decide)
 obtain ⟨b, bi, bz, b1, b2, fb⟩ := p_of10 (n := 10) (d := 1) (by decide) (by decide) (by decide)
 obtain ⟨c, ci, cz, c1, c2, fc⟩ := p_of10 (n := 11) (d := 1) (by decide) (by decide) (by decide)
 obtain ⟨z, zi, zz, z1, z2, fz0⟩ := p_of10 (n := 0) (d := 1) (by decide) (by decide) (by decide)
 have ha : few a := ⟨by omega, by omega⟩
 have hb : few b := ⟨by omega, by omega⟩
 have hc : few c := ⟨by omega, by omega⟩
 have hz : few z := ⟨by omega, by omega⟩
 obtain ⟨h, gh, hi, _⟩ := p_HeightAt t ha ha (fsz_mono az (by decide)) (fsz_mono az (by decide)) (by decide) (by decide) ai ai (i := 0) (j := 0) (by decide) (by decide) (by decide) (by decide) (by decide) (by decide)
 obtain ⟨k, gk, ki, _⟩ := p_HeightAt t hb hb (fsz_mono bz (by decide)) (fsz_mono bz (by decide)) (by decide) (by decide) bi bi (i := 0) (j := 0) (by decide) (by decide) (by decide) (by decide) (by decide) (by decide)
 have go := p_HeightOut t hc hz (fsz_mono cz (by decide)) (fsz_mono zz (by decide)) (by decide) (by decide) ci zi (by decide)
 obtain ⟨h1, h2⟩ := is_val (p := 35) (q := 2) (by decide) (by decide) (by decide) hi (by decide)
 obtain ⟨k1, k2⟩ := is_val (p := 40) (q := 1) (by decide) (by decide) (by decide) ki (by decide)
 have d35 : decI 35 = [51, 53] := (ev_dec (v := 35) (n := 1) rfl (by decide) (by decide)).trans rfl
 have d2 : decI 2 = [50] := (ev_dec (v := 2) (n := 0) rfl (by decide) (by decide)).trans rfl
 have d40 : decI 40 = [52, 48] := (ev_dec (v := 40) (n := 1) rfl (by decide) (by decide)).trans rfl
 have s1 := str_ex h (t := [51, 53, 47, 50]) h1 h2 (by unfold ftx; rw [if_neg (by decide), d35, d2]; rfl)
 have s2 := str_ex k (t := [52, 48]) k1 k2 (by unfold ftx; rw [if_pos rfl, d40])
 have gr : PV.lst (group 1 4 [.i .i64 0, .i .i64 10, .i .i64 20, .i .i64 40]) = ints [0, 10, 20, 40] := rfl
 have gh : pf E0 10 [terP 0 0 10 2 2 [0, 10, 20, 40], fqP a, fqP a] = some (.tu [fqP h, .i .i64 0]) := gh
 have gk : pf E0 10 [terP 0 0 10 2 2 [0, 10, 20, 40], fqP b, fqP b] = some (.tu [fqP k, .i .i64 0]) := gk
 have go : pf E0 10 [terP 0 0 10 2 2 [0, 10, 20, 40], fqP c, fqP z] = some (.tu [fqP fq0, .i .i64 15]) := go
 clear hi ki h1 h2 k1 k2 ai bi ci zi
 generalize fq0 = y at *
 refine pf_run (xf := x_l10_lives) rfl (by simp [x_l10_lives]) ?_
 simp only [x_l10_lives]
 simp (disch := omega) only [go_sem, seval, wqa, wqb, wqc, wqd, wqe, gr, ff, fill_C, fillC_def]
 refine wk_calmX [1] rfl (by simp only [go_sem, seval]) ?_
 simp (disch := omega) only [go_sem, seval, wqa, wqb, wqc, wqd, wqe, fa, gr, gh]
 refine wk_calmX [1] rfl (by simp only [go_sem, seval]) ?_
 simp (disch := omega) only [go_sem, seval, wqa, wqb, wqc, wqd, wqe, fb, gr, gk]
 refine wk_calmX [1] rfl (by simp only [go_sem, seval]) ?_
 simp (disch := omega) only [go_sem, seval, wqa, wqb, wqc, wqd, wqe, fc, fz0, gr, go, s1, s2, eqa_self, fill_C, fillC_def]
end Go.Eng
namespace Go.Eng
theorem fst1 (p : Prop) : (p = True) ∨ (p = False) := by by_cases h : p <;> simp [h]
def okA (S C R : Int) (hs : List Int) : Prop := 2 ≤ C ∧ C ≤ 128 ∧ 2 ≤ R ∧ R ≤ 128 ∧ 1 ≤ S ∧ S ≤ 65536 ∧ (hs.length : Int) = C * R
def okB (X Y S C R : Int) : Prop := -1048576 ≤ X ∧ -1048576 ≤ Y ∧ X + (C - 1) * S ≤ 1048576 ∧ Y + (R - 1) * S ≤ 1048576
def okD (hs : List Int) : Prop := ∀ n ∈ hs, -16384 ≤ n ∧ n ≤ 16384
open Classical in
noncomputable def validV (X Y S C R : Int) (hs : List Int) : Int := if okA S C R hs then (if okB X Y S C R ∧ okD hs then 0 else 5) else 1
theorem valid1 {X Y S C R : Int} {hs : List Int} (h : ¬ okA S C R hs) : validV X Y S C R hs = 1 := by unfold validV; rw [if_neg h]
theorem valid5 {X Y S C R : Int} {hs : List Int} (h : okA S C R hs) (h2 : ¬ (okB X Y S C R ∧ okD hs)) : validV X Y S C R hs = 5 := by unfold validV; rw [if_pos h, if_neg h2]
theorem valid0 {X Y S C R : Int} {hs : List Int} (h : okA S C R hs) (h2 : okB X Y S C R) (h3 : okD hs) : validV X Y S C R hs = 0 := by unfold validV; rw [if_pos h, if_pos ⟨h2, h3⟩]
theorem prod_b {C R : Int} (h1 : 2 ≤ C) (h2 : C ≤ 128) (h3 : 2 ≤ R) (h4 : R ≤ 128) : 0 ≤ C * R ∧ C * R ≤ 16384 := ⟨Int.mul_nonneg (by omega) (by omega), by
 have : C * R ≤ 128 * 128 := Int.mul_le_mul h2 h4 (by omega) (by omega)
 omega⟩
theorem prod_s {C S : Int} (h1 : 2 ≤ C) (h2 : C ≤ 128) (h3 : 1 ≤ S) (h4 : S ≤ 65536) : 0 ≤ (C - 1) * S ∧ (C - 1) * S ≤ 8388608 := ⟨Int.mul_nonneg (by omega) (by omega), by
 have : (C - 1) * S ≤ 127 * 65536 := Int.mul_le_mul (by omega) h4 (by omega) (by omega)
 omega⟩
set_option maxHeartbeats 4000000 in
set_option maxRecDepth 40000 in
theorem p_rValidG {X Y S C R : Int} {hs : List Int} (fX : Fits64 X) (fY : Fits64 Y) (fS : Fits64 S) (fC : Fits64 C) (fR : Fits64 R) (hi : Ints hs) : pf E0 242 [terP X Y S C R hs] = some (.i .i64 (validV X Y S C R hs)) := by
 unfold Fits64 at fX fY fS fC fR
 rcases fst1 (C < 2) with h0 | h0
 ·have e := of_eq_true h0
  have hv : validV X Y S C R hs = 1 := valid1 fun q => by obtain ⟨q1, q2, q3, q4, q5, q6, q7⟩ := q; first | omega | (split at e <;> omega)
  rw [hv]
  refine pf_run (xf := x_r10_Valid) rfl (by simp [x_r10_Valid]) ?_
  simp only [x_r10_Valid]
  simp (disch := omega) only [go_sem, seval, wqa, wqb, wqc, wqd, wqe, h0]
 rcases fst1 (C > 128) with h1 | h1
 ·have e := of_eq_true h1
  have e0 := of_eq_false h0
  have hv : validV X Y S C R hs = 1 := valid1 fun q => by obtain ⟨q1, q2, q3, q4, q5, q6, q7⟩ := q; first | omega | (split at e <;> omega)
  rw [hv]
  refine pf_run (xf := x_r10_Valid) rfl (by simp [x_r10_Valid]) ?_
  simp only [x_r10_Valid]
  simp (disch := omega) only [go_sem, seval, wqa, wqb, wqc, wqd, wqe, h0, h1]
 rcases fst1 (R < 2) with h2 | h2
 ·have e := of_eq_true h2
  have e0 := of_eq_false h0
  have e1 := of_eq_false h1
  have hv : validV X Y S C R hs = 1 := valid1 fun q => by obtain ⟨q1, q2, q3, q4, q5, q6, q7⟩ := q; first | omega | (split at e <;> omega)
  rw [hv]
  refine pf_run (xf := x_r10_Valid) rfl (by simp [x_r10_Valid]) ?_
  simp only [x_r10_Valid]
  simp (disch := omega) only [go_sem, seval, wqa, wqb, wqc, wqd, wqe, h0, h1, h2]
 rcases fst1 (R > 128) with h3 | h3
 ·have e := of_eq_true h3
  have e0 := of_eq_false h0
  have e1 := of_eq_false h1
  have e2 := of_eq_false h2
  have hv : validV X Y S C R hs = 1 := valid1 fun q => by obtain ⟨q1, q2, q3, q4, q5, q6, q7⟩ := q; first | omega | (split at e <;> omega)
  rw [hv]
  refine pf_run (xf := x_r10_Valid) rfl (by simp [x_r10_Valid]) ?_
  simp only [x_r10_Valid]
  simp (disch := omega) only [go_sem, seval, wqa, wqb, wqc, wqd, wqe, h0, h1, h2, h3]
 rcases fst1 (S < 1) with h4 | h4
 ·have e := of_eq_true h4
  have e0 := of_eq_false h0
  have e1 := of_eq_false h1
  have e2 := of_eq_false h2
  have e3 := of_eq_false h3
  have hv : validV X Y S C R hs = 1 := valid1 fun q => by obtain ⟨q1, q2, q3, q4, q5, q6, q7⟩ := q; first | omega | (split at e <;> omega)
  rw [hv]
  refine pf_run (xf := x_r10_Valid) rfl (by simp [x_r10_Valid]) ?_
  simp only [x_r10_Valid]
  simp (disch := omega) only [go_sem, seval, wqa, wqb, wqc, wqd, wqe, h0, h1, h2, h3, h4]
 rcases fst1 (S > 65536) with h5 | h5
 ·have e := of_eq_true h5
  have e0 := of_eq_false h0
  have e1 := of_eq_false h1
  have e2 := of_eq_false h2
  have e3 := of_eq_false h3
  have e4 := of_eq_false h4
  have hv : validV X Y S C R hs = 1 := valid1 fun q => by obtain ⟨q1, q2, q3, q4, q5, q6, q7⟩ := q; first | omega | (split at e <;> omega)
  rw [hv]
  refine pf_run (xf := x_r10_Valid) rfl (by simp [x_r10_Valid]) ?_
  simp only [x_r10_Valid]
  simp (disch := omega) only [go_sem, seval, wqa, wqb, wqc, wqd, wqe, h0, h1, h2, h3, h4, h5]
 rcases fst1 (¬ (hs.length : Int) = C * R) with h6 | h6
 ·have e := of_eq_true h6
  have e0 := of_eq_false h0
  have e1 := of_eq_false h1
  have e2 := of_eq_false h2
  have e3 := of_eq_false h3
  have e4 := of_eq_false h4
  have e5 := of_eq_false h5
  have pb := prod_b (C := C) (R := R) (by first | omega | (split at * <;> omega)) (by first | omega | (split at * <;> omega)) (by first | omega | (split at * <;> omega)) (by first | omega | (split at * <;> omega))
  have hv : validV X Y S C R hs = 1 := valid1 fun q => by obtain ⟨q1, q2, q3, q4, q5, q6, q7⟩ := q; first | omega | (split at e <;> omega)
  rw [hv]
  refine pf_run (xf := x_r10_Valid) rfl (by simp [x_r10_Valid]) ?_
  simp only [x_r10_Valid]
  simp (disch := omega) only [go_sem, seval, wqa, wqb, wqc, wqd, wqe, h0, h1, h2, h3, h4, h5, h6]
 have e0 := of_eq_false h0
 have e1 := of_eq_false h1
 have e2 := of_eq_false h2
 have e3 := of_eq_false h3
 have e4 := of_eq_false h4
 have e5 := of_eq_false h5
 have e6 : (hs.length : Int) = C * R := by have := of_eq_false h6; omega
 have h6 : ((hs.length : Int) = C * R) = True := eq_true e6
 have hA : okA S C R hs := ⟨by omega, by omega, by omega, by omega, by omega, by omega, e6⟩
 have pb := prod_b (C := C) (R := R) (by omega) (by omega) (by omega) (by omega)
 have ps := prod_s (C := C) (S := S) (by omega) (by omega) (by omega) (by omega)
 have pr := prod_s (C := R) (S := S) (by omega) (by omega) (by omega) (by omega)
 rw [Int.mul_comm] at ps pr
 have nB : ¬ okB X Y S C R → validV X Y S C R hs = 5 := fun q => valid5 hA fun z => q z.1
 have k1 : (C - 1) * S = S * (C - 1) := Int.mul_comm _ _
 have k2 : (R - 1) * S = S * (R - 1) := Int.mul_comm _ _
 rcases fst1 (X < -1048576) with g0 | g0
 ·have e := of_eq_true g0
  rw [nB fun q => by obtain ⟨q1, q2, q3, q4⟩ := q; omega]
  refine pf_run (xf := x_r10_Valid) rfl (by simp [x_r10_Valid]) ?_
  simp only [x_r10_Valid]
  simp (disch := omega) only [go_sem, seval, wqa, wqb, wqc, wqd, wqe, h0, h1, h2, h3, h4, h5, h6, g0]
 have d0 := of_eq_false g0
 rcases fst1 (Y < -1048576) with g1 | g1
 ·have e := of_eq_true g1
  rw [nB fun q => by obtain ⟨q1, q2, q3, q4⟩ := q; omega]
  refine pf_run (xf := x_r10_Valid) rfl (by simp [x_r10_Valid]) ?_
  simp only [x_r10_Valid]
  simp (disch := omega) only [go_sem, seval, wqa, wqb, wqc, wqd, wqe, h0, h1, h2, h3, h4, h5, h6, g0, g1]
 have d1 := of_eq_false g1
 rcases fst1 (X > 1048576 - S * (C - 1)) with g2 | g2
 ·have e := of_eq_true g2
  rw [nB fun q => by obtain ⟨q1, q2, q3, q4⟩ := q; omega]
  refine pf_run (xf := x_r10_Valid) rfl (by simp [x_r10_Valid]) ?_
  simp only [x_r10_Valid]
  simp (disch := omega) only [go_sem, seval, wqa, wqb, wqc, wqd, wqe, h0, h1, h2, h3, h4, h5, h6, g0, g1, g2]
 have d2 := of_eq_false g2
 rcases fst1 (Y > 1048576 - S * (R - 1)) with g3 | g3
 ·have e := of_eq_true g3
  rw [nB fun q => by obtain ⟨q1, q2, q3, q4⟩ := q; omega]
  refine pf_run (xf := x_r10_Valid) rfl (by simp [x_r10_Valid]) ?_
  simp only [x_r10_Valid]
  simp (disch := omega) only [go_sem, seval, wqa, wqb, wqc, wqd, wqe, h0, h1, h2, h3, h4, h5, h6, g0, g1, g2, g3]
 have d3 := of_eq_false g3
 have hB : okB X Y S C R := ⟨by omega, by omega, by omega, by omega⟩
 have res : ∀ v : Int, ((∃ i : Nat, i < hs.length ∧ ¬ (-16384 ≤ hs.getD i 0 ∧ hs.getD i 0 ≤ 16384)) → v = 5) → ((∀ i : Nat, i < hs.length → -16384 ≤ hs.getD i 0 ∧ hs.getD i 0 ≤ 16384) → v = 0) → validV X Y S C R hs = v := fun v z1 z2 => by
  by_cases hd : okD hs
  ·rw [valid0 hA hB hd, z2 fun i hi => hd _ (by simp [hi])]
  ·rw [valid5 hA fun q => hd q.2, z1]
   by_cases q : ∃ i : Nat, i < hs.length ∧ ¬ (-16384 ≤ hs.getD i 0 ∧ hs.getD i 0 ≤ 16384)
   ·exact q
   ·exact (hd fun n hn => by
     obtain ⟨i, hi', rfl⟩ := List.getElem_of_mem hn
     by_cases z : -16384 ≤ hs.getD i 0 ∧ hs.getD i 0 ≤ 16384
     ·simpa [hi'] using z
     ·exact (q ⟨i, hi', z⟩).elim).elim
 generalize validV X Y S C R hs = v at *
 have l1 := hi.1
 refine pf_run (xf := x_r10_Valid) rfl (by simp [x_r10_Valid]) ?_
 simp only [x_r10_Valid]
 simp (disch := omega) only [go_sem, seval, wqa, wqb, wqc, wqd, wqe, h0, h1, h2, h3, h4, h5, h6, g0, g1, g2, g3]
 refine wk_ind x_r10_Valid_l1.eq_1 (fun (i : Nat) fr M => i ≤ hs.length ∧ (∀ k : Nat, k < i → -16384 ≤ hs.getD k 0 ∧ hs.getD k 0 ≤ 16384) ∧ fr 1 = .p 0 0 ∧ fr 3 = (PV.i .i64 ((i : Nat) : Int)) ∧ M = [some ⟨[.i .i64 X, .i .i64 Y, .i .i64 S, .i .i64 C, .i .i64 R, ints hs], true, 0⟩]) (fun i => hs.length - i) ?_ 0 ⟨Nat.zero_le _, fun k hk => by omega, by simp only [go_sem, seval], by simp only [go_sem, seval], rfl⟩
 rintro i fr M ⟨hi1, hlo, f1, f3, rfl⟩ ih
 by_cases hil : i < hs.length
 ·have q1 : ((i : Int) < (hs.length : Int)) = True := eq_true (by omega)
  have gi := get_some hil
  generalize hz : hs.getD i 0 = z at *
  rcases fst1 (z < -16384) with t0 | t0
  ·have e := of_eq_true t0
   have hv := res 5 (fun _ => rfl) (fun q => by have := q i hil; rw [hz] at this; omega)
   rw [hv]
   simp (disch := omega) only [go_sem, seval, wqa, wqb, wqc, wqd, wqe, f1, f3, q1, idxP_ints gi, Int.toNat_natCast, t0]
  ·rcases fst1 (z > 16384) with t1 | t1
   ·have e := of_eq_true t1
    have hv := res 5 (fun _ => rfl) (fun q => by have := q i hil; rw [hz] at this; omega)
    rw [hv]
    simp (disch := omega) only [go_sem, seval, wqa, wqb, wqc, wqd, wqe, f1, f3, q1, idxP_ints gi, Int.toNat_natCast, t0, t1]
   ·have u0 := of_eq_false t0
    have u1 := of_eq_false t1
    simp (disch := omega) only [go_sem, seval, wqa, wqb, wqc, wqd, wqe, f1, f3, q1, idxP_ints gi, Int.toNat_natCast, t0, t1]
    refine ih (i + 1) _ _ (by omega) ⟨by omega, ?_, by simp only [go_sem, seval, f1], by simp only [go_sem, seval]; rw [Int.natCast_succ], rfl⟩
    intro k hk
    rcases Nat.lt_or_ge k i with h | h
    ·exact hlo k h
    ·have : k = i := by omega
     subst this; rw [hz]; omega
 ·have q1 : ((i : Int) < (hs.length : Int)) = False := eq_false (by omega)
  have hv := res 0 (fun ⟨k, hk, hn⟩ => (hn (hlo k (by omega))).elim) (fun _ => rfl)
  rw [hv]
  simp (disch := omega) only [go_sem, seval, wqa, wqb, wqc, wqd, wqe, f1, f3, q1]
end Go.Eng
namespace Go.Eng
theorem p_Facet {X Y S C R : Int} {hs : List Int} {e i j : Int} {p q x y : FQ} (hf : pf E0 25 [terP X Y S C R hs, fqP x, fqP y] = some (.tu [spotP i j p q, .i .i64 e])) : pf E0 243 [terP X Y S C R hs, fqP x, fqP y] = some (.tu [.i .i64 i, .i .i64 j, .i .i64 e]) := by
 refine pf_run (xf := x_terrain_Facet) rfl (by simp [x_terrain_Facet]) ?_
 simp only [x_terrain_Facet]
 simp (disch := omega) only [go_sem, seval, wqa, wqb, wqc, wqd, wqe, hf]
end Go.Eng
namespace Go.Eng
theorem p_rSmall {z : Int} (lz : tlen z.natAbs < 100000) : pf E0 117 [nP z] = some (.tu [.i .i64 (small z), .b (isSmall z)]) := by
 obtain ⟨mx, hmx⟩ : ∃ mx : Int, mx = 9223372036854775807 := ⟨_, rfl⟩
 obtain ⟨mn, hmn⟩ : ∃ mn : Int, mn = -9223372036854775808 := ⟨_, rfl⟩
 have o1 : pf E0 114 [.i .i64 9223372036854775807] = some (nP mx) := by rw [hmx]; exact p_rOf 9223372036854775807 (by unfold Fits64; omega)
 have o2 : pf E0 114 [.i .i64 (-9223372036854775808)] = some (nP mn) := by rw [hmn]; exact p_rOf (-9223372036854775808) (by unfold Fits64; omega)
 have l1 : tlen (9223372036854775807 : Int).natAbs < 100000 := by
  have : tlen (9223372036854775807 : Int).natAbs ≤ 5 := tlen_small (by decide)
  omega
 have l2 : tlen (-9223372036854775808 : Int).natAbs < 100000 := by
  have : tlen (-9223372036854775808 : Int).natAbs ≤ 5 := tlen_small (by decide)
  omega
 have c1 := p_rCompare z mx (by omega) (by rw [hmx]; omega)
 have c2 := p_rCompare z mn (by omega) (by rw [hmn]; omega)
 refine pf_run (xf := x_r03_Small) rfl (by simp [x_r03_Small]) ?_
 simp only [x_r03_Small]
 have hcz : (nP z).cells = [.b (decide (z < 0)), T z.natAbs] := rfl
 by_cases h1 : 9223372036854775807 < z
 ·have hf : isSmall z = false := decide_eq_false (by omega)
  have hf2 : small z = 0 := by unfold small; rw [hf]; rfl
  have q1 : (cmpI z mx > 0) = True := by rw [cmpI_pos]; simp; omega
  simp (disch := omega) only [go_sem, seval, wqa, wqb, wqc, wqd, wqe]
  refine wk_calmG (fun fr2 Ms hT => by rw [List.all_cons, List.all_cons, calm_chk hT rfl, calm_chkL hT (i := 5) (j := 6) rfl rfl rfl rfl rfl (n := 0) (o := 0) (by simp only [go_sem, seval])]; rfl) ?_
  simp (disch := omega) only [go_sem, seval, wqa, wqb, wqc, wqd, wqe, o1, o2, c1, c2, q1, hf, hf2]
 ·have q1 : (cmpI z mx > 0) = False := by rw [cmpI_pos]; simp; omega
  by_cases h2 : z < -9223372036854775808
  ·have hf : isSmall z = false := decide_eq_false (by omega)
   have hf2 : small z = 0 := by unfold small; rw [hf]; rfl
   have q2 : (cmpI z mn < 0) = True := by rw [cmpI_neg]; simp; omega
   simp (disch := omega) only [go_sem, seval, wqa, wqb, wqc, wqd, wqe]
   refine wk_calmG (fun fr2 Ms hT => by rw [List.all_cons, List.all_cons, calm_chk hT rfl, calm_chkL hT (i := 5) (j := 6) rfl rfl rfl rfl rfl (n := 0) (o := 0) (by simp only [go_sem, seval])]; rfl) ?_
   simp (disch := omega) only [go_sem, seval, wqa, wqb, wqc, wqd, wqe, o1, o2, c1, c2, q1, q2, hf, hf2]
  ·have q2 : (cmpI z mn < 0) = False := by rw [cmpI_neg]; simp; omega
   have hf : isSmall z = true := decide_eq_true (by omega)
   have hf2 : small z = z := by unfold small; rw [hf]; rfl
   rw [hf, hf2]
   simp (disch := omega) only [go_sem, seval, wqa, wqb, wqc, wqd, wqe]
   refine wk_calmG (fun fr2 Ms hT => by rw [List.all_cons, List.all_cons, calm_chk hT rfl, calm_chkL hT (i := 5) (j := 6) rfl rfl rfl rfl rfl (n := 0) (o := 0) (by simp only [go_sem, seval])]; rfl) ?_
   simp (disch := omega) only [go_sem, seval, wqa, wqb, wqc, wqd, wqe, o1, o2, c1, c2, q1, q2]
   have hv : z.natAbs ≤ 9223372036854775808 := by omega
   have eT : T z.natAbs = Tw (tlen z.natAbs) z.natAbs := rfl
   refine wk_ind x_r03_Small_l1.eq_1 (fun (i : Nat) fr M => i ≤ tlen z.natAbs ∧ fr 1 = .p 0 0 ∧ fr 5 = .i .i64 ((i : Int) - 1) ∧ fr 4 = .i .i64 (sgn (decide (z < 0)) (z.natAbs / 10000 ^ i)) ∧ M = [some ⟨[.b (decide (z < 0)), T z.natAbs], true, 0⟩]) id ?_ (tlen z.natAbs) ⟨Nat.le_refl _, by simp only [go_sem, seval], by simp only [go_sem, seval], by simp only [go_sem, seval]; rw [Nat.div_eq_of_lt (tlen_lt _)]; unfold sgn; split <;> rfl, rfl⟩
   rintro i fr M ⟨hi, g1, g5, g4, rfl⟩ ih
   by_cases hi0 : i = 0
   ·subst hi0
    have e0 : sgn (decide (z < 0)) (z.natAbs / 10000 ^ 0) = z := by
     rw [Nat.pow_zero, Nat.div_one]; unfold sgn
     by_cases q : z < 0
     ·simp [q]; omega
     ·simp [q]; omega
    rw [e0] at g4
    simp (disch := omega) only [go_sem, seval, wqa, wqb, wqc, wqd, wqe, g1, g4, g5, Int.natCast_zero, Int.zero_sub, Int.reduceNeg, Int.reduceLE, ge_iff_le]
   ·obtain ⟨m, rfl⟩ : ∃ m, i = m + 1 := ⟨i - 1, by omega⟩
    have q1 : (((m + 1 : Nat) : Int) - 1 ≥ 0) = True := by simp
    have q2 : (((m + 1 : Nat) : Int) - 1) = (m : Int) := by omega
    have hml : m < tlen z.natAbs := by omega
    have hsp : z.natAbs / 10000 ^ m = z.natAbs / 10000 ^ (m + 1) * 10000 + tdg z.natAbs m := by rw [pow_div_succ, tdg_def]; omega
    have hd := tdg_lt z.natAbs m
    have hle := Nat.div_le_self z.natAbs (10000 ^ m)
    have fin := fun (fr' : PFr) (f1 : fr' 1 = .p 0 0) (f5 : fr' 5 = .i .i64 ((m : Int) - 1)) (f4 : fr' 4 = .i .i64 (sgn (decide (z < 0)) (z.natAbs / 10000 ^ m))) => ih m fr' _ (by simp only [id]; omega) ⟨by omega, f1, f5, f4, rfl⟩
    unfold sgn at g4 fin
    rw [hsp] at fin hle
    generalize z.natAbs / 10000 ^ (m + 1) = u at *
    by_cases q : z < 0
    ·simp only [q, decide_true, if_true] at g4 fin
     have e1 : -(u : Int) * 10000 - ((tdg z.natAbs m : Nat) : Int) = -((u * 10000 + tdg z.natAbs m : Nat) : Int) := by omega
     rw [← e1] at fin
     simp (disch := omega) only [go_sem, seval, wqa, wqb, wqc, wqd, wqe, g1, g4, g5, q, q1, q2, eT, idxP_Tw]
     exact fin _ (by simp only [go_sem, seval, g1]) (by simp only [go_sem, seval]) (by simp only [go_sem, seval])
    ·simp only [q, decide_false, Bool.false_eq_true, if_false] at g4 fin
     have e1 : (u : Int) * 10000 + ((tdg z.natAbs m : Nat) : Int) = ((u * 10000 + tdg z.natAbs m : Nat) : Int) := by omega
     rw [← e1] at fin
     simp (disch := omega) only [go_sem, seval, wqa, wqb, wqc, wqd, wqe, g1, g4, g5, q, q1, q2, eT, idxP_Tw]
     exact fin _ (by simp only [go_sem, seval, g1]) (by simp only [go_sem, seval]) (by simp only [go_sem, seval])
end Go.Eng
namespace Go.Eng
theorem ftx_inj2 {f g : FQ} (e : ftx f.p.v f.q.v = ftx g.p.v g.q.v) : f = g := by
 have l1 := ftx_len f
 obtain ⟨T, _, B, _, _, _, hS, _, _⟩ := parts_ex (ftx f.p.v f.q.v) (by omega)
 obtain ⟨a1, a2⟩ := split_ftx hS
 rw [e] at hS
 obtain ⟨b1, b2⟩ := split_ftx hS
 have inj : ∀ (x y : WI), decI x.v = decI y.v → x.v = y.v := fun x y h => by
  have p1 := parseT_dec x.v
  have p2 := parseT_dec y.v
  rw [if_pos ((wide_iff _).1 x.lim)] at p1
  rw [if_pos ((wide_iff _).1 y.lim)] at p2
  rw [h, p2] at p1
  exact (Prod.mk.inj p1).1.symm
 exact fq_ext (inj f.p g.p (a1.symm.trans b1)) (inj f.q g.q (a2.symm.trans b2))
theorem fqP_inj {f g : FQ} (h : fqP f = fqP g) : f = g := by
 have a := p_fString f
 rw [h, p_fString g] at a
 have e : ftx g.p.v g.q.v = ftx f.p.v f.q.v := by
  injection a with a; injection a
 exact (ftx_inj2 e).symm
theorem tu_inj {f g : FQ} {d e : Int} (h : some (PV.tu [fqP f, .i .i64 d]) = some (.tu [fqP g, .i .i64 e])) : f = g ∧ d = e := by
 simp only [Option.some.injEq, PV.tu.injEq, List.cons.injEq, PV.i.injEq, true_and, and_true] at h
 exact ⟨fqP_inj h.1, h.2⟩
theorem is_le {f : FQ} {n d : Int} (hd : d ≠ 0) (h : f.is n d) : f.p.v.natAbs ≤ n.natAbs ∧ f.q.v.natAbs ≤ d.natAbs := by
 have h1 := low_cross (p := n) hd
 have h2 := low_pos (p := n) hd
 have h3 := low_cop (p := n) hd
 have hq := f.q1
 unfold FQ.is at h
 obtain ⟨e1, e2⟩ := low_uniq (by omega) h2 f.cop h3 (by
  apply Int.eq_of_mul_eq_mul_right (a := d) hd
  calc f.p.v * lowQ n d * d = f.p.v * d * lowQ n d := by grind
   _ = n * f.q.v * lowQ n d := by rw [h]
   _ = lowP n d * d * f.q.v := by rw [h1]; grind
   _ = lowP n d * f.q.v * d := by grind)
 rw [e1, e2]
 exact ⟨lowP_le hd, lowQ_le hd⟩
theorem add_ir (a b : FQ) {n m : Nat} {x d y e : Int} (ha : fsz n a) (hb : fsz m b) (h : n + m + 1 < 1230) (xa : a.is x d) (xb : b.is y e) :
  ∃ f : FQ, pf E0 9 [fqP a, fqP b] = some (.tu [fqP f, .i .i64 0]) ∧ pf E0 190 [rfQ a, rfQ b] = some (.tu [rfQ f, .i .i64 0]) ∧ f.is (x * e + y * d) (d * e) ∧ fsz (n + m + 1) f := by
 obtain ⟨f, h1, h2, h3⟩ := add_ix a b ha hb h xa xb
 obtain ⟨g, k, k1, k2⟩ := add_both a b
 rw [h1] at k1
 obtain ⟨rfl, rfl⟩ := tu_inj k1
 exact ⟨f, h1, k2, h2, h3⟩
theorem sub_ir (a b : FQ) {n m : Nat} {x d y e : Int} (ha : fsz n a) (hb : fsz m b) (h : n + m + 1 < 1230) (xa : a.is x d) (xb : b.is y e) :
  ∃ f : FQ, pf E0 81 [fqP a, fqP b] = some (.tu [fqP f, .i .i64 0]) ∧ pf E0 191 [rfQ a, rfQ b] = some (.tu [rfQ f, .i .i64 0]) ∧ f.is (x * e - y * d) (d * e) ∧ fsz (n + m + 1) f := by
 obtain ⟨f, h1, h2, h3⟩ := sub_ix a b ha hb h xa xb
 obtain ⟨g, k, k1, k2⟩ := sub_both a b
 rw [h1] at k1
 obtain ⟨rfl, rfl⟩ := tu_inj k1
 exact ⟨f, h1, k2, h2, h3⟩
theorem mul_ir (a b : FQ) {n m : Nat} {x d y e : Int} (ha : fsz n a) (hb : fsz m b) (h : n + m < 1230) (xa : a.is x d) (xb : b.is y e) :
  ∃ f : FQ, pf E0 8 [fqP a, fqP b] = some (.tu [fqP f, .i .i64 0]) ∧ pf E0 192 [rfQ a, rfQ b] = some (.tu [rfQ f, .i .i64 0]) ∧ f.is (x * y) (d * e) ∧ fsz (n + m) f := by
 obtain ⟨f, h1, h2, h3⟩ := mul_ix a b ha hb h xa xb
 obtain ⟨g, k, k1, k2⟩ := mul_both a b
 rw [h1] at k1
 obtain ⟨rfl, rfl⟩ := tu_inj k1
 exact ⟨f, h1, k2, h2, h3⟩
theorem div_ir (a b : FQ) (hb0 : b.p.v ≠ 0) {n m : Nat} {x d y e : Int} (ha : fsz n a) (hb : fsz m b) (h : n + m < 1230) (xa : a.is x d) (xb : b.is y e) :
  ∃ f : FQ, pf E0 65 [fqP a, fqP b] = some (.tu [fqP f, .i .i64 0]) ∧ pf E0 193 [rfQ a, rfQ b] = some (.tu [rfQ f, .i .i64 0]) ∧ f.is (x * e) (d * y) ∧ fsz (n + m) f := by
 obtain ⟨f, h1, h2, h3⟩ := div_is a b hb0 ha hb h
 obtain ⟨g, k, k1, k2⟩ := div_both a b
 rw [h1] at k1
 obtain ⟨rfl, rfl⟩ := tu_inj k1
 exact ⟨f, h1, k2, div_comp xa xb hb0 h2, h3⟩
theorem wh_ex {n : Int} (hn : Fits64 n) : ∃ f : FQ, f.p.v = n ∧ f.q.v = 1 ∧ f.is n 1 ∧ fsz 5 f ∧ pf E0 185 [.i .i64 n] = some (rfQ f) := by
 obtain ⟨f, f1, f2, fz, _⟩ := p_twhole hn
 refine ⟨f, f1, f2, ?_, fz, ?_⟩
 ·have := is_self f
  rwa [f1, f2] at this
 ·rw [← rfQ_of f1 f2]; exact p_rfOf hn
theorem p_rPlus {a b f : FQ} {e : Int} (h : pf E0 190 [rfQ a, rfQ b] = some (.tu [rfQ f, .i .i64 e])) : pf E0 255 [rfQ a, rfQ b] = some (rfQ f) := by
 refine pf_run (xf := x_r10_Plus) rfl (by simp [x_r10_Plus]) ?_
 simp only [x_r10_Plus]
 simp (disch := omega) only [go_sem, seval, wqa, wqb, wqc, wqd, wqe, h]
theorem p_rMinus {a b f : FQ} {e : Int} (h : pf E0 191 [rfQ a, rfQ b] = some (.tu [rfQ f, .i .i64 e])) : pf E0 287 [rfQ a, rfQ b] = some (rfQ f) := by
 refine pf_run (xf := x_r10_Minus) rfl (by simp [x_r10_Minus]) ?_
 simp only [x_r10_Minus]
 simp (disch := omega) only [go_sem, seval, wqa, wqb, wqc, wqd, wqe, h]
theorem p_rTimes {a b f : FQ} {e : Int} (h : pf E0 192 [rfQ a, rfQ b] = some (.tu [rfQ f, .i .i64 e])) : pf E0 254 [rfQ a, rfQ b] = some (rfQ f) := by
 refine pf_run (xf := x_r10_Times) rfl (by simp [x_r10_Times]) ?_
 simp only [x_r10_Times]
 simp (disch := omega) only [go_sem, seval, wqa, wqb, wqc, wqd, wqe, h]
theorem p_rOver {a b f : FQ} {e : Int} (h : pf E0 193 [rfQ a, rfQ b] = some (.tu [rfQ f, .i .i64 e])) : pf E0 256 [rfQ a, rfQ b] = some (rfQ f) := by
 refine pf_run (xf := x_r10_Over) rfl (by simp [x_r10_Over]) ?_
 simp only [x_r10_Over]
 simp (disch := omega) only [go_sem, seval, wqa, wqb, wqc, wqd, wqe, h]
theorem p_rRatio {a b : Int} (ha : Fits64 a) (hb : Fits64 b) (h : b ≠ 0) : ∃ f : FQ, pf E0 274 [.i .i64 a, .i .i64 b] = some (rfQ f) ∧ f.is a b ∧ fsz 10 f := by
 obtain ⟨x, x1, x2, xi, xz, xo⟩ := wh_ex ha
 obtain ⟨y, y1, y2, yi, yz, yo⟩ := wh_ex hb
 obtain ⟨f, _, k2, fi, fz⟩ := div_ir x y (by omega) xz yz (by decide) xi yi
 have ov := p_rOver k2
 rw [Int.mul_one, Int.one_mul] at fi
 refine ⟨f, ?_, fi, fz⟩
 refine pf_run (xf := x_r10_Ratio) rfl (by simp [x_r10_Ratio]) ?_
 simp only [x_r10_Ratio]
 simp (disch := omega) only [go_sem, seval, wqa, wqb, wqc, wqd, wqe, xo, yo, ov]
theorem p_rFloor (s : FQ) (h : Fits64 (s.p.v / s.q.v)) : pf E0 288 [rfQ s] = some (.i .i64 (s.p.v / s.q.v)) := by
 have hq := s.q1
 have lp := wi_tlen s.p
 have lq := wi_tlen s.q
 have dv := p_rDiv (x := s.p.v) (y := s.q.v) (by omega) (by omega) (by omega)
 have h' := h
 unfold Fits64 at h'
 have sm := p_rSmall (z := s.p.v / s.q.v) (Nat.lt_of_le_of_lt (tlen_small (v := (s.p.v / s.q.v).natAbs) (n := 5) (by omega)) (by decide))
 have s1 : isSmall (s.p.v / s.q.v) = true := by unfold isSmall; exact decide_eq_true h
 have s2 : small (s.p.v / s.q.v) = s.p.v / s.q.v := by unfold small; rw [if_pos s1]
 rw [s1, s2] at sm
 have m0 := Int.emod_nonneg s.p.v (show s.q.v ≠ 0 by omega)
 have m1 := Int.emod_lt_of_pos s.p.v (show 0 < s.q.v by omega)
 have o0 := p_rOf 0 (by decide)
 have cm := p_rCompare (s.p.v % s.q.v) 0 (by
  have : tlen (s.p.v % s.q.v).natAbs ≤ tlen s.q.v.natAbs := tlen_mono (by omega)
  omega) (by rw [Int.natAbs_zero, tlen_zero]; decide)
 have g0 : (cmpI (s.p.v % s.q.v) 0 < 0) = False := by rw [cmpI_neg]; simp; omega
 clear h' m0 m1 h
 generalize s.p.v / s.q.v = k at *
 generalize s.p.v % s.q.v = r at *
 refine pf_run (xf := x_r10_Floor) rfl (by simp [x_r10_Floor]) ?_
 simp only [x_r10_Floor]
 simp (disch := omega) only [go_sem, seval, wqa, wqb, wqc, wqd, wqe, dv, sm]
 refine wk_calm rfl ?_
 simp (disch := omega) only [go_sem, seval, wqa, wqb, wqc, wqd, wqe, o0, cm, g0]
theorem cmpI_ge (a b : Int) : (0 ≤ cmpI a b) = (b ≤ a) := by
 unfold cmpI
 simp only [eq_iff_iff]
 split
 ·omega
 ·split <;> omega
theorem p_rLong (x : FQ) : pf E0 275 [rfQ x] = some (.b (decide (two 1024 ≤ (x.p.v.natAbs : Int) ∨ two 1024 ≤ x.q.v))) := by
 have lp := wi_tlen x.p
 have lq := wi_tlen x.q
 have lt := tlen_two 1024
 have pw : pf E0 128 [.i .i64 1024] = some (nP (two 1024)) := p_rPower 1024 (by decide)
 have o0 := p_rOf 0 (by decide)
 have c0 := p_rCompare x.p.v 0 (by omega) (by rw [Int.natAbs_zero, tlen_zero]; decide)
 have n0 := p_rNeg x.p.v (by omega)
 have c1 := p_rCompare (x.p.v.natAbs : Int) (two 1024) (by rw [Int.natAbs_natCast]; omega) (by rw [natAbs_two]; omega)
 have c2 := p_rCompare x.q.v (two 1024) (by omega) (by rw [natAbs_two]; omega)
 have g1 := cmpI_ge (x.p.v.natAbs : Int) (two 1024)
 have g2 := cmpI_ge x.q.v (two 1024)
 clear lt
 generalize two 1024 = t at *
 refine pf_run (xf := x_r10_Long) rfl (by simp [x_r10_Long]) ?_
 simp only [x_r10_Long]
 by_cases hn : x.p.v < 0
 ·have e : (x.p.v.natAbs : Int) = -x.p.v := by omega
  have t0 : (cmpI x.p.v 0 < 0) = True := by rw [cmpI_neg]; simp [hn]
  rw [e] at c1 g1 ⊢
  by_cases h1 : t ≤ -x.p.v
  ·have t1 : (t ≤ -x.p.v) = True := by simp [h1]
   simp (disch := omega) only [go_sem, seval, wqa, wqb, wqc, wqd, wqe]
   refine wk_calm rfl ?_
   simp (disch := omega) only [go_sem, seval, wqa, wqb, wqc, wqd, wqe, o0, c0, t0, n0, pw, c1, g1, t1, true_or]
  ·have t1 : (t ≤ -x.p.v) = False := by simp [h1]
   simp (disch := omega) only [go_sem, seval, wqa, wqb, wqc, wqd, wqe]
   refine wk_calm rfl ?_
   simp (disch := omega) only [go_sem, seval, wqa, wqb, wqc, wqd, wqe, o0, c0, t0, n0, pw, c1, g1, t1, c2, g2, false_or]
 ·have e : (x.p.v.natAbs : Int) = x.p.v := by omega
  have t0 : (cmpI x.p.v 0 < 0) = False := by rw [cmpI_neg]; simp [hn]
  rw [e] at c1 g1 ⊢
  by_cases h1 : t ≤ x.p.v
  ·have t1 : (t ≤ x.p.v) = True := by simp [h1]
   simp (disch := omega) only [go_sem, seval, wqa, wqb, wqc, wqd, wqe]
   refine wk_calm rfl ?_
   simp (disch := omega) only [go_sem, seval, wqa, wqb, wqc, wqd, wqe, o0, c0, t0, n0, pw, c1, g1, t1, true_or]
  ·have t1 : (t ≤ x.p.v) = False := by simp [h1]
   simp (disch := omega) only [go_sem, seval, wqa, wqb, wqc, wqd, wqe]
   refine wk_calm rfl ?_
   simp (disch := omega) only [go_sem, seval, wqa, wqb, wqc, wqd, wqe, o0, c0, t0, n0, pw, c1, g1, t1, c2, g2, false_or]
theorem p_rplace {k : Nat} (hk : k ≤ 500) {x : FQ} {n d : Int} (zx : fsz k x) (hd : 0 < d) (xi : x.is n d) {F S : Int} {N : Nat} (hF : -4194304 ≤ F ∧ F ≤ 4194304) (hS : 1 ≤ S ∧ S ≤ 65536) (hN : 2 ≤ N ∧ N ≤ 128) :
  (0 ≤ n - F * d ∧ n - F * d ≤ (N - 1) * (d * S) → ∃ r : FQ, r.is (n - F * d - min ((n - F * d) / (d * S)) (N - 2) * (d * S)) (d * S) ∧ fsz (k + 20) r ∧
   pf E0 276 [rfQ x, .i .i64 F, .i .i64 S, .i .i64 N] = some (.tu [.i .i64 (min ((n - F * d) / (d * S)) (N - 2)), rfQ r, .b true])) ∧
  (¬ (0 ≤ n - F * d ∧ n - F * d ≤ (N - 1) * (d * S)) → ∃ r : FQ, pf E0 276 [rfQ x, .i .i64 F, .i .i64 S, .i .i64 N] = some (.tu [.i .i64 0, rfQ r, .b false])) := by
 obtain ⟨wF, a1, a2, aI, az, aw⟩ := wh_ex (n := F) (by unfold Fits64; omega)
 obtain ⟨wS, b1, b2, bI, bz, bw⟩ := wh_ex (n := S) (by unfold Fits64; omega)
 obtain ⟨wN, c1, c2, cI, cz, cw⟩ := wh_ex (n := (N : Int) - 1) (by unfold Fits64; omega)
 obtain ⟨u, _, fu, ui, uz⟩ := sub_ir x wF zx az (by omega) xi aI
 have tu := p_rMinus fu
 obtain ⟨s, _, fs, si, sz⟩ := div_ir u wS (by omega) uz bz (by omega) ui bI
 have ts := p_rOver fs
 have e1 : (n * 1 - F * d) * 1 = n - F * d := by omega
 have e2 : d * 1 * S = d * S := by rw [Int.mul_one]
 rw [e1, e2] at si
 have hD : 0 < d * S := Int.mul_pos hd (by omega)
 have sg : pf E0 199 [rfQ s] = some (.i .i64 (cmpI s.p.v 0)) := p_rfSign s.p.v s.q.v
 rw [sign_is hD si] at sg
 have l1 := wi_tlen s.p
 have l2 := wi_tlen s.q
 have l3 := wi_tlen wN.p
 have l4 := wi_tlen wN.q
 have cm : pf E0 200 [rfQ s, rfQ wN] = some (.i .i64 (cmpF s wN)) := p_rfCompare s.p.v s.q.v wN.p.v wN.q.v (by omega) (by omega) (by omega) (by omega)
 rw [cmpF_is hD (by decide) si cI, Int.mul_one] at cm
 have fl := p_rFloor s
 rw [floor_is hD si] at fl
 generalize n - F * d = m at *
 generalize d * S = D at *
 constructor
 ·rintro ⟨h0, h1⟩
  have q0 := Int.ediv_nonneg h0 (show 0 ≤ D by omega)
  have q1 : m / D ≤ N - 1 := Int.ediv_le_of_le_mul hD h1
  have fl := fl (by unfold Fits64; omega)
  obtain ⟨i, hi⟩ : ∃ i : Int, i = min (m / D) ((N : Int) - 2) := ⟨_, rfl⟩
  obtain ⟨wi, d1, d2, dI, dz, dw⟩ := wh_ex (n := i) (by unfold Fits64; omega)
  obtain ⟨r, _, fr', ri, rz⟩ := sub_ir s wi sz dz (by omega) si dI
  have tr := p_rMinus fr'
  rw [Int.mul_one, Int.mul_one] at ri
  rw [← hi]
  refine ⟨r, ri, ⟨Nat.le_trans rz.1 (by omega), Nat.le_trans rz.2 (by omega)⟩, ?_⟩
  have t1 : (cmpI m 0 < 0) = False := by rw [cmpI_neg]; simp; omega
  have t2 : (cmpI m ((N - 1) * D) > 0) = False := by rw [cmpI_pos]; simp; omega
  have hmm : mmP false (.i .i64 (m / D)) [.i .i64 ((N : Int) - 2)] = some (.i .i64 i) := by
   simp only [mmP, if_true, Bool.false_eq_true, if_false]
   congr 2
   split <;> omega
  clear hi ri rz si ui uz
  generalize m / D = kk at *
  refine pf_run (xf := x_r10_place) rfl (by simp [x_r10_place]) ?_
  simp only [x_r10_place]
  simp (disch := omega) only [go_sem, seval, wqa, wqb, wqc, wqd, wqe]
  refine wk_calmX [4] rfl (by simp only [go_sem, seval]) ?_
  simp (disch := omega) only [go_sem, seval, wqa, wqb, wqc, wqd, wqe, aw, bw, tu, ts]
  refine wk_calmX [11] rfl (by simp only [go_sem, seval]) ?_
  simp (disch := omega) only [go_sem, seval, wqa, wqb, wqc, wqd, wqe, cw, sg, cm, fl, t1, t2, hmm]
  refine wk_calmX [11] rfl (by simp only [go_sem, seval]) ?_
  simp (disch := omega) only [go_sem, seval, wqa, wqb, wqc, wqd, wqe, dw, tr]
 ·intro hn
  refine ⟨s, ?_⟩
  refine pf_run (xf := x_r10_place) rfl (by simp [x_r10_place]) ?_
  simp only [x_r10_place]
  by_cases h0 : m < 0
  ·have t1 : (cmpI m 0 < 0) = True := by rw [cmpI_neg]; simp [h0]
   simp (disch := omega) only [go_sem, seval, wqa, wqb, wqc, wqd, wqe]
   refine wk_calmX [4] rfl (by simp only [go_sem, seval]) ?_
   simp (disch := omega) only [go_sem, seval, wqa, wqb, wqc, wqd, wqe, aw, bw, tu, ts]
   refine wk_calmX [11] rfl (by simp only [go_sem, seval]) ?_
   simp (disch := omega) only [go_sem, seval, wqa, wqb, wqc, wqd, wqe, sg, t1]
  ·have t1 : (cmpI m 0 < 0) = False := by rw [cmpI_neg]; simp [h0]
   have t2 : (cmpI m ((N - 1) * D) > 0) = True := by rw [cmpI_pos]; simp; omega
   simp (disch := omega) only [go_sem, seval, wqa, wqb, wqc, wqd, wqe]
   refine wk_calmX [4] rfl (by simp only [go_sem, seval]) ?_
   simp (disch := omega) only [go_sem, seval, wqa, wqb, wqc, wqd, wqe, aw, bw, tu, ts]
   refine wk_calmX [11] rfl (by simp only [go_sem, seval]) ?_
   simp (disch := omega) only [go_sem, seval, wqa, wqb, wqc, wqd, wqe, cw, sg, cm, t1, t2]
end Go.Eng
namespace Go.Eng
theorem p_rOn {k : Nat} (hk : k ≤ 500) {p q : FQ} (zp : fsz k p) (zq : fsz 40 q) {u D v E : Int} (hD : D ≠ 0) (hE : E ≠ 0) (pi : p.is u D) (qi : q.is v E) {f0 f1 f2 f3 : Int} (h0 : Fits64 f0) (h1 : Fits64 f1) (h2 : Fits64 f2) (h3 : Fits64 f3) :
  ∃ h : FQ, pf E0 277 [arr4 f0 f1 f2 f3, rfQ p, rfQ q] = some (rfQ h) ∧ h.is (bil f0 f1 f2 f3 u D v E) (D * E) := by
 obtain ⟨w0, a0, b0, i0, z0, g0⟩ := wh_ex h0
 obtain ⟨w1, a1, b1, i1, z1, g1⟩ := wh_ex h1
 obtain ⟨w2, a2, b2, i2, z2, g2⟩ := wh_ex h2
 obtain ⟨w3, a3, b3, i3, z3, g3⟩ := wh_ex h3
 obtain ⟨m1, _, c1, j1, y1⟩ := mul_ir w1 p z1 zp (by omega) i1 pi
 obtain ⟨s1, _, c2, j2, y2⟩ := add_ir w0 m1 z0 y1 (by omega) i0 j1
 obtain ⟨m2, _, c3, j3, y3⟩ := mul_ir w2 q z2 zq (by omega) i2 qi
 obtain ⟨s2, _, c4, j4, y4⟩ := add_ir s1 m2 y2 y3 (by omega) j2 j3
 obtain ⟨pq, _, c5, j5, y5⟩ := mul_ir p q zp zq (by omega) pi qi
 obtain ⟨m3, _, c6, j6, y6⟩ := mul_ir w3 pq z3 y5 (by omega) i3 j5
 obtain ⟨h, _, c7, j7, y7⟩ := add_ir s2 m3 y4 y6 (by omega) j4 j6
 have c1 := p_rTimes c1
 have c2 := p_rPlus c2
 have c3 := p_rTimes c3
 have c4 := p_rPlus c4
 have c5 := p_rTimes c5
 have c6 := p_rTimes c6
 have c7 := p_rPlus c7
 refine ⟨h, ?_, ?_⟩
 ·clear j1 j2 j3 j4 j5 j6 j7 y1 y2 y3 y4 y5 y6 y7
  refine pf_run (xf := x_r10_On) rfl (by simp [x_r10_On]) ?_
  simp only [x_r10_On]
  simp (disch := omega) only [go_sem, seval, wqa, wqb, wqc, wqd, wqe]
  refine wk_calmR [11, 4] rfl ?_ ?_
  ·simp (disch := omega) only [go_sem, seval, wqa, wqb, wqc, wqd, wqe, g0, g1, c1, c2]
   exact ⟨_, rfl, rfl⟩
  simp (disch := omega) only [go_sem, seval, wqa, wqb, wqc, wqd, wqe, g0, g1, c1, c2]
  refine wk_calmR [7, 18, 5] rfl ?_ ?_
  ·simp (disch := omega) only [go_sem, seval, wqa, wqb, wqc, wqd, wqe, g2, c3, c4]
   exact ⟨_, rfl, rfl⟩
  simp (disch := omega) only [go_sem, seval, wqa, wqb, wqc, wqd, wqe, g2, c3, c4]
  refine wk_calmR [7, 25, 4, 5] rfl ?_ ?_
  ·simp (disch := omega) only [go_sem, seval, wqa, wqb, wqc, wqd, wqe, g3, c5, c6, c7]
   exact ⟨_, rfl, rfl⟩
  simp (disch := omega) only [go_sem, seval, wqa, wqb, wqc, wqd, wqe, g3, c5, c6, c7]
 ·refine is_conv ?_ j7 ?_
  ·exact Int.mul_ne_zero (Int.mul_ne_zero (Int.mul_ne_zero (by decide) (Int.mul_ne_zero (by decide) hD)) (Int.mul_ne_zero (by decide) hE)) (Int.mul_ne_zero (by decide) (Int.mul_ne_zero hD hE))
  ·unfold bil; grind
theorem p_rValid0 {X Y S : Int} {C R : Nat} {hs : List Int} (t : TerOk X Y S C R hs) : pf E0 242 [terP X Y S C R hs] = some (.i .i64 0) := by
 have h1 := t.c
 have h2 := t.r
 have h3 := t.s
 have h4 := t.x
 have h5 := t.y
 have h6 := t.len
 have m1 : 0 ≤ ((C : Int) - 1) * S := Int.mul_nonneg (by omega) (by omega)
 have m2 : 0 ≤ ((R : Int) - 1) * S := Int.mul_nonneg (by omega) (by omega)
 have := p_rValidG (X := X) (Y := Y) (S := S) (C := C) (R := R) (hs := hs) (by unfold Fits64; omega) (by unfold Fits64; omega) (by unfold Fits64; omega) (by unfold Fits64; omega) (by unfold Fits64; omega) t.ints
 rw [valid0 ⟨by omega, by omega, by omega, by omega, by omega, by omega, by rw [h6]; push_cast; rfl⟩ ⟨by omega, by omega, h4.2, h5.2⟩ t.h] at this
 exact this
theorem p_rHeight {k : Nat} (hk : k ≤ 500) {X Y S : Int} {C R : Nat} {hs : List Int} (t : TerOk X Y S C R hs) {x y : FQ} (lx : pf E0 275 [rfQ x] = some (.b false)) (ly : pf E0 275 [rfQ y] = some (.b false)) {i j : Nat} (hi : i + 1 < C) (hj : j + 1 < R) {p q : FQ} (zp : fsz k p) (zq : fsz 40 q) {u D v E : Int} (hD : D ≠ 0) (hE : E ≠ 0) (pi : p.is u D) (qi : q.is v E)
  (fp : pf E0 276 [rfQ x, .i .i64 X, .i .i64 S, .i .i64 C] = some (.tu [.i .i64 i, rfQ p, .b true])) (fq : pf E0 276 [rfQ y, .i .i64 Y, .i .i64 S, .i .i64 R] = some (.tu [.i .i64 j, rfQ q, .b true])) :
  ∃ h : FQ, pf E0 253 [terP X Y S C R hs, rfQ x, rfQ y] = some (.tu [rfQ h, .i .i64 i, .i .i64 j, .i .i64 0]) ∧ h.is (bilV hs C i j u D v E) (D * E) := by
 have b := hAt_all t
 have b1 := b ((j : Int) * C + i)
 have b2 := b ((j : Int) * C + i + 1)
 have b3 := b (((j : Int) + 1) * C + i)
 have b4 := b (((j : Int) + 1) * C + i + 1)
 obtain ⟨h, ho, hi'⟩ := p_rOn hk zp zq hD hE pi qi (f0 := f0V hs C i j) (f1 := f1V hs C i j) (f2 := f2V hs C i j) (f3 := f3V hs C i j)
  (by unfold Fits64 f0V; omega) (by unfold Fits64 f1V; omega) (by unfold Fits64 f2V; omega) (by unfold Fits64 f3V; omega)
 have tf := p_rForm t hi hj
 have tf : pf E0 4 [terP X Y S C R hs, .i .i64 i, .i .i64 j] = some (arr4 (f0V hs C i j) (f1V hs C i j) (f2V hs C i j) (f3V hs C i j)) := tf
 obtain ⟨z, z1, z2, zi, zz, zo⟩ := wh_ex (n := 0) (by decide)
 have rv := p_rValid0 t
 refine ⟨h, ?_, hi'⟩
 clear hi'
 generalize f0V hs C i j = f0 at *
 generalize f1V hs C i j = f1 at *
 generalize f2V hs C i j = f2 at *
 generalize f3V hs C i j = f3 at *
 refine pf_run (xf := x_r10_Height) rfl (by simp [x_r10_Height]) ?_
 simp only [x_r10_Height]
 simp (disch := omega) only [go_sem, seval, wqa, wqb, wqc, wqd, wqe, zo, rv, lx, ly, fp, fq]
 refine wk_calmX [13, 16] rfl (by simp only [go_sem, seval]) ?_
 simp (disch := omega) only [go_sem, seval, wqa, wqb, wqc, wqd, wqe, tf, ho]
theorem p_rHeightO {X Y S : Int} {C R : Nat} {hs : List Int} (t : TerOk X Y S C R hs) {x y : FQ} (lx : pf E0 275 [rfQ x] = some (.b false)) (ly : pf E0 275 [rfQ y] = some (.b false)) {i j : Int} {p q : FQ} {b c : Bool} (hb : b = false ∨ c = false)
  (fp : pf E0 276 [rfQ x, .i .i64 X, .i .i64 S, .i .i64 C] = some (.tu [.i .i64 i, rfQ p, .b b])) (fq : pf E0 276 [rfQ y, .i .i64 Y, .i .i64 S, .i .i64 R] = some (.tu [.i .i64 j, rfQ q, .b c])) :
  pf E0 253 [terP X Y S C R hs, rfQ x, rfQ y] = some (.tu [rfQ fq0, .i .i64 0, .i .i64 0, .i .i64 15]) := by
 have zo : pf E0 185 [.i .i64 0] = some (rfQ fq0) := by
  rw [← rfQ0]; exact p_rfOf (by decide)
 have rv := p_rValid0 t
 refine pf_run (xf := x_r10_Height) rfl (by simp [x_r10_Height]) ?_
 simp only [x_r10_Height]
 cases b
 ·simp (disch := omega) only [go_sem, seval, wqa, wqb, wqc, wqd, wqe, zo, rv, lx, ly, fp, fq]
 ·obtain rfl : c = false := by simpa using hb
  simp (disch := omega) only [go_sem, seval, wqa, wqb, wqc, wqd, wqe, zo, rv, lx, ly, fp, fq]
theorem p_rHeightL {X Y S : Int} {C R : Nat} {hs : List Int} (t : TerOk X Y S C R hs) {x y : FQ} (lx : pf E0 275 [rfQ x] = some (.b true)) :
  pf E0 253 [terP X Y S C R hs, rfQ x, rfQ y] = some (.tu [rfQ fq0, .i .i64 0, .i .i64 0, .i .i64 4]) := by
 have zo : pf E0 185 [.i .i64 0] = some (rfQ fq0) := by
  rw [← rfQ0]; exact p_rfOf (by decide)
 have rv := p_rValid0 t
 refine pf_run (xf := x_r10_Height) rfl (by simp [x_r10_Height]) ?_
 simp only [x_r10_Height]
 simp (disch := omega) only [go_sem, seval, wqa, wqb, wqc, wqd, wqe, zo, rv, lx]
end Go.Eng
namespace Go.Eng
theorem p_own (x : FQ) : pf E0 252 [rfQ x] = some (fqP x) := by
 have lp := wi_tlen x.p
 have lq := wi_tlen x.q
 have tx : pf E0 196 [rfQ x] = some (.s (ftx x.p.v x.q.v)) := p_rfText x.p.v x.q.v (by omega) (by omega)
 have hl := ftx_len x
 have ps := parse_own x (by omega)
 refine pf_run (xf := x_l10_own) rfl (by simp [x_l10_own]) ?_
 simp only [x_l10_own]
 simp (disch := omega) only [go_sem, seval, wqa, wqb, wqc, wqd, wqe, tx, ps]
theorem two_big {K : Nat} (h : 63 ≤ K) : 4611686018427387904 < two K := by
 have : 2 ^ 63 ≤ 2 ^ K := Nat.pow_le_pow_right (by decide) h
 unfold two; omega
theorem long_few {x : FQ} (h : few x) : pf E0 275 [rfQ x] = some (.b false) := by
 rw [p_rLong]
 have h1 := two_big (K := 1024) (by decide)
 have h2 := h.1
 have h3 := h.2
 generalize two 1024 = t at *
 have hq := x.q1
 have e : (t ≤ (x.p.v.natAbs : Int) ∨ t ≤ x.q.v) = False := eq_false (by omega)
 simp only [e, decide_false]
def cdd (k : Nat) : Int := if k = 0 then 1 else if k = 1 then 2 else if k = 2 then 3 else if k = 3 then 4 else if k = 4 then 7 else 64
theorem cdd_b (k : Nat) : 1 ≤ cdd k ∧ cdd k ≤ 64 := by unfold cdd; repeat' split <;> omega
theorem cdd_rd (j : Nat) (h : j < 6) : [PV.i .i64 1, .i .i64 2, .i .i64 3, .i .i64 4, .i .i64 7, .i .i64 64][j]? = some (.i .i64 (cdd j)) := by
 obtain rfl | rfl | rfl | rfl | rfl | rfl : j = 0 ∨ j = 1 ∨ j = 2 ∨ j = 3 ∨ j = 4 ∨ j = 5 := by omega
 all_goals rfl
theorem p_Coord {F S n : Int} {N : Nat} (hF : -30 ≤ F ∧ F ≤ 29) (hS : 1 ≤ S ∧ S ≤ 20) (hN : 2 ≤ N ∧ N ≤ 6) (hn : Fits64 n) :
  ∃ x : FQ, few x ∧ fsz 20 x ∧ pf E0 251 [.i .i64 F, .i .i64 S, .i .i64 N, .i .i64 n] = some (rfQ x) := by
 obtain ⟨wF, _, _, fi, fz, fo⟩ := wh_ex (n := F) (by unfold Fits64; omega)
 have ra := p_Around (m := 100000) hn (by decide) (by decide)
 have k0 := aro_nonneg n (m := 100000) (by decide)
 have k1 := aro_lt n (m := 100000) (by decide)
 obtain ⟨k, hk⟩ : ∃ k : Nat, aro n 100000 = (k : Int) := ⟨(aro n 100000).toNat, by omega⟩
 rw [hk] at ra k1
 have key : ∀ m d : Int, -1 ≤ m → m ≤ 100000 → 1 ≤ d → d ≤ 64 → ∃ q x : FQ, pf E0 274 [.i .i64 m, .i .i64 d] = some (rfQ q) ∧ pf E0 255 [rfQ wF, rfQ q] = some (rfQ x) ∧ few x ∧ fsz 20 x := fun m d h1 h2 h3 h4 => by
  obtain ⟨q, q1, q2, q3⟩ := p_rRatio (a := m) (b := d) (by unfold Fits64; omega) (by unfold Fits64; omega) (by omega)
  obtain ⟨x, _, x2, x3, x4⟩ := add_ir wF q fz q3 (by decide) fi q2
  rw [Int.mul_one, Int.one_mul] at x3
  obtain ⟨l1, l2⟩ := is_le (by omega) x3
  have b1 : -30 * d ≤ F * d := Int.mul_le_mul_of_nonneg_right hF.1 (by omega)
  have b2 : F * d ≤ 29 * d := Int.mul_le_mul_of_nonneg_right hF.2 (by omega)
  exact ⟨q, x, q1, p_rPlus x2, ⟨by omega, by omega⟩, fsz_mono x4 (by decide)⟩
 obtain ⟨T, hT⟩ : ∃ T : Nat, S = (T : Int) := ⟨S.toNat, by omega⟩
 subst hT
 have hj : k % 6 < 6 := Nat.mod_lt _ (by decide)
 have hd := cdd_b (k % 6)
 obtain ⟨d, hD⟩ : ∃ d : Nat, cdd (k % 6) = (d : Int) := ⟨(cdd (k % 6)).toNat, by omega⟩
 rw [hD] at hd
 have rd := cdd_rd (k % 6) hj
 rw [hD] at rd
 have s1 : (T : Int) * ((N : Int) - 1) = ((T * (N - 1) : Nat) : Int) := by
  rw [Int.natCast_mul, Int.natCast_sub (by omega)]; rfl
 have b1 : T * (N - 1) ≤ 20 * 5 := Nat.mul_le_mul (by omega) (by omega)
 have s2 : ((T * (N - 1) : Nat) : Int) * (d : Int) = ((T * (N - 1) * d : Nat) : Int) := by push_cast; rfl
 have b2 : T * (N - 1) * d ≤ 100 * 64 := Nat.mul_le_mul (by omega) (by omega)
 generalize hsp : T * (N - 1) * d = sp at *
 generalize T * (N - 1) = u at *
 have s3 : (sp : Int) + 1 = ((sp + 1 : Nat) : Int) := by omega
 have q6 : (k : Int).tdiv 6 = ((k / 6 : Nat) : Int) := nat_tdiv _ 6
 have q30 : (k : Int).tdiv 30 = ((k / 30 : Nat) : Int) := nat_tdiv _ 30
 have r6 : (k : Int).tmod 6 = ((k % 6 : Nat) : Int) := nat_tmod _ 6
 have r97 : (k : Int).tmod 97 = ((k % 97 : Nat) : Int) := nat_tmod _ 97
 have r5 : ((k / 6 : Nat) : Int).tmod 5 = ((k / 6 % 5 : Nat) : Int) := nat_tmod _ 5
 have rs : ((k / 6 : Nat) : Int).tmod ((sp + 1 : Nat) : Int) = ((k / 6 % (sp + 1) : Nat) : Int) := nat_tmod _ _
 have rN : ((k / 30 : Nat) : Int).tmod (N : Int) = ((k / 30 % N : Nat) : Int) := nat_tmod _ _
 have lN : k / 30 % N < N := Nat.mod_lt _ (by omega)
 have ls : k / 6 % (sp + 1) < sp + 1 := Nat.mod_lt _ (by omega)
 have a1 : ((k / 30 % N : Nat) : Int) * (T : Int) = ((k / 30 % N * T : Nat) : Int) := by push_cast; rfl
 have c1 : k / 30 % N * T ≤ 6 * 20 := Nat.mul_le_mul (by omega) (by omega)
 generalize k / 30 % N * T = v at *
 have a2 : (v : Int) * (d : Int) = ((v * d : Nat) : Int) := by push_cast; rfl
 have c2 : v * d ≤ 120 * 64 := Nat.mul_le_mul (by omega) (by omega)
 generalize v * d = w at *
 have nN : ((N : Int) = 0) = False := eq_false (by omega)
 have ns : (((sp + 1 : Nat) : Int) = 0) = False := eq_false (by omega)
 have b6 : k / 6 ≤ 100000 := by omega
 have b30 : k / 30 ≤ 100000 := by omega
 generalize k / 6 % (sp + 1) = m0 at *
 generalize k / 30 % N = v0 at *
 generalize k / 30 = k30 at *
 generalize k / 6 % 5 = k5 at *
 generalize k / 6 = k6 at *
 generalize k % 6 = j at *
 generalize k % 97 = k97 at *
 clear hsp hD
 rcases fst1 ((k5 : Int) = 0) with t1 | t1 <;> rcases fst1 ((k97 : Int) = 5) with t2 | t2 <;> rcases fst1 ((k97 : Int) = 6) with t3 | t3
 ·obtain ⟨q, x, kq, kx, fx, zx⟩ := key (-1) d (by omega) (by omega) (by omega) (by omega)
  refine ⟨x, fx, zx, ?_⟩
  refine pf_run (xf := x_r10_Coord) rfl (by simp [x_r10_Coord]) ?_
  simp only [x_r10_Coord]
  simp (disch := omega) only [go_sem, seval, wqa, wqb, wqc, wqd, wqe, ra, r6, rd, hj, s1, s2, s3, q6, q30, r97, r5, rs, rN, a1, a2, nN, ns, t1, t2, t3, fo, kq, kx, fill_C, fillC_def]
 ·obtain ⟨q, x, kq, kx, fx, zx⟩ := key ((sp + 1 : Nat) : Int) d (by omega) (by omega) (by omega) (by omega)
  refine ⟨x, fx, zx, ?_⟩
  refine pf_run (xf := x_r10_Coord) rfl (by simp [x_r10_Coord]) ?_
  simp only [x_r10_Coord]
  simp (disch := omega) only [go_sem, seval, wqa, wqb, wqc, wqd, wqe, ra, r6, rd, hj, s1, s2, s3, q6, q30, r97, r5, rs, rN, a1, a2, nN, ns, t1, t2, t3, fo, kq, kx, fill_C, fillC_def]
 ·obtain ⟨q, x, kq, kx, fx, zx⟩ := key (-1) d (by omega) (by omega) (by omega) (by omega)
  refine ⟨x, fx, zx, ?_⟩
  refine pf_run (xf := x_r10_Coord) rfl (by simp [x_r10_Coord]) ?_
  simp only [x_r10_Coord]
  simp (disch := omega) only [go_sem, seval, wqa, wqb, wqc, wqd, wqe, ra, r6, rd, hj, s1, s2, s3, q6, q30, r97, r5, rs, rN, a1, a2, nN, ns, t1, t2, t3, fo, kq, kx, fill_C, fillC_def]
 ·obtain ⟨q, x, kq, kx, fx, zx⟩ := key (w : Int) d (by omega) (by omega) (by omega) (by omega)
  refine ⟨x, fx, zx, ?_⟩
  refine pf_run (xf := x_r10_Coord) rfl (by simp [x_r10_Coord]) ?_
  simp only [x_r10_Coord]
  simp (disch := omega) only [go_sem, seval, wqa, wqb, wqc, wqd, wqe, ra, r6, rd, hj, s1, s2, s3, q6, q30, r97, r5, rs, rN, a1, a2, nN, ns, t1, t2, t3, fo, kq, kx, fill_C, fillC_def]
 ·obtain ⟨q, x, kq, kx, fx, zx⟩ := key (-1) d (by omega) (by omega) (by omega) (by omega)
  refine ⟨x, fx, zx, ?_⟩
  refine pf_run (xf := x_r10_Coord) rfl (by simp [x_r10_Coord]) ?_
  simp only [x_r10_Coord]
  simp (disch := omega) only [go_sem, seval, wqa, wqb, wqc, wqd, wqe, ra, r6, rd, hj, s1, s2, s3, q6, q30, r97, r5, rs, rN, a1, a2, nN, ns, t1, t2, t3, fo, kq, kx, fill_C, fillC_def]
 ·obtain ⟨q, x, kq, kx, fx, zx⟩ := key ((sp + 1 : Nat) : Int) d (by omega) (by omega) (by omega) (by omega)
  refine ⟨x, fx, zx, ?_⟩
  refine pf_run (xf := x_r10_Coord) rfl (by simp [x_r10_Coord]) ?_
  simp only [x_r10_Coord]
  simp (disch := omega) only [go_sem, seval, wqa, wqb, wqc, wqd, wqe, ra, r6, rd, hj, s1, s2, s3, q6, q30, r97, r5, rs, rN, a1, a2, nN, ns, t1, t2, t3, fo, kq, kx, fill_C, fillC_def]
 ·obtain ⟨q, x, kq, kx, fx, zx⟩ := key (-1) d (by omega) (by omega) (by omega) (by omega)
  refine ⟨x, fx, zx, ?_⟩
  refine pf_run (xf := x_r10_Coord) rfl (by simp [x_r10_Coord]) ?_
  simp only [x_r10_Coord]
  simp (disch := omega) only [go_sem, seval, wqa, wqb, wqc, wqd, wqe, ra, r6, rd, hj, s1, s2, s3, q6, q30, r97, r5, rs, rN, a1, a2, nN, ns, t1, t2, t3, fo, kq, kx, fill_C, fillC_def]
 ·obtain ⟨q, x, kq, kx, fx, zx⟩ := key (m0 : Int) d (by omega) (by omega) (by omega) (by omega)
  refine ⟨x, fx, zx, ?_⟩
  refine pf_run (xf := x_r10_Coord) rfl (by simp [x_r10_Coord]) ?_
  simp only [x_r10_Coord]
  simp (disch := omega) only [go_sem, seval, wqa, wqb, wqc, wqd, wqe, ra, r6, rd, hj, s1, s2, s3, q6, q30, r97, r5, rs, rN, a1, a2, nN, ns, t1, t2, t3, fo, kq, kx, fill_C, fillC_def]
end Go.Eng
namespace Go.Eng
theorem nbits_pow {k m : Nat} (h : 2 ^ m ≤ k) : nbits k = nbits (k / 2 ^ m) + m := by
 induction m with
 | zero => simp
 | succ m ih =>
  have h1 : 2 ^ m ≤ k := Nat.le_trans (Nat.pow_le_pow_right (by decide) (Nat.le_succ m)) h
  have h2 : k / 2 ^ m ≠ 0 := by
   have := Nat.div_pos h1 (Nat.pow_pos (by decide))
   omega
  have e : k / 2 ^ m / 2 = k / 2 ^ (m + 1) := by rw [Nat.div_div_eq_div_mul, ← Nat.pow_succ]
  have h3 := nbits_half h2
  rw [e] at h3
  have h4 := ih h1
  omega
theorem nbits_one : nbits 1 = 1 := by unfold nbits; rw [if_neg (by decide)]; rfl
def pw (i : Nat) : Nat := 2 ^ (2 ^ i)
theorem pw_pos (i : Nat) : 0 < pw i := Nat.pow_pos (by decide)
theorem pw_two (i : Nat) : 2 ≤ pw i := by
 unfold pw
 have : 2 ^ 1 ≤ 2 ^ (2 ^ i) := Nat.pow_le_pow_right (by decide) (Nat.one_le_two_pow)
 omega
theorem pw_succ (i : Nat) : pw (i + 1) = pw i * pw i := by
 unfold pw
 rw [← Nat.pow_add, Nat.pow_succ]
 congr 1
 omega
theorem pw_zero : pw 0 = 2 := rfl
theorem nbits_step {x i : Nat} (h : pw i ≤ x) : nbits x = nbits (x / pw i) + 2 ^ i := nbits_pow h
theorem pw_div {x i : Nat} (h : x < pw (i + 1)) : x / pw i < pw i := by
 rw [pw_succ] at h
 exact Nat.div_lt_of_lt_mul h
theorem pw_div0 {x i : Nat} (h : pw i ≤ x) : 1 ≤ x / pw i := Nat.div_pos h (pw_pos i)
end Go.Eng
namespace Go.Eng
theorem pw_lt (i : Nat) : pw i < pw (i + 1) := by
 rw [pw_succ]
 have := pw_two i
 have h2 : pw i * 2 ≤ pw i * pw i := Nat.mul_le_mul_left _ this
 omega
theorem inR_pw {i : Nat} (h : inR (pw i)) : i < 14 := by
 rcases Nat.lt_or_ge i 14 with q | q
 ·exact q
 ·exfalso
  obtain ⟨K, hK⟩ : ∃ K, K = 16384 := ⟨_, rfl⟩
  obtain ⟨a, ha⟩ : ∃ a, a = 14 := ⟨_, rfl⟩
  rw [← ha] at q
  have h1 : 2 ^ a ≤ 2 ^ i := Nat.pow_le_pow_right (by decide) q
  have h2 : 2 ^ (2 ^ a) ≤ pw i := Nat.pow_le_pow_right (by decide) h1
  have e : 2 ^ a = K := by rw [hK, ha]
  rw [e] at h2
  unfold inR at h
  rw [← hK] at h
  omega
theorem inR_le {a b : Nat} (h : a ≤ b) (hb : inR b) : inR a := Nat.lt_of_le_of_lt h hb
noncomputable def pwI (i : Nat) : WI := clip ((pw i : Nat) : Int)
theorem pwI_v {i : Nat} (h : inR (pw i)) : (pwI i).v = ((pw i : Nat) : Int) := (inR_c (z := ((pw i : Nat) : Int)) (by rw [Int.natAbs_natCast]; exact h)).1
noncomputable def pwL : Nat → List PV
 | 0 => []
 | j + 1 => pwL j ++ [.b (decide ((pwI j).v < 0)), D (pwI j).v.natAbs]
theorem pwL_len : ∀ j, (pwL j).length = 2 * j
 | 0 => rfl
 | j + 1 => by rw [pwL, List.length_append, pwL_len j]; simp; omega
theorem pwL_at : ∀ {j i : Nat}, i < j → ((pwL j).drop (i * 2)).take 2 = [.b (decide ((pwI i).v < 0)), D (pwI i).v.natAbs]
 | 0, i, h => by omega
 | j + 1, i, h => by
  have hl := pwL_len j
  rw [pwL]
  by_cases hi : i < j
  ·rw [List.drop_append_of_le_length (by omega), List.take_append_of_le_length (by simp; omega)]
   exact pwL_at hi
  ·obtain rfl : i = j := by omega
   rw [List.drop_left' (show (pwL i).length = i * 2 by omega)]; rfl
theorem ap2_P (P : PM) (L : List PV) (w1 w2 : PV) (r1 r2 : Option PB) {j : Nat} (hl : L.length = 2 * j) (hj : j ≤ 100) (h0 : 0 < j) : appP (P ++ [some ⟨L, true, 0⟩, r1, r2, some ⟨[w1, w2], true, 0⟩]) 2 32 (.sl P.length 0 j j 2) (.sl (P.length + 3) 0 1 1 2) =
  some (.sl (P.length + 4) 0 (j + 1) (j + 1) 2, P ++ [none, r1, r2, some ⟨[w1, w2], true, 0⟩, some ⟨L ++ [w1, w2], true, 0⟩]) := by
 have es : srcP (P ++ [some (⟨L, true, 0⟩ : PB), r1, r2, some (⟨[w1, w2], true, 0⟩ : PB)]) 2 (.sl (P.length + 3) 0 1 1 2) = some (1, [w1, w2]) := by
  simp only [srcP, PM.rd, mG]
  rfl
 have e2 : PM.blk (P ++ [some (⟨L, true, 0⟩ : PB), r1, r2, some (⟨[w1, w2], true, 0⟩ : PB)]) P.length = some (⟨L, true, 0⟩ : PB) := by rw [mG0]; rfl
 unfold appP
 rw [es]
 simp only [e2]
 rw [if_neg (by simp), if_neg (by decide), if_pos ⟨trivial, by rw [hl]; omega, by omega⟩, sG0]
 simp only [List.drop_zero, List.set_cons_zero, List.append_assoc, List.cons_append, List.nil_append, List.length_append, List.length_cons, List.length_nil]
 rw [List.take_of_length_le (by omega)]
theorem shl_one {i : Nat} (h : i < 14) : binP .shl (.i .i64 1) (.i .i64 (i : Int)) = some (.i .i64 ((2 ^ i : Nat) : Int)) := by
 have h1 : 2 ^ i ≤ 2 ^ 13 := Nat.pow_le_pow_right (by decide) (by omega)
 rw [bin_shl _ _ _ _ (by omega), Int.toNat_natCast, show min i (IntKind.bits .i64) = i by simp only [IntKind.bits]; omega, Int.one_mul]
 have e : (2 : Int) ^ i = ((2 ^ i : Nat) : Int) := by simp
 rw [e]
 generalize 2 ^ i = t at *
 rw [wqa (by omega) (by omega)]
set_option maxHeartbeats 2000000 in
theorem dig_l3 {F : PFin} {ks : List KI} {K J : Nat} {x0 : WI} (hR : inR K) (hx0 : x0.v = (K : Int)) (hK : 1 ≤ K) (hlt : K < pw J) (hJ : J = 0 ∨ pw (J - 1) ≤ K) {G R : PM} {fr : PFr} {v : Nat}
  (f1 : fr 1 = .p 0 0) (f3 : fr 3 = (PV.i .i64 ((0 : Nat) : Int))) (f6 : fr 6 = if J = 0 then .nl else .sl (G.length + 1) 0 J J 2) (f10 : fr 10 = .i .i64 ((J : Int) - 1))
  (cont : ∀ fr' v' (y : WI), y.v = 1 → fr' 1 = .p 0 0 → fr' 3 = .i .i64 ((nbits K : Int) - 1) → UK E0 F (.exit 4) ks fr' (some ⟨[.b (decide (y.v < 0)), D y.v.natAbs], true, v'⟩ :: (G ++ (some ⟨pwL J, true, 0⟩ :: R)))) :
  WK E0 F (.loop x_poly_digits_l3) ks fr (some ⟨[.b (decide (x0.v < 0)), D x0.v.natAbs], true, v⟩ :: (G ++ (some ⟨pwL J, true, 0⟩ :: R))) := by
 have hnb : nbits K ≤ 16384 := by
  obtain ⟨q, hq⟩ : ∃ q, q = 16384 := ⟨_, rfl⟩
  unfold inR at hR
  rw [← hq] at hR ⊢
  exact nbits_le hR
 have hJ14 : ∀ i, i < J → i < 14 ∧ inR (pw i) := fun i hi => by
  have hm : ∀ d, pw i ≤ pw (i + d) := fun d => by
   induction d with
   | zero => exact Nat.le_refl _
   | succ d ih => exact Nat.le_trans ih (Nat.le_of_lt (pw_lt _))
  have h1 := hm (J - 1 - i)
  rw [show i + (J - 1 - i) = J - 1 by omega] at h1
  have h2 : inR (pw i) := inR_le (by omega) hR
  exact ⟨inR_pw h2, h2⟩
 refine wk_ind x_poly_digits_l3.eq_1 (fun (i : Nat) fr M => i ≤ J ∧ ∃ (y : WI) (Y n v : Nat), y.v = (Y : Int) ∧ 1 ≤ Y ∧ Y < pw i ∧ nbits K = nbits Y + n ∧ fr 1 = .p 0 0 ∧ fr 3 = (PV.i .i64 ((n : Nat) : Int)) ∧ fr 6 = (if J = 0 then .nl else .sl (G.length + 1) 0 J J 2) ∧ fr 10 = .i .i64 ((i : Int) - 1) ∧
  M = some ⟨[.b (decide (y.v < 0)), D y.v.natAbs], true, v⟩ :: (G ++ (some ⟨pwL J, true, 0⟩ :: R))) (fun i => i) ?_ J ⟨Nat.le_refl _, x0, K, 0, v, hx0, hK, hlt, rfl, f1, f3, f6, f10, rfl⟩
 rintro i fr M ⟨hi, y, Y, n, v, hy, hY, hYi, hn, f1, f3, f6, f10, rfl⟩ ih
 cases i with
 | zero =>
  have hY1 : Y = 1 := by rw [pw_zero] at hYi; omega
  subst hY1
  have f3' : fr 3 = .i .i64 ((nbits K : Int) - 1) := by
   rw [f3, hn, nbits_one]; congr 1; omega
  have q0 : ((((0 : Nat) : Int) - 1) ≥ 0) = False := eq_false (by omega)
  simp (disch := omega) only [go_sem, seval, wqa, wqb, wqc, wqd, wqe, f10, q0]
  exact cont _ v y hy (by simp only [go_sem, seval, f1]) (by simp only [go_sem, seval, f3'])
 | succ i =>
  obtain ⟨i14, iR⟩ := hJ14 i (by omega)
  have hJ0 : J ≠ 0 := by omega
  rw [if_neg hJ0] at f6
  have f6' := f6
  have f10 : fr 10 = (PV.i .i64 ((i : Nat) : Int)) := by rw [f10]; congr 1; omega
  have q0 : ((i : Int) ≥ 0) = True := eq_true (by omega)
  have pv := pwI_v iR
  have cm := p_Compare y (pwI i)
  rw [hy, pv] at cm
  have at_ := pwL_at (j := J) (i := i) (by omega)
  have hl := pwL_len J
  have hiJ : (i < J) = True := eq_true (by omega)
  have h2i : (i * 2 + 2 ≤ 2 * J) = True := eq_true (by omega)
  by_cases hc : pw i ≤ Y
  ·have c0 : (cmpI ((Y : Nat) : Int) ((pw i : Nat) : Int) ≥ 0) = True := eq_true (by rw [ge_iff_le, cmpI_ge]; omega)
   simp (disch := omega) only [go_sem, seval, wqa, wqb, wqc, wqd, wqe, f1, f3, f6, f10, q0, cm, c0, hiJ, h2i, hl, at_, mG, mG0, sG, sG0, lG, List.append_assoc, List.cons_append, List.nil_append]
   have dv := p_Div y (pwI i) (by rw [pv]; have := pw_pos i; omega)
   have dvv : (y.div (pwI i) (by rw [pv]; have := pw_pos i; omega)).v = ((Y / pw i : Nat) : Int) := by
    show y.v / (pwI i).v = _
    rw [hy, pv]; rfl
   generalize y.div (pwI i) (by rw [pv]; have := pw_pos i; omega) = y2 at *
   generalize y.mod (pwI i) (by rw [pv]; have := pw_pos i; omega) = y3 at *
   have sh := shl_one i14
   have st := nbits_step hc
   have p14 : 2 ^ i ≤ 2 ^ 14 := Nat.pow_le_pow_right (by decide) (by omega)
   have g1 := pw_div hYi
   have g0 := pw_div0 hc
   have hs : (n : Int) + ((2 ^ i : Nat) : Int) = ((n + 2 ^ i : Nat) : Int) := by push_cast; rfl
   generalize 2 ^ i = t at *
   simp (disch := omega) only [go_sem, seval, wqa, wqb, wqc, wqd, wqe, f1, f3, f6, f10, q0, cm, c0, hiJ, h2i, hl, at_, dv, sh, hs, mG, mG0, sG, sG0, lG, List.append_assoc, List.cons_append, List.nil_append]
   exact ih i _ _ (by omega) ⟨by omega, y2, Y / pw i, n + t, _, dvv, g0, g1, by omega, by simp only [go_sem, seval, f1], by simp only [go_sem, seval], by rw [if_neg hJ0]; simp only [go_sem, seval, f6], by simp only [go_sem, seval, f10], rfl⟩
  ·have c0 : (cmpI ((Y : Nat) : Int) ((pw i : Nat) : Int) ≥ 0) = False := eq_false (by rw [ge_iff_le, cmpI_ge]; omega)
   simp (disch := omega) only [go_sem, seval, wqa, wqb, wqc, wqd, wqe, f1, f3, f6, f10, q0, cm, c0, hiJ, h2i, hl, at_, mG, mG0, sG, sG0, lG, List.append_assoc, List.cons_append, List.nil_append]
   exact ih i _ _ (by omega) ⟨by omega, y, Y, n, _, hy, hY, by omega, by omega, by simp only [go_sem, seval, f1], by simp only [go_sem, seval, f3], by rw [if_neg hJ0]; simp only [go_sem, seval, f6], by simp only [go_sem, seval, f10], rfl⟩
end Go.Eng
namespace Go.Eng
theorem p_pdigS (x : WI) (h : x.v.natAbs ≤ 9223372036854775807) : pf E0 63 [wiP x] = some (.i .i64 (nbits x.v.natAbs : Int)) := by
 have nb : nbits x.v.natAbs ≤ 63 := nbits_le (by omega)
 have fin : ∀ (y : WI), y.v = (x.v.natAbs : Int) → pf E0 80 [wiP y] = some (.tu [.i .i64 (x.v.natAbs : Int), .b true]) := fun y hy => by
  have sm := p_Small y
  have s1 : isSmall (x.v.natAbs : Int) = true := by unfold isSmall; exact decide_eq_true ⟨by omega, by omega⟩
  have s2 : small (x.v.natAbs : Int) = (x.v.natAbs : Int) := by unfold small; rw [if_pos s1]
  rw [hy, s1, s2] at sm
  exact sm
 have sg := p_Sign x
 refine pf_run (xf := x_poly_digits) rfl (by simp [x_poly_digits]) ?_
 simp only [x_poly_digits]
 by_cases hn : x.v < 0
 ·have t0 : (cmpI x.v 0 < 0) = True := by rw [cmpI_neg]; simp [hn]
  have n1 := p_Neg x
  have sm := fin x.neg (by show -x.v = _; omega)
  generalize x.neg = y at *
  generalize x.v.natAbs = K at *
  simp (disch := omega) only [go_sem, seval, wqa, wqb, wqc, wqd, wqe, sg, t0, n1, sm]
  refine wk_ind x_poly_digits_l1.eq_1 (fun (σ : Nat × Nat) fr M => σ.1 + nbits σ.2 = nbits K ∧ σ.2 ≤ K ∧ fr 3 = (PV.i .i64 ((σ.1 : Nat) : Int)) ∧ fr 4 = (PV.i .i64 ((σ.2 : Nat) : Int))) (fun σ => σ.2) ?_ (0, K) ⟨by simp, Nat.le_refl _, by simp only [go_sem, seval], by simp only [go_sem, seval]⟩
  rintro ⟨n, k⟩ fr M ⟨hs, hk, f3, f4⟩ ih
  simp only at hs hk f3 f4
  by_cases hk0 : k = 0
  ·have q1 : ((k : Int) > 0) = False := by simp; omega
   have hN : n = nbits K := by rw [← hs, hk0]; rfl
   rw [← hN]
   simp (disch := omega) only [go_sem, seval, wqa, wqb, wqc, wqd, wqe, f3, f4, q1]
  ·have q1 : ((k : Int) > 0) = True := by simp; omega
   have k2 : (k : Int).tdiv 2 = ((k / 2 : Nat) : Int) := nat_tdiv _ 2
   have hh := nbits_half hk0
   simp (disch := omega) only [go_sem, seval, wqa, wqb, wqc, wqd, wqe, f3, f4, q1, k2]
   exact ih (n + 1, k / 2) _ _ (by simp only; omega) ⟨by simp only; omega, by simp only; omega, by simp only [go_sem, seval]; rw [Int.natCast_succ], by simp only [go_sem, seval]⟩
 ·have t0 : (cmpI x.v 0 < 0) = False := by rw [cmpI_neg]; simp [hn]
  have sm := fin x (by omega)
  obtain ⟨K, hK⟩ : ∃ K : Nat, K = x.v.natAbs := ⟨_, rfl⟩
  rw [← hK] at sm nb ⊢
  have hKl : K ≤ 9223372036854775807 := by omega
  simp (disch := omega) only [go_sem, seval, wqa, wqb, wqc, wqd, wqe, sg, t0, sm]
  refine wk_ind x_poly_digits_l1.eq_1 (fun (σ : Nat × Nat) fr M => σ.1 + nbits σ.2 = nbits K ∧ σ.2 ≤ K ∧ fr 3 = (PV.i .i64 ((σ.1 : Nat) : Int)) ∧ fr 4 = (PV.i .i64 ((σ.2 : Nat) : Int))) (fun σ => σ.2) ?_ (0, K) ⟨by simp, Nat.le_refl _, by simp only [go_sem, seval], by simp only [go_sem, seval]⟩
  rintro ⟨n, k⟩ fr M ⟨hs, hk, f3, f4⟩ ih
  simp only at hs hk f3 f4
  by_cases hk0 : k = 0
  ·have q1 : ((k : Int) > 0) = False := by simp; omega
   have hN : n = nbits K := by rw [← hs, hk0]; rfl
   rw [← hN]
   simp (disch := omega) only [go_sem, seval, wqa, wqb, wqc, wqd, wqe, f3, f4, q1]
  ·have q1 : ((k : Int) > 0) = True := by simp; omega
   have k2 : (k : Int).tdiv 2 = ((k / 2 : Nat) : Int) := nat_tdiv _ 2
   have hh := nbits_half hk0
   simp (disch := omega) only [go_sem, seval, wqa, wqb, wqc, wqd, wqe, f3, f4, q1, k2]
   exact ih (n + 1, k / 2) _ _ (by simp only; omega) ⟨by simp only; omega, by simp only; omega, by simp only [go_sem, seval]; rw [Int.natCast_succ], by simp only [go_sem, seval]⟩
theorem mul_pw {j : Nat} (h : inR (pw j)) : pf E0 38 [wiP (pwI j), wiP (pwI j)] = some (.tu [wiP (pwI (j + 1)), .i .i64 (lerr ((pw (j + 1) : Nat) : Int))]) := by
 rw [p_Mul, pwI_v h, ← Int.natCast_mul, ← pw_succ]; rfl
theorem ap20 (b0 b1 : Option PB) (w1 w2 : PV) : appP [b0, b1, some ⟨[w1, w2], true, 0⟩] 2 32 .nl (.sl 2 0 1 1 2) = some (.sl 3 0 1 1 2, [b0, b1, some ⟨[w1, w2], true, 0⟩, some ⟨[w1, w2], true, 0⟩]) := rfl
theorem inR_KK {v K : Nat} (hK : K = 16384) (h : v < 2 ^ K) : inR v := by subst hK; exact h
theorem inR_one : inR (pw 1) := by
 obtain ⟨K, hK⟩ : ∃ K, K = 16384 := ⟨_, rfl⟩
 have h : pw 1 < 2 ^ K := Nat.lt_of_lt_of_le (show pw 1 < 2 ^ 3 by decide) (Nat.pow_le_pow_right (by decide) (by omega))
 exact inR_KK hK h
set_option maxHeartbeats 2000000 in
theorem dig_l2 {F : PFin} {ks : List KI} {K : Nat} {x0 : WI} (hR : inR K) (hx0 : x0.v = (K : Int)) (hK : 9223372036854775807 < K) {fr : PFr} {v : Nat} {v1 : Nat}
  (f1 : fr 1 = .p 0 0) (f3 : fr 3 = (PV.i .i64 ((0 : Nat) : Int))) (f6 : fr 6 = .nl) (f7 : fr 7 = .p 1 0)
  (cont : ∀ fr' (G : PM) (J : Nat), J ≠ 0 → fr' 1 = .p 0 0 → fr' 3 = (PV.i .i64 ((0 : Nat) : Int)) → fr' 6 = .sl (G.length + 1) 0 J J 2 → K < pw J → pw (J - 1) ≤ K → ∀ R, UK E0 F (.exit 2) ks fr' (some ⟨[.b (decide (x0.v < 0)), D x0.v.natAbs], true, v⟩ :: (G ++ (some ⟨pwL J, true, 0⟩ :: R)))) :
  WK E0 F (.loop x_poly_digits_l2) ks fr [some ⟨[.b (decide (x0.v < 0)), D x0.v.natAbs], true, v⟩, some ⟨[.b (decide ((pwI 0).v < 0)), D (pwI 0).v.natAbs], true, v1⟩] := by
 have R1 := inR_one
 have R0 : inR (pw 0) := inR_le (Nat.le_of_lt (pw_lt 0)) R1
 have cm0 := p_Compare x0 (pwI 0)
 have c00 : (cmpI x0.v (pwI 0).v ≥ 0) = True := eq_true (by rw [ge_iff_le, cmpI_ge, hx0, pwI_v R0, pw_zero]; omega)
 have mu0 := mul_pw R0
 have le0 : lerr ((pw (0 + 1) : Nat) : Int) = 0 := (inR_c (z := ((pw (0 + 1) : Nat) : Int)) (by rw [Int.natAbs_natCast]; exact R1)).2
 rw [le0] at mu0
 refine wk_roll x_poly_digits_l2.eq_1 ?_
 simp (disch := omega) only [go_sem, seval, wqa, wqb, wqc, wqd, wqe, f1, f3, f6, f7, cm0, c00, mu0, ap20, fill_C, fillC_def]
 refine wk_ind x_poly_digits_l2.eq_1 (fun (j : Nat) fr M => 1 ≤ j ∧ inR (pw j) ∧ pw (j - 1) ≤ K ∧ fr 1 = .p 0 0 ∧ fr 3 = (PV.i .i64 ((0 : Nat) : Int)) ∧ ∃ (G : PM) (r : Option PB) (v2 : Nat), fr 6 = .sl (G.length + 1) 0 j j 2 ∧ fr 7 = .p (G.length + 3) 0 ∧
  M = some ⟨[.b (decide (x0.v < 0)), D x0.v.natAbs], true, v⟩ :: (G ++ [some ⟨pwL j, true, 0⟩, r, some ⟨[.b (decide ((pwI j).v < 0)), D (pwI j).v.natAbs], true, v2⟩])) (fun j => K + 1 - pw (j - 1)) ?_ 1
  ⟨Nat.le_refl _, R1, by rw [show pw (1 - 1) = 2 from rfl]; omega, by simp only [go_sem, seval, f1], by simp only [go_sem, seval, f3], [_, _], _, _, by simp only [go_sem, seval], by simp only [go_sem, seval], rfl⟩
 rintro j fr M ⟨hj, jR, hjK, f1, f3, G, r, v2, f6, f7, rfl⟩ ih
 have j14 := inR_pw jR
 have cm := p_Compare x0 (pwI j)
 by_cases hc : pw j ≤ K
 ·have c0 : (cmpI x0.v (pwI j).v ≥ 0) = True := eq_true (by rw [ge_iff_le, cmpI_ge, hx0, pwI_v jR]; omega)
  have mu := mul_pw jR
  have apx : ∀ b0 : Option PB, appP (b0 :: (G ++ [some ⟨pwL j, true, 0⟩, r, some ⟨[.b (decide ((pwI j).v < 0)), D (pwI j).v.natAbs], true, v2⟩, some ⟨[PV.b (decide ((pwI j).v < 0)), D (pwI j).v.natAbs], true, 0⟩])) 2 32 (.sl (G.length + 1) 0 j j 2) (.sl (G.length + 4) 0 1 1 2) =
   some (.sl (G.length + 5) 0 (j + 1) (j + 1) 2, b0 :: (G ++ [none, r, some ⟨[.b (decide ((pwI j).v < 0)), D (pwI j).v.natAbs], true, v2⟩, some ⟨[PV.b (decide ((pwI j).v < 0)), D (pwI j).v.natAbs], true, 0⟩, some ⟨pwL (j + 1), true, 0⟩])) := fun b0 =>
   ap2_P (b0 :: G) (pwL j) _ _ r (some ⟨[.b (decide ((pwI j).v < 0)), D (pwI j).v.natAbs], true, v2⟩) (pwL_len j) (by omega) (by omega)
  by_cases hn : inR (pw (j + 1))
  ·have le1 : lerr ((pw (j + 1) : Nat) : Int) = 0 := (inR_c (z := ((pw (j + 1) : Nat) : Int)) (by rw [Int.natAbs_natCast]; exact hn)).2
   rw [le1] at mu
   simp (disch := omega) only [go_sem, seval, wqa, wqb, wqc, wqd, wqe, f1, f3, f6, f7, cm, c0, mu, apx, fill_C, fillC_def, mG, mG0, sG, sG0, lG, List.append_assoc, List.cons_append, List.nil_append]
   have := pw_lt (j - 1)
   rw [show j - 1 + 1 = j by omega] at this
   exact ih (j + 1) _ _ (by rw [show j + 1 - 1 = j by omega]; omega) ⟨by omega, hn, hc, by simp only [go_sem, seval, f1], by simp only [go_sem, seval, f3], G ++ [none, r, _, _], _, _, by simp only [go_sem, seval]; simp, by simp only [go_sem, seval]; simp, by simp; exact ⟨rfl, rfl, rfl, rfl⟩⟩
  ·have le1 : (lerr ((pw (j + 1) : Nat) : Int) = 0) = False := eq_false fun q => hn (by have := inR_l q; rwa [Int.natAbs_natCast] at this)
   simp (disch := omega) only [go_sem, seval, wqa, wqb, wqc, wqd, wqe, f1, f3, f6, f7, cm, c0, mu, le1, apx, fill_C, fillC_def, mG, mG0, sG, sG0, lG, List.append_assoc, List.cons_append, List.nil_append]
   have e6 : ∀ a b c d p q : Option PB, G ++ [a, b, c, d, p, q] = (G ++ [a, b, c, d]) ++ (p :: [q]) := fun a b c d p q => by simp
   rw [e6]
   exact cont _ _ (j + 1) (by omega) (by simp only [go_sem, seval, f1]) (by simp only [go_sem, seval, f3]) (by simp only [go_sem, seval]; simp) (by
    rcases Nat.lt_or_ge K (pw (j + 1)) with q | q
    ·exact q
    ·exact (hn (inR_le q hR)).elim) hc [_]
 ·have c0 : (cmpI x0.v (pwI j).v ≥ 0) = False := eq_false (by rw [ge_iff_le, cmpI_ge, hx0, pwI_v jR]; omega)
  simp (disch := omega) only [go_sem, seval, wqa, wqb, wqc, wqd, wqe, f1, f3, f6, f7, cm, c0, mG, mG0, sG, sG0, lG, List.append_assoc, List.cons_append, List.nil_append]
  exact cont _ G j (by omega) (by simp only [go_sem, seval, f1]) (by simp only [go_sem, seval, f3]) (by simp only [go_sem, seval, f6]) (by omega) hjK [_, _]
theorem p_pdigA (x : WI) : pf E0 63 [wiP x] = some (.i .i64 (nbits x.v.natAbs : Int)) := by
 by_cases hs : x.v.natAbs ≤ 9223372036854775807
 ·exact p_pdigS x hs
 have hR : inR x.v.natAbs := (wide_iff _).1 x.lim
 obtain ⟨K, hKe⟩ : ∃ K, K = x.v.natAbs := ⟨_, rfl⟩
 rw [← hKe] at hR hs ⊢
 have hK : 9223372036854775807 < K := by omega
 have sg := p_Sign x
 have fin : ∀ (y : WI), y.v = (K : Int) → pf E0 80 [wiP y] = some (.tu [.i .i64 0, .b false]) := fun y hy => by
  have sm := p_Small y
  have s1 : isSmall (K : Int) = false := by unfold isSmall; exact decide_eq_false (by omega)
  have s2 : small (K : Int) = 0 := by unfold small; rw [s1]; rfl
  rw [hy, s1, s2] at sm
  exact sm
 have fr2 := p_From (n := 2) (by decide)
 have w2 : wiOf 2 (by decide) = pwI 0 := WI.ext' (by rw [pwI_v (inR_le (Nat.le_of_lt (pw_lt 0)) inR_one)]; rfl)
 rw [w2] at fr2
 have nb1 : 1 ≤ nbits K := by unfold nbits; rw [if_neg (by omega)]; omega
 have nbe : (nbits K : Int) - 1 + 1 = (nbits K : Int) := by omega
 have sy : ∀ y : WI, y.v = 1 → pf E0 31 [wiP y] = some (.i .i64 1) := fun y hy => by rw [p_Sign, hy]; rfl
 refine pf_run (xf := x_poly_digits) rfl (by simp [x_poly_digits]) ?_
 simp only [x_poly_digits]
 have nbb : nbits K ≤ 16384 := by
  obtain ⟨q, hq⟩ : ∃ q, q = 16384 := ⟨_, rfl⟩
  unfold inR at hR
  rw [← hq] at hR ⊢
  exact nbits_le hR
 by_cases hn : x.v < 0
 ·have t0 : (cmpI x.v 0 < 0) = True := by rw [cmpI_neg]; simp [hn]
  have n1 := p_Neg x
  have hv : x.neg.v = (K : Int) := by show -x.v = _; omega
  have sm := fin x.neg hv
  generalize x.neg = y at *
  simp (disch := omega) only [go_sem, seval, wqa, wqb, wqc, wqd, wqe, sg, t0, n1, sm, fr2]
  refine dig_l2 hR hv hK (by simp only [go_sem, seval]) (by simp only [go_sem, seval]) (by simp only [go_sem, seval]) (by simp only [go_sem, seval]) ?_
  intro fr' G J hJ f1 f3 f6 hlt hle R
  have J14 := inR_pw (inR_le hle hR)
  simp (disch := omega) only [go_sem, seval, wqa, wqb, wqc, wqd, wqe, f6]
  refine dig_l3 hR hv (by omega) hlt (.inr hle) (by simp only [go_sem, seval, f1]) (by simp only [go_sem, seval, f3]) (by rw [if_neg hJ]; simp only [go_sem, seval, f6]) (by simp only [go_sem, seval]) ?_
  intro fr'' v' y1 hy1 g1 g3
  have syy := sy y1 hy1
  simp (disch := omega) only [go_sem, seval, wqa, wqb, wqc, wqd, wqe, g1, g3, syy, nbe]
 ·have t0 : (cmpI x.v 0 < 0) = False := by rw [cmpI_neg]; simp [hn]
  have hv : x.v = (K : Int) := by omega
  have sm := fin x hv
  simp (disch := omega) only [go_sem, seval, wqa, wqb, wqc, wqd, wqe, sg, t0, sm, fr2]
  refine dig_l2 hR hv hK (by simp only [go_sem, seval]) (by simp only [go_sem, seval]) (by simp only [go_sem, seval]) (by simp only [go_sem, seval]) ?_
  intro fr' G J hJ f1 f3 f6 hlt hle R
  have J14 := inR_pw (inR_le hle hR)
  simp (disch := omega) only [go_sem, seval, wqa, wqb, wqc, wqd, wqe, f6]
  refine dig_l3 hR hv (by omega) hlt (.inr hle) (by simp only [go_sem, seval, f1]) (by simp only [go_sem, seval, f3]) (by rw [if_neg hJ]; simp only [go_sem, seval, f6]) (by simp only [go_sem, seval]) ?_
  intro fr'' v' y1 hy1 g1 g3
  have syy := sy y1 hy1
  simp (disch := omega) only [go_sem, seval, wqa, wqb, wqc, wqd, wqe, g1, g3, syy, nbe]
theorem p_DigitsA (x : FQ) : pf E0 44 [fqP x] = some (.i .i64 ((max (nbits x.p.v.natAbs) (nbits x.q.v.natAbs) : Nat) : Int)) := by
 have a1 := p_fNum x
 have a2 := p_fDen x
 have d1 := p_pdigA x.p
 have d2 := p_pdigA x.q
 generalize nbits x.p.v.natAbs = a at *
 generalize nbits x.q.v.natAbs = b at *
 have hm : mmP true (.i .i64 (a : Int)) [.i .i64 (b : Int)] = some (.i .i64 ((max a b : Nat) : Int)) := by
  simp only [mmP, if_true]
  congr 2
  split <;> omega
 refine pf_run (xf := x_poly_Digits) rfl (by simp [x_poly_Digits]) ?_
 simp only [x_poly_Digits]
 simp (disch := omega) only [go_sem, seval, wqa, wqb, wqc, wqd, wqe]
 refine wk_calmX [1] rfl (by simp only [go_sem, seval]) ?_
 simp (disch := omega) only [go_sem, seval, wqa, wqb, wqc, wqd, wqe, a1, a2, d1, d2, hm]
end Go.Eng
namespace Go.Eng
theorem is_low' {f : FQ} {n d : Int} (hd : d ≠ 0) (h : f.is n d) : f.p.v = lowP n d ∧ f.q.v = lowQ n d := by
 have hq := f.q1
 unfold FQ.is at h
 have c := low_cross (p := n) hd
 refine low_uniq (by omega) (low_pos hd) f.cop (low_cop hd) ?_
 apply Int.eq_of_mul_eq_mul_right hd
 calc f.p.v * lowQ n d * d = f.p.v * d * lowQ n d := by grind
  _ = n * f.q.v * lowQ n d := by rw [h]
  _ = n * lowQ n d * f.q.v := by grind
  _ = lowP n d * d * f.q.v := by rw [c]
  _ = lowP n d * f.q.v * d := by grind
end Go.Eng
namespace Go.Eng
theorem nbits_gt {k n : Nat} (h : 2 ^ n ≤ k) : n < nbits k := by
 have h1 := nbits_pow h
 have h2 := Nat.div_pos h (Nat.pow_pos (a := 2) (by decide) : 0 < 2 ^ n)
 have h3 : 1 ≤ nbits (k / 2 ^ n) := by unfold nbits; rw [if_neg (by omega)]; omega
 omega
def shortQ (x : FQ) : Prop := nbits x.p.v.natAbs ≤ 1024 ∧ nbits x.q.v.natAbs ≤ 1024
theorem p_rLongD (x : FQ) : pf E0 275 [rfQ x] = some (.b (decide (¬ (nbits x.p.v.natAbs ≤ 1024 ∧ nbits x.q.v.natAbs ≤ 1024)))) := by
 rw [p_rLong]
 have hq := x.q1
 obtain ⟨n, hn⟩ : ∃ n, n = 1024 := ⟨_, rfl⟩
 rw [← hn]
 congr 2
 rw [decide_eq_decide]
 unfold two
 constructor
 ·rintro (h | h) ⟨h1, h2⟩
  ·have := nbits_gt (k := x.p.v.natAbs) (n := n) (by omega)
   omega
  ·have := nbits_gt (k := x.q.v.natAbs) (n := n) (by omega)
   omega
 ·intro h
  by_cases h1 : 2 ^ n ≤ x.p.v.natAbs
  ·exact .inl (by omega)
  ·by_cases h2 : 2 ^ n ≤ x.q.v.natAbs
   ·exact .inr (by omega)
   ·exact (h ⟨nbits_le (by omega), nbits_le (by omega)⟩).elim
theorem few_short {x : FQ} (h : few x) : shortQ x := by
 have h1 := nbits_le (k := x.p.v.natAbs) (n := 63) (by have := h.1; omega)
 have h2 := nbits_le (k := x.q.v.natAbs) (n := 63) (by have := h.2; omega)
 exact ⟨by omega, by omega⟩
theorem p_findS {X Y S : Int} {C R : Nat} {hs : List Int} (t : TerOk X Y S C R hs) {x y : FQ} (hx : shortQ x) (hy : shortQ y) {i j : Int} {p q : FQ}
  (px : pf E0 45 [fqP x, .i .i64 X, .i .i64 S, .i .i64 C] = some (.tu [.i .i64 i, fqP p, .b true])) (py : pf E0 45 [fqP y, .i .i64 Y, .i .i64 S, .i .i64 R] = some (.tu [.i .i64 j, fqP q, .b true])) :
  pf E0 25 [terP X Y S C R hs, fqP x, fqP y] = some (.tu [spotP i j p q, .i .i64 0]) := by
 have hv := p_Valid0 t
 have d1 := p_DigitsA x
 have d2 := p_DigitsA y
 have l1 : max (nbits x.p.v.natAbs) (nbits x.q.v.natAbs) ≤ 1024 := by have := hx.1; have := hx.2; omega
 have l2 : max (nbits y.p.v.natAbs) (nbits y.q.v.natAbs) ≤ 1024 := by have := hy.1; have := hy.2; omega
 generalize max (nbits x.p.v.natAbs) (nbits x.q.v.natAbs) = a at *
 generalize max (nbits y.p.v.natAbs) (nbits y.q.v.natAbs) = b at *
 have t1 : ((if (b : Int) > (a : Int) then (b : Int) else (a : Int)) > 1024) = False := eq_false (by split <;> omega)
 refine pf_run (xf := x_terrain_find) rfl (by simp [x_terrain_find]) ?_
 simp only [x_terrain_find]
 simp (disch := omega) only [go_sem, seval, wqa, wqb, wqc, wqd, wqe, hv]
 refine wk_calmX [5] rfl (by simp only [go_sem, seval]) ?_
 simp (disch := omega) only [go_sem, seval, wqa, wqb, wqc, wqd, wqe, d1, d2, t1, px, py, fill_C, fillC_def]
theorem p_findSO {X Y S : Int} {C R : Nat} {hs : List Int} (t : TerOk X Y S C R hs) {x y : FQ} (hx : shortQ x) (hy : shortQ y) {i j : Int} {p q : FQ} {bx by_ : Bool} (hb : bx = false ∨ by_ = false)
  (px : pf E0 45 [fqP x, .i .i64 X, .i .i64 S, .i .i64 C] = some (.tu [.i .i64 i, fqP p, .b bx])) (py : pf E0 45 [fqP y, .i .i64 Y, .i .i64 S, .i .i64 R] = some (.tu [.i .i64 j, fqP q, .b by_])) :
  pf E0 25 [terP X Y S C R hs, fqP x, fqP y] = some (.tu [spotP 0 0 fq0 fq0, .i .i64 15]) := by
 have hv := p_Valid0 t
 have d1 := p_DigitsA x
 have d2 := p_DigitsA y
 have l1 : max (nbits x.p.v.natAbs) (nbits x.q.v.natAbs) ≤ 1024 := by have := hx.1; have := hx.2; omega
 have l2 : max (nbits y.p.v.natAbs) (nbits y.q.v.natAbs) ≤ 1024 := by have := hy.1; have := hy.2; omega
 generalize max (nbits x.p.v.natAbs) (nbits x.q.v.natAbs) = a at *
 generalize max (nbits y.p.v.natAbs) (nbits y.q.v.natAbs) = b at *
 have t1 : ((if (b : Int) > (a : Int) then (b : Int) else (a : Int)) > 1024) = False := eq_false (by split <;> omega)
 rw [spot0]
 refine pf_run (xf := x_terrain_find) rfl (by simp [x_terrain_find]) ?_
 simp only [x_terrain_find]
 cases bx
 ·simp (disch := omega) only [go_sem, seval, wqa, wqb, wqc, wqd, wqe, hv]
  refine wk_calmX [5] rfl (by simp only [go_sem, seval]) ?_
  simp (disch := omega) only [go_sem, seval, wqa, wqb, wqc, wqd, wqe, d1, d2, t1, px, py]
 ·obtain rfl : by_ = false := by simpa using hb
  simp (disch := omega) only [go_sem, seval, wqa, wqb, wqc, wqd, wqe, hv]
  refine wk_calmX [5] rfl (by simp only [go_sem, seval]) ?_
  simp (disch := omega) only [go_sem, seval, wqa, wqb, wqc, wqd, wqe, d1, d2, t1, px, py]
theorem p_findSL {X Y S : Int} {C R : Nat} {hs : List Int} (t : TerOk X Y S C R hs) {x y : FQ} (hx : ¬ shortQ x) : pf E0 25 [terP X Y S C R hs, fqP x, fqP y] = some (.tu [spotP 0 0 fq0 fq0, .i .i64 4]) := by
 have hv := p_Valid0 t
 have d1 := p_DigitsA x
 have d2 := p_DigitsA y
 have l1 : ¬ max (nbits x.p.v.natAbs) (nbits x.q.v.natAbs) ≤ 1024 := fun q => hx ⟨by omega, by omega⟩
 generalize max (nbits x.p.v.natAbs) (nbits x.q.v.natAbs) = a at *
 generalize max (nbits y.p.v.natAbs) (nbits y.q.v.natAbs) = b at *
 have t1 : ((if (b : Int) > (a : Int) then (b : Int) else (a : Int)) > 1024) = True := eq_true (by split <;> omega)
 rw [spot0]
 refine pf_run (xf := x_terrain_find) rfl (by simp [x_terrain_find]) ?_
 simp only [x_terrain_find]
 simp (disch := omega) only [go_sem, seval, wqa, wqb, wqc, wqd, wqe, hv]
 refine wk_calmX [5] rfl (by simp only [go_sem, seval]) ?_
 simp (disch := omega) only [go_sem, seval, wqa, wqb, wqc, wqd, wqe, d1, d2, t1]
theorem both_atG {k : Nat} (hk : k ≤ 400) {X Y S : Int} {C R : Nat} {hs : List Int} (t : TerOk X Y S C R hs) {x y : FQ} (hy : few y) (zx : fsz k x) (zy : fsz 20 y) :
  ∃ (h : FQ) (i j e : Int), pf E0 10 [terP X Y S C R hs, fqP x, fqP y] = some (.tu [fqP h, .i .i64 e]) ∧ pf E0 243 [terP X Y S C R hs, fqP x, fqP y] = some (.tu [.i .i64 i, .i .i64 j, .i .i64 e]) ∧
   pf E0 253 [terP X Y S C R hs, rfQ x, rfQ y] = some (.tu [rfQ h, .i .i64 i, .i .i64 j, .i .i64 e]) := by
 by_cases hx : ¬ shortQ x
 ·have lx := p_rLongD x
  rw [show decide (¬ (nbits x.p.v.natAbs ≤ 1024 ∧ nbits x.q.v.natAbs ≤ 1024)) = true from decide_eq_true hx] at lx
  have hf := p_findSL t (y := y) hx
  exact ⟨fq0, 0, 0, 4, p_HeightO (by decide) ⟨_, _, _, _, rfl⟩ hf, p_Facet hf, p_rHeightL t lx⟩
 have hx := Classical.not_not.1 hx
 have lx := p_rLongD x
 rw [show decide (¬ (nbits x.p.v.natAbs ≤ 1024 ∧ nbits x.q.v.natAbs ≤ 1024)) = false from decide_eq_false (fun q => q hx)] at lx
 have ly := long_few hy
 have hy := few_short hy
 have dx := x.q1
 have dy := y.q1
 have hS := t.s
 have hc := t.c
 have hr := t.r
 have tx := t.x
 have ty := t.y
 have m1 : 0 ≤ ((C : Int) - 1) * S := Int.mul_nonneg (by omega) (by omega)
 have m2 : 0 ≤ ((R : Int) - 1) * S := Int.mul_nonneg (by omega) (by omega)
 have hD : 0 < x.q.v * S := Int.mul_pos (by omega) (by omega)
 have hE : 0 < y.q.v * S := Int.mul_pos (by omega) (by omega)
 have pX := p_placeG (k := k) (by omega) zx (by omega) (is_self x) (F := X) (S := S) (N := C) (by omega) hS hc
 have pY := p_place zy (by omega) (is_self y) (F := Y) (S := S) (N := R) (by omega) hS hr
 have rX := p_rplace (k := k) (by omega) zx (by omega) (is_self x) (F := X) (S := S) (N := C) (by omega) hS hc
 have rY := p_rplace (k := 20) (by decide) zy (by omega) (is_self y) (F := Y) (S := S) (N := R) (by omega) hS hr
 generalize x.p.v - X * x.q.v = u at *
 generalize y.p.v - Y * y.q.v = v at *
 generalize x.q.v * S = D at *
 generalize y.q.v * S = E at *
 have kx : (∃ (iN : Nat) (p p' : FQ), iN + 1 < C ∧ p.is (u - iN * D) D ∧ fsz (k + 20) p ∧ p'.is (u - iN * D) D ∧ fsz (k + 20) p' ∧ pf E0 45 [fqP x, .i .i64 X, .i .i64 S, .i .i64 C] = some (.tu [.i .i64 iN, fqP p, .b true]) ∧ pf E0 276 [rfQ x, .i .i64 X, .i .i64 S, .i .i64 C] = some (.tu [.i .i64 iN, rfQ p', .b true])) ∨
   (∃ p', pf E0 45 [fqP x, .i .i64 X, .i .i64 S, .i .i64 C] = some (.tu [.i .i64 0, fqP fq0, .b false]) ∧ pf E0 276 [rfQ x, .i .i64 X, .i .i64 S, .i .i64 C] = some (.tu [.i .i64 0, rfQ p', .b false])) := by
  by_cases h : 0 ≤ u ∧ u ≤ ((C : Int) - 1) * D
  ·obtain ⟨p, a1, a2, a3⟩ := pX.1 h
   obtain ⟨p', b1, b2, b3⟩ := rX.1 h
   have q0 := Int.ediv_nonneg h.1 (show 0 ≤ D by omega)
   obtain ⟨iN, hi⟩ : ∃ iN : Nat, (iN : Int) = min (u / D) ((C : Int) - 2) := ⟨(min (u / D) ((C : Int) - 2)).toNat, by omega⟩
   rw [← hi] at a1 a3 b1 b3
   exact .inl ⟨iN, p, p', by omega, a1, a2, b1, b2, a3, b3⟩
  ·obtain ⟨p', b⟩ := rX.2 h
   exact .inr ⟨p', pX.2 h, b⟩
 have ky : (∃ (iN : Nat) (p p' : FQ), iN + 1 < R ∧ p.is (v - iN * E) E ∧ fsz 40 p ∧ p'.is (v - iN * E) E ∧ fsz 40 p' ∧ pf E0 45 [fqP y, .i .i64 Y, .i .i64 S, .i .i64 R] = some (.tu [.i .i64 iN, fqP p, .b true]) ∧ pf E0 276 [rfQ y, .i .i64 Y, .i .i64 S, .i .i64 R] = some (.tu [.i .i64 iN, rfQ p', .b true])) ∨
   (∃ p', pf E0 45 [fqP y, .i .i64 Y, .i .i64 S, .i .i64 R] = some (.tu [.i .i64 0, fqP fq0, .b false]) ∧ pf E0 276 [rfQ y, .i .i64 Y, .i .i64 S, .i .i64 R] = some (.tu [.i .i64 0, rfQ p', .b false])) := by
  by_cases h : 0 ≤ v ∧ v ≤ ((R : Int) - 1) * E
  ·obtain ⟨p, a1, a2, a3⟩ := pY.1 h
   obtain ⟨p', b1, b2, b3⟩ := rY.1 h
   have q0 := Int.ediv_nonneg h.1 (show 0 ≤ E by omega)
   obtain ⟨iN, hi⟩ : ∃ iN : Nat, (iN : Int) = min (v / E) ((R : Int) - 2) := ⟨(min (v / E) ((R : Int) - 2)).toNat, by omega⟩
   rw [← hi] at a1 a3 b1 b3
   exact .inl ⟨iN, p, p', by omega, a1, a2, b1, b2, a3, b3⟩
  ·obtain ⟨p', b⟩ := rY.2 h
   exact .inr ⟨p', pY.2 h, b⟩
 rcases kx with ⟨i, p, p', hi, p1, p2, p3, p4, p5, p6⟩ | ⟨p', p5, p6⟩
 ·rcases ky with ⟨j, q, q', hj, q1, q2, q3, q4, q5, q6⟩ | ⟨q', q5, q6⟩
  ·have hf := p_findS t hx hy p5 q5
   obtain ⟨h, h1, h2, _⟩ := p_HeightG (k := k + 20) (by omega) t hi hj p2 q2 (by omega) (by omega) p1 q1 hf
   obtain ⟨h', k1, k2⟩ := p_rHeight (k := k + 20) (by omega) t lx ly hi hj p4 q4 (by omega) (by omega) p3 q3 p6 q6
   have hDE : D * E ≠ 0 := Int.mul_ne_zero (by omega) (by omega)
   obtain rfl := is_uniq hDE hDE h2 k2 rfl
   exact ⟨h, i, j, 0, h1, p_Facet hf, k1⟩
  ·have hf := p_findSO t hx hy (.inr rfl) p5 q5
   exact ⟨fq0, 0, 0, 15, p_HeightO (by decide) ⟨_, _, _, _, rfl⟩ hf, p_Facet hf, p_rHeightO t lx ly (.inr rfl) p6 q6⟩
 ·rcases ky with ⟨j, q, q', hj, q1, q2, q3, q4, q5, q6⟩ | ⟨q', q5, q6⟩
  ·have hf := p_findSO t hx hy (.inl rfl) p5 q5
   exact ⟨fq0, 0, 0, 15, p_HeightO (by decide) ⟨_, _, _, _, rfl⟩ hf, p_Facet hf, p_rHeightO t lx ly (.inl rfl) p6 q6⟩
  ·have hf := p_findSO t hx hy (.inl rfl) p5 q5
   exact ⟨fq0, 0, 0, 15, p_HeightO (by decide) ⟨_, _, _, _, rfl⟩ hf, p_Facet hf, p_rHeightO t lx ly (.inl rfl) p6 q6⟩
theorem pow_ten : ∀ k : Nat, 2 ^ (13 * k) ≤ 10000 ^ k := fun k => by
 rw [Nat.pow_mul]
 exact Nat.pow_le_pow_left (by decide) k
theorem tlen_p2 {m : Nat} (h : m ≤ 1039) : tlen (2 ^ m) ≤ 80 := by
 obtain ⟨k, hk⟩ : ∃ k, k = 80 := ⟨_, rfl⟩
 rw [← hk]
 have h1 : 2 ^ m < 2 ^ (13 * k) := Nat.pow_lt_pow_right (by decide) (by omega)
 exact tlen_small (Nat.lt_of_lt_of_le h1 (pow_ten k))
theorem is_one {f : FQ} {n : Int} (h : f.is n 1) : f.p.v = n ∧ f.q.v = 1 := by
 obtain ⟨h1, h2⟩ := is_low' (by decide) h
 obtain ⟨l1, l2⟩ := low_self (p := n) (q := 1) (by decide) (Nat.gcd_one_right _)
 exact ⟨h1.trans l1, h2.trans l2⟩
theorem fsz_two {f : FQ} {m : Nat} (h : m ≤ 1039) (h1 : f.p.v = two m) (h2 : f.q.v = 1) : fsz 80 f := by
 refine ⟨?_, ?_⟩
 ·rw [h1, natAbs_two]; exact tlen_p2 h
 ·rw [h2]; exact tlen_small (by decide)
set_option maxHeartbeats 4000000 in
set_option maxRecDepth 40000 in
theorem p_TerrainLong {xs : List Int} (hx : Ints xs) {bits y : Int} (fb : Fits64 bits) (w : Bool) (fy : Fits64 y) : pf E0 233 [ints xs, .i .i64 bits, .b w, .i .i64 y] = some (.b true) := by
 obtain ⟨X, Y, S, C, R, hs, t, hX, hY, hS, hC, hR, hh, ht⟩ := p_Terrain hx
 have tc := t.c
 have tr := t.r
 have ts := t.s
 have lv := p_lives10
 obtain ⟨b, b1, b2, cb⟩ := p_Coord (F := Y) (S := S) (N := R) hY ⟨ts.1, hS⟩ ⟨tr.1, hR⟩ fy
 have ra := p_Around (n := bits) (m := 9) fb (by decide) (by decide)
 have a0 := aro_nonneg bits (m := 9) (by decide)
 have a1 := aro_lt bits (m := 9) (by decide)
 obtain ⟨m, hm⟩ : ∃ m : Nat, 1019 + aro bits 9 = (m : Int) := ⟨(1019 + aro bits 9).toNat, by omega⟩
 have mb : 1019 ≤ m ∧ m ≤ 1027 := by omega
 generalize aro bits 9 = ab at *
 obtain ⟨o1, o11, o12, o1i, o1z, o1o⟩ := wh_ex (n := 1) (by decide)
 obtain ⟨w2, w21, w22, w2i, w2z, w2o⟩ := wh_ex (n := 2) (by decide)
 obtain ⟨wX, wX1, wX2, wXi, wXz, wXo⟩ := wh_ex (n := X) (by unfold Fits64; omega)
 have ob := p_own b
 refine pf_run (xf := x_l10_TerrainLong) rfl (by simp [x_l10_TerrainLong]) ?_
 simp only [x_l10_TerrainLong]
 simp (disch := omega) only [go_sem, seval, wqa, wqb, wqc, wqd, wqe, ht, o1o]
 refine wk_ind x_l10_TerrainLong_l1.eq_1 (fun (i : Nat) fr M => i ≤ m ∧ fr 0 = ints xs ∧ fr 1 = .i .i64 bits ∧ fr 2 = .b w ∧ fr 3 = .i .i64 y ∧ fr 9 = .p 0 0 ∧ fr 10 = .p 1 0 ∧ fr 11 = (PV.i .i64 ((i : Nat) : Int)) ∧ ∃ (f : FQ) (v : Nat), f.p.v = two i ∧ f.q.v = 1 ∧
  M = [some ⟨[.i .i64 X, .i .i64 Y, .i .i64 S, .i .i64 C, .i .i64 R, ints hs], true, 1⟩, some ⟨[.b (decide (f.p.v < 0)), T f.p.v.natAbs, .b (decide (f.q.v < 0)), T f.q.v.natAbs], true, v⟩]) (fun i => m - i) ?_ 0
  ⟨Nat.zero_le _, by simp only [go_sem, seval], by simp only [go_sem, seval], by simp only [go_sem, seval], by simp only [go_sem, seval], by simp only [go_sem, seval], by simp only [go_sem, seval], by simp only [go_sem, seval], o1, _, by rw [o11]; rfl, o12, rfl⟩
 rintro i fr M ⟨hi, f0, f1, f2, f3, f9, f10, f11, f, v, fp, fq, rfl⟩ ih
 by_cases hil : i < m
 ·have q1 : ((i : Int) < (m : Int)) = True := eq_true (by omega)
  have fi := is_self f
  rw [fp, fq] at fi
  obtain ⟨g, _, g2, gi, _⟩ := mul_ir f w2 (fsz_two (by omega) fp fq) w2z (by decide) fi w2i
  have tg := p_rTimes g2
  have e2 : two i * 2 = two (i + 1) := by unfold two; rw [Nat.pow_succ]; push_cast; rfl
  rw [e2, Int.mul_one] at gi
  obtain ⟨gp, gq⟩ := is_one gi
  simp (disch := omega) only [go_sem, seval, wqa, wqb, wqc, wqd, wqe, f0, f1, f2, f3, f9, f10, f11, ra, hm, q1]
  refine wk_calmX [10] rfl (by simp only [go_sem, seval, f10]) ?_
  simp (disch := omega) only [go_sem, seval, wqa, wqb, wqc, wqd, wqe, f0, f1, f2, f3, f9, f10, f11, w2o, tg]
  exact ih (i + 1) _ _ (by omega) ⟨by omega, by simp only [go_sem, seval, f0], by simp only [go_sem, seval, f1], by simp only [go_sem, seval, f2], by simp only [go_sem, seval, f3], by simp only [go_sem, seval, f9], by simp only [go_sem, seval, f10], by simp only [go_sem, seval]; rw [Int.natCast_succ], g, _, gp, gq, rfl⟩
 ·obtain rfl : i = m := by omega
  have q1 : ((i : Int) < (i : Int)) = False := eq_false (by omega)
  clear ih
  have fin : ∀ (x : FQ) (fr' : PFr) (v' : Nat), True := fun _ _ _ => trivial
  cases w
  ·obtain ⟨h, ii, jj, e, e1, e2, e3⟩ := both_atG (k := 200) (by decide) t b1 (fsz_mono (fsz_two (f := f) (by omega) fp fq) (by decide)) b2
   have of := p_own f
   have s1 := p_fString h
   have l1 := wi_tlen h.p
   have l2 := wi_tlen h.q
   have s2 : pf E0 196 [rfQ h] = some (.s (ftx h.p.v h.q.v)) := p_rfText h.p.v h.q.v (by omega) (by omega)
   clear fp fq
   simp (disch := omega) only [go_sem, seval, wqa, wqb, wqc, wqd, wqe, f0, f1, f2, f3, f9, f10, f11, ra, hm, q1, cb]
   refine wk_calmX [9, 12] rfl (by simp only [go_sem, seval, f9]) ?_
   simp (disch := omega) only [go_sem, seval, wqa, wqb, wqc, wqd, wqe, f9, f10, of, ob, e1]
   refine wk_calmX [9, 12] rfl (by simp only [go_sem, seval, f9]) ?_
   simp (disch := omega) only [go_sem, seval, wqa, wqb, wqc, wqd, wqe, f9, f10, of, ob, e2, e3]
   refine wk_calmX [18] rfl (by simp only [go_sem, seval]) ?_
   simp (disch := omega) only [go_sem, seval, wqa, wqb, wqc, wqd, wqe, s1, s2, lv]
  ·have fi := is_self f
   rw [fp, fq] at fi
   have f0p : f.p.v ≠ 0 := by
    rw [fp]; unfold two
    have := Nat.pow_pos (n := i) (show 0 < 2 by decide)
    omega
   obtain ⟨g, _, g2, gi, gz⟩ := div_ir o1 f f0p o1z (fsz_two (by omega) fp fq) (by decide) o1i fi
   have tg := p_rOver g2
   obtain ⟨k, _, k2, ki, kz⟩ := add_ir wX g wXz gz (by decide) wXi gi
   have tk := p_rPlus k2
   obtain ⟨h, ii, jj, e, e1, e2, e3⟩ := both_atG (k := 200) (by decide) t b1 (fsz_mono kz (by decide)) b2
   have of := p_own k
   have s1 := p_fString h
   have l1 := wi_tlen h.p
   have l2 := wi_tlen h.q
   have s2 : pf E0 196 [rfQ h] = some (.s (ftx h.p.v h.q.v)) := p_rfText h.p.v h.q.v (by omega) (by omega)
   clear fp fq ki gi
   simp (disch := omega) only [go_sem, seval, wqa, wqb, wqc, wqd, wqe, f0, f1, f2, f3, f9, f10, f11, ra, hm, q1]
   refine wk_calmX [10] rfl (by simp only [go_sem, seval, f10]) ?_
   simp (disch := omega) only [go_sem, seval, wqa, wqb, wqc, wqd, wqe, f0, f1, f2, f3, f9, f10, f11, wXo, o1o, tg, tk, cb]
   refine wk_calmX [9, 12] rfl (by simp only [go_sem, seval, f9]) ?_
   simp (disch := omega) only [go_sem, seval, wqa, wqb, wqc, wqd, wqe, f9, f10, of, ob, e1]
   refine wk_calmX [9, 12] rfl (by simp only [go_sem, seval, f9]) ?_
   simp (disch := omega) only [go_sem, seval, wqa, wqb, wqc, wqd, wqe, f9, f10, of, ob, e2, e3]
   refine wk_calmX [18] rfl (by simp only [go_sem, seval]) ?_
   simp (disch := omega) only [go_sem, seval, wqa, wqb, wqc, wqd, wqe, s1, s2, lv]
end Go.Eng
