/- The engine and the contracts on which the statement stands: no conditions of its own. -/
import Derived.Test.YtfkpdmnabhejpaaGreatDoorMine5
set_option linter.unusedSimpArgs false
set_option linter.unusedVariables false
set_option linter.unusedSectionVars false
namespace Go.Eng
noncomputable def pS (a b : Nat → WI) (i k : Nat) : Nat → WI
 | 0 => wi0
 | j + 1 => aW (pS a b i k j) (tW (a (3 * i + j)) (b (3 * j + k)))
noncomputable def prW (a b : Nat → WI) : Nat → WI := fun e => pS a b (e / 3) (e % 3) 3
set_option maxHeartbeats 4000000 in
theorem zot (a b : Nat → WI) : pf E0 316 [mW a, mW b] = some (mW (prW a b)) := by
 refine zaa (xf := zvO) rfl (by simp [zvO]) ?_
 simp only [zvO]
 simp (disch := omega) only [go_sem, seval, wqq]
 refine zat zxb.eq_1 (fun (i : Nat) fr M => i ≤ 3 ∧ fr 2 = .p 0 0 ∧ fr 3 = .p 1 0 ∧ fr 4 = .p 2 0 ∧ fr 5 = .p 3 0 ∧ fr 9 = (PV.i .i64 ((i : Nat) : Int)) ∧ ∃ c v, M = [some ⟨cW a, true, 0⟩, some ⟨cW b, true, 0⟩, some ⟨cP 0 zW, true, c⟩, some ⟨cS (sB (3 * i)) (prW a b), true, v⟩]) (fun i => 3 - i) ?_ 0 ⟨by omega, by simp only [go_sem, seval], by simp only [go_sem, seval], by simp only [go_sem, seval], by simp only [go_sem, seval], by simp only [go_sem, seval], _, _, rfl⟩
 rintro i fr M ⟨hi, f2, f3, f4, f5, f9, c, v, rfl⟩ ih
 rcases Nat.lt_or_ge i 3 with h3 | h3
 ·have q1 : ((i : Int) < 3) = True := eq_true (by omega)
  simp (disch := omega) only [go_sem, seval, wqq, f2, f3, f4, f5, f9, q1]
  refine zat zxe.eq_1 (fun (k : Nat) fr M => k ≤ 3 ∧ fr 2 = .p 0 0 ∧ fr 3 = .p 1 0 ∧ fr 4 = .p 2 0 ∧ fr 5 = .p 3 0 ∧ fr 9 = (PV.i .i64 ((i : Nat) : Int)) ∧ fr 6 = (PV.i .i64 ((i : Nat) : Int)) ∧ fr 12 = (PV.i .i64 ((k : Nat) : Int)) ∧ ∃ c v, M = [some ⟨cW a, true, 0⟩, some ⟨cW b, true, 0⟩, some ⟨cP 0 zW, true, c⟩, some ⟨cS (sB (3 * i + k)) (prW a b), true, v⟩]) (fun k => 3 - k) ?_ 0 ⟨by omega, by simp only [go_sem, seval, f2], by simp only [go_sem, seval, f3], by simp only [go_sem, seval, f4], by simp only [go_sem, seval, f5], by simp only [go_sem, seval, f9], by simp only [go_sem, seval], by simp only [go_sem, seval], _, _, rfl⟩
  rintro k fr M ⟨hk, f2, f3, f4, f5, f9, f6, f12, c, v, rfl⟩ ih2
  rcases Nat.lt_or_ge k 3 with h4 | h4
  ·have q2 : ((k : Int) < 3) = True := eq_true (by omega)
   obtain rfl | rfl | rfl := zhJ h3 <;> obtain rfl | rfl | rfl := zhJ h4
   ·have t1 := zao (a 0) (b 0)
    have t2 := zao (a 1) (b 3)
    have t3 := zao (a 2) (b 6)
    have s1 := zax wi0 (tW (a 0) (b 0))
    have s2 := zax (aW wi0 (tW (a 0) (b 0))) (tW (a 1) (b 3))
    have s3 := zax (aW (aW wi0 (tW (a 0) (b 0))) (tW (a 1) (b 3))) (tW (a 2) (b 6))
    simp (disch := omega) only [go_sem, seval, wqq, f2, f3, f4, f5, f9, f6, f12]
    refine zac zuV.eq_1 ?_
    simp (disch := omega) only [go_sem, seval, wqq, f2, f3, f4, f5, f9, f6, f12]
    refine zaf [26] rfl ?_ ?_
    ·simp (disch := omega) only [go_sem, seval, wqq, f2, f3, f4, f5, f9, f6, f12, zad, zaq, sB, t1, s1]
     exact ⟨_, rfl, rfl⟩
    simp (disch := omega) only [go_sem, seval, wqq, f2, f3, f4, f5, f9, f6, f12, zad, zaq, sB, t1, s1]
    refine zac zuV.eq_1 ?_
    simp (disch := omega) only [go_sem, seval, wqq, f2, f3, f4, f5, f9, f6, f12]
    refine zaf [26] rfl ?_ ?_
    ·simp (disch := omega) only [go_sem, seval, wqq, f2, f3, f4, f5, f9, f6, f12, zad, zaq, sB, t2, s2]
     exact ⟨_, rfl, rfl⟩
    simp (disch := omega) only [go_sem, seval, wqq, f2, f3, f4, f5, f9, f6, f12, zad, zaq, sB, t2, s2]
    refine zac zuV.eq_1 ?_
    simp (disch := omega) only [go_sem, seval, wqq, f2, f3, f4, f5, f9, f6, f12]
    refine zaf [26] rfl ?_ ?_
    ·simp (disch := omega) only [go_sem, seval, wqq, f2, f3, f4, f5, f9, f6, f12, zad, zaq, sB, t3, s3]
     exact ⟨_, rfl, rfl⟩
    simp (disch := omega) only [go_sem, seval, wqq, f2, f3, f4, f5, f9, f6, f12, zad, zaq, sB, t3, s3]
    refine zac zuV.eq_1 ?_
    simp (disch := omega) only [go_sem, seval, wqq, f2, f3, f4, f5, f9, f6, f12]
    exact ih2 1 _ _ (by omega) ⟨by omega, by simp only [go_sem, seval, f2], by simp only [go_sem, seval, f3], by simp only [go_sem, seval, f4], by simp only [go_sem, seval, f5], by simp only [go_sem, seval, f9], by simp only [go_sem, seval, f6], by simp only [go_sem, seval], _, _, rfl⟩
   ·have t1 := zao (a 0) (b 1)
    have t2 := zao (a 1) (b 4)
    have t3 := zao (a 2) (b 7)
    have s1 := zax wi0 (tW (a 0) (b 1))
    have s2 := zax (aW wi0 (tW (a 0) (b 1))) (tW (a 1) (b 4))
    have s3 := zax (aW (aW wi0 (tW (a 0) (b 1))) (tW (a 1) (b 4))) (tW (a 2) (b 7))
    simp (disch := omega) only [go_sem, seval, wqq, f2, f3, f4, f5, f9, f6, f12]
    refine zac zuV.eq_1 ?_
    simp (disch := omega) only [go_sem, seval, wqq, f2, f3, f4, f5, f9, f6, f12]
    refine zaf [26] rfl ?_ ?_
    ·simp (disch := omega) only [go_sem, seval, wqq, f2, f3, f4, f5, f9, f6, f12, zad, zaq, sB, t1, s1]
     exact ⟨_, rfl, rfl⟩
    simp (disch := omega) only [go_sem, seval, wqq, f2, f3, f4, f5, f9, f6, f12, zad, zaq, sB, t1, s1]
    refine zac zuV.eq_1 ?_
    simp (disch := omega) only [go_sem, seval, wqq, f2, f3, f4, f5, f9, f6, f12]
    refine zaf [26] rfl ?_ ?_
    ·simp (disch := omega) only [go_sem, seval, wqq, f2, f3, f4, f5, f9, f6, f12, zad, zaq, sB, t2, s2]
     exact ⟨_, rfl, rfl⟩
    simp (disch := omega) only [go_sem, seval, wqq, f2, f3, f4, f5, f9, f6, f12, zad, zaq, sB, t2, s2]
    refine zac zuV.eq_1 ?_
    simp (disch := omega) only [go_sem, seval, wqq, f2, f3, f4, f5, f9, f6, f12]
    refine zaf [26] rfl ?_ ?_
    ·simp (disch := omega) only [go_sem, seval, wqq, f2, f3, f4, f5, f9, f6, f12, zad, zaq, sB, t3, s3]
     exact ⟨_, rfl, rfl⟩
    simp (disch := omega) only [go_sem, seval, wqq, f2, f3, f4, f5, f9, f6, f12, zad, zaq, sB, t3, s3]
    refine zac zuV.eq_1 ?_
    simp (disch := omega) only [go_sem, seval, wqq, f2, f3, f4, f5, f9, f6, f12]
    exact ih2 2 _ _ (by omega) ⟨by omega, by simp only [go_sem, seval, f2], by simp only [go_sem, seval, f3], by simp only [go_sem, seval, f4], by simp only [go_sem, seval, f5], by simp only [go_sem, seval, f9], by simp only [go_sem, seval, f6], by simp only [go_sem, seval], _, _, rfl⟩
   ·have t1 := zao (a 0) (b 2)
    have t2 := zao (a 1) (b 5)
    have t3 := zao (a 2) (b 8)
    have s1 := zax wi0 (tW (a 0) (b 2))
    have s2 := zax (aW wi0 (tW (a 0) (b 2))) (tW (a 1) (b 5))
    have s3 := zax (aW (aW wi0 (tW (a 0) (b 2))) (tW (a 1) (b 5))) (tW (a 2) (b 8))
    simp (disch := omega) only [go_sem, seval, wqq, f2, f3, f4, f5, f9, f6, f12]
    refine zac zuV.eq_1 ?_
    simp (disch := omega) only [go_sem, seval, wqq, f2, f3, f4, f5, f9, f6, f12]
    refine zaf [26] rfl ?_ ?_
    ·simp (disch := omega) only [go_sem, seval, wqq, f2, f3, f4, f5, f9, f6, f12, zad, zaq, sB, t1, s1]
     exact ⟨_, rfl, rfl⟩
    simp (disch := omega) only [go_sem, seval, wqq, f2, f3, f4, f5, f9, f6, f12, zad, zaq, sB, t1, s1]
    refine zac zuV.eq_1 ?_
    simp (disch := omega) only [go_sem, seval, wqq, f2, f3, f4, f5, f9, f6, f12]
    refine zaf [26] rfl ?_ ?_
    ·simp (disch := omega) only [go_sem, seval, wqq, f2, f3, f4, f5, f9, f6, f12, zad, zaq, sB, t2, s2]
     exact ⟨_, rfl, rfl⟩
    simp (disch := omega) only [go_sem, seval, wqq, f2, f3, f4, f5, f9, f6, f12, zad, zaq, sB, t2, s2]
    refine zac zuV.eq_1 ?_
    simp (disch := omega) only [go_sem, seval, wqq, f2, f3, f4, f5, f9, f6, f12]
    refine zaf [26] rfl ?_ ?_
    ·simp (disch := omega) only [go_sem, seval, wqq, f2, f3, f4, f5, f9, f6, f12, zad, zaq, sB, t3, s3]
     exact ⟨_, rfl, rfl⟩
    simp (disch := omega) only [go_sem, seval, wqq, f2, f3, f4, f5, f9, f6, f12, zad, zaq, sB, t3, s3]
    refine zac zuV.eq_1 ?_
    simp (disch := omega) only [go_sem, seval, wqq, f2, f3, f4, f5, f9, f6, f12]
    exact ih2 3 _ _ (by omega) ⟨by omega, by simp only [go_sem, seval, f2], by simp only [go_sem, seval, f3], by simp only [go_sem, seval, f4], by simp only [go_sem, seval, f5], by simp only [go_sem, seval, f9], by simp only [go_sem, seval, f6], by simp only [go_sem, seval], _, _, rfl⟩
   ·have t1 := zao (a 3) (b 0)
    have t2 := zao (a 4) (b 3)
    have t3 := zao (a 5) (b 6)
    have s1 := zax wi0 (tW (a 3) (b 0))
    have s2 := zax (aW wi0 (tW (a 3) (b 0))) (tW (a 4) (b 3))
    have s3 := zax (aW (aW wi0 (tW (a 3) (b 0))) (tW (a 4) (b 3))) (tW (a 5) (b 6))
    simp (disch := omega) only [go_sem, seval, wqq, f2, f3, f4, f5, f9, f6, f12]
    refine zac zuV.eq_1 ?_
    simp (disch := omega) only [go_sem, seval, wqq, f2, f3, f4, f5, f9, f6, f12]
    refine zaf [26] rfl ?_ ?_
    ·simp (disch := omega) only [go_sem, seval, wqq, f2, f3, f4, f5, f9, f6, f12, zad, zaq, sB, t1, s1]
     exact ⟨_, rfl, rfl⟩
    simp (disch := omega) only [go_sem, seval, wqq, f2, f3, f4, f5, f9, f6, f12, zad, zaq, sB, t1, s1]
    refine zac zuV.eq_1 ?_
    simp (disch := omega) only [go_sem, seval, wqq, f2, f3, f4, f5, f9, f6, f12]
    refine zaf [26] rfl ?_ ?_
    ·simp (disch := omega) only [go_sem, seval, wqq, f2, f3, f4, f5, f9, f6, f12, zad, zaq, sB, t2, s2]
     exact ⟨_, rfl, rfl⟩
    simp (disch := omega) only [go_sem, seval, wqq, f2, f3, f4, f5, f9, f6, f12, zad, zaq, sB, t2, s2]
    refine zac zuV.eq_1 ?_
    simp (disch := omega) only [go_sem, seval, wqq, f2, f3, f4, f5, f9, f6, f12]
    refine zaf [26] rfl ?_ ?_
    ·simp (disch := omega) only [go_sem, seval, wqq, f2, f3, f4, f5, f9, f6, f12, zad, zaq, sB, t3, s3]
     exact ⟨_, rfl, rfl⟩
    simp (disch := omega) only [go_sem, seval, wqq, f2, f3, f4, f5, f9, f6, f12, zad, zaq, sB, t3, s3]
    refine zac zuV.eq_1 ?_
    simp (disch := omega) only [go_sem, seval, wqq, f2, f3, f4, f5, f9, f6, f12]
    exact ih2 1 _ _ (by omega) ⟨by omega, by simp only [go_sem, seval, f2], by simp only [go_sem, seval, f3], by simp only [go_sem, seval, f4], by simp only [go_sem, seval, f5], by simp only [go_sem, seval, f9], by simp only [go_sem, seval, f6], by simp only [go_sem, seval], _, _, rfl⟩
   ·have t1 := zao (a 3) (b 1)
    have t2 := zao (a 4) (b 4)
    have t3 := zao (a 5) (b 7)
    have s1 := zax wi0 (tW (a 3) (b 1))
    have s2 := zax (aW wi0 (tW (a 3) (b 1))) (tW (a 4) (b 4))
    have s3 := zax (aW (aW wi0 (tW (a 3) (b 1))) (tW (a 4) (b 4))) (tW (a 5) (b 7))
    simp (disch := omega) only [go_sem, seval, wqq, f2, f3, f4, f5, f9, f6, f12]
    refine zac zuV.eq_1 ?_
    simp (disch := omega) only [go_sem, seval, wqq, f2, f3, f4, f5, f9, f6, f12]
    refine zaf [26] rfl ?_ ?_
    ·simp (disch := omega) only [go_sem, seval, wqq, f2, f3, f4, f5, f9, f6, f12, zad, zaq, sB, t1, s1]
     exact ⟨_, rfl, rfl⟩
    simp (disch := omega) only [go_sem, seval, wqq, f2, f3, f4, f5, f9, f6, f12, zad, zaq, sB, t1, s1]
    refine zac zuV.eq_1 ?_
    simp (disch := omega) only [go_sem, seval, wqq, f2, f3, f4, f5, f9, f6, f12]
    refine zaf [26] rfl ?_ ?_
    ·simp (disch := omega) only [go_sem, seval, wqq, f2, f3, f4, f5, f9, f6, f12, zad, zaq, sB, t2, s2]
     exact ⟨_, rfl, rfl⟩
    simp (disch := omega) only [go_sem, seval, wqq, f2, f3, f4, f5, f9, f6, f12, zad, zaq, sB, t2, s2]
    refine zac zuV.eq_1 ?_
    simp (disch := omega) only [go_sem, seval, wqq, f2, f3, f4, f5, f9, f6, f12]
    refine zaf [26] rfl ?_ ?_
    ·simp (disch := omega) only [go_sem, seval, wqq, f2, f3, f4, f5, f9, f6, f12, zad, zaq, sB, t3, s3]
     exact ⟨_, rfl, rfl⟩
    simp (disch := omega) only [go_sem, seval, wqq, f2, f3, f4, f5, f9, f6, f12, zad, zaq, sB, t3, s3]
    refine zac zuV.eq_1 ?_
    simp (disch := omega) only [go_sem, seval, wqq, f2, f3, f4, f5, f9, f6, f12]
    exact ih2 2 _ _ (by omega) ⟨by omega, by simp only [go_sem, seval, f2], by simp only [go_sem, seval, f3], by simp only [go_sem, seval, f4], by simp only [go_sem, seval, f5], by simp only [go_sem, seval, f9], by simp only [go_sem, seval, f6], by simp only [go_sem, seval], _, _, rfl⟩
   ·have t1 := zao (a 3) (b 2)
    have t2 := zao (a 4) (b 5)
    have t3 := zao (a 5) (b 8)
    have s1 := zax wi0 (tW (a 3) (b 2))
    have s2 := zax (aW wi0 (tW (a 3) (b 2))) (tW (a 4) (b 5))
    have s3 := zax (aW (aW wi0 (tW (a 3) (b 2))) (tW (a 4) (b 5))) (tW (a 5) (b 8))
    simp (disch := omega) only [go_sem, seval, wqq, f2, f3, f4, f5, f9, f6, f12]
    refine zac zuV.eq_1 ?_
    simp (disch := omega) only [go_sem, seval, wqq, f2, f3, f4, f5, f9, f6, f12]
    refine zaf [26] rfl ?_ ?_
    ·simp (disch := omega) only [go_sem, seval, wqq, f2, f3, f4, f5, f9, f6, f12, zad, zaq, sB, t1, s1]
     exact ⟨_, rfl, rfl⟩
    simp (disch := omega) only [go_sem, seval, wqq, f2, f3, f4, f5, f9, f6, f12, zad, zaq, sB, t1, s1]
    refine zac zuV.eq_1 ?_
    simp (disch := omega) only [go_sem, seval, wqq, f2, f3, f4, f5, f9, f6, f12]
    refine zaf [26] rfl ?_ ?_
    ·simp (disch := omega) only [go_sem, seval, wqq, f2, f3, f4, f5, f9, f6, f12, zad, zaq, sB, t2, s2]
     exact ⟨_, rfl, rfl⟩
    simp (disch := omega) only [go_sem, seval, wqq, f2, f3, f4, f5, f9, f6, f12, zad, zaq, sB, t2, s2]
    refine zac zuV.eq_1 ?_
    simp (disch := omega) only [go_sem, seval, wqq, f2, f3, f4, f5, f9, f6, f12]
    refine zaf [26] rfl ?_ ?_
    ·simp (disch := omega) only [go_sem, seval, wqq, f2, f3, f4, f5, f9, f6, f12, zad, zaq, sB, t3, s3]
     exact ⟨_, rfl, rfl⟩
    simp (disch := omega) only [go_sem, seval, wqq, f2, f3, f4, f5, f9, f6, f12, zad, zaq, sB, t3, s3]
    refine zac zuV.eq_1 ?_
    simp (disch := omega) only [go_sem, seval, wqq, f2, f3, f4, f5, f9, f6, f12]
    exact ih2 3 _ _ (by omega) ⟨by omega, by simp only [go_sem, seval, f2], by simp only [go_sem, seval, f3], by simp only [go_sem, seval, f4], by simp only [go_sem, seval, f5], by simp only [go_sem, seval, f9], by simp only [go_sem, seval, f6], by simp only [go_sem, seval], _, _, rfl⟩
   ·have t1 := zao (a 6) (b 0)
    have t2 := zao (a 7) (b 3)
    have t3 := zao (a 8) (b 6)
    have s1 := zax wi0 (tW (a 6) (b 0))
    have s2 := zax (aW wi0 (tW (a 6) (b 0))) (tW (a 7) (b 3))
    have s3 := zax (aW (aW wi0 (tW (a 6) (b 0))) (tW (a 7) (b 3))) (tW (a 8) (b 6))
    simp (disch := omega) only [go_sem, seval, wqq, f2, f3, f4, f5, f9, f6, f12]
    refine zac zuV.eq_1 ?_
    simp (disch := omega) only [go_sem, seval, wqq, f2, f3, f4, f5, f9, f6, f12]
    refine zaf [26] rfl ?_ ?_
    ·simp (disch := omega) only [go_sem, seval, wqq, f2, f3, f4, f5, f9, f6, f12, zad, zaq, sB, t1, s1]
     exact ⟨_, rfl, rfl⟩
    simp (disch := omega) only [go_sem, seval, wqq, f2, f3, f4, f5, f9, f6, f12, zad, zaq, sB, t1, s1]
    refine zac zuV.eq_1 ?_
    simp (disch := omega) only [go_sem, seval, wqq, f2, f3, f4, f5, f9, f6, f12]
    refine zaf [26] rfl ?_ ?_
    ·simp (disch := omega) only [go_sem, seval, wqq, f2, f3, f4, f5, f9, f6, f12, zad, zaq, sB, t2, s2]
     exact ⟨_, rfl, rfl⟩
    simp (disch := omega) only [go_sem, seval, wqq, f2, f3, f4, f5, f9, f6, f12, zad, zaq, sB, t2, s2]
    refine zac zuV.eq_1 ?_
    simp (disch := omega) only [go_sem, seval, wqq, f2, f3, f4, f5, f9, f6, f12]
    refine zaf [26] rfl ?_ ?_
    ·simp (disch := omega) only [go_sem, seval, wqq, f2, f3, f4, f5, f9, f6, f12, zad, zaq, sB, t3, s3]
     exact ⟨_, rfl, rfl⟩
    simp (disch := omega) only [go_sem, seval, wqq, f2, f3, f4, f5, f9, f6, f12, zad, zaq, sB, t3, s3]
    refine zac zuV.eq_1 ?_
    simp (disch := omega) only [go_sem, seval, wqq, f2, f3, f4, f5, f9, f6, f12]
    exact ih2 1 _ _ (by omega) ⟨by omega, by simp only [go_sem, seval, f2], by simp only [go_sem, seval, f3], by simp only [go_sem, seval, f4], by simp only [go_sem, seval, f5], by simp only [go_sem, seval, f9], by simp only [go_sem, seval, f6], by simp only [go_sem, seval], _, _, rfl⟩
   ·have t1 := zao (a 6) (b 1)
    have t2 := zao (a 7) (b 4)
    have t3 := zao (a 8) (b 7)
    have s1 := zax wi0 (tW (a 6) (b 1))
    have s2 := zax (aW wi0 (tW (a 6) (b 1))) (tW (a 7) (b 4))
    have s3 := zax (aW (aW wi0 (tW (a 6) (b 1))) (tW (a 7) (b 4))) (tW (a 8) (b 7))
    simp (disch := omega) only [go_sem, seval, wqq, f2, f3, f4, f5, f9, f6, f12]
    refine zac zuV.eq_1 ?_
    simp (disch := omega) only [go_sem, seval, wqq, f2, f3, f4, f5, f9, f6, f12]
    refine zaf [26] rfl ?_ ?_
    ·simp (disch := omega) only [go_sem, seval, wqq, f2, f3, f4, f5, f9, f6, f12, zad, zaq, sB, t1, s1]
     exact ⟨_, rfl, rfl⟩
    simp (disch := omega) only [go_sem, seval, wqq, f2, f3, f4, f5, f9, f6, f12, zad, zaq, sB, t1, s1]
    refine zac zuV.eq_1 ?_
    simp (disch := omega) only [go_sem, seval, wqq, f2, f3, f4, f5, f9, f6, f12]
    refine zaf [26] rfl ?_ ?_
    ·simp (disch := omega) only [go_sem, seval, wqq, f2, f3, f4, f5, f9, f6, f12, zad, zaq, sB, t2, s2]
     exact ⟨_, rfl, rfl⟩
    simp (disch := omega) only [go_sem, seval, wqq, f2, f3, f4, f5, f9, f6, f12, zad, zaq, sB, t2, s2]
    refine zac zuV.eq_1 ?_
    simp (disch := omega) only [go_sem, seval, wqq, f2, f3, f4, f5, f9, f6, f12]
    refine zaf [26] rfl ?_ ?_
    ·simp (disch := omega) only [go_sem, seval, wqq, f2, f3, f4, f5, f9, f6, f12, zad, zaq, sB, t3, s3]
     exact ⟨_, rfl, rfl⟩
    simp (disch := omega) only [go_sem, seval, wqq, f2, f3, f4, f5, f9, f6, f12, zad, zaq, sB, t3, s3]
    refine zac zuV.eq_1 ?_
    simp (disch := omega) only [go_sem, seval, wqq, f2, f3, f4, f5, f9, f6, f12]
    exact ih2 2 _ _ (by omega) ⟨by omega, by simp only [go_sem, seval, f2], by simp only [go_sem, seval, f3], by simp only [go_sem, seval, f4], by simp only [go_sem, seval, f5], by simp only [go_sem, seval, f9], by simp only [go_sem, seval, f6], by simp only [go_sem, seval], _, _, rfl⟩
   ·have t1 := zao (a 6) (b 2)
    have t2 := zao (a 7) (b 5)
    have t3 := zao (a 8) (b 8)
    have s1 := zax wi0 (tW (a 6) (b 2))
    have s2 := zax (aW wi0 (tW (a 6) (b 2))) (tW (a 7) (b 5))
    have s3 := zax (aW (aW wi0 (tW (a 6) (b 2))) (tW (a 7) (b 5))) (tW (a 8) (b 8))
    simp (disch := omega) only [go_sem, seval, wqq, f2, f3, f4, f5, f9, f6, f12]
    refine zac zuV.eq_1 ?_
    simp (disch := omega) only [go_sem, seval, wqq, f2, f3, f4, f5, f9, f6, f12]
    refine zaf [26] rfl ?_ ?_
    ·simp (disch := omega) only [go_sem, seval, wqq, f2, f3, f4, f5, f9, f6, f12, zad, zaq, sB, t1, s1]
     exact ⟨_, rfl, rfl⟩
    simp (disch := omega) only [go_sem, seval, wqq, f2, f3, f4, f5, f9, f6, f12, zad, zaq, sB, t1, s1]
    refine zac zuV.eq_1 ?_
    simp (disch := omega) only [go_sem, seval, wqq, f2, f3, f4, f5, f9, f6, f12]
    refine zaf [26] rfl ?_ ?_
    ·simp (disch := omega) only [go_sem, seval, wqq, f2, f3, f4, f5, f9, f6, f12, zad, zaq, sB, t2, s2]
     exact ⟨_, rfl, rfl⟩
    simp (disch := omega) only [go_sem, seval, wqq, f2, f3, f4, f5, f9, f6, f12, zad, zaq, sB, t2, s2]
    refine zac zuV.eq_1 ?_
    simp (disch := omega) only [go_sem, seval, wqq, f2, f3, f4, f5, f9, f6, f12]
    refine zaf [26] rfl ?_ ?_
    ·simp (disch := omega) only [go_sem, seval, wqq, f2, f3, f4, f5, f9, f6, f12, zad, zaq, sB, t3, s3]
     exact ⟨_, rfl, rfl⟩
    simp (disch := omega) only [go_sem, seval, wqq, f2, f3, f4, f5, f9, f6, f12, zad, zaq, sB, t3, s3]
    refine zac zuV.eq_1 ?_
    simp (disch := omega) only [go_sem, seval, wqq, f2, f3, f4, f5, f9, f6, f12]
    exact ih2 3 _ _ (by omega) ⟨by omega, by simp only [go_sem, seval, f2], by simp only [go_sem, seval, f3], by simp only [go_sem, seval, f4], by simp only [go_sem, seval, f5], by simp only [go_sem, seval, f9], by simp only [go_sem, seval, f6], by simp only [go_sem, seval], _, _, rfl⟩
  ·obtain rfl : k = 3 := by omega
   simp (disch := omega) only [go_sem, seval, wqq, f2, f3, f4, f5, f9, f6, f12]
   exact ih (i + 1) _ _ (by omega) ⟨by omega, by simp only [go_sem, seval, f2], by simp only [go_sem, seval, f3], by simp only [go_sem, seval, f4], by simp only [go_sem, seval, f5], by simp only [go_sem, seval]; rw [Int.natCast_succ], c, v, rfl⟩
 ·obtain rfl : i = 3 := by omega
  have c9 : cS (sB (3 * 3)) (prW a b) = cW (prW a b) := rfl
  simp (disch := omega) only [go_sem, seval, wqq, f2, f3, f4, f5, f9, c9]
end Go.Eng
namespace Go.Eng
def rpK (a b c d e f : Int) : Int := 0 + a * b + c * d + e * f
def rprV (z u : Nat → Int) : Nat → Int := fun e => rpK (z (3 * (e / 3))) (u (e % 3)) (z (3 * (e / 3) + 1)) (u (3 + e % 3)) (z (3 * (e / 3) + 2)) (u (6 + e % 3))
end Go.Eng
namespace Go.Eng
end Go.Eng
namespace Go.Eng
theorem zcs (a b : Int) : wlen (a * b).natAbs ≤ wlen a.natAbs + wlen b.natAbs := by
 rw [Int.natAbs_mul]
 refine zaT.2 ?_
 rw [Nat.pow_add]
 exact Nat.mul_lt_mul'' (zah _) (zah _)
theorem zkV (a b : Nat) : wlen (a + b) ≤ max (wlen a) (wlen b) + 1 := by
 refine zaT.2 ?_
 have h1 : 4294967296 ^ wlen a ≤ 4294967296 ^ max (wlen a) (wlen b) := Nat.pow_le_pow_right (by decide) (Nat.le_max_left _ _)
 have h2 : 4294967296 ^ wlen b ≤ 4294967296 ^ max (wlen a) (wlen b) := Nat.pow_le_pow_right (by decide) (Nat.le_max_right _ _)
 have h3 := zah a
 have h4 := zah b
 rw [Nat.pow_succ]
 generalize 4294967296 ^ max (wlen a) (wlen b) = t at *
 omega
theorem zcr (a b : Int) : wlen (a + b).natAbs ≤ max (wlen a.natAbs) (wlen b.natAbs) + 1 :=
 Nat.le_trans (zbs (Int.natAbs_add_le a b)) (zkV _ _)
theorem zfL (a b : Int) : wlen (a - b).natAbs ≤ max (wlen a.natAbs) (wlen b.natAbs) + 1 := by
 have := zcr a (-b)
 rw [Int.natAbs_neg] at this
 rw [Int.sub_eq_add_neg]; exact this
theorem zkM {a b : WI} {n m : Nat} (ha : wlen a.v.natAbs ≤ n) (hb : wlen b.v.natAbs ≤ m) (h : n + m ≤ 512) : (tW a b).v = a.v * b.v ∧ wlen (a.v * b.v).natAbs ≤ n + m := by
 have := zcs a.v b.v
 exact ⟨zdS (by omega), by omega⟩
theorem znj {a b : WI} {n m : Nat} (ha : wlen a.v.natAbs ≤ n) (hb : wlen b.v.natAbs ≤ m) (h : max n m + 1 ≤ 512) : (aW a b).v = a.v + b.v ∧ wlen (a.v + b.v).natAbs ≤ max n m + 1 := by
 have := zcr a.v b.v
 exact ⟨zdS (by omega), by omega⟩
theorem zul {a b : WI} {n m : Nat} (ha : wlen a.v.natAbs ≤ n) (hb : wlen b.v.natAbs ≤ m) (h : max n m + 1 ≤ 512) : (sW a b).v = a.v - b.v ∧ wlen (a.v - b.v).natAbs ≤ max n m + 1 := by
 have := zfL a.v b.v
 exact ⟨zdS (by omega), by omega⟩
def mnV (X : Nat → Int) (i k : Nat) : Int := X (3 * ((i + 1) % 3) + (k + 1) % 3) * X (3 * ((i + 2) % 3) + (k + 2) % 3) - X (3 * ((i + 1) % 3) + (k + 2) % 3) * X (3 * ((i + 2) % 3) + (k + 1) % 3)
theorem znY {x : Nat → WI} {n : Nat} (hx : ∀ e, wlen (x e).v.natAbs ≤ n) (hn : n ≤ 100) (i k : Nat) : (mnW x i k).v = mnV (fun e => (x e).v) i k ∧ wlen (mnW x i k).v.natAbs ≤ 2 * n + 1 := by
 unfold mnW mnV
 obtain ⟨a1, a2⟩ := zkM (hx (3 * ((i + 1) % 3) + (k + 1) % 3)) (hx (3 * ((i + 2) % 3) + (k + 2) % 3)) (by omega)
 obtain ⟨b1, b2⟩ := zkM (hx (3 * ((i + 1) % 3) + (k + 2) % 3)) (hx (3 * ((i + 2) % 3) + (k + 1) % 3)) (by omega)
 rw [← a1] at a2
 rw [← b1] at b2
 obtain ⟨c1, c2⟩ := zul a2 b2 (by omega)
 rw [a1, b1] at c1
 exact ⟨c1, by rw [← a1, ← b1] at c1; rw [c1]; omega⟩
theorem zp8 {x : Nat → WI} {n : Nat} (hx : ∀ e, wlen (x e).v.natAbs ≤ n) (hn : n ≤ 100) : (dtW x).v = rdV (fun e => (x e).v) := by
 obtain ⟨a1, a2⟩ := znY hx hn 0 0
 obtain ⟨b1, b2⟩ := znY hx hn 0 1
 obtain ⟨c1, c2⟩ := znY hx hn 0 2
 obtain ⟨t1, u1⟩ := zkM (hx 0) a2 (by omega)
 obtain ⟨t2, u2⟩ := zkM (hx 1) b2 (by omega)
 obtain ⟨t3, u3⟩ := zkM (hx 2) c2 (by omega)
 rw [← t1] at u1
 rw [← t2] at u2
 rw [← t3] at u3
 obtain ⟨s1, v1⟩ := znj u1 u2 (by omega)
 rw [← s1] at v1
 obtain ⟨s2, v2⟩ := znj v1 u3 (by omega)
 have e : (dtW x).v = (aW (aW (tW (x 0) (mnW x 0 0)) (tW (x 1) (mnW x 0 1))) (tW (x 2) (mnW x 0 2))).v := rfl
 rw [e, s2, s1, t1, t2, t3, a1, b1, c1]
 unfold rdV rtK mnV
 simp only [Nat.reduceAdd, Nat.reduceMul, Nat.reduceMod]
 generalize (x 0).v = y0
 generalize (x 1).v = y1
 generalize (x 2).v = y2
 generalize (x 3).v = y3
 generalize (x 4).v = y4
 generalize (x 5).v = y5
 generalize (x 6).v = y6
 generalize (x 7).v = y7
 generalize (x 8).v = y8
 grind
theorem zuj {x y : Nat → WI} {n : Nat} (hx : ∀ e, wlen (x e).v.natAbs ≤ n) (hy : ∀ e, wlen (y e).v.natAbs ≤ n) (hn : n ≤ 100) (e : Nat) : (prW x y e).v = rprV (fun e => (x e).v) (fun e => (y e).v) e := by
 have e0 : prW x y e = aW (aW (aW wi0 (tW (x (3 * (e / 3) + 0)) (y (3 * 0 + e % 3)))) (tW (x (3 * (e / 3) + 1)) (y (3 * 1 + e % 3)))) (tW (x (3 * (e / 3) + 2)) (y (3 * 2 + e % 3))) := rfl
 obtain ⟨t1, u1⟩ := zkM (hx (3 * (e / 3) + 0)) (hy (3 * 0 + e % 3)) (by omega)
 obtain ⟨t2, u2⟩ := zkM (hx (3 * (e / 3) + 1)) (hy (3 * 1 + e % 3)) (by omega)
 obtain ⟨t3, u3⟩ := zkM (hx (3 * (e / 3) + 2)) (hy (3 * 2 + e % 3)) (by omega)
 rw [← t1] at u1
 rw [← t2] at u2
 rw [← t3] at u3
 have z0 : wlen wi0.v.natAbs ≤ 0 := Nat.le_of_eq rfl
 obtain ⟨s1, v1⟩ := znj z0 u1 (by omega)
 rw [← s1] at v1
 obtain ⟨s2, v2⟩ := znj v1 u2 (by omega)
 rw [← s2] at v2
 obtain ⟨s3, _⟩ := znj v2 u3 (by omega)
 rw [e0, s3, s2, s1, t1, t2, t3]
 unfold rprV rpK
 simp only [Nat.add_zero, Nat.mul_zero, Nat.mul_one, Nat.zero_add]
 rfl
end Go.Eng
namespace Go.Eng
theorem zn1 {p : Nat → Int} (hp : ∀ e, Fits64 (p e)) : (fun e => (ofW p e).v) = p := funext fun e => zma (hp e)
theorem zhw {p : Nat → Int} (hp : ∀ e, Fits64 (p e)) (e : Nat) : wlen (ofW p e).v.natAbs ≤ 2 := by
 rw [zma (hp e)]
 have h := hp e
 unfold Fits64 at h
 exact zcB (by omega)
theorem zf2 {n : Int} (h : Fits64 n) : tlen n.natAbs ≤ 5 := by
 unfold Fits64 at h
 exact zal (by omega)
theorem znf {p : Nat → Int} (hp : ∀ e, Fits64 (p e)) : (dtW (ofW p)).v = rdV p := by
 rw [zp8 (zhw hp) (by decide), zn1 hp]
set_option maxHeartbeats 2000000 in
theorem zlk {p : Nat → Int} (hp : ∀ e, Fits64 (p e)) : pf E0 341 [pI p] = some (.i .i64 (vlP p)) := by
 have hm := zou hp
 have hd := zow (z := p) fun e => Nat.le_trans (zf2 (hp e)) (by decide)
 have bad : ∀ e, e < 9 → ¬ (-1073741824 ≤ p e ∧ p e ≤ 1073741824) → vlP p = 1 := fun e he h => by unfold vlP; rw [if_neg fun q => h (q e he)]
 have good : okP p → vlP p = if rdV p = 0 then 10 else 0 := fun h => by unfold vlP; rw [if_pos h, znf hp]
 have tl0 : rdV p = 0 → (tlen (rdV p).natAbs : Int) = 0 := fun h => by rw [h, Int.natAbs_zero, zaE]; rfl
 have tl1 : rdV p ≠ 0 → ¬ (tlen (rdV p).natAbs : Int) = 0 := fun h => by have := zaO (v := (rdV p).natAbs) (by omega); omega
 generalize vlP p = V at *
 generalize rdV p = d at *
 have fd : fldP false 1 1 (nP d) = some (T d.natAbs) := rfl
 refine zaa (xf := zwq) rfl (by simp [zwq]) ?_
 simp only [zwq]
 simp (disch := omega) only [go_sem, seval, wqq]
 refine zat zxx.eq_1 (fun (i : Nat) fr M => i ≤ 9 ∧ (∀ e, e < i → -1073741824 ≤ p e ∧ p e ≤ 1073741824) ∧ fr 1 = .p 0 0 ∧ fr 3 = (PV.i .i64 ((i : Nat) : Int)) ∧ M = [some ⟨cI p, true, 0⟩]) (fun i => 9 - i) ?_ 0 ⟨by omega, fun e he => by omega, by simp only [go_sem, seval], by simp only [go_sem, seval], rfl⟩
 rintro i fr M ⟨hi, hlo, f1, f3, rfl⟩ ih
 rcases Nat.lt_or_ge i 9 with h9 | h9
 ·have nxt : ∀ j, (-1073741824 ≤ p j ∧ p j ≤ 1073741824) → j = i → ∀ e, e < j + 1 → -1073741824 ≤ p e ∧ p e ≤ 1073741824 := fun j hj hji e he => by
   subst hji
   rcases Nat.lt_or_ge e j with h | h
   ·exact hlo e h
   ·obtain rfl : e = j := by omega
    exact hj
  obtain rfl | rfl | rfl | rfl | rfl | rfl | rfl | rfl | rfl := zeh h9
  ·have hpe := hp 0
   unfold Fits64 at hpe
   rcases zbM (p 0 < -1073741824) with t1 | t1
   ·rw [bad 0 (by decide) (by have := of_eq_true t1; omega)]
    simp (disch := omega) only [go_sem, seval, wqq, f1, f3, zag, t1]
   ·rcases zbM (p 0 > 1073741824) with t2 | t2
    ·rw [bad 0 (by decide) (by have := of_eq_true t2; omega)]
     simp (disch := omega) only [go_sem, seval, wqq, f1, f3, zag, t1, t2]
    ·have u1 := of_eq_false t1
     have u2 := of_eq_false t2
     simp (disch := omega) only [go_sem, seval, wqq, f1, f3, zag, t1, t2]
     exact ih 1 _ _ (by omega) ⟨by omega, nxt 0 (by omega) rfl, by simp only [go_sem, seval, f1], by simp only [go_sem, seval], rfl⟩
  ·have hpe := hp 1
   unfold Fits64 at hpe
   rcases zbM (p 1 < -1073741824) with t1 | t1
   ·rw [bad 1 (by decide) (by have := of_eq_true t1; omega)]
    simp (disch := omega) only [go_sem, seval, wqq, f1, f3, zag, t1]
   ·rcases zbM (p 1 > 1073741824) with t2 | t2
    ·rw [bad 1 (by decide) (by have := of_eq_true t2; omega)]
     simp (disch := omega) only [go_sem, seval, wqq, f1, f3, zag, t1, t2]
    ·have u1 := of_eq_false t1
     have u2 := of_eq_false t2
     simp (disch := omega) only [go_sem, seval, wqq, f1, f3, zag, t1, t2]
     exact ih 2 _ _ (by omega) ⟨by omega, nxt 1 (by omega) rfl, by simp only [go_sem, seval, f1], by simp only [go_sem, seval], rfl⟩
  ·have hpe := hp 2
   unfold Fits64 at hpe
   rcases zbM (p 2 < -1073741824) with t1 | t1
   ·rw [bad 2 (by decide) (by have := of_eq_true t1; omega)]
    simp (disch := omega) only [go_sem, seval, wqq, f1, f3, zag, t1]
   ·rcases zbM (p 2 > 1073741824) with t2 | t2
    ·rw [bad 2 (by decide) (by have := of_eq_true t2; omega)]
     simp (disch := omega) only [go_sem, seval, wqq, f1, f3, zag, t1, t2]
    ·have u1 := of_eq_false t1
     have u2 := of_eq_false t2
     simp (disch := omega) only [go_sem, seval, wqq, f1, f3, zag, t1, t2]
     exact ih 3 _ _ (by omega) ⟨by omega, nxt 2 (by omega) rfl, by simp only [go_sem, seval, f1], by simp only [go_sem, seval], rfl⟩
  ·have hpe := hp 3
   unfold Fits64 at hpe
   rcases zbM (p 3 < -1073741824) with t1 | t1
   ·rw [bad 3 (by decide) (by have := of_eq_true t1; omega)]
    simp (disch := omega) only [go_sem, seval, wqq, f1, f3, zag, t1]
   ·rcases zbM (p 3 > 1073741824) with t2 | t2
    ·rw [bad 3 (by decide) (by have := of_eq_true t2; omega)]
     simp (disch := omega) only [go_sem, seval, wqq, f1, f3, zag, t1, t2]
    ·have u1 := of_eq_false t1
     have u2 := of_eq_false t2
     simp (disch := omega) only [go_sem, seval, wqq, f1, f3, zag, t1, t2]
     exact ih 4 _ _ (by omega) ⟨by omega, nxt 3 (by omega) rfl, by simp only [go_sem, seval, f1], by simp only [go_sem, seval], rfl⟩
  ·have hpe := hp 4
   unfold Fits64 at hpe
   rcases zbM (p 4 < -1073741824) with t1 | t1
   ·rw [bad 4 (by decide) (by have := of_eq_true t1; omega)]
    simp (disch := omega) only [go_sem, seval, wqq, f1, f3, zag, t1]
   ·rcases zbM (p 4 > 1073741824) with t2 | t2
    ·rw [bad 4 (by decide) (by have := of_eq_true t2; omega)]
     simp (disch := omega) only [go_sem, seval, wqq, f1, f3, zag, t1, t2]
    ·have u1 := of_eq_false t1
     have u2 := of_eq_false t2
     simp (disch := omega) only [go_sem, seval, wqq, f1, f3, zag, t1, t2]
     exact ih 5 _ _ (by omega) ⟨by omega, nxt 4 (by omega) rfl, by simp only [go_sem, seval, f1], by simp only [go_sem, seval], rfl⟩
  ·have hpe := hp 5
   unfold Fits64 at hpe
   rcases zbM (p 5 < -1073741824) with t1 | t1
   ·rw [bad 5 (by decide) (by have := of_eq_true t1; omega)]
    simp (disch := omega) only [go_sem, seval, wqq, f1, f3, zag, t1]
   ·rcases zbM (p 5 > 1073741824) with t2 | t2
    ·rw [bad 5 (by decide) (by have := of_eq_true t2; omega)]
     simp (disch := omega) only [go_sem, seval, wqq, f1, f3, zag, t1, t2]
    ·have u1 := of_eq_false t1
     have u2 := of_eq_false t2
     simp (disch := omega) only [go_sem, seval, wqq, f1, f3, zag, t1, t2]
     exact ih 6 _ _ (by omega) ⟨by omega, nxt 5 (by omega) rfl, by simp only [go_sem, seval, f1], by simp only [go_sem, seval], rfl⟩
  ·have hpe := hp 6
   unfold Fits64 at hpe
   rcases zbM (p 6 < -1073741824) with t1 | t1
   ·rw [bad 6 (by decide) (by have := of_eq_true t1; omega)]
    simp (disch := omega) only [go_sem, seval, wqq, f1, f3, zag, t1]
   ·rcases zbM (p 6 > 1073741824) with t2 | t2
    ·rw [bad 6 (by decide) (by have := of_eq_true t2; omega)]
     simp (disch := omega) only [go_sem, seval, wqq, f1, f3, zag, t1, t2]
    ·have u1 := of_eq_false t1
     have u2 := of_eq_false t2
     simp (disch := omega) only [go_sem, seval, wqq, f1, f3, zag, t1, t2]
     exact ih 7 _ _ (by omega) ⟨by omega, nxt 6 (by omega) rfl, by simp only [go_sem, seval, f1], by simp only [go_sem, seval], rfl⟩
  ·have hpe := hp 7
   unfold Fits64 at hpe
   rcases zbM (p 7 < -1073741824) with t1 | t1
   ·rw [bad 7 (by decide) (by have := of_eq_true t1; omega)]
    simp (disch := omega) only [go_sem, seval, wqq, f1, f3, zag, t1]
   ·rcases zbM (p 7 > 1073741824) with t2 | t2
    ·rw [bad 7 (by decide) (by have := of_eq_true t2; omega)]
     simp (disch := omega) only [go_sem, seval, wqq, f1, f3, zag, t1, t2]
    ·have u1 := of_eq_false t1
     have u2 := of_eq_false t2
     simp (disch := omega) only [go_sem, seval, wqq, f1, f3, zag, t1, t2]
     exact ih 8 _ _ (by omega) ⟨by omega, nxt 7 (by omega) rfl, by simp only [go_sem, seval, f1], by simp only [go_sem, seval], rfl⟩
  ·have hpe := hp 8
   unfold Fits64 at hpe
   rcases zbM (p 8 < -1073741824) with t1 | t1
   ·rw [bad 8 (by decide) (by have := of_eq_true t1; omega)]
    simp (disch := omega) only [go_sem, seval, wqq, f1, f3, zag, t1]
   ·rcases zbM (p 8 > 1073741824) with t2 | t2
    ·rw [bad 8 (by decide) (by have := of_eq_true t2; omega)]
     simp (disch := omega) only [go_sem, seval, wqq, f1, f3, zag, t1, t2]
    ·have u1 := of_eq_false t1
     have u2 := of_eq_false t2
     simp (disch := omega) only [go_sem, seval, wqq, f1, f3, zag, t1, t2]
     exact ih 9 _ _ (by omega) ⟨by omega, nxt 8 (by omega) rfl, by simp only [go_sem, seval, f1], by simp only [go_sem, seval], rfl⟩
 ·obtain rfl : i = 9 := by omega
  rw [good hlo]
  by_cases h0 : d = 0
  ·have c0 : ((tlen d.natAbs : Int) = 0) = True := eq_true (tl0 h0)
   rw [if_pos h0]
   simp (disch := omega) only [go_sem, seval, wqq, f1, f3, hm, hd, fd, c0]
  ·have c0 : ((tlen d.natAbs : Int) = 0) = False := eq_false (tl1 h0)
   rw [if_neg h0]
   simp (disch := omega) only [go_sem, seval, wqq, f1, f3, hm, hd, fd, c0]
theorem zld {X : Nat → Int} : ∀ {i : Nat}, gN X i = 0 → ∀ e, e < i → X e = 0
 | 0, _, e, h => by omega
 | i + 1, h, e, he => by
  have h : Nat.gcd (gN X i) (X i).natAbs = 0 := h
  obtain ⟨h1, h2⟩ := Nat.gcd_eq_zero_iff.1 h
  rcases Nat.lt_or_ge e i with q | q
  ·exact zld h1 e q
  ·obtain rfl : e = i := by omega
   omega
def adV (X : Nat → Int) : Nat → Int := fun e => mnV X (e % 3) (e / 3)
theorem zrP (X : Nat → Int) : rdV X = X 0 * adV X 0 + X 1 * adV X 3 + X 2 * adV X 6 := by
 unfold rdV rtK adV mnV
 simp only [Nat.reduceAdd, Nat.reduceMul, Nat.reduceMod, Nat.reduceDiv]
 grind
theorem zlE {X : Nat → Int} (h : gN (adV X) 9 = 0) : rdV X = 0 := by
 have z := zld h
 rw [zrP, z 0 (by decide), z 3 (by decide), z 6 (by decide)]
 simp
end Go.Eng
namespace Go.Eng
@[go_sem] theorem sp9 (a b c d e f g h i : PV) (Y : Nat → Int) : psplice [a, b, c, d, e, f, g, h, i] 0 (cI Y) = cI Y := _root_.id rfl
theorem znG {p : Nat → Int} (hp : ∀ e, Fits64 (p e)) (h : vlP p = 0) : rdV p ≠ 0 := fun q => by
 unfold vlP at h
 split at h
 ·rw [znf hp, q, if_pos rfl] at h; cases h
 ·cases h
open Classical in
noncomputable def IP (p : Nat → Int) : Nat → Int := if vlP p = 0 then nfP (adV p) else zI
open Classical in
noncomputable def IE (p : Nat → Int) : Int := if vlP p = 0 then nfE (adV p) else vlP p
theorem zsg {p : Nat → Int} (hp : ∀ e, Fits64 (p e)) : (fun e => (adW (ofW p) e).v) = adV p := funext fun e => by
 have := (znY (zhw hp) (by decide) (e % 3) (e / 3)).1
 rw [zn1 hp] at this
 exact this
theorem ziM {p : Nat → Int} (hp : ∀ e, Fits64 (p e)) : pf E0 308 [pI p] = some (.tu [pI (IP p), .i .i64 (IE p)]) := by
 have hv := zcw hp
 have hm := zmF hp
 have ha := zmy (ofW p)
 unfold IP IE
 by_cases h : vlP p = 0
 ·have hn := ziZ (adW (ofW p)) (by rw [zsg hp]; exact fun q => znG hp h (zlE q))
  rw [zsg hp] at hn
  rw [if_pos h, if_pos h]
  rw [h] at hv
  refine zaa (xf := zvi) rfl (by simp [zvi]) ?_
  simp only [zvi]
  simp (disch := omega) only [go_sem, seval, wqq, hv, hm, ha, hn]
 ·rw [if_neg h, if_neg h]
  generalize vlP p = V at *
  have h : (V = 0) = False := eq_false h
  refine zaa (xf := zvi) rfl (by simp [zvi]) ?_
  simp only [zvi]
  simp (disch := omega) only [go_sem, seval, wqq, hv, h, pI0]
end Go.Eng
namespace Go.Eng
def isPF (E : PEnv) : PV → Bool
 | .fn f _ => E.pure f
 | _ => false
def slotIn4 (E : PEnv) (ops : List XOper) (L V : List Nat) (c : Nat × Nat) : Bool :=
 match ops[c.1]?, ops[c.2]? with
 | some a, some b =>
  match a.op with
  | .load _ _ (.t s) => L.contains s && (match b.op with | .callv (.t v) _ => V.contains v && fixedX ops c.2 (.t v) | _ => calmOp E b.op)
  | _ => false
 | _, _ => false
theorem zdN {E : PEnv} {F : PFin} {ops : List XOper} {chk : List (Nat × Nat)} {ks : List KI} {fr : PFr} {M : PM} (L V : List Nat) (hL : chk.all (fun c => calmC E ops c || slotIn4 E ops L V c) = true)
  (hr : WL E ⟨(0 :: 0 :: (L ++ V)).map XR.tmp, fun w _ => ∃ l, w = .tu l ∧ ((l.drop 2).take L.length).all isPP = true ∧ ((l.drop 2).drop L.length).all (isPF E) = true⟩ ops [] fr M) (w : WL E F ops ks fr M) : WK E F (.drw ops chk) ks fr M := by
 refine zdM (fun fr2 Ms hT => ?_) w
 have hpv : L.all (fun s => isPP (fr2 s)) = true ∧ V.all (fun s => isPF E (fr2 s)) = true := by
  obtain ⟨lf, q, fr3, M3, vs, e, h1, h2, l, h3, h4, h5⟩ := hr
  simp only [Option.bind_eq_some_iff, unw] at e
  obtain ⟨⟨fr4, M4⟩, e1, e2⟩ := e
  simp only [Option.some.injEq, Prod.mk.injEq] at e2
  obtain ⟨_, e3, e4⟩ := e2
  rw [← e3, ← e4] at h2
  obtain ⟨Ms', g1, g2⟩ := zb8 e1
  rw [g1] at hT
  cases hT
  have hres : ∀ (f : PFr) (N : PM) (l : List Nat), pRes f N (l.map XR.tmp) = some (l.map f) := fun f N l => by
   induction l with
   | nil => rfl
   | cons a l ih => simp only [List.map_cons, pRes, pResOne, ih]
  rw [hres] at h2
  cases h2
  simp only [List.map_cons, packP] at h3
  cases h3
  rw [List.map_append] at h4 h5
  have d2 : (fr2 0 :: fr2 0 :: (L.map fr2 ++ V.map fr2)).drop 2 = L.map fr2 ++ V.map fr2 := rfl
  rw [d2, List.take_left' (by simp)] at h4
  rw [d2, List.drop_left' (by simp)] at h5
  exact ⟨by simpa [List.all_map] using h4, by simpa [List.all_map] using h5⟩
 obtain ⟨hp, hv⟩ := hpv
 rw [List.all_eq_true] at hL hp hv ⊢
 rintro ⟨i, j⟩ hc
 have h1 := hL _ hc
 simp only [Bool.or_eq_true] at h1
 rcases h1 with h1 | h1
 ·exact zcT hT h1
 ·unfold slotIn4 at h1
  split at h1
  ·rename_i a b ha hb
   split at h1
   ·rename_i z k s hop
    simp only [Bool.and_eq_true] at h1
    obtain ⟨c1, c2⟩ := h1
    have hs := hp s (List.contains_iff_mem.1 c1)
    cases hf : fr2 s with
    | p n o =>
     obtain ⟨fri, A, B, q1, q2, q3, q4⟩ := zaM hT ha
     obtain ⟨frj, C, D, p1, p2, p3, p4⟩ := zaM hT hb
     have p2' : Ms[(i, j).2 + 1]? = some D := p2
     have q2' : Ms[(i, j).1 + 1]? = some B := q2
     simp only [chkP, ha, q1, q2, p1, p2]
     rw [if_neg (by rw [hop]; simp [XO.cls])]
     rw [hop]
     show chkV ops j (.t s) C D (fr2 s) = true
     rw [hf]
     show verP (some n) C D = true
     rcases p3 with ⟨_, v, p3⟩ | ⟨_, p3⟩
     ·split at c2
      ·rename_i vs l hopb
       simp only [Bool.and_eq_true] at c2
       have hv' := hv vs (List.contains_iff_mem.1 c2.1)
       have e1 := p4 (.t vs) c2.2
       have e1 : fr2 vs = frj vs := e1
       rw [hopb] at p3
       rw [e1] at hv'
       cases hfn : frj vs with
       | fn f c =>
        rw [hfn] at hv'
        have p3 : (match (X.t vs).pv E.glob frj with | .fn f c => pcl E f (l.map (X.pv E.glob frj) ++ c) C | _ => none) = some (v, D) := p3
        rw [show (X.t vs).pv E.glob frj = frj vs from rfl, hfn] at p3
        obtain ⟨ns, rfl⟩ := zdl hv' p3
        exact zcz ns C _
       | _ => rw [hfn] at hv'; simp [isPF] at hv'
      ·rename_i hno
       cases hopb : b.op with
       | call f l =>
        rw [hopb] at p3 c2
        obtain ⟨ns, rfl⟩ := zdl c2 p3
        exact zcz ns C _
       | _ => rw [hopb] at c2; simp [calmOp] at c2
     ·rw [p3]; simp [verP]
    | _ => rw [hf] at hs; simp [isPP] at hs
   ·cases h1
  ·cases h1
@[go_sem] theorem zuU (a0 a1 a2 a3 a4 a5 a6 a7 a8 a9 a10 a11 a12 a13 a14 a15 a16 a17 : PV) (Y : Nat → WI) : psplice [a0, a1, a2, a3, a4, a5, a6, a7, a8, a9, a10, a11, a12, a13, a14, a15, a16, a17] 0 (cW Y) = cW Y := _root_.id rfl
def ptP (x y : Int) : PV := .ag [.i .i64 x, .i .i64 y]
@[go_sem] theorem zss (M : PM) (d : Nat) (x y : Int) : fz M (d + 1 + 1) (ptP x y) = some (ptP x y, []) := _root_.id rfl
@[go_sem] theorem zny (x y : Int) : (ptP x y).cells = [.i .i64 x, .i .i64 y] := _root_.id rfl
@[go_sem] theorem zpb (x y : Int) : PV.ag [.i .i64 x, .i .i64 y] = ptP x y := _root_.id rfl
def colI (a b c d e f : Int) : Nat → Int
 | 0 => a | 1 => b | 2 => c | 3 => d | 4 => e | 5 => f | 6 => 1 | 7 => 1 | 8 => 1 | _ => 1
theorem zcj {a b c d e f : Int} (ha : Fits64 a) (hb : Fits64 b) (hc : Fits64 c) (hd : Fits64 d) (he : Fits64 e) (hf : Fits64 f) : ∀ i, Fits64 (colI a b c d e f i)
 | 0 => ha | 1 => hb | 2 => hc | 3 => hd | 4 => he | 5 => hf | 6 => by show Fits64 1; decide | 7 => by show Fits64 1; decide | 8 => by show Fits64 1; decide | n + 9 => by show Fits64 1; decide
theorem zc4 {a d b e c f : Int} (ha : Fits64 a) (hb : Fits64 b) (hc : Fits64 c) (hd : Fits64 d) (he : Fits64 e) (hf : Fits64 f) : pf E0 320 [ptP a d, ptP b e, ptP c f] = some (mW (ofW (colI a b c d e f))) := by
 have hm := zmF (zcj ha hb hc hd he hf)
 have hp : pI (colI a b c d e f) = .ag [.i .i64 a, .i .i64 b, .i .i64 c, .i .i64 d, .i .i64 e, .i .i64 f, .i .i64 1, .i .i64 1, .i .i64 1] := rfl
 rw [hp] at hm
 refine zaa (xf := zvF) rfl (by simp [zvF]) ?_
 simp only [zvF]
 simp (disch := omega) only [go_sem, seval, wqq, hm, zaG, zak]
end Go.Eng
namespace Go.Eng
@[go_sem] theorem zsu (M : PM) (d : Nat) (f : FQ) : fz M (d + 1 + 1) (rfQ f) = some (rfQ f, []) := _root_.id rfl
@[go_sem] theorem znA (f : FQ) : (rfQ f).cells = [.b (decide (f.p.v < 0)), T f.p.v.natAbs, .b (decide (f.q.v < 0)), T f.q.v.natAbs] := _root_.id rfl
@[go_sem] theorem zpq (f : FQ) : rfP f.p.v f.q.v = rfQ f := _root_.id rfl
theorem zkw (p q r s : Int) (h : q * r = 0) (lp : tlen p.natAbs < 20000) (lq : tlen q.natAbs < 20000) (lr : tlen r.natAbs < 20000) (ls : tlen s.natAbs < 20000) : pf E0 193 [rfP p q, rfP r s] = some (.tu [rfQ fq0, .i .i64 1]) := by
 have m1 := zbl p s (by omega) (by omega)
 have m2 := zbl q r (by omega) (by omega)
 have mk := zi7 (p * s)
 rw [zrQ, ← h] at mk
 have t1 : tlen (1 : Int).natAbs ≤ 1 := zal (by decide)
 have hR := zi5 0 1 (e := 1) (by decide) (by rw [Int.natAbs_zero, zaE]; omega) (Nat.lt_of_le_of_lt t1 (by decide))
 rw [zrQ] at hR
 generalize p * s = pr at *
 generalize q * r = qs at *
 generalize fq0 = z at *
 refine zaa (xf := zvQ) rfl (by simp [zvQ]) ?_
 simp only [zvQ]
 simp (disch := omega) only [go_sem, seval, wqq]
 refine zaf [14, 16] rfl ?_ ?_
 ·simp (disch := omega) only [go_sem, seval, wqq, m1, m2, mk]
  exact ⟨_, rfl, rfl⟩
 simp (disch := omega) only [go_sem, seval, wqq, m1, m2, mk, hR]
theorem zjV (a b : FQ) : ∃ (f : FQ) (e : Int), pf E0 65 [fqP a, fqP b] = some (.tu [fqP f, .i .i64 e]) ∧ pf E0 193 [rfQ a, rfQ b] = some (.tu [rfQ f, .i .i64 e]) := by
 have la := zaz a.p
 have lb := zaz b.p
 have ka := zaz a.q
 have kb := zaz b.q
 have qa := a.q1
 have qb := b.q1
 by_cases h0 : b.p.v = 0
 ·refine ⟨fq0, 1, zmB a b h0, ?_⟩
  exact zkw a.p.v a.q.v b.p.v b.q.v (by rw [h0, Int.mul_zero]) (by omega) (by omega) (by omega) (by omega)
 ·have dn : a.q.v * b.p.v ≠ 0 := Int.mul_ne_zero (by omega) h0
  have t1 := Nat.le_trans (zam (zdf (p := a.p.v * b.q.v) dn)) (zav a.p.v b.q.v)
  have t2 := Nat.le_trans (zam (zdg (p := a.p.v * b.q.v) dn)) (zav a.q.v b.p.v)
  have hg := zfC (lowP (a.p.v * b.q.v) (a.q.v * b.p.v)) (lowQ (a.p.v * b.q.v) (a.q.v * b.p.v)) (by omega) (by omega)
  by_cases h : inR (dvP a b).natAbs ∧ inR (dvQ a b).natAbs
  ·obtain ⟨f, h1, h2, hf⟩ := (ziT a b h0).1 h
   refine ⟨f, 0, hf, ?_⟩
   rw [← zd9 h1 h2]
   exact zi6 a.p.v a.q.v b.p.v b.q.v dn (by omega) (by omega) (by omega) (by omega) (hg.1 h) ⟨_, _, rfl⟩
  ·exact ⟨fq0, 4, (ziT a b h0).2 h, zi6 a.p.v a.q.v b.p.v b.q.v dn (by omega) (by omega) (by omega) (by omega) (hg.2 h) ⟨_, _, rfl⟩⟩
def pk (xs : List Int) (i : Int) : Int := if i < 0 ∨ (xs.length : Int) ≤ i then 0 else xs.getD i.toNat 0
theorem zdn {xs : List Int} (hx : Ints xs) (i : Int) : Fits64 (pk xs i) := by
 unfold pk
 by_cases h : i < 0 ∨ (xs.length : Int) ≤ i
 ·rw [if_pos h]; decide
 ·rw [if_neg h]
  have hl : i.toNat < xs.length := by omega
  exact hx.2 _ (by simp [hl])
theorem zpm {xs : List Int} (hx : Ints xs) {i : Int} (hi : Fits64 i) : pf E0 180 [ints xs, .i .i64 i] = some (.i .i64 (pk xs i)) := by
 refine zaa (xf := zvc) rfl (by simp [zvc]) ?_
 simp only [zvc]
 obtain ⟨hx1, hx2⟩ := hx
 unfold pk
 by_cases h : i < 0
 ·rw [if_pos (.inl h)]
  simp (disch := omega) only [go_sem, seval, wqq, h]
 ·by_cases h' : (xs.length : Int) ≤ i
  ·rw [if_pos (.inr h')]
   have q1 : (i ≥ (xs.length : Int)) = True := by simp; omega
   simp (disch := omega) only [go_sem, seval, wqq, h, q1]
  ·rw [if_neg (by omega)]
   have q1 : (i ≥ (xs.length : Int)) = False := by simp; omega
   obtain ⟨j, rfl⟩ : ∃ j : Nat, i = j := ⟨i.toNat, by omega⟩
   have hl : j < xs.length := by omega
   have hg : xs[j]? = some (xs.getD j 0) := by simp [hl]
   simp (disch := omega) only [go_sem, seval, wqq, h, q1, zdZ hg, Int.toNat_natCast]
def mulN (x : Int) : Nat → Int
 | 0 => x
 | n + 1 => mulN x n * 1000000007
theorem zeb (x : Int) : ∀ n, tlen (mulN x n).natAbs ≤ tlen x.natAbs + 3 * n
 | 0 => Nat.le_refl _
 | n + 1 => by
  have h1 := zeb x n
  have h2 := zav (mulN x n) 1000000007
  have h3 : tlen (1000000007 : Int).natAbs ≤ 3 := zal (by decide)
  show tlen (mulN x n * 1000000007).natAbs ≤ _
  omega
def numF (a b : Int) : Int := if a % 7 < 4 then b.tmod 60 else if a % 7 < 6 then b else mulN (b + 3) ((a.tdiv 7).tmod 40).toNat
theorem zdp (a : Int) {n : Int} (h : 0 < n) : -n < a.tmod n ∧ a.tmod n < n := by
 have h1 := Int.tmod_lt_of_pos a h
 have h2 := Int.lt_tmod_of_pos a h
 omega
theorem zgM {b : Int} (a : Int) (hb : Fits64 b) : tlen (numF a b).natAbs ≤ 122 := by
 unfold Fits64 at hb
 have h1 := zdp b (n := 60) (by omega)
 have h2 := zdp (a.tdiv 7) (n := 40) (by omega)
 have h3 := zeb (b + 3) ((a.tdiv 7).tmod 40).toNat
 have h4 : tlen (b + 3).natAbs ≤ 5 := zal (by omega)
 unfold numF
 split
 ·exact Nat.le_trans (zhi (by omega)) (by omega)
 ·split
  ·have : tlen b.natAbs ≤ 5 := zal (by omega)
   omega
  ·omega
theorem zeB {a b : Int} (ha : Fits64 a) (hb : Fits64 b) : pf E0 179 [.i .i64 a, .i .i64 b] = some (nP (numF a b)) := by
 have hb' := hb
 unfold Fits64 at ha hb'
 have h1 := zdp b (n := 60) (by omega)
 have h2 := zdp (a.tdiv 7) (n := 40) (by omega)
 have h4 : tlen (b + 3).natAbs ≤ 5 := zal (by omega)
 have k0 : a % 7 = if a.tmod 7 < 0 then a.tmod 7 + 7 else a.tmod 7 := by
  have e1 := Int.mul_tdiv_add_tmod a 7
  have e2 := zdp a (n := 7) (by omega)
  split <;> omega
 have k1 := zdp a (n := 7) (by omega)
 have r1 := zbp (b.tmod 60) (by unfold Fits64; omega)
 have r2 := zbp b hb
 have r3 := zbp 3 (by decide)
 have r4 := zbp 1000000007 (by decide)
 have r5 := zez b 3 (by have : tlen b.natAbs ≤ 5 := zal (by omega); omega) (by have : tlen (3 : Int).natAbs ≤ 1 := zal (by decide); omega)
 have l3 := zeb (b + 3)
 refine zaa (xf := zv3) rfl (by simp [zv3]) ?_
 simp only [zv3]
 unfold numF
 rw [k0]
 obtain ⟨m, hm⟩ : ∃ m : Int, m = a.tmod 7 := ⟨_, rfl⟩
 obtain ⟨n, hn⟩ : ∃ n : Int, n = (a.tdiv 7).tmod 40 := ⟨_, rfl⟩
 rw [← hm] at k1
 rw [← hn] at h2
 simp only [← hm, ← hn]
 have hm' := hm.symm
 have hn' := hn.symm
 have e7 := Int.mul_tdiv_add_tmod a 7
 obtain ⟨d, hd⟩ : ∃ d : Int, a.tdiv 7 = d := ⟨_, rfl⟩
 rw [hd] at hn' e7
 rw [hm'] at e7
 have hT : tlen (1000000007 : Int).natAbs ≤ 3 := zal (by decide)
 by_cases hm0 : m < 0
 ·rw [if_pos hm0]
  by_cases c4 : m + 7 < 4
  ·rw [if_pos c4]
   simp (disch := omega) only [go_sem, seval, wqq, hm', hm0, c4, r1]
  ·rw [if_neg c4]
   by_cases c6 : m + 7 < 6
   ·rw [if_pos c6]
    simp (disch := omega) only [go_sem, seval, wqq, hm', hm0, c4, c6, r2]
   ·rw [if_neg c6]
    simp (disch := omega) only [go_sem, seval, wqq, hm', hm0, c4, c6, r2, r3, r5]
    refine zat zwJ.eq_1 (fun (i : Nat) fr M => i ≤ n.toNat ∧ fr 0 = .i .i64 a ∧ fr 4 = .p 0 0 ∧ fr 6 = .p 1 0 ∧ fr 7 = (PV.i .i64 ((i : Nat) : Int)) ∧ ∃ v, M = [some ⟨[.b false, .nl], true, 0⟩, some ⟨(nP (mulN (b + 3) i)).cells, true, v⟩]) (fun i => n.toNat - i) ?_ 0 ⟨by omega, by simp only [go_sem, seval], by simp only [go_sem, seval], by simp only [go_sem, seval], by simp only [go_sem, seval], _, rfl⟩
    rintro i fr M ⟨hi, f0, f4, f6, f7, v, rfl⟩ ih
    have li := l3 i
    by_cases hin : (i : Int) < n
    ·have q1 : ((i : Int) < n) = True := by simp [hin]
     have mm := zbl (mulN (b + 3) i) 1000000007 (by omega) (by omega)
     have e1 : mulN (b + 3) i * 1000000007 = mulN (b + 3) (i + 1) := rfl
     rw [e1] at mm
     generalize hX : mulN (b + 3) i = X at *
     generalize hY : mulN (b + 3) (i + 1) = Y at *
     simp (disch := omega) only [go_sem, seval, wqq, f0, f4, f6, f7, hd, hn', q1]
     refine zap [6] rfl (by simp only [go_sem, seval, f6]) ?_
     simp (disch := omega) only [go_sem, seval, wqq, f6, f7, r4, mm]
     exact ih (i + 1) _ _ (by omega) ⟨by omega, by simp only [go_sem, seval, f0], by simp only [go_sem, seval, f4], by simp only [go_sem, seval, f6], by simp only [go_sem, seval]; rw [Int.natCast_succ], _, by rw [hY]; rfl⟩
    ·have q1 : ((i : Int) < n) = False := by simp [hin]
     obtain rfl : i = n.toNat := by omega
     generalize mulN (b + 3) n.toNat = X at *
     simp (disch := omega) only [go_sem, seval, wqq, f0, f4, f6, f7, hd, hn', q1]
 ·rw [if_neg hm0]
  by_cases c4 : m < 4
  ·rw [if_pos c4]
   simp (disch := omega) only [go_sem, seval, wqq, hm', hm0, c4, r1]
  ·rw [if_neg c4]
   by_cases c6 : m < 6
   ·rw [if_pos c6]
    simp (disch := omega) only [go_sem, seval, wqq, hm', hm0, c4, c6, r2]
   ·rw [if_neg c6]
    simp (disch := omega) only [go_sem, seval, wqq, hm', hm0, c4, c6, r2, r3, r5]
    refine zat zwJ.eq_1 (fun (i : Nat) fr M => i ≤ n.toNat ∧ fr 0 = .i .i64 a ∧ fr 4 = .p 0 0 ∧ fr 6 = .p 1 0 ∧ fr 7 = (PV.i .i64 ((i : Nat) : Int)) ∧ ∃ v, M = [some ⟨[.b false, .nl], true, 0⟩, some ⟨(nP (mulN (b + 3) i)).cells, true, v⟩]) (fun i => n.toNat - i) ?_ 0 ⟨by omega, by simp only [go_sem, seval], by simp only [go_sem, seval], by simp only [go_sem, seval], by simp only [go_sem, seval], _, rfl⟩
    rintro i fr M ⟨hi, f0, f4, f6, f7, v, rfl⟩ ih
    have li := l3 i
    by_cases hin : (i : Int) < n
    ·have q1 : ((i : Int) < n) = True := by simp [hin]
     have mm := zbl (mulN (b + 3) i) 1000000007 (by omega) (by omega)
     have e1 : mulN (b + 3) i * 1000000007 = mulN (b + 3) (i + 1) := rfl
     rw [e1] at mm
     generalize hX : mulN (b + 3) i = X at *
     generalize hY : mulN (b + 3) (i + 1) = Y at *
     simp (disch := omega) only [go_sem, seval, wqq, f0, f4, f6, f7, hd, hn', q1]
     refine zap [6] rfl (by simp only [go_sem, seval, f6]) ?_
     simp (disch := omega) only [go_sem, seval, wqq, f6, f7, r4, mm]
     exact ih (i + 1) _ _ (by omega) ⟨by omega, by simp only [go_sem, seval, f0], by simp only [go_sem, seval, f4], by simp only [go_sem, seval, f6], by simp only [go_sem, seval]; rw [Int.natCast_succ], _, by rw [hY]; rfl⟩
    ·have q1 : ((i : Int) < n) = False := by simp [hin]
     obtain rfl : i = n.toNat := by omega
     generalize mulN (b + 3) n.toNat = X at *
     simp (disch := omega) only [go_sem, seval, wqq, f0, f4, f6, f7, hd, hn', q1]
theorem zis {P Q : Int} {n : Nat} (hq : Q ≠ 0) (hp : tlen P.natAbs ≤ n) (hl : tlen Q.natAbs ≤ n) (hn : n < 1230) : ∃ f : FQ, f.p.v = lowP P Q ∧ f.q.v = lowQ P Q ∧ fsz n f := by
 have t1 := Nat.le_trans (zam (zdf (p := P) hq)) hp
 have t2 := Nat.le_trans (zam (zdg (p := P) hq)) hl
 exact ⟨⟨⟨lowP P Q, znU (zcE (by omega))⟩, ⟨lowQ P Q, znU (zcE (by omega))⟩, zdh hq, zd1 hq⟩, rfl, rfl, t1, t2⟩
theorem zg0 {xs : List Int} (hx : Ints xs) {i : Int} (h0 : 0 ≤ i) (h1 : i ≤ 100) : ∃ f : FQ, fsz 122 f ∧ pf E0 187 [ints xs, .i .i64 i] = some (rfQ f) := by
 have a0 := zpm hx (i := i) (by unfold Fits64; omega)
 have a1 := zpm hx (i := i + 1) (by unfold Fits64; omega)
 have a2 := zpm hx (i := i + 2) (by unfold Fits64; omega)
 have a3 := zpm hx (i := i + 3) (by unfold Fits64; omega)
 have n1 := zeB (zdn hx i) (zdn hx (i + 1))
 have n2 := zeB (zdn hx (i + 2)) (zdn hx (i + 3))
 have l1 := zgM (pk xs i) (zdn hx (i + 1))
 have l2 := zgM (pk xs (i + 2)) (zdn hx (i + 3))
 generalize numF (pk xs i) (pk xs (i + 1)) = P at *
 generalize numF (pk xs (i + 2)) (pk xs (i + 3)) = Q at *
 generalize pk xs i = y0 at *
 generalize pk xs (i + 1) = y1 at *
 generalize pk xs (i + 2) = y2 at *
 generalize pk xs (i + 3) = y3 at *
 have o1 := zbp 1 (by decide)
 have t1 : tlen (1 : Int).natAbs ≤ 1 := zal (by decide)
 by_cases hq : Q = 0
 ·obtain ⟨f, f1, f2, f3⟩ := zis (P := P) (Q := 1) (n := 122) (by decide) l1 (by omega) (by omega)
  refine ⟨f, f3, ?_⟩
  have mk := zcx P 1 (by decide) (by omega) (by omega)
  rw [zd9 f1 f2] at mk
  have t0 : ((tlen Q.natAbs : Int) = 0) = True := by rw [hq, Int.natAbs_zero, zaE]; simp
  clear hq f1 f2
  obtain ⟨k, hk⟩ : ∃ k : Int, nP k = nP 1 := ⟨1, rfl⟩
  rw [← hk] at mk o1
  clear hk
  refine zaa (xf := zvD) rfl (by simp [zvD]) ?_
  simp only [zvD]
  simp (disch := omega) only [go_sem, seval, wqq, a2, a3, n2, t0, o1]
  refine zap [5] rfl (by simp only [go_sem, seval]) ?_
  simp (disch := omega) only [go_sem, seval, wqq, a0, a1, n1, mk]
 ·obtain ⟨f, f1, f2, f3⟩ := zis (P := P) (Q := Q) (n := 122) hq l1 l2 (by omega)
  refine ⟨f, f3, ?_⟩
  have mk := zcx P Q hq (by omega) (by omega)
  rw [zd9 f1 f2] at mk
  have t0 : ((tlen Q.natAbs : Int) = 0) = False := by have := zaO (v := Q.natAbs) (by omega); simp; omega
  refine zaa (xf := zvD) rfl (by simp [zvD]) ?_
  simp only [zvD]
  simp (disch := omega) only [go_sem, seval, wqq, a2, a3, n2, t0]
  refine zap [5] rfl (by simp only [go_sem, seval]) ?_
  simp (disch := omega) only [go_sem, seval, wqq, a0, a1, n1, mk]
end Go.Eng
namespace Go.Eng
end Go.Eng
namespace Go.Eng
def SplitR (s T B : List UInt8) : Prop := ((47 : UInt8) ∉ s ∧ T = s ∧ B = [49]) ∨ ∃ i : Nat, i < s.length ∧ s[i]? = some 47 ∧ (∀ j, j < i → s[j]? ≠ some 47) ∧ T = s.take i ∧ B = s.drop (i + 1)
theorem zkH {s A C T B : List UInt8} (e : s = A ++ 47 :: C) (hA : (47 : UInt8) ∉ A) (h : SplitR s T B) : T = A ∧ B = C := by
 subst e
 rcases h with ⟨h, _⟩ | ⟨i, h1, h2, h3, rfl, rfl⟩
 ·exact (h (by simp)).elim
 ·have hi : i = A.length := by
   rcases Nat.lt_trichotomy i A.length with h | h | h
   ·rw [List.getElem?_append_left h] at h2
    exact (hA (List.mem_of_getElem? h2)).elim
   ·exact h
   ·exact (h3 _ h (by simp)).elim
  subst hi
  exact ⟨by simp, by simp⟩
theorem zcU (z : Int) : (47 : UInt8) ∉ decI z := by
 have key : ∀ v : Nat, (47 : UInt8) ∉ dec v := fun v h => by
  have h1 := zhY v
  rw [List.all_eq_true] at h1
  have h2 := h1 _ h
  revert h2; decide
 unfold decI
 split
 ·simp only [List.mem_cons, not_or]
  exact ⟨by decide, key _⟩
 ·exact key _
theorem zjT : decI 1 = [49] := by
 unfold decI; rw [if_neg (by decide)]
 show dec 1 = [49]
 rw [zeN (v := 1) (n := 0) (by decide) (by decide)]; rfl
theorem zfJ {h : FQ} {T B : List UInt8} (hs : SplitR (ftx h.p.v h.q.v) T B) : T = decI h.p.v ∧ B = decI h.q.v := by
 unfold ftx at hs
 by_cases hq : h.q.v = 1
 ·rw [if_pos hq] at hs
  rcases hs with ⟨_, h1, h2⟩ | ⟨i, _, h2, _⟩
  ·rw [hq, zjT]; exact ⟨h1, h2⟩
  ·exact (zcU _ (List.mem_of_getElem? h2)).elim
 ·rw [if_neg hq, List.append_assoc] at hs
  exact zkH rfl (zcU _) hs
end Go.Eng
namespace Go.Eng
theorem zfY (x : WI) : (decI x.v).length < 4611686018427387904 := by have := zdc x; omega
theorem ziu (f : FQ) : pf E0 24 [wiP f.p, wiP f.q] = some (.tu [fqP f, .i .i64 0]) := by
 have hq := f.q1
 obtain ⟨g, g1, g2, mk⟩ := zgS f.p f.q (by omega)
 obtain ⟨l1, l2⟩ := zdH (p := f.p.v) (q := f.q.v) (by omega) f.cop
 have hg : g = f := zid (g1.trans l1) (g2.trans l2)
 rw [hg] at mk; exact mk
end Go.Eng
namespace Go.Eng
theorem zgH {f : FQ} {n d p q : Int} (hd : d ≠ 0) (hq : 0 < q) (hc : Nat.gcd p.natAbs q.natAbs = 1) (hf : f.is n d) (e : n * q = p * d) : f.p.v = p ∧ f.q.v = q := by
 unfold FQ.is at hf
 have q1 := f.q1
 refine zdI (by omega) hq f.cop hc ?_
 apply Int.eq_of_mul_eq_mul_right (a := d) hd
 calc f.p.v * q * d = f.p.v * d * q := by grind
  _ = n * f.q.v * q := by rw [hf]
  _ = n * q * f.q.v := by grind
  _ = p * d * f.q.v := by rw [e]
  _ = p * f.q.v * d := by grind
theorem zh8 {z : Int} {v n : Nat} (hz : z = (v : Int)) (h1 : 10 ^ n ≤ v) (h2 : v < 10 ^ (n + 1)) : decI z = dtx (n + 1) v := by
 subst hz
 unfold decI; rw [if_neg (by omega), Int.natAbs_natCast]
 exact zeN h1 h2
theorem zhg (f : FQ) {p q : Int} {t : List UInt8} (h1 : f.p.v = p) (h2 : f.q.v = q) (ht : ftx p q = t) : pf E0 16 [fqP f] = some (.s t) := by
 rw [← ht, ← h1, ← h2]; exact za9 f
end Go.Eng
namespace Go.Eng
theorem zjJ {f g h : FQ} {n d m e : Int} (hf : f.is n d) (hg : g.is m e) (hh : h.is (f.p.v * g.q.v + g.p.v * f.q.v) (f.q.v * g.q.v)) : h.is (n * e + m * d) (d * e) := by
 have qf := f.q1
 have qg := g.q1
 unfold FQ.is at *
 apply Int.eq_of_mul_eq_mul_right (a := f.q.v * g.q.v) (Int.mul_ne_zero (by omega) (by omega))
 calc h.p.v * (d * e) * (f.q.v * g.q.v) = h.p.v * (f.q.v * g.q.v) * (d * e) := by grind
  _ = (f.p.v * g.q.v + g.p.v * f.q.v) * h.q.v * (d * e) := by rw [hh]
  _ = (f.p.v * d * g.q.v * e + g.p.v * e * f.q.v * d) * h.q.v := by grind
  _ = (n * f.q.v * g.q.v * e + m * g.q.v * f.q.v * d) * h.q.v := by rw [hf, hg]
  _ = (n * e + m * d) * h.q.v * (f.q.v * g.q.v) := by grind
theorem zkg {f g h : FQ} {n d m e : Int} (hf : f.is n d) (hg : g.is m e) (hh : h.is (f.p.v * g.p.v) (f.q.v * g.q.v)) : h.is (n * m) (d * e) := by
 have qf := f.q1
 have qg := g.q1
 unfold FQ.is at *
 apply Int.eq_of_mul_eq_mul_right (a := f.q.v * g.q.v) (Int.mul_ne_zero (by omega) (by omega))
 calc h.p.v * (d * e) * (f.q.v * g.q.v) = h.p.v * (f.q.v * g.q.v) * (d * e) := by grind
  _ = f.p.v * g.p.v * h.q.v * (d * e) := by rw [hh]
  _ = f.p.v * d * (g.p.v * e) * h.q.v := by grind
  _ = n * f.q.v * (m * g.q.v) * h.q.v := by rw [hf, hg]
  _ = n * m * h.q.v * (f.q.v * g.q.v) := by grind
theorem zgl (a b : FQ) {n m : Nat} {x d y e : Int} (ha : fsz n a) (hb : fsz m b) (h : n + m + 1 < 1230) (xa : a.is x d) (xb : b.is y e) : ∃ f : FQ, pf E0 9 [fqP a, fqP b] = some (.tu [fqP f, .i .i64 0]) ∧ f.is (x * e + y * d) (d * e) ∧ fsz (n + m + 1) f := by
 obtain ⟨f, h1, h2, h3⟩ := znk a b ha hb h
 exact ⟨f, h1, zjJ xa xb h2, h3⟩
theorem zgL (a b : FQ) {n m : Nat} {x d y e : Int} (ha : fsz n a) (hb : fsz m b) (h : n + m < 1230) (xa : a.is x d) (xb : b.is y e) : ∃ f : FQ, pf E0 8 [fqP a, fqP b] = some (.tu [fqP f, .i .i64 0]) ∧ f.is (x * y) (d * e) ∧ fsz (n + m) f := by
 obtain ⟨f, h1, h2, h3⟩ := znZ a b ha hb h
 exact ⟨f, h1, zkg xa xb h2, h3⟩
end Go.Eng
namespace Go.Eng
theorem zeX {f : FQ} {n d n' d' : Int} (hd : d ≠ 0) (h : f.is n d) (e : n * d' = n' * d) : f.is n' d' := by
 unfold FQ.is at *
 apply Int.eq_of_mul_eq_mul_right hd
 calc f.p.v * d' * d = f.p.v * d * d' := by grind
  _ = n * f.q.v * d' := by rw [h]
  _ = n * d' * f.q.v := by grind
  _ = n' * d * f.q.v := by rw [e]
  _ = n' * f.q.v * d := by grind
end Go.Eng

namespace Go.Eng
end Go.Eng
namespace Go.Eng
theorem zdD {f g h : FQ} {n d m e : Int} (hf : f.is n d) (hg : g.is m e) (hm : g.p.v ≠ 0) (hh : h.is (f.p.v * g.q.v) (f.q.v * g.p.v)) : h.is (n * e) (d * m) := by
 have qf := f.q1
 have qg := g.q1
 unfold FQ.is at *
 apply Int.eq_of_mul_eq_mul_right (a := f.q.v * g.q.v * g.p.v) (Int.mul_ne_zero (Int.mul_ne_zero (by omega) (by omega)) hm)
 calc h.p.v * (d * m) * (f.q.v * g.q.v * g.p.v) = h.p.v * (f.q.v * g.p.v) * (d * (m * g.q.v)) := by grind
  _ = f.p.v * g.q.v * h.q.v * (d * (g.p.v * e)) := by rw [hh, hg]
  _ = f.p.v * d * (g.q.v * h.q.v * (g.p.v * e)) := by grind
  _ = n * f.q.v * (g.q.v * h.q.v * (g.p.v * e)) := by rw [hf]
  _ = n * e * h.q.v * (f.q.v * g.q.v * g.p.v) := by grind
def nbits (k : Nat) : Nat := if k = 0 then 0 else Nat.log2 k + 1
theorem zcu {k : Nat} (h : k ≠ 0) : nbits k = nbits (k / 2) + 1 := by
 unfold nbits
 rw [if_neg h]
 by_cases h2 : 2 ≤ k
 ·rw [if_neg (by omega), Nat.log2_def k, if_pos h2]
 ·have : k = 1 := by omega
  subst this; rfl
theorem zcv {k n : Nat} (h : k < 2 ^ n) : nbits k ≤ n := by
 unfold nbits
 split
 ·omega
 ·rename_i h0
  have := (Nat.log2_lt h0).2 h
  omega
end Go.Eng
namespace Go.Eng
end Go.Eng
namespace Go.Eng
structure TerOk (X Y S : Int) (C R : Nat) (hs : List Int) : Prop where
 c : 2 ≤ C ∧ C ≤ 128
 r : 2 ≤ R ∧ R ≤ 128
 s : 1 ≤ S ∧ S ≤ 65536
 x : -1048576 ≤ X ∧ X + (C - 1) * S ≤ 1048576
 y : -1048576 ≤ Y ∧ Y + (R - 1) * S ≤ 1048576
 len : hs.length = C * R
 h : ∀ n ∈ hs, -16384 ≤ n ∧ n ≤ 16384
theorem TerOk.ints {X Y S : Int} {C R : Nat} {hs : List Int} (t : TerOk X Y S C R hs) : Ints hs := by
 refine ⟨?_, fun n hn => ?_⟩
 ·have : C * R ≤ 128 * 128 := Nat.mul_le_mul t.c.2 t.r.2
  rw [t.len]; omega
 ·have := t.h n hn
  unfold Fits64; omega
end Go.Eng
namespace Go.Eng
end Go.Eng
namespace Go.Eng
end Go.Eng
namespace Go.Eng
end Go.Eng
namespace Go.Eng
end Go.Eng
namespace Go.Eng
end Go.Eng
namespace Go.Eng
end Go.Eng
namespace Go.Eng
end Go.Eng
namespace Go.Eng
theorem zdT (a b : Int) : (0 ≤ cmpI a b) = (b ≤ a) := by
 unfold cmpI
 simp only [eq_iff_iff]
 split
 ·omega
 ·split <;> omega
end Go.Eng

namespace Go.Eng
end Go.Eng
namespace Go.Eng
theorem zfy {k m : Nat} (h : 2 ^ m ≤ k) : nbits k = nbits (k / 2 ^ m) + m := by
 induction m with
 | zero => simp
 | succ m ih =>
  have h1 : 2 ^ m ≤ k := Nat.le_trans (Nat.pow_le_pow_right (by decide) (Nat.le_succ m)) h
  have h2 : k / 2 ^ m ≠ 0 := by
   have := Nat.div_pos h1 (Nat.pow_pos (by decide))
   omega
  have e : k / 2 ^ m / 2 = k / 2 ^ (m + 1) := by rw [Nat.div_div_eq_div_mul, ← Nat.pow_succ]
  have h3 := zcu h2
  rw [e] at h3
  have h4 := ih h1
  omega
theorem ziB : nbits 1 = 1 := by unfold nbits; rw [if_neg (by decide)]; rfl
def pw (i : Nat) : Nat := 2 ^ (2 ^ i)
theorem zfG (i : Nat) : 0 < pw i := Nat.pow_pos (by decide)
theorem zoF (i : Nat) : 2 ≤ pw i := by
 unfold pw
 have : 2 ^ 1 ≤ 2 ^ (2 ^ i) := Nat.pow_le_pow_right (by decide) (Nat.one_le_two_pow)
 omega
theorem zgb (i : Nat) : pw (i + 1) = pw i * pw i := by
 unfold pw
 rw [← Nat.pow_add, Nat.pow_succ]
 congr 1
 omega
theorem zji : pw 0 = 2 := rfl
theorem zhv {x i : Nat} (h : pw i ≤ x) : nbits x = nbits (x / pw i) + 2 ^ i := zfy h
theorem zoE {x i : Nat} (h : x < pw (i + 1)) : x / pw i < pw i := by
 rw [zgb] at h
 exact Nat.div_lt_of_lt_mul h
theorem zmW {x i : Nat} (h : pw i ≤ x) : 1 ≤ x / pw i := Nat.div_pos h (zfG i)
end Go.Eng
namespace Go.Eng
theorem zkC (i : Nat) : pw i < pw (i + 1) := by
 rw [zgb]
 have := zoF i
 have h2 : pw i * 2 ≤ pw i * pw i := Nat.mul_le_mul_left _ this
 omega
theorem zgG {i : Nat} (h : inR (pw i)) : i < 14 := by
 rcases Nat.lt_or_ge i 14 with q | q
 ·exact q
 ·exfalso
  obtain ⟨K, hK⟩ : ∃ K, K = 16384 := ⟨_, rfl⟩
  obtain ⟨a, ha⟩ : ∃ a, a = 14 := ⟨_, rfl⟩
  rw [← ha] at q
  have h1 : 2 ^ a ≤ 2 ^ i := Nat.pow_le_pow_right (by decide) q
  have h2 : 2 ^ (2 ^ a) ≤ pw i := Nat.pow_le_pow_right (by decide) h1
  have e : 2 ^ a = K := by rw [hK, ha]
  rw [e] at h2
  unfold inR at h
  rw [← hK] at h
  omega
theorem zep {a b : Nat} (h : a ≤ b) (hb : inR b) : inR a := Nat.lt_of_le_of_lt h hb
noncomputable def pwI (i : Nat) : WI := clip ((pw i : Nat) : Int)
theorem zhD {i : Nat} (h : inR (pw i)) : (pwI i).v = ((pw i : Nat) : Int) := (zd0 (z := ((pw i : Nat) : Int)) (by rw [Int.natAbs_natCast]; exact h)).1
noncomputable def pwL : Nat → List PV
 | 0 => []
 | j + 1 => pwL j ++ [.b (decide ((pwI j).v < 0)), D (pwI j).v.natAbs]
theorem ze8 : ∀ j, (pwL j).length = 2 * j
 | 0 => rfl
 | j + 1 => by rw [pwL, List.length_append, ze8 j]; simp; omega
theorem zlp : ∀ {j i : Nat}, i < j → ((pwL j).drop (i * 2)).take 2 = [.b (decide ((pwI i).v < 0)), D (pwI i).v.natAbs]
 | 0, i, h => by omega
 | j + 1, i, h => by
  have hl := ze8 j
  rw [pwL]
  by_cases hi : i < j
  ·rw [List.drop_append_of_le_length (by omega), List.take_append_of_le_length (by simp; omega)]
   exact zlp hi
  ·obtain rfl : i = j := by omega
   rw [List.drop_left' (show (pwL i).length = i * 2 by omega)]; rfl
theorem zpL (P : PM) (L : List PV) (w1 w2 : PV) (r1 r2 : Option PB) {j : Nat} (hl : L.length = 2 * j) (hj : j ≤ 100) (h0 : 0 < j) : appP (P ++ [some ⟨L, true, 0⟩, r1, r2, some ⟨[w1, w2], true, 0⟩]) 2 32 (.sl P.length 0 j j 2) (.sl (P.length + 3) 0 1 1 2) =
  some (.sl (P.length + 4) 0 (j + 1) (j + 1) 2, P ++ [none, r1, r2, some ⟨[w1, w2], true, 0⟩, some ⟨L ++ [w1, w2], true, 0⟩]) := by
 have es : srcP (P ++ [some (⟨L, true, 0⟩ : PB), r1, r2, some (⟨[w1, w2], true, 0⟩ : PB)]) 2 (.sl (P.length + 3) 0 1 1 2) = some (1, [w1, w2]) := by
  simp only [srcP, PM.rd, mG]
  rfl
 have e2 : PM.blk (P ++ [some (⟨L, true, 0⟩ : PB), r1, r2, some (⟨[w1, w2], true, 0⟩ : PB)]) P.length = some (⟨L, true, 0⟩ : PB) := by rw [mG0]; rfl
 unfold appP
 rw [es]
 simp only [e2]
 rw [if_neg (by simp), if_neg (by decide), if_pos ⟨trivial, by rw [hl]; omega, by omega⟩, sG0]
 simp only [List.drop_zero, List.set_cons_zero, lqq, List.length_append, List.length_cons, List.length_nil]
 rw [List.take_of_length_le (by omega)]
theorem zm0 {i : Nat} (h : i < 14) : binP .shl (.i .i64 1) (.i .i64 (i : Int)) = some (.i .i64 ((2 ^ i : Nat) : Int)) := by
 have h1 : 2 ^ i ≤ 2 ^ 13 := Nat.pow_le_pow_right (by decide) (by omega)
 rw [zhN _ _ _ _ (by omega), Int.toNat_natCast, show min i (IntKind.bits .i64) = i by simp only [IntKind.bits]; omega, Int.one_mul]
 have e : (2 : Int) ^ i = ((2 ^ i : Nat) : Int) := by simp
 rw [e]
 generalize 2 ^ i = t at *
 rw [wqa (by omega) (by omega)]
set_option maxHeartbeats 2000000 in
theorem zk5 {F : PFin} {ks : List KI} {K J : Nat} {x0 : WI} (hR : inR K) (hx0 : x0.v = (K : Int)) (hK : 1 ≤ K) (hlt : K < pw J) (hJ : J = 0 ∨ pw (J - 1) ≤ K) {G R : PM} {fr : PFr} {v : Nat}
  (f1 : fr 1 = .p 0 0) (f3 : fr 3 = (PV.i .i64 ((0 : Nat) : Int))) (f6 : fr 6 = if J = 0 then .nl else .sl (G.length + 1) 0 J J 2) (f10 : fr 10 = .i .i64 ((J : Int) - 1))
  (cont : ∀ fr' v' (y : WI), y.v = 1 → fr' 1 = .p 0 0 → fr' 3 = .i .i64 ((nbits K : Int) - 1) → UK E0 F (.exit 4) ks fr' (some ⟨[.b (decide (y.v < 0)), D y.v.natAbs], true, v'⟩ :: (G ++ (some ⟨pwL J, true, 0⟩ :: R)))) :
  WK E0 F (.loop zwz) ks fr (some ⟨[.b (decide (x0.v < 0)), D x0.v.natAbs], true, v⟩ :: (G ++ (some ⟨pwL J, true, 0⟩ :: R))) := by
 have hnb : nbits K ≤ 16384 := by
  obtain ⟨q, hq⟩ : ∃ q, q = 16384 := ⟨_, rfl⟩
  unfold inR at hR
  rw [← hq] at hR ⊢
  exact zcv hR
 have hJ14 : ∀ i, i < J → i < 14 ∧ inR (pw i) := fun i hi => by
  have hm : ∀ d, pw i ≤ pw (i + d) := fun d => by
   induction d with
   | zero => exact Nat.le_refl _
   | succ d ih => exact Nat.le_trans ih (Nat.le_of_lt (zkC _))
  have h1 := hm (J - 1 - i)
  rw [show i + (J - 1 - i) = J - 1 by omega] at h1
  have h2 : inR (pw i) := zep (by omega) hR
  exact ⟨zgG h2, h2⟩
 refine zat zwz.eq_1 (fun (i : Nat) fr M => i ≤ J ∧ ∃ (y : WI) (Y n v : Nat), y.v = (Y : Int) ∧ 1 ≤ Y ∧ Y < pw i ∧ nbits K = nbits Y + n ∧ fr 1 = .p 0 0 ∧ fr 3 = (PV.i .i64 ((n : Nat) : Int)) ∧ fr 6 = (if J = 0 then .nl else .sl (G.length + 1) 0 J J 2) ∧ fr 10 = .i .i64 ((i : Int) - 1) ∧
  M = some ⟨[.b (decide (y.v < 0)), D y.v.natAbs], true, v⟩ :: (G ++ (some ⟨pwL J, true, 0⟩ :: R))) (fun i => i) ?_ J ⟨Nat.le_refl _, x0, K, 0, v, hx0, hK, hlt, rfl, f1, f3, f6, f10, rfl⟩
 rintro i fr M ⟨hi, y, Y, n, v, hy, hY, hYi, hn, f1, f3, f6, f10, rfl⟩ ih
 cases i with
 | zero =>
  have hY1 : Y = 1 := by rw [zji] at hYi; omega
  subst hY1
  have f3' : fr 3 = .i .i64 ((nbits K : Int) - 1) := by
   rw [f3, hn, ziB]; congr 1; omega
  have q0 : ((((0 : Nat) : Int) - 1) ≥ 0) = False := eq_false (by omega)
  simp (disch := omega) only [go_sem, seval, wqq, f10, q0]
  exact cont _ v y hy (by simp only [go_sem, seval, f1]) (by simp only [go_sem, seval, f3'])
 | succ i =>
  obtain ⟨i14, iR⟩ := hJ14 i (by omega)
  have hJ0 : J ≠ 0 := by omega
  rw [if_neg hJ0] at f6
  have f6' := f6
  have f10 : fr 10 = (PV.i .i64 ((i : Nat) : Int)) := by rw [f10]; congr 1; omega
  have q0 : ((i : Int) ≥ 0) = True := eq_true (by omega)
  have pv := zhD iR
  have cm := zc3 y (pwI i)
  rw [hy, pv] at cm
  have at_ := zlp (j := J) (i := i) (by omega)
  have hl := ze8 J
  have hiJ : (i < J) = True := eq_true (by omega)
  have h2i : (i * 2 + 2 ≤ 2 * J) = True := eq_true (by omega)
  by_cases hc : pw i ≤ Y
  ·have c0 : (cmpI ((Y : Nat) : Int) ((pw i : Nat) : Int) ≥ 0) = True := eq_true (by rw [ge_iff_le, zdT]; omega)
   simp (disch := omega) only [go_sem, seval, wqq, f1, f3, f6, f10, q0, cm, c0, hiJ, h2i, hl, at_, mG, mG0, sG, sG0, lG, lqq]
   have dv := zmp y (pwI i) (by rw [pv]; have := zfG i; omega)
   have dvv : (y.div (pwI i) (by rw [pv]; have := zfG i; omega)).v = ((Y / pw i : Nat) : Int) := by
    show y.v / (pwI i).v = _
    rw [hy, pv]; rfl
   generalize y.div (pwI i) (by rw [pv]; have := zfG i; omega) = y2 at *
   generalize y.mod (pwI i) (by rw [pv]; have := zfG i; omega) = y3 at *
   have sh := zm0 i14
   have st := zhv hc
   have p14 : 2 ^ i ≤ 2 ^ 14 := Nat.pow_le_pow_right (by decide) (by omega)
   have g1 := zoE hYi
   have g0 := zmW hc
   have hs : (n : Int) + ((2 ^ i : Nat) : Int) = ((n + 2 ^ i : Nat) : Int) := by push_cast; rfl
   generalize 2 ^ i = t at *
   simp (disch := omega) only [go_sem, seval, wqq, f1, f3, f6, f10, q0, cm, c0, hiJ, h2i, hl, at_, dv, sh, hs, mG, mG0, sG, sG0, lG, lqq]
   exact ih i _ _ (by omega) ⟨by omega, y2, Y / pw i, n + t, _, dvv, g0, g1, by omega, by simp only [go_sem, seval, f1], by simp only [go_sem, seval], by rw [if_neg hJ0]; simp only [go_sem, seval, f6], by simp only [go_sem, seval, f10], rfl⟩
  ·have c0 : (cmpI ((Y : Nat) : Int) ((pw i : Nat) : Int) ≥ 0) = False := eq_false (by rw [ge_iff_le, zdT]; omega)
   simp (disch := omega) only [go_sem, seval, wqq, f1, f3, f6, f10, q0, cm, c0, hiJ, h2i, hl, at_, mG, mG0, sG, sG0, lG, lqq]
   exact ih i _ _ (by omega) ⟨by omega, y, Y, n, _, hy, hY, by omega, by omega, by simp only [go_sem, seval, f1], by simp only [go_sem, seval, f3], by rw [if_neg hJ0]; simp only [go_sem, seval, f6], by simp only [go_sem, seval, f10], rfl⟩
end Go.Eng
namespace Go.Eng
theorem zmG (x : WI) (h : x.v.natAbs ≤ 9223372036854775807) : pf E0 63 [wiP x] = some (.i .i64 (nbits x.v.natAbs : Int)) := by
 have nb : nbits x.v.natAbs ≤ 63 := zcv (by omega)
 have fin : ∀ (y : WI), y.v = (x.v.natAbs : Int) → pf E0 80 [wiP y] = some (.tu [.i .i64 (x.v.natAbs : Int), .b true]) := fun y hy => by
  have sm := ze4 y
  have s1 : isSmall (x.v.natAbs : Int) = true := by unfold isSmall; exact decide_eq_true ⟨by omega, by omega⟩
  have s2 : small (x.v.natAbs : Int) = (x.v.natAbs : Int) := by unfold small; rw [if_pos s1]
  rw [hy, s1, s2] at sm
  exact sm
 have sg := zbQ x
 refine zaa (xf := zvl) rfl (by simp [zvl]) ?_
 simp only [zvl]
 by_cases hn : x.v < 0
 ·have t0 : (cmpI x.v 0 < 0) = True := by rw [zdA]; simp [hn]
  have n1 := zks x
  have sm := fin x.neg (by show -x.v = _; omega)
  generalize x.neg = y at *
  generalize x.v.natAbs = K at *
  simp (disch := omega) only [go_sem, seval, wqq, sg, t0, n1, sm]
  refine zat zwC.eq_1 (fun (σ : Nat × Nat) fr M => σ.1 + nbits σ.2 = nbits K ∧ σ.2 ≤ K ∧ fr 3 = (PV.i .i64 ((σ.1 : Nat) : Int)) ∧ fr 4 = (PV.i .i64 ((σ.2 : Nat) : Int))) (fun σ => σ.2) ?_ (0, K) ⟨by simp, Nat.le_refl _, by simp only [go_sem, seval], by simp only [go_sem, seval]⟩
  rintro ⟨n, k⟩ fr M ⟨hs, hk, f3, f4⟩ ih
  simp only at hs hk f3 f4
  by_cases hk0 : k = 0
  ·have q1 : ((k : Int) > 0) = False := by simp; omega
   have hN : n = nbits K := by rw [← hs, hk0]; rfl
   rw [← hN]
   simp (disch := omega) only [go_sem, seval, wqq, f3, f4, q1]
  ·have q1 : ((k : Int) > 0) = True := by simp; omega
   have k2 : (k : Int).tdiv 2 = ((k / 2 : Nat) : Int) := zbd _ 2
   have hh := zcu hk0
   simp (disch := omega) only [go_sem, seval, wqq, f3, f4, q1, k2]
   exact ih (n + 1, k / 2) _ _ (by simp only; omega) ⟨by simp only; omega, by simp only; omega, by simp only [go_sem, seval]; rw [Int.natCast_succ], by simp only [go_sem, seval]⟩
 ·have t0 : (cmpI x.v 0 < 0) = False := by rw [zdA]; simp [hn]
  have sm := fin x (by omega)
  obtain ⟨K, hK⟩ : ∃ K : Nat, K = x.v.natAbs := ⟨_, rfl⟩
  rw [← hK] at sm nb ⊢
  have hKl : K ≤ 9223372036854775807 := by omega
  simp (disch := omega) only [go_sem, seval, wqq, sg, t0, sm]
  refine zat zwC.eq_1 (fun (σ : Nat × Nat) fr M => σ.1 + nbits σ.2 = nbits K ∧ σ.2 ≤ K ∧ fr 3 = (PV.i .i64 ((σ.1 : Nat) : Int)) ∧ fr 4 = (PV.i .i64 ((σ.2 : Nat) : Int))) (fun σ => σ.2) ?_ (0, K) ⟨by simp, Nat.le_refl _, by simp only [go_sem, seval], by simp only [go_sem, seval]⟩
  rintro ⟨n, k⟩ fr M ⟨hs, hk, f3, f4⟩ ih
  simp only at hs hk f3 f4
  by_cases hk0 : k = 0
  ·have q1 : ((k : Int) > 0) = False := by simp; omega
   have hN : n = nbits K := by rw [← hs, hk0]; rfl
   rw [← hN]
   simp (disch := omega) only [go_sem, seval, wqq, f3, f4, q1]
  ·have q1 : ((k : Int) > 0) = True := by simp; omega
   have k2 : (k : Int).tdiv 2 = ((k / 2 : Nat) : Int) := zbd _ 2
   have hh := zcu hk0
   simp (disch := omega) only [go_sem, seval, wqq, f3, f4, q1, k2]
   exact ih (n + 1, k / 2) _ _ (by simp only; omega) ⟨by simp only; omega, by simp only; omega, by simp only [go_sem, seval]; rw [Int.natCast_succ], by simp only [go_sem, seval]⟩
theorem zlg {j : Nat} (h : inR (pw j)) : pf E0 38 [wiP (pwI j), wiP (pwI j)] = some (.tu [wiP (pwI (j + 1)), .i .i64 (lerr ((pw (j + 1) : Nat) : Int))]) := by
 rw [ziO, zhD h, ← Int.natCast_mul, ← zgb]; rfl
theorem ztR (b0 b1 : Option PB) (w1 w2 : PV) : appP [b0, b1, some ⟨[w1, w2], true, 0⟩] 2 32 .nl (.sl 2 0 1 1 2) = some (.sl 3 0 1 1 2, [b0, b1, some ⟨[w1, w2], true, 0⟩, some ⟨[w1, w2], true, 0⟩]) := rfl
theorem znT {v K : Nat} (hK : K = 16384) (h : v < 2 ^ K) : inR v := by subst hK; exact h
theorem zin : inR (pw 1) := by
 obtain ⟨K, hK⟩ : ∃ K, K = 16384 := ⟨_, rfl⟩
 have h : pw 1 < 2 ^ K := Nat.lt_of_lt_of_le (show pw 1 < 2 ^ 3 by decide) (Nat.pow_le_pow_right (by decide) (by omega))
 exact znT hK h
set_option maxHeartbeats 2000000 in
theorem zk4 {F : PFin} {ks : List KI} {K : Nat} {x0 : WI} (hR : inR K) (hx0 : x0.v = (K : Int)) (hK : 9223372036854775807 < K) {fr : PFr} {v : Nat} {v1 : Nat}
  (f1 : fr 1 = .p 0 0) (f3 : fr 3 = (PV.i .i64 ((0 : Nat) : Int))) (f6 : fr 6 = .nl) (f7 : fr 7 = .p 1 0)
  (cont : ∀ fr' (G : PM) (J : Nat), J ≠ 0 → fr' 1 = .p 0 0 → fr' 3 = (PV.i .i64 ((0 : Nat) : Int)) → fr' 6 = .sl (G.length + 1) 0 J J 2 → K < pw J → pw (J - 1) ≤ K → ∀ R, UK E0 F (.exit 2) ks fr' (some ⟨[.b (decide (x0.v < 0)), D x0.v.natAbs], true, v⟩ :: (G ++ (some ⟨pwL J, true, 0⟩ :: R)))) :
  WK E0 F (.loop zvU) ks fr [some ⟨[.b (decide (x0.v < 0)), D x0.v.natAbs], true, v⟩, some ⟨[.b (decide ((pwI 0).v < 0)), D (pwI 0).v.natAbs], true, v1⟩] := by
 have R1 := zin
 have R0 : inR (pw 0) := zep (Nat.le_of_lt (zkC 0)) R1
 have cm0 := zc3 x0 (pwI 0)
 have c00 : (cmpI x0.v (pwI 0).v ≥ 0) = True := eq_true (by rw [ge_iff_le, zdT, hx0, zhD R0, zji]; omega)
 have mu0 := zlg R0
 have le0 : lerr ((pw (0 + 1) : Nat) : Int) = 0 := (zd0 (z := ((pw (0 + 1) : Nat) : Int)) (by rw [Int.natAbs_natCast]; exact R1)).2
 rw [le0] at mu0
 refine zac zvU.eq_1 ?_
 simp (disch := omega) only [go_sem, seval, wqq, f1, f3, f6, f7, cm0, c00, mu0, ztR, zaG, zak]
 refine zat zvU.eq_1 (fun (j : Nat) fr M => 1 ≤ j ∧ inR (pw j) ∧ pw (j - 1) ≤ K ∧ fr 1 = .p 0 0 ∧ fr 3 = (PV.i .i64 ((0 : Nat) : Int)) ∧ ∃ (G : PM) (r : Option PB) (v2 : Nat), fr 6 = .sl (G.length + 1) 0 j j 2 ∧ fr 7 = .p (G.length + 3) 0 ∧
  M = some ⟨[.b (decide (x0.v < 0)), D x0.v.natAbs], true, v⟩ :: (G ++ [some ⟨pwL j, true, 0⟩, r, some ⟨[.b (decide ((pwI j).v < 0)), D (pwI j).v.natAbs], true, v2⟩])) (fun j => K + 1 - pw (j - 1)) ?_ 1
  ⟨Nat.le_refl _, R1, by rw [show pw (1 - 1) = 2 from rfl]; omega, by simp only [go_sem, seval, f1], by simp only [go_sem, seval, f3], [_, _], _, _, by simp only [go_sem, seval], by simp only [go_sem, seval], rfl⟩
 rintro j fr M ⟨hj, jR, hjK, f1, f3, G, r, v2, f6, f7, rfl⟩ ih
 have j14 := zgG jR
 have cm := zc3 x0 (pwI j)
 by_cases hc : pw j ≤ K
 ·have c0 : (cmpI x0.v (pwI j).v ≥ 0) = True := eq_true (by rw [ge_iff_le, zdT, hx0, zhD jR]; omega)
  have mu := zlg jR
  have apx : ∀ b0 : Option PB, appP (b0 :: (G ++ [some ⟨pwL j, true, 0⟩, r, some ⟨[.b (decide ((pwI j).v < 0)), D (pwI j).v.natAbs], true, v2⟩, some ⟨[PV.b (decide ((pwI j).v < 0)), D (pwI j).v.natAbs], true, 0⟩])) 2 32 (.sl (G.length + 1) 0 j j 2) (.sl (G.length + 4) 0 1 1 2) =
   some (.sl (G.length + 5) 0 (j + 1) (j + 1) 2, b0 :: (G ++ [none, r, some ⟨[.b (decide ((pwI j).v < 0)), D (pwI j).v.natAbs], true, v2⟩, some ⟨[PV.b (decide ((pwI j).v < 0)), D (pwI j).v.natAbs], true, 0⟩, some ⟨pwL (j + 1), true, 0⟩])) := fun b0 =>
   zpL (b0 :: G) (pwL j) _ _ r (some ⟨[.b (decide ((pwI j).v < 0)), D (pwI j).v.natAbs], true, v2⟩) (ze8 j) (by omega) (by omega)
  by_cases hn : inR (pw (j + 1))
  ·have le1 : lerr ((pw (j + 1) : Nat) : Int) = 0 := (zd0 (z := ((pw (j + 1) : Nat) : Int)) (by rw [Int.natAbs_natCast]; exact hn)).2
   rw [le1] at mu
   simp (disch := omega) only [go_sem, seval, wqq, f1, f3, f6, f7, cm, c0, mu, apx, zaG, zak, mG, mG0, sG, sG0, lG, lqq]
   have := zkC (j - 1)
   rw [show j - 1 + 1 = j by omega] at this
   exact ih (j + 1) _ _ (by rw [show j + 1 - 1 = j by omega]; omega) ⟨by omega, hn, hc, by simp only [go_sem, seval, f1], by simp only [go_sem, seval, f3], G ++ [none, r, _, _], _, _, by simp only [go_sem, seval]; simp, by simp only [go_sem, seval]; simp, by simp; exact ⟨rfl, rfl, rfl, rfl⟩⟩
  ·have le1 : (lerr ((pw (j + 1) : Nat) : Int) = 0) = False := eq_false fun q => hn (by have := zf3 q; rwa [Int.natAbs_natCast] at this)
   simp (disch := omega) only [go_sem, seval, wqq, f1, f3, f6, f7, cm, c0, mu, le1, apx, zaG, zak, mG, mG0, sG, sG0, lG, lqq]
   have e6 : ∀ a b c d p q : Option PB, G ++ [a, b, c, d, p, q] = (G ++ [a, b, c, d]) ++ (p :: [q]) := fun a b c d p q => by simp
   rw [e6]
   exact cont _ _ (j + 1) (by omega) (by simp only [go_sem, seval, f1]) (by simp only [go_sem, seval, f3]) (by simp only [go_sem, seval]; simp) (by
    rcases Nat.lt_or_ge K (pw (j + 1)) with q | q
    ·exact q
    ·exact (hn (zep q hR)).elim) hc [_]
 ·have c0 : (cmpI x0.v (pwI j).v ≥ 0) = False := eq_false (by rw [ge_iff_le, zdT, hx0, zhD jR]; omega)
  simp (disch := omega) only [go_sem, seval, wqq, f1, f3, f6, f7, cm, c0, mG, mG0, sG, sG0, lG, lqq]
  exact cont _ G j (by omega) (by simp only [go_sem, seval, f1]) (by simp only [go_sem, seval, f3]) (by simp only [go_sem, seval, f6]) (by omega) hjK [_, _]
theorem zi0 (x : WI) : pf E0 63 [wiP x] = some (.i .i64 (nbits x.v.natAbs : Int)) := by
 by_cases hs : x.v.natAbs ≤ 9223372036854775807
 ·exact zmG x hs
 have hR : inR x.v.natAbs := (zaP _).1 x.lim
 obtain ⟨K, hKe⟩ : ∃ K, K = x.v.natAbs := ⟨_, rfl⟩
 rw [← hKe] at hR hs ⊢
 have hK : 9223372036854775807 < K := by omega
 have sg := zbQ x
 have fin : ∀ (y : WI), y.v = (K : Int) → pf E0 80 [wiP y] = some (.tu [.i .i64 0, .b false]) := fun y hy => by
  have sm := ze4 y
  have s1 : isSmall (K : Int) = false := by unfold isSmall; exact decide_eq_false (by omega)
  have s2 : small (K : Int) = 0 := by unfold small; rw [s1]; rfl
  rw [hy, s1, s2] at sm
  exact sm
 have fr2 := zew (n := 2) (by decide)
 have w2 : wiOf 2 (by decide) = pwI 0 := WI.ext' (by rw [zhD (zep (Nat.le_of_lt (zkC 0)) zin)]; rfl)
 rw [w2] at fr2
 have nb1 : 1 ≤ nbits K := by unfold nbits; rw [if_neg (by omega)]; omega
 have nbe : (nbits K : Int) - 1 + 1 = (nbits K : Int) := by omega
 have sy : ∀ y : WI, y.v = 1 → pf E0 31 [wiP y] = some (.i .i64 1) := fun y hy => by rw [zbQ, hy]; rfl
 refine zaa (xf := zvl) rfl (by simp [zvl]) ?_
 simp only [zvl]
 have nbb : nbits K ≤ 16384 := by
  obtain ⟨q, hq⟩ : ∃ q, q = 16384 := ⟨_, rfl⟩
  unfold inR at hR
  rw [← hq] at hR ⊢
  exact zcv hR
 by_cases hn : x.v < 0
 ·have t0 : (cmpI x.v 0 < 0) = True := by rw [zdA]; simp [hn]
  have n1 := zks x
  have hv : x.neg.v = (K : Int) := by show -x.v = _; omega
  have sm := fin x.neg hv
  generalize x.neg = y at *
  simp (disch := omega) only [go_sem, seval, wqq, sg, t0, n1, sm, fr2]
  refine zk4 hR hv hK (by simp only [go_sem, seval]) (by simp only [go_sem, seval]) (by simp only [go_sem, seval]) (by simp only [go_sem, seval]) ?_
  intro fr' G J hJ f1 f3 f6 hlt hle R
  have J14 := zgG (zep hle hR)
  simp (disch := omega) only [go_sem, seval, wqq, f6]
  refine zk5 hR hv (by omega) hlt (.inr hle) (by simp only [go_sem, seval, f1]) (by simp only [go_sem, seval, f3]) (by rw [if_neg hJ]; simp only [go_sem, seval, f6]) (by simp only [go_sem, seval]) ?_
  intro fr'' v' y1 hy1 g1 g3
  have syy := sy y1 hy1
  simp (disch := omega) only [go_sem, seval, wqq, g1, g3, syy, nbe]
 ·have t0 : (cmpI x.v 0 < 0) = False := by rw [zdA]; simp [hn]
  have hv : x.v = (K : Int) := by omega
  have sm := fin x hv
  simp (disch := omega) only [go_sem, seval, wqq, sg, t0, sm, fr2]
  refine zk4 hR hv hK (by simp only [go_sem, seval]) (by simp only [go_sem, seval]) (by simp only [go_sem, seval]) (by simp only [go_sem, seval]) ?_
  intro fr' G J hJ f1 f3 f6 hlt hle R
  have J14 := zgG (zep hle hR)
  simp (disch := omega) only [go_sem, seval, wqq, f6]
  refine zk5 hR hv (by omega) hlt (.inr hle) (by simp only [go_sem, seval, f1]) (by simp only [go_sem, seval, f3]) (by rw [if_neg hJ]; simp only [go_sem, seval, f6]) (by simp only [go_sem, seval]) ?_
  intro fr'' v' y1 hy1 g1 g3
  have syy := sy y1 hy1
  simp (disch := omega) only [go_sem, seval, wqq, g1, g3, syy, nbe]
theorem zbP (x : FQ) : pf E0 44 [fqP x] = some (.i .i64 ((max (nbits x.p.v.natAbs) (nbits x.q.v.natAbs) : Nat) : Int)) := by
 have a1 := zop x
 have a2 := zdv x
 have d1 := zi0 x.p
 have d2 := zi0 x.q
 generalize nbits x.p.v.natAbs = a at *
 generalize nbits x.q.v.natAbs = b at *
 have hm : mmP true (.i .i64 (a : Int)) [.i .i64 (b : Int)] = some (.i .i64 ((max a b : Nat) : Int)) := by
  simp only [mmP, if_true]
  congr 2
  split <;> omega
 refine zaa (xf := zvZ) rfl (by simp [zvZ]) ?_
 simp only [zvZ]
 simp (disch := omega) only [go_sem, seval, wqq]
 refine zap [1] rfl (by simp only [go_sem, seval]) ?_
 simp (disch := omega) only [go_sem, seval, wqq, a1, a2, d1, d2, hm]
end Go.Eng
namespace Go.Eng
def slarrB (m off n z : Nat) (lo hi : Option PV) : Option PB → Option PV
 | some b => if off + n * z ≤ b.v.length then slP z (.sl m off n n z) lo hi none else none
 | none => none
def slarrP (M : PM) (n z : Nat) (lo hi : Option PV) : PV → Option PV
 | .p m off => slarrB m off n z lo hi (PM.blk M m)
 | .fp l => if n * z ≤ l.length ∧ n * z ≠ 0 ∧ l.all PV.scal = true then slP z (.lst (group z n (l.take (n * z)))) lo hi none else none
 | _ => none
@[go_sem] theorem zpv (M : PM) (n z m off : Nat) (lo hi : Option PV) : slarrP M n z lo hi (.p m off) = slarrB m off n z lo hi (PM.blk M m) := _root_.id rfl
@[go_sem] theorem zpu (m off n z : Nat) (lo hi : Option PV) (b : PB) : slarrB m off n z lo hi (some b) = if off + n * z ≤ b.v.length then slP z (.sl m off n n z) lo hi none else none := _root_.id rfl
@[go_sem] theorem zpJ {E : PEnv} {F : PFin} {d : Option Nat} {af : List Nat} {l : List XOper} {ks : List KI} {fr : PFr} {M : PM} (n z : Nat) (x : X) (lo hi : Option X) : WL E F (⟨d, .slarr n z x lo hi, af, none⟩ :: l) ks fr M = WV1 E F (slarrP M n z (lo.map (X.pv E.glob fr)) (hi.map (X.pv E.glob fr)) (x.pv E.glob fr)) d l ks fr M := by
 rw [zaV, ← zaW]
 have : XO.pst E.glob (pcl E) fr M (.slarr n z x lo hi) = (slarrP M n z (lo.map (X.pv E.glob fr)) (hi.map (X.pv E.glob fr)) (x.pv E.glob fr)).map fun v => (v, M) := by
  simp only [XO.pst, XO.pev]
  generalize x.pv E.glob fr = a
  cases a with
  | p m off =>
   simp only [slarrP]
   cases PM.blk M m with
   | none => rfl
   | some b => simp only [slarrB]; split <;> rfl
  | fp c => simp only [slarrP]; split <;> rfl
  | _ => rfl
 rw [this]
theorem zto : slP 1 (.sl 0 0 9 9 1) (some (.i .i64 6)) none none = some (.sl 0 6 3 3 1) := rfl
theorem zup : slP 1 (.sl 0 0 9 9 1) none (some (.i .i64 3)) none = some (.sl 0 0 3 9 1) := rfl
theorem zrW : slP 1 (.sl 0 0 9 9 1) (some (.i .i64 3)) (some (.i .i64 6)) none = some (.sl 0 3 3 6 1) := rfl
theorem gr3 (a b c : Int) : group 1 3 [PV.i .i64 a, .i .i64 b, .i .i64 c] = [.i .i64 a, .i .i64 b, .i .i64 c] := rfl
theorem zi9 {n : Int} (hn : Fits64 n) : ∃ f : FQ, f.is n 1 ∧ fsz 5 f ∧ pf E0 317 [.i .i64 n] = some (fqP f) := by
 have hn' := hn
 unfold Fits64 at hn'
 obtain ⟨f, f1, f2, fo⟩ := zmC hn (q := 1) (by decide) (by decide)
 obtain ⟨l1, l2⟩ := zdH (p := n) (q := 1) (by decide) (Nat.gcd_one_right _)
 have f1 := f1.trans l1
 have f2 := f2.trans l2
 have fi := zb2 f
 rw [f1, f2] at fi
 refine ⟨f, fi, ⟨by rw [f1]; exact zal (by omega), by rw [f2]; exact zal (by decide)⟩, ?_⟩
 refine zaa (xf := zv7) rfl (by simp [zv7]) ?_
 simp only [zv7]
 simp (disch := omega) only [go_sem, seval, wqq, fo]
theorem zqq (a b c : Int) (j : Nat) (v : Int) (h : [a, b, c][j]? = some v) : idxP 1 (.lst [.i .i64 a, .i .i64 b, .i .i64 c]) (some j) = some (.fp [.i .i64 v]) := zdZ (xs := [a, b, c]) h
set_option maxHeartbeats 2000000 in
theorem zgY {a b c : Int} (ha : Fits64 a) (hb : Fits64 b) (hc : Fits64 c) {u v : FQ} {n m : Nat} (zu : fsz n u) (zv : fsz m v) (hs : n + m ≤ 1000) {un ud vn vd : Int} (hud : ud ≠ 0) (hvd : vd ≠ 0) (ui : u.is un ud) (vi : v.is vn vd) :
  ∃ r : FQ, pf E0 310 [.lst [.i .i64 a, .i .i64 b, .i .i64 c], fqP u, fqP v] = some (fqP r) ∧ r.is (a * un * vd + b * vn * ud + c * (ud * vd)) (ud * vd) ∧ fsz (n + m + 20) r := by
 obtain ⟨wa, ia, za, fa⟩ := zi9 ha
 obtain ⟨wb, ib, zb, fb⟩ := zi9 hb
 obtain ⟨wc, ic, zc, fc⟩ := zi9 hc
 obtain ⟨x, fx, ix, zx⟩ := zgL wa u za zu (by omega) ia ui
 obtain ⟨y, fy, iy, zy⟩ := zgL wb v zb zv (by omega) ib vi
 obtain ⟨s, fs, is, zs⟩ := zgl x y zx zy (by omega) ix iy
 obtain ⟨r, fr', ir, zr⟩ := zgl s wc zs zc (by omega) is ic
 have hD : ud * vd ≠ 0 := Int.mul_ne_zero hud hvd
 refine ⟨r, ?_, zeX (by simp only [Int.one_mul, Int.mul_one]; exact hD) ir (by grind), ⟨Nat.le_trans zr.1 (by omega), Nat.le_trans zr.2 (by omega)⟩⟩
 clear ia ib ic ix iy is ir ui vi
 have i0 := zqq a b c 0 a rfl
 have i1 := zqq a b c 1 b rfl
 have i2 := zqq a b c 2 c rfl
 refine zaa (xf := zwU) rfl (by simp [zwU]) ?_
 simp only [zwU]
 simp (disch := omega) only [go_sem, seval, wqq]
 refine zdN [4] [15] rfl ?_ ?_
 ·simp (disch := omega) only [go_sem, seval, wqq, i0, i1, i2, fa, fx]
  exact ⟨_, rfl, rfl, rfl⟩
 simp (disch := omega) only [go_sem, seval, wqq, i0, i1, i2, fa, fx]
 refine zdN [5] [25] rfl ?_ ?_
 ·simp (disch := omega) only [go_sem, seval, wqq, i0, i1, i2, fb, fy]
  exact ⟨_, rfl, rfl, rfl⟩
 simp (disch := omega) only [go_sem, seval, wqq, i0, i1, i2, fb, fy, fs]
 refine zdN [12] [42] rfl ?_ ?_
 ·simp (disch := omega) only [go_sem, seval, wqq, i0, i1, i2, fc, fr']
  exact ⟨_, rfl, rfl, rfl⟩
 simp (disch := omega) only [go_sem, seval, wqq, i0, i1, i2, fc, fr']
def rwV (a b c un ud vn vd : Int) : Int := a * un * vd + b * vn * ud + c * (ud * vd)
set_option maxHeartbeats 4000000 in
theorem zf5 {p : Nat → Int} (hp : ∀ e, Fits64 (p e)) (hv : vlP p = 0) {u v : FQ} {n m : Nat} (zu : fsz n u) (zv : fsz m v) (hs : n + m ≤ 500) {un ud vn vd : Int} (hud : ud ≠ 0) (hvd : vd ≠ 0) (ui : u.is un ud) (vi : v.is vn vd)
  (du : max (nbits u.p.v.natAbs) (nbits u.q.v.natAbs) ≤ 1000) (dv : max (nbits v.p.v.natAbs) (nbits v.q.v.natAbs) ≤ 1000) (h0 : rwV (p 6) (p 7) (p 8) un ud vn vd ≠ 0) :
  ∃ x y : FQ, pf E0 305 [pI p, fqP u, fqP v] = some (.tu [fqP x, fqP y, .i .i64 0]) ∧ x.is (rwV (p 0) (p 1) (p 2) un ud vn vd) (rwV (p 6) (p 7) (p 8) un ud vn vd) ∧ y.is (rwV (p 3) (p 4) (p 5) un ud vn vd) (rwV (p 6) (p 7) (p 8) un ud vn vd) ∧ fsz (2 * (n + m) + 40) x ∧ fsz (2 * (n + m) + 40) y := by
 have pv := zcw hp
 rw [hv] at pv
 have d1 := zbP u
 have d2 := zbP v
 have hD : ud * vd ≠ 0 := Int.mul_ne_zero hud hvd
 obtain ⟨r2, f2, i2, z2⟩ := zgY (hp 6) (hp 7) (hp 8) zu zv (by omega) hud hvd ui vi
 obtain ⟨r0, f0, i0, z0⟩ := zgY (hp 0) (hp 1) (hp 2) zu zv (by omega) hud hvd ui vi
 obtain ⟨r1, f1, i1, z1⟩ := zgY (hp 3) (hp 4) (hp 5) zu zv (by omega) hud hvd ui vi
 have i2 : r2.is (rwV (p 6) (p 7) (p 8) un ud vn vd) (ud * vd) := i2
 have i0 : r0.is (rwV (p 0) (p 1) (p 2) un ud vn vd) (ud * vd) := i0
 have i1 : r1.is (rwV (p 3) (p 4) (p 5) un ud vn vd) (ud * vd) := i1
 generalize rwV (p 6) (p 7) (p 8) un ud vn vd = W at *
 generalize rwV (p 0) (p 1) (p 2) un ud vn vd = U at *
 generalize rwV (p 3) (p 4) (p 5) un ud vn vd = V at *
 have r20 : r2.p.v ≠ 0 := fun q => by
  unfold FQ.is at i2
  rw [q, Int.zero_mul] at i2
  have hq := r2.q1
  exact Int.mul_ne_zero h0 (by omega) i2.symm
 obtain ⟨x, fx, ix, zx⟩ := zgs r0 r2 r20 z0 z2 (by omega)
 obtain ⟨y, fy, iy, zy⟩ := zgs r1 r2 r20 z1 z2 (by omega)
 have ix := zdD i0 i2 r20 ix
 have iy := zdD i1 i2 r20 iy
 have sg := ziW r2
 have s0 : (cmpI r2.p.v 0 = 0) = False := by rw [zaY]; simp [r20]
 refine ⟨x, y, ?_, zeX (Int.mul_ne_zero hD h0) ix (by grind), zeX (Int.mul_ne_zero hD h0) iy (by grind), ⟨Nat.le_trans zx.1 (by omega), Nat.le_trans zx.2 (by omega)⟩, ⟨Nat.le_trans zy.1 (by omega), Nat.le_trans zy.2 (by omega)⟩⟩
 generalize max (nbits u.p.v.natAbs) (nbits u.q.v.natAbs) = A at *
 generalize max (nbits v.p.v.natAbs) (nbits v.q.v.natAbs) = B at *
 have t1 : ((A : Int) > 1000) = False := eq_false (by omega)
 have t2 : ((B : Int) > 1000) = False := eq_false (by omega)
 clear ix iy i0 i1 i2 ui vi
 have hF : PV.ag [.i .i64 (p 0), .i .i64 (p 1), .i .i64 (p 2), .i .i64 (p 3), .i .i64 (p 4), .i .i64 (p 5), .i .i64 (p 6), .i .i64 (p 7), .i .i64 (p 8)] = pI p := rfl
 refine zaa (xf := zuY) rfl (by simp [zuY]) ?_
 simp only [zuY]
 simp (disch := omega) only [go_sem, seval, wqq, pv, d1, d2, t1, t2, zag, hF, zto, gr3, f2, sg, s0]
 refine zap [10] rfl (by simp only [go_sem, seval]) ?_
 simp (disch := omega) only [go_sem, seval, wqq, zag, zup, gr3, f0, fx]
 refine zap [10] rfl (by simp only [go_sem, seval]) ?_
 simp (disch := omega) only [go_sem, seval, wqq, zag, zrW, gr3, f1, fy]
 refine zcA [13] [6] rfl ?_ ?_
 ·simp (disch := omega) only [go_sem, seval, wqq]
  exact ⟨_, rfl, rfl⟩
 simp (disch := omega) only [go_sem, seval, wqq]
end Go.Eng
namespace Go.Eng
def q8 (a b c d e f g h : Int) : PV := .ag [.i .i64 a, .i .i64 b, .i .i64 c, .i .i64 d, .i .i64 e, .i .i64 f, .i .i64 g, .i .i64 h]
noncomputable def bsW (w : Nat → WI) (f0 f1 f2 : WI) : Nat → WI := fun e => tW (w e) (if e % 3 = 0 then f0 else if e % 3 = 1 then f1 else f2)
set_option maxHeartbeats 8000000 in
set_option maxRecDepth 100000 in
theorem zmz {x0 y0 x1 y1 x2 y2 x3 y3 : Int} (hx0 : Fits64 x0) (hy0 : Fits64 y0) (hx1 : Fits64 x1) (hy1 : Fits64 y1) (hx2 : Fits64 x2) (hy2 : Fits64 y2) (hx3 : Fits64 x3) (hy3 : Fits64 y3)
  {w : Nat → WI} {f0 f1 f2 : WI} (hw : w = ofW (colI x0 x1 x2 y0 y1 y2)) (h0 : f0 = dtW (ofW (colI x3 x1 x2 y3 y1 y2))) (h1 : f1 = dtW (ofW (colI x0 x3 x2 y0 y3 y2))) (h2 : f2 = dtW (ofW (colI x0 x1 x3 y0 y1 y3)))
  (n0 : f0.v ≠ 0) (n1 : f1.v ≠ 0) (n2 : f2.v ≠ 0) (n3 : (dtW (bsW w f0 f1 f2)).v ≠ 0) : pf E0 315 [q8 x0 y0 x1 y1 x2 y2 x3 y3] = some (.tu [mW (bsW w f0 f1 f2), .b true]) := by
 have c0 := zc4 hx0 hx1 hx2 hy0 hy1 hy2
 have c1 := zc4 hx3 hx1 hx2 hy3 hy1 hy2
 have c2 := zc4 hx0 hx3 hx2 hy0 hy3 hy2
 have c3 := zc4 hx0 hx1 hx3 hy0 hy1 hy3
 have d1 := zfA (ofW (colI x3 x1 x2 y3 y1 y2))
 have d2 := zfA (ofW (colI x0 x3 x2 y0 y3 y2))
 have d3 := zfA (ofW (colI x0 x1 x3 y0 y1 y3))
 rw [← hw] at c0
 rw [← h0] at d1
 rw [← h1] at d2
 rw [← h2] at d3
 generalize ofW (colI x3 x1 x2 y3 y1 y2) = w1 at *
 generalize ofW (colI x0 x3 x2 y0 y3 y2) = w2 at *
 generalize ofW (colI x0 x1 x3 y0 y1 y3) = w3 at *
 clear hw h0 h1 h2
 have s0 := zbQ f0
 have s1 := zbQ f1
 have s2 := zbQ f2
 have e0 : (cmpI f0.v 0 = 0) = False := by rw [zaY]; simp [n0]
 have e1 : (cmpI f1.v 0 = 0) = False := by rw [zaY]; simp [n1]
 have e2 : (cmpI f2.v 0 = 0) = False := by rw [zaY]; simp [n2]
 have d4 := zfA (bsW w f0 f1 f2)
 have s4 := zbQ (dtW (bsW w f0 f1 f2))
 have e4 : (cmpI (dtW (bsW w f0 f1 f2)).v 0 = 0) = False := by rw [zaY]; simp [n3]
 have t0 := zao (w 0) f0
 have t1 := zao (w 1) f1
 have t2 := zao (w 2) f2
 have t3 := zao (w 3) f0
 have t4 := zao (w 4) f1
 have t5 := zao (w 5) f2
 have t6 := zao (w 6) f0
 have t7 := zao (w 7) f1
 have t8 := zao (w 8) f2
 have hB : PV.ag [.b (decide ((tW (w 0) f0).v < 0)), D (tW (w 0) f0).v.natAbs, .b (decide ((tW (w 1) f1).v < 0)), D (tW (w 1) f1).v.natAbs, .b (decide ((tW (w 2) f2).v < 0)), D (tW (w 2) f2).v.natAbs, .b (decide ((tW (w 3) f0).v < 0)), D (tW (w 3) f0).v.natAbs, .b (decide ((tW (w 4) f1).v < 0)), D (tW (w 4) f1).v.natAbs, .b (decide ((tW (w 5) f2).v < 0)), D (tW (w 5) f2).v.natAbs, .b (decide ((tW (w 6) f0).v < 0)), D (tW (w 6) f0).v.natAbs, .b (decide ((tW (w 7) f1).v < 0)), D (tW (w 7) f1).v.natAbs, .b (decide ((tW (w 8) f2).v < 0)), D (tW (w 8) f2).v.natAbs] = mW (bsW w f0 f1 f2) := rfl
 generalize dtW (bsW w f0 f1 f2) = dd at *
 generalize bsW w f0 f1 f2 = bs at *
 generalize tW (w 0) f0 = r0 at *
 generalize tW (w 1) f1 = r1 at *
 generalize tW (w 2) f2 = r2 at *
 generalize tW (w 3) f0 = r3 at *
 generalize tW (w 4) f1 = r4 at *
 generalize tW (w 5) f2 = r5 at *
 generalize tW (w 6) f0 = r6 at *
 generalize tW (w 7) f1 = r7 at *
 generalize tW (w 8) f2 = r8 at *
 unfold q8
 refine zaa (xf := zwf) rfl (by simp [zwf]) ?_
 simp only [zwf]
 simp (disch := omega) only [go_sem, seval, wqq, c0]
 refine zdN [28, 30, 32, 37, 39, 41] [18, 27, 36] rfl ?_ ?_
 ·simp (disch := omega) only [go_sem, seval, wqq, c1, c2, c3, d1, d2, d3, zaG, zak]
  exact ⟨_, rfl, rfl, rfl⟩
 simp (disch := omega) only [go_sem, seval, wqq, c1, c2, c3, d1, d2, d3, zaG, zak]
 refine zac zvA.eq_1 ?_
 simp (disch := omega) only [go_sem, seval, wqq, s0, e0]
 refine zac zuZ.eq_1 ?_
 simp (disch := omega) only [go_sem, seval, wqq, zad, t0]
 refine zac zuZ.eq_1 ?_
 simp (disch := omega) only [go_sem, seval, wqq, zad, t3]
 refine zac zuZ.eq_1 ?_
 simp (disch := omega) only [go_sem, seval, wqq, zad, t6]
 refine zac zuZ.eq_1 ?_
 simp (disch := omega) only [go_sem, seval, wqq]
 refine zac zvA.eq_1 ?_
 simp (disch := omega) only [go_sem, seval, wqq, s1, e1]
 refine zac zuZ.eq_1 ?_
 simp (disch := omega) only [go_sem, seval, wqq, zad, t1]
 refine zac zuZ.eq_1 ?_
 simp (disch := omega) only [go_sem, seval, wqq, zad, t4]
 refine zac zuZ.eq_1 ?_
 simp (disch := omega) only [go_sem, seval, wqq, zad, t7]
 refine zac zuZ.eq_1 ?_
 simp (disch := omega) only [go_sem, seval, wqq]
 refine zac zvA.eq_1 ?_
 simp (disch := omega) only [go_sem, seval, wqq, s2, e2]
 refine zac zuZ.eq_1 ?_
 simp (disch := omega) only [go_sem, seval, wqq, zad, t2]
 refine zac zuZ.eq_1 ?_
 simp (disch := omega) only [go_sem, seval, wqq, zad, t5]
 refine zac zuZ.eq_1 ?_
 simp (disch := omega) only [go_sem, seval, wqq, zad, t8]
 refine zac zuZ.eq_1 ?_
 simp (disch := omega) only [go_sem, seval, wqq]
 refine zac zvA.eq_1 ?_
 simp (disch := omega) only [go_sem, seval, wqq]
 refine zap [5] rfl (by simp only [go_sem, seval]) ?_
 simp (disch := omega) only [go_sem, seval, wqq, hB, d4, s4, e4]
def okQ (x : Int) : Prop := -1048576 ≤ x ∧ x ≤ 1048576
theorem zdt {x y : Int} (hx : okQ x) (hy : okQ y) : ((if y > x then y else x) > 1048576) = False ∧ ((if y < x then y else x) < -1048576) = False := by
 unfold okQ at hx hy
 exact ⟨eq_false (by split <;> omega), eq_false (by split <;> omega)⟩
set_option maxHeartbeats 8000000 in
set_option maxRecDepth 100000 in
theorem zmq {x0 y0 x1 y1 x2 y2 x3 y3 u0 v0 u1 v1 u2 v2 u3 v3 : Int} (hx0 : okQ x0) (hy0 : okQ y0) (hx1 : okQ x1) (hy1 : okQ y1) (hx2 : okQ x2) (hy2 : okQ y2) (hx3 : okQ x3) (hy3 : okQ y3) (hu0 : okQ u0) (hv0 : okQ v0) (hu1 : okQ u1) (hv1 : okQ v1) (hu2 : okQ u2) (hv2 : okQ v2) (hu3 : okQ u3) (hv3 : okQ v3)
  {A B : Nat → WI} (ba : pf E0 315 [q8 x0 y0 x1 y1 x2 y2 x3 y3] = some (.tu [mW A, .b true])) (bb : pf E0 315 [q8 u0 v0 u1 v1 u2 v2 u3 v3] = some (.tu [mW B, .b true])) (hg : gN (fun e => (prW B (adW A) e).v) 9 ≠ 0) :
  pf E0 309 [q8 x0 y0 x1 y1 x2 y2 x3 y3, q8 u0 v0 u1 v1 u2 v2 u3 v3] = some (.tu [pI (nfP fun e => (prW B (adW A) e).v), .i .i64 (nfE fun e => (prW B (adW A) e).v)]) := by
 have ad := zmy A
 have pr := zot B (adW A)
 have nm := ziZ (prW B (adW A)) hg
 generalize nfP (fun e => (prW B (adW A) e).v) = P at *
 generalize nfE (fun e => (prW B (adW A) e).v) = E at *
 generalize prW B (adW A) = Q at *
 generalize adW A = R at *
 obtain ⟨a0, b0⟩ := zdt hx0 hy0
 obtain ⟨a1, b1⟩ := zdt hx1 hy1
 obtain ⟨a2, b2⟩ := zdt hx2 hy2
 obtain ⟨a3, b3⟩ := zdt hx3 hy3
 obtain ⟨a4, b4⟩ := zdt hu0 hv0
 obtain ⟨a5, b5⟩ := zdt hu1 hv1
 obtain ⟨a6, b6⟩ := zdt hu2 hv2
 obtain ⟨a7, b7⟩ := zdt hu3 hv3
 unfold q8 at ba bb ⊢
 refine zaa (xf := zwn) rfl (by simp [zwn]) ?_
 simp only [zwn]
 simp (disch := omega) only [go_sem, seval, wqq, zaG, zak]
 refine zac zwg.eq_1 ?_
 simp (disch := omega) only [go_sem, seval, wqq]
 refine zac zu5.eq_1 ?_
 simp (disch := omega) only [go_sem, seval, wqq, q8, a0, b0]
 refine zac zu5.eq_1 ?_
 simp (disch := omega) only [go_sem, seval, wqq, q8, a1, b1]
 refine zac zu5.eq_1 ?_
 simp (disch := omega) only [go_sem, seval, wqq, q8, a2, b2]
 refine zac zu5.eq_1 ?_
 simp (disch := omega) only [go_sem, seval, wqq, q8, a3, b3]
 refine zac zu5.eq_1 ?_
 simp (disch := omega) only [go_sem, seval, wqq]
 refine zac zwg.eq_1 ?_
 simp (disch := omega) only [go_sem, seval, wqq]
 refine zac zu5.eq_1 ?_
 simp (disch := omega) only [go_sem, seval, wqq, q8, a4, b4]
 refine zac zu5.eq_1 ?_
 simp (disch := omega) only [go_sem, seval, wqq, q8, a5, b5]
 refine zac zu5.eq_1 ?_
 simp (disch := omega) only [go_sem, seval, wqq, q8, a6, b6]
 refine zac zu5.eq_1 ?_
 simp (disch := omega) only [go_sem, seval, wqq, q8, a7, b7]
 refine zac zu5.eq_1 ?_
 simp (disch := omega) only [go_sem, seval, wqq]
 refine zac zwg.eq_1 ?_
 simp (disch := omega) only [go_sem, seval, wqq, ba, bb]
 refine zap [12] rfl (by simp only [go_sem, seval]) ?_
 simp (disch := omega) only [go_sem, seval, wqq, ad, pr, nm]
end Go.Eng
namespace Go.Eng
end Go.Eng
namespace Go.Eng
theorem zp7 {x : Nat → WI} {n : Nat} (hx : ∀ e, wlen (x e).v.natAbs ≤ n) (hn : n ≤ 100) : wlen (dtW x).v.natAbs ≤ 3 * n + 4 := by
 rw [zp8 hx hn]
 have key : ∀ a b c d e : Nat, wlen (rtK (x a).v (x b).v (x c).v (x d).v (x e).v).natAbs ≤ 3 * n + 1 := fun a b c d e => by
  have h1 := zcs (x b).v (x c).v
  have h2 := zcs (x a).v ((x b).v * (x c).v)
  have h3 := zcs (x d).v (x e).v
  have h4 := zcs (x a).v ((x d).v * (x e).v)
  have h5 := zfL ((x a).v * ((x b).v * (x c).v)) ((x a).v * ((x d).v * (x e).v))
  have h5 : wlen (rtK (x a).v (x b).v (x c).v (x d).v (x e).v).natAbs ≤ _ := h5
  have := hx a
  have := hx b
  have := hx c
  have := hx d
  have := hx e
  omega
 have k1 := key 0 4 8 5 7
 have k2 := key 1 5 6 3 8
 have k3 := key 2 3 7 4 6
 have a1 := zcr 0 (rtK (x 0).v (x 4).v (x 8).v (x 5).v (x 7).v)
 have a2 := zcr (0 + rtK (x 0).v (x 4).v (x 8).v (x 5).v (x 7).v) (rtK (x 1).v (x 5).v (x 6).v (x 3).v (x 8).v)
 have a3 := zcr (0 + rtK (x 0).v (x 4).v (x 8).v (x 5).v (x 7).v + rtK (x 1).v (x 5).v (x 6).v (x 3).v (x 8).v) (rtK (x 2).v (x 3).v (x 7).v (x 4).v (x 6).v)
 rw [Int.natAbs_zero, zbA] at a1
 show wlen (0 + rtK (x 0).v (x 4).v (x 8).v (x 5).v (x 7).v + rtK (x 1).v (x 5).v (x 6).v (x 3).v (x 8).v + rtK (x 2).v (x 3).v (x 7).v (x 4).v (x 6).v).natAbs ≤ _
 omega
def bsV (c : Nat → Int) (F0 F1 F2 : Int) : Nat → Int := fun e => c e * (if e % 3 = 0 then F0 else if e % 3 = 1 then F1 else F2)
theorem ztS {c : Nat → Int} (hc : ∀ e, Fits64 (c e)) {f0 f1 f2 : WI} (l0 : wlen f0.v.natAbs ≤ 10) (l1 : wlen f1.v.natAbs ≤ 10) (l2 : wlen f2.v.natAbs ≤ 10) (e : Nat) :
  (bsW (ofW c) f0 f1 f2 e).v = bsV c f0.v f1.v f2.v e ∧ wlen (bsW (ofW c) f0 f1 f2 e).v.natAbs ≤ 12 := by
 have hf : wlen (if e % 3 = 0 then f0 else if e % 3 = 1 then f1 else f2).v.natAbs ≤ 10 := by
  split
  ·exact l0
  ·split
   ·exact l1
   ·exact l2
 obtain ⟨h1, h2⟩ := zkM (zhw hc e) hf (by decide)
 have e1 : (bsW (ofW c) f0 f1 f2 e).v = (ofW c e).v * (if e % 3 = 0 then f0 else if e % 3 = 1 then f1 else f2).v := h1
 rw [e1]
 refine ⟨?_, h2⟩
 rw [zma (hc e)]
 unfold bsV
 congr 1
 split
 ·rfl
 ·split <;> rfl
theorem zar {x : Int} (h : okQ x) : Fits64 x := by unfold okQ at h; unfold Fits64; omega
def baV (x0 y0 x1 y1 x2 y2 x3 y3 : Int) : Nat → Int := bsV (colI x0 x1 x2 y0 y1 y2) (rdV (colI x3 x1 x2 y3 y1 y2)) (rdV (colI x0 x3 x2 y0 y3 y2)) (rdV (colI x0 x1 x3 y0 y1 y3))
theorem zgT {x0 y0 x1 y1 x2 y2 x3 y3 : Int} (hx0 : okQ x0) (hy0 : okQ y0) (hx1 : okQ x1) (hy1 : okQ y1) (hx2 : okQ x2) (hy2 : okQ y2) (hx3 : okQ x3) (hy3 : okQ y3)
  (n0 : rdV (colI x3 x1 x2 y3 y1 y2) ≠ 0) (n1 : rdV (colI x0 x3 x2 y0 y3 y2) ≠ 0) (n2 : rdV (colI x0 x1 x3 y0 y1 y3) ≠ 0) (n3 : rdV (baV x0 y0 x1 y1 x2 y2 x3 y3) ≠ 0) :
  ∃ A : Nat → WI, pf E0 315 [q8 x0 y0 x1 y1 x2 y2 x3 y3] = some (.tu [mW A, .b true]) ∧ (fun e => (A e).v) = baV x0 y0 x1 y1 x2 y2 x3 y3 ∧ ∀ e, wlen (A e).v.natAbs ≤ 12 := by
 have c0 := zcj (zar hx0) (zar hx1) (zar hx2) (zar hy0) (zar hy1) (zar hy2)
 have c1 := zcj (zar hx3) (zar hx1) (zar hx2) (zar hy3) (zar hy1) (zar hy2)
 have c2 := zcj (zar hx0) (zar hx3) (zar hx2) (zar hy0) (zar hy3) (zar hy2)
 have c3 := zcj (zar hx0) (zar hx1) (zar hx3) (zar hy0) (zar hy1) (zar hy3)
 have l1 := zp7 (zhw c1) (by decide)
 have l2 := zp7 (zhw c2) (by decide)
 have l3 := zp7 (zhw c3) (by decide)
 have e1 := znf c1
 have e2 := znf c2
 have e3 := znf c3
 have bv := ztS c0 l1 l2 l3
 have bf : (fun e => (bsW (ofW (colI x0 x1 x2 y0 y1 y2)) (dtW (ofW (colI x3 x1 x2 y3 y1 y2))) (dtW (ofW (colI x0 x3 x2 y0 y3 y2))) (dtW (ofW (colI x0 x1 x3 y0 y1 y3))) e).v) = baV x0 y0 x1 y1 x2 y2 x3 y3 := funext fun e => by
  rw [(bv e).1, e1, e2, e3]; rfl
 refine ⟨_, zmz (zar hx0) (zar hy0) (zar hx1) (zar hy1) (zar hx2) (zar hy2) (zar hx3) (zar hy3) rfl rfl rfl rfl (by rw [e1]; exact n0) (by rw [e2]; exact n1) (by rw [e3]; exact n2) ?_, bf, fun e => (bv e).2⟩
 rw [zp8 (fun e => (bv e).2) (by decide), bf]
 exact n3
theorem zmr {x0 y0 x1 y1 x2 y2 x3 y3 u0 v0 u1 v1 u2 v2 u3 v3 : Int} (hx0 : okQ x0) (hy0 : okQ y0) (hx1 : okQ x1) (hy1 : okQ y1) (hx2 : okQ x2) (hy2 : okQ y2) (hx3 : okQ x3) (hy3 : okQ y3) (hu0 : okQ u0) (hv0 : okQ v0) (hu1 : okQ u1) (hv1 : okQ v1) (hu2 : okQ u2) (hv2 : okQ v2) (hu3 : okQ u3) (hv3 : okQ v3)
  (n0 : rdV (colI x3 x1 x2 y3 y1 y2) ≠ 0) (n1 : rdV (colI x0 x3 x2 y0 y3 y2) ≠ 0) (n2 : rdV (colI x0 x1 x3 y0 y1 y3) ≠ 0) (n3 : rdV (baV x0 y0 x1 y1 x2 y2 x3 y3) ≠ 0)
  (m0 : rdV (colI u3 u1 u2 v3 v1 v2) ≠ 0) (m1 : rdV (colI u0 u3 u2 v0 v3 v2) ≠ 0) (m2 : rdV (colI u0 u1 u3 v0 v1 v3) ≠ 0) (m3 : rdV (baV u0 v0 u1 v1 u2 v2 u3 v3) ≠ 0)
  {Y : Nat → Int} (hY : Y = rprV (baV u0 v0 u1 v1 u2 v2 u3 v3) (adV (baV x0 y0 x1 y1 x2 y2 x3 y3))) (hg : gN Y 9 ≠ 0) :
  pf E0 309 [q8 x0 y0 x1 y1 x2 y2 x3 y3, q8 u0 v0 u1 v1 u2 v2 u3 v3] = some (.tu [pI (nfP Y), .i .i64 (nfE Y)]) := by
 obtain ⟨A, fa, va, la⟩ := zgT hx0 hy0 hx1 hy1 hx2 hy2 hx3 hy3 n0 n1 n2 n3
 obtain ⟨B, fb, vb, lb⟩ := zgT hu0 hv0 hu1 hv1 hu2 hv2 hu3 hv3 m0 m1 m2 m3
 have ml : ∀ e, (adW A e).v = adV (baV x0 y0 x1 y1 x2 y2 x3 y3) e ∧ wlen (adW A e).v.natAbs ≤ 25 := fun e => by
  obtain ⟨h1, h2⟩ := znY la (by decide) (e % 3) (e / 3)
  rw [va] at h1
  exact ⟨h1, h2⟩
 have pe : (fun e => (prW B (adW A) e).v) = Y := funext fun e => by
  rw [zuj (n := 25) (fun e => Nat.le_trans (lb e) (by decide)) (fun e => (ml e).2) (by decide) e, vb, hY]
  congr 1
  exact funext fun e => (ml e).1
 have := zmq hx0 hy0 hx1 hy1 hx2 hy2 hx3 hy3 hu0 hv0 hu1 hv1 hu2 hv2 hu3 hv3 fa fb (by rw [pe]; exact hg)
 rw [pe] at this
 exact this
end Go.Eng
namespace Go.Eng
def tb (l : List Int) : Nat → Int := fun e => l.getD e 0
theorem zge {l : List Int} (h : ∀ n ∈ l, Fits64 n) (e : Nat) : Fits64 (tb l e) := by
 unfold tb
 by_cases he : e < l.length
 ·exact h _ (by simp [List.getD, List.getElem?_eq_getElem he])
 ·have : l.getD e 0 = 0 := by simp [List.getD, List.getElem?_eq_none (Nat.le_of_not_lt he)]
  rw [this]; decide
theorem ziC {X : Nat → Int} {g : Nat} {s : Int} (hg : gN X 9 = g) (hs : fN X 9 = s) (hq : ∀ e, e < 9 → -1073741824 ≤ X e / (g : Int) ∧ X e / (g : Int) ≤ 1073741824) : nfP X = (fun e => X e / (g : Int) * s) ∧ nfE X = 0 := by
 subst hg hs
 have ok : okN X := hq
 exact ⟨by unfold nfP; rw [if_pos ok], by unfold nfE; rw [if_pos ok]⟩
theorem zfE {n : Int} (hn : Fits64 n) : ∃ f : FQ, f.is n 1 ∧ fsz 5 f ∧ f.p.v = n ∧ f.q.v = 1 ∧ pf E0 304 [.i .i64 n] = some (fqP f) := by
 have hn' := hn
 unfold Fits64 at hn'
 obtain ⟨f, f1, f2, fo⟩ := zmC hn (q := 1) (by decide) (by decide)
 obtain ⟨l1, l2⟩ := zdH (p := n) (q := 1) (by decide) (Nat.gcd_one_right _)
 have f1 := f1.trans l1
 have f2 := f2.trans l2
 have fi := zb2 f
 rw [f1, f2] at fi
 refine ⟨f, fi, ⟨by rw [f1]; exact zal (by omega), by rw [f2]; exact zal (by decide)⟩, f1, f2, ?_⟩
 refine zaa (xf := zwl) rfl (by simp [zwl]) ?_
 simp only [zwl]
 simp (disch := omega) only [go_sem, seval, wqq, fo]
theorem zso {f : FQ} (h1 : f.p.v.natAbs ≤ 4611686018427387904) (h2 : f.q.v.natAbs ≤ 4611686018427387904) : max (nbits f.p.v.natAbs) (nbits f.q.v.natAbs) ≤ 1000 := by
 have a := zcv (k := f.p.v.natAbs) (n := 63) (by omega)
 have b := zcv (k := f.q.v.natAbs) (n := 63) (by omega)
 omega
theorem eq9 (a b c d e f g h i : Int) : eqCellsP [1, 1, 1, 1, 1, 1, 1, 1, 1] [PV.i .i64 a, PV.i .i64 b, PV.i .i64 c, PV.i .i64 d, PV.i .i64 e, PV.i .i64 f, PV.i .i64 g, PV.i .i64 h, PV.i .i64 i] [PV.i .i64 a, PV.i .i64 b, PV.i .i64 c, PV.i .i64 d, PV.i .i64 e, PV.i .i64 f, PV.i .i64 g, PV.i .i64 h, PV.i .i64 i] = some true := by
 simp [eqCellsP, eqCellP]
def pQ : Nat → Int := tb [2, 0, 3, 0, 2, 5, 0, 0, 1]
def rQ : Nat → Int := tb [6, 0, 0, 0, 6, 0, -1, -1, 4]
def yQ : Nat → Int := rprV (baV 0 0 2 0 3 3 0 2) (adV (baV 0 0 1 0 1 1 0 1))
theorem zgh {p : Nat → Int} (hp : ∀ e, Fits64 (p e)) (ok : okP p) (h : rdV p ≠ 0) : vlP p = 0 := by
 unfold vlP
 rw [if_pos ok, znf hp, if_neg h]
theorem zmD : pf E0 308 [pI pQ] = some (.tu [.ag [.i .i64 1, .i .i64 0, .i .i64 (-3), .i .i64 0, .i .i64 1, .i .i64 (-5), .i .i64 0, .i .i64 0, .i .i64 2], .i .i64 0]) := by
 have hp : ∀ e, Fits64 (pQ e) := zge (by decide)
 have v0 : vlP pQ = 0 := zgh hp (fun e he => by obtain rfl | rfl | rfl | rfl | rfl | rfl | rfl | rfl | rfl := zeh he <;> decide) (by decide)
 have h := ziM hp
 unfold IP IE at h
 rw [if_pos v0, if_pos v0] at h
 obtain ⟨e1, e2⟩ := ziC (X := adV pQ) (g := 2) (s := 1) (by decide) (by decide) (fun e he => by obtain rfl | rfl | rfl | rfl | rfl | rfl | rfl | rfl | rfl := zeh he <;> decide)
 rw [e1, e2] at h
 have w0 : adV pQ 0 / ((2 : Nat) : Int) * 1 = 1 := by decide
 have w1 : adV pQ 1 / ((2 : Nat) : Int) * 1 = 0 := by decide
 have w2 : adV pQ 2 / ((2 : Nat) : Int) * 1 = (-3) := by decide
 have w3 : adV pQ 3 / ((2 : Nat) : Int) * 1 = 0 := by decide
 have w4 : adV pQ 4 / ((2 : Nat) : Int) * 1 = 1 := by decide
 have w5 : adV pQ 5 / ((2 : Nat) : Int) * 1 = (-5) := by decide
 have w6 : adV pQ 6 / ((2 : Nat) : Int) * 1 = 0 := by decide
 have w7 : adV pQ 7 / ((2 : Nat) : Int) * 1 = 0 := by decide
 have w8 : adV pQ 8 / ((2 : Nat) : Int) * 1 = 2 := by decide
 unfold pI cI at h
 simp only [w0, w1, w2, w3, w4, w5, w6, w7, w8] at h
 unfold pI cI
 exact h
theorem zkt : pf E0 309 [q8 0 0 1 0 1 1 0 1, q8 0 0 2 0 3 3 0 2] = some (.tu [.ag [.i .i64 6, .i .i64 0, .i .i64 0, .i .i64 0, .i .i64 6, .i .i64 0, .i .i64 (-1), .i .i64 (-1), .i .i64 4], .i .i64 0]) := by
 have h := zmr (x0 := 0) (y0 := 0) (x1 := 1) (y1 := 0) (x2 := 1) (y2 := 1) (x3 := 0) (y3 := 1) (u0 := 0) (v0 := 0) (u1 := 2) (v1 := 0) (u2 := 3) (v2 := 3) (u3 := 0) (v3 := 2) (by unfold okQ; decide) (by unfold okQ; decide) (by unfold okQ; decide) (by unfold okQ; decide) (by unfold okQ; decide) (by unfold okQ; decide) (by unfold okQ; decide) (by unfold okQ; decide) (by unfold okQ; decide) (by unfold okQ; decide) (by unfold okQ; decide) (by unfold okQ; decide) (by unfold okQ; decide) (by unfold okQ; decide) (by unfold okQ; decide) (by unfold okQ; decide)
  (by decide) (by decide) (by decide) (by decide) (by decide) (by decide) (by decide) (by decide) (Y := yQ) rfl (by decide)
 obtain ⟨e1, e2⟩ := ziC (X := yQ) (g := 2) (s := (-1)) (by decide) (by decide) (fun e he => by obtain rfl | rfl | rfl | rfl | rfl | rfl | rfl | rfl | rfl := zeh he <;> decide)
 rw [e1, e2] at h
 have w0 : yQ 0 / ((2 : Nat) : Int) * (-1) = 6 := by decide
 have w1 : yQ 1 / ((2 : Nat) : Int) * (-1) = 0 := by decide
 have w2 : yQ 2 / ((2 : Nat) : Int) * (-1) = 0 := by decide
 have w3 : yQ 3 / ((2 : Nat) : Int) * (-1) = 0 := by decide
 have w4 : yQ 4 / ((2 : Nat) : Int) * (-1) = 6 := by decide
 have w5 : yQ 5 / ((2 : Nat) : Int) * (-1) = 0 := by decide
 have w6 : yQ 6 / ((2 : Nat) : Int) * (-1) = (-1) := by decide
 have w7 : yQ 7 / ((2 : Nat) : Int) * (-1) = (-1) := by decide
 have w8 : yQ 8 / ((2 : Nat) : Int) * (-1) = 4 := by decide
 unfold pI cI at h
 simp only [w0, w1, w2, w3, w4, w5, w6, w7, w8] at h
 exact h
set_option maxHeartbeats 4000000 in
set_option maxRecDepth 20000 in
theorem ziX : pf E0 303 [] = some (.b true) := by
 have hp : ∀ e, Fits64 (pQ e) := zge (by decide)
 have hr : ∀ e, Fits64 (rQ e) := zge (by decide)
 have vp : vlP pQ = 0 := zgh hp (fun e he => by obtain rfl | rfl | rfl | rfl | rfl | rfl | rfl | rfl | rfl := zeh he <;> decide) (by decide)
 have vr : vlP rQ = 0 := zgh hr (fun e he => by obtain rfl | rfl | rfl | rfl | rfl | rfl | rfl | rfl | rfl := zeh he <;> decide) (by decide)
 obtain ⟨h, h1, h2, ho⟩ := zmC (p := 1) (q := 2) (by decide) (by decide) (by decide)
 have l1 : lowP 1 2 = 1 ∧ lowQ 1 2 = 2 := zdH (p := 1) (q := 2) (by decide) (by decide)
 have h1 := h1.trans l1.1
 have h2 := h2.trans l1.2
 have hi := zb2 h
 rw [h1, h2] at hi
 have hz : fsz 5 h := ⟨by rw [h1]; exact zal (by decide), by rw [h2]; exact zal (by decide)⟩
 have hd := zso (f := h) (by rw [h1]; decide) (by rw [h2]; decide)
 obtain ⟨o, oi, oz, o1, o2, oo⟩ := zfE (n := 1) (by decide)
 have od := zso (f := o) (by rw [o1]; decide) (by rw [o2]; decide)
 obtain ⟨x, y, ap, xi, yi, _, _⟩ := zf5 hp vp hz oz (by decide) (by decide) (by decide) hi oi hd od (by decide)
 obtain ⟨u, v, aq, ui, vi, _, _⟩ := zf5 hr vr hz hz (by decide) (by decide) (by decide) hi hi hd hd (by decide)
 obtain ⟨x1, x2⟩ := zgH (p := 4) (q := 1) (by decide) (by decide) (by decide) xi (by decide)
 obtain ⟨y1, y2⟩ := zgH (p := 7) (q := 1) (by decide) (by decide) (by decide) yi (by decide)
 obtain ⟨u1, u2⟩ := zgH (p := 1) (q := 1) (by decide) (by decide) (by decide) ui (by decide)
 obtain ⟨v1, v2⟩ := zgH (p := 1) (q := 1) (by decide) (by decide) (by decide) vi (by decide)
 have d4 : decI 4 = [52] := (zh8 (v := 4) (n := 0) rfl (by decide) (by decide)).trans rfl
 have d7 : decI 7 = [55] := (zh8 (v := 7) (n := 0) rfl (by decide) (by decide)).trans rfl
 have d1 : decI 1 = [49] := (zh8 (v := 1) (n := 0) rfl (by decide) (by decide)).trans rfl
 have s1 := zhg x (t := [52]) x1 x2 (by unfold ftx; rw [if_pos rfl, d4])
 have s2 := zhg y (t := [55]) y1 y2 (by unfold ftx; rw [if_pos rfl, d7])
 have s3 := zhg u (t := [49]) u1 u2 (by unfold ftx; rw [if_pos rfl, d1])
 have s4 := zhg v (t := [49]) v1 v2 (by unfold ftx; rw [if_pos rfl, d1])
 have fr := zkt
 have iv := zmD
 have ePQ : pI pQ = .ag [.i .i64 2, .i .i64 0, .i .i64 3, .i .i64 0, .i .i64 2, .i .i64 5, .i .i64 0, .i .i64 0, .i .i64 1] := rfl
 have eRQ : pI rQ = .ag [.i .i64 6, .i .i64 0, .i .i64 0, .i .i64 0, .i .i64 6, .i .i64 0, .i .i64 (-1), .i .i64 (-1), .i .i64 4] := rfl
 rw [ePQ] at ap iv
 rw [eRQ] at aq
 unfold q8 at fr
 clear xi yi ui vi hi oi vp vr hp hr
 refine zaa (xf := zwt) rfl (by simp [zwt]) ?_
 simp only [zwt]
 simp (disch := omega) only [go_sem, seval, wqq, ho, zaG, zak]
 refine zap [1, 2] rfl (by simp only [go_sem, seval]) ?_
 simp (disch := omega) only [go_sem, seval, wqq, oo, ap, iv, fr, aq, s1, s2, s3, s4, eq9, zaG, zak]
end Go.Eng
namespace Go.Eng
theorem ziA {k n : Nat} (h : 2 ^ n ≤ k) : n < nbits k := by
 have h0 : k ≠ 0 := fun q => by have := Nat.two_pow_pos n; omega
 unfold nbits
 rw [if_neg h0]
 have := (Nat.le_log2 h0).2 h
 omega
theorem zjO {k n : Nat} (h : nbits k ≤ n) : k < 2 ^ n := Nat.lt_of_not_le fun q => by have := ziA q; omega
theorem zoD : (2 : Nat) ^ 250 ≤ 10000 ^ 19 := by decide
theorem zfl {k : Nat} (h : nbits k ≤ 1000) : tlen k ≤ 76 := by
 have h2 : nbits k ≤ 250 * 4 := h
 have e1 : ∀ m : Nat, m = 250 → 2 ^ (m * 4) ≤ 10000 ^ (19 * 4) := fun m hm => by
  rw [Nat.pow_mul, Nat.pow_mul]
  exact Nat.pow_le_pow_left (by rw [hm]; exact zoD) 4
 refine zaN.2 (Nat.lt_of_lt_of_le (zjO h2) (e1 250 rfl))
def fw (f : FQ) : Prop := nbits f.p.v.natAbs ≤ 1000 ∧ nbits f.q.v.natAbs ≤ 1000
def rwF (p : Nat → Int) (i : Nat) (u v : FQ) : Int := rwV (p (3 * i)) (p (3 * i + 1)) (p (3 * i + 2)) u.p.v u.q.v v.p.v v.q.v
open Classical in
noncomputable def aE (p : Nat → Int) (u v : FQ) : Int := if vlP p = 0 then (if fw u ∧ fw v then (if rwF p 2 u v = 0 then 9 else 0) else 4) else vlP p
set_option maxHeartbeats 4000000 in
theorem zkq {p : Nat → Int} (hp : ∀ e, Fits64 (p e)) (u v : FQ) (h : vlP p ≠ 0) : pf E0 305 [pI p, fqP u, fqP v] = some (.tu [fqP fq0, fqP fq0, .i .i64 (vlP p)]) := by
 have pv := zcw hp
 generalize vlP p = a at *
 have t : (a = 0) = False := eq_false h
 refine zaa (xf := zuY) rfl (by simp [zuY]) ?_
 simp only [zuY]
 simp (disch := omega) only [go_sem, seval, wqq, pv, t, zla]
set_option maxHeartbeats 4000000 in
theorem zkp {p : Nat → Int} (hp : ∀ e, Fits64 (p e)) (u v : FQ) (hv : vlP p = 0) (h : ¬ (fw u ∧ fw v)) : pf E0 305 [pI p, fqP u, fqP v] = some (.tu [fqP fq0, fqP fq0, .i .i64 4]) := by
 have pv := zcw hp
 rw [hv] at pv
 have d1 := zbP u
 have d2 := zbP v
 have h' : max (nbits u.p.v.natAbs) (nbits u.q.v.natAbs) > 1000 ∨ max (nbits v.p.v.natAbs) (nbits v.q.v.natAbs) > 1000 := by unfold fw at h; omega
 generalize max (nbits u.p.v.natAbs) (nbits u.q.v.natAbs) = A at *
 generalize max (nbits v.p.v.natAbs) (nbits v.q.v.natAbs) = B at *
 clear h
 by_cases t : A > 1000
 ·have t1 : ((A : Int) > 1000) = True := eq_true (by omega)
  refine zaa (xf := zuY) rfl (by simp [zuY]) ?_
  simp only [zuY]
  simp (disch := omega) only [go_sem, seval, wqq, pv, d1, d2, t1, zla]
 ·have t1 : ((A : Int) > 1000) = False := eq_false (by omega)
  have t2 : ((B : Int) > 1000) = True := eq_true (by omega)
  refine zaa (xf := zuY) rfl (by simp [zuY]) ?_
  simp only [zuY]
  simp (disch := omega) only [go_sem, seval, wqq, pv, d1, d2, t1, t2, zla]
theorem zcD {u : FQ} (h : fw u) : fsz 76 u := ⟨zfl h.1, zfl h.2⟩
theorem zdX (u : FQ) : u.q.v ≠ 0 := by have := u.q1; omega
set_option maxHeartbeats 4000000 in
theorem zkr {p : Nat → Int} (hp : ∀ e, Fits64 (p e)) (u v : FQ) (hv : vlP p = 0) (h : fw u ∧ fw v) (h0 : rwF p 2 u v = 0) : pf E0 305 [pI p, fqP u, fqP v] = some (.tu [fqP fq0, fqP fq0, .i .i64 9]) := by
 have pv := zcw hp
 rw [hv] at pv
 have d1 := zbP u
 have d2 := zbP v
 obtain ⟨r2, f2, i2, z2⟩ := zgY (hp 6) (hp 7) (hp 8) (zcD h.1) (zcD h.2) (by omega) (zdX u) (zdX v) (zb2 u) (zb2 v)
 have i2 : r2.is (rwF p 2 u v) (u.q.v * v.q.v) := i2
 rw [h0] at i2
 have r20 : r2.p.v = 0 := by
  unfold FQ.is at i2
  rw [Int.zero_mul] at i2
  exact (Int.mul_eq_zero.1 i2).resolve_right (Int.mul_ne_zero (zdX u) (zdX v))
 have sg := ziW r2
 rw [r20, show cmpI 0 0 = 0 from by decide] at sg
 have h' : ¬ (max (nbits u.p.v.natAbs) (nbits u.q.v.natAbs) > 1000) ∧ ¬ (max (nbits v.p.v.natAbs) (nbits v.q.v.natAbs) > 1000) := by unfold fw at h; omega
 generalize max (nbits u.p.v.natAbs) (nbits u.q.v.natAbs) = A at *
 generalize max (nbits v.p.v.natAbs) (nbits v.q.v.natAbs) = B at *
 have t1 : ((A : Int) > 1000) = False := eq_false (by omega)
 have t2 : ((B : Int) > 1000) = False := eq_false (by omega)
 clear i2 h0 h
 have hF : PV.ag [.i .i64 (p 0), .i .i64 (p 1), .i .i64 (p 2), .i .i64 (p 3), .i .i64 (p 4), .i .i64 (p 5), .i .i64 (p 6), .i .i64 (p 7), .i .i64 (p 8)] = pI p := rfl
 refine zaa (xf := zuY) rfl (by simp [zuY]) ?_
 simp only [zuY]
 simp (disch := omega) only [go_sem, seval, wqq, pv, d1, d2, t1, t2, zag, hF, zto, gr3, f2, sg, zla]
end Go.Eng
namespace Go.Eng
def oneI : Nat → Int := fun e => if e % 4 = 0 then 1 else 0
end Go.Eng
namespace Go.Eng
end Go.Eng
namespace Go.Eng
theorem hF (p : Nat → Int) : PV.ag [.i .i64 (p 0), .i .i64 (p 1), .i .i64 (p 2), .i .i64 (p 3), .i .i64 (p 4), .i .i64 (p 5), .i .i64 (p 6), .i .i64 (p 7), .i .i64 (p 8)] = pI p := rfl
def e9 (a b : Nat → Int) : Bool := a 0 == b 0 && (a 1 == b 1 && (a 2 == b 2 && (a 3 == b 3 && (a 4 == b 4 && (a 5 == b 5 && (a 6 == b 6 && (a 7 == b 7 && a 8 == b 8)))))))
theorem zky {p : Nat → Int} (hp : ∀ e, Fits64 (p e)) {at_ n : Int} (fa : Fits64 at_) (fn : Fits64 n) : ∃ q : Nat → Int, (∀ e, Fits64 (q e)) ∧ pf E0 330 [pI p, .i .i64 at_, .i .i64 n] = some (pI q) := by
 have b1 := Int.tmod_lt_of_pos at_ (show (0 : Int) < 9 by decide)
 have b2 := Int.lt_tmod_of_pos at_ (show (0 : Int) < 9 by decide)
 obtain ⟨j, hj⟩ : ∃ j : Nat, at_.tmod 9 + 9 = (j : Int) := ⟨(at_.tmod 9 + 9).toNat, by omega⟩
 have t9 : (j : Int).tmod 9 = ((j % 9 : Nat) : Int) := zb6 _ 9
 have k9 : j % 9 < 9 := Nat.mod_lt _ (by decide)
 have jb : j ≤ 18 := by omega
 generalize hk : j % 9 = k at *
 refine ⟨fun e => if e = k then n else p e, fun e => by
  show Fits64 (if e = k then n else p e)
  split
  ·exact fn
  ·exact hp e, ?_⟩
 clear hk
 obtain rfl | rfl | rfl | rfl | rfl | rfl | rfl | rfl | rfl := zeh k9
 ·have hR : PV.ag [.i .i64 n, .i .i64 (p 1), .i .i64 (p 2), .i .i64 (p 3), .i .i64 (p 4), .i .i64 (p 5), .i .i64 (p 6), .i .i64 (p 7), .i .i64 (p 8)] = pI (fun e => if e = 0 then n else p e) := rfl
  refine zaa (xf := zuX) rfl (by simp [zuX]) ?_
  simp only [zuX]
  simp (disch := omega) only [go_sem, seval, wqq, zag, hj, t9, hR]
 ·have hR : PV.ag [.i .i64 (p 0), .i .i64 n, .i .i64 (p 2), .i .i64 (p 3), .i .i64 (p 4), .i .i64 (p 5), .i .i64 (p 6), .i .i64 (p 7), .i .i64 (p 8)] = pI (fun e => if e = 1 then n else p e) := rfl
  refine zaa (xf := zuX) rfl (by simp [zuX]) ?_
  simp only [zuX]
  simp (disch := omega) only [go_sem, seval, wqq, zag, hj, t9, hR]
 ·have hR : PV.ag [.i .i64 (p 0), .i .i64 (p 1), .i .i64 n, .i .i64 (p 3), .i .i64 (p 4), .i .i64 (p 5), .i .i64 (p 6), .i .i64 (p 7), .i .i64 (p 8)] = pI (fun e => if e = 2 then n else p e) := rfl
  refine zaa (xf := zuX) rfl (by simp [zuX]) ?_
  simp only [zuX]
  simp (disch := omega) only [go_sem, seval, wqq, zag, hj, t9, hR]
 ·have hR : PV.ag [.i .i64 (p 0), .i .i64 (p 1), .i .i64 (p 2), .i .i64 n, .i .i64 (p 4), .i .i64 (p 5), .i .i64 (p 6), .i .i64 (p 7), .i .i64 (p 8)] = pI (fun e => if e = 3 then n else p e) := rfl
  refine zaa (xf := zuX) rfl (by simp [zuX]) ?_
  simp only [zuX]
  simp (disch := omega) only [go_sem, seval, wqq, zag, hj, t9, hR]
 ·have hR : PV.ag [.i .i64 (p 0), .i .i64 (p 1), .i .i64 (p 2), .i .i64 (p 3), .i .i64 n, .i .i64 (p 5), .i .i64 (p 6), .i .i64 (p 7), .i .i64 (p 8)] = pI (fun e => if e = 4 then n else p e) := rfl
  refine zaa (xf := zuX) rfl (by simp [zuX]) ?_
  simp only [zuX]
  simp (disch := omega) only [go_sem, seval, wqq, zag, hj, t9, hR]
 ·have hR : PV.ag [.i .i64 (p 0), .i .i64 (p 1), .i .i64 (p 2), .i .i64 (p 3), .i .i64 (p 4), .i .i64 n, .i .i64 (p 6), .i .i64 (p 7), .i .i64 (p 8)] = pI (fun e => if e = 5 then n else p e) := rfl
  refine zaa (xf := zuX) rfl (by simp [zuX]) ?_
  simp only [zuX]
  simp (disch := omega) only [go_sem, seval, wqq, zag, hj, t9, hR]
 ·have hR : PV.ag [.i .i64 (p 0), .i .i64 (p 1), .i .i64 (p 2), .i .i64 (p 3), .i .i64 (p 4), .i .i64 (p 5), .i .i64 n, .i .i64 (p 7), .i .i64 (p 8)] = pI (fun e => if e = 6 then n else p e) := rfl
  refine zaa (xf := zuX) rfl (by simp [zuX]) ?_
  simp only [zuX]
  simp (disch := omega) only [go_sem, seval, wqq, zag, hj, t9, hR]
 ·have hR : PV.ag [.i .i64 (p 0), .i .i64 (p 1), .i .i64 (p 2), .i .i64 (p 3), .i .i64 (p 4), .i .i64 (p 5), .i .i64 (p 6), .i .i64 n, .i .i64 (p 8)] = pI (fun e => if e = 7 then n else p e) := rfl
  refine zaa (xf := zuX) rfl (by simp [zuX]) ?_
  simp only [zuX]
  simp (disch := omega) only [go_sem, seval, wqq, zag, hj, t9, hR]
 ·have hR : PV.ag [.i .i64 (p 0), .i .i64 (p 1), .i .i64 (p 2), .i .i64 (p 3), .i .i64 (p 4), .i .i64 (p 5), .i .i64 (p 6), .i .i64 (p 7), .i .i64 n] = pI (fun e => if e = 8 then n else p e) := rfl
  refine zaa (xf := zuX) rfl (by simp [zuX]) ?_
  simp only [zuX]
  simp (disch := omega) only [go_sem, seval, wqq, zag, hj, t9, hR]
theorem zhA {p : Nat → Int} (hp : ∀ e, Fits64 (p e)) {k : Int} (fk : Fits64 k) : ∃ q : Nat → Int, (∀ e, Fits64 (q e)) ∧ pf E0 331 [pI p, .i .i64 k] = some (pI q) := by
 have bd : ∀ x : Int, -1000 < x.tmod 1000 ∧ x.tmod 1000 < 1000 := fun x => ⟨Int.lt_tmod_of_pos x (by decide), Int.tmod_lt_of_pos x (by decide)⟩
 have pr : ∀ x : Int, -1000000 ≤ x.tmod 1000 * k.tmod 1000 ∧ x.tmod 1000 * k.tmod 1000 ≤ 1000000 := fun x => by
  have h1 := bd x
  have h2 := bd k
  have h3 : (x.tmod 1000 * k.tmod 1000).natAbs ≤ 1000 * 1000 := by
   rw [Int.natAbs_mul]
   exact Nat.mul_le_mul (by omega) (by omega)
  omega
 have b0 := bd (p 0)
 have b1 := bd (p 1)
 have b2 := bd (p 2)
 have p0 := pr (p 0)
 have p1 := pr (p 1)
 have p2 := pr (p 2)
 have bk := bd k
 have hR : PV.ag [.i .i64 ((p 0).tmod 1000), .i .i64 ((p 1).tmod 1000), .i .i64 ((p 2).tmod 1000), .i .i64 (p 3), .i .i64 (p 4), .i .i64 (p 5), .i .i64 ((p 0).tmod 1000 * k.tmod 1000), .i .i64 ((p 1).tmod 1000 * k.tmod 1000), .i .i64 ((p 2).tmod 1000 * k.tmod 1000)] = pI (fun e => if e < 3 then (p e).tmod 1000 else if e < 6 then p e else (p (e - 6)).tmod 1000 * k.tmod 1000) := rfl
 refine ⟨fun e => if e < 3 then (p e).tmod 1000 else if e < 6 then p e else (p (e - 6)).tmod 1000 * k.tmod 1000, fun e => by
  show Fits64 (if e < 3 then (p e).tmod 1000 else if e < 6 then p e else (p (e - 6)).tmod 1000 * k.tmod 1000)
  split
  ·have := bd (p e); unfold Fits64; omega
  ·split
   ·exact hp e
   ·have := pr (p (e - 6)); unfold Fits64; omega, ?_⟩
 refine zaa (xf := zvK) rfl (by simp [zvK]) ?_
 simp only [zvK]
 simp (disch := omega) only [go_sem, seval, wqq, zag]
 refine zac zvu.eq_1 ?_
 simp (disch := omega) only [go_sem, seval, wqq]
 refine zac zvu.eq_1 ?_
 simp (disch := omega) only [go_sem, seval, wqq]
 refine zac zvu.eq_1 ?_
 simp (disch := omega) only [go_sem, seval, wqq]
 refine zac zvu.eq_1 ?_
 simp (disch := omega) only [go_sem, seval, wqq, hR]
theorem zkv {xs : List Int} (hx : Ints xs) {i : Int} (hi : Fits64 i) : ∃ n, Fits64 n ∧ pf E0 180 [ints xs, .i .i64 i] = some (.i .i64 n) := by
 obtain ⟨hx1, hx2⟩ := hx
 by_cases h : i < 0
 ·have h : (i < 0) = True := eq_true h
  refine ⟨0, by decide, ?_⟩
  refine zaa (xf := zvc) rfl (by simp [zvc]) ?_
  simp only [zvc]
  simp (disch := omega) only [go_sem, seval, wqq, h]
 ·have h0 : (i < 0) = False := eq_false h
  by_cases h' : (xs.length : Int) ≤ i
  ·have q1 : (i ≥ (xs.length : Int)) = True := eq_true h'
   refine ⟨0, by decide, ?_⟩
   refine zaa (xf := zvc) rfl (by simp [zvc]) ?_
   simp only [zvc]
   simp (disch := omega) only [go_sem, seval, wqq, h0, q1]
  ·have q1 : (i ≥ (xs.length : Int)) = False := eq_false h'
   obtain ⟨j, rfl⟩ : ∃ j : Nat, i = j := ⟨i.toNat, by omega⟩
   have hj : j < xs.length := by omega
   have hg : xs[j]? = some (xs.getD j 0) := by simp [hj]
   refine ⟨xs.getD j 0, hx2 _ (by simp [hj]), ?_⟩
   refine zaa (xf := zvc) rfl (by simp [zvc]) ?_
   simp only [zvc]
   simp (disch := omega) only [go_sem, seval, wqq, h0, q1, zdZ hg, Int.toNat_natCast]
end Go.Eng
namespace Go.Eng
def gEnt (n d : Int) : Int := if n.tmod 6 = 1 ∨ n.tmod 6 = -1 then (n.tdiv 6).tmod 8 else if n.tmod 6 = 2 then (n.tdiv 6).tmod 1000 else if n.tmod 6 = 3 then 1073741824 - (n.tdiv 6).tmod 4 else d
def g0P : Nat → Int := fun e => if e = 0 then 2 else if e = 4 then 2 else if e = 8 then 1 else 0
theorem zii (n d : Int) (hd : Fits64 d) : Fits64 (gEnt n d) := by
 have a1 := Int.lt_tmod_of_pos (n.tdiv 6) (show (0 : Int) < 8 by decide)
 have a2 := Int.tmod_lt_of_pos (n.tdiv 6) (show (0 : Int) < 8 by decide)
 have b1 := Int.lt_tmod_of_pos (n.tdiv 6) (show (0 : Int) < 1000 by decide)
 have b2 := Int.tmod_lt_of_pos (n.tdiv 6) (show (0 : Int) < 1000 by decide)
 have c1 := Int.lt_tmod_of_pos (n.tdiv 6) (show (0 : Int) < 4 by decide)
 have c2 := Int.tmod_lt_of_pos (n.tdiv 6) (show (0 : Int) < 4 by decide)
 unfold gEnt
 split
 ·unfold Fits64; omega
 ·split
  ·unfold Fits64; omega
  ·split
   ·unfold Fits64; omega
   ·exact hd
def gMix (ns : Nat → Int) (i : Nat) : Nat → Int := fun e => if e < i then gEnt (ns e) (g0P e) else g0P e
theorem gm0 (ns : Nat → Int) {x : Int} (h : gEnt (ns 0) (g0P 0) = x) : (cI (gMix ns 0)).set 0 (.i .i64 x) = cI (gMix ns 1) := by subst h; rfl
theorem gk0 (ns : Nat → Int) (h : gEnt (ns 0) (g0P 0) = g0P 0) : cI (gMix ns 0) = cI (gMix ns 1) := by
 have e : gMix ns 0 = gMix ns 1 := by
  funext e
  unfold gMix
  by_cases q : e = 0
  ·subst q; rw [if_neg (by decide), if_pos (by decide), h]
  ·by_cases r : e < 0
   ·rw [if_pos r, if_pos (by omega)]
   ·rw [if_neg r, if_neg (by omega)]
 rw [e]
theorem gm1 (ns : Nat → Int) {x : Int} (h : gEnt (ns 1) (g0P 1) = x) : (cI (gMix ns 1)).set 1 (.i .i64 x) = cI (gMix ns 2) := by subst h; rfl
theorem gk1 (ns : Nat → Int) (h : gEnt (ns 1) (g0P 1) = g0P 1) : cI (gMix ns 1) = cI (gMix ns 2) := by
 have e : gMix ns 1 = gMix ns 2 := by
  funext e
  unfold gMix
  by_cases q : e = 1
  ·subst q; rw [if_neg (by decide), if_pos (by decide), h]
  ·by_cases r : e < 1
   ·rw [if_pos r, if_pos (by omega)]
   ·rw [if_neg r, if_neg (by omega)]
 rw [e]
theorem gm2 (ns : Nat → Int) {x : Int} (h : gEnt (ns 2) (g0P 2) = x) : (cI (gMix ns 2)).set 2 (.i .i64 x) = cI (gMix ns 3) := by subst h; rfl
theorem gk2 (ns : Nat → Int) (h : gEnt (ns 2) (g0P 2) = g0P 2) : cI (gMix ns 2) = cI (gMix ns 3) := by
 have e : gMix ns 2 = gMix ns 3 := by
  funext e
  unfold gMix
  by_cases q : e = 2
  ·subst q; rw [if_neg (by decide), if_pos (by decide), h]
  ·by_cases r : e < 2
   ·rw [if_pos r, if_pos (by omega)]
   ·rw [if_neg r, if_neg (by omega)]
 rw [e]
theorem gm3 (ns : Nat → Int) {x : Int} (h : gEnt (ns 3) (g0P 3) = x) : (cI (gMix ns 3)).set 3 (.i .i64 x) = cI (gMix ns 4) := by subst h; rfl
theorem gk3 (ns : Nat → Int) (h : gEnt (ns 3) (g0P 3) = g0P 3) : cI (gMix ns 3) = cI (gMix ns 4) := by
 have e : gMix ns 3 = gMix ns 4 := by
  funext e
  unfold gMix
  by_cases q : e = 3
  ·subst q; rw [if_neg (by decide), if_pos (by decide), h]
  ·by_cases r : e < 3
   ·rw [if_pos r, if_pos (by omega)]
   ·rw [if_neg r, if_neg (by omega)]
 rw [e]
theorem gm4 (ns : Nat → Int) {x : Int} (h : gEnt (ns 4) (g0P 4) = x) : (cI (gMix ns 4)).set 4 (.i .i64 x) = cI (gMix ns 5) := by subst h; rfl
theorem gk4 (ns : Nat → Int) (h : gEnt (ns 4) (g0P 4) = g0P 4) : cI (gMix ns 4) = cI (gMix ns 5) := by
 have e : gMix ns 4 = gMix ns 5 := by
  funext e
  unfold gMix
  by_cases q : e = 4
  ·subst q; rw [if_neg (by decide), if_pos (by decide), h]
  ·by_cases r : e < 4
   ·rw [if_pos r, if_pos (by omega)]
   ·rw [if_neg r, if_neg (by omega)]
 rw [e]
theorem gm5 (ns : Nat → Int) {x : Int} (h : gEnt (ns 5) (g0P 5) = x) : (cI (gMix ns 5)).set 5 (.i .i64 x) = cI (gMix ns 6) := by subst h; rfl
theorem gk5 (ns : Nat → Int) (h : gEnt (ns 5) (g0P 5) = g0P 5) : cI (gMix ns 5) = cI (gMix ns 6) := by
 have e : gMix ns 5 = gMix ns 6 := by
  funext e
  unfold gMix
  by_cases q : e = 5
  ·subst q; rw [if_neg (by decide), if_pos (by decide), h]
  ·by_cases r : e < 5
   ·rw [if_pos r, if_pos (by omega)]
   ·rw [if_neg r, if_neg (by omega)]
 rw [e]
theorem gm6 (ns : Nat → Int) {x : Int} (h : gEnt (ns 6) (g0P 6) = x) : (cI (gMix ns 6)).set 6 (.i .i64 x) = cI (gMix ns 7) := by subst h; rfl
theorem gk6 (ns : Nat → Int) (h : gEnt (ns 6) (g0P 6) = g0P 6) : cI (gMix ns 6) = cI (gMix ns 7) := by
 have e : gMix ns 6 = gMix ns 7 := by
  funext e
  unfold gMix
  by_cases q : e = 6
  ·subst q; rw [if_neg (by decide), if_pos (by decide), h]
  ·by_cases r : e < 6
   ·rw [if_pos r, if_pos (by omega)]
   ·rw [if_neg r, if_neg (by omega)]
 rw [e]
theorem gm7 (ns : Nat → Int) {x : Int} (h : gEnt (ns 7) (g0P 7) = x) : (cI (gMix ns 7)).set 7 (.i .i64 x) = cI (gMix ns 8) := by subst h; rfl
theorem gk7 (ns : Nat → Int) (h : gEnt (ns 7) (g0P 7) = g0P 7) : cI (gMix ns 7) = cI (gMix ns 8) := by
 have e : gMix ns 7 = gMix ns 8 := by
  funext e
  unfold gMix
  by_cases q : e = 7
  ·subst q; rw [if_neg (by decide), if_pos (by decide), h]
  ·by_cases r : e < 7
   ·rw [if_pos r, if_pos (by omega)]
   ·rw [if_neg r, if_neg (by omega)]
 rw [e]
theorem gm8 (ns : Nat → Int) {x : Int} (h : gEnt (ns 8) (g0P 8) = x) : (cI (gMix ns 8)).set 8 (.i .i64 x) = cI (gMix ns 9) := by subst h; rfl
theorem gk8 (ns : Nat → Int) (h : gEnt (ns 8) (g0P 8) = g0P 8) : cI (gMix ns 8) = cI (gMix ns 9) := by
 have e : gMix ns 8 = gMix ns 9 := by
  funext e
  unfold gMix
  by_cases q : e = 8
  ·subst q; rw [if_neg (by decide), if_pos (by decide), h]
  ·by_cases r : e < 8
   ·rw [if_pos r, if_pos (by omega)]
   ·rw [if_neg r, if_neg (by omega)]
 rw [e]
set_option maxHeartbeats 8000000 in
theorem zmv {xs : List Int} (hx : Ints xs) : ∃ p : Nat → Int, (∀ e, Fits64 (p e)) ∧ pf E0 301 [ints xs, .i .i64 0] = some (pI p) := by
 have pk : ∀ e : Nat, ∃ n, Fits64 n ∧ (e < 100 → pf E0 180 [ints xs, .i .i64 ((e : Nat) : Int)] = some (.i .i64 n)) := fun e => by
  by_cases h : e < 100
  ·obtain ⟨n, h1, h2⟩ := zkv hx (i := ((e : Nat) : Int)) (by unfold Fits64; omega)
   exact ⟨n, h1, fun _ => h2⟩
  ·exact ⟨0, by decide, fun q => (h q).elim⟩
 obtain ⟨ns, hns⟩ : ∃ ns : Nat → Int, ∀ e, Fits64 (ns e) ∧ (e < 100 → pf E0 180 [ints xs, .i .i64 ((e : Nat) : Int)] = some (.i .i64 (ns e))) := ⟨fun e => Classical.choose (pk e), fun e => Classical.choose_spec (pk e)⟩
 have g0f : ∀ e, Fits64 (g0P e) := fun e => by unfold g0P; split <;> (try split) <;> (try split) <;> decide
 refine ⟨gMix ns 9, fun e => by
  show Fits64 (if e < 9 then gEnt (ns e) (g0P e) else g0P e)
  split
  ·exact zii _ _ (g0f e)
  ·exact g0f e, ?_⟩
 have c0 : [PV.i .i64 2, .i .i64 0, .i .i64 0, .i .i64 0, .i .i64 2, .i .i64 0, .i .i64 0, .i .i64 0, .i .i64 1] = cI (gMix ns 0) := rfl
 refine zaa (xf := zwF) rfl (by simp [zwF]) ?_
 simp only [zwF]
 simp (disch := omega) only [go_sem, seval, wqq, zaG, zak]
 refine zat zxA.eq_1 (fun (i : Nat) fr M => i ≤ 9 ∧ fr 0 = ints xs ∧ fr 1 = .i .i64 0 ∧ fr 4 = .p 0 0 ∧ fr 5 = .p 1 0 ∧ fr 6 = (PV.i .i64 ((i : Nat) : Int)) ∧ ∃ b v, M = [some ⟨cQ 0 zI, true, b⟩, some ⟨cI (gMix ns i), true, v⟩]) (fun i => 9 - i) ?_ 0 ⟨by omega, by simp only [go_sem, seval], by simp only [go_sem, seval], by simp only [go_sem, seval], by simp only [go_sem, seval], by simp only [go_sem, seval], _, _, rfl⟩
 rintro i fr M ⟨hi, f0, f1, f4, f5, f6, b, v, rfl⟩ ih
 rcases Nat.lt_or_ge i 9 with h9 | h9
 ·obtain ⟨nf, np⟩ := hns i
  have np := np (by omega)
  have a1 := Int.lt_tmod_of_pos ((ns i).tdiv 6) (show (0 : Int) < 4 by decide)
  have a2 := Int.tmod_lt_of_pos ((ns i).tdiv 6) (show (0 : Int) < 4 by decide)
  have dv : -9223372036854775808 ≤ (ns i).tdiv 6 ∧ (ns i).tdiv 6 ≤ 9223372036854775807 := by
   unfold Fits64 at nf
   have := Int.mul_tdiv_add_tmod (ns i) 6
   have m1 := Int.lt_tmod_of_pos (ns i) (show (0 : Int) < 6 by decide)
   have m2 := Int.tmod_lt_of_pos (ns i) (show (0 : Int) < 6 by decide)
   omega
  have q1 : ((i : Int) < 9) = True := eq_true (by omega)
  have z1 : (0 : Int) + ((i : Nat) : Int) = ((i : Nat) : Int) := Int.zero_add _
  have hE : gEnt (ns i) (g0P i) = gEnt (ns i) (g0P i) := rfl
  rcases zbM ((ns i).tmod 6 = 1) with t1 | t1
  ·have hv : gEnt (ns i) (g0P i) = ((ns i).tdiv 6).tmod 8 := by unfold gEnt; rw [if_pos (.inl (of_eq_true t1))]
   obtain ⟨k, hk⟩ : ∃ k, k = ns i := ⟨_, rfl⟩
   obtain rfl | rfl | rfl | rfl | rfl | rfl | rfl | rfl | rfl := zeh h9
   ·have np : pf E0 180 [ints xs, .i .i64 0] = some (.i .i64 (ns 0)) := np
    simp (disch := omega) only [go_sem, seval, wqq, f0, f1, f4, f5, f6, np, t1]
    exact ih 1 _ _ (by omega) ⟨by omega, by simp only [go_sem, seval, f0], by simp only [go_sem, seval, f1], by simp only [go_sem, seval, f4], by simp only [go_sem, seval, f5], by simp only [go_sem, seval], b, v + 1, by rw [← gm0 ns hv]⟩
   ·have np : pf E0 180 [ints xs, .i .i64 1] = some (.i .i64 (ns 1)) := np
    simp (disch := omega) only [go_sem, seval, wqq, f0, f1, f4, f5, f6, np, t1]
    exact ih 2 _ _ (by omega) ⟨by omega, by simp only [go_sem, seval, f0], by simp only [go_sem, seval, f1], by simp only [go_sem, seval, f4], by simp only [go_sem, seval, f5], by simp only [go_sem, seval], b, v + 1, by rw [← gm1 ns hv]⟩
   ·have np : pf E0 180 [ints xs, .i .i64 2] = some (.i .i64 (ns 2)) := np
    simp (disch := omega) only [go_sem, seval, wqq, f0, f1, f4, f5, f6, np, t1]
    exact ih 3 _ _ (by omega) ⟨by omega, by simp only [go_sem, seval, f0], by simp only [go_sem, seval, f1], by simp only [go_sem, seval, f4], by simp only [go_sem, seval, f5], by simp only [go_sem, seval], b, v + 1, by rw [← gm2 ns hv]⟩
   ·have np : pf E0 180 [ints xs, .i .i64 3] = some (.i .i64 (ns 3)) := np
    simp (disch := omega) only [go_sem, seval, wqq, f0, f1, f4, f5, f6, np, t1]
    exact ih 4 _ _ (by omega) ⟨by omega, by simp only [go_sem, seval, f0], by simp only [go_sem, seval, f1], by simp only [go_sem, seval, f4], by simp only [go_sem, seval, f5], by simp only [go_sem, seval], b, v + 1, by rw [← gm3 ns hv]⟩
   ·have np : pf E0 180 [ints xs, .i .i64 4] = some (.i .i64 (ns 4)) := np
    simp (disch := omega) only [go_sem, seval, wqq, f0, f1, f4, f5, f6, np, t1]
    exact ih 5 _ _ (by omega) ⟨by omega, by simp only [go_sem, seval, f0], by simp only [go_sem, seval, f1], by simp only [go_sem, seval, f4], by simp only [go_sem, seval, f5], by simp only [go_sem, seval], b, v + 1, by rw [← gm4 ns hv]⟩
   ·have np : pf E0 180 [ints xs, .i .i64 5] = some (.i .i64 (ns 5)) := np
    simp (disch := omega) only [go_sem, seval, wqq, f0, f1, f4, f5, f6, np, t1]
    exact ih 6 _ _ (by omega) ⟨by omega, by simp only [go_sem, seval, f0], by simp only [go_sem, seval, f1], by simp only [go_sem, seval, f4], by simp only [go_sem, seval, f5], by simp only [go_sem, seval], b, v + 1, by rw [← gm5 ns hv]⟩
   ·have np : pf E0 180 [ints xs, .i .i64 6] = some (.i .i64 (ns 6)) := np
    simp (disch := omega) only [go_sem, seval, wqq, f0, f1, f4, f5, f6, np, t1]
    exact ih 7 _ _ (by omega) ⟨by omega, by simp only [go_sem, seval, f0], by simp only [go_sem, seval, f1], by simp only [go_sem, seval, f4], by simp only [go_sem, seval, f5], by simp only [go_sem, seval], b, v + 1, by rw [← gm6 ns hv]⟩
   ·have np : pf E0 180 [ints xs, .i .i64 7] = some (.i .i64 (ns 7)) := np
    simp (disch := omega) only [go_sem, seval, wqq, f0, f1, f4, f5, f6, np, t1]
    exact ih 8 _ _ (by omega) ⟨by omega, by simp only [go_sem, seval, f0], by simp only [go_sem, seval, f1], by simp only [go_sem, seval, f4], by simp only [go_sem, seval, f5], by simp only [go_sem, seval], b, v + 1, by rw [← gm7 ns hv]⟩
   ·have np : pf E0 180 [ints xs, .i .i64 8] = some (.i .i64 (ns 8)) := np
    simp (disch := omega) only [go_sem, seval, wqq, f0, f1, f4, f5, f6, np, t1]
    exact ih 9 _ _ (by omega) ⟨by omega, by simp only [go_sem, seval, f0], by simp only [go_sem, seval, f1], by simp only [go_sem, seval, f4], by simp only [go_sem, seval, f5], by simp only [go_sem, seval], b, v + 1, by rw [← gm8 ns hv]⟩
  rcases zbM ((ns i).tmod 6 = -1) with t2 | t2
  ·have hv : gEnt (ns i) (g0P i) = ((ns i).tdiv 6).tmod 8 := by unfold gEnt; rw [if_pos (.inr (of_eq_true t2))]
   obtain rfl | rfl | rfl | rfl | rfl | rfl | rfl | rfl | rfl := zeh h9
   ·have np : pf E0 180 [ints xs, .i .i64 0] = some (.i .i64 (ns 0)) := np
    simp (disch := omega) only [go_sem, seval, wqq, f0, f1, f4, f5, f6, np, t1, t2]
    exact ih 1 _ _ (by omega) ⟨by omega, by simp only [go_sem, seval, f0], by simp only [go_sem, seval, f1], by simp only [go_sem, seval, f4], by simp only [go_sem, seval, f5], by simp only [go_sem, seval], b, v + 1, by rw [← gm0 ns hv]⟩
   ·have np : pf E0 180 [ints xs, .i .i64 1] = some (.i .i64 (ns 1)) := np
    simp (disch := omega) only [go_sem, seval, wqq, f0, f1, f4, f5, f6, np, t1, t2]
    exact ih 2 _ _ (by omega) ⟨by omega, by simp only [go_sem, seval, f0], by simp only [go_sem, seval, f1], by simp only [go_sem, seval, f4], by simp only [go_sem, seval, f5], by simp only [go_sem, seval], b, v + 1, by rw [← gm1 ns hv]⟩
   ·have np : pf E0 180 [ints xs, .i .i64 2] = some (.i .i64 (ns 2)) := np
    simp (disch := omega) only [go_sem, seval, wqq, f0, f1, f4, f5, f6, np, t1, t2]
    exact ih 3 _ _ (by omega) ⟨by omega, by simp only [go_sem, seval, f0], by simp only [go_sem, seval, f1], by simp only [go_sem, seval, f4], by simp only [go_sem, seval, f5], by simp only [go_sem, seval], b, v + 1, by rw [← gm2 ns hv]⟩
   ·have np : pf E0 180 [ints xs, .i .i64 3] = some (.i .i64 (ns 3)) := np
    simp (disch := omega) only [go_sem, seval, wqq, f0, f1, f4, f5, f6, np, t1, t2]
    exact ih 4 _ _ (by omega) ⟨by omega, by simp only [go_sem, seval, f0], by simp only [go_sem, seval, f1], by simp only [go_sem, seval, f4], by simp only [go_sem, seval, f5], by simp only [go_sem, seval], b, v + 1, by rw [← gm3 ns hv]⟩
   ·have np : pf E0 180 [ints xs, .i .i64 4] = some (.i .i64 (ns 4)) := np
    simp (disch := omega) only [go_sem, seval, wqq, f0, f1, f4, f5, f6, np, t1, t2]
    exact ih 5 _ _ (by omega) ⟨by omega, by simp only [go_sem, seval, f0], by simp only [go_sem, seval, f1], by simp only [go_sem, seval, f4], by simp only [go_sem, seval, f5], by simp only [go_sem, seval], b, v + 1, by rw [← gm4 ns hv]⟩
   ·have np : pf E0 180 [ints xs, .i .i64 5] = some (.i .i64 (ns 5)) := np
    simp (disch := omega) only [go_sem, seval, wqq, f0, f1, f4, f5, f6, np, t1, t2]
    exact ih 6 _ _ (by omega) ⟨by omega, by simp only [go_sem, seval, f0], by simp only [go_sem, seval, f1], by simp only [go_sem, seval, f4], by simp only [go_sem, seval, f5], by simp only [go_sem, seval], b, v + 1, by rw [← gm5 ns hv]⟩
   ·have np : pf E0 180 [ints xs, .i .i64 6] = some (.i .i64 (ns 6)) := np
    simp (disch := omega) only [go_sem, seval, wqq, f0, f1, f4, f5, f6, np, t1, t2]
    exact ih 7 _ _ (by omega) ⟨by omega, by simp only [go_sem, seval, f0], by simp only [go_sem, seval, f1], by simp only [go_sem, seval, f4], by simp only [go_sem, seval, f5], by simp only [go_sem, seval], b, v + 1, by rw [← gm6 ns hv]⟩
   ·have np : pf E0 180 [ints xs, .i .i64 7] = some (.i .i64 (ns 7)) := np
    simp (disch := omega) only [go_sem, seval, wqq, f0, f1, f4, f5, f6, np, t1, t2]
    exact ih 8 _ _ (by omega) ⟨by omega, by simp only [go_sem, seval, f0], by simp only [go_sem, seval, f1], by simp only [go_sem, seval, f4], by simp only [go_sem, seval, f5], by simp only [go_sem, seval], b, v + 1, by rw [← gm7 ns hv]⟩
   ·have np : pf E0 180 [ints xs, .i .i64 8] = some (.i .i64 (ns 8)) := np
    simp (disch := omega) only [go_sem, seval, wqq, f0, f1, f4, f5, f6, np, t1, t2]
    exact ih 9 _ _ (by omega) ⟨by omega, by simp only [go_sem, seval, f0], by simp only [go_sem, seval, f1], by simp only [go_sem, seval, f4], by simp only [go_sem, seval, f5], by simp only [go_sem, seval], b, v + 1, by rw [← gm8 ns hv]⟩
  have nt : ¬ ((ns i).tmod 6 = 1 ∨ (ns i).tmod 6 = -1) := fun q => q.elim (of_eq_false t1) (of_eq_false t2)
  rcases zbM ((ns i).tmod 6 = 2) with t3 | t3
  ·have hv : gEnt (ns i) (g0P i) = ((ns i).tdiv 6).tmod 1000 := by unfold gEnt; rw [if_neg nt, if_pos (of_eq_true t3)]
   obtain rfl | rfl | rfl | rfl | rfl | rfl | rfl | rfl | rfl := zeh h9
   ·have np : pf E0 180 [ints xs, .i .i64 0] = some (.i .i64 (ns 0)) := np
    simp (disch := omega) only [go_sem, seval, wqq, f0, f1, f4, f5, f6, np, t1, t2, t3]
    exact ih 1 _ _ (by omega) ⟨by omega, by simp only [go_sem, seval, f0], by simp only [go_sem, seval, f1], by simp only [go_sem, seval, f4], by simp only [go_sem, seval, f5], by simp only [go_sem, seval], b, v + 1, by rw [← gm0 ns hv]⟩
   ·have np : pf E0 180 [ints xs, .i .i64 1] = some (.i .i64 (ns 1)) := np
    simp (disch := omega) only [go_sem, seval, wqq, f0, f1, f4, f5, f6, np, t1, t2, t3]
    exact ih 2 _ _ (by omega) ⟨by omega, by simp only [go_sem, seval, f0], by simp only [go_sem, seval, f1], by simp only [go_sem, seval, f4], by simp only [go_sem, seval, f5], by simp only [go_sem, seval], b, v + 1, by rw [← gm1 ns hv]⟩
   ·have np : pf E0 180 [ints xs, .i .i64 2] = some (.i .i64 (ns 2)) := np
    simp (disch := omega) only [go_sem, seval, wqq, f0, f1, f4, f5, f6, np, t1, t2, t3]
    exact ih 3 _ _ (by omega) ⟨by omega, by simp only [go_sem, seval, f0], by simp only [go_sem, seval, f1], by simp only [go_sem, seval, f4], by simp only [go_sem, seval, f5], by simp only [go_sem, seval], b, v + 1, by rw [← gm2 ns hv]⟩
   ·have np : pf E0 180 [ints xs, .i .i64 3] = some (.i .i64 (ns 3)) := np
    simp (disch := omega) only [go_sem, seval, wqq, f0, f1, f4, f5, f6, np, t1, t2, t3]
    exact ih 4 _ _ (by omega) ⟨by omega, by simp only [go_sem, seval, f0], by simp only [go_sem, seval, f1], by simp only [go_sem, seval, f4], by simp only [go_sem, seval, f5], by simp only [go_sem, seval], b, v + 1, by rw [← gm3 ns hv]⟩
   ·have np : pf E0 180 [ints xs, .i .i64 4] = some (.i .i64 (ns 4)) := np
    simp (disch := omega) only [go_sem, seval, wqq, f0, f1, f4, f5, f6, np, t1, t2, t3]
    exact ih 5 _ _ (by omega) ⟨by omega, by simp only [go_sem, seval, f0], by simp only [go_sem, seval, f1], by simp only [go_sem, seval, f4], by simp only [go_sem, seval, f5], by simp only [go_sem, seval], b, v + 1, by rw [← gm4 ns hv]⟩
   ·have np : pf E0 180 [ints xs, .i .i64 5] = some (.i .i64 (ns 5)) := np
    simp (disch := omega) only [go_sem, seval, wqq, f0, f1, f4, f5, f6, np, t1, t2, t3]
    exact ih 6 _ _ (by omega) ⟨by omega, by simp only [go_sem, seval, f0], by simp only [go_sem, seval, f1], by simp only [go_sem, seval, f4], by simp only [go_sem, seval, f5], by simp only [go_sem, seval], b, v + 1, by rw [← gm5 ns hv]⟩
   ·have np : pf E0 180 [ints xs, .i .i64 6] = some (.i .i64 (ns 6)) := np
    simp (disch := omega) only [go_sem, seval, wqq, f0, f1, f4, f5, f6, np, t1, t2, t3]
    exact ih 7 _ _ (by omega) ⟨by omega, by simp only [go_sem, seval, f0], by simp only [go_sem, seval, f1], by simp only [go_sem, seval, f4], by simp only [go_sem, seval, f5], by simp only [go_sem, seval], b, v + 1, by rw [← gm6 ns hv]⟩
   ·have np : pf E0 180 [ints xs, .i .i64 7] = some (.i .i64 (ns 7)) := np
    simp (disch := omega) only [go_sem, seval, wqq, f0, f1, f4, f5, f6, np, t1, t2, t3]
    exact ih 8 _ _ (by omega) ⟨by omega, by simp only [go_sem, seval, f0], by simp only [go_sem, seval, f1], by simp only [go_sem, seval, f4], by simp only [go_sem, seval, f5], by simp only [go_sem, seval], b, v + 1, by rw [← gm7 ns hv]⟩
   ·have np : pf E0 180 [ints xs, .i .i64 8] = some (.i .i64 (ns 8)) := np
    simp (disch := omega) only [go_sem, seval, wqq, f0, f1, f4, f5, f6, np, t1, t2, t3]
    exact ih 9 _ _ (by omega) ⟨by omega, by simp only [go_sem, seval, f0], by simp only [go_sem, seval, f1], by simp only [go_sem, seval, f4], by simp only [go_sem, seval, f5], by simp only [go_sem, seval], b, v + 1, by rw [← gm8 ns hv]⟩
  rcases zbM ((ns i).tmod 6 = 3) with t4 | t4
  ·have hv : gEnt (ns i) (g0P i) = 1073741824 - ((ns i).tdiv 6).tmod 4 := by unfold gEnt; rw [if_neg nt, if_neg (of_eq_false t3), if_pos (of_eq_true t4)]
   obtain rfl | rfl | rfl | rfl | rfl | rfl | rfl | rfl | rfl := zeh h9
   ·have np : pf E0 180 [ints xs, .i .i64 0] = some (.i .i64 (ns 0)) := np
    simp (disch := omega) only [go_sem, seval, wqq, f0, f1, f4, f5, f6, np, t1, t2, t3, t4]
    exact ih 1 _ _ (by omega) ⟨by omega, by simp only [go_sem, seval, f0], by simp only [go_sem, seval, f1], by simp only [go_sem, seval, f4], by simp only [go_sem, seval, f5], by simp only [go_sem, seval], b, v + 1, by rw [← gm0 ns hv]⟩
   ·have np : pf E0 180 [ints xs, .i .i64 1] = some (.i .i64 (ns 1)) := np
    simp (disch := omega) only [go_sem, seval, wqq, f0, f1, f4, f5, f6, np, t1, t2, t3, t4]
    exact ih 2 _ _ (by omega) ⟨by omega, by simp only [go_sem, seval, f0], by simp only [go_sem, seval, f1], by simp only [go_sem, seval, f4], by simp only [go_sem, seval, f5], by simp only [go_sem, seval], b, v + 1, by rw [← gm1 ns hv]⟩
   ·have np : pf E0 180 [ints xs, .i .i64 2] = some (.i .i64 (ns 2)) := np
    simp (disch := omega) only [go_sem, seval, wqq, f0, f1, f4, f5, f6, np, t1, t2, t3, t4]
    exact ih 3 _ _ (by omega) ⟨by omega, by simp only [go_sem, seval, f0], by simp only [go_sem, seval, f1], by simp only [go_sem, seval, f4], by simp only [go_sem, seval, f5], by simp only [go_sem, seval], b, v + 1, by rw [← gm2 ns hv]⟩
   ·have np : pf E0 180 [ints xs, .i .i64 3] = some (.i .i64 (ns 3)) := np
    simp (disch := omega) only [go_sem, seval, wqq, f0, f1, f4, f5, f6, np, t1, t2, t3, t4]
    exact ih 4 _ _ (by omega) ⟨by omega, by simp only [go_sem, seval, f0], by simp only [go_sem, seval, f1], by simp only [go_sem, seval, f4], by simp only [go_sem, seval, f5], by simp only [go_sem, seval], b, v + 1, by rw [← gm3 ns hv]⟩
   ·have np : pf E0 180 [ints xs, .i .i64 4] = some (.i .i64 (ns 4)) := np
    simp (disch := omega) only [go_sem, seval, wqq, f0, f1, f4, f5, f6, np, t1, t2, t3, t4]
    exact ih 5 _ _ (by omega) ⟨by omega, by simp only [go_sem, seval, f0], by simp only [go_sem, seval, f1], by simp only [go_sem, seval, f4], by simp only [go_sem, seval, f5], by simp only [go_sem, seval], b, v + 1, by rw [← gm4 ns hv]⟩
   ·have np : pf E0 180 [ints xs, .i .i64 5] = some (.i .i64 (ns 5)) := np
    simp (disch := omega) only [go_sem, seval, wqq, f0, f1, f4, f5, f6, np, t1, t2, t3, t4]
    exact ih 6 _ _ (by omega) ⟨by omega, by simp only [go_sem, seval, f0], by simp only [go_sem, seval, f1], by simp only [go_sem, seval, f4], by simp only [go_sem, seval, f5], by simp only [go_sem, seval], b, v + 1, by rw [← gm5 ns hv]⟩
   ·have np : pf E0 180 [ints xs, .i .i64 6] = some (.i .i64 (ns 6)) := np
    simp (disch := omega) only [go_sem, seval, wqq, f0, f1, f4, f5, f6, np, t1, t2, t3, t4]
    exact ih 7 _ _ (by omega) ⟨by omega, by simp only [go_sem, seval, f0], by simp only [go_sem, seval, f1], by simp only [go_sem, seval, f4], by simp only [go_sem, seval, f5], by simp only [go_sem, seval], b, v + 1, by rw [← gm6 ns hv]⟩
   ·have np : pf E0 180 [ints xs, .i .i64 7] = some (.i .i64 (ns 7)) := np
    simp (disch := omega) only [go_sem, seval, wqq, f0, f1, f4, f5, f6, np, t1, t2, t3, t4]
    exact ih 8 _ _ (by omega) ⟨by omega, by simp only [go_sem, seval, f0], by simp only [go_sem, seval, f1], by simp only [go_sem, seval, f4], by simp only [go_sem, seval, f5], by simp only [go_sem, seval], b, v + 1, by rw [← gm7 ns hv]⟩
   ·have np : pf E0 180 [ints xs, .i .i64 8] = some (.i .i64 (ns 8)) := np
    simp (disch := omega) only [go_sem, seval, wqq, f0, f1, f4, f5, f6, np, t1, t2, t3, t4]
    exact ih 9 _ _ (by omega) ⟨by omega, by simp only [go_sem, seval, f0], by simp only [go_sem, seval, f1], by simp only [go_sem, seval, f4], by simp only [go_sem, seval, f5], by simp only [go_sem, seval], b, v + 1, by rw [← gm8 ns hv]⟩
  have hv : gEnt (ns i) (g0P i) = g0P i := by unfold gEnt; rw [if_neg nt, if_neg (of_eq_false t3), if_neg (of_eq_false t4)]
  obtain rfl | rfl | rfl | rfl | rfl | rfl | rfl | rfl | rfl := zeh h9
  ·have np : pf E0 180 [ints xs, .i .i64 0] = some (.i .i64 (ns 0)) := np
   simp (disch := omega) only [go_sem, seval, wqq, f0, f1, f4, f5, f6, np, t1, t2, t3, t4]
   exact ih 1 _ _ (by omega) ⟨by omega, by simp only [go_sem, seval, f0], by simp only [go_sem, seval, f1], by simp only [go_sem, seval, f4], by simp only [go_sem, seval, f5], by simp only [go_sem, seval], b, v, by rw [← gk0 ns hv]⟩
  ·have np : pf E0 180 [ints xs, .i .i64 1] = some (.i .i64 (ns 1)) := np
   simp (disch := omega) only [go_sem, seval, wqq, f0, f1, f4, f5, f6, np, t1, t2, t3, t4]
   exact ih 2 _ _ (by omega) ⟨by omega, by simp only [go_sem, seval, f0], by simp only [go_sem, seval, f1], by simp only [go_sem, seval, f4], by simp only [go_sem, seval, f5], by simp only [go_sem, seval], b, v, by rw [← gk1 ns hv]⟩
  ·have np : pf E0 180 [ints xs, .i .i64 2] = some (.i .i64 (ns 2)) := np
   simp (disch := omega) only [go_sem, seval, wqq, f0, f1, f4, f5, f6, np, t1, t2, t3, t4]
   exact ih 3 _ _ (by omega) ⟨by omega, by simp only [go_sem, seval, f0], by simp only [go_sem, seval, f1], by simp only [go_sem, seval, f4], by simp only [go_sem, seval, f5], by simp only [go_sem, seval], b, v, by rw [← gk2 ns hv]⟩
  ·have np : pf E0 180 [ints xs, .i .i64 3] = some (.i .i64 (ns 3)) := np
   simp (disch := omega) only [go_sem, seval, wqq, f0, f1, f4, f5, f6, np, t1, t2, t3, t4]
   exact ih 4 _ _ (by omega) ⟨by omega, by simp only [go_sem, seval, f0], by simp only [go_sem, seval, f1], by simp only [go_sem, seval, f4], by simp only [go_sem, seval, f5], by simp only [go_sem, seval], b, v, by rw [← gk3 ns hv]⟩
  ·have np : pf E0 180 [ints xs, .i .i64 4] = some (.i .i64 (ns 4)) := np
   simp (disch := omega) only [go_sem, seval, wqq, f0, f1, f4, f5, f6, np, t1, t2, t3, t4]
   exact ih 5 _ _ (by omega) ⟨by omega, by simp only [go_sem, seval, f0], by simp only [go_sem, seval, f1], by simp only [go_sem, seval, f4], by simp only [go_sem, seval, f5], by simp only [go_sem, seval], b, v, by rw [← gk4 ns hv]⟩
  ·have np : pf E0 180 [ints xs, .i .i64 5] = some (.i .i64 (ns 5)) := np
   simp (disch := omega) only [go_sem, seval, wqq, f0, f1, f4, f5, f6, np, t1, t2, t3, t4]
   exact ih 6 _ _ (by omega) ⟨by omega, by simp only [go_sem, seval, f0], by simp only [go_sem, seval, f1], by simp only [go_sem, seval, f4], by simp only [go_sem, seval, f5], by simp only [go_sem, seval], b, v, by rw [← gk5 ns hv]⟩
  ·have np : pf E0 180 [ints xs, .i .i64 6] = some (.i .i64 (ns 6)) := np
   simp (disch := omega) only [go_sem, seval, wqq, f0, f1, f4, f5, f6, np, t1, t2, t3, t4]
   exact ih 7 _ _ (by omega) ⟨by omega, by simp only [go_sem, seval, f0], by simp only [go_sem, seval, f1], by simp only [go_sem, seval, f4], by simp only [go_sem, seval, f5], by simp only [go_sem, seval], b, v, by rw [← gk6 ns hv]⟩
  ·have np : pf E0 180 [ints xs, .i .i64 7] = some (.i .i64 (ns 7)) := np
   simp (disch := omega) only [go_sem, seval, wqq, f0, f1, f4, f5, f6, np, t1, t2, t3, t4]
   exact ih 8 _ _ (by omega) ⟨by omega, by simp only [go_sem, seval, f0], by simp only [go_sem, seval, f1], by simp only [go_sem, seval, f4], by simp only [go_sem, seval, f5], by simp only [go_sem, seval], b, v, by rw [← gk7 ns hv]⟩
  ·have np : pf E0 180 [ints xs, .i .i64 8] = some (.i .i64 (ns 8)) := np
   simp (disch := omega) only [go_sem, seval, wqq, f0, f1, f4, f5, f6, np, t1, t2, t3, t4]
   exact ih 9 _ _ (by omega) ⟨by omega, by simp only [go_sem, seval, f0], by simp only [go_sem, seval, f1], by simp only [go_sem, seval, f4], by simp only [go_sem, seval, f5], by simp only [go_sem, seval], b, v, by rw [← gk8 ns hv]⟩
 ·obtain rfl : i = 9 := by omega
  simp (disch := omega) only [go_sem, seval, wqq, f0, f1, f4, f5, f6]
end Go.Eng
namespace Go.Eng
theorem zg3 (x : WI) : ∃ s : List UInt8, pf E0 107 [nP x.v] = some (.s s) ∧ pf E0 110 [.s s] = some (.tu [wiP x, .i .i64 0]) := by
 have lx := zaz x
 have h1 := ziP (z := x.v) (by omega)
 have h2 := zmu (decI x.v) (zfY x)
 rw [zdk, if_pos ((zaP _).1 x.lim)] at h2
 have hc : clip x.v = x := zbt x.lim
 simp only at h2
 rw [hc] at h2
 exact ⟨_, h1, h2⟩
theorem zey (f : FQ) : pf E0 342 [rfQ f] = some (fqP f) := by
 obtain ⟨s, a1, a2⟩ := zg3 f.p
 obtain ⟨t, b1, b2⟩ := zg3 f.q
 have mk := ziu f
 refine zaa (xf := zxp) rfl (by simp [zxp]) ?_
 simp only [zxp]
 simp (disch := omega) only [go_sem, seval, wqq, a1, a2, b1, b2, mk]
theorem ztX (p : Prop) : p = True ∨ p = False := by by_cases h : p; exact .inl (eq_true h); exact .inr (eq_false h)
end Go.Eng
namespace Go.Eng
theorem zlG {k m : Nat} (h : tlen k ≤ m) : nbits k ≤ 14 * m := by
 refine zcv (Nat.lt_of_lt_of_le (zaN.1 h) ?_)
 rw [Nat.pow_mul]
 exact Nat.pow_le_pow_left (by decide) m
theorem zfp {v d : Nat} {D : Int} (hD : (d : Int) = D) (hd : 0 < d) (lv : tlen v ≤ 20000) (ld : tlen d ≤ 10) : ∃ R : PV, pf E0 120 [.ag [.b false, T v], nP D] = some (.tu [.ag [.b false, T (v / d)], R]) := by
 have h := zdx (x := (v : Int)) (y := (d : Int)) (by omega) (by rw [Int.natAbs_natCast]; omega) (by rw [Int.natAbs_natCast]; omega)
 rw [← Int.natCast_ediv, hD, zcZ v, zcZ (v / d)] at h
 exact ⟨_, h⟩
theorem zll {x : Int} (hl : tlen x.natAbs ≤ 20000) : pf E0 375 [nP x] = some (.i .i64 (nbits x.natAbs : Int)) := by
 have hN := zlG hl
 have o2 := zbp 2 (by decide)
 have o3 := zbp 4294967296 (by decide)
 have hn : nP x = .ag [.b (decide (x < 0)), T x.natAbs] := rfl
 rw [hn]
 refine zaa (xf := zv4) rfl (by simp [zv4]) ?_
 simp only [zv4]
 simp (disch := omega) only [go_sem, seval, wqq]
 refine zat zxr.eq_1 (fun (v : Nat) fr M => tlen v ≤ 20000 ∧ fr 1 = .p 0 0 ∧ (∃ n : Nat, fr 3 = (PV.i .i64 ((n : Nat) : Int)) ∧ n + nbits v = nbits x.natAbs) ∧ ∃ k G, M = some ⟨[.b false, T v], true, k⟩ :: G) (fun v => v) ?_ x.natAbs ⟨hl, by simp only [go_sem, seval], ⟨0, by simp only [go_sem, seval], by omega⟩, _, _, rfl⟩
 rintro v fr M ⟨hv, f1, ⟨n, f3, hn⟩, k, G, rfl⟩ ih
 by_cases v0 : v = 0
 ·subst v0
  have z : nbits 0 = 0 := rfl
  rw [z] at hn
  have tz := zaE
  have hn : ((n : Nat) : Int) = (nbits x.natAbs : Int) := by omega
  simp (disch := omega) only [go_sem, seval, wqq, f1, f3, tz, hn]
 ·have t0 : ((tlen v : Int) > 0) = True := eq_true (by have := zaO v0; omega)
  have hb := zcu v0
  obtain ⟨R, d2⟩ := zfp (v := v) (d := 2) (D := 2) rfl (by decide) hv (by have := zhi (z := 2) (by decide); exact Nat.le_trans this (by decide))
  have l2 : tlen (v / 2) ≤ 20000 := Nat.le_trans (zam (Nat.div_le_self v 2)) hv
  have dl : v / 2 < v := Nat.div_lt_self (by omega) (by decide)
  rcases ztX ((tlen v : Int) < 5) with t1 | t1
  ·simp (disch := omega) only [go_sem, seval, wqq, f1, f3, t0, t1]
   refine zap [1] rfl (by simp only [go_sem, seval, f1]) ?_
   simp (disch := omega) only [go_sem, seval, wqq, f1, f3, o2, d2]
   exact ih (v / 2) _ _ dl ⟨l2, by simp only [go_sem, seval, f1], ⟨n + 1, by simp only [go_sem, seval]; rw [Int.natCast_succ], by omega⟩, _, _, rfl⟩
  ·have cm := zhB (v : Int) 4294967296 (by rw [Int.natAbs_natCast]; omega) (by have := zf2 (n := 4294967296) (by decide); omega)
   rw [zcZ v] at cm
   have cm : pf E0 124 [PV.ag [PV.b false, Tw (tlen v) v], PV.ag [PV.b false, Tw (tlen 4294967296) 4294967296]] = some (.i .i64 (cmpI (v : Int) 4294967296)) := cm
   by_cases q : v < 4294967296
   ·have t2 : cmpI (v : Int) 4294967296 = -1 := by unfold cmpI; rw [if_pos (by omega)]
    rw [t2] at cm
    simp (disch := omega) only [go_sem, seval, wqq, f1, f3, t0, t1, t2, o3, cm, mG, mG0, sG, sG0, lG, lqq]
    refine zap [1] rfl (by simp only [go_sem, seval, f1]) ?_
    simp (disch := omega) only [go_sem, seval, wqq, f1, f3, o2, d2]
    exact ih (v / 2) _ _ dl ⟨l2, by simp only [go_sem, seval, f1], ⟨n + 1, by simp only [go_sem, seval]; rw [Int.natCast_succ], by omega⟩, _, _, rfl⟩
   ·have t2 : ¬ cmpI (v : Int) 4294967296 < 0 := by unfold cmpI; rw [if_neg (by omega)]; split <;> omega
    have t2 : (cmpI (v : Int) 4294967296 < 0) = False := eq_false t2
    obtain ⟨R3, d3⟩ := zfp (v := v) (d := 4294967296) (D := 4294967296) rfl (by decide) hv (by have := zf2 (n := 4294967296) (by decide); exact Nat.le_trans this (by decide))
    have d3 : pf E0 120 [PV.ag [PV.b false, Tw (tlen v) v], PV.ag [PV.b false, Tw (tlen 4294967296) 4294967296]] = some (.tu [.ag [.b false, T (v / 4294967296)], R3]) := d3
    have hb3 := zfy (k := v) (m := 32) (by omega)
    have l3 : tlen (v / 4294967296) ≤ 20000 := Nat.le_trans (zam (Nat.div_le_self v _)) hv
    have dl3 : v / 4294967296 < v := Nat.div_lt_self (by omega) (by decide)
    simp (disch := omega) only [go_sem, seval, wqq, f1, f3, t0, t1, t2, o3, cm, d3, mG, mG0, sG, sG0, lG, lqq]
    exact ih (v / 4294967296) _ _ dl3 ⟨l3, by simp only [go_sem, seval, f1], ⟨n + 32, by simp only [go_sem, seval]; rw [Int.natCast_add]; rfl, by have : (2 : Nat) ^ 32 = 4294967296 := rfl; rw [this] at hb3; omega⟩, _, _, rfl⟩
end Go.Eng
namespace Go.Eng
theorem zeA (f : FQ) : pf E0 359 [rfQ f] = some (.i .i64 ((max (nbits f.p.v.natAbs) (nbits f.q.v.natAbs) : Nat) : Int)) := by
 have d1 := zll (x := f.p.v) (by have := zaz f.p; omega)
 have d2 := zll (x := f.q.v) (by have := zaz f.q; omega)
 have hm : (if ((nbits f.q.v.natAbs : Nat) : Int) > ((nbits f.p.v.natAbs : Nat) : Int) then ((nbits f.q.v.natAbs : Nat) : Int) else ((nbits f.p.v.natAbs : Nat) : Int)) = ((max (nbits f.p.v.natAbs) (nbits f.q.v.natAbs) : Nat) : Int) := by
  by_cases h : nbits f.q.v.natAbs > nbits f.p.v.natAbs
  ·rw [if_pos (by omega)]; omega
  ·rw [if_neg (by omega)]; omega
 refine zaa (xf := zwb) rfl (by simp [zwb]) ?_
 simp only [zwb]
 simp (disch := omega) only [go_sem, seval, wqq]
 refine zaf [6] rfl ?_ ?_
 ·simp (disch := omega) only [go_sem, seval, wqq, d1, d2]
  exact ⟨_, rfl, rfl⟩
 simp (disch := omega) only [go_sem, seval, wqq, d1, d2, hm]
theorem zkI (f : FQ) : ∃ T B, SplitR (ftx f.p.v f.q.v) T B := by
 unfold ftx
 by_cases hq : f.q.v = 1
 ·rw [if_pos hq]; exact ⟨_, _, .inl ⟨zcU _, rfl, rfl⟩⟩
 ·rw [if_neg hq, List.append_assoc]
  exact ⟨_, _, .inr ⟨(decI f.p.v).length, by simp, by simp, fun j hj => by rw [List.getElem?_append_left hj]; intro h; exact zcU _ (List.mem_of_getElem? h), rfl, rfl⟩⟩
theorem zj6 {f g : FQ} (h : fqP f = fqP g) : f = g := by
 have a := za9 f
 rw [h, za9 g] at a
 have e : ftx g.p.v g.q.v = ftx f.p.v f.q.v := by
  injection a with a; injection a
 obtain ⟨T, B, hS⟩ := zkI f
 obtain ⟨a1, a2⟩ := zfJ hS
 rw [← e] at hS
 obtain ⟨b1, b2⟩ := zfJ hS
 have inj : ∀ (x y : WI), decI x.v = decI y.v → x.v = y.v := fun x y h => by
  have p1 := zdk x.v
  have p2 := zdk y.v
  rw [if_pos ((zaP _).1 x.lim)] at p1
  rw [if_pos ((zaP _).1 y.lim)] at p2
  rw [h, p2] at p1
  exact (Prod.mk.inj p1).1.symm
 exact zid (inj f.p g.p (a1.symm.trans b1)) (inj f.q g.q (a2.symm.trans b2))
theorem zgg {f g : FQ} {d e : Int} (h : some (PV.tu [fqP f, .i .i64 d]) = some (.tu [fqP g, .i .i64 e])) : f = g ∧ d = e := by
 simp only [Option.some.injEq, PV.tu.injEq, List.cons.injEq, PV.i.injEq, true_and, and_true] at h
 exact ⟨zj6 h.1, h.2⟩
theorem zlh {a b f : FQ} (h : pf E0 8 [fqP a, fqP b] = some (.tu [fqP f, .i .i64 0])) : pf E0 192 [rfQ a, rfQ b] = some (.tu [rfQ f, .i .i64 0]) := by
 obtain ⟨g, e, h1, h2⟩ := zkf a b
 rw [h] at h1; obtain ⟨rfl, rfl⟩ := zgg h1; exact h2
theorem zk0 {a b f : FQ} (h : pf E0 9 [fqP a, fqP b] = some (.tu [fqP f, .i .i64 0])) : pf E0 190 [rfQ a, rfQ b] = some (.tu [rfQ f, .i .i64 0]) := by
 obtain ⟨g, e, h1, h2⟩ := zjI a b
 rw [h] at h1; obtain ⟨rfl, rfl⟩ := zgg h1; exact h2
theorem zk6 {a b f : FQ} (h : pf E0 65 [fqP a, fqP b] = some (.tu [fqP f, .i .i64 0])) : pf E0 193 [rfQ a, rfQ b] = some (.tu [rfQ f, .i .i64 0]) := by
 obtain ⟨g, e, h1, h2⟩ := zjV a b
 rw [h] at h1; obtain ⟨rfl, rfl⟩ := zgg h1; exact h2
theorem ze6 {n : Int} (hn : Fits64 n) : ∃ f : FQ, f.is n 1 ∧ fsz 5 f ∧ pf E0 185 [.i .i64 n] = some (rfQ f) := by
 obtain ⟨f, i, z, a, b, _⟩ := zfE hn
 exact ⟨f, i, z, by rw [zeC hn, zd9 a b]⟩
set_option maxHeartbeats 4000000 in
theorem zja {p : Nat → Int} (hp : ∀ e, Fits64 (p e)) {u v : FQ} (zu : fsz 76 u) (zv : fsz 76 v) {i : Nat} (hi : i < 3) :
  ∃ r : FQ, pf E0 360 [pI p, (PV.i .i64 ((i : Nat) : Int)), rfQ u, rfQ v] = some (rfQ r) ∧ r.is (rwF p i u v) (u.q.v * v.q.v) ∧ fsz 172 r := by
 obtain ⟨wa, ia, za, fa⟩ := ze6 (hp (3 * i))
 obtain ⟨wb, ib, zb, fb⟩ := ze6 (hp (3 * i + 1))
 obtain ⟨wc, ic, zc, fc⟩ := ze6 (hp (3 * i + 2))
 obtain ⟨x, fx, ix, zx⟩ := zgL wa u za zu (by omega) ia (zb2 u)
 obtain ⟨y, fy, iy, zy⟩ := zgL wb v zb zv (by omega) ib (zb2 v)
 obtain ⟨s, fs, is, zs⟩ := zgl x y zx zy (by omega) ix iy
 obtain ⟨r, fr', ir, zr⟩ := zgl s wc zs zc (by omega) is ic
 have hD : u.q.v * v.q.v ≠ 0 := Int.mul_ne_zero (zdX u) (zdX v)
 refine ⟨r, ?_, zeX (by simp only [Int.one_mul, Int.mul_one]; exact hD) ir (by unfold rwF rwV; grind), ⟨Nat.le_trans zr.1 (by omega), Nat.le_trans zr.2 (by omega)⟩⟩
 clear ia ib ic ix iy is ir
 have fx := zlh fx
 have fy := zlh fy
 have fs := zk0 fs
 have fr' := zk0 fr'
 obtain rfl | rfl | rfl : i = 0 ∨ i = 1 ∨ i = 2 := by omega
 all_goals
  simp only [Nat.reduceMul, Nat.reduceAdd] at fa fb fc
  refine zaa (xf := zw7) rfl (by simp [zw7]) ?_
  simp only [zw7]
  simp (disch := omega) only [go_sem, seval, wqq]
  refine zap [6] rfl (by simp only [go_sem, seval]) ?_
  simp (disch := omega) only [go_sem, seval, wqq, zag, fa, fx]
  refine zap [7] rfl (by simp only [go_sem, seval]) ?_
  simp (disch := omega) only [go_sem, seval, wqq, zag, fb, fy, fs]
  refine zap [13] rfl (by simp only [go_sem, seval]) ?_
  simp (disch := omega) only [go_sem, seval, wqq, zag, fc, fr']
set_option maxHeartbeats 8000000 in
theorem ze3 {p : Nat → Int} (hp : ∀ e, Fits64 (p e)) (u v : FQ) : ∃ x y : FQ, pf E0 305 [pI p, fqP u, fqP v] = some (.tu [fqP x, fqP y, .i .i64 (aE p u v)]) ∧ pf E0 343 [pI p, rfQ u, rfQ v] = some (.tu [rfQ x, rfQ y, .i .i64 (aE p u v)]) := by
 have rv := zlk hp
 have o0 := zeC (n := 0) (by decide)
 rw [zrQ] at o0
 have d1 := zeA u
 have d2 := zeA v
 unfold aE
 by_cases hv : vlP p = 0
 ·rw [if_pos hv]
  rw [hv] at rv
  by_cases h : fw u ∧ fw v
  ·rw [if_pos h]
   obtain ⟨r2, g2, i2, z2⟩ := zja hp (zcD h.1) (zcD h.2) (show 2 < 3 by decide)
   obtain ⟨r0, g0, i0, z0⟩ := zja hp (zcD h.1) (zcD h.2) (show 0 < 3 by decide)
   obtain ⟨r1, g1, i1, z1⟩ := zja hp (zcD h.1) (zcD h.2) (show 1 < 3 by decide)
   have g2 : pf E0 360 [pI p, .i .i64 2, rfQ u, rfQ v] = some (rfQ r2) := g2
   have g0 : pf E0 360 [pI p, .i .i64 0, rfQ u, rfQ v] = some (rfQ r0) := g0
   have g1 : pf E0 360 [pI p, .i .i64 1, rfQ u, rfQ v] = some (rfQ r1) := g1
   have sg : pf E0 199 [rfQ r2] = some (.i .i64 (cmpI r2.p.v 0)) := zkx r2.p.v r2.q.v
   have hD := Int.mul_ne_zero (zdX u) (zdX v)
   have h' : ¬ (max (nbits u.p.v.natAbs) (nbits u.q.v.natAbs) > 1000) ∧ ¬ (max (nbits v.p.v.natAbs) (nbits v.q.v.natAbs) > 1000) := by have := h; unfold fw at this; omega
   by_cases h0 : rwF p 2 u v = 0
   ·rw [if_pos h0]
    have ax := zkr hp u v hv h h0
    refine ⟨fq0, fq0, ax, ?_⟩
    rw [h0] at i2
    have r20 : r2.p.v = 0 := by
     unfold FQ.is at i2
     rw [Int.zero_mul] at i2
     exact (Int.mul_eq_zero.1 i2).resolve_right hD
    rw [r20, show cmpI 0 0 = 0 from by decide] at sg
    generalize max (nbits u.p.v.natAbs) (nbits u.q.v.natAbs) = A at *
    generalize max (nbits v.p.v.natAbs) (nbits v.q.v.natAbs) = B at *
    have t1 : ((A : Int) > 1000) = False := eq_false (by omega)
    have t2 : ((B : Int) > 1000) = False := eq_false (by omega)
    clear i0 i1 i2 h0 h
    refine zaa (xf := zu0) rfl (by simp [zu0]) ?_
    simp only [zu0]
    simp (disch := omega) only [go_sem, seval, wqq, o0, rv, d1, d2, t1, t2, zag, hF, g2, sg]
    refine zcA [9] [6] rfl ?_ ?_
    ·simp (disch := omega) only [go_sem, seval, wqq]
     exact ⟨_, rfl, rfl⟩
    simp (disch := omega) only [go_sem, seval, wqq]
   ·rw [if_neg h0]
    obtain ⟨x, y, ax, jx, jy, _, _⟩ := zf5 hp hv (zcD h.1) (zcD h.2) (by omega) (zdX u) (zdX v) (zb2 u) (zb2 v) (Nat.max_le.2 h.1) (Nat.max_le.2 h.2) h0
    have r20 : r2.p.v ≠ 0 := fun q => by
     unfold FQ.is at i2
     rw [q, Int.zero_mul] at i2
     exact Int.mul_ne_zero h0 (zdX r2) i2.symm
    obtain ⟨x', fx, ix, _⟩ := zgs r0 r2 r20 z0 z2 (by omega)
    obtain ⟨y', fy, iy, _⟩ := zgs r1 r2 r20 z1 z2 (by omega)
    have ix := zdD i0 i2 r20 ix
    have iy := zdD i1 i2 r20 iy
    have ex : x' = x := zip (Int.mul_ne_zero hD h0) h0 ix jx (by show _ * rwF p 2 u v = rwF p 0 u v * _; grind)
    have ey : y' = y := zip (Int.mul_ne_zero hD h0) h0 iy jy (by show _ * rwF p 2 u v = rwF p 1 u v * _; grind)
    refine ⟨x, y, ax, ?_⟩
    rw [ex] at fx
    rw [ey] at fy
    have fx := zk6 fx
    have fy := zk6 fy
    have s0 : (cmpI r2.p.v 0 = 0) = False := by rw [zaY]; simp [r20]
    generalize max (nbits u.p.v.natAbs) (nbits u.q.v.natAbs) = A at *
    generalize max (nbits v.p.v.natAbs) (nbits v.q.v.natAbs) = B at *
    have t1 : ((A : Int) > 1000) = False := eq_false (by omega)
    have t2 : ((B : Int) > 1000) = False := eq_false (by omega)
    clear i0 i1 i2 h0 h ix iy jx jy ax
    refine zaa (xf := zu0) rfl (by simp [zu0]) ?_
    simp only [zu0]
    simp (disch := omega) only [go_sem, seval, wqq, o0, rv, d1, d2, t1, t2, zag, hF, g2, sg, s0]
    refine zap [11] rfl (by simp only [go_sem, seval]) ?_
    simp (disch := omega) only [go_sem, seval, wqq, zag, hF, g0, fx]
    refine zap [11] rfl (by simp only [go_sem, seval]) ?_
    simp (disch := omega) only [go_sem, seval, wqq, zag, hF, g1, fy]
    refine zcA [14] [6] rfl ?_ ?_
    ·simp (disch := omega) only [go_sem, seval, wqq]
     exact ⟨_, rfl, rfl⟩
    simp (disch := omega) only [go_sem, seval, wqq]
  ·rw [if_neg h]
   refine ⟨fq0, fq0, zkp hp u v hv h, ?_⟩
   have h' : max (nbits u.p.v.natAbs) (nbits u.q.v.natAbs) > 1000 ∨ max (nbits v.p.v.natAbs) (nbits v.q.v.natAbs) > 1000 := by unfold fw at h; omega
   generalize max (nbits u.p.v.natAbs) (nbits u.q.v.natAbs) = A at *
   generalize max (nbits v.p.v.natAbs) (nbits v.q.v.natAbs) = B at *
   clear h
   by_cases t : A > 1000
   ·have t1 : ((A : Int) > 1000) = True := eq_true (by omega)
    refine zaa (xf := zu0) rfl (by simp [zu0]) ?_
    simp only [zu0]
    simp (disch := omega) only [go_sem, seval, wqq, o0, rv, d1, d2, t1, zag, hF]
    refine zcA [9] [6] rfl ?_ ?_
    ·simp (disch := omega) only [go_sem, seval, wqq]
     exact ⟨_, rfl, rfl⟩
    simp (disch := omega) only [go_sem, seval, wqq]
   ·have t1 : ((A : Int) > 1000) = False := eq_false (by omega)
    have t2 : ((B : Int) > 1000) = True := eq_true (by omega)
    refine zaa (xf := zu0) rfl (by simp [zu0]) ?_
    simp only [zu0]
    simp (disch := omega) only [go_sem, seval, wqq, o0, rv, d1, d2, t1, t2, zag, hF]
    refine zcA [9] [6] rfl ?_ ?_
    ·simp (disch := omega) only [go_sem, seval, wqq]
     exact ⟨_, rfl, rfl⟩
    simp (disch := omega) only [go_sem, seval, wqq]
 ·rw [if_neg hv]
  refine ⟨fq0, fq0, zkq hp u v hv, ?_⟩
  have t : (vlP p = 0) = False := eq_false hv
  refine zaa (xf := zu0) rfl (by simp [zu0]) ?_
  simp only [zu0]
  simp (disch := omega) only [go_sem, seval, wqq, o0, rv, t, zag, hF]
  refine zcA [9] [6] rfl ?_ ?_
  ·simp (disch := omega) only [go_sem, seval, wqq]
   exact ⟨_, rfl, rfl⟩
  simp (disch := omega) only [go_sem, seval, wqq]
end Go.Eng
namespace Go.Eng
theorem zhj {K : Nat} (h : K + 2 ≤ 1250) : tlen (two K + 1).natAbs ≤ 95 := by
 have e1 : ∀ m : Nat, m = 250 → K + 2 ≤ m * 5 → 2 ^ (K + 2) ≤ 10000 ^ (19 * 5) := fun m hm hk => by
  refine Nat.le_trans (Nat.pow_le_pow_right (by decide) hk) ?_
  rw [Nat.pow_mul, Nat.pow_mul]
  exact Nat.pow_le_pow_left (by rw [hm]; exact zoD) 5
 refine zaN.2 (Nat.lt_of_lt_of_le ?_ (e1 250 rfl h))
 have h3 := Nat.two_pow_pos K
 have h4 : (two K + 1).natAbs = 2 ^ K + 1 := by unfold two; omega
 rw [h4, Nat.pow_add]
 omega
theorem zl1 {K : Nat} (hK : K + 2 ≤ 1250) {q : Int} (q0 : 0 < q) (q1 : q < 10) : ∃ f : FQ, pf E0 182 [nP (two K + 1), nP q] = some (.tu [rfQ f, .i .i64 0]) := by
 have l := zhj hK
 have lq := zhi (z := q) (by omega)
 have h := zcx (two K + 1) q (by omega) (by omega) (by omega)
 obtain ⟨f, h1, h2, _⟩ := zis (P := two K + 1) (Q := q) (n := 95) (by omega) l (by omega) (by decide)
 rw [zd9 h1 h2] at h
 exact ⟨f, h⟩
def sel3 {α : Type} (a b c : α) : Nat → α := fun t => if t = 0 then a else if t = 1 then b else c
def c27 (P : Nat → Nat → Int) : List PV := cI (P 0) ++ (cI (P 1) ++ cI (P 2))
theorem zlI (P : Nat → Nat → Int) : (c27 P).length = 27 := rfl
theorem znu (P : Nat → Nat → Int) {i : Nat} (h : i < 3) : ((c27 P).drop (i * 9)).take 9 = cI (P i) := by
 obtain rfl | rfl | rfl : i = 0 ∨ i = 1 ∨ i = 2 := by omega
 all_goals rfl
noncomputable def c12 (F : Nat → FQ) : List PV := [.b (decide ((F 0).p.v < 0)), T (F 0).p.v.natAbs, .b (decide ((F 0).q.v < 0)), T (F 0).q.v.natAbs, .b (decide ((F 1).p.v < 0)), T (F 1).p.v.natAbs, .b (decide ((F 1).q.v < 0)), T (F 1).q.v.natAbs, .b (decide ((F 2).p.v < 0)), T (F 2).p.v.natAbs, .b (decide ((F 2).q.v < 0)), T (F 2).q.v.natAbs]
theorem zbZ (F : Nat → FQ) : c12 F = [.b (decide ((F 0).p.v < 0)), T (F 0).p.v.natAbs, .b (decide ((F 0).q.v < 0)), T (F 0).q.v.natAbs, .b (decide ((F 1).p.v < 0)), T (F 1).p.v.natAbs, .b (decide ((F 1).q.v < 0)), T (F 1).q.v.natAbs, .b (decide ((F 2).p.v < 0)), T (F 2).p.v.natAbs, .b (decide ((F 2).q.v < 0)), T (F 2).q.v.natAbs] := rfl
theorem zbg (f : FQ) : PV.ag [.b (decide (f.p.v < 0)), T f.p.v.natAbs, .b (decide (f.q.v < 0)), T f.q.v.natAbs] = rfQ f := rfl
set_option maxHeartbeats 16000000 in
set_option maxRecDepth 100000 in
theorem p_ProjApplies {ls ms : List Int} (hl : Ints ls) (hm : Ints ms) {at_ n : Int} (fa : Fits64 at_) (fn : Fits64 n) : pf E0 324 [ints ls, ints ms, .i .i64 at_, .i .i64 n] = some (.b true) := by
 obtain ⟨P0, h0, g0⟩ := zmv hl
 obtain ⟨P1, h1, g1⟩ := zky h0 fa fn
 obtain ⟨P2, h2, g2⟩ := zhA h0 fn
 have lv := ziX
 obtain ⟨F0, _, k0⟩ := zg0 hm (i := 0) (by decide) (by decide)
 obtain ⟨F1, _, k1⟩ := zg0 hm (i := 4) (by decide) (by decide)
 have a1 := Int.lt_tmod_of_pos n (show (0 : Int) < 3 by decide)
 have a2 := Int.tmod_lt_of_pos n (show (0 : Int) < 3 by decide)
 have a3 : 0 ≤ (n.tmod 3 + 3).tmod 3 ∧ (n.tmod 3 + 3).tmod 3 < 3 := ⟨Int.tmod_nonneg _ (by omega), Int.tmod_lt_of_pos _ (by decide)⟩
 have a4 := Int.lt_tmod_of_pos at_ (show (0 : Int) < 2 by decide)
 have a5 := Int.tmod_lt_of_pos at_ (show (0 : Int) < 2 by decide)
 obtain ⟨K, hK⟩ : ∃ K : Nat, 999 + (n.tmod 3 + 3).tmod 3 = (K : Int) := ⟨(999 + (n.tmod 3 + 3).tmod 3).toNat, by omega⟩
 have pw := zgZ K (by omega)
 have o1 := zbp 1 (by decide)
 have oq := zbp (2 + at_.tmod 2) (by unfold Fits64; omega)
 obtain ⟨F2, k2⟩ := zl1 (K := K) (q := 2 + at_.tmod 2) (by omega) (by omega) (by omega)
 have ad := zez (two K) 1 (by have := zhj (K := K) (by omega); have := zdL K; rw [zbN]; omega) (by have := zhi (z := 1) (by decide); omega)
 refine zaa (xf := zvt) rfl (by simp [zvt]) ?_
 simp only [zvt]
 simp (disch := omega) only [go_sem, seval, wqq, g0, zag, hF]
 refine zap [9] rfl (by simp only [go_sem, seval]) ?_
 simp (disch := omega) only [go_sem, seval, wqq, g1, g2, hK, pw, o1, oq, ad, k2, zag, hF, zaG, zak]
 refine zap [11] rfl (by simp only [go_sem, seval]) ?_
 simp (disch := omega) only [go_sem, seval, wqq, k0, k1, zaG, zak]
 obtain ⟨P, hPd⟩ : ∃ P : Nat → Nat → Int, P = sel3 P0 P1 P2 := ⟨_, rfl⟩
 obtain ⟨F, hFd⟩ : ∃ F : Nat → FQ, F = sel3 F0 F1 F2 := ⟨_, rfl⟩
 have hP : ∀ i e, Fits64 (P i e) := fun i e => by
  rw [hPd]
  unfold sel3
  split
  ·exact h0 e
  ·split
   ·exact h1 e
   ·exact h2 e
 refine zat zwE.eq_1 (fun (i : Nat) fr M => i ≤ 3 ∧ fr 10 = .sl 1 0 3 3 9 ∧ fr 13 = .sl 3 0 3 3 4 ∧ fr 14 = (PV.i .i64 ((i : Nat) : Int)) ∧ ∃ b0 b2 G, M = b0 :: some ⟨c27 P, true, 0⟩ :: b2 :: some ⟨c12 F, true, 0⟩ :: G) (fun i => 3 - i) ?_ 0 ⟨by omega, by simp only [go_sem, seval], by simp only [go_sem, seval], by simp only [go_sem, seval], _, _, [], by rw [hPd, hFd]; rfl⟩
 clear hPd hFd g0 g1 g2 k0 k1 k2 pw o1 oq ad
 rintro i fr M ⟨hi, f10, f13, f14, b0, b2, G, rfl⟩ ih
 have cl := zlI P
 rcases Nat.lt_or_ge i 3 with h3 | h3
 ·have q1 : ((i : Int) < 3) = True := eq_true (by omega)
  have iL : (i < 3) = True := eq_true h3
  have iB : (i * 9 + 9 ≤ 27) = True := eq_true (by omega)
  have ia := znu P h3
  have v1 := zcw (hP i)
  have v2 := zlk (hP i)
  simp (disch := omega) only [go_sem, seval, wqq, f10, f13, f14, q1, iL, iB, cl, ia, v1, v2]
  refine zaf [68] rfl ?_ ?_
  ·simp (disch := omega) only [go_sem, seval, wqq, f10, f13, f14, q1, iL, iB, cl, ia, v1, v2]
   exact ⟨_, rfl, rfl⟩
  simp (disch := omega) only [go_sem, seval, wqq, f10, f13, f14, q1, iL, iB, cl, ia, v1, v2]
  refine zat zwV.eq_1 (fun (k : Nat) fr M => k ≤ 3 ∧ fr 10 = .sl 1 0 3 3 9 ∧ fr 13 = .sl 3 0 3 3 4 ∧ fr 14 = (PV.i .i64 ((i : Nat) : Int)) ∧ fr 15 = (PV.i .i64 ((k : Nat) : Int)) ∧ ∃ b0 b2 G, M = b0 :: some ⟨c27 P, true, 0⟩ :: b2 :: some ⟨c12 F, true, 0⟩ :: G) (fun k => 3 - k) ?_ 0 ⟨by omega, by simp only [go_sem, seval, f10], by simp only [go_sem, seval, f13], by simp only [go_sem, seval, f14], by simp only [go_sem, seval], _, _, _, rfl⟩
  clear f10 f13 f14
  rintro k fr M ⟨hk, f10, f13, f14, f15, b0, b2, G, rfl⟩ ih2
  rcases Nat.lt_or_ge k 3 with h4 | h4
  ·obtain rfl | rfl | rfl : k = 0 ∨ k = 1 ∨ k = 2 := by omega
   ·obtain ⟨x, y, ax, bx⟩ := ze3 (hP i) (F 0) (F 1)
    have ou := zey (F 0)
    have ov := zey (F 1)
    have s1 := za9 x
    have s2 := za9 y
    have t1 : pf E0 196 [rfQ x] = some (.s (ftx x.p.v x.q.v)) := zcy x.p.v x.q.v (by have := zaz x.p; omega) (by have := zaz x.q; omega)
    have t2 : pf E0 196 [rfQ y] = some (.s (ftx y.p.v y.q.v)) := zcy y.p.v y.q.v (by have := zaz y.p; omega) (by have := zaz y.q; omega)
    generalize aE (P i) (F 0) (F 1) = j at *
    simp (disch := omega) only [go_sem, seval, wqq, f10, f13, f14, f15, iL, iB, cl, ia, zbZ, zbg, mG, mG0, sG, sG0, lG, lqq]
    refine zaf [89, 17] rfl ?_ ?_
    ·simp (disch := omega) only [go_sem, seval, wqq, f10, f13, f14, f15, iL, iB, cl, ia, zbZ, zbg, ou, ov, ax, mG, mG0, sG, sG0, lG, lqq]
     exact ⟨_, rfl, rfl⟩
    simp (disch := omega) only [go_sem, seval, wqq, f10, f13, f14, f15, iL, iB, cl, ia, zbZ, zbg, ou, ov, ax, bx, mG, mG0, sG, sG0, lG, lqq]
    refine zap [21, 22] rfl (by simp only [go_sem, seval]) ?_
    simp (disch := omega) only [go_sem, seval, wqq, f10, f13, f14, f15, s1, s2, t1, t2, zbg, mG, mG0, sG, sG0, lG, lqq]
    exact ih2 1 _ _ (by omega) ⟨by omega, by simp only [go_sem, seval, f10], by simp only [go_sem, seval, f13], by simp only [go_sem, seval, f14], by simp only [go_sem, seval, f15], _, _, _, rfl⟩
   ·obtain ⟨x, y, ax, bx⟩ := ze3 (hP i) (F 1) (F 2)
    have ou := zey (F 1)
    have ov := zey (F 2)
    have s1 := za9 x
    have s2 := za9 y
    have t1 : pf E0 196 [rfQ x] = some (.s (ftx x.p.v x.q.v)) := zcy x.p.v x.q.v (by have := zaz x.p; omega) (by have := zaz x.q; omega)
    have t2 : pf E0 196 [rfQ y] = some (.s (ftx y.p.v y.q.v)) := zcy y.p.v y.q.v (by have := zaz y.p; omega) (by have := zaz y.q; omega)
    generalize aE (P i) (F 1) (F 2) = j at *
    simp (disch := omega) only [go_sem, seval, wqq, f10, f13, f14, f15, iL, iB, cl, ia, zbZ, zbg, mG, mG0, sG, sG0, lG, lqq]
    refine zaf [89, 17] rfl ?_ ?_
    ·simp (disch := omega) only [go_sem, seval, wqq, f10, f13, f14, f15, iL, iB, cl, ia, zbZ, zbg, ou, ov, ax, mG, mG0, sG, sG0, lG, lqq]
     exact ⟨_, rfl, rfl⟩
    simp (disch := omega) only [go_sem, seval, wqq, f10, f13, f14, f15, iL, iB, cl, ia, zbZ, zbg, ou, ov, ax, bx, mG, mG0, sG, sG0, lG, lqq]
    refine zap [21, 22] rfl (by simp only [go_sem, seval]) ?_
    simp (disch := omega) only [go_sem, seval, wqq, f10, f13, f14, f15, s1, s2, t1, t2, zbg, mG, mG0, sG, sG0, lG, lqq]
    exact ih2 2 _ _ (by omega) ⟨by omega, by simp only [go_sem, seval, f10], by simp only [go_sem, seval, f13], by simp only [go_sem, seval, f14], by simp only [go_sem, seval, f15], _, _, _, rfl⟩
   ·obtain ⟨x, y, ax, bx⟩ := ze3 (hP i) (F 2) (F 0)
    have ou := zey (F 2)
    have ov := zey (F 0)
    have s1 := za9 x
    have s2 := za9 y
    have t1 : pf E0 196 [rfQ x] = some (.s (ftx x.p.v x.q.v)) := zcy x.p.v x.q.v (by have := zaz x.p; omega) (by have := zaz x.q; omega)
    have t2 : pf E0 196 [rfQ y] = some (.s (ftx y.p.v y.q.v)) := zcy y.p.v y.q.v (by have := zaz y.p; omega) (by have := zaz y.q; omega)
    generalize aE (P i) (F 2) (F 0) = j at *
    simp (disch := omega) only [go_sem, seval, wqq, f10, f13, f14, f15, iL, iB, cl, ia, zbZ, zbg, mG, mG0, sG, sG0, lG, lqq]
    refine zaf [89, 17] rfl ?_ ?_
    ·simp (disch := omega) only [go_sem, seval, wqq, f10, f13, f14, f15, iL, iB, cl, ia, zbZ, zbg, ou, ov, ax, mG, mG0, sG, sG0, lG, lqq]
     exact ⟨_, rfl, rfl⟩
    simp (disch := omega) only [go_sem, seval, wqq, f10, f13, f14, f15, iL, iB, cl, ia, zbZ, zbg, ou, ov, ax, bx, mG, mG0, sG, sG0, lG, lqq]
    refine zap [21, 22] rfl (by simp only [go_sem, seval]) ?_
    simp (disch := omega) only [go_sem, seval, wqq, f10, f13, f14, f15, s1, s2, t1, t2, zbg, mG, mG0, sG, sG0, lG, lqq]
    exact ih2 3 _ _ (by omega) ⟨by omega, by simp only [go_sem, seval, f10], by simp only [go_sem, seval, f13], by simp only [go_sem, seval, f14], by simp only [go_sem, seval, f15], _, _, _, rfl⟩
  ·obtain rfl : k = 3 := by omega
   simp (disch := omega) only [go_sem, seval, wqq, f10, f13, f14, f15]
   exact ih (i + 1) _ _ (by omega) ⟨by omega, by simp only [go_sem, seval, f10], by simp only [go_sem, seval, f13], by simp only [go_sem, seval, f14]; rw [Int.natCast_succ], _, _, _, rfl⟩
 ·obtain rfl : i = 3 := by omega
  simp (disch := omega) only [go_sem, seval, wqq, f10, f13, f14, lv]
end Go.Eng
