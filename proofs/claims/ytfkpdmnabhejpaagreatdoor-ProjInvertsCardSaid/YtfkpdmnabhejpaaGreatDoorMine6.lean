/- The engine and the contracts on which the statement stands: no conditions of its own. -/
import Derived.Test.YtfkpdmnabhejpaaGreatDoorMine5
set_option linter.unusedSimpArgs false
set_option linter.unusedVariables false
set_option linter.unusedSectionVars false
namespace Go.Eng
noncomputable def pS (a b : Nat → WI) (i k : Nat) : Nat → WI
 | 0 => wi0
 | j + 1 => aW (pS a b i k j) (tW (a (3 * i + j)) (b (3 * j + k)))
noncomputable def prW (a b : Nat → WI) : Nat → WI := fun e => pS a b (e / 3) (e % 3) 3
set_option maxHeartbeats 4000000 in
theorem zkb (a b : Nat → WI) : pf E0 316 [mW a, mW b] = some (mW (prW a b)) := by
 refine zac (xf := x_proj_product) rfl (by simp [x_proj_product]) ?_
 simp only [x_proj_product]
 simp (disch := omega) only [go_sem, seval, wqq]
 refine zar x_proj_product_l1.eq_1 (fun (i : Nat) fr M => i ≤ 3 ∧ fr 2 = .p 0 0 ∧ fr 3 = .p 1 0 ∧ fr 4 = .p 2 0 ∧ fr 5 = .p 3 0 ∧ fr 9 = (PV.i .i64 ((i : Nat) : Int)) ∧ ∃ c v, M = [some ⟨cW a, true, 0⟩, some ⟨cW b, true, 0⟩, some ⟨cP 0 zW, true, c⟩, some ⟨cS (sB (3 * i)) (prW a b), true, v⟩]) (fun i => 3 - i) ?_ 0 ⟨by omega, by simp only [go_sem, seval], by simp only [go_sem, seval], by simp only [go_sem, seval], by simp only [go_sem, seval], by simp only [go_sem, seval], _, _, rfl⟩
 rintro i fr M ⟨hi, f2, f3, f4, f5, f9, c, v, rfl⟩ ih
 rcases Nat.lt_or_ge i 3 with h3 | h3
 ·have q1 : ((i : Int) < 3) = True := eq_true (by omega)
  simp (disch := omega) only [go_sem, seval, wqq, f2, f3, f4, f5, f9, q1]
  refine zar x_proj_product_l2.eq_1 (fun (k : Nat) fr M => k ≤ 3 ∧ fr 2 = .p 0 0 ∧ fr 3 = .p 1 0 ∧ fr 4 = .p 2 0 ∧ fr 5 = .p 3 0 ∧ fr 9 = (PV.i .i64 ((i : Nat) : Int)) ∧ fr 6 = (PV.i .i64 ((i : Nat) : Int)) ∧ fr 12 = (PV.i .i64 ((k : Nat) : Int)) ∧ ∃ c v, M = [some ⟨cW a, true, 0⟩, some ⟨cW b, true, 0⟩, some ⟨cP 0 zW, true, c⟩, some ⟨cS (sB (3 * i + k)) (prW a b), true, v⟩]) (fun k => 3 - k) ?_ 0 ⟨by omega, by simp only [go_sem, seval, f2], by simp only [go_sem, seval, f3], by simp only [go_sem, seval, f4], by simp only [go_sem, seval, f5], by simp only [go_sem, seval, f9], by simp only [go_sem, seval], by simp only [go_sem, seval], _, _, rfl⟩
  rintro k fr M ⟨hk, f2, f3, f4, f5, f9, f6, f12, c, v, rfl⟩ ih2
  rcases Nat.lt_or_ge k 3 with h4 | h4
  ·have q2 : ((k : Int) < 3) = True := eq_true (by omega)
   obtain rfl | rfl | rfl := zc6 h3 <;> obtain rfl | rfl | rfl := zc6 h4
   ·have t1 := zam (a 0) (b 0)
    have t2 := zam (a 1) (b 3)
    have t3 := zam (a 2) (b 6)
    have s1 := zaw wi0 (tW (a 0) (b 0))
    have s2 := zaw (aW wi0 (tW (a 0) (b 0))) (tW (a 1) (b 3))
    have s3 := zaw (aW (aW wi0 (tW (a 0) (b 0))) (tW (a 1) (b 3))) (tW (a 2) (b 6))
    simp (disch := omega) only [go_sem, seval, wqq, f2, f3, f4, f5, f9, f6, f12]
    refine zaa x_proj_product_l3.eq_1 ?_
    simp (disch := omega) only [go_sem, seval, wqq, f2, f3, f4, f5, f9, f6, f12]
    refine zah [26] rfl ?_ ?_
    ·simp (disch := omega) only [go_sem, seval, wqq, f2, f3, f4, f5, f9, f6, f12, zae, zao, sB, t1, s1]
     exact ⟨_, rfl, rfl⟩
    simp (disch := omega) only [go_sem, seval, wqq, f2, f3, f4, f5, f9, f6, f12, zae, zao, sB, t1, s1]
    refine zaa x_proj_product_l3.eq_1 ?_
    simp (disch := omega) only [go_sem, seval, wqq, f2, f3, f4, f5, f9, f6, f12]
    refine zah [26] rfl ?_ ?_
    ·simp (disch := omega) only [go_sem, seval, wqq, f2, f3, f4, f5, f9, f6, f12, zae, zao, sB, t2, s2]
     exact ⟨_, rfl, rfl⟩
    simp (disch := omega) only [go_sem, seval, wqq, f2, f3, f4, f5, f9, f6, f12, zae, zao, sB, t2, s2]
    refine zaa x_proj_product_l3.eq_1 ?_
    simp (disch := omega) only [go_sem, seval, wqq, f2, f3, f4, f5, f9, f6, f12]
    refine zah [26] rfl ?_ ?_
    ·simp (disch := omega) only [go_sem, seval, wqq, f2, f3, f4, f5, f9, f6, f12, zae, zao, sB, t3, s3]
     exact ⟨_, rfl, rfl⟩
    simp (disch := omega) only [go_sem, seval, wqq, f2, f3, f4, f5, f9, f6, f12, zae, zao, sB, t3, s3]
    refine zaa x_proj_product_l3.eq_1 ?_
    simp (disch := omega) only [go_sem, seval, wqq, f2, f3, f4, f5, f9, f6, f12]
    exact ih2 1 _ _ (by omega) ⟨by omega, by simp only [go_sem, seval, f2], by simp only [go_sem, seval, f3], by simp only [go_sem, seval, f4], by simp only [go_sem, seval, f5], by simp only [go_sem, seval, f9], by simp only [go_sem, seval, f6], by simp only [go_sem, seval], _, _, rfl⟩
   ·have t1 := zam (a 0) (b 1)
    have t2 := zam (a 1) (b 4)
    have t3 := zam (a 2) (b 7)
    have s1 := zaw wi0 (tW (a 0) (b 1))
    have s2 := zaw (aW wi0 (tW (a 0) (b 1))) (tW (a 1) (b 4))
    have s3 := zaw (aW (aW wi0 (tW (a 0) (b 1))) (tW (a 1) (b 4))) (tW (a 2) (b 7))
    simp (disch := omega) only [go_sem, seval, wqq, f2, f3, f4, f5, f9, f6, f12]
    refine zaa x_proj_product_l3.eq_1 ?_
    simp (disch := omega) only [go_sem, seval, wqq, f2, f3, f4, f5, f9, f6, f12]
    refine zah [26] rfl ?_ ?_
    ·simp (disch := omega) only [go_sem, seval, wqq, f2, f3, f4, f5, f9, f6, f12, zae, zao, sB, t1, s1]
     exact ⟨_, rfl, rfl⟩
    simp (disch := omega) only [go_sem, seval, wqq, f2, f3, f4, f5, f9, f6, f12, zae, zao, sB, t1, s1]
    refine zaa x_proj_product_l3.eq_1 ?_
    simp (disch := omega) only [go_sem, seval, wqq, f2, f3, f4, f5, f9, f6, f12]
    refine zah [26] rfl ?_ ?_
    ·simp (disch := omega) only [go_sem, seval, wqq, f2, f3, f4, f5, f9, f6, f12, zae, zao, sB, t2, s2]
     exact ⟨_, rfl, rfl⟩
    simp (disch := omega) only [go_sem, seval, wqq, f2, f3, f4, f5, f9, f6, f12, zae, zao, sB, t2, s2]
    refine zaa x_proj_product_l3.eq_1 ?_
    simp (disch := omega) only [go_sem, seval, wqq, f2, f3, f4, f5, f9, f6, f12]
    refine zah [26] rfl ?_ ?_
    ·simp (disch := omega) only [go_sem, seval, wqq, f2, f3, f4, f5, f9, f6, f12, zae, zao, sB, t3, s3]
     exact ⟨_, rfl, rfl⟩
    simp (disch := omega) only [go_sem, seval, wqq, f2, f3, f4, f5, f9, f6, f12, zae, zao, sB, t3, s3]
    refine zaa x_proj_product_l3.eq_1 ?_
    simp (disch := omega) only [go_sem, seval, wqq, f2, f3, f4, f5, f9, f6, f12]
    exact ih2 2 _ _ (by omega) ⟨by omega, by simp only [go_sem, seval, f2], by simp only [go_sem, seval, f3], by simp only [go_sem, seval, f4], by simp only [go_sem, seval, f5], by simp only [go_sem, seval, f9], by simp only [go_sem, seval, f6], by simp only [go_sem, seval], _, _, rfl⟩
   ·have t1 := zam (a 0) (b 2)
    have t2 := zam (a 1) (b 5)
    have t3 := zam (a 2) (b 8)
    have s1 := zaw wi0 (tW (a 0) (b 2))
    have s2 := zaw (aW wi0 (tW (a 0) (b 2))) (tW (a 1) (b 5))
    have s3 := zaw (aW (aW wi0 (tW (a 0) (b 2))) (tW (a 1) (b 5))) (tW (a 2) (b 8))
    simp (disch := omega) only [go_sem, seval, wqq, f2, f3, f4, f5, f9, f6, f12]
    refine zaa x_proj_product_l3.eq_1 ?_
    simp (disch := omega) only [go_sem, seval, wqq, f2, f3, f4, f5, f9, f6, f12]
    refine zah [26] rfl ?_ ?_
    ·simp (disch := omega) only [go_sem, seval, wqq, f2, f3, f4, f5, f9, f6, f12, zae, zao, sB, t1, s1]
     exact ⟨_, rfl, rfl⟩
    simp (disch := omega) only [go_sem, seval, wqq, f2, f3, f4, f5, f9, f6, f12, zae, zao, sB, t1, s1]
    refine zaa x_proj_product_l3.eq_1 ?_
    simp (disch := omega) only [go_sem, seval, wqq, f2, f3, f4, f5, f9, f6, f12]
    refine zah [26] rfl ?_ ?_
    ·simp (disch := omega) only [go_sem, seval, wqq, f2, f3, f4, f5, f9, f6, f12, zae, zao, sB, t2, s2]
     exact ⟨_, rfl, rfl⟩
    simp (disch := omega) only [go_sem, seval, wqq, f2, f3, f4, f5, f9, f6, f12, zae, zao, sB, t2, s2]
    refine zaa x_proj_product_l3.eq_1 ?_
    simp (disch := omega) only [go_sem, seval, wqq, f2, f3, f4, f5, f9, f6, f12]
    refine zah [26] rfl ?_ ?_
    ·simp (disch := omega) only [go_sem, seval, wqq, f2, f3, f4, f5, f9, f6, f12, zae, zao, sB, t3, s3]
     exact ⟨_, rfl, rfl⟩
    simp (disch := omega) only [go_sem, seval, wqq, f2, f3, f4, f5, f9, f6, f12, zae, zao, sB, t3, s3]
    refine zaa x_proj_product_l3.eq_1 ?_
    simp (disch := omega) only [go_sem, seval, wqq, f2, f3, f4, f5, f9, f6, f12]
    exact ih2 3 _ _ (by omega) ⟨by omega, by simp only [go_sem, seval, f2], by simp only [go_sem, seval, f3], by simp only [go_sem, seval, f4], by simp only [go_sem, seval, f5], by simp only [go_sem, seval, f9], by simp only [go_sem, seval, f6], by simp only [go_sem, seval], _, _, rfl⟩
   ·have t1 := zam (a 3) (b 0)
    have t2 := zam (a 4) (b 3)
    have t3 := zam (a 5) (b 6)
    have s1 := zaw wi0 (tW (a 3) (b 0))
    have s2 := zaw (aW wi0 (tW (a 3) (b 0))) (tW (a 4) (b 3))
    have s3 := zaw (aW (aW wi0 (tW (a 3) (b 0))) (tW (a 4) (b 3))) (tW (a 5) (b 6))
    simp (disch := omega) only [go_sem, seval, wqq, f2, f3, f4, f5, f9, f6, f12]
    refine zaa x_proj_product_l3.eq_1 ?_
    simp (disch := omega) only [go_sem, seval, wqq, f2, f3, f4, f5, f9, f6, f12]
    refine zah [26] rfl ?_ ?_
    ·simp (disch := omega) only [go_sem, seval, wqq, f2, f3, f4, f5, f9, f6, f12, zae, zao, sB, t1, s1]
     exact ⟨_, rfl, rfl⟩
    simp (disch := omega) only [go_sem, seval, wqq, f2, f3, f4, f5, f9, f6, f12, zae, zao, sB, t1, s1]
    refine zaa x_proj_product_l3.eq_1 ?_
    simp (disch := omega) only [go_sem, seval, wqq, f2, f3, f4, f5, f9, f6, f12]
    refine zah [26] rfl ?_ ?_
    ·simp (disch := omega) only [go_sem, seval, wqq, f2, f3, f4, f5, f9, f6, f12, zae, zao, sB, t2, s2]
     exact ⟨_, rfl, rfl⟩
    simp (disch := omega) only [go_sem, seval, wqq, f2, f3, f4, f5, f9, f6, f12, zae, zao, sB, t2, s2]
    refine zaa x_proj_product_l3.eq_1 ?_
    simp (disch := omega) only [go_sem, seval, wqq, f2, f3, f4, f5, f9, f6, f12]
    refine zah [26] rfl ?_ ?_
    ·simp (disch := omega) only [go_sem, seval, wqq, f2, f3, f4, f5, f9, f6, f12, zae, zao, sB, t3, s3]
     exact ⟨_, rfl, rfl⟩
    simp (disch := omega) only [go_sem, seval, wqq, f2, f3, f4, f5, f9, f6, f12, zae, zao, sB, t3, s3]
    refine zaa x_proj_product_l3.eq_1 ?_
    simp (disch := omega) only [go_sem, seval, wqq, f2, f3, f4, f5, f9, f6, f12]
    exact ih2 1 _ _ (by omega) ⟨by omega, by simp only [go_sem, seval, f2], by simp only [go_sem, seval, f3], by simp only [go_sem, seval, f4], by simp only [go_sem, seval, f5], by simp only [go_sem, seval, f9], by simp only [go_sem, seval, f6], by simp only [go_sem, seval], _, _, rfl⟩
   ·have t1 := zam (a 3) (b 1)
    have t2 := zam (a 4) (b 4)
    have t3 := zam (a 5) (b 7)
    have s1 := zaw wi0 (tW (a 3) (b 1))
    have s2 := zaw (aW wi0 (tW (a 3) (b 1))) (tW (a 4) (b 4))
    have s3 := zaw (aW (aW wi0 (tW (a 3) (b 1))) (tW (a 4) (b 4))) (tW (a 5) (b 7))
    simp (disch := omega) only [go_sem, seval, wqq, f2, f3, f4, f5, f9, f6, f12]
    refine zaa x_proj_product_l3.eq_1 ?_
    simp (disch := omega) only [go_sem, seval, wqq, f2, f3, f4, f5, f9, f6, f12]
    refine zah [26] rfl ?_ ?_
    ·simp (disch := omega) only [go_sem, seval, wqq, f2, f3, f4, f5, f9, f6, f12, zae, zao, sB, t1, s1]
     exact ⟨_, rfl, rfl⟩
    simp (disch := omega) only [go_sem, seval, wqq, f2, f3, f4, f5, f9, f6, f12, zae, zao, sB, t1, s1]
    refine zaa x_proj_product_l3.eq_1 ?_
    simp (disch := omega) only [go_sem, seval, wqq, f2, f3, f4, f5, f9, f6, f12]
    refine zah [26] rfl ?_ ?_
    ·simp (disch := omega) only [go_sem, seval, wqq, f2, f3, f4, f5, f9, f6, f12, zae, zao, sB, t2, s2]
     exact ⟨_, rfl, rfl⟩
    simp (disch := omega) only [go_sem, seval, wqq, f2, f3, f4, f5, f9, f6, f12, zae, zao, sB, t2, s2]
    refine zaa x_proj_product_l3.eq_1 ?_
    simp (disch := omega) only [go_sem, seval, wqq, f2, f3, f4, f5, f9, f6, f12]
    refine zah [26] rfl ?_ ?_
    ·simp (disch := omega) only [go_sem, seval, wqq, f2, f3, f4, f5, f9, f6, f12, zae, zao, sB, t3, s3]
     exact ⟨_, rfl, rfl⟩
    simp (disch := omega) only [go_sem, seval, wqq, f2, f3, f4, f5, f9, f6, f12, zae, zao, sB, t3, s3]
    refine zaa x_proj_product_l3.eq_1 ?_
    simp (disch := omega) only [go_sem, seval, wqq, f2, f3, f4, f5, f9, f6, f12]
    exact ih2 2 _ _ (by omega) ⟨by omega, by simp only [go_sem, seval, f2], by simp only [go_sem, seval, f3], by simp only [go_sem, seval, f4], by simp only [go_sem, seval, f5], by simp only [go_sem, seval, f9], by simp only [go_sem, seval, f6], by simp only [go_sem, seval], _, _, rfl⟩
   ·have t1 := zam (a 3) (b 2)
    have t2 := zam (a 4) (b 5)
    have t3 := zam (a 5) (b 8)
    have s1 := zaw wi0 (tW (a 3) (b 2))
    have s2 := zaw (aW wi0 (tW (a 3) (b 2))) (tW (a 4) (b 5))
    have s3 := zaw (aW (aW wi0 (tW (a 3) (b 2))) (tW (a 4) (b 5))) (tW (a 5) (b 8))
    simp (disch := omega) only [go_sem, seval, wqq, f2, f3, f4, f5, f9, f6, f12]
    refine zaa x_proj_product_l3.eq_1 ?_
    simp (disch := omega) only [go_sem, seval, wqq, f2, f3, f4, f5, f9, f6, f12]
    refine zah [26] rfl ?_ ?_
    ·simp (disch := omega) only [go_sem, seval, wqq, f2, f3, f4, f5, f9, f6, f12, zae, zao, sB, t1, s1]
     exact ⟨_, rfl, rfl⟩
    simp (disch := omega) only [go_sem, seval, wqq, f2, f3, f4, f5, f9, f6, f12, zae, zao, sB, t1, s1]
    refine zaa x_proj_product_l3.eq_1 ?_
    simp (disch := omega) only [go_sem, seval, wqq, f2, f3, f4, f5, f9, f6, f12]
    refine zah [26] rfl ?_ ?_
    ·simp (disch := omega) only [go_sem, seval, wqq, f2, f3, f4, f5, f9, f6, f12, zae, zao, sB, t2, s2]
     exact ⟨_, rfl, rfl⟩
    simp (disch := omega) only [go_sem, seval, wqq, f2, f3, f4, f5, f9, f6, f12, zae, zao, sB, t2, s2]
    refine zaa x_proj_product_l3.eq_1 ?_
    simp (disch := omega) only [go_sem, seval, wqq, f2, f3, f4, f5, f9, f6, f12]
    refine zah [26] rfl ?_ ?_
    ·simp (disch := omega) only [go_sem, seval, wqq, f2, f3, f4, f5, f9, f6, f12, zae, zao, sB, t3, s3]
     exact ⟨_, rfl, rfl⟩
    simp (disch := omega) only [go_sem, seval, wqq, f2, f3, f4, f5, f9, f6, f12, zae, zao, sB, t3, s3]
    refine zaa x_proj_product_l3.eq_1 ?_
    simp (disch := omega) only [go_sem, seval, wqq, f2, f3, f4, f5, f9, f6, f12]
    exact ih2 3 _ _ (by omega) ⟨by omega, by simp only [go_sem, seval, f2], by simp only [go_sem, seval, f3], by simp only [go_sem, seval, f4], by simp only [go_sem, seval, f5], by simp only [go_sem, seval, f9], by simp only [go_sem, seval, f6], by simp only [go_sem, seval], _, _, rfl⟩
   ·have t1 := zam (a 6) (b 0)
    have t2 := zam (a 7) (b 3)
    have t3 := zam (a 8) (b 6)
    have s1 := zaw wi0 (tW (a 6) (b 0))
    have s2 := zaw (aW wi0 (tW (a 6) (b 0))) (tW (a 7) (b 3))
    have s3 := zaw (aW (aW wi0 (tW (a 6) (b 0))) (tW (a 7) (b 3))) (tW (a 8) (b 6))
    simp (disch := omega) only [go_sem, seval, wqq, f2, f3, f4, f5, f9, f6, f12]
    refine zaa x_proj_product_l3.eq_1 ?_
    simp (disch := omega) only [go_sem, seval, wqq, f2, f3, f4, f5, f9, f6, f12]
    refine zah [26] rfl ?_ ?_
    ·simp (disch := omega) only [go_sem, seval, wqq, f2, f3, f4, f5, f9, f6, f12, zae, zao, sB, t1, s1]
     exact ⟨_, rfl, rfl⟩
    simp (disch := omega) only [go_sem, seval, wqq, f2, f3, f4, f5, f9, f6, f12, zae, zao, sB, t1, s1]
    refine zaa x_proj_product_l3.eq_1 ?_
    simp (disch := omega) only [go_sem, seval, wqq, f2, f3, f4, f5, f9, f6, f12]
    refine zah [26] rfl ?_ ?_
    ·simp (disch := omega) only [go_sem, seval, wqq, f2, f3, f4, f5, f9, f6, f12, zae, zao, sB, t2, s2]
     exact ⟨_, rfl, rfl⟩
    simp (disch := omega) only [go_sem, seval, wqq, f2, f3, f4, f5, f9, f6, f12, zae, zao, sB, t2, s2]
    refine zaa x_proj_product_l3.eq_1 ?_
    simp (disch := omega) only [go_sem, seval, wqq, f2, f3, f4, f5, f9, f6, f12]
    refine zah [26] rfl ?_ ?_
    ·simp (disch := omega) only [go_sem, seval, wqq, f2, f3, f4, f5, f9, f6, f12, zae, zao, sB, t3, s3]
     exact ⟨_, rfl, rfl⟩
    simp (disch := omega) only [go_sem, seval, wqq, f2, f3, f4, f5, f9, f6, f12, zae, zao, sB, t3, s3]
    refine zaa x_proj_product_l3.eq_1 ?_
    simp (disch := omega) only [go_sem, seval, wqq, f2, f3, f4, f5, f9, f6, f12]
    exact ih2 1 _ _ (by omega) ⟨by omega, by simp only [go_sem, seval, f2], by simp only [go_sem, seval, f3], by simp only [go_sem, seval, f4], by simp only [go_sem, seval, f5], by simp only [go_sem, seval, f9], by simp only [go_sem, seval, f6], by simp only [go_sem, seval], _, _, rfl⟩
   ·have t1 := zam (a 6) (b 1)
    have t2 := zam (a 7) (b 4)
    have t3 := zam (a 8) (b 7)
    have s1 := zaw wi0 (tW (a 6) (b 1))
    have s2 := zaw (aW wi0 (tW (a 6) (b 1))) (tW (a 7) (b 4))
    have s3 := zaw (aW (aW wi0 (tW (a 6) (b 1))) (tW (a 7) (b 4))) (tW (a 8) (b 7))
    simp (disch := omega) only [go_sem, seval, wqq, f2, f3, f4, f5, f9, f6, f12]
    refine zaa x_proj_product_l3.eq_1 ?_
    simp (disch := omega) only [go_sem, seval, wqq, f2, f3, f4, f5, f9, f6, f12]
    refine zah [26] rfl ?_ ?_
    ·simp (disch := omega) only [go_sem, seval, wqq, f2, f3, f4, f5, f9, f6, f12, zae, zao, sB, t1, s1]
     exact ⟨_, rfl, rfl⟩
    simp (disch := omega) only [go_sem, seval, wqq, f2, f3, f4, f5, f9, f6, f12, zae, zao, sB, t1, s1]
    refine zaa x_proj_product_l3.eq_1 ?_
    simp (disch := omega) only [go_sem, seval, wqq, f2, f3, f4, f5, f9, f6, f12]
    refine zah [26] rfl ?_ ?_
    ·simp (disch := omega) only [go_sem, seval, wqq, f2, f3, f4, f5, f9, f6, f12, zae, zao, sB, t2, s2]
     exact ⟨_, rfl, rfl⟩
    simp (disch := omega) only [go_sem, seval, wqq, f2, f3, f4, f5, f9, f6, f12, zae, zao, sB, t2, s2]
    refine zaa x_proj_product_l3.eq_1 ?_
    simp (disch := omega) only [go_sem, seval, wqq, f2, f3, f4, f5, f9, f6, f12]
    refine zah [26] rfl ?_ ?_
    ·simp (disch := omega) only [go_sem, seval, wqq, f2, f3, f4, f5, f9, f6, f12, zae, zao, sB, t3, s3]
     exact ⟨_, rfl, rfl⟩
    simp (disch := omega) only [go_sem, seval, wqq, f2, f3, f4, f5, f9, f6, f12, zae, zao, sB, t3, s3]
    refine zaa x_proj_product_l3.eq_1 ?_
    simp (disch := omega) only [go_sem, seval, wqq, f2, f3, f4, f5, f9, f6, f12]
    exact ih2 2 _ _ (by omega) ⟨by omega, by simp only [go_sem, seval, f2], by simp only [go_sem, seval, f3], by simp only [go_sem, seval, f4], by simp only [go_sem, seval, f5], by simp only [go_sem, seval, f9], by simp only [go_sem, seval, f6], by simp only [go_sem, seval], _, _, rfl⟩
   ·have t1 := zam (a 6) (b 2)
    have t2 := zam (a 7) (b 5)
    have t3 := zam (a 8) (b 8)
    have s1 := zaw wi0 (tW (a 6) (b 2))
    have s2 := zaw (aW wi0 (tW (a 6) (b 2))) (tW (a 7) (b 5))
    have s3 := zaw (aW (aW wi0 (tW (a 6) (b 2))) (tW (a 7) (b 5))) (tW (a 8) (b 8))
    simp (disch := omega) only [go_sem, seval, wqq, f2, f3, f4, f5, f9, f6, f12]
    refine zaa x_proj_product_l3.eq_1 ?_
    simp (disch := omega) only [go_sem, seval, wqq, f2, f3, f4, f5, f9, f6, f12]
    refine zah [26] rfl ?_ ?_
    ·simp (disch := omega) only [go_sem, seval, wqq, f2, f3, f4, f5, f9, f6, f12, zae, zao, sB, t1, s1]
     exact ⟨_, rfl, rfl⟩
    simp (disch := omega) only [go_sem, seval, wqq, f2, f3, f4, f5, f9, f6, f12, zae, zao, sB, t1, s1]
    refine zaa x_proj_product_l3.eq_1 ?_
    simp (disch := omega) only [go_sem, seval, wqq, f2, f3, f4, f5, f9, f6, f12]
    refine zah [26] rfl ?_ ?_
    ·simp (disch := omega) only [go_sem, seval, wqq, f2, f3, f4, f5, f9, f6, f12, zae, zao, sB, t2, s2]
     exact ⟨_, rfl, rfl⟩
    simp (disch := omega) only [go_sem, seval, wqq, f2, f3, f4, f5, f9, f6, f12, zae, zao, sB, t2, s2]
    refine zaa x_proj_product_l3.eq_1 ?_
    simp (disch := omega) only [go_sem, seval, wqq, f2, f3, f4, f5, f9, f6, f12]
    refine zah [26] rfl ?_ ?_
    ·simp (disch := omega) only [go_sem, seval, wqq, f2, f3, f4, f5, f9, f6, f12, zae, zao, sB, t3, s3]
     exact ⟨_, rfl, rfl⟩
    simp (disch := omega) only [go_sem, seval, wqq, f2, f3, f4, f5, f9, f6, f12, zae, zao, sB, t3, s3]
    refine zaa x_proj_product_l3.eq_1 ?_
    simp (disch := omega) only [go_sem, seval, wqq, f2, f3, f4, f5, f9, f6, f12]
    exact ih2 3 _ _ (by omega) ⟨by omega, by simp only [go_sem, seval, f2], by simp only [go_sem, seval, f3], by simp only [go_sem, seval, f4], by simp only [go_sem, seval, f5], by simp only [go_sem, seval, f9], by simp only [go_sem, seval, f6], by simp only [go_sem, seval], _, _, rfl⟩
  ·obtain rfl : k = 3 := by omega
   simp (disch := omega) only [go_sem, seval, wqq, f2, f3, f4, f5, f9, f6, f12]
   exact ih (i + 1) _ _ (by omega) ⟨by omega, by simp only [go_sem, seval, f2], by simp only [go_sem, seval, f3], by simp only [go_sem, seval, f4], by simp only [go_sem, seval, f5], by simp only [go_sem, seval]; rw [Int.natCast_succ], c, v, rfl⟩
 ·obtain rfl : i = 3 := by omega
  have c9 : cS (sB (3 * 3)) (prW a b) = cW (prW a b) := rfl
  simp (disch := omega) only [go_sem, seval, wqq, f2, f3, f4, f5, f9, c9]
end Go.Eng
namespace Go.Eng
def rpK (a b c d e f : Int) : Int := 0 + a * b + c * d + e * f
def rprV (z u : Nat → Int) : Nat → Int := fun e => rpK (z (3 * (e / 3))) (u (e % 3)) (z (3 * (e / 3) + 1)) (u (3 + e % 3)) (z (3 * (e / 3) + 2)) (u (6 + e % 3))
theorem zcS (a b c d e f : Int) (la : tlen a.natAbs ≤ 9000) (lb : tlen b.natAbs ≤ 9000) (lc : tlen c.natAbs ≤ 9000) (ld : tlen d.natAbs ≤ 9000) (le : tlen e.natAbs ≤ 9000) (lf : tlen f.natAbs ≤ 9000) :
  pf E0 118 [nP a, nP b] = some (nP (a * b)) ∧ pf E0 119 [nP 0, nP (a * b)] = some (nP (0 + a * b)) ∧ pf E0 118 [nP c, nP d] = some (nP (c * d)) ∧ pf E0 119 [nP (0 + a * b), nP (c * d)] = some (nP (0 + a * b + c * d)) ∧
  pf E0 118 [nP e, nP f] = some (nP (e * f)) ∧ pf E0 119 [nP (0 + a * b + c * d), nP (e * f)] = some (nP (rpK a b c d e f)) := by
 have h1 := zav a b
 have h2 := zaR 0 (a * b)
 have h3 := zav c d
 have h4 := zaR (0 + a * b) (c * d)
 have h5 := zav e f
 rw [Int.natAbs_zero, zay] at h2
 exact ⟨zdF _ _ (by omega) (by omega), zd6 _ _ (by rw [Int.natAbs_zero, zay]; omega) (by omega), zdF _ _ (by omega) (by omega), zd6 _ _ (by omega) (by omega), zdF _ _ (by omega) (by omega), zd6 _ _ (by omega) (by omega)⟩
set_option maxHeartbeats 4000000 in
theorem zls {z u : Nat → Int} (hz : ∀ e, tlen (z e).natAbs ≤ 9000) (hu : ∀ e, tlen (u e).natAbs ≤ 9000) : pf E0 354 [nM z, nM u] = some (nM (rprV z u)) := by
 have o0 := zb8 0 (by decide)
 have n0 : PV.ag [.b false, Tw (tlen 0) 0] = nP 0 := rfl
 refine zac (xf := x_r12_product) rfl (by simp [x_r12_product]) ?_
 simp only [x_r12_product]
 simp (disch := omega) only [go_sem, seval, wqq]
 refine zar x_r12_product_l1.eq_1 (fun (i : Nat) fr M => i ≤ 3 ∧ fr 2 = .p 0 0 ∧ fr 3 = .p 1 0 ∧ fr 4 = .p 2 0 ∧ fr 5 = .p 3 0 ∧ fr 6 = (PV.i .i64 ((i : Nat) : Int)) ∧ ∃ c v G, M = some ⟨cN z, true, 0⟩ :: some ⟨cN u, true, 0⟩ :: some ⟨cT (sB 0) z, true, c⟩ :: some ⟨cT (sB (3 * i)) (rprV z u), true, v⟩ :: G) (fun i => 3 - i) ?_ 0 ⟨by omega, by simp only [go_sem, seval], by simp only [go_sem, seval], by simp only [go_sem, seval], by simp only [go_sem, seval], by simp only [go_sem, seval], _, _, [], rfl⟩
 rintro i fr M ⟨hi, f2, f3, f4, f5, f6, c, v, G, rfl⟩ ih
 rcases Nat.lt_or_ge i 3 with h3 | h3
 ·have q1 : ((i : Int) < 3) = True := eq_true (by omega)
  simp (disch := omega) only [go_sem, seval, wqq, f2, f3, f4, f5, f6, q1]
  refine zar x_r12_product_l2.eq_1 (fun (k : Nat) fr M => k ≤ 3 ∧ fr 2 = .p 0 0 ∧ fr 3 = .p 1 0 ∧ fr 4 = .p 2 0 ∧ fr 5 = .p 3 0 ∧ fr 6 = (PV.i .i64 ((i : Nat) : Int)) ∧ fr 7 = (PV.i .i64 ((k : Nat) : Int)) ∧ ∃ c v G, M = some ⟨cN z, true, 0⟩ :: some ⟨cN u, true, 0⟩ :: some ⟨cT (sB 0) z, true, c⟩ :: some ⟨cT (sB (3 * i + k)) (rprV z u), true, v⟩ :: G) (fun k => 3 - k) ?_ 0 ⟨by omega, by simp only [go_sem, seval, f2], by simp only [go_sem, seval, f3], by simp only [go_sem, seval, f4], by simp only [go_sem, seval, f5], by simp only [go_sem, seval, f6], by simp only [go_sem, seval], c, v, G, rfl⟩
  rintro k fr M ⟨hk, f2, f3, f4, f5, f6, f7, c, v, G, rfl⟩ ih2
  rcases Nat.lt_or_ge k 3 with h4 | h4
  ·have q2 : ((k : Int) < 3) = True := eq_true (by omega)
   obtain rfl | rfl | rfl := zc6 h3 <;> obtain rfl | rfl | rfl := zc6 h4
   ·obtain ⟨t1, s1, t2, s2, t3, s3⟩ := zcS (z 0) (u 0) (z 1) (u 3) (z 2) (u 6) (hz _) (hu _) (hz _) (hu _) (hz _) (hu _)
    simp (disch := omega) only [go_sem, seval, wqq, f2, f3, f4, f5, f6, f7, o0, mG, mG0, sG, sG0, lG, lqq]
    refine zaa x_r12_product_l3.eq_1 ?_
    simp (disch := omega) only [go_sem, seval, wqq, f2, f3, f4, f5, f6, f7, mG, mG0, sG, sG0, lG, lqq]
    refine zai [8] rfl (by simp only [go_sem, seval]) ?_
    simp (disch := omega) only [go_sem, seval, wqq, f2, f3, f4, f5, f6, f7, zad, t1, s1, n0, mG, mG0, sG, sG0, lG, lqq]
    refine zaa x_r12_product_l3.eq_1 ?_
    simp (disch := omega) only [go_sem, seval, wqq, f2, f3, f4, f5, f6, f7, mG, mG0, sG, sG0, lG, lqq]
    refine zai [8] rfl (by simp only [go_sem, seval]) ?_
    simp (disch := omega) only [go_sem, seval, wqq, f2, f3, f4, f5, f6, f7, zad, t2, s2, n0, mG, mG0, sG, sG0, lG, lqq]
    refine zaa x_r12_product_l3.eq_1 ?_
    simp (disch := omega) only [go_sem, seval, wqq, f2, f3, f4, f5, f6, f7, mG, mG0, sG, sG0, lG, lqq]
    refine zai [8] rfl (by simp only [go_sem, seval]) ?_
    simp (disch := omega) only [go_sem, seval, wqq, f2, f3, f4, f5, f6, f7, zad, t3, s3, n0, mG, mG0, sG, sG0, lG, lqq]
    refine zaa x_r12_product_l3.eq_1 ?_
    simp (disch := omega) only [go_sem, seval, wqq, f2, f3, f4, f5, f6, f7, mG, mG0, sG, sG0, lG, lqq]
    exact ih2 1 _ _ (by omega) ⟨by omega, by simp only [go_sem, seval, f2], by simp only [go_sem, seval, f3], by simp only [go_sem, seval, f4], by simp only [go_sem, seval, f5], by simp only [go_sem, seval, f6], by simp only [go_sem, seval], _, _, _, rfl⟩
   ·obtain ⟨t1, s1, t2, s2, t3, s3⟩ := zcS (z 0) (u 1) (z 1) (u 4) (z 2) (u 7) (hz _) (hu _) (hz _) (hu _) (hz _) (hu _)
    simp (disch := omega) only [go_sem, seval, wqq, f2, f3, f4, f5, f6, f7, o0, mG, mG0, sG, sG0, lG, lqq]
    refine zaa x_r12_product_l3.eq_1 ?_
    simp (disch := omega) only [go_sem, seval, wqq, f2, f3, f4, f5, f6, f7, mG, mG0, sG, sG0, lG, lqq]
    refine zai [8] rfl (by simp only [go_sem, seval]) ?_
    simp (disch := omega) only [go_sem, seval, wqq, f2, f3, f4, f5, f6, f7, zad, t1, s1, n0, mG, mG0, sG, sG0, lG, lqq]
    refine zaa x_r12_product_l3.eq_1 ?_
    simp (disch := omega) only [go_sem, seval, wqq, f2, f3, f4, f5, f6, f7, mG, mG0, sG, sG0, lG, lqq]
    refine zai [8] rfl (by simp only [go_sem, seval]) ?_
    simp (disch := omega) only [go_sem, seval, wqq, f2, f3, f4, f5, f6, f7, zad, t2, s2, n0, mG, mG0, sG, sG0, lG, lqq]
    refine zaa x_r12_product_l3.eq_1 ?_
    simp (disch := omega) only [go_sem, seval, wqq, f2, f3, f4, f5, f6, f7, mG, mG0, sG, sG0, lG, lqq]
    refine zai [8] rfl (by simp only [go_sem, seval]) ?_
    simp (disch := omega) only [go_sem, seval, wqq, f2, f3, f4, f5, f6, f7, zad, t3, s3, n0, mG, mG0, sG, sG0, lG, lqq]
    refine zaa x_r12_product_l3.eq_1 ?_
    simp (disch := omega) only [go_sem, seval, wqq, f2, f3, f4, f5, f6, f7, mG, mG0, sG, sG0, lG, lqq]
    exact ih2 2 _ _ (by omega) ⟨by omega, by simp only [go_sem, seval, f2], by simp only [go_sem, seval, f3], by simp only [go_sem, seval, f4], by simp only [go_sem, seval, f5], by simp only [go_sem, seval, f6], by simp only [go_sem, seval], _, _, _, rfl⟩
   ·obtain ⟨t1, s1, t2, s2, t3, s3⟩ := zcS (z 0) (u 2) (z 1) (u 5) (z 2) (u 8) (hz _) (hu _) (hz _) (hu _) (hz _) (hu _)
    simp (disch := omega) only [go_sem, seval, wqq, f2, f3, f4, f5, f6, f7, o0, mG, mG0, sG, sG0, lG, lqq]
    refine zaa x_r12_product_l3.eq_1 ?_
    simp (disch := omega) only [go_sem, seval, wqq, f2, f3, f4, f5, f6, f7, mG, mG0, sG, sG0, lG, lqq]
    refine zai [8] rfl (by simp only [go_sem, seval]) ?_
    simp (disch := omega) only [go_sem, seval, wqq, f2, f3, f4, f5, f6, f7, zad, t1, s1, n0, mG, mG0, sG, sG0, lG, lqq]
    refine zaa x_r12_product_l3.eq_1 ?_
    simp (disch := omega) only [go_sem, seval, wqq, f2, f3, f4, f5, f6, f7, mG, mG0, sG, sG0, lG, lqq]
    refine zai [8] rfl (by simp only [go_sem, seval]) ?_
    simp (disch := omega) only [go_sem, seval, wqq, f2, f3, f4, f5, f6, f7, zad, t2, s2, n0, mG, mG0, sG, sG0, lG, lqq]
    refine zaa x_r12_product_l3.eq_1 ?_
    simp (disch := omega) only [go_sem, seval, wqq, f2, f3, f4, f5, f6, f7, mG, mG0, sG, sG0, lG, lqq]
    refine zai [8] rfl (by simp only [go_sem, seval]) ?_
    simp (disch := omega) only [go_sem, seval, wqq, f2, f3, f4, f5, f6, f7, zad, t3, s3, n0, mG, mG0, sG, sG0, lG, lqq]
    refine zaa x_r12_product_l3.eq_1 ?_
    simp (disch := omega) only [go_sem, seval, wqq, f2, f3, f4, f5, f6, f7, mG, mG0, sG, sG0, lG, lqq]
    exact ih2 3 _ _ (by omega) ⟨by omega, by simp only [go_sem, seval, f2], by simp only [go_sem, seval, f3], by simp only [go_sem, seval, f4], by simp only [go_sem, seval, f5], by simp only [go_sem, seval, f6], by simp only [go_sem, seval], _, _, _, rfl⟩
   ·obtain ⟨t1, s1, t2, s2, t3, s3⟩ := zcS (z 3) (u 0) (z 4) (u 3) (z 5) (u 6) (hz _) (hu _) (hz _) (hu _) (hz _) (hu _)
    simp (disch := omega) only [go_sem, seval, wqq, f2, f3, f4, f5, f6, f7, o0, mG, mG0, sG, sG0, lG, lqq]
    refine zaa x_r12_product_l3.eq_1 ?_
    simp (disch := omega) only [go_sem, seval, wqq, f2, f3, f4, f5, f6, f7, mG, mG0, sG, sG0, lG, lqq]
    refine zai [8] rfl (by simp only [go_sem, seval]) ?_
    simp (disch := omega) only [go_sem, seval, wqq, f2, f3, f4, f5, f6, f7, zad, t1, s1, n0, mG, mG0, sG, sG0, lG, lqq]
    refine zaa x_r12_product_l3.eq_1 ?_
    simp (disch := omega) only [go_sem, seval, wqq, f2, f3, f4, f5, f6, f7, mG, mG0, sG, sG0, lG, lqq]
    refine zai [8] rfl (by simp only [go_sem, seval]) ?_
    simp (disch := omega) only [go_sem, seval, wqq, f2, f3, f4, f5, f6, f7, zad, t2, s2, n0, mG, mG0, sG, sG0, lG, lqq]
    refine zaa x_r12_product_l3.eq_1 ?_
    simp (disch := omega) only [go_sem, seval, wqq, f2, f3, f4, f5, f6, f7, mG, mG0, sG, sG0, lG, lqq]
    refine zai [8] rfl (by simp only [go_sem, seval]) ?_
    simp (disch := omega) only [go_sem, seval, wqq, f2, f3, f4, f5, f6, f7, zad, t3, s3, n0, mG, mG0, sG, sG0, lG, lqq]
    refine zaa x_r12_product_l3.eq_1 ?_
    simp (disch := omega) only [go_sem, seval, wqq, f2, f3, f4, f5, f6, f7, mG, mG0, sG, sG0, lG, lqq]
    exact ih2 1 _ _ (by omega) ⟨by omega, by simp only [go_sem, seval, f2], by simp only [go_sem, seval, f3], by simp only [go_sem, seval, f4], by simp only [go_sem, seval, f5], by simp only [go_sem, seval, f6], by simp only [go_sem, seval], _, _, _, rfl⟩
   ·obtain ⟨t1, s1, t2, s2, t3, s3⟩ := zcS (z 3) (u 1) (z 4) (u 4) (z 5) (u 7) (hz _) (hu _) (hz _) (hu _) (hz _) (hu _)
    simp (disch := omega) only [go_sem, seval, wqq, f2, f3, f4, f5, f6, f7, o0, mG, mG0, sG, sG0, lG, lqq]
    refine zaa x_r12_product_l3.eq_1 ?_
    simp (disch := omega) only [go_sem, seval, wqq, f2, f3, f4, f5, f6, f7, mG, mG0, sG, sG0, lG, lqq]
    refine zai [8] rfl (by simp only [go_sem, seval]) ?_
    simp (disch := omega) only [go_sem, seval, wqq, f2, f3, f4, f5, f6, f7, zad, t1, s1, n0, mG, mG0, sG, sG0, lG, lqq]
    refine zaa x_r12_product_l3.eq_1 ?_
    simp (disch := omega) only [go_sem, seval, wqq, f2, f3, f4, f5, f6, f7, mG, mG0, sG, sG0, lG, lqq]
    refine zai [8] rfl (by simp only [go_sem, seval]) ?_
    simp (disch := omega) only [go_sem, seval, wqq, f2, f3, f4, f5, f6, f7, zad, t2, s2, n0, mG, mG0, sG, sG0, lG, lqq]
    refine zaa x_r12_product_l3.eq_1 ?_
    simp (disch := omega) only [go_sem, seval, wqq, f2, f3, f4, f5, f6, f7, mG, mG0, sG, sG0, lG, lqq]
    refine zai [8] rfl (by simp only [go_sem, seval]) ?_
    simp (disch := omega) only [go_sem, seval, wqq, f2, f3, f4, f5, f6, f7, zad, t3, s3, n0, mG, mG0, sG, sG0, lG, lqq]
    refine zaa x_r12_product_l3.eq_1 ?_
    simp (disch := omega) only [go_sem, seval, wqq, f2, f3, f4, f5, f6, f7, mG, mG0, sG, sG0, lG, lqq]
    exact ih2 2 _ _ (by omega) ⟨by omega, by simp only [go_sem, seval, f2], by simp only [go_sem, seval, f3], by simp only [go_sem, seval, f4], by simp only [go_sem, seval, f5], by simp only [go_sem, seval, f6], by simp only [go_sem, seval], _, _, _, rfl⟩
   ·obtain ⟨t1, s1, t2, s2, t3, s3⟩ := zcS (z 3) (u 2) (z 4) (u 5) (z 5) (u 8) (hz _) (hu _) (hz _) (hu _) (hz _) (hu _)
    simp (disch := omega) only [go_sem, seval, wqq, f2, f3, f4, f5, f6, f7, o0, mG, mG0, sG, sG0, lG, lqq]
    refine zaa x_r12_product_l3.eq_1 ?_
    simp (disch := omega) only [go_sem, seval, wqq, f2, f3, f4, f5, f6, f7, mG, mG0, sG, sG0, lG, lqq]
    refine zai [8] rfl (by simp only [go_sem, seval]) ?_
    simp (disch := omega) only [go_sem, seval, wqq, f2, f3, f4, f5, f6, f7, zad, t1, s1, n0, mG, mG0, sG, sG0, lG, lqq]
    refine zaa x_r12_product_l3.eq_1 ?_
    simp (disch := omega) only [go_sem, seval, wqq, f2, f3, f4, f5, f6, f7, mG, mG0, sG, sG0, lG, lqq]
    refine zai [8] rfl (by simp only [go_sem, seval]) ?_
    simp (disch := omega) only [go_sem, seval, wqq, f2, f3, f4, f5, f6, f7, zad, t2, s2, n0, mG, mG0, sG, sG0, lG, lqq]
    refine zaa x_r12_product_l3.eq_1 ?_
    simp (disch := omega) only [go_sem, seval, wqq, f2, f3, f4, f5, f6, f7, mG, mG0, sG, sG0, lG, lqq]
    refine zai [8] rfl (by simp only [go_sem, seval]) ?_
    simp (disch := omega) only [go_sem, seval, wqq, f2, f3, f4, f5, f6, f7, zad, t3, s3, n0, mG, mG0, sG, sG0, lG, lqq]
    refine zaa x_r12_product_l3.eq_1 ?_
    simp (disch := omega) only [go_sem, seval, wqq, f2, f3, f4, f5, f6, f7, mG, mG0, sG, sG0, lG, lqq]
    exact ih2 3 _ _ (by omega) ⟨by omega, by simp only [go_sem, seval, f2], by simp only [go_sem, seval, f3], by simp only [go_sem, seval, f4], by simp only [go_sem, seval, f5], by simp only [go_sem, seval, f6], by simp only [go_sem, seval], _, _, _, rfl⟩
   ·obtain ⟨t1, s1, t2, s2, t3, s3⟩ := zcS (z 6) (u 0) (z 7) (u 3) (z 8) (u 6) (hz _) (hu _) (hz _) (hu _) (hz _) (hu _)
    simp (disch := omega) only [go_sem, seval, wqq, f2, f3, f4, f5, f6, f7, o0, mG, mG0, sG, sG0, lG, lqq]
    refine zaa x_r12_product_l3.eq_1 ?_
    simp (disch := omega) only [go_sem, seval, wqq, f2, f3, f4, f5, f6, f7, mG, mG0, sG, sG0, lG, lqq]
    refine zai [8] rfl (by simp only [go_sem, seval]) ?_
    simp (disch := omega) only [go_sem, seval, wqq, f2, f3, f4, f5, f6, f7, zad, t1, s1, n0, mG, mG0, sG, sG0, lG, lqq]
    refine zaa x_r12_product_l3.eq_1 ?_
    simp (disch := omega) only [go_sem, seval, wqq, f2, f3, f4, f5, f6, f7, mG, mG0, sG, sG0, lG, lqq]
    refine zai [8] rfl (by simp only [go_sem, seval]) ?_
    simp (disch := omega) only [go_sem, seval, wqq, f2, f3, f4, f5, f6, f7, zad, t2, s2, n0, mG, mG0, sG, sG0, lG, lqq]
    refine zaa x_r12_product_l3.eq_1 ?_
    simp (disch := omega) only [go_sem, seval, wqq, f2, f3, f4, f5, f6, f7, mG, mG0, sG, sG0, lG, lqq]
    refine zai [8] rfl (by simp only [go_sem, seval]) ?_
    simp (disch := omega) only [go_sem, seval, wqq, f2, f3, f4, f5, f6, f7, zad, t3, s3, n0, mG, mG0, sG, sG0, lG, lqq]
    refine zaa x_r12_product_l3.eq_1 ?_
    simp (disch := omega) only [go_sem, seval, wqq, f2, f3, f4, f5, f6, f7, mG, mG0, sG, sG0, lG, lqq]
    exact ih2 1 _ _ (by omega) ⟨by omega, by simp only [go_sem, seval, f2], by simp only [go_sem, seval, f3], by simp only [go_sem, seval, f4], by simp only [go_sem, seval, f5], by simp only [go_sem, seval, f6], by simp only [go_sem, seval], _, _, _, rfl⟩
   ·obtain ⟨t1, s1, t2, s2, t3, s3⟩ := zcS (z 6) (u 1) (z 7) (u 4) (z 8) (u 7) (hz _) (hu _) (hz _) (hu _) (hz _) (hu _)
    simp (disch := omega) only [go_sem, seval, wqq, f2, f3, f4, f5, f6, f7, o0, mG, mG0, sG, sG0, lG, lqq]
    refine zaa x_r12_product_l3.eq_1 ?_
    simp (disch := omega) only [go_sem, seval, wqq, f2, f3, f4, f5, f6, f7, mG, mG0, sG, sG0, lG, lqq]
    refine zai [8] rfl (by simp only [go_sem, seval]) ?_
    simp (disch := omega) only [go_sem, seval, wqq, f2, f3, f4, f5, f6, f7, zad, t1, s1, n0, mG, mG0, sG, sG0, lG, lqq]
    refine zaa x_r12_product_l3.eq_1 ?_
    simp (disch := omega) only [go_sem, seval, wqq, f2, f3, f4, f5, f6, f7, mG, mG0, sG, sG0, lG, lqq]
    refine zai [8] rfl (by simp only [go_sem, seval]) ?_
    simp (disch := omega) only [go_sem, seval, wqq, f2, f3, f4, f5, f6, f7, zad, t2, s2, n0, mG, mG0, sG, sG0, lG, lqq]
    refine zaa x_r12_product_l3.eq_1 ?_
    simp (disch := omega) only [go_sem, seval, wqq, f2, f3, f4, f5, f6, f7, mG, mG0, sG, sG0, lG, lqq]
    refine zai [8] rfl (by simp only [go_sem, seval]) ?_
    simp (disch := omega) only [go_sem, seval, wqq, f2, f3, f4, f5, f6, f7, zad, t3, s3, n0, mG, mG0, sG, sG0, lG, lqq]
    refine zaa x_r12_product_l3.eq_1 ?_
    simp (disch := omega) only [go_sem, seval, wqq, f2, f3, f4, f5, f6, f7, mG, mG0, sG, sG0, lG, lqq]
    exact ih2 2 _ _ (by omega) ⟨by omega, by simp only [go_sem, seval, f2], by simp only [go_sem, seval, f3], by simp only [go_sem, seval, f4], by simp only [go_sem, seval, f5], by simp only [go_sem, seval, f6], by simp only [go_sem, seval], _, _, _, rfl⟩
   ·obtain ⟨t1, s1, t2, s2, t3, s3⟩ := zcS (z 6) (u 2) (z 7) (u 5) (z 8) (u 8) (hz _) (hu _) (hz _) (hu _) (hz _) (hu _)
    simp (disch := omega) only [go_sem, seval, wqq, f2, f3, f4, f5, f6, f7, o0, mG, mG0, sG, sG0, lG, lqq]
    refine zaa x_r12_product_l3.eq_1 ?_
    simp (disch := omega) only [go_sem, seval, wqq, f2, f3, f4, f5, f6, f7, mG, mG0, sG, sG0, lG, lqq]
    refine zai [8] rfl (by simp only [go_sem, seval]) ?_
    simp (disch := omega) only [go_sem, seval, wqq, f2, f3, f4, f5, f6, f7, zad, t1, s1, n0, mG, mG0, sG, sG0, lG, lqq]
    refine zaa x_r12_product_l3.eq_1 ?_
    simp (disch := omega) only [go_sem, seval, wqq, f2, f3, f4, f5, f6, f7, mG, mG0, sG, sG0, lG, lqq]
    refine zai [8] rfl (by simp only [go_sem, seval]) ?_
    simp (disch := omega) only [go_sem, seval, wqq, f2, f3, f4, f5, f6, f7, zad, t2, s2, n0, mG, mG0, sG, sG0, lG, lqq]
    refine zaa x_r12_product_l3.eq_1 ?_
    simp (disch := omega) only [go_sem, seval, wqq, f2, f3, f4, f5, f6, f7, mG, mG0, sG, sG0, lG, lqq]
    refine zai [8] rfl (by simp only [go_sem, seval]) ?_
    simp (disch := omega) only [go_sem, seval, wqq, f2, f3, f4, f5, f6, f7, zad, t3, s3, n0, mG, mG0, sG, sG0, lG, lqq]
    refine zaa x_r12_product_l3.eq_1 ?_
    simp (disch := omega) only [go_sem, seval, wqq, f2, f3, f4, f5, f6, f7, mG, mG0, sG, sG0, lG, lqq]
    exact ih2 3 _ _ (by omega) ⟨by omega, by simp only [go_sem, seval, f2], by simp only [go_sem, seval, f3], by simp only [go_sem, seval, f4], by simp only [go_sem, seval, f5], by simp only [go_sem, seval, f6], by simp only [go_sem, seval], _, _, _, rfl⟩
  ·obtain rfl : k = 3 := by omega
   simp (disch := omega) only [go_sem, seval, wqq, f2, f3, f4, f5, f6, f7]
   exact ih (i + 1) _ _ (by omega) ⟨by omega, by simp only [go_sem, seval, f2], by simp only [go_sem, seval, f3], by simp only [go_sem, seval, f4], by simp only [go_sem, seval, f5], by simp only [go_sem, seval]; rw [Int.natCast_succ], c, v, G, rfl⟩
 ·obtain rfl : i = 3 := by omega
  have c9 : cT (sB (3 * 3)) (rprV z u) = cN (rprV z u) := rfl
  simp (disch := omega) only [go_sem, seval, wqq, f2, f3, f4, f5, f6, c9]
def u0V (z : Nat → Int) (i : Nat) : Nat → Int := fun e => if e % 3 = i then 0 else z e
def uV (z : Nat → Int) (i k : Nat) : Nat → Int := fun e => if e = 3 * k + i then 1 else u0V z i e
def rinV (z : Nat → Int) : Nat → Int := fun e => rdV (uV z (e / 3) (e % 3))
theorem znx {z : Nat → Int} (hz : ∀ e, tlen (z e).natAbs ≤ 9000) (i k e : Nat) : tlen (uV z i k e).natAbs ≤ 9000 := by
 unfold uV u0V
 split
 ·exact Nat.le_trans (zkq (by decide)) (by decide)
 ·split
  ·rw [Int.natAbs_zero, zay]; decide
  ·exact hz e
end Go.Eng
namespace Go.Eng
set_option maxHeartbeats 4000000 in
theorem zlQ {F : PFin} {ks : List KI} {z : Nat → Int} {i k : Nat} (hi : i < 3) {R O : Option PB} {G : PM} {fr : PFr} {v : Nat} (f1 : fr 1 = .p 0 0) (f2 : fr 2 = .p 1 0) (f3 : fr 3 = .p 2 0) (f4 : fr 4 = (PV.i .i64 ((i : Nat) : Int))) (f5 : fr 5 = (PV.i .i64 ((k : Nat) : Int))) (f6 : fr 6 = .p (G.length + 3) 0) (f7 : fr 7 = (PV.i .i64 ((0 : Nat) : Int)))
  (cont : ∀ fr' v', fr' 1 = .p 0 0 → fr' 2 = .p 1 0 → fr' 3 = .p 2 0 → fr' 4 = (PV.i .i64 ((i : Nat) : Int)) → fr' 5 = (PV.i .i64 ((k : Nat) : Int)) → fr' 6 = .p (G.length + 3) 0 → UK E0 F (.exit 4) ks fr' (some ⟨cN z, true, 0⟩ :: R :: O :: (G ++ [some ⟨cT (sB 9) (u0V z i), true, v'⟩]))) :
  WK E0 F (.loop x_r12_inverse_l3) ks fr (some ⟨cN z, true, 0⟩ :: R :: O :: (G ++ [some ⟨cT (sB 0) (u0V z i), true, v⟩])) := by
 have o0 := zb8 0 (by decide)
 refine zar x_r12_inverse_l3.eq_1 (fun (r : Nat) fr M => r ≤ 3 ∧ fr 1 = .p 0 0 ∧ fr 2 = .p 1 0 ∧ fr 3 = .p 2 0 ∧ fr 4 = (PV.i .i64 ((i : Nat) : Int)) ∧ fr 5 = (PV.i .i64 ((k : Nat) : Int)) ∧ fr 6 = .p (G.length + 3) 0 ∧ fr 7 = (PV.i .i64 ((r : Nat) : Int)) ∧ ∃ v, M = some ⟨cN z, true, 0⟩ :: R :: O :: (G ++ [some ⟨cT (sB (3 * r)) (u0V z i), true, v⟩])) (fun r => 3 - r) ?_ 0 ⟨by omega, f1, f2, f3, f4, f5, f6, f7, v, rfl⟩
 rintro r fr M ⟨hr, f1, f2, f3, f4, f5, f6, f7, v, rfl⟩ ih
 rcases Nat.lt_or_ge r 3 with h3 | h3
 ·have q1 : ((r : Int) < 3) = True := eq_true (by omega)
  simp (disch := omega) only [go_sem, seval, wqq, f1, f2, f3, f4, f5, f6, f7, q1]
  refine zar x_r12_inverse_l4.eq_1 (fun (c : Nat) fr M => c ≤ 3 ∧ fr 1 = .p 0 0 ∧ fr 2 = .p 1 0 ∧ fr 3 = .p 2 0 ∧ fr 4 = (PV.i .i64 ((i : Nat) : Int)) ∧ fr 5 = (PV.i .i64 ((k : Nat) : Int)) ∧ fr 6 = .p (G.length + 3) 0 ∧ fr 7 = (PV.i .i64 ((r : Nat) : Int)) ∧ fr 8 = (PV.i .i64 ((c : Nat) : Int)) ∧ ∃ v, M = some ⟨cN z, true, 0⟩ :: R :: O :: (G ++ [some ⟨cT (sB (3 * r + c)) (u0V z i), true, v⟩])) (fun c => 3 - c) ?_ 0 ⟨by omega, by simp only [go_sem, seval, f1], by simp only [go_sem, seval, f2], by simp only [go_sem, seval, f3], by simp only [go_sem, seval, f4], by simp only [go_sem, seval, f5], by simp only [go_sem, seval, f6], by simp only [go_sem, seval, f7], by simp only [go_sem, seval], v, rfl⟩
  rintro c fr M ⟨hc, f1, f2, f3, f4, f5, f6, f7, f8, v, rfl⟩ ih2
  rcases Nat.lt_or_ge c 3 with h4 | h4
  ·have q2 : ((c : Int) < 3) = True := eq_true (by omega)
   obtain rfl | rfl | rfl := zc6 hi <;> obtain rfl | rfl | rfl := zc6 h3 <;> obtain rfl | rfl | rfl := zc6 h4
   ·simp (disch := omega) only [go_sem, seval, wqq, f1, f2, f3, f4, f5, f6, f7, f8, zad, zaA, o0, mG, mG0, sG, sG0, lG, lqq]
    exact ih2 1 _ _ (by omega) ⟨by omega, by simp only [go_sem, seval, f1], by simp only [go_sem, seval, f2], by simp only [go_sem, seval, f3], by simp only [go_sem, seval, f4], by simp only [go_sem, seval, f5], by simp only [go_sem, seval, f6], by simp only [go_sem, seval, f7], by simp only [go_sem, seval], _, rfl⟩
   ·simp (disch := omega) only [go_sem, seval, wqq, f1, f2, f3, f4, f5, f6, f7, f8, zad, zaA, o0, mG, mG0, sG, sG0, lG, lqq]
    exact ih2 2 _ _ (by omega) ⟨by omega, by simp only [go_sem, seval, f1], by simp only [go_sem, seval, f2], by simp only [go_sem, seval, f3], by simp only [go_sem, seval, f4], by simp only [go_sem, seval, f5], by simp only [go_sem, seval, f6], by simp only [go_sem, seval, f7], by simp only [go_sem, seval], _, rfl⟩
   ·simp (disch := omega) only [go_sem, seval, wqq, f1, f2, f3, f4, f5, f6, f7, f8, zad, zaA, o0, mG, mG0, sG, sG0, lG, lqq]
    exact ih2 3 _ _ (by omega) ⟨by omega, by simp only [go_sem, seval, f1], by simp only [go_sem, seval, f2], by simp only [go_sem, seval, f3], by simp only [go_sem, seval, f4], by simp only [go_sem, seval, f5], by simp only [go_sem, seval, f6], by simp only [go_sem, seval, f7], by simp only [go_sem, seval], _, rfl⟩
   ·simp (disch := omega) only [go_sem, seval, wqq, f1, f2, f3, f4, f5, f6, f7, f8, zad, zaA, o0, mG, mG0, sG, sG0, lG, lqq]
    exact ih2 1 _ _ (by omega) ⟨by omega, by simp only [go_sem, seval, f1], by simp only [go_sem, seval, f2], by simp only [go_sem, seval, f3], by simp only [go_sem, seval, f4], by simp only [go_sem, seval, f5], by simp only [go_sem, seval, f6], by simp only [go_sem, seval, f7], by simp only [go_sem, seval], _, rfl⟩
   ·simp (disch := omega) only [go_sem, seval, wqq, f1, f2, f3, f4, f5, f6, f7, f8, zad, zaA, o0, mG, mG0, sG, sG0, lG, lqq]
    exact ih2 2 _ _ (by omega) ⟨by omega, by simp only [go_sem, seval, f1], by simp only [go_sem, seval, f2], by simp only [go_sem, seval, f3], by simp only [go_sem, seval, f4], by simp only [go_sem, seval, f5], by simp only [go_sem, seval, f6], by simp only [go_sem, seval, f7], by simp only [go_sem, seval], _, rfl⟩
   ·simp (disch := omega) only [go_sem, seval, wqq, f1, f2, f3, f4, f5, f6, f7, f8, zad, zaA, o0, mG, mG0, sG, sG0, lG, lqq]
    exact ih2 3 _ _ (by omega) ⟨by omega, by simp only [go_sem, seval, f1], by simp only [go_sem, seval, f2], by simp only [go_sem, seval, f3], by simp only [go_sem, seval, f4], by simp only [go_sem, seval, f5], by simp only [go_sem, seval, f6], by simp only [go_sem, seval, f7], by simp only [go_sem, seval], _, rfl⟩
   ·simp (disch := omega) only [go_sem, seval, wqq, f1, f2, f3, f4, f5, f6, f7, f8, zad, zaA, o0, mG, mG0, sG, sG0, lG, lqq]
    exact ih2 1 _ _ (by omega) ⟨by omega, by simp only [go_sem, seval, f1], by simp only [go_sem, seval, f2], by simp only [go_sem, seval, f3], by simp only [go_sem, seval, f4], by simp only [go_sem, seval, f5], by simp only [go_sem, seval, f6], by simp only [go_sem, seval, f7], by simp only [go_sem, seval], _, rfl⟩
   ·simp (disch := omega) only [go_sem, seval, wqq, f1, f2, f3, f4, f5, f6, f7, f8, zad, zaA, o0, mG, mG0, sG, sG0, lG, lqq]
    exact ih2 2 _ _ (by omega) ⟨by omega, by simp only [go_sem, seval, f1], by simp only [go_sem, seval, f2], by simp only [go_sem, seval, f3], by simp only [go_sem, seval, f4], by simp only [go_sem, seval, f5], by simp only [go_sem, seval, f6], by simp only [go_sem, seval, f7], by simp only [go_sem, seval], _, rfl⟩
   ·simp (disch := omega) only [go_sem, seval, wqq, f1, f2, f3, f4, f5, f6, f7, f8, zad, zaA, o0, mG, mG0, sG, sG0, lG, lqq]
    exact ih2 3 _ _ (by omega) ⟨by omega, by simp only [go_sem, seval, f1], by simp only [go_sem, seval, f2], by simp only [go_sem, seval, f3], by simp only [go_sem, seval, f4], by simp only [go_sem, seval, f5], by simp only [go_sem, seval, f6], by simp only [go_sem, seval, f7], by simp only [go_sem, seval], _, rfl⟩
   ·simp (disch := omega) only [go_sem, seval, wqq, f1, f2, f3, f4, f5, f6, f7, f8, zad, zaA, o0, mG, mG0, sG, sG0, lG, lqq]
    exact ih2 1 _ _ (by omega) ⟨by omega, by simp only [go_sem, seval, f1], by simp only [go_sem, seval, f2], by simp only [go_sem, seval, f3], by simp only [go_sem, seval, f4], by simp only [go_sem, seval, f5], by simp only [go_sem, seval, f6], by simp only [go_sem, seval, f7], by simp only [go_sem, seval], _, rfl⟩
   ·simp (disch := omega) only [go_sem, seval, wqq, f1, f2, f3, f4, f5, f6, f7, f8, zad, zaA, o0, mG, mG0, sG, sG0, lG, lqq]
    exact ih2 2 _ _ (by omega) ⟨by omega, by simp only [go_sem, seval, f1], by simp only [go_sem, seval, f2], by simp only [go_sem, seval, f3], by simp only [go_sem, seval, f4], by simp only [go_sem, seval, f5], by simp only [go_sem, seval, f6], by simp only [go_sem, seval, f7], by simp only [go_sem, seval], _, rfl⟩
   ·simp (disch := omega) only [go_sem, seval, wqq, f1, f2, f3, f4, f5, f6, f7, f8, zad, zaA, o0, mG, mG0, sG, sG0, lG, lqq]
    exact ih2 3 _ _ (by omega) ⟨by omega, by simp only [go_sem, seval, f1], by simp only [go_sem, seval, f2], by simp only [go_sem, seval, f3], by simp only [go_sem, seval, f4], by simp only [go_sem, seval, f5], by simp only [go_sem, seval, f6], by simp only [go_sem, seval, f7], by simp only [go_sem, seval], _, rfl⟩
   ·simp (disch := omega) only [go_sem, seval, wqq, f1, f2, f3, f4, f5, f6, f7, f8, zad, zaA, o0, mG, mG0, sG, sG0, lG, lqq]
    exact ih2 1 _ _ (by omega) ⟨by omega, by simp only [go_sem, seval, f1], by simp only [go_sem, seval, f2], by simp only [go_sem, seval, f3], by simp only [go_sem, seval, f4], by simp only [go_sem, seval, f5], by simp only [go_sem, seval, f6], by simp only [go_sem, seval, f7], by simp only [go_sem, seval], _, rfl⟩
   ·simp (disch := omega) only [go_sem, seval, wqq, f1, f2, f3, f4, f5, f6, f7, f8, zad, zaA, o0, mG, mG0, sG, sG0, lG, lqq]
    exact ih2 2 _ _ (by omega) ⟨by omega, by simp only [go_sem, seval, f1], by simp only [go_sem, seval, f2], by simp only [go_sem, seval, f3], by simp only [go_sem, seval, f4], by simp only [go_sem, seval, f5], by simp only [go_sem, seval, f6], by simp only [go_sem, seval, f7], by simp only [go_sem, seval], _, rfl⟩
   ·simp (disch := omega) only [go_sem, seval, wqq, f1, f2, f3, f4, f5, f6, f7, f8, zad, zaA, o0, mG, mG0, sG, sG0, lG, lqq]
    exact ih2 3 _ _ (by omega) ⟨by omega, by simp only [go_sem, seval, f1], by simp only [go_sem, seval, f2], by simp only [go_sem, seval, f3], by simp only [go_sem, seval, f4], by simp only [go_sem, seval, f5], by simp only [go_sem, seval, f6], by simp only [go_sem, seval, f7], by simp only [go_sem, seval], _, rfl⟩
   ·simp (disch := omega) only [go_sem, seval, wqq, f1, f2, f3, f4, f5, f6, f7, f8, zad, zaA, o0, mG, mG0, sG, sG0, lG, lqq]
    exact ih2 1 _ _ (by omega) ⟨by omega, by simp only [go_sem, seval, f1], by simp only [go_sem, seval, f2], by simp only [go_sem, seval, f3], by simp only [go_sem, seval, f4], by simp only [go_sem, seval, f5], by simp only [go_sem, seval, f6], by simp only [go_sem, seval, f7], by simp only [go_sem, seval], _, rfl⟩
   ·simp (disch := omega) only [go_sem, seval, wqq, f1, f2, f3, f4, f5, f6, f7, f8, zad, zaA, o0, mG, mG0, sG, sG0, lG, lqq]
    exact ih2 2 _ _ (by omega) ⟨by omega, by simp only [go_sem, seval, f1], by simp only [go_sem, seval, f2], by simp only [go_sem, seval, f3], by simp only [go_sem, seval, f4], by simp only [go_sem, seval, f5], by simp only [go_sem, seval, f6], by simp only [go_sem, seval, f7], by simp only [go_sem, seval], _, rfl⟩
   ·simp (disch := omega) only [go_sem, seval, wqq, f1, f2, f3, f4, f5, f6, f7, f8, zad, zaA, o0, mG, mG0, sG, sG0, lG, lqq]
    exact ih2 3 _ _ (by omega) ⟨by omega, by simp only [go_sem, seval, f1], by simp only [go_sem, seval, f2], by simp only [go_sem, seval, f3], by simp only [go_sem, seval, f4], by simp only [go_sem, seval, f5], by simp only [go_sem, seval, f6], by simp only [go_sem, seval, f7], by simp only [go_sem, seval], _, rfl⟩
   ·simp (disch := omega) only [go_sem, seval, wqq, f1, f2, f3, f4, f5, f6, f7, f8, zad, zaA, o0, mG, mG0, sG, sG0, lG, lqq]
    exact ih2 1 _ _ (by omega) ⟨by omega, by simp only [go_sem, seval, f1], by simp only [go_sem, seval, f2], by simp only [go_sem, seval, f3], by simp only [go_sem, seval, f4], by simp only [go_sem, seval, f5], by simp only [go_sem, seval, f6], by simp only [go_sem, seval, f7], by simp only [go_sem, seval], _, rfl⟩
   ·simp (disch := omega) only [go_sem, seval, wqq, f1, f2, f3, f4, f5, f6, f7, f8, zad, zaA, o0, mG, mG0, sG, sG0, lG, lqq]
    exact ih2 2 _ _ (by omega) ⟨by omega, by simp only [go_sem, seval, f1], by simp only [go_sem, seval, f2], by simp only [go_sem, seval, f3], by simp only [go_sem, seval, f4], by simp only [go_sem, seval, f5], by simp only [go_sem, seval, f6], by simp only [go_sem, seval, f7], by simp only [go_sem, seval], _, rfl⟩
   ·simp (disch := omega) only [go_sem, seval, wqq, f1, f2, f3, f4, f5, f6, f7, f8, zad, zaA, o0, mG, mG0, sG, sG0, lG, lqq]
    exact ih2 3 _ _ (by omega) ⟨by omega, by simp only [go_sem, seval, f1], by simp only [go_sem, seval, f2], by simp only [go_sem, seval, f3], by simp only [go_sem, seval, f4], by simp only [go_sem, seval, f5], by simp only [go_sem, seval, f6], by simp only [go_sem, seval, f7], by simp only [go_sem, seval], _, rfl⟩
   ·simp (disch := omega) only [go_sem, seval, wqq, f1, f2, f3, f4, f5, f6, f7, f8, zad, zaA, o0, mG, mG0, sG, sG0, lG, lqq]
    exact ih2 1 _ _ (by omega) ⟨by omega, by simp only [go_sem, seval, f1], by simp only [go_sem, seval, f2], by simp only [go_sem, seval, f3], by simp only [go_sem, seval, f4], by simp only [go_sem, seval, f5], by simp only [go_sem, seval, f6], by simp only [go_sem, seval, f7], by simp only [go_sem, seval], _, rfl⟩
   ·simp (disch := omega) only [go_sem, seval, wqq, f1, f2, f3, f4, f5, f6, f7, f8, zad, zaA, o0, mG, mG0, sG, sG0, lG, lqq]
    exact ih2 2 _ _ (by omega) ⟨by omega, by simp only [go_sem, seval, f1], by simp only [go_sem, seval, f2], by simp only [go_sem, seval, f3], by simp only [go_sem, seval, f4], by simp only [go_sem, seval, f5], by simp only [go_sem, seval, f6], by simp only [go_sem, seval, f7], by simp only [go_sem, seval], _, rfl⟩
   ·simp (disch := omega) only [go_sem, seval, wqq, f1, f2, f3, f4, f5, f6, f7, f8, zad, zaA, o0, mG, mG0, sG, sG0, lG, lqq]
    exact ih2 3 _ _ (by omega) ⟨by omega, by simp only [go_sem, seval, f1], by simp only [go_sem, seval, f2], by simp only [go_sem, seval, f3], by simp only [go_sem, seval, f4], by simp only [go_sem, seval, f5], by simp only [go_sem, seval, f6], by simp only [go_sem, seval, f7], by simp only [go_sem, seval], _, rfl⟩
   ·simp (disch := omega) only [go_sem, seval, wqq, f1, f2, f3, f4, f5, f6, f7, f8, zad, zaA, o0, mG, mG0, sG, sG0, lG, lqq]
    exact ih2 1 _ _ (by omega) ⟨by omega, by simp only [go_sem, seval, f1], by simp only [go_sem, seval, f2], by simp only [go_sem, seval, f3], by simp only [go_sem, seval, f4], by simp only [go_sem, seval, f5], by simp only [go_sem, seval, f6], by simp only [go_sem, seval, f7], by simp only [go_sem, seval], _, rfl⟩
   ·simp (disch := omega) only [go_sem, seval, wqq, f1, f2, f3, f4, f5, f6, f7, f8, zad, zaA, o0, mG, mG0, sG, sG0, lG, lqq]
    exact ih2 2 _ _ (by omega) ⟨by omega, by simp only [go_sem, seval, f1], by simp only [go_sem, seval, f2], by simp only [go_sem, seval, f3], by simp only [go_sem, seval, f4], by simp only [go_sem, seval, f5], by simp only [go_sem, seval, f6], by simp only [go_sem, seval, f7], by simp only [go_sem, seval], _, rfl⟩
   ·simp (disch := omega) only [go_sem, seval, wqq, f1, f2, f3, f4, f5, f6, f7, f8, zad, zaA, o0, mG, mG0, sG, sG0, lG, lqq]
    exact ih2 3 _ _ (by omega) ⟨by omega, by simp only [go_sem, seval, f1], by simp only [go_sem, seval, f2], by simp only [go_sem, seval, f3], by simp only [go_sem, seval, f4], by simp only [go_sem, seval, f5], by simp only [go_sem, seval, f6], by simp only [go_sem, seval, f7], by simp only [go_sem, seval], _, rfl⟩
  ·obtain rfl : c = 3 := by omega
   simp (disch := omega) only [go_sem, seval, wqq, f1, f2, f3, f4, f5, f6, f7, f8]
   exact ih (r + 1) _ _ (by omega) ⟨by omega, by simp only [go_sem, seval, f1], by simp only [go_sem, seval, f2], by simp only [go_sem, seval, f3], by simp only [go_sem, seval, f4], by simp only [go_sem, seval, f5], by simp only [go_sem, seval, f6], by simp only [go_sem, seval]; rw [Int.natCast_succ], v, rfl⟩
 ·obtain rfl : r = 3 := by omega
  simp (disch := omega) only [go_sem, seval, wqq, f1, f2, f3, f4, f5, f6, f7]
  exact cont _ v (by simp only [go_sem, seval, f1]) (by simp only [go_sem, seval, f2]) (by simp only [go_sem, seval, f3]) (by simp only [go_sem, seval, f4]) (by simp only [go_sem, seval, f5]) (by simp only [go_sem, seval, f6])
set_option maxHeartbeats 4000000 in
theorem znb {z : Nat → Int} (hz : ∀ e, tlen (z e).natAbs ≤ 9000) : pf E0 356 [nM z] = some (nM (rinV z)) := by
 have o1 := zb8 1 (by decide)
 refine zac (xf := x_r12_inverse) rfl (by simp [x_r12_inverse]) ?_
 simp only [x_r12_inverse]
 simp (disch := omega) only [go_sem, seval, wqq]
 refine zar x_r12_inverse_l1.eq_1 (fun (i : Nat) fr M => i ≤ 3 ∧ fr 1 = .p 0 0 ∧ fr 2 = .p 1 0 ∧ fr 3 = .p 2 0 ∧ fr 4 = (PV.i .i64 ((i : Nat) : Int)) ∧ ∃ c v G, M = some ⟨cN z, true, 0⟩ :: some ⟨cT (sB 0) z, true, c⟩ :: some ⟨cT (sB (3 * i)) (rinV z), true, v⟩ :: G) (fun i => 3 - i) ?_ 0 ⟨by omega, by simp only [go_sem, seval], by simp only [go_sem, seval], by simp only [go_sem, seval], by simp only [go_sem, seval], _, _, [], rfl⟩
 rintro i fr M ⟨hi, f1, f2, f3, f4, c, v, G, rfl⟩ ih
 rcases Nat.lt_or_ge i 3 with h3 | h3
 ·have q1 : ((i : Int) < 3) = True := eq_true (by omega)
  simp (disch := omega) only [go_sem, seval, wqq, f1, f2, f3, f4, q1]
  refine zar x_r12_inverse_l2.eq_1 (fun (k : Nat) fr M => k ≤ 3 ∧ fr 1 = .p 0 0 ∧ fr 2 = .p 1 0 ∧ fr 3 = .p 2 0 ∧ fr 4 = (PV.i .i64 ((i : Nat) : Int)) ∧ fr 5 = (PV.i .i64 ((k : Nat) : Int)) ∧ ∃ c v G, M = some ⟨cN z, true, 0⟩ :: some ⟨cT (sB 0) z, true, c⟩ :: some ⟨cT (sB (3 * i + k)) (rinV z), true, v⟩ :: G) (fun k => 3 - k) ?_ 0 ⟨by omega, by simp only [go_sem, seval, f1], by simp only [go_sem, seval, f2], by simp only [go_sem, seval, f3], by simp only [go_sem, seval, f4], by simp only [go_sem, seval], c, v, G, rfl⟩
  rintro k fr M ⟨hk, f1, f2, f3, f4, f5, c, v, G, rfl⟩ ih2
  rcases Nat.lt_or_ge k 3 with h4 | h4
  ·have q2 : ((k : Int) < 3) = True := eq_true (by omega)
   have dt := zke (z := uV z i k) (znx hz i k)
   simp (disch := omega) only [go_sem, seval, wqq, f1, f2, f3, f4, f5, q2, mG, mG0, sG, sG0, lG, lqq]
   refine zlQ (k := k) (G := G) h3 (by simp only [go_sem, seval, f1]) (by simp only [go_sem, seval, f2]) (by simp only [go_sem, seval, f3]) (by simp only [go_sem, seval, f4]) (by simp only [go_sem, seval, f5]) (by simp only [go_sem, seval]) (by simp only [go_sem, seval]) ?_
   intro fr' v' g1 g2 g3 g4 g5 g6
   obtain rfl | rfl | rfl := zc6 h3 <;> obtain rfl | rfl | rfl := zc6 h4
   ·have hU : psplice (cT (sB 9) (u0V z 0)) 0 [.b false, T 1] = cN (uV z 0 0) := rfl
    simp (disch := omega) only [go_sem, seval, wqq, g1, g2, g3, g4, g5, g6, o1, hU, dt, mG, mG0, sG, sG0, lG, lqq]
    exact ih2 1 _ _ (by omega) ⟨by omega, by simp only [go_sem, seval, g1], by simp only [go_sem, seval, g2], by simp only [go_sem, seval, g3], by simp only [go_sem, seval, g4], by simp only [go_sem, seval], _, _, _, rfl⟩
   ·have hU : psplice (cT (sB 9) (u0V z 0)) 6 [.b false, T 1] = cN (uV z 0 1) := rfl
    simp (disch := omega) only [go_sem, seval, wqq, g1, g2, g3, g4, g5, g6, o1, hU, dt, mG, mG0, sG, sG0, lG, lqq]
    exact ih2 2 _ _ (by omega) ⟨by omega, by simp only [go_sem, seval, g1], by simp only [go_sem, seval, g2], by simp only [go_sem, seval, g3], by simp only [go_sem, seval, g4], by simp only [go_sem, seval], _, _, _, rfl⟩
   ·have hU : psplice (cT (sB 9) (u0V z 0)) 12 [.b false, T 1] = cN (uV z 0 2) := rfl
    simp (disch := omega) only [go_sem, seval, wqq, g1, g2, g3, g4, g5, g6, o1, hU, dt, mG, mG0, sG, sG0, lG, lqq]
    exact ih2 3 _ _ (by omega) ⟨by omega, by simp only [go_sem, seval, g1], by simp only [go_sem, seval, g2], by simp only [go_sem, seval, g3], by simp only [go_sem, seval, g4], by simp only [go_sem, seval], _, _, _, rfl⟩
   ·have hU : psplice (cT (sB 9) (u0V z 1)) 2 [.b false, T 1] = cN (uV z 1 0) := rfl
    simp (disch := omega) only [go_sem, seval, wqq, g1, g2, g3, g4, g5, g6, o1, hU, dt, mG, mG0, sG, sG0, lG, lqq]
    exact ih2 1 _ _ (by omega) ⟨by omega, by simp only [go_sem, seval, g1], by simp only [go_sem, seval, g2], by simp only [go_sem, seval, g3], by simp only [go_sem, seval, g4], by simp only [go_sem, seval], _, _, _, rfl⟩
   ·have hU : psplice (cT (sB 9) (u0V z 1)) 8 [.b false, T 1] = cN (uV z 1 1) := rfl
    simp (disch := omega) only [go_sem, seval, wqq, g1, g2, g3, g4, g5, g6, o1, hU, dt, mG, mG0, sG, sG0, lG, lqq]
    exact ih2 2 _ _ (by omega) ⟨by omega, by simp only [go_sem, seval, g1], by simp only [go_sem, seval, g2], by simp only [go_sem, seval, g3], by simp only [go_sem, seval, g4], by simp only [go_sem, seval], _, _, _, rfl⟩
   ·have hU : psplice (cT (sB 9) (u0V z 1)) 14 [.b false, T 1] = cN (uV z 1 2) := rfl
    simp (disch := omega) only [go_sem, seval, wqq, g1, g2, g3, g4, g5, g6, o1, hU, dt, mG, mG0, sG, sG0, lG, lqq]
    exact ih2 3 _ _ (by omega) ⟨by omega, by simp only [go_sem, seval, g1], by simp only [go_sem, seval, g2], by simp only [go_sem, seval, g3], by simp only [go_sem, seval, g4], by simp only [go_sem, seval], _, _, _, rfl⟩
   ·have hU : psplice (cT (sB 9) (u0V z 2)) 4 [.b false, T 1] = cN (uV z 2 0) := rfl
    simp (disch := omega) only [go_sem, seval, wqq, g1, g2, g3, g4, g5, g6, o1, hU, dt, mG, mG0, sG, sG0, lG, lqq]
    exact ih2 1 _ _ (by omega) ⟨by omega, by simp only [go_sem, seval, g1], by simp only [go_sem, seval, g2], by simp only [go_sem, seval, g3], by simp only [go_sem, seval, g4], by simp only [go_sem, seval], _, _, _, rfl⟩
   ·have hU : psplice (cT (sB 9) (u0V z 2)) 10 [.b false, T 1] = cN (uV z 2 1) := rfl
    simp (disch := omega) only [go_sem, seval, wqq, g1, g2, g3, g4, g5, g6, o1, hU, dt, mG, mG0, sG, sG0, lG, lqq]
    exact ih2 2 _ _ (by omega) ⟨by omega, by simp only [go_sem, seval, g1], by simp only [go_sem, seval, g2], by simp only [go_sem, seval, g3], by simp only [go_sem, seval, g4], by simp only [go_sem, seval], _, _, _, rfl⟩
   ·have hU : psplice (cT (sB 9) (u0V z 2)) 16 [.b false, T 1] = cN (uV z 2 2) := rfl
    simp (disch := omega) only [go_sem, seval, wqq, g1, g2, g3, g4, g5, g6, o1, hU, dt, mG, mG0, sG, sG0, lG, lqq]
    exact ih2 3 _ _ (by omega) ⟨by omega, by simp only [go_sem, seval, g1], by simp only [go_sem, seval, g2], by simp only [go_sem, seval, g3], by simp only [go_sem, seval, g4], by simp only [go_sem, seval], _, _, _, rfl⟩
  ·obtain rfl : k = 3 := by omega
   simp (disch := omega) only [go_sem, seval, wqq, f1, f2, f3, f4, f5]
   exact ih (i + 1) _ _ (by omega) ⟨by omega, by simp only [go_sem, seval, f1], by simp only [go_sem, seval, f2], by simp only [go_sem, seval, f3], by simp only [go_sem, seval]; rw [Int.natCast_succ], c, v, G, rfl⟩
 ·obtain rfl : i = 3 := by omega
  have c9 : cT (sB (3 * 3)) (rinV z) = cN (rinV z) := rfl
  simp (disch := omega) only [go_sem, seval, wqq, f1, f2, f3, f4, c9]
end Go.Eng
namespace Go.Eng
theorem zce (a b : Int) : wlen (a * b).natAbs ≤ wlen a.natAbs + wlen b.natAbs := by
 rw [Int.natAbs_mul]
 refine zaV.2 ?_
 rw [Nat.pow_add]
 exact Nat.mul_lt_mul'' (zak _) (zak _)
theorem zjN (a b : Nat) : wlen (a + b) ≤ max (wlen a) (wlen b) + 1 := by
 refine zaV.2 ?_
 have h1 : 4294967296 ^ wlen a ≤ 4294967296 ^ max (wlen a) (wlen b) := Nat.pow_le_pow_right (by decide) (Nat.le_max_left _ _)
 have h2 : 4294967296 ^ wlen b ≤ 4294967296 ^ max (wlen a) (wlen b) := Nat.pow_le_pow_right (by decide) (Nat.le_max_right _ _)
 have h3 := zak a
 have h4 := zak b
 rw [Nat.pow_succ]
 generalize 4294967296 ^ max (wlen a) (wlen b) = t at *
 omega
theorem zcd (a b : Int) : wlen (a + b).natAbs ≤ max (wlen a.natAbs) (wlen b.natAbs) + 1 :=
 Nat.le_trans (zbm (Int.natAbs_add_le a b)) (zjN _ _)
theorem zff (a b : Int) : wlen (a - b).natAbs ≤ max (wlen a.natAbs) (wlen b.natAbs) + 1 := by
 have := zcd a (-b)
 rw [Int.natAbs_neg] at this
 rw [Int.sub_eq_add_neg]; exact this
theorem zjF {a b : WI} {n m : Nat} (ha : wlen a.v.natAbs ≤ n) (hb : wlen b.v.natAbs ≤ m) (h : n + m ≤ 512) : (tW a b).v = a.v * b.v ∧ wlen (a.v * b.v).natAbs ≤ n + m := by
 have := zce a.v b.v
 exact ⟨zdq (by omega), by omega⟩
theorem zl0 {a b : WI} {n m : Nat} (ha : wlen a.v.natAbs ≤ n) (hb : wlen b.v.natAbs ≤ m) (h : max n m + 1 ≤ 512) : (aW a b).v = a.v + b.v ∧ wlen (a.v + b.v).natAbs ≤ max n m + 1 := by
 have := zcd a.v b.v
 exact ⟨zdq (by omega), by omega⟩
theorem zsC {a b : WI} {n m : Nat} (ha : wlen a.v.natAbs ≤ n) (hb : wlen b.v.natAbs ≤ m) (h : max n m + 1 ≤ 512) : (sW a b).v = a.v - b.v ∧ wlen (a.v - b.v).natAbs ≤ max n m + 1 := by
 have := zff a.v b.v
 exact ⟨zdq (by omega), by omega⟩
def mnV (X : Nat → Int) (i k : Nat) : Int := X (3 * ((i + 1) % 3) + (k + 1) % 3) * X (3 * ((i + 2) % 3) + (k + 2) % 3) - X (3 * ((i + 1) % 3) + (k + 2) % 3) * X (3 * ((i + 2) % 3) + (k + 1) % 3)
theorem zmB {x : Nat → WI} {n : Nat} (hx : ∀ e, wlen (x e).v.natAbs ≤ n) (hn : n ≤ 100) (i k : Nat) : (mnW x i k).v = mnV (fun e => (x e).v) i k ∧ wlen (mnW x i k).v.natAbs ≤ 2 * n + 1 := by
 unfold mnW mnV
 obtain ⟨a1, a2⟩ := zjF (hx (3 * ((i + 1) % 3) + (k + 1) % 3)) (hx (3 * ((i + 2) % 3) + (k + 2) % 3)) (by omega)
 obtain ⟨b1, b2⟩ := zjF (hx (3 * ((i + 1) % 3) + (k + 2) % 3)) (hx (3 * ((i + 2) % 3) + (k + 1) % 3)) (by omega)
 rw [← a1] at a2
 rw [← b1] at b2
 obtain ⟨c1, c2⟩ := zsC a2 b2 (by omega)
 rw [a1, b1] at c1
 exact ⟨c1, by rw [← a1, ← b1] at c1; rw [c1]; omega⟩
theorem zoK {x : Nat → WI} {n : Nat} (hx : ∀ e, wlen (x e).v.natAbs ≤ n) (hn : n ≤ 100) : (dtW x).v = rdV (fun e => (x e).v) := by
 obtain ⟨a1, a2⟩ := zmB hx hn 0 0
 obtain ⟨b1, b2⟩ := zmB hx hn 0 1
 obtain ⟨c1, c2⟩ := zmB hx hn 0 2
 obtain ⟨t1, u1⟩ := zjF (hx 0) a2 (by omega)
 obtain ⟨t2, u2⟩ := zjF (hx 1) b2 (by omega)
 obtain ⟨t3, u3⟩ := zjF (hx 2) c2 (by omega)
 rw [← t1] at u1
 rw [← t2] at u2
 rw [← t3] at u3
 obtain ⟨s1, v1⟩ := zl0 u1 u2 (by omega)
 rw [← s1] at v1
 obtain ⟨s2, v2⟩ := zl0 v1 u3 (by omega)
 have e : (dtW x).v = (aW (aW (tW (x 0) (mnW x 0 0)) (tW (x 1) (mnW x 0 1))) (tW (x 2) (mnW x 0 2))).v := rfl
 rw [e, s2, s1, t1, t2, t3, a1, b1, c1]
 unfold rdV rtK mnV
 simp only [Nat.reduceAdd, Nat.reduceMul, Nat.reduceMod]
 generalize (x 0).v = y0
 generalize (x 1).v = y1
 generalize (x 2).v = y2
 generalize (x 3).v = y3
 generalize (x 4).v = y4
 generalize (x 5).v = y5
 generalize (x 6).v = y6
 generalize (x 7).v = y7
 generalize (x 8).v = y8
 grind
theorem zqb (X : Nat → Int) {e : Nat} (he : e < 9) : rinV X e = mnV X (e % 3) (e / 3) := by
 unfold rinV rdV rtK uV u0V mnV
 obtain rfl | rfl | rfl | rfl | rfl | rfl | rfl | rfl | rfl := zch he <;>
 (simp <;> grind )
theorem zrz {x y : Nat → WI} {n : Nat} (hx : ∀ e, wlen (x e).v.natAbs ≤ n) (hy : ∀ e, wlen (y e).v.natAbs ≤ n) (hn : n ≤ 100) (e : Nat) : (prW x y e).v = rprV (fun e => (x e).v) (fun e => (y e).v) e := by
 have e0 : prW x y e = aW (aW (aW wi0 (tW (x (3 * (e / 3) + 0)) (y (3 * 0 + e % 3)))) (tW (x (3 * (e / 3) + 1)) (y (3 * 1 + e % 3)))) (tW (x (3 * (e / 3) + 2)) (y (3 * 2 + e % 3))) := rfl
 obtain ⟨t1, u1⟩ := zjF (hx (3 * (e / 3) + 0)) (hy (3 * 0 + e % 3)) (by omega)
 obtain ⟨t2, u2⟩ := zjF (hx (3 * (e / 3) + 1)) (hy (3 * 1 + e % 3)) (by omega)
 obtain ⟨t3, u3⟩ := zjF (hx (3 * (e / 3) + 2)) (hy (3 * 2 + e % 3)) (by omega)
 rw [← t1] at u1
 rw [← t2] at u2
 rw [← t3] at u3
 have z0 : wlen wi0.v.natAbs ≤ 0 := Nat.le_of_eq rfl
 obtain ⟨s1, v1⟩ := zl0 z0 u1 (by omega)
 rw [← s1] at v1
 obtain ⟨s2, v2⟩ := zl0 v1 u2 (by omega)
 rw [← s2] at v2
 obtain ⟨s3, _⟩ := zl0 v2 u3 (by omega)
 rw [e0, s3, s2, s1, t1, t2, t3]
 unfold rprV rpK
 simp only [Nat.add_zero, Nat.mul_zero, Nat.mul_one, Nat.zero_add]
 rfl
end Go.Eng
namespace Go.Eng
theorem zgV {p : Nat → Int} (hp : ∀ e, Fits64 (p e)) : (fun e => (ofW p e).v) = p := funext fun e => zkX (hp e)
theorem ze0 {p : Nat → Int} (hp : ∀ e, Fits64 (p e)) (e : Nat) : wlen (ofW p e).v.natAbs ≤ 2 := by
 rw [zkX (hp e)]
 have h := hp e
 unfold Fits64 at h
 exact zck (by omega)
theorem zcZ {n : Int} (h : Fits64 n) : tlen n.natAbs ≤ 5 := by
 unfold Fits64 at h
 exact zau (by omega)
theorem zlW {p : Nat → Int} (hp : ∀ e, Fits64 (p e)) : (dtW (ofW p)).v = rdV p := by
 rw [zoK (ze0 hp) (by decide), zgV hp]
set_option maxHeartbeats 2000000 in
theorem zgq {p : Nat → Int} (hp : ∀ e, Fits64 (p e)) : pf E0 341 [pI p] = some (.i .i64 (vlP p)) := by
 have hm := ze6 hp
 have hd := zke (z := p) fun e => Nat.le_trans (zcZ (hp e)) (by decide)
 have bad : ∀ e, e < 9 → ¬ (-1073741824 ≤ p e ∧ p e ≤ 1073741824) → vlP p = 1 := fun e he h => by unfold vlP; rw [if_neg fun q => h (q e he)]
 have good : okP p → vlP p = if rdV p = 0 then 10 else 0 := fun h => by unfold vlP; rw [if_pos h, zlW hp]
 have tl0 : rdV p = 0 → (tlen (rdV p).natAbs : Int) = 0 := fun h => by rw [h, Int.natAbs_zero, zay]; rfl
 have tl1 : rdV p ≠ 0 → ¬ (tlen (rdV p).natAbs : Int) = 0 := fun h => by have := za7 (v := (rdV p).natAbs) (by omega); omega
 generalize vlP p = V at *
 generalize rdV p = d at *
 have fd : fldP false 1 1 (nP d) = some (T d.natAbs) := rfl
 refine zac (xf := x_r12_Valid) rfl (by simp [x_r12_Valid]) ?_
 simp only [x_r12_Valid]
 simp (disch := omega) only [go_sem, seval, wqq]
 refine zar x_r12_Valid_l1.eq_1 (fun (i : Nat) fr M => i ≤ 9 ∧ (∀ e, e < i → -1073741824 ≤ p e ∧ p e ≤ 1073741824) ∧ fr 1 = .p 0 0 ∧ fr 3 = (PV.i .i64 ((i : Nat) : Int)) ∧ M = [some ⟨cI p, true, 0⟩]) (fun i => 9 - i) ?_ 0 ⟨by omega, fun e he => by omega, by simp only [go_sem, seval], by simp only [go_sem, seval], rfl⟩
 rintro i fr M ⟨hi, hlo, f1, f3, rfl⟩ ih
 rcases Nat.lt_or_ge i 9 with h9 | h9
 ·have nxt : ∀ j, (-1073741824 ≤ p j ∧ p j ≤ 1073741824) → j = i → ∀ e, e < j + 1 → -1073741824 ≤ p e ∧ p e ≤ 1073741824 := fun j hj hji e he => by
   subst hji
   rcases Nat.lt_or_ge e j with h | h
   ·exact hlo e h
   ·obtain rfl : e = j := by omega
    exact hj
  obtain rfl | rfl | rfl | rfl | rfl | rfl | rfl | rfl | rfl := zch h9
  ·have hpe := hp 0
   unfold Fits64 at hpe
   rcases zbu (p 0 < -1073741824) with t1 | t1
   ·rw [bad 0 (by decide) (by have := of_eq_true t1; omega)]
    simp (disch := omega) only [go_sem, seval, wqq, f1, f3, zag, t1]
   ·rcases zbu (p 0 > 1073741824) with t2 | t2
    ·rw [bad 0 (by decide) (by have := of_eq_true t2; omega)]
     simp (disch := omega) only [go_sem, seval, wqq, f1, f3, zag, t1, t2]
    ·have u1 := of_eq_false t1
     have u2 := of_eq_false t2
     simp (disch := omega) only [go_sem, seval, wqq, f1, f3, zag, t1, t2]
     exact ih 1 _ _ (by omega) ⟨by omega, nxt 0 (by omega) rfl, by simp only [go_sem, seval, f1], by simp only [go_sem, seval], rfl⟩
  ·have hpe := hp 1
   unfold Fits64 at hpe
   rcases zbu (p 1 < -1073741824) with t1 | t1
   ·rw [bad 1 (by decide) (by have := of_eq_true t1; omega)]
    simp (disch := omega) only [go_sem, seval, wqq, f1, f3, zag, t1]
   ·rcases zbu (p 1 > 1073741824) with t2 | t2
    ·rw [bad 1 (by decide) (by have := of_eq_true t2; omega)]
     simp (disch := omega) only [go_sem, seval, wqq, f1, f3, zag, t1, t2]
    ·have u1 := of_eq_false t1
     have u2 := of_eq_false t2
     simp (disch := omega) only [go_sem, seval, wqq, f1, f3, zag, t1, t2]
     exact ih 2 _ _ (by omega) ⟨by omega, nxt 1 (by omega) rfl, by simp only [go_sem, seval, f1], by simp only [go_sem, seval], rfl⟩
  ·have hpe := hp 2
   unfold Fits64 at hpe
   rcases zbu (p 2 < -1073741824) with t1 | t1
   ·rw [bad 2 (by decide) (by have := of_eq_true t1; omega)]
    simp (disch := omega) only [go_sem, seval, wqq, f1, f3, zag, t1]
   ·rcases zbu (p 2 > 1073741824) with t2 | t2
    ·rw [bad 2 (by decide) (by have := of_eq_true t2; omega)]
     simp (disch := omega) only [go_sem, seval, wqq, f1, f3, zag, t1, t2]
    ·have u1 := of_eq_false t1
     have u2 := of_eq_false t2
     simp (disch := omega) only [go_sem, seval, wqq, f1, f3, zag, t1, t2]
     exact ih 3 _ _ (by omega) ⟨by omega, nxt 2 (by omega) rfl, by simp only [go_sem, seval, f1], by simp only [go_sem, seval], rfl⟩
  ·have hpe := hp 3
   unfold Fits64 at hpe
   rcases zbu (p 3 < -1073741824) with t1 | t1
   ·rw [bad 3 (by decide) (by have := of_eq_true t1; omega)]
    simp (disch := omega) only [go_sem, seval, wqq, f1, f3, zag, t1]
   ·rcases zbu (p 3 > 1073741824) with t2 | t2
    ·rw [bad 3 (by decide) (by have := of_eq_true t2; omega)]
     simp (disch := omega) only [go_sem, seval, wqq, f1, f3, zag, t1, t2]
    ·have u1 := of_eq_false t1
     have u2 := of_eq_false t2
     simp (disch := omega) only [go_sem, seval, wqq, f1, f3, zag, t1, t2]
     exact ih 4 _ _ (by omega) ⟨by omega, nxt 3 (by omega) rfl, by simp only [go_sem, seval, f1], by simp only [go_sem, seval], rfl⟩
  ·have hpe := hp 4
   unfold Fits64 at hpe
   rcases zbu (p 4 < -1073741824) with t1 | t1
   ·rw [bad 4 (by decide) (by have := of_eq_true t1; omega)]
    simp (disch := omega) only [go_sem, seval, wqq, f1, f3, zag, t1]
   ·rcases zbu (p 4 > 1073741824) with t2 | t2
    ·rw [bad 4 (by decide) (by have := of_eq_true t2; omega)]
     simp (disch := omega) only [go_sem, seval, wqq, f1, f3, zag, t1, t2]
    ·have u1 := of_eq_false t1
     have u2 := of_eq_false t2
     simp (disch := omega) only [go_sem, seval, wqq, f1, f3, zag, t1, t2]
     exact ih 5 _ _ (by omega) ⟨by omega, nxt 4 (by omega) rfl, by simp only [go_sem, seval, f1], by simp only [go_sem, seval], rfl⟩
  ·have hpe := hp 5
   unfold Fits64 at hpe
   rcases zbu (p 5 < -1073741824) with t1 | t1
   ·rw [bad 5 (by decide) (by have := of_eq_true t1; omega)]
    simp (disch := omega) only [go_sem, seval, wqq, f1, f3, zag, t1]
   ·rcases zbu (p 5 > 1073741824) with t2 | t2
    ·rw [bad 5 (by decide) (by have := of_eq_true t2; omega)]
     simp (disch := omega) only [go_sem, seval, wqq, f1, f3, zag, t1, t2]
    ·have u1 := of_eq_false t1
     have u2 := of_eq_false t2
     simp (disch := omega) only [go_sem, seval, wqq, f1, f3, zag, t1, t2]
     exact ih 6 _ _ (by omega) ⟨by omega, nxt 5 (by omega) rfl, by simp only [go_sem, seval, f1], by simp only [go_sem, seval], rfl⟩
  ·have hpe := hp 6
   unfold Fits64 at hpe
   rcases zbu (p 6 < -1073741824) with t1 | t1
   ·rw [bad 6 (by decide) (by have := of_eq_true t1; omega)]
    simp (disch := omega) only [go_sem, seval, wqq, f1, f3, zag, t1]
   ·rcases zbu (p 6 > 1073741824) with t2 | t2
    ·rw [bad 6 (by decide) (by have := of_eq_true t2; omega)]
     simp (disch := omega) only [go_sem, seval, wqq, f1, f3, zag, t1, t2]
    ·have u1 := of_eq_false t1
     have u2 := of_eq_false t2
     simp (disch := omega) only [go_sem, seval, wqq, f1, f3, zag, t1, t2]
     exact ih 7 _ _ (by omega) ⟨by omega, nxt 6 (by omega) rfl, by simp only [go_sem, seval, f1], by simp only [go_sem, seval], rfl⟩
  ·have hpe := hp 7
   unfold Fits64 at hpe
   rcases zbu (p 7 < -1073741824) with t1 | t1
   ·rw [bad 7 (by decide) (by have := of_eq_true t1; omega)]
    simp (disch := omega) only [go_sem, seval, wqq, f1, f3, zag, t1]
   ·rcases zbu (p 7 > 1073741824) with t2 | t2
    ·rw [bad 7 (by decide) (by have := of_eq_true t2; omega)]
     simp (disch := omega) only [go_sem, seval, wqq, f1, f3, zag, t1, t2]
    ·have u1 := of_eq_false t1
     have u2 := of_eq_false t2
     simp (disch := omega) only [go_sem, seval, wqq, f1, f3, zag, t1, t2]
     exact ih 8 _ _ (by omega) ⟨by omega, nxt 7 (by omega) rfl, by simp only [go_sem, seval, f1], by simp only [go_sem, seval], rfl⟩
  ·have hpe := hp 8
   unfold Fits64 at hpe
   rcases zbu (p 8 < -1073741824) with t1 | t1
   ·rw [bad 8 (by decide) (by have := of_eq_true t1; omega)]
    simp (disch := omega) only [go_sem, seval, wqq, f1, f3, zag, t1]
   ·rcases zbu (p 8 > 1073741824) with t2 | t2
    ·rw [bad 8 (by decide) (by have := of_eq_true t2; omega)]
     simp (disch := omega) only [go_sem, seval, wqq, f1, f3, zag, t1, t2]
    ·have u1 := of_eq_false t1
     have u2 := of_eq_false t2
     simp (disch := omega) only [go_sem, seval, wqq, f1, f3, zag, t1, t2]
     exact ih 9 _ _ (by omega) ⟨by omega, nxt 8 (by omega) rfl, by simp only [go_sem, seval, f1], by simp only [go_sem, seval], rfl⟩
 ·obtain rfl : i = 9 := by omega
  rw [good hlo]
  by_cases h0 : d = 0
  ·have c0 : ((tlen d.natAbs : Int) = 0) = True := eq_true (tl0 h0)
   rw [if_pos h0]
   simp (disch := omega) only [go_sem, seval, wqq, f1, f3, hm, hd, fd, c0]
  ·have c0 : ((tlen d.natAbs : Int) = 0) = False := eq_false (tl1 h0)
   rw [if_neg h0]
   simp (disch := omega) only [go_sem, seval, wqq, f1, f3, hm, hd, fd, c0]
theorem zhD {X : Nat → Int} : ∀ {i : Nat}, gN X i = 0 → ∀ e, e < i → X e = 0
 | 0, _, e, h => by omega
 | i + 1, h, e, he => by
  have h : Nat.gcd (gN X i) (X i).natAbs = 0 := h
  obtain ⟨h1, h2⟩ := Nat.gcd_eq_zero_iff.1 h
  rcases Nat.lt_or_ge e i with q | q
  ·exact zhD h1 e q
  ·obtain rfl : e = i := by omega
   omega
theorem zhE {X Y : Nat → Int} : ∀ {i : Nat}, (∀ e, e < i → X e = Y e) → gN X i = gN Y i ∧ fN X i = fN Y i
 | 0, _ => ⟨rfl, rfl⟩
 | i + 1, h => by
  obtain ⟨a, b⟩ := zhE (i := i) fun e he => h e (by omega)
  have c := h i (by omega)
  exact ⟨by show Nat.gcd _ _ = Nat.gcd _ _; rw [a, c], by show (if fN X i = 0 then _ else _) = (if fN Y i = 0 then _ else _); rw [b, c]⟩
theorem zmZ {a b : Nat → Int} (h : ∀ e, e < 9 → a e = b e) : pI a = pI b := by
 unfold pI cI
 rw [h 0 (by decide), h 1 (by decide), h 2 (by decide), h 3 (by decide), h 4 (by decide), h 5 (by decide), h 6 (by decide), h 7 (by decide), h 8 (by decide)]
theorem zmE {X Y : Nat → Int} (h : ∀ e, e < 9 → X e = Y e) : pI (nfP X) = pI (nfP Y) ∧ nfE X = nfE Y := by
 obtain ⟨a, b⟩ := zhE h
 have ok : okN X ↔ okN Y := by
  unfold okN
  rw [a]
  exact ⟨fun q e he => by rw [← h e he]; exact q e he, fun q e he => by rw [h e he]; exact q e he⟩
 unfold nfP nfE
 by_cases hX : okN X
 ·rw [if_pos hX, if_pos hX, if_pos (ok.1 hX), if_pos (ok.1 hX)]
  exact ⟨zmZ fun e he => by rw [a, b, h e he], rfl⟩
 ·rw [if_neg hX, if_neg hX, if_neg fun q => hX (ok.2 q), if_neg fun q => hX (ok.2 q)]
  exact ⟨rfl, rfl⟩
theorem zeD {X : Nat → Int} (h : gN X 9 = 0) : rdV X = 0 := by
 have z := zhD h
 unfold rdV rtK
 rw [z 0 (by decide), z 1 (by decide), z 2 (by decide)]
 simp
def adV (X : Nat → Int) : Nat → Int := fun e => mnV X (e % 3) (e / 3)
theorem zqa (X : Nat → Int) : rdV X = X 0 * adV X 0 + X 1 * adV X 3 + X 2 * adV X 6 := by
 unfold rdV rtK adV mnV
 simp only [Nat.reduceAdd, Nat.reduceMul, Nat.reduceMod, Nat.reduceDiv]
 grind
theorem zhc {X : Nat → Int} (h : gN (adV X) 9 = 0) : rdV X = 0 := by
 have z := zhD h
 rw [zqa, z 0 (by decide), z 3 (by decide), z 6 (by decide)]
 simp
theorem zkj (X Y : Nat → Int) : rdV (rprV X Y) = rdV X * rdV Y := by
 unfold rdV rtK rprV rpK
 simp only [Nat.reduceAdd, Nat.reduceMul, Nat.reduceMod, Nat.reduceDiv, Nat.add_zero, Nat.zero_add, Nat.mul_zero]
 grind
end Go.Eng
namespace Go.Eng
@[go_sem] theorem sp9 (a b c d e f g h i : PV) (Y : Nat → Int) : psplice [a, b, c, d, e, f, g, h, i] 0 (cI Y) = cI Y := _root_.id rfl
theorem znl {X : Nat → Int} {n : Nat} (hX : ∀ e, tlen (X e).natAbs ≤ n) : tlen (rdV X).natAbs ≤ 3 * n + 4 := by
 have key : ∀ a b c d e : Int, tlen a.natAbs ≤ n → tlen b.natAbs ≤ n → tlen c.natAbs ≤ n → tlen d.natAbs ≤ n → tlen e.natAbs ≤ n → tlen (rtK a b c d e).natAbs ≤ 3 * n + 1 := fun a b c d e ha hb hc hd he => by
  have h1 := zav b c
  have h2 := zav a (b * c)
  have h3 := zav d e
  have h4 := zav a (d * e)
  have h5 := zfd (a * (b * c)) (a * (d * e))
  have h5 : tlen (rtK a b c d e).natAbs ≤ max (tlen (a * (b * c)).natAbs) (tlen (a * (d * e)).natAbs) + 1 := h5
  omega
 have k1 := key (X 0) (X 4) (X 8) (X 5) (X 7) (hX _) (hX _) (hX _) (hX _) (hX _)
 have k2 := key (X 1) (X 5) (X 6) (X 3) (X 8) (hX _) (hX _) (hX _) (hX _) (hX _)
 have k3 := key (X 2) (X 3) (X 7) (X 4) (X 6) (hX _) (hX _) (hX _) (hX _) (hX _)
 have a1 := zaR 0 (rtK (X 0) (X 4) (X 8) (X 5) (X 7))
 have a2 := zaR (0 + rtK (X 0) (X 4) (X 8) (X 5) (X 7)) (rtK (X 1) (X 5) (X 6) (X 3) (X 8))
 have a3 := zaR (0 + rtK (X 0) (X 4) (X 8) (X 5) (X 7) + rtK (X 1) (X 5) (X 6) (X 3) (X 8)) (rtK (X 2) (X 3) (X 7) (X 4) (X 6))
 rw [Int.natAbs_zero, zay] at a1
 unfold rdV
 omega
theorem znq {X Y : Nat → Int} {n : Nat} (hX : ∀ e, tlen (X e).natAbs ≤ n) (hY : ∀ e, tlen (Y e).natAbs ≤ n) (e : Nat) : tlen (rprV X Y e).natAbs ≤ 2 * n + 3 := by
 have key : ∀ a b c d e f : Int, tlen a.natAbs ≤ n → tlen b.natAbs ≤ n → tlen c.natAbs ≤ n → tlen d.natAbs ≤ n → tlen e.natAbs ≤ n → tlen f.natAbs ≤ n → tlen (rpK a b c d e f).natAbs ≤ 2 * n + 3 := fun a b c d e f ha hb hc hd he hf => by
  have h1 := zav a b
  have h2 := zav c d
  have h3 := zav e f
  have h4 := zaR 0 (a * b)
  have h5 := zaR (0 + a * b) (c * d)
  have h6 := zaR (0 + a * b + c * d) (e * f)
  rw [Int.natAbs_zero, zay] at h4
  have h6 : tlen (rpK a b c d e f).natAbs ≤ max (tlen (0 + a * b + c * d).natAbs) (tlen (e * f).natAbs) + 1 := h6
  omega
 exact key _ _ _ _ _ _ (hX _) (hY _) (hX _) (hY _) (hX _) (hY _)
theorem zlP {z : Nat → Int} {n : Nat} (hn : 1 ≤ n) (hz : ∀ e, tlen (z e).natAbs ≤ n) (i k e : Nat) : tlen (uV z i k e).natAbs ≤ n := by
 unfold uV u0V
 split
 ·exact Nat.le_trans (zkq (by decide)) hn
 ·split
  ·rw [Int.natAbs_zero, zay]; omega
  ·exact hz e
theorem zda {p : Nat → Int} (hp : ∀ e, Fits64 (p e)) (h : vlP p = 0) : rdV p ≠ 0 := fun q => by
 unfold vlP at h
 split at h
 ·rw [zlW hp, q, if_pos rfl] at h; cases h
 ·cases h
open Classical in
noncomputable def NP (p : Nat → Int) : Nat → Int := if vlP p = 0 then nfP p else zI
open Classical in
noncomputable def NE (p : Nat → Int) : Int := if vlP p = 0 then nfE p else vlP p
open Classical in
noncomputable def IP (p : Nat → Int) : Nat → Int := if vlP p = 0 then nfP (adV p) else zI
open Classical in
noncomputable def IE (p : Nat → Int) : Int := if vlP p = 0 then nfE (adV p) else vlP p
open Classical in
noncomputable def CP (p q : Nat → Int) : Nat → Int := if vlP p = 0 then (if vlP q = 0 then nfP (rprV p q) else zI) else zI
open Classical in
noncomputable def CE (p q : Nat → Int) : Int := if vlP p = 0 then (if vlP q = 0 then nfE (rprV p q) else vlP q) else vlP p
theorem zev {p : Nat → Int} (hp : ∀ e, Fits64 (p e)) : pf E0 332 [pI p] = some (.tu [pI (NP p), .i .i64 (NE p)]) := by
 have hv := zcP hp
 have hm := zgZ hp
 unfold NP NE
 by_cases h : vlP p = 0
 ·have hn := zey (ofW p) (by rw [zgV hp]; exact fun q => zda hp h (zeD q))
  rw [zgV hp] at hn
  rw [if_pos h, if_pos h]
  rw [h] at hv
  refine zac (xf := x_proj_Normal) rfl (by simp [x_proj_Normal]) ?_
  simp only [x_proj_Normal]
  simp (disch := omega) only [go_sem, seval, wqq, hv, hm, hn]
 ·rw [if_neg h, if_neg h]
  generalize vlP p = V at *
  have h : (V = 0) = False := eq_false h
  refine zac (xf := x_proj_Normal) rfl (by simp [x_proj_Normal]) ?_
  simp only [x_proj_Normal]
  simp (disch := omega) only [go_sem, seval, wqq, hv, h, pI0]
theorem ze7 {p : Nat → Int} (hp : ∀ e, Fits64 (p e)) : pf E0 333 [pI p] = some (.tu [pI (NP p), .i .i64 (NE p)]) := by
 have hv := zgq hp
 have hm := ze6 hp
 unfold NP NE
 by_cases h : vlP p = 0
 ·have hn := zez (z := p) (fun e => Nat.le_trans (zcZ (hp e)) (by decide)) (fun q => zda hp h (zeD q))
  rw [if_pos h, if_pos h]
  rw [h] at hv
  refine zac (xf := x_r12_Normal) rfl (by simp [x_r12_Normal]) ?_
  simp only [x_r12_Normal]
  simp (disch := omega) only [go_sem, seval, wqq, hv, hm, hn]
 ·rw [if_neg h, if_neg h]
  generalize vlP p = V at *
  have h : (V = 0) = False := eq_false h
  refine zac (xf := x_r12_Normal) rfl (by simp [x_r12_Normal]) ?_
  simp only [x_r12_Normal]
  simp (disch := omega) only [go_sem, seval, wqq, hv, h, pI0]
theorem zqA {p : Nat → Int} (hp : ∀ e, Fits64 (p e)) : (fun e => (adW (ofW p) e).v) = adV p := funext fun e => by
 have := (zmB (ze0 hp) (by decide) (e % 3) (e / 3)).1
 rw [zgV hp] at this
 exact this
theorem ze3 {p : Nat → Int} (hp : ∀ e, Fits64 (p e)) : pf E0 308 [pI p] = some (.tu [pI (IP p), .i .i64 (IE p)]) := by
 have hv := zcP hp
 have hm := zgZ hp
 have ha := zli (ofW p)
 unfold IP IE
 by_cases h : vlP p = 0
 ·have hn := zey (adW (ofW p)) (by rw [zqA hp]; exact fun q => zda hp h (zhc q))
  rw [zqA hp] at hn
  rw [if_pos h, if_pos h]
  rw [h] at hv
  refine zac (xf := x_proj_Inverse) rfl (by simp [x_proj_Inverse]) ?_
  simp only [x_proj_Inverse]
  simp (disch := omega) only [go_sem, seval, wqq, hv, hm, ha, hn]
 ·rw [if_neg h, if_neg h]
  generalize vlP p = V at *
  have h : (V = 0) = False := eq_false h
  refine zac (xf := x_proj_Inverse) rfl (by simp [x_proj_Inverse]) ?_
  simp only [x_proj_Inverse]
  simp (disch := omega) only [go_sem, seval, wqq, hv, h, pI0]
theorem zg2 {p : Nat → Int} (hp : ∀ e, Fits64 (p e)) : pf E0 334 [pI p] = some (.tu [pI (IP p), .i .i64 (IE p)]) := by
 have hv := zgq hp
 have hm := ze6 hp
 have hi := znb (z := p) (fun e => Nat.le_trans (zcZ (hp e)) (by decide))
 unfold IP IE
 by_cases h : vlP p = 0
 ·have ex : ∀ e, e < 9 → rinV p e = adV p e := fun e he => zqb p he
  have g0 : gN (rinV p) 9 ≠ 0 := by rw [(zhE ex).1]; exact fun q => zda hp h (zhc q)
  have hn := zez (z := rinV p) (fun e => Nat.le_trans (znl (n := 5) (zlP (by decide) (fun e => zcZ (hp e)) _ _)) (by decide)) g0
  obtain ⟨n1, n2⟩ := zmE ex
  rw [n1, n2] at hn
  rw [if_pos h, if_pos h]
  rw [h] at hv
  refine zac (xf := x_r12_Inverse) rfl (by simp [x_r12_Inverse]) ?_
  simp only [x_r12_Inverse]
  simp (disch := omega) only [go_sem, seval, wqq, hv, hm, hi, hn]
 ·rw [if_neg h, if_neg h]
  generalize vlP p = V at *
  have h : (V = 0) = False := eq_false h
  refine zac (xf := x_r12_Inverse) rfl (by simp [x_r12_Inverse]) ?_
  simp only [x_r12_Inverse]
  simp (disch := omega) only [go_sem, seval, wqq, hv, h, pI0]
end Go.Eng
namespace Go.Eng
def isPF (E : PEnv) : PV → Bool
 | .fn f _ => E.pure f
 | _ => false
def slotIn4 (E : PEnv) (ops : List XOper) (L V : List Nat) (c : Nat × Nat) : Bool :=
 match ops[c.1]?, ops[c.2]? with
 | some a, some b =>
  match a.op with
  | .load _ _ (.t s) => L.contains s && (match b.op with | .callv (.t v) _ => V.contains v && fixedX ops c.2 (.t v) | _ => calmOp E b.op)
  | _ => false
 | _, _ => false
theorem zdm {E : PEnv} {F : PFin} {ops : List XOper} {chk : List (Nat × Nat)} {ks : List KI} {fr : PFr} {M : PM} (L V : List Nat) (hL : chk.all (fun c => calmC E ops c || slotIn4 E ops L V c) = true)
  (hr : WL E ⟨(0 :: 0 :: (L ++ V)).map XR.tmp, fun w _ => ∃ l, w = .tu l ∧ ((l.drop 2).take L.length).all isPP = true ∧ ((l.drop 2).drop L.length).all (isPF E) = true⟩ ops [] fr M) (w : WL E F ops ks fr M) : WK E F (.drw ops chk) ks fr M := by
 refine zbW (fun fr2 Ms hT => ?_) w
 have hpv : L.all (fun s => isPP (fr2 s)) = true ∧ V.all (fun s => isPF E (fr2 s)) = true := by
  obtain ⟨lf, q, fr3, M3, vs, e, h1, h2, l, h3, h4, h5⟩ := hr
  simp only [Option.bind_eq_some_iff, unw] at e
  obtain ⟨⟨fr4, M4⟩, e1, e2⟩ := e
  simp only [Option.some.injEq, Prod.mk.injEq] at e2
  obtain ⟨_, e3, e4⟩ := e2
  rw [← e3, ← e4] at h2
  obtain ⟨Ms', g1, g2⟩ := zbS e1
  rw [g1] at hT
  cases hT
  have hres : ∀ (f : PFr) (N : PM) (l : List Nat), pRes f N (l.map XR.tmp) = some (l.map f) := fun f N l => by
   induction l with
   | nil => rfl
   | cons a l ih => simp only [List.map_cons, pRes, pResOne, ih]
  rw [hres] at h2
  cases h2
  simp only [List.map_cons, packP] at h3
  cases h3
  rw [List.map_append] at h4 h5
  have d2 : (fr2 0 :: fr2 0 :: (L.map fr2 ++ V.map fr2)).drop 2 = L.map fr2 ++ V.map fr2 := rfl
  rw [d2, List.take_left' (by simp)] at h4
  rw [d2, List.drop_left' (by simp)] at h5
  exact ⟨by simpa [List.all_map] using h4, by simpa [List.all_map] using h5⟩
 obtain ⟨hp, hv⟩ := hpv
 rw [List.all_eq_true] at hL hp hv ⊢
 rintro ⟨i, j⟩ hc
 have h1 := hL _ hc
 simp only [Bool.or_eq_true] at h1
 rcases h1 with h1 | h1
 ·exact zbv hT h1
 ·unfold slotIn4 at h1
  split at h1
  ·rename_i a b ha hb
   split at h1
   ·rename_i z k s hop
    simp only [Bool.and_eq_true] at h1
    obtain ⟨c1, c2⟩ := h1
    have hs := hp s (List.contains_iff_mem.1 c1)
    cases hf : fr2 s with
    | p n o =>
     obtain ⟨fri, A, B, q1, q2, q3, q4⟩ := zaL hT ha
     obtain ⟨frj, C, D, p1, p2, p3, p4⟩ := zaL hT hb
     have p2' : Ms[(i, j).2 + 1]? = some D := p2
     have q2' : Ms[(i, j).1 + 1]? = some B := q2
     simp only [chkP, ha, q1, q2, p1, p2]
     rw [if_neg (by rw [hop]; simp [XO.cls])]
     rw [hop]
     show chkV ops j (.t s) C D (fr2 s) = true
     rw [hf]
     show verP (some n) C D = true
     rcases p3 with ⟨_, v, p3⟩ | ⟨_, p3⟩
     ·split at c2
      ·rename_i vs l hopb
       simp only [Bool.and_eq_true] at c2
       have hv' := hv vs (List.contains_iff_mem.1 c2.1)
       have e1 := p4 (.t vs) c2.2
       have e1 : fr2 vs = frj vs := e1
       rw [hopb] at p3
       rw [e1] at hv'
       cases hfn : frj vs with
       | fn f c =>
        rw [hfn] at hv'
        have p3 : (match (X.t vs).pv E.glob frj with | .fn f c => pcl E f (l.map (X.pv E.glob frj) ++ c) C | _ => none) = some (v, D) := p3
        rw [show (X.t vs).pv E.glob frj = frj vs from rfl, hfn] at p3
        obtain ⟨ns, rfl⟩ := zc3 hv' p3
        exact zcj ns C _
       | _ => rw [hfn] at hv'; simp [isPF] at hv'
      ·rename_i hno
       cases hopb : b.op with
       | call f l =>
        rw [hopb] at p3 c2
        obtain ⟨ns, rfl⟩ := zc3 c2 p3
        exact zcj ns C _
       | _ => rw [hopb] at c2; simp [calmOp] at c2
     ·rw [p3]; simp [verP]
    | _ => rw [hf] at hs; simp [isPP] at hs
   ·cases h1
  ·cases h1
@[go_sem] theorem zs9 (a0 a1 a2 a3 a4 a5 a6 a7 a8 a9 a10 a11 a12 a13 a14 a15 a16 a17 : PV) (Y : Nat → WI) : psplice [a0, a1, a2, a3, a4, a5, a6, a7, a8, a9, a10, a11, a12, a13, a14, a15, a16, a17] 0 (cW Y) = cW Y := _root_.id rfl
def ptP (x y : Int) : PV := .ag [.i .i64 x, .i .i64 y]
@[go_sem] theorem zqN (M : PM) (d : Nat) (x y : Int) : fz M (d + 1 + 1) (ptP x y) = some (ptP x y, []) := _root_.id rfl
@[go_sem] theorem zmd (x y : Int) : (ptP x y).cells = [.i .i64 x, .i .i64 y] := _root_.id rfl
@[go_sem] theorem znR (x y : Int) : PV.ag [.i .i64 x, .i .i64 y] = ptP x y := _root_.id rfl
def colI (a b c d e f : Int) : Nat → Int
 | 0 => a | 1 => b | 2 => c | 3 => d | 4 => e | 5 => f | 6 => 1 | 7 => 1 | 8 => 1 | _ => 1
theorem zb3 {a b c d e f : Int} (ha : Fits64 a) (hb : Fits64 b) (hc : Fits64 c) (hd : Fits64 d) (he : Fits64 e) (hf : Fits64 f) : ∀ i, Fits64 (colI a b c d e f i)
 | 0 => ha | 1 => hb | 2 => hc | 3 => hd | 4 => he | 5 => hf | 6 => by show Fits64 1; decide | 7 => by show Fits64 1; decide | 8 => by show Fits64 1; decide | n + 9 => by show Fits64 1; decide
theorem zcN {a d b e c f : Int} (ha : Fits64 a) (hb : Fits64 b) (hc : Fits64 c) (hd : Fits64 d) (he : Fits64 e) (hf : Fits64 f) : pf E0 320 [ptP a d, ptP b e, ptP c f] = some (mW (ofW (colI a b c d e f))) := by
 have hm := zgZ (zb3 ha hb hc hd he hf)
 have hp : pI (colI a b c d e f) = .ag [.i .i64 a, .i .i64 b, .i .i64 c, .i .i64 d, .i .i64 e, .i .i64 f, .i .i64 1, .i .i64 1, .i .i64 1] := rfl
 rw [hp] at hm
 refine zac (xf := x_proj_basis_1) rfl (by simp [x_proj_basis_1]) ?_
 simp only [x_proj_basis_1]
 simp (disch := omega) only [go_sem, seval, wqq, hm, zaK, zan]
end Go.Eng
namespace Go.Eng
end Go.Eng
namespace Go.Eng
end Go.Eng
namespace Go.Eng
end Go.Eng
namespace Go.Eng
end Go.Eng
namespace Go.Eng
theorem zgd {f : FQ} {n d p q : Int} (hd : d ≠ 0) (hq : 0 < q) (hc : Nat.gcd p.natAbs q.natAbs = 1) (hf : f.is n d) (e : n * q = p * d) : f.p.v = p ∧ f.q.v = q := by
 unfold FQ.is at hf
 have q1 := f.q1
 refine zes (by omega) hq f.cop hc ?_
 apply Int.eq_of_mul_eq_mul_right (a := d) hd
 calc f.p.v * q * d = f.p.v * d * q := by grind
  _ = n * f.q.v * q := by rw [hf]
  _ = n * q * f.q.v := by grind
  _ = p * d * f.q.v := by rw [e]
  _ = p * f.q.v * d := by grind
theorem zht {z : Int} {v n : Nat} (hz : z = (v : Int)) (h1 : 10 ^ n ≤ v) (h2 : v < 10 ^ (n + 1)) : decI z = dtx (n + 1) v := by
 subst hz
 unfold decI; rw [if_neg (by omega), Int.natAbs_natCast]
 exact ziY h1 h2
theorem zgF (f : FQ) {p q : Int} {t : List UInt8} (h1 : f.p.v = p) (h2 : f.q.v = q) (ht : ftx p q = t) : pf E0 16 [fqP f] = some (.s t) := by
 rw [← ht, ← h1, ← h2]; exact zie f
end Go.Eng
namespace Go.Eng
theorem ziQ {f g h : FQ} {n d m e : Int} (hf : f.is n d) (hg : g.is m e) (hh : h.is (f.p.v * g.q.v + g.p.v * f.q.v) (f.q.v * g.q.v)) : h.is (n * e + m * d) (d * e) := by
 have qf := f.q1
 have qg := g.q1
 unfold FQ.is at *
 apply Int.eq_of_mul_eq_mul_right (a := f.q.v * g.q.v) (Int.mul_ne_zero (by omega) (by omega))
 calc h.p.v * (d * e) * (f.q.v * g.q.v) = h.p.v * (f.q.v * g.q.v) * (d * e) := by grind
  _ = (f.p.v * g.q.v + g.p.v * f.q.v) * h.q.v * (d * e) := by rw [hh]
  _ = (f.p.v * d * g.q.v * e + g.p.v * e * f.q.v * d) * h.q.v := by grind
  _ = (n * f.q.v * g.q.v * e + m * g.q.v * f.q.v * d) * h.q.v := by rw [hf, hg]
  _ = (n * e + m * d) * h.q.v * (f.q.v * g.q.v) := by grind
theorem zjg {f g h : FQ} {n d m e : Int} (hf : f.is n d) (hg : g.is m e) (hh : h.is (f.p.v * g.p.v) (f.q.v * g.q.v)) : h.is (n * m) (d * e) := by
 have qf := f.q1
 have qg := g.q1
 unfold FQ.is at *
 apply Int.eq_of_mul_eq_mul_right (a := f.q.v * g.q.v) (Int.mul_ne_zero (by omega) (by omega))
 calc h.p.v * (d * e) * (f.q.v * g.q.v) = h.p.v * (f.q.v * g.q.v) * (d * e) := by grind
  _ = f.p.v * g.p.v * h.q.v * (d * e) := by rw [hh]
  _ = f.p.v * d * (g.p.v * e) * h.q.v := by grind
  _ = n * f.q.v * (m * g.q.v) * h.q.v := by rw [hf, hg]
  _ = n * m * h.q.v * (f.q.v * g.q.v) := by grind
theorem zjS (a b : FQ) {n m : Nat} {x d y e : Int} (ha : fsz n a) (hb : fsz m b) (h : n + m + 1 < 1230) (xa : a.is x d) (xb : b.is y e) : ∃ f : FQ, pf E0 9 [fqP a, fqP b] = some (.tu [fqP f, .i .i64 0]) ∧ f.is (x * e + y * d) (d * e) ∧ fsz (n + m + 1) f := by
 obtain ⟨f, h1, h2, h3⟩ := zl1 a b ha hb h
 exact ⟨f, h1, ziQ xa xb h2, h3⟩
theorem zj6 (a b : FQ) {n m : Nat} {x d y e : Int} (ha : fsz n a) (hb : fsz m b) (h : n + m < 1230) (xa : a.is x d) (xb : b.is y e) : ∃ f : FQ, pf E0 8 [fqP a, fqP b] = some (.tu [fqP f, .i .i64 0]) ∧ f.is (x * y) (d * e) ∧ fsz (n + m) f := by
 obtain ⟨f, h1, h2, h3⟩ := zmC a b ha hb h
 exact ⟨f, h1, zjg xa xb h2, h3⟩
end Go.Eng
namespace Go.Eng
theorem zfA {f : FQ} {n d n' d' : Int} (hd : d ≠ 0) (h : f.is n d) (e : n * d' = n' * d) : f.is n' d' := by
 unfold FQ.is at *
 apply Int.eq_of_mul_eq_mul_right hd
 calc f.p.v * d' * d = f.p.v * d * d' := by grind
  _ = n * f.q.v * d' := by rw [h]
  _ = n * d' * f.q.v := by grind
  _ = n' * d * f.q.v := by rw [e]
  _ = n' * f.q.v * d := by grind
end Go.Eng

namespace Go.Eng
end Go.Eng
namespace Go.Eng
theorem zfY {f g h : FQ} {n d m e : Int} (hf : f.is n d) (hg : g.is m e) (hm : g.p.v ≠ 0) (hh : h.is (f.p.v * g.q.v) (f.q.v * g.p.v)) : h.is (n * e) (d * m) := by
 have qf := f.q1
 have qg := g.q1
 unfold FQ.is at *
 apply Int.eq_of_mul_eq_mul_right (a := f.q.v * g.q.v * g.p.v) (Int.mul_ne_zero (Int.mul_ne_zero (by omega) (by omega)) hm)
 calc h.p.v * (d * m) * (f.q.v * g.q.v * g.p.v) = h.p.v * (f.q.v * g.p.v) * (d * (m * g.q.v)) := by grind
  _ = f.p.v * g.q.v * h.q.v * (d * (g.p.v * e)) := by rw [hh, hg]
  _ = f.p.v * d * (g.q.v * h.q.v * (g.p.v * e)) := by grind
  _ = n * f.q.v * (g.q.v * h.q.v * (g.p.v * e)) := by rw [hf]
  _ = n * e * h.q.v * (f.q.v * g.q.v * g.p.v) := by grind
def nbits (k : Nat) : Nat := if k = 0 then 0 else Nat.log2 k + 1
theorem zc0 {k : Nat} (h : k ≠ 0) : nbits k = nbits (k / 2) + 1 := by
 unfold nbits
 rw [if_neg h]
 by_cases h2 : 2 ≤ k
 ·rw [if_neg (by omega), Nat.log2_def k, if_pos h2]
 ·have : k = 1 := by omega
  subst this; rfl
theorem zcJ {k n : Nat} (h : k < 2 ^ n) : nbits k ≤ n := by
 unfold nbits
 split
 ·omega
 ·rename_i h0
  have := (Nat.log2_lt h0).2 h
  omega
end Go.Eng
namespace Go.Eng
end Go.Eng
namespace Go.Eng
structure TerOk (X Y S : Int) (C R : Nat) (hs : List Int) : Prop where
 c : 2 ≤ C ∧ C ≤ 128
 r : 2 ≤ R ∧ R ≤ 128
 s : 1 ≤ S ∧ S ≤ 65536
 x : -1048576 ≤ X ∧ X + (C - 1) * S ≤ 1048576
 y : -1048576 ≤ Y ∧ Y + (R - 1) * S ≤ 1048576
 len : hs.length = C * R
 h : ∀ n ∈ hs, -16384 ≤ n ∧ n ≤ 16384
theorem TerOk.ints {X Y S : Int} {C R : Nat} {hs : List Int} (t : TerOk X Y S C R hs) : Ints hs := by
 refine ⟨?_, fun n hn => ?_⟩
 ·have : C * R ≤ 128 * 128 := Nat.mul_le_mul t.c.2 t.r.2
  rw [t.len]; omega
 ·have := t.h n hn
  unfold Fits64; omega
end Go.Eng
namespace Go.Eng
end Go.Eng
namespace Go.Eng
end Go.Eng
namespace Go.Eng
end Go.Eng
namespace Go.Eng
end Go.Eng
namespace Go.Eng
end Go.Eng
namespace Go.Eng
end Go.Eng
namespace Go.Eng
end Go.Eng
namespace Go.Eng
theorem zdr (a b : Int) : (0 ≤ cmpI a b) = (b ≤ a) := by
 unfold cmpI
 simp only [eq_iff_iff]
 split
 ·omega
 ·split <;> omega
end Go.Eng

namespace Go.Eng
end Go.Eng
namespace Go.Eng
theorem zhU {k m : Nat} (h : 2 ^ m ≤ k) : nbits k = nbits (k / 2 ^ m) + m := by
 induction m with
 | zero => simp
 | succ m ih =>
  have h1 : 2 ^ m ≤ k := Nat.le_trans (Nat.pow_le_pow_right (by decide) (Nat.le_succ m)) h
  have h2 : k / 2 ^ m ≠ 0 := by
   have := Nat.div_pos h1 (Nat.pow_pos (by decide))
   omega
  have e : k / 2 ^ m / 2 = k / 2 ^ (m + 1) := by rw [Nat.div_div_eq_div_mul, ← Nat.pow_succ]
  have h3 := zc0 h2
  rw [e] at h3
  have h4 := ih h1
  omega
theorem zhT : nbits 1 = 1 := by unfold nbits; rw [if_neg (by decide)]; rfl
def pw (i : Nat) : Nat := 2 ^ (2 ^ i)
theorem zfa (i : Nat) : 0 < pw i := Nat.pow_pos (by decide)
theorem znk (i : Nat) : 2 ≤ pw i := by
 unfold pw
 have : 2 ^ 1 ≤ 2 ^ (2 ^ i) := Nat.pow_le_pow_right (by decide) (Nat.one_le_two_pow)
 omega
theorem zfJ (i : Nat) : pw (i + 1) = pw i * pw i := by
 unfold pw
 rw [← Nat.pow_add, Nat.pow_succ]
 congr 1
 omega
theorem zit : pw 0 = 2 := rfl
theorem zgU {x i : Nat} (h : pw i ≤ x) : nbits x = nbits (x / pw i) + 2 ^ i := zhU h
theorem znj {x i : Nat} (h : x < pw (i + 1)) : x / pw i < pw i := by
 rw [zfJ] at h
 exact Nat.div_lt_of_lt_mul h
theorem zlD {x i : Nat} (h : pw i ≤ x) : 1 ≤ x / pw i := Nat.div_pos h (zfa i)
end Go.Eng
namespace Go.Eng
theorem zjx (i : Nat) : pw i < pw (i + 1) := by
 rw [zfJ]
 have := znk i
 have h2 : pw i * 2 ≤ pw i * pw i := Nat.mul_le_mul_left _ this
 omega
theorem zgc {i : Nat} (h : inR (pw i)) : i < 14 := by
 rcases Nat.lt_or_ge i 14 with q | q
 ·exact q
 ·exfalso
  obtain ⟨K, hK⟩ : ∃ K, K = 16384 := ⟨_, rfl⟩
  obtain ⟨a, ha⟩ : ∃ a, a = 14 := ⟨_, rfl⟩
  rw [← ha] at q
  have h1 : 2 ^ a ≤ 2 ^ i := Nat.pow_le_pow_right (by decide) q
  have h2 : 2 ^ (2 ^ a) ≤ pw i := Nat.pow_le_pow_right (by decide) h1
  have e : 2 ^ a = K := by rw [hK, ha]
  rw [e] at h2
  unfold inR at h
  rw [← hK] at h
  omega
theorem zdX {a b : Nat} (h : a ≤ b) (hb : inR b) : inR a := Nat.lt_of_le_of_lt h hb
noncomputable def pwI (i : Nat) : WI := clip ((pw i : Nat) : Int)
theorem zg4 {i : Nat} (h : inR (pw i)) : (pwI i).v = ((pw i : Nat) : Int) := (zdw (z := ((pw i : Nat) : Int)) (by rw [Int.natAbs_natCast]; exact h)).1
noncomputable def pwL : Nat → List PV
 | 0 => []
 | j + 1 => pwL j ++ [.b (decide ((pwI j).v < 0)), D (pwI j).v.natAbs]
theorem zeB : ∀ j, (pwL j).length = 2 * j
 | 0 => rfl
 | j + 1 => by rw [pwL, List.length_append, zeB j]; simp; omega
theorem zki : ∀ {j i : Nat}, i < j → ((pwL j).drop (i * 2)).take 2 = [.b (decide ((pwI i).v < 0)), D (pwI i).v.natAbs]
 | 0, i, h => by omega
 | j + 1, i, h => by
  have hl := zeB j
  rw [pwL]
  by_cases hi : i < j
  ·rw [List.drop_append_of_le_length (by omega), List.take_append_of_le_length (by simp; omega)]
   exact zki hi
  ·obtain rfl : i = j := by omega
   rw [List.drop_left' (show (pwL i).length = i * 2 by omega)]; rfl
theorem zoo (P : PM) (L : List PV) (w1 w2 : PV) (r1 r2 : Option PB) {j : Nat} (hl : L.length = 2 * j) (hj : j ≤ 100) (h0 : 0 < j) : appP (P ++ [some ⟨L, true, 0⟩, r1, r2, some ⟨[w1, w2], true, 0⟩]) 2 32 (.sl P.length 0 j j 2) (.sl (P.length + 3) 0 1 1 2) =
  some (.sl (P.length + 4) 0 (j + 1) (j + 1) 2, P ++ [none, r1, r2, some ⟨[w1, w2], true, 0⟩, some ⟨L ++ [w1, w2], true, 0⟩]) := by
 have es : srcP (P ++ [some (⟨L, true, 0⟩ : PB), r1, r2, some (⟨[w1, w2], true, 0⟩ : PB)]) 2 (.sl (P.length + 3) 0 1 1 2) = some (1, [w1, w2]) := by
  simp only [srcP, PM.rd, mG]
  rfl
 have e2 : PM.blk (P ++ [some (⟨L, true, 0⟩ : PB), r1, r2, some (⟨[w1, w2], true, 0⟩ : PB)]) P.length = some (⟨L, true, 0⟩ : PB) := by rw [mG0]; rfl
 unfold appP
 rw [es]
 simp only [e2]
 rw [if_neg (by simp), if_neg (by decide), if_pos ⟨trivial, by rw [hl]; omega, by omega⟩, sG0]
 simp only [List.drop_zero, List.set_cons_zero, lqq, List.length_append, List.length_cons, List.length_nil]
 rw [List.take_of_length_le (by omega)]
theorem zlH {i : Nat} (h : i < 14) : binP .shl (.i .i64 1) (.i .i64 (i : Int)) = some (.i .i64 ((2 ^ i : Nat) : Int)) := by
 have h1 : 2 ^ i ≤ 2 ^ 13 := Nat.pow_le_pow_right (by decide) (by omega)
 rw [zhe _ _ _ _ (by omega), Int.toNat_natCast, show min i (IntKind.bits .i64) = i by simp only [IntKind.bits]; omega, Int.one_mul]
 have e : (2 : Int) ^ i = ((2 ^ i : Nat) : Int) := by simp
 rw [e]
 generalize 2 ^ i = t at *
 rw [wqa (by omega) (by omega)]
set_option maxHeartbeats 2000000 in
theorem zjY {F : PFin} {ks : List KI} {K J : Nat} {x0 : WI} (hR : inR K) (hx0 : x0.v = (K : Int)) (hK : 1 ≤ K) (hlt : K < pw J) (hJ : J = 0 ∨ pw (J - 1) ≤ K) {G R : PM} {fr : PFr} {v : Nat}
  (f1 : fr 1 = .p 0 0) (f3 : fr 3 = (PV.i .i64 ((0 : Nat) : Int))) (f6 : fr 6 = if J = 0 then .nl else .sl (G.length + 1) 0 J J 2) (f10 : fr 10 = .i .i64 ((J : Int) - 1))
  (cont : ∀ fr' v' (y : WI), y.v = 1 → fr' 1 = .p 0 0 → fr' 3 = .i .i64 ((nbits K : Int) - 1) → UK E0 F (.exit 4) ks fr' (some ⟨[.b (decide (y.v < 0)), D y.v.natAbs], true, v'⟩ :: (G ++ (some ⟨pwL J, true, 0⟩ :: R)))) :
  WK E0 F (.loop x_poly_digits_l3) ks fr (some ⟨[.b (decide (x0.v < 0)), D x0.v.natAbs], true, v⟩ :: (G ++ (some ⟨pwL J, true, 0⟩ :: R))) := by
 have hnb : nbits K ≤ 16384 := by
  obtain ⟨q, hq⟩ : ∃ q, q = 16384 := ⟨_, rfl⟩
  unfold inR at hR
  rw [← hq] at hR ⊢
  exact zcJ hR
 have hJ14 : ∀ i, i < J → i < 14 ∧ inR (pw i) := fun i hi => by
  have hm : ∀ d, pw i ≤ pw (i + d) := fun d => by
   induction d with
   | zero => exact Nat.le_refl _
   | succ d ih => exact Nat.le_trans ih (Nat.le_of_lt (zjx _))
  have h1 := hm (J - 1 - i)
  rw [show i + (J - 1 - i) = J - 1 by omega] at h1
  have h2 : inR (pw i) := zdX (by omega) hR
  exact ⟨zgc h2, h2⟩
 refine zar x_poly_digits_l3.eq_1 (fun (i : Nat) fr M => i ≤ J ∧ ∃ (y : WI) (Y n v : Nat), y.v = (Y : Int) ∧ 1 ≤ Y ∧ Y < pw i ∧ nbits K = nbits Y + n ∧ fr 1 = .p 0 0 ∧ fr 3 = (PV.i .i64 ((n : Nat) : Int)) ∧ fr 6 = (if J = 0 then .nl else .sl (G.length + 1) 0 J J 2) ∧ fr 10 = .i .i64 ((i : Int) - 1) ∧
  M = some ⟨[.b (decide (y.v < 0)), D y.v.natAbs], true, v⟩ :: (G ++ (some ⟨pwL J, true, 0⟩ :: R))) (fun i => i) ?_ J ⟨Nat.le_refl _, x0, K, 0, v, hx0, hK, hlt, rfl, f1, f3, f6, f10, rfl⟩
 rintro i fr M ⟨hi, y, Y, n, v, hy, hY, hYi, hn, f1, f3, f6, f10, rfl⟩ ih
 cases i with
 | zero =>
  have hY1 : Y = 1 := by rw [zit] at hYi; omega
  subst hY1
  have f3' : fr 3 = .i .i64 ((nbits K : Int) - 1) := by
   rw [f3, hn, zhT]; congr 1; omega
  have q0 : ((((0 : Nat) : Int) - 1) ≥ 0) = False := eq_false (by omega)
  simp (disch := omega) only [go_sem, seval, wqq, f10, q0]
  exact cont _ v y hy (by simp only [go_sem, seval, f1]) (by simp only [go_sem, seval, f3'])
 | succ i =>
  obtain ⟨i14, iR⟩ := hJ14 i (by omega)
  have hJ0 : J ≠ 0 := by omega
  rw [if_neg hJ0] at f6
  have f6' := f6
  have f10 : fr 10 = (PV.i .i64 ((i : Nat) : Int)) := by rw [f10]; congr 1; omega
  have q0 : ((i : Int) ≥ 0) = True := eq_true (by omega)
  have pv := zg4 iR
  have cm := zcM y (pwI i)
  rw [hy, pv] at cm
  have at_ := zki (j := J) (i := i) (by omega)
  have hl := zeB J
  have hiJ : (i < J) = True := eq_true (by omega)
  have h2i : (i * 2 + 2 ≤ 2 * J) = True := eq_true (by omega)
  by_cases hc : pw i ≤ Y
  ·have c0 : (cmpI ((Y : Nat) : Int) ((pw i : Nat) : Int) ≥ 0) = True := eq_true (by rw [ge_iff_le, zdr]; omega)
   simp (disch := omega) only [go_sem, seval, wqq, f1, f3, f6, f10, q0, cm, c0, hiJ, h2i, hl, at_, mG, mG0, sG, sG0, lG, lqq]
   have dv := zlc y (pwI i) (by rw [pv]; have := zfa i; omega)
   have dvv : (y.div (pwI i) (by rw [pv]; have := zfa i; omega)).v = ((Y / pw i : Nat) : Int) := by
    show y.v / (pwI i).v = _
    rw [hy, pv]; rfl
   generalize y.div (pwI i) (by rw [pv]; have := zfa i; omega) = y2 at *
   generalize y.mod (pwI i) (by rw [pv]; have := zfa i; omega) = y3 at *
   have sh := zlH i14
   have st := zgU hc
   have p14 : 2 ^ i ≤ 2 ^ 14 := Nat.pow_le_pow_right (by decide) (by omega)
   have g1 := znj hYi
   have g0 := zlD hc
   have hs : (n : Int) + ((2 ^ i : Nat) : Int) = ((n + 2 ^ i : Nat) : Int) := by push_cast; rfl
   generalize 2 ^ i = t at *
   simp (disch := omega) only [go_sem, seval, wqq, f1, f3, f6, f10, q0, cm, c0, hiJ, h2i, hl, at_, dv, sh, hs, mG, mG0, sG, sG0, lG, lqq]
   exact ih i _ _ (by omega) ⟨by omega, y2, Y / pw i, n + t, _, dvv, g0, g1, by omega, by simp only [go_sem, seval, f1], by simp only [go_sem, seval], by rw [if_neg hJ0]; simp only [go_sem, seval, f6], by simp only [go_sem, seval, f10], rfl⟩
  ·have c0 : (cmpI ((Y : Nat) : Int) ((pw i : Nat) : Int) ≥ 0) = False := eq_false (by rw [ge_iff_le, zdr]; omega)
   simp (disch := omega) only [go_sem, seval, wqq, f1, f3, f6, f10, q0, cm, c0, hiJ, h2i, hl, at_, mG, mG0, sG, sG0, lG, lqq]
   exact ih i _ _ (by omega) ⟨by omega, y, Y, n, _, hy, hY, by omega, by omega, by simp only [go_sem, seval, f1], by simp only [go_sem, seval, f3], by rw [if_neg hJ0]; simp only [go_sem, seval, f6], by simp only [go_sem, seval, f10], rfl⟩
end Go.Eng
namespace Go.Eng
theorem zlp (x : WI) (h : x.v.natAbs ≤ 9223372036854775807) : pf E0 63 [wiP x] = some (.i .i64 (nbits x.v.natAbs : Int)) := by
 have nb : nbits x.v.natAbs ≤ 63 := zcJ (by omega)
 have fin : ∀ (y : WI), y.v = (x.v.natAbs : Int) → pf E0 80 [wiP y] = some (.tu [.i .i64 (x.v.natAbs : Int), .b true]) := fun y hy => by
  have sm := zew y
  have s1 : isSmall (x.v.natAbs : Int) = true := by unfold isSmall; exact decide_eq_true ⟨by omega, by omega⟩
  have s2 : small (x.v.natAbs : Int) = (x.v.natAbs : Int) := by unfold small; rw [if_pos s1]
  rw [hy, s1, s2] at sm
  exact sm
 have sg := zbX x
 refine zac (xf := x_poly_digits) rfl (by simp [x_poly_digits]) ?_
 simp only [x_poly_digits]
 by_cases hn : x.v < 0
 ·have t0 : (cmpI x.v 0 < 0) = True := by rw [zbL]; simp [hn]
  have n1 := zjp x
  have sm := fin x.neg (by show -x.v = _; omega)
  generalize x.neg = y at *
  generalize x.v.natAbs = K at *
  simp (disch := omega) only [go_sem, seval, wqq, sg, t0, n1, sm]
  refine zar x_poly_digits_l1.eq_1 (fun (σ : Nat × Nat) fr M => σ.1 + nbits σ.2 = nbits K ∧ σ.2 ≤ K ∧ fr 3 = (PV.i .i64 ((σ.1 : Nat) : Int)) ∧ fr 4 = (PV.i .i64 ((σ.2 : Nat) : Int))) (fun σ => σ.2) ?_ (0, K) ⟨by simp, Nat.le_refl _, by simp only [go_sem, seval], by simp only [go_sem, seval]⟩
  rintro ⟨n, k⟩ fr M ⟨hs, hk, f3, f4⟩ ih
  simp only at hs hk f3 f4
  by_cases hk0 : k = 0
  ·have q1 : ((k : Int) > 0) = False := by simp; omega
   have hN : n = nbits K := by rw [← hs, hk0]; rfl
   rw [← hN]
   simp (disch := omega) only [go_sem, seval, wqq, f3, f4, q1]
  ·have q1 : ((k : Int) > 0) = True := by simp; omega
   have k2 : (k : Int).tdiv 2 = ((k / 2 : Nat) : Int) := zbi _ 2
   have hh := zc0 hk0
   simp (disch := omega) only [go_sem, seval, wqq, f3, f4, q1, k2]
   exact ih (n + 1, k / 2) _ _ (by simp only; omega) ⟨by simp only; omega, by simp only; omega, by simp only [go_sem, seval]; rw [Int.natCast_succ], by simp only [go_sem, seval]⟩
 ·have t0 : (cmpI x.v 0 < 0) = False := by rw [zbL]; simp [hn]
  have sm := fin x (by omega)
  obtain ⟨K, hK⟩ : ∃ K : Nat, K = x.v.natAbs := ⟨_, rfl⟩
  rw [← hK] at sm nb ⊢
  have hKl : K ≤ 9223372036854775807 := by omega
  simp (disch := omega) only [go_sem, seval, wqq, sg, t0, sm]
  refine zar x_poly_digits_l1.eq_1 (fun (σ : Nat × Nat) fr M => σ.1 + nbits σ.2 = nbits K ∧ σ.2 ≤ K ∧ fr 3 = (PV.i .i64 ((σ.1 : Nat) : Int)) ∧ fr 4 = (PV.i .i64 ((σ.2 : Nat) : Int))) (fun σ => σ.2) ?_ (0, K) ⟨by simp, Nat.le_refl _, by simp only [go_sem, seval], by simp only [go_sem, seval]⟩
  rintro ⟨n, k⟩ fr M ⟨hs, hk, f3, f4⟩ ih
  simp only at hs hk f3 f4
  by_cases hk0 : k = 0
  ·have q1 : ((k : Int) > 0) = False := by simp; omega
   have hN : n = nbits K := by rw [← hs, hk0]; rfl
   rw [← hN]
   simp (disch := omega) only [go_sem, seval, wqq, f3, f4, q1]
  ·have q1 : ((k : Int) > 0) = True := by simp; omega
   have k2 : (k : Int).tdiv 2 = ((k / 2 : Nat) : Int) := zbi _ 2
   have hh := zc0 hk0
   simp (disch := omega) only [go_sem, seval, wqq, f3, f4, q1, k2]
   exact ih (n + 1, k / 2) _ _ (by simp only; omega) ⟨by simp only; omega, by simp only; omega, by simp only [go_sem, seval]; rw [Int.natCast_succ], by simp only [go_sem, seval]⟩
theorem zj7 {j : Nat} (h : inR (pw j)) : pf E0 38 [wiP (pwI j), wiP (pwI j)] = some (.tu [wiP (pwI (j + 1)), .i .i64 (lerr ((pw (j + 1) : Nat) : Int))]) := by
 rw [zh8, zg4 h, ← Int.natCast_mul, ← zfJ]; rfl
theorem zsa (b0 b1 : Option PB) (w1 w2 : PV) : appP [b0, b1, some ⟨[w1, w2], true, 0⟩] 2 32 .nl (.sl 2 0 1 1 2) = some (.sl 3 0 1 1 2, [b0, b1, some ⟨[w1, w2], true, 0⟩, some ⟨[w1, w2], true, 0⟩]) := rfl
theorem zmx {v K : Nat} (hK : K = 16384) (h : v < 2 ^ K) : inR v := by subst hK; exact h
theorem zhJ : inR (pw 1) := by
 obtain ⟨K, hK⟩ : ∃ K, K = 16384 := ⟨_, rfl⟩
 have h : pw 1 < 2 ^ K := Nat.lt_of_lt_of_le (show pw 1 < 2 ^ 3 by decide) (Nat.pow_le_pow_right (by decide) (by omega))
 exact zmx hK h
set_option maxHeartbeats 2000000 in
theorem zjX {F : PFin} {ks : List KI} {K : Nat} {x0 : WI} (hR : inR K) (hx0 : x0.v = (K : Int)) (hK : 9223372036854775807 < K) {fr : PFr} {v : Nat} {v1 : Nat}
  (f1 : fr 1 = .p 0 0) (f3 : fr 3 = (PV.i .i64 ((0 : Nat) : Int))) (f6 : fr 6 = .nl) (f7 : fr 7 = .p 1 0)
  (cont : ∀ fr' (G : PM) (J : Nat), J ≠ 0 → fr' 1 = .p 0 0 → fr' 3 = (PV.i .i64 ((0 : Nat) : Int)) → fr' 6 = .sl (G.length + 1) 0 J J 2 → K < pw J → pw (J - 1) ≤ K → ∀ R, UK E0 F (.exit 2) ks fr' (some ⟨[.b (decide (x0.v < 0)), D x0.v.natAbs], true, v⟩ :: (G ++ (some ⟨pwL J, true, 0⟩ :: R)))) :
  WK E0 F (.loop x_poly_digits_l2) ks fr [some ⟨[.b (decide (x0.v < 0)), D x0.v.natAbs], true, v⟩, some ⟨[.b (decide ((pwI 0).v < 0)), D (pwI 0).v.natAbs], true, v1⟩] := by
 have R1 := zhJ
 have R0 : inR (pw 0) := zdX (Nat.le_of_lt (zjx 0)) R1
 have cm0 := zcM x0 (pwI 0)
 have c00 : (cmpI x0.v (pwI 0).v ≥ 0) = True := eq_true (by rw [ge_iff_le, zdr, hx0, zg4 R0, zit]; omega)
 have mu0 := zj7 R0
 have le0 : lerr ((pw (0 + 1) : Nat) : Int) = 0 := (zdw (z := ((pw (0 + 1) : Nat) : Int)) (by rw [Int.natAbs_natCast]; exact R1)).2
 rw [le0] at mu0
 refine zaa x_poly_digits_l2.eq_1 ?_
 simp (disch := omega) only [go_sem, seval, wqq, f1, f3, f6, f7, cm0, c00, mu0, zsa, zaK, zan]
 refine zar x_poly_digits_l2.eq_1 (fun (j : Nat) fr M => 1 ≤ j ∧ inR (pw j) ∧ pw (j - 1) ≤ K ∧ fr 1 = .p 0 0 ∧ fr 3 = (PV.i .i64 ((0 : Nat) : Int)) ∧ ∃ (G : PM) (r : Option PB) (v2 : Nat), fr 6 = .sl (G.length + 1) 0 j j 2 ∧ fr 7 = .p (G.length + 3) 0 ∧
  M = some ⟨[.b (decide (x0.v < 0)), D x0.v.natAbs], true, v⟩ :: (G ++ [some ⟨pwL j, true, 0⟩, r, some ⟨[.b (decide ((pwI j).v < 0)), D (pwI j).v.natAbs], true, v2⟩])) (fun j => K + 1 - pw (j - 1)) ?_ 1
  ⟨Nat.le_refl _, R1, by rw [show pw (1 - 1) = 2 from rfl]; omega, by simp only [go_sem, seval, f1], by simp only [go_sem, seval, f3], [_, _], _, _, by simp only [go_sem, seval], by simp only [go_sem, seval], rfl⟩
 rintro j fr M ⟨hj, jR, hjK, f1, f3, G, r, v2, f6, f7, rfl⟩ ih
 have j14 := zgc jR
 have cm := zcM x0 (pwI j)
 by_cases hc : pw j ≤ K
 ·have c0 : (cmpI x0.v (pwI j).v ≥ 0) = True := eq_true (by rw [ge_iff_le, zdr, hx0, zg4 jR]; omega)
  have mu := zj7 jR
  have apx : ∀ b0 : Option PB, appP (b0 :: (G ++ [some ⟨pwL j, true, 0⟩, r, some ⟨[.b (decide ((pwI j).v < 0)), D (pwI j).v.natAbs], true, v2⟩, some ⟨[PV.b (decide ((pwI j).v < 0)), D (pwI j).v.natAbs], true, 0⟩])) 2 32 (.sl (G.length + 1) 0 j j 2) (.sl (G.length + 4) 0 1 1 2) =
   some (.sl (G.length + 5) 0 (j + 1) (j + 1) 2, b0 :: (G ++ [none, r, some ⟨[.b (decide ((pwI j).v < 0)), D (pwI j).v.natAbs], true, v2⟩, some ⟨[PV.b (decide ((pwI j).v < 0)), D (pwI j).v.natAbs], true, 0⟩, some ⟨pwL (j + 1), true, 0⟩])) := fun b0 =>
   zoo (b0 :: G) (pwL j) _ _ r (some ⟨[.b (decide ((pwI j).v < 0)), D (pwI j).v.natAbs], true, v2⟩) (zeB j) (by omega) (by omega)
  by_cases hn : inR (pw (j + 1))
  ·have le1 : lerr ((pw (j + 1) : Nat) : Int) = 0 := (zdw (z := ((pw (j + 1) : Nat) : Int)) (by rw [Int.natAbs_natCast]; exact hn)).2
   rw [le1] at mu
   simp (disch := omega) only [go_sem, seval, wqq, f1, f3, f6, f7, cm, c0, mu, apx, zaK, zan, mG, mG0, sG, sG0, lG, lqq]
   have := zjx (j - 1)
   rw [show j - 1 + 1 = j by omega] at this
   exact ih (j + 1) _ _ (by rw [show j + 1 - 1 = j by omega]; omega) ⟨by omega, hn, hc, by simp only [go_sem, seval, f1], by simp only [go_sem, seval, f3], G ++ [none, r, _, _], _, _, by simp only [go_sem, seval]; simp, by simp only [go_sem, seval]; simp, by simp; exact ⟨rfl, rfl, rfl, rfl⟩⟩
  ·have le1 : (lerr ((pw (j + 1) : Nat) : Int) = 0) = False := eq_false fun q => hn (by have := zfz q; rwa [Int.natAbs_natCast] at this)
   simp (disch := omega) only [go_sem, seval, wqq, f1, f3, f6, f7, cm, c0, mu, le1, apx, zaK, zan, mG, mG0, sG, sG0, lG, lqq]
   have e6 : ∀ a b c d p q : Option PB, G ++ [a, b, c, d, p, q] = (G ++ [a, b, c, d]) ++ (p :: [q]) := fun a b c d p q => by simp
   rw [e6]
   exact cont _ _ (j + 1) (by omega) (by simp only [go_sem, seval, f1]) (by simp only [go_sem, seval, f3]) (by simp only [go_sem, seval]; simp) (by
    rcases Nat.lt_or_ge K (pw (j + 1)) with q | q
    ·exact q
    ·exact (hn (zdX q hR)).elim) hc [_]
 ·have c0 : (cmpI x0.v (pwI j).v ≥ 0) = False := eq_false (by rw [ge_iff_le, zdr, hx0, zg4 jR]; omega)
  simp (disch := omega) only [go_sem, seval, wqq, f1, f3, f6, f7, cm, c0, mG, mG0, sG, sG0, lG, lqq]
  exact cont _ G j (by omega) (by simp only [go_sem, seval, f1]) (by simp only [go_sem, seval, f3]) (by simp only [go_sem, seval, f6]) (by omega) hjK [_, _]
theorem zih (x : WI) : pf E0 63 [wiP x] = some (.i .i64 (nbits x.v.natAbs : Int)) := by
 by_cases hs : x.v.natAbs ≤ 9223372036854775807
 ·exact zlp x hs
 have hR : inR x.v.natAbs := (zbU _).1 x.lim
 obtain ⟨K, hKe⟩ : ∃ K, K = x.v.natAbs := ⟨_, rfl⟩
 rw [← hKe] at hR hs ⊢
 have hK : 9223372036854775807 < K := by omega
 have sg := zbX x
 have fin : ∀ (y : WI), y.v = (K : Int) → pf E0 80 [wiP y] = some (.tu [.i .i64 0, .b false]) := fun y hy => by
  have sm := zew y
  have s1 : isSmall (K : Int) = false := by unfold isSmall; exact decide_eq_false (by omega)
  have s2 : small (K : Int) = 0 := by unfold small; rw [s1]; rfl
  rw [hy, s1, s2] at sm
  exact sm
 have fr2 := zd4 (n := 2) (by decide)
 have w2 : wiOf 2 (by decide) = pwI 0 := WI.ext' (by rw [zg4 (zdX (Nat.le_of_lt (zjx 0)) zhJ)]; rfl)
 rw [w2] at fr2
 have nb1 : 1 ≤ nbits K := by unfold nbits; rw [if_neg (by omega)]; omega
 have nbe : (nbits K : Int) - 1 + 1 = (nbits K : Int) := by omega
 have sy : ∀ y : WI, y.v = 1 → pf E0 31 [wiP y] = some (.i .i64 1) := fun y hy => by rw [zbX, hy]; rfl
 refine zac (xf := x_poly_digits) rfl (by simp [x_poly_digits]) ?_
 simp only [x_poly_digits]
 have nbb : nbits K ≤ 16384 := by
  obtain ⟨q, hq⟩ : ∃ q, q = 16384 := ⟨_, rfl⟩
  unfold inR at hR
  rw [← hq] at hR ⊢
  exact zcJ hR
 by_cases hn : x.v < 0
 ·have t0 : (cmpI x.v 0 < 0) = True := by rw [zbL]; simp [hn]
  have n1 := zjp x
  have hv : x.neg.v = (K : Int) := by show -x.v = _; omega
  have sm := fin x.neg hv
  generalize x.neg = y at *
  simp (disch := omega) only [go_sem, seval, wqq, sg, t0, n1, sm, fr2]
  refine zjX hR hv hK (by simp only [go_sem, seval]) (by simp only [go_sem, seval]) (by simp only [go_sem, seval]) (by simp only [go_sem, seval]) ?_
  intro fr' G J hJ f1 f3 f6 hlt hle R
  have J14 := zgc (zdX hle hR)
  simp (disch := omega) only [go_sem, seval, wqq, f6]
  refine zjY hR hv (by omega) hlt (.inr hle) (by simp only [go_sem, seval, f1]) (by simp only [go_sem, seval, f3]) (by rw [if_neg hJ]; simp only [go_sem, seval, f6]) (by simp only [go_sem, seval]) ?_
  intro fr'' v' y1 hy1 g1 g3
  have syy := sy y1 hy1
  simp (disch := omega) only [go_sem, seval, wqq, g1, g3, syy, nbe]
 ·have t0 : (cmpI x.v 0 < 0) = False := by rw [zbL]; simp [hn]
  have hv : x.v = (K : Int) := by omega
  have sm := fin x hv
  simp (disch := omega) only [go_sem, seval, wqq, sg, t0, sm, fr2]
  refine zjX hR hv hK (by simp only [go_sem, seval]) (by simp only [go_sem, seval]) (by simp only [go_sem, seval]) (by simp only [go_sem, seval]) ?_
  intro fr' G J hJ f1 f3 f6 hlt hle R
  have J14 := zgc (zdX hle hR)
  simp (disch := omega) only [go_sem, seval, wqq, f6]
  refine zjY hR hv (by omega) hlt (.inr hle) (by simp only [go_sem, seval, f1]) (by simp only [go_sem, seval, f3]) (by rw [if_neg hJ]; simp only [go_sem, seval, f6]) (by simp only [go_sem, seval]) ?_
  intro fr'' v' y1 hy1 g1 g3
  have syy := sy y1 hy1
  simp (disch := omega) only [go_sem, seval, wqq, g1, g3, syy, nbe]
theorem ze2 (x : FQ) : pf E0 44 [fqP x] = some (.i .i64 ((max (nbits x.p.v.natAbs) (nbits x.q.v.natAbs) : Nat) : Int)) := by
 have a1 := zm5 x
 have a2 := zdE x
 have d1 := zih x.p
 have d2 := zih x.q
 generalize nbits x.p.v.natAbs = a at *
 generalize nbits x.q.v.natAbs = b at *
 have hm : mmP true (.i .i64 (a : Int)) [.i .i64 (b : Int)] = some (.i .i64 ((max a b : Nat) : Int)) := by
  simp only [mmP, if_true]
  congr 2
  split <;> omega
 refine zac (xf := x_poly_Digits) rfl (by simp [x_poly_Digits]) ?_
 simp only [x_poly_Digits]
 simp (disch := omega) only [go_sem, seval, wqq]
 refine zai [1] rfl (by simp only [go_sem, seval]) ?_
 simp (disch := omega) only [go_sem, seval, wqq, a1, a2, d1, d2, hm]
end Go.Eng
namespace Go.Eng
def slarrB (m off n z : Nat) (lo hi : Option PV) : Option PB → Option PV
 | some b => if off + n * z ≤ b.v.length then slP z (.sl m off n n z) lo hi none else none
 | none => none
def slarrP (M : PM) (n z : Nat) (lo hi : Option PV) : PV → Option PV
 | .p m off => slarrB m off n z lo hi (PM.blk M m)
 | .fp l => if n * z ≤ l.length ∧ n * z ≠ 0 ∧ l.all PV.scal = true then slP z (.lst (group z n (l.take (n * z)))) lo hi none else none
 | _ => none
@[go_sem] theorem zn9 (M : PM) (n z m off : Nat) (lo hi : Option PV) : slarrP M n z lo hi (.p m off) = slarrB m off n z lo hi (PM.blk M m) := _root_.id rfl
@[go_sem] theorem zn8 (m off n z : Nat) (lo hi : Option PV) (b : PB) : slarrB m off n z lo hi (some b) = if off + n * z ≤ b.v.length then slP z (.sl m off n n z) lo hi none else none := _root_.id rfl
@[go_sem] theorem zon {E : PEnv} {F : PFin} {d : Option Nat} {af : List Nat} {l : List XOper} {ks : List KI} {fr : PFr} {M : PM} (n z : Nat) (x : X) (lo hi : Option X) : WL E F (⟨d, .slarr n z x lo hi, af, none⟩ :: l) ks fr M = WV1 E F (slarrP M n z (lo.map (X.pv E.glob fr)) (hi.map (X.pv E.glob fr)) (x.pv E.glob fr)) d l ks fr M := by
 rw [zaU, ← zaW]
 have : XO.pst E.glob (pcl E) fr M (.slarr n z x lo hi) = (slarrP M n z (lo.map (X.pv E.glob fr)) (hi.map (X.pv E.glob fr)) (x.pv E.glob fr)).map fun v => (v, M) := by
  simp only [XO.pst, XO.pev]
  generalize x.pv E.glob fr = a
  cases a with
  | p m off =>
   simp only [slarrP]
   cases PM.blk M m with
   | none => rfl
   | some b => simp only [slarrB]; split <;> rfl
  | fp c => simp only [slarrP]; split <;> rfl
  | _ => rfl
 rw [this]
theorem zsH : slP 1 (.sl 0 0 9 9 1) (some (.i .i64 6)) none none = some (.sl 0 6 3 3 1) := rfl
theorem zsG : slP 1 (.sl 0 0 9 9 1) none (some (.i .i64 3)) none = some (.sl 0 0 3 9 1) := rfl
theorem zqh : slP 1 (.sl 0 0 9 9 1) (some (.i .i64 3)) (some (.i .i64 6)) none = some (.sl 0 3 3 6 1) := rfl
theorem gr3 (a b c : Int) : group 1 3 [PV.i .i64 a, .i .i64 b, .i .i64 c] = [.i .i64 a, .i .i64 b, .i .i64 c] := rfl
theorem zik {n : Int} (hn : Fits64 n) : ∃ f : FQ, f.is n 1 ∧ fsz 5 f ∧ pf E0 317 [.i .i64 n] = some (fqP f) := by
 have hn' := hn
 unfold Fits64 at hn'
 obtain ⟨f, f1, f2, fo⟩ := zll hn (q := 1) (by decide) (by decide)
 obtain ⟨l1, l2⟩ := zer (p := n) (q := 1) (by decide) (Nat.gcd_one_right _)
 have f1 := f1.trans l1
 have f2 := f2.trans l2
 have fi := zfB f
 rw [f1, f2] at fi
 refine ⟨f, fi, ⟨by rw [f1]; exact zau (by omega), by rw [f2]; exact zau (by decide)⟩, ?_⟩
 refine zac (xf := x_proj_row_1) rfl (by simp [x_proj_row_1]) ?_
 simp only [x_proj_row_1]
 simp (disch := omega) only [go_sem, seval, wqq, fo]
theorem zo0 (a b c : Int) (j : Nat) (v : Int) (h : [a, b, c][j]? = some v) : idxP 1 (.lst [.i .i64 a, .i .i64 b, .i .i64 c]) (some j) = some (.fp [.i .i64 v]) := zeX (xs := [a, b, c]) h
set_option maxHeartbeats 2000000 in
theorem zii {a b c : Int} (ha : Fits64 a) (hb : Fits64 b) (hc : Fits64 c) {u v : FQ} {n m : Nat} (zu : fsz n u) (zv : fsz m v) (hs : n + m ≤ 1000) {un ud vn vd : Int} (hud : ud ≠ 0) (hvd : vd ≠ 0) (ui : u.is un ud) (vi : v.is vn vd) :
  ∃ r : FQ, pf E0 310 [.lst [.i .i64 a, .i .i64 b, .i .i64 c], fqP u, fqP v] = some (fqP r) ∧ r.is (a * un * vd + b * vn * ud + c * (ud * vd)) (ud * vd) ∧ fsz (n + m + 20) r := by
 obtain ⟨wa, ia, za, fa⟩ := zik ha
 obtain ⟨wb, ib, zb, fb⟩ := zik hb
 obtain ⟨wc, ic, zc, fc⟩ := zik hc
 obtain ⟨x, fx, ix, zx⟩ := zj6 wa u za zu (by omega) ia ui
 obtain ⟨y, fy, iy, zy⟩ := zj6 wb v zb zv (by omega) ib vi
 obtain ⟨s, fs, is, zs⟩ := zjS x y zx zy (by omega) ix iy
 obtain ⟨r, fr', ir, zr⟩ := zjS s wc zs zc (by omega) is ic
 have hD : ud * vd ≠ 0 := Int.mul_ne_zero hud hvd
 refine ⟨r, ?_, zfA (by simp only [Int.one_mul, Int.mul_one]; exact hD) ir (by grind), ⟨Nat.le_trans zr.1 (by omega), Nat.le_trans zr.2 (by omega)⟩⟩
 clear ia ib ic ix iy is ir ui vi
 have i0 := zo0 a b c 0 a rfl
 have i1 := zo0 a b c 1 b rfl
 have i2 := zo0 a b c 2 c rfl
 refine zac (xf := x_proj_row) rfl (by simp [x_proj_row]) ?_
 simp only [x_proj_row]
 simp (disch := omega) only [go_sem, seval, wqq]
 refine zdm [4] [15] rfl ?_ ?_
 ·simp (disch := omega) only [go_sem, seval, wqq, i0, i1, i2, fa, fx]
  exact ⟨_, rfl, rfl, rfl⟩
 simp (disch := omega) only [go_sem, seval, wqq, i0, i1, i2, fa, fx]
 refine zdm [5] [25] rfl ?_ ?_
 ·simp (disch := omega) only [go_sem, seval, wqq, i0, i1, i2, fb, fy]
  exact ⟨_, rfl, rfl, rfl⟩
 simp (disch := omega) only [go_sem, seval, wqq, i0, i1, i2, fb, fy, fs]
 refine zdm [12] [42] rfl ?_ ?_
 ·simp (disch := omega) only [go_sem, seval, wqq, i0, i1, i2, fc, fr']
  exact ⟨_, rfl, rfl, rfl⟩
 simp (disch := omega) only [go_sem, seval, wqq, i0, i1, i2, fc, fr']
def rwV (a b c un ud vn vd : Int) : Int := a * un * vd + b * vn * ud + c * (ud * vd)
set_option maxHeartbeats 4000000 in
theorem zh4 {p : Nat → Int} (hp : ∀ e, Fits64 (p e)) (hv : vlP p = 0) {u v : FQ} {n m : Nat} (zu : fsz n u) (zv : fsz m v) (hs : n + m ≤ 500) {un ud vn vd : Int} (hud : ud ≠ 0) (hvd : vd ≠ 0) (ui : u.is un ud) (vi : v.is vn vd)
  (du : max (nbits u.p.v.natAbs) (nbits u.q.v.natAbs) ≤ 1000) (dv : max (nbits v.p.v.natAbs) (nbits v.q.v.natAbs) ≤ 1000) (h0 : rwV (p 6) (p 7) (p 8) un ud vn vd ≠ 0) :
  ∃ x y : FQ, pf E0 305 [pI p, fqP u, fqP v] = some (.tu [fqP x, fqP y, .i .i64 0]) ∧ x.is (rwV (p 0) (p 1) (p 2) un ud vn vd) (rwV (p 6) (p 7) (p 8) un ud vn vd) ∧ y.is (rwV (p 3) (p 4) (p 5) un ud vn vd) (rwV (p 6) (p 7) (p 8) un ud vn vd) ∧ fsz (2 * (n + m) + 40) x ∧ fsz (2 * (n + m) + 40) y := by
 have pv := zcP hp
 rw [hv] at pv
 have d1 := ze2 u
 have d2 := ze2 v
 have hD : ud * vd ≠ 0 := Int.mul_ne_zero hud hvd
 obtain ⟨r2, f2, i2, z2⟩ := zii (hp 6) (hp 7) (hp 8) zu zv (by omega) hud hvd ui vi
 obtain ⟨r0, f0, i0, z0⟩ := zii (hp 0) (hp 1) (hp 2) zu zv (by omega) hud hvd ui vi
 obtain ⟨r1, f1, i1, z1⟩ := zii (hp 3) (hp 4) (hp 5) zu zv (by omega) hud hvd ui vi
 have i2 : r2.is (rwV (p 6) (p 7) (p 8) un ud vn vd) (ud * vd) := i2
 have i0 : r0.is (rwV (p 0) (p 1) (p 2) un ud vn vd) (ud * vd) := i0
 have i1 : r1.is (rwV (p 3) (p 4) (p 5) un ud vn vd) (ud * vd) := i1
 generalize rwV (p 6) (p 7) (p 8) un ud vn vd = W at *
 generalize rwV (p 0) (p 1) (p 2) un ud vn vd = U at *
 generalize rwV (p 3) (p 4) (p 5) un ud vn vd = V at *
 have r20 : r2.p.v ≠ 0 := fun q => by
  unfold FQ.is at i2
  rw [q, Int.zero_mul] at i2
  have hq := r2.q1
  exact Int.mul_ne_zero h0 (by omega) i2.symm
 obtain ⟨x, fx, ix, zx⟩ := zjZ r0 r2 r20 z0 z2 (by omega)
 obtain ⟨y, fy, iy, zy⟩ := zjZ r1 r2 r20 z1 z2 (by omega)
 have ix := zfY i0 i2 r20 ix
 have iy := zfY i1 i2 r20 iy
 have sg := zlm r2
 have s0 : (cmpI r2.p.v 0 = 0) = False := by rw [zaT]; simp [r20]
 refine ⟨x, y, ?_, zfA (Int.mul_ne_zero hD h0) ix (by grind), zfA (Int.mul_ne_zero hD h0) iy (by grind), ⟨Nat.le_trans zx.1 (by omega), Nat.le_trans zx.2 (by omega)⟩, ⟨Nat.le_trans zy.1 (by omega), Nat.le_trans zy.2 (by omega)⟩⟩
 generalize max (nbits u.p.v.natAbs) (nbits u.q.v.natAbs) = A at *
 generalize max (nbits v.p.v.natAbs) (nbits v.q.v.natAbs) = B at *
 have t1 : ((A : Int) > 1000) = False := eq_false (by omega)
 have t2 : ((B : Int) > 1000) = False := eq_false (by omega)
 clear ix iy i0 i1 i2 ui vi
 have hF : PV.ag [.i .i64 (p 0), .i .i64 (p 1), .i .i64 (p 2), .i .i64 (p 3), .i .i64 (p 4), .i .i64 (p 5), .i .i64 (p 6), .i .i64 (p 7), .i .i64 (p 8)] = pI p := rfl
 refine zac (xf := x_proj_Apply) rfl (by simp [x_proj_Apply]) ?_
 simp only [x_proj_Apply]
 simp (disch := omega) only [go_sem, seval, wqq, pv, d1, d2, t1, t2, zag, hF, zsH, gr3, f2, sg, s0]
 refine zai [10] rfl (by simp only [go_sem, seval]) ?_
 simp (disch := omega) only [go_sem, seval, wqq, zag, zsG, gr3, f0, fx]
 refine zai [10] rfl (by simp only [go_sem, seval]) ?_
 simp (disch := omega) only [go_sem, seval, wqq, zag, zqh, gr3, f1, fy]
 refine zjM [13] [6] rfl ?_ ?_
 ·simp (disch := omega) only [go_sem, seval, wqq]
  exact ⟨_, rfl, rfl⟩
 simp (disch := omega) only [go_sem, seval, wqq]
end Go.Eng
namespace Go.Eng
def q8 (a b c d e f g h : Int) : PV := .ag [.i .i64 a, .i .i64 b, .i .i64 c, .i .i64 d, .i .i64 e, .i .i64 f, .i .i64 g, .i .i64 h]
noncomputable def bsW (w : Nat → WI) (f0 f1 f2 : WI) : Nat → WI := fun e => tW (w e) (if e % 3 = 0 then f0 else if e % 3 = 1 then f1 else f2)
set_option maxHeartbeats 8000000 in
set_option maxRecDepth 100000 in
theorem zlj {x0 y0 x1 y1 x2 y2 x3 y3 : Int} (hx0 : Fits64 x0) (hy0 : Fits64 y0) (hx1 : Fits64 x1) (hy1 : Fits64 y1) (hx2 : Fits64 x2) (hy2 : Fits64 y2) (hx3 : Fits64 x3) (hy3 : Fits64 y3)
  {w : Nat → WI} {f0 f1 f2 : WI} (hw : w = ofW (colI x0 x1 x2 y0 y1 y2)) (h0 : f0 = dtW (ofW (colI x3 x1 x2 y3 y1 y2))) (h1 : f1 = dtW (ofW (colI x0 x3 x2 y0 y3 y2))) (h2 : f2 = dtW (ofW (colI x0 x1 x3 y0 y1 y3)))
  (n0 : f0.v ≠ 0) (n1 : f1.v ≠ 0) (n2 : f2.v ≠ 0) (n3 : (dtW (bsW w f0 f1 f2)).v ≠ 0) : pf E0 315 [q8 x0 y0 x1 y1 x2 y2 x3 y3] = some (.tu [mW (bsW w f0 f1 f2), .b true]) := by
 have c0 := zcN hx0 hx1 hx2 hy0 hy1 hy2
 have c1 := zcN hx3 hx1 hx2 hy3 hy1 hy2
 have c2 := zcN hx0 hx3 hx2 hy0 hy3 hy2
 have c3 := zcN hx0 hx1 hx3 hy0 hy1 hy3
 have d1 := ze4 (ofW (colI x3 x1 x2 y3 y1 y2))
 have d2 := ze4 (ofW (colI x0 x3 x2 y0 y3 y2))
 have d3 := ze4 (ofW (colI x0 x1 x3 y0 y1 y3))
 rw [← hw] at c0
 rw [← h0] at d1
 rw [← h1] at d2
 rw [← h2] at d3
 generalize ofW (colI x3 x1 x2 y3 y1 y2) = w1 at *
 generalize ofW (colI x0 x3 x2 y0 y3 y2) = w2 at *
 generalize ofW (colI x0 x1 x3 y0 y1 y3) = w3 at *
 clear hw h0 h1 h2
 have s0 := zbX f0
 have s1 := zbX f1
 have s2 := zbX f2
 have e0 : (cmpI f0.v 0 = 0) = False := by rw [zaT]; simp [n0]
 have e1 : (cmpI f1.v 0 = 0) = False := by rw [zaT]; simp [n1]
 have e2 : (cmpI f2.v 0 = 0) = False := by rw [zaT]; simp [n2]
 have d4 := ze4 (bsW w f0 f1 f2)
 have s4 := zbX (dtW (bsW w f0 f1 f2))
 have e4 : (cmpI (dtW (bsW w f0 f1 f2)).v 0 = 0) = False := by rw [zaT]; simp [n3]
 have t0 := zam (w 0) f0
 have t1 := zam (w 1) f1
 have t2 := zam (w 2) f2
 have t3 := zam (w 3) f0
 have t4 := zam (w 4) f1
 have t5 := zam (w 5) f2
 have t6 := zam (w 6) f0
 have t7 := zam (w 7) f1
 have t8 := zam (w 8) f2
 have hB : PV.ag [.b (decide ((tW (w 0) f0).v < 0)), D (tW (w 0) f0).v.natAbs, .b (decide ((tW (w 1) f1).v < 0)), D (tW (w 1) f1).v.natAbs, .b (decide ((tW (w 2) f2).v < 0)), D (tW (w 2) f2).v.natAbs, .b (decide ((tW (w 3) f0).v < 0)), D (tW (w 3) f0).v.natAbs, .b (decide ((tW (w 4) f1).v < 0)), D (tW (w 4) f1).v.natAbs, .b (decide ((tW (w 5) f2).v < 0)), D (tW (w 5) f2).v.natAbs, .b (decide ((tW (w 6) f0).v < 0)), D (tW (w 6) f0).v.natAbs, .b (decide ((tW (w 7) f1).v < 0)), D (tW (w 7) f1).v.natAbs, .b (decide ((tW (w 8) f2).v < 0)), D (tW (w 8) f2).v.natAbs] = mW (bsW w f0 f1 f2) := rfl
 generalize dtW (bsW w f0 f1 f2) = dd at *
 generalize bsW w f0 f1 f2 = bs at *
 generalize tW (w 0) f0 = r0 at *
 generalize tW (w 1) f1 = r1 at *
 generalize tW (w 2) f2 = r2 at *
 generalize tW (w 3) f0 = r3 at *
 generalize tW (w 4) f1 = r4 at *
 generalize tW (w 5) f2 = r5 at *
 generalize tW (w 6) f0 = r6 at *
 generalize tW (w 7) f1 = r7 at *
 generalize tW (w 8) f2 = r8 at *
 unfold q8
 refine zac (xf := x_proj_basis) rfl (by simp [x_proj_basis]) ?_
 simp only [x_proj_basis]
 simp (disch := omega) only [go_sem, seval, wqq, c0]
 refine zdm [28, 30, 32, 37, 39, 41] [18, 27, 36] rfl ?_ ?_
 ·simp (disch := omega) only [go_sem, seval, wqq, c1, c2, c3, d1, d2, d3, zaK, zan]
  exact ⟨_, rfl, rfl, rfl⟩
 simp (disch := omega) only [go_sem, seval, wqq, c1, c2, c3, d1, d2, d3, zaK, zan]
 refine zaa x_proj_basis_l1.eq_1 ?_
 simp (disch := omega) only [go_sem, seval, wqq, s0, e0]
 refine zaa x_proj_basis_l2.eq_1 ?_
 simp (disch := omega) only [go_sem, seval, wqq, zae, t0]
 refine zaa x_proj_basis_l2.eq_1 ?_
 simp (disch := omega) only [go_sem, seval, wqq, zae, t3]
 refine zaa x_proj_basis_l2.eq_1 ?_
 simp (disch := omega) only [go_sem, seval, wqq, zae, t6]
 refine zaa x_proj_basis_l2.eq_1 ?_
 simp (disch := omega) only [go_sem, seval, wqq]
 refine zaa x_proj_basis_l1.eq_1 ?_
 simp (disch := omega) only [go_sem, seval, wqq, s1, e1]
 refine zaa x_proj_basis_l2.eq_1 ?_
 simp (disch := omega) only [go_sem, seval, wqq, zae, t1]
 refine zaa x_proj_basis_l2.eq_1 ?_
 simp (disch := omega) only [go_sem, seval, wqq, zae, t4]
 refine zaa x_proj_basis_l2.eq_1 ?_
 simp (disch := omega) only [go_sem, seval, wqq, zae, t7]
 refine zaa x_proj_basis_l2.eq_1 ?_
 simp (disch := omega) only [go_sem, seval, wqq]
 refine zaa x_proj_basis_l1.eq_1 ?_
 simp (disch := omega) only [go_sem, seval, wqq, s2, e2]
 refine zaa x_proj_basis_l2.eq_1 ?_
 simp (disch := omega) only [go_sem, seval, wqq, zae, t2]
 refine zaa x_proj_basis_l2.eq_1 ?_
 simp (disch := omega) only [go_sem, seval, wqq, zae, t5]
 refine zaa x_proj_basis_l2.eq_1 ?_
 simp (disch := omega) only [go_sem, seval, wqq, zae, t8]
 refine zaa x_proj_basis_l2.eq_1 ?_
 simp (disch := omega) only [go_sem, seval, wqq]
 refine zaa x_proj_basis_l1.eq_1 ?_
 simp (disch := omega) only [go_sem, seval, wqq]
 refine zai [5] rfl (by simp only [go_sem, seval]) ?_
 simp (disch := omega) only [go_sem, seval, wqq, hB, d4, s4, e4]
def okQ (x : Int) : Prop := -1048576 ≤ x ∧ x ≤ 1048576
theorem zdb {x y : Int} (hx : okQ x) (hy : okQ y) : ((if y > x then y else x) > 1048576) = False ∧ ((if y < x then y else x) < -1048576) = False := by
 unfold okQ at hx hy
 exact ⟨eq_false (by split <;> omega), eq_false (by split <;> omega)⟩
set_option maxHeartbeats 8000000 in
set_option maxRecDepth 100000 in
theorem zld {x0 y0 x1 y1 x2 y2 x3 y3 u0 v0 u1 v1 u2 v2 u3 v3 : Int} (hx0 : okQ x0) (hy0 : okQ y0) (hx1 : okQ x1) (hy1 : okQ y1) (hx2 : okQ x2) (hy2 : okQ y2) (hx3 : okQ x3) (hy3 : okQ y3) (hu0 : okQ u0) (hv0 : okQ v0) (hu1 : okQ u1) (hv1 : okQ v1) (hu2 : okQ u2) (hv2 : okQ v2) (hu3 : okQ u3) (hv3 : okQ v3)
  {A B : Nat → WI} (ba : pf E0 315 [q8 x0 y0 x1 y1 x2 y2 x3 y3] = some (.tu [mW A, .b true])) (bb : pf E0 315 [q8 u0 v0 u1 v1 u2 v2 u3 v3] = some (.tu [mW B, .b true])) (hg : gN (fun e => (prW B (adW A) e).v) 9 ≠ 0) :
  pf E0 309 [q8 x0 y0 x1 y1 x2 y2 x3 y3, q8 u0 v0 u1 v1 u2 v2 u3 v3] = some (.tu [pI (nfP fun e => (prW B (adW A) e).v), .i .i64 (nfE fun e => (prW B (adW A) e).v)]) := by
 have ad := zli A
 have pr := zkb B (adW A)
 have nm := zey (prW B (adW A)) hg
 generalize nfP (fun e => (prW B (adW A) e).v) = P at *
 generalize nfE (fun e => (prW B (adW A) e).v) = E at *
 generalize prW B (adW A) = Q at *
 generalize adW A = R at *
 obtain ⟨a0, b0⟩ := zdb hx0 hy0
 obtain ⟨a1, b1⟩ := zdb hx1 hy1
 obtain ⟨a2, b2⟩ := zdb hx2 hy2
 obtain ⟨a3, b3⟩ := zdb hx3 hy3
 obtain ⟨a4, b4⟩ := zdb hu0 hv0
 obtain ⟨a5, b5⟩ := zdb hu1 hv1
 obtain ⟨a6, b6⟩ := zdb hu2 hv2
 obtain ⟨a7, b7⟩ := zdb hu3 hv3
 unfold q8 at ba bb ⊢
 refine zac (xf := x_proj_Four) rfl (by simp [x_proj_Four]) ?_
 simp only [x_proj_Four]
 simp (disch := omega) only [go_sem, seval, wqq, zaK, zan]
 refine zaa x_proj_Four_l1.eq_1 ?_
 simp (disch := omega) only [go_sem, seval, wqq]
 refine zaa x_proj_Four_l2.eq_1 ?_
 simp (disch := omega) only [go_sem, seval, wqq, q8, a0, b0]
 refine zaa x_proj_Four_l2.eq_1 ?_
 simp (disch := omega) only [go_sem, seval, wqq, q8, a1, b1]
 refine zaa x_proj_Four_l2.eq_1 ?_
 simp (disch := omega) only [go_sem, seval, wqq, q8, a2, b2]
 refine zaa x_proj_Four_l2.eq_1 ?_
 simp (disch := omega) only [go_sem, seval, wqq, q8, a3, b3]
 refine zaa x_proj_Four_l2.eq_1 ?_
 simp (disch := omega) only [go_sem, seval, wqq]
 refine zaa x_proj_Four_l1.eq_1 ?_
 simp (disch := omega) only [go_sem, seval, wqq]
 refine zaa x_proj_Four_l2.eq_1 ?_
 simp (disch := omega) only [go_sem, seval, wqq, q8, a4, b4]
 refine zaa x_proj_Four_l2.eq_1 ?_
 simp (disch := omega) only [go_sem, seval, wqq, q8, a5, b5]
 refine zaa x_proj_Four_l2.eq_1 ?_
 simp (disch := omega) only [go_sem, seval, wqq, q8, a6, b6]
 refine zaa x_proj_Four_l2.eq_1 ?_
 simp (disch := omega) only [go_sem, seval, wqq, q8, a7, b7]
 refine zaa x_proj_Four_l2.eq_1 ?_
 simp (disch := omega) only [go_sem, seval, wqq]
 refine zaa x_proj_Four_l1.eq_1 ?_
 simp (disch := omega) only [go_sem, seval, wqq, ba, bb]
 refine zai [12] rfl (by simp only [go_sem, seval]) ?_
 simp (disch := omega) only [go_sem, seval, wqq, ad, pr, nm]
end Go.Eng
namespace Go.Eng
end Go.Eng
namespace Go.Eng
theorem zoJ {x : Nat → WI} {n : Nat} (hx : ∀ e, wlen (x e).v.natAbs ≤ n) (hn : n ≤ 100) : wlen (dtW x).v.natAbs ≤ 3 * n + 4 := by
 rw [zoK hx hn]
 have key : ∀ a b c d e : Nat, wlen (rtK (x a).v (x b).v (x c).v (x d).v (x e).v).natAbs ≤ 3 * n + 1 := fun a b c d e => by
  have h1 := zce (x b).v (x c).v
  have h2 := zce (x a).v ((x b).v * (x c).v)
  have h3 := zce (x d).v (x e).v
  have h4 := zce (x a).v ((x d).v * (x e).v)
  have h5 := zff ((x a).v * ((x b).v * (x c).v)) ((x a).v * ((x d).v * (x e).v))
  have h5 : wlen (rtK (x a).v (x b).v (x c).v (x d).v (x e).v).natAbs ≤ _ := h5
  have := hx a
  have := hx b
  have := hx c
  have := hx d
  have := hx e
  omega
 have k1 := key 0 4 8 5 7
 have k2 := key 1 5 6 3 8
 have k3 := key 2 3 7 4 6
 have a1 := zcd 0 (rtK (x 0).v (x 4).v (x 8).v (x 5).v (x 7).v)
 have a2 := zcd (0 + rtK (x 0).v (x 4).v (x 8).v (x 5).v (x 7).v) (rtK (x 1).v (x 5).v (x 6).v (x 3).v (x 8).v)
 have a3 := zcd (0 + rtK (x 0).v (x 4).v (x 8).v (x 5).v (x 7).v + rtK (x 1).v (x 5).v (x 6).v (x 3).v (x 8).v) (rtK (x 2).v (x 3).v (x 7).v (x 4).v (x 6).v)
 rw [Int.natAbs_zero, zbH] at a1
 show wlen (0 + rtK (x 0).v (x 4).v (x 8).v (x 5).v (x 7).v + rtK (x 1).v (x 5).v (x 6).v (x 3).v (x 8).v + rtK (x 2).v (x 3).v (x 7).v (x 4).v (x 6).v).natAbs ≤ _
 omega
def bsV (c : Nat → Int) (F0 F1 F2 : Int) : Nat → Int := fun e => c e * (if e % 3 = 0 then F0 else if e % 3 = 1 then F1 else F2)
theorem zsb {c : Nat → Int} (hc : ∀ e, Fits64 (c e)) {f0 f1 f2 : WI} (l0 : wlen f0.v.natAbs ≤ 10) (l1 : wlen f1.v.natAbs ≤ 10) (l2 : wlen f2.v.natAbs ≤ 10) (e : Nat) :
  (bsW (ofW c) f0 f1 f2 e).v = bsV c f0.v f1.v f2.v e ∧ wlen (bsW (ofW c) f0 f1 f2 e).v.natAbs ≤ 12 := by
 have hf : wlen (if e % 3 = 0 then f0 else if e % 3 = 1 then f1 else f2).v.natAbs ≤ 10 := by
  split
  ·exact l0
  ·split
   ·exact l1
   ·exact l2
 obtain ⟨h1, h2⟩ := zjF (ze0 hc e) hf (by decide)
 have e1 : (bsW (ofW c) f0 f1 f2 e).v = (ofW c e).v * (if e % 3 = 0 then f0 else if e % 3 = 1 then f1 else f2).v := h1
 rw [e1]
 refine ⟨?_, h2⟩
 rw [zkX (hc e)]
 unfold bsV
 congr 1
 split
 ·rfl
 ·split <;> rfl
theorem zap {x : Int} (h : okQ x) : Fits64 x := by unfold okQ at h; unfold Fits64; omega
def baV (x0 y0 x1 y1 x2 y2 x3 y3 : Int) : Nat → Int := bsV (colI x0 x1 x2 y0 y1 y2) (rdV (colI x3 x1 x2 y3 y1 y2)) (rdV (colI x0 x3 x2 y0 y3 y2)) (rdV (colI x0 x1 x3 y0 y1 y3))
theorem zgm {x0 y0 x1 y1 x2 y2 x3 y3 : Int} (hx0 : okQ x0) (hy0 : okQ y0) (hx1 : okQ x1) (hy1 : okQ y1) (hx2 : okQ x2) (hy2 : okQ y2) (hx3 : okQ x3) (hy3 : okQ y3)
  (n0 : rdV (colI x3 x1 x2 y3 y1 y2) ≠ 0) (n1 : rdV (colI x0 x3 x2 y0 y3 y2) ≠ 0) (n2 : rdV (colI x0 x1 x3 y0 y1 y3) ≠ 0) (n3 : rdV (baV x0 y0 x1 y1 x2 y2 x3 y3) ≠ 0) :
  ∃ A : Nat → WI, pf E0 315 [q8 x0 y0 x1 y1 x2 y2 x3 y3] = some (.tu [mW A, .b true]) ∧ (fun e => (A e).v) = baV x0 y0 x1 y1 x2 y2 x3 y3 ∧ ∀ e, wlen (A e).v.natAbs ≤ 12 := by
 have c0 := zb3 (zap hx0) (zap hx1) (zap hx2) (zap hy0) (zap hy1) (zap hy2)
 have c1 := zb3 (zap hx3) (zap hx1) (zap hx2) (zap hy3) (zap hy1) (zap hy2)
 have c2 := zb3 (zap hx0) (zap hx3) (zap hx2) (zap hy0) (zap hy3) (zap hy2)
 have c3 := zb3 (zap hx0) (zap hx1) (zap hx3) (zap hy0) (zap hy1) (zap hy3)
 have l1 := zoJ (ze0 c1) (by decide)
 have l2 := zoJ (ze0 c2) (by decide)
 have l3 := zoJ (ze0 c3) (by decide)
 have e1 := zlW c1
 have e2 := zlW c2
 have e3 := zlW c3
 have bv := zsb c0 l1 l2 l3
 have bf : (fun e => (bsW (ofW (colI x0 x1 x2 y0 y1 y2)) (dtW (ofW (colI x3 x1 x2 y3 y1 y2))) (dtW (ofW (colI x0 x3 x2 y0 y3 y2))) (dtW (ofW (colI x0 x1 x3 y0 y1 y3))) e).v) = baV x0 y0 x1 y1 x2 y2 x3 y3 := funext fun e => by
  rw [(bv e).1, e1, e2, e3]; rfl
 refine ⟨_, zlj (zap hx0) (zap hy0) (zap hx1) (zap hy1) (zap hx2) (zap hy2) (zap hx3) (zap hy3) rfl rfl rfl rfl (by rw [e1]; exact n0) (by rw [e2]; exact n1) (by rw [e3]; exact n2) ?_, bf, fun e => (bv e).2⟩
 rw [zoK (fun e => (bv e).2) (by decide), bf]
 exact n3
theorem zle {x0 y0 x1 y1 x2 y2 x3 y3 u0 v0 u1 v1 u2 v2 u3 v3 : Int} (hx0 : okQ x0) (hy0 : okQ y0) (hx1 : okQ x1) (hy1 : okQ y1) (hx2 : okQ x2) (hy2 : okQ y2) (hx3 : okQ x3) (hy3 : okQ y3) (hu0 : okQ u0) (hv0 : okQ v0) (hu1 : okQ u1) (hv1 : okQ v1) (hu2 : okQ u2) (hv2 : okQ v2) (hu3 : okQ u3) (hv3 : okQ v3)
  (n0 : rdV (colI x3 x1 x2 y3 y1 y2) ≠ 0) (n1 : rdV (colI x0 x3 x2 y0 y3 y2) ≠ 0) (n2 : rdV (colI x0 x1 x3 y0 y1 y3) ≠ 0) (n3 : rdV (baV x0 y0 x1 y1 x2 y2 x3 y3) ≠ 0)
  (m0 : rdV (colI u3 u1 u2 v3 v1 v2) ≠ 0) (m1 : rdV (colI u0 u3 u2 v0 v3 v2) ≠ 0) (m2 : rdV (colI u0 u1 u3 v0 v1 v3) ≠ 0) (m3 : rdV (baV u0 v0 u1 v1 u2 v2 u3 v3) ≠ 0)
  {Y : Nat → Int} (hY : Y = rprV (baV u0 v0 u1 v1 u2 v2 u3 v3) (adV (baV x0 y0 x1 y1 x2 y2 x3 y3))) (hg : gN Y 9 ≠ 0) :
  pf E0 309 [q8 x0 y0 x1 y1 x2 y2 x3 y3, q8 u0 v0 u1 v1 u2 v2 u3 v3] = some (.tu [pI (nfP Y), .i .i64 (nfE Y)]) := by
 obtain ⟨A, fa, va, la⟩ := zgm hx0 hy0 hx1 hy1 hx2 hy2 hx3 hy3 n0 n1 n2 n3
 obtain ⟨B, fb, vb, lb⟩ := zgm hu0 hv0 hu1 hv1 hu2 hv2 hu3 hv3 m0 m1 m2 m3
 have ml : ∀ e, (adW A e).v = adV (baV x0 y0 x1 y1 x2 y2 x3 y3) e ∧ wlen (adW A e).v.natAbs ≤ 25 := fun e => by
  obtain ⟨h1, h2⟩ := zmB la (by decide) (e % 3) (e / 3)
  rw [va] at h1
  exact ⟨h1, h2⟩
 have pe : (fun e => (prW B (adW A) e).v) = Y := funext fun e => by
  rw [zrz (n := 25) (fun e => Nat.le_trans (lb e) (by decide)) (fun e => (ml e).2) (by decide) e, vb, hY]
  congr 1
  exact funext fun e => (ml e).1
 have := zld hx0 hy0 hx1 hy1 hx2 hy2 hx3 hy3 hu0 hv0 hu1 hv1 hu2 hv2 hu3 hv3 fa fb (by rw [pe]; exact hg)
 rw [pe] at this
 exact this
end Go.Eng
namespace Go.Eng
def tb (l : List Int) : Nat → Int := fun e => l.getD e 0
theorem zfM {l : List Int} (h : ∀ n ∈ l, Fits64 n) (e : Nat) : Fits64 (tb l e) := by
 unfold tb
 by_cases he : e < l.length
 ·exact h _ (by simp [List.getD, List.getElem?_eq_getElem he])
 ·have : l.getD e 0 = 0 := by simp [List.getD, List.getElem?_eq_none (Nat.le_of_not_lt he)]
  rw [this]; decide
theorem zhV {X : Nat → Int} {g : Nat} {s : Int} (hg : gN X 9 = g) (hs : fN X 9 = s) (hq : ∀ e, e < 9 → -1073741824 ≤ X e / (g : Int) ∧ X e / (g : Int) ≤ 1073741824) : nfP X = (fun e => X e / (g : Int) * s) ∧ nfE X = 0 := by
 subst hg hs
 have ok : okN X := hq
 exact ⟨by unfold nfP; rw [if_pos ok], by unfold nfE; rw [if_pos ok]⟩
theorem zil {n : Int} (hn : Fits64 n) : ∃ f : FQ, f.is n 1 ∧ fsz 5 f ∧ f.p.v = n ∧ f.q.v = 1 ∧ pf E0 304 [.i .i64 n] = some (fqP f) := by
 have hn' := hn
 unfold Fits64 at hn'
 obtain ⟨f, f1, f2, fo⟩ := zll hn (q := 1) (by decide) (by decide)
 obtain ⟨l1, l2⟩ := zer (p := n) (q := 1) (by decide) (Nat.gcd_one_right _)
 have f1 := f1.trans l1
 have f2 := f2.trans l2
 have fi := zfB f
 rw [f1, f2] at fi
 refine ⟨f, fi, ⟨by rw [f1]; exact zau (by omega), by rw [f2]; exact zau (by decide)⟩, f1, f2, ?_⟩
 refine zac (xf := x_l12_whole) rfl (by simp [x_l12_whole]) ?_
 simp only [x_l12_whole]
 simp (disch := omega) only [go_sem, seval, wqq, fo]
theorem zqI {f : FQ} (h1 : f.p.v.natAbs ≤ 4611686018427387904) (h2 : f.q.v.natAbs ≤ 4611686018427387904) : max (nbits f.p.v.natAbs) (nbits f.q.v.natAbs) ≤ 1000 := by
 have a := zcJ (k := f.p.v.natAbs) (n := 63) (by omega)
 have b := zcJ (k := f.q.v.natAbs) (n := 63) (by omega)
 omega
theorem eq9 (a b c d e f g h i : Int) : eqCellsP [1, 1, 1, 1, 1, 1, 1, 1, 1] [PV.i .i64 a, PV.i .i64 b, PV.i .i64 c, PV.i .i64 d, PV.i .i64 e, PV.i .i64 f, PV.i .i64 g, PV.i .i64 h, PV.i .i64 i] [PV.i .i64 a, PV.i .i64 b, PV.i .i64 c, PV.i .i64 d, PV.i .i64 e, PV.i .i64 f, PV.i .i64 g, PV.i .i64 h, PV.i .i64 i] = some true := by
 simp [eqCellsP, eqCellP]
def pQ : Nat → Int := tb [2, 0, 3, 0, 2, 5, 0, 0, 1]
def rQ : Nat → Int := tb [6, 0, 0, 0, 6, 0, -1, -1, 4]
def yQ : Nat → Int := rprV (baV 0 0 2 0 3 3 0 2) (adV (baV 0 0 1 0 1 1 0 1))
theorem zfO {p : Nat → Int} (hp : ∀ e, Fits64 (p e)) (ok : okP p) (h : rdV p ≠ 0) : vlP p = 0 := by
 unfold vlP
 rw [if_pos ok, zlW hp, if_neg h]
theorem zln : pf E0 308 [pI pQ] = some (.tu [.ag [.i .i64 1, .i .i64 0, .i .i64 (-3), .i .i64 0, .i .i64 1, .i .i64 (-5), .i .i64 0, .i .i64 0, .i .i64 2], .i .i64 0]) := by
 have hp : ∀ e, Fits64 (pQ e) := zfM (by decide)
 have v0 : vlP pQ = 0 := zfO hp (fun e he => by obtain rfl | rfl | rfl | rfl | rfl | rfl | rfl | rfl | rfl := zch he <;> decide) (by decide)
 have h := ze3 hp
 unfold IP IE at h
 rw [if_pos v0, if_pos v0] at h
 obtain ⟨e1, e2⟩ := zhV (X := adV pQ) (g := 2) (s := 1) (by decide) (by decide) (fun e he => by obtain rfl | rfl | rfl | rfl | rfl | rfl | rfl | rfl | rfl := zch he <;> decide)
 rw [e1, e2] at h
 have w0 : adV pQ 0 / ((2 : Nat) : Int) * 1 = 1 := by decide
 have w1 : adV pQ 1 / ((2 : Nat) : Int) * 1 = 0 := by decide
 have w2 : adV pQ 2 / ((2 : Nat) : Int) * 1 = (-3) := by decide
 have w3 : adV pQ 3 / ((2 : Nat) : Int) * 1 = 0 := by decide
 have w4 : adV pQ 4 / ((2 : Nat) : Int) * 1 = 1 := by decide
 have w5 : adV pQ 5 / ((2 : Nat) : Int) * 1 = (-5) := by decide
 have w6 : adV pQ 6 / ((2 : Nat) : Int) * 1 = 0 := by decide
 have w7 : adV pQ 7 / ((2 : Nat) : Int) * 1 = 0 := by decide
 have w8 : adV pQ 8 / ((2 : Nat) : Int) * 1 = 2 := by decide
 unfold pI cI at h
 simp only [w0, w1, w2, w3, w4, w5, w6, w7, w8] at h
 unfold pI cI
 exact h
theorem zjq : pf E0 309 [q8 0 0 1 0 1 1 0 1, q8 0 0 2 0 3 3 0 2] = some (.tu [.ag [.i .i64 6, .i .i64 0, .i .i64 0, .i .i64 0, .i .i64 6, .i .i64 0, .i .i64 (-1), .i .i64 (-1), .i .i64 4], .i .i64 0]) := by
 have h := zle (x0 := 0) (y0 := 0) (x1 := 1) (y1 := 0) (x2 := 1) (y2 := 1) (x3 := 0) (y3 := 1) (u0 := 0) (v0 := 0) (u1 := 2) (v1 := 0) (u2 := 3) (v2 := 3) (u3 := 0) (v3 := 2) (by unfold okQ; decide) (by unfold okQ; decide) (by unfold okQ; decide) (by unfold okQ; decide) (by unfold okQ; decide) (by unfold okQ; decide) (by unfold okQ; decide) (by unfold okQ; decide) (by unfold okQ; decide) (by unfold okQ; decide) (by unfold okQ; decide) (by unfold okQ; decide) (by unfold okQ; decide) (by unfold okQ; decide) (by unfold okQ; decide) (by unfold okQ; decide)
  (by decide) (by decide) (by decide) (by decide) (by decide) (by decide) (by decide) (by decide) (Y := yQ) rfl (by decide)
 obtain ⟨e1, e2⟩ := zhV (X := yQ) (g := 2) (s := (-1)) (by decide) (by decide) (fun e he => by obtain rfl | rfl | rfl | rfl | rfl | rfl | rfl | rfl | rfl := zch he <;> decide)
 rw [e1, e2] at h
 have w0 : yQ 0 / ((2 : Nat) : Int) * (-1) = 6 := by decide
 have w1 : yQ 1 / ((2 : Nat) : Int) * (-1) = 0 := by decide
 have w2 : yQ 2 / ((2 : Nat) : Int) * (-1) = 0 := by decide
 have w3 : yQ 3 / ((2 : Nat) : Int) * (-1) = 0 := by decide
 have w4 : yQ 4 / ((2 : Nat) : Int) * (-1) = 6 := by decide
 have w5 : yQ 5 / ((2 : Nat) : Int) * (-1) = 0 := by decide
 have w6 : yQ 6 / ((2 : Nat) : Int) * (-1) = (-1) := by decide
 have w7 : yQ 7 / ((2 : Nat) : Int) * (-1) = (-1) := by decide
 have w8 : yQ 8 / ((2 : Nat) : Int) * (-1) = 4 := by decide
 unfold pI cI at h
 simp only [w0, w1, w2, w3, w4, w5, w6, w7, w8] at h
 exact h
set_option maxHeartbeats 4000000 in
set_option maxRecDepth 20000 in
theorem zif : pf E0 303 [] = some (.b true) := by
 have hp : ∀ e, Fits64 (pQ e) := zfM (by decide)
 have hr : ∀ e, Fits64 (rQ e) := zfM (by decide)
 have vp : vlP pQ = 0 := zfO hp (fun e he => by obtain rfl | rfl | rfl | rfl | rfl | rfl | rfl | rfl | rfl := zch he <;> decide) (by decide)
 have vr : vlP rQ = 0 := zfO hr (fun e he => by obtain rfl | rfl | rfl | rfl | rfl | rfl | rfl | rfl | rfl := zch he <;> decide) (by decide)
 obtain ⟨h, h1, h2, ho⟩ := zll (p := 1) (q := 2) (by decide) (by decide) (by decide)
 have l1 : lowP 1 2 = 1 ∧ lowQ 1 2 = 2 := zer (p := 1) (q := 2) (by decide) (by decide)
 have h1 := h1.trans l1.1
 have h2 := h2.trans l1.2
 have hi := zfB h
 rw [h1, h2] at hi
 have hz : fsz 5 h := ⟨by rw [h1]; exact zau (by decide), by rw [h2]; exact zau (by decide)⟩
 have hd := zqI (f := h) (by rw [h1]; decide) (by rw [h2]; decide)
 obtain ⟨o, oi, oz, o1, o2, oo⟩ := zil (n := 1) (by decide)
 have od := zqI (f := o) (by rw [o1]; decide) (by rw [o2]; decide)
 obtain ⟨x, y, ap, xi, yi, _, _⟩ := zh4 hp vp hz oz (by decide) (by decide) (by decide) hi oi hd od (by decide)
 obtain ⟨u, v, aq, ui, vi, _, _⟩ := zh4 hr vr hz hz (by decide) (by decide) (by decide) hi hi hd hd (by decide)
 obtain ⟨x1, x2⟩ := zgd (p := 4) (q := 1) (by decide) (by decide) (by decide) xi (by decide)
 obtain ⟨y1, y2⟩ := zgd (p := 7) (q := 1) (by decide) (by decide) (by decide) yi (by decide)
 obtain ⟨u1, u2⟩ := zgd (p := 1) (q := 1) (by decide) (by decide) (by decide) ui (by decide)
 obtain ⟨v1, v2⟩ := zgd (p := 1) (q := 1) (by decide) (by decide) (by decide) vi (by decide)
 have d4 : decI 4 = [52] := (zht (v := 4) (n := 0) rfl (by decide) (by decide)).trans rfl
 have d7 : decI 7 = [55] := (zht (v := 7) (n := 0) rfl (by decide) (by decide)).trans rfl
 have d1 : decI 1 = [49] := (zht (v := 1) (n := 0) rfl (by decide) (by decide)).trans rfl
 have s1 := zgF x (t := [52]) x1 x2 (by unfold ftx; rw [if_pos rfl, d4])
 have s2 := zgF y (t := [55]) y1 y2 (by unfold ftx; rw [if_pos rfl, d7])
 have s3 := zgF u (t := [49]) u1 u2 (by unfold ftx; rw [if_pos rfl, d1])
 have s4 := zgF v (t := [49]) v1 v2 (by unfold ftx; rw [if_pos rfl, d1])
 have fr := zjq
 have iv := zln
 have ePQ : pI pQ = .ag [.i .i64 2, .i .i64 0, .i .i64 3, .i .i64 0, .i .i64 2, .i .i64 5, .i .i64 0, .i .i64 0, .i .i64 1] := rfl
 have eRQ : pI rQ = .ag [.i .i64 6, .i .i64 0, .i .i64 0, .i .i64 0, .i .i64 6, .i .i64 0, .i .i64 (-1), .i .i64 (-1), .i .i64 4] := rfl
 rw [ePQ] at ap iv
 rw [eRQ] at aq
 unfold q8 at fr
 clear xi yi ui vi hi oi vp vr hp hr
 refine zac (xf := x_l12_lives) rfl (by simp [x_l12_lives]) ?_
 simp only [x_l12_lives]
 simp (disch := omega) only [go_sem, seval, wqq, ho, zaK, zan]
 refine zai [1, 2] rfl (by simp only [go_sem, seval]) ?_
 simp (disch := omega) only [go_sem, seval, wqq, oo, ap, iv, fr, aq, s1, s2, s3, s4, eq9, zaK, zan]
end Go.Eng
namespace Go.Eng
theorem hF (p : Nat → Int) : PV.ag [.i .i64 (p 0), .i .i64 (p 1), .i .i64 (p 2), .i .i64 (p 3), .i .i64 (p 4), .i .i64 (p 5), .i .i64 (p 6), .i .i64 (p 7), .i .i64 (p 8)] = pI p := rfl
theorem zh5 {p q : Nat → Int} (hp : ∀ e, Fits64 (p e)) (hq : ∀ e, Fits64 (q e)) : pf E0 335 [pI p, pI q] = some (.tu [pI (CP p q), .i .i64 (CE p q)]) := by
 have hv := zcP hp
 have hw := zcP hq
 have hm := zgZ hp
 have hk := zgZ hq
 have hr := zkb (ofW p) (ofW q)
 have fp := hF p
 have fq := hF q
 unfold CP CE
 by_cases h : vlP p = 0
 ·by_cases h' : vlP q = 0
  ·have pe : (fun e => (prW (ofW p) (ofW q) e).v) = rprV p q := funext fun e => by
    rw [zrz (n := 2) (ze0 hp) (ze0 hq) (by decide) e, zgV hp, zgV hq]
   have hn := zey (prW (ofW p) (ofW q)) (by
    rw [pe]
    intro z
    have := zeD z
    rw [zkj] at this
    exact Int.mul_ne_zero (zda hp h) (zda hq h') this)
   rw [pe] at hn
   rw [if_pos h, if_pos h', if_pos h, if_pos h']
   rw [h] at hv
   rw [h'] at hw
   refine zac (xf := x_proj_Compose) rfl (by simp [x_proj_Compose]) ?_
   simp only [x_proj_Compose]
   simp (disch := omega) only [go_sem, seval, wqq, zag, fp, fq, zaK, zan]
   refine zaa x_proj_Compose_l1.eq_1 ?_
   simp (disch := omega) only [go_sem, seval, wqq, zag, fp, fq, hv]
   refine zaa x_proj_Compose_l1.eq_1 ?_
   simp (disch := omega) only [go_sem, seval, wqq, zag, fp, fq, hw]
   refine zaa x_proj_Compose_l1.eq_1 ?_
   simp (disch := omega) only [go_sem, seval, wqq]
   refine zai [3] rfl (by simp only [go_sem, seval]) ?_
   simp (disch := omega) only [go_sem, seval, wqq, fp, fq, hm, hk, hr, hn]
  ·rw [if_pos h, if_neg h', if_pos h, if_neg h']
   rw [h] at hv
   generalize vlP q = V at *
   have h' : (V = 0) = False := eq_false h'
   refine zac (xf := x_proj_Compose) rfl (by simp [x_proj_Compose]) ?_
   simp only [x_proj_Compose]
   simp (disch := omega) only [go_sem, seval, wqq, zag, fp, fq, zaK, zan]
   refine zaa x_proj_Compose_l1.eq_1 ?_
   simp (disch := omega) only [go_sem, seval, wqq, zag, fp, fq, hv]
   refine zaa x_proj_Compose_l1.eq_1 ?_
   simp (disch := omega) only [go_sem, seval, wqq, zag, fp, fq, hw, h', pI0, hF zI]
 ·rw [if_neg h, if_neg h]
  generalize vlP p = V at *
  have h : (V = 0) = False := eq_false h
  refine zac (xf := x_proj_Compose) rfl (by simp [x_proj_Compose]) ?_
  simp only [x_proj_Compose]
  simp (disch := omega) only [go_sem, seval, wqq, zag, fp, fq, zaK, zan]
  refine zaa x_proj_Compose_l1.eq_1 ?_
  simp (disch := omega) only [go_sem, seval, wqq, zag, fp, fq, hv, h, pI0, hF zI]
theorem zg1 {p q : Nat → Int} (hp : ∀ e, Fits64 (p e)) (hq : ∀ e, Fits64 (q e)) : pf E0 336 [pI p, pI q] = some (.tu [pI (CP p q), .i .i64 (CE p q)]) := by
 have hv := zgq hp
 have hw := zgq hq
 have hm := ze6 hp
 have hk := ze6 hq
 have lp : ∀ e, tlen (p e).natAbs ≤ 5 := fun e => zcZ (hp e)
 have lq : ∀ e, tlen (q e).natAbs ≤ 5 := fun e => zcZ (hq e)
 have hr := zls (z := p) (u := q) (fun e => Nat.le_trans (lp e) (by decide)) (fun e => Nat.le_trans (lq e) (by decide))
 unfold CP CE
 by_cases h : vlP p = 0
 ·by_cases h' : vlP q = 0
  ·have hn := zez (z := rprV p q) (fun e => Nat.le_trans (znq lp lq e) (by decide)) (by
    intro z
    have := zeD z
    rw [zkj] at this
    exact Int.mul_ne_zero (zda hp h) (zda hq h') this)
   rw [if_pos h, if_pos h', if_pos h, if_pos h']
   rw [h] at hv
   rw [h'] at hw
   refine zac (xf := x_r12_Compose) rfl (by simp [x_r12_Compose]) ?_
   simp only [x_r12_Compose]
   simp (disch := omega) only [go_sem, seval, wqq, hv, hw]
   refine zai [3] rfl (by simp only [go_sem, seval]) ?_
   simp (disch := omega) only [go_sem, seval, wqq, hm, hk, hr, hn]
  ·rw [if_pos h, if_neg h', if_pos h, if_neg h']
   rw [h] at hv
   generalize vlP q = V at *
   have h' : (V = 0) = False := eq_false h'
   refine zac (xf := x_r12_Compose) rfl (by simp [x_r12_Compose]) ?_
   simp only [x_r12_Compose]
   simp (disch := omega) only [go_sem, seval, wqq, hv, hw, h', pI0]
 ·rw [if_neg h, if_neg h]
  generalize vlP p = V at *
  have h : (V = 0) = False := eq_false h
  refine zac (xf := x_r12_Compose) rfl (by simp [x_r12_Compose]) ?_
  simp only [x_r12_Compose]
  simp (disch := omega) only [go_sem, seval, wqq, hv, h, pI0]
def e9 (a b : Nat → Int) : Bool := a 0 == b 0 && (a 1 == b 1 && (a 2 == b 2 && (a 3 == b 3 && (a 4 == b 4 && (a 5 == b 5 && (a 6 == b 6 && (a 7 == b 7 && a 8 == b 8)))))))
theorem zfv (a : Nat → Int) : e9 a a = true := by simp [e9]
theorem zmn (a b : Nat → Int) : eqaP [1, 1, 1, 1, 1, 1, 1, 1, 1] (pI a) (pI b) = some (e9 a b) := by
 unfold pI cI e9
 rw [zkJ]
 simp [eqCellsP, eqCellP]
noncomputable def smB (p q : Nat → Int) : Bool := decide (NE p = 0) && (decide (NE q = 0) && e9 (NP p) (NP q))
theorem zlg {p q : Nat → Int} (hp : ∀ e, Fits64 (p e)) (hq : ∀ e, Fits64 (q e)) : pf E0 337 [pI p, pI q] = some (.b (smB p q)) := by
 have h1 := zev hp
 have h2 := zev hq
 have h3 := zmn (NP p) (NP q)
 unfold smB
 generalize NP p = a at *
 generalize NP q = b at *
 generalize e9 a b = t at *
 refine zac (xf := x_proj_Same) rfl (by simp [x_proj_Same]) ?_
 simp only [x_proj_Same]
 by_cases c1 : NE p = 0
 ·by_cases c2 : NE q = 0
  ·rw [c1] at h1
   rw [c2] at h2
   rw [c1, c2]
   simp (disch := omega) only [go_sem, seval, wqq, h1, h2, h3]
  ·have c2 : (NE q = 0) = False := eq_false c2
   rw [c1] at h1
   rw [c1]
   simp (disch := omega) only [go_sem, seval, wqq, h1, h2, c2, Bool.false_and]
 ·have c1 : (NE p = 0) = False := eq_false c1
  simp (disch := omega) only [go_sem, seval, wqq, h1, h2, c1, Bool.false_and]
theorem zju {p : Nat → Int} (hp : ∀ e, Fits64 (p e)) {at_ n : Int} (fa : Fits64 at_) (fn : Fits64 n) : ∃ q : Nat → Int, (∀ e, Fits64 (q e)) ∧ pf E0 330 [pI p, .i .i64 at_, .i .i64 n] = some (pI q) := by
 have b1 := Int.tmod_lt_of_pos at_ (show (0 : Int) < 9 by decide)
 have b2 := Int.lt_tmod_of_pos at_ (show (0 : Int) < 9 by decide)
 obtain ⟨j, hj⟩ : ∃ j : Nat, at_.tmod 9 + 9 = (j : Int) := ⟨(at_.tmod 9 + 9).toNat, by omega⟩
 have t9 : (j : Int).tmod 9 = ((j % 9 : Nat) : Int) := zcI _ 9
 have k9 : j % 9 < 9 := Nat.mod_lt _ (by decide)
 have jb : j ≤ 18 := by omega
 generalize hk : j % 9 = k at *
 refine ⟨fun e => if e = k then n else p e, fun e => by
  show Fits64 (if e = k then n else p e)
  split
  ·exact fn
  ·exact hp e, ?_⟩
 clear hk
 obtain rfl | rfl | rfl | rfl | rfl | rfl | rfl | rfl | rfl := zch k9
 ·have hR : PV.ag [.i .i64 n, .i .i64 (p 1), .i .i64 (p 2), .i .i64 (p 3), .i .i64 (p 4), .i .i64 (p 5), .i .i64 (p 6), .i .i64 (p 7), .i .i64 (p 8)] = pI (fun e => if e = 0 then n else p e) := rfl
  refine zac (xf := x_l12_spoilt) rfl (by simp [x_l12_spoilt]) ?_
  simp only [x_l12_spoilt]
  simp (disch := omega) only [go_sem, seval, wqq, zag, hj, t9, hR]
 ·have hR : PV.ag [.i .i64 (p 0), .i .i64 n, .i .i64 (p 2), .i .i64 (p 3), .i .i64 (p 4), .i .i64 (p 5), .i .i64 (p 6), .i .i64 (p 7), .i .i64 (p 8)] = pI (fun e => if e = 1 then n else p e) := rfl
  refine zac (xf := x_l12_spoilt) rfl (by simp [x_l12_spoilt]) ?_
  simp only [x_l12_spoilt]
  simp (disch := omega) only [go_sem, seval, wqq, zag, hj, t9, hR]
 ·have hR : PV.ag [.i .i64 (p 0), .i .i64 (p 1), .i .i64 n, .i .i64 (p 3), .i .i64 (p 4), .i .i64 (p 5), .i .i64 (p 6), .i .i64 (p 7), .i .i64 (p 8)] = pI (fun e => if e = 2 then n else p e) := rfl
  refine zac (xf := x_l12_spoilt) rfl (by simp [x_l12_spoilt]) ?_
  simp only [x_l12_spoilt]
  simp (disch := omega) only [go_sem, seval, wqq, zag, hj, t9, hR]
 ·have hR : PV.ag [.i .i64 (p 0), .i .i64 (p 1), .i .i64 (p 2), .i .i64 n, .i .i64 (p 4), .i .i64 (p 5), .i .i64 (p 6), .i .i64 (p 7), .i .i64 (p 8)] = pI (fun e => if e = 3 then n else p e) := rfl
  refine zac (xf := x_l12_spoilt) rfl (by simp [x_l12_spoilt]) ?_
  simp only [x_l12_spoilt]
  simp (disch := omega) only [go_sem, seval, wqq, zag, hj, t9, hR]
 ·have hR : PV.ag [.i .i64 (p 0), .i .i64 (p 1), .i .i64 (p 2), .i .i64 (p 3), .i .i64 n, .i .i64 (p 5), .i .i64 (p 6), .i .i64 (p 7), .i .i64 (p 8)] = pI (fun e => if e = 4 then n else p e) := rfl
  refine zac (xf := x_l12_spoilt) rfl (by simp [x_l12_spoilt]) ?_
  simp only [x_l12_spoilt]
  simp (disch := omega) only [go_sem, seval, wqq, zag, hj, t9, hR]
 ·have hR : PV.ag [.i .i64 (p 0), .i .i64 (p 1), .i .i64 (p 2), .i .i64 (p 3), .i .i64 (p 4), .i .i64 n, .i .i64 (p 6), .i .i64 (p 7), .i .i64 (p 8)] = pI (fun e => if e = 5 then n else p e) := rfl
  refine zac (xf := x_l12_spoilt) rfl (by simp [x_l12_spoilt]) ?_
  simp only [x_l12_spoilt]
  simp (disch := omega) only [go_sem, seval, wqq, zag, hj, t9, hR]
 ·have hR : PV.ag [.i .i64 (p 0), .i .i64 (p 1), .i .i64 (p 2), .i .i64 (p 3), .i .i64 (p 4), .i .i64 (p 5), .i .i64 n, .i .i64 (p 7), .i .i64 (p 8)] = pI (fun e => if e = 6 then n else p e) := rfl
  refine zac (xf := x_l12_spoilt) rfl (by simp [x_l12_spoilt]) ?_
  simp only [x_l12_spoilt]
  simp (disch := omega) only [go_sem, seval, wqq, zag, hj, t9, hR]
 ·have hR : PV.ag [.i .i64 (p 0), .i .i64 (p 1), .i .i64 (p 2), .i .i64 (p 3), .i .i64 (p 4), .i .i64 (p 5), .i .i64 (p 6), .i .i64 n, .i .i64 (p 8)] = pI (fun e => if e = 7 then n else p e) := rfl
  refine zac (xf := x_l12_spoilt) rfl (by simp [x_l12_spoilt]) ?_
  simp only [x_l12_spoilt]
  simp (disch := omega) only [go_sem, seval, wqq, zag, hj, t9, hR]
 ·have hR : PV.ag [.i .i64 (p 0), .i .i64 (p 1), .i .i64 (p 2), .i .i64 (p 3), .i .i64 (p 4), .i .i64 (p 5), .i .i64 (p 6), .i .i64 (p 7), .i .i64 n] = pI (fun e => if e = 8 then n else p e) := rfl
  refine zac (xf := x_l12_spoilt) rfl (by simp [x_l12_spoilt]) ?_
  simp only [x_l12_spoilt]
  simp (disch := omega) only [go_sem, seval, wqq, zag, hj, t9, hR]
theorem zg0 {p : Nat → Int} (hp : ∀ e, Fits64 (p e)) {k : Int} (fk : Fits64 k) : ∃ q : Nat → Int, (∀ e, Fits64 (q e)) ∧ pf E0 331 [pI p, .i .i64 k] = some (pI q) := by
 have bd : ∀ x : Int, -1000 < x.tmod 1000 ∧ x.tmod 1000 < 1000 := fun x => ⟨Int.lt_tmod_of_pos x (by decide), Int.tmod_lt_of_pos x (by decide)⟩
 have pr : ∀ x : Int, -1000000 ≤ x.tmod 1000 * k.tmod 1000 ∧ x.tmod 1000 * k.tmod 1000 ≤ 1000000 := fun x => by
  have h1 := bd x
  have h2 := bd k
  have h3 : (x.tmod 1000 * k.tmod 1000).natAbs ≤ 1000 * 1000 := by
   rw [Int.natAbs_mul]
   exact Nat.mul_le_mul (by omega) (by omega)
  omega
 have b0 := bd (p 0)
 have b1 := bd (p 1)
 have b2 := bd (p 2)
 have p0 := pr (p 0)
 have p1 := pr (p 1)
 have p2 := pr (p 2)
 have bk := bd k
 have hR : PV.ag [.i .i64 ((p 0).tmod 1000), .i .i64 ((p 1).tmod 1000), .i .i64 ((p 2).tmod 1000), .i .i64 (p 3), .i .i64 (p 4), .i .i64 (p 5), .i .i64 ((p 0).tmod 1000 * k.tmod 1000), .i .i64 ((p 1).tmod 1000 * k.tmod 1000), .i .i64 ((p 2).tmod 1000 * k.tmod 1000)] = pI (fun e => if e < 3 then (p e).tmod 1000 else if e < 6 then p e else (p (e - 6)).tmod 1000 * k.tmod 1000) := rfl
 refine ⟨fun e => if e < 3 then (p e).tmod 1000 else if e < 6 then p e else (p (e - 6)).tmod 1000 * k.tmod 1000, fun e => by
  show Fits64 (if e < 3 then (p e).tmod 1000 else if e < 6 then p e else (p (e - 6)).tmod 1000 * k.tmod 1000)
  split
  ·have := bd (p e); unfold Fits64; omega
  ·split
   ·exact hp e
   ·have := pr (p (e - 6)); unfold Fits64; omega, ?_⟩
 refine zac (xf := x_l12_multiple) rfl (by simp [x_l12_multiple]) ?_
 simp only [x_l12_multiple]
 simp (disch := omega) only [go_sem, seval, wqq, zag]
 refine zaa x_l12_multiple_l1.eq_1 ?_
 simp (disch := omega) only [go_sem, seval, wqq]
 refine zaa x_l12_multiple_l1.eq_1 ?_
 simp (disch := omega) only [go_sem, seval, wqq]
 refine zaa x_l12_multiple_l1.eq_1 ?_
 simp (disch := omega) only [go_sem, seval, wqq]
 refine zaa x_l12_multiple_l1.eq_1 ?_
 simp (disch := omega) only [go_sem, seval, wqq, hR]
theorem zjs {xs : List Int} (hx : Ints xs) {i : Int} (hi : Fits64 i) : ∃ n, Fits64 n ∧ pf E0 180 [ints xs, .i .i64 i] = some (.i .i64 n) := by
 obtain ⟨hx1, hx2⟩ := hx
 by_cases h : i < 0
 ·have h : (i < 0) = True := eq_true h
  refine ⟨0, by decide, ?_⟩
  refine zac (xf := x_r04_Pick) rfl (by simp [x_r04_Pick]) ?_
  simp only [x_r04_Pick]
  simp (disch := omega) only [go_sem, seval, wqq, h]
 ·have h0 : (i < 0) = False := eq_false h
  by_cases h' : (xs.length : Int) ≤ i
  ·have q1 : (i ≥ (xs.length : Int)) = True := eq_true h'
   refine ⟨0, by decide, ?_⟩
   refine zac (xf := x_r04_Pick) rfl (by simp [x_r04_Pick]) ?_
   simp only [x_r04_Pick]
   simp (disch := omega) only [go_sem, seval, wqq, h0, q1]
  ·have q1 : (i ≥ (xs.length : Int)) = False := eq_false h'
   obtain ⟨j, rfl⟩ : ∃ j : Nat, i = j := ⟨i.toNat, by omega⟩
   have hj : j < xs.length := by omega
   have hg : xs[j]? = some (xs.getD j 0) := by simp [hj]
   refine ⟨xs.getD j 0, hx2 _ (by simp [hj]), ?_⟩
   refine zac (xf := x_r04_Pick) rfl (by simp [x_r04_Pick]) ?_
   simp only [x_r04_Pick]
   simp (disch := omega) only [go_sem, seval, wqq, h0, q1, zeX hg, Int.toNat_natCast]
end Go.Eng
namespace Go.Eng
def gEnt (n d : Int) : Int := if n.tmod 6 = 1 ∨ n.tmod 6 = -1 then (n.tdiv 6).tmod 8 else if n.tmod 6 = 2 then (n.tdiv 6).tmod 1000 else if n.tmod 6 = 3 then 1073741824 - (n.tdiv 6).tmod 4 else d
def g0P : Nat → Int := fun e => if e = 0 then 2 else if e = 4 then 2 else if e = 8 then 1 else 0
theorem zhC (n d : Int) (hd : Fits64 d) : Fits64 (gEnt n d) := by
 have a1 := Int.lt_tmod_of_pos (n.tdiv 6) (show (0 : Int) < 8 by decide)
 have a2 := Int.tmod_lt_of_pos (n.tdiv 6) (show (0 : Int) < 8 by decide)
 have b1 := Int.lt_tmod_of_pos (n.tdiv 6) (show (0 : Int) < 1000 by decide)
 have b2 := Int.tmod_lt_of_pos (n.tdiv 6) (show (0 : Int) < 1000 by decide)
 have c1 := Int.lt_tmod_of_pos (n.tdiv 6) (show (0 : Int) < 4 by decide)
 have c2 := Int.tmod_lt_of_pos (n.tdiv 6) (show (0 : Int) < 4 by decide)
 unfold gEnt
 split
 ·unfold Fits64; omega
 ·split
  ·unfold Fits64; omega
  ·split
   ·unfold Fits64; omega
   ·exact hd
def gMix (ns : Nat → Int) (i : Nat) : Nat → Int := fun e => if e < i then gEnt (ns e) (g0P e) else g0P e
theorem gm0 (ns : Nat → Int) {x : Int} (h : gEnt (ns 0) (g0P 0) = x) : (cI (gMix ns 0)).set 0 (.i .i64 x) = cI (gMix ns 1) := by subst h; rfl
theorem gk0 (ns : Nat → Int) (h : gEnt (ns 0) (g0P 0) = g0P 0) : cI (gMix ns 0) = cI (gMix ns 1) := by
 have e : gMix ns 0 = gMix ns 1 := by
  funext e
  unfold gMix
  by_cases q : e = 0
  ·subst q; rw [if_neg (by decide), if_pos (by decide), h]
  ·by_cases r : e < 0
   ·rw [if_pos r, if_pos (by omega)]
   ·rw [if_neg r, if_neg (by omega)]
 rw [e]
theorem gm1 (ns : Nat → Int) {x : Int} (h : gEnt (ns 1) (g0P 1) = x) : (cI (gMix ns 1)).set 1 (.i .i64 x) = cI (gMix ns 2) := by subst h; rfl
theorem gk1 (ns : Nat → Int) (h : gEnt (ns 1) (g0P 1) = g0P 1) : cI (gMix ns 1) = cI (gMix ns 2) := by
 have e : gMix ns 1 = gMix ns 2 := by
  funext e
  unfold gMix
  by_cases q : e = 1
  ·subst q; rw [if_neg (by decide), if_pos (by decide), h]
  ·by_cases r : e < 1
   ·rw [if_pos r, if_pos (by omega)]
   ·rw [if_neg r, if_neg (by omega)]
 rw [e]
theorem gm2 (ns : Nat → Int) {x : Int} (h : gEnt (ns 2) (g0P 2) = x) : (cI (gMix ns 2)).set 2 (.i .i64 x) = cI (gMix ns 3) := by subst h; rfl
theorem gk2 (ns : Nat → Int) (h : gEnt (ns 2) (g0P 2) = g0P 2) : cI (gMix ns 2) = cI (gMix ns 3) := by
 have e : gMix ns 2 = gMix ns 3 := by
  funext e
  unfold gMix
  by_cases q : e = 2
  ·subst q; rw [if_neg (by decide), if_pos (by decide), h]
  ·by_cases r : e < 2
   ·rw [if_pos r, if_pos (by omega)]
   ·rw [if_neg r, if_neg (by omega)]
 rw [e]
theorem gm3 (ns : Nat → Int) {x : Int} (h : gEnt (ns 3) (g0P 3) = x) : (cI (gMix ns 3)).set 3 (.i .i64 x) = cI (gMix ns 4) := by subst h; rfl
theorem gk3 (ns : Nat → Int) (h : gEnt (ns 3) (g0P 3) = g0P 3) : cI (gMix ns 3) = cI (gMix ns 4) := by
 have e : gMix ns 3 = gMix ns 4 := by
  funext e
  unfold gMix
  by_cases q : e = 3
  ·subst q; rw [if_neg (by decide), if_pos (by decide), h]
  ·by_cases r : e < 3
   ·rw [if_pos r, if_pos (by omega)]
   ·rw [if_neg r, if_neg (by omega)]
 rw [e]
theorem gm4 (ns : Nat → Int) {x : Int} (h : gEnt (ns 4) (g0P 4) = x) : (cI (gMix ns 4)).set 4 (.i .i64 x) = cI (gMix ns 5) := by subst h; rfl
theorem gk4 (ns : Nat → Int) (h : gEnt (ns 4) (g0P 4) = g0P 4) : cI (gMix ns 4) = cI (gMix ns 5) := by
 have e : gMix ns 4 = gMix ns 5 := by
  funext e
  unfold gMix
  by_cases q : e = 4
  ·subst q; rw [if_neg (by decide), if_pos (by decide), h]
  ·by_cases r : e < 4
   ·rw [if_pos r, if_pos (by omega)]
   ·rw [if_neg r, if_neg (by omega)]
 rw [e]
theorem gm5 (ns : Nat → Int) {x : Int} (h : gEnt (ns 5) (g0P 5) = x) : (cI (gMix ns 5)).set 5 (.i .i64 x) = cI (gMix ns 6) := by subst h; rfl
theorem gk5 (ns : Nat → Int) (h : gEnt (ns 5) (g0P 5) = g0P 5) : cI (gMix ns 5) = cI (gMix ns 6) := by
 have e : gMix ns 5 = gMix ns 6 := by
  funext e
  unfold gMix
  by_cases q : e = 5
  ·subst q; rw [if_neg (by decide), if_pos (by decide), h]
  ·by_cases r : e < 5
   ·rw [if_pos r, if_pos (by omega)]
   ·rw [if_neg r, if_neg (by omega)]
 rw [e]
theorem gm6 (ns : Nat → Int) {x : Int} (h : gEnt (ns 6) (g0P 6) = x) : (cI (gMix ns 6)).set 6 (.i .i64 x) = cI (gMix ns 7) := by subst h; rfl
theorem gk6 (ns : Nat → Int) (h : gEnt (ns 6) (g0P 6) = g0P 6) : cI (gMix ns 6) = cI (gMix ns 7) := by
 have e : gMix ns 6 = gMix ns 7 := by
  funext e
  unfold gMix
  by_cases q : e = 6
  ·subst q; rw [if_neg (by decide), if_pos (by decide), h]
  ·by_cases r : e < 6
   ·rw [if_pos r, if_pos (by omega)]
   ·rw [if_neg r, if_neg (by omega)]
 rw [e]
theorem gm7 (ns : Nat → Int) {x : Int} (h : gEnt (ns 7) (g0P 7) = x) : (cI (gMix ns 7)).set 7 (.i .i64 x) = cI (gMix ns 8) := by subst h; rfl
theorem gk7 (ns : Nat → Int) (h : gEnt (ns 7) (g0P 7) = g0P 7) : cI (gMix ns 7) = cI (gMix ns 8) := by
 have e : gMix ns 7 = gMix ns 8 := by
  funext e
  unfold gMix
  by_cases q : e = 7
  ·subst q; rw [if_neg (by decide), if_pos (by decide), h]
  ·by_cases r : e < 7
   ·rw [if_pos r, if_pos (by omega)]
   ·rw [if_neg r, if_neg (by omega)]
 rw [e]
theorem gm8 (ns : Nat → Int) {x : Int} (h : gEnt (ns 8) (g0P 8) = x) : (cI (gMix ns 8)).set 8 (.i .i64 x) = cI (gMix ns 9) := by subst h; rfl
theorem gk8 (ns : Nat → Int) (h : gEnt (ns 8) (g0P 8) = g0P 8) : cI (gMix ns 8) = cI (gMix ns 9) := by
 have e : gMix ns 8 = gMix ns 9 := by
  funext e
  unfold gMix
  by_cases q : e = 8
  ·subst q; rw [if_neg (by decide), if_pos (by decide), h]
  ·by_cases r : e < 8
   ·rw [if_pos r, if_pos (by omega)]
   ·rw [if_neg r, if_neg (by omega)]
 rw [e]
set_option maxHeartbeats 8000000 in
theorem zh9 {xs : List Int} (hx : Ints xs) : ∃ p : Nat → Int, (∀ e, Fits64 (p e)) ∧ pf E0 301 [ints xs, .i .i64 0] = some (pI p) := by
 have pk : ∀ e : Nat, ∃ n, Fits64 n ∧ (e < 100 → pf E0 180 [ints xs, .i .i64 ((e : Nat) : Int)] = some (.i .i64 n)) := fun e => by
  by_cases h : e < 100
  ·obtain ⟨n, h1, h2⟩ := zjs hx (i := ((e : Nat) : Int)) (by unfold Fits64; omega)
   exact ⟨n, h1, fun _ => h2⟩
  ·exact ⟨0, by decide, fun q => (h q).elim⟩
 obtain ⟨ns, hns⟩ : ∃ ns : Nat → Int, ∀ e, Fits64 (ns e) ∧ (e < 100 → pf E0 180 [ints xs, .i .i64 ((e : Nat) : Int)] = some (.i .i64 (ns e))) := ⟨fun e => Classical.choose (pk e), fun e => Classical.choose_spec (pk e)⟩
 have g0f : ∀ e, Fits64 (g0P e) := fun e => by unfold g0P; split <;> (try split) <;> (try split) <;> decide
 refine ⟨gMix ns 9, fun e => by
  show Fits64 (if e < 9 then gEnt (ns e) (g0P e) else g0P e)
  split
  ·exact zhC _ _ (g0f e)
  ·exact g0f e, ?_⟩
 have c0 : [PV.i .i64 2, .i .i64 0, .i .i64 0, .i .i64 0, .i .i64 2, .i .i64 0, .i .i64 0, .i .i64 0, .i .i64 1] = cI (gMix ns 0) := rfl
 refine zac (xf := x_r12_Proj) rfl (by simp [x_r12_Proj]) ?_
 simp only [x_r12_Proj]
 simp (disch := omega) only [go_sem, seval, wqq, zaK, zan]
 refine zar x_r12_Proj_l1.eq_1 (fun (i : Nat) fr M => i ≤ 9 ∧ fr 0 = ints xs ∧ fr 1 = .i .i64 0 ∧ fr 4 = .p 0 0 ∧ fr 5 = .p 1 0 ∧ fr 6 = (PV.i .i64 ((i : Nat) : Int)) ∧ ∃ b v, M = [some ⟨cQ 0 zI, true, b⟩, some ⟨cI (gMix ns i), true, v⟩]) (fun i => 9 - i) ?_ 0 ⟨by omega, by simp only [go_sem, seval], by simp only [go_sem, seval], by simp only [go_sem, seval], by simp only [go_sem, seval], by simp only [go_sem, seval], _, _, rfl⟩
 rintro i fr M ⟨hi, f0, f1, f4, f5, f6, b, v, rfl⟩ ih
 rcases Nat.lt_or_ge i 9 with h9 | h9
 ·obtain ⟨nf, np⟩ := hns i
  have np := np (by omega)
  have a1 := Int.lt_tmod_of_pos ((ns i).tdiv 6) (show (0 : Int) < 4 by decide)
  have a2 := Int.tmod_lt_of_pos ((ns i).tdiv 6) (show (0 : Int) < 4 by decide)
  have dv : -9223372036854775808 ≤ (ns i).tdiv 6 ∧ (ns i).tdiv 6 ≤ 9223372036854775807 := by
   unfold Fits64 at nf
   have := Int.mul_tdiv_add_tmod (ns i) 6
   have m1 := Int.lt_tmod_of_pos (ns i) (show (0 : Int) < 6 by decide)
   have m2 := Int.tmod_lt_of_pos (ns i) (show (0 : Int) < 6 by decide)
   omega
  have q1 : ((i : Int) < 9) = True := eq_true (by omega)
  have z1 : (0 : Int) + ((i : Nat) : Int) = ((i : Nat) : Int) := Int.zero_add _
  have hE : gEnt (ns i) (g0P i) = gEnt (ns i) (g0P i) := rfl
  rcases zbu ((ns i).tmod 6 = 1) with t1 | t1
  ·have hv : gEnt (ns i) (g0P i) = ((ns i).tdiv 6).tmod 8 := by unfold gEnt; rw [if_pos (.inl (of_eq_true t1))]
   obtain ⟨k, hk⟩ : ∃ k, k = ns i := ⟨_, rfl⟩
   obtain rfl | rfl | rfl | rfl | rfl | rfl | rfl | rfl | rfl := zch h9
   ·have np : pf E0 180 [ints xs, .i .i64 0] = some (.i .i64 (ns 0)) := np
    simp (disch := omega) only [go_sem, seval, wqq, f0, f1, f4, f5, f6, np, t1]
    exact ih 1 _ _ (by omega) ⟨by omega, by simp only [go_sem, seval, f0], by simp only [go_sem, seval, f1], by simp only [go_sem, seval, f4], by simp only [go_sem, seval, f5], by simp only [go_sem, seval], b, v + 1, by rw [← gm0 ns hv]⟩
   ·have np : pf E0 180 [ints xs, .i .i64 1] = some (.i .i64 (ns 1)) := np
    simp (disch := omega) only [go_sem, seval, wqq, f0, f1, f4, f5, f6, np, t1]
    exact ih 2 _ _ (by omega) ⟨by omega, by simp only [go_sem, seval, f0], by simp only [go_sem, seval, f1], by simp only [go_sem, seval, f4], by simp only [go_sem, seval, f5], by simp only [go_sem, seval], b, v + 1, by rw [← gm1 ns hv]⟩
   ·have np : pf E0 180 [ints xs, .i .i64 2] = some (.i .i64 (ns 2)) := np
    simp (disch := omega) only [go_sem, seval, wqq, f0, f1, f4, f5, f6, np, t1]
    exact ih 3 _ _ (by omega) ⟨by omega, by simp only [go_sem, seval, f0], by simp only [go_sem, seval, f1], by simp only [go_sem, seval, f4], by simp only [go_sem, seval, f5], by simp only [go_sem, seval], b, v + 1, by rw [← gm2 ns hv]⟩
   ·have np : pf E0 180 [ints xs, .i .i64 3] = some (.i .i64 (ns 3)) := np
    simp (disch := omega) only [go_sem, seval, wqq, f0, f1, f4, f5, f6, np, t1]
    exact ih 4 _ _ (by omega) ⟨by omega, by simp only [go_sem, seval, f0], by simp only [go_sem, seval, f1], by simp only [go_sem, seval, f4], by simp only [go_sem, seval, f5], by simp only [go_sem, seval], b, v + 1, by rw [← gm3 ns hv]⟩
   ·have np : pf E0 180 [ints xs, .i .i64 4] = some (.i .i64 (ns 4)) := np
    simp (disch := omega) only [go_sem, seval, wqq, f0, f1, f4, f5, f6, np, t1]
    exact ih 5 _ _ (by omega) ⟨by omega, by simp only [go_sem, seval, f0], by simp only [go_sem, seval, f1], by simp only [go_sem, seval, f4], by simp only [go_sem, seval, f5], by simp only [go_sem, seval], b, v + 1, by rw [← gm4 ns hv]⟩
   ·have np : pf E0 180 [ints xs, .i .i64 5] = some (.i .i64 (ns 5)) := np
    simp (disch := omega) only [go_sem, seval, wqq, f0, f1, f4, f5, f6, np, t1]
    exact ih 6 _ _ (by omega) ⟨by omega, by simp only [go_sem, seval, f0], by simp only [go_sem, seval, f1], by simp only [go_sem, seval, f4], by simp only [go_sem, seval, f5], by simp only [go_sem, seval], b, v + 1, by rw [← gm5 ns hv]⟩
   ·have np : pf E0 180 [ints xs, .i .i64 6] = some (.i .i64 (ns 6)) := np
    simp (disch := omega) only [go_sem, seval, wqq, f0, f1, f4, f5, f6, np, t1]
    exact ih 7 _ _ (by omega) ⟨by omega, by simp only [go_sem, seval, f0], by simp only [go_sem, seval, f1], by simp only [go_sem, seval, f4], by simp only [go_sem, seval, f5], by simp only [go_sem, seval], b, v + 1, by rw [← gm6 ns hv]⟩
   ·have np : pf E0 180 [ints xs, .i .i64 7] = some (.i .i64 (ns 7)) := np
    simp (disch := omega) only [go_sem, seval, wqq, f0, f1, f4, f5, f6, np, t1]
    exact ih 8 _ _ (by omega) ⟨by omega, by simp only [go_sem, seval, f0], by simp only [go_sem, seval, f1], by simp only [go_sem, seval, f4], by simp only [go_sem, seval, f5], by simp only [go_sem, seval], b, v + 1, by rw [← gm7 ns hv]⟩
   ·have np : pf E0 180 [ints xs, .i .i64 8] = some (.i .i64 (ns 8)) := np
    simp (disch := omega) only [go_sem, seval, wqq, f0, f1, f4, f5, f6, np, t1]
    exact ih 9 _ _ (by omega) ⟨by omega, by simp only [go_sem, seval, f0], by simp only [go_sem, seval, f1], by simp only [go_sem, seval, f4], by simp only [go_sem, seval, f5], by simp only [go_sem, seval], b, v + 1, by rw [← gm8 ns hv]⟩
  rcases zbu ((ns i).tmod 6 = -1) with t2 | t2
  ·have hv : gEnt (ns i) (g0P i) = ((ns i).tdiv 6).tmod 8 := by unfold gEnt; rw [if_pos (.inr (of_eq_true t2))]
   obtain rfl | rfl | rfl | rfl | rfl | rfl | rfl | rfl | rfl := zch h9
   ·have np : pf E0 180 [ints xs, .i .i64 0] = some (.i .i64 (ns 0)) := np
    simp (disch := omega) only [go_sem, seval, wqq, f0, f1, f4, f5, f6, np, t1, t2]
    exact ih 1 _ _ (by omega) ⟨by omega, by simp only [go_sem, seval, f0], by simp only [go_sem, seval, f1], by simp only [go_sem, seval, f4], by simp only [go_sem, seval, f5], by simp only [go_sem, seval], b, v + 1, by rw [← gm0 ns hv]⟩
   ·have np : pf E0 180 [ints xs, .i .i64 1] = some (.i .i64 (ns 1)) := np
    simp (disch := omega) only [go_sem, seval, wqq, f0, f1, f4, f5, f6, np, t1, t2]
    exact ih 2 _ _ (by omega) ⟨by omega, by simp only [go_sem, seval, f0], by simp only [go_sem, seval, f1], by simp only [go_sem, seval, f4], by simp only [go_sem, seval, f5], by simp only [go_sem, seval], b, v + 1, by rw [← gm1 ns hv]⟩
   ·have np : pf E0 180 [ints xs, .i .i64 2] = some (.i .i64 (ns 2)) := np
    simp (disch := omega) only [go_sem, seval, wqq, f0, f1, f4, f5, f6, np, t1, t2]
    exact ih 3 _ _ (by omega) ⟨by omega, by simp only [go_sem, seval, f0], by simp only [go_sem, seval, f1], by simp only [go_sem, seval, f4], by simp only [go_sem, seval, f5], by simp only [go_sem, seval], b, v + 1, by rw [← gm2 ns hv]⟩
   ·have np : pf E0 180 [ints xs, .i .i64 3] = some (.i .i64 (ns 3)) := np
    simp (disch := omega) only [go_sem, seval, wqq, f0, f1, f4, f5, f6, np, t1, t2]
    exact ih 4 _ _ (by omega) ⟨by omega, by simp only [go_sem, seval, f0], by simp only [go_sem, seval, f1], by simp only [go_sem, seval, f4], by simp only [go_sem, seval, f5], by simp only [go_sem, seval], b, v + 1, by rw [← gm3 ns hv]⟩
   ·have np : pf E0 180 [ints xs, .i .i64 4] = some (.i .i64 (ns 4)) := np
    simp (disch := omega) only [go_sem, seval, wqq, f0, f1, f4, f5, f6, np, t1, t2]
    exact ih 5 _ _ (by omega) ⟨by omega, by simp only [go_sem, seval, f0], by simp only [go_sem, seval, f1], by simp only [go_sem, seval, f4], by simp only [go_sem, seval, f5], by simp only [go_sem, seval], b, v + 1, by rw [← gm4 ns hv]⟩
   ·have np : pf E0 180 [ints xs, .i .i64 5] = some (.i .i64 (ns 5)) := np
    simp (disch := omega) only [go_sem, seval, wqq, f0, f1, f4, f5, f6, np, t1, t2]
    exact ih 6 _ _ (by omega) ⟨by omega, by simp only [go_sem, seval, f0], by simp only [go_sem, seval, f1], by simp only [go_sem, seval, f4], by simp only [go_sem, seval, f5], by simp only [go_sem, seval], b, v + 1, by rw [← gm5 ns hv]⟩
   ·have np : pf E0 180 [ints xs, .i .i64 6] = some (.i .i64 (ns 6)) := np
    simp (disch := omega) only [go_sem, seval, wqq, f0, f1, f4, f5, f6, np, t1, t2]
    exact ih 7 _ _ (by omega) ⟨by omega, by simp only [go_sem, seval, f0], by simp only [go_sem, seval, f1], by simp only [go_sem, seval, f4], by simp only [go_sem, seval, f5], by simp only [go_sem, seval], b, v + 1, by rw [← gm6 ns hv]⟩
   ·have np : pf E0 180 [ints xs, .i .i64 7] = some (.i .i64 (ns 7)) := np
    simp (disch := omega) only [go_sem, seval, wqq, f0, f1, f4, f5, f6, np, t1, t2]
    exact ih 8 _ _ (by omega) ⟨by omega, by simp only [go_sem, seval, f0], by simp only [go_sem, seval, f1], by simp only [go_sem, seval, f4], by simp only [go_sem, seval, f5], by simp only [go_sem, seval], b, v + 1, by rw [← gm7 ns hv]⟩
   ·have np : pf E0 180 [ints xs, .i .i64 8] = some (.i .i64 (ns 8)) := np
    simp (disch := omega) only [go_sem, seval, wqq, f0, f1, f4, f5, f6, np, t1, t2]
    exact ih 9 _ _ (by omega) ⟨by omega, by simp only [go_sem, seval, f0], by simp only [go_sem, seval, f1], by simp only [go_sem, seval, f4], by simp only [go_sem, seval, f5], by simp only [go_sem, seval], b, v + 1, by rw [← gm8 ns hv]⟩
  have nt : ¬ ((ns i).tmod 6 = 1 ∨ (ns i).tmod 6 = -1) := fun q => q.elim (of_eq_false t1) (of_eq_false t2)
  rcases zbu ((ns i).tmod 6 = 2) with t3 | t3
  ·have hv : gEnt (ns i) (g0P i) = ((ns i).tdiv 6).tmod 1000 := by unfold gEnt; rw [if_neg nt, if_pos (of_eq_true t3)]
   obtain rfl | rfl | rfl | rfl | rfl | rfl | rfl | rfl | rfl := zch h9
   ·have np : pf E0 180 [ints xs, .i .i64 0] = some (.i .i64 (ns 0)) := np
    simp (disch := omega) only [go_sem, seval, wqq, f0, f1, f4, f5, f6, np, t1, t2, t3]
    exact ih 1 _ _ (by omega) ⟨by omega, by simp only [go_sem, seval, f0], by simp only [go_sem, seval, f1], by simp only [go_sem, seval, f4], by simp only [go_sem, seval, f5], by simp only [go_sem, seval], b, v + 1, by rw [← gm0 ns hv]⟩
   ·have np : pf E0 180 [ints xs, .i .i64 1] = some (.i .i64 (ns 1)) := np
    simp (disch := omega) only [go_sem, seval, wqq, f0, f1, f4, f5, f6, np, t1, t2, t3]
    exact ih 2 _ _ (by omega) ⟨by omega, by simp only [go_sem, seval, f0], by simp only [go_sem, seval, f1], by simp only [go_sem, seval, f4], by simp only [go_sem, seval, f5], by simp only [go_sem, seval], b, v + 1, by rw [← gm1 ns hv]⟩
   ·have np : pf E0 180 [ints xs, .i .i64 2] = some (.i .i64 (ns 2)) := np
    simp (disch := omega) only [go_sem, seval, wqq, f0, f1, f4, f5, f6, np, t1, t2, t3]
    exact ih 3 _ _ (by omega) ⟨by omega, by simp only [go_sem, seval, f0], by simp only [go_sem, seval, f1], by simp only [go_sem, seval, f4], by simp only [go_sem, seval, f5], by simp only [go_sem, seval], b, v + 1, by rw [← gm2 ns hv]⟩
   ·have np : pf E0 180 [ints xs, .i .i64 3] = some (.i .i64 (ns 3)) := np
    simp (disch := omega) only [go_sem, seval, wqq, f0, f1, f4, f5, f6, np, t1, t2, t3]
    exact ih 4 _ _ (by omega) ⟨by omega, by simp only [go_sem, seval, f0], by simp only [go_sem, seval, f1], by simp only [go_sem, seval, f4], by simp only [go_sem, seval, f5], by simp only [go_sem, seval], b, v + 1, by rw [← gm3 ns hv]⟩
   ·have np : pf E0 180 [ints xs, .i .i64 4] = some (.i .i64 (ns 4)) := np
    simp (disch := omega) only [go_sem, seval, wqq, f0, f1, f4, f5, f6, np, t1, t2, t3]
    exact ih 5 _ _ (by omega) ⟨by omega, by simp only [go_sem, seval, f0], by simp only [go_sem, seval, f1], by simp only [go_sem, seval, f4], by simp only [go_sem, seval, f5], by simp only [go_sem, seval], b, v + 1, by rw [← gm4 ns hv]⟩
   ·have np : pf E0 180 [ints xs, .i .i64 5] = some (.i .i64 (ns 5)) := np
    simp (disch := omega) only [go_sem, seval, wqq, f0, f1, f4, f5, f6, np, t1, t2, t3]
    exact ih 6 _ _ (by omega) ⟨by omega, by simp only [go_sem, seval, f0], by simp only [go_sem, seval, f1], by simp only [go_sem, seval, f4], by simp only [go_sem, seval, f5], by simp only [go_sem, seval], b, v + 1, by rw [← gm5 ns hv]⟩
   ·have np : pf E0 180 [ints xs, .i .i64 6] = some (.i .i64 (ns 6)) := np
    simp (disch := omega) only [go_sem, seval, wqq, f0, f1, f4, f5, f6, np, t1, t2, t3]
    exact ih 7 _ _ (by omega) ⟨by omega, by simp only [go_sem, seval, f0], by simp only [go_sem, seval, f1], by simp only [go_sem, seval, f4], by simp only [go_sem, seval, f5], by simp only [go_sem, seval], b, v + 1, by rw [← gm6 ns hv]⟩
   ·have np : pf E0 180 [ints xs, .i .i64 7] = some (.i .i64 (ns 7)) := np
    simp (disch := omega) only [go_sem, seval, wqq, f0, f1, f4, f5, f6, np, t1, t2, t3]
    exact ih 8 _ _ (by omega) ⟨by omega, by simp only [go_sem, seval, f0], by simp only [go_sem, seval, f1], by simp only [go_sem, seval, f4], by simp only [go_sem, seval, f5], by simp only [go_sem, seval], b, v + 1, by rw [← gm7 ns hv]⟩
   ·have np : pf E0 180 [ints xs, .i .i64 8] = some (.i .i64 (ns 8)) := np
    simp (disch := omega) only [go_sem, seval, wqq, f0, f1, f4, f5, f6, np, t1, t2, t3]
    exact ih 9 _ _ (by omega) ⟨by omega, by simp only [go_sem, seval, f0], by simp only [go_sem, seval, f1], by simp only [go_sem, seval, f4], by simp only [go_sem, seval, f5], by simp only [go_sem, seval], b, v + 1, by rw [← gm8 ns hv]⟩
  rcases zbu ((ns i).tmod 6 = 3) with t4 | t4
  ·have hv : gEnt (ns i) (g0P i) = 1073741824 - ((ns i).tdiv 6).tmod 4 := by unfold gEnt; rw [if_neg nt, if_neg (of_eq_false t3), if_pos (of_eq_true t4)]
   obtain rfl | rfl | rfl | rfl | rfl | rfl | rfl | rfl | rfl := zch h9
   ·have np : pf E0 180 [ints xs, .i .i64 0] = some (.i .i64 (ns 0)) := np
    simp (disch := omega) only [go_sem, seval, wqq, f0, f1, f4, f5, f6, np, t1, t2, t3, t4]
    exact ih 1 _ _ (by omega) ⟨by omega, by simp only [go_sem, seval, f0], by simp only [go_sem, seval, f1], by simp only [go_sem, seval, f4], by simp only [go_sem, seval, f5], by simp only [go_sem, seval], b, v + 1, by rw [← gm0 ns hv]⟩
   ·have np : pf E0 180 [ints xs, .i .i64 1] = some (.i .i64 (ns 1)) := np
    simp (disch := omega) only [go_sem, seval, wqq, f0, f1, f4, f5, f6, np, t1, t2, t3, t4]
    exact ih 2 _ _ (by omega) ⟨by omega, by simp only [go_sem, seval, f0], by simp only [go_sem, seval, f1], by simp only [go_sem, seval, f4], by simp only [go_sem, seval, f5], by simp only [go_sem, seval], b, v + 1, by rw [← gm1 ns hv]⟩
   ·have np : pf E0 180 [ints xs, .i .i64 2] = some (.i .i64 (ns 2)) := np
    simp (disch := omega) only [go_sem, seval, wqq, f0, f1, f4, f5, f6, np, t1, t2, t3, t4]
    exact ih 3 _ _ (by omega) ⟨by omega, by simp only [go_sem, seval, f0], by simp only [go_sem, seval, f1], by simp only [go_sem, seval, f4], by simp only [go_sem, seval, f5], by simp only [go_sem, seval], b, v + 1, by rw [← gm2 ns hv]⟩
   ·have np : pf E0 180 [ints xs, .i .i64 3] = some (.i .i64 (ns 3)) := np
    simp (disch := omega) only [go_sem, seval, wqq, f0, f1, f4, f5, f6, np, t1, t2, t3, t4]
    exact ih 4 _ _ (by omega) ⟨by omega, by simp only [go_sem, seval, f0], by simp only [go_sem, seval, f1], by simp only [go_sem, seval, f4], by simp only [go_sem, seval, f5], by simp only [go_sem, seval], b, v + 1, by rw [← gm3 ns hv]⟩
   ·have np : pf E0 180 [ints xs, .i .i64 4] = some (.i .i64 (ns 4)) := np
    simp (disch := omega) only [go_sem, seval, wqq, f0, f1, f4, f5, f6, np, t1, t2, t3, t4]
    exact ih 5 _ _ (by omega) ⟨by omega, by simp only [go_sem, seval, f0], by simp only [go_sem, seval, f1], by simp only [go_sem, seval, f4], by simp only [go_sem, seval, f5], by simp only [go_sem, seval], b, v + 1, by rw [← gm4 ns hv]⟩
   ·have np : pf E0 180 [ints xs, .i .i64 5] = some (.i .i64 (ns 5)) := np
    simp (disch := omega) only [go_sem, seval, wqq, f0, f1, f4, f5, f6, np, t1, t2, t3, t4]
    exact ih 6 _ _ (by omega) ⟨by omega, by simp only [go_sem, seval, f0], by simp only [go_sem, seval, f1], by simp only [go_sem, seval, f4], by simp only [go_sem, seval, f5], by simp only [go_sem, seval], b, v + 1, by rw [← gm5 ns hv]⟩
   ·have np : pf E0 180 [ints xs, .i .i64 6] = some (.i .i64 (ns 6)) := np
    simp (disch := omega) only [go_sem, seval, wqq, f0, f1, f4, f5, f6, np, t1, t2, t3, t4]
    exact ih 7 _ _ (by omega) ⟨by omega, by simp only [go_sem, seval, f0], by simp only [go_sem, seval, f1], by simp only [go_sem, seval, f4], by simp only [go_sem, seval, f5], by simp only [go_sem, seval], b, v + 1, by rw [← gm6 ns hv]⟩
   ·have np : pf E0 180 [ints xs, .i .i64 7] = some (.i .i64 (ns 7)) := np
    simp (disch := omega) only [go_sem, seval, wqq, f0, f1, f4, f5, f6, np, t1, t2, t3, t4]
    exact ih 8 _ _ (by omega) ⟨by omega, by simp only [go_sem, seval, f0], by simp only [go_sem, seval, f1], by simp only [go_sem, seval, f4], by simp only [go_sem, seval, f5], by simp only [go_sem, seval], b, v + 1, by rw [← gm7 ns hv]⟩
   ·have np : pf E0 180 [ints xs, .i .i64 8] = some (.i .i64 (ns 8)) := np
    simp (disch := omega) only [go_sem, seval, wqq, f0, f1, f4, f5, f6, np, t1, t2, t3, t4]
    exact ih 9 _ _ (by omega) ⟨by omega, by simp only [go_sem, seval, f0], by simp only [go_sem, seval, f1], by simp only [go_sem, seval, f4], by simp only [go_sem, seval, f5], by simp only [go_sem, seval], b, v + 1, by rw [← gm8 ns hv]⟩
  have hv : gEnt (ns i) (g0P i) = g0P i := by unfold gEnt; rw [if_neg nt, if_neg (of_eq_false t3), if_neg (of_eq_false t4)]
  obtain rfl | rfl | rfl | rfl | rfl | rfl | rfl | rfl | rfl := zch h9
  ·have np : pf E0 180 [ints xs, .i .i64 0] = some (.i .i64 (ns 0)) := np
   simp (disch := omega) only [go_sem, seval, wqq, f0, f1, f4, f5, f6, np, t1, t2, t3, t4]
   exact ih 1 _ _ (by omega) ⟨by omega, by simp only [go_sem, seval, f0], by simp only [go_sem, seval, f1], by simp only [go_sem, seval, f4], by simp only [go_sem, seval, f5], by simp only [go_sem, seval], b, v, by rw [← gk0 ns hv]⟩
  ·have np : pf E0 180 [ints xs, .i .i64 1] = some (.i .i64 (ns 1)) := np
   simp (disch := omega) only [go_sem, seval, wqq, f0, f1, f4, f5, f6, np, t1, t2, t3, t4]
   exact ih 2 _ _ (by omega) ⟨by omega, by simp only [go_sem, seval, f0], by simp only [go_sem, seval, f1], by simp only [go_sem, seval, f4], by simp only [go_sem, seval, f5], by simp only [go_sem, seval], b, v, by rw [← gk1 ns hv]⟩
  ·have np : pf E0 180 [ints xs, .i .i64 2] = some (.i .i64 (ns 2)) := np
   simp (disch := omega) only [go_sem, seval, wqq, f0, f1, f4, f5, f6, np, t1, t2, t3, t4]
   exact ih 3 _ _ (by omega) ⟨by omega, by simp only [go_sem, seval, f0], by simp only [go_sem, seval, f1], by simp only [go_sem, seval, f4], by simp only [go_sem, seval, f5], by simp only [go_sem, seval], b, v, by rw [← gk2 ns hv]⟩
  ·have np : pf E0 180 [ints xs, .i .i64 3] = some (.i .i64 (ns 3)) := np
   simp (disch := omega) only [go_sem, seval, wqq, f0, f1, f4, f5, f6, np, t1, t2, t3, t4]
   exact ih 4 _ _ (by omega) ⟨by omega, by simp only [go_sem, seval, f0], by simp only [go_sem, seval, f1], by simp only [go_sem, seval, f4], by simp only [go_sem, seval, f5], by simp only [go_sem, seval], b, v, by rw [← gk3 ns hv]⟩
  ·have np : pf E0 180 [ints xs, .i .i64 4] = some (.i .i64 (ns 4)) := np
   simp (disch := omega) only [go_sem, seval, wqq, f0, f1, f4, f5, f6, np, t1, t2, t3, t4]
   exact ih 5 _ _ (by omega) ⟨by omega, by simp only [go_sem, seval, f0], by simp only [go_sem, seval, f1], by simp only [go_sem, seval, f4], by simp only [go_sem, seval, f5], by simp only [go_sem, seval], b, v, by rw [← gk4 ns hv]⟩
  ·have np : pf E0 180 [ints xs, .i .i64 5] = some (.i .i64 (ns 5)) := np
   simp (disch := omega) only [go_sem, seval, wqq, f0, f1, f4, f5, f6, np, t1, t2, t3, t4]
   exact ih 6 _ _ (by omega) ⟨by omega, by simp only [go_sem, seval, f0], by simp only [go_sem, seval, f1], by simp only [go_sem, seval, f4], by simp only [go_sem, seval, f5], by simp only [go_sem, seval], b, v, by rw [← gk5 ns hv]⟩
  ·have np : pf E0 180 [ints xs, .i .i64 6] = some (.i .i64 (ns 6)) := np
   simp (disch := omega) only [go_sem, seval, wqq, f0, f1, f4, f5, f6, np, t1, t2, t3, t4]
   exact ih 7 _ _ (by omega) ⟨by omega, by simp only [go_sem, seval, f0], by simp only [go_sem, seval, f1], by simp only [go_sem, seval, f4], by simp only [go_sem, seval, f5], by simp only [go_sem, seval], b, v, by rw [← gk6 ns hv]⟩
  ·have np : pf E0 180 [ints xs, .i .i64 7] = some (.i .i64 (ns 7)) := np
   simp (disch := omega) only [go_sem, seval, wqq, f0, f1, f4, f5, f6, np, t1, t2, t3, t4]
   exact ih 8 _ _ (by omega) ⟨by omega, by simp only [go_sem, seval, f0], by simp only [go_sem, seval, f1], by simp only [go_sem, seval, f4], by simp only [go_sem, seval, f5], by simp only [go_sem, seval], b, v, by rw [← gk7 ns hv]⟩
  ·have np : pf E0 180 [ints xs, .i .i64 8] = some (.i .i64 (ns 8)) := np
   simp (disch := omega) only [go_sem, seval, wqq, f0, f1, f4, f5, f6, np, t1, t2, t3, t4]
   exact ih 9 _ _ (by omega) ⟨by omega, by simp only [go_sem, seval, f0], by simp only [go_sem, seval, f1], by simp only [go_sem, seval, f4], by simp only [go_sem, seval, f5], by simp only [go_sem, seval], b, v, by rw [← gk8 ns hv]⟩
 ·obtain rfl : i = 9 := by omega
  simp (disch := omega) only [go_sem, seval, wqq, f0, f1, f4, f5, f6]
end Go.Eng
namespace Go.Eng
def selP (a b c d e : Nat → Int) : Nat → Nat → Int := fun t => if t = 0 then a else if t = 1 then b else if t = 2 then c else if t = 3 then d else e
def c45 (P : Nat → Nat → Int) : List PV := cI (P 0) ++ (cI (P 1) ++ (cI (P 2) ++ (cI (P 3) ++ cI (P 4))))
theorem zkx (P : Nat → Nat → Int) : (c45 P).length = 45 := rfl
theorem zjT (P : Nat → Nat → Int) {i : Nat} (h : i < 5) : ((c45 P).drop (i * 9)).take 9 = cI (P i) := by
 obtain rfl | rfl | rfl | rfl | rfl : i = 0 ∨ i = 1 ∨ i = 2 ∨ i = 3 ∨ i = 4 := by omega
 all_goals rfl
def tMix (p : Nat → Int) (s : Int) (i : Nat) : Nat → Int := fun e => if e < i then (p e).tmod 100000000 * s else p e
theorem tm0 (p : Nat → Int) (s : Int) : (cI (tMix p s 0)).set 0 (.i .i64 ((p 0).tmod 100000000 * s)) = cI (tMix p s 1) := rfl
theorem tm1 (p : Nat → Int) (s : Int) : (cI (tMix p s 1)).set 1 (.i .i64 ((p 1).tmod 100000000 * s)) = cI (tMix p s 2) := rfl
theorem tm2 (p : Nat → Int) (s : Int) : (cI (tMix p s 2)).set 2 (.i .i64 ((p 2).tmod 100000000 * s)) = cI (tMix p s 3) := rfl
theorem tm3 (p : Nat → Int) (s : Int) : (cI (tMix p s 3)).set 3 (.i .i64 ((p 3).tmod 100000000 * s)) = cI (tMix p s 4) := rfl
theorem tm4 (p : Nat → Int) (s : Int) : (cI (tMix p s 4)).set 4 (.i .i64 ((p 4).tmod 100000000 * s)) = cI (tMix p s 5) := rfl
theorem tm5 (p : Nat → Int) (s : Int) : (cI (tMix p s 5)).set 5 (.i .i64 ((p 5).tmod 100000000 * s)) = cI (tMix p s 6) := rfl
theorem tm6 (p : Nat → Int) (s : Int) : (cI (tMix p s 6)).set 6 (.i .i64 ((p 6).tmod 100000000 * s)) = cI (tMix p s 7) := rfl
theorem tm7 (p : Nat → Int) (s : Int) : (cI (tMix p s 7)).set 7 (.i .i64 ((p 7).tmod 100000000 * s)) = cI (tMix p s 8) := rfl
theorem tm8 (p : Nat → Int) (s : Int) : (cI (tMix p s 8)).set 8 (.i .i64 ((p 8).tmod 100000000 * s)) = cI (tMix p s 9) := rfl
set_option maxHeartbeats 16000000 in
set_option maxRecDepth 100000 in
theorem p_ProjInverts {xs ks : List Int} (hx : Ints xs) (hk : Ints ks) {at_ n : Int} (fa : Fits64 at_) (fn : Fits64 n) : pf E0 322 [ints xs, ints ks, .i .i64 at_, .i .i64 n] = some (.b true) := by
 obtain ⟨P0, h0, g0⟩ := zh9 hx
 obtain ⟨P1, h1, g1⟩ := zh9 hk
 obtain ⟨P2, h2, g2⟩ := zju h0 fa fn
 obtain ⟨P3, h3, g3⟩ := zg0 h1 fn
 have lv := zif
 have s1 := Int.lt_tmod_of_pos n (show (0 : Int) < 9 by decide)
 have s2 := Int.tmod_lt_of_pos n (show (0 : Int) < 9 by decide)
 have sb : -7 ≤ 1 + n.tmod 9 ∧ 1 + n.tmod 9 ≤ 9 := by omega
 have pb : ∀ x : Int, -900000000 ≤ x.tmod 100000000 * (1 + n.tmod 9) ∧ x.tmod 100000000 * (1 + n.tmod 9) ≤ 900000000 := fun x => by
  have a1 := Int.lt_tmod_of_pos x (show (0 : Int) < 100000000 by decide)
  have a2 := Int.tmod_lt_of_pos x (show (0 : Int) < 100000000 by decide)
  have h3 : (x.tmod 100000000 * (1 + n.tmod 9)).natAbs ≤ 100000000 * 9 := by
   rw [Int.natAbs_mul]
   exact Nat.mul_le_mul (by omega) (by omega)
  omega
 have h4 : ∀ e, Fits64 (tMix P0 (1 + n.tmod 9) 9 e) := fun e => by
  show Fits64 (if e < 9 then (P0 e).tmod 100000000 * (1 + n.tmod 9) else P0 e)
  split
  ·have := pb (P0 e); unfold Fits64; omega
  ·exact h0 e
 have hP : ∀ i e, Fits64 (selP P0 P1 P2 P3 (tMix P0 (1 + n.tmod 9) 9) i e) := fun i e => by
  unfold selP
  split
  ·exact h0 e
  ·split
   ·exact h1 e
   ·split
    ·exact h2 e
    ·split
     ·exact h3 e
     ·exact h4 e
 have tl : ∀ e : Nat, e < 9 → (tMix P0 (1 + n.tmod 9) e) e = P0 e := fun e _ => by unfold tMix; rw [if_neg (by omega)]
 have f0' := hF P0
 have f1' := hF P1
 have f4' := hF (tMix P0 (1 + n.tmod 9) 9)
 refine zac (xf := x_l12_ProjInverts) rfl (by simp [x_l12_ProjInverts]) ?_
 simp only [x_l12_ProjInverts]
 simp (disch := omega) only [go_sem, seval, wqq, g0, g1]
 refine zar x_l12_ProjInverts_l1.eq_1 (fun (i : Nat) fr M => i ≤ 9 ∧ fr 2 = .i .i64 at_ ∧ fr 3 = .i .i64 n ∧ fr 9 = .p 0 0 ∧ fr 10 = .p 1 0 ∧ fr 11 = .p 2 0 ∧ fr 12 = (PV.i .i64 ((i : Nat) : Int)) ∧ ∃ v0 v1 v, M = [some ⟨cI P0, true, v0⟩, some ⟨cI P1, true, v1⟩, some ⟨cI (tMix P0 (1 + n.tmod 9) i), true, v⟩]) (fun i => 9 - i) ?_ 0 ⟨by omega, by simp only [go_sem, seval], by simp only [go_sem, seval], by simp only [go_sem, seval], by simp only [go_sem, seval], by simp only [go_sem, seval], by simp only [go_sem, seval], _, _, _, rfl⟩
 rintro i fr M ⟨hi, f2, f3, f9, f10, f11, f12, v0, v1, v, rfl⟩ ih
 rcases Nat.lt_or_ge i 9 with h9 | h9
 ·have pbi := pb (P0 i)
  obtain rfl | rfl | rfl | rfl | rfl | rfl | rfl | rfl | rfl := zch h9
  ·have ci : (cI P0)[0]? = some (.i .i64 (P0 0)) := rfl
   simp (disch := omega) only [go_sem, seval, wqq, f2, f3, f9, f10, f11, f12, ci]
   exact ih 1 _ _ (by omega) ⟨by omega, by simp only [go_sem, seval, f2], by simp only [go_sem, seval, f3], by simp only [go_sem, seval, f9], by simp only [go_sem, seval, f10], by simp only [go_sem, seval, f11], by simp only [go_sem, seval], v0, v1, v + 1, by rw [← tm0]⟩
  ·have ci : (cI P0)[1]? = some (.i .i64 (P0 1)) := rfl
   simp (disch := omega) only [go_sem, seval, wqq, f2, f3, f9, f10, f11, f12, ci]
   exact ih 2 _ _ (by omega) ⟨by omega, by simp only [go_sem, seval, f2], by simp only [go_sem, seval, f3], by simp only [go_sem, seval, f9], by simp only [go_sem, seval, f10], by simp only [go_sem, seval, f11], by simp only [go_sem, seval], v0, v1, v + 1, by rw [← tm1]⟩
  ·have ci : (cI P0)[2]? = some (.i .i64 (P0 2)) := rfl
   simp (disch := omega) only [go_sem, seval, wqq, f2, f3, f9, f10, f11, f12, ci]
   exact ih 3 _ _ (by omega) ⟨by omega, by simp only [go_sem, seval, f2], by simp only [go_sem, seval, f3], by simp only [go_sem, seval, f9], by simp only [go_sem, seval, f10], by simp only [go_sem, seval, f11], by simp only [go_sem, seval], v0, v1, v + 1, by rw [← tm2]⟩
  ·have ci : (cI P0)[3]? = some (.i .i64 (P0 3)) := rfl
   simp (disch := omega) only [go_sem, seval, wqq, f2, f3, f9, f10, f11, f12, ci]
   exact ih 4 _ _ (by omega) ⟨by omega, by simp only [go_sem, seval, f2], by simp only [go_sem, seval, f3], by simp only [go_sem, seval, f9], by simp only [go_sem, seval, f10], by simp only [go_sem, seval, f11], by simp only [go_sem, seval], v0, v1, v + 1, by rw [← tm3]⟩
  ·have ci : (cI P0)[4]? = some (.i .i64 (P0 4)) := rfl
   simp (disch := omega) only [go_sem, seval, wqq, f2, f3, f9, f10, f11, f12, ci]
   exact ih 5 _ _ (by omega) ⟨by omega, by simp only [go_sem, seval, f2], by simp only [go_sem, seval, f3], by simp only [go_sem, seval, f9], by simp only [go_sem, seval, f10], by simp only [go_sem, seval, f11], by simp only [go_sem, seval], v0, v1, v + 1, by rw [← tm4]⟩
  ·have ci : (cI P0)[5]? = some (.i .i64 (P0 5)) := rfl
   simp (disch := omega) only [go_sem, seval, wqq, f2, f3, f9, f10, f11, f12, ci]
   exact ih 6 _ _ (by omega) ⟨by omega, by simp only [go_sem, seval, f2], by simp only [go_sem, seval, f3], by simp only [go_sem, seval, f9], by simp only [go_sem, seval, f10], by simp only [go_sem, seval, f11], by simp only [go_sem, seval], v0, v1, v + 1, by rw [← tm5]⟩
  ·have ci : (cI P0)[6]? = some (.i .i64 (P0 6)) := rfl
   simp (disch := omega) only [go_sem, seval, wqq, f2, f3, f9, f10, f11, f12, ci]
   exact ih 7 _ _ (by omega) ⟨by omega, by simp only [go_sem, seval, f2], by simp only [go_sem, seval, f3], by simp only [go_sem, seval, f9], by simp only [go_sem, seval, f10], by simp only [go_sem, seval, f11], by simp only [go_sem, seval], v0, v1, v + 1, by rw [← tm6]⟩
  ·have ci : (cI P0)[7]? = some (.i .i64 (P0 7)) := rfl
   simp (disch := omega) only [go_sem, seval, wqq, f2, f3, f9, f10, f11, f12, ci]
   exact ih 8 _ _ (by omega) ⟨by omega, by simp only [go_sem, seval, f2], by simp only [go_sem, seval, f3], by simp only [go_sem, seval, f9], by simp only [go_sem, seval, f10], by simp only [go_sem, seval, f11], by simp only [go_sem, seval], v0, v1, v + 1, by rw [← tm7]⟩
  ·have ci : (cI P0)[8]? = some (.i .i64 (P0 8)) := rfl
   simp (disch := omega) only [go_sem, seval, wqq, f2, f3, f9, f10, f11, f12, ci]
   exact ih 9 _ _ (by omega) ⟨by omega, by simp only [go_sem, seval, f2], by simp only [go_sem, seval, f3], by simp only [go_sem, seval, f9], by simp only [go_sem, seval, f10], by simp only [go_sem, seval, f11], by simp only [go_sem, seval], v0, v1, v + 1, by rw [← tm8]⟩
 ·obtain rfl : i = 9 := by omega
  clear ih
  simp (disch := omega) only [go_sem, seval, wqq, f2, f3, f9, f10, f11, f12]
  refine zai [9, 10, 11] rfl (by simp only [go_sem, seval, f9, f10, f11]) ?_
  simp (disch := omega) only [go_sem, seval, wqq, f2, f3, f9, f10, f11, f12, g2, g3, zag, f0', f1', f4', zaK, zan]
  generalize hPs : selP P0 P1 P2 P3 (tMix P0 (1 + n.tmod 9) 9) = P at *
  refine zar x_l12_ProjInverts_l2.eq_1 (fun (i : Nat) fr M => i ≤ 5 ∧ fr 13 = .sl 3 0 5 5 9 ∧ fr 14 = (PV.i .i64 ((i : Nat) : Int)) ∧ ∃ b0 b1 b2 G, M = b0 :: b1 :: b2 :: some ⟨c45 P, true, 0⟩ :: G) (fun i => 5 - i) ?_ 0 ⟨by omega, by simp only [go_sem, seval], by simp only [go_sem, seval], _, _, _, [], by rw [← hPs]; rfl⟩
  clear hPs f2 f3 f9 f10 f11 f12 g0 g1 g2 g3 f0' f1' f4'
  rintro i fr M ⟨hi, f13, f14, b0, b1, b2, G, rfl⟩ ih
  have cl := zkx P
  rcases Nat.lt_or_ge i 5 with h5 | h5
  ·have q1 : ((i : Int) < 5) = True := eq_true (by omega)
   have iL : (i < 5) = True := eq_true h5
   have iB : (i * 9 + 9 ≤ 45) = True := eq_true (by omega)
   have ia := zjT P h5
   have n1 := zev (hP i)
   have n2 := ze7 (hP i)
   have i1 := ze3 (hP i)
   have i2 := zg2 (hP i)
   have e1 : eqaP [1, 1, 1, 1, 1, 1, 1, 1, 1] (pI (NP (P i))) (pI (NP (P i))) = some true := by rw [zmn, zfv]
   have e2 : eqaP [1, 1, 1, 1, 1, 1, 1, 1, 1] (pI (IP (P i))) (pI (IP (P i))) = some true := by rw [zmn, zfv]
   simp (disch := omega) only [go_sem, seval, wqq, f13, f14, cl, q1, iL, iB, ia, n1, n2, i1, i2, e1, e2, mG, mG0, sG, sG0, lG, lqq]
   refine zar x_l12_ProjInverts_l3.eq_1 (fun (j : Nat) fr M => j ≤ 5 ∧ fr 13 = .sl 3 0 5 5 9 ∧ fr 14 = (PV.i .i64 ((i : Nat) : Int)) ∧ fr 17 = .p (G.length + 5) 0 ∧ fr 18 = .i .i64 (NE (P i)) ∧ fr 23 = (PV.i .i64 ((j : Nat) : Int)) ∧ ∃ b0 b1 b2 A1 v R, M = b0 :: b1 :: b2 :: some ⟨c45 P, true, 0⟩ :: (G ++ (A1 :: some ⟨cI (NP (P i)), true, v⟩ :: R))) (fun j => 5 - j) ?_ 0 ⟨by omega, by simp only [go_sem, seval, f13], by simp only [go_sem, seval, f14], by simp only [go_sem, seval], by simp only [go_sem, seval], by simp only [go_sem, seval], _, _, _, _, _, _, rfl⟩
   clear f13 f14
   rintro j fr M ⟨hj, f13, f14, f17, f18, f23, b0, b1, b2, A1, v, R, rfl⟩ ih2
   rcases Nat.lt_or_ge j 5 with h6 | h6
   ·have q2 : ((j : Int) < 5) = True := eq_true (by omega)
    have jL : (j < 5) = True := eq_true h6
    have jB : (j * 9 + 9 ≤ 45) = True := eq_true (by omega)
    have ja := zjT P h6
    have c1 := zh5 (hP i) (hP j)
    have c2 := zg1 (hP i) (hP j)
    have n3 := ze7 (hP j)
    have sm := zlg (hP i) (hP j)
    have e3 : eqaP [1, 1, 1, 1, 1, 1, 1, 1, 1] (pI (CP (P i) (P j))) (pI (CP (P i) (P j))) = some true := by rw [zmn, zfv]
    have e4 := zmn (NP (P i)) (NP (P j))
    rcases zbu (NE (P i) = 0) with t1 | t1
    ·rcases zbu (NE (P j) = 0) with t2 | t2
     ·have hs : smB (P i) (P j) = e9 (NP (P i)) (NP (P j)) := by unfold smB; rw [of_eq_true t1, of_eq_true t2]; simp
      rw [hs] at sm
      simp (disch := omega) only [go_sem, seval, wqq, f13, f14, f17, f18, f23, cl, q2, iL, iB, ia, jL, jB, ja, c1, c2, n3, sm, e3, e4, t1, t2, mG, mG0, sG, sG0, lG, lqq]
      exact ih2 (j + 1) _ _ (by omega) ⟨by omega, by simp only [go_sem, seval, f13], by simp only [go_sem, seval, f14], by simp only [go_sem, seval, f17], by simp only [go_sem, seval, f18], by simp only [go_sem, seval]; rw [Int.natCast_succ], b0, b1, b2, A1, v, _, rfl⟩
     ·have hs : smB (P i) (P j) = false := by unfold smB; rw [decide_eq_false (of_eq_false t2)]; simp
      rw [hs] at sm
      simp (disch := omega) only [go_sem, seval, wqq, f13, f14, f17, f18, f23, cl, q2, iL, iB, ia, jL, jB, ja, c1, c2, n3, sm, e3, e4, t1, t2, mG, mG0, sG, sG0, lG, lqq]
      exact ih2 (j + 1) _ _ (by omega) ⟨by omega, by simp only [go_sem, seval, f13], by simp only [go_sem, seval, f14], by simp only [go_sem, seval, f17], by simp only [go_sem, seval, f18], by simp only [go_sem, seval]; rw [Int.natCast_succ], b0, b1, b2, A1, v, _, rfl⟩
    ·have hs : smB (P i) (P j) = false := by unfold smB; rw [decide_eq_false (of_eq_false t1)]; simp
     rw [hs] at sm
     simp (disch := omega) only [go_sem, seval, wqq, f13, f14, f17, f18, f23, cl, q2, iL, iB, ia, jL, jB, ja, c1, c2, n3, sm, e3, e4, t1, mG, mG0, sG, sG0, lG, lqq]
     exact ih2 (j + 1) _ _ (by omega) ⟨by omega, by simp only [go_sem, seval, f13], by simp only [go_sem, seval, f14], by simp only [go_sem, seval, f17], by simp only [go_sem, seval, f18], by simp only [go_sem, seval]; rw [Int.natCast_succ], b0, b1, b2, A1, v, _, rfl⟩
   ·obtain rfl : j = 5 := by omega
    simp (disch := omega) only [go_sem, seval, wqq, f13, f14, f17, f18, f23]
    exact ih (i + 1) _ _ (by omega) ⟨by omega, by simp only [go_sem, seval, f13], by simp only [go_sem, seval, f14]; rw [Int.natCast_succ], b0, b1, b2, _, rfl⟩
  ·obtain rfl : i = 5 := by omega
   simp (disch := omega) only [go_sem, seval, wqq, f13, f14, lv]
end Go.Eng
