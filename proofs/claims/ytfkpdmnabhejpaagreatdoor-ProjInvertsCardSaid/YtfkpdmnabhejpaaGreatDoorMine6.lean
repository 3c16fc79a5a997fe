/- The engine and the contracts on which the statement stands: no conditions of its own. -/
import Derived.Test.YtfkpdmnabhejpaaGreatDoorMine5
set_option linter.unusedSimpArgs false
set_option linter.unusedVariables false
set_option linter.unusedSectionVars false
namespace Go.Eng
def selP (a b c d e : Nat → Int) : Nat → Nat → Int := fun t => if t = 0 then a else if t = 1 then b else if t = 2 then c else if t = 3 then d else e
def c45 (P : Nat → Nat → Int) : List PV := cI (P 0) ++ (cI (P 1) ++ (cI (P 2) ++ (cI (P 3) ++ cI (P 4))))
theorem zkx (P : Nat → Nat → Int) : (c45 P).length = 45 := rfl
theorem zjT (P : Nat → Nat → Int) {i : Nat} (h : i < 5) : ((c45 P).drop (i * 9)).take 9 = cI (P i) := by
 obtain rfl | rfl | rfl | rfl | rfl : i = 0 ∨ i = 1 ∨ i = 2 ∨ i = 3 ∨ i = 4 := by omega
 all_goals rfl
def tMix (p : Nat → Int) (s : Int) (i : Nat) : Nat → Int := fun e => if e < i then (p e).tmod 100000000 * s else p e
theorem tm0 (p : Nat → Int) (s : Int) : (cI (tMix p s 0)).set 0 (.i .i64 ((p 0).tmod 100000000 * s)) = cI (tMix p s 1) := rfl
theorem tm1 (p : Nat → Int) (s : Int) : (cI (tMix p s 1)).set 1 (.i .i64 ((p 1).tmod 100000000 * s)) = cI (tMix p s 2) := rfl
theorem tm2 (p : Nat → Int) (s : Int) : (cI (tMix p s 2)).set 2 (.i .i64 ((p 2).tmod 100000000 * s)) = cI (tMix p s 3) := rfl
theorem tm3 (p : Nat → Int) (s : Int) : (cI (tMix p s 3)).set 3 (.i .i64 ((p 3).tmod 100000000 * s)) = cI (tMix p s 4) := rfl
theorem tm4 (p : Nat → Int) (s : Int) : (cI (tMix p s 4)).set 4 (.i .i64 ((p 4).tmod 100000000 * s)) = cI (tMix p s 5) := rfl
theorem tm5 (p : Nat → Int) (s : Int) : (cI (tMix p s 5)).set 5 (.i .i64 ((p 5).tmod 100000000 * s)) = cI (tMix p s 6) := rfl
theorem tm6 (p : Nat → Int) (s : Int) : (cI (tMix p s 6)).set 6 (.i .i64 ((p 6).tmod 100000000 * s)) = cI (tMix p s 7) := rfl
theorem tm7 (p : Nat → Int) (s : Int) : (cI (tMix p s 7)).set 7 (.i .i64 ((p 7).tmod 100000000 * s)) = cI (tMix p s 8) := rfl
theorem tm8 (p : Nat → Int) (s : Int) : (cI (tMix p s 8)).set 8 (.i .i64 ((p 8).tmod 100000000 * s)) = cI (tMix p s 9) := rfl
set_option maxHeartbeats 16000000 in
set_option maxRecDepth 100000 in
theorem p_ProjInverts {xs ks : List Int} (hx : Ints xs) (hk : Ints ks) {at_ n : Int} (fa : Fits64 at_) (fn : Fits64 n) : pf E0 322 [ints xs, ints ks, .i .i64 at_, .i .i64 n] = some (.b true) := by
 obtain ⟨P0, h0, g0⟩ := zh9 hx
 obtain ⟨P1, h1, g1⟩ := zh9 hk
 obtain ⟨P2, h2, g2⟩ := zju h0 fa fn
 obtain ⟨P3, h3, g3⟩ := zg0 h1 fn
 have lv := zif
 have s1 := Int.lt_tmod_of_pos n (show (0 : Int) < 9 by decide)
 have s2 := Int.tmod_lt_of_pos n (show (0 : Int) < 9 by decide)
 have sb : -7 ≤ 1 + n.tmod 9 ∧ 1 + n.tmod 9 ≤ 9 := by omega
 have pb : ∀ x : Int, -900000000 ≤ x.tmod 100000000 * (1 + n.tmod 9) ∧ x.tmod 100000000 * (1 + n.tmod 9) ≤ 900000000 := fun x => by
  have a1 := Int.lt_tmod_of_pos x (show (0 : Int) < 100000000 by decide)
  have a2 := Int.tmod_lt_of_pos x (show (0 : Int) < 100000000 by decide)
  have h3 : (x.tmod 100000000 * (1 + n.tmod 9)).natAbs ≤ 100000000 * 9 := by
   rw [Int.natAbs_mul]
   exact Nat.mul_le_mul (by omega) (by omega)
  omega
 have h4 : ∀ e, Fits64 (tMix P0 (1 + n.tmod 9) 9 e) := fun e => by
  show Fits64 (if e < 9 then (P0 e).tmod 100000000 * (1 + n.tmod 9) else P0 e)
  split
  ·have := pb (P0 e); unfold Fits64; omega
  ·exact h0 e
 have hP : ∀ i e, Fits64 (selP P0 P1 P2 P3 (tMix P0 (1 + n.tmod 9) 9) i e) := fun i e => by
  unfold selP
  split
  ·exact h0 e
  ·split
   ·exact h1 e
   ·split
    ·exact h2 e
    ·split
     ·exact h3 e
     ·exact h4 e
 have tl : ∀ e : Nat, e < 9 → (tMix P0 (1 + n.tmod 9) e) e = P0 e := fun e _ => by unfold tMix; rw [if_neg (by omega)]
 have f0' := hF P0
 have f1' := hF P1
 have f4' := hF (tMix P0 (1 + n.tmod 9) 9)
 refine zac (xf := x_l12_ProjInverts) rfl (by simp [x_l12_ProjInverts]) ?_
 simp only [x_l12_ProjInverts]
 simp (disch := omega) only [go_sem, seval, wqq, g0, g1]
 refine zar x_l12_ProjInverts_l1.eq_1 (fun (i : Nat) fr M => i ≤ 9 ∧ fr 2 = .i .i64 at_ ∧ fr 3 = .i .i64 n ∧ fr 9 = .p 0 0 ∧ fr 10 = .p 1 0 ∧ fr 11 = .p 2 0 ∧ fr 12 = (PV.i .i64 ((i : Nat) : Int)) ∧ ∃ v0 v1 v, M = [some ⟨cI P0, true, v0⟩, some ⟨cI P1, true, v1⟩, some ⟨cI (tMix P0 (1 + n.tmod 9) i), true, v⟩]) (fun i => 9 - i) ?_ 0 ⟨by omega, by simp only [go_sem, seval], by simp only [go_sem, seval], by simp only [go_sem, seval], by simp only [go_sem, seval], by simp only [go_sem, seval], by simp only [go_sem, seval], _, _, _, rfl⟩
 rintro i fr M ⟨hi, f2, f3, f9, f10, f11, f12, v0, v1, v, rfl⟩ ih
 rcases Nat.lt_or_ge i 9 with h9 | h9
 ·have pbi := pb (P0 i)
  obtain rfl | rfl | rfl | rfl | rfl | rfl | rfl | rfl | rfl := zch h9
  ·have ci : (cI P0)[0]? = some (.i .i64 (P0 0)) := rfl
   simp (disch := omega) only [go_sem, seval, wqq, f2, f3, f9, f10, f11, f12, ci]
   exact ih 1 _ _ (by omega) ⟨by omega, by simp only [go_sem, seval, f2], by simp only [go_sem, seval, f3], by simp only [go_sem, seval, f9], by simp only [go_sem, seval, f10], by simp only [go_sem, seval, f11], by simp only [go_sem, seval], v0, v1, v + 1, by rw [← tm0]⟩
  ·have ci : (cI P0)[1]? = some (.i .i64 (P0 1)) := rfl
   simp (disch := omega) only [go_sem, seval, wqq, f2, f3, f9, f10, f11, f12, ci]
   exact ih 2 _ _ (by omega) ⟨by omega, by simp only [go_sem, seval, f2], by simp only [go_sem, seval, f3], by simp only [go_sem, seval, f9], by simp only [go_sem, seval, f10], by simp only [go_sem, seval, f11], by simp only [go_sem, seval], v0, v1, v + 1, by rw [← tm1]⟩
  ·have ci : (cI P0)[2]? = some (.i .i64 (P0 2)) := rfl
   simp (disch := omega) only [go_sem, seval, wqq, f2, f3, f9, f10, f11, f12, ci]
   exact ih 3 _ _ (by omega) ⟨by omega, by simp only [go_sem, seval, f2], by simp only [go_sem, seval, f3], by simp only [go_sem, seval, f9], by simp only [go_sem, seval, f10], by simp only [go_sem, seval, f11], by simp only [go_sem, seval], v0, v1, v + 1, by rw [← tm2]⟩
  ·have ci : (cI P0)[3]? = some (.i .i64 (P0 3)) := rfl
   simp (disch := omega) only [go_sem, seval, wqq, f2, f3, f9, f10, f11, f12, ci]
   exact ih 4 _ _ (by omega) ⟨by omega, by simp only [go_sem, seval, f2], by simp only [go_sem, seval, f3], by simp only [go_sem, seval, f9], by simp only [go_sem, seval, f10], by simp only [go_sem, seval, f11], by simp only [go_sem, seval], v0, v1, v + 1, by rw [← tm3]⟩
  ·have ci : (cI P0)[4]? = some (.i .i64 (P0 4)) := rfl
   simp (disch := omega) only [go_sem, seval, wqq, f2, f3, f9, f10, f11, f12, ci]
   exact ih 5 _ _ (by omega) ⟨by omega, by simp only [go_sem, seval, f2], by simp only [go_sem, seval, f3], by simp only [go_sem, seval, f9], by simp only [go_sem, seval, f10], by simp only [go_sem, seval, f11], by simp only [go_sem, seval], v0, v1, v + 1, by rw [← tm4]⟩
  ·have ci : (cI P0)[5]? = some (.i .i64 (P0 5)) := rfl
   simp (disch := omega) only [go_sem, seval, wqq, f2, f3, f9, f10, f11, f12, ci]
   exact ih 6 _ _ (by omega) ⟨by omega, by simp only [go_sem, seval, f2], by simp only [go_sem, seval, f3], by simp only [go_sem, seval, f9], by simp only [go_sem, seval, f10], by simp only [go_sem, seval, f11], by simp only [go_sem, seval], v0, v1, v + 1, by rw [← tm5]⟩
  ·have ci : (cI P0)[6]? = some (.i .i64 (P0 6)) := rfl
   simp (disch := omega) only [go_sem, seval, wqq, f2, f3, f9, f10, f11, f12, ci]
   exact ih 7 _ _ (by omega) ⟨by omega, by simp only [go_sem, seval, f2], by simp only [go_sem, seval, f3], by simp only [go_sem, seval, f9], by simp only [go_sem, seval, f10], by simp only [go_sem, seval, f11], by simp only [go_sem, seval], v0, v1, v + 1, by rw [← tm6]⟩
  ·have ci : (cI P0)[7]? = some (.i .i64 (P0 7)) := rfl
   simp (disch := omega) only [go_sem, seval, wqq, f2, f3, f9, f10, f11, f12, ci]
   exact ih 8 _ _ (by omega) ⟨by omega, by simp only [go_sem, seval, f2], by simp only [go_sem, seval, f3], by simp only [go_sem, seval, f9], by simp only [go_sem, seval, f10], by simp only [go_sem, seval, f11], by simp only [go_sem, seval], v0, v1, v + 1, by rw [← tm7]⟩
  ·have ci : (cI P0)[8]? = some (.i .i64 (P0 8)) := rfl
   simp (disch := omega) only [go_sem, seval, wqq, f2, f3, f9, f10, f11, f12, ci]
   exact ih 9 _ _ (by omega) ⟨by omega, by simp only [go_sem, seval, f2], by simp only [go_sem, seval, f3], by simp only [go_sem, seval, f9], by simp only [go_sem, seval, f10], by simp only [go_sem, seval, f11], by simp only [go_sem, seval], v0, v1, v + 1, by rw [← tm8]⟩
 ·obtain rfl : i = 9 := by omega
  clear ih
  simp (disch := omega) only [go_sem, seval, wqq, f2, f3, f9, f10, f11, f12]
  refine zai [9, 10, 11] rfl (by simp only [go_sem, seval, f9, f10, f11]) ?_
  simp (disch := omega) only [go_sem, seval, wqq, f2, f3, f9, f10, f11, f12, g2, g3, zag, f0', f1', f4', zaK, zan]
  generalize hPs : selP P0 P1 P2 P3 (tMix P0 (1 + n.tmod 9) 9) = P at *
  refine zar x_l12_ProjInverts_l2.eq_1 (fun (i : Nat) fr M => i ≤ 5 ∧ fr 13 = .sl 3 0 5 5 9 ∧ fr 14 = (PV.i .i64 ((i : Nat) : Int)) ∧ ∃ b0 b1 b2 G, M = b0 :: b1 :: b2 :: some ⟨c45 P, true, 0⟩ :: G) (fun i => 5 - i) ?_ 0 ⟨by omega, by simp only [go_sem, seval], by simp only [go_sem, seval], _, _, _, [], by rw [← hPs]; rfl⟩
  clear hPs f2 f3 f9 f10 f11 f12 g0 g1 g2 g3 f0' f1' f4'
  rintro i fr M ⟨hi, f13, f14, b0, b1, b2, G, rfl⟩ ih
  have cl := zkx P
  rcases Nat.lt_or_ge i 5 with h5 | h5
  ·have q1 : ((i : Int) < 5) = True := eq_true (by omega)
   have iL : (i < 5) = True := eq_true h5
   have iB : (i * 9 + 9 ≤ 45) = True := eq_true (by omega)
   have ia := zjT P h5
   have n1 := zev (hP i)
   have n2 := ze7 (hP i)
   have i1 := ze3 (hP i)
   have i2 := zg2 (hP i)
   have e1 : eqaP [1, 1, 1, 1, 1, 1, 1, 1, 1] (pI (NP (P i))) (pI (NP (P i))) = some true := by rw [zmn, zfv]
   have e2 : eqaP [1, 1, 1, 1, 1, 1, 1, 1, 1] (pI (IP (P i))) (pI (IP (P i))) = some true := by rw [zmn, zfv]
   simp (disch := omega) only [go_sem, seval, wqq, f13, f14, cl, q1, iL, iB, ia, n1, n2, i1, i2, e1, e2, mG, mG0, sG, sG0, lG, lqq]
   refine zar x_l12_ProjInverts_l3.eq_1 (fun (j : Nat) fr M => j ≤ 5 ∧ fr 13 = .sl 3 0 5 5 9 ∧ fr 14 = (PV.i .i64 ((i : Nat) : Int)) ∧ fr 17 = .p (G.length + 5) 0 ∧ fr 18 = .i .i64 (NE (P i)) ∧ fr 23 = (PV.i .i64 ((j : Nat) : Int)) ∧ ∃ b0 b1 b2 A1 v R, M = b0 :: b1 :: b2 :: some ⟨c45 P, true, 0⟩ :: (G ++ (A1 :: some ⟨cI (NP (P i)), true, v⟩ :: R))) (fun j => 5 - j) ?_ 0 ⟨by omega, by simp only [go_sem, seval, f13], by simp only [go_sem, seval, f14], by simp only [go_sem, seval], by simp only [go_sem, seval], by simp only [go_sem, seval], _, _, _, _, _, _, rfl⟩
   clear f13 f14
   rintro j fr M ⟨hj, f13, f14, f17, f18, f23, b0, b1, b2, A1, v, R, rfl⟩ ih2
   rcases Nat.lt_or_ge j 5 with h6 | h6
   ·have q2 : ((j : Int) < 5) = True := eq_true (by omega)
    have jL : (j < 5) = True := eq_true h6
    have jB : (j * 9 + 9 ≤ 45) = True := eq_true (by omega)
    have ja := zjT P h6
    have c1 := zh5 (hP i) (hP j)
    have c2 := zg1 (hP i) (hP j)
    have n3 := ze7 (hP j)
    have sm := zlg (hP i) (hP j)
    have e3 : eqaP [1, 1, 1, 1, 1, 1, 1, 1, 1] (pI (CP (P i) (P j))) (pI (CP (P i) (P j))) = some true := by rw [zmn, zfv]
    have e4 := zmn (NP (P i)) (NP (P j))
    rcases zbu (NE (P i) = 0) with t1 | t1
    ·rcases zbu (NE (P j) = 0) with t2 | t2
     ·have hs : smB (P i) (P j) = e9 (NP (P i)) (NP (P j)) := by unfold smB; rw [of_eq_true t1, of_eq_true t2]; simp
      rw [hs] at sm
      simp (disch := omega) only [go_sem, seval, wqq, f13, f14, f17, f18, f23, cl, q2, iL, iB, ia, jL, jB, ja, c1, c2, n3, sm, e3, e4, t1, t2, mG, mG0, sG, sG0, lG, lqq]
      exact ih2 (j + 1) _ _ (by omega) ⟨by omega, by simp only [go_sem, seval, f13], by simp only [go_sem, seval, f14], by simp only [go_sem, seval, f17], by simp only [go_sem, seval, f18], by simp only [go_sem, seval]; rw [Int.natCast_succ], b0, b1, b2, A1, v, _, rfl⟩
     ·have hs : smB (P i) (P j) = false := by unfold smB; rw [decide_eq_false (of_eq_false t2)]; simp
      rw [hs] at sm
      simp (disch := omega) only [go_sem, seval, wqq, f13, f14, f17, f18, f23, cl, q2, iL, iB, ia, jL, jB, ja, c1, c2, n3, sm, e3, e4, t1, t2, mG, mG0, sG, sG0, lG, lqq]
      exact ih2 (j + 1) _ _ (by omega) ⟨by omega, by simp only [go_sem, seval, f13], by simp only [go_sem, seval, f14], by simp only [go_sem, seval, f17], by simp only [go_sem, seval, f18], by simp only [go_sem, seval]; rw [Int.natCast_succ], b0, b1, b2, A1, v, _, rfl⟩
    ·have hs : smB (P i) (P j) = false := by unfold smB; rw [decide_eq_false (of_eq_false t1)]; simp
     rw [hs] at sm
     simp (disch := omega) only [go_sem, seval, wqq, f13, f14, f17, f18, f23, cl, q2, iL, iB, ia, jL, jB, ja, c1, c2, n3, sm, e3, e4, t1, mG, mG0, sG, sG0, lG, lqq]
     exact ih2 (j + 1) _ _ (by omega) ⟨by omega, by simp only [go_sem, seval, f13], by simp only [go_sem, seval, f14], by simp only [go_sem, seval, f17], by simp only [go_sem, seval, f18], by simp only [go_sem, seval]; rw [Int.natCast_succ], b0, b1, b2, A1, v, _, rfl⟩
   ·obtain rfl : j = 5 := by omega
    simp (disch := omega) only [go_sem, seval, wqq, f13, f14, f17, f18, f23]
    exact ih (i + 1) _ _ (by omega) ⟨by omega, by simp only [go_sem, seval, f13], by simp only [go_sem, seval, f14]; rw [Int.natCast_succ], b0, b1, b2, _, rfl⟩
  ·obtain rfl : i = 5 := by omega
   simp (disch := omega) only [go_sem, seval, wqq, f13, f14, lv]
end Go.Eng
