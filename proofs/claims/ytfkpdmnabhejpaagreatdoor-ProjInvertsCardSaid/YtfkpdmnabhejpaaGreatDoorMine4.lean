/- The engine and the contracts on which the statement stands: no conditions of its own. -/
import Derived.Test.YtfkpdmnabhejpaaGreatDoorMine3
import Derived.Below
import Derived.Shelf.Strings.Repeat
import Derived.Shelf.Strings.Builder1
import Derived.Shelf.Strings.SlTrimAscii
import Derived.Shelf.Strings.Search2
import Derived.Shelf.Strconv.Atoi
import Derived.Shelf.Strconv.Itoa3
import Derived.Lib.AppendIntMem
import Derived.Lib.SmallJoins
import Derived.Lib.Case
import Derived.Lib.Join
import Derived.BigCall
import Derived.BigGuard
import Derived.KernelRfl
import Derived.Lib.LaidTab
import Derived.ProofKit
import Derived.OpenShut
set_option linter.unusedSimpArgs false
set_option linter.unusedVariables false
set_option linter.unusedSectionVars false
namespace Go.Eng
theorem zgX {b : Nat} (hb : b ≠ 0) (lb : tlen b < 1000000) : pf E0 136 [T 0, T b] = some (.tu [Tw (tlen 0) (0 / b), T (0 % b)]) := by
 refine zac (xf := x_r03_divided) rfl (by simp [x_r03_divided]) ?_
 simp only [x_r03_divided]
 have hk := za7 hb
 have hno := zaC false 0 0 (by decide) (by omega)
 have z0 : (Tw 0 0 : PV) = .lst [] := rfl
 have zT : (T 0 : PV) = .lst [] := by show Tw (tlen 0) 0 = _; rw [zay]; rfl
 have s0 : sgn false 0 = 0 := rfl
 have zN : (nP 0 : PV).cells = [.b false, .lst []] := by show [PV.b (decide ((0 : Int) < 0)), T 0] = _; rw [zT]; rfl
 rw [z0, s0] at hno
 rw [Nat.zero_div, Nat.zero_mod, zay, z0, zT]
 have hf : (if ((if -(tlen b : Int) + 1 < 0 then -(tlen b : Int) + 1 else (0 : Int))) > 0 then (if -(tlen b : Int) + 1 < 0 then -(tlen b : Int) + 1 else (0 : Int)) else 0) = 0 := by
  split <;> split <;> omega
 have hs : slP 1 (.lst []) (some (.i .i64 0)) none none = some (.lst []) := rfl
 simp (disch := omega) only [go_sem, seval, wqq, List.length_nil, Int.natCast_zero, Int.add_zero, zcy, Int.reduceLE, Int.reduceToNat, zdA, hf, hs, hno, zN, Int.zero_sub, Int.reduceNeg]
 refine zcw ?_
 simp only [x_r03_divided_l1]
 simp (disch := omega) only [go_sem, seval, wqq, Int.zero_sub, Int.reduceNeg, Int.reduceLE, ge_iff_le]
theorem zia {a b : Nat} (hb : b ≠ 0) (la : tlen a < 1000000) (lb : tlen b < 1000000) : pf E0 136 [T a, T b] = some (.tu [Tw (tlen a) (a / b), T (a % b)]) := by
 by_cases ha : a = 0
 ·subst ha; exact zgX hb lb
 ·exact zgY ha hb la lb
theorem zkc {x y : Int} (hy : y ≠ 0) (lx : tlen x.natAbs < 100000) (ly : tlen y.natAbs < 100000) : pf E0 120 [nP x, nP y] = some (.tu [nP (x / y), nP (x % y)]) := by
 refine zac (xf := x_r03_Div) rfl (by simp [x_r03_Div]) ?_
 simp only [x_r03_Div]
 have hy0 : y.natAbs ≠ 0 := by omega
 have hd := zia (a := x.natAbs) hy0 (by omega) (by omega)
 have lql : x.natAbs / y.natAbs < 10000 ^ tlen x.natAbs := Nat.lt_of_le_of_lt (Nat.div_le_self _ _) (zaq _)
 have n1 : pf E0 132 [.b (!(decide (x < 0) == decide (y < 0))), Tw (tlen x.natAbs) (x.natAbs / y.natAbs)] = _ := zaC (decide (x < 0) != decide (y < 0)) (tlen x.natAbs) (x.natAbs / y.natAbs) lql (by omega)
 have lrl := Nat.mod_lt x.natAbs (Nat.pos_of_ne_zero hy0)
 have n2 := zaC false (tlen (x.natAbs % y.natAbs)) (x.natAbs % y.natAbs) (zaq _) (by have := zax (Nat.le_of_lt lrl); omega)
 have dm := Nat.div_add_mod x.natAbs y.natAbs
 have lq := zau lql
 generalize x.natAbs / y.natAbs = q at *
 have lr := zax (Nat.le_of_lt lrl)
 generalize x.natAbs % y.natAbs = r at *
 have lst1 : PV.lst (group 1 1 [.i .i64 1]) = Tw 1 1 := by
  rw [zcG _ _ (by rfl), Tw]
  have : tab 1 (fun k => (PV.i .i64 ((tdg 1 k : Nat) : Int))) = [(PV.i .i64 ((tdg 1 0 : Nat) : Int))] := rfl
  rw [this, zas]; rfl
 have one_lt : 1 < 10000 ^ 1 := by decide
 by_cases hx : x < 0
 ·by_cases hr : r = 0
  ·subst hr
   have hf := zcg (q := q) (r := 0) hy (by rw [if_pos hx]; omega) (by omega)
   have s1 : sgn (decide (x < 0) != decide (y < 0)) q = x / y := hf.1
   have s2 : sgn false 0 = x % y := hf.2
   rw [s1] at n1
   rw [s2] at n2
   simp only [hx, decide_true] at n1
   have hl : ((tlen (x % y).natAbs : Int) > 0) = False := by rw [← s2]; show ((tlen 0 : Int) > 0) = False; rw [zay]; simp
   simp (disch := omega) only [go_sem, seval, wqq, hd, hx, n1, n2, hl]
   refine zbV ⟨.inr ⟨9, 4, rfl, by simp only [go_sem, seval]⟩, trivial⟩ ?_
   simp (disch := omega) only [go_sem, seval, wqq]
  ·have hf := zcg (q := q + 1) (r := y.natAbs - r) hy (by rw [if_pos hx, Nat.mul_add]; omega) (by omega)
   have hl : ((tlen r : Int) > 0) = True := by have := za7 hr; simp; omega
   have n3 : pf E0 132 [.b (!(decide (x < 0) == decide (y < 0))), Tw 1 1] = _ := zaC (decide (x < 0) != decide (y < 0)) 1 1 one_lt (by omega)
   have hsum : sgn (decide (x < 0) != decide (y < 0)) q + sgn (decide (x < 0) != decide (y < 0)) 1 = x / y := by
    rw [← hf.1]; unfold sgn; split <;> omega
   have hadd := zd6 (sgn (decide (x < 0) != decide (y < 0)) q) (sgn (decide (x < 0) != decide (y < 0)) 1) (by
    have : (sgn (decide (x < 0) != decide (y < 0)) q).natAbs = q := by unfold sgn; split <;> omega
    rw [this]; omega) (by
    have : (sgn (decide (x < 0) != decide (y < 0)) 1).natAbs = 1 := by unfold sgn; split <;> omega
    rw [this]; have := zau one_lt; omega)
   rw [hsum] at hadd
   have hmi := zex (a := y.natAbs) (b := r) (s := y.natAbs - r) (by omega) (zaq _) (zaq _) (by omega) (by omega)
   have n4 := zaC false (tlen y.natAbs) (y.natAbs - r) (Nat.lt_of_le_of_lt (Nat.sub_le _ _) (zaq _)) (by omega)
   have s2 : sgn false (y.natAbs - r) = x % y := hf.2
   rw [s2] at n4
   have s3 : sgn false r = (r : Int) := rfl
   rw [s3] at n2
   have cN : (nP (r : Int)).cells = [.b false, T r] := by
    show [PV.b (decide ((r : Int) < 0)), T (r : Int).natAbs] = _
    rw [Int.natAbs_natCast]
    have : decide ((r : Int) < 0) = false := by simp
    rw [this]
   generalize sgn (decide (x < 0) != decide (y < 0)) q = Z at *
   generalize sgn (decide (x < 0) != decide (y < 0)) 1 = O at *
   simp only [hx, decide_true] at n1 n3
   simp (disch := omega) only [go_sem, seval, wqq, hd, hx, n1, n2, cN, hl, lst1, n3, hadd, hmi, n4]
   refine zbV ⟨.inr ⟨9, 4, rfl, by simp only [go_sem, seval]⟩, trivial⟩ ?_
   simp (disch := omega) only [go_sem, seval, wqq]
 ·have hf := zcg (q := q) (r := r) hy (by rw [if_neg hx]; omega) (by omega)
  have s1 : sgn (decide (x < 0) != decide (y < 0)) q = x / y := hf.1
  have s2 : sgn false r = x % y := hf.2
  rw [s1] at n1
  rw [s2] at n2
  simp only [hx, decide_false] at n1
  simp (disch := omega) only [go_sem, seval, wqq, hd, hx, n1, n2]
  refine zbV ⟨.inr ⟨9, 4, rfl, by simp only [go_sem, seval]⟩, trivial⟩ ?_
  simp (disch := omega) only [go_sem, seval, wqq]
end Go.Eng
namespace Go.Eng
theorem zsQ (M : PM) (c c' : Option PB) : PM.blk (M ++ [c] ++ [c']) M.length = c := by
 rw [List.append_assoc]
 unfold PM.blk
 rw [List.getElem?_append_right (Nat.le_refl _)]
 simp
theorem zsR (M : PM) (c c' d : Option PB) : List.set (M ++ [c] ++ [c']) M.length d = M ++ [d] ++ [c'] := by
 rw [List.append_assoc, List.append_assoc]; simp [List.set_append]
theorem zrH (M : PM) (c c' d : Option PB) : PM.blk (M ++ [d] ++ [c']) (List.length (M ++ [c])) = c' := by
 have h := za5 (M ++ [d]) c'
 rw [show List.length (M ++ [c]) = List.length (M ++ [d]) by simp]; exact h
theorem zsS (M : PM) (c c' d z : Option PB) : List.set (M ++ [d] ++ [c']) (List.length (M ++ [c])) z = M ++ [d] ++ [z] := by
 rw [show List.length (M ++ [c]) = List.length (M ++ [d]) by simp]; exact zcb _ _ _
theorem zdZ (a : Nat) : nP (a : Int) = .ag [.b false, T a] := by
 show PV.ag [PV.b (decide ((a : Int) < 0)), T (a : Int).natAbs] = _
 rw [Int.natAbs_natCast]
 have : decide ((a : Int) < 0) = false := by simp
 rw [this]
theorem zm9 (x y : Int) (lx : tlen x.natAbs < 100000) (ly : tlen y.natAbs < 100000) : pf E0 125 [nP x, nP y] = some (nP (Nat.gcd x.natAbs y.natAbs : Nat)) := by
 refine zac (xf := x_r03_Gcd) rfl (by simp [x_r03_Gcd]) ?_
 simp only [x_r03_Gcd]
 have n1 := zaC false (tlen x.natAbs) x.natAbs (zaq _) (by omega)
 have n2 := zaC false (tlen y.natAbs) y.natAbs (zaq _) (by omega)
 have s0 : ∀ v : Nat, sgn false v = (v : Int) := fun _ => rfl
 rw [s0, zdZ] at n1 n2
 rw [zdZ]
 simp (disch := omega) only [go_sem, seval, wqq, n1, n2]
 refine zar x_r03_Gcd_l1.eq_1 (fun (p : Nat × Nat) fr M => Nat.gcd p.1 p.2 = Nat.gcd x.natAbs y.natAbs ∧ tlen p.1 < 100000 ∧ tlen p.2 < 100000 ∧ fr 4 = .p 2 0 ∧ fr 5 = .p 3 0 ∧ fr 6 = .p 4 0 ∧
  PM.blk M 2 = some ⟨[.b false, .nl], true, 0⟩ ∧ ∃ e1 e2, PM.blk M 3 = some ⟨[.b false, T p.1], true, e1⟩ ∧ PM.blk M 4 = some ⟨[.b false, T p.2], true, e2⟩) (fun p => p.2) ?_ (x.natAbs, y.natAbs) ⟨rfl, lx, ly, by simp only [go_sem, seval], by simp only [go_sem, seval], by simp only [go_sem, seval], rfl, 1, 1, rfl, rfl⟩
 rintro ⟨a, b⟩ fr M ⟨hg, la, lb, h4, h5, h6, hb2, e1, e2, hb3, hb4⟩ ih
 simp only at hg la lb hb3 hb4
 have l4 := zcl hb4
 by_cases hb : b = 0
 ·subst hb
  rw [Nat.gcd_zero_right] at hg
  subst hg
  have q1 : ((tlen 0 : Int) > 0) = False := by rw [zay]; simp
  simp (disch := omega) only [go_sem, seval, wqq, h4, h5, h6, hb2, hb3, hb4, q1, zcf]
 ·have q1 : ((tlen b : Int) > 0) = True := by have := za7 hb; simp; omega
  have hd := zkc (x := (a : Int)) (y := (b : Int)) (by omega) (by rw [Int.natAbs_natCast]; exact la) (by rw [Int.natAbs_natCast]; exact lb)
  rw [← Int.natCast_ediv, ← Int.natCast_emod, zdZ, zdZ, zdZ, zdZ] at hd
  have ml := Nat.mod_lt a (Nat.pos_of_ne_zero hb)
  have lm := zax (Nat.le_of_lt ml)
  have o3 : ∀ c c' : Option PB, PM.blk (M ++ [c] ++ [c']) 3 = _ := fun c c' => zbn (zbn hb3 c) c'
  have o4 : ∀ c c' : Option PB, PM.blk (M ++ [c] ++ [c']) 4 = _ := fun c c' => zbn (zbn hb4 c) c'
  have o2 : ∀ c c' : Option PB, PM.blk (M ++ [c] ++ [c']) 2 = _ := fun c c' => zbn (zbn hb2 c) c'
  have o5 : ∀ c c' z d : Option PB, PM.blk (List.set (M ++ [d] ++ [c']) 3 z) (List.length (M ++ [c])) = c' := fun c c' z d => by
   rw [zbJ (by simp; omega), zrH]
  have o6 : ∀ c c' z : Option PB, PM.blk (List.set (M ++ [c] ++ [c']) 3 z) 4 = _ := fun c c' z => by
   exact (zbJ (by decide)).trans (o4 c c')
  simp (disch := omega) only [go_sem, seval, wqq, h4, h5, h6, hb2, hb3, hb4, q1, hd, zsQ, zsR, zrH, zsS, o3, o4, o5, o6]
  refine ih (b, a % b) _ _ ml ⟨by rw [← hg, Nat.gcd_comm b, ← Nat.gcd_rec, Nat.gcd_comm], lb, by show tlen (a % b) < 100000; omega, by simp only [go_sem, seval, h4], by simp only [go_sem, seval, h5], by simp only [go_sem, seval, h6], ?_, e1 + 1, e2 + 1, ?_, ?_⟩
  ·exact (zbJ (by decide)).trans ((zbJ (by decide)).trans (o2 _ _))
  ·exact (zbJ (by decide)).trans (zcf (by simp; omega))
  ·exact zcf (by simp; omega)
end Go.Eng
namespace Go.Eng
end Go.Eng
namespace Go.Eng
theorem zfu (m : Nat) : ∀ (n v : Nat), dtx (n + m) v = dtx n (v / 10 ^ m) ++ dtx m v
 | 0, v => by simp [dtx]
 | n + 1, v => by
  rw [show n + 1 + m = (n + m) + 1 by omega]
  show UInt8.ofNat (48 + v / 10 ^ (n + m) % 10) :: dtx (n + m) v = UInt8.ofNat (48 + v / 10 ^ m / 10 ^ n % 10) :: dtx n (v / 10 ^ m) ++ dtx m v
  rw [zfu m n v, Nat.div_div_eq_div_mul, ← Nat.pow_add, Nat.add_comm m n]; rfl
theorem zho : ∀ (n m v : Nat), n ≤ m → dtx n (v % 10 ^ m) = dtx n v
 | 0, _, _, _ => rfl
 | n + 1, m, v, h => by
  show UInt8.ofNat (48 + v % 10 ^ m / 10 ^ n % 10) :: dtx n (v % 10 ^ m) = UInt8.ofNat (48 + v / 10 ^ n % 10) :: dtx n v
  rw [zho n m v (by omega)]
  congr 2
  have e : (10 : Nat) ^ m = 10 ^ n * (10 * 10 ^ (m - n - 1)) := by
   rw [← Nat.pow_succ', ← Nat.pow_add]; congr 1; omega
  rw [e, Nat.mod_mul_right_div_self, Nat.mod_mul_right_mod]
theorem zkE (n m v : Nat) (h : v < 10 ^ n) (hm : n ≤ m) : dtx m v = List.replicate (m - n) 48 ++ dtx n v := by
 obtain ⟨k, rfl⟩ : ∃ k, m = k + n := ⟨m - n, by omega⟩
 rw [zfu n k v, Nat.div_eq_of_lt h, Nat.add_sub_cancel]
 congr 1
 induction k with
 | zero => rfl
 | succ k ih =>
  show UInt8.ofNat (48 + 0 / 10 ^ k % 10) :: dtx k 0 = _
  rw [ih (by omega), List.replicate_succ, Nat.zero_div]; rfl
theorem zeh {v : Nat} (h : v ≠ 0) : dec v = dtx (dlen v) v := by unfold dec; rw [if_neg h]
end Go.Eng
namespace Go.Eng
end Go.Eng
namespace Go.Eng
theorem zfV {x y : Int} : (cmpI x y > 0) = (y < x) := by
 unfold cmpI; apply propext
 constructor
 ·intro h
  split at h
  ·omega
  ·split at h <;> omega
 ·intro h
  split
  ·omega
  ·first | omega | (split <;> omega)
theorem zbL {x y : Int} : (cmpI x y < 0) = (x < y) := by
 unfold cmpI; apply propext
 constructor
 ·intro h
  split at h
  ·omega
  ·split at h <;> omega
 ·intro h
  split
  ·omega
  ·first | omega | (split <;> omega)
theorem zbW {E : PEnv} {F : PFin} {ops : List XOper} {chk : List (Nat × Nat)} {ks : List KI} {fr : PFr} {M : PM} (hc : ∀ fr2 Ms, pOpsT E.glob (pcl E) ops fr M = some (fr2, Ms) → chk.all (chkP E.glob ops fr2 Ms) = true) (w : WL E F ops ks fr M) : WK E F (.drw ops chk) ks fr M := by
 obtain ⟨lf, w⟩ := w
 refine ⟨lf, ?_⟩
 have key : pCode E.glob (pcl E) lf (.drw ops chk) fr M = (pOps E.glob (pcl E) ops fr M).map fun r => (.normal, r.1, r.2) := by
  simp only [pCode]
  congr 1
  cases hops : pOps E.glob (pcl E) ops fr M with
  | none => rw [hops] at w; exact (Ends.none w).elim
  | some r =>
   unfold pDrw
   by_cases h0 : chk = []
   ·rw [if_pos h0, hops]
   ·rw [if_neg h0]
    obtain ⟨fr2, M2⟩ := r
    obtain ⟨Ms, h1, h2⟩ := zbS hops
    rw [h1]
    have hall : chk.all (chkP E.glob ops fr2 Ms) = true := by
     exact hc _ _ h1
    simp only [hall, if_true, h2, Option.map_some]
 rw [key]
 cases hops : pOps E.glob (pcl E) ops fr M with
 | none => rw [hops] at w; exact (Ends.none w).elim
 | some r => rw [hops] at w; exact w
theorem zcC {E : PEnv} {ops : List XOper} {fr fr2 : PFr} {M : PM} {Ms : List PM} {i j s n o : Nat} {a b : XOper} {z : Bool} {k : Nat} (h1 : pOpsT E.glob (pcl E) ops fr M = some (fr2, Ms)) (ha : ops[i]? = some a) (hb : ops[j]? = some b)
  (hop : a.op = .load z k (.t s)) (hcb : calmOp E b.op = true) (hall : (ops.all fun o => o.dst != some s) = true) (hs : fr s = .p n o) : chkP E.glob ops fr2 Ms (i, j) = true := by
 have hk := (zbl h1).2
 obtain ⟨fri, A, B, q1, q2, q3, q4⟩ := zaL h1 ha
 obtain ⟨frj, C, D, p1, p2, p3, p4⟩ := zaL h1 hb
 have p2' : Ms[(i, j).2 + 1]? = some D := p2
 have q2' : Ms[(i, j).1 + 1]? = some B := q2
 simp only [chkP, ha, q1, q2, p1, p2]
 rw [if_neg (by rw [hop]; simp [XO.cls])]
 rw [hop]
 show chkV ops j (.t s) C D (fr2 s) = true
 rw [hk s hall, hs]
 show verP (some n) C D = true
 rcases p3 with ⟨_, v, p3⟩ | ⟨_, p3⟩
 ·cases hop : b.op with
  | call f l =>
   rw [hop] at p3 hcb
   obtain ⟨ns, rfl⟩ := zc3 hcb p3
   exact zcj ns C _
  | _ => rw [hop] at hcb; simp [calmOp] at hcb
 ·rw [p3]; simp [verP]
end Go.Eng
namespace Go.Eng
end Go.Eng
namespace Go.Eng
noncomputable def E1 : PEnv := { E0 with prog := fun f => if f = 33 then none else prog f, glob := globT }
theorem zf0 (a : List PV) (M : PM) : pcl E1 48 a M = pclA E1 48 M (fzL (fz M fzD) a) := zaf a M rfl
theorem zf1 (a : List PV) (M : PM) : pcl E1 49 a M = pclA E1 49 M (fzL (fz M fzD) a) := zaf a M rfl
theorem zf2 (a : List PV) (M : PM) : pcl E1 50 a M = pclA E1 50 M (fzL (fz M fzD) a) := zaf a M rfl
theorem zf3 (a : List PV) (M : PM) : pcl E1 51 a M = pclA E1 51 M (fzL (fz M fzD) a) := zaf a M rfl
def XC.cut : XC → XC
 | .ret => .fail
 | .seq a b => .seq a.cut b.cut
 | .cond c a b => .cond c a.cut b.cut
 | .block id a => .block id a.cut
 | .loop a => .loop a.cut
 | .scope a => .scope a.cut
 | x => x
theorem ze1 {b b' : PStep} (h : ∀ fr M o fr' M', b' fr M = some (o, fr', M') → b fr M = some (o, fr', M') ∧ o ≠ .ret) : ∀ k fr M o fr' M', pLoop b' k fr M = some (o, fr', M') → pLoop b k fr M = some (o, fr', M') ∧ o ≠ .ret
 | 0, fr, M, o, fr', M', e => by simp [pLoop] at e
 | k + 1, fr, M, o, fr', M', e => by
  simp only [pLoop] at e ⊢
  cases h1 : b' fr M with
  | none => rw [h1] at e; cases e
  | some r =>
   obtain ⟨o1, fr1, M1⟩ := r
   obtain ⟨g1, g2⟩ := h _ _ _ _ _ h1
   rw [h1] at e; rw [g1]
   cases o1 with
   | normal => exact ze1 h k _ _ _ _ _ e
   | exit i => cases e; exact ⟨rfl, g2⟩
   | ret => exact (g2 rfl).elim
theorem zba {G : Nat → Option (List AV)} {call : PCall} {lf : Nat} : ∀ (c : XC) fr M o fr' M', pCode G call lf c.cut fr M = some (o, fr', M') → pCode G call lf c fr M = some (o, fr', M') ∧ o ≠ .ret
 | .skip, fr, M, o, fr', M', e => ⟨e, by simp [XC.cut, pCode] at e; rw [← e.1]; simp⟩
 | .ret, fr, M, o, fr', M', e => by simp [XC.cut, pCode] at e
 | .exit id, fr, M, o, fr', M', e => ⟨e, by simp [XC.cut, pCode] at e; rw [← e.1]; simp⟩
 | .fail, fr, M, o, fr', M', e => by simp [XC.cut, pCode] at e
 | .scope a, fr, M, o, fr', M', e => zba a fr M o fr' M' e
 | .loop a, fr, M, o, fr', M', e => ze1 (zba a) lf fr M o fr' M' e
 | .reg ops, fr, M, o, fr', M', e => ⟨e, by
   simp only [XC.cut, pCode, Option.map_eq_some_iff] at e
   obtain ⟨q, _, e⟩ := e
   cases e; simp⟩
 | .drw ops chk, fr, M, o, fr', M', e => ⟨e, by
   simp only [XC.cut, pCode, Option.map_eq_some_iff] at e
   obtain ⟨q, _, e⟩ := e
   cases e; simp⟩
 | .seq a b, fr, M, o, fr', M', e => by
  simp only [XC.cut, pCode] at e ⊢
  cases h1 : pCode G call lf a.cut fr M with
  | none => rw [h1] at e; cases e
  | some r =>
   obtain ⟨o1, fr1, M1⟩ := r
   obtain ⟨g1, g2⟩ := zba a _ _ _ _ _ h1
   rw [h1] at e; rw [g1]
   cases o1 with
   | normal => exact zba b _ _ _ _ _ e
   | exit i => cases e; exact ⟨rfl, g2⟩
   | ret => exact (g2 rfl).elim
 | .cond x a b, fr, M, o, fr', M', e => by
  simp only [XC.cut, pCode] at e ⊢
  split at e
  ·rename_i v hv
   cases v with
   | true => exact zba a _ _ _ _ _ e
   | false => exact zba b _ _ _ _ _ e
  ·cases e
 | .block id a, fr, M, o, fr', M', e => by
  simp only [XC.cut, pCode] at e ⊢
  cases h1 : pCode G call lf a.cut fr M with
  | none => rw [h1] at e; cases e
  | some r =>
   obtain ⟨o1, fr1, M1⟩ := r
   obtain ⟨g1, g2⟩ := zba a _ _ _ _ _ h1
   rw [h1] at e; rw [g1]
   cases o1 with
   | normal => cases e; exact ⟨rfl, g2⟩
   | exit i =>
    simp only at e ⊢
    split at e
    ·rename_i hi; cases e; rw [if_pos hi]; exact ⟨rfl, by simp⟩
    ·rename_i hi; cases e; rw [if_neg hi]; exact ⟨rfl, g2⟩
   | ret => exact (g2 rfl).elim
theorem ziZ {x e k : Nat} (hx : x ≠ 0) (hk : 0 < k) (he : e < 10 ^ k) : dec (x * 10 ^ k + e) = dec x ++ dtx k e := by
 have hp : 0 < 10 ^ k := Nat.pow_pos (by decide)
 have hdv : (x * 10 ^ k + e) / 10 ^ k = x := by rw [Nat.mul_comm, Nat.mul_add_div hp, Nat.div_eq_of_lt he, Nat.add_zero]
 have hmd : (x * 10 ^ k + e) % 10 ^ k = e := by rw [Nat.mul_comm, Nat.mul_add_mod, Nat.mod_eq_of_lt he]
 have hge : 10 ^ k ≤ x * 10 ^ k + e := Nat.le_trans (Nat.le_mul_of_pos_left _ (Nat.pos_of_ne_zero hx)) (Nat.le_add_right _ _)
 have hd : dlen (x * 10 ^ k + e) = dlen x + k := by
  have h1 : ∀ m, dlen x ≤ m ↔ dlen (x * 10 ^ k + e) ≤ m + k := fun m => by
   rw [za0, za0, Nat.pow_add, ← Nat.div_lt_iff_lt_mul hp, hdv]
  have k1 := (h1 (dlen x)).1 (Nat.le_refl _)
  have k2 : k ≤ dlen (x * 10 ^ k + e) := by
   rcases Nat.lt_or_ge (dlen (x * 10 ^ k + e)) k with q | q
   ·have h3 := zcW (x * 10 ^ k + e)
    have : 10 ^ dlen (x * 10 ^ k + e) ≤ 10 ^ k := Nat.pow_le_pow_right (by decide) (by omega)
    omega
   ·exact q
  have k4 := (h1 (dlen (x * 10 ^ k + e) - k)).2 (by omega)
  omega
 rw [zeh (by omega), zeh hx, hd, zfu, hdv, ← zho k k _ (Nat.le_refl _), hmd]
theorem zlF {e : Nat} (he : e < 1000000000) : (dec e).length ≤ 9 ∧ (List.replicate (9 - (dec e).length) [(48 : UInt8)]).flatten ++ dec e = dtx 9 e := by
 have fl : ∀ n, (List.replicate n [(48 : UInt8)]).flatten = List.replicate n 48 := fun n => by
  induction n with
  | zero => rfl
  | succ n ih => rw [List.replicate_succ, List.flatten_cons, ih, List.replicate_succ]; rfl
 rw [fl]
 by_cases h : e = 0
 ·subst h; decide
 ·have h9 : dlen e ≤ 9 := za0.2 he
  rw [zeh h, zcX]
  exact ⟨h9, (zkE _ _ _ (zcW e) h9).symm⟩
theorem zeR {z : Nat} (h : z ≠ 0) : dlen (z / 1000000000) + 1 ≤ dlen z := by
 have h1 := zcW z
 have h2 : 0 < dlen z := by
  rcases Nat.eq_zero_or_pos (dlen z) with q | q
  ·rw [q] at h1; simp at h1; omega
  ·exact q
 have : dlen (z / 1000000000) ≤ dlen z - 1 := by
  rw [za0]
  refine Nat.lt_of_le_of_lt (Nat.div_le_div_left (by decide : 10 ≤ 1000000000) (by decide)) ?_
  rw [Nat.div_lt_iff_lt_mul (by decide), ← Nat.pow_succ, show (dlen z - 1).succ = dlen z by omega]
  exact h1
 omega
theorem zj0 {v : Nat} (h : wlen v ≤ 512) : dlen v ≤ 16384 := by
 have h1 := zaV.1 h
 obtain ⟨n, hn⟩ : ∃ n, n = 512 := ⟨_, rfl⟩
 rw [← hn] at h1
 have h2 : (4294967296 : Nat) ^ n ≤ (10 ^ 32) ^ n := Nat.pow_le_pow_left (by decide) n
 rw [← Nat.pow_mul] at h2
 have : dlen v ≤ 32 * n := za0.2 (Nat.lt_of_lt_of_le h1 h2)
 omega
def strA : XC :=
 .seq (.reg [⟨some 1, .box (.t 0), [], none⟩, ⟨some 2, .mov (.k (.s [])), [], none⟩]) (.seq (.seq (.reg [⟨some 10, .fad 1 (.t 1), [], none⟩, ⟨some 11, .load false 1 (.t 10), [0], none⟩, ⟨some 12, .len (.t 11), [1], none⟩, ⟨some 13, .bin .eql (.t 12) (.k (.i .i64 0)), [2], none⟩]) (.cond (.t 13) (.seq (.reg [⟨some 2, .mov (.k (.s [48])), [], none⟩]) .ret) .skip)) (.seq (.reg [⟨some 3, .mov (.k .sn), [], none⟩]) (.seq (.reg [⟨some 14, .fad 1 (.t 1), [], none⟩, ⟨some 15, .load false 1 (.t 14), [0], none⟩, ⟨some 4, .mov (.t 15), [1, 0, 1], none⟩]) (.block 0 (.loop x__skymosaic_wide_Int__String_l1)))))
def strQ (neg : Bool) (v : Nat) (w : PV) (M : PM) : Prop := ∃ p ps, w = .tu [.p 0 0, p] ∧ Grows M p (ps.map PV.s) ∧ ps ≠ [] ∧ ps.length ≤ 20000 ∧ ps.reverse.flatten = dec v ∧ PM.blk M 0 = some ⟨[.b neg, D v], true, 0⟩
theorem znt {neg : Bool} {v : Nat} (h0 : v ≠ 0) (hl : wlen v ≤ 512) : WK E1 ⟨[.tmp 1, .tmp 3], strQ neg v⟩ strA.cut [] (frOf [.ag [.b neg, D v]]) [] := by
 simp only [strA, XC.cut]
 have hpos := za2 h0
 have q0 : ((wlen v : Int) = 0) = False := by simp; omega
 have hcl : XC.cut x__skymosaic_wide_Int__String_l1 = x__skymosaic_wide_Int__String_l1 := rfl
 rw [hcl]
 simp (disch := omega) only [go_sem, seval, wqq, q0]
 refine zar x__skymosaic_wide_Int__String_l1.eq_1 (fun (z : Nat) fr M => wlen z ≤ 512 ∧ fr 1 = .p 0 0 ∧ fr 4 = D z ∧ ∃ ps : List (List UInt8), Grows M (fr 3) (ps.map PV.s) ∧ NotIn (fr 3) 0 ∧ (z = 0 → ps ≠ []) ∧ ps.length + dlen z ≤ 20000 ∧ (if z = 0 then [] else dec z) ++ ps.reverse.flatten = dec v ∧ PM.blk M 0 = some ⟨[.b neg, D v], true, 0⟩) id ?_ v ⟨hl, by simp only [go_sem, seval], by simp only [go_sem, seval], [], .inl ⟨rfl, by simp only [go_sem, seval]⟩, by simp only [go_sem, seval]; trivial, fun h => (h0 h).elim, ?_, by rw [if_neg h0]; simp, rfl⟩
 ·rintro z fr M ⟨hz, h1, h4, ps, hg, hni, hne, hpl, htx, hb⟩ ih
  by_cases hz0 : z = 0
  ·have q1 : ((wlen z : Int) > 0) = False := by rw [hz0, zbH]; simp
   have htx' : ps.reverse.flatten = dec v := by rw [if_pos hz0] at htx; simpa using htx
   simp (disch := omega) only [go_sem, seval, wqq, h1, h4, q1]
   exact ⟨_, ps, rfl, hg, hne hz0, by omega, htx', hb⟩
  ·have q1 : ((wlen z : Int) > 0) = True := by have := za2 hz0; simp; omega
   have hzl := zak z
   have h48 : pf E1 48 [Dw (wlen z) z, .i .u32 1000000000] = some (.tu [Dw (wlen z) (z / 1000000000), (PV.i .u32 ((z % 1000000000 : Nat) : Int))]) := by
    have := zgs (E := E1) rfl (n := wlen z) (a := z) (w := 1000000000) hzl (by decide) (by decide) (by omega)
    simpa only [Int.cast_ofNat_Int] using this
   have hz' : z / 1000000000 < 4294967296 ^ wlen z := Nat.lt_of_le_of_lt (Nat.div_le_self _ _) hzl
   have h49 := ze5 (E := E1) rfl (wlen z) (z / 1000000000) hz' (by omega)
   have hr : z % 1000000000 < 1000000000 := Nat.mod_lt _ (by decide)
   have h50 : pf E1 50 [.i .i64 ((z % 1000000000 : Nat) : Int)] = some (.s (dec (z % 1000000000))) := zgv (o := orcA 50) (w := .s (dec (z % 1000000000))) (M2 := []) rfl (by
    have hd : decI ((z % 1000000000 : Nat) : Int) = dec (z % 1000000000) := by unfold decI; rw [if_neg (by omega), Int.natAbs_natCast]
    have hf : Fits64 ((z % 1000000000 : Nat) : Int) := ⟨by omega, by omega⟩
    show orcP 50 _ [] = _
    simp only [orcP, libP]
    rw [if_neg (by decide), if_pos ⟨trivial, hf⟩, hd]; rfl) rfl
   obtain ⟨r1, r2⟩ := zlF hr
   have hze : z = z / 1000000000 * 10 ^ 9 + z % 1000000000 := by
    show z = z / 1000000000 * 1000000000 + z % 1000000000; omega
   have hwl : wlen (z / 1000000000) ≤ 512 := Nat.le_trans (zaV.2 hz') hz
   by_cases hz2 : z / 1000000000 = 0
   ·have q2 : ((wlen (z / 1000000000) : Int) > 0) = False := by rw [hz2, zbH]; simp
    obtain ⟨v', M', he, hg', hk⟩ := zed (by_ := 16) (by decide) hg (.s (dec (z % 1000000000))) (by simp; omega)
    obtain ⟨k1, k2⟩ := hk 0 _ hb hni
    simp (disch := omega) only [go_sem, seval, wqq, h1, h4, q1, q2, zf0, zf1, zf2, zf3, h48, h49, h50, he]
    have hzr : z % 1000000000 = z := by omega
    rw [if_neg hz0] at htx
    refine ih (z / 1000000000) _ M' (by simp only [id]; omega) ⟨hwl, by simp only [go_sem, seval, h1], by simp only [go_sem, seval], ps ++ [dec (z % 1000000000)], by simp only [go_sem, seval]; simpa using hg', by simp only [go_sem, seval]; exact k2, fun _ => by simp, ?_, ?_, k1⟩
    ·have := zeR hz0
     simp only [List.length_append, List.length_cons, List.length_nil]; omega
    ·rw [if_pos hz2, hzr, List.reverse_append]; simpa using htx
   ·have q2 : ((wlen (z / 1000000000) : Int) > 0) = True := by have := za2 hz2; simp; omega
    obtain ⟨v', M', he, hg', hk⟩ := zed (by_ := 16) (by decide) hg (.s (dtx 9 (z % 1000000000))) (by simp; omega)
    obtain ⟨k1, k2⟩ := hk 0 _ hb hni
    have i9 : (9 : Int) - ((dec (z % 1000000000)).length : Int) = ((9 - (dec (z % 1000000000)).length : Nat) : Int) := by omega
    have h51 : pf E1 51 [.s [48], .i .i64 ((9 - (dec (z % 1000000000)).length : Nat) : Int)] = some (.s (List.replicate (9 - (dec (z % 1000000000)).length) [(48 : UInt8)]).flatten) := zgv (o := orcA 51) (w := .s (List.replicate (9 - (dec (z % 1000000000)).length) [(48 : UInt8)]).flatten) (M2 := []) rfl (by
     show orcP 51 _ [] = _
     simp only [orcP, libP]
     rw [if_neg (by decide), if_pos ⟨trivial, by omega, by omega, by simp⟩]; rfl) rfl
    have hadd : binP .add (.s (List.replicate (9 - (dec (z % 1000000000)).length) [(48 : UInt8)]).flatten) (.s (dec (z % 1000000000))) = some (.s (dtx 9 (z % 1000000000))) := by
     have hlen := congrArg List.length r2
     rw [List.length_append, zcX] at hlen
     rw [zee _ _ (by omega), r2]
    generalize (List.replicate (9 - (dec (z % 1000000000)).length) [(48 : UInt8)]).flatten = pd at *
    simp (disch := omega) only [go_sem, seval, wqq, h1, h4, q1, q2, zf0, zf1, zf2, zf3, h48, h49, h50, i9, h51, hadd, he]
    rw [if_neg hz0] at htx
    refine ih (z / 1000000000) _ M' (by simp only [id]; omega) ⟨hwl, by simp only [go_sem, seval, h1], by simp only [go_sem, seval], ps ++ [dtx 9 (z % 1000000000)], by simp only [go_sem, seval]; simpa using hg', by simp only [go_sem, seval]; exact k2, fun _ => by simp, ?_, ?_, k1⟩
    ·have := zeR hz0
     simp only [List.length_append, List.length_cons, List.length_nil]; omega
    ·have hm := ziZ (k := 9) hz2 (by decide) hr
     rw [← hze] at hm
     rw [if_neg hz2, List.reverse_append, ← htx, hm]
     simp
 ·have h1 := zj0 hl
  simp only [List.length_nil]; omega
end Go.Eng
namespace Go.Eng
theorem zjC {neg : Bool} {v : Nat} (h0 : v ≠ 0) (hl : wlen v ≤ 512) : ∃ lf fr M p ps, pCode E1.glob (pvF E1 lf) lf strA (frOf [.ag [.b neg, D v]]) [] = some (.normal, fr, M) ∧ fr 1 = .p 0 0 ∧ fr 3 = p ∧ Grows M p (ps.map PV.s) ∧ ps ≠ [] ∧ ps.length ≤ 20000 ∧ ps.reverse.flatten = dec v ∧ PM.blk M 0 = some ⟨[.b neg, D v], true, 0⟩ := by
  obtain ⟨lf, q, fr, M, vs, e, h1, h2, h3⟩ := znt (neg := neg) h0 hl
  simp only [Option.bind_eq_some_iff] at e
  obtain ⟨⟨o, fr1, M1⟩, e1, e2⟩ := e
  simp only [unw] at e2
  cases e2
  obtain ⟨e3, hno⟩ := zba _ _ _ _ _ _ e1
  have hq : q = .normal := by
    cases q with
    | normal => rfl
    | exit i => exact (h1 i rfl).elim
    | ret => exact (hno rfl).elim
  subst hq
  obtain ⟨k, e4⟩ := zaN _ e3
  have e5 := zaI (zbY (Nat.le_max_left k lf)) (Nat.le_max_right k lf) _ e4
  simp only [pRes, pResOne] at h2
  cases h2
  obtain ⟨p, ps, g1, g2, g3, g4, g5, g6⟩ := h3
  simp only [packP, PV.tu.injEq, List.cons.injEq, and_true] at g1
  exact ⟨max k lf, fr, M, p, ps, e5, g1.1, g1.2, g2, g3, g4, g5, g6⟩
theorem zlR (a : List Nat) (x : Nat) : val (a ++ [x]) = val a + 4294967296 ^ a.length * x := by
  induction a with
  | nil => simp [val]
  | cons y a ih => simp only [List.cons_append, val, ih, List.length_cons, Nat.pow_succ]; grind
theorem zjh {xs : List Nat} (h : Ok32 xs) (hz : xs.getLast? ≠ some 0) : xs = dig (val xs) := by
  have hlen : wlen (val xs) = xs.length := by
    rcases List.eq_nil_or_concat xs with rfl | ⟨a, x, rfl⟩
    · rfl
    · rw [List.concat_eq_append] at h hz ⊢
      have hx : x ≠ 0 := fun e => by subst e; simp at hz
      have h1 : wlen (val (a ++ [x])) ≤ (a ++ [x]).length := zaV.2 (zku h)
      have h2 : ¬ wlen (val (a ++ [x])) ≤ a.length := fun q => by
        have := zaV.1 q
        rw [zlR] at this
        have : 4294967296 ^ a.length * 1 ≤ 4294967296 ^ a.length * x := Nat.mul_le_mul_left _ (by omega)
        omega
      simp at h1 ⊢
      omega
  unfold dig
  rw [hlen]
  exact zmk h
theorem zdL : ∀ {cs : List AV} {xs : List Nat}, wordsA cs = some xs → cs = xs.map (fun n => .i .u32 (n : Int)) ∧ Ok32 xs
  | [], xs, e => by simp [wordsA] at e; subst e; exact ⟨rfl, fun x hx => by cases hx⟩
  | c :: cs, xs, e => by
    unfold wordsA at e
    split at e
    · rename_i he; cases he
    · rename_i n l he
      cases he
      split at e
      · rename_i hn
        simp only [Option.map_eq_some_iff] at e
        obtain ⟨ys, e1, rfl⟩ := e
        obtain ⟨p1, p2⟩ := zdL e1
        refine ⟨by rw [p1, List.map_cons, Int.toNat_of_nonneg hn.1], fun x hx => ?_⟩
        rcases List.mem_cons.1 hx with rfl | hx
        · omega
        · exact p2 x hx
      · cases e
    · cases e
theorem zgH {neg : Bool} {w : AV} {h : Hp} {l : List UInt8} (e : txtA [.ag [.b neg, w]] h = some l) (hcap : ∀ n off len cap z, w = .sl n off len cap z → len ≤ cap) :
    ∃ v, wlen v ≤ 512 ∧ (neg = true → v ≠ 0) ∧ l = decI (if neg then -(v : Int) else (v : Int)) ∧ V h (fun _ => False) [] (D v) w := by
  have nil : ∀ {l}, wtx neg [] = some l → (neg = true → False) ∧ l = decI (if neg then -((0 : Nat) : Int) else ((0 : Nat) : Int)) := fun {l} e => by
    unfold wtx at e
    split at e
    · rename_i hc; cases e; exact ⟨fun hn => hc.2.2 hn rfl, rfl⟩
    · cases e
  have D0 : D 0 = .lst [] := rfl
  have fin0 : ∀ {l}, wtx neg [] = some l → V h (fun _ => False) [] (.lst []) w → ∃ v, wlen v ≤ 512 ∧ (neg = true → v ≠ 0) ∧ l = decI (if neg then -(v : Int) else (v : Int)) ∧ V h (fun _ => False) [] (D v) w := fun {l} e hv => by
    obtain ⟨n1, n2⟩ := nil e
    exact ⟨0, by rw [zbH]; omega, fun hn => (n1 hn).elim, n2, by rw [D0]; exact hv⟩
  unfold txtA at e
  split at e
  · rename_i neg' n off len cap z heq
    simp only [List.cons.injEq, AV.ag.injEq, AV.b.injEq, and_true] at heq
    obtain ⟨rfl, rfl⟩ := heq
    split at e
    · rename_i h0
      subst h0
      exact fin0 e (.lst0 n off cap z)
    · rename_i h0
      split at e
      · rename_i hz
        subst hz
        simp only [Option.bind_eq_some_iff] at e
        obtain ⟨xs, ⟨cs, e1, e2⟩, e3⟩ := e
        obtain ⟨w1, w2⟩ := zdL e2
        unfold wtx at e3
        split at e3
        · rename_i hc
          cases e3
          have hd := zjh w2 hc.2.1
          have hlen : cs.length = len := by
            unfold Hp.rd at e1
            split at e1
            · rename_i b hb
              split at e1
              · cases e1; simp; omega
              · cases e1
            · cases e1
          have hxl : xs.length = len := by rw [← hlen, w1, List.length_map]
          have hwl : wlen (val xs) = len := by rw [← hxl]; conv => rhs; rw [hd]
                                               simp
          have hD : D (val xs) = .lst (xs.map fun n => (PV.i .u32 ((n : Nat) : Int))) := by
            have : W (dig (val xs)) = D (val xs) := zqz _ _
            rw [← this, ← hd]; rfl
          refine ⟨val xs, by omega, fun hn h0' => ?_, rfl, ?_⟩
          · rw [h0', zbH] at hwl; omega
          · rw [hD]
            unfold Hp.rd at e1
            split at e1
            · rename_i b hb
              split at e1
              · rename_i hle
                cases e1
                have hfl : flat (xs.map fun n => (PV.i .u32 ((n : Nat) : Int))) = xs.map fun n => (PV.i .u32 ((n : Nat) : Int)) := by
                  clear hD hwl hxl hlen hd hc w1 e2 w2
                  induction xs with
                  | nil => rfl
                  | cons x xs ih => rw [List.map_cons]; show [(PV.i .u32 ((x : Nat) : Int))] ++ flat _ = _; rw [ih]; rfl
                have hg : ∀ i (hi : i < xs.length), b.v[off + i]? = some (.i .u32 ((xs[i] : Nat) : Int)) := fun i hi => by
                  have : ((b.v.drop off).take len)[i]? = some (.i .u32 ((xs[i] : Nat) : Int)) := by
                    rw [w1, List.getElem?_map, List.getElem?_eq_getElem hi]; rfl
                  rw [List.getElem?_take, if_pos (by omega), List.getElem?_drop] at this
                  exact this
                have hl : (xs.map fun n => (PV.i .u32 ((n : Nat) : Int))).length = len := by rw [List.length_map, hxl]
                have := V.lst (D := fun _ => False) (r := []) (xs := xs.map fun n => (PV.i .u32 ((n : Nat) : Int))) (m := n) (off := off) (cap := cap) (z := 1) (fun i => .i .u32 ((xs.getD i 0 : Nat) : Int)) hb (fun q => q) (by rw [hfl]; simp [PV.scal]) (by decide) (fun x hx => by
                  obtain ⟨y, _, rfl⟩ := List.mem_map.1 hx; rfl) (by rw [hl]; exact hcap n off len cap 1 rfl) (fun i hi => by
                  rw [hfl, List.length_map] at hi
                  rw [hg i hi, List.getD, List.getElem?_eq_getElem hi]; rfl) (fun i hi => by
                  have hi' : i < xs.length := by rw [hfl, List.length_map] at hi; exact hi
                  have e : (flat (xs.map fun n => (PV.i .u32 ((n : Nat) : Int))))[i] = (PV.i .u32 ((xs[i] : Nat) : Int)) := by simp only [hfl]; rw [List.getElem_map]
                  rw [e, List.getD, List.getElem?_eq_getElem hi']
                  exact .i _ _)
                rw [hl] at this
                exact this
              · cases e1
            · cases e1
        · cases e3
      · cases e
  · rename_i neg' heq
    simp only [List.cons.injEq, AV.ag.injEq, AV.b.injEq, and_true] at heq
    obtain ⟨rfl, rfl⟩ := heq
    exact fin0 e .lsn
  · rename_i neg' heq
    simp only [List.cons.injEq, AV.ag.injEq, AV.b.injEq, and_true] at heq
    obtain ⟨rfl, rfl⟩ := heq
    exact fin0 e .lse
  · rename_i neg' heq
    simp only [List.cons.injEq, AV.ag.injEq, AV.b.injEq, and_true] at heq
    obtain ⟨rfl, rfl⟩ := heq
    exact fin0 e .le0
  · cases e
end Go.Eng
namespace Go.Eng
def HasT (h : Hp) : Prop := ∃ b, h.m 0 = some b ∧ b.v = powT
theorem zhW (m : Nat) : ¬ DM [] [] m := fun d => by
 obtain ⟨n, b, q, _⟩ := d
 simp at q
theorem PInv.start {h : Hp} (w : h.wf) (t : HasT h) : PInv globT (fun _ => False) [] [] h := by
 refine ⟨rfl, fun i j m q => by simp at q, fun m q => by simp at q, w, fun n m q => by simp at q, fun n b m q => by simp at q, fun m d => d.elim, fun g l q => ?_⟩
 unfold globT at q
 split at q
 ·rename_i hg
  cases q; subst hg
  obtain ⟨b, t1, t2⟩ := t
  refine ⟨b, t1, ⟨t2, by decide⟩, fun d => ?_⟩
  rcases d with d | d
  ·exact d
  ·exact zhW _ d
 ·cases q
theorem VL.dd {h : Hp} {args : List PV} {asq : List AV} (v : VL h (fun _ => False) [] args asq) : VL h (DD (fun _ => False) [] []) [] args asq :=
 v.anti fun m d => by
  rcases d with d | d
  ·exact d
  ·exact (zhW _ d).elim
theorem zhb {h : Hp} {D : Nat → Prop} {r : List Nat} : ∀ {ps : List (List UInt8)} {l : List AV}, VL h D r (ps.map PV.s) l → l = ps.map AV.s
 | [], l, v => v.of_nil
 | x :: ps, l, v => by
  obtain ⟨y, ys, e1, e2, e3⟩ := v.uncons
  rw [e1, List.map_cons, ← zhb e3]
  cases e2; rfl
theorem zlL (K : PEnvOk E1) {neg : Bool} {v : Nat} {w : AV} {h : Hp} (hw : h.wf) (t : HasT h) (h0 : v ≠ 0) (hl : wlen v ≤ 512) (hv : V h (fun _ => False) [] (D v) w) :
  ∃ lf fr' h' m0 m len cap ps, evCode (evF E1.prog lf) lf strA ([.ag [.b neg, w]] ++ List.replicate 57 undefA) h = some (.normal, fr', h') ∧ fr'.length = 58 ∧ fr'.getD 1 undefA = .p m0 0 ∧ (∃ b, h'.m m0 = some b ∧ b.v[0]? = some (.b neg)) ∧
   fr'.getD 3 undefA = .sl m 0 len cap 1 ∧ (∃ b, h'.m m = some b ∧ b.v = ps.map AV.s) ∧ len = ps.length ∧ ps ≠ [] ∧ ps.length ≤ 20000 ∧ ps.reverse.flatten = dec v := by
 obtain ⟨lf, fr, M, p, ps, e, f1, f3, hg, g1, g2, g3, hb⟩ := zjC (neg := neg) h0 hl
 have hv0 : VL h (DD (fun _ => False) [] []) [] [.ag [.b neg, D v]] [.ag [.b neg, w]] :=
  VL.dd (.cons ((fun q : VL h (fun _ => False) [] [.b neg, D v] [.b neg, w] => V.ag q.1 q.2) (.cons (.b neg) (.cons hv .nil))) .nil)
 have F0 : VFr h (DD (fun _ => False) [] []) [] (frOf [.ag [.b neg, D v]]) ([.ag [.b neg, w]] ++ List.replicate 57 undefA) := by
  intro k
  cases k with
  | zero => exact hv0.2 0 (by simp) (by simp)
  | succ k =>
   have e2 : ([AV.ag [.b neg, w]] ++ List.replicate 57 undefA).getD (k + 1) undefA = undefA := by
    simp only [List.singleton_append, List.getD, List.getElem?_cons_succ, List.getElem?_replicate]
    split <;> rfl
   rw [e2]
   exact .junk _ rfl fun _ q => by cases q
 obtain ⟨fr', h', r', q1, q2, q3, q4, q5⟩ := za1 (zgA K lf) lf strA rfl _ _ _ _ _ _ _ _ e (PInv.start hw t) F0 rfl
 have a1 := q4 1
 rw [f1] at a1
 have a3 := q4 3
 rw [f3] at a3
 rcases hg with ⟨hn, _⟩ | ⟨k, ev, rfl, hk⟩
 ·simp at hn; exact (g1 hn).elim
 rw [zaJ] at hb hk
 generalize ha1 : fr'.getD 1 undefA = A1 at a1
 generalize ha3 : fr'.getD 3 undefA = A3 at a3
 cases a1 with
 | @p _ _ m0 _ hm0 =>
  cases a3 with
  | @sl _ _ m _ len cap z hm hlc =>
   obtain ⟨b0, c1, c2, c3, c4, c5⟩ := q2.blk 0 _ m0 hb hm0
   obtain ⟨b1, d1, d2, d3, d4, d5⟩ := q2.blk k _ m hk hm
   refine ⟨lf, fr', h', m0, m, _, _, ps, q1, q5, ha1, ⟨b0, c1, ?_⟩, ha3, ⟨b1, d1, ?_⟩, by simp, g1, g2, g3⟩
   ·obtain ⟨x, xs, e1, e2, e3⟩ := c4.uncons
    rw [e1]
    cases e2; rfl
   ·exact zhb d4
theorem zlK (K : PEnvOk E1) {w : AV} {h : Hp} (hw : h.wf) (t : HasT h) (hv : V h (fun _ => False) [] (D 0) w) :
  ∃ lf fr' h', evCode (evF E1.prog lf) lf strA ([.ag [.b false, w]] ++ List.replicate 57 undefA) h = some (.ret, fr', h') ∧ fr'.getD 2 undefA = .s [48] := by
 have wk : WK E1 ⟨[.tmp 2], fun q _ => q = .s [48]⟩ (.seq strA .fail) [] (frOf [.ag [.b false, D 0]]) [] := by
  simp only [strA]
  have q0 : ((wlen 0 : Int) = 0) = True := by rw [zbH]; simp
  simp (disch := omega) only [go_sem, seval, wqq, q0]
 obtain ⟨lf, q, fr, M, vs, e, h1, h2, h3⟩ := wk
 simp only [Option.bind_eq_some_iff] at e
 obtain ⟨⟨o, fr1, M1⟩, e1, e2⟩ := e
 simp only [unw] at e2
 cases e2
 have e0 : pCode E1.glob (pcl E1) lf strA (frOf [.ag [.b false, D 0]]) [] = some (.ret, fr, M) := by
  simp only [pCode] at e1
  cases hs : pCode E1.glob (pcl E1) lf strA (frOf [.ag [.b false, D 0]]) [] with
  | none => rw [hs] at e1; cases e1
  | some r =>
   obtain ⟨o2, fr2, M2⟩ := r
   rw [hs] at e1
   cases o2 with
   | normal => cases e1
   | exit i => cases e1; exact (h1 i rfl).elim
   | ret => cases e1; rfl
 obtain ⟨k, e4⟩ := zaN _ e0
 have e5 := zaI (zbY (Nat.le_max_left k lf)) (Nat.le_max_right k lf) _ e4
 simp only [pRes, pResOne] at h2
 cases h2
 simp only [packP] at h3
 have hv0 : VL h (DD (fun _ => False) [] []) [] [.ag [.b false, D 0]] [.ag [.b false, w]] :=
  VL.dd (.cons ((fun q : VL h (fun _ => False) [] [.b false, D 0] [.b false, w] => V.ag q.1 q.2) (.cons (.b false) (.cons hv .nil))) .nil)
 have F0 : VFr h (DD (fun _ => False) [] []) [] (frOf [.ag [.b false, D 0]]) ([.ag [.b false, w]] ++ List.replicate 57 undefA) := by
  intro k
  cases k with
  | zero => exact hv0.2 0 (by simp) (by simp)
  | succ k =>
   have e2 : ([AV.ag [.b false, w]] ++ List.replicate 57 undefA).getD (k + 1) undefA = undefA := by
    simp only [List.singleton_append, List.getD, List.getElem?_cons_succ, List.getElem?_replicate]
    split <;> rfl
   rw [e2]
   exact .junk _ rfl fun _ q => by cases q
 obtain ⟨fr', h', r', q1, q2, q3, q4, q5⟩ := za1 (zgA K (max k lf)) (max k lf) strA rfl _ _ _ _ _ _ _ _ e5 (PInv.start hw t) F0 rfl
 have a2 := q4 2
 rw [h3] at a2
 generalize ha2 : fr'.getD 2 undefA = A2 at a2
 cases a2
 exact ⟨_, fr', h', q1, ha2⟩
end Go.Eng
namespace Go.Eng
variable {F : Nat} {key : Nat → Option FuncId}
theorem Ext.below {l : Loc} {h : Hp} {w w' : World} {B : Nat} (hB : w.heap.size ≤ B) (b : RowKit.Below B w w') : Ext l h w l h w' :=
 ⟨l.le_refl, .refl h, fun _ _ e => .inl e, b.size, b.os, b.tape, b.output, fun k hk _ => b.block k (Nat.lt_of_lt_of_le hk hB)⟩
theorem Sim.below {l : Loc} {h : Hp} {w w' : World} {B : Nat} (S : Sim key F l h w) (hB : w.heap.size ≤ B) (b : RowKit.Below B w w') : Sim key F l h w' :=
 ⟨fun n blk a e1 e2 => (S.holds n blk a e1 e2).move l.le_refl b.size (b.block _ (Nat.lt_of_lt_of_le (S.lt n a e2) hB)), S.apart, fun n a e => Nat.lt_of_lt_of_le (S.lt n a e) b.size, S.dom, S.wf⟩
theorem zbD {P : Program} {l : Loc} {h : Hp} {w : World} {g : FuncId} {vs : Array Value} {v : AV} {val : Value} (S : Sim key F l h w)
  (c : Calls P g vs w fun e w' => e = .returned val ∧ RowKit.Below w.heap.size w w') (r : Rel key l v val) :
  Calls P g vs w fun e w' => ∃ l' val, e = .returned val ∧ Ext l h w l' h w' ∧ Sim key F l' h w' ∧ Rel key l' v val :=
 c.mono fun e w' ⟨e1, b⟩ => ⟨l, val, e1, .below (Nat.le_refl _) b, S.below (Nat.le_refl _) b, r⟩
theorem zeG {l : Loc} (bs : List UInt8) : Rel key l (.s bs) (.string ⟨bs.toArray⟩) := by
 have := Rel.s (key := key) (l := l) (⟨bs.toArray⟩ : ByteArray)
 simpa using this
end Go.Eng
namespace Go.Eng
open Go.Proofs Go.RowKit Go.Shelf
theorem zhj {v : Nat} (h : v < 10) : dec v = [UInt8.ofNat (48 + v)] := by
 unfold dec
 split
 ·rename_i h0; subst h0; rfl
 ·rename_i h0
  have hd : dlen v = 1 := by
   have h1 : dlen v ≤ 1 := za0.2 (by omega)
   have h2 := zcW v
   rcases Nat.eq_zero_or_pos (dlen v) with q | q
   ·rw [q] at h2; simp at h2; omega
   ·omega
  rw [hd]
  show [UInt8.ofNat (48 + v / 10 ^ 0 % 10)] = _
  rw [Nat.pow_zero, Nat.div_one, Nat.mod_eq_of_lt h]
theorem zfZ : ∀ (n v : Nat), dtx (n + 1) v = dtx n (v / 10) ++ [UInt8.ofNat (48 + v % 10)]
 | 0, v => by show [UInt8.ofNat (48 + v / 10 ^ 0 % 10)] = _; rw [Nat.pow_zero, Nat.div_one]; rfl
 | n + 1, v => by
  show UInt8.ofNat (48 + v / 10 ^ (n + 1) % 10) :: dtx (n + 1) v = (UInt8.ofNat (48 + v / 10 / 10 ^ n % 10) :: dtx n (v / 10)) ++ _
  rw [zfZ n v, Nat.div_div_eq_div_mul, ← Nat.pow_succ']; rfl
theorem zky {v : Nat} (h : ¬ v < 10) : dec v = dec (v / 10) ++ [UInt8.ofNat (48 + v % 10)] := by
 have hd : dlen v = dlen (v / 10) + 1 := by
  have k : ∀ m, dlen (v / 10) ≤ m ↔ dlen v ≤ m + 1 := fun m => by
   rw [za0, za0, Nat.pow_succ, Nat.div_lt_iff_lt_mul (by decide)]
  have k1 := (k (dlen (v / 10))).1 (Nat.le_refl _)
  have k2 : 0 < dlen v := by
   rcases Nat.eq_zero_or_pos (dlen v) with q | q
   ·have := zcW v; rw [q] at this; simp at this; omega
   ·exact q
  have k3 := (k (dlen v - 1)).2 (by omega)
  omega
 unfold dec
 rw [if_neg (by omega), if_neg (by omega), hd, zfZ]
theorem zhi (v : Nat) : Lib.decDigits v = dec v := by
 induction v using Nat.strongRecOn with
 | _ v ih =>
  rw [Lib.decDigits]
  split
  ·rename_i h; exact (zhj h).symm
  ·rename_i h
   rw [ih (v / 10) (by omega), ← zky h]
theorem ziX (n : Int) : Lib.itoa n = decI n := by
 unfold Lib.itoa decI
 split
 ·rw [zhi]
 ·rename_i h
  rw [zhi]
  congr 1; omega
theorem zix (l : List UInt8) : ∀ c, Lib.repeatL l c = (List.replicate c l).flatten
 | 0 => rfl
 | c + 1 => by rw [Lib.repeatL, zix l c, List.replicate_succ, List.flatten_cons]
theorem zkA {c : UInt8} (h : isDig c = true) : Lib.digitVal c = some (c.toNat - 48) := by
 simp only [isDig, decide_eq_true_eq] at h
 unfold Lib.digitVal
 rw [if_pos h]
theorem ziJ : ∀ (l : List UInt8) (a : Nat), l.all isDig = true → Lib.decFrom a l = some (a * 10 ^ l.length + tv l)
 | [], a, _ => by simp [Lib.decFrom, tv]
 | c :: l, a, h => by
  simp only [List.all_cons, Bool.and_eq_true] at h
  unfold Lib.decFrom
  rw [zkA h.1]
  simp only
  rw [ziJ l _ h.2]
  congr 1
  show (a * 10 + (c.toNat - 48)) * 10 ^ l.length + tv l = a * 10 ^ (l.length + 1) + ((c.toNat - 48) * 10 ^ l.length + tv l)
  rw [Nat.pow_succ]; grind
theorem ziS {l : List UInt8} (h0 : l ≠ []) (h : l.all isDig = true) : Lib.atoi l = some (tv l : Int) := by
 cases l with
 | nil => exact (h0 rfl).elim
 | cons c l =>
  have hc : isDig c = true := by simp only [List.all_cons, Bool.and_eq_true] at h; exact h.1
  simp only [isDig, decide_eq_true_eq] at hc
  have h45 : (c == 45) = false := by
   rw [beq_eq_false_iff_ne]; rintro rfl; revert hc; decide
  have h43 : (c == 43) = false := by
   rw [beq_eq_false_iff_ne]; rintro rfl; revert hc; decide
  simp only [Lib.atoi, h45, h43, Bool.false_eq_true, if_false]
  unfold Lib.decNat
  simp only [List.isEmpty_cons, Bool.false_eq_true, if_false]
  rw [ziJ _ _ h]
  simp
theorem zhI (c : UInt8) : ∀ l : List UInt8, Lib.indexByte l c = idxB l c
 | [] => rfl
 | b :: l => by unfold Lib.indexByte idxB; rw [zhI c l]
structure LibOk (P : Program) (ρ : Ren) (key : Nat → Option FuncId) (T : Tab) (G : Nat) : Prop where
 l105 : Lays.n105 P ρ
 l171 : LaysM.n171 P ρ
 lX : Builder.Extra P ρ
 gname : P.globalNamed "internal/strconv.uint64pow10" = some G
 gkey : T.gkey G = some 0
 k50 : key 50 = some (ρ.f 171)
 k51 : key 51 = some (ρ.f 105)
 o130 : ∀ g, key 130 = some g → Lays.n160 P ρ ∧ (P.info? (ρ.t 116)).map (fun i => (i.zero, i.size)) = some (some (.agg (Array.replicate 256 (.bool false))), 256) ∧ g = ρ.f 160
 o131 : ∀ g, key 131 = some g → Lays.n172 P ρ ∧ g = ρ.f 172
 o222 : ∀ g, key 222 = some g → Lays.n219 P ρ ∧ g = ρ.f 219
variable {P : Program} {ρ : Ren} {key : Nat → Option FuncId} {T : Tab} {G : Nat}
theorem zg6 {l : Loc} {xs : List UInt8} {v : Value} (h : Rel key l (.s xs) v) : ∃ s : ByteArray, v = .string s ∧ s.data.toList = xs := by
 generalize hx : AV.s xs = x at h
 cases h <;> cases hx
 exact ⟨_, rfl, rfl⟩
theorem zlE {l : Loc} {k : IntKind} {n : Int} {v : Value} (h : Rel key l (.i k n) v) : v = .int k n := by
 cases h; rfl
theorem zgC {l : Loc} {a : AV} {vs : Array Value} (h : RelL key l [a] vs.toList) : ∃ v, vs = #[v] ∧ Rel key l a v := by
 have hl := h.1
 rcases vs with ⟨vs⟩
 match vs, hl with
 | [v], _ => exact ⟨v, rfl, h.2 0 (by simp) (by simp)⟩
theorem zeF {l : Loc} {a b : AV} {vs : Array Value} (h : RelL key l [a, b] vs.toList) : ∃ v w, vs = #[v, w] ∧ Rel key l a v ∧ Rel key l b w := by
 have hl := h.1
 rcases vs with ⟨vs⟩
 match vs, hl with
 | [v, w], _ => exact ⟨v, w, rfl, h.2 0 (by simp) (by simp), h.2 1 (by simp) (by simp)⟩
theorem mkS {s : ByteArray} {xs : List UInt8} (h : s.data.toList = xs) : s = ⟨xs.toArray⟩ := by
 rcases s with ⟨d⟩
 rw [← h]
theorem znu (K : LibOk P ρ key T G) {F : Nat} {l : Loc} {h : Hp} {w : World} (TO : TabOk key T l) (S : Sim key F l h w) (t : ∃ b, h.m 0 = some b ∧ b.v = powT) : Lib.TabIs P w "internal/strconv.uint64pow10" .u64 Lib.pow10Tab := by
 obtain ⟨m, hm⟩ := TO.g G 0 K.gkey
 obtain ⟨b, b1, b2⟩ := t
 have H := S.holds 0 b _ b1 hm
 obtain ⟨_, _, cs, ty, fz, h3, h4⟩ := H.whole rfl
 unfold Lib.TabIs World.var?
 rw [K.gname]
 simp only [Option.bind_some]
 simp only at h3
 rw [h3]
 simp only [Option.some.injEq]
 have hlen : b.v.length = 20 := by rw [b2]; rfl
 apply Array.ext_getElem?
 intro i
 by_cases hi : i < 20
 ·obtain ⟨v, c1, c2⟩ := H.cell i (by omega)
  have hcs : cs[i]? = some v := by
   have := c1
   simp only [World.cell?, Nat.zero_add] at this
   rw [h3] at this
   simpa using this
  have hb : b.v[i]'(by omega) = .i .u64 ((10 ^ i : Nat) : Int) := by
   simp only [b2, powT]
   rw [List.getElem_map, List.getElem_range]
  rw [hb] at c2
  rw [hcs, zlE c2]
  simp [Lib.pow10Tab, hi]
 ·rw [Array.getElem?_eq_none (by omega), Array.getElem?_eq_none (by simp [Lib.pow10Tab]; omega)]
theorem zhL (K : LibOk P ρ key T G) {f g : Nat} (hk : key f = some g) (hf : f ≠ 33) {F : Nat} {args : List AV} {vs : Array Value} {h h' : Hp} {v : AV} {l : Loc} {w : World} (e : orcA f args h = some (v, h')) (TO : TabOk key T l)
  (RL : RelL key l args vs.toList) (S : Sim key F l h w) : Calls P g vs w fun e w' => ∃ l' val, e = .returned val ∧ Ext l h w l' h' w' ∧ Sim key F l' h' w' ∧ Rel key l' v val := by
 unfold orcA at e
 rw [if_neg hf] at e
 split at e
 ·cases e
 rename_i ht
 simp only [Option.map_eq_some_iff, Prod.mk.injEq] at e
 obtain ⟨v', e1, rfl, rfl⟩ := e
 unfold libA at e1
 split at e1
 ·rename_i n
  split at e1
  ·rename_i hc
   cases e1
   obtain ⟨rfl, hn⟩ := hc
   obtain ⟨x, rfl, r1⟩ := zgC RL
   rw [zlE r1]
   obtain rfl := Option.some.inj (K.k50.symm.trans hk)
   have t : ∃ b, h.m 0 = some b ∧ b.v = powT := by
    by_cases q : ∃ b, h.m 0 = some b ∧ b.v = powT
    ·exact q
    ·exact (ht ⟨rfl, q⟩).elim
   refine zbD S (val := .string ⟨(decI n).toArray⟩) ((Any.strconv_Itoa K.l171 n hn.1 hn.2 w (znu K TO S t)).mono ?_) (zeG _)
   rintro e w' ⟨rfl, k, os, rfl⟩
   exact ⟨by rw [ziX], Lib.below_grow _ _ (Nat.le_refl _) _ _⟩
  ·cases e1
 ·rename_i xs c
  split at e1
  ·rename_i hc
   cases e1
   obtain ⟨rfl, h1, h2, h3⟩ := hc
   obtain ⟨x, y, rfl, r1, r2⟩ := zeF RL
   obtain ⟨s, rfl, rfl⟩ := zg6 r1
   rw [zlE r2]
   obtain rfl := Option.some.inj (K.k51.symm.trans hk)
   obtain ⟨c, rfl⟩ : ∃ k : Nat, c = (k : Int) := ⟨c.toNat, by omega⟩
   have hsz : s.size ≤ 1000 := by simpa using h3
   have hm : s.size * c ≤ 1000 * 1000 := Nat.mul_le_mul hsz (by omega)
   refine zbD S (val := .string ⟨((List.replicate c s.data.toList).flatten).toArray⟩) ((Any.strings_Repeat K.l105 K.lX s c w (by omega) (by omega)).mono ?_) (zeG _)
   rintro e w' ⟨rfl, hb⟩
   exact ⟨by rw [zix], hb⟩
  ·cases e1
 ·rename_i xs cs
  split at e1
  ·rename_i hc
   cases e1
   obtain ⟨rfl, h1, h2, h3⟩ := hc
   obtain ⟨x, y, rfl, r1, r2⟩ := zeF RL
   obtain ⟨s, rfl, rfl⟩ := zg6 r1
   obtain ⟨c, rfl, rfl⟩ := zg6 r2
   obtain ⟨l160, i116, rfl⟩ := K.o130 _ hk
   refine zbD S (val := .string ⟨(((s.data.toList.reverse.dropWhile (c.data.toList.contains ·)).reverse).dropWhile (c.data.toList.contains ·)).toArray⟩) ((Any.strings_Trim_laid l160 i116 s c w (by simpa using h1) (by simpa using h2) (ascii_of_all h3)).mono ?_) (zeG _)
   rintro e w' ⟨rfl, hb⟩
   exact ⟨rfl, hb⟩
  ·split at e1
   ·rename_i hf
    subst hf
    split at e1
    ·rename_i c hh
     cases e1
     obtain ⟨x, y, rfl, r1, r2⟩ := zeF RL
     obtain ⟨s, rfl, rfl⟩ := zg6 r1
     obtain ⟨z, rfl, hz⟩ := zg6 r2
     obtain ⟨l219, rfl⟩ := K.o222 _ hk
     have ez : z = ⟨#[c]⟩ := mkS hz
     subst ez
     refine zbD S (val := .int .i64 (idxB s.data.toList c)) ((Any.stringslite_Index_one l219 s c w).mono ?_) (.i _ _)
     rintro e w' ⟨rfl, rfl⟩
     exact ⟨by rw [zhI], .refl _ _⟩
    ·cases e1
   ·cases e1
 ·rename_i xs
  split at e1
  ·rename_i hc
   cases e1
   obtain ⟨rfl, h1, h2, h3⟩ := hc
   obtain ⟨x, rfl, r1⟩ := zgC RL
   obtain ⟨s, rfl, rfl⟩ := zg6 r1
   obtain ⟨l172, rfl⟩ := K.o131 _ hk
   refine zbD S (val := .tuple #[.int .i64 (tv s.data.toList : Nat), .nilIface]) ((Any.strconv_Atoi l172 s _ (by simpa using h2) (ziS h1 h3) w).mono ?_) ?_
   ·rintro e w' ⟨rfl, t, rfl⟩
    exact ⟨rfl, Go.Joins.below_bytesWorld _ _ _ _ (Nat.le_refl _)⟩
   ·exact RelL.tu (.cons (.i _ _) (.cons .inil .nil))
  ·cases e1
 ·cases e1
end Go.Eng
namespace Go.Eng
variable {key : Nat → Option FuncId} {P : Program} {T : Tab} {call : Nat → List AV → Hp → Option (AV × Hp)} {F : Nat}
def graft : Code → Code → Code
 | .seq x y, r => .seq x (graft y r)
 | c, r => .seq c r
theorem zhH (G : GoodCall call) (HC : Callable P key) (CS : CallSound P key T call) (hm : P.follows .mixedOrders = true) (lf : Nat) (c r : Code) (hg : graft c r = .seq c r) (hr : (cCode P T c).regsOk = true)
  {Q : Exit → Act → World → Prop} {l : Loc} {fr fr' : Fr} {a : Act} {h h' : Hp} {w : World} {out : Out} (TO : TabOk key T l) (R : RelF key l fr a.tmps) (S : Sim key F l h w) (hF : h'.next ≤ F)
  (he : evCode call lf (cCode P T c) fr h = some (out, fr', h'))
  (cont : ∀ l' a' w', Ext l h w l' h' w' → RelF key l' fr' a'.tmps → Sim key F l' h' w' → a'.defers = a.defers → Exit.then (r.wp P Q) Q out.toExit a' w') : (graft c r).wp P Q a w := by
 rw [hg]
 exact wp_seq (zds G HC CS lf c (zcD G HC CS hm c hr) TO R S hF he cont)
theorem zga (G : GoodCall call) (HC : Callable P key) (CS : CallSound P key T call) (hm : P.follows .mixedOrders = true) (lf : Nat) (r : Code) : ∀ (c : Code), (cCode P T c).regsOk = true →
  ∀ {Q : Exit → Act → World → Prop} {l : Loc} {fr fr' : Fr} {a : Act} {h h' : Hp} {w : World} {out : Out}, TabOk key T l → RelF key l fr a.tmps → Sim key F l h w → h'.next ≤ F →
  evCode call lf (cCode P T c) fr h = some (out, fr', h') →
  (∀ l' a' w', Ext l h w l' h' w' → RelF key l' fr' a'.tmps → Sim key F l' h' w' → a'.defers = a.defers → Exit.then (r.wp P Q) Q out.toExit a' w') → (graft c r).wp P Q a w := by
 intro c
 induction c with
 | seq x y _ ihy =>
  intro hr Q l fr fr' a h h' w out TO R S hF he cont
  simp only [cCode, XC.regsOk, Bool.and_eq_true] at hr
  simp only [cCode, evCode] at he
  show (Code.seq x (graft y r)).wp P Q a w
  cases h1 : evCode call lf (cCode P T x) fr h with
  | none => rw [h1] at he; cases he
  | some q =>
   obtain ⟨o1, fr1, h1'⟩ := q
   rw [h1] at he
   have good1 := zbo G lf _ h1
   cases o1 with
   | normal =>
    simp only at he
    have good2 := zbo G lf _ he
    have hF1 : h1'.next ≤ F := Nat.le_trans good2.le.next hF
    refine wp_seq (zds G HC CS lf x (zcD G HC CS hm x hr.1) TO R S hF1 h1 fun l1 a1 w1 E1 R1 S1 d1 => ?_)
    exact ihy hr.2 (TO.mono E1.le) R1 S1 hF he fun l2 a2 w2 E2 R2 S2 d2 => cont l2 a2 w2 (.trans (S.hd S1.wf hF1) E1 E2) R2 S2 (d2.trans d1)
   | exit i =>
    cases he
    exact wp_seq (zds G HC CS lf x (zcD G HC CS hm x hr.1) TO R S hF h1 fun l1 a1 w1 E1 R1 S1 d1 => cont l1 a1 w1 E1 R1 S1 d1)
   | ret =>
    cases he
    exact wp_seq (zds G HC CS lf x (zcD G HC CS hm x hr.1) TO R S hF h1 fun l1 a1 w1 E1 R1 S1 d1 => cont l1 a1 w1 E1 R1 S1 d1)
 | _ => exact fun hr _ _ _ _ _ _ _ _ _ TO R S hF he cont => zhH G HC CS hm lf _ r rfl hr TO R S hF he cont
theorem zab {n : Nat} {l : List Value} (h : l.length = n + 1) : ∃ t l2, l = t :: l2 ∧ l2.length = n := by
 cases l with
 | nil => simp at h
 | cons t l => exact ⟨t, l, rfl, by simpa using h⟩
theorem zoq (tm : Array Value) (h : tm.size = 58) : ∃ t0 t1 t2 t3 t4 t5 t6 t7 t8 t9 t10 t11 t12 t13 t14 t15 t16 t17 t18 t19 t20 t21 t22 t23 t24 t25 t26 t27 t28 t29 t30 t31 t32 t33 t34 t35 t36 t37 t38 t39 t40 t41 t42 t43 t44 t45 t46 t47 t48 t49 t50 t51 t52 t53 t54 t55 t56 t57, tm = #[t0, t1, t2, t3, t4, t5, t6, t7, t8, t9, t10, t11, t12, t13, t14, t15, t16, t17, t18, t19, t20, t21, t22, t23, t24, t25, t26, t27, t28, t29, t30, t31, t32, t33, t34, t35, t36, t37, t38, t39, t40, t41, t42, t43, t44, t45, t46, t47, t48, t49, t50, t51, t52, t53, t54, t55, t56, t57] := by
 rcases tm with ⟨l⟩
 have h : l.length = 58 := h
 obtain ⟨t0, l0, rfl, h0⟩ := zab h
 obtain ⟨t1, l1, rfl, h1⟩ := zab h0
 obtain ⟨t2, l2, rfl, h2⟩ := zab h1
 obtain ⟨t3, l3, rfl, h3⟩ := zab h2
 obtain ⟨t4, l4, rfl, h4⟩ := zab h3
 obtain ⟨t5, l5, rfl, h5⟩ := zab h4
 obtain ⟨t6, l6, rfl, h6⟩ := zab h5
 obtain ⟨t7, l7, rfl, h7⟩ := zab h6
 obtain ⟨t8, l8, rfl, h8⟩ := zab h7
 obtain ⟨t9, l9, rfl, h9⟩ := zab h8
 obtain ⟨t10, l10, rfl, h10⟩ := zab h9
 obtain ⟨t11, l11, rfl, h11⟩ := zab h10
 obtain ⟨t12, l12, rfl, h12⟩ := zab h11
 obtain ⟨t13, l13, rfl, h13⟩ := zab h12
 obtain ⟨t14, l14, rfl, h14⟩ := zab h13
 obtain ⟨t15, l15, rfl, h15⟩ := zab h14
 obtain ⟨t16, l16, rfl, h16⟩ := zab h15
 obtain ⟨t17, l17, rfl, h17⟩ := zab h16
 obtain ⟨t18, l18, rfl, h18⟩ := zab h17
 obtain ⟨t19, l19, rfl, h19⟩ := zab h18
 obtain ⟨t20, l20, rfl, h20⟩ := zab h19
 obtain ⟨t21, l21, rfl, h21⟩ := zab h20
 obtain ⟨t22, l22, rfl, h22⟩ := zab h21
 obtain ⟨t23, l23, rfl, h23⟩ := zab h22
 obtain ⟨t24, l24, rfl, h24⟩ := zab h23
 obtain ⟨t25, l25, rfl, h25⟩ := zab h24
 obtain ⟨t26, l26, rfl, h26⟩ := zab h25
 obtain ⟨t27, l27, rfl, h27⟩ := zab h26
 obtain ⟨t28, l28, rfl, h28⟩ := zab h27
 obtain ⟨t29, l29, rfl, h29⟩ := zab h28
 obtain ⟨t30, l30, rfl, h30⟩ := zab h29
 obtain ⟨t31, l31, rfl, h31⟩ := zab h30
 obtain ⟨t32, l32, rfl, h32⟩ := zab h31
 obtain ⟨t33, l33, rfl, h33⟩ := zab h32
 obtain ⟨t34, l34, rfl, h34⟩ := zab h33
 obtain ⟨t35, l35, rfl, h35⟩ := zab h34
 obtain ⟨t36, l36, rfl, h36⟩ := zab h35
 obtain ⟨t37, l37, rfl, h37⟩ := zab h36
 obtain ⟨t38, l38, rfl, h38⟩ := zab h37
 obtain ⟨t39, l39, rfl, h39⟩ := zab h38
 obtain ⟨t40, l40, rfl, h40⟩ := zab h39
 obtain ⟨t41, l41, rfl, h41⟩ := zab h40
 obtain ⟨t42, l42, rfl, h42⟩ := zab h41
 obtain ⟨t43, l43, rfl, h43⟩ := zab h42
 obtain ⟨t44, l44, rfl, h44⟩ := zab h43
 obtain ⟨t45, l45, rfl, h45⟩ := zab h44
 obtain ⟨t46, l46, rfl, h46⟩ := zab h45
 obtain ⟨t47, l47, rfl, h47⟩ := zab h46
 obtain ⟨t48, l48, rfl, h48⟩ := zab h47
 obtain ⟨t49, l49, rfl, h49⟩ := zab h48
 obtain ⟨t50, l50, rfl, h50⟩ := zab h49
 obtain ⟨t51, l51, rfl, h51⟩ := zab h50
 obtain ⟨t52, l52, rfl, h52⟩ := zab h51
 obtain ⟨t53, l53, rfl, h53⟩ := zab h52
 obtain ⟨t54, l54, rfl, h54⟩ := zab h53
 obtain ⟨t55, l55, rfl, h55⟩ := zab h54
 obtain ⟨t56, l56, rfl, h56⟩ := zab h55
 obtain ⟨t57, l57, rfl, h57⟩ := zab h56
 obtain rfl := List.eq_nil_of_length_eq_zero h57
 exact ⟨t0, t1, t2, t3, t4, t5, t6, t7, t8, t9, t10, t11, t12, t13, t14, t15, t16, t17, t18, t19, t20, t21, t22, t23, t24, t25, t26, t27, t28, t29, t30, t31, t32, t33, t34, t35, t36, t37, t38, t39, t40, t41, t42, t43, t44, t45, t46, t47, t48, t49, t50, t51, t52, t53, t54, t55, t56, t57, rfl⟩
end Go.Eng
namespace Go.Proofs
open Go.Eng Go.RowKit Go.Shelf
noncomputable def Tryz.strPre : Code := match Tryz.f77.body with | some (.seq a (.seq b (.seq c (.seq d (.seq e _))))) => .seq a (.seq b (.seq c (.seq d e))) | _ => .skip
noncomputable def Tryz.strTail : Code := match Tryz.f77.body with | some (.seq _ (.seq _ (.seq _ (.seq _ (.seq _ r))))) => r | _ => .skip
theorem Tryz.hidS {p : Prop} (h : p) : Hid p := h
set_option maxHeartbeats 4000000 in
set_option maxRecDepth 100000 in
theorem Tryz.str_tail (neg : Bool) (ps : List (List UInt8)) (hne : ps.reverse.flatten ≠ []) (hlen : ps.length ≤ 20000) (htot : ps.flatten.length ≤ 1000000)
  (b1 o1 b3 o3 c : Nat) (w : World) (hneg : w.cell? ⟨b1, o1, none⟩ = some (.bool neg)) (hb1 : b1 < w.heap.size) (hb3 : b3 < w.heap.size)
  (hcells : ∀ j x, ps[j]? = some x → w.cell? ⟨b3, o3 + j, none⟩ = some (.string ⟨x.toArray⟩))
  (tm : Array Value) (hsz : tm.size = 58) (h1 : tm[1]? = some (.pointer (some ⟨b1, o1, none⟩))) (h3 : tm[3]? = some (.slice (some ⟨b3, o3, none⟩) ps.length c)) :
  Tryz.strTail.wp Tryz.prog (fun e a w' => e = .ret ∧ a.defers = [] ∧ a.tmps.getD 2 undef = .string ⟨((if neg then [45] else []) ++ ps.reverse.flatten).toArray⟩ ∧ Below w.heap.size w w') ⟨tm, []⟩ w := by
 have HC := Tryz.hidS hcells
 clear hcells
 obtain ⟨t0, t1, t2, t3, t4, t5, t6, t7, t8, t9, t10, t11, t12, t13, t14, t15, t16, t17, t18, t19, t20, t21, t22, t23, t24, t25, t26, t27, t28, t29, t30, t31, t32, t33, t34, t35, t36, t37, t38, t39, t40, t41, t42, t43, t44, t45, t46, t47, t48, t49, t50, t51, t52, t53, t54, t55, t56, t57, rfl⟩ := zoq tm hsz
 simp only [List.getElem?_toArray, List.getElem?_cons_succ, List.getElem?_cons_zero, Option.some.injEq] at h1 h3
 subst h1
 subst h3
 clear hsz
 unfold Tryz.strTail
 simp only [Tryz.f77]
 have hF : Lib.IsBuilder 156 5 w.heap.size w.heap.size [] (w.alloc (.cells #[.pointer none, .slice none 0 0] 156)) := Lib.fresh_isBuilder 156 5 w
 have hB0 : Below w.heap.size w (w.alloc (.cells #[.pointer none, .slice none 0 0] 156)) := (Below.refl w.heap.size w).alloc (Nat.le_refl _) _
 have HF := Tryz.hidS hF
 have HB0 := Tryz.hidS hB0
 clear hF hB0
 obtain ⟨pre, hpre⟩ : ∃ pre : List UInt8, pre = if neg then [45] else [] := ⟨_, rfl⟩
 have hprel : pre.length ≤ 1 := by rw [hpre]; split <;> simp
 rw [← hpre]
 have tail : ∀ (k : Nat), ((ps.drop k).reverse.flatten).length ≤ 1000000 := fun k => by
  have e := congrArg (fun l => (List.flatten l).length) (List.take_append_drop k ps)
  simp only [List.flatten_append, List.length_append] at e
  have e2 : ((ps.drop k).reverse.flatten).length = ((ps.drop k).flatten).length := by
   simp only [List.length_flatten, List.map_reverse, List.sum_reverse]
  omega
 have HT := Tryz.hidS tail
 clear tail
 cases neg
 case' false =>
  have e0 : pre = [] := by simpa using hpre
  have H1 := Tryz.hidS (show Lib.IsBuilder 156 5 w.heap.size w.heap.size (Lib.byteCells pre) (w.alloc (.cells #[.pointer none, .slice none 0 0] 156)) by rw [e0]; exact HF.out)
  have HB1 := HB0
  go_wp2_with fail
 case' true =>
  have e0 : pre = [45] := by simpa using hpre
  go_wp2_with fail
  refine (Any.Builder_WriteByte Tryz.l167 Tryz.lX w.heap.size w.heap.size [] 45 _ HF.out (by simp) (by simp)).mono ?_
  rintro e w2 ⟨rfl, h2, hb2⟩
  have H1 := Tryz.hidS (show Lib.IsBuilder 156 5 w.heap.size w.heap.size (Lib.byteCells pre) w2 by rw [e0]; exact Or.inr h2)
  have HB1 := Tryz.hidS (HB0.out.trans hb2)
  clear h2 hb2
  go_wp2_with fail
 all_goals (
  go_loopw [9] (fun i wr => ∃ k : Nat, k ≤ ps.length ∧ i = .int .i64 ((k : Int) - 1) ∧ Hid (Lib.IsBuilder 156 5 w.heap.size w.heap.size (Lib.byteCells (pre ++ (ps.drop k).reverse.flatten)) wr) ∧ Hid (Below w.heap.size w wr)) (fun i _ => (intOf i + 1).toNat)
  case atStart => exact ⟨ps.length, Nat.le_refl _, rfl, by rw [List.drop_length]; simpa using H1, HB1⟩
  case round =>
   obtain ⟨k, hk, rfl, HB, HW⟩ := hrel
   by_cases hk0 : k = 0
   ·subst hk0
    have hd : (ps.drop 0) = ps := List.drop_zero
    rw [hd] at HB
    go_wp2_with fail
    refine (Any.Builder_String { Tryz.l105 with } Tryz.lX w.heap.size w.heap.size (pre ++ ps.reverse.flatten) wr HB.out (fun q => hne (List.append_eq_nil_iff.1 q).2)).mono ?_
    rintro e w3 ⟨rfl, hb3'⟩
    go_wp2_with fail
    exact HW.out.trans hb3'
   ·obtain ⟨m, rfl⟩ : ∃ m, k = m + 1 := ⟨k - 1, by omega⟩
    have hm : m < ps.length := by omega
    obtain ⟨x, hx⟩ : ∃ x, ps[m]? = some x := ⟨ps[m], List.getElem?_eq_getElem hm⟩
    have hc := HC.out m x hx
    rw [← HW.out.cell (p := ⟨b3, o3 + m, none⟩) hb3] at hc
    have hdrop : (ps.drop m).reverse.flatten = (ps.drop (m + 1)).reverse.flatten ++ x := by
     have e : ps.drop m = x :: ps.drop (m + 1) := by
      have := List.drop_eq_getElem_cons hm
      rw [List.getElem?_eq_getElem hm] at hx
      cases hx; exact this
     rw [e]; simp
    have hl := HT.out m
    rw [hdrop, List.length_append] at hl
    have Hd := Tryz.hidS hdrop
    have hBw : w.heap.size ≤ wr.heap.size := HW.out.size
    have i1 : ((m + 1 : Nat) : Int) - 1 = (m : Int) := by omega
    rw [i1]
    clear hdrop hx
    have hxs : (⟨x.toArray⟩ : ByteArray).size = x.length := rfl
    go_wp2_with fail
    refine (Any.Builder_WriteString { Tryz.l105 with } Tryz.lX w.heap.size w.heap.size _ ⟨x.toArray⟩ wr HB.out (by rw [Lib.byteCells_length, List.length_append, hxs]; omega) hBw).mono ?_
    rintro e w2' ⟨rfl, h2', hb2'⟩
    have H2 := Tryz.hidS (show Lib.IsBuilder 156 5 w.heap.size w.heap.size (Lib.byteCells (pre ++ (ps.drop m).reverse.flatten)) w2' by
     rw [Hd.out, ← List.append_assoc, Lib.byteCells_append]
     rw [Lib.strCells_eq] at h2'
     exact Or.inr h2')
    have Hb2 := Tryz.hidS (HW.out.trans hb2')
    clear h2' hb2'
    go_wp2_with fail
    exact ⟨⟨m, by omega, rfl, H2, Hb2⟩, by simp [intOf]⟩)
end Go.Proofs
namespace Go.Eng
open Go.RowKit
variable {key : Nat → Option FuncId} {P : Program} {T : Tab}
def Hp.tw (t : Blk) (cs : List AV) : Hp := ⟨fun k => if k = 0 then some { t with rw := false } else if k = 5 then some ⟨cs, false, 0⟩ else none, 6⟩
def Loc.tw (l : Loc) (a1 : At) : Loc := fun k => if k = 5 then some a1 else if k ≤ 4 then l k else none
theorem zjw {l l2 : Loc} {i : Nat} (hi : i < powT.length) {v : Value} (r : Rel key l powT[i] v) : Rel key l2 powT[i] v := by
 have e : powT[i] = .i .u64 ((10 ^ i : Nat) : Int) := by
  simp only [powT]; rw [List.getElem_map, List.getElem_range]
 rw [e] at r ⊢
 cases r; exact .i _ _
theorem zkr {F F' : Nat} {l : Loc} {h : Hp} {w : World} (S : Sim key F l h w) {t : Blk} {a0 : At} (ht : h.m 0 = some t) (hv : t.v = powT) (h0 : l 0 = some a0) {xs : List Nat} {a1 : At}
  (hb : a1.b < w.heap.size ∧ a1.w = false ∧ xs.length ≤ a1.n ∧ ∀ i (hi : i < xs.length), w.cell? ⟨a1.b, a1.o + i, none⟩ = some (.int .u32 ((xs[i] : Nat) : Int))) :
  Sim key F' (Loc.tw l a1) (Hp.tw t (xs.map fun x : Nat => .i .u32 (x : Int))) w := by
 refine ⟨fun k b a e1 e2 => ?_, fun k b a k' b' a' e1 e2 e3 => ?_, fun k a e => ?_, fun k a e => ?_, fun k hk => ?_⟩
 ·by_cases hk : k = 0
  ·subst hk
   have e2 : l 0 = some a := e2
   rw [h0] at e2
   cases e1; cases e2
   have H := S.holds 0 t a0 ht h0
   refine ⟨H.lt, H.len, fun i hi => ?_, H.scal, fun q => (by cases q), fun q => ⟨rfl, (H.whole q).2⟩⟩
   obtain ⟨v, c1, c2⟩ := H.cell i hi
   refine ⟨v, c1, ?_⟩
   have hi' : i < powT.length := by rw [← hv]; exact hi
   have e : t.v[i] = powT[i] := by simp only [hv]
   simp only at hi ⊢
   rw [e] at c2 ⊢
   exact zjw hi' c2
  ·by_cases hkn : k = 5
   ·subst hkn
    cases e1; cases e2
    obtain ⟨q1, q0, q2, q3⟩ := hb
    refine ⟨q1, by simpa using q2, fun i hi => ?_, fun i hi => ?_, fun q => (by cases q), fun q => ?_⟩
    ·simp only [List.length_map] at hi
     refine ⟨_, q3 i hi, ?_⟩
     simp only [List.getElem_map]
     exact .i _ _
    ·simp only [List.getElem_map]; rfl
    ·rw [q0] at q; cases q
   ·simp only [Hp.tw, if_neg hk, if_neg hkn] at e1; cases e1
 ·simp only [Hp.tw] at e1
  split at e1
  ·cases e1; cases e3
  ·split at e1
   ·cases e1; cases e3
   ·cases e1
 ·simp only [Loc.tw] at e
  split at e
  ·cases e; exact hb.1
  ·split at e
   ·exact S.lt k a e
   ·cases e
 ·left
  show k < 6
  simp only [Loc.tw] at e
  split at e
  ·omega
  ·split at e
   ·omega
   ·cases e
 ·have hk' : 6 ≤ k := hk
  simp only [Hp.tw]
  rw [if_neg (by omega), if_neg (by omega)]
theorem znv {F : Nat} {l : Loc} {h : Hp} {w : World} (S : Sim key F l h w) {t : Blk} {a0 : At} (ht : h.m 0 = some t) (hv : t.v = powT) (h0 : l 0 = some a0) {neg : Bool} {wv : AV} {val : Value} {tx : List UInt8}
  (e : txtA [.ag [.b neg, wv]] h = some tx) (r : Rel key l wv val) : ∃ cs a1 wv' v, (∀ F', Sim key F' (Loc.tw l a1) (Hp.tw t cs) w) ∧ Rel key (Loc.tw l a1) wv' val ∧ wlen v ≤ 512 ∧ (neg = true → v ≠ 0) ∧
   tx = decI (if neg then -(v : Int) else (v : Int)) ∧ V (Hp.tw t cs) (fun _ => False) [] (D v) wv' := by
 have H0 := S.holds 0 t a0 ht h0
 have small : ∀ {wv' : AV}, Rel key (Loc.tw l ⟨a0.b, 0, 0, false⟩) wv' val → txtA [.ag [.b neg, wv']] (Hp.tw t []) = some tx → (∀ m off len cap z, wv' = .sl m off len cap z → False) →
   ∃ cs a1 wv' v, (∀ F', Sim key F' (Loc.tw l a1) (Hp.tw t cs) w) ∧ Rel key (Loc.tw l a1) wv' val ∧ wlen v ≤ 512 ∧ (neg = true → v ≠ 0) ∧
   tx = decI (if neg then -(v : Int) else (v : Int)) ∧ V (Hp.tw t cs) (fun _ => False) [] (D v) wv' := fun {wv'} r1 e1 hs => by
  obtain ⟨v, v1, v2, v3, v4⟩ := zgH e1 fun m off len cap z q => (hs _ _ _ _ _ q).elim
  exact ⟨[], ⟨a0.b, 0, 0, false⟩, wv', v, fun F' => zkr (xs := []) S ht hv h0 ⟨H0.lt, rfl, Nat.le_refl _, fun i hi => by simp at hi⟩, r1, v1, v2, v3, v4⟩
 cases r with
 | @sl n off len cap cap' z a ha q1 q2 q3 =>
   replace e : (if len = 0 then wtx neg [] else if z = 1 then ((h.rd n off len).bind wordsA).bind (wtx neg) else none) = some tx := e
   split at e
   ·rename_i hl
    subst hl
    exact small (wv' := .e0) (.e0 _ _) e fun _ _ _ _ _ q => by cases q
   ·rename_i hl
    split at e
    ·rename_i hz
     subst hz
     simp only [Option.bind_eq_some_iff] at e
     obtain ⟨xs, ⟨cs, e1, e2⟩, e3⟩ := e
     obtain ⟨w1, w2⟩ := zdL e2
     unfold Hp.rd at e1
     split at e1
     ·rename_i b hb
      split at e1
      ·rename_i hle
       cases e1
       have hxl : xs.length = len := by
        have := congrArg List.length w1
        simp at this; omega
       have hg : ∀ i (hi : i < xs.length), b.v[off + i]? = some (.i .u32 ((xs[i] : Nat) : Int)) := fun i hi => by
        have : ((b.v.drop off).take len)[i]? = some (.i .u32 ((xs[i] : Nat) : Int)) := by
         rw [w1, List.getElem?_map, List.getElem?_eq_getElem hi]; rfl
        rw [List.getElem?_take, if_pos (by omega), List.getElem?_drop] at this
        exact this
       have H := S.holds n b a hb ha
       let a1 : At := ⟨a.b, a.o + off, a.n - off, false⟩
       have hsim : ∀ F', Sim key F' (Loc.tw l a1) (Hp.tw t (xs.map fun x : Nat => .i .u32 (x : Int))) w := fun F' => zkr S ht hv h0 ⟨H.lt, rfl, by show xs.length ≤ a.n - off; have := H.len; omega, fun i hi => by
        have h1 := hg i hi
        have hoi : off + i < b.v.length := by omega
        obtain ⟨v, c1, c2⟩ := H.cell (off + i) hoi
        rw [List.getElem?_eq_getElem hoi] at h1
        cases h1' : b.v[off + i] with
        | i k m =>
         rw [h1'] at h1 c2
         cases h1
         cases c2
         show w.cell? ⟨a.b, a.o + off + i, none⟩ = _
         rw [Nat.add_assoc]; exact c1
        | _ => rw [h1'] at h1; cases h1⟩
       have hrel : Rel key (Loc.tw l a1) (.sl 5 0 len cap 1) (.slice (some ⟨a.b, a.o + off, none⟩) len cap') := by
        have hl : Loc.tw l a1 5 = some a1 := rfl
        have := Rel.sl (key := key) (off := 0) (len := len) (cap := cap) (cap' := cap') (z := 1) hl q1 (by show 0 + cap' * 1 ≤ a.n - off; omega) q3
        exact this
       have htx : txtA [.ag [.b neg, .sl 5 0 len cap 1]] (Hp.tw t (xs.map fun x : Nat => .i .u32 (x : Int))) = some tx := by
        have hrd : (Hp.tw t (xs.map fun x : Nat => AV.i .u32 (x : Int))).rd 5 0 len = some (xs.map fun x : Nat => .i .u32 (x : Int)) := by
         simp only [Hp.rd, Hp.tw, if_neg (show (5 : Nat) ≠ 0 by decide), if_true]
         rw [if_pos (by simp; omega), List.drop_zero, List.take_of_length_le (by simp; omega)]
        show (if len = 0 then wtx neg [] else if 1 = 1 then (((Hp.tw t (xs.map fun x : Nat => AV.i .u32 (x : Int))).rd 5 0 len).bind wordsA).bind (wtx neg) else none) = _
        rw [if_neg hl, if_pos rfl, hrd, Option.bind_some, ← w1, e2, Option.bind_some]
        exact e3
       obtain ⟨v, v1, v2, v3, v4⟩ := zgH htx fun m off' len' cap'' z q => by cases q; exact q3
       exact ⟨_, a1, _, v, hsim, hrel, v1, v2, v3, v4⟩
      ·cases e1
     ·cases e1
    ·cases e
 | sn => exact small .sn e fun _ _ _ _ _ q => by cases q
 | se b => exact small (.se b) e fun _ _ _ _ _ q => by cases q
 | e0 b c => exact small (.e0 b c) e fun _ _ _ _ _ q => by cases q
 | _ => simp [txtA] at e
end Go.Eng
namespace Go.Eng
open Go.RowKit
variable {key : Nat → Option FuncId} {P : Program} {T : Tab}
theorem zgD {fn : Func} (h : fn.results = #[.tmp 2]) (tmps : Array Value) (w : World) : (results fn tmps).run P w = .ok (tmps.getD 2 undef) w := by
 unfold results
 rw [h, Array.mapM_eq_mapM_toList]
 rfl
theorem znm {l : Loc} {xs : List UInt8} {v : Value} (h : Rel key l (.s xs) v) : v = .string ⟨xs.toArray⟩ := by
 generalize hx : AV.s xs = x at h
 cases h <;> cases hx
 rfl
theorem zmi (v : Nat) : dec v ≠ [] := by
 unfold dec
 split
 ·simp
 ·rename_i h
  intro q
  have h1 := congrArg List.length q
  rw [zcX] at h1
  have := zcW v
  simp at h1
  rw [h1] at this
  simp at this; omega
theorem zha {args : List AV} {h : Hp} {l : List UInt8} (e : txtA args h = some l) : ∃ neg w, args = [.ag [.b neg, w]] := by
 unfold txtA at e
 split at e
 ·exact ⟨_, _, rfl⟩
 ·exact ⟨_, _, rfl⟩
 ·exact ⟨_, _, rfl⟩
 ·exact ⟨_, _, rfl⟩
 ·cases e
theorem zlN (K1 : ProgOk P key T E1.prog) (KE : PEnvOk E1) (hT0 : ∀ g n, T.gkey g = some n → n ≤ 4) {G : Nat} (hG : T.gkey G = some 0) {fn : Func} {g : Nat} (hfn : P.funcs[g]? = some fn) {pre tail : Code} (hbody : fn.body = some (graft pre tail)) (hpre : cCode P T pre = strA)
  (hnt : fn.ntmps = 58) (hres : fn.results = #[.tmp 2])
  (htail : ∀ (neg : Bool) (ps : List (List UInt8)), ps.reverse.flatten ≠ [] → ps.length ≤ 20000 → ps.flatten.length ≤ 1000000 →
   ∀ (b1 o1 b3 o3 c : Nat) (w : World), w.cell? ⟨b1, o1, none⟩ = some (.bool neg) → b1 < w.heap.size → b3 < w.heap.size →
   (∀ j x, ps[j]? = some x → w.cell? ⟨b3, o3 + j, none⟩ = some (.string ⟨x.toArray⟩)) →
   ∀ (tm : Array Value), tm.size = 58 → tm[1]? = some (.pointer (some ⟨b1, o1, none⟩)) → tm[3]? = some (.slice (some ⟨b3, o3, none⟩) ps.length c) →
   tail.wp P (fun e a w' => e = .ret ∧ a.defers = [] ∧ a.tmps.getD 2 undef = .string ⟨((if neg then [45] else []) ++ ps.reverse.flatten).toArray⟩ ∧ Below w.heap.size w w') ⟨tm, []⟩ w)
  {F : Nat} {args : List AV} {vs : Array Value} {h h' : Hp} {v : AV} {l : Loc} {w : World} (e : orcA 33 args h = some (v, h')) (TO : TabOk key T l)
  (RL : RelL key l args vs.toList) (S : Sim key F l h w) : Calls P g vs w fun e w' => ∃ l' val, e = .returned val ∧ Ext l h w l' h' w' ∧ Sim key F l' h' w' ∧ Rel key l' v val := by
 unfold orcA at e
 rw [if_pos rfl] at e
 split at e
 case isFalse => cases e
 rename_i ht
 simp only [Option.map_eq_some_iff, Prod.mk.injEq] at e
 obtain ⟨tx, e1, rfl, rfl⟩ := e
 obtain ⟨t, t1, t2⟩ := ht
 obtain ⟨m0, hl0⟩ := TO.g G 0 hG
 obtain ⟨neg, wv, rfl⟩ := zha e1
 have hvs : ∃ val, vs = #[.agg #[.bool neg, val]] ∧ Rel key l wv val := by
  have hlen := RL.1
  rcases vs with ⟨vs⟩
  match vs, hlen with
  | [x], _ =>
   have r := RL.2 0 (by simp) (by simp)
   simp only [List.getElem_cons_zero] at r
   cases r with
   | @ag _ ws hn hv =>
    rcases ws with ⟨ws⟩
    match ws, hn with
    | [a, b], _ =>
     have r1 := hv 0 (by simp) (by simp)
     have r2 := hv 1 (by simp) (by simp)
     simp only [List.getElem_cons_zero, List.getElem_toArray, List.getElem_cons_succ] at r1 r2
     cases r1
     exact ⟨b, rfl, r2⟩
 obtain ⟨val, rfl, rv⟩ := hvs
 obtain ⟨cs, a1, wv', z, hsim, rv', hz, hneg, htx, hV⟩ := znv S t1 t2 hl0 e1 rv
 generalize hh0 : Hp.tw t cs = h0 at hsim hV
 generalize hll : Loc.tw l a1 = l0 at hsim rv'
 have hw0 : h0.wf := (hsim 0).wf
 have hT : HasT h0 := ⟨{ t with rw := false }, by rw [← hh0]; rfl, t2⟩
 have norw : ∀ k b, h0.m k = some b → b.rw = false := fun k b q => by
  rw [← hh0] at q
  simp only [Hp.tw] at q
  split at q
  ·cases q; rfl
  ·split at q
   ·cases q; rfl
   ·cases q
 have TO0 : TabOk key T l0 := ⟨TO.f, fun g' n' q => by
  have hn := hT0 g' n' q
  obtain ⟨m, hm⟩ := TO.g g' n' q
  refine ⟨m, ?_⟩
  rw [← hll]
  simp only [Loc.tw]
  rw [if_neg (by omega), if_pos hn]
  exact hm⟩
 have RA : RelL key l0 [.ag [.b neg, wv']] [.agg #[.bool neg, val]] := .cons ((RelL.cons (.b neg) (.cons rv' .nil)).ag) .nil
 have RF : RelF key l0 ([.ag [.b neg, wv']] ++ List.replicate 57 undefA) (#[.agg #[.bool neg, val]] ++ Array.replicate (fn.ntmps - (#[Value.agg #[.bool neg, val]] : Array Value).size) undef) := by
  rw [hnt]
  unfold RelF
  rw [Array.toList_append, Array.toList_replicate]
  exact RA.append ⟨by simp, fun i q1 q2 => by rw [List.getElem_replicate, List.getElem_replicate]; exact zbs⟩
 have hbel : ∀ {l1 h1 w1}, Ext l0 h0 w l1 h1 w1 → Below w.heap.size w w1 := fun {l1 h1 w1} E =>
  ⟨E.os, E.tape, E.output, E.size, fun b hb => E.frame b hb fun m blk a q1 q2 => by rw [norw m blk q1] at q2; cases q2⟩
 have hregs : (cCode P T pre).regsOk = true := by rw [hpre]; decide
 have goodCall := zdh K1
 have final : Calls P g #[.agg #[.bool neg, val]] w fun e w' => e = .returned (.string ⟨tx.toArray⟩) ∧ Below w.heap.size w w' := by
  refine calls_of_wp hfn hbody ?_
  by_cases hz0 : z = 0
  ·subst hz0
   have hnf : neg = false := by
    cases neg
    ·rfl
    ·exact (hneg rfl rfl).elim
   subst hnf
   have htx' : tx = [48] := by rw [htx]; rfl
   obtain ⟨lf, fr', h1, ev, f2⟩ := zlK KE hw0 hT hV
   refine zga (goodCall lf) K1.call (zb4 K1 lf) K1.mixed lf tail pre hregs TO0 RF (hsim h1.next) (Nat.le_refl _) (by rw [hpre]; exact ev) fun l' a' w' E R' S' hd => ?_
   have r2 := RelF.get R' 2
   rw [f2] at r2
   refine ⟨hd, _, zgD hres _ _, ?_, hbel E⟩
   rw [htx']
   generalize a'.tmps.getD 2 undef = x at r2
   rw [znm r2]
  ·obtain ⟨lf, fr', h1, p0, m, len, cap, ps, ev, hlen, f1, ⟨b0, hb0, hb0v⟩, f3, ⟨b1, hb1, hb1v⟩, rfl, g1, g2, g3⟩ := zlL KE (neg := neg) hw0 hT hz0 hz hV
   refine zga (goodCall lf) K1.call (zb4 K1 lf) K1.mixed lf tail pre hregs TO0 RF (hsim h1.next) (Nat.le_refl _) (by rw [hpre]; exact ev) fun l' a' w' E R' S' hd => ?_
   have r1 := RelF.get R' 1
   have r3 := RelF.get R' 3
   rw [f1] at r1
   rw [f3] at r3
   have hsz : a'.tmps.size = 58 := by
    have := R'.1
    simp at this; omega
   have gd : ∀ i, i < 58 → a'.tmps[i]? = some (a'.tmps.getD i undef) := fun i hi => by
    rw [Array.getD_eq_getD_getElem?, Array.getElem?_eq_getElem (by omega)]; rfl
   have gd1 := gd 1 (by omega)
   have gd3 := gd 3 (by omega)
   generalize a'.tmps.getD 1 undef = x1 at r1 gd1
   generalize a'.tmps.getD 3 undef = x3 at r3 gd3
   cases r1 with
   | @p _ _ a1' q1 =>
    cases r3 with
    | @sl _ _ _ _ cap' _ a3 q3 s1 s2 s3 =>
     have H0 := S'.holds _ _ _ hb0 q1
     have H3 := S'.holds _ _ _ hb1 q3
     have hneg' : w'.cell? ⟨a1'.b, a1'.o + 0, none⟩ = some (.bool neg) := by
      have hl : 0 < b0.v.length := by
       rcases Nat.eq_zero_or_pos b0.v.length with q | q
       ·rw [List.getElem?_eq_none (by omega)] at hb0v; cases hb0v
       ·exact q
      obtain ⟨y, c1, c2⟩ := H0.cell 0 hl
      rw [List.getElem?_eq_getElem hl] at hb0v
      rw [Option.some.inj hb0v] at c2
      cases c2; exact c1
     have hcells : ∀ j x, ps[j]? = some x → w'.cell? ⟨a3.b, a3.o + 0 + j, none⟩ = some (.string ⟨x.toArray⟩) := fun j x hx => by
      have hj : j < ps.length := by
       by_cases q : j < ps.length
       ·exact q
       ·rw [List.getElem?_eq_none (by omega)] at hx; cases hx
      have hj' : j < b1.v.length := by rw [hb1v]; simpa using hj
      obtain ⟨y, c1, c2⟩ := H3.cell j hj'
      have e : b1.v[j] = .s x := by
       simp only [hb1v, List.getElem_map]
       rw [List.getElem?_eq_getElem hj] at hx
       rw [Option.some.inj hx]
      rw [e] at c2
      have hy : y = .string ⟨x.toArray⟩ := by
       generalize hs : AV.s x = ax at c2
       cases c2 <;> cases hs
       rfl
      rw [Nat.add_zero, ← hy]; exact c1
     have hne : ps.reverse.flatten ≠ [] := by rw [g3]; exact zmi z
     have htot : ps.flatten.length ≤ 1000000 := by
      have h1 : ps.flatten.length = ps.reverse.flatten.length := by
       simp only [List.length_flatten, List.map_reverse, List.sum_reverse]
      rw [h1, g3]
      have h2 := zj0 hz
      unfold dec
      rw [if_neg hz0, zcX]; omega
     have tl := htail neg ps hne g2 htot a1'.b (a1'.o + 0) a3.b (a3.o + 0) cap' w' hneg' H0.lt H3.lt hcells a'.tmps hsz gd1 gd3
     have ha : a' = ⟨a'.tmps, []⟩ := by
      rcases a' with ⟨tm, df⟩
      simp only at hd
      rw [hd]
     show tail.wp P (bodyPost P fn _) a' w'
     rw [ha]
     refine wp_mono tl ?_
     rintro e a2 w2 ⟨rfl, d2, v2, bl⟩
     refine ⟨d2, _, zgD hres _ _, ?_, (hbel E).trans ⟨bl.os, bl.tape, bl.output, bl.size, fun k hk => bl.block k (Nat.lt_of_lt_of_le hk E.size)⟩⟩
     rw [v2, g3, htx]
     unfold decI
     cases neg
     ·simp only [Bool.false_eq_true, if_false]
      rw [if_neg (by omega)]
      simp
     ·simp only [if_true]
      rw [if_pos (by omega)]
      simp
 exact zbD S final (zeG tx)
end Go.Eng
namespace Go.Eng
theorem zgx {f : Nat} {d : XD} (h : prog f = some d) : some d ∈ progL := by
 unfold prog at h
 cases h1 : progL[f]? with
 | none => rw [h1] at h; cases h
 | some x =>
  rw [h1] at h
  cases x with
  | none => cases h
  | some y => cases h; exact List.mem_of_getElem? h1
def dOkD : Option XD → Bool
 | some (.fn xf) => xf.body.dOk xf.n
 | _ => true
theorem zhh : progL.all dOkD = true := by kernel_rfl
def isO : Option XD → Bool
 | some (.orc _) => true
 | _ => false
theorem zd1 {f : Nat} {o : List AV → Hp → Option (AV × Hp)} (h : prog f = some (.orc o)) : o = orcA f ∧ (f = 33 ∨ f = 50 ∨ f = 51 ∨ f = 130 ∨ f = 131 ∨ f = 222) := by
 have hf : isO (prog f) = true := by rw [h]; rfl
 have all : (List.range progL.length).all (fun f => !isO (prog f) || (f == 33 || f == 50 || f == 51 || f == 130 || f == 131 || f == 222)) = true := by kernel_rfl
 have hlt : f < progL.length := by
  unfold prog at h
  by_cases q : f < progL.length
  ·exact q
  ·rw [List.getElem?_eq_none (by omega)] at h; cases h
 rw [List.all_eq_true] at all
 have := all f (List.mem_range.2 hlt)
 rw [hf] at this
 simp only [Bool.not_true, Bool.false_or, Bool.or_eq_true, beq_iff_eq] at this
 have hc : f = 33 ∨ f = 50 ∨ f = 51 ∨ f = 130 ∨ f = 131 ∨ f = 222 := by omega
 refine ⟨?_, hc⟩
 rcases hc with rfl | rfl | rfl | rfl | rfl | rfl
 ·first | (have e : prog 33 = some (.orc (orcA 33)) := rfl; rw [e] at h; cases h; rfl) | (have h' : (none : Option XD) = some (.orc o) := h; cases h')
 ·first | (have e : prog 50 = some (.orc (orcA 50)) := rfl; rw [e] at h; cases h; rfl) | (have h' : (none : Option XD) = some (.orc o) := h; cases h')
 ·first | (have e : prog 51 = some (.orc (orcA 51)) := rfl; rw [e] at h; cases h; rfl) | (have h' : (none : Option XD) = some (.orc o) := h; cases h')
 ·first | (have e : prog 130 = some (.orc (orcA 130)) := rfl; rw [e] at h; cases h; rfl) | (have h' : (none : Option XD) = some (.orc o) := h; cases h')
 ·first | (have e : prog 131 = some (.orc (orcA 131)) := rfl; rw [e] at h; cases h; rfl) | (have h' : (none : Option XD) = some (.orc o) := h; cases h')
 ·first | (have e : prog 222 = some (.orc (orcA 222)) := rfl; rw [e] at h; cases h; rfl) | (have h' : (none : Option XD) = some (.orc o) := h; cases h')
theorem zcY {f : Nat} {d : XD} (h : E1.prog f = some d) : prog f = some d ∧ f ≠ 33 := by
 have h2 : (if f = 33 then none else prog f) = some d := h
 split at h2
 ·cases h2
 ·rename_i hf; exact ⟨h2, hf⟩
theorem KE0 : PEnvOk E0 where
 fn := fun f xf h => by
  have := zhh
  rw [List.all_eq_true] at this
  exact this _ (zgx (show prog f = _ from h))
 orc := fun f o h Db r M hp args asv v M' e I hv => by
  obtain ⟨rfl, _⟩ := zd1 (show prog f = _ from h)
  exact zmY rfl e I hv
theorem KE1 : PEnvOk E1 where
 fn := fun f xf h => by
  have := zhh
  rw [List.all_eq_true] at this
  exact this _ (zgx (zcY h).1)
 orc := fun f o h Db r M hp args asv v M' e I hv => by
  obtain ⟨rfl, _⟩ := zd1 (zcY h).1
  exact zmY rfl e I hv
variable (P : Program) (T : Tab)
def AllOk : List (Option XD) → List (Option FuncId) → Prop
 | some (.fn xf) :: ps, some g :: ks => (∃ fn, P.funcs[g]? = some fn ∧ cFunc P T fn = some xf ∧ xf.body.regsOk = true) ∧ AllOk ps ks
 | _ :: ps, _ :: ks => AllOk ps ks
 | _, _ => True
def AllCal : List (Option FuncId) → Prop
 | some g :: ks => (∃ fn, P.funcs[g]? = some fn ∧ fn.body.isNone = false ∧ (fn.name == "runtime.NumGoroutine") = false) ∧ AllCal ks
 | none :: ks => AllCal ks
 | [] => True
variable {P T}
theorem zec : ∀ {ps : List (Option XD)} {ks : List (Option FuncId)}, AllOk P T ps ks → ∀ {f : Nat} {xf : XF} {g : FuncId}, (ps[f]?).join = some (.fn xf) → (ks[f]?).join = some g → ∃ fn, P.funcs[g]? = some fn ∧ cFunc P T fn = some xf ∧ xf.body.regsOk = true
 | [], _, _, f, xf, g, h1, h2 => by simp at h1
 | p :: ps, [], _, f, xf, g, h1, h2 => by simp at h2
 | p :: ps, k :: ks, h, 0, xf, g, h1, h2 => by
  simp only [List.getElem?_cons_zero, Option.join_some] at h1 h2
  subst h1; subst h2
  exact h.1
 | p :: ps, k :: ks, h, f + 1, xf, g, h1, h2 => by
  simp only [List.getElem?_cons_succ] at h1 h2
  refine zec (ps := ps) (ks := ks) ?_ h1 h2
  match p, k, h with
  | some (.fn xf), some g, h => exact h.2
  | some (.fn xf), none, h => exact h
  | some (.orc _), _, h => exact h
  | none, _, h => exact h
theorem zfi : ∀ {ks : List (Option FuncId)}, AllCal P ks → ∀ {f : Nat} {g : FuncId}, (ks[f]?).join = some g → ∃ fn, P.funcs[g]? = some fn ∧ fn.body.isNone = false ∧ (fn.name == "runtime.NumGoroutine") = false
 | [], _, f, g, h => by simp at h
 | k :: ks, h, 0, g, h1 => by
  simp only [List.getElem?_cons_zero, Option.join_some] at h1
  subst h1
  exact h.1
 | k :: ks, h, f + 1, g, h1 => by
  simp only [List.getElem?_cons_succ] at h1
  refine zfi (ks := ks) ?_ h1
  match k, h with
  | some g, h => exact h.2
  | none, h => exact h
theorem zgf {f : Nat} {args : List AV} {h h' : Hp} {v : AV} (e : orcA f args h = some (v, h')) : HpOk h h' := by
 unfold orcA at e
 split at e
 ·split at e
  ·simp only [Option.map_eq_some_iff, Prod.mk.injEq] at e
   obtain ⟨_, _, _, rfl⟩ := e
   exact .refl h
  ·cases e
 ·split at e
  ·cases e
  ·simp only [Option.map_eq_some_iff, Prod.mk.injEq] at e
   obtain ⟨_, _, _, rfl⟩ := e
   exact .refl h
theorem zlA {keyL : List (Option FuncId)} {ρ : Go.Shelf.Ren} {G : Nat} (mixed : P.follows .mixedOrders = true) (hc : AllCal P keyL) (ha : AllOk P T progL keyL) (L : LibOk P ρ (fun f => (keyL[f]?).join) T G) :
  ProgOk P (fun f => (keyL[f]?).join) T E1.prog where
 mixed := mixed
 call := fun f g h => zfi hc h
 fn := fun f xf g h1 h2 => zec ha (zcY h1).1 h2
 good := fun f o args h v h' h1 e => by
  obtain ⟨rfl, _⟩ := zd1 (zcY h1).1
  exact zgf e
 orc := fun f o g h1 hk F args vs h h' v l w e hF TO RL S => by
  obtain ⟨rfl, _⟩ := zd1 (zcY h1).1
  exact zhL L hk (zcY h1).2 e TO RL S
theorem zlz {keyL : List (Option FuncId)} {ρ : Go.Shelf.Ren} {G : Nat} (mixed : P.follows .mixedOrders = true) (hc : AllCal P keyL) (ha : AllOk P T progL keyL) (L : LibOk P ρ (fun f => (keyL[f]?).join) T G)
  (str : ∀ {g : Nat}, (keyL[33]?).join = some g → ∀ {F : Nat} {args : List AV} {vs : Array Value} {h h' : Hp} {v : AV} {l : Loc} {w : World}, orcA 33 args h = some (v, h') → TabOk (fun f => (keyL[f]?).join) T l →
   RelL (fun f => (keyL[f]?).join) l args vs.toList → Sim (fun f => (keyL[f]?).join) F l h w → Calls P g vs w fun e w' => ∃ l' val, e = .returned val ∧ Ext l h w l' h' w' ∧ Sim (fun f => (keyL[f]?).join) F l' h' w' ∧ Rel (fun f => (keyL[f]?).join) l' v val) :
  ProgOk P (fun f => (keyL[f]?).join) T E0.prog where
 mixed := mixed
 call := fun f g h => zfi hc h
 fn := fun f xf g h1 h2 => zec ha (show prog f = _ from h1) h2
 good := fun f o args h v h' h1 e => by
  obtain ⟨rfl, _⟩ := zd1 (show prog f = _ from h1)
  exact zgf e
 orc := fun f o g h1 hk F args vs h h' v l w e hF TO RL S => by
  obtain ⟨rfl, hf⟩ := zd1 (show prog f = _ from h1)
  by_cases h33 : f = 33
  ·subst h33
   exact str hk e TO RL S
  ·exact zhL L hk h33 e TO RL S
end Go.Eng
namespace Go.Proofs
open Go.Eng
def Tryz.keyL : List (Option FuncId) := [none, none, none, none, none, none, none, none, some 90, some 91, none, none, none, none, none, none, some 34, some 51, some 80, some 52, some 125, some 111, some 110, some 94, some 72, none, none, none, none, some 53, some 54, some 55, none, some 77, some 92, some 95, some 98, some 93, some 122, some 123, some 96, some 99, some 97, some 109, some 47, none, none, none, some 116, some 106, some 117, some 118, none, none, none, some 126, some 127, some 128, some 129, some 107, some 131, some 132, some 130, some 87, some 88, some 50, none, some 49, none, none, none, none, none, none, none, none, some 152, some 153, some 154, some 155, some 81, none, none, none, none, none, none, none, none, none, none, none, none, none, none, none, none, none, none, none, none, none, none, none, none, none, none, none, none, none, none, none, none, none, some 28, none, none, some 86, some 66, some 26, some 61, some 102, none, some 59, some 124, some 60, none, none, none, none, none, none, some 62, some 63, some 64, some 65, some 100, none, none, none, none, none, none, none, none, none, none, some 101, some 133, some 134, none, none, none, none, none, none, none, none, none, some 156, none, none, none, none, none, none, none, none, none, none, none, none, none, none, none, none, none, none, none, none, some 36, none, none, none, none, none, none, none, none, none, none, none, none, none, none, none, none, none, none, none, none, none, none, none, none, none, none, none, none, none, none, none, none, none, none, none, none, none, none, none, none, none, none, none, none, none, none, none, none, none, none, none, none, none, none, none, none, none, none, none, none, none, none, none, none, none, none, none, none, none, none, none, none, none, none, none, none, none, none, none, none, none, none, none, none, none, none, none, none, none, none, none, none, none, none, none, none, none, none, none, none, none, none, none, none, none, none, none, none, none, none, none, none, none, none, none, none, none, none, none, none, some 15, some 30, some 14, some 12, some 11, some 68, some 56, some 20, some 9, some 48, some 40, some 82, some 79, some 38, some 37, some 39, some 89, some 83, some 84, some 78, none, some 4, none, none, none, none, none, none, none, some 16, some 17, some 18, some 19, some 21, some 22, some 23, some 24, none, none, none, some 31, none, none, none, none, none, none, none, none, none, none, none, some 43, some 44, none, some 46, some 57, some 69, none, none, none, none, none, none, none, none, none, none, none, none, none, none, none, none, none, none, none, none, none, none, none, none, none, none, none, none, none]
def Tryz.fkeyL : List (Option Nat) := [none, none, none, none, some 322, none, none, none, none, some 309, none, some 305, some 304, none, some 303, some 301, some 330, some 331, some 332, some 333, some 308, some 334, some 335, some 336, some 337, none, some 119, none, some 114, none, some 302, some 341, none, none, some 16, none, some 180, some 315, some 314, some 316, some 311, none, none, some 353, some 354, none, some 356, some 44, some 310, some 67, some 65, some 17, some 19, some 29, some 30, some 31, some 307, some 357, none, some 123, some 125, some 120, some 132, some 133, some 134, some 135, some 118, none, some 306, some 358, none, none, some 24, none, none, none, none, some 33, some 320, some 313, some 18, some 80, some 312, some 318, some 319, none, some 117, some 63, some 64, some 317, some 8, some 9, some 34, some 37, some 23, some 35, some 40, some 42, some 36, some 41, some 136, some 147, some 121, none, none, none, some 49, some 59, none, some 43, some 22, some 21, none, none, none, none, some 48, some 50, some 51, none, none, none, some 38, some 39, some 124, some 20, some 55, some 56, some 57, some 58, some 62, some 60, some 61, some 148, some 149, none, none, none, none, none, none, none, none, none, none, none, none, none, none, none, none, none, some 76, some 77, some 78, some 79, some 159]
def Tryz.T : Tab := { fkey := fun f => (Tryz.fkeyL[f]?).join, gkey := fun g => if g = 4 then some 0 else none }
abbrev OkC (p : Program) (n : Nat) : Prop := ∃ fn, p.funcs[n]? = some fn ∧ fn.body.isNone = false ∧ (fn.name == "runtime.NumGoroutine") = false
abbrev OkF (p : Program) (T : Tab) (n : Nat) (x : XF) : Prop := ∃ fn, p.funcs[n]? = some fn ∧ cFunc p T fn = some x ∧ x.body.regsOk = true
theorem Tryz.okc8 : OkC Tryz.prog 90 := ⟨_, Tryz.func90, by kernel_rfl, by kernel_rfl⟩
theorem Tryz.okc9 : OkC Tryz.prog 91 := ⟨_, Tryz.func91, by kernel_rfl, by kernel_rfl⟩
theorem Tryz.okc16 : OkC Tryz.prog 34 := ⟨_, Tryz.func34, by kernel_rfl, by kernel_rfl⟩
theorem Tryz.okc17 : OkC Tryz.prog 51 := ⟨_, Tryz.func51, by kernel_rfl, by kernel_rfl⟩
theorem Tryz.okc18 : OkC Tryz.prog 80 := ⟨_, Tryz.func80, by kernel_rfl, by kernel_rfl⟩
theorem Tryz.okc19 : OkC Tryz.prog 52 := ⟨_, Tryz.func52, by kernel_rfl, by kernel_rfl⟩
theorem Tryz.okc20 : OkC Tryz.prog 125 := ⟨_, Tryz.func125, by kernel_rfl, by kernel_rfl⟩
theorem Tryz.okc21 : OkC Tryz.prog 111 := ⟨_, Tryz.func111, by kernel_rfl, by kernel_rfl⟩
theorem Tryz.okc22 : OkC Tryz.prog 110 := ⟨_, Tryz.func110, by kernel_rfl, by kernel_rfl⟩
theorem Tryz.okc23 : OkC Tryz.prog 94 := ⟨_, Tryz.func94, by kernel_rfl, by kernel_rfl⟩
theorem Tryz.okc24 : OkC Tryz.prog 72 := ⟨_, Tryz.func72, by kernel_rfl, by kernel_rfl⟩
theorem Tryz.okc29 : OkC Tryz.prog 53 := ⟨_, Tryz.func53, by kernel_rfl, by kernel_rfl⟩
theorem Tryz.okc30 : OkC Tryz.prog 54 := ⟨_, Tryz.func54, by kernel_rfl, by kernel_rfl⟩
theorem Tryz.okc31 : OkC Tryz.prog 55 := ⟨_, Tryz.func55, by kernel_rfl, by kernel_rfl⟩
theorem Tryz.okc33 : OkC Tryz.prog 77 := ⟨_, Tryz.func77, by kernel_rfl, by kernel_rfl⟩
theorem Tryz.okc34 : OkC Tryz.prog 92 := ⟨_, Tryz.func92, by kernel_rfl, by kernel_rfl⟩
theorem Tryz.okc35 : OkC Tryz.prog 95 := ⟨_, Tryz.func95, by kernel_rfl, by kernel_rfl⟩
theorem Tryz.okc36 : OkC Tryz.prog 98 := ⟨_, Tryz.func98, by kernel_rfl, by kernel_rfl⟩
theorem Tryz.okc37 : OkC Tryz.prog 93 := ⟨_, Tryz.func93, by kernel_rfl, by kernel_rfl⟩
theorem Tryz.okc38 : OkC Tryz.prog 122 := ⟨_, Tryz.func122, by kernel_rfl, by kernel_rfl⟩
theorem Tryz.okc39 : OkC Tryz.prog 123 := ⟨_, Tryz.func123, by kernel_rfl, by kernel_rfl⟩
theorem Tryz.okc40 : OkC Tryz.prog 96 := ⟨_, Tryz.func96, by kernel_rfl, by kernel_rfl⟩
theorem Tryz.okc41 : OkC Tryz.prog 99 := ⟨_, Tryz.func99, by kernel_rfl, by kernel_rfl⟩
theorem Tryz.okc42 : OkC Tryz.prog 97 := ⟨_, Tryz.func97, by kernel_rfl, by kernel_rfl⟩
theorem Tryz.okc43 : OkC Tryz.prog 109 := ⟨_, Tryz.func109, by kernel_rfl, by kernel_rfl⟩
theorem Tryz.okc44 : OkC Tryz.prog 47 := ⟨_, Tryz.func47, by kernel_rfl, by kernel_rfl⟩
theorem Tryz.okc48 : OkC Tryz.prog 116 := ⟨_, Tryz.func116, by kernel_rfl, by kernel_rfl⟩
theorem Tryz.okc49 : OkC Tryz.prog 106 := ⟨_, Tryz.func106, by kernel_rfl, by kernel_rfl⟩
theorem Tryz.okc50 : OkC Tryz.prog 117 := ⟨_, Tryz.func117, by kernel_rfl, by kernel_rfl⟩
theorem Tryz.okc51 : OkC Tryz.prog 118 := ⟨_, Tryz.func118, by kernel_rfl, by kernel_rfl⟩
theorem Tryz.okc55 : OkC Tryz.prog 126 := ⟨_, Tryz.func126, by kernel_rfl, by kernel_rfl⟩
theorem Tryz.okc56 : OkC Tryz.prog 127 := ⟨_, Tryz.func127, by kernel_rfl, by kernel_rfl⟩
theorem Tryz.okc57 : OkC Tryz.prog 128 := ⟨_, Tryz.func128, by kernel_rfl, by kernel_rfl⟩
theorem Tryz.okc58 : OkC Tryz.prog 129 := ⟨_, Tryz.func129, by kernel_rfl, by kernel_rfl⟩
theorem Tryz.okc59 : OkC Tryz.prog 107 := ⟨_, Tryz.func107, by kernel_rfl, by kernel_rfl⟩
theorem Tryz.okc60 : OkC Tryz.prog 131 := ⟨_, Tryz.func131, by kernel_rfl, by kernel_rfl⟩
theorem Tryz.okc61 : OkC Tryz.prog 132 := ⟨_, Tryz.func132, by kernel_rfl, by kernel_rfl⟩
theorem Tryz.okc62 : OkC Tryz.prog 130 := ⟨_, Tryz.func130, by kernel_rfl, by kernel_rfl⟩
theorem Tryz.okc63 : OkC Tryz.prog 87 := ⟨_, Tryz.func87, by kernel_rfl, by kernel_rfl⟩
theorem Tryz.okc64 : OkC Tryz.prog 88 := ⟨_, Tryz.func88, by kernel_rfl, by kernel_rfl⟩
theorem Tryz.okc65 : OkC Tryz.prog 50 := ⟨_, Tryz.func50, by kernel_rfl, by kernel_rfl⟩
theorem Tryz.okc67 : OkC Tryz.prog 49 := ⟨_, Tryz.func49, by kernel_rfl, by kernel_rfl⟩
theorem Tryz.okc76 : OkC Tryz.prog 152 := ⟨_, Tryz.func152, by kernel_rfl, by kernel_rfl⟩
theorem Tryz.okc77 : OkC Tryz.prog 153 := ⟨_, Tryz.func153, by kernel_rfl, by kernel_rfl⟩
theorem Tryz.okc78 : OkC Tryz.prog 154 := ⟨_, Tryz.func154, by kernel_rfl, by kernel_rfl⟩
theorem Tryz.okc79 : OkC Tryz.prog 155 := ⟨_, Tryz.func155, by kernel_rfl, by kernel_rfl⟩
theorem Tryz.okc80 : OkC Tryz.prog 81 := ⟨_, Tryz.func81, by kernel_rfl, by kernel_rfl⟩
theorem Tryz.okc114 : OkC Tryz.prog 28 := ⟨_, Tryz.func28, by kernel_rfl, by kernel_rfl⟩
theorem Tryz.okc117 : OkC Tryz.prog 86 := ⟨_, Tryz.func86, by kernel_rfl, by kernel_rfl⟩
theorem Tryz.okc118 : OkC Tryz.prog 66 := ⟨_, Tryz.func66, by kernel_rfl, by kernel_rfl⟩
theorem Tryz.okc119 : OkC Tryz.prog 26 := ⟨_, Tryz.func26, by kernel_rfl, by kernel_rfl⟩
theorem Tryz.okc120 : OkC Tryz.prog 61 := ⟨_, Tryz.func61, by kernel_rfl, by kernel_rfl⟩
theorem Tryz.okc121 : OkC Tryz.prog 102 := ⟨_, Tryz.func102, by kernel_rfl, by kernel_rfl⟩
theorem Tryz.okc123 : OkC Tryz.prog 59 := ⟨_, Tryz.func59, by kernel_rfl, by kernel_rfl⟩
theorem Tryz.okc124 : OkC Tryz.prog 124 := ⟨_, Tryz.func124, by kernel_rfl, by kernel_rfl⟩
theorem Tryz.okc125 : OkC Tryz.prog 60 := ⟨_, Tryz.func60, by kernel_rfl, by kernel_rfl⟩
theorem Tryz.okc132 : OkC Tryz.prog 62 := ⟨_, Tryz.func62, by kernel_rfl, by kernel_rfl⟩
theorem Tryz.okc133 : OkC Tryz.prog 63 := ⟨_, Tryz.func63, by kernel_rfl, by kernel_rfl⟩
theorem Tryz.okc134 : OkC Tryz.prog 64 := ⟨_, Tryz.func64, by kernel_rfl, by kernel_rfl⟩
theorem Tryz.okc135 : OkC Tryz.prog 65 := ⟨_, Tryz.func65, by kernel_rfl, by kernel_rfl⟩
theorem Tryz.okc136 : OkC Tryz.prog 100 := ⟨_, Tryz.func100, by kernel_rfl, by kernel_rfl⟩
theorem Tryz.okc147 : OkC Tryz.prog 101 := ⟨_, Tryz.func101, by kernel_rfl, by kernel_rfl⟩
theorem Tryz.okc148 : OkC Tryz.prog 133 := ⟨_, Tryz.func133, by kernel_rfl, by kernel_rfl⟩
theorem Tryz.okc149 : OkC Tryz.prog 134 := ⟨_, Tryz.func134, by kernel_rfl, by kernel_rfl⟩
theorem Tryz.okc159 : OkC Tryz.prog 156 := ⟨_, Tryz.func156, by kernel_rfl, by kernel_rfl⟩
theorem Tryz.okc180 : OkC Tryz.prog 36 := ⟨_, Tryz.func36, by kernel_rfl, by kernel_rfl⟩
theorem Tryz.okc301 : OkC Tryz.prog 15 := ⟨_, Tryz.func15, by kernel_rfl, by kernel_rfl⟩
theorem Tryz.okc302 : OkC Tryz.prog 30 := ⟨_, Tryz.func30, by kernel_rfl, by kernel_rfl⟩
theorem Tryz.okc303 : OkC Tryz.prog 14 := ⟨_, Tryz.func14, by kernel_rfl, by kernel_rfl⟩
theorem Tryz.okc304 : OkC Tryz.prog 12 := ⟨_, Tryz.func12, by kernel_rfl, by kernel_rfl⟩
theorem Tryz.okc305 : OkC Tryz.prog 11 := ⟨_, Tryz.func11, by kernel_rfl, by kernel_rfl⟩
theorem Tryz.okc306 : OkC Tryz.prog 68 := ⟨_, Tryz.func68, by kernel_rfl, by kernel_rfl⟩
theorem Tryz.okc307 : OkC Tryz.prog 56 := ⟨_, Tryz.func56, by kernel_rfl, by kernel_rfl⟩
theorem Tryz.okc308 : OkC Tryz.prog 20 := ⟨_, Tryz.func20, by kernel_rfl, by kernel_rfl⟩
theorem Tryz.okc309 : OkC Tryz.prog 9 := ⟨_, Tryz.func9, by kernel_rfl, by kernel_rfl⟩
theorem Tryz.okc310 : OkC Tryz.prog 48 := ⟨_, Tryz.func48, by kernel_rfl, by kernel_rfl⟩
theorem Tryz.okc311 : OkC Tryz.prog 40 := ⟨_, Tryz.func40, by kernel_rfl, by kernel_rfl⟩
theorem Tryz.okc312 : OkC Tryz.prog 82 := ⟨_, Tryz.func82, by kernel_rfl, by kernel_rfl⟩
theorem Tryz.okc313 : OkC Tryz.prog 79 := ⟨_, Tryz.func79, by kernel_rfl, by kernel_rfl⟩
theorem Tryz.okc314 : OkC Tryz.prog 38 := ⟨_, Tryz.func38, by kernel_rfl, by kernel_rfl⟩
theorem Tryz.okc315 : OkC Tryz.prog 37 := ⟨_, Tryz.func37, by kernel_rfl, by kernel_rfl⟩
theorem Tryz.okc316 : OkC Tryz.prog 39 := ⟨_, Tryz.func39, by kernel_rfl, by kernel_rfl⟩
theorem Tryz.okc317 : OkC Tryz.prog 89 := ⟨_, Tryz.func89, by kernel_rfl, by kernel_rfl⟩
theorem Tryz.okc318 : OkC Tryz.prog 83 := ⟨_, Tryz.func83, by kernel_rfl, by kernel_rfl⟩
theorem Tryz.okc319 : OkC Tryz.prog 84 := ⟨_, Tryz.func84, by kernel_rfl, by kernel_rfl⟩
theorem Tryz.okc320 : OkC Tryz.prog 78 := ⟨_, Tryz.func78, by kernel_rfl, by kernel_rfl⟩
theorem Tryz.okc322 : OkC Tryz.prog 4 := ⟨_, Tryz.func4, by kernel_rfl, by kernel_rfl⟩
theorem Tryz.okc330 : OkC Tryz.prog 16 := ⟨_, Tryz.func16, by kernel_rfl, by kernel_rfl⟩
theorem Tryz.okc331 : OkC Tryz.prog 17 := ⟨_, Tryz.func17, by kernel_rfl, by kernel_rfl⟩
theorem Tryz.okc332 : OkC Tryz.prog 18 := ⟨_, Tryz.func18, by kernel_rfl, by kernel_rfl⟩
theorem Tryz.okc333 : OkC Tryz.prog 19 := ⟨_, Tryz.func19, by kernel_rfl, by kernel_rfl⟩
theorem Tryz.okc334 : OkC Tryz.prog 21 := ⟨_, Tryz.func21, by kernel_rfl, by kernel_rfl⟩
theorem Tryz.okc335 : OkC Tryz.prog 22 := ⟨_, Tryz.func22, by kernel_rfl, by kernel_rfl⟩
theorem Tryz.okc336 : OkC Tryz.prog 23 := ⟨_, Tryz.func23, by kernel_rfl, by kernel_rfl⟩
theorem Tryz.okc337 : OkC Tryz.prog 24 := ⟨_, Tryz.func24, by kernel_rfl, by kernel_rfl⟩
theorem Tryz.okc341 : OkC Tryz.prog 31 := ⟨_, Tryz.func31, by kernel_rfl, by kernel_rfl⟩
theorem Tryz.okc353 : OkC Tryz.prog 43 := ⟨_, Tryz.func43, by kernel_rfl, by kernel_rfl⟩
theorem Tryz.okc354 : OkC Tryz.prog 44 := ⟨_, Tryz.func44, by kernel_rfl, by kernel_rfl⟩
theorem Tryz.okc356 : OkC Tryz.prog 46 := ⟨_, Tryz.func46, by kernel_rfl, by kernel_rfl⟩
theorem Tryz.okc357 : OkC Tryz.prog 57 := ⟨_, Tryz.func57, by kernel_rfl, by kernel_rfl⟩
theorem Tryz.okc358 : OkC Tryz.prog 69 := ⟨_, Tryz.func69, by kernel_rfl, by kernel_rfl⟩
theorem Tryz.okf8 : OkF Tryz.prog Tryz.T 90 x_frac_Mul := ⟨_, Tryz.func90, by kernel_rfl, by kernel_rfl⟩
theorem Tryz.okf9 : OkF Tryz.prog Tryz.T 91 x_frac_Add := ⟨_, Tryz.func91, by kernel_rfl, by kernel_rfl⟩
theorem Tryz.okf16 : OkF Tryz.prog Tryz.T 34 x__skymosaic_frac_Frac__String := ⟨_, Tryz.func34, by kernel_rfl, by kernel_rfl⟩
theorem Tryz.okf17 : OkF Tryz.prog Tryz.T 51 x_frac_Of := ⟨_, Tryz.func51, by kernel_rfl, by kernel_rfl⟩
theorem Tryz.okf18 : OkF Tryz.prog Tryz.T 80 x_wide_Gcd := ⟨_, Tryz.func80, by kernel_rfl, by kernel_rfl⟩
theorem Tryz.okf19 : OkF Tryz.prog Tryz.T 52 x__skymosaic_frac_Frac__Den := ⟨_, Tryz.func52, by kernel_rfl, by kernel_rfl⟩
theorem Tryz.okf20 : OkF Tryz.prog Tryz.T 125 x_frac_times := ⟨_, Tryz.func125, by kernel_rfl, by kernel_rfl⟩
theorem Tryz.okf21 : OkF Tryz.prog Tryz.T 111 x_frac_over := ⟨_, Tryz.func111, by kernel_rfl, by kernel_rfl⟩
theorem Tryz.okf22 : OkF Tryz.prog Tryz.T 110 x_frac_lowest := ⟨_, Tryz.func110, by kernel_rfl, by kernel_rfl⟩
theorem Tryz.okf23 : OkF Tryz.prog Tryz.T 94 x_wide_Add := ⟨_, Tryz.func94, by kernel_rfl, by kernel_rfl⟩
theorem Tryz.okf24 : OkF Tryz.prog Tryz.T 72 x_frac_Make := ⟨_, Tryz.func72, by kernel_rfl, by kernel_rfl⟩
theorem Tryz.okf29 : OkF Tryz.prog Tryz.T 53 x_wide_Div := ⟨_, Tryz.func53, by kernel_rfl, by kernel_rfl⟩
theorem Tryz.okf30 : OkF Tryz.prog Tryz.T 54 x_wide_Compare := ⟨_, Tryz.func54, by kernel_rfl, by kernel_rfl⟩
theorem Tryz.okf31 : OkF Tryz.prog Tryz.T 55 x_wide_Sign := ⟨_, Tryz.func55, by kernel_rfl, by kernel_rfl⟩
theorem Tryz.okf34 : OkF Tryz.prog Tryz.T 92 x_wide_From := ⟨_, Tryz.func92, by kernel_rfl, by kernel_rfl⟩
theorem Tryz.okf35 : OkF Tryz.prog Tryz.T 95 x_wide_divide := ⟨_, Tryz.func95, by kernel_rfl, by kernel_rfl⟩
theorem Tryz.okf36 : OkF Tryz.prog Tryz.T 98 x_wide_signed := ⟨_, Tryz.func98, by kernel_rfl, by kernel_rfl⟩
theorem Tryz.okf37 : OkF Tryz.prog Tryz.T 93 x_frac_must := ⟨_, Tryz.func93, by kernel_rfl, by kernel_rfl⟩
theorem Tryz.okf38 : OkF Tryz.prog Tryz.T 122 x_wide_Mul := ⟨_, Tryz.func122, by kernel_rfl, by kernel_rfl⟩
theorem Tryz.okf39 : OkF Tryz.prog Tryz.T 123 x_wide_Sub := ⟨_, Tryz.func123, by kernel_rfl, by kernel_rfl⟩
theorem Tryz.okf40 : OkF Tryz.prog Tryz.T 96 x_wide_sum := ⟨_, Tryz.func96, by kernel_rfl, by kernel_rfl⟩
theorem Tryz.okf41 : OkF Tryz.prog Tryz.T 99 x_wide_compare := ⟨_, Tryz.func99, by kernel_rfl, by kernel_rfl⟩
theorem Tryz.okf42 : OkF Tryz.prog Tryz.T 97 x_wide_difference := ⟨_, Tryz.func97, by kernel_rfl, by kernel_rfl⟩
theorem Tryz.okf43 : OkF Tryz.prog Tryz.T 109 x_wide_Neg := ⟨_, Tryz.func109, by kernel_rfl, by kernel_rfl⟩
theorem Tryz.okf44 : OkF Tryz.prog Tryz.T 47 x_poly_Digits := ⟨_, Tryz.func47, by kernel_rfl, by kernel_rfl⟩
theorem Tryz.okf48 : OkF Tryz.prog Tryz.T 116 x_wide_short := ⟨_, Tryz.func116, by kernel_rfl, by kernel_rfl⟩
theorem Tryz.okf49 : OkF Tryz.prog Tryz.T 106 x_wide_normal := ⟨_, Tryz.func106, by kernel_rfl, by kernel_rfl⟩
theorem Tryz.okf55 : OkF Tryz.prog Tryz.T 126 x_math_bits_LeadingZeros32 := ⟨_, Tryz.func126, by kernel_rfl, by kernel_rfl⟩
theorem Tryz.okf56 : OkF Tryz.prog Tryz.T 127 x_wide_shifted := ⟨_, Tryz.func127, by kernel_rfl, by kernel_rfl⟩
theorem Tryz.okf57 : OkF Tryz.prog Tryz.T 128 x_wide_take := ⟨_, Tryz.func128, by kernel_rfl, by kernel_rfl⟩
theorem Tryz.okf58 : OkF Tryz.prog Tryz.T 129 x_wide_carrier := ⟨_, Tryz.func129, by kernel_rfl, by kernel_rfl⟩
theorem Tryz.okf59 : OkF Tryz.prog Tryz.T 107 x_wide_times := ⟨_, Tryz.func107, by kernel_rfl, by kernel_rfl⟩
theorem Tryz.okf60 : OkF Tryz.prog Tryz.T 131 x_cmp_Compare_int_ := ⟨_, Tryz.func131, by kernel_rfl, by kernel_rfl⟩
theorem Tryz.okf61 : OkF Tryz.prog Tryz.T 132 x_cmp_Compare_uint32_ := ⟨_, Tryz.func132, by kernel_rfl, by kernel_rfl⟩
theorem Tryz.okf62 : OkF Tryz.prog Tryz.T 130 x_wide_subtract := ⟨_, Tryz.func130, by kernel_rfl, by kernel_rfl⟩
theorem Tryz.okf63 : OkF Tryz.prog Tryz.T 87 x_poly_digits := ⟨_, Tryz.func87, by kernel_rfl, by kernel_rfl⟩
theorem Tryz.okf64 : OkF Tryz.prog Tryz.T 88 x__skymosaic_frac_Frac__Num := ⟨_, Tryz.func88, by kernel_rfl, by kernel_rfl⟩
theorem Tryz.okf65 : OkF Tryz.prog Tryz.T 50 x_frac_Div := ⟨_, Tryz.func50, by kernel_rfl, by kernel_rfl⟩
theorem Tryz.okf67 : OkF Tryz.prog Tryz.T 49 x_frac_Sign := ⟨_, Tryz.func49, by kernel_rfl, by kernel_rfl⟩
theorem Tryz.okf76 : OkF Tryz.prog Tryz.T 152 x_math_bits_Len32 := ⟨_, Tryz.func152, by kernel_rfl, by kernel_rfl⟩
theorem Tryz.okf77 : OkF Tryz.prog Tryz.T 153 x_wide_carrier_1 := ⟨_, Tryz.func153, by kernel_rfl, by kernel_rfl⟩
theorem Tryz.okf78 : OkF Tryz.prog Tryz.T 154 x_cmp_isNaN_int_ := ⟨_, Tryz.func154, by kernel_rfl, by kernel_rfl⟩
theorem Tryz.okf79 : OkF Tryz.prog Tryz.T 155 x_cmp_isNaN_uint32_ := ⟨_, Tryz.func155, by kernel_rfl, by kernel_rfl⟩
theorem Tryz.okf80 : OkF Tryz.prog Tryz.T 81 x__skymosaic_wide_Int__Small := ⟨_, Tryz.func81, by kernel_rfl, by kernel_rfl⟩
theorem Tryz.okf114 : OkF Tryz.prog Tryz.T 28 x_r03_Of := ⟨_, Tryz.func28, by kernel_rfl, by kernel_rfl⟩
theorem Tryz.okf117 : OkF Tryz.prog Tryz.T 86 x_r03_Small := ⟨_, Tryz.func86, by kernel_rfl, by kernel_rfl⟩
theorem Tryz.okf118 : OkF Tryz.prog Tryz.T 66 x_r03_Mul := ⟨_, Tryz.func66, by kernel_rfl, by kernel_rfl⟩
theorem Tryz.okf119 : OkF Tryz.prog Tryz.T 26 x_r03_Add := ⟨_, Tryz.func26, by kernel_rfl, by kernel_rfl⟩
theorem Tryz.okf120 : OkF Tryz.prog Tryz.T 61 x_r03_Div := ⟨_, Tryz.func61, by kernel_rfl, by kernel_rfl⟩
theorem Tryz.okf121 : OkF Tryz.prog Tryz.T 102 x_r03_Sub := ⟨_, Tryz.func102, by kernel_rfl, by kernel_rfl⟩
theorem Tryz.okf123 : OkF Tryz.prog Tryz.T 59 x_r03_Neg := ⟨_, Tryz.func59, by kernel_rfl, by kernel_rfl⟩
theorem Tryz.okf124 : OkF Tryz.prog Tryz.T 124 x_r03_Compare := ⟨_, Tryz.func124, by kernel_rfl, by kernel_rfl⟩
theorem Tryz.okf125 : OkF Tryz.prog Tryz.T 60 x_r03_Gcd := ⟨_, Tryz.func60, by kernel_rfl, by kernel_rfl⟩
theorem Tryz.okf132 : OkF Tryz.prog Tryz.T 62 x_r03_normal := ⟨_, Tryz.func62, by kernel_rfl, by kernel_rfl⟩
theorem Tryz.okf133 : OkF Tryz.prog Tryz.T 63 x_r03_plus := ⟨_, Tryz.func63, by kernel_rfl, by kernel_rfl⟩
theorem Tryz.okf134 : OkF Tryz.prog Tryz.T 64 x_r03_compared := ⟨_, Tryz.func64, by kernel_rfl, by kernel_rfl⟩
theorem Tryz.okf135 : OkF Tryz.prog Tryz.T 65 x_r03_minus := ⟨_, Tryz.func65, by kernel_rfl, by kernel_rfl⟩
theorem Tryz.okf136 : OkF Tryz.prog Tryz.T 100 x_r03_divided := ⟨_, Tryz.func100, by kernel_rfl, by kernel_rfl⟩
theorem Tryz.okf147 : OkF Tryz.prog Tryz.T 101 x_r03_at := ⟨_, Tryz.func101, by kernel_rfl, by kernel_rfl⟩
theorem Tryz.okf148 : OkF Tryz.prog Tryz.T 133 x_r03_digit := ⟨_, Tryz.func133, by kernel_rfl, by kernel_rfl⟩
theorem Tryz.okf149 : OkF Tryz.prog Tryz.T 134 x_r03_small := ⟨_, Tryz.func134, by kernel_rfl, by kernel_rfl⟩
theorem Tryz.okf159 : OkF Tryz.prog Tryz.T 156 x_r03_digits := ⟨_, Tryz.func156, by kernel_rfl, by kernel_rfl⟩
theorem Tryz.okf180 : OkF Tryz.prog Tryz.T 36 x_r04_Pick := ⟨_, Tryz.func36, by kernel_rfl, by kernel_rfl⟩
theorem Tryz.okf301 : OkF Tryz.prog Tryz.T 15 x_r12_Proj := ⟨_, Tryz.func15, by kernel_rfl, by kernel_rfl⟩
theorem Tryz.okf302 : OkF Tryz.prog Tryz.T 30 x_proj_Valid := ⟨_, Tryz.func30, by kernel_rfl, by kernel_rfl⟩
theorem Tryz.okf303 : OkF Tryz.prog Tryz.T 14 x_l12_lives := ⟨_, Tryz.func14, by kernel_rfl, by kernel_rfl⟩
theorem Tryz.okf304 : OkF Tryz.prog Tryz.T 12 x_l12_whole := ⟨_, Tryz.func12, by kernel_rfl, by kernel_rfl⟩
theorem Tryz.okf305 : OkF Tryz.prog Tryz.T 11 x_proj_Apply := ⟨_, Tryz.func11, by kernel_rfl, by kernel_rfl⟩
theorem Tryz.okf306 : OkF Tryz.prog Tryz.T 68 x_proj_det := ⟨_, Tryz.func68, by kernel_rfl, by kernel_rfl⟩
theorem Tryz.okf307 : OkF Tryz.prog Tryz.T 56 x_proj_of := ⟨_, Tryz.func56, by kernel_rfl, by kernel_rfl⟩
theorem Tryz.okf308 : OkF Tryz.prog Tryz.T 20 x_proj_Inverse := ⟨_, Tryz.func20, by kernel_rfl, by kernel_rfl⟩
theorem Tryz.okf309 : OkF Tryz.prog Tryz.T 9 x_proj_Four := ⟨_, Tryz.func9, by kernel_rfl, by kernel_rfl⟩
theorem Tryz.okf310 : OkF Tryz.prog Tryz.T 48 x_proj_row := ⟨_, Tryz.func48, by kernel_rfl, by kernel_rfl⟩
theorem Tryz.okf311 : OkF Tryz.prog Tryz.T 40 x_proj_adjoint := ⟨_, Tryz.func40, by kernel_rfl, by kernel_rfl⟩
theorem Tryz.okf312 : OkF Tryz.prog Tryz.T 82 x_proj_plus := ⟨_, Tryz.func82, by kernel_rfl, by kernel_rfl⟩
theorem Tryz.okf313 : OkF Tryz.prog Tryz.T 79 x_proj_times := ⟨_, Tryz.func79, by kernel_rfl, by kernel_rfl⟩
theorem Tryz.okf314 : OkF Tryz.prog Tryz.T 38 x_proj_normal := ⟨_, Tryz.func38, by kernel_rfl, by kernel_rfl⟩
theorem Tryz.okf315 : OkF Tryz.prog Tryz.T 37 x_proj_basis := ⟨_, Tryz.func37, by kernel_rfl, by kernel_rfl⟩
theorem Tryz.okf316 : OkF Tryz.prog Tryz.T 39 x_proj_product := ⟨_, Tryz.func39, by kernel_rfl, by kernel_rfl⟩
theorem Tryz.okf317 : OkF Tryz.prog Tryz.T 89 x_proj_row_1 := ⟨_, Tryz.func89, by kernel_rfl, by kernel_rfl⟩
theorem Tryz.okf318 : OkF Tryz.prog Tryz.T 83 x_proj_adjoint_1 := ⟨_, Tryz.func83, by kernel_rfl, by kernel_rfl⟩
theorem Tryz.okf319 : OkF Tryz.prog Tryz.T 84 x_proj_minus := ⟨_, Tryz.func84, by kernel_rfl, by kernel_rfl⟩
theorem Tryz.okf320 : OkF Tryz.prog Tryz.T 78 x_proj_basis_1 := ⟨_, Tryz.func78, by kernel_rfl, by kernel_rfl⟩
theorem Tryz.okf322 : OkF Tryz.prog Tryz.T 4 x_l12_ProjInverts := ⟨_, Tryz.func4, by kernel_rfl, by kernel_rfl⟩
theorem Tryz.okf330 : OkF Tryz.prog Tryz.T 16 x_l12_spoilt := ⟨_, Tryz.func16, by kernel_rfl, by kernel_rfl⟩
theorem Tryz.okf331 : OkF Tryz.prog Tryz.T 17 x_l12_multiple := ⟨_, Tryz.func17, by kernel_rfl, by kernel_rfl⟩
theorem Tryz.okf332 : OkF Tryz.prog Tryz.T 18 x_proj_Normal := ⟨_, Tryz.func18, by kernel_rfl, by kernel_rfl⟩
theorem Tryz.okf333 : OkF Tryz.prog Tryz.T 19 x_r12_Normal := ⟨_, Tryz.func19, by kernel_rfl, by kernel_rfl⟩
theorem Tryz.okf334 : OkF Tryz.prog Tryz.T 21 x_r12_Inverse := ⟨_, Tryz.func21, by kernel_rfl, by kernel_rfl⟩
theorem Tryz.okf335 : OkF Tryz.prog Tryz.T 22 x_proj_Compose := ⟨_, Tryz.func22, by kernel_rfl, by kernel_rfl⟩
theorem Tryz.okf336 : OkF Tryz.prog Tryz.T 23 x_r12_Compose := ⟨_, Tryz.func23, by kernel_rfl, by kernel_rfl⟩
theorem Tryz.okf337 : OkF Tryz.prog Tryz.T 24 x_proj_Same := ⟨_, Tryz.func24, by kernel_rfl, by kernel_rfl⟩
theorem Tryz.okf341 : OkF Tryz.prog Tryz.T 31 x_r12_Valid := ⟨_, Tryz.func31, by kernel_rfl, by kernel_rfl⟩
theorem Tryz.okf353 : OkF Tryz.prog Tryz.T 43 x_r12_normal := ⟨_, Tryz.func43, by kernel_rfl, by kernel_rfl⟩
theorem Tryz.okf354 : OkF Tryz.prog Tryz.T 44 x_r12_product := ⟨_, Tryz.func44, by kernel_rfl, by kernel_rfl⟩
theorem Tryz.okf356 : OkF Tryz.prog Tryz.T 46 x_r12_inverse := ⟨_, Tryz.func46, by kernel_rfl, by kernel_rfl⟩
theorem Tryz.okf357 : OkF Tryz.prog Tryz.T 57 x_r12_Matrix := ⟨_, Tryz.func57, by kernel_rfl, by kernel_rfl⟩
theorem Tryz.okf358 : OkF Tryz.prog Tryz.T 69 x_r12_det := ⟨_, Tryz.func69, by kernel_rfl, by kernel_rfl⟩
theorem Tryz.allc : AllCal Tryz.prog Tryz.keyL := ⟨Tryz.okc8, Tryz.okc9, Tryz.okc16, Tryz.okc17, Tryz.okc18, Tryz.okc19, Tryz.okc20, Tryz.okc21, Tryz.okc22, Tryz.okc23, Tryz.okc24, Tryz.okc29, Tryz.okc30, Tryz.okc31, Tryz.okc33, Tryz.okc34, Tryz.okc35, Tryz.okc36, Tryz.okc37, Tryz.okc38, Tryz.okc39, Tryz.okc40, Tryz.okc41, Tryz.okc42, Tryz.okc43, Tryz.okc44, Tryz.okc48, Tryz.okc49, Tryz.okc50, Tryz.okc51, Tryz.okc55, Tryz.okc56, Tryz.okc57, Tryz.okc58, Tryz.okc59, Tryz.okc60, Tryz.okc61, Tryz.okc62, Tryz.okc63, Tryz.okc64, Tryz.okc65, Tryz.okc67, Tryz.okc76, Tryz.okc77, Tryz.okc78, Tryz.okc79, Tryz.okc80, Tryz.okc114, Tryz.okc117, Tryz.okc118, Tryz.okc119, Tryz.okc120, Tryz.okc121, Tryz.okc123, Tryz.okc124, Tryz.okc125, Tryz.okc132, Tryz.okc133, Tryz.okc134, Tryz.okc135, Tryz.okc136, Tryz.okc147, Tryz.okc148, Tryz.okc149, Tryz.okc159, Tryz.okc180, Tryz.okc301, Tryz.okc302, Tryz.okc303, Tryz.okc304, Tryz.okc305, Tryz.okc306, Tryz.okc307, Tryz.okc308, Tryz.okc309, Tryz.okc310, Tryz.okc311, Tryz.okc312, Tryz.okc313, Tryz.okc314, Tryz.okc315, Tryz.okc316, Tryz.okc317, Tryz.okc318, Tryz.okc319, Tryz.okc320, Tryz.okc322, Tryz.okc330, Tryz.okc331, Tryz.okc332, Tryz.okc333, Tryz.okc334, Tryz.okc335, Tryz.okc336, Tryz.okc337, Tryz.okc341, Tryz.okc353, Tryz.okc354, Tryz.okc356, Tryz.okc357, Tryz.okc358, True.intro⟩
theorem Tryz.allf : AllOk Tryz.prog Tryz.T progL Tryz.keyL := ⟨Tryz.okf8, Tryz.okf9, Tryz.okf16, Tryz.okf17, Tryz.okf18, Tryz.okf19, Tryz.okf20, Tryz.okf21, Tryz.okf22, Tryz.okf23, Tryz.okf24, Tryz.okf29, Tryz.okf30, Tryz.okf31, Tryz.okf34, Tryz.okf35, Tryz.okf36, Tryz.okf37, Tryz.okf38, Tryz.okf39, Tryz.okf40, Tryz.okf41, Tryz.okf42, Tryz.okf43, Tryz.okf44, Tryz.okf48, Tryz.okf49, Tryz.okf55, Tryz.okf56, Tryz.okf57, Tryz.okf58, Tryz.okf59, Tryz.okf60, Tryz.okf61, Tryz.okf62, Tryz.okf63, Tryz.okf64, Tryz.okf65, Tryz.okf67, Tryz.okf76, Tryz.okf77, Tryz.okf78, Tryz.okf79, Tryz.okf80, Tryz.okf114, Tryz.okf117, Tryz.okf118, Tryz.okf119, Tryz.okf120, Tryz.okf121, Tryz.okf123, Tryz.okf124, Tryz.okf125, Tryz.okf132, Tryz.okf133, Tryz.okf134, Tryz.okf135, Tryz.okf136, Tryz.okf147, Tryz.okf148, Tryz.okf149, Tryz.okf159, Tryz.okf180, Tryz.okf301, Tryz.okf302, Tryz.okf303, Tryz.okf304, Tryz.okf305, Tryz.okf306, Tryz.okf307, Tryz.okf308, Tryz.okf309, Tryz.okf310, Tryz.okf311, Tryz.okf312, Tryz.okf313, Tryz.okf314, Tryz.okf315, Tryz.okf316, Tryz.okf317, Tryz.okf318, Tryz.okf319, Tryz.okf320, Tryz.okf322, Tryz.okf330, Tryz.okf331, Tryz.okf332, Tryz.okf333, Tryz.okf334, Tryz.okf335, Tryz.okf336, Tryz.okf337, Tryz.okf341, Tryz.okf353, Tryz.okf354, Tryz.okf356, Tryz.okf357, Tryz.okf358, True.intro⟩
theorem Tryz.libok : LibOk Tryz.prog Tryz.lren (fun f => (Tryz.keyL[f]?).join) Tryz.T 4 where
 l105 := Tryz.l105
 l171 := Tryz.l171
 lX := Tryz.lX
 gname := by kernel_rfl
 gkey := rfl
 k50 := rfl
 k51 := rfl
 o130 := fun g h => by have h : (none : Option FuncId) = some g := h; cases h
 o131 := fun g h => by have h : (none : Option FuncId) = some g := h; cases h
 o222 := fun g h => by have h : (none : Option FuncId) = some g := h; cases h
theorem Tryz.mixed : Tryz.prog.follows .mixedOrders = true := by kernel_rfl
theorem Tryz.progok1 : ProgOk Tryz.prog (fun f => (Tryz.keyL[f]?).join) Tryz.T E1.prog := zlA Tryz.mixed Tryz.allc Tryz.allf Tryz.libok
theorem Tryz.gk0 : ∀ g n, Tryz.T.gkey g = some n → n ≤ 4 := fun g n h => by
 have h : (if g = 4 then some 0 else none) = some n := h
 split at h
 ·cases h; decide
 ·cases h
theorem Tryz.progok : ProgOk Tryz.prog (fun f => (Tryz.keyL[f]?).join) Tryz.T E0.prog := zlz Tryz.mixed Tryz.allc Tryz.allf Tryz.libok fun {g} hk => by
 obtain rfl : g = 77 := (Option.some.inj hk).symm
 exact fun {_ _ _ _ _ _ _ _} e TO RL S => zlN (pre := Tryz.strPre) (tail := Tryz.strTail) Tryz.progok1 KE1 Tryz.gk0 (G := 4) rfl Tryz.func77 rfl (by kernel_rfl) rfl rfl (fun neg ps h1 h2 h3 b1 o1 b3 o3 c w h4 h5 h6 h7 tm h8 h9 h10 => Tryz.str_tail neg ps h1 h2 h3 b1 o1 b3 o3 c w h4 h5 h6 h7 tm h8 h9 h10) e TO RL S
end Go.Proofs
namespace Go.Eng
open Go.RowKit
theorem tabIs_mem {P : Program} {W : World} {name : String} {k : IntKind} {zs : List Int} {g : Nat} {t e : TypeId} {n : Nat}
  (hg : P.globalNamed name = some g) (hty : (P.globals[g]?).map (·.type) = some t) (ht : P.underlying t = some (.array n e)) (he : P.underlying e = some (.int k)) (hce : P.cellsOf e = 1) (hct : P.cellsOf t = n) :
  ∀ {laid : List (String × DataW Unit)} {ps : List MemPlace}, DataW.LaidVars P W laid ps → (name, Lib.tabData k zs) ∈ laid → Lib.TabIs P W name k zs
 | [], _, _, hm => by cases hm
 | x :: laid, ps, h, hm => by
  obtain ⟨g', t', cs, fuel, p, q, hg', ht', hvar, hd, h2, h3⟩ := h
  rcases List.mem_cons.1 hm with rfl | hm
  ·obtain rfl := Option.some.inj (hg.symm.trans hg')
   obtain rfl := Option.some.inj (hty.symm.trans ht')
   unfold Lib.TabIs
   rw [hvar, ← Lib.cells_of_tab ht he hce hct hd]
  ·exact tabIs_mem hg hty ht he hce hct (by first | exact h2 | exact h3 | exact h3.1 | exact h2.1) hm
def IsRow (k : IntKind) (w : World) (a : Option Addr) (len cap : Nat) (zs : List Int) : Prop :=
 (a = none ∧ len = 0 ∧ cap = 0 ∧ zs = []) ∨
 ∃ x, a = some x ∧ len ≤ cap ∧ cap ≤ maxLen ∧ zs.length = cap ∧ (∀ i, i < zs.length → w.cell? (x.add i) = some (.int k (zs.getD i 0))) ∧ ∀ n ∈ zs, (Lit.int k n).wf = true
def hpA (bs : List (List AV)) : Hp := ⟨fun n => if n ≤ 4 then (globG n).map fun c => ⟨c, false, 0⟩ else (bs[n - 5]?).map fun c => ⟨c, false, 0⟩, bs.length + 5⟩
def locA (gs : Nat → Option At) (ats : List At) : Loc := fun n => if n ≤ 4 then gs n else ats[n - 5]?
def InW (c : List AV) (a : At) (W : World) : Prop :=
 a.b < W.heap.size ∧ a.w = false ∧ c.length ≤ a.n ∧ ∀ i (h : i < c.length), c[i].scal = true ∧ ∃ v, W.cell? ⟨a.b, a.o + i, none⟩ = some v ∧ ∀ key l, Rel key l c[i] v
def GlobIn (key : Nat → Option FuncId) (W : World) (n : Nat) (a : At) : Prop :=
 a.o = 0 ∧ ∃ c cs t fz, globG n = some c ∧ W.heap[a.b]? = some (.cells cs t fz) ∧ c.length ≤ a.n ∧ RelL key (fun _ => none) c cs.toList
theorem zhG : ∀ {n : Nat} {c : List AV}, globG n = some c → c.all AV.scal = true
 | 0, c, h => by cases h; rfl
 | 1, c, h => by cases h; rfl
 | 2, c, h => by cases h; rfl
 | 3, c, h => by cases h; rfl
 | 4, c, h => by cases h; rfl
 | n + 5, c, h => by cases h
theorem zgR : ∀ {n : Nat} {c : List AV}, globG n = some c → (c.map cst0).all PV.scal = true
 | 0, c, h => by cases h; decide
 | 1, c, h => by cases h; decide
 | 2, c, h => by cases h; decide
 | 3, c, h => by cases h; rfl
 | 4, c, h => by cases h; rfl
 | n + 5, c, h => by cases h
theorem zkO : ∀ {n : Nat} {c : List AV}, globG n = some c → n ≤ 4
 | 0, c, h => by omega
 | 1, c, h => by omega
 | 2, c, h => by omega
 | 3, c, h => by omega
 | 4, c, h => by omega
 | n + 5, c, h => by cases h
theorem zrG {P : Program} {key : Nat → Option FuncId} {F : Nat} {W : World} {gs : Nat → Option At} (hgs : ∀ n a, n ≤ 4 → gs n = some a → GlobIn key W n a)
  {bs : List (List AV)} {ats : List At} (hl : ats.length = bs.length) (hin : ∀ (n : Nat) c a, bs[n]? = some c → ats[n]? = some a → InW c a W) : Sim key F (locA gs ats) (hpA bs) W := by
 have hlt : ∀ n a, n ≤ 4 → gs n = some a → a.b < W.heap.size := fun n a hn hg => by
  obtain ⟨_, c, cs, t, fz, _, h2, _⟩ := hgs n a hn hg
  rcases Nat.lt_or_ge a.b W.heap.size with q | q
  ·exact q
  ·rw [Array.getElem?_eq_none q] at h2; cases h2
 have hout : ∀ n, bs.length ≤ n → ats[n]? = none := fun n hn => List.getElem?_eq_none (by omega)
 have norw : ∀ n blk, (hpA bs).m n = some blk → blk.rw = false := fun n blk e => by
  simp only [hpA] at e
  split at e <;> (simp only [Option.map_eq_some_iff] at e; obtain ⟨c, _, rfl⟩ := e; rfl)
 refine ⟨fun n blk a e1 e2 => ?_, fun n blk a n' blk' a' e1 e2 e3 => ?_, fun n a e => ?_, fun n a e => ?_, fun n hn => ?_⟩
 ·by_cases hn : n ≤ 4
  ·simp only [hpA, if_pos hn, Option.map_eq_some_iff] at e1
   simp only [locA, if_pos hn] at e2
   obtain ⟨c, c1, rfl⟩ := e1
   obtain ⟨g1, c', cs, t, fz, g2, g3, g4, g5⟩ := hgs n a hn e2
   obtain rfl := Option.some.inj (c1.symm.trans g2)
   have hsz : c.length = cs.size := by simpa using g5.1
   refine ⟨hlt n a hn e2, g4, fun i hi => ?_, fun i hi => ?_, fun q => (by cases q), fun _ => ⟨rfl, g1, cs, t, fz, g3, hsz.symm⟩⟩
   ·have hi : i < c.length := hi
    have hi' : i < cs.toList.length := by simp; omega
    refine ⟨cs.toList[i], ?_, (g5.2 i hi hi').mono fun n a q => by cases q⟩
    have hb : W.heap[a.b]? = some (.cells cs t fz) := g3
    simp only [World.cell?, hb, g1, Nat.zero_add]
    rw [Array.getElem_toList, Array.getElem?_eq_getElem (by omega)]; rfl
   ·have := zhG c1
    rw [List.all_eq_true] at this
    exact this _ (List.getElem_mem _)
  ·simp only [hpA, if_neg hn, Option.map_eq_some_iff] at e1
   simp only [locA, if_neg hn] at e2
   obtain ⟨c, c1, rfl⟩ := e1
   obtain ⟨q1, q2, q3, q4⟩ := hin _ c a c1 e2
   exact ⟨q1, q3, fun i hi => by obtain ⟨_, v, v1, v2⟩ := q4 i hi; exact ⟨v, v1, v2 key _⟩, fun i hi => (q4 i hi).1, fun q => (by cases q), fun q => by rw [q2] at q; cases q⟩
 ·rw [norw n blk e1] at e3; cases e3
 ·by_cases hn : n ≤ 4
  ·simp only [locA, if_pos hn] at e
   exact hlt n a hn e
  ·simp only [locA, if_neg hn] at e
   have hb : n - 5 < bs.length := by
    rcases Nat.lt_or_ge (n - 5) bs.length with q | q
    ·exact q
    ·rw [hout _ q] at e; cases e
   exact (hin _ _ a (List.getElem?_eq_getElem hb) e).1
 ·left
  show n < bs.length + 5
  by_cases hn : n ≤ 4
  ·omega
  ·simp only [locA, if_neg hn] at e
   rcases Nat.lt_or_ge (n - 5) bs.length with q | q
   ·omega
   ·rw [hout _ q] at e; cases e
 ·have hn : bs.length + 5 ≤ n := hn
  simp only [hpA]
  rw [if_neg (by omega), List.getElem?_eq_none (by omega)]; rfl
theorem PInv.startG {bs : List (List AV)} (w : (hpA bs).wf) : PInv globG (fun _ => False) [] [] (hpA bs) := by
 refine ⟨rfl, fun i j m q => by simp at q, fun m q => by simp at q, w, fun n m q => by simp at q, fun n b m q => by simp at q, fun m d => d.elim, fun g l q => ?_⟩
 refine ⟨⟨l, false, 0⟩, ?_, ⟨rfl, zgR q⟩, fun d => ?_⟩
 ·simp only [hpA, if_pos (zkO q), q, Option.map_some]
 ·rcases d with d | d
  ·exact d
  ·exact zhW _ d
theorem glob_tab {P : Program} {key : Nat → Option FuncId} {W : World} {G : Nat} (hg : P.globalNamed "internal/strconv.uint64pow10" = some G) (ht : Lib.TabIs P W "internal/strconv.uint64pow10" .u64 Lib.pow10Tab) : GlobIn key W 0 ⟨G, 0, 20, true⟩ := by
 have hb : ∃ cs t fz, W.heap[G]? = some (.cells cs t fz) ∧ cs = (Lib.pow10Tab.map fun z => Value.int .u64 z).toArray := by
  unfold Lib.TabIs World.var? at ht
  rw [hg] at ht
  simp only [Option.bind_some] at ht
  split at ht
  ·rename_i cs t fz hh
   cases ht
   exact ⟨_, t, fz, hh, rfl⟩
  ·cases ht
 obtain ⟨cs, t, fz, hh, rfl⟩ := hb
 refine ⟨rfl, powT, _, t, fz, rfl, hh, Nat.le_refl _, by simp [Lib.pow10Tab, powT], fun i h1 h2 => ?_⟩
 have hpl : powT.length = 20 := rfl
 have hi' : i < 20 := by rw [← hpl]; exact h1
 simp only [powT, List.getElem_map, List.getElem_range, Lib.pow10Tab]
 exact .i _ _
theorem law_calls {P : Program} {key : Nat → Option FuncId} {T : Tab} (K : ProgOk P key T E0.prog) (hTf : ∀ f k, T.fkey f = some k → key k = some f) {W : World} {gs : Nat → Option At} (hgs : ∀ n a, n ≤ 4 → gs n = some a → GlobIn key W n a)
  (hT : ∀ g n, T.gkey g = some n → n ≤ 4 ∧ ∃ m, gs n = some ⟨g, 0, m, true⟩)
  {bs : List (List AV)} {ats : List At} (hl : ats.length = bs.length) (hin : ∀ (n : Nat) c a, bs[n]? = some c → ats[n]? = some a → InW c a W)
  {k g : Nat} (hk : key k = some g) (hpure : E0.pure k = true) {ps : List PV} (hfz : fzL (fz [] fzD) ps = some (ps, [])) (hpf : pf E0 k ps = some (.b true))
  {avs : List AV} {vs : Array Value} (hV : VL (hpA bs) (fun _ => False) [] ps avs) (hR : RelL key (locA gs ats) avs vs.toList) :
  Calls P g vs W fun e w' => e = .returned (.bool true) ∧ Below W.heap.size W w' := by
 have hc : pcl E0 k ps [] = some (.b true, roM [] []) := zgu hpure hfz hpf
 obtain ⟨kk, hev⟩ := zd8 hc
 have hw : (hpA bs).wf := (zrG (P := P) (key := key) (F := 0) hgs hl hin).wf
 have I : PInv globG (fun _ => False) [] [] (hpA bs) := PInv.startG hw
 obtain ⟨a, h', r', q1, q2, q3, q4⟩ := zgA KE0 kk _ _ _ _ _ _ _ _ _ hev I (VL.dd hV)
 have ha : a = .b true := by cases q4; rfl
 subst ha
 have S := zrG (P := P) (key := key) (F := h'.next) hgs hl hin
 have TO : TabOk key T (locA gs ats) := by
  refine ⟨fun f k e => ?_, fun g n e => ?_⟩
  ·exact hTf f k e
  ·obtain ⟨h4, m, hm⟩ := hT g n e
   exact ⟨m, by simp only [locA, if_pos h4]; exact hm⟩
 refine (zb4 K kk h'.next k g avs vs _ h' _ _ W q1 hk (Nat.le_refl _) TO hR S).mono ?_
 rintro e w' ⟨l', val, rfl, E, S', rv⟩
 cases rv
 refine ⟨rfl, E.os, E.tape, E.output, E.size, fun b hb => E.frame b hb fun m blk a e1 e2 => ?_⟩
 exfalso
 simp only [hpA] at e1
 split at e1 <;> (simp only [Option.map_eq_some_iff] at e1; obtain ⟨c, c1, rfl⟩ := e1; cases e2)
theorem arg_row {k : IntKind} {W : World} (h0 : 0 < W.heap.size) {a : Option Addr} {len cap : Nat} {zs : List Int} (h : IsRow k W a len cap zs) (n : Nat) : ∃ (c : List AV) (at_ : At) (av : AV), InW c at_ W ∧
  (∀ key (l : Loc), l n = some at_ → Rel key l av (.slice a len cap)) ∧ (∀ (h : Hp) (D : Nat → Prop), h.m n = some ⟨c, false, 0⟩ → ¬ D n → V h D [] (.lst ((zs.take len).map fun z => .i k z)) av) := by
 have nilIn : InW [] ⟨0, 0, 0, false⟩ W := ⟨h0, rfl, Nat.le_refl _, fun i hi => by simp at hi⟩
 rcases h with ⟨rfl, rfl, rfl, rfl⟩ | ⟨x, rfl, hl, hm, hz, hcell, hwz⟩
 ·exact ⟨[], ⟨0, 0, 0, false⟩, .sn, nilIn, fun key l _ => .sn, fun h D _ _ => .lsn⟩
 ·by_cases hlen : len = 0
  ·subst hlen
   exact ⟨[], ⟨0, 0, 0, false⟩, .e0, nilIn, fun key l _ => .e0 _ _, fun h D _ _ => .le0⟩
  ·obtain ⟨b, off, spot⟩ := x
   have hc := hcell 0 (by omega)
   have hspot : spot = none := by simpa [Addr.add] using World.cell?_spot hc
   subst hspot
   have hlt : b < W.heap.size := by
    rcases Nat.lt_or_ge b W.heap.size with q | q
    ·exact q
    ·rw [zb2] at hc
     simp [World.cell?, Array.getElem?_eq_none q] at hc
   have hget : ∀ i (hi : i < ((zs.take len).map fun z => AV.i k z).length), ((zs.take len).map fun z => AV.i k z)[i] = .i k (zs.getD i 0) := fun i hi => by
    have hi' : i < zs.length := by simp at hi; omega
    simp only [List.getElem_map, List.getElem_take, List.getD]
    rw [List.getElem?_eq_getElem hi']; rfl
   refine ⟨(zs.take len).map fun z => .i k z, ⟨b, off, cap, false⟩, .sl n 0 len cap 1, ⟨hlt, rfl, by simp; omega, fun i hi => ?_⟩, fun key l hn => ?_, fun h D hb hD => ?_⟩
   ·rw [hget i hi]
    have hi' : i < zs.length := by simp at hi; omega
    have := hcell i hi'
    rw [zb2] at this
    exact ⟨rfl, _, this, fun key l => .i _ _⟩
   ·have := Rel.sl (key := key) (off := 0) (len := len) (cap := cap) (cap' := cap) (z := 1) hn (Nat.le_refl _) (by show 0 + cap * 1 ≤ cap; omega) hl
    exact this
   ·have hfl : flat ((zs.take len).map fun z => PV.i k z) = (zs.take len).map fun z => PV.i k z := by
     generalize zs.take len = ys
     induction ys with
     | nil => rfl
     | cons y ys ih => rw [List.map_cons]; show [PV.i k y] ++ flat _ = _; rw [ih]; rfl
    have hll : ((zs.take len).map fun z => PV.i k z).length = len := by simp; omega
    have := V.lst (h := h) (D := D) (r := []) (xs := (zs.take len).map fun z => PV.i k z) (m := n) (off := 0) (cap := cap) (z := 1) (fun i => .i k (zs.getD i 0)) hb hD (by rw [hfl, List.all_eq_true]; intro x hx; obtain ⟨y, _, rfl⟩ := List.mem_map.1 hx; rfl) (by decide) (fun x hx => by
     obtain ⟨y, _, rfl⟩ := List.mem_map.1 hx; rfl) (by rw [hll]; exact hl) (fun i hi => by
     rw [hfl] at hi
     have hi2 : i < ((zs.take len).map fun z => AV.i k z).length := by simpa using hi
     rw [Nat.zero_add, List.getElem?_eq_getElem hi2, hget i hi2]) (fun i hi => by
     have hi1 : i < ((zs.take len).map fun z => PV.i k z).length := by rw [hfl] at hi; exact hi
     have e : (flat ((zs.take len).map fun z => PV.i k z))[i] = .i k (zs.getD i 0) := by
      simp only [hfl, List.getElem_map, List.getElem_take, List.getD]
      rw [List.getElem?_eq_getElem (by simp at hi1; omega)]; rfl
     rw [e]
     exact .i _ _)
    rw [hll] at this
    exact this
theorem row_heap {P : Program} {W : World} {G : Nat} (hg : P.globalNamed "internal/strconv.uint64pow10" = some G) (ht : Lib.TabIs P W "internal/strconv.uint64pow10" .u64 Lib.pow10Tab) : 0 < W.heap.size := by
 unfold Lib.TabIs World.var? at ht
 rw [hg] at ht
 simp only [Option.bind_some] at ht
 split at ht
 ·rename_i cs t fz hh
  rcases Nat.eq_zero_or_pos W.heap.size with q | q
  ·rw [Array.getElem?_eq_none (by omega)] at hh; cases hh
  ·exact q
 ·cases ht
theorem ints_row {W : World} {a : Option Addr} {len cap : Nat} {zs : List Int} (h : IsRow .i64 W a len cap zs) : Ints (zs.take len) := by
 rcases h with ⟨rfl, rfl, rfl, rfl⟩ | ⟨x, rfl, hl, hm, hz, hcell, hwz⟩
 ·exact ⟨by simp, fun n hn => by simp at hn⟩
 ·refine ⟨?_, fun n hn => ?_⟩
  ·have : maxLen ≤ 9223372036854775807 := by decide
   simp; omega
  ·have := bounds_i64 (hwz n (List.mem_of_mem_take hn))
   exact this
end Go.Eng
namespace Go.Eng
theorem zip {n K : Nat} (hn : n = 1229) (hK : K = 16384) : 10000 ^ n ≤ 2 ^ K := by
 obtain ⟨m, hm⟩ : ∃ m, m = 83 := ⟨_, rfl⟩
 have e : (10000 : Nat) ^ n = (10 ^ 59) ^ m * 10 ^ 19 := by
  rw [show (10000 : Nat) = 10 ^ 4 from rfl, ← Nat.pow_mul, ← Nat.pow_mul, ← Nat.pow_add]
  congr 1; omega
 have h1 : (10 : Nat) ^ 59 ≤ 2 ^ 196 := by decide
 have h2 : (10 : Nat) ^ 19 ≤ 2 ^ 64 := by decide
 have h3 : ((10 : Nat) ^ 59) ^ m ≤ (2 ^ 196) ^ m := Nat.pow_le_pow_left h1 m
 have h4 : (2 ^ 196) ^ m * 2 ^ 64 = 2 ^ (196 * m + 64) := by rw [← Nat.pow_mul, ← Nat.pow_add]
 rw [e]
 refine Nat.le_trans (Nat.mul_le_mul h3 h2) ?_
 rw [h4]
 exact Nat.pow_le_pow_right (by decide) (by omega)
def inR (v : Nat) : Prop := v < 2 ^ 16384
theorem zi8 (v : Nat) : (tlen v < 1230 ∨ v < 2 ^ 16384) ↔ inR v := by
 obtain ⟨n, hn⟩ : ∃ n, n = 1229 := ⟨_, rfl⟩
 have hb := zip (K := 16384) hn rfl
 unfold inR
 generalize (2 : Nat) ^ 16384 = q at *
 constructor
 ·rintro (h | h)
  ·have h2 : v < 10000 ^ n := za9.1 (by omega)
   exact Nat.lt_of_lt_of_le h2 hb
  ·exact h
 ·exact .inr
theorem zbU (v : Nat) : wlen v ≤ 512 ↔ inR v := by
 obtain ⟨n, hn⟩ : ∃ n, n = 512 := ⟨_, rfl⟩
 rw [← hn, zaV]
 unfold inR
 have : (4294967296 : Nat) ^ n = 2 ^ 16384 := by
  rw [show (4294967296 : Nat) = 2 ^ 32 from rfl, ← Nat.pow_mul]
  congr 1; omega
 rw [this]
end Go.Eng
namespace Go.Eng
end Go.Eng
namespace Go.Eng
noncomputable instance inRdec (v : Nat) : Decidable (inR v) := Classical.propDecidable _
end Go.Eng
namespace Go.Eng
end Go.Eng
namespace Go.Eng
theorem ziK {n K : Nat} (hn : n = 177) (hK : K = 16384) : 2 ^ K ≤ 10 ^ (28 * n) := by
 have e1 : (2 : Nat) ^ K ≤ (2 ^ 93) ^ n := by
  rw [← Nat.pow_mul 2]
  exact Nat.pow_le_pow_right (by decide) (by omega)
 have e2 : ((2 : Nat) ^ 93) ^ n ≤ (10 ^ 28) ^ n := Nat.pow_le_pow_left (by decide) n
 rw [← Nat.pow_mul 10] at e2
 exact Nat.le_trans e1 e2
theorem zjb {v : Nat} (h : inR v) : dlen v ≤ 4956 := by
 obtain ⟨n, hn⟩ : ∃ n, n = 177 := ⟨_, rfl⟩
 have e := ziK (K := 16384) hn rfl
 have h : v < 2 ^ 16384 := h
 have := za0.2 (Nat.lt_of_lt_of_le h e)
 omega
theorem zm1 (x : WI) : pf E0 33 [wiP x] = some (.s (decI x.v)) := by
 refine zlx ?_ rfl
 have hw : ∀ (l : List Nat), Ok32 l → wordsP (l.map fun n => (PV.i .u32 ((n : Nat) : Int))) = some l := fun l => by
  induction l with
  | nil => intro _; rfl
  | cons n l ih =>
   intro h
   have h1 := h n (List.mem_cons_self ..)
   rw [List.map_cons]
   unfold wordsP
   rw [if_pos ⟨by omega, by omega⟩, ih fun x hx => h x (List.mem_cons_of_mem _ hx)]
   simp
 have hD : D x.v.natAbs = .lst ((dig x.v.natAbs).map fun n => (PV.i .u32 ((n : Nat) : Int))) := (zqz _ _).symm
 have hg : (dig x.v.natAbs).getLast? ≠ some 0 := fun q => by
  by_cases h : x.v.natAbs = 0
  ·rw [h] at q; cases q
  ·have h1 := za2 h
   have h2 : (dig x.v.natAbs).getLast? = some (dgt x.v.natAbs (wlen x.v.natAbs - 1)) := by
    rw [List.getLast?_eq_getElem?]
    unfold dig dw
    rw [za4, zaY (by omega)]
   rw [h2] at q
   have h3 := Option.some.inj q
   rw [zal] at h3
   have h4 := zeM h
   have h5 : x.v.natAbs / 4294967296 ^ (wlen x.v.natAbs - 1) < 4294967296 := by
    have := zak x.v.natAbs
    rw [show wlen x.v.natAbs = wlen x.v.natAbs - 1 + 1 by omega, Nat.pow_succ] at this
    exact Nat.div_lt_of_lt_mul this
   have h6 := Nat.div_pos h4 (zbA _)
   rw [Nat.mod_eq_of_lt h5] at h3
   omega
 have hx := x.lim
 rw [zdK, hD]
 simp only [orcP, txtP, if_true, hw _ (zmF _), Option.bind_some]
 unfold wtx
 have hnz : decide (x.v < 0) = true → dig x.v.natAbs ≠ [] := fun h => by
  have h1 : x.v < 0 := by simpa using h
  intro q
  have h2 := zdV x.v.natAbs
  rw [q] at h2
  have := za2 (v := x.v.natAbs) (by omega)
  simp at h2; omega
 rw [if_pos ⟨by rw [zdV]; exact hx, hg, hnz⟩, zlS]
 ·have e : (if decide (x.v < 0) = true then -((x.v.natAbs : Nat) : Int) else ((x.v.natAbs : Nat) : Int)) = x.v := by
   by_cases h : x.v < 0
   ·rw [if_pos (by simpa using h)]; omega
   ·rw [if_neg (by simpa using h)]; omega
  rw [e]; rfl
end Go.Eng
namespace Go.Eng
theorem ziY {v n : Nat} (h1 : 10 ^ n ≤ v) (h2 : v < 10 ^ (n + 1)) : dec v = dtx (n + 1) v := by
 have h0 : v ≠ 0 := by have := Nat.pow_pos (n := n) (by decide : 0 < 10); omega
 have : dlen v = n + 1 := by
  have a := za0.2 h2
  have b : ¬ dlen v ≤ n := fun q => by have := za0.1 q; omega
  omega
 rw [zeh h0, this]
theorem zhy {n : Int} (h : Fits64 n) : ∃ x : WI, x.v = n ∧ pf E0 34 [.i .i64 n] = some (wiP x) := ⟨wiOf n h, rfl, zd4 h⟩
end Go.Eng
namespace Go.Eng
def isPP : PV → Bool
 | .p _ _ => true
 | _ => false
@[go_sem] theorem zqQ (n o : Nat) : isPP (.p n o) = true := _root_.id rfl
def slotIn (E : PEnv) (ops : List XOper) (L : List Nat) (c : Nat × Nat) : Bool :=
 match ops[c.1]?, ops[c.2]? with
 | some a, some b =>
  match a.op with
  | .load _ _ (.t s) => L.contains s && calmOp E b.op && (ops.all fun o => o.dst != some s)
  | _ => false
 | _, _ => false
theorem zai {E : PEnv} {F : PFin} {ops : List XOper} {chk : List (Nat × Nat)} {ks : List KI} {fr : PFr} {M : PM} (L : List Nat) (hL : chk.all (fun c => calmC E ops c || slotIn E ops L c) = true) (hp : L.all (fun s => isPP (fr s)) = true) (w : WL E F ops ks fr M) :
  WK E F (.drw ops chk) ks fr M := by
 refine zbW (fun fr2 Ms hT => ?_) w
 rw [List.all_eq_true] at hL hp ⊢
 rintro ⟨i, j⟩ hc
 have h1 := hL _ hc
 simp only [Bool.or_eq_true] at h1
 rcases h1 with h1 | h1
 ·exact zbv hT h1
 ·unfold slotIn at h1
  split at h1
  ·rename_i a b ha hb
   split at h1
   ·rename_i z k s hop
    simp only [Bool.and_eq_true] at h1
    obtain ⟨⟨c1, c2⟩, c3⟩ := h1
    have hs := hp s (List.contains_iff_mem.1 c1)
    cases hf : fr s with
    | p n o => exact zcC hT ha hb hop c2 c3 hf
    | _ => rw [hf] at hs; simp [isPP] at hs
   ·cases h1
  ·cases h1
attribute [go_sem] List.all_cons List.all_nil
def slotIn2 (E : PEnv) (ops : List XOper) (L : List Nat) (c : Nat × Nat) : Bool :=
 match ops[c.1]?, ops[c.2]? with
 | some a, some b =>
  match a.op with
  | .load _ _ (.t s) => L.contains s && calmOp E b.op
  | _ => false
 | _, _ => false
theorem zah {E : PEnv} {F : PFin} {ops : List XOper} {chk : List (Nat × Nat)} {ks : List KI} {fr : PFr} {M : PM} (L : List Nat) (hL : chk.all (fun c => calmC E ops c || slotIn2 E ops L c) = true)
  (hr : WL E ⟨(0 :: 0 :: L).map XR.tmp, fun w _ => ∃ l, w = .tu l ∧ (l.drop 2).all isPP = true⟩ ops [] fr M) (w : WL E F ops ks fr M) : WK E F (.drw ops chk) ks fr M := by
 refine zbW (fun fr2 Ms hT => ?_) w
 have hp : L.all (fun s => isPP (fr2 s)) = true := by
  obtain ⟨lf, q, fr3, M3, vs, e, h1, h2, l, h3, h4⟩ := hr
  simp only [Option.bind_eq_some_iff, unw] at e
  obtain ⟨⟨fr4, M4⟩, e1, e2⟩ := e
  simp only [Option.some.injEq, Prod.mk.injEq] at e2
  obtain ⟨_, e3, e4⟩ := e2
  rw [← e3, ← e4] at h2
  obtain ⟨Ms', g1, g2⟩ := zbS e1
  rw [g1] at hT
  cases hT
  have hres : ∀ (f : PFr) (N : PM) (l : List Nat), pRes f N (l.map XR.tmp) = some (l.map f) := fun f N l => by
   induction l with
   | nil => rfl
   | cons a l ih => simp only [List.map_cons, pRes, pResOne, ih]
  rw [hres] at h2
  cases h2
  simp only [List.map_cons, packP] at h3
  cases h3
  simpa [List.all_map] using h4
 rw [List.all_eq_true] at hL hp ⊢
 rintro ⟨i, j⟩ hc
 have h1 := hL _ hc
 simp only [Bool.or_eq_true] at h1
 rcases h1 with h1 | h1
 ·exact zbv hT h1
 ·unfold slotIn2 at h1
  split at h1
  ·rename_i a b ha hb
   split at h1
   ·rename_i z k s hop
    simp only [Bool.and_eq_true] at h1
    obtain ⟨c1, c2⟩ := h1
    have hs := hp s (List.contains_iff_mem.1 c1)
    cases hf : fr2 s with
    | p n o =>
     obtain ⟨fri, A, B, q1, q2, q3, q4⟩ := zaL hT ha
     obtain ⟨frj, C, D, p1, p2, p3, p4⟩ := zaL hT hb
     have p2' : Ms[(i, j).2 + 1]? = some D := p2
     have q2' : Ms[(i, j).1 + 1]? = some B := q2
     simp only [chkP, ha, q1, q2, p1, p2]
     rw [if_neg (by rw [hop]; simp [XO.cls])]
     rw [hop]
     show chkV ops j (.t s) C D (fr2 s) = true
     rw [hf]
     show verP (some n) C D = true
     rcases p3 with ⟨_, v, p3⟩ | ⟨_, p3⟩
     ·cases hopb : b.op with
      | call f l =>
       rw [hopb] at p3 c2
       obtain ⟨ns, rfl⟩ := zc3 c2 p3
       exact zcj ns C _
      | _ => rw [hopb] at c2; simp [calmOp] at c2
     ·rw [p3]; simp [verP]
    | _ => rw [hf] at hs; simp [isPP] at hs
   ·cases h1
  ·cases h1
theorem zaa {E : PEnv} {F : PFin} {a b : XC} (hab : a = b) {ks : List KI} {fr : PFr} {M : PM} (w : WK E F b (.loop a :: ks) fr M) : WK E F (.loop a) ks fr M := by
 rw [← hab] at w; exact zcw w
def fillC (z : List PV) (off n : Nat) (cs : List PV) : Option (List PV) := if cs.length = n ∧ off + n ≤ z.length ∧ cs.all PV.scal = true then some (psplice z off cs) else none
theorem zaK {fr : PFr} (G : Nat → Option (List AV)) (z : List PV) (off n : Nat) (x : X) (ps : List (Nat × Nat × X)) : fillP G fr z ((off, (n, x)) :: ps) = fillB fr G ps (fillC z off n (x.pv G fr).cells) := by
 simp only [fillP]
 unfold fillC
 split <;> rfl
theorem zan (z : List PV) (off n : Nat) (cs : List PV) : fillC z off n cs = if cs.length = n ∧ off + n ≤ z.length ∧ cs.all PV.scal = true then some (psplice z off cs) else none := rfl
end Go.Eng
namespace Go.Eng
theorem zdd {z : Int} (h : tlen z.natAbs < 1230) : inR z.natAbs := (zi8 _).1 (.inl h)
theorem zfd (a b : Int) : tlen (a - b).natAbs ≤ max (tlen a.natAbs) (tlen b.natAbs) + 1 := by
 have := zaR a (-b)
 rwa [Int.natAbs_neg] at this
end Go.Eng
namespace Go.Eng
noncomputable def cW (w : Nat → WI) : List PV := [.b (decide ((w 0).v < 0)), D (w 0).v.natAbs, .b (decide ((w 1).v < 0)), D (w 1).v.natAbs, .b (decide ((w 2).v < 0)), D (w 2).v.natAbs, .b (decide ((w 3).v < 0)), D (w 3).v.natAbs, .b (decide ((w 4).v < 0)), D (w 4).v.natAbs, .b (decide ((w 5).v < 0)), D (w 5).v.natAbs, .b (decide ((w 6).v < 0)), D (w 6).v.natAbs, .b (decide ((w 7).v < 0)), D (w 7).v.natAbs, .b (decide ((w 8).v < 0)), D (w 8).v.natAbs]
noncomputable def mW (w : Nat → WI) : PV := .ag (cW w)
def cI (p : Nat → Int) : List PV := [.i .i64 (p 0), .i .i64 (p 1), .i .i64 (p 2), .i .i64 (p 3), .i .i64 (p 4), .i .i64 (p 5), .i .i64 (p 6), .i .i64 (p 7), .i .i64 (p 8)]
def pI (p : Nat → Int) : PV := .ag (cI p)
theorem zae (w : Nat → WI) : cW w = [.b (decide ((w 0).v < 0)), D (w 0).v.natAbs, .b (decide ((w 1).v < 0)), D (w 1).v.natAbs, .b (decide ((w 2).v < 0)), D (w 2).v.natAbs, .b (decide ((w 3).v < 0)), D (w 3).v.natAbs, .b (decide ((w 4).v < 0)), D (w 4).v.natAbs, .b (decide ((w 5).v < 0)), D (w 5).v.natAbs, .b (decide ((w 6).v < 0)), D (w 6).v.natAbs, .b (decide ((w 7).v < 0)), D (w 7).v.natAbs, .b (decide ((w 8).v < 0)), D (w 8).v.natAbs] := _root_.id rfl
theorem zag (p : Nat → Int) : cI p = [.i .i64 (p 0), .i .i64 (p 1), .i .i64 (p 2), .i .i64 (p 3), .i .i64 (p 4), .i .i64 (p 5), .i .i64 (p 6), .i .i64 (p 7), .i .i64 (p 8)] := _root_.id rfl
@[go_sem] theorem zsj (M : PM) (d : Nat) (w : Nat → WI) : fz M (d + 1 + 1) (mW w) = some (mW w, []) := _root_.id rfl
@[go_sem] theorem znK (w : Nat → WI) : (mW w).cells = cW w := _root_.id rfl
@[go_sem] theorem zsn (M : PM) (d : Nat) (p : Nat → Int) : fz M (d + 1 + 1) (pI p) = some (pI p, []) := _root_.id rfl
@[go_sem] theorem znN (p : Nat → Int) : (pI p).cells = cI p := _root_.id rfl
@[go_sem] theorem zoP (w : Nat → WI) : PV.ag (cW w) = mW w := _root_.id rfl
@[go_sem] theorem zoS (p : Nat → Int) : PV.ag (cI p) = pI p := _root_.id rfl
noncomputable def zW : Nat → WI := fun _ => wi0
def zI : Nat → Int := fun _ => 0
noncomputable def cP (n : Nat) (w : Nat → WI) : List PV := [if 0 < n then .b (decide ((w 0).v < 0)) else .b false, if 0 < n then D (w 0).v.natAbs else .nl, if 1 < n then .b (decide ((w 1).v < 0)) else .b false, if 1 < n then D (w 1).v.natAbs else .nl, if 2 < n then .b (decide ((w 2).v < 0)) else .b false, if 2 < n then D (w 2).v.natAbs else .nl, if 3 < n then .b (decide ((w 3).v < 0)) else .b false, if 3 < n then D (w 3).v.natAbs else .nl, if 4 < n then .b (decide ((w 4).v < 0)) else .b false, if 4 < n then D (w 4).v.natAbs else .nl, if 5 < n then .b (decide ((w 5).v < 0)) else .b false, if 5 < n then D (w 5).v.natAbs else .nl, if 6 < n then .b (decide ((w 6).v < 0)) else .b false, if 6 < n then D (w 6).v.natAbs else .nl, if 7 < n then .b (decide ((w 7).v < 0)) else .b false, if 7 < n then D (w 7).v.natAbs else .nl, if 8 < n then .b (decide ((w 8).v < 0)) else .b false, if 8 < n then D (w 8).v.natAbs else .nl]
theorem zcB (n : Nat) (w : Nat → WI) : cP n w = [if 0 < n then .b (decide ((w 0).v < 0)) else .b false, if 0 < n then D (w 0).v.natAbs else .nl, if 1 < n then .b (decide ((w 1).v < 0)) else .b false, if 1 < n then D (w 1).v.natAbs else .nl, if 2 < n then .b (decide ((w 2).v < 0)) else .b false, if 2 < n then D (w 2).v.natAbs else .nl, if 3 < n then .b (decide ((w 3).v < 0)) else .b false, if 3 < n then D (w 3).v.natAbs else .nl, if 4 < n then .b (decide ((w 4).v < 0)) else .b false, if 4 < n then D (w 4).v.natAbs else .nl, if 5 < n then .b (decide ((w 5).v < 0)) else .b false, if 5 < n then D (w 5).v.natAbs else .nl, if 6 < n then .b (decide ((w 6).v < 0)) else .b false, if 6 < n then D (w 6).v.natAbs else .nl, if 7 < n then .b (decide ((w 7).v < 0)) else .b false, if 7 < n then D (w 7).v.natAbs else .nl, if 8 < n then .b (decide ((w 8).v < 0)) else .b false, if 8 < n then D (w 8).v.natAbs else .nl] := _root_.id rfl
theorem cP9 (w : Nat → WI) : cP 9 w = cW w := rfl
def cQ (n : Nat) (p : Nat → Int) : List PV := [.i .i64 (if 0 < n then p 0 else 0), .i .i64 (if 1 < n then p 1 else 0), .i .i64 (if 2 < n then p 2 else 0), .i .i64 (if 3 < n then p 3 else 0), .i .i64 (if 4 < n then p 4 else 0), .i .i64 (if 5 < n then p 5 else 0), .i .i64 (if 6 < n then p 6 else 0), .i .i64 (if 7 < n then p 7 else 0), .i .i64 (if 8 < n then p 8 else 0)]
theorem cQ9 (p : Nat → Int) : cQ 9 p = cI p := rfl
theorem zch {i : Nat} (h : i < 9) : i = 0 ∨ i = 1 ∨ i = 2 ∨ i = 3 ∨ i = 4 ∨ i = 5 ∨ i = 6 ∨ i = 7 ∨ i = 8 := by omega
theorem zc6 {i : Nat} (h : i < 3) : i = 0 ∨ i = 1 ∨ i = 2 := by omega
@[go_sem] theorem zsD (p : Nat → Int) : (cI p).all PV.scal = true := _root_.id rfl
@[go_sem] theorem zsF (w : Nat → WI) : (cW w).all PV.scal = true := _root_.id rfl
@[go_sem] theorem zss (p : Nat → Int) : (cI p).length = 9 := _root_.id rfl
@[go_sem] theorem zsy (w : Nat → WI) : (cW w).length = 18 := _root_.id rfl
@[go_sem] theorem zsN (p : Nat → Int) : (cI p).take 9 = cI p := _root_.id rfl
@[go_sem] theorem zsP (w : Nat → WI) : (cW w).take 18 = cW w := _root_.id rfl
@[go_sem] theorem zsu (n : Nat) (w : Nat → WI) : (cP n w).length = 18 := _root_.id rfl
@[go_sem] theorem zsv (n : Nat) (p : Nat → Int) : (cQ n p).length = 9 := _root_.id rfl
@[go_sem] theorem zsI (n : Nat) (w u : Nat → WI) : psplice (cP n w) 0 (cW u) = cW u := _root_.id rfl
@[go_sem] theorem zsJ (n : Nat) (w u : Nat → Int) : psplice (cQ n w) 0 (cI u) = cI u := _root_.id rfl
noncomputable def ofW (p : Nat → Int) : Nat → WI := fun e => clip (p e)
theorem zkX {p : Nat → Int} {e : Nat} (h : Fits64 (p e)) : (ofW p e).v = p e := zdq (zfP h)
theorem zbT {n : Int} (h : Fits64 n) : pf E0 34 [.i .i64 n] = some (wiP (clip n)) := by
 rw [zd4 h]
 congr 2
 exact WI.ext' (by rw [zdq (zfP h)]; rfl)
set_option maxHeartbeats 2000000 in
theorem zgZ {p : Nat → Int} (hp : ∀ e, Fits64 (p e)) : pf E0 307 [pI p] = some (mW (ofW p)) := by
 refine zac (xf := x_proj_of) rfl (by simp [x_proj_of]) ?_
 simp only [x_proj_of]
 simp (disch := omega) only [go_sem, seval, wqq]
 refine zar x_proj_of_l1.eq_1 (fun (i : Nat) fr M => i ≤ 9 ∧ fr 2 = .p 1 0 ∧ fr 3 = .p 2 0 ∧ fr 7 = pI p ∧ fr 8 = (PV.i .i64 ((i : Nat) : Int)) ∧ ∃ b0 b1 v, M = [b0, some ⟨cP 0 zW, true, b1⟩, some ⟨cP i (ofW p), true, v⟩]) (fun i => 9 - i) ?_ 0 ⟨by omega, by simp only [go_sem, seval], by simp only [go_sem, seval], by simp only [go_sem, seval], by simp only [go_sem, seval], _, _, _, rfl⟩
 rintro i fr M ⟨hi, f2, f3, f7, f8, b0, b1, v, rfl⟩ ih
 rcases Nat.lt_or_ge i 9 with h9 | h9
 ·have q1 : ((i : Int) < 9) = True := eq_true (by omega)
  obtain rfl | rfl | rfl | rfl | rfl | rfl | rfl | rfl | rfl := zch h9
  ·have fr0 := zbT (hp 0)
   simp (disch := omega) only [go_sem, seval, wqq, f2, f3, f7, f8, pI, zag, zcB, fr0]
   exact ih 1 _ _ (by omega) ⟨by omega, by simp only [go_sem, seval, f2], by simp only [go_sem, seval, f3], by simp only [go_sem, seval, f7], by simp only [go_sem, seval], _, _, _, rfl⟩
  ·have fr0 := zbT (hp 1)
   simp (disch := omega) only [go_sem, seval, wqq, f2, f3, f7, f8, pI, zag, zcB, fr0]
   exact ih 2 _ _ (by omega) ⟨by omega, by simp only [go_sem, seval, f2], by simp only [go_sem, seval, f3], by simp only [go_sem, seval, f7], by simp only [go_sem, seval], _, _, _, rfl⟩
  ·have fr0 := zbT (hp 2)
   simp (disch := omega) only [go_sem, seval, wqq, f2, f3, f7, f8, pI, zag, zcB, fr0]
   exact ih 3 _ _ (by omega) ⟨by omega, by simp only [go_sem, seval, f2], by simp only [go_sem, seval, f3], by simp only [go_sem, seval, f7], by simp only [go_sem, seval], _, _, _, rfl⟩
  ·have fr0 := zbT (hp 3)
   simp (disch := omega) only [go_sem, seval, wqq, f2, f3, f7, f8, pI, zag, zcB, fr0]
   exact ih 4 _ _ (by omega) ⟨by omega, by simp only [go_sem, seval, f2], by simp only [go_sem, seval, f3], by simp only [go_sem, seval, f7], by simp only [go_sem, seval], _, _, _, rfl⟩
  ·have fr0 := zbT (hp 4)
   simp (disch := omega) only [go_sem, seval, wqq, f2, f3, f7, f8, pI, zag, zcB, fr0]
   exact ih 5 _ _ (by omega) ⟨by omega, by simp only [go_sem, seval, f2], by simp only [go_sem, seval, f3], by simp only [go_sem, seval, f7], by simp only [go_sem, seval], _, _, _, rfl⟩
  ·have fr0 := zbT (hp 5)
   simp (disch := omega) only [go_sem, seval, wqq, f2, f3, f7, f8, pI, zag, zcB, fr0]
   exact ih 6 _ _ (by omega) ⟨by omega, by simp only [go_sem, seval, f2], by simp only [go_sem, seval, f3], by simp only [go_sem, seval, f7], by simp only [go_sem, seval], _, _, _, rfl⟩
  ·have fr0 := zbT (hp 6)
   simp (disch := omega) only [go_sem, seval, wqq, f2, f3, f7, f8, pI, zag, zcB, fr0]
   exact ih 7 _ _ (by omega) ⟨by omega, by simp only [go_sem, seval, f2], by simp only [go_sem, seval, f3], by simp only [go_sem, seval, f7], by simp only [go_sem, seval], _, _, _, rfl⟩
  ·have fr0 := zbT (hp 7)
   simp (disch := omega) only [go_sem, seval, wqq, f2, f3, f7, f8, pI, zag, zcB, fr0]
   exact ih 8 _ _ (by omega) ⟨by omega, by simp only [go_sem, seval, f2], by simp only [go_sem, seval, f3], by simp only [go_sem, seval, f7], by simp only [go_sem, seval], _, _, _, rfl⟩
  ·have fr0 := zbT (hp 8)
   simp (disch := omega) only [go_sem, seval, wqq, f2, f3, f7, f8, pI, zag, zcB, fr0]
   exact ih 9 _ _ (by omega) ⟨by omega, by simp only [go_sem, seval, f2], by simp only [go_sem, seval, f3], by simp only [go_sem, seval, f7], by simp only [go_sem, seval], _, _, _, rfl⟩
 ·obtain rfl : i = 9 := by omega
  simp (disch := omega) only [go_sem, seval, wqq, f2, f3, f7, f8, cP9]
end Go.Eng
namespace Go.Eng
def gI (p q : Int) : Int := ((Nat.gcd p.natAbs q.natAbs : Nat) : Int)
def lowP (p q : Int) : Int := (if q < 0 then -p else p) / gI p q
def lowQ (p q : Int) : Int := (if q < 0 then -q else q) / gI p q
theorem zgQ {p q : Int} (h : q ≠ 0) : gI p q ≠ 0 := by
 unfold gI
 intro e
 have : Nat.gcd p.natAbs q.natAbs = 0 := by omega
 have := Nat.eq_zero_of_gcd_eq_zero_right this
 omega
theorem zdv {p q : Int} (h : q ≠ 0) : 0 < gI p q := by
 have := zgQ (p := p) h
 unfold gI at *
 omega
theorem zb5 (p q : Int) : gI p q ∣ p := Int.ofNat_dvd_left.2 (Nat.gcd_dvd_left _ _)
theorem zcr (p q : Int) : gI p q ∣ q := Int.ofNat_dvd_left.2 (Nat.gcd_dvd_right _ _)
theorem zmu (p q : Int) : gI (-p) (-q) = gI p q := by unfold gI; rw [Int.natAbs_neg, Int.natAbs_neg]
theorem zdy {p q : Int} (h : q ≠ 0) : lowP p q * gI p q = (if q < 0 then -p else p) ∧ lowQ p q * gI p q = (if q < 0 then -q else q) := by
 unfold lowP lowQ
 refine ⟨Int.ediv_mul_cancel ?_, Int.ediv_mul_cancel ?_⟩
 ·split
  ·exact Int.dvd_neg.2 (zb5 p q)
  ·exact zb5 p q
 ·split
  ·exact Int.dvd_neg.2 (zcr p q)
  ·exact zcr p q
theorem zdz {p q : Int} (h : q ≠ 0) : 0 < lowQ p q := by
 have h1 := (zdy (p := p) h).2
 have h2 := zdv (p := p) h
 have h3 : 0 < lowQ p q * gI p q := by rw [h1]; split <;> omega
 exact Int.pos_of_mul_pos_left h3 h2
theorem zb6 {p q : Int} (h : q ≠ 0) : lowP p q * q = p * lowQ p q := by
 obtain ⟨h1, h2⟩ := zdy (p := p) h
 have h3 := zgQ (p := p) h
 apply Int.eq_of_mul_eq_mul_right h3
 rw [Int.mul_right_comm, h1, Int.mul_assoc, h2]
 split <;> grind
theorem zeq {p q : Int} (h : q ≠ 0) : Nat.gcd (lowP p q).natAbs (lowQ p q).natAbs = 1 := by
 obtain ⟨h1, h2⟩ := zdy (p := p) h
 have h3 := zdv (p := p) h
 have e1 : (lowP p q).natAbs * (gI p q).natAbs = p.natAbs := by rw [← Int.natAbs_mul, h1]; split <;> omega
 have e2 : (lowQ p q).natAbs * (gI p q).natAbs = q.natAbs := by rw [← Int.natAbs_mul, h2]; split <;> omega
 have e3 : (gI p q).natAbs = Nat.gcd p.natAbs q.natAbs := Int.natAbs_natCast _
 have e4 := Nat.gcd_mul_right (lowP p q).natAbs (gI p q).natAbs (lowQ p q).natAbs
 rw [e1, e2, ← e3] at e4
 have : 0 < (gI p q).natAbs := by omega
 exact Nat.eq_of_mul_eq_mul_right this (by rw [Nat.one_mul]; exact e4.symm)
theorem zes {p q r s : Int} (hq : 0 < q) (hs : 0 < s) (c1 : Nat.gcd p.natAbs q.natAbs = 1) (c2 : Nat.gcd r.natAbs s.natAbs = 1) (h : p * s = r * q) : p = r ∧ q = s := by
 have n1 : p.natAbs * s.natAbs = r.natAbs * q.natAbs := by rw [← Int.natAbs_mul, ← Int.natAbs_mul, h]
 have d1 : q.natAbs ∣ s.natAbs := by
  have : q.natAbs ∣ p.natAbs * s.natAbs := ⟨r.natAbs, by rw [n1, Nat.mul_comm]⟩
  exact (Nat.Coprime.dvd_of_dvd_mul_left (by rw [Nat.coprime_comm]; exact c1) this)
 have d2 : s.natAbs ∣ q.natAbs := by
  have : s.natAbs ∣ r.natAbs * q.natAbs := ⟨p.natAbs, by rw [← n1, Nat.mul_comm]⟩
  exact (Nat.Coprime.dvd_of_dvd_mul_left (by rw [Nat.coprime_comm]; exact c2) this)
 have e : q.natAbs = s.natAbs := Nat.dvd_antisymm d1 d2
 have e2 : q = s := by omega
 subst e2
 exact ⟨Int.eq_of_mul_eq_mul_right (by omega) h, rfl⟩
theorem zkU {p q r s : Int} (hq : q ≠ 0) (hs : s ≠ 0) (h : p * s = r * q) : lowP p q = lowP r s ∧ lowQ p q = lowQ r s := by
 refine zes (zdz hq) (zdz hs) (zeq hq) (zeq hs) ?_
 have a := zb6 (p := p) hq
 have b := zb6 (p := r) hs
 apply Int.eq_of_mul_eq_mul_right (a := q * s) (Int.mul_ne_zero hq hs)
 calc lowP p q * lowQ r s * (q * s) = (lowP p q * q) * (lowQ r s * s) := by grind
  _ = p * lowQ p q * (lowQ r s * s) := by rw [a]
  _ = p * s * (lowQ p q * lowQ r s) := by grind
  _ = r * q * (lowQ p q * lowQ r s) := by rw [h]
  _ = r * lowQ r s * (lowQ p q * q) := by grind
  _ = lowP r s * s * (lowQ p q * q) := by rw [b]
  _ = lowP r s * lowQ p q * (q * s) := by grind
theorem zer {p q : Int} (hq : 0 < q) (c : Nat.gcd p.natAbs q.natAbs = 1) : lowP p q = p ∧ lowQ p q = q := by
 unfold lowP lowQ gI
 rw [c, if_neg (by omega), if_neg (by omega)]
 exact ⟨Int.ediv_one _, Int.ediv_one _⟩
theorem zfD {p q : Int} (h : q ≠ 0) : (lowP p q).natAbs ≤ p.natAbs := by
 have h1 := (zdy (p := p) h).1
 have h3 := zdv (p := p) h
 have e1 : (lowP p q).natAbs * (gI p q).natAbs = p.natAbs := by rw [← Int.natAbs_mul, h1]; split <;> omega
 rw [← e1]
 exact Nat.le_mul_of_pos_right _ (by omega)
theorem zfE {p q : Int} (h : q ≠ 0) : (lowQ p q).natAbs ≤ q.natAbs := by
 have h1 := (zdy (p := p) h).2
 have h3 := zdv (p := p) h
 have e1 : (lowQ p q).natAbs * (gI p q).natAbs = q.natAbs := by rw [← Int.natAbs_mul, h1]; split <;> omega
 rw [← e1]
 exact Nat.le_mul_of_pos_right _ (by omega)
end Go.Eng
namespace Go.Eng
structure FQ where
 p : WI
 q : WI
 q1 : 1 ≤ q.v
 cop : Nat.gcd p.v.natAbs q.v.natAbs = 1
theorem ziO {y : WI} (hy : 1 ≤ y.v) : wlen (y.v - 1).natAbs ≤ 512 := by
 have h := (zbU _).1 y.lim
 refine (zbU _).2 ?_
 unfold inR at *
 exact Nat.lt_of_le_of_lt (by omega) h
def FQ.l (f : FQ) : WI := ⟨f.q.v - 1, ziO f.q1⟩
noncomputable def fqP (f : FQ) : PV := .ag [.b (decide (f.p.v < 0)), D f.p.v.natAbs, .b (decide (f.l.v < 0)), D f.l.v.natAbs]
@[go_sem] theorem zqL (M : PM) (d : Nat) (f : FQ) : fz M (d + 1 + 1) (fqP f) = some (fqP f, []) := _root_.id rfl
@[go_sem] theorem zmb (f : FQ) : (fqP f).cells = [.b (decide (f.p.v < 0)), D f.p.v.natAbs, .b (decide (f.l.v < 0)), D f.l.v.natAbs] := _root_.id rfl
@[go_sem] theorem zoO (f : FQ) : PV.ag [.b (decide (f.p.v < 0)), D f.p.v.natAbs, .b (decide (f.l.v < 0)), D f.l.v.natAbs] = fqP f := _root_.id rfl
theorem zka (x : WI) (e : Int) : pf E0 37 [wiP x, .i .i64 e] = some (wiP x) := by
 refine zac (xf := x_frac_must) rfl (by simp [x_frac_must]) ?_
 simp only [x_frac_must]
 simp (disch := omega) only [go_sem, seval, wqq]
theorem zde (x g : WI) (h : g.v ≠ 0) : ∃ q : WI, q.v = x.v / g.v ∧ pf E0 21 [wiP x, wiP g] = some (wiP q) := by
 have fd := zlc x g h
 refine ⟨x.div g h, rfl, ?_⟩
 refine zac (xf := x_frac_over) rfl (by simp [x_frac_over]) ?_
 simp only [x_frac_over]
 simp (disch := omega) only [go_sem, seval, wqq, fd]
noncomputable def wi1 : WI := wiOf 1 (by decide)
theorem znB : wi1.v = 1 := rfl
theorem zcO (x y : WI) : pf E0 20 [.lst [wiP x, wiP y]] = some (.tu [wiP (clip (x.v * y.v)), .i .i64 (lerr (x.v * y.v))]) := by
 refine zac (xf := x_frac_times) rfl (by simp [x_frac_times]) ?_
 simp only [x_frac_times]
 have f1 : pf E0 34 [.i .i64 1] = some (wiP wi1) := zd4 (n := 1) (by decide)
 have m1 : pf E0 38 [wiP wi1, wiP x] = some (.tu [wiP x, .i .i64 0]) := by
  have h := zh8 wi1 x
  rw [znB, Int.one_mul, zdx x.lim, zbK x.lim] at h
  exact h
 have m2 := zh8 x y
 generalize wi1 = w1 at *
 simp (disch := omega) only [go_sem, seval, wqq, f1]
 refine zaa x_frac_times_l1.eq_1 ?_
 simp (disch := omega) only [go_sem, seval, wqq, m1]
 refine zaa x_frac_times_l1.eq_1 ?_
 by_cases h : wlen (x.v * y.v).natAbs ≤ 512
 ·have e := zdx h
  rw [e] at m2 ⊢
  simp (disch := omega) only [go_sem, seval, wqq, m2]
  refine zaa x_frac_times_l1.eq_1 ?_
  simp (disch := omega) only [go_sem, seval, wqq, m2]
 ·have e := zfC h
  have e2 := zfr h
  rw [e, e2] at m2 ⊢
  simp (disch := omega) only [go_sem, seval, wqq, m2]
theorem zkK : Nat.gcd wi0.v.natAbs wi1.v.natAbs = 1 := by decide
noncomputable def fq0 : FQ := ⟨wi0, wi1, by decide, zkK⟩
theorem zqK : fqP fq0 = .ag [.b false, .lst [], .b false, .lst []] := by
 have h1 : D (0 : Int).natAbs = .lst [] := zlZ.symm
 show PV.ag [.b (decide ((0 : Int) < 0)), D (0 : Int).natAbs, .b (decide ((1 : Int) - 1 < 0)), D ((1 : Int) - 1).natAbs] = _
 rw [show (1 : Int) - 1 = 0 by decide, h1]; rfl
theorem zgp (x y : WI) (hy : 1 ≤ y.v) (hc : Nat.gcd x.v.natAbs y.v.natAbs = 1) : pf E0 22 [wiP x, wiP y, .i .i64 0, .i .i64 0] = some (.tu [fqP ⟨x, y, hy, hc⟩, .i .i64 0]) := by
 refine zac (xf := x_frac_lowest) rfl (by simp [x_frac_lowest]) ?_
 simp only [x_frac_lowest]
 have f1 : pf E0 34 [.i .i64 1] = some (wiP wi1) := zd4 (n := 1) (by decide)
 have s1 := zlh y wi1
 rw [znB] at s1
 have m1 := zka (clip (y.v - 1)) (lerr (y.v - 1))
 have cv := zdq (ziO hy)
 generalize lerr (y.v - 1) = le at *
 generalize wi1 = w1 at *
 have hq : fqP ⟨x, y, hy, hc⟩ = .ag [.b (decide (x.v < 0)), D x.v.natAbs, .b (decide ((clip (y.v - 1)).v < 0)), D (clip (y.v - 1)).v.natAbs] := by rw [cv]; rfl
 rw [hq]
 generalize clip (y.v - 1) = z at *
 simp (disch := omega) only [go_sem, seval, wqq]
 refine zai [4, 5] rfl (by simp only [go_sem, seval]) ?_
 simp (disch := omega) only [go_sem, seval, wqq, f1, s1, m1, zaK, zan]
theorem zig (x y : WI) {e f : Int} (h : e ≠ 0 ∨ f ≠ 0) : pf E0 22 [wiP x, wiP y, .i .i64 e, .i .i64 f] = some (.tu [fqP fq0, .i .i64 4]) := by
 refine zac (xf := x_frac_lowest) rfl (by simp [x_frac_lowest]) ?_
 simp only [x_frac_lowest]
 rw [zqK]
 by_cases he : e = 0
 ·have hf : (f = 0) = False := by simp; rcases h with h | h <;> first | exact h | exact absurd he h
  have he : (e = 0) = True := by simp [he]
  simp (disch := omega) only [go_sem, seval, wqq, he, hf]
 ·have he : (e = 0) = False := by simp [he]
  simp (disch := omega) only [go_sem, seval, wqq, he]
theorem zh7 (x y g : WI) (hg : g.v = gI x.v y.v) (hy : 0 < y.v) : ∃ f : FQ, f.p.v = lowP x.v y.v ∧ f.q.v = lowQ x.v y.v ∧ ∃ a b : WI, pf E0 21 [wiP x, wiP g] = some (wiP a) ∧ pf E0 21 [wiP y, wiP g] = some (wiP b) ∧ pf E0 22 [wiP a, wiP b, .i .i64 0, .i .i64 0] = some (.tu [fqP f, .i .i64 0]) := by
 have gn : g.v ≠ 0 := by rw [hg]; exact zgQ (by omega)
 obtain ⟨a, ha, fa⟩ := zde x g gn
 obtain ⟨b, hb, fb⟩ := zde y g gn
 have e1 : a.v = lowP x.v y.v := by rw [ha, hg]; unfold lowP; rw [if_neg (by omega)]
 have e2 : b.v = lowQ x.v y.v := by rw [hb, hg]; unfold lowQ; rw [if_neg (by omega)]
 have hq : 1 ≤ b.v := by rw [e2]; exact zdz (by omega)
 have hc : Nat.gcd a.v.natAbs b.v.natAbs = 1 := by rw [e1, e2]; exact zeq (by omega)
 exact ⟨⟨a, b, hq, hc⟩, e1, e2, a, b, fa, fb, zgp a b hq hc⟩
theorem zgT (p q : Int) (h : q < 0) : lowP (-p) (-q) = lowP p q ∧ lowQ (-p) (-q) = lowQ p q := by
 have h2 : ¬ -q < 0 := by omega
 unfold lowP lowQ
 rw [zmu]
 simp only [h, h2, if_true, if_false, and_self]
theorem zh6 (x y : WI) (h : y.v ≠ 0) : ∃ f : FQ, f.p.v = lowP x.v y.v ∧ f.q.v = lowQ x.v y.v ∧ pf E0 24 [wiP x, wiP y] = some (.tu [fqP f, .i .i64 0]) := by
 by_cases hn : y.v < 0
 ·have hg := zfG x.neg y.neg
  obtain ⟨f, h1, h2, a, b, fa, fb, fl⟩ := zh7 x.neg y.neg (x.neg.gcd y.neg) rfl (by show 0 < -y.v; omega)
  obtain ⟨l1, l2⟩ := zgT x.v y.v hn
  refine ⟨f, h1.trans l1, h2.trans l2, ?_⟩
  generalize x.neg.gcd y.neg = g at *
  refine zac (xf := x_frac_Make) rfl (by simp [x_frac_Make]) ?_
  simp only [x_frac_Make]
  have sy := zbX y
  have sc : cmpI y.v 0 = -1 := by unfold cmpI; rw [if_pos hn]
  rw [sc] at sy
  have n1 := zjp x
  have n2 := zjp y
  generalize x.neg = xn at *
  generalize y.neg = yn at *
  simp (disch := omega) only [go_sem, seval, wqq, sy]
  refine zai [3] rfl (by simp only [go_sem, seval]) ?_
  simp (disch := omega) only [go_sem, seval, wqq, n1, n2, hg]
  refine zai [3, 6] rfl (by simp only [go_sem, seval]) ?_
  simp (disch := omega) only [go_sem, seval, wqq, fa, fb, fl]
 ·have hg := zfG x y
  obtain ⟨f, h1, h2, a, b, fa, fb, fl⟩ := zh7 x y (x.gcd y) rfl (by omega)
  refine ⟨f, h1, h2, ?_⟩
  generalize x.gcd y = g at *
  refine zac (xf := x_frac_Make) rfl (by simp [x_frac_Make]) ?_
  simp only [x_frac_Make]
  have sy := zbX y
  have sc : cmpI y.v 0 = 1 := by unfold cmpI; rw [if_neg hn, if_pos (by omega)]
  rw [sc] at sy
  simp (disch := omega) only [go_sem, seval, wqq, sy, hg]
  refine zai [3, 6] rfl (by simp only [go_sem, seval]) ?_
  simp (disch := omega) only [go_sem, seval, wqq, fa, fb, fl]
end Go.Eng
namespace Go.Eng
theorem zm5 (f : FQ) : pf E0 64 [fqP f] = some (wiP f.p) := by
 refine zac (xf := x__skymosaic_frac_Frac__Num) rfl (by simp [x__skymosaic_frac_Frac__Num]) ?_
 simp only [x__skymosaic_frac_Frac__Num]
 simp (disch := omega) only [go_sem, seval, wqq]
theorem zdE (f : FQ) : pf E0 19 [fqP f] = some (wiP f.q) := by
 refine zac (xf := x__skymosaic_frac_Frac__Den) rfl (by simp [x__skymosaic_frac_Frac__Den]) ?_
 simp only [x__skymosaic_frac_Frac__Den]
 have f1 : pf E0 34 [.i .i64 1] = some (wiP wi1) := zd4 (n := 1) (by decide)
 have s1 := zjo f.l wi1
 have e : f.l.v + wi1.v = f.q.v := by show f.q.v - 1 + 1 = f.q.v; omega
 have hc : clip f.q.v = f.q := zbK f.q.lim
 rw [e, hc] at s1
 have m1 := zka f.q (lerr f.q.v)
 generalize lerr f.q.v = le at *
 generalize wi1 = w1 at *
 simp (disch := omega) only [go_sem, seval, wqq]
 refine zah [3] rfl ?_ ?_
 ·simp (disch := omega) only [go_sem, seval, wqq, f1, s1, m1]
  exact ⟨_, rfl, rfl⟩
 simp (disch := omega) only [go_sem, seval, wqq, f1, s1, m1]
theorem zll {p q : Int} (hp : Fits64 p) (hq : Fits64 q) (h : q ≠ 0) : ∃ f : FQ, f.p.v = lowP p q ∧ f.q.v = lowQ p q ∧ pf E0 17 [.i .i64 p, .i .i64 q] = some (.tu [fqP f, .i .i64 0]) := by
 obtain ⟨x, hx, fx⟩ := zhy hp
 obtain ⟨y, hy, fy⟩ := zhy hq
 obtain ⟨f, h1, h2, fm⟩ := zh6 x y (by rw [hy]; exact h)
 rw [hx, hy] at h1 h2
 refine ⟨f, h1, h2, ?_⟩
 refine zac (xf := x_frac_Of) rfl (by simp [x_frac_Of]) ?_
 simp only [x_frac_Of]
 simp (disch := omega) only [go_sem, seval, wqq, fx, fy, fm]
theorem zkM (x y : WI) : (x.gcd y).v = gI x.v y.v := rfl
@[go_sem] theorem zoY (x y : WI) : group 2 2 [.b (decide (x.v < 0)), Dw (wlen x.v.natAbs) x.v.natAbs, .b (decide (y.v < 0)), Dw (wlen y.v.natAbs) y.v.natAbs] = [wiP x, wiP y] := _root_.id rfl
theorem zib (a b : FQ) {g s t cx cy cs cd : WI} {ex ey es ed : Int} (hg : pf E0 18 [wiP a.q, wiP b.q] = some (wiP g)) (fs : pf E0 21 [wiP b.q, wiP g] = some (wiP s)) (ft : pf E0 21 [wiP a.q, wiP g] = some (wiP t))
  (nx : pf E0 20 [.lst [wiP a.p, wiP s]] = some (.tu [wiP cx, .i .i64 ex])) (ny : pf E0 20 [.lst [wiP b.p, wiP t]] = some (.tu [wiP cy, .i .i64 ey])) (ns : pf E0 23 [wiP cx, wiP cy] = some (.tu [wiP cs, .i .i64 es]))
  (nd : pf E0 20 [.lst [wiP t, wiP b.q]] = some (.tu [wiP cd, .i .i64 ed])) (f : FQ) (e : Int)
  (hR : (ex = 0 ∧ ey = 0 ∧ es = 0 ∧ ed = 0 ∧ pf E0 24 [wiP cs, wiP cd] = some (.tu [fqP f, .i .i64 e])) ∨ (¬ (ex = 0 ∧ ey = 0 ∧ es = 0 ∧ ed = 0) ∧ f = fq0 ∧ e = 4)) :
  pf E0 9 [fqP a, fqP b] = some (.tu [fqP f, .i .i64 e]) := by
 have da := zdE a
 have db := zdE b
 refine zac (xf := x_frac_Add) rfl (by simp [x_frac_Add]) ?_
 simp only [x_frac_Add]
 simp (disch := omega) only [go_sem, seval, wqq]
 refine zai [3] rfl (by simp only [go_sem, seval]) ?_
 simp (disch := omega) only [go_sem, seval, wqq, da, db, hg]
 refine zah [21, 6] rfl ?_ ?_
 ·simp (disch := omega) only [go_sem, seval, wqq, db, fs, nx, zaK, zan]
  exact ⟨_, rfl, rfl⟩
 simp (disch := omega) only [go_sem, seval, wqq, db, fs, nx, zaK, zan]
 refine zah [32, 6] rfl ?_ ?_
 ·simp (disch := omega) only [go_sem, seval, wqq, da, ft, ny, zaK, zan]
  exact ⟨_, rfl, rfl⟩
 simp (disch := omega) only [go_sem, seval, wqq, da, ft, ny, ns, zaK, zan]
 refine zai [6, 3] rfl (by simp only [go_sem, seval]) ?_
 rcases hR with ⟨h1, h2, h3, h4, hM⟩ | ⟨hn, hf, he⟩
 ·subst h1 h2 h3 h4
  simp (disch := omega) only [go_sem, seval, wqq, da, db, ft, nd, hM, zaK, zan]
 ·subst hf he
  rw [zqK]
  by_cases h1 : ex = 0
  ·by_cases h2 : ey = 0
   ·by_cases h3 : es = 0
    ·have h4 : (ed = 0) = False := by simp; exact fun q => hn ⟨h1, h2, h3, q⟩
     subst h1 h2 h3
     simp (disch := omega) only [go_sem, seval, wqq, da, db, ft, nd, h4, zaK, zan]
    ·have h3 : (es = 0) = False := by simp [h3]
     subst h1 h2
     simp (disch := omega) only [go_sem, seval, wqq, da, db, ft, nd, h3, zaK, zan]
   ·have h2 : (ey = 0) = False := by simp [h2]
    subst h1
    simp (disch := omega) only [go_sem, seval, wqq, da, db, ft, nd, h2, zaK, zan]
  ·have h1 : (ex = 0) = False := by simp [h1]
   simp (disch := omega) only [go_sem, seval, wqq, da, db, ft, nd, h1, zaK, zan]
def adX (a b : FQ) : Int := a.p.v * (b.q.v / gI a.q.v b.q.v)
def adY (a b : FQ) : Int := b.p.v * (a.q.v / gI a.q.v b.q.v)
def adD (a b : FQ) : Int := a.q.v / gI a.q.v b.q.v * b.q.v
def adOk (a b : FQ) : Prop := inR (adX a b).natAbs ∧ inR (adY a b).natAbs ∧ inR (adX a b + adY a b).natAbs ∧ inR (adD a b).natAbs
theorem zjR (a b : FQ) : adD a b ≠ 0 := by
 have ha := a.q1
 have hb := b.q1
 have h1 : a.q.v / gI a.q.v b.q.v * gI a.q.v b.q.v = a.q.v := Int.ediv_mul_cancel (zb5 _ _)
 have h2 : a.q.v / gI a.q.v b.q.v ≠ 0 := fun q => by rw [q] at h1; omega
 exact Int.mul_ne_zero h2 (by omega)
theorem zdw {z : Int} (h : inR z.natAbs) : (clip z).v = z ∧ lerr z = 0 := ⟨zdq ((zbU _).2 h), zdx ((zbU _).2 h)⟩
theorem zfz {z : Int} (h : lerr z = 0) : inR z.natAbs := by
 by_cases q : wlen z.natAbs ≤ 512
 ·exact (zbU _).1 q
 ·rw [zfC q] at h; cases h
theorem zm3 (a b : FQ) : (adOk a b → ∃ f : FQ, f.p.v = lowP (adX a b + adY a b) (adD a b) ∧ f.q.v = lowQ (adX a b + adY a b) (adD a b) ∧ pf E0 9 [fqP a, fqP b] = some (.tu [fqP f, .i .i64 0])) ∧
  (¬ adOk a b → pf E0 9 [fqP a, fqP b] = some (.tu [fqP fq0, .i .i64 4])) := by
 have hg := zfG a.q b.q
 have gv := zkM a.q b.q
 have gn : (a.q.gcd b.q).v ≠ 0 := by rw [gv]; exact zgQ (by have := b.q1; omega)
 obtain ⟨s, hs, fs⟩ := zde b.q (a.q.gcd b.q) gn
 obtain ⟨t, ht, ft⟩ := zde a.q (a.q.gcd b.q) gn
 rw [gv] at hs ht
 have nx := zcO a.p s
 have ny := zcO b.p t
 have nd := zcO t b.q
 have eX : a.p.v * s.v = adX a b := by rw [hs]; rfl
 have eY : b.p.v * t.v = adY a b := by rw [ht]; rfl
 have eD : t.v * b.q.v = adD a b := by rw [ht]; rfl
 rw [eX] at nx
 rw [eY] at ny
 rw [eD] at nd
 have ns := zjo (clip (adX a b)) (clip (adY a b))
 constructor
 ·rintro ⟨r1, r2, r3, r4⟩
  obtain ⟨c1, l1⟩ := zdw r1
  obtain ⟨c2, l2⟩ := zdw r2
  obtain ⟨c3, l3⟩ := zdw r3
  obtain ⟨c4, l4⟩ := zdw r4
  rw [c1, c2] at ns
  obtain ⟨f, h1, h2, fm⟩ := zh6 (clip (adX a b + adY a b)) (clip (adD a b)) (by rw [c4]; exact zjR a b)
  rw [c3, c4] at h1 h2
  exact ⟨f, h1, h2, zib a b hg fs ft nx ny ns nd f 0 (.inl ⟨l1, l2, l3, l4, fm⟩)⟩
 ·intro hn
  refine zib a b hg fs ft nx ny ns nd fq0 4 (.inr ⟨fun ⟨l1, l2, l3, l4⟩ => hn ?_, rfl, rfl⟩)
  have r1 := zfz l1
  have r2 := zfz l2
  rw [(zdw r1).1, (zdw r2).1] at l3
  exact ⟨r1, r2, zfz l3, zfz l4⟩
end Go.Eng
namespace Go.Eng
def FQ.neg (f : FQ) : FQ := ⟨f.p.neg, f.q, f.q1, by show Nat.gcd (-f.p.v).natAbs f.q.v.natAbs = 1; rw [Int.natAbs_neg]; exact f.cop⟩
theorem zlm (a : FQ) : pf E0 67 [fqP a] = some (.i .i64 (cmpI a.p.v 0)) := by
 refine zac (xf := x_frac_Sign) rfl (by simp [x_frac_Sign]) ?_
 simp only [x_frac_Sign]
 simp (disch := omega) only [go_sem, seval, wqq]
theorem zid (a b : FQ) {g h u v w z cp cq : WI} {ep eq : Int} (f : FQ) (e : Int) (hg : pf E0 18 [wiP a.p, wiP b.q] = some (wiP g)) (hh : pf E0 18 [wiP b.p, wiP a.q] = some (wiP h))
  (fu : pf E0 21 [wiP a.p, wiP g] = some (wiP u)) (fv : pf E0 21 [wiP b.p, wiP h] = some (wiP v)) (n1 : pf E0 20 [.lst [wiP u, wiP v]] = some (.tu [wiP cp, .i .i64 ep]))
  (fw : pf E0 21 [wiP a.q, wiP h] = some (wiP w)) (fz' : pf E0 21 [wiP b.q, wiP g] = some (wiP z)) (n2 : pf E0 20 [.lst [wiP w, wiP z]] = some (.tu [wiP cq, .i .i64 eq]))
  (fl : pf E0 22 [wiP cp, wiP cq, .i .i64 ep, .i .i64 eq] = some (.tu [fqP f, .i .i64 e])) : pf E0 8 [fqP a, fqP b] = some (.tu [fqP f, .i .i64 e]) := by
 have da := zdE a
 have db := zdE b
 refine zac (xf := x_frac_Mul) rfl (by simp [x_frac_Mul]) ?_
 simp only [x_frac_Mul]
 simp (disch := omega) only [go_sem, seval, wqq]
 refine zah [12, 17, 2] rfl ?_ ?_
 ·simp (disch := omega) only [go_sem, seval, wqq, da, db, hg, hh]
  exact ⟨_, rfl, rfl⟩
 simp (disch := omega) only [go_sem, seval, wqq, da, db, hg, hh]
 refine zah [27, 7] rfl ?_ ?_
 ·simp (disch := omega) only [go_sem, seval, wqq, fu, fv, n1, zaK, zan]
  exact ⟨_, rfl, rfl⟩
 simp (disch := omega) only [go_sem, seval, wqq, fu, fv, n1, zaK, zan]
 refine zai [7, 3, 6] rfl (by simp only [go_sem, seval]) ?_
 simp (disch := omega) only [go_sem, seval, wqq, da, db, fw, fz', n2, fl, zaK, zan]
end Go.Eng
namespace Go.Eng
theorem zhl {p s : Int} (hs : s ≠ 0) : Nat.Coprime (p / gI p s).natAbs (s / gI p s).natAbs := by
 have g := zdv (p := p) hs
 have e1 : (p / gI p s).natAbs * (gI p s).natAbs = p.natAbs := by rw [← Int.natAbs_mul, Int.ediv_mul_cancel (zb5 p s)]
 have e2 : (s / gI p s).natAbs * (gI p s).natAbs = s.natAbs := by rw [← Int.natAbs_mul, Int.ediv_mul_cancel (zcr p s)]
 have e3 : (gI p s).natAbs = Nat.gcd p.natAbs s.natAbs := Int.natAbs_natCast _
 have e4 := Nat.gcd_mul_right (p / gI p s).natAbs (gI p s).natAbs (s / gI p s).natAbs
 rw [e1, e2, ← e3] at e4
 have : 0 < (gI p s).natAbs := by omega
 exact Nat.eq_of_mul_eq_mul_right this (by rw [Nat.one_mul]; exact e4.symm)
theorem zkV {p q r s : Int} (hq : 0 < q) (hs : 0 < s) (c1 : Nat.gcd p.natAbs q.natAbs = 1) (c2 : Nat.gcd r.natAbs s.natAbs = 1) :
  p / gI p s * (r / gI r q) = lowP (p * r) (q * s) ∧ q / gI r q * (s / gI p s) = lowQ (p * r) (q * s) ∧ 0 < q / gI r q * (s / gI p s) ∧ Nat.gcd (p / gI p s * (r / gI r q)).natAbs (q / gI r q * (s / gI p s)).natAbs = 1 := by
 have g1 := zdv (p := p) (q := s) (by omega)
 have g2 := zdv (p := r) (q := q) (by omega)
 have k1 := zhl (p := p) (s := s) (by omega)
 have k2 := zhl (p := r) (s := q) (by omega)
 have a1 : p / gI p s * gI p s = p := Int.ediv_mul_cancel (zb5 p s)
 have a2 : s / gI p s * gI p s = s := Int.ediv_mul_cancel (zcr p s)
 have a3 : r / gI r q * gI r q = r := Int.ediv_mul_cancel (zb5 r q)
 have a4 : q / gI r q * gI r q = q := Int.ediv_mul_cancel (zcr r q)
 generalize gI p s = g at *
 generalize gI r q = h at *
 generalize p / g = u at *
 generalize s / g = z at *
 generalize r / h = v at *
 generalize q / h = w at *
 have z0 : 0 < z := Int.pos_of_mul_pos_left (by rw [a2]; exact hs) g1
 have w0 : 0 < w := Int.pos_of_mul_pos_left (by rw [a4]; exact hq) g2
 have du : u.natAbs ∣ p.natAbs := Int.natAbs_dvd_natAbs.2 ⟨g, a1.symm⟩
 have dw : w.natAbs ∣ q.natAbs := Int.natAbs_dvd_natAbs.2 ⟨h, a4.symm⟩
 have dv : v.natAbs ∣ r.natAbs := Int.natAbs_dvd_natAbs.2 ⟨h, a3.symm⟩
 have dz : z.natAbs ∣ s.natAbs := Int.natAbs_dvd_natAbs.2 ⟨g, a2.symm⟩
 have k3 : Nat.Coprime u.natAbs w.natAbs := Nat.Coprime.coprime_dvd_left du (Nat.Coprime.coprime_dvd_right dw c1)
 have k4 : Nat.Coprime v.natAbs z.natAbs := Nat.Coprime.coprime_dvd_left dv (Nat.Coprime.coprime_dvd_right dz c2)
 have hc : Nat.gcd (u * v).natAbs (w * z).natAbs = 1 := by
  rw [Int.natAbs_mul, Int.natAbs_mul]
  exact Nat.Coprime.mul_left (Nat.Coprime.mul_right k3 k1) (Nat.Coprime.mul_right k2 k4)
 have hp : 0 < w * z := Int.mul_pos w0 z0
 have hx : q * s ≠ 0 := Int.mul_ne_zero (by omega) (by omega)
 have cr := zb6 (p := p * r) hx
 obtain ⟨e1, e2⟩ := zes (p := u * v) (q := w * z) hp (zdz hx) hc (zeq hx) (by
  apply Int.eq_of_mul_eq_mul_right (a := q * s) hx
  have : u * v * (q * s) = p * r * (w * z) := by rw [← a1, ← a2, ← a3, ← a4]; grind
  calc u * v * lowQ (p * r) (q * s) * (q * s) = u * v * (q * s) * lowQ (p * r) (q * s) := by grind
   _ = p * r * (w * z) * lowQ (p * r) (q * s) := by rw [this]
   _ = p * r * lowQ (p * r) (q * s) * (w * z) := by grind
   _ = lowP (p * r) (q * s) * (q * s) * (w * z) := by rw [cr]
   _ = lowP (p * r) (q * s) * (w * z) * (q * s) := by grind)
 exact ⟨e1, e2, hp, hc⟩
def muP (a b : FQ) : Int := lowP (a.p.v * b.p.v) (a.q.v * b.q.v)
def muQ (a b : FQ) : Int := lowQ (a.p.v * b.p.v) (a.q.v * b.q.v)
theorem zj9 (a b : FQ) : (inR (muP a b).natAbs ∧ inR (muQ a b).natAbs → ∃ f : FQ, f.p.v = muP a b ∧ f.q.v = muQ a b ∧ pf E0 8 [fqP a, fqP b] = some (.tu [fqP f, .i .i64 0])) ∧
  (¬ (inR (muP a b).natAbs ∧ inR (muQ a b).natAbs) → pf E0 8 [fqP a, fqP b] = some (.tu [fqP fq0, .i .i64 4])) := by
 have qa := a.q1
 have qb := b.q1
 obtain ⟨m1, m2, m3, m4⟩ := zkV (p := a.p.v) (q := a.q.v) (r := b.p.v) (s := b.q.v) (by omega) (by omega) a.cop b.cop
 have hg := zfG a.p b.q
 have hh := zfG b.p a.q
 have gv := zkM a.p b.q
 have hv := zkM b.p a.q
 have gn : (a.p.gcd b.q).v ≠ 0 := by rw [gv]; exact zgQ (by omega)
 have hn : (b.p.gcd a.q).v ≠ 0 := by rw [hv]; exact zgQ (by omega)
 obtain ⟨u, eu, fu⟩ := zde a.p _ gn
 obtain ⟨v, ev, fv⟩ := zde b.p _ hn
 obtain ⟨w, ew, fw⟩ := zde a.q _ hn
 obtain ⟨z, ez, fz'⟩ := zde b.q _ gn
 rw [gv] at eu ez
 rw [hv] at ev ew
 have n1 := zcO u v
 have n2 := zcO w z
 have e1 : u.v * v.v = muP a b := by rw [eu, ev]; exact m1
 have e2 : w.v * z.v = muQ a b := by rw [ew, ez]; exact m2
 rw [m1, m2] at m4
 rw [m2] at m3
 have m3 : 0 < muQ a b := m3
 have m4 : Nat.gcd (muP a b).natAbs (muQ a b).natAbs = 1 := m4
 rw [e1] at n1
 rw [e2] at n2
 constructor
 ·rintro ⟨r1, r2⟩
  obtain ⟨c1, l1⟩ := zdw r1
  obtain ⟨c2, l2⟩ := zdw r2
  have fl := zgp (clip (muP a b)) (clip (muQ a b)) (by rw [c2]; omega) (by rw [c1, c2]; exact m4)
  rw [l1] at n1
  rw [l2] at n2
  exact ⟨⟨clip (muP a b), clip (muQ a b), by rw [c2]; omega, by rw [c1, c2]; exact m4⟩, c1, c2, zid a b _ 0 hg hh fu fv n1 fw fz' n2 fl⟩
 ·intro hno
  refine zid a b fq0 4 hg hh fu fv n1 fw fz' n2 (zig _ _ ?_)
  by_cases l1 : lerr (muP a b) = 0
  ·right
   intro l2
   exact hno ⟨zfz l1, zfz l2⟩
  ·exact .inl l1
end Go.Eng
namespace Go.Eng
theorem zic (a b f r : FQ) {e : Int} (h : pf E0 24 [wiP b.q, wiP b.p] = some (.tu [fqP f, .i .i64 0])) (hr : pf E0 8 [fqP a, fqP f] = some (.tu [fqP r, .i .i64 e])) : pf E0 65 [fqP a, fqP b] = some (.tu [fqP r, .i .i64 e]) := by
 have db := zdE b
 refine zac (xf := x_frac_Div) rfl (by simp [x_frac_Div]) ?_
 simp only [x_frac_Div]
 simp (disch := omega) only [go_sem, seval, wqq]
 refine zah [11] rfl ?_ ?_
 ·simp (disch := omega) only [go_sem, seval, wqq, db, h]
  exact ⟨_, rfl, rfl⟩
 simp (disch := omega) only [go_sem, seval, wqq, db, h, hr]
theorem zkB {p q r s : Int} (hr : r ≠ 0) (hs : 0 < s) (hq : 0 < q) : lowP (p * lowP s r) (q * lowQ s r) = lowP (p * s) (q * r) ∧ lowQ (p * lowP s r) (q * lowQ s r) = lowQ (p * s) (q * r) := by
 have h1 := zdz (p := s) hr
 refine zkU (Int.mul_ne_zero (by omega) (by omega)) (Int.mul_ne_zero (by omega) hr) ?_
 have h2 := zb6 (p := s) hr
 calc p * lowP s r * (q * r) = p * q * (lowP s r * r) := by grind
  _ = p * q * (s * lowQ s r) := by rw [h2]
  _ = p * s * (q * lowQ s r) := by grind
def dvP (a b : FQ) : Int := lowP (a.p.v * b.q.v) (a.q.v * b.p.v)
def dvQ (a b : FQ) : Int := lowQ (a.p.v * b.q.v) (a.q.v * b.p.v)
theorem zm4 (a b : FQ) (h : b.p.v ≠ 0) : (inR (dvP a b).natAbs ∧ inR (dvQ a b).natAbs → ∃ f : FQ, f.p.v = dvP a b ∧ f.q.v = dvQ a b ∧ pf E0 65 [fqP a, fqP b] = some (.tu [fqP f, .i .i64 0])) ∧
  (¬ (inR (dvP a b).natAbs ∧ inR (dvQ a b).natAbs) → pf E0 65 [fqP a, fqP b] = some (.tu [fqP fq0, .i .i64 4])) := by
 have qa := a.q1
 have qb := b.q1
 obtain ⟨f, f1, f2, fm⟩ := zh6 b.q b.p h
 obtain ⟨l1, l2⟩ := zkB (p := a.p.v) (q := a.q.v) (r := b.p.v) (s := b.q.v) h (by omega) (by omega)
 have e1 : muP a f = dvP a b := by unfold muP dvP; rw [f1, f2]; exact l1
 have e2 : muQ a f = dvQ a b := by unfold muQ dvQ; rw [f1, f2]; exact l2
 have hm := zj9 a f
 rw [e1, e2] at hm
 refine ⟨fun hR => ?_, fun hn => zic a b f fq0 fm (hm.2 hn)⟩
 obtain ⟨r, r1, r2, hr⟩ := hm.1 hR
 exact ⟨r, r1, r2, zic a b f r fm hr⟩
end Go.Eng
namespace Go.Eng
noncomputable def ftx (p q : Int) : List UInt8 := if q = 1 then decI p else decI p ++ [47] ++ decI q
theorem zdU (x : WI) : (decI x.v).length ≤ 1000000 := by
 have h := zjb ((zbU _).1 x.lim)
 have h1 : (dec x.v.natAbs).length ≤ 4956 + 1 := by
  unfold dec; split
  ·simp
  ·rw [zcX]; omega
 unfold decI; split <;> (try simp only [List.length_cons]) <;> omega
theorem zie (f : FQ) : pf E0 16 [fqP f] = some (.s (ftx f.p.v f.q.v)) := by
 have df := zdE f
 have s1 := zm1 f.p
 have s2 := zm1 f.q
 have sg := zbX f.l
 have l1 := zdU f.p
 have l2 := zdU f.q
 have hl : f.l.v = f.q.v - 1 := rfl
 have q1 := f.q1
 refine zac (xf := x__skymosaic_frac_Frac__String) rfl (by simp [x__skymosaic_frac_Frac__String]) ?_
 simp only [x__skymosaic_frac_Frac__String]
 unfold ftx
 by_cases h : f.q.v = 1
 ·rw [if_pos h]
  have sc : (cmpI f.l.v 0 = 0) = True := by rw [hl, h]; simp [cmpI]
  simp (disch := omega) only [go_sem, seval, wqq, sg, sc, s1]
 ·rw [if_neg h]
  have sc : (cmpI f.l.v 0 = 0) = False := by
   have : cmpI f.l.v 0 = 1 := by unfold cmpI; rw [if_neg (by omega), if_pos (by omega)]
   rw [this]; simp
  have a1 : binP .add (.s (decI f.p.v)) (.s [47]) = some (.s (decI f.p.v ++ [47])) := zee _ _ (by simp only [List.length_cons, List.length_nil]; omega)
  have a2 : binP .add (.s (decI f.p.v ++ [47])) (.s (decI f.q.v)) = some (.s (decI f.p.v ++ [47] ++ decI f.q.v)) := zee _ _ (by simp only [List.length_append, List.length_cons, List.length_nil]; omega)
  simp (disch := omega) only [go_sem, seval, wqq, sg, sc]
  refine zai [1] rfl (by simp only [go_sem, seval]) ?_
  simp (disch := omega) only [go_sem, seval, wqq, df, s1, s2, a1, a2]
end Go.Eng
namespace Go.Eng
end Go.Eng
namespace Go.Eng
end Go.Eng
namespace Go.Eng
end Go.Eng
namespace Go.Eng
end Go.Eng
namespace Go.Eng
def FQ.is (f : FQ) (n d : Int) : Prop := f.p.v * d = n * f.q.v
theorem zhK {f : FQ} {n d : Int} (h : d ≠ 0) (h1 : f.p.v = lowP n d) (h2 : f.q.v = lowQ n d) : f.is n d := by
 unfold FQ.is; rw [h1, h2]; exact zb6 h
theorem zfB (f : FQ) : f.is f.p.v f.q.v := rfl
theorem zjc {f : FQ} {n d : Int} (h : f.is n d) (k : Int) : f.is (n * k) (d * k) := by
 unfold FQ.is at *
 rw [← Int.mul_assoc, h]; grind
def fsz (n : Nat) (f : FQ) : Prop := tlen f.p.v.natAbs ≤ n ∧ tlen f.q.v.natAbs ≤ n
theorem zgG {a g : Int} (h : g ∣ a) : tlen (a / g).natAbs ≤ tlen a.natAbs := by
 refine zax ?_
 rw [Int.natAbs_ediv_of_dvd h]; exact Nat.div_le_self _ _
theorem zl1 (a b : FQ) {n m : Nat} (ha : fsz n a) (hb : fsz m b) (h : n + m + 1 < 1230) : ∃ f : FQ, pf E0 9 [fqP a, fqP b] = some (.tu [fqP f, .i .i64 0]) ∧ f.is (a.p.v * b.q.v + b.p.v * a.q.v) (a.q.v * b.q.v) ∧ fsz (n + m + 1) f := by
 obtain ⟨a1, a2⟩ := ha
 obtain ⟨b1, b2⟩ := hb
 have qa := a.q1
 have qb := b.q1
 have k1 := zgG (zcr a.q.v b.q.v)
 have k2 := zgG (zb5 a.q.v b.q.v)
 have d1 : b.q.v / gI a.q.v b.q.v * gI a.q.v b.q.v = b.q.v := Int.ediv_mul_cancel (zcr _ _)
 have d2 : a.q.v / gI a.q.v b.q.v * gI a.q.v b.q.v = a.q.v := Int.ediv_mul_cancel (zb5 _ _)
 have t1 : tlen (adX a b).natAbs ≤ n + m := Nat.le_trans (zav _ _) (by omega)
 have t2 : tlen (adY a b).natAbs ≤ n + m := Nat.le_trans (zav _ _) (by omega)
 have t3 : tlen (adD a b).natAbs ≤ n + m := Nat.le_trans (zav _ _) (by omega)
 have t4 : tlen (adX a b + adY a b).natAbs ≤ n + m + 1 := Nat.le_trans (zaR _ _) (by omega)
 have dn := zjR a b
 obtain ⟨f, h1, h2, hf⟩ := (zm3 a b).1 ⟨zdd (by omega), zdd (by omega), zdd (by omega), zdd (by omega)⟩
 refine ⟨f, hf, ?_, ?_, ?_⟩
 ·have hs := zjc (zhK dn h1 h2) (gI a.q.v b.q.v)
  have e1 : (adX a b + adY a b) * gI a.q.v b.q.v = a.p.v * b.q.v + b.p.v * a.q.v := by
   unfold adX adY
   rw [Int.add_mul, Int.mul_assoc, Int.mul_assoc, d1, d2]
  have e2 : adD a b * gI a.q.v b.q.v = a.q.v * b.q.v := by
   unfold adD
   rw [Int.mul_right_comm, d2]
  rwa [e1, e2] at hs
 ·rw [h1]; exact Nat.le_trans (zax (zfD dn)) t4
 ·rw [h2]; exact Nat.le_trans (zax (zfE dn)) (by omega)
theorem zmC (a b : FQ) {n m : Nat} (ha : fsz n a) (hb : fsz m b) (h : n + m < 1230) : ∃ f : FQ, pf E0 8 [fqP a, fqP b] = some (.tu [fqP f, .i .i64 0]) ∧ f.is (a.p.v * b.p.v) (a.q.v * b.q.v) ∧ fsz (n + m) f := by
 obtain ⟨a1, a2⟩ := ha
 obtain ⟨b1, b2⟩ := hb
 have qa := a.q1
 have qb := b.q1
 have dn : a.q.v * b.q.v ≠ 0 := Int.mul_ne_zero (by omega) (by omega)
 have t1 : tlen (muP a b).natAbs ≤ n + m := Nat.le_trans (zax (zfD dn)) (Nat.le_trans (zav _ _) (by omega))
 have t2 : tlen (muQ a b).natAbs ≤ n + m := Nat.le_trans (zax (zfE dn)) (Nat.le_trans (zav _ _) (by omega))
 obtain ⟨f, h1, h2, hf⟩ := (zj9 a b).1 ⟨zdd (by omega), zdd (by omega)⟩
 exact ⟨f, hf, zhK dn h1 h2, by rw [h1]; exact t1, by rw [h2]; exact t2⟩
theorem zjZ (a b : FQ) (hb0 : b.p.v ≠ 0) {n m : Nat} (ha : fsz n a) (hb : fsz m b) (h : n + m < 1230) : ∃ f : FQ, pf E0 65 [fqP a, fqP b] = some (.tu [fqP f, .i .i64 0]) ∧ f.is (a.p.v * b.q.v) (a.q.v * b.p.v) ∧ fsz (n + m) f := by
 obtain ⟨a1, a2⟩ := ha
 obtain ⟨b1, b2⟩ := hb
 have qa := a.q1
 have dn : a.q.v * b.p.v ≠ 0 := Int.mul_ne_zero (by omega) hb0
 have t1 : tlen (dvP a b).natAbs ≤ n + m := Nat.le_trans (zax (zfD dn)) (Nat.le_trans (zav _ _) (by omega))
 have t2 : tlen (dvQ a b).natAbs ≤ n + m := Nat.le_trans (zax (zfE dn)) (Nat.le_trans (zav _ _) (by omega))
 obtain ⟨f, h1, h2, hf⟩ := (zm4 a b hb0).1 ⟨zdd (by omega), zdd (by omega)⟩
 exact ⟨f, hf, zhK dn h1 h2, by rw [h1]; exact t1, by rw [h2]; exact t2⟩
end Go.Eng
namespace Go.Eng
def isPR : PV → Bool
 | .p _ _ => true
 | .sl _ _ _ _ _ => true
 | .tu _ => true
 | _ => false
def slotIn3 (E : PEnv) (ops : List XOper) (L : List Nat) (c : Nat × Nat) : Bool :=
 match ops[c.1]?, ops[c.2]? with
 | some a, some b =>
  match a.op.looks with
  | .t s => a.op.cls == 2 && L.contains s && calmOp E b.op
  | _ => false
 | _, _ => false
end Go.Eng
namespace Go.Eng
def apP : PV → PV → Bool
 | .p a _, .p b _ => !(Nat.beq a b)
 | _, _ => false
def slotSt (ops : List XOper) (L R : List Nat) (c : Nat × Nat) : Bool :=
 match ops[c.1]?, ops[c.2]? with
 | some a, some b =>
  match a.op, b.op with
  | .load _ _ (.t s), .store _ (.t r) _ => L.contains s && R.contains r && fixedX ops c.2 (.t r)
  | _, _ => false
 | _, _ => false
theorem zjM {E : PEnv} {F : PFin} {ops : List XOper} {chk : List (Nat × Nat)} {ks : List KI} {fr : PFr} {M : PM} (L R : List Nat) (hL : chk.all (fun c => calmC E ops c || slotIn2 E ops L c || slotSt ops L R c) = true)
  (hr : WL E ⟨(0 :: 0 :: (L ++ R)).map XR.tmp, fun w _ => ∃ l, w = .tu l ∧ ((l.drop 2).take L.length).all (fun x => isPP x && ((l.drop 2).drop L.length).all (apP x)) = true⟩ ops [] fr M) (w : WL E F ops ks fr M) : WK E F (.drw ops chk) ks fr M := by
 refine zbW (fun fr2 Ms hT => ?_) w
 have hp : ∀ s ∈ L, isPP (fr2 s) = true ∧ ∀ r ∈ R, apP (fr2 s) (fr2 r) = true := by
  obtain ⟨lf, q, fr3, M3, vs, e, h1, h2, l, h3, h4⟩ := hr
  simp only [Option.bind_eq_some_iff, unw] at e
  obtain ⟨⟨fr4, M4⟩, e1, e2⟩ := e
  simp only [Option.some.injEq, Prod.mk.injEq] at e2
  obtain ⟨_, e3, e4⟩ := e2
  rw [← e3, ← e4] at h2
  obtain ⟨Ms', g1, g2⟩ := zbS e1
  rw [g1] at hT
  cases hT
  have hres : ∀ (f : PFr) (N : PM) (l : List Nat), pRes f N (l.map XR.tmp) = some (l.map f) := fun f N l => by
   induction l with
   | nil => rfl
   | cons a l ih => simp only [List.map_cons, pRes, pResOne, ih]
  rw [hres] at h2
  cases h2
  simp only [List.map_cons, packP] at h3
  cases h3
  have h5 : (((L ++ R).map fr2).take L.length).all (fun x => isPP x && (((L ++ R).map fr2).drop L.length).all (apP x)) = true := h4
  rw [List.map_append, List.take_left' (by simp), List.drop_left' (by simp)] at h5
  simp only [List.all_eq_true, List.mem_map, Bool.and_eq_true, forall_exists_index, and_imp, forall_apply_eq_imp_iff₂] at h5
  exact h5
 rw [List.all_eq_true] at hL ⊢
 rintro ⟨i, j⟩ hc
 have h1 := hL _ hc
 simp only [Bool.or_eq_true] at h1
 rcases h1 with (h1 | h1) | h1
 ·exact zbv hT h1
 ·unfold slotIn2 at h1
  split at h1
  ·rename_i a b ha hb
   split at h1
   ·rename_i z k s hop
    simp only [Bool.and_eq_true] at h1
    obtain ⟨c1, c2⟩ := h1
    have hs := (hp s (List.contains_iff_mem.1 c1)).1
    cases hf : fr2 s with
    | p n o =>
     obtain ⟨fri, A, B, q1, q2, q3, q4⟩ := zaL hT ha
     obtain ⟨frj, C, D, p1, p2, p3, p4⟩ := zaL hT hb
     have p2' : Ms[(i, j).2 + 1]? = some D := p2
     have q2' : Ms[(i, j).1 + 1]? = some B := q2
     simp only [chkP, ha, q1, q2, p1, p2]
     rw [if_neg (by rw [hop]; simp [XO.cls])]
     rw [hop]
     show chkV ops j (.t s) C D (fr2 s) = true
     rw [hf]
     show verP (some n) C D = true
     rcases p3 with ⟨_, v, p3⟩ | ⟨_, p3⟩
     ·cases hopb : b.op with
      | call f l =>
       rw [hopb] at p3 c2
       obtain ⟨ns, rfl⟩ := zc3 c2 p3
       exact zcj ns C _
      | _ => rw [hopb] at c2; simp [calmOp] at c2
     ·rw [p3]; simp [verP]
    | _ => rw [hf] at hs; simp [isPP] at hs
   ·cases h1
  ·cases h1
 ·unfold slotSt at h1
  split at h1
  ·rename_i a b ha hb
   split at h1
   ·rename_i z k s n r x hop hop2
    simp only [Bool.and_eq_true] at h1
    obtain ⟨⟨c1, c2⟩, c3⟩ := h1
    have hap := (hp s (List.contains_iff_mem.1 c1)).2 r (List.contains_iff_mem.1 c2)
    obtain ⟨fri, A, B, q1, q2, q3, q4⟩ := zaL hT ha
    obtain ⟨frj, C, D, p1, p2, p3, p4⟩ := zaL hT hb
    have p2' : Ms[(i, j).2 + 1]? = some D := p2
    have q2' : Ms[(i, j).1 + 1]? = some B := q2
    have e2 : fr2 r = frj r := p4 (.t r) c3
    simp only [chkP, ha, q1, q2, p1, p2]
    rw [if_neg (by rw [hop]; simp [XO.cls])]
    rw [hop]
    show chkV ops j (.t s) C D (fr2 s) = true
    cases hf : fr2 s with
    | p n1 o1 =>
     cases hg : fr2 r with
     | p n2 o2 =>
      rw [hf, hg] at hap
      have hne : n1 ≠ n2 := fun q => by rw [q] at hap; simp [apP] at hap
      show verP (some n1) C D = true
      rcases p3 with ⟨_, v, p3⟩ | ⟨_, p3⟩
      ·rw [hop2] at p3
       simp only [XO.pst, XO.pev] at p3
       rw [show X.pv E.glob frj (.t r) = .p n2 o2 from e2.symm.trans hg] at p3
       simp only at p3
       generalize (X.pv E.glob frj x).cells = cs at p3
       split at p3
       ·split at p3
        ·cases p3
         simp only [verP]
         rw [List.getElem?_set_ne (fun h => hne h.symm)]; simp
        ·cases p3
       ·cases p3
      ·rw [p3]; simp [verP]
     | _ => rw [hf, hg] at hap; simp [apP] at hap
    | _ => rw [hf] at hap; simp [apP] at hap
   ·cases h1
  ·cases h1
end Go.Eng
namespace Go.Eng
theorem mG (G L : PM) (k : Nat) : PM.blk (G ++ L) (G.length + k) = PM.blk L k := by
 unfold PM.blk
 rw [List.getElem?_append_right (by omega), Nat.add_sub_cancel_left]
theorem mG0 (G L : PM) : PM.blk (G ++ L) G.length = PM.blk L 0 := mG G L 0
theorem sG (G L : PM) (k : Nat) (v : Option PB) : (G ++ L).set (G.length + k) v = G ++ L.set k v := by
 rw [List.set_append_right _ _ (by omega), Nat.add_sub_cancel_left]
theorem sG0 (G L : PM) (v : Option PB) : (G ++ L).set G.length v = G ++ L.set 0 v := sG G L 0 v
theorem lG (G L : PM) : (G ++ L).length = G.length + L.length := List.length_append
theorem ziW (a b : Int) : -1 ≤ cmpI a b ∧ cmpI a b ≤ 1 := by unfold cmpI; split <;> (try split) <;> omega
end Go.Eng
namespace Go.Eng
theorem zbu (p : Prop) : (p = True) ∨ (p = False) := by by_cases h : p <;> simp [h]
noncomputable def tW (a b : WI) : WI := clip (a.v * b.v)
noncomputable def aW (a b : WI) : WI := clip (a.v + b.v)
noncomputable def sW (a b : WI) : WI := clip (a.v - b.v)
theorem zam (a b : WI) : pf E0 313 [wiP a, wiP b] = some (wiP (tW a b)) := by
 have h := zh8 a b
 unfold tW
 generalize clip (a.v * b.v) = c at *
 refine zac (xf := x_proj_times) rfl (by simp [x_proj_times]) ?_
 simp only [x_proj_times]
 simp (disch := omega) only [go_sem, seval, wqq, h]
theorem zaw (a b : WI) : pf E0 312 [wiP a, wiP b] = some (wiP (aW a b)) := by
 have h := zjo a b
 unfold aW
 generalize clip (a.v + b.v) = c at *
 refine zac (xf := x_proj_plus) rfl (by simp [x_proj_plus]) ?_
 simp only [x_proj_plus]
 simp (disch := omega) only [go_sem, seval, wqq, h]
theorem zbj (a b : WI) : pf E0 319 [wiP a, wiP b] = some (wiP (sW a b)) := by
 have h := zlh a b
 unfold sW
 generalize clip (a.v - b.v) = c at *
 refine zac (xf := x_proj_minus) rfl (by simp [x_proj_minus]) ?_
 simp only [x_proj_minus]
 simp (disch := omega) only [go_sem, seval, wqq, h]
noncomputable def mnW (x : Nat → WI) (i k : Nat) : WI := sW (tW (x (3 * ((i + 1) % 3) + (k + 1) % 3)) (x (3 * ((i + 2) % 3) + (k + 2) % 3))) (tW (x (3 * ((i + 1) % 3) + (k + 2) % 3)) (x (3 * ((i + 2) % 3) + (k + 1) % 3)))
theorem zlo (x : Nat → WI) {i k : Nat} (hi : i < 3) (hk : k < 3) (b : Option PB) (G : PM) : ∃ G', pcl E0 318 [.i .i64 (i : Int), .i .i64 (k : Int), .p 0 0] (some ⟨cW x, true, 0⟩ :: b :: G) = some (wiP (mnW x i k), some ⟨cW x, true, 0⟩ :: b :: (G ++ G')) := by
 obtain rfl | rfl | rfl := zc6 hi <;> obtain rfl | rfl | rfl := zc6 hk
 ·have t1 := zam (x 4) (x 8)
  have t2 := zam (x 5) (x 7)
  have t3 := zbj (tW (x 4) (x 8)) (tW (x 5) (x 7))
  refine ⟨[some ⟨[.b (decide ((sW (tW (x 4) (x 8)) (tW (x 5) (x 7))).v < 0)), D (sW (tW (x 4) (x 8)) (tW (x 5) (x 7))).v.natAbs], true, 1⟩], ?_⟩
  show pcl E0 318 [.i .i64 0, .i .i64 0, .p 0 0] (some ⟨cW x, true, 0⟩ :: b :: G) = some (wiP (sW (tW (x 4) (x 8)) (tW (x 5) (x 7))), some ⟨cW x, true, 0⟩ :: b :: (G ++ [some ⟨[.b (decide ((sW (tW (x 4) (x 8)) (tW (x 5) (x 7))).v < 0)), D (sW (tW (x 4) (x 8)) (tW (x 5) (x 7))).v.natAbs], true, 1⟩]))
  refine zbq (xf := x_proj_adjoint_1) rfl rfl (by simp [x_proj_adjoint_1]) ?_
  simp only [x_proj_adjoint_1]
  simp (disch := omega) only [go_sem, seval, wqq]
  refine zah [39, 45] rfl ?_ ?_
  ·simp (disch := omega) only [go_sem, seval, wqq, zae, t1, t2, t3, mG, mG0, sG, sG0, lG, lqq]
   exact ⟨_, rfl, rfl⟩
  simp (disch := omega) only [go_sem, seval, wqq, zae, t1, t2, t3, mG, mG0, sG, sG0, lG, lqq]
 ·have t1 := zam (x 5) (x 6)
  have t2 := zam (x 3) (x 8)
  have t3 := zbj (tW (x 5) (x 6)) (tW (x 3) (x 8))
  refine ⟨[some ⟨[.b (decide ((sW (tW (x 5) (x 6)) (tW (x 3) (x 8))).v < 0)), D (sW (tW (x 5) (x 6)) (tW (x 3) (x 8))).v.natAbs], true, 1⟩], ?_⟩
  show pcl E0 318 [.i .i64 0, .i .i64 1, .p 0 0] (some ⟨cW x, true, 0⟩ :: b :: G) = some (wiP (sW (tW (x 5) (x 6)) (tW (x 3) (x 8))), some ⟨cW x, true, 0⟩ :: b :: (G ++ [some ⟨[.b (decide ((sW (tW (x 5) (x 6)) (tW (x 3) (x 8))).v < 0)), D (sW (tW (x 5) (x 6)) (tW (x 3) (x 8))).v.natAbs], true, 1⟩]))
  refine zbq (xf := x_proj_adjoint_1) rfl rfl (by simp [x_proj_adjoint_1]) ?_
  simp only [x_proj_adjoint_1]
  simp (disch := omega) only [go_sem, seval, wqq]
  refine zah [39, 45] rfl ?_ ?_
  ·simp (disch := omega) only [go_sem, seval, wqq, zae, t1, t2, t3, mG, mG0, sG, sG0, lG, lqq]
   exact ⟨_, rfl, rfl⟩
  simp (disch := omega) only [go_sem, seval, wqq, zae, t1, t2, t3, mG, mG0, sG, sG0, lG, lqq]
 ·have t1 := zam (x 3) (x 7)
  have t2 := zam (x 4) (x 6)
  have t3 := zbj (tW (x 3) (x 7)) (tW (x 4) (x 6))
  refine ⟨[some ⟨[.b (decide ((sW (tW (x 3) (x 7)) (tW (x 4) (x 6))).v < 0)), D (sW (tW (x 3) (x 7)) (tW (x 4) (x 6))).v.natAbs], true, 1⟩], ?_⟩
  show pcl E0 318 [.i .i64 0, .i .i64 2, .p 0 0] (some ⟨cW x, true, 0⟩ :: b :: G) = some (wiP (sW (tW (x 3) (x 7)) (tW (x 4) (x 6))), some ⟨cW x, true, 0⟩ :: b :: (G ++ [some ⟨[.b (decide ((sW (tW (x 3) (x 7)) (tW (x 4) (x 6))).v < 0)), D (sW (tW (x 3) (x 7)) (tW (x 4) (x 6))).v.natAbs], true, 1⟩]))
  refine zbq (xf := x_proj_adjoint_1) rfl rfl (by simp [x_proj_adjoint_1]) ?_
  simp only [x_proj_adjoint_1]
  simp (disch := omega) only [go_sem, seval, wqq]
  refine zah [39, 45] rfl ?_ ?_
  ·simp (disch := omega) only [go_sem, seval, wqq, zae, t1, t2, t3, mG, mG0, sG, sG0, lG, lqq]
   exact ⟨_, rfl, rfl⟩
  simp (disch := omega) only [go_sem, seval, wqq, zae, t1, t2, t3, mG, mG0, sG, sG0, lG, lqq]
 ·have t1 := zam (x 7) (x 2)
  have t2 := zam (x 8) (x 1)
  have t3 := zbj (tW (x 7) (x 2)) (tW (x 8) (x 1))
  refine ⟨[some ⟨[.b (decide ((sW (tW (x 7) (x 2)) (tW (x 8) (x 1))).v < 0)), D (sW (tW (x 7) (x 2)) (tW (x 8) (x 1))).v.natAbs], true, 1⟩], ?_⟩
  show pcl E0 318 [.i .i64 1, .i .i64 0, .p 0 0] (some ⟨cW x, true, 0⟩ :: b :: G) = some (wiP (sW (tW (x 7) (x 2)) (tW (x 8) (x 1))), some ⟨cW x, true, 0⟩ :: b :: (G ++ [some ⟨[.b (decide ((sW (tW (x 7) (x 2)) (tW (x 8) (x 1))).v < 0)), D (sW (tW (x 7) (x 2)) (tW (x 8) (x 1))).v.natAbs], true, 1⟩]))
  refine zbq (xf := x_proj_adjoint_1) rfl rfl (by simp [x_proj_adjoint_1]) ?_
  simp only [x_proj_adjoint_1]
  simp (disch := omega) only [go_sem, seval, wqq]
  refine zah [39, 45] rfl ?_ ?_
  ·simp (disch := omega) only [go_sem, seval, wqq, zae, t1, t2, t3, mG, mG0, sG, sG0, lG, lqq]
   exact ⟨_, rfl, rfl⟩
  simp (disch := omega) only [go_sem, seval, wqq, zae, t1, t2, t3, mG, mG0, sG, sG0, lG, lqq]
 ·have t1 := zam (x 8) (x 0)
  have t2 := zam (x 6) (x 2)
  have t3 := zbj (tW (x 8) (x 0)) (tW (x 6) (x 2))
  refine ⟨[some ⟨[.b (decide ((sW (tW (x 8) (x 0)) (tW (x 6) (x 2))).v < 0)), D (sW (tW (x 8) (x 0)) (tW (x 6) (x 2))).v.natAbs], true, 1⟩], ?_⟩
  show pcl E0 318 [.i .i64 1, .i .i64 1, .p 0 0] (some ⟨cW x, true, 0⟩ :: b :: G) = some (wiP (sW (tW (x 8) (x 0)) (tW (x 6) (x 2))), some ⟨cW x, true, 0⟩ :: b :: (G ++ [some ⟨[.b (decide ((sW (tW (x 8) (x 0)) (tW (x 6) (x 2))).v < 0)), D (sW (tW (x 8) (x 0)) (tW (x 6) (x 2))).v.natAbs], true, 1⟩]))
  refine zbq (xf := x_proj_adjoint_1) rfl rfl (by simp [x_proj_adjoint_1]) ?_
  simp only [x_proj_adjoint_1]
  simp (disch := omega) only [go_sem, seval, wqq]
  refine zah [39, 45] rfl ?_ ?_
  ·simp (disch := omega) only [go_sem, seval, wqq, zae, t1, t2, t3, mG, mG0, sG, sG0, lG, lqq]
   exact ⟨_, rfl, rfl⟩
  simp (disch := omega) only [go_sem, seval, wqq, zae, t1, t2, t3, mG, mG0, sG, sG0, lG, lqq]
 ·have t1 := zam (x 6) (x 1)
  have t2 := zam (x 7) (x 0)
  have t3 := zbj (tW (x 6) (x 1)) (tW (x 7) (x 0))
  refine ⟨[some ⟨[.b (decide ((sW (tW (x 6) (x 1)) (tW (x 7) (x 0))).v < 0)), D (sW (tW (x 6) (x 1)) (tW (x 7) (x 0))).v.natAbs], true, 1⟩], ?_⟩
  show pcl E0 318 [.i .i64 1, .i .i64 2, .p 0 0] (some ⟨cW x, true, 0⟩ :: b :: G) = some (wiP (sW (tW (x 6) (x 1)) (tW (x 7) (x 0))), some ⟨cW x, true, 0⟩ :: b :: (G ++ [some ⟨[.b (decide ((sW (tW (x 6) (x 1)) (tW (x 7) (x 0))).v < 0)), D (sW (tW (x 6) (x 1)) (tW (x 7) (x 0))).v.natAbs], true, 1⟩]))
  refine zbq (xf := x_proj_adjoint_1) rfl rfl (by simp [x_proj_adjoint_1]) ?_
  simp only [x_proj_adjoint_1]
  simp (disch := omega) only [go_sem, seval, wqq]
  refine zah [39, 45] rfl ?_ ?_
  ·simp (disch := omega) only [go_sem, seval, wqq, zae, t1, t2, t3, mG, mG0, sG, sG0, lG, lqq]
   exact ⟨_, rfl, rfl⟩
  simp (disch := omega) only [go_sem, seval, wqq, zae, t1, t2, t3, mG, mG0, sG, sG0, lG, lqq]
 ·have t1 := zam (x 1) (x 5)
  have t2 := zam (x 2) (x 4)
  have t3 := zbj (tW (x 1) (x 5)) (tW (x 2) (x 4))
  refine ⟨[some ⟨[.b (decide ((sW (tW (x 1) (x 5)) (tW (x 2) (x 4))).v < 0)), D (sW (tW (x 1) (x 5)) (tW (x 2) (x 4))).v.natAbs], true, 1⟩], ?_⟩
  show pcl E0 318 [.i .i64 2, .i .i64 0, .p 0 0] (some ⟨cW x, true, 0⟩ :: b :: G) = some (wiP (sW (tW (x 1) (x 5)) (tW (x 2) (x 4))), some ⟨cW x, true, 0⟩ :: b :: (G ++ [some ⟨[.b (decide ((sW (tW (x 1) (x 5)) (tW (x 2) (x 4))).v < 0)), D (sW (tW (x 1) (x 5)) (tW (x 2) (x 4))).v.natAbs], true, 1⟩]))
  refine zbq (xf := x_proj_adjoint_1) rfl rfl (by simp [x_proj_adjoint_1]) ?_
  simp only [x_proj_adjoint_1]
  simp (disch := omega) only [go_sem, seval, wqq]
  refine zah [39, 45] rfl ?_ ?_
  ·simp (disch := omega) only [go_sem, seval, wqq, zae, t1, t2, t3, mG, mG0, sG, sG0, lG, lqq]
   exact ⟨_, rfl, rfl⟩
  simp (disch := omega) only [go_sem, seval, wqq, zae, t1, t2, t3, mG, mG0, sG, sG0, lG, lqq]
 ·have t1 := zam (x 2) (x 3)
  have t2 := zam (x 0) (x 5)
  have t3 := zbj (tW (x 2) (x 3)) (tW (x 0) (x 5))
  refine ⟨[some ⟨[.b (decide ((sW (tW (x 2) (x 3)) (tW (x 0) (x 5))).v < 0)), D (sW (tW (x 2) (x 3)) (tW (x 0) (x 5))).v.natAbs], true, 1⟩], ?_⟩
  show pcl E0 318 [.i .i64 2, .i .i64 1, .p 0 0] (some ⟨cW x, true, 0⟩ :: b :: G) = some (wiP (sW (tW (x 2) (x 3)) (tW (x 0) (x 5))), some ⟨cW x, true, 0⟩ :: b :: (G ++ [some ⟨[.b (decide ((sW (tW (x 2) (x 3)) (tW (x 0) (x 5))).v < 0)), D (sW (tW (x 2) (x 3)) (tW (x 0) (x 5))).v.natAbs], true, 1⟩]))
  refine zbq (xf := x_proj_adjoint_1) rfl rfl (by simp [x_proj_adjoint_1]) ?_
  simp only [x_proj_adjoint_1]
  simp (disch := omega) only [go_sem, seval, wqq]
  refine zah [39, 45] rfl ?_ ?_
  ·simp (disch := omega) only [go_sem, seval, wqq, zae, t1, t2, t3, mG, mG0, sG, sG0, lG, lqq]
   exact ⟨_, rfl, rfl⟩
  simp (disch := omega) only [go_sem, seval, wqq, zae, t1, t2, t3, mG, mG0, sG, sG0, lG, lqq]
 ·have t1 := zam (x 0) (x 4)
  have t2 := zam (x 1) (x 3)
  have t3 := zbj (tW (x 0) (x 4)) (tW (x 1) (x 3))
  refine ⟨[some ⟨[.b (decide ((sW (tW (x 0) (x 4)) (tW (x 1) (x 3))).v < 0)), D (sW (tW (x 0) (x 4)) (tW (x 1) (x 3))).v.natAbs], true, 1⟩], ?_⟩
  show pcl E0 318 [.i .i64 2, .i .i64 2, .p 0 0] (some ⟨cW x, true, 0⟩ :: b :: G) = some (wiP (sW (tW (x 0) (x 4)) (tW (x 1) (x 3))), some ⟨cW x, true, 0⟩ :: b :: (G ++ [some ⟨[.b (decide ((sW (tW (x 0) (x 4)) (tW (x 1) (x 3))).v < 0)), D (sW (tW (x 0) (x 4)) (tW (x 1) (x 3))).v.natAbs], true, 1⟩]))
  refine zbq (xf := x_proj_adjoint_1) rfl rfl (by simp [x_proj_adjoint_1]) ?_
  simp only [x_proj_adjoint_1]
  simp (disch := omega) only [go_sem, seval, wqq]
  refine zah [39, 45] rfl ?_ ?_
  ·simp (disch := omega) only [go_sem, seval, wqq, zae, t1, t2, t3, mG, mG0, sG, sG0, lG, lqq]
   exact ⟨_, rfl, rfl⟩
  simp (disch := omega) only [go_sem, seval, wqq, zae, t1, t2, t3, mG, mG0, sG, sG0, lG, lqq]
noncomputable def adW (x : Nat → WI) : Nat → WI := fun e => mnW x (e % 3) (e / 3)
end Go.Eng
namespace Go.Eng
noncomputable def cS (s : Nat → Bool) (w : Nat → WI) : List PV := [if s 0 then .b (decide ((w 0).v < 0)) else .b false, if s 0 then D (w 0).v.natAbs else .nl, if s 1 then .b (decide ((w 1).v < 0)) else .b false, if s 1 then D (w 1).v.natAbs else .nl, if s 2 then .b (decide ((w 2).v < 0)) else .b false, if s 2 then D (w 2).v.natAbs else .nl, if s 3 then .b (decide ((w 3).v < 0)) else .b false, if s 3 then D (w 3).v.natAbs else .nl, if s 4 then .b (decide ((w 4).v < 0)) else .b false, if s 4 then D (w 4).v.natAbs else .nl, if s 5 then .b (decide ((w 5).v < 0)) else .b false, if s 5 then D (w 5).v.natAbs else .nl, if s 6 then .b (decide ((w 6).v < 0)) else .b false, if s 6 then D (w 6).v.natAbs else .nl, if s 7 then .b (decide ((w 7).v < 0)) else .b false, if s 7 then D (w 7).v.natAbs else .nl, if s 8 then .b (decide ((w 8).v < 0)) else .b false, if s 8 then D (w 8).v.natAbs else .nl]
theorem zao (s : Nat → Bool) (w : Nat → WI) : cS s w = [if s 0 then .b (decide ((w 0).v < 0)) else .b false, if s 0 then D (w 0).v.natAbs else .nl, if s 1 then .b (decide ((w 1).v < 0)) else .b false, if s 1 then D (w 1).v.natAbs else .nl, if s 2 then .b (decide ((w 2).v < 0)) else .b false, if s 2 then D (w 2).v.natAbs else .nl, if s 3 then .b (decide ((w 3).v < 0)) else .b false, if s 3 then D (w 3).v.natAbs else .nl, if s 4 then .b (decide ((w 4).v < 0)) else .b false, if s 4 then D (w 4).v.natAbs else .nl, if s 5 then .b (decide ((w 5).v < 0)) else .b false, if s 5 then D (w 5).v.natAbs else .nl, if s 6 then .b (decide ((w 6).v < 0)) else .b false, if s 6 then D (w 6).v.natAbs else .nl, if s 7 then .b (decide ((w 7).v < 0)) else .b false, if s 7 then D (w 7).v.natAbs else .nl, if s 8 then .b (decide ((w 8).v < 0)) else .b false, if s 8 then D (w 8).v.natAbs else .nl] := _root_.id rfl
@[go_sem] theorem zsw (s : Nat → Bool) (w : Nat → WI) : (cS s w).length = 18 := _root_.id rfl
def sA (n : Nat) : Nat → Bool := fun e => decide (3 * (e % 3) + e / 3 < n)
set_option maxHeartbeats 2000000 in
theorem zli (x : Nat → WI) : pf E0 311 [mW x] = some (mW (adW x)) := by
 refine zac (xf := x_proj_adjoint) rfl (by simp [x_proj_adjoint]) ?_
 simp only [x_proj_adjoint]
 simp (disch := omega) only [go_sem, seval, wqq]
 refine zar x_proj_adjoint_l1.eq_1 (fun (i : Nat) fr M => i ≤ 3 ∧ fr 2 = .p 1 0 ∧ fr 3 = .fn 318 [.p 0 0] ∧ fr 4 = .p 2 0 ∧ fr 8 = (PV.i .i64 ((i : Nat) : Int)) ∧ ∃ b v G, M = some ⟨cW x, true, 0⟩ :: some ⟨cP 0 zW, true, b⟩ :: some ⟨cS (sA (3 * i)) (adW x), true, v⟩ :: G) (fun i => 3 - i) ?_ 0 ⟨by omega, by simp only [go_sem, seval], by simp only [go_sem, seval], by simp only [go_sem, seval], by simp only [go_sem, seval], _, _, _, rfl⟩
 rintro i fr M ⟨hi, f2, f3, f4, f8, b, v, G, rfl⟩ ih
 rcases Nat.lt_or_ge i 3 with h3 | h3
 ·have q1 : ((i : Int) < 3) = True := eq_true (by omega)
  simp (disch := omega) only [go_sem, seval, wqq, f2, f3, f4, f8, q1]
  refine zar x_proj_adjoint_l2.eq_1 (fun (k : Nat) fr M => k ≤ 3 ∧ fr 2 = .p 1 0 ∧ fr 3 = .fn 318 [.p 0 0] ∧ fr 4 = .p 2 0 ∧ fr 8 = (PV.i .i64 ((i : Nat) : Int)) ∧ fr 5 = (PV.i .i64 ((i : Nat) : Int)) ∧ fr 11 = (PV.i .i64 ((k : Nat) : Int)) ∧ ∃ b v G, M = some ⟨cW x, true, 0⟩ :: some ⟨cP 0 zW, true, b⟩ :: some ⟨cS (sA (3 * i + k)) (adW x), true, v⟩ :: G) (fun k => 3 - k) ?_ 0 ⟨by omega, by simp only [go_sem, seval, f2], by simp only [go_sem, seval, f3], by simp only [go_sem, seval, f4], by simp only [go_sem, seval, f8], by simp only [go_sem, seval], by simp only [go_sem, seval], _, _, _, rfl⟩
  rintro k fr M ⟨hk, f2, f3, f4, f8, f5, f11, b, v, G, rfl⟩ ih2
  rcases Nat.lt_or_ge k 3 with h4 | h4
  ·obtain ⟨G', mn⟩ := zlo x h3 h4 (some ⟨cP 0 zW, true, b⟩) (some ⟨cS (sA (3 * i + k)) (adW x), true, v⟩ :: G)
   have q2 : ((k : Int) < 3) = True := eq_true (by omega)
   obtain rfl | rfl | rfl := zc6 h3 <;> obtain rfl | rfl | rfl := zc6 h4
   ·have mn : pcl E0 318 [.i .i64 0, .i .i64 0, .p 0 0] _ = _ := mn
    simp (disch := omega) only [go_sem, seval, wqq, f2, f3, f4, f8, f5, f11, mn]
    exact ih2 1 _ _ (by omega) ⟨by omega, by simp only [go_sem, seval, f2], by simp only [go_sem, seval, f3], by simp only [go_sem, seval, f4], by simp only [go_sem, seval, f8], by simp only [go_sem, seval, f5], by simp only [go_sem, seval], _, _, _, rfl⟩
   ·have mn : pcl E0 318 [.i .i64 0, .i .i64 1, .p 0 0] _ = _ := mn
    simp (disch := omega) only [go_sem, seval, wqq, f2, f3, f4, f8, f5, f11, mn]
    exact ih2 2 _ _ (by omega) ⟨by omega, by simp only [go_sem, seval, f2], by simp only [go_sem, seval, f3], by simp only [go_sem, seval, f4], by simp only [go_sem, seval, f8], by simp only [go_sem, seval, f5], by simp only [go_sem, seval], _, _, _, rfl⟩
   ·have mn : pcl E0 318 [.i .i64 0, .i .i64 2, .p 0 0] _ = _ := mn
    simp (disch := omega) only [go_sem, seval, wqq, f2, f3, f4, f8, f5, f11, mn]
    exact ih2 3 _ _ (by omega) ⟨by omega, by simp only [go_sem, seval, f2], by simp only [go_sem, seval, f3], by simp only [go_sem, seval, f4], by simp only [go_sem, seval, f8], by simp only [go_sem, seval, f5], by simp only [go_sem, seval], _, _, _, rfl⟩
   ·have mn : pcl E0 318 [.i .i64 1, .i .i64 0, .p 0 0] _ = _ := mn
    simp (disch := omega) only [go_sem, seval, wqq, f2, f3, f4, f8, f5, f11, mn]
    exact ih2 1 _ _ (by omega) ⟨by omega, by simp only [go_sem, seval, f2], by simp only [go_sem, seval, f3], by simp only [go_sem, seval, f4], by simp only [go_sem, seval, f8], by simp only [go_sem, seval, f5], by simp only [go_sem, seval], _, _, _, rfl⟩
   ·have mn : pcl E0 318 [.i .i64 1, .i .i64 1, .p 0 0] _ = _ := mn
    simp (disch := omega) only [go_sem, seval, wqq, f2, f3, f4, f8, f5, f11, mn]
    exact ih2 2 _ _ (by omega) ⟨by omega, by simp only [go_sem, seval, f2], by simp only [go_sem, seval, f3], by simp only [go_sem, seval, f4], by simp only [go_sem, seval, f8], by simp only [go_sem, seval, f5], by simp only [go_sem, seval], _, _, _, rfl⟩
   ·have mn : pcl E0 318 [.i .i64 1, .i .i64 2, .p 0 0] _ = _ := mn
    simp (disch := omega) only [go_sem, seval, wqq, f2, f3, f4, f8, f5, f11, mn]
    exact ih2 3 _ _ (by omega) ⟨by omega, by simp only [go_sem, seval, f2], by simp only [go_sem, seval, f3], by simp only [go_sem, seval, f4], by simp only [go_sem, seval, f8], by simp only [go_sem, seval, f5], by simp only [go_sem, seval], _, _, _, rfl⟩
   ·have mn : pcl E0 318 [.i .i64 2, .i .i64 0, .p 0 0] _ = _ := mn
    simp (disch := omega) only [go_sem, seval, wqq, f2, f3, f4, f8, f5, f11, mn]
    exact ih2 1 _ _ (by omega) ⟨by omega, by simp only [go_sem, seval, f2], by simp only [go_sem, seval, f3], by simp only [go_sem, seval, f4], by simp only [go_sem, seval, f8], by simp only [go_sem, seval, f5], by simp only [go_sem, seval], _, _, _, rfl⟩
   ·have mn : pcl E0 318 [.i .i64 2, .i .i64 1, .p 0 0] _ = _ := mn
    simp (disch := omega) only [go_sem, seval, wqq, f2, f3, f4, f8, f5, f11, mn]
    exact ih2 2 _ _ (by omega) ⟨by omega, by simp only [go_sem, seval, f2], by simp only [go_sem, seval, f3], by simp only [go_sem, seval, f4], by simp only [go_sem, seval, f8], by simp only [go_sem, seval, f5], by simp only [go_sem, seval], _, _, _, rfl⟩
   ·have mn : pcl E0 318 [.i .i64 2, .i .i64 2, .p 0 0] _ = _ := mn
    simp (disch := omega) only [go_sem, seval, wqq, f2, f3, f4, f8, f5, f11, mn]
    exact ih2 3 _ _ (by omega) ⟨by omega, by simp only [go_sem, seval, f2], by simp only [go_sem, seval, f3], by simp only [go_sem, seval, f4], by simp only [go_sem, seval, f8], by simp only [go_sem, seval, f5], by simp only [go_sem, seval], _, _, _, rfl⟩
  ·obtain rfl : k = 3 := by omega
   simp (disch := omega) only [go_sem, seval, wqq, f2, f3, f4, f8, f5, f11]
   exact ih (i + 1) _ _ (by omega) ⟨by omega, by simp only [go_sem, seval, f2], by simp only [go_sem, seval, f3], by simp only [go_sem, seval, f4], by simp only [go_sem, seval]; rw [Int.natCast_succ], b, v, G, rfl⟩
 ·obtain rfl : i = 3 := by omega
  have c9 : cS (sA (3 * 3)) (adW x) = cW (adW x) := rfl
  simp (disch := omega) only [go_sem, seval, wqq, f2, f3, f4, f8, c9]
noncomputable def dtW (x : Nat → WI) : WI := aW (aW (tW (x 0) (adW x 0)) (tW (x 1) (adW x 3))) (tW (x 2) (adW x 6))
theorem ze4 (x : Nat → WI) : pf E0 306 [mW x] = some (wiP (dtW x)) := by
 have ha := zli x
 unfold dtW
 generalize adW x = a at *
 have t1 := zam (x 0) (a 0)
 have t2 := zam (x 1) (a 3)
 have t3 := zam (x 2) (a 6)
 generalize tW (x 0) (a 0) = u1 at *
 generalize tW (x 1) (a 3) = u2 at *
 generalize tW (x 2) (a 6) = u3 at *
 have t4 := zaw u1 u2
 generalize aW u1 u2 = u4 at *
 have t5 := zaw u4 u3
 refine zac (xf := x_proj_det) rfl (by simp [x_proj_det]) ?_
 simp only [x_proj_det]
 simp (disch := omega) only [go_sem, seval, wqq, ha]
 refine zah [11, 13, 17, 19] rfl ?_ ?_
 ·simp (disch := omega) only [go_sem, seval, wqq, zae, t1, t2, t3, t4, t5]
  exact ⟨_, rfl, rfl⟩
 simp (disch := omega) only [go_sem, seval, wqq, zae, t1, t2, t3, t4, t5]
def okP (p : Nat → Int) : Prop := ∀ e, e < 9 → -1073741824 ≤ p e ∧ p e ≤ 1073741824
open Classical in
noncomputable def vlP (p : Nat → Int) : Int := if okP p then (if (dtW (ofW p)).v = 0 then 10 else 0) else 1
set_option maxHeartbeats 2000000 in
theorem zcP {p : Nat → Int} (hp : ∀ e, Fits64 (p e)) : pf E0 302 [pI p] = some (.i .i64 (vlP p)) := by
 have hm := zgZ hp
 have hd := ze4 (ofW p)
 have sg := zbX (dtW (ofW p))
 have bad : ∀ e, e < 9 → ¬ (-1073741824 ≤ p e ∧ p e ≤ 1073741824) → vlP p = 1 := fun e he h => by unfold vlP; rw [if_neg fun q => h (q e he)]
 have good : okP p → vlP p = if (dtW (ofW p)).v = 0 then 10 else 0 := fun h => by unfold vlP; rw [if_pos h]
 generalize vlP p = V at *
 generalize dtW (ofW p) = dt at *
 refine zac (xf := x_proj_Valid) rfl (by simp [x_proj_Valid]) ?_
 simp only [x_proj_Valid]
 simp (disch := omega) only [go_sem, seval, wqq]
 refine zar x_proj_Valid_l1.eq_1 (fun (i : Nat) fr M => i ≤ 9 ∧ (∀ e, e < i → -1073741824 ≤ p e ∧ p e ≤ 1073741824) ∧ fr 1 = .p 0 0 ∧ fr 6 = pI p ∧ fr 7 = (PV.i .i64 ((i : Nat) : Int)) ∧ M = [some ⟨cI p, true, 0⟩]) (fun i => 9 - i) ?_ 0 ⟨by omega, fun e he => by omega, by simp only [go_sem, seval], by simp only [go_sem, seval], by simp only [go_sem, seval], rfl⟩
 rintro i fr M ⟨hi, hlo, f1, f6, f7, rfl⟩ ih
 rcases Nat.lt_or_ge i 9 with h9 | h9
 ·have nxt : ∀ j, (-1073741824 ≤ p j ∧ p j ≤ 1073741824) → j = i → ∀ e, e < j + 1 → -1073741824 ≤ p e ∧ p e ≤ 1073741824 := fun j hj hji e he => by
   subst hji
   rcases Nat.lt_or_ge e j with h | h
   ·exact hlo e h
   ·obtain rfl : e = j := by omega
    exact hj
  obtain rfl | rfl | rfl | rfl | rfl | rfl | rfl | rfl | rfl := zch h9
  ·have hpe := hp 0
   unfold Fits64 at hpe
   rcases zbu (p 0 < -1073741824) with t1 | t1
   ·rw [bad 0 (by decide) (by have := of_eq_true t1; omega)]
    simp (disch := omega) only [go_sem, seval, wqq, f1, f6, f7, pI, zag, t1]
   ·rcases zbu (p 0 > 1073741824) with t2 | t2
    ·rw [bad 0 (by decide) (by have := of_eq_true t2; omega)]
     simp (disch := omega) only [go_sem, seval, wqq, f1, f6, f7, pI, zag, t1, t2]
    ·have u1 := of_eq_false t1
     have u2 := of_eq_false t2
     simp (disch := omega) only [go_sem, seval, wqq, f1, f6, f7, pI, zag, t1, t2]
     exact ih 1 _ _ (by omega) ⟨by omega, nxt 0 (by omega) rfl, by simp only [go_sem, seval, f1], by simp only [go_sem, seval, f6], by simp only [go_sem, seval], rfl⟩
  ·have hpe := hp 1
   unfold Fits64 at hpe
   rcases zbu (p 1 < -1073741824) with t1 | t1
   ·rw [bad 1 (by decide) (by have := of_eq_true t1; omega)]
    simp (disch := omega) only [go_sem, seval, wqq, f1, f6, f7, pI, zag, t1]
   ·rcases zbu (p 1 > 1073741824) with t2 | t2
    ·rw [bad 1 (by decide) (by have := of_eq_true t2; omega)]
     simp (disch := omega) only [go_sem, seval, wqq, f1, f6, f7, pI, zag, t1, t2]
    ·have u1 := of_eq_false t1
     have u2 := of_eq_false t2
     simp (disch := omega) only [go_sem, seval, wqq, f1, f6, f7, pI, zag, t1, t2]
     exact ih 2 _ _ (by omega) ⟨by omega, nxt 1 (by omega) rfl, by simp only [go_sem, seval, f1], by simp only [go_sem, seval, f6], by simp only [go_sem, seval], rfl⟩
  ·have hpe := hp 2
   unfold Fits64 at hpe
   rcases zbu (p 2 < -1073741824) with t1 | t1
   ·rw [bad 2 (by decide) (by have := of_eq_true t1; omega)]
    simp (disch := omega) only [go_sem, seval, wqq, f1, f6, f7, pI, zag, t1]
   ·rcases zbu (p 2 > 1073741824) with t2 | t2
    ·rw [bad 2 (by decide) (by have := of_eq_true t2; omega)]
     simp (disch := omega) only [go_sem, seval, wqq, f1, f6, f7, pI, zag, t1, t2]
    ·have u1 := of_eq_false t1
     have u2 := of_eq_false t2
     simp (disch := omega) only [go_sem, seval, wqq, f1, f6, f7, pI, zag, t1, t2]
     exact ih 3 _ _ (by omega) ⟨by omega, nxt 2 (by omega) rfl, by simp only [go_sem, seval, f1], by simp only [go_sem, seval, f6], by simp only [go_sem, seval], rfl⟩
  ·have hpe := hp 3
   unfold Fits64 at hpe
   rcases zbu (p 3 < -1073741824) with t1 | t1
   ·rw [bad 3 (by decide) (by have := of_eq_true t1; omega)]
    simp (disch := omega) only [go_sem, seval, wqq, f1, f6, f7, pI, zag, t1]
   ·rcases zbu (p 3 > 1073741824) with t2 | t2
    ·rw [bad 3 (by decide) (by have := of_eq_true t2; omega)]
     simp (disch := omega) only [go_sem, seval, wqq, f1, f6, f7, pI, zag, t1, t2]
    ·have u1 := of_eq_false t1
     have u2 := of_eq_false t2
     simp (disch := omega) only [go_sem, seval, wqq, f1, f6, f7, pI, zag, t1, t2]
     exact ih 4 _ _ (by omega) ⟨by omega, nxt 3 (by omega) rfl, by simp only [go_sem, seval, f1], by simp only [go_sem, seval, f6], by simp only [go_sem, seval], rfl⟩
  ·have hpe := hp 4
   unfold Fits64 at hpe
   rcases zbu (p 4 < -1073741824) with t1 | t1
   ·rw [bad 4 (by decide) (by have := of_eq_true t1; omega)]
    simp (disch := omega) only [go_sem, seval, wqq, f1, f6, f7, pI, zag, t1]
   ·rcases zbu (p 4 > 1073741824) with t2 | t2
    ·rw [bad 4 (by decide) (by have := of_eq_true t2; omega)]
     simp (disch := omega) only [go_sem, seval, wqq, f1, f6, f7, pI, zag, t1, t2]
    ·have u1 := of_eq_false t1
     have u2 := of_eq_false t2
     simp (disch := omega) only [go_sem, seval, wqq, f1, f6, f7, pI, zag, t1, t2]
     exact ih 5 _ _ (by omega) ⟨by omega, nxt 4 (by omega) rfl, by simp only [go_sem, seval, f1], by simp only [go_sem, seval, f6], by simp only [go_sem, seval], rfl⟩
  ·have hpe := hp 5
   unfold Fits64 at hpe
   rcases zbu (p 5 < -1073741824) with t1 | t1
   ·rw [bad 5 (by decide) (by have := of_eq_true t1; omega)]
    simp (disch := omega) only [go_sem, seval, wqq, f1, f6, f7, pI, zag, t1]
   ·rcases zbu (p 5 > 1073741824) with t2 | t2
    ·rw [bad 5 (by decide) (by have := of_eq_true t2; omega)]
     simp (disch := omega) only [go_sem, seval, wqq, f1, f6, f7, pI, zag, t1, t2]
    ·have u1 := of_eq_false t1
     have u2 := of_eq_false t2
     simp (disch := omega) only [go_sem, seval, wqq, f1, f6, f7, pI, zag, t1, t2]
     exact ih 6 _ _ (by omega) ⟨by omega, nxt 5 (by omega) rfl, by simp only [go_sem, seval, f1], by simp only [go_sem, seval, f6], by simp only [go_sem, seval], rfl⟩
  ·have hpe := hp 6
   unfold Fits64 at hpe
   rcases zbu (p 6 < -1073741824) with t1 | t1
   ·rw [bad 6 (by decide) (by have := of_eq_true t1; omega)]
    simp (disch := omega) only [go_sem, seval, wqq, f1, f6, f7, pI, zag, t1]
   ·rcases zbu (p 6 > 1073741824) with t2 | t2
    ·rw [bad 6 (by decide) (by have := of_eq_true t2; omega)]
     simp (disch := omega) only [go_sem, seval, wqq, f1, f6, f7, pI, zag, t1, t2]
    ·have u1 := of_eq_false t1
     have u2 := of_eq_false t2
     simp (disch := omega) only [go_sem, seval, wqq, f1, f6, f7, pI, zag, t1, t2]
     exact ih 7 _ _ (by omega) ⟨by omega, nxt 6 (by omega) rfl, by simp only [go_sem, seval, f1], by simp only [go_sem, seval, f6], by simp only [go_sem, seval], rfl⟩
  ·have hpe := hp 7
   unfold Fits64 at hpe
   rcases zbu (p 7 < -1073741824) with t1 | t1
   ·rw [bad 7 (by decide) (by have := of_eq_true t1; omega)]
    simp (disch := omega) only [go_sem, seval, wqq, f1, f6, f7, pI, zag, t1]
   ·rcases zbu (p 7 > 1073741824) with t2 | t2
    ·rw [bad 7 (by decide) (by have := of_eq_true t2; omega)]
     simp (disch := omega) only [go_sem, seval, wqq, f1, f6, f7, pI, zag, t1, t2]
    ·have u1 := of_eq_false t1
     have u2 := of_eq_false t2
     simp (disch := omega) only [go_sem, seval, wqq, f1, f6, f7, pI, zag, t1, t2]
     exact ih 8 _ _ (by omega) ⟨by omega, nxt 7 (by omega) rfl, by simp only [go_sem, seval, f1], by simp only [go_sem, seval, f6], by simp only [go_sem, seval], rfl⟩
  ·have hpe := hp 8
   unfold Fits64 at hpe
   rcases zbu (p 8 < -1073741824) with t1 | t1
   ·rw [bad 8 (by decide) (by have := of_eq_true t1; omega)]
    simp (disch := omega) only [go_sem, seval, wqq, f1, f6, f7, pI, zag, t1]
   ·rcases zbu (p 8 > 1073741824) with t2 | t2
    ·rw [bad 8 (by decide) (by have := of_eq_true t2; omega)]
     simp (disch := omega) only [go_sem, seval, wqq, f1, f6, f7, pI, zag, t1, t2]
    ·have u1 := of_eq_false t1
     have u2 := of_eq_false t2
     simp (disch := omega) only [go_sem, seval, wqq, f1, f6, f7, pI, zag, t1, t2]
     exact ih 9 _ _ (by omega) ⟨by omega, nxt 8 (by omega) rfl, by simp only [go_sem, seval, f1], by simp only [go_sem, seval, f6], by simp only [go_sem, seval], rfl⟩
 ·obtain rfl : i = 9 := by omega
  rw [good hlo]
  by_cases h0 : dt.v = 0
  ·have c0 : (cmpI dt.v 0 = 0) = True := by rw [zaT]; simp [h0]
   rw [if_pos h0]
   simp (disch := omega) only [go_sem, seval, wqq, f1, f6, f7, hm, hd, sg, c0]
  ·have c0 : (cmpI dt.v 0 = 0) = False := by rw [zaT]; simp [h0]
   rw [if_neg h0]
   simp (disch := omega) only [go_sem, seval, wqq, f1, f6, f7, hm, hd, sg, c0]
end Go.Eng
namespace Go.Eng
def gN (X : Nat → Int) : Nat → Nat
 | 0 => 0
 | i + 1 => Nat.gcd (gN X i) (X i).natAbs
def fN (X : Nat → Int) : Nat → Int
 | 0 => 0
 | i + 1 => if fN X i = 0 then cmpI (X i) 0 else fN X i
theorem zhw (X : Nat → Int) : ∀ i, fN X i = 0 ∨ fN X i = 1 ∨ fN X i = -1
 | 0 => .inl rfl
 | i + 1 => by
  have h := ziW (X i) 0
  have := zhw X i
  unfold fN
  split <;> omega
theorem zfx (X : Nat → Int) : ∀ i, fN X i = 0 → gN X i = 0
 | 0, _ => rfl
 | i + 1, h => by
  unfold fN at h
  split at h
  ·rename_i h0
   have h1 := zfx X i h0
   rw [zaT] at h
   show Nat.gcd (gN X i) (X i).natAbs = 0
   rw [h1, h]; rfl
  ·rename_i h0; exact (h0 h).elim
noncomputable def gW (x : Nat → WI) : Nat → WI
 | 0 => wi0
 | i + 1 => (gW x i).gcd (x i)
theorem zqP (x : Nat → WI) : ∀ i, (gW x i).v = (gN (fun e => (x e).v) i : Int)
 | 0 => rfl
 | i + 1 => by
  show ((Nat.gcd (gW x i).v.natAbs (x i).v.natAbs : Nat) : Int) = _
  rw [zqP x i, Int.natAbs_natCast]; rfl
noncomputable def gC (x : Nat → WI) : Nat → List PV
 | 0 => [.b false, .nl]
 | i + 1 => [.b (decide ((gW x (i + 1)).v < 0)), D (gW x (i + 1)).v.natAbs]
def okN (X : Nat → Int) : Prop := ∀ e, e < 9 → -1073741824 ≤ X e / gN X 9 ∧ X e / gN X 9 ≤ 1073741824
open Classical in
noncomputable def nfP (X : Nat → Int) : Nat → Int := if okN X then fun e => X e / gN X 9 * fN X 9 else zI
open Classical in
noncomputable def nfE (X : Nat → Int) : Int := if okN X then 0 else 5
theorem pI0 : PV.ag [.i .i64 0, .i .i64 0, .i .i64 0, .i .i64 0, .i .i64 0, .i .i64 0, .i .i64 0, .i .i64 0, .i .i64 0] = pI zI := rfl
theorem zjP {q s : Int} (h1 : -9223372036854775808 ≤ q) (h2 : q ≤ 9223372036854775807) (ho : ¬ (-1073741824 ≤ q ∧ q ≤ 1073741824)) (hs : s = 1 ∨ s = -1) : IntKind.i64.wrap (q * s) < -1073741824 ∨ IntKind.i64.wrap (q * s) > 1073741824 := by
 rcases hs with rfl | rfl
 ·rw [Int.mul_one, wqa (by omega) (by omega)]; omega
 ·by_cases hm : q = -9223372036854775808
  ·subst hm; left; decide
  ·rw [show q * -1 = -q by omega, wqa (by omega) (by omega)]; omega
set_option maxHeartbeats 8000000 in
theorem zey (x : Nat → WI) (hg : gN (fun e => (x e).v) 9 ≠ 0) : pf E0 314 [mW x] = some (.tu [pI (nfP fun e => (x e).v), .i .i64 (nfE fun e => (x e).v)]) := by
 obtain ⟨X, hX⟩ : ∃ X : Nat → Int, X = fun e => (x e).v := ⟨_, rfl⟩
 have gv := zqP x 9
 rw [← hX] at hg gv ⊢
 have Xe : ∀ e, (x e).v = X e := fun e => by rw [hX]
 have fr9 := zhw X 9
 have s9 : fN X 9 = 1 ∨ fN X 9 = -1 := by
  rcases fr9 with h | h
  ·exact (hg (zfx X 9 h)).elim
  ·exact h
 have gw0 : (gW x 9).v ≠ 0 := by rw [gv]; omega
 have bad : ∀ e, e < 9 → ¬ (-1073741824 ≤ X e / gN X 9 ∧ X e / gN X 9 ≤ 1073741824) → nfP X = zI ∧ nfE X = 5 := fun e he h => by
  have hn : ¬ okN X := fun q => h (q e he)
  exact ⟨by unfold nfP; rw [if_neg hn], by unfold nfE; rw [if_neg hn]⟩
 have good : okN X → nfP X = (fun e => X e / gN X 9 * fN X 9) ∧ nfE X = 0 := fun h => ⟨by unfold nfP; rw [if_pos h], by unfold nfE; rw [if_pos h]⟩
 generalize nfP X = P at *
 generalize nfE X = E at *
 have sgn : ∀ e, pf E0 31 [wiP (x e)] = some (.i .i64 (cmpI (X e) 0)) := fun e => by rw [← Xe]; exact zbX (x e)
 have gcd : ∀ e, pf E0 18 [wiP (gW x e), wiP (x e)] = some (wiP (gW x (e + 1))) := fun e => zfG (gW x e) (x e)
 refine zac (xf := x_proj_normal) rfl (by simp [x_proj_normal]) ?_
 simp only [x_proj_normal]
 simp (disch := omega) only [go_sem, seval, wqq]
 refine zar x_proj_normal_l1.eq_1 (fun (i : Nat) fr M => i ≤ 9 ∧ fr 1 = .p 0 0 ∧ fr 2 = .p 1 0 ∧ fr 4 = .p 2 0 ∧ fr 5 = .i .i64 (fN X i) ∧ fr 17 = mW x ∧ fr 18 = (PV.i .i64 ((i : Nat) : Int)) ∧ ∃ b v G, M = some ⟨cW x, true, 0⟩ :: some ⟨cQ 0 zI, true, b⟩ :: some ⟨gC x i, true, v⟩ :: G) (fun i => 9 - i) ?_ 0 ⟨by omega, by simp only [go_sem, seval], by simp only [go_sem, seval], by simp only [go_sem, seval], by simp only [go_sem, seval]; try rfl, by simp only [go_sem, seval], by simp only [go_sem, seval], _, _, [], rfl⟩
 rintro i fr M ⟨hi, f1, f2, f4, f5, f17, f18, b, v, G, rfl⟩ ih
 rcases Nat.lt_or_ge i 9 with h9 | h9
 ·have h5 := f5
  by_cases h0 : fN X i = 0
  ·have hs : fN X (i + 1) = cmpI (X i) 0 := by show (if fN X i = 0 then _ else _) = _; rw [if_pos h0]
   rw [h0] at f5
   obtain rfl | rfl | rfl | rfl | rfl | rfl | rfl | rfl | rfl := zch h9
   ·have g1 := gcd 0
    have g2 := sgn 0
    simp (disch := omega) only [go_sem, seval, wqq, f1, f2, f4, f5, f17, f18, mW, zae, gC, g1, g2, mG, mG0, sG, sG0, lG, lqq]
    exact ih 1 _ _ (by omega) ⟨by omega, by simp only [go_sem, seval, f1], by simp only [go_sem, seval, f2], by simp only [go_sem, seval, f4], by rw [hs]; simp only [go_sem, seval], by simp only [go_sem, seval, f17], by simp only [go_sem, seval], _, _, _, rfl⟩
   ·have g1 := gcd 1
    have g2 := sgn 1
    simp (disch := omega) only [go_sem, seval, wqq, f1, f2, f4, f5, f17, f18, mW, zae, gC, g1, g2, mG, mG0, sG, sG0, lG, lqq]
    exact ih 2 _ _ (by omega) ⟨by omega, by simp only [go_sem, seval, f1], by simp only [go_sem, seval, f2], by simp only [go_sem, seval, f4], by rw [hs]; simp only [go_sem, seval], by simp only [go_sem, seval, f17], by simp only [go_sem, seval], _, _, _, rfl⟩
   ·have g1 := gcd 2
    have g2 := sgn 2
    simp (disch := omega) only [go_sem, seval, wqq, f1, f2, f4, f5, f17, f18, mW, zae, gC, g1, g2, mG, mG0, sG, sG0, lG, lqq]
    exact ih 3 _ _ (by omega) ⟨by omega, by simp only [go_sem, seval, f1], by simp only [go_sem, seval, f2], by simp only [go_sem, seval, f4], by rw [hs]; simp only [go_sem, seval], by simp only [go_sem, seval, f17], by simp only [go_sem, seval], _, _, _, rfl⟩
   ·have g1 := gcd 3
    have g2 := sgn 3
    simp (disch := omega) only [go_sem, seval, wqq, f1, f2, f4, f5, f17, f18, mW, zae, gC, g1, g2, mG, mG0, sG, sG0, lG, lqq]
    exact ih 4 _ _ (by omega) ⟨by omega, by simp only [go_sem, seval, f1], by simp only [go_sem, seval, f2], by simp only [go_sem, seval, f4], by rw [hs]; simp only [go_sem, seval], by simp only [go_sem, seval, f17], by simp only [go_sem, seval], _, _, _, rfl⟩
   ·have g1 := gcd 4
    have g2 := sgn 4
    simp (disch := omega) only [go_sem, seval, wqq, f1, f2, f4, f5, f17, f18, mW, zae, gC, g1, g2, mG, mG0, sG, sG0, lG, lqq]
    exact ih 5 _ _ (by omega) ⟨by omega, by simp only [go_sem, seval, f1], by simp only [go_sem, seval, f2], by simp only [go_sem, seval, f4], by rw [hs]; simp only [go_sem, seval], by simp only [go_sem, seval, f17], by simp only [go_sem, seval], _, _, _, rfl⟩
   ·have g1 := gcd 5
    have g2 := sgn 5
    simp (disch := omega) only [go_sem, seval, wqq, f1, f2, f4, f5, f17, f18, mW, zae, gC, g1, g2, mG, mG0, sG, sG0, lG, lqq]
    exact ih 6 _ _ (by omega) ⟨by omega, by simp only [go_sem, seval, f1], by simp only [go_sem, seval, f2], by simp only [go_sem, seval, f4], by rw [hs]; simp only [go_sem, seval], by simp only [go_sem, seval, f17], by simp only [go_sem, seval], _, _, _, rfl⟩
   ·have g1 := gcd 6
    have g2 := sgn 6
    simp (disch := omega) only [go_sem, seval, wqq, f1, f2, f4, f5, f17, f18, mW, zae, gC, g1, g2, mG, mG0, sG, sG0, lG, lqq]
    exact ih 7 _ _ (by omega) ⟨by omega, by simp only [go_sem, seval, f1], by simp only [go_sem, seval, f2], by simp only [go_sem, seval, f4], by rw [hs]; simp only [go_sem, seval], by simp only [go_sem, seval, f17], by simp only [go_sem, seval], _, _, _, rfl⟩
   ·have g1 := gcd 7
    have g2 := sgn 7
    simp (disch := omega) only [go_sem, seval, wqq, f1, f2, f4, f5, f17, f18, mW, zae, gC, g1, g2, mG, mG0, sG, sG0, lG, lqq]
    exact ih 8 _ _ (by omega) ⟨by omega, by simp only [go_sem, seval, f1], by simp only [go_sem, seval, f2], by simp only [go_sem, seval, f4], by rw [hs]; simp only [go_sem, seval], by simp only [go_sem, seval, f17], by simp only [go_sem, seval], _, _, _, rfl⟩
   ·have g1 := gcd 8
    have g2 := sgn 8
    simp (disch := omega) only [go_sem, seval, wqq, f1, f2, f4, f5, f17, f18, mW, zae, gC, g1, g2, mG, mG0, sG, sG0, lG, lqq]
    exact ih 9 _ _ (by omega) ⟨by omega, by simp only [go_sem, seval, f1], by simp only [go_sem, seval, f2], by simp only [go_sem, seval, f4], by rw [hs]; simp only [go_sem, seval], by simp only [go_sem, seval, f17], by simp only [go_sem, seval], _, _, _, rfl⟩
  ·have hs : fN X (i + 1) = fN X i := by show (if fN X i = 0 then _ else _) = _; rw [if_neg h0]
   have t0 : (fN X i = 0) = False := eq_false h0
   obtain rfl | rfl | rfl | rfl | rfl | rfl | rfl | rfl | rfl := zch h9
   ·have g1 := gcd 0
    simp (disch := omega) only [go_sem, seval, wqq, f1, f2, f4, f5, f17, f18, mW, zae, gC, g1, t0, mG, mG0, sG, sG0, lG, lqq]
    exact ih 1 _ _ (by omega) ⟨by omega, by simp only [go_sem, seval, f1], by simp only [go_sem, seval, f2], by simp only [go_sem, seval, f4], by rw [hs]; simp only [go_sem, seval, f5], by simp only [go_sem, seval, f17], by simp only [go_sem, seval], _, _, _, rfl⟩
   ·have g1 := gcd 1
    simp (disch := omega) only [go_sem, seval, wqq, f1, f2, f4, f5, f17, f18, mW, zae, gC, g1, t0, mG, mG0, sG, sG0, lG, lqq]
    exact ih 2 _ _ (by omega) ⟨by omega, by simp only [go_sem, seval, f1], by simp only [go_sem, seval, f2], by simp only [go_sem, seval, f4], by rw [hs]; simp only [go_sem, seval, f5], by simp only [go_sem, seval, f17], by simp only [go_sem, seval], _, _, _, rfl⟩
   ·have g1 := gcd 2
    simp (disch := omega) only [go_sem, seval, wqq, f1, f2, f4, f5, f17, f18, mW, zae, gC, g1, t0, mG, mG0, sG, sG0, lG, lqq]
    exact ih 3 _ _ (by omega) ⟨by omega, by simp only [go_sem, seval, f1], by simp only [go_sem, seval, f2], by simp only [go_sem, seval, f4], by rw [hs]; simp only [go_sem, seval, f5], by simp only [go_sem, seval, f17], by simp only [go_sem, seval], _, _, _, rfl⟩
   ·have g1 := gcd 3
    simp (disch := omega) only [go_sem, seval, wqq, f1, f2, f4, f5, f17, f18, mW, zae, gC, g1, t0, mG, mG0, sG, sG0, lG, lqq]
    exact ih 4 _ _ (by omega) ⟨by omega, by simp only [go_sem, seval, f1], by simp only [go_sem, seval, f2], by simp only [go_sem, seval, f4], by rw [hs]; simp only [go_sem, seval, f5], by simp only [go_sem, seval, f17], by simp only [go_sem, seval], _, _, _, rfl⟩
   ·have g1 := gcd 4
    simp (disch := omega) only [go_sem, seval, wqq, f1, f2, f4, f5, f17, f18, mW, zae, gC, g1, t0, mG, mG0, sG, sG0, lG, lqq]
    exact ih 5 _ _ (by omega) ⟨by omega, by simp only [go_sem, seval, f1], by simp only [go_sem, seval, f2], by simp only [go_sem, seval, f4], by rw [hs]; simp only [go_sem, seval, f5], by simp only [go_sem, seval, f17], by simp only [go_sem, seval], _, _, _, rfl⟩
   ·have g1 := gcd 5
    simp (disch := omega) only [go_sem, seval, wqq, f1, f2, f4, f5, f17, f18, mW, zae, gC, g1, t0, mG, mG0, sG, sG0, lG, lqq]
    exact ih 6 _ _ (by omega) ⟨by omega, by simp only [go_sem, seval, f1], by simp only [go_sem, seval, f2], by simp only [go_sem, seval, f4], by rw [hs]; simp only [go_sem, seval, f5], by simp only [go_sem, seval, f17], by simp only [go_sem, seval], _, _, _, rfl⟩
   ·have g1 := gcd 6
    simp (disch := omega) only [go_sem, seval, wqq, f1, f2, f4, f5, f17, f18, mW, zae, gC, g1, t0, mG, mG0, sG, sG0, lG, lqq]
    exact ih 7 _ _ (by omega) ⟨by omega, by simp only [go_sem, seval, f1], by simp only [go_sem, seval, f2], by simp only [go_sem, seval, f4], by rw [hs]; simp only [go_sem, seval, f5], by simp only [go_sem, seval, f17], by simp only [go_sem, seval], _, _, _, rfl⟩
   ·have g1 := gcd 7
    simp (disch := omega) only [go_sem, seval, wqq, f1, f2, f4, f5, f17, f18, mW, zae, gC, g1, t0, mG, mG0, sG, sG0, lG, lqq]
    exact ih 8 _ _ (by omega) ⟨by omega, by simp only [go_sem, seval, f1], by simp only [go_sem, seval, f2], by simp only [go_sem, seval, f4], by rw [hs]; simp only [go_sem, seval, f5], by simp only [go_sem, seval, f17], by simp only [go_sem, seval], _, _, _, rfl⟩
   ·have g1 := gcd 8
    simp (disch := omega) only [go_sem, seval, wqq, f1, f2, f4, f5, f17, f18, mW, zae, gC, g1, t0, mG, mG0, sG, sG0, lG, lqq]
    exact ih 9 _ _ (by omega) ⟨by omega, by simp only [go_sem, seval, f1], by simp only [go_sem, seval, f2], by simp only [go_sem, seval, f4], by rw [hs]; simp only [go_sem, seval, f5], by simp only [go_sem, seval, f17], by simp only [go_sem, seval], _, _, _, rfl⟩
 ·obtain rfl : i = 9 := by omega
  clear ih
  have gC9 : gC x 9 = [.b (decide ((gW x 9).v < 0)), D (gW x 9).v.natAbs] := rfl
  generalize hgw : gW x 9 = g at *
  simp (disch := omega) only [go_sem, seval, wqq, f1, f2, f4, f5, f17, f18, gC9, mG, mG0, sG, sG0, lG, lqq]
  have dvq : ∀ e, ((x e).div g gw0).v = X e / gN X 9 := fun e => by
   show (x e).v / g.v = _
   rw [Xe, gv]
  refine zar x_proj_normal_l2.eq_1 (fun (i : Nat) fr M => i ≤ 9 ∧ (∀ e, e < i → -1073741824 ≤ X e / gN X 9 ∧ X e / gN X 9 ≤ 1073741824) ∧ fr 2 = .p 1 0 ∧ fr 4 = .p 2 0 ∧ fr 5 = .i .i64 (fN X 9) ∧ fr 8 = .p (G.length + 3) 0 ∧ fr 29 = mW x ∧ fr 30 = (PV.i .i64 ((i : Nat) : Int)) ∧ ∃ b v R, M = some ⟨cW x, true, 0⟩ :: some ⟨cQ 0 zI, true, b⟩ :: some ⟨[.b (decide (g.v < 0)), D g.v.natAbs], true, v⟩ :: (G ++ (some ⟨cQ i (fun e => X e / gN X 9 * fN X 9), true, i⟩ :: R)))
   (fun i => 9 - i) ?_ 0 ⟨by omega, fun e he => by omega, by simp only [go_sem, seval, f2], by simp only [go_sem, seval, f4], by simp only [go_sem, seval, f5], by simp only [go_sem, seval], by simp only [go_sem, seval], by simp only [go_sem, seval], b, v, [], rfl⟩
  clear b v f1 f2 f4 f5 f17 f18
  rintro i fr M ⟨hi, hlo, f2, f4, f5, f8, f29, f30, b, v, R, rfl⟩ ih
  rcases Nat.lt_or_ge i 9 with h9 | h9
  ·have nxt : ∀ j, (-1073741824 ≤ X j / gN X 9 ∧ X j / gN X 9 ≤ 1073741824) → j = i → ∀ e, e < j + 1 → -1073741824 ≤ X e / gN X 9 ∧ X e / gN X 9 ≤ 1073741824 := fun j hj hji e he => by
    subst hji
    rcases Nat.lt_or_ge e j with h | h
    ·exact hlo e h
    ·obtain rfl : e = j := by omega
     exact hj
   have dv := zlc (x i) g gw0
   have sm := zew ((x i).div g gw0)
   have dq := dvq i
   generalize (x i).div g gw0 = d at *
   generalize (x i).mod g gw0 = d2 at *
   by_cases hq : -1073741824 ≤ X i / gN X 9 ∧ X i / gN X 9 ≤ 1073741824
   ·have nx := nxt i hq rfl
    have s1 : isSmall d.v = true := by unfold isSmall; exact decide_eq_true (by rw [dq]; omega)
    have s2 : small d.v = X i / gN X 9 := by unfold small; rw [s1, dq]; rfl
    rw [s1, s2] at sm
    have hqs : -1073741824 ≤ X i / gN X 9 * fN X 9 ∧ X i / gN X 9 * fN X 9 ≤ 1073741824 := by
     rcases s9 with h | h <;> rw [h] <;> omega
    clear dvq bad nxt
    generalize hQ : (fun e => X e / (gN X 9 : Int) * fN X 9) = Y at *
    have hY : X i / gN X 9 * fN X 9 = Y i := by rw [← hQ]
    have t1 : (Y i < -1073741824) = False := eq_false (by omega)
    have t2 : (Y i > 1073741824) = False := eq_false (by omega)
    rw [hY] at hqs
    generalize X i / (gN X 9 : Int) = q at *
    obtain rfl | rfl | rfl | rfl | rfl | rfl | rfl | rfl | rfl := zch h9
    ·simp (disch := omega) only [go_sem, seval, wqq, f2, f4, f5, f8, f29, f30, mW, zae, dv, sm, hY, t1, t2, mG, mG0, sG, sG0, lG, lqq]
     exact ih 1 _ _ (by omega) ⟨by omega, nx, by simp only [go_sem, seval, f2], by simp only [go_sem, seval, f4], by simp only [go_sem, seval, f5], by simp only [go_sem, seval, f8], by simp only [go_sem, seval, f29], by simp only [go_sem, seval], b, v, _, rfl⟩
    ·simp (disch := omega) only [go_sem, seval, wqq, f2, f4, f5, f8, f29, f30, mW, zae, dv, sm, hY, t1, t2, mG, mG0, sG, sG0, lG, lqq]
     exact ih 2 _ _ (by omega) ⟨by omega, nx, by simp only [go_sem, seval, f2], by simp only [go_sem, seval, f4], by simp only [go_sem, seval, f5], by simp only [go_sem, seval, f8], by simp only [go_sem, seval, f29], by simp only [go_sem, seval], b, v, _, rfl⟩
    ·simp (disch := omega) only [go_sem, seval, wqq, f2, f4, f5, f8, f29, f30, mW, zae, dv, sm, hY, t1, t2, mG, mG0, sG, sG0, lG, lqq]
     exact ih 3 _ _ (by omega) ⟨by omega, nx, by simp only [go_sem, seval, f2], by simp only [go_sem, seval, f4], by simp only [go_sem, seval, f5], by simp only [go_sem, seval, f8], by simp only [go_sem, seval, f29], by simp only [go_sem, seval], b, v, _, rfl⟩
    ·simp (disch := omega) only [go_sem, seval, wqq, f2, f4, f5, f8, f29, f30, mW, zae, dv, sm, hY, t1, t2, mG, mG0, sG, sG0, lG, lqq]
     exact ih 4 _ _ (by omega) ⟨by omega, nx, by simp only [go_sem, seval, f2], by simp only [go_sem, seval, f4], by simp only [go_sem, seval, f5], by simp only [go_sem, seval, f8], by simp only [go_sem, seval, f29], by simp only [go_sem, seval], b, v, _, rfl⟩
    ·simp (disch := omega) only [go_sem, seval, wqq, f2, f4, f5, f8, f29, f30, mW, zae, dv, sm, hY, t1, t2, mG, mG0, sG, sG0, lG, lqq]
     exact ih 5 _ _ (by omega) ⟨by omega, nx, by simp only [go_sem, seval, f2], by simp only [go_sem, seval, f4], by simp only [go_sem, seval, f5], by simp only [go_sem, seval, f8], by simp only [go_sem, seval, f29], by simp only [go_sem, seval], b, v, _, rfl⟩
    ·simp (disch := omega) only [go_sem, seval, wqq, f2, f4, f5, f8, f29, f30, mW, zae, dv, sm, hY, t1, t2, mG, mG0, sG, sG0, lG, lqq]
     exact ih 6 _ _ (by omega) ⟨by omega, nx, by simp only [go_sem, seval, f2], by simp only [go_sem, seval, f4], by simp only [go_sem, seval, f5], by simp only [go_sem, seval, f8], by simp only [go_sem, seval, f29], by simp only [go_sem, seval], b, v, _, rfl⟩
    ·simp (disch := omega) only [go_sem, seval, wqq, f2, f4, f5, f8, f29, f30, mW, zae, dv, sm, hY, t1, t2, mG, mG0, sG, sG0, lG, lqq]
     exact ih 7 _ _ (by omega) ⟨by omega, nx, by simp only [go_sem, seval, f2], by simp only [go_sem, seval, f4], by simp only [go_sem, seval, f5], by simp only [go_sem, seval, f8], by simp only [go_sem, seval, f29], by simp only [go_sem, seval], b, v, _, rfl⟩
    ·simp (disch := omega) only [go_sem, seval, wqq, f2, f4, f5, f8, f29, f30, mW, zae, dv, sm, hY, t1, t2, mG, mG0, sG, sG0, lG, lqq]
     exact ih 8 _ _ (by omega) ⟨by omega, nx, by simp only [go_sem, seval, f2], by simp only [go_sem, seval, f4], by simp only [go_sem, seval, f5], by simp only [go_sem, seval, f8], by simp only [go_sem, seval, f29], by simp only [go_sem, seval], b, v, _, rfl⟩
    ·simp (disch := omega) only [go_sem, seval, wqq, f2, f4, f5, f8, f29, f30, mW, zae, dv, sm, hY, t1, t2, mG, mG0, sG, sG0, lG, lqq]
     exact ih 9 _ _ (by omega) ⟨by omega, nx, by simp only [go_sem, seval, f2], by simp only [go_sem, seval, f4], by simp only [go_sem, seval, f5], by simp only [go_sem, seval, f8], by simp only [go_sem, seval, f29], by simp only [go_sem, seval], b, v, _, rfl⟩
   ·obtain ⟨rfl, rfl⟩ := bad i h9 hq
    clear ih good dvq bad nxt
    by_cases hs : isSmall d.v = true
    ·have s2 : small d.v = X i / gN X 9 := by unfold small; rw [if_pos hs, dq]
     rw [hs, s2] at sm
     have hb : -9223372036854775808 ≤ X i / gN X 9 ∧ X i / gN X 9 ≤ 9223372036854775807 := by rw [← dq]; exact of_decide_eq_true hs
     have wo := zjP hb.1 hb.2 hq s9
     generalize X i / (gN X 9 : Int) = q at *
     generalize hW : IntKind.i64.wrap (q * fN X 9) = w at *
     rcases zbu (w < -1073741824) with t1 | t1
     ·obtain rfl | rfl | rfl | rfl | rfl | rfl | rfl | rfl | rfl := zch h9 <;>
      simp (disch := omega) only [go_sem, seval, wqq, f2, f4, f5, f8, f29, f30, mW, zae, dv, sm, hW, t1, pI0, mG, mG0, sG, sG0, lG, lqq]
     ·have t2 : (w > 1073741824) = True := eq_true (by have := of_eq_false t1; omega)
      obtain rfl | rfl | rfl | rfl | rfl | rfl | rfl | rfl | rfl := zch h9 <;>
      simp (disch := omega) only [go_sem, seval, wqq, f2, f4, f5, f8, f29, f30, mW, zae, dv, sm, hW, t1, t2, pI0, mG, mG0, sG, sG0, lG, lqq]
    ·have hs : isSmall d.v = false := by simpa using hs
     have s2 : small d.v = 0 := by unfold small; rw [hs]; rfl
     rw [hs, s2] at sm
     obtain rfl | rfl | rfl | rfl | rfl | rfl | rfl | rfl | rfl := zch h9 <;>
     simp (disch := omega) only [go_sem, seval, wqq, f2, f4, f5, f8, f29, f30, mW, zae, dv, sm, pI0, mG, mG0, sG, sG0, lG, lqq]
  ·obtain rfl : i = 9 := by omega
   obtain ⟨rfl, rfl⟩ := good hlo
   simp (disch := omega) only [go_sem, seval, wqq, f2, f4, f5, f8, f29, f30, cQ9, mG, mG0, sG, sG0, lG, lqq]
end Go.Eng
