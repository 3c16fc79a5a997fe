/- The engine and the contracts on which the statement stands: no conditions of its own. -/
import Derived.Test.YtfkpdmnabhejpaaGreatDoorMine5
set_option linter.unusedSimpArgs false
set_option linter.unusedVariables false
set_option linter.unusedSectionVars false
namespace Go.Eng
@[go_sem] theorem zse (M : PM) (d : Nat) (f : FQ) : fz M (d + 1 + 1) (rfQ f) = some (rfQ f, []) := _root_.id rfl
@[go_sem] theorem znv (f : FQ) : (rfQ f).cells = [.b (decide (f.p.v < 0)), T f.p.v.natAbs, .b (decide (f.q.v < 0)), T f.q.v.natAbs] := _root_.id rfl
@[go_sem] theorem zpo (f : FQ) : rfP f.p.v f.q.v = rfQ f := _root_.id rfl
def pk (xs : List Int) (i : Int) : Int := if i < 0 ∨ (xs.length : Int) ≤ i then 0 else xs.getD i.toNat 0
theorem zc5 {xs : List Int} (hx : Ints xs) (i : Int) : Fits64 (pk xs i) := by
 unfold pk
 by_cases h : i < 0 ∨ (xs.length : Int) ≤ i
 ·rw [if_pos h]; decide
 ·rw [if_neg h]
  have hl : i.toNat < xs.length := by omega
  exact hx.2 _ (by simp [hl])
theorem zpk {xs : List Int} (hx : Ints xs) {i : Int} (hi : Fits64 i) : pf E0 180 [ints xs, .i .i64 i] = some (.i .i64 (pk xs i)) := by
 refine zab (xf := x_r04_Pick) rfl (by simp [x_r04_Pick]) ?_
 simp only [x_r04_Pick]
 obtain ⟨hx1, hx2⟩ := hx
 unfold pk
 by_cases h : i < 0
 ·rw [if_pos (.inl h)]
  simp (disch := omega) only [go_sem, seval, wqq, h]
 ·by_cases h' : (xs.length : Int) ≤ i
  ·rw [if_pos (.inr h')]
   have q1 : (i ≥ (xs.length : Int)) = True := by simp; omega
   simp (disch := omega) only [go_sem, seval, wqq, h, q1]
  ·rw [if_neg (by omega)]
   have q1 : (i ≥ (xs.length : Int)) = False := by simp; omega
   obtain ⟨j, rfl⟩ : ∃ j : Nat, i = j := ⟨i.toNat, by omega⟩
   have hl : j < xs.length := by omega
   have hg : xs[j]? = some (xs.getD j 0) := by simp [hl]
   simp (disch := omega) only [go_sem, seval, wqq, h, q1, zdE hg, Int.toNat_natCast]
def mulN (x : Int) : Nat → Int
 | 0 => x
 | n + 1 => mulN x n * 1000000007
theorem zdQ (x : Int) : ∀ n, tlen (mulN x n).natAbs ≤ tlen x.natAbs + 3 * n
 | 0 => Nat.le_refl _
 | n + 1 => by
  have h1 := zdQ x n
  have h2 := zba (mulN x n) 1000000007
  have h3 : tlen (1000000007 : Int).natAbs ≤ 3 := zak (by decide)
  show tlen (mulN x n * 1000000007).natAbs ≤ _
  omega
def numF (a b : Int) : Int := if a % 7 < 4 then b.tmod 60 else if a % 7 < 6 then b else mulN (b + 3) ((a.tdiv 7).tmod 40).toNat
theorem zc7 (a : Int) {n : Int} (h : 0 < n) : -n < a.tmod n ∧ a.tmod n < n := by
 have h1 := Int.tmod_lt_of_pos a h
 have h2 := Int.lt_tmod_of_pos a h
 omega
theorem zgr {b : Int} (a : Int) (hb : Fits64 b) : tlen (numF a b).natAbs ≤ 122 := by
 unfold Fits64 at hb
 have h1 := zc7 b (n := 60) (by omega)
 have h2 := zc7 (a.tdiv 7) (n := 40) (by omega)
 have h3 := zdQ (b + 3) ((a.tdiv 7).tmod 40).toNat
 have h4 : tlen (b + 3).natAbs ≤ 5 := zak (by omega)
 unfold numF
 split
 ·exact Nat.le_trans (zoL (by omega)) (by omega)
 ·split
  ·have : tlen b.natAbs ≤ 5 := zak (by omega)
   omega
  ·omega
theorem zeg {a b : Int} (ha : Fits64 a) (hb : Fits64 b) : pf E0 179 [.i .i64 a, .i .i64 b] = some (nP (numF a b)) := by
 have hb' := hb
 unfold Fits64 at ha hb'
 have h1 := zc7 b (n := 60) (by omega)
 have h2 := zc7 (a.tdiv 7) (n := 40) (by omega)
 have h4 : tlen (b + 3).natAbs ≤ 5 := zak (by omega)
 have k0 : a % 7 = if a.tmod 7 < 0 then a.tmod 7 + 7 else a.tmod 7 := by
  have e1 := Int.mul_tdiv_add_tmod a 7
  have e2 := zc7 a (n := 7) (by omega)
  split <;> omega
 have k1 := zc7 a (n := 7) (by omega)
 have r1 := zhg (b.tmod 60) (by unfold Fits64; omega)
 have r2 := zhg b hb
 have r3 := zhg 3 (by decide)
 have r4 := zhg 1000000007 (by decide)
 have r5 := zkY b 3 (by have : tlen b.natAbs ≤ 5 := zak (by omega); omega) (by have : tlen (3 : Int).natAbs ≤ 1 := zak (by decide); omega)
 have l3 := zdQ (b + 3)
 refine zab (xf := x_r04_Number) rfl (by simp [x_r04_Number]) ?_
 simp only [x_r04_Number]
 unfold numF
 rw [k0]
 obtain ⟨m, hm⟩ : ∃ m : Int, m = a.tmod 7 := ⟨_, rfl⟩
 obtain ⟨n, hn⟩ : ∃ n : Int, n = (a.tdiv 7).tmod 40 := ⟨_, rfl⟩
 rw [← hm] at k1
 rw [← hn] at h2
 simp only [← hm, ← hn]
 have hm' := hm.symm
 have hn' := hn.symm
 have e7 := Int.mul_tdiv_add_tmod a 7
 obtain ⟨d, hd⟩ : ∃ d : Int, a.tdiv 7 = d := ⟨_, rfl⟩
 rw [hd] at hn' e7
 rw [hm'] at e7
 have hT : tlen (1000000007 : Int).natAbs ≤ 3 := zak (by decide)
 by_cases hm0 : m < 0
 ·rw [if_pos hm0]
  by_cases c4 : m + 7 < 4
  ·rw [if_pos c4]
   simp (disch := omega) only [go_sem, seval, wqq, hm', hm0, c4, r1]
  ·rw [if_neg c4]
   by_cases c6 : m + 7 < 6
   ·rw [if_pos c6]
    simp (disch := omega) only [go_sem, seval, wqq, hm', hm0, c4, c6, r2]
   ·rw [if_neg c6]
    simp (disch := omega) only [go_sem, seval, wqq, hm', hm0, c4, c6, r2, r3, r5]
    refine zas x_r04_Number_l1.eq_1 (fun (i : Nat) fr M => i ≤ n.toNat ∧ fr 0 = .i .i64 a ∧ fr 4 = .p 0 0 ∧ fr 6 = .p 1 0 ∧ fr 7 = (PV.i .i64 ((i : Nat) : Int)) ∧ ∃ v, M = [some ⟨[.b false, .nl], true, 0⟩, some ⟨(nP (mulN (b + 3) i)).cells, true, v⟩]) (fun i => n.toNat - i) ?_ 0 ⟨by omega, by simp only [go_sem, seval], by simp only [go_sem, seval], by simp only [go_sem, seval], by simp only [go_sem, seval], _, rfl⟩
    rintro i fr M ⟨hi, f0, f4, f6, f7, v, rfl⟩ ih
    have li := l3 i
    by_cases hin : (i : Int) < n
    ·have q1 : ((i : Int) < n) = True := by simp [hin]
     have mm := zk0 (mulN (b + 3) i) 1000000007 (by omega) (by omega)
     have e1 : mulN (b + 3) i * 1000000007 = mulN (b + 3) (i + 1) := rfl
     rw [e1] at mm
     generalize hX : mulN (b + 3) i = X at *
     generalize hY : mulN (b + 3) (i + 1) = Y at *
     simp (disch := omega) only [go_sem, seval, wqq, f0, f4, f6, f7, hd, hn', q1]
     refine zay [6] rfl (by simp only [go_sem, seval, f6]) ?_
     simp (disch := omega) only [go_sem, seval, wqq, f6, f7, r4, mm]
     exact ih (i + 1) _ _ (by omega) ⟨by omega, by simp only [go_sem, seval, f0], by simp only [go_sem, seval, f4], by simp only [go_sem, seval, f6], by simp only [go_sem, seval]; rw [Int.natCast_succ], _, by rw [hY]; rfl⟩
    ·have q1 : ((i : Int) < n) = False := by simp [hin]
     obtain rfl : i = n.toNat := by omega
     generalize mulN (b + 3) n.toNat = X at *
     simp (disch := omega) only [go_sem, seval, wqq, f0, f4, f6, f7, hd, hn', q1]
 ·rw [if_neg hm0]
  by_cases c4 : m < 4
  ·rw [if_pos c4]
   simp (disch := omega) only [go_sem, seval, wqq, hm', hm0, c4, r1]
  ·rw [if_neg c4]
   by_cases c6 : m < 6
   ·rw [if_pos c6]
    simp (disch := omega) only [go_sem, seval, wqq, hm', hm0, c4, c6, r2]
   ·rw [if_neg c6]
    simp (disch := omega) only [go_sem, seval, wqq, hm', hm0, c4, c6, r2, r3, r5]
    refine zas x_r04_Number_l1.eq_1 (fun (i : Nat) fr M => i ≤ n.toNat ∧ fr 0 = .i .i64 a ∧ fr 4 = .p 0 0 ∧ fr 6 = .p 1 0 ∧ fr 7 = (PV.i .i64 ((i : Nat) : Int)) ∧ ∃ v, M = [some ⟨[.b false, .nl], true, 0⟩, some ⟨(nP (mulN (b + 3) i)).cells, true, v⟩]) (fun i => n.toNat - i) ?_ 0 ⟨by omega, by simp only [go_sem, seval], by simp only [go_sem, seval], by simp only [go_sem, seval], by simp only [go_sem, seval], _, rfl⟩
    rintro i fr M ⟨hi, f0, f4, f6, f7, v, rfl⟩ ih
    have li := l3 i
    by_cases hin : (i : Int) < n
    ·have q1 : ((i : Int) < n) = True := by simp [hin]
     have mm := zk0 (mulN (b + 3) i) 1000000007 (by omega) (by omega)
     have e1 : mulN (b + 3) i * 1000000007 = mulN (b + 3) (i + 1) := rfl
     rw [e1] at mm
     generalize hX : mulN (b + 3) i = X at *
     generalize hY : mulN (b + 3) (i + 1) = Y at *
     simp (disch := omega) only [go_sem, seval, wqq, f0, f4, f6, f7, hd, hn', q1]
     refine zay [6] rfl (by simp only [go_sem, seval, f6]) ?_
     simp (disch := omega) only [go_sem, seval, wqq, f6, f7, r4, mm]
     exact ih (i + 1) _ _ (by omega) ⟨by omega, by simp only [go_sem, seval, f0], by simp only [go_sem, seval, f4], by simp only [go_sem, seval, f6], by simp only [go_sem, seval]; rw [Int.natCast_succ], _, by rw [hY]; rfl⟩
    ·have q1 : ((i : Int) < n) = False := by simp [hin]
     obtain rfl : i = n.toNat := by omega
     generalize mulN (b + 3) n.toNat = X at *
     simp (disch := omega) only [go_sem, seval, wqq, f0, f4, f6, f7, hd, hn', q1]
theorem zkP {P Q : Int} {n : Nat} (hq : Q ≠ 0) (hp : tlen P.natAbs ≤ n) (hl : tlen Q.natAbs ≤ n) (hn : n < 1230) : ∃ f : FQ, f.p.v = lowP P Q ∧ f.q.v = lowQ P Q ∧ fsz n f := by
 have t1 := Nat.le_trans (zat (zeD (p := P) hq)) hp
 have t2 := Nat.le_trans (zat (zeE (p := P) hq)) hl
 exact ⟨⟨⟨lowP P Q, znQ (zco (by omega))⟩, ⟨lowQ P Q, znQ (zco (by omega))⟩, zcZ hq, zdG hq⟩, rfl, rfl, t1, t2⟩
theorem zgF {xs : List Int} (hx : Ints xs) {i : Int} (h0 : 0 ≤ i) (h1 : i ≤ 100) : ∃ f : FQ, fsz 122 f ∧ pf E0 187 [ints xs, .i .i64 i] = some (rfQ f) := by
 have a0 := zpk hx (i := i) (by unfold Fits64; omega)
 have a1 := zpk hx (i := i + 1) (by unfold Fits64; omega)
 have a2 := zpk hx (i := i + 2) (by unfold Fits64; omega)
 have a3 := zpk hx (i := i + 3) (by unfold Fits64; omega)
 have n1 := zeg (zc5 hx i) (zc5 hx (i + 1))
 have n2 := zeg (zc5 hx (i + 2)) (zc5 hx (i + 3))
 have l1 := zgr (pk xs i) (zc5 hx (i + 1))
 have l2 := zgr (pk xs (i + 2)) (zc5 hx (i + 3))
 generalize numF (pk xs i) (pk xs (i + 1)) = P at *
 generalize numF (pk xs (i + 2)) (pk xs (i + 3)) = Q at *
 generalize pk xs i = y0 at *
 generalize pk xs (i + 1) = y1 at *
 generalize pk xs (i + 2) = y2 at *
 generalize pk xs (i + 3) = y3 at *
 have o1 := zhg 1 (by decide)
 have t1 : tlen (1 : Int).natAbs ≤ 1 := zak (by decide)
 by_cases hq : Q = 0
 ·obtain ⟨f, f1, f2, f3⟩ := zkP (P := P) (Q := 1) (n := 122) (by decide) l1 (by omega) (by omega)
  refine ⟨f, f3, ?_⟩
  have mk := zgG P 1 (by decide) (by omega) (by omega)
  rw [zk9 f1 f2] at mk
  have t0 : ((tlen Q.natAbs : Int) = 0) = True := by rw [hq, Int.natAbs_zero, zbb]; simp
  clear hq f1 f2
  obtain ⟨k, hk⟩ : ∃ k : Int, nP k = nP 1 := ⟨1, rfl⟩
  rw [← hk] at mk o1
  clear hk
  refine zab (xf := x_r04_Frac) rfl (by simp [x_r04_Frac]) ?_
  simp only [x_r04_Frac]
  simp (disch := omega) only [go_sem, seval, wqq, a2, a3, n2, t0, o1]
  refine zay [5] rfl (by simp only [go_sem, seval]) ?_
  simp (disch := omega) only [go_sem, seval, wqq, a0, a1, n1, mk]
 ·obtain ⟨f, f1, f2, f3⟩ := zkP (P := P) (Q := Q) (n := 122) hq l1 l2 (by omega)
  refine ⟨f, f3, ?_⟩
  have mk := zgG P Q hq (by omega) (by omega)
  rw [zk9 f1 f2] at mk
  have t0 : ((tlen Q.natAbs : Int) = 0) = False := by have := zaZ (v := Q.natAbs) (by omega); simp; omega
  refine zab (xf := x_r04_Frac) rfl (by simp [x_r04_Frac]) ?_
  simp only [x_r04_Frac]
  simp (disch := omega) only [go_sem, seval, wqq, a2, a3, n2, t0]
  refine zay [5] rfl (by simp only [go_sem, seval]) ?_
  simp (disch := omega) only [go_sem, seval, wqq, a0, a1, n1, mk]
end Go.Eng
namespace Go.Eng
end Go.Eng
namespace Go.Eng
end Go.Eng
namespace Go.Eng
theorem zfC (x : WI) : (decI x.v).length < 4611686018427387904 := by have := zcW x; omega
theorem zie (f : FQ) : pf E0 24 [wiP f.p, wiP f.q] = some (.tu [fqP f, .i .i64 0]) := by
 have hq := f.q1
 obtain ⟨g, g1, g2, mk⟩ := zgz f.p f.q (by omega)
 obtain ⟨l1, l2⟩ := zdn (p := f.p.v) (q := f.q.v) (by omega) f.cop
 have hg : g = f := zhW (g1.trans l1) (g2.trans l2)
 rw [hg] at mk; exact mk
end Go.Eng
namespace Go.Eng
theorem zgn {f : FQ} {n d p q : Int} (hd : d ≠ 0) (hq : 0 < q) (hc : Nat.gcd p.natAbs q.natAbs = 1) (hf : f.is n d) (e : n * q = p * d) : f.p.v = p ∧ f.q.v = q := by
 unfold FQ.is at hf
 have q1 := f.q1
 refine zcI (by omega) hq f.cop hc ?_
 apply Int.eq_of_mul_eq_mul_right (a := d) hd
 calc f.p.v * q * d = f.p.v * d * q := by grind
  _ = n * f.q.v * q := by rw [hf]
  _ = n * q * f.q.v := by grind
  _ = p * d * f.q.v := by rw [e]
  _ = p * f.q.v * d := by grind
theorem zhR {z : Int} {v n : Nat} (hz : z = (v : Int)) (h1 : 10 ^ n ≤ v) (h2 : v < 10 ^ (n + 1)) : decI z = dtx (n + 1) v := by
 subst hz
 unfold decI; rw [if_neg (by omega), Int.natAbs_natCast]
 exact zjv h1 h2
theorem zgX (f : FQ) {p q : Int} {t : List UInt8} (h1 : f.p.v = p) (h2 : f.q.v = q) (ht : ftx p q = t) : pf E0 16 [fqP f] = some (.s t) := by
 rw [← ht, ← h1, ← h2]; exact ziH f
end Go.Eng
namespace Go.Eng
theorem zjl {f g h : FQ} {n d m e : Int} (hf : f.is n d) (hg : g.is m e) (hh : h.is (f.p.v * g.q.v + g.p.v * f.q.v) (f.q.v * g.q.v)) : h.is (n * e + m * d) (d * e) := by
 have qf := f.q1
 have qg := g.q1
 unfold FQ.is at *
 apply Int.eq_of_mul_eq_mul_right (a := f.q.v * g.q.v) (Int.mul_ne_zero (by omega) (by omega))
 calc h.p.v * (d * e) * (f.q.v * g.q.v) = h.p.v * (f.q.v * g.q.v) * (d * e) := by grind
  _ = (f.p.v * g.q.v + g.p.v * f.q.v) * h.q.v * (d * e) := by rw [hh]
  _ = (f.p.v * d * g.q.v * e + g.p.v * e * f.q.v * d) * h.q.v := by grind
  _ = (n * f.q.v * g.q.v * e + m * g.q.v * f.q.v * d) * h.q.v := by rw [hf, hg]
  _ = (n * e + m * d) * h.q.v * (f.q.v * g.q.v) := by grind
theorem zjR {f g h : FQ} {n d m e : Int} (hf : f.is n d) (hg : g.is m e) (hh : h.is (f.p.v * g.p.v) (f.q.v * g.q.v)) : h.is (n * m) (d * e) := by
 have qf := f.q1
 have qg := g.q1
 unfold FQ.is at *
 apply Int.eq_of_mul_eq_mul_right (a := f.q.v * g.q.v) (Int.mul_ne_zero (by omega) (by omega))
 calc h.p.v * (d * e) * (f.q.v * g.q.v) = h.p.v * (f.q.v * g.q.v) * (d * e) := by grind
  _ = f.p.v * g.p.v * h.q.v * (d * e) := by rw [hh]
  _ = f.p.v * d * (g.p.v * e) * h.q.v := by grind
  _ = n * f.q.v * (m * g.q.v) * h.q.v := by rw [hf, hg]
  _ = n * m * h.q.v * (f.q.v * g.q.v) := by grind
theorem zkB (a b : FQ) {n m : Nat} {x d y e : Int} (ha : fsz n a) (hb : fsz m b) (h : n + m + 1 < 1230) (xa : a.is x d) (xb : b.is y e) : ∃ f : FQ, pf E0 9 [fqP a, fqP b] = some (.tu [fqP f, .i .i64 0]) ∧ f.is (x * e + y * d) (d * e) ∧ fsz (n + m + 1) f := by
 obtain ⟨f, h1, h2, h3⟩ := znh a b ha hb h
 exact ⟨f, h1, zjl xa xb h2, h3⟩
theorem zkQ (a b : FQ) {n m : Nat} {x d y e : Int} (ha : fsz n a) (hb : fsz m b) (h : n + m < 1230) (xa : a.is x d) (xb : b.is y e) : ∃ f : FQ, pf E0 8 [fqP a, fqP b] = some (.tu [fqP f, .i .i64 0]) ∧ f.is (x * y) (d * e) ∧ fsz (n + m) f := by
 obtain ⟨f, h1, h2, h3⟩ := znV a b ha hb h
 exact ⟨f, h1, zjR xa xb h2, h3⟩
end Go.Eng
namespace Go.Eng
theorem zfI {f : FQ} {n d n' d' : Int} (hd : d ≠ 0) (h : f.is n d) (e : n * d' = n' * d) : f.is n' d' := by
 unfold FQ.is at *
 apply Int.eq_of_mul_eq_mul_right hd
 calc f.p.v * d' * d = f.p.v * d * d' := by grind
  _ = n * f.q.v * d' := by rw [h]
  _ = n * d' * f.q.v := by grind
  _ = n' * d * f.q.v := by rw [e]
  _ = n' * f.q.v * d := by grind
end Go.Eng

namespace Go.Eng
end Go.Eng
namespace Go.Eng
theorem zf6 {f g h : FQ} {n d m e : Int} (hf : f.is n d) (hg : g.is m e) (hm : g.p.v ≠ 0) (hh : h.is (f.p.v * g.q.v) (f.q.v * g.p.v)) : h.is (n * e) (d * m) := by
 have qf := f.q1
 have qg := g.q1
 unfold FQ.is at *
 apply Int.eq_of_mul_eq_mul_right (a := f.q.v * g.q.v * g.p.v) (Int.mul_ne_zero (Int.mul_ne_zero (by omega) (by omega)) hm)
 calc h.p.v * (d * m) * (f.q.v * g.q.v * g.p.v) = h.p.v * (f.q.v * g.p.v) * (d * (m * g.q.v)) := by grind
  _ = f.p.v * g.q.v * h.q.v * (d * (g.p.v * e)) := by rw [hh, hg]
  _ = f.p.v * d * (g.q.v * h.q.v * (g.p.v * e)) := by grind
  _ = n * f.q.v * (g.q.v * h.q.v * (g.p.v * e)) := by rw [hf]
  _ = n * e * h.q.v * (f.q.v * g.q.v * g.p.v) := by grind
def nbits (k : Nat) : Nat := if k = 0 then 0 else Nat.log2 k + 1
theorem zc0 {k : Nat} (h : k ≠ 0) : nbits k = nbits (k / 2) + 1 := by
 unfold nbits
 rw [if_neg h]
 by_cases h2 : 2 ≤ k
 ·rw [if_neg (by omega), Nat.log2_def k, if_pos h2]
 ·have : k = 1 := by omega
  subst this; rfl
theorem zcL {k n : Nat} (h : k < 2 ^ n) : nbits k ≤ n := by
 unfold nbits
 split
 ·omega
 ·rename_i h0
  have := (Nat.log2_lt h0).2 h
  omega
end Go.Eng
namespace Go.Eng
end Go.Eng
namespace Go.Eng
structure TerOk (X Y S : Int) (C R : Nat) (hs : List Int) : Prop where
 c : 2 ≤ C ∧ C ≤ 128
 r : 2 ≤ R ∧ R ≤ 128
 s : 1 ≤ S ∧ S ≤ 65536
 x : -1048576 ≤ X ∧ X + (C - 1) * S ≤ 1048576
 y : -1048576 ≤ Y ∧ Y + (R - 1) * S ≤ 1048576
 len : hs.length = C * R
 h : ∀ n ∈ hs, -16384 ≤ n ∧ n ≤ 16384
theorem TerOk.ints {X Y S : Int} {C R : Nat} {hs : List Int} (t : TerOk X Y S C R hs) : Ints hs := by
 refine ⟨?_, fun n hn => ?_⟩
 ·have : C * R ≤ 128 * 128 := Nat.mul_le_mul t.c.2 t.r.2
  rw [t.len]; omega
 ·have := t.h n hn
  unfold Fits64; omega
end Go.Eng
namespace Go.Eng
end Go.Eng
namespace Go.Eng
end Go.Eng
namespace Go.Eng
end Go.Eng
namespace Go.Eng
end Go.Eng
namespace Go.Eng
end Go.Eng
namespace Go.Eng
end Go.Eng
namespace Go.Eng
end Go.Eng
namespace Go.Eng
theorem zdx (a b : Int) : (0 ≤ cmpI a b) = (b ≤ a) := by
 unfold cmpI
 simp only [eq_iff_iff]
 split
 ·omega
 ·split <;> omega
end Go.Eng

namespace Go.Eng
end Go.Eng
namespace Go.Eng
theorem zim {k m : Nat} (h : 2 ^ m ≤ k) : nbits k = nbits (k / 2 ^ m) + m := by
 induction m with
 | zero => simp
 | succ m ih =>
  have h1 : 2 ^ m ≤ k := Nat.le_trans (Nat.pow_le_pow_right (by decide) (Nat.le_succ m)) h
  have h2 : k / 2 ^ m ≠ 0 := by
   have := Nat.div_pos h1 (Nat.pow_pos (by decide))
   omega
  have e : k / 2 ^ m / 2 = k / 2 ^ (m + 1) := by rw [Nat.div_div_eq_div_mul, ← Nat.pow_succ]
  have h3 := zc0 h2
  rw [e] at h3
  have h4 := ih h1
  omega
theorem zil : nbits 1 = 1 := by unfold nbits; rw [if_neg (by decide)]; rfl
def pw (i : Nat) : Nat := 2 ^ (2 ^ i)
theorem zfl (i : Nat) : 0 < pw i := Nat.pow_pos (by decide)
theorem zoz (i : Nat) : 2 ≤ pw i := by
 unfold pw
 have : 2 ^ 1 ≤ 2 ^ (2 ^ i) := Nat.pow_le_pow_right (by decide) (Nat.one_le_two_pow)
 omega
theorem zfR (i : Nat) : pw (i + 1) = pw i * pw i := by
 unfold pw
 rw [← Nat.pow_add, Nat.pow_succ]
 congr 1
 omega
theorem ziV : pw 0 = 2 := rfl
theorem zha {x i : Nat} (h : pw i ≤ x) : nbits x = nbits (x / pw i) + 2 ^ i := zim h
theorem zoy {x i : Nat} (h : x < pw (i + 1)) : x / pw i < pw i := by
 rw [zfR] at h
 exact Nat.div_lt_of_lt_mul h
theorem zmI {x i : Nat} (h : pw i ≤ x) : 1 ≤ x / pw i := Nat.div_pos h (zfl i)
end Go.Eng
namespace Go.Eng
theorem zkd (i : Nat) : pw i < pw (i + 1) := by
 rw [zfR]
 have := zoz i
 have h2 : pw i * 2 ≤ pw i * pw i := Nat.mul_le_mul_left _ this
 omega
theorem zgm {i : Nat} (h : inR (pw i)) : i < 14 := by
 rcases Nat.lt_or_ge i 14 with q | q
 ·exact q
 ·exfalso
  obtain ⟨K, hK⟩ : ∃ K, K = 16384 := ⟨_, rfl⟩
  obtain ⟨a, ha⟩ : ∃ a, a = 14 := ⟨_, rfl⟩
  rw [← ha] at q
  have h1 : 2 ^ a ≤ 2 ^ i := Nat.pow_le_pow_right (by decide) q
  have h2 : 2 ^ (2 ^ a) ≤ pw i := Nat.pow_le_pow_right (by decide) h1
  have e : 2 ^ a = K := by rw [hK, ha]
  rw [e] at h2
  unfold inR at h
  rw [← hK] at h
  omega
theorem zd4 {a b : Nat} (h : a ≤ b) (hb : inR b) : inR a := Nat.lt_of_le_of_lt h hb
noncomputable def pwI (i : Nat) : WI := clip ((pw i : Nat) : Int)
theorem zhj {i : Nat} (h : inR (pw i)) : (pwI i).v = ((pw i : Nat) : Int) := (zdF (z := ((pw i : Nat) : Int)) (by rw [Int.natAbs_natCast]; exact h)).1
noncomputable def pwL : Nat → List PV
 | 0 => []
 | j + 1 => pwL j ++ [.b (decide ((pwI j).v < 0)), D (pwI j).v.natAbs]
theorem zeL : ∀ j, (pwL j).length = 2 * j
 | 0 => rfl
 | j + 1 => by rw [pwL, List.length_append, zeL j]; simp; omega
theorem zk5 : ∀ {j i : Nat}, i < j → ((pwL j).drop (i * 2)).take 2 = [.b (decide ((pwI i).v < 0)), D (pwI i).v.natAbs]
 | 0, i, h => by omega
 | j + 1, i, h => by
  have hl := zeL j
  rw [pwL]
  by_cases hi : i < j
  ·rw [List.drop_append_of_le_length (by omega), List.take_append_of_le_length (by simp; omega)]
   exact zk5 hi
  ·obtain rfl : i = j := by omega
   rw [List.drop_left' (show (pwL i).length = i * 2 by omega)]; rfl
theorem zpL (P : PM) (L : List PV) (w1 w2 : PV) (r1 r2 : Option PB) {j : Nat} (hl : L.length = 2 * j) (hj : j ≤ 100) (h0 : 0 < j) : appP (P ++ [some ⟨L, true, 0⟩, r1, r2, some ⟨[w1, w2], true, 0⟩]) 2 32 (.sl P.length 0 j j 2) (.sl (P.length + 3) 0 1 1 2) =
  some (.sl (P.length + 4) 0 (j + 1) (j + 1) 2, P ++ [none, r1, r2, some ⟨[w1, w2], true, 0⟩, some ⟨L ++ [w1, w2], true, 0⟩]) := by
 have es : srcP (P ++ [some (⟨L, true, 0⟩ : PB), r1, r2, some (⟨[w1, w2], true, 0⟩ : PB)]) 2 (.sl (P.length + 3) 0 1 1 2) = some (1, [w1, w2]) := by
  simp only [srcP, PM.rd, mG]
  rfl
 have e2 : PM.blk (P ++ [some (⟨L, true, 0⟩ : PB), r1, r2, some (⟨[w1, w2], true, 0⟩ : PB)]) P.length = some (⟨L, true, 0⟩ : PB) := by rw [mG0]; rfl
 unfold appP
 rw [es]
 simp only [e2]
 rw [if_neg (by simp), if_neg (by decide), if_pos ⟨trivial, by rw [hl]; omega, by omega⟩, sG0]
 simp only [List.drop_zero, List.set_cons_zero, lqq, List.length_append, List.length_cons, List.length_nil]
 rw [List.take_of_length_le (by omega)]
theorem zmR {i : Nat} (h : i < 14) : binP .shl (.i .i64 1) (.i .i64 (i : Int)) = some (.i .i64 ((2 ^ i : Nat) : Int)) := by
 have h1 : 2 ^ i ≤ 2 ^ 13 := Nat.pow_le_pow_right (by decide) (by omega)
 rw [zht _ _ _ _ (by omega), Int.toNat_natCast, show min i (IntKind.bits .i64) = i by simp only [IntKind.bits]; omega, Int.one_mul]
 have e : (2 : Int) ^ i = ((2 ^ i : Nat) : Int) := by simp
 rw [e]
 generalize 2 ^ i = t at *
 rw [wqa (by omega) (by omega)]
set_option maxHeartbeats 2000000 in
theorem zkG {F : PFin} {ks : List KI} {K J : Nat} {x0 : WI} (hR : inR K) (hx0 : x0.v = (K : Int)) (hK : 1 ≤ K) (hlt : K < pw J) (hJ : J = 0 ∨ pw (J - 1) ≤ K) {G R : PM} {fr : PFr} {v : Nat}
  (f1 : fr 1 = .p 0 0) (f3 : fr 3 = (PV.i .i64 ((0 : Nat) : Int))) (f6 : fr 6 = if J = 0 then .nl else .sl (G.length + 1) 0 J J 2) (f10 : fr 10 = .i .i64 ((J : Int) - 1))
  (cont : ∀ fr' v' (y : WI), y.v = 1 → fr' 1 = .p 0 0 → fr' 3 = .i .i64 ((nbits K : Int) - 1) → UK E0 F (.exit 4) ks fr' (some ⟨[.b (decide (y.v < 0)), D y.v.natAbs], true, v'⟩ :: (G ++ (some ⟨pwL J, true, 0⟩ :: R)))) :
  WK E0 F (.loop x_poly_digits_l3) ks fr (some ⟨[.b (decide (x0.v < 0)), D x0.v.natAbs], true, v⟩ :: (G ++ (some ⟨pwL J, true, 0⟩ :: R))) := by
 have hnb : nbits K ≤ 16384 := by
  obtain ⟨q, hq⟩ : ∃ q, q = 16384 := ⟨_, rfl⟩
  unfold inR at hR
  rw [← hq] at hR ⊢
  exact zcL hR
 have hJ14 : ∀ i, i < J → i < 14 ∧ inR (pw i) := fun i hi => by
  have hm : ∀ d, pw i ≤ pw (i + d) := fun d => by
   induction d with
   | zero => exact Nat.le_refl _
   | succ d ih => exact Nat.le_trans ih (Nat.le_of_lt (zkd _))
  have h1 := hm (J - 1 - i)
  rw [show i + (J - 1 - i) = J - 1 by omega] at h1
  have h2 : inR (pw i) := zd4 (by omega) hR
  exact ⟨zgm h2, h2⟩
 refine zas x_poly_digits_l3.eq_1 (fun (i : Nat) fr M => i ≤ J ∧ ∃ (y : WI) (Y n v : Nat), y.v = (Y : Int) ∧ 1 ≤ Y ∧ Y < pw i ∧ nbits K = nbits Y + n ∧ fr 1 = .p 0 0 ∧ fr 3 = (PV.i .i64 ((n : Nat) : Int)) ∧ fr 6 = (if J = 0 then .nl else .sl (G.length + 1) 0 J J 2) ∧ fr 10 = .i .i64 ((i : Int) - 1) ∧
  M = some ⟨[.b (decide (y.v < 0)), D y.v.natAbs], true, v⟩ :: (G ++ (some ⟨pwL J, true, 0⟩ :: R))) (fun i => i) ?_ J ⟨Nat.le_refl _, x0, K, 0, v, hx0, hK, hlt, rfl, f1, f3, f6, f10, rfl⟩
 rintro i fr M ⟨hi, y, Y, n, v, hy, hY, hYi, hn, f1, f3, f6, f10, rfl⟩ ih
 cases i with
 | zero =>
  have hY1 : Y = 1 := by rw [ziV] at hYi; omega
  subst hY1
  have f3' : fr 3 = .i .i64 ((nbits K : Int) - 1) := by
   rw [f3, hn, zil]; congr 1; omega
  have q0 : ((((0 : Nat) : Int) - 1) ≥ 0) = False := eq_false (by omega)
  simp (disch := omega) only [go_sem, seval, wqq, f10, q0]
  exact cont _ v y hy (by simp only [go_sem, seval, f1]) (by simp only [go_sem, seval, f3'])
 | succ i =>
  obtain ⟨i14, iR⟩ := hJ14 i (by omega)
  have hJ0 : J ≠ 0 := by omega
  rw [if_neg hJ0] at f6
  have f6' := f6
  have f10 : fr 10 = (PV.i .i64 ((i : Nat) : Int)) := by rw [f10]; congr 1; omega
  have q0 : ((i : Int) ≥ 0) = True := eq_true (by omega)
  have pv := zhj iR
  have cm := zcc y (pwI i)
  rw [hy, pv] at cm
  have at_ := zk5 (j := J) (i := i) (by omega)
  have hl := zeL J
  have hiJ : (i < J) = True := eq_true (by omega)
  have h2i : (i * 2 + 2 ≤ 2 * J) = True := eq_true (by omega)
  by_cases hc : pw i ≤ Y
  ·have c0 : (cmpI ((Y : Nat) : Int) ((pw i : Nat) : Int) ≥ 0) = True := eq_true (by rw [ge_iff_le, zdx]; omega)
   simp (disch := omega) only [go_sem, seval, wqq, f1, f3, f6, f10, q0, cm, c0, hiJ, h2i, hl, at_, mG, mG0, sG, sG0, lG, lqq]
   have dv := ziz y (pwI i) (by rw [pv]; have := zfl i; omega)
   have dvv : (y.div (pwI i) (by rw [pv]; have := zfl i; omega)).v = ((Y / pw i : Nat) : Int) := by
    show y.v / (pwI i).v = _
    rw [hy, pv]; rfl
   generalize y.div (pwI i) (by rw [pv]; have := zfl i; omega) = y2 at *
   generalize y.mod (pwI i) (by rw [pv]; have := zfl i; omega) = y3 at *
   have sh := zmR i14
   have st := zha hc
   have p14 : 2 ^ i ≤ 2 ^ 14 := Nat.pow_le_pow_right (by decide) (by omega)
   have g1 := zoy hYi
   have g0 := zmI hc
   have hs : (n : Int) + ((2 ^ i : Nat) : Int) = ((n + 2 ^ i : Nat) : Int) := by push_cast; rfl
   generalize 2 ^ i = t at *
   simp (disch := omega) only [go_sem, seval, wqq, f1, f3, f6, f10, q0, cm, c0, hiJ, h2i, hl, at_, dv, sh, hs, mG, mG0, sG, sG0, lG, lqq]
   exact ih i _ _ (by omega) ⟨by omega, y2, Y / pw i, n + t, _, dvv, g0, g1, by omega, by simp only [go_sem, seval, f1], by simp only [go_sem, seval], by rw [if_neg hJ0]; simp only [go_sem, seval, f6], by simp only [go_sem, seval, f10], rfl⟩
  ·have c0 : (cmpI ((Y : Nat) : Int) ((pw i : Nat) : Int) ≥ 0) = False := eq_false (by rw [ge_iff_le, zdx]; omega)
   simp (disch := omega) only [go_sem, seval, wqq, f1, f3, f6, f10, q0, cm, c0, hiJ, h2i, hl, at_, mG, mG0, sG, sG0, lG, lqq]
   exact ih i _ _ (by omega) ⟨by omega, y, Y, n, _, hy, hY, by omega, by omega, by simp only [go_sem, seval, f1], by simp only [go_sem, seval, f3], by rw [if_neg hJ0]; simp only [go_sem, seval, f6], by simp only [go_sem, seval, f10], rfl⟩
end Go.Eng
namespace Go.Eng
theorem zmu (x : WI) (h : x.v.natAbs ≤ 9223372036854775807) : pf E0 63 [wiP x] = some (.i .i64 (nbits x.v.natAbs : Int)) := by
 have nb : nbits x.v.natAbs ≤ 63 := zcL (by omega)
 have fin : ∀ (y : WI), y.v = (x.v.natAbs : Int) → pf E0 80 [wiP y] = some (.tu [.i .i64 (x.v.natAbs : Int), .b true]) := fun y hy => by
  have sm := zeH y
  have s1 : isSmall (x.v.natAbs : Int) = true := by unfold isSmall; exact decide_eq_true ⟨by omega, by omega⟩
  have s2 : small (x.v.natAbs : Int) = (x.v.natAbs : Int) := by unfold small; rw [if_pos s1]
  rw [hy, s1, s2] at sm
  exact sm
 have sg := zbx x
 refine zab (xf := x_poly_digits) rfl (by simp [x_poly_digits]) ?_
 simp only [x_poly_digits]
 by_cases hn : x.v < 0
 ·have t0 : (cmpI x.v 0 < 0) = True := by rw [zdg]; simp [hn]
  have n1 := zj5 x
  have sm := fin x.neg (by show -x.v = _; omega)
  generalize x.neg = y at *
  generalize x.v.natAbs = K at *
  simp (disch := omega) only [go_sem, seval, wqq, sg, t0, n1, sm]
  refine zas x_poly_digits_l1.eq_1 (fun (σ : Nat × Nat) fr M => σ.1 + nbits σ.2 = nbits K ∧ σ.2 ≤ K ∧ fr 3 = (PV.i .i64 ((σ.1 : Nat) : Int)) ∧ fr 4 = (PV.i .i64 ((σ.2 : Nat) : Int))) (fun σ => σ.2) ?_ (0, K) ⟨by simp, Nat.le_refl _, by simp only [go_sem, seval], by simp only [go_sem, seval]⟩
  rintro ⟨n, k⟩ fr M ⟨hs, hk, f3, f4⟩ ih
  simp only at hs hk f3 f4
  by_cases hk0 : k = 0
  ·have q1 : ((k : Int) > 0) = False := by simp; omega
   have hN : n = nbits K := by rw [← hs, hk0]; rfl
   rw [← hN]
   simp (disch := omega) only [go_sem, seval, wqq, f3, f4, q1]
  ·have q1 : ((k : Int) > 0) = True := by simp; omega
   have k2 : (k : Int).tdiv 2 = ((k / 2 : Nat) : Int) := zbh _ 2
   have hh := zc0 hk0
   simp (disch := omega) only [go_sem, seval, wqq, f3, f4, q1, k2]
   exact ih (n + 1, k / 2) _ _ (by simp only; omega) ⟨by simp only; omega, by simp only; omega, by simp only [go_sem, seval]; rw [Int.natCast_succ], by simp only [go_sem, seval]⟩
 ·have t0 : (cmpI x.v 0 < 0) = False := by rw [zdg]; simp [hn]
  have sm := fin x (by omega)
  obtain ⟨K, hK⟩ : ∃ K : Nat, K = x.v.natAbs := ⟨_, rfl⟩
  rw [← hK] at sm nb ⊢
  have hKl : K ≤ 9223372036854775807 := by omega
  simp (disch := omega) only [go_sem, seval, wqq, sg, t0, sm]
  refine zas x_poly_digits_l1.eq_1 (fun (σ : Nat × Nat) fr M => σ.1 + nbits σ.2 = nbits K ∧ σ.2 ≤ K ∧ fr 3 = (PV.i .i64 ((σ.1 : Nat) : Int)) ∧ fr 4 = (PV.i .i64 ((σ.2 : Nat) : Int))) (fun σ => σ.2) ?_ (0, K) ⟨by simp, Nat.le_refl _, by simp only [go_sem, seval], by simp only [go_sem, seval]⟩
  rintro ⟨n, k⟩ fr M ⟨hs, hk, f3, f4⟩ ih
  simp only at hs hk f3 f4
  by_cases hk0 : k = 0
  ·have q1 : ((k : Int) > 0) = False := by simp; omega
   have hN : n = nbits K := by rw [← hs, hk0]; rfl
   rw [← hN]
   simp (disch := omega) only [go_sem, seval, wqq, f3, f4, q1]
  ·have q1 : ((k : Int) > 0) = True := by simp; omega
   have k2 : (k : Int).tdiv 2 = ((k / 2 : Nat) : Int) := zbh _ 2
   have hh := zc0 hk0
   simp (disch := omega) only [go_sem, seval, wqq, f3, f4, q1, k2]
   exact ih (n + 1, k / 2) _ _ (by simp only; omega) ⟨by simp only; omega, by simp only; omega, by simp only [go_sem, seval]; rw [Int.natCast_succ], by simp only [go_sem, seval]⟩
theorem zkR {j : Nat} (h : inR (pw j)) : pf E0 38 [wiP (pwI j), wiP (pwI j)] = some (.tu [wiP (pwI (j + 1)), .i .i64 (lerr ((pw (j + 1) : Nat) : Int))]) := by
 rw [ziB, zhj h, ← Int.natCast_mul, ← zfR]; rfl
theorem ztC (b0 b1 : Option PB) (w1 w2 : PV) : appP [b0, b1, some ⟨[w1, w2], true, 0⟩] 2 32 .nl (.sl 2 0 1 1 2) = some (.sl 3 0 1 1 2, [b0, b1, some ⟨[w1, w2], true, 0⟩, some ⟨[w1, w2], true, 0⟩]) := rfl
theorem znP {v K : Nat} (hK : K = 16384) (h : v < 2 ^ K) : inR v := by subst hK; exact h
theorem zh8 : inR (pw 1) := by
 obtain ⟨K, hK⟩ : ∃ K, K = 16384 := ⟨_, rfl⟩
 have h : pw 1 < 2 ^ K := Nat.lt_of_lt_of_le (show pw 1 < 2 ^ 3 by decide) (Nat.pow_le_pow_right (by decide) (by omega))
 exact znP hK h
set_option maxHeartbeats 2000000 in
theorem zkF {F : PFin} {ks : List KI} {K : Nat} {x0 : WI} (hR : inR K) (hx0 : x0.v = (K : Int)) (hK : 9223372036854775807 < K) {fr : PFr} {v : Nat} {v1 : Nat}
  (f1 : fr 1 = .p 0 0) (f3 : fr 3 = (PV.i .i64 ((0 : Nat) : Int))) (f6 : fr 6 = .nl) (f7 : fr 7 = .p 1 0)
  (cont : ∀ fr' (G : PM) (J : Nat), J ≠ 0 → fr' 1 = .p 0 0 → fr' 3 = (PV.i .i64 ((0 : Nat) : Int)) → fr' 6 = .sl (G.length + 1) 0 J J 2 → K < pw J → pw (J - 1) ≤ K → ∀ R, UK E0 F (.exit 2) ks fr' (some ⟨[.b (decide (x0.v < 0)), D x0.v.natAbs], true, v⟩ :: (G ++ (some ⟨pwL J, true, 0⟩ :: R)))) :
  WK E0 F (.loop x_poly_digits_l2) ks fr [some ⟨[.b (decide (x0.v < 0)), D x0.v.natAbs], true, v⟩, some ⟨[.b (decide ((pwI 0).v < 0)), D (pwI 0).v.natAbs], true, v1⟩] := by
 have R1 := zh8
 have R0 : inR (pw 0) := zd4 (Nat.le_of_lt (zkd 0)) R1
 have cm0 := zcc x0 (pwI 0)
 have c00 : (cmpI x0.v (pwI 0).v ≥ 0) = True := eq_true (by rw [ge_iff_le, zdx, hx0, zhj R0, ziV]; omega)
 have mu0 := zkR R0
 have le0 : lerr ((pw (0 + 1) : Nat) : Int) = 0 := (zdF (z := ((pw (0 + 1) : Nat) : Int)) (by rw [Int.natAbs_natCast]; exact R1)).2
 rw [le0] at mu0
 refine zad x_poly_digits_l2.eq_1 ?_
 simp (disch := omega) only [go_sem, seval, wqq, f1, f3, f6, f7, cm0, c00, mu0, ztC, zaE, zaj]
 refine zas x_poly_digits_l2.eq_1 (fun (j : Nat) fr M => 1 ≤ j ∧ inR (pw j) ∧ pw (j - 1) ≤ K ∧ fr 1 = .p 0 0 ∧ fr 3 = (PV.i .i64 ((0 : Nat) : Int)) ∧ ∃ (G : PM) (r : Option PB) (v2 : Nat), fr 6 = .sl (G.length + 1) 0 j j 2 ∧ fr 7 = .p (G.length + 3) 0 ∧
  M = some ⟨[.b (decide (x0.v < 0)), D x0.v.natAbs], true, v⟩ :: (G ++ [some ⟨pwL j, true, 0⟩, r, some ⟨[.b (decide ((pwI j).v < 0)), D (pwI j).v.natAbs], true, v2⟩])) (fun j => K + 1 - pw (j - 1)) ?_ 1
  ⟨Nat.le_refl _, R1, by rw [show pw (1 - 1) = 2 from rfl]; omega, by simp only [go_sem, seval, f1], by simp only [go_sem, seval, f3], [_, _], _, _, by simp only [go_sem, seval], by simp only [go_sem, seval], rfl⟩
 rintro j fr M ⟨hj, jR, hjK, f1, f3, G, r, v2, f6, f7, rfl⟩ ih
 have j14 := zgm jR
 have cm := zcc x0 (pwI j)
 by_cases hc : pw j ≤ K
 ·have c0 : (cmpI x0.v (pwI j).v ≥ 0) = True := eq_true (by rw [ge_iff_le, zdx, hx0, zhj jR]; omega)
  have mu := zkR jR
  have apx : ∀ b0 : Option PB, appP (b0 :: (G ++ [some ⟨pwL j, true, 0⟩, r, some ⟨[.b (decide ((pwI j).v < 0)), D (pwI j).v.natAbs], true, v2⟩, some ⟨[PV.b (decide ((pwI j).v < 0)), D (pwI j).v.natAbs], true, 0⟩])) 2 32 (.sl (G.length + 1) 0 j j 2) (.sl (G.length + 4) 0 1 1 2) =
   some (.sl (G.length + 5) 0 (j + 1) (j + 1) 2, b0 :: (G ++ [none, r, some ⟨[.b (decide ((pwI j).v < 0)), D (pwI j).v.natAbs], true, v2⟩, some ⟨[PV.b (decide ((pwI j).v < 0)), D (pwI j).v.natAbs], true, 0⟩, some ⟨pwL (j + 1), true, 0⟩])) := fun b0 =>
   zpL (b0 :: G) (pwL j) _ _ r (some ⟨[.b (decide ((pwI j).v < 0)), D (pwI j).v.natAbs], true, v2⟩) (zeL j) (by omega) (by omega)
  by_cases hn : inR (pw (j + 1))
  ·have le1 : lerr ((pw (j + 1) : Nat) : Int) = 0 := (zdF (z := ((pw (j + 1) : Nat) : Int)) (by rw [Int.natAbs_natCast]; exact hn)).2
   rw [le1] at mu
   simp (disch := omega) only [go_sem, seval, wqq, f1, f3, f6, f7, cm, c0, mu, apx, zaE, zaj, mG, mG0, sG, sG0, lG, lqq]
   have := zkd (j - 1)
   rw [show j - 1 + 1 = j by omega] at this
   exact ih (j + 1) _ _ (by rw [show j + 1 - 1 = j by omega]; omega) ⟨by omega, hn, hc, by simp only [go_sem, seval, f1], by simp only [go_sem, seval, f3], G ++ [none, r, _, _], _, _, by simp only [go_sem, seval]; simp, by simp only [go_sem, seval]; simp, by simp; exact ⟨rfl, rfl, rfl, rfl⟩⟩
  ·have le1 : (lerr ((pw (j + 1) : Nat) : Int) = 0) = False := eq_false fun q => hn (by have := zfH q; rwa [Int.natAbs_natCast] at this)
   simp (disch := omega) only [go_sem, seval, wqq, f1, f3, f6, f7, cm, c0, mu, le1, apx, zaE, zaj, mG, mG0, sG, sG0, lG, lqq]
   have e6 : ∀ a b c d p q : Option PB, G ++ [a, b, c, d, p, q] = (G ++ [a, b, c, d]) ++ (p :: [q]) := fun a b c d p q => by simp
   rw [e6]
   exact cont _ _ (j + 1) (by omega) (by simp only [go_sem, seval, f1]) (by simp only [go_sem, seval, f3]) (by simp only [go_sem, seval]; simp) (by
    rcases Nat.lt_or_ge K (pw (j + 1)) with q | q
    ·exact q
    ·exact (hn (zd4 q hR)).elim) hc [_]
 ·have c0 : (cmpI x0.v (pwI j).v ≥ 0) = False := eq_false (by rw [ge_iff_le, zdx, hx0, zhj jR]; omega)
  simp (disch := omega) only [go_sem, seval, wqq, f1, f3, f6, f7, cm, c0, mG, mG0, sG, sG0, lG, lqq]
  exact cont _ G j (by omega) (by simp only [go_sem, seval, f1]) (by simp only [go_sem, seval, f3]) (by simp only [go_sem, seval, f6]) (by omega) hjK [_, _]
theorem ziK (x : WI) : pf E0 63 [wiP x] = some (.i .i64 (nbits x.v.natAbs : Int)) := by
 by_cases hs : x.v.natAbs ≤ 9223372036854775807
 ·exact zmu x hs
 have hR : inR x.v.natAbs := (zaR _).1 x.lim
 obtain ⟨K, hKe⟩ : ∃ K, K = x.v.natAbs := ⟨_, rfl⟩
 rw [← hKe] at hR hs ⊢
 have hK : 9223372036854775807 < K := by omega
 have sg := zbx x
 have fin : ∀ (y : WI), y.v = (K : Int) → pf E0 80 [wiP y] = some (.tu [.i .i64 0, .b false]) := fun y hy => by
  have sm := zeH y
  have s1 : isSmall (K : Int) = false := by unfold isSmall; exact decide_eq_false (by omega)
  have s2 : small (K : Int) = 0 := by unfold small; rw [s1]; rfl
  rw [hy, s1, s2] at sm
  exact sm
 have fr2 := zec (n := 2) (by decide)
 have w2 : wiOf 2 (by decide) = pwI 0 := WI.ext' (by rw [zhj (zd4 (Nat.le_of_lt (zkd 0)) zh8)]; rfl)
 rw [w2] at fr2
 have nb1 : 1 ≤ nbits K := by unfold nbits; rw [if_neg (by omega)]; omega
 have nbe : (nbits K : Int) - 1 + 1 = (nbits K : Int) := by omega
 have sy : ∀ y : WI, y.v = 1 → pf E0 31 [wiP y] = some (.i .i64 1) := fun y hy => by rw [zbx, hy]; rfl
 refine zab (xf := x_poly_digits) rfl (by simp [x_poly_digits]) ?_
 simp only [x_poly_digits]
 have nbb : nbits K ≤ 16384 := by
  obtain ⟨q, hq⟩ : ∃ q, q = 16384 := ⟨_, rfl⟩
  unfold inR at hR
  rw [← hq] at hR ⊢
  exact zcL hR
 by_cases hn : x.v < 0
 ·have t0 : (cmpI x.v 0 < 0) = True := by rw [zdg]; simp [hn]
  have n1 := zj5 x
  have hv : x.neg.v = (K : Int) := by show -x.v = _; omega
  have sm := fin x.neg hv
  generalize x.neg = y at *
  simp (disch := omega) only [go_sem, seval, wqq, sg, t0, n1, sm, fr2]
  refine zkF hR hv hK (by simp only [go_sem, seval]) (by simp only [go_sem, seval]) (by simp only [go_sem, seval]) (by simp only [go_sem, seval]) ?_
  intro fr' G J hJ f1 f3 f6 hlt hle R
  have J14 := zgm (zd4 hle hR)
  simp (disch := omega) only [go_sem, seval, wqq, f6]
  refine zkG hR hv (by omega) hlt (.inr hle) (by simp only [go_sem, seval, f1]) (by simp only [go_sem, seval, f3]) (by rw [if_neg hJ]; simp only [go_sem, seval, f6]) (by simp only [go_sem, seval]) ?_
  intro fr'' v' y1 hy1 g1 g3
  have syy := sy y1 hy1
  simp (disch := omega) only [go_sem, seval, wqq, g1, g3, syy, nbe]
 ·have t0 : (cmpI x.v 0 < 0) = False := by rw [zdg]; simp [hn]
  have hv : x.v = (K : Int) := by omega
  have sm := fin x hv
  simp (disch := omega) only [go_sem, seval, wqq, sg, t0, sm, fr2]
  refine zkF hR hv hK (by simp only [go_sem, seval]) (by simp only [go_sem, seval]) (by simp only [go_sem, seval]) (by simp only [go_sem, seval]) ?_
  intro fr' G J hJ f1 f3 f6 hlt hle R
  have J14 := zgm (zd4 hle hR)
  simp (disch := omega) only [go_sem, seval, wqq, f6]
  refine zkG hR hv (by omega) hlt (.inr hle) (by simp only [go_sem, seval, f1]) (by simp only [go_sem, seval, f3]) (by rw [if_neg hJ]; simp only [go_sem, seval, f6]) (by simp only [go_sem, seval]) ?_
  intro fr'' v' y1 hy1 g1 g3
  have syy := sy y1 hy1
  simp (disch := omega) only [go_sem, seval, wqq, g1, g3, syy, nbe]
theorem zbH (x : FQ) : pf E0 44 [fqP x] = some (.i .i64 ((max (nbits x.p.v.natAbs) (nbits x.q.v.natAbs) : Nat) : Int)) := by
 have a1 := zoo x
 have a2 := zcP x
 have d1 := ziK x.p
 have d2 := ziK x.q
 generalize nbits x.p.v.natAbs = a at *
 generalize nbits x.q.v.natAbs = b at *
 have hm : mmP true (.i .i64 (a : Int)) [.i .i64 (b : Int)] = some (.i .i64 ((max a b : Nat) : Int)) := by
  simp only [mmP, if_true]
  congr 2
  split <;> omega
 refine zab (xf := x_poly_Digits) rfl (by simp [x_poly_Digits]) ?_
 simp only [x_poly_Digits]
 simp (disch := omega) only [go_sem, seval, wqq]
 refine zay [1] rfl (by simp only [go_sem, seval]) ?_
 simp (disch := omega) only [go_sem, seval, wqq, a1, a2, d1, d2, hm]
end Go.Eng
namespace Go.Eng
def slarrB (m off n z : Nat) (lo hi : Option PV) : Option PB → Option PV
 | some b => if off + n * z ≤ b.v.length then slP z (.sl m off n n z) lo hi none else none
 | none => none
def slarrP (M : PM) (n z : Nat) (lo hi : Option PV) : PV → Option PV
 | .p m off => slarrB m off n z lo hi (PM.blk M m)
 | .fp l => if n * z ≤ l.length ∧ n * z ≠ 0 ∧ l.all PV.scal = true then slP z (.lst (group z n (l.take (n * z)))) lo hi none else none
 | _ => none
@[go_sem] theorem zpt (M : PM) (n z m off : Nat) (lo hi : Option PV) : slarrP M n z lo hi (.p m off) = slarrB m off n z lo hi (PM.blk M m) := _root_.id rfl
@[go_sem] theorem zps (m off n z : Nat) (lo hi : Option PV) (b : PB) : slarrB m off n z lo hi (some b) = if off + n * z ≤ b.v.length then slP z (.sl m off n n z) lo hi none else none := _root_.id rfl
@[go_sem] theorem zpH {E : PEnv} {F : PFin} {d : Option Nat} {af : List Nat} {l : List XOper} {ks : List KI} {fr : PFr} {M : PM} (n z : Nat) (x : X) (lo hi : Option X) : WL E F (⟨d, .slarr n z x lo hi, af, none⟩ :: l) ks fr M = WV1 E F (slarrP M n z (lo.map (X.pv E.glob fr)) (hi.map (X.pv E.glob fr)) (x.pv E.glob fr)) d l ks fr M := by
 rw [zaS, ← zaT]
 have : XO.pst E.glob (pcl E) fr M (.slarr n z x lo hi) = (slarrP M n z (lo.map (X.pv E.glob fr)) (hi.map (X.pv E.glob fr)) (x.pv E.glob fr)).map fun v => (v, M) := by
  simp only [XO.pst, XO.pev]
  generalize x.pv E.glob fr = a
  cases a with
  | p m off =>
   simp only [slarrP]
   cases PM.blk M m with
   | none => rfl
   | some b => simp only [slarrB]; split <;> rfl
  | fp c => simp only [slarrP]; split <;> rfl
  | _ => rfl
 rw [this]
theorem zta : slP 1 (.sl 0 0 9 9 1) (some (.i .i64 6)) none none = some (.sl 0 6 3 3 1) := rfl
theorem zt5 : slP 1 (.sl 0 0 9 9 1) none (some (.i .i64 3)) none = some (.sl 0 0 3 9 1) := rfl
theorem zrE : slP 1 (.sl 0 0 9 9 1) (some (.i .i64 3)) (some (.i .i64 6)) none = some (.sl 0 3 3 6 1) := rfl
theorem gr3 (a b c : Int) : group 1 3 [PV.i .i64 a, .i .i64 b, .i .i64 c] = [.i .i64 a, .i .i64 b, .i .i64 c] := rfl
theorem ziM {n : Int} (hn : Fits64 n) : ∃ f : FQ, f.is n 1 ∧ fsz 5 f ∧ pf E0 317 [.i .i64 n] = some (fqP f) := by
 have hn' := hn
 unfold Fits64 at hn'
 obtain ⟨f, f1, f2, fo⟩ := zmr hn (q := 1) (by decide) (by decide)
 obtain ⟨l1, l2⟩ := zdn (p := n) (q := 1) (by decide) (Nat.gcd_one_right _)
 have f1 := f1.trans l1
 have f2 := f2.trans l2
 have fi := zbS f
 rw [f1, f2] at fi
 refine ⟨f, fi, ⟨by rw [f1]; exact zak (by omega), by rw [f2]; exact zak (by decide)⟩, ?_⟩
 refine zab (xf := x_proj_row_1) rfl (by simp [x_proj_row_1]) ?_
 simp only [x_proj_row_1]
 simp (disch := omega) only [go_sem, seval, wqq, fo]
theorem zqq (a b c : Int) (j : Nat) (v : Int) (h : [a, b, c][j]? = some v) : idxP 1 (.lst [.i .i64 a, .i .i64 b, .i .i64 c]) (some j) = some (.fp [.i .i64 v]) := zdE (xs := [a, b, c]) h
set_option maxHeartbeats 2000000 in
theorem zgE {a b c : Int} (ha : Fits64 a) (hb : Fits64 b) (hc : Fits64 c) {u v : FQ} {n m : Nat} (zu : fsz n u) (zv : fsz m v) (hs : n + m ≤ 1000) {un ud vn vd : Int} (hud : ud ≠ 0) (hvd : vd ≠ 0) (ui : u.is un ud) (vi : v.is vn vd) :
  ∃ r : FQ, pf E0 310 [.lst [.i .i64 a, .i .i64 b, .i .i64 c], fqP u, fqP v] = some (fqP r) ∧ r.is (a * un * vd + b * vn * ud + c * (ud * vd)) (ud * vd) ∧ fsz (n + m + 20) r := by
 obtain ⟨wa, ia, za, fa⟩ := ziM ha
 obtain ⟨wb, ib, zb, fb⟩ := ziM hb
 obtain ⟨wc, ic, zc, fc⟩ := ziM hc
 obtain ⟨x, fx, ix, zx⟩ := zkQ wa u za zu (by omega) ia ui
 obtain ⟨y, fy, iy, zy⟩ := zkQ wb v zb zv (by omega) ib vi
 obtain ⟨s, fs, is, zs⟩ := zkB x y zx zy (by omega) ix iy
 obtain ⟨r, fr', ir, zr⟩ := zkB s wc zs zc (by omega) is ic
 have hD : ud * vd ≠ 0 := Int.mul_ne_zero hud hvd
 refine ⟨r, ?_, zfI (by simp only [Int.one_mul, Int.mul_one]; exact hD) ir (by grind), ⟨Nat.le_trans zr.1 (by omega), Nat.le_trans zr.2 (by omega)⟩⟩
 clear ia ib ic ix iy is ir ui vi
 have i0 := zqq a b c 0 a rfl
 have i1 := zqq a b c 1 b rfl
 have i2 := zqq a b c 2 c rfl
 refine zab (xf := x_proj_row) rfl (by simp [x_proj_row]) ?_
 simp only [x_proj_row]
 simp (disch := omega) only [go_sem, seval, wqq]
 refine zdr [4] [15] rfl ?_ ?_
 ·simp (disch := omega) only [go_sem, seval, wqq, i0, i1, i2, fa, fx]
  exact ⟨_, rfl, rfl, rfl⟩
 simp (disch := omega) only [go_sem, seval, wqq, i0, i1, i2, fa, fx]
 refine zdr [5] [25] rfl ?_ ?_
 ·simp (disch := omega) only [go_sem, seval, wqq, i0, i1, i2, fb, fy]
  exact ⟨_, rfl, rfl, rfl⟩
 simp (disch := omega) only [go_sem, seval, wqq, i0, i1, i2, fb, fy, fs]
 refine zdr [12] [42] rfl ?_ ?_
 ·simp (disch := omega) only [go_sem, seval, wqq, i0, i1, i2, fc, fr']
  exact ⟨_, rfl, rfl, rfl⟩
 simp (disch := omega) only [go_sem, seval, wqq, i0, i1, i2, fc, fr']
def rwV (a b c un ud vn vd : Int) : Int := a * un * vd + b * vn * ud + c * (ud * vd)
set_option maxHeartbeats 4000000 in
theorem zfL {p : Nat → Int} (hp : ∀ e, Fits64 (p e)) (hv : vlP p = 0) {u v : FQ} {n m : Nat} (zu : fsz n u) (zv : fsz m v) (hs : n + m ≤ 500) {un ud vn vd : Int} (hud : ud ≠ 0) (hvd : vd ≠ 0) (ui : u.is un ud) (vi : v.is vn vd)
  (du : max (nbits u.p.v.natAbs) (nbits u.q.v.natAbs) ≤ 1000) (dv : max (nbits v.p.v.natAbs) (nbits v.q.v.natAbs) ≤ 1000) (h0 : rwV (p 6) (p 7) (p 8) un ud vn vd ≠ 0) :
  ∃ x y : FQ, pf E0 305 [pI p, fqP u, fqP v] = some (.tu [fqP x, fqP y, .i .i64 0]) ∧ x.is (rwV (p 0) (p 1) (p 2) un ud vn vd) (rwV (p 6) (p 7) (p 8) un ud vn vd) ∧ y.is (rwV (p 3) (p 4) (p 5) un ud vn vd) (rwV (p 6) (p 7) (p 8) un ud vn vd) ∧ fsz (2 * (n + m) + 40) x ∧ fsz (2 * (n + m) + 40) y := by
 have pv := zbj hp
 rw [hv] at pv
 have d1 := zbH u
 have d2 := zbH v
 have hD : ud * vd ≠ 0 := Int.mul_ne_zero hud hvd
 obtain ⟨r2, f2, i2, z2⟩ := zgE (hp 6) (hp 7) (hp 8) zu zv (by omega) hud hvd ui vi
 obtain ⟨r0, f0, i0, z0⟩ := zgE (hp 0) (hp 1) (hp 2) zu zv (by omega) hud hvd ui vi
 obtain ⟨r1, f1, i1, z1⟩ := zgE (hp 3) (hp 4) (hp 5) zu zv (by omega) hud hvd ui vi
 have i2 : r2.is (rwV (p 6) (p 7) (p 8) un ud vn vd) (ud * vd) := i2
 have i0 : r0.is (rwV (p 0) (p 1) (p 2) un ud vn vd) (ud * vd) := i0
 have i1 : r1.is (rwV (p 3) (p 4) (p 5) un ud vn vd) (ud * vd) := i1
 generalize rwV (p 6) (p 7) (p 8) un ud vn vd = W at *
 generalize rwV (p 0) (p 1) (p 2) un ud vn vd = U at *
 generalize rwV (p 3) (p 4) (p 5) un ud vn vd = V at *
 have r20 : r2.p.v ≠ 0 := fun q => by
  unfold FQ.is at i2
  rw [q, Int.zero_mul] at i2
  have hq := r2.q1
  exact Int.mul_ne_zero h0 (by omega) i2.symm
 obtain ⟨x, fx, ix, zx⟩ := zkH r0 r2 r20 z0 z2 (by omega)
 obtain ⟨y, fy, iy, zy⟩ := zkH r1 r2 r20 z1 z2 (by omega)
 have ix := zf6 i0 i2 r20 ix
 have iy := zf6 i1 i2 r20 iy
 have sg := ziG r2
 have s0 : (cmpI r2.p.v 0 = 0) = False := by rw [zaA]; simp [r20]
 refine ⟨x, y, ?_, zfI (Int.mul_ne_zero hD h0) ix (by grind), zfI (Int.mul_ne_zero hD h0) iy (by grind), ⟨Nat.le_trans zx.1 (by omega), Nat.le_trans zx.2 (by omega)⟩, ⟨Nat.le_trans zy.1 (by omega), Nat.le_trans zy.2 (by omega)⟩⟩
 generalize max (nbits u.p.v.natAbs) (nbits u.q.v.natAbs) = A at *
 generalize max (nbits v.p.v.natAbs) (nbits v.q.v.natAbs) = B at *
 have t1 : ((A : Int) > 1000) = False := eq_false (by omega)
 have t2 : ((B : Int) > 1000) = False := eq_false (by omega)
 clear ix iy i0 i1 i2 ui vi
 have hF : PV.ag [.i .i64 (p 0), .i .i64 (p 1), .i .i64 (p 2), .i .i64 (p 3), .i .i64 (p 4), .i .i64 (p 5), .i .i64 (p 6), .i .i64 (p 7), .i .i64 (p 8)] = pI p := rfl
 refine zab (xf := x_proj_Apply) rfl (by simp [x_proj_Apply]) ?_
 simp only [x_proj_Apply]
 simp (disch := omega) only [go_sem, seval, wqq, pv, d1, d2, t1, t2, zan, hF, zta, gr3, f2, sg, s0]
 refine zay [10] rfl (by simp only [go_sem, seval]) ?_
 simp (disch := omega) only [go_sem, seval, wqq, zan, zt5, gr3, f0, fx]
 refine zay [10] rfl (by simp only [go_sem, seval]) ?_
 simp (disch := omega) only [go_sem, seval, wqq, zan, zrE, gr3, f1, fy]
 refine zeX [13] [6] rfl ?_ ?_
 ·simp (disch := omega) only [go_sem, seval, wqq]
  exact ⟨_, rfl, rfl⟩
 simp (disch := omega) only [go_sem, seval, wqq]
end Go.Eng
namespace Go.Eng
def q8 (a b c d e f g h : Int) : PV := .ag [.i .i64 a, .i .i64 b, .i .i64 c, .i .i64 d, .i .i64 e, .i .i64 f, .i .i64 g, .i .i64 h]
noncomputable def bsW (w : Nat → WI) (f0 f1 f2 : WI) : Nat → WI := fun e => tW (w e) (if e % 3 = 0 then f0 else if e % 3 = 1 then f1 else f2)
set_option maxHeartbeats 8000000 in
set_option maxRecDepth 100000 in
theorem zmp {x0 y0 x1 y1 x2 y2 x3 y3 : Int} (hx0 : Fits64 x0) (hy0 : Fits64 y0) (hx1 : Fits64 x1) (hy1 : Fits64 y1) (hx2 : Fits64 x2) (hy2 : Fits64 y2) (hx3 : Fits64 x3) (hy3 : Fits64 y3)
  {w : Nat → WI} {f0 f1 f2 : WI} (hw : w = ofW (colI x0 x1 x2 y0 y1 y2)) (h0 : f0 = dtW (ofW (colI x3 x1 x2 y3 y1 y2))) (h1 : f1 = dtW (ofW (colI x0 x3 x2 y0 y3 y2))) (h2 : f2 = dtW (ofW (colI x0 x1 x3 y0 y1 y3)))
  (n0 : f0.v ≠ 0) (n1 : f1.v ≠ 0) (n2 : f2.v ≠ 0) (n3 : (dtW (bsW w f0 f1 f2)).v ≠ 0) : pf E0 315 [q8 x0 y0 x1 y1 x2 y2 x3 y3] = some (.tu [mW (bsW w f0 f1 f2), .b true]) := by
 have c0 := zcO hx0 hx1 hx2 hy0 hy1 hy2
 have c1 := zcO hx3 hx1 hx2 hy3 hy1 hy2
 have c2 := zcO hx0 hx3 hx2 hy0 hy3 hy2
 have c3 := zcO hx0 hx1 hx3 hy0 hy1 hy3
 have d1 := zfg (ofW (colI x3 x1 x2 y3 y1 y2))
 have d2 := zfg (ofW (colI x0 x3 x2 y0 y3 y2))
 have d3 := zfg (ofW (colI x0 x1 x3 y0 y1 y3))
 rw [← hw] at c0
 rw [← h0] at d1
 rw [← h1] at d2
 rw [← h2] at d3
 generalize ofW (colI x3 x1 x2 y3 y1 y2) = w1 at *
 generalize ofW (colI x0 x3 x2 y0 y3 y2) = w2 at *
 generalize ofW (colI x0 x1 x3 y0 y1 y3) = w3 at *
 clear hw h0 h1 h2
 have s0 := zbx f0
 have s1 := zbx f1
 have s2 := zbx f2
 have e0 : (cmpI f0.v 0 = 0) = False := by rw [zaA]; simp [n0]
 have e1 : (cmpI f1.v 0 = 0) = False := by rw [zaA]; simp [n1]
 have e2 : (cmpI f2.v 0 = 0) = False := by rw [zaA]; simp [n2]
 have d4 := zfg (bsW w f0 f1 f2)
 have s4 := zbx (dtW (bsW w f0 f1 f2))
 have e4 : (cmpI (dtW (bsW w f0 f1 f2)).v 0 = 0) = False := by rw [zaA]; simp [n3]
 have t0 := zal (w 0) f0
 have t1 := zal (w 1) f1
 have t2 := zal (w 2) f2
 have t3 := zal (w 3) f0
 have t4 := zal (w 4) f1
 have t5 := zal (w 5) f2
 have t6 := zal (w 6) f0
 have t7 := zal (w 7) f1
 have t8 := zal (w 8) f2
 have hB : PV.ag [.b (decide ((tW (w 0) f0).v < 0)), D (tW (w 0) f0).v.natAbs, .b (decide ((tW (w 1) f1).v < 0)), D (tW (w 1) f1).v.natAbs, .b (decide ((tW (w 2) f2).v < 0)), D (tW (w 2) f2).v.natAbs, .b (decide ((tW (w 3) f0).v < 0)), D (tW (w 3) f0).v.natAbs, .b (decide ((tW (w 4) f1).v < 0)), D (tW (w 4) f1).v.natAbs, .b (decide ((tW (w 5) f2).v < 0)), D (tW (w 5) f2).v.natAbs, .b (decide ((tW (w 6) f0).v < 0)), D (tW (w 6) f0).v.natAbs, .b (decide ((tW (w 7) f1).v < 0)), D (tW (w 7) f1).v.natAbs, .b (decide ((tW (w 8) f2).v < 0)), D (tW (w 8) f2).v.natAbs] = mW (bsW w f0 f1 f2) := rfl
 generalize dtW (bsW w f0 f1 f2) = dd at *
 generalize bsW w f0 f1 f2 = bs at *
 generalize tW (w 0) f0 = r0 at *
 generalize tW (w 1) f1 = r1 at *
 generalize tW (w 2) f2 = r2 at *
 generalize tW (w 3) f0 = r3 at *
 generalize tW (w 4) f1 = r4 at *
 generalize tW (w 5) f2 = r5 at *
 generalize tW (w 6) f0 = r6 at *
 generalize tW (w 7) f1 = r7 at *
 generalize tW (w 8) f2 = r8 at *
 unfold q8
 refine zab (xf := x_proj_basis) rfl (by simp [x_proj_basis]) ?_
 simp only [x_proj_basis]
 simp (disch := omega) only [go_sem, seval, wqq, c0]
 refine zdr [28, 30, 32, 37, 39, 41] [18, 27, 36] rfl ?_ ?_
 ·simp (disch := omega) only [go_sem, seval, wqq, c1, c2, c3, d1, d2, d3, zaE, zaj]
  exact ⟨_, rfl, rfl, rfl⟩
 simp (disch := omega) only [go_sem, seval, wqq, c1, c2, c3, d1, d2, d3, zaE, zaj]
 refine zad x_proj_basis_l1.eq_1 ?_
 simp (disch := omega) only [go_sem, seval, wqq, s0, e0]
 refine zad x_proj_basis_l2.eq_1 ?_
 simp (disch := omega) only [go_sem, seval, wqq, zac, t0]
 refine zad x_proj_basis_l2.eq_1 ?_
 simp (disch := omega) only [go_sem, seval, wqq, zac, t3]
 refine zad x_proj_basis_l2.eq_1 ?_
 simp (disch := omega) only [go_sem, seval, wqq, zac, t6]
 refine zad x_proj_basis_l2.eq_1 ?_
 simp (disch := omega) only [go_sem, seval, wqq]
 refine zad x_proj_basis_l1.eq_1 ?_
 simp (disch := omega) only [go_sem, seval, wqq, s1, e1]
 refine zad x_proj_basis_l2.eq_1 ?_
 simp (disch := omega) only [go_sem, seval, wqq, zac, t1]
 refine zad x_proj_basis_l2.eq_1 ?_
 simp (disch := omega) only [go_sem, seval, wqq, zac, t4]
 refine zad x_proj_basis_l2.eq_1 ?_
 simp (disch := omega) only [go_sem, seval, wqq, zac, t7]
 refine zad x_proj_basis_l2.eq_1 ?_
 simp (disch := omega) only [go_sem, seval, wqq]
 refine zad x_proj_basis_l1.eq_1 ?_
 simp (disch := omega) only [go_sem, seval, wqq, s2, e2]
 refine zad x_proj_basis_l2.eq_1 ?_
 simp (disch := omega) only [go_sem, seval, wqq, zac, t2]
 refine zad x_proj_basis_l2.eq_1 ?_
 simp (disch := omega) only [go_sem, seval, wqq, zac, t5]
 refine zad x_proj_basis_l2.eq_1 ?_
 simp (disch := omega) only [go_sem, seval, wqq, zac, t8]
 refine zad x_proj_basis_l2.eq_1 ?_
 simp (disch := omega) only [go_sem, seval, wqq]
 refine zad x_proj_basis_l1.eq_1 ?_
 simp (disch := omega) only [go_sem, seval, wqq]
 refine zay [5] rfl (by simp only [go_sem, seval]) ?_
 simp (disch := omega) only [go_sem, seval, wqq, hB, d4, s4, e4]
def okQ (x : Int) : Prop := -1048576 ≤ x ∧ x ≤ 1048576
theorem zdb {x y : Int} (hx : okQ x) (hy : okQ y) : ((if y > x then y else x) > 1048576) = False ∧ ((if y < x then y else x) < -1048576) = False := by
 unfold okQ at hx hy
 exact ⟨eq_false (by split <;> omega), eq_false (by split <;> omega)⟩
set_option maxHeartbeats 8000000 in
set_option maxRecDepth 100000 in
theorem zmh {x0 y0 x1 y1 x2 y2 x3 y3 u0 v0 u1 v1 u2 v2 u3 v3 : Int} (hx0 : okQ x0) (hy0 : okQ y0) (hx1 : okQ x1) (hy1 : okQ y1) (hx2 : okQ x2) (hy2 : okQ y2) (hx3 : okQ x3) (hy3 : okQ y3) (hu0 : okQ u0) (hv0 : okQ v0) (hu1 : okQ u1) (hv1 : okQ v1) (hu2 : okQ u2) (hv2 : okQ v2) (hu3 : okQ u3) (hv3 : okQ v3)
  {A B : Nat → WI} (ba : pf E0 315 [q8 x0 y0 x1 y1 x2 y2 x3 y3] = some (.tu [mW A, .b true])) (bb : pf E0 315 [q8 u0 v0 u1 v1 u2 v2 u3 v3] = some (.tu [mW B, .b true])) (hg : gN (fun e => (prW B (adW A) e).v) 9 ≠ 0) :
  pf E0 309 [q8 x0 y0 x1 y1 x2 y2 x3 y3, q8 u0 v0 u1 v1 u2 v2 u3 v3] = some (.tu [pI (nfP fun e => (prW B (adW A) e).v), .i .i64 (nfE fun e => (prW B (adW A) e).v)]) := by
 have ad := zmo A
 have pr := zkX B (adW A)
 have nm := zeJ (prW B (adW A)) hg
 generalize nfP (fun e => (prW B (adW A) e).v) = P at *
 generalize nfE (fun e => (prW B (adW A) e).v) = E at *
 generalize prW B (adW A) = Q at *
 generalize adW A = R at *
 obtain ⟨a0, b0⟩ := zdb hx0 hy0
 obtain ⟨a1, b1⟩ := zdb hx1 hy1
 obtain ⟨a2, b2⟩ := zdb hx2 hy2
 obtain ⟨a3, b3⟩ := zdb hx3 hy3
 obtain ⟨a4, b4⟩ := zdb hu0 hv0
 obtain ⟨a5, b5⟩ := zdb hu1 hv1
 obtain ⟨a6, b6⟩ := zdb hu2 hv2
 obtain ⟨a7, b7⟩ := zdb hu3 hv3
 unfold q8 at ba bb ⊢
 refine zab (xf := x_proj_Four) rfl (by simp [x_proj_Four]) ?_
 simp only [x_proj_Four]
 simp (disch := omega) only [go_sem, seval, wqq, zaE, zaj]
 refine zad x_proj_Four_l1.eq_1 ?_
 simp (disch := omega) only [go_sem, seval, wqq]
 refine zad x_proj_Four_l2.eq_1 ?_
 simp (disch := omega) only [go_sem, seval, wqq, q8, a0, b0]
 refine zad x_proj_Four_l2.eq_1 ?_
 simp (disch := omega) only [go_sem, seval, wqq, q8, a1, b1]
 refine zad x_proj_Four_l2.eq_1 ?_
 simp (disch := omega) only [go_sem, seval, wqq, q8, a2, b2]
 refine zad x_proj_Four_l2.eq_1 ?_
 simp (disch := omega) only [go_sem, seval, wqq, q8, a3, b3]
 refine zad x_proj_Four_l2.eq_1 ?_
 simp (disch := omega) only [go_sem, seval, wqq]
 refine zad x_proj_Four_l1.eq_1 ?_
 simp (disch := omega) only [go_sem, seval, wqq]
 refine zad x_proj_Four_l2.eq_1 ?_
 simp (disch := omega) only [go_sem, seval, wqq, q8, a4, b4]
 refine zad x_proj_Four_l2.eq_1 ?_
 simp (disch := omega) only [go_sem, seval, wqq, q8, a5, b5]
 refine zad x_proj_Four_l2.eq_1 ?_
 simp (disch := omega) only [go_sem, seval, wqq, q8, a6, b6]
 refine zad x_proj_Four_l2.eq_1 ?_
 simp (disch := omega) only [go_sem, seval, wqq, q8, a7, b7]
 refine zad x_proj_Four_l2.eq_1 ?_
 simp (disch := omega) only [go_sem, seval, wqq]
 refine zad x_proj_Four_l1.eq_1 ?_
 simp (disch := omega) only [go_sem, seval, wqq, ba, bb]
 refine zay [12] rfl (by simp only [go_sem, seval]) ?_
 simp (disch := omega) only [go_sem, seval, wqq, ad, pr, nm]
end Go.Eng
namespace Go.Eng
end Go.Eng
namespace Go.Eng
theorem zp8 {x : Nat → WI} {n : Nat} (hx : ∀ e, wlen (x e).v.natAbs ≤ n) (hn : n ≤ 100) : wlen (dtW x).v.natAbs ≤ 3 * n + 4 := by
 rw [zp9 hx hn]
 have key : ∀ a b c d e : Nat, wlen (rtK (x a).v (x b).v (x c).v (x d).v (x e).v).natAbs ≤ 3 * n + 1 := fun a b c d e => by
  have h1 := zch (x b).v (x c).v
  have h2 := zch (x a).v ((x b).v * (x c).v)
  have h3 := zch (x d).v (x e).v
  have h4 := zch (x a).v ((x d).v * (x e).v)
  have h5 := zfp ((x a).v * ((x b).v * (x c).v)) ((x a).v * ((x d).v * (x e).v))
  have h5 : wlen (rtK (x a).v (x b).v (x c).v (x d).v (x e).v).natAbs ≤ _ := h5
  have := hx a
  have := hx b
  have := hx c
  have := hx d
  have := hx e
  omega
 have k1 := key 0 4 8 5 7
 have k2 := key 1 5 6 3 8
 have k3 := key 2 3 7 4 6
 have a1 := zcg 0 (rtK (x 0).v (x 4).v (x 8).v (x 5).v (x 7).v)
 have a2 := zcg (0 + rtK (x 0).v (x 4).v (x 8).v (x 5).v (x 7).v) (rtK (x 1).v (x 5).v (x 6).v (x 3).v (x 8).v)
 have a3 := zcg (0 + rtK (x 0).v (x 4).v (x 8).v (x 5).v (x 7).v + rtK (x 1).v (x 5).v (x 6).v (x 3).v (x 8).v) (rtK (x 2).v (x 3).v (x 7).v (x 4).v (x 6).v)
 rw [Int.natAbs_zero, zbv] at a1
 show wlen (0 + rtK (x 0).v (x 4).v (x 8).v (x 5).v (x 7).v + rtK (x 1).v (x 5).v (x 6).v (x 3).v (x 8).v + rtK (x 2).v (x 3).v (x 7).v (x 4).v (x 6).v).natAbs ≤ _
 omega
def bsV (c : Nat → Int) (F0 F1 F2 : Int) : Nat → Int := fun e => c e * (if e % 3 = 0 then F0 else if e % 3 = 1 then F1 else F2)
theorem ztD {c : Nat → Int} (hc : ∀ e, Fits64 (c e)) {f0 f1 f2 : WI} (l0 : wlen f0.v.natAbs ≤ 10) (l1 : wlen f1.v.natAbs ≤ 10) (l2 : wlen f2.v.natAbs ≤ 10) (e : Nat) :
  (bsW (ofW c) f0 f1 f2 e).v = bsV c f0.v f1.v f2.v e ∧ wlen (bsW (ofW c) f0 f1 f2 e).v.natAbs ≤ 12 := by
 have hf : wlen (if e % 3 = 0 then f0 else if e % 3 = 1 then f1 else f2).v.natAbs ≤ 10 := by
  split
  ·exact l0
  ·split
   ·exact l1
   ·exact l2
 obtain ⟨h1, h2⟩ := zkn (zfe hc e) hf (by decide)
 have e1 : (bsW (ofW c) f0 f1 f2 e).v = (ofW c e).v * (if e % 3 = 0 then f0 else if e % 3 = 1 then f1 else f2).v := h1
 rw [e1]
 refine ⟨?_, h2⟩
 rw [zl1 (hc e)]
 unfold bsV
 congr 1
 split
 ·rfl
 ·split <;> rfl
theorem zap {x : Int} (h : okQ x) : Fits64 x := by unfold okQ at h; unfold Fits64; omega
def baV (x0 y0 x1 y1 x2 y2 x3 y3 : Int) : Nat → Int := bsV (colI x0 x1 x2 y0 y1 y2) (rdV (colI x3 x1 x2 y3 y1 y2)) (rdV (colI x0 x3 x2 y0 y3 y2)) (rdV (colI x0 x1 x3 y0 y1 y3))
theorem zgA {x0 y0 x1 y1 x2 y2 x3 y3 : Int} (hx0 : okQ x0) (hy0 : okQ y0) (hx1 : okQ x1) (hy1 : okQ y1) (hx2 : okQ x2) (hy2 : okQ y2) (hx3 : okQ x3) (hy3 : okQ y3)
  (n0 : rdV (colI x3 x1 x2 y3 y1 y2) ≠ 0) (n1 : rdV (colI x0 x3 x2 y0 y3 y2) ≠ 0) (n2 : rdV (colI x0 x1 x3 y0 y1 y3) ≠ 0) (n3 : rdV (baV x0 y0 x1 y1 x2 y2 x3 y3) ≠ 0) :
  ∃ A : Nat → WI, pf E0 315 [q8 x0 y0 x1 y1 x2 y2 x3 y3] = some (.tu [mW A, .b true]) ∧ (fun e => (A e).v) = baV x0 y0 x1 y1 x2 y2 x3 y3 ∧ ∀ e, wlen (A e).v.natAbs ≤ 12 := by
 have c0 := zb7 (zap hx0) (zap hx1) (zap hx2) (zap hy0) (zap hy1) (zap hy2)
 have c1 := zb7 (zap hx3) (zap hx1) (zap hx2) (zap hy3) (zap hy1) (zap hy2)
 have c2 := zb7 (zap hx0) (zap hx3) (zap hx2) (zap hy0) (zap hy3) (zap hy2)
 have c3 := zb7 (zap hx0) (zap hx1) (zap hx3) (zap hy0) (zap hy1) (zap hy3)
 have l1 := zp8 (zfe c1) (by decide)
 have l2 := zp8 (zfe c2) (by decide)
 have l3 := zp8 (zfe c3) (by decide)
 have e1 := znC c1
 have e2 := znC c2
 have e3 := znC c3
 have bv := ztD c0 l1 l2 l3
 have bf : (fun e => (bsW (ofW (colI x0 x1 x2 y0 y1 y2)) (dtW (ofW (colI x3 x1 x2 y3 y1 y2))) (dtW (ofW (colI x0 x3 x2 y0 y3 y2))) (dtW (ofW (colI x0 x1 x3 y0 y1 y3))) e).v) = baV x0 y0 x1 y1 x2 y2 x3 y3 := funext fun e => by
  rw [(bv e).1, e1, e2, e3]; rfl
 refine ⟨_, zmp (zap hx0) (zap hy0) (zap hx1) (zap hy1) (zap hx2) (zap hy2) (zap hx3) (zap hy3) rfl rfl rfl rfl (by rw [e1]; exact n0) (by rw [e2]; exact n1) (by rw [e3]; exact n2) ?_, bf, fun e => (bv e).2⟩
 rw [zp9 (fun e => (bv e).2) (by decide), bf]
 exact n3
theorem zmi {x0 y0 x1 y1 x2 y2 x3 y3 u0 v0 u1 v1 u2 v2 u3 v3 : Int} (hx0 : okQ x0) (hy0 : okQ y0) (hx1 : okQ x1) (hy1 : okQ y1) (hx2 : okQ x2) (hy2 : okQ y2) (hx3 : okQ x3) (hy3 : okQ y3) (hu0 : okQ u0) (hv0 : okQ v0) (hu1 : okQ u1) (hv1 : okQ v1) (hu2 : okQ u2) (hv2 : okQ v2) (hu3 : okQ u3) (hv3 : okQ v3)
  (n0 : rdV (colI x3 x1 x2 y3 y1 y2) ≠ 0) (n1 : rdV (colI x0 x3 x2 y0 y3 y2) ≠ 0) (n2 : rdV (colI x0 x1 x3 y0 y1 y3) ≠ 0) (n3 : rdV (baV x0 y0 x1 y1 x2 y2 x3 y3) ≠ 0)
  (m0 : rdV (colI u3 u1 u2 v3 v1 v2) ≠ 0) (m1 : rdV (colI u0 u3 u2 v0 v3 v2) ≠ 0) (m2 : rdV (colI u0 u1 u3 v0 v1 v3) ≠ 0) (m3 : rdV (baV u0 v0 u1 v1 u2 v2 u3 v3) ≠ 0)
  {Y : Nat → Int} (hY : Y = rprV (baV u0 v0 u1 v1 u2 v2 u3 v3) (adV (baV x0 y0 x1 y1 x2 y2 x3 y3))) (hg : gN Y 9 ≠ 0) :
  pf E0 309 [q8 x0 y0 x1 y1 x2 y2 x3 y3, q8 u0 v0 u1 v1 u2 v2 u3 v3] = some (.tu [pI (nfP Y), .i .i64 (nfE Y)]) := by
 obtain ⟨A, fa, va, la⟩ := zgA hx0 hy0 hx1 hy1 hx2 hy2 hx3 hy3 n0 n1 n2 n3
 obtain ⟨B, fb, vb, lb⟩ := zgA hu0 hv0 hu1 hv1 hu2 hv2 hu3 hv3 m0 m1 m2 m3
 have ml : ∀ e, (adW A e).v = adV (baV x0 y0 x1 y1 x2 y2 x3 y3) e ∧ wlen (adW A e).v.natAbs ≤ 25 := fun e => by
  obtain ⟨h1, h2⟩ := znU la (by decide) (e % 3) (e / 3)
  rw [va] at h1
  exact ⟨h1, h2⟩
 have pe : (fun e => (prW B (adW A) e).v) = Y := funext fun e => by
  rw [zs2 (n := 25) (fun e => Nat.le_trans (lb e) (by decide)) (fun e => (ml e).2) (by decide) e, vb, hY]
  congr 1
  exact funext fun e => (ml e).1
 have := zmh hx0 hy0 hx1 hy1 hx2 hy2 hx3 hy3 hu0 hv0 hu1 hv1 hu2 hv2 hu3 hv3 fa fb (by rw [pe]; exact hg)
 rw [pe] at this
 exact this
end Go.Eng
namespace Go.Eng
def tb (l : List Int) : Nat → Int := fun e => l.getD e 0
theorem zfV {l : List Int} (h : ∀ n ∈ l, Fits64 n) (e : Nat) : Fits64 (tb l e) := by
 unfold tb
 by_cases he : e < l.length
 ·exact h _ (by simp [List.getD, List.getElem?_eq_getElem he])
 ·have : l.getD e 0 = 0 := by simp [List.getD, List.getElem?_eq_none (Nat.le_of_not_lt he)]
  rw [this]; decide
theorem zfJ {X : Nat → Int} {g : Nat} {s : Int} (hg : gN X 9 = g) (hs : fN X 9 = s) (hq : ∀ e, e < 9 → -1073741824 ≤ X e / (g : Int) ∧ X e / (g : Int) ≤ 1073741824) : nfP X = (fun e => X e / (g : Int) * s) ∧ nfE X = 0 := by
 subst hg hs
 have ok : okN X := hq
 exact ⟨by unfold nfP; rw [if_pos ok], by unfold nfE; rw [if_pos ok]⟩
theorem ziN {n : Int} (hn : Fits64 n) : ∃ f : FQ, f.is n 1 ∧ fsz 5 f ∧ f.p.v = n ∧ f.q.v = 1 ∧ pf E0 304 [.i .i64 n] = some (fqP f) := by
 have hn' := hn
 unfold Fits64 at hn'
 obtain ⟨f, f1, f2, fo⟩ := zmr hn (q := 1) (by decide) (by decide)
 obtain ⟨l1, l2⟩ := zdn (p := n) (q := 1) (by decide) (Nat.gcd_one_right _)
 have f1 := f1.trans l1
 have f2 := f2.trans l2
 have fi := zbS f
 rw [f1, f2] at fi
 refine ⟨f, fi, ⟨by rw [f1]; exact zak (by omega), by rw [f2]; exact zak (by decide)⟩, f1, f2, ?_⟩
 refine zab (xf := x_l12_whole) rfl (by simp [x_l12_whole]) ?_
 simp only [x_l12_whole]
 simp (disch := omega) only [go_sem, seval, wqq, fo]
theorem zr7 {f : FQ} (h1 : f.p.v.natAbs ≤ 4611686018427387904) (h2 : f.q.v.natAbs ≤ 4611686018427387904) : max (nbits f.p.v.natAbs) (nbits f.q.v.natAbs) ≤ 1000 := by
 have a := zcL (k := f.p.v.natAbs) (n := 63) (by omega)
 have b := zcL (k := f.q.v.natAbs) (n := 63) (by omega)
 omega
theorem eq9 (a b c d e f g h i : Int) : eqCellsP [1, 1, 1, 1, 1, 1, 1, 1, 1] [PV.i .i64 a, PV.i .i64 b, PV.i .i64 c, PV.i .i64 d, PV.i .i64 e, PV.i .i64 f, PV.i .i64 g, PV.i .i64 h, PV.i .i64 i] [PV.i .i64 a, PV.i .i64 b, PV.i .i64 c, PV.i .i64 d, PV.i .i64 e, PV.i .i64 f, PV.i .i64 g, PV.i .i64 h, PV.i .i64 i] = some true := by
 simp [eqCellsP, eqCellP]
def pQ : Nat → Int := tb [2, 0, 3, 0, 2, 5, 0, 0, 1]
def rQ : Nat → Int := tb [6, 0, 0, 0, 6, 0, -1, -1, 4]
def yQ : Nat → Int := rprV (baV 0 0 2 0 3 3 0 2) (adV (baV 0 0 1 0 1 1 0 1))
theorem zeW {p : Nat → Int} (hp : ∀ e, Fits64 (p e)) (ok : okP p) (h : rdV p ≠ 0) : vlP p = 0 := by
 unfold vlP
 rw [if_pos ok, znC hp, if_neg h]
theorem zms : pf E0 308 [pI pQ] = some (.tu [.ag [.i .i64 1, .i .i64 0, .i .i64 (-3), .i .i64 0, .i .i64 1, .i .i64 (-5), .i .i64 0, .i .i64 0, .i .i64 2], .i .i64 0]) := by
 have hp : ∀ e, Fits64 (pQ e) := zfV (by decide)
 have v0 : vlP pQ = 0 := zeW hp (fun e he => by obtain rfl | rfl | rfl | rfl | rfl | rfl | rfl | rfl | rfl := zdX he <;> decide) (by decide)
 have h := zdL hp
 unfold IP IE at h
 rw [if_pos v0, if_pos v0] at h
 obtain ⟨e1, e2⟩ := zfJ (X := adV pQ) (g := 2) (s := 1) (by decide) (by decide) (fun e he => by obtain rfl | rfl | rfl | rfl | rfl | rfl | rfl | rfl | rfl := zdX he <;> decide)
 rw [e1, e2] at h
 have w0 : adV pQ 0 / ((2 : Nat) : Int) * 1 = 1 := by decide
 have w1 : adV pQ 1 / ((2 : Nat) : Int) * 1 = 0 := by decide
 have w2 : adV pQ 2 / ((2 : Nat) : Int) * 1 = (-3) := by decide
 have w3 : adV pQ 3 / ((2 : Nat) : Int) * 1 = 0 := by decide
 have w4 : adV pQ 4 / ((2 : Nat) : Int) * 1 = 1 := by decide
 have w5 : adV pQ 5 / ((2 : Nat) : Int) * 1 = (-5) := by decide
 have w6 : adV pQ 6 / ((2 : Nat) : Int) * 1 = 0 := by decide
 have w7 : adV pQ 7 / ((2 : Nat) : Int) * 1 = 0 := by decide
 have w8 : adV pQ 8 / ((2 : Nat) : Int) * 1 = 2 := by decide
 unfold pI cI at h
 simp only [w0, w1, w2, w3, w4, w5, w6, w7, w8] at h
 unfold pI cI
 exact h
theorem zj7 : pf E0 309 [q8 0 0 1 0 1 1 0 1, q8 0 0 2 0 3 3 0 2] = some (.tu [.ag [.i .i64 6, .i .i64 0, .i .i64 0, .i .i64 0, .i .i64 6, .i .i64 0, .i .i64 (-1), .i .i64 (-1), .i .i64 4], .i .i64 0]) := by
 have h := zmi (x0 := 0) (y0 := 0) (x1 := 1) (y1 := 0) (x2 := 1) (y2 := 1) (x3 := 0) (y3 := 1) (u0 := 0) (v0 := 0) (u1 := 2) (v1 := 0) (u2 := 3) (v2 := 3) (u3 := 0) (v3 := 2) (by unfold okQ; decide) (by unfold okQ; decide) (by unfold okQ; decide) (by unfold okQ; decide) (by unfold okQ; decide) (by unfold okQ; decide) (by unfold okQ; decide) (by unfold okQ; decide) (by unfold okQ; decide) (by unfold okQ; decide) (by unfold okQ; decide) (by unfold okQ; decide) (by unfold okQ; decide) (by unfold okQ; decide) (by unfold okQ; decide) (by unfold okQ; decide)
  (by decide) (by decide) (by decide) (by decide) (by decide) (by decide) (by decide) (by decide) (Y := yQ) rfl (by decide)
 obtain ⟨e1, e2⟩ := zfJ (X := yQ) (g := 2) (s := (-1)) (by decide) (by decide) (fun e he => by obtain rfl | rfl | rfl | rfl | rfl | rfl | rfl | rfl | rfl := zdX he <;> decide)
 rw [e1, e2] at h
 have w0 : yQ 0 / ((2 : Nat) : Int) * (-1) = 6 := by decide
 have w1 : yQ 1 / ((2 : Nat) : Int) * (-1) = 0 := by decide
 have w2 : yQ 2 / ((2 : Nat) : Int) * (-1) = 0 := by decide
 have w3 : yQ 3 / ((2 : Nat) : Int) * (-1) = 0 := by decide
 have w4 : yQ 4 / ((2 : Nat) : Int) * (-1) = 6 := by decide
 have w5 : yQ 5 / ((2 : Nat) : Int) * (-1) = 0 := by decide
 have w6 : yQ 6 / ((2 : Nat) : Int) * (-1) = (-1) := by decide
 have w7 : yQ 7 / ((2 : Nat) : Int) * (-1) = (-1) := by decide
 have w8 : yQ 8 / ((2 : Nat) : Int) * (-1) = 4 := by decide
 unfold pI cI at h
 simp only [w0, w1, w2, w3, w4, w5, w6, w7, w8] at h
 exact h
set_option maxHeartbeats 4000000 in
set_option maxRecDepth 20000 in
theorem ziI : pf E0 303 [] = some (.b true) := by
 have hp : ∀ e, Fits64 (pQ e) := zfV (by decide)
 have hr : ∀ e, Fits64 (rQ e) := zfV (by decide)
 have vp : vlP pQ = 0 := zeW hp (fun e he => by obtain rfl | rfl | rfl | rfl | rfl | rfl | rfl | rfl | rfl := zdX he <;> decide) (by decide)
 have vr : vlP rQ = 0 := zeW hr (fun e he => by obtain rfl | rfl | rfl | rfl | rfl | rfl | rfl | rfl | rfl := zdX he <;> decide) (by decide)
 obtain ⟨h, h1, h2, ho⟩ := zmr (p := 1) (q := 2) (by decide) (by decide) (by decide)
 have l1 : lowP 1 2 = 1 ∧ lowQ 1 2 = 2 := zdn (p := 1) (q := 2) (by decide) (by decide)
 have h1 := h1.trans l1.1
 have h2 := h2.trans l1.2
 have hi := zbS h
 rw [h1, h2] at hi
 have hz : fsz 5 h := ⟨by rw [h1]; exact zak (by decide), by rw [h2]; exact zak (by decide)⟩
 have hd := zr7 (f := h) (by rw [h1]; decide) (by rw [h2]; decide)
 obtain ⟨o, oi, oz, o1, o2, oo⟩ := ziN (n := 1) (by decide)
 have od := zr7 (f := o) (by rw [o1]; decide) (by rw [o2]; decide)
 obtain ⟨x, y, ap, xi, yi, _, _⟩ := zfL hp vp hz oz (by decide) (by decide) (by decide) hi oi hd od (by decide)
 obtain ⟨u, v, aq, ui, vi, _, _⟩ := zfL hr vr hz hz (by decide) (by decide) (by decide) hi hi hd hd (by decide)
 obtain ⟨x1, x2⟩ := zgn (p := 4) (q := 1) (by decide) (by decide) (by decide) xi (by decide)
 obtain ⟨y1, y2⟩ := zgn (p := 7) (q := 1) (by decide) (by decide) (by decide) yi (by decide)
 obtain ⟨u1, u2⟩ := zgn (p := 1) (q := 1) (by decide) (by decide) (by decide) ui (by decide)
 obtain ⟨v1, v2⟩ := zgn (p := 1) (q := 1) (by decide) (by decide) (by decide) vi (by decide)
 have d4 : decI 4 = [52] := (zhR (v := 4) (n := 0) rfl (by decide) (by decide)).trans rfl
 have d7 : decI 7 = [55] := (zhR (v := 7) (n := 0) rfl (by decide) (by decide)).trans rfl
 have d1 : decI 1 = [49] := (zhR (v := 1) (n := 0) rfl (by decide) (by decide)).trans rfl
 have s1 := zgX x (t := [52]) x1 x2 (by unfold ftx; rw [if_pos rfl, d4])
 have s2 := zgX y (t := [55]) y1 y2 (by unfold ftx; rw [if_pos rfl, d7])
 have s3 := zgX u (t := [49]) u1 u2 (by unfold ftx; rw [if_pos rfl, d1])
 have s4 := zgX v (t := [49]) v1 v2 (by unfold ftx; rw [if_pos rfl, d1])
 have fr := zj7
 have iv := zms
 have ePQ : pI pQ = .ag [.i .i64 2, .i .i64 0, .i .i64 3, .i .i64 0, .i .i64 2, .i .i64 5, .i .i64 0, .i .i64 0, .i .i64 1] := rfl
 have eRQ : pI rQ = .ag [.i .i64 6, .i .i64 0, .i .i64 0, .i .i64 0, .i .i64 6, .i .i64 0, .i .i64 (-1), .i .i64 (-1), .i .i64 4] := rfl
 rw [ePQ] at ap iv
 rw [eRQ] at aq
 unfold q8 at fr
 clear xi yi ui vi hi oi vp vr hp hr
 refine zab (xf := x_l12_lives) rfl (by simp [x_l12_lives]) ?_
 simp only [x_l12_lives]
 simp (disch := omega) only [go_sem, seval, wqq, ho, zaE, zaj]
 refine zay [1, 2] rfl (by simp only [go_sem, seval]) ?_
 simp (disch := omega) only [go_sem, seval, wqq, oo, ap, iv, fr, aq, s1, s2, s3, s4, eq9, zaE, zaj]
end Go.Eng
namespace Go.Eng
theorem zik {k n : Nat} (h : 2 ^ n ≤ k) : n < nbits k := by
 have h0 : k ≠ 0 := fun q => by have := Nat.two_pow_pos n; omega
 unfold nbits
 rw [if_neg h0]
 have := (Nat.le_log2 h0).2 h
 omega
theorem zjq {k n : Nat} (h : nbits k ≤ n) : k < 2 ^ n := Nat.lt_of_not_le fun q => by have := zik q; omega
theorem zry : (2 : Nat) ^ 250 ≤ 10000 ^ 19 := by decide
theorem ze1 {k : Nat} (h : nbits k ≤ 1000) : tlen k ≤ 76 := by
 have h2 : nbits k ≤ 250 * 4 := h
 have e1 : ∀ m : Nat, m = 250 → 2 ^ (m * 4) ≤ 10000 ^ (19 * 4) := fun m hm => by
  rw [Nat.pow_mul, Nat.pow_mul]
  exact Nat.pow_le_pow_left (by rw [hm]; exact zry) 4
 refine zaY.2 (Nat.lt_of_lt_of_le (zjq h2) (e1 250 rfl))
def fw (f : FQ) : Prop := nbits f.p.v.natAbs ≤ 1000 ∧ nbits f.q.v.natAbs ≤ 1000
def rwF (p : Nat → Int) (i : Nat) (u v : FQ) : Int := rwV (p (3 * i)) (p (3 * i + 1)) (p (3 * i + 2)) u.p.v u.q.v v.p.v v.q.v
open Classical in
noncomputable def aE (p : Nat → Int) (u v : FQ) : Int := if vlP p = 0 then (if fw u ∧ fw v then (if rwF p 2 u v = 0 then 9 else 0) else 4) else vlP p
set_option maxHeartbeats 4000000 in
theorem zj3 {p : Nat → Int} (hp : ∀ e, Fits64 (p e)) (u v : FQ) (h : vlP p ≠ 0) : pf E0 305 [pI p, fqP u, fqP v] = some (.tu [fqP fq0, fqP fq0, .i .i64 (vlP p)]) := by
 have pv := zbj hp
 generalize vlP p = a at *
 have t : (a = 0) = False := eq_false h
 refine zab (xf := x_proj_Apply) rfl (by simp [x_proj_Apply]) ?_
 simp only [x_proj_Apply]
 simp (disch := omega) only [go_sem, seval, wqq, pv, t, zna]
set_option maxHeartbeats 4000000 in
theorem zj2 {p : Nat → Int} (hp : ∀ e, Fits64 (p e)) (u v : FQ) (hv : vlP p = 0) (h : ¬ (fw u ∧ fw v)) : pf E0 305 [pI p, fqP u, fqP v] = some (.tu [fqP fq0, fqP fq0, .i .i64 4]) := by
 have pv := zbj hp
 rw [hv] at pv
 have d1 := zbH u
 have d2 := zbH v
 have h' : max (nbits u.p.v.natAbs) (nbits u.q.v.natAbs) > 1000 ∨ max (nbits v.p.v.natAbs) (nbits v.q.v.natAbs) > 1000 := by unfold fw at h; omega
 generalize max (nbits u.p.v.natAbs) (nbits u.q.v.natAbs) = A at *
 generalize max (nbits v.p.v.natAbs) (nbits v.q.v.natAbs) = B at *
 clear h
 by_cases t : A > 1000
 ·have t1 : ((A : Int) > 1000) = True := eq_true (by omega)
  refine zab (xf := x_proj_Apply) rfl (by simp [x_proj_Apply]) ?_
  simp only [x_proj_Apply]
  simp (disch := omega) only [go_sem, seval, wqq, pv, d1, d2, t1, zna]
 ·have t1 : ((A : Int) > 1000) = False := eq_false (by omega)
  have t2 : ((B : Int) > 1000) = True := eq_true (by omega)
  refine zab (xf := x_proj_Apply) rfl (by simp [x_proj_Apply]) ?_
  simp only [x_proj_Apply]
  simp (disch := omega) only [go_sem, seval, wqq, pv, d1, d2, t1, t2, zna]
theorem zgg {u : FQ} (h : fw u) : fsz 76 u := ⟨ze1 h.1, ze1 h.2⟩
theorem zdV (u : FQ) : u.q.v ≠ 0 := by have := u.q1; omega
set_option maxHeartbeats 4000000 in
theorem zj4 {p : Nat → Int} (hp : ∀ e, Fits64 (p e)) (u v : FQ) (hv : vlP p = 0) (h : fw u ∧ fw v) (h0 : rwF p 2 u v = 0) : pf E0 305 [pI p, fqP u, fqP v] = some (.tu [fqP fq0, fqP fq0, .i .i64 9]) := by
 have pv := zbj hp
 rw [hv] at pv
 have d1 := zbH u
 have d2 := zbH v
 obtain ⟨r2, f2, i2, z2⟩ := zgE (hp 6) (hp 7) (hp 8) (zgg h.1) (zgg h.2) (by omega) (zdV u) (zdV v) (zbS u) (zbS v)
 have i2 : r2.is (rwF p 2 u v) (u.q.v * v.q.v) := i2
 rw [h0] at i2
 have r20 : r2.p.v = 0 := by
  unfold FQ.is at i2
  rw [Int.zero_mul] at i2
  exact (Int.mul_eq_zero.1 i2).resolve_right (Int.mul_ne_zero (zdV u) (zdV v))
 have sg := ziG r2
 rw [r20, show cmpI 0 0 = 0 from by decide] at sg
 have h' : ¬ (max (nbits u.p.v.natAbs) (nbits u.q.v.natAbs) > 1000) ∧ ¬ (max (nbits v.p.v.natAbs) (nbits v.q.v.natAbs) > 1000) := by unfold fw at h; omega
 generalize max (nbits u.p.v.natAbs) (nbits u.q.v.natAbs) = A at *
 generalize max (nbits v.p.v.natAbs) (nbits v.q.v.natAbs) = B at *
 have t1 : ((A : Int) > 1000) = False := eq_false (by omega)
 have t2 : ((B : Int) > 1000) = False := eq_false (by omega)
 clear i2 h0 h
 have hF : PV.ag [.i .i64 (p 0), .i .i64 (p 1), .i .i64 (p 2), .i .i64 (p 3), .i .i64 (p 4), .i .i64 (p 5), .i .i64 (p 6), .i .i64 (p 7), .i .i64 (p 8)] = pI p := rfl
 refine zab (xf := x_proj_Apply) rfl (by simp [x_proj_Apply]) ?_
 simp only [x_proj_Apply]
 simp (disch := omega) only [go_sem, seval, wqq, pv, d1, d2, t1, t2, zan, hF, zta, gr3, f2, sg, zna]
theorem zgy {p : Nat → Int} (hp : ∀ e, Fits64 (p e)) (u v : FQ) : ∃ x y : FQ, pf E0 305 [pI p, fqP u, fqP v] = some (.tu [fqP x, fqP y, .i .i64 (aE p u v)]) ∧
  (aE p u v = 0 → x.is (rwF p 0 u v) (rwF p 2 u v) ∧ y.is (rwF p 1 u v) (rwF p 2 u v) ∧ fsz 344 x ∧ fsz 344 y ∧ rwF p 2 u v ≠ 0 ∧ vlP p = 0 ∧ fw u ∧ fw v) ∧ (aE p u v ≠ 0 → x = fq0 ∧ y = fq0) := by
 unfold aE
 by_cases hv : vlP p = 0
 ·rw [if_pos hv]
  by_cases h : fw u ∧ fw v
  ·rw [if_pos h]
   by_cases h0 : rwF p 2 u v = 0
   ·rw [if_pos h0]
    exact ⟨fq0, fq0, zj4 hp u v hv h h0, fun q => absurd q (by decide), fun _ => ⟨rfl, rfl⟩⟩
   ·rw [if_neg h0]
    obtain ⟨x, y, e, ix, iy, zx, zy⟩ := zfL hp hv (zgg h.1) (zgg h.2) (by omega) (zdV u) (zdV v) (zbS u) (zbS v) (Nat.max_le.2 h.1) (Nat.max_le.2 h.2) h0
    exact ⟨x, y, e, fun _ => ⟨ix, iy, zx, zy, h0, hv, h.1, h.2⟩, fun q => absurd rfl q⟩
  ·rw [if_neg h]
   exact ⟨fq0, fq0, zj2 hp u v hv h, fun q => absurd q (by decide), fun _ => ⟨rfl, rfl⟩⟩
 ·rw [if_neg hv]
  exact ⟨fq0, fq0, zj3 hp u v hv, fun q => absurd q hv, fun _ => ⟨rfl, rfl⟩⟩
end Go.Eng
namespace Go.Eng
def tr9 (X : Nat → Int) : Nat → Int := fun e => if e < 9 then X e else 0
theorem zlg {X : Nat → Int} {e : Nat} (h : e < 9) : tr9 X e = X e := if_pos h
theorem zqE (X : Nat → Int) : pI X = pI (tr9 X) := zgv fun _ h => (zlg h).symm
theorem zer {c : Int} (h : c ≠ 0) : (cmpI c 0 = 1 ∧ c = (c.natAbs : Int)) ∨ (cmpI c 0 = -1 ∧ c = -(c.natAbs : Int)) := by
 unfold cmpI
 by_cases h1 : c < 0
 ·right; rw [if_pos h1]; exact ⟨rfl, by omega⟩
 ·left; rw [if_neg h1, if_pos (by omega)]; exact ⟨rfl, by omega⟩
theorem zh3 (X : Nat → Int) (c : Int) : ∀ i, gN (fun e => c * X e) i = c.natAbs * gN X i
 | 0 => rfl
 | i + 1 => by
  show Nat.gcd (gN (fun e => c * X e) i) (c * X i).natAbs = c.natAbs * Nat.gcd (gN X i) (X i).natAbs
  rw [zh3 X c i, Int.natAbs_mul, Nat.gcd_mul_left]
theorem zhU (X : Nat → Int) {c : Int} (hc : c ≠ 0) : ∀ i, fN (fun e => c * X e) i = fN X i * cmpI c 0
 | 0 => (Int.zero_mul _).symm
 | i + 1 => by
  have ih := zhU X hc i
  have h1 := zjt (X i) 0 c
  rw [Int.zero_mul, Int.mul_comm] at h1
  show (if fN (fun e => c * X e) i = 0 then cmpI (c * X i) 0 else fN (fun e => c * X e) i) = (if fN X i = 0 then cmpI (X i) 0 else fN X i) * cmpI c 0
  rw [ih, h1]
  rcases zer hc with ⟨q, _⟩ | ⟨q, _⟩
  ·rw [q]; simp only [Int.mul_one]
  ·rw [q]
   by_cases z : fN X i = 0
   ·rw [if_pos z, if_pos (by omega)]
   ·rw [if_neg z, if_neg (by omega)]
theorem zgj (X : Nat → Int) : ∀ {i e : Nat}, e < i → (gN X i : Int) ∣ X e
 | 0, _, h => absurd h (Nat.not_lt_zero _)
 | i + 1, e, h => by
  show ((Nat.gcd (gN X i) (X i).natAbs : Nat) : Int) ∣ X e
  by_cases q : e = i
  ·subst q; exact Int.ofNat_dvd_left.2 (Nat.gcd_dvd_right _ _)
  ·exact Int.dvd_trans (Int.natCast_dvd_natCast.2 (Nat.gcd_dvd_left _ _)) (zgj X (by omega))
theorem zeM (X : Nat → Int) {c : Int} (hc : c ≠ 0) (hg : gN X 9 ≠ 0) {e : Nat} (he : e < 9) : c * X e / (gN (fun e => c * X e) 9 : Int) = cmpI c 0 * (X e / (gN X 9 : Int)) := by
 rw [zh3]
 obtain ⟨k, hk⟩ := zgj X he
 have g0 : (gN X 9 : Int) ≠ 0 := by omega
 rw [hk, Int.mul_ediv_cancel_left _ g0, Int.natCast_mul]
 have c0 : (c.natAbs : Int) ≠ 0 := by omega
 have r := zer hc
 generalize (gN X 9 : Int) = g at *
 generalize (c.natAbs : Int) = a at *
 generalize cmpI c 0 = s at *
 have ag : a * g ≠ 0 := Int.mul_ne_zero c0 g0
 rcases r with ⟨rfl, rfl⟩ | ⟨rfl, rfl⟩
 ·rw [← Int.mul_assoc, Int.mul_ediv_cancel_left _ ag, Int.one_mul]
 ·rw [show -a * (g * k) = a * g * -k by grind, Int.mul_ediv_cancel_left _ ag]; omega
theorem zjU (X : Nat → Int) {c : Int} (hc : c ≠ 0) (hg : gN X 9 ≠ 0) : okN (fun e => c * X e) ↔ okN X := by
 unfold okN
 have r := zer hc
 constructor
 ·intro q e he
  have := q e he
  rw [zeM X hc hg he] at this
  rcases r with ⟨s, _⟩ | ⟨s, _⟩ <;> rw [s] at this <;> omega
 ·intro q e he
  have := q e he
  rw [zeM X hc hg he]
  rcases r with ⟨s, _⟩ | ⟨s, _⟩ <;> rw [s] <;> omega
theorem zin {X : Nat → Int} {c : Int} (hc : c ≠ 0) (hg : gN X 9 ≠ 0) : pI (nfP fun e => c * X e) = pI (nfP X) ∧ nfE (fun e => c * X e) = nfE X := by
 have ok := zjU X hc hg
 unfold nfP nfE
 by_cases h : okN X
 ·rw [if_pos h, if_pos h, if_pos (ok.2 h), if_pos (ok.2 h)]
  refine ⟨zgv fun e he => ?_, rfl⟩
  show c * X e / (gN (fun e => c * X e) 9 : Int) * fN (fun e => c * X e) 9 = _
  rw [zeM X hc hg he, zhU X hc]
  rcases zer hc with ⟨q, _⟩ | ⟨q, _⟩
  ·rw [q]; grind
  ·rw [q]; grind
 ·rw [if_neg h, if_neg h, if_neg fun q => h (ok.1 q), if_neg fun q => h (ok.1 q)]
  exact ⟨rfl, rfl⟩
theorem zjK {X : Nat → Int} (h : rdV X ≠ 0) : gN X 9 ≠ 0 := fun q => h (zfS q)
theorem zio {A B : Nat → Int} {c d : Int} (hc : c ≠ 0) (hd : d ≠ 0) (hA : rdV A ≠ 0) (hB : rdV B ≠ 0) (h : ∀ e, e < 9 → c * A e = d * B e) : pI (nfP A) = pI (nfP B) ∧ nfE A = nfE B := by
 have a := zin hc (zjK hA)
 have b := zin hd (zjK hB)
 have x := znX (X := fun e => c * A e) (Y := fun e => d * B e) h
 exact ⟨by rw [← a.1, x.1, b.1], by rw [← a.2, x.2, b.2]⟩
theorem zqb {X : Nat → Int} (h : gN X 9 ≠ 0) : fN X 9 = 1 ∨ fN X 9 = -1 := (zgd X 9).resolve_left fun q => h (zfF X 9 q)
theorem zlY {X : Nat → Int} (hg : gN X 9 ≠ 0) (h : nfE X = 0) : ∃ c : Int, c ≠ 0 ∧ (∀ e, e < 9 → X e = c * nfP X e) ∧ okP (nfP X) := by
 unfold nfE at h
 split at h
 ·rename_i ok
  have hs := zqb hg
  have e0 : nfP X = fun e => X e / gN X 9 * fN X 9 := by unfold nfP; rw [if_pos ok]
  rw [e0]
  have g0 : (gN X 9 : Int) ≠ 0 := by omega
  refine ⟨gN X 9 * fN X 9, Int.mul_ne_zero g0 (by omega), fun e he => ?_, fun e he => ?_⟩
  ·have := Int.mul_ediv_cancel' (zgj X he)
   show X e = gN X 9 * fN X 9 * (X e / gN X 9 * fN X 9)
   rcases hs with s | s <;> rw [s] <;> grind
  ·have := ok e he
   show -1073741824 ≤ X e / gN X 9 * fN X 9 ∧ X e / gN X 9 * fN X 9 ≤ 1073741824
   rcases hs with s | s <;> rw [s] <;> omega
 ·cases h
theorem zlZ (X : Nat → Int) (e : Nat) (he : e < 9) : Fits64 (nfP X e) := by
 unfold nfP
 split
 ·rename_i ok
  have := ok e he
  have := zgd X 9
  show Fits64 (X e / gN X 9 * fN X 9)
  unfold Fits64
  rcases this with s | s | s <;> rw [s] <;> omega
 ·show Fits64 0; unfold Fits64; omega
theorem zmZ {X : Nat → Int} (h : ∀ e, e < 9 → Fits64 (X e)) (e : Nat) : Fits64 (tr9 X e) := by
 unfold tr9
 split
 ·exact h e ‹_›
 ·unfold Fits64; omega
theorem zoA {X Y : Nat → Int} (h : ∀ e, e < 9 → X e = Y e) : rdV X = rdV Y := by
 unfold rdV
 rw [h 0 (by decide), h 1 (by decide), h 2 (by decide), h 3 (by decide), h 4 (by decide), h 5 (by decide), h 6 (by decide), h 7 (by decide), h 8 (by decide)]
theorem zmK (X : Nat → Int) (c : Int) : rdV (fun e => c * X e) = c * c * c * rdV X := by
 unfold rdV rtK; grind
theorem zla {X Y Z W : Nat → Int} (h : ∀ e, e < 9 → X e = Y e) (k : ∀ e, e < 9 → Z e = W e) (e : Nat) (he : e < 9) : rprV X Z e = rprV Y W e := by
 unfold rprV
 rw [h (3 * (e / 3)) (by omega), h (3 * (e / 3) + 1) (by omega), h (3 * (e / 3) + 2) (by omega), k (e % 3) (by omega), k (3 + e % 3) (by omega), k (6 + e % 3) (by omega)]
theorem zkh (X Y : Nat → Int) (c : Int) (e : Nat) : rprV (fun e => c * X e) Y e = c * rprV X Y e := by
 unfold rprV rpK; grind
theorem zki (X Y : Nat → Int) (c : Int) (e : Nat) : rprV X (fun e => c * Y e) e = c * rprV X Y e := by
 unfold rprV rpK; grind
def oneI : Nat → Int := fun e => if e % 4 = 0 then 1 else 0
theorem zoG (X : Nat → Int) (e : Nat) (he : e < 9) : rprV X (adV X) e = rdV X * oneI e := by
 obtain rfl | rfl | rfl | rfl | rfl | rfl | rfl | rfl | rfl := zdX he
 all_goals
  simp only [rprV, rpK, adV, mnV, rdV, rtK, oneI, Nat.reduceAdd, Nat.reduceMul, Nat.reduceMod, Nat.reduceDiv, Nat.add_zero, Nat.zero_add, Nat.mul_zero]
  simp only [↓reduceIte, Nat.reduceEqDiff]
  grind
theorem zoF (X : Nat → Int) (e : Nat) (he : e < 9) : rprV (adV X) X e = rdV X * oneI e := by
 obtain rfl | rfl | rfl | rfl | rfl | rfl | rfl | rfl | rfl := zdX he
 all_goals
  simp only [rprV, rpK, adV, mnV, rdV, rtK, oneI, Nat.reduceAdd, Nat.reduceMul, Nat.reduceMod, Nat.reduceDiv, Nat.add_zero, Nat.zero_add, Nat.mul_zero]
  simp only [↓reduceIte, Nat.reduceEqDiff]
  grind
theorem zjk (X : Nat → Int) (e : Nat) (he : e < 9) : adV (adV X) e = rdV X * X e := by
 obtain rfl | rfl | rfl | rfl | rfl | rfl | rfl | rfl | rfl := zdX he
 all_goals
  simp only [adV, mnV, rdV, rtK, Nat.reduceAdd, Nat.reduceMul, Nat.reduceMod, Nat.reduceDiv, Nat.add_zero, Nat.zero_add, Nat.mul_zero]
  grind
theorem zls (X : Nat → Int) (c : Int) (e : Nat) : adV (fun e => c * X e) e = c * c * adV X e := by
 unfold adV mnV; grind
theorem zng {X Y : Nat → Int} (h : ∀ e, e < 9 → X e = Y e) (e : Nat) : adV X e = adV Y e := by
 unfold adV mnV
 rw [h (3 * ((e % 3 + 1) % 3) + (e / 3 + 1) % 3) (by omega), h (3 * ((e % 3 + 2) % 3) + (e / 3 + 2) % 3) (by omega), h (3 * ((e % 3 + 1) % 3) + (e / 3 + 2) % 3) (by omega), h (3 * ((e % 3 + 2) % 3) + (e / 3 + 1) % 3) (by omega)]
theorem zk6 (X : Nat → Int) : rdV (adV X) = rdV X * rdV X := by
 have h := zmJ (adV X)
 rw [zjk X 0 (by decide), zjk X 3 (by decide), zjk X 6 (by decide)] at h
 rw [h]
 have := zmJ X
 simp only [adV, mnV, rdV, rtK, Nat.reduceAdd, Nat.reduceMul, Nat.reduceMod, Nat.reduceDiv, Nat.add_zero, Nat.zero_add, Nat.mul_zero]
 grind
end Go.Eng
namespace Go.Eng
theorem zmP (p q : Nat → Int) (u v : FQ) (i : Nat) (hi : i < 3) : rwF (rprV p q) i u v = p (3 * i) * rwF q 0 u v + p (3 * i + 1) * rwF q 1 u v + p (3 * i + 2) * rwF q 2 u v := by
 obtain rfl | rfl | rfl : i = 0 ∨ i = 1 ∨ i = 2 := by omega
 all_goals
  simp only [rwF, rwV, rprV, rpK, Nat.reduceAdd, Nat.reduceMul, Nat.reduceMod, Nat.reduceDiv, Nat.add_zero, Nat.zero_add, Nat.mul_zero]
  grind
theorem zmN (p : Nat → Int) {x y : FQ} {A0 A1 A2 : Int} (hx : x.is A0 A2) (hy : y.is A1 A2) (i : Nat) : A2 * rwF p i x y = x.q.v * y.q.v * (p (3 * i) * A0 + p (3 * i + 1) * A1 + p (3 * i + 2) * A2) := by
 unfold FQ.is at hx hy
 unfold rwF rwV
 generalize p (3 * i) = a
 generalize p (3 * i + 1) = b
 generalize p (3 * i + 2) = c
 generalize x.p.v = xn at *
 generalize x.q.v = xd at *
 generalize y.p.v = yn at *
 generalize y.q.v = yd at *
 have e1 : A2 * (a * xn * yd) = a * yd * (A0 * xd) := by rw [← hx]; grind
 have e2 : A2 * (b * yn * xd) = b * xd * (A1 * yd) := by rw [← hy]; grind
 grind
theorem zgV {X Y : Nat → Int} {c : Int} (h : ∀ e, e < 9 → X e = c * Y e) (u v : FQ) (i : Nat) (hi : i < 3) : rwF X i u v = c * rwF Y i u v := by
 unfold rwF rwV
 rw [h (3 * i) (by omega), h (3 * i + 1) (by omega), h (3 * i + 2) (by omega)]
 grind
theorem zmQ (u v : FQ) : rwF oneI 0 u v = u.p.v * v.q.v ∧ rwF oneI 1 u v = v.p.v * u.q.v ∧ rwF oneI 2 u v = u.q.v * v.q.v := by
 simp only [rwF, rwV, oneI, Nat.reduceAdd, Nat.reduceMul, Nat.reduceMod, Nat.mul_zero, Nat.zero_add, ↓reduceIte, Nat.reduceEqDiff]
 grind
theorem zkS : pI (nfP oneI) = pI oneI ∧ nfE oneI = 0 := by
 obtain ⟨a, b⟩ := zfJ (X := oneI) (g := 1) (s := 1) (by decide) (by decide) (by decide)
 rw [a]
 exact ⟨zgv fun e _ => by rw [Int.mul_one]; exact Int.ediv_one _, b⟩
theorem zrM {p : Nat → Int} (h : vlP p = 0) : okP p := by
 unfold vlP at h
 split at h
 ·assumption
 ·cases h
theorem zjS {p : Nat → Int} (hp : ∀ e, Fits64 (p e)) (h : vlP p = 0) : nfE p = 0 := by
 have ok := zrM h
 have hg := zjK (zcn hp h)
 have : okN p := fun e he => by
  have b := ok e he
  obtain ⟨k, hk⟩ := zgj p he
  have g0 : (gN p 9 : Int) ≠ 0 := by omega
  rw [hk, Int.mul_ediv_cancel_left _ g0]
  rw [hk] at b
  have n : (gN p 9 : Int) ≥ 1 := by omega
  generalize (gN p 9 : Int) = g at *
  have : k.natAbs ≤ (g * k).natAbs := by rw [Int.natAbs_mul]; exact Nat.le_mul_of_pos_left _ (by omega)
  omega
 unfold nfE; rw [if_pos this]
end Go.Eng
namespace Go.Eng
theorem hF (p : Nat → Int) : PV.ag [.i .i64 (p 0), .i .i64 (p 1), .i .i64 (p 2), .i .i64 (p 3), .i .i64 (p 4), .i .i64 (p 5), .i .i64 (p 6), .i .i64 (p 7), .i .i64 (p 8)] = pI p := rfl
theorem zix {p q : Nat → Int} (hp : ∀ e, Fits64 (p e)) (hq : ∀ e, Fits64 (q e)) : pf E0 335 [pI p, pI q] = some (.tu [pI (CP p q), .i .i64 (CE p q)]) := by
 have hv := zbj hp
 have hw := zbj hq
 have hm := zhf hp
 have hk := zhf hq
 have hr := zkX (ofW p) (ofW q)
 have fp := hF p
 have fq := hF q
 unfold CP CE
 by_cases h : vlP p = 0
 ·by_cases h' : vlP q = 0
  ·have pe : (fun e => (prW (ofW p) (ofW q) e).v) = rprV p q := funext fun e => by
    rw [zs2 (n := 2) (zfe hp) (zfe hq) (by decide) e, zhb hp, zhb hq]
   have hn := zeJ (prW (ofW p) (ofW q)) (by
    rw [pe]
    intro z
    have := zfS z
    rw [zk7] at this
    exact Int.mul_ne_zero (zcn hp h) (zcn hq h') this)
   rw [pe] at hn
   rw [if_pos h, if_pos h', if_pos h, if_pos h']
   rw [h] at hv
   rw [h'] at hw
   refine zab (xf := x_proj_Compose) rfl (by simp [x_proj_Compose]) ?_
   simp only [x_proj_Compose]
   simp (disch := omega) only [go_sem, seval, wqq, zan, fp, fq, zaE, zaj]
   refine zad x_proj_Compose_l1.eq_1 ?_
   simp (disch := omega) only [go_sem, seval, wqq, zan, fp, fq, hv]
   refine zad x_proj_Compose_l1.eq_1 ?_
   simp (disch := omega) only [go_sem, seval, wqq, zan, fp, fq, hw]
   refine zad x_proj_Compose_l1.eq_1 ?_
   simp (disch := omega) only [go_sem, seval, wqq]
   refine zay [3] rfl (by simp only [go_sem, seval]) ?_
   simp (disch := omega) only [go_sem, seval, wqq, fp, fq, hm, hk, hr, hn]
  ·rw [if_pos h, if_neg h', if_pos h, if_neg h']
   rw [h] at hv
   generalize vlP q = V at *
   have h' : (V = 0) = False := eq_false h'
   refine zab (xf := x_proj_Compose) rfl (by simp [x_proj_Compose]) ?_
   simp only [x_proj_Compose]
   simp (disch := omega) only [go_sem, seval, wqq, zan, fp, fq, zaE, zaj]
   refine zad x_proj_Compose_l1.eq_1 ?_
   simp (disch := omega) only [go_sem, seval, wqq, zan, fp, fq, hv]
   refine zad x_proj_Compose_l1.eq_1 ?_
   simp (disch := omega) only [go_sem, seval, wqq, zan, fp, fq, hw, h', pI0, hF zI]
 ·rw [if_neg h, if_neg h]
  generalize vlP p = V at *
  have h : (V = 0) = False := eq_false h
  refine zab (xf := x_proj_Compose) rfl (by simp [x_proj_Compose]) ?_
  simp only [x_proj_Compose]
  simp (disch := omega) only [go_sem, seval, wqq, zan, fp, fq, zaE, zaj]
  refine zad x_proj_Compose_l1.eq_1 ?_
  simp (disch := omega) only [go_sem, seval, wqq, zan, fp, fq, hv, h, pI0, hF zI]
def e9 (a b : Nat → Int) : Bool := a 0 == b 0 && (a 1 == b 1 && (a 2 == b 2 && (a 3 == b 3 && (a 4 == b 4 && (a 5 == b 5 && (a 6 == b 6 && (a 7 == b 7 && a 8 == b 8)))))))
theorem zhM (a : Nat → Int) : e9 a a = true := by simp [e9]
theorem zr8 (a b : Nat → Int) : eqaP [1, 1, 1, 1, 1, 1, 1, 1, 1] (pI a) (pI b) = some (e9 a b) := by
 unfold pI cI e9
 rw [zlL]
 simp [eqCellsP, eqCellP]
theorem zj9 {xs : List Int} (hx : Ints xs) {i : Int} (hi : Fits64 i) : ∃ n, Fits64 n ∧ pf E0 180 [ints xs, .i .i64 i] = some (.i .i64 n) := by
 obtain ⟨hx1, hx2⟩ := hx
 by_cases h : i < 0
 ·have h : (i < 0) = True := eq_true h
  refine ⟨0, by decide, ?_⟩
  refine zab (xf := x_r04_Pick) rfl (by simp [x_r04_Pick]) ?_
  simp only [x_r04_Pick]
  simp (disch := omega) only [go_sem, seval, wqq, h]
 ·have h0 : (i < 0) = False := eq_false h
  by_cases h' : (xs.length : Int) ≤ i
  ·have q1 : (i ≥ (xs.length : Int)) = True := eq_true h'
   refine ⟨0, by decide, ?_⟩
   refine zab (xf := x_r04_Pick) rfl (by simp [x_r04_Pick]) ?_
   simp only [x_r04_Pick]
   simp (disch := omega) only [go_sem, seval, wqq, h0, q1]
  ·have q1 : (i ≥ (xs.length : Int)) = False := eq_false h'
   obtain ⟨j, rfl⟩ : ∃ j : Nat, i = j := ⟨i.toNat, by omega⟩
   have hj : j < xs.length := by omega
   have hg : xs[j]? = some (xs.getD j 0) := by simp [hj]
   refine ⟨xs.getD j 0, hx2 _ (by simp [hj]), ?_⟩
   refine zab (xf := x_r04_Pick) rfl (by simp [x_r04_Pick]) ?_
   simp only [x_r04_Pick]
   simp (disch := omega) only [go_sem, seval, wqq, h0, q1, zdE hg, Int.toNat_natCast]
end Go.Eng
namespace Go.Eng
def gEnt (n d : Int) : Int := if n.tmod 6 = 1 ∨ n.tmod 6 = -1 then (n.tdiv 6).tmod 8 else if n.tmod 6 = 2 then (n.tdiv 6).tmod 1000 else if n.tmod 6 = 3 then 1073741824 - (n.tdiv 6).tmod 4 else d
def g0P : Nat → Int := fun e => if e = 0 then 2 else if e = 4 then 2 else if e = 8 then 1 else 0
theorem zh1 (n d : Int) (hd : Fits64 d) : Fits64 (gEnt n d) := by
 have a1 := Int.lt_tmod_of_pos (n.tdiv 6) (show (0 : Int) < 8 by decide)
 have a2 := Int.tmod_lt_of_pos (n.tdiv 6) (show (0 : Int) < 8 by decide)
 have b1 := Int.lt_tmod_of_pos (n.tdiv 6) (show (0 : Int) < 1000 by decide)
 have b2 := Int.tmod_lt_of_pos (n.tdiv 6) (show (0 : Int) < 1000 by decide)
 have c1 := Int.lt_tmod_of_pos (n.tdiv 6) (show (0 : Int) < 4 by decide)
 have c2 := Int.tmod_lt_of_pos (n.tdiv 6) (show (0 : Int) < 4 by decide)
 unfold gEnt
 split
 ·unfold Fits64; omega
 ·split
  ·unfold Fits64; omega
  ·split
   ·unfold Fits64; omega
   ·exact hd
def gMix (ns : Nat → Int) (i : Nat) : Nat → Int := fun e => if e < i then gEnt (ns e) (g0P e) else g0P e
theorem gm0 (ns : Nat → Int) {x : Int} (h : gEnt (ns 0) (g0P 0) = x) : (cI (gMix ns 0)).set 0 (.i .i64 x) = cI (gMix ns 1) := by subst h; rfl
theorem gk0 (ns : Nat → Int) (h : gEnt (ns 0) (g0P 0) = g0P 0) : cI (gMix ns 0) = cI (gMix ns 1) := by
 have e : gMix ns 0 = gMix ns 1 := by
  funext e
  unfold gMix
  by_cases q : e = 0
  ·subst q; rw [if_neg (by decide), if_pos (by decide), h]
  ·by_cases r : e < 0
   ·rw [if_pos r, if_pos (by omega)]
   ·rw [if_neg r, if_neg (by omega)]
 rw [e]
theorem gm1 (ns : Nat → Int) {x : Int} (h : gEnt (ns 1) (g0P 1) = x) : (cI (gMix ns 1)).set 1 (.i .i64 x) = cI (gMix ns 2) := by subst h; rfl
theorem gk1 (ns : Nat → Int) (h : gEnt (ns 1) (g0P 1) = g0P 1) : cI (gMix ns 1) = cI (gMix ns 2) := by
 have e : gMix ns 1 = gMix ns 2 := by
  funext e
  unfold gMix
  by_cases q : e = 1
  ·subst q; rw [if_neg (by decide), if_pos (by decide), h]
  ·by_cases r : e < 1
   ·rw [if_pos r, if_pos (by omega)]
   ·rw [if_neg r, if_neg (by omega)]
 rw [e]
theorem gm2 (ns : Nat → Int) {x : Int} (h : gEnt (ns 2) (g0P 2) = x) : (cI (gMix ns 2)).set 2 (.i .i64 x) = cI (gMix ns 3) := by subst h; rfl
theorem gk2 (ns : Nat → Int) (h : gEnt (ns 2) (g0P 2) = g0P 2) : cI (gMix ns 2) = cI (gMix ns 3) := by
 have e : gMix ns 2 = gMix ns 3 := by
  funext e
  unfold gMix
  by_cases q : e = 2
  ·subst q; rw [if_neg (by decide), if_pos (by decide), h]
  ·by_cases r : e < 2
   ·rw [if_pos r, if_pos (by omega)]
   ·rw [if_neg r, if_neg (by omega)]
 rw [e]
theorem gm3 (ns : Nat → Int) {x : Int} (h : gEnt (ns 3) (g0P 3) = x) : (cI (gMix ns 3)).set 3 (.i .i64 x) = cI (gMix ns 4) := by subst h; rfl
theorem gk3 (ns : Nat → Int) (h : gEnt (ns 3) (g0P 3) = g0P 3) : cI (gMix ns 3) = cI (gMix ns 4) := by
 have e : gMix ns 3 = gMix ns 4 := by
  funext e
  unfold gMix
  by_cases q : e = 3
  ·subst q; rw [if_neg (by decide), if_pos (by decide), h]
  ·by_cases r : e < 3
   ·rw [if_pos r, if_pos (by omega)]
   ·rw [if_neg r, if_neg (by omega)]
 rw [e]
theorem gm4 (ns : Nat → Int) {x : Int} (h : gEnt (ns 4) (g0P 4) = x) : (cI (gMix ns 4)).set 4 (.i .i64 x) = cI (gMix ns 5) := by subst h; rfl
theorem gk4 (ns : Nat → Int) (h : gEnt (ns 4) (g0P 4) = g0P 4) : cI (gMix ns 4) = cI (gMix ns 5) := by
 have e : gMix ns 4 = gMix ns 5 := by
  funext e
  unfold gMix
  by_cases q : e = 4
  ·subst q; rw [if_neg (by decide), if_pos (by decide), h]
  ·by_cases r : e < 4
   ·rw [if_pos r, if_pos (by omega)]
   ·rw [if_neg r, if_neg (by omega)]
 rw [e]
theorem gm5 (ns : Nat → Int) {x : Int} (h : gEnt (ns 5) (g0P 5) = x) : (cI (gMix ns 5)).set 5 (.i .i64 x) = cI (gMix ns 6) := by subst h; rfl
theorem gk5 (ns : Nat → Int) (h : gEnt (ns 5) (g0P 5) = g0P 5) : cI (gMix ns 5) = cI (gMix ns 6) := by
 have e : gMix ns 5 = gMix ns 6 := by
  funext e
  unfold gMix
  by_cases q : e = 5
  ·subst q; rw [if_neg (by decide), if_pos (by decide), h]
  ·by_cases r : e < 5
   ·rw [if_pos r, if_pos (by omega)]
   ·rw [if_neg r, if_neg (by omega)]
 rw [e]
theorem gm6 (ns : Nat → Int) {x : Int} (h : gEnt (ns 6) (g0P 6) = x) : (cI (gMix ns 6)).set 6 (.i .i64 x) = cI (gMix ns 7) := by subst h; rfl
theorem gk6 (ns : Nat → Int) (h : gEnt (ns 6) (g0P 6) = g0P 6) : cI (gMix ns 6) = cI (gMix ns 7) := by
 have e : gMix ns 6 = gMix ns 7 := by
  funext e
  unfold gMix
  by_cases q : e = 6
  ·subst q; rw [if_neg (by decide), if_pos (by decide), h]
  ·by_cases r : e < 6
   ·rw [if_pos r, if_pos (by omega)]
   ·rw [if_neg r, if_neg (by omega)]
 rw [e]
theorem gm7 (ns : Nat → Int) {x : Int} (h : gEnt (ns 7) (g0P 7) = x) : (cI (gMix ns 7)).set 7 (.i .i64 x) = cI (gMix ns 8) := by subst h; rfl
theorem gk7 (ns : Nat → Int) (h : gEnt (ns 7) (g0P 7) = g0P 7) : cI (gMix ns 7) = cI (gMix ns 8) := by
 have e : gMix ns 7 = gMix ns 8 := by
  funext e
  unfold gMix
  by_cases q : e = 7
  ·subst q; rw [if_neg (by decide), if_pos (by decide), h]
  ·by_cases r : e < 7
   ·rw [if_pos r, if_pos (by omega)]
   ·rw [if_neg r, if_neg (by omega)]
 rw [e]
theorem gm8 (ns : Nat → Int) {x : Int} (h : gEnt (ns 8) (g0P 8) = x) : (cI (gMix ns 8)).set 8 (.i .i64 x) = cI (gMix ns 9) := by subst h; rfl
theorem gk8 (ns : Nat → Int) (h : gEnt (ns 8) (g0P 8) = g0P 8) : cI (gMix ns 8) = cI (gMix ns 9) := by
 have e : gMix ns 8 = gMix ns 9 := by
  funext e
  unfold gMix
  by_cases q : e = 8
  ·subst q; rw [if_neg (by decide), if_pos (by decide), h]
  ·by_cases r : e < 8
   ·rw [if_pos r, if_pos (by omega)]
   ·rw [if_neg r, if_neg (by omega)]
 rw [e]
set_option maxHeartbeats 8000000 in
theorem zml {xs : List Int} (hx : Ints xs) : ∃ p : Nat → Int, (∀ e, Fits64 (p e)) ∧ pf E0 301 [ints xs, .i .i64 0] = some (pI p) := by
 have pk : ∀ e : Nat, ∃ n, Fits64 n ∧ (e < 100 → pf E0 180 [ints xs, .i .i64 ((e : Nat) : Int)] = some (.i .i64 n)) := fun e => by
  by_cases h : e < 100
  ·obtain ⟨n, h1, h2⟩ := zj9 hx (i := ((e : Nat) : Int)) (by unfold Fits64; omega)
   exact ⟨n, h1, fun _ => h2⟩
  ·exact ⟨0, by decide, fun q => (h q).elim⟩
 obtain ⟨ns, hns⟩ : ∃ ns : Nat → Int, ∀ e, Fits64 (ns e) ∧ (e < 100 → pf E0 180 [ints xs, .i .i64 ((e : Nat) : Int)] = some (.i .i64 (ns e))) := ⟨fun e => Classical.choose (pk e), fun e => Classical.choose_spec (pk e)⟩
 have g0f : ∀ e, Fits64 (g0P e) := fun e => by unfold g0P; split <;> (try split) <;> (try split) <;> decide
 refine ⟨gMix ns 9, fun e => by
  show Fits64 (if e < 9 then gEnt (ns e) (g0P e) else g0P e)
  split
  ·exact zh1 _ _ (g0f e)
  ·exact g0f e, ?_⟩
 have c0 : [PV.i .i64 2, .i .i64 0, .i .i64 0, .i .i64 0, .i .i64 2, .i .i64 0, .i .i64 0, .i .i64 0, .i .i64 1] = cI (gMix ns 0) := rfl
 refine zab (xf := x_r12_Proj) rfl (by simp [x_r12_Proj]) ?_
 simp only [x_r12_Proj]
 simp (disch := omega) only [go_sem, seval, wqq, zaE, zaj]
 refine zas x_r12_Proj_l1.eq_1 (fun (i : Nat) fr M => i ≤ 9 ∧ fr 0 = ints xs ∧ fr 1 = .i .i64 0 ∧ fr 4 = .p 0 0 ∧ fr 5 = .p 1 0 ∧ fr 6 = (PV.i .i64 ((i : Nat) : Int)) ∧ ∃ b v, M = [some ⟨cQ 0 zI, true, b⟩, some ⟨cI (gMix ns i), true, v⟩]) (fun i => 9 - i) ?_ 0 ⟨by omega, by simp only [go_sem, seval], by simp only [go_sem, seval], by simp only [go_sem, seval], by simp only [go_sem, seval], by simp only [go_sem, seval], _, _, rfl⟩
 rintro i fr M ⟨hi, f0, f1, f4, f5, f6, b, v, rfl⟩ ih
 rcases Nat.lt_or_ge i 9 with h9 | h9
 ·obtain ⟨nf, np⟩ := hns i
  have np := np (by omega)
  have a1 := Int.lt_tmod_of_pos ((ns i).tdiv 6) (show (0 : Int) < 4 by decide)
  have a2 := Int.tmod_lt_of_pos ((ns i).tdiv 6) (show (0 : Int) < 4 by decide)
  have dv : -9223372036854775808 ≤ (ns i).tdiv 6 ∧ (ns i).tdiv 6 ≤ 9223372036854775807 := by
   unfold Fits64 at nf
   have := Int.mul_tdiv_add_tmod (ns i) 6
   have m1 := Int.lt_tmod_of_pos (ns i) (show (0 : Int) < 6 by decide)
   have m2 := Int.tmod_lt_of_pos (ns i) (show (0 : Int) < 6 by decide)
   omega
  have q1 : ((i : Int) < 9) = True := eq_true (by omega)
  have z1 : (0 : Int) + ((i : Nat) : Int) = ((i : Nat) : Int) := Int.zero_add _
  have hE : gEnt (ns i) (g0P i) = gEnt (ns i) (g0P i) := rfl
  rcases zdC ((ns i).tmod 6 = 1) with t1 | t1
  ·have hv : gEnt (ns i) (g0P i) = ((ns i).tdiv 6).tmod 8 := by unfold gEnt; rw [if_pos (.inl (of_eq_true t1))]
   obtain ⟨k, hk⟩ : ∃ k, k = ns i := ⟨_, rfl⟩
   obtain rfl | rfl | rfl | rfl | rfl | rfl | rfl | rfl | rfl := zdX h9
   ·have np : pf E0 180 [ints xs, .i .i64 0] = some (.i .i64 (ns 0)) := np
    simp (disch := omega) only [go_sem, seval, wqq, f0, f1, f4, f5, f6, np, t1]
    exact ih 1 _ _ (by omega) ⟨by omega, by simp only [go_sem, seval, f0], by simp only [go_sem, seval, f1], by simp only [go_sem, seval, f4], by simp only [go_sem, seval, f5], by simp only [go_sem, seval], b, v + 1, by rw [← gm0 ns hv]⟩
   ·have np : pf E0 180 [ints xs, .i .i64 1] = some (.i .i64 (ns 1)) := np
    simp (disch := omega) only [go_sem, seval, wqq, f0, f1, f4, f5, f6, np, t1]
    exact ih 2 _ _ (by omega) ⟨by omega, by simp only [go_sem, seval, f0], by simp only [go_sem, seval, f1], by simp only [go_sem, seval, f4], by simp only [go_sem, seval, f5], by simp only [go_sem, seval], b, v + 1, by rw [← gm1 ns hv]⟩
   ·have np : pf E0 180 [ints xs, .i .i64 2] = some (.i .i64 (ns 2)) := np
    simp (disch := omega) only [go_sem, seval, wqq, f0, f1, f4, f5, f6, np, t1]
    exact ih 3 _ _ (by omega) ⟨by omega, by simp only [go_sem, seval, f0], by simp only [go_sem, seval, f1], by simp only [go_sem, seval, f4], by simp only [go_sem, seval, f5], by simp only [go_sem, seval], b, v + 1, by rw [← gm2 ns hv]⟩
   ·have np : pf E0 180 [ints xs, .i .i64 3] = some (.i .i64 (ns 3)) := np
    simp (disch := omega) only [go_sem, seval, wqq, f0, f1, f4, f5, f6, np, t1]
    exact ih 4 _ _ (by omega) ⟨by omega, by simp only [go_sem, seval, f0], by simp only [go_sem, seval, f1], by simp only [go_sem, seval, f4], by simp only [go_sem, seval, f5], by simp only [go_sem, seval], b, v + 1, by rw [← gm3 ns hv]⟩
   ·have np : pf E0 180 [ints xs, .i .i64 4] = some (.i .i64 (ns 4)) := np
    simp (disch := omega) only [go_sem, seval, wqq, f0, f1, f4, f5, f6, np, t1]
    exact ih 5 _ _ (by omega) ⟨by omega, by simp only [go_sem, seval, f0], by simp only [go_sem, seval, f1], by simp only [go_sem, seval, f4], by simp only [go_sem, seval, f5], by simp only [go_sem, seval], b, v + 1, by rw [← gm4 ns hv]⟩
   ·have np : pf E0 180 [ints xs, .i .i64 5] = some (.i .i64 (ns 5)) := np
    simp (disch := omega) only [go_sem, seval, wqq, f0, f1, f4, f5, f6, np, t1]
    exact ih 6 _ _ (by omega) ⟨by omega, by simp only [go_sem, seval, f0], by simp only [go_sem, seval, f1], by simp only [go_sem, seval, f4], by simp only [go_sem, seval, f5], by simp only [go_sem, seval], b, v + 1, by rw [← gm5 ns hv]⟩
   ·have np : pf E0 180 [ints xs, .i .i64 6] = some (.i .i64 (ns 6)) := np
    simp (disch := omega) only [go_sem, seval, wqq, f0, f1, f4, f5, f6, np, t1]
    exact ih 7 _ _ (by omega) ⟨by omega, by simp only [go_sem, seval, f0], by simp only [go_sem, seval, f1], by simp only [go_sem, seval, f4], by simp only [go_sem, seval, f5], by simp only [go_sem, seval], b, v + 1, by rw [← gm6 ns hv]⟩
   ·have np : pf E0 180 [ints xs, .i .i64 7] = some (.i .i64 (ns 7)) := np
    simp (disch := omega) only [go_sem, seval, wqq, f0, f1, f4, f5, f6, np, t1]
    exact ih 8 _ _ (by omega) ⟨by omega, by simp only [go_sem, seval, f0], by simp only [go_sem, seval, f1], by simp only [go_sem, seval, f4], by simp only [go_sem, seval, f5], by simp only [go_sem, seval], b, v + 1, by rw [← gm7 ns hv]⟩
   ·have np : pf E0 180 [ints xs, .i .i64 8] = some (.i .i64 (ns 8)) := np
    simp (disch := omega) only [go_sem, seval, wqq, f0, f1, f4, f5, f6, np, t1]
    exact ih 9 _ _ (by omega) ⟨by omega, by simp only [go_sem, seval, f0], by simp only [go_sem, seval, f1], by simp only [go_sem, seval, f4], by simp only [go_sem, seval, f5], by simp only [go_sem, seval], b, v + 1, by rw [← gm8 ns hv]⟩
  rcases zdC ((ns i).tmod 6 = -1) with t2 | t2
  ·have hv : gEnt (ns i) (g0P i) = ((ns i).tdiv 6).tmod 8 := by unfold gEnt; rw [if_pos (.inr (of_eq_true t2))]
   obtain rfl | rfl | rfl | rfl | rfl | rfl | rfl | rfl | rfl := zdX h9
   ·have np : pf E0 180 [ints xs, .i .i64 0] = some (.i .i64 (ns 0)) := np
    simp (disch := omega) only [go_sem, seval, wqq, f0, f1, f4, f5, f6, np, t1, t2]
    exact ih 1 _ _ (by omega) ⟨by omega, by simp only [go_sem, seval, f0], by simp only [go_sem, seval, f1], by simp only [go_sem, seval, f4], by simp only [go_sem, seval, f5], by simp only [go_sem, seval], b, v + 1, by rw [← gm0 ns hv]⟩
   ·have np : pf E0 180 [ints xs, .i .i64 1] = some (.i .i64 (ns 1)) := np
    simp (disch := omega) only [go_sem, seval, wqq, f0, f1, f4, f5, f6, np, t1, t2]
    exact ih 2 _ _ (by omega) ⟨by omega, by simp only [go_sem, seval, f0], by simp only [go_sem, seval, f1], by simp only [go_sem, seval, f4], by simp only [go_sem, seval, f5], by simp only [go_sem, seval], b, v + 1, by rw [← gm1 ns hv]⟩
   ·have np : pf E0 180 [ints xs, .i .i64 2] = some (.i .i64 (ns 2)) := np
    simp (disch := omega) only [go_sem, seval, wqq, f0, f1, f4, f5, f6, np, t1, t2]
    exact ih 3 _ _ (by omega) ⟨by omega, by simp only [go_sem, seval, f0], by simp only [go_sem, seval, f1], by simp only [go_sem, seval, f4], by simp only [go_sem, seval, f5], by simp only [go_sem, seval], b, v + 1, by rw [← gm2 ns hv]⟩
   ·have np : pf E0 180 [ints xs, .i .i64 3] = some (.i .i64 (ns 3)) := np
    simp (disch := omega) only [go_sem, seval, wqq, f0, f1, f4, f5, f6, np, t1, t2]
    exact ih 4 _ _ (by omega) ⟨by omega, by simp only [go_sem, seval, f0], by simp only [go_sem, seval, f1], by simp only [go_sem, seval, f4], by simp only [go_sem, seval, f5], by simp only [go_sem, seval], b, v + 1, by rw [← gm3 ns hv]⟩
   ·have np : pf E0 180 [ints xs, .i .i64 4] = some (.i .i64 (ns 4)) := np
    simp (disch := omega) only [go_sem, seval, wqq, f0, f1, f4, f5, f6, np, t1, t2]
    exact ih 5 _ _ (by omega) ⟨by omega, by simp only [go_sem, seval, f0], by simp only [go_sem, seval, f1], by simp only [go_sem, seval, f4], by simp only [go_sem, seval, f5], by simp only [go_sem, seval], b, v + 1, by rw [← gm4 ns hv]⟩
   ·have np : pf E0 180 [ints xs, .i .i64 5] = some (.i .i64 (ns 5)) := np
    simp (disch := omega) only [go_sem, seval, wqq, f0, f1, f4, f5, f6, np, t1, t2]
    exact ih 6 _ _ (by omega) ⟨by omega, by simp only [go_sem, seval, f0], by simp only [go_sem, seval, f1], by simp only [go_sem, seval, f4], by simp only [go_sem, seval, f5], by simp only [go_sem, seval], b, v + 1, by rw [← gm5 ns hv]⟩
   ·have np : pf E0 180 [ints xs, .i .i64 6] = some (.i .i64 (ns 6)) := np
    simp (disch := omega) only [go_sem, seval, wqq, f0, f1, f4, f5, f6, np, t1, t2]
    exact ih 7 _ _ (by omega) ⟨by omega, by simp only [go_sem, seval, f0], by simp only [go_sem, seval, f1], by simp only [go_sem, seval, f4], by simp only [go_sem, seval, f5], by simp only [go_sem, seval], b, v + 1, by rw [← gm6 ns hv]⟩
   ·have np : pf E0 180 [ints xs, .i .i64 7] = some (.i .i64 (ns 7)) := np
    simp (disch := omega) only [go_sem, seval, wqq, f0, f1, f4, f5, f6, np, t1, t2]
    exact ih 8 _ _ (by omega) ⟨by omega, by simp only [go_sem, seval, f0], by simp only [go_sem, seval, f1], by simp only [go_sem, seval, f4], by simp only [go_sem, seval, f5], by simp only [go_sem, seval], b, v + 1, by rw [← gm7 ns hv]⟩
   ·have np : pf E0 180 [ints xs, .i .i64 8] = some (.i .i64 (ns 8)) := np
    simp (disch := omega) only [go_sem, seval, wqq, f0, f1, f4, f5, f6, np, t1, t2]
    exact ih 9 _ _ (by omega) ⟨by omega, by simp only [go_sem, seval, f0], by simp only [go_sem, seval, f1], by simp only [go_sem, seval, f4], by simp only [go_sem, seval, f5], by simp only [go_sem, seval], b, v + 1, by rw [← gm8 ns hv]⟩
  have nt : ¬ ((ns i).tmod 6 = 1 ∨ (ns i).tmod 6 = -1) := fun q => q.elim (of_eq_false t1) (of_eq_false t2)
  rcases zdC ((ns i).tmod 6 = 2) with t3 | t3
  ·have hv : gEnt (ns i) (g0P i) = ((ns i).tdiv 6).tmod 1000 := by unfold gEnt; rw [if_neg nt, if_pos (of_eq_true t3)]
   obtain rfl | rfl | rfl | rfl | rfl | rfl | rfl | rfl | rfl := zdX h9
   ·have np : pf E0 180 [ints xs, .i .i64 0] = some (.i .i64 (ns 0)) := np
    simp (disch := omega) only [go_sem, seval, wqq, f0, f1, f4, f5, f6, np, t1, t2, t3]
    exact ih 1 _ _ (by omega) ⟨by omega, by simp only [go_sem, seval, f0], by simp only [go_sem, seval, f1], by simp only [go_sem, seval, f4], by simp only [go_sem, seval, f5], by simp only [go_sem, seval], b, v + 1, by rw [← gm0 ns hv]⟩
   ·have np : pf E0 180 [ints xs, .i .i64 1] = some (.i .i64 (ns 1)) := np
    simp (disch := omega) only [go_sem, seval, wqq, f0, f1, f4, f5, f6, np, t1, t2, t3]
    exact ih 2 _ _ (by omega) ⟨by omega, by simp only [go_sem, seval, f0], by simp only [go_sem, seval, f1], by simp only [go_sem, seval, f4], by simp only [go_sem, seval, f5], by simp only [go_sem, seval], b, v + 1, by rw [← gm1 ns hv]⟩
   ·have np : pf E0 180 [ints xs, .i .i64 2] = some (.i .i64 (ns 2)) := np
    simp (disch := omega) only [go_sem, seval, wqq, f0, f1, f4, f5, f6, np, t1, t2, t3]
    exact ih 3 _ _ (by omega) ⟨by omega, by simp only [go_sem, seval, f0], by simp only [go_sem, seval, f1], by simp only [go_sem, seval, f4], by simp only [go_sem, seval, f5], by simp only [go_sem, seval], b, v + 1, by rw [← gm2 ns hv]⟩
   ·have np : pf E0 180 [ints xs, .i .i64 3] = some (.i .i64 (ns 3)) := np
    simp (disch := omega) only [go_sem, seval, wqq, f0, f1, f4, f5, f6, np, t1, t2, t3]
    exact ih 4 _ _ (by omega) ⟨by omega, by simp only [go_sem, seval, f0], by simp only [go_sem, seval, f1], by simp only [go_sem, seval, f4], by simp only [go_sem, seval, f5], by simp only [go_sem, seval], b, v + 1, by rw [← gm3 ns hv]⟩
   ·have np : pf E0 180 [ints xs, .i .i64 4] = some (.i .i64 (ns 4)) := np
    simp (disch := omega) only [go_sem, seval, wqq, f0, f1, f4, f5, f6, np, t1, t2, t3]
    exact ih 5 _ _ (by omega) ⟨by omega, by simp only [go_sem, seval, f0], by simp only [go_sem, seval, f1], by simp only [go_sem, seval, f4], by simp only [go_sem, seval, f5], by simp only [go_sem, seval], b, v + 1, by rw [← gm4 ns hv]⟩
   ·have np : pf E0 180 [ints xs, .i .i64 5] = some (.i .i64 (ns 5)) := np
    simp (disch := omega) only [go_sem, seval, wqq, f0, f1, f4, f5, f6, np, t1, t2, t3]
    exact ih 6 _ _ (by omega) ⟨by omega, by simp only [go_sem, seval, f0], by simp only [go_sem, seval, f1], by simp only [go_sem, seval, f4], by simp only [go_sem, seval, f5], by simp only [go_sem, seval], b, v + 1, by rw [← gm5 ns hv]⟩
   ·have np : pf E0 180 [ints xs, .i .i64 6] = some (.i .i64 (ns 6)) := np
    simp (disch := omega) only [go_sem, seval, wqq, f0, f1, f4, f5, f6, np, t1, t2, t3]
    exact ih 7 _ _ (by omega) ⟨by omega, by simp only [go_sem, seval, f0], by simp only [go_sem, seval, f1], by simp only [go_sem, seval, f4], by simp only [go_sem, seval, f5], by simp only [go_sem, seval], b, v + 1, by rw [← gm6 ns hv]⟩
   ·have np : pf E0 180 [ints xs, .i .i64 7] = some (.i .i64 (ns 7)) := np
    simp (disch := omega) only [go_sem, seval, wqq, f0, f1, f4, f5, f6, np, t1, t2, t3]
    exact ih 8 _ _ (by omega) ⟨by omega, by simp only [go_sem, seval, f0], by simp only [go_sem, seval, f1], by simp only [go_sem, seval, f4], by simp only [go_sem, seval, f5], by simp only [go_sem, seval], b, v + 1, by rw [← gm7 ns hv]⟩
   ·have np : pf E0 180 [ints xs, .i .i64 8] = some (.i .i64 (ns 8)) := np
    simp (disch := omega) only [go_sem, seval, wqq, f0, f1, f4, f5, f6, np, t1, t2, t3]
    exact ih 9 _ _ (by omega) ⟨by omega, by simp only [go_sem, seval, f0], by simp only [go_sem, seval, f1], by simp only [go_sem, seval, f4], by simp only [go_sem, seval, f5], by simp only [go_sem, seval], b, v + 1, by rw [← gm8 ns hv]⟩
  rcases zdC ((ns i).tmod 6 = 3) with t4 | t4
  ·have hv : gEnt (ns i) (g0P i) = 1073741824 - ((ns i).tdiv 6).tmod 4 := by unfold gEnt; rw [if_neg nt, if_neg (of_eq_false t3), if_pos (of_eq_true t4)]
   obtain rfl | rfl | rfl | rfl | rfl | rfl | rfl | rfl | rfl := zdX h9
   ·have np : pf E0 180 [ints xs, .i .i64 0] = some (.i .i64 (ns 0)) := np
    simp (disch := omega) only [go_sem, seval, wqq, f0, f1, f4, f5, f6, np, t1, t2, t3, t4]
    exact ih 1 _ _ (by omega) ⟨by omega, by simp only [go_sem, seval, f0], by simp only [go_sem, seval, f1], by simp only [go_sem, seval, f4], by simp only [go_sem, seval, f5], by simp only [go_sem, seval], b, v + 1, by rw [← gm0 ns hv]⟩
   ·have np : pf E0 180 [ints xs, .i .i64 1] = some (.i .i64 (ns 1)) := np
    simp (disch := omega) only [go_sem, seval, wqq, f0, f1, f4, f5, f6, np, t1, t2, t3, t4]
    exact ih 2 _ _ (by omega) ⟨by omega, by simp only [go_sem, seval, f0], by simp only [go_sem, seval, f1], by simp only [go_sem, seval, f4], by simp only [go_sem, seval, f5], by simp only [go_sem, seval], b, v + 1, by rw [← gm1 ns hv]⟩
   ·have np : pf E0 180 [ints xs, .i .i64 2] = some (.i .i64 (ns 2)) := np
    simp (disch := omega) only [go_sem, seval, wqq, f0, f1, f4, f5, f6, np, t1, t2, t3, t4]
    exact ih 3 _ _ (by omega) ⟨by omega, by simp only [go_sem, seval, f0], by simp only [go_sem, seval, f1], by simp only [go_sem, seval, f4], by simp only [go_sem, seval, f5], by simp only [go_sem, seval], b, v + 1, by rw [← gm2 ns hv]⟩
   ·have np : pf E0 180 [ints xs, .i .i64 3] = some (.i .i64 (ns 3)) := np
    simp (disch := omega) only [go_sem, seval, wqq, f0, f1, f4, f5, f6, np, t1, t2, t3, t4]
    exact ih 4 _ _ (by omega) ⟨by omega, by simp only [go_sem, seval, f0], by simp only [go_sem, seval, f1], by simp only [go_sem, seval, f4], by simp only [go_sem, seval, f5], by simp only [go_sem, seval], b, v + 1, by rw [← gm3 ns hv]⟩
   ·have np : pf E0 180 [ints xs, .i .i64 4] = some (.i .i64 (ns 4)) := np
    simp (disch := omega) only [go_sem, seval, wqq, f0, f1, f4, f5, f6, np, t1, t2, t3, t4]
    exact ih 5 _ _ (by omega) ⟨by omega, by simp only [go_sem, seval, f0], by simp only [go_sem, seval, f1], by simp only [go_sem, seval, f4], by simp only [go_sem, seval, f5], by simp only [go_sem, seval], b, v + 1, by rw [← gm4 ns hv]⟩
   ·have np : pf E0 180 [ints xs, .i .i64 5] = some (.i .i64 (ns 5)) := np
    simp (disch := omega) only [go_sem, seval, wqq, f0, f1, f4, f5, f6, np, t1, t2, t3, t4]
    exact ih 6 _ _ (by omega) ⟨by omega, by simp only [go_sem, seval, f0], by simp only [go_sem, seval, f1], by simp only [go_sem, seval, f4], by simp only [go_sem, seval, f5], by simp only [go_sem, seval], b, v + 1, by rw [← gm5 ns hv]⟩
   ·have np : pf E0 180 [ints xs, .i .i64 6] = some (.i .i64 (ns 6)) := np
    simp (disch := omega) only [go_sem, seval, wqq, f0, f1, f4, f5, f6, np, t1, t2, t3, t4]
    exact ih 7 _ _ (by omega) ⟨by omega, by simp only [go_sem, seval, f0], by simp only [go_sem, seval, f1], by simp only [go_sem, seval, f4], by simp only [go_sem, seval, f5], by simp only [go_sem, seval], b, v + 1, by rw [← gm6 ns hv]⟩
   ·have np : pf E0 180 [ints xs, .i .i64 7] = some (.i .i64 (ns 7)) := np
    simp (disch := omega) only [go_sem, seval, wqq, f0, f1, f4, f5, f6, np, t1, t2, t3, t4]
    exact ih 8 _ _ (by omega) ⟨by omega, by simp only [go_sem, seval, f0], by simp only [go_sem, seval, f1], by simp only [go_sem, seval, f4], by simp only [go_sem, seval, f5], by simp only [go_sem, seval], b, v + 1, by rw [← gm7 ns hv]⟩
   ·have np : pf E0 180 [ints xs, .i .i64 8] = some (.i .i64 (ns 8)) := np
    simp (disch := omega) only [go_sem, seval, wqq, f0, f1, f4, f5, f6, np, t1, t2, t3, t4]
    exact ih 9 _ _ (by omega) ⟨by omega, by simp only [go_sem, seval, f0], by simp only [go_sem, seval, f1], by simp only [go_sem, seval, f4], by simp only [go_sem, seval, f5], by simp only [go_sem, seval], b, v + 1, by rw [← gm8 ns hv]⟩
  have hv : gEnt (ns i) (g0P i) = g0P i := by unfold gEnt; rw [if_neg nt, if_neg (of_eq_false t3), if_neg (of_eq_false t4)]
  obtain rfl | rfl | rfl | rfl | rfl | rfl | rfl | rfl | rfl := zdX h9
  ·have np : pf E0 180 [ints xs, .i .i64 0] = some (.i .i64 (ns 0)) := np
   simp (disch := omega) only [go_sem, seval, wqq, f0, f1, f4, f5, f6, np, t1, t2, t3, t4]
   exact ih 1 _ _ (by omega) ⟨by omega, by simp only [go_sem, seval, f0], by simp only [go_sem, seval, f1], by simp only [go_sem, seval, f4], by simp only [go_sem, seval, f5], by simp only [go_sem, seval], b, v, by rw [← gk0 ns hv]⟩
  ·have np : pf E0 180 [ints xs, .i .i64 1] = some (.i .i64 (ns 1)) := np
   simp (disch := omega) only [go_sem, seval, wqq, f0, f1, f4, f5, f6, np, t1, t2, t3, t4]
   exact ih 2 _ _ (by omega) ⟨by omega, by simp only [go_sem, seval, f0], by simp only [go_sem, seval, f1], by simp only [go_sem, seval, f4], by simp only [go_sem, seval, f5], by simp only [go_sem, seval], b, v, by rw [← gk1 ns hv]⟩
  ·have np : pf E0 180 [ints xs, .i .i64 2] = some (.i .i64 (ns 2)) := np
   simp (disch := omega) only [go_sem, seval, wqq, f0, f1, f4, f5, f6, np, t1, t2, t3, t4]
   exact ih 3 _ _ (by omega) ⟨by omega, by simp only [go_sem, seval, f0], by simp only [go_sem, seval, f1], by simp only [go_sem, seval, f4], by simp only [go_sem, seval, f5], by simp only [go_sem, seval], b, v, by rw [← gk2 ns hv]⟩
  ·have np : pf E0 180 [ints xs, .i .i64 3] = some (.i .i64 (ns 3)) := np
   simp (disch := omega) only [go_sem, seval, wqq, f0, f1, f4, f5, f6, np, t1, t2, t3, t4]
   exact ih 4 _ _ (by omega) ⟨by omega, by simp only [go_sem, seval, f0], by simp only [go_sem, seval, f1], by simp only [go_sem, seval, f4], by simp only [go_sem, seval, f5], by simp only [go_sem, seval], b, v, by rw [← gk3 ns hv]⟩
  ·have np : pf E0 180 [ints xs, .i .i64 4] = some (.i .i64 (ns 4)) := np
   simp (disch := omega) only [go_sem, seval, wqq, f0, f1, f4, f5, f6, np, t1, t2, t3, t4]
   exact ih 5 _ _ (by omega) ⟨by omega, by simp only [go_sem, seval, f0], by simp only [go_sem, seval, f1], by simp only [go_sem, seval, f4], by simp only [go_sem, seval, f5], by simp only [go_sem, seval], b, v, by rw [← gk4 ns hv]⟩
  ·have np : pf E0 180 [ints xs, .i .i64 5] = some (.i .i64 (ns 5)) := np
   simp (disch := omega) only [go_sem, seval, wqq, f0, f1, f4, f5, f6, np, t1, t2, t3, t4]
   exact ih 6 _ _ (by omega) ⟨by omega, by simp only [go_sem, seval, f0], by simp only [go_sem, seval, f1], by simp only [go_sem, seval, f4], by simp only [go_sem, seval, f5], by simp only [go_sem, seval], b, v, by rw [← gk5 ns hv]⟩
  ·have np : pf E0 180 [ints xs, .i .i64 6] = some (.i .i64 (ns 6)) := np
   simp (disch := omega) only [go_sem, seval, wqq, f0, f1, f4, f5, f6, np, t1, t2, t3, t4]
   exact ih 7 _ _ (by omega) ⟨by omega, by simp only [go_sem, seval, f0], by simp only [go_sem, seval, f1], by simp only [go_sem, seval, f4], by simp only [go_sem, seval, f5], by simp only [go_sem, seval], b, v, by rw [← gk6 ns hv]⟩
  ·have np : pf E0 180 [ints xs, .i .i64 7] = some (.i .i64 (ns 7)) := np
   simp (disch := omega) only [go_sem, seval, wqq, f0, f1, f4, f5, f6, np, t1, t2, t3, t4]
   exact ih 8 _ _ (by omega) ⟨by omega, by simp only [go_sem, seval, f0], by simp only [go_sem, seval, f1], by simp only [go_sem, seval, f4], by simp only [go_sem, seval, f5], by simp only [go_sem, seval], b, v, by rw [← gk7 ns hv]⟩
  ·have np : pf E0 180 [ints xs, .i .i64 8] = some (.i .i64 (ns 8)) := np
   simp (disch := omega) only [go_sem, seval, wqq, f0, f1, f4, f5, f6, np, t1, t2, t3, t4]
   exact ih 9 _ _ (by omega) ⟨by omega, by simp only [go_sem, seval, f0], by simp only [go_sem, seval, f1], by simp only [go_sem, seval, f4], by simp only [go_sem, seval, f5], by simp only [go_sem, seval], b, v, by rw [← gk8 ns hv]⟩
 ·obtain rfl : i = 9 := by omega
  simp (disch := omega) only [go_sem, seval, wqq, f0, f1, f4, f5, f6]
end Go.Eng
namespace Go.Eng
theorem zgJ (x : WI) : ∃ s : List UInt8, pf E0 107 [nP x.v] = some (.s s) ∧ pf E0 110 [.s s] = some (.tu [wiP x, .i .i64 0]) := by
 have lx := zm6 x
 have h1 := zok (z := x.v) (by omega)
 have h2 := zmk (decI x.v) (zfC x)
 rw [zhh, if_pos ((zaR _).1 x.lim)] at h2
 have hc : clip x.v = x := zbn x.lim
 simp only at h2
 rw [hc] at h2
 exact ⟨_, h1, h2⟩
theorem zkW (f : FQ) : pf E0 342 [rfQ f] = some (fqP f) := by
 obtain ⟨s, a1, a2⟩ := zgJ f.p
 obtain ⟨t, b1, b2⟩ := zgJ f.q
 have mk := zie f
 refine zab (xf := x_l12_of) rfl (by simp [x_l12_of]) ?_
 simp only [x_l12_of]
 simp (disch := omega) only [go_sem, seval, wqq, a1, a2, b1, b2, mk]
theorem zp5 {X : Nat → Int} (h : ∀ e, e < 9 → Fits64 (X e)) : ∃ P : Nat → Int, (∀ e, Fits64 (P e)) ∧ pI X = pI P ∧ ∀ e, e < 9 → P e = X e := ⟨tr9 X, zmZ h, zqE X, fun _ he => zlg he⟩
theorem zm7 (e : Nat) (_ : e < 9) : Fits64 (zI e) := by show Fits64 0; unfold Fits64; omega
theorem zlr (p : Nat → Int) (e : Nat) (he : e < 9) : Fits64 (IP p e) := by
 unfold IP
 split
 ·exact zlZ _ e he
 ·exact zm7 e he
theorem zl2 {X Y : Nat → Int} (h : ∀ e, e < 9 → X e = Y e) (ok : okP Y) : okP X := fun e he => by rw [h e he]; exact ok e he
theorem ztI (p : Prop) : p = True ∨ p = False := by by_cases h : p; exact .inl (eq_true h); exact .inr (eq_false h)
theorem zhx (a : FQ) : cmpF a a = 0 := (zjs a a).2 rfl
end Go.Eng
namespace Go.Eng
theorem zlq {p : Nat → Int} (hp : ∀ e, Fits64 (p e)) (h : IE p = 0) : ∃ Q : Nat → Int, (∀ e, Fits64 (Q e)) ∧ pI (IP p) = pI Q ∧ vlP p = 0 ∧ vlP Q = 0 ∧ ∃ c : Int, c ≠ 0 ∧ ∀ e, e < 9 → adV p e = c * Q e := by
 obtain ⟨Q, fQ, eQ, vQ⟩ := zp5 (zlr p)
 unfold IE at h
 split at h
 ·rename_i v1
  have d : rdV (adV p) ≠ 0 := by rw [zk6]; exact Int.mul_ne_zero (zcn hp v1) (zcn hp v1)
  obtain ⟨c, c0, hc, ok⟩ := zlY (zjK d) h
  have e1 : ∀ e, e < 9 → Q e = nfP (adV p) e := fun e he => by rw [vQ e he]; unfold IP; rw [if_pos v1]
  have e2 : ∀ e, e < 9 → adV p e = c * Q e := fun e he => by rw [e1 e he]; exact hc e he
  have r : rdV Q ≠ 0 := fun z => d (by rw [zoA e2, zmK, z, Int.mul_zero])
  exact ⟨Q, fQ, eQ, v1, zeW fQ (zl2 e1 ok) r, c, c0, e2⟩
 ·rename_i v1; exact (v1 h).elim
theorem zpJ {p : Nat → Int} (h : IE p ≠ 0) : IE p = 5 ∨ IE p = vlP p := by
 unfold IE nfE at *
 by_cases v : vlP p = 0
 ·rw [if_pos v] at h ⊢
  by_cases o : okN (adV p)
  ·rw [if_pos o] at h; exact (h rfl).elim
  ·left; rw [if_neg o]
 ·right; rw [if_neg v]
theorem zlp {p Q : Nat → Int} (hp : ∀ e, Fits64 (p e)) (hQ : ∀ e, Fits64 (Q e)) (v1 : vlP p = 0) (v2 : vlP Q = 0) {c : Int} (c0 : c ≠ 0) (h : ∀ e, e < 9 → adV p e = c * Q e) :
  pI (IP Q) = pI (NP p) ∧ IE Q = 0 ∧ NE p = 0 ∧ pI (CP p Q) = pI oneI ∧ CE p Q = 0 := by
 have d0 := zcn hp v1
 have dQ := zcn hQ v2
 have n0 := zjS hp v1
 have a1 : ∀ e, e < 9 → c * c * adV Q e = rdV p * p e := fun e he => by
  rw [← zls, ← zng h, zjk p e he]
 have a2 : ∀ e, e < 9 → c * rprV p Q e = rdV p * oneI e := fun e he => by
  rw [← zki, ← zla (fun _ _ => rfl) h e he, zoG p e he]
 obtain ⟨b1, b2⟩ := zio (Int.mul_ne_zero c0 c0) d0 (by rw [zk6]; exact Int.mul_ne_zero dQ dQ) d0 a1
 obtain ⟨b3, b4⟩ := zio c0 d0 (by rw [zk7]; exact Int.mul_ne_zero d0 dQ) (show rdV oneI ≠ 0 by decide) a2
 unfold IP IE NP NE CP CE
 rw [if_pos v1, if_pos v2, if_pos v2, if_pos v1, if_pos v1, if_pos v2, if_pos v1, if_pos v2]
 exact ⟨b1, b2.trans n0, n0, b3.trans zkS.1, b4.trans zkS.2⟩
theorem zlv {p Q : Nat → Int} {c D : Int} (c0 : c ≠ 0) (D0 : D ≠ 0) (h : ∀ e, e < 9 → c * rprV Q p e = D * oneI e) {u v x y : FQ} (hx : x.is (rwF p 0 u v) (rwF p 2 u v)) (hy : y.is (rwF p 1 u v) (rwF p 2 u v)) (h2 : rwF p 2 u v ≠ 0) :
  rwF Q 2 x y ≠ 0 ∧ ∀ a b : FQ, a.is (rwF Q 0 x y) (rwF Q 2 x y) → b.is (rwF Q 1 x y) (rwF Q 2 x y) → a = u ∧ b = v := by
 have K0 : x.q.v * y.q.v ≠ 0 := Int.mul_ne_zero (zdV x) (zdV y)
 have hu := zdV u
 have hv := zdV v
 obtain ⟨o0, o1, o2⟩ := zmQ u v
 have rr : ∀ i, i < 3 → c * (rwF p 2 u v * rwF Q i x y) = x.q.v * y.q.v * (D * rwF oneI i u v) := fun i hi => by
  have e1 : rwF (fun e => c * rprV Q p e) i u v = D * rwF oneI i u v := zgV h u v i hi
  have e2 : rwF (fun e => c * rprV Q p e) i u v = c * rwF (rprV Q p) i u v := zgV (fun _ _ => rfl) u v i hi
  rw [zmN Q hx hy i, ← zmP Q p u v i hi, ← e1, e2]
  grind
 have r0 := rr 0 (by decide)
 have r1 := rr 1 (by decide)
 have r2 := rr 2 (by decide)
 rw [o0] at r0
 rw [o1] at r1
 rw [o2] at r2
 have n2 : rwF Q 2 x y ≠ 0 := fun z => by
  rw [z, Int.mul_zero, Int.mul_zero] at r2
  exact Int.mul_ne_zero K0 (Int.mul_ne_zero D0 (Int.mul_ne_zero hu hv)) r2.symm
 have m0 : c * rwF p 2 u v ≠ 0 := Int.mul_ne_zero c0 h2
 refine ⟨n2, fun a b ha hb => ⟨zia n2 hu ha (zbS u) (Int.eq_of_mul_eq_mul_left m0 ?_), zia n2 hv hb (zbS v) (Int.eq_of_mul_eq_mul_left m0 ?_)⟩⟩
 all_goals
  clear hx hy h rr ha hb o0 o1 o2
  generalize rwF p 2 u v = A at *
  generalize rwF Q 0 x y = B0 at *
  generalize rwF Q 1 x y = B1 at *
  generalize rwF Q 2 x y = B2 at *
  generalize x.q.v * y.q.v = K at *
  generalize u.p.v = un at *
  generalize u.q.v = ud at *
  generalize v.p.v = vn at *
  generalize v.q.v = vd at *
 ·have e1 : c * A * (B0 * ud) = K * (D * (un * vd)) * ud := by rw [← r0]; grind
  have e2 : c * A * (un * B2) = un * (K * (D * (ud * vd))) := by rw [← r2]; grind
  rw [e1, e2]; grind
 ·have e1 : c * A * (B1 * vd) = K * (D * (vn * ud)) * vd := by rw [← r1]; grind
  have e2 : c * A * (vn * B2) = vn * (K * (D * (ud * vd))) := by rw [← r2]; grind
  rw [e1, e2]; grind
theorem zne {p : Nat → Int} (h : vlP p = 0) (u v : FQ) : aE p u v = 0 ∨ aE p u v = 9 ∨ aE p u v = 4 := by
 unfold aE
 rw [if_pos h]
 split
 ·split
  ·exact .inr (.inl rfl)
  ·exact .inl rfl
 ·exact .inr (.inr rfl)
theorem znd {p : Nat → Int} {u v : FQ} (h : vlP p = 0) (n4 : aE p u v ≠ 4) : fw u ∧ fw v := Classical.byContradiction fun nw => n4 (by unfold aE; rw [if_pos h, if_neg nw])
theorem zpK {p : Nat → Int} {u v : FQ} (h : vlP p = 0) (w : fw u ∧ fw v) (n : rwF p 2 u v ≠ 0) : aE p u v = 0 := by
 unfold aE
 rw [if_pos h, if_pos w, if_neg n]
set_option maxHeartbeats 8000000 in
set_option maxRecDepth 100000 in
theorem p_ProjBack {ls ms : List Int} (hl : Ints ls) (hm : Ints ms) : pf E0 326 [ints ls, ints ms] = some (.b true) := by
 obtain ⟨p, hp, gp⟩ := zml hl
 have lv := ziI
 obtain ⟨u, zu, gu⟩ := zgF hm (i := 0) (by decide) (by decide)
 obtain ⟨v, zv, gv⟩ := zgF hm (i := 4) (by decide) (by decide)
 have ou := zkW u
 have ov := zkW v
 have ip := zdL hp
 have np := zj6 hp
 have pv := zbj hp
 by_cases e0 : IE p = 0
 ·obtain ⟨Q, fQ, eQ, v1, v2, c, c0, hc⟩ := zlq hp e0
  obtain ⟨b1, b2, b3, b4, b5⟩ := zlp hp fQ v1 v2 c0 hc
  have iq := zdL fQ
  have cq := zix hp fQ
  rw [b1, b2] at iq
  rw [b4, b5] at cq
  rw [eQ, e0] at ip
  rw [b3] at np
  have D0 := zcn hp v1
  have hQp : ∀ e, e < 9 → c * rprV Q p e = rdV p * oneI e := fun e he => by
   rw [← zkh, ← zla hc (fun _ _ => rfl) e he]; exact zoF p e he
  have e1 : eqaP [1, 1, 1, 1, 1, 1, 1, 1, 1] (pI (NP p)) (pI (NP p)) = some true := by rw [zr8, zhM]
  have e2 : eqaP [1, 1, 1, 1, 1, 1, 1, 1, 1] (pI oneI) (pI oneI) = some true := by rw [zr8, zhM]
  have o1 : PV.ag [.i .i64 1, .i .i64 0, .i .i64 0, .i .i64 0, .i .i64 1, .i .i64 0, .i .i64 0, .i .i64 0, .i .i64 1] = pI oneI := rfl
  obtain ⟨x, y, ax, okx, _⟩ := zgy hp u v
  by_cases a0 : aE p u v = 0
  ·obtain ⟨ix, iy, zx, zy, h2, _, wu, wv⟩ := okx a0
   obtain ⟨a, b, ab, okab, _⟩ := zgy fQ x y
   rw [a0] at ax
   by_cases k4 : aE Q x y = 4
   ·have t1 : (aE Q x y = 4) = True := eq_true k4
    generalize aE Q x y = j at *
    clear hc hQp okx okab
    refine zab (xf := x_l12_ProjBack) rfl (by simp [x_l12_ProjBack]) ?_
    simp only [x_l12_ProjBack]
    simp (disch := omega) only [go_sem, seval, wqq, gp, ip, np, iq, cq, pv, zaE, zaj, t1, lv, zan, hF, e1, e2, o1, gu, gv, ou, ov, ax, ab]
   ·obtain ⟨n2, fin⟩ := zlv c0 D0 hQp ix iy h2
    have k0 := zpK v2 (znd v2 k4) n2
    obtain ⟨ia, ib, _⟩ := okab k0
    obtain ⟨rfl, rfl⟩ := fin a b ia ib
    rw [k0] at ab
    have lc1 := zef a a
    have lc2 := zef b b
    rw [zhx] at lc1 lc2
    clear hc hQp okx okab
    refine zab (xf := x_l12_ProjBack) rfl (by simp [x_l12_ProjBack]) ?_
    simp only [x_l12_ProjBack]
    simp (disch := omega) only [go_sem, seval, wqq, gp, ip, np, iq, cq, pv, zaE, zaj, lv, zan, hF, e1, e2, o1, gu, gv, ou, ov, ax, ab, lc1, lc2]
  ·rcases zne v1 u v with z | z | z
   ·exact (a0 z).elim
   ·rw [z] at ax
    clear hc hQp okx
    refine zab (xf := x_l12_ProjBack) rfl (by simp [x_l12_ProjBack]) ?_
    simp only [x_l12_ProjBack]
    simp (disch := omega) only [go_sem, seval, wqq, gp, ip, np, iq, cq, pv, zaE, zaj, lv, zan, hF, e1, e2, o1, gu, gv, ou, ov, ax]
   ·rw [z] at ax
    clear hc hQp okx
    refine zab (xf := x_l12_ProjBack) rfl (by simp [x_l12_ProjBack]) ?_
    simp only [x_l12_ProjBack]
    simp (disch := omega) only [go_sem, seval, wqq, gp, ip, np, iq, cq, pv, zaE, zaj, lv, zan, hF, e1, e2, o1, gu, gv, ou, ov, ax]
 ·have e0' : (IE p = 0) = False := eq_false e0
  rcases zpJ e0 with z | z
  ·rw [z] at ip
   refine zab (xf := x_l12_ProjBack) rfl (by simp [x_l12_ProjBack]) ?_
   simp only [x_l12_ProjBack]
   simp (disch := omega) only [go_sem, seval, wqq, gp, ip, np, pv, lv, zan, hF]
  ·rw [z] at ip e0'
   rcases ztI (vlP p = 5) with t5 | t5
   ·refine zab (xf := x_l12_ProjBack) rfl (by simp [x_l12_ProjBack]) ?_
    simp only [x_l12_ProjBack]
    simp (disch := omega) only [go_sem, seval, wqq, gp, ip, np, pv, lv, zan, hF, e0', t5]
   ·refine zab (xf := x_l12_ProjBack) rfl (by simp [x_l12_ProjBack]) ?_
    simp only [x_l12_ProjBack]
    simp (disch := omega) only [go_sem, seval, wqq, gp, ip, np, pv, lv, zan, hF, e0', t5]
end Go.Eng
