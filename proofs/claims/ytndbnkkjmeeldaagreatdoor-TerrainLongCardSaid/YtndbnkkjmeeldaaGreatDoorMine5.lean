/- The engine and the contracts on which the statement stands: no conditions of its own. -/
import Derived.Test.YtndbnkkjmeeldaaGreatDoorMine4
import Derived.Shelf.Strings.Repeat
import Derived.Shelf.Strings.Builder1
import Derived.Shelf.Strings.SlTrimAscii
import Derived.Shelf.Strings.Search2
import Derived.Shelf.Strconv.Atoi
import Derived.Shelf.Strconv.Itoa3
import Derived.Lib.AppendIntMem
import Derived.Lib.SmallJoins
import Derived.Lib.Case
import Derived.Lib.Join
import Derived.BigCall
import Derived.BigGuard
import Derived.KernelRfl
import Derived.Lib.LaidTab
import Derived.ProofKit
import Derived.OpenShut
set_option linter.unusedSimpArgs false
set_option linter.unusedVariables false
set_option linter.unusedSectionVars false
namespace Go.Eng
open Go.Proofs Go.RowKit Go.Shelf
theorem dec_small {v : Nat} (h : v < 10) : dec v = [UInt8.ofNat (48 + v)] := by
  unfold dec
  split
  · rename_i h0; subst h0; rfl
  · rename_i h0
    have hd : dlen v = 1 := by
      have h1 : dlen v ≤ 1 := dlen_iff.2 (by omega)
      have h2 := dlen_lt v
      rcases Nat.eq_zero_or_pos (dlen v) with q | q
      · rw [q] at h2; simp at h2; omega
      · omega
    rw [hd]
    show [UInt8.ofNat (48 + v / 10 ^ 0 % 10)] = _
    rw [Nat.pow_zero, Nat.div_one, Nat.mod_eq_of_lt h]
theorem dtx_last : ∀ (n v : Nat), dtx (n + 1) v = dtx n (v / 10) ++ [UInt8.ofNat (48 + v % 10)]
  | 0, v => by show [UInt8.ofNat (48 + v / 10 ^ 0 % 10)] = _; rw [Nat.pow_zero, Nat.div_one]; rfl
  | n + 1, v => by
    show UInt8.ofNat (48 + v / 10 ^ (n + 1) % 10) :: dtx (n + 1) v = (UInt8.ofNat (48 + v / 10 / 10 ^ n % 10) :: dtx n (v / 10)) ++ _
    rw [dtx_last n v, Nat.div_div_eq_div_mul, ← Nat.pow_succ']; rfl
theorem dec_big {v : Nat} (h : ¬ v < 10) : dec v = dec (v / 10) ++ [UInt8.ofNat (48 + v % 10)] := by
  have hd : dlen v = dlen (v / 10) + 1 := by
    have k : ∀ m, dlen (v / 10) ≤ m ↔ dlen v ≤ m + 1 := fun m => by
      rw [dlen_iff, dlen_iff, Nat.pow_succ, Nat.div_lt_iff_lt_mul (by decide)]
    have k1 := (k (dlen (v / 10))).1 (Nat.le_refl _)
    have k2 : 0 < dlen v := by
      rcases Nat.eq_zero_or_pos (dlen v) with q | q
      · have := dlen_lt v; rw [q] at this; simp at this; omega
      · exact q
    have k3 := (k (dlen v - 1)).2 (by omega)
    omega
  unfold dec
  rw [if_neg (by omega), if_neg (by omega), hd, dtx_last]
theorem dec_lib (v : Nat) : Lib.decDigits v = dec v := by
  induction v using Nat.strongRecOn with
  | _ v ih =>
    rw [Lib.decDigits]
    split
    · rename_i h; exact (dec_small h).symm
    · rename_i h
      rw [ih (v / 10) (by omega), ← dec_big h]
theorem decI_lib (n : Int) : Lib.itoa n = decI n := by
  unfold Lib.itoa decI
  split
  · rw [dec_lib]
  · rename_i h
    rw [dec_lib]
    congr 1; omega
theorem rep_lib (l : List UInt8) : ∀ c, Lib.repeatL l c = (List.replicate c l).flatten
  | 0 => rfl
  | c + 1 => by rw [Lib.repeatL, rep_lib l c, List.replicate_succ, List.flatten_cons]
theorem dig_lib {c : UInt8} (h : isDig c = true) : Lib.digitVal c = some (c.toNat - 48) := by
  simp only [isDig, decide_eq_true_eq] at h
  unfold Lib.digitVal
  rw [if_pos h]
theorem tv_from : ∀ (l : List UInt8) (a : Nat), l.all isDig = true → Lib.decFrom a l = some (a * 10 ^ l.length + tv l)
  | [], a, _ => by simp [Lib.decFrom, tv]
  | c :: l, a, h => by
    simp only [List.all_cons, Bool.and_eq_true] at h
    unfold Lib.decFrom
    rw [dig_lib h.1]
    simp only
    rw [tv_from l _ h.2]
    congr 1
    show (a * 10 + (c.toNat - 48)) * 10 ^ l.length + tv l = a * 10 ^ (l.length + 1) + ((c.toNat - 48) * 10 ^ l.length + tv l)
    rw [Nat.pow_succ]; grind
theorem atoi_lib {l : List UInt8} (h0 : l ≠ []) (h : l.all isDig = true) : Lib.atoi l = some (tv l : Int) := by
  cases l with
  | nil => exact (h0 rfl).elim
  | cons c l =>
    have hc : isDig c = true := by simp only [List.all_cons, Bool.and_eq_true] at h; exact h.1
    simp only [isDig, decide_eq_true_eq] at hc
    have h45 : (c == 45) = false := by
      rw [beq_eq_false_iff_ne]; rintro rfl; revert hc; decide
    have h43 : (c == 43) = false := by
      rw [beq_eq_false_iff_ne]; rintro rfl; revert hc; decide
    simp only [Lib.atoi, h45, h43, Bool.false_eq_true, if_false]
    unfold Lib.decNat
    simp only [List.isEmpty_cons, Bool.false_eq_true, if_false]
    rw [tv_from _ _ h]
    simp
theorem idx_lib (c : UInt8) : ∀ l : List UInt8, Lib.indexByte l c = idxB l c
  | [] => rfl
  | b :: l => by unfold Lib.indexByte idxB; rw [idx_lib c l]
structure LibOk (P : Program) (ρ : Ren) (key : Nat → Option FuncId) (T : Tab) (G : Nat) : Prop where
  l105 : Lays.n105 P ρ
  l171 : LaysM.n171 P ρ
  lX : Builder.Extra P ρ
  gname : P.globalNamed "internal/strconv.uint64pow10" = some G
  gkey : T.gkey G = some 0
  k50 : key 50 = some (ρ.f 171)
  k51 : key 51 = some (ρ.f 105)
  o130 : ∀ g, key 130 = some g → Lays.n160 P ρ ∧ (P.info? (ρ.t 116)).map (fun i => (i.zero, i.size)) = some (some (.agg (Array.replicate 256 (.bool false))), 256) ∧ g = ρ.f 160
  o131 : ∀ g, key 131 = some g → Lays.n172 P ρ ∧ g = ρ.f 172
  o222 : ∀ g, key 222 = some g → Lays.n219 P ρ ∧ g = ρ.f 219
variable {P : Program} {ρ : Ren} {key : Nat → Option FuncId} {T : Tab} {G : Nat}
theorem rel_s {l : Loc} {xs : List UInt8} {v : Value} (h : Rel key l (.s xs) v) : ∃ s : ByteArray, v = .string s ∧ s.data.toList = xs := by
  generalize hx : AV.s xs = x at h
  cases h <;> cases hx
  exact ⟨_, rfl, rfl⟩
theorem rel_i {l : Loc} {k : IntKind} {n : Int} {v : Value} (h : Rel key l (.i k n) v) : v = .int k n := by
  cases h; rfl
theorem relL_one {l : Loc} {a : AV} {vs : Array Value} (h : RelL key l [a] vs.toList) : ∃ v, vs = #[v] ∧ Rel key l a v := by
  have hl := h.1
  rcases vs with ⟨vs⟩
  match vs, hl with
  | [v], _ => exact ⟨v, rfl, h.2 0 (by simp) (by simp)⟩
theorem relL_two {l : Loc} {a b : AV} {vs : Array Value} (h : RelL key l [a, b] vs.toList) : ∃ v w, vs = #[v, w] ∧ Rel key l a v ∧ Rel key l b w := by
  have hl := h.1
  rcases vs with ⟨vs⟩
  match vs, hl with
  | [v, w], _ => exact ⟨v, w, rfl, h.2 0 (by simp) (by simp), h.2 1 (by simp) (by simp)⟩
theorem mkS {s : ByteArray} {xs : List UInt8} (h : s.data.toList = xs) : s = ⟨xs.toArray⟩ := by
  rcases s with ⟨d⟩
  rw [← h]
theorem tab_ok (K : LibOk P ρ key T G) {F : Nat} {l : Loc} {h : Hp} {w : World} (TO : TabOk key T l) (S : Sim key F l h w) (t : ∃ b, h.m 0 = some b ∧ b.v = powT) : Lib.TabIs P w "internal/strconv.uint64pow10" .u64 Lib.pow10Tab := by
  obtain ⟨m, hm⟩ := TO.g G 0 K.gkey
  obtain ⟨b, b1, b2⟩ := t
  have H := S.holds 0 b _ b1 hm
  obtain ⟨_, _, cs, ty, fz, h3, h4⟩ := H.whole rfl
  unfold Lib.TabIs World.var?
  rw [K.gname]
  simp only [Option.bind_some]
  simp only at h3
  rw [h3]
  simp only [Option.some.injEq]
  have hlen : b.v.length = 20 := by rw [b2]; rfl
  apply Array.ext_getElem?
  intro i
  by_cases hi : i < 20
  · obtain ⟨v, c1, c2⟩ := H.cell i (by omega)
    have hcs : cs[i]? = some v := by
      have := c1
      simp only [World.cell?, Nat.zero_add] at this
      rw [h3] at this
      simpa using this
    have hb : b.v[i]'(by omega) = .i .u64 ((10 ^ i : Nat) : Int) := by
      simp only [b2, powT]
      rw [List.getElem_map, List.getElem_range]
    rw [hb] at c2
    rw [hcs, rel_i c2]
    simp [Lib.pow10Tab, hi]
  · rw [Array.getElem?_eq_none (by omega), Array.getElem?_eq_none (by simp [Lib.pow10Tab]; omega)]
theorem lib_orc (K : LibOk P ρ key T G) {f g : Nat} (hk : key f = some g) (hf : f ≠ 33) {F : Nat} {args : List AV} {vs : Array Value} {h h' : Hp} {v : AV} {l : Loc} {w : World} (e : orcA f args h = some (v, h')) (TO : TabOk key T l)
    (RL : RelL key l args vs.toList) (S : Sim key F l h w) : Calls P g vs w fun e w' => ∃ l' val, e = .returned val ∧ Ext l h w l' h' w' ∧ Sim key F l' h' w' ∧ Rel key l' v val := by
  unfold orcA at e
  rw [if_neg hf] at e
  split at e
  · cases e
  rename_i ht
  simp only [Option.map_eq_some_iff, Prod.mk.injEq] at e
  obtain ⟨v', e1, rfl, rfl⟩ := e
  unfold libA at e1
  split at e1
  · rename_i n
    split at e1
    · rename_i hc
      cases e1
      obtain ⟨rfl, hn⟩ := hc
      obtain ⟨x, rfl, r1⟩ := relL_one RL
      rw [rel_i r1]
      obtain rfl := Option.some.inj (K.k50.symm.trans hk)
      have t : ∃ b, h.m 0 = some b ∧ b.v = powT := by
        by_cases q : ∃ b, h.m 0 = some b ∧ b.v = powT
        · exact q
        · exact (ht ⟨rfl, q⟩).elim
      refine orc_below S (val := .string ⟨(decI n).toArray⟩) ((Any.strconv_Itoa K.l171 n hn.1 hn.2 w (tab_ok K TO S t)).mono ?_) (rel_str _)
      rintro e w' ⟨rfl, k, os, rfl⟩
      exact ⟨by rw [decI_lib], Lib.below_grow _ _ (Nat.le_refl _) _ _⟩
    · cases e1
  · rename_i xs c
    split at e1
    · rename_i hc
      cases e1
      obtain ⟨rfl, h1, h2, h3⟩ := hc
      obtain ⟨x, y, rfl, r1, r2⟩ := relL_two RL
      obtain ⟨s, rfl, rfl⟩ := rel_s r1
      rw [rel_i r2]
      obtain rfl := Option.some.inj (K.k51.symm.trans hk)
      obtain ⟨c, rfl⟩ : ∃ k : Nat, c = (k : Int) := ⟨c.toNat, by omega⟩
      have hsz : s.size ≤ 1000 := by simpa using h3
      have hm : s.size * c ≤ 1000 * 1000 := Nat.mul_le_mul hsz (by omega)
      refine orc_below S (val := .string ⟨((List.replicate c s.data.toList).flatten).toArray⟩) ((Any.strings_Repeat K.l105 K.lX s c w (by omega) (by omega)).mono ?_) (rel_str _)
      rintro e w' ⟨rfl, hb⟩
      exact ⟨by rw [rep_lib], hb⟩
    · cases e1
  · rename_i xs cs
    split at e1
    · rename_i hc
      cases e1
      obtain ⟨rfl, h1, h2, h3⟩ := hc
      obtain ⟨x, y, rfl, r1, r2⟩ := relL_two RL
      obtain ⟨s, rfl, rfl⟩ := rel_s r1
      obtain ⟨c, rfl, rfl⟩ := rel_s r2
      obtain ⟨l160, i116, rfl⟩ := K.o130 _ hk
      refine orc_below S (val := .string ⟨(((s.data.toList.reverse.dropWhile (c.data.toList.contains ·)).reverse).dropWhile (c.data.toList.contains ·)).toArray⟩) ((Any.strings_Trim_laid l160 i116 s c w (by simpa using h1) (by simpa using h2) (ascii_of_all h3)).mono ?_) (rel_str _)
      rintro e w' ⟨rfl, hb⟩
      exact ⟨rfl, hb⟩
    · split at e1
      · rename_i hf
        subst hf
        split at e1
        · rename_i c hh
          cases e1
          obtain ⟨x, y, rfl, r1, r2⟩ := relL_two RL
          obtain ⟨s, rfl, rfl⟩ := rel_s r1
          obtain ⟨z, rfl, hz⟩ := rel_s r2
          obtain ⟨l219, rfl⟩ := K.o222 _ hk
          have ez : z = ⟨#[c]⟩ := mkS hz
          subst ez
          refine orc_below S (val := .int .i64 (idxB s.data.toList c)) ((Any.stringslite_Index_one l219 s c w).mono ?_) (.i _ _)
          rintro e w' ⟨rfl, rfl⟩
          exact ⟨by rw [idx_lib], .refl _ _⟩
        · cases e1
      · cases e1
  · rename_i xs
    split at e1
    · rename_i hc
      cases e1
      obtain ⟨rfl, h1, h2, h3⟩ := hc
      obtain ⟨x, rfl, r1⟩ := relL_one RL
      obtain ⟨s, rfl, rfl⟩ := rel_s r1
      obtain ⟨l172, rfl⟩ := K.o131 _ hk
      refine orc_below S (val := .tuple #[.int .i64 (tv s.data.toList : Nat), .nilIface]) ((Any.strconv_Atoi l172 s _ (by simpa using h2) (atoi_lib h1 h3) w).mono ?_) ?_
      · rintro e w' ⟨rfl, t, rfl⟩
        exact ⟨rfl, Go.Joins.below_bytesWorld _ _ _ _ (Nat.le_refl _)⟩
      · exact RelL.tu (.cons (.i _ _) (.cons .inil .nil))
    · cases e1
  · cases e1
end Go.Eng
namespace Go.Eng
variable {key : Nat → Option FuncId} {P : Program} {T : Tab} {call : Nat → List AV → Hp → Option (AV × Hp)} {F : Nat}
def graft : Code → Code → Code
  | .seq x y, r => .seq x (graft y r)
  | c, r => .seq c r
theorem graft_one (G : GoodCall call) (HC : Callable P key) (CS : CallSound P key T call) (hm : P.follows .mixedOrders = true) (lf : Nat) (c r : Code) (hg : graft c r = .seq c r) (hr : (cCode P T c).regsOk = true)
    {Q : Exit → Act → World → Prop} {l : Loc} {fr fr' : Fr} {a : Act} {h h' : Hp} {w : World} {out : Out} (TO : TabOk key T l) (R : RelF key l fr a.tmps) (S : Sim key F l h w) (hF : h'.next ≤ F)
    (he : evCode call lf (cCode P T c) fr h = some (out, fr', h'))
    (cont : ∀ l' a' w', Ext l h w l' h' w' → RelF key l' fr' a'.tmps → Sim key F l' h' w' → a'.defers = a.defers → Exit.then (r.wp P Q) Q out.toExit a' w') : (graft c r).wp P Q a w := by
  rw [hg]
  exact wp_seq (code_ok G HC CS lf c (draws_ok G HC CS hm c hr) TO R S hF he cont)
theorem graft_ok (G : GoodCall call) (HC : Callable P key) (CS : CallSound P key T call) (hm : P.follows .mixedOrders = true) (lf : Nat) (r : Code) : ∀ (c : Code), (cCode P T c).regsOk = true →
    ∀ {Q : Exit → Act → World → Prop} {l : Loc} {fr fr' : Fr} {a : Act} {h h' : Hp} {w : World} {out : Out}, TabOk key T l → RelF key l fr a.tmps → Sim key F l h w → h'.next ≤ F →
    evCode call lf (cCode P T c) fr h = some (out, fr', h') →
    (∀ l' a' w', Ext l h w l' h' w' → RelF key l' fr' a'.tmps → Sim key F l' h' w' → a'.defers = a.defers → Exit.then (r.wp P Q) Q out.toExit a' w') → (graft c r).wp P Q a w := by
  intro c
  induction c with
  | seq x y _ ihy =>
    intro hr Q l fr fr' a h h' w out TO R S hF he cont
    simp only [cCode, XC.regsOk, Bool.and_eq_true] at hr
    simp only [cCode, evCode] at he
    show (Code.seq x (graft y r)).wp P Q a w
    cases h1 : evCode call lf (cCode P T x) fr h with
    | none => rw [h1] at he; cases he
    | some q =>
      obtain ⟨o1, fr1, h1'⟩ := q
      rw [h1] at he
      have good1 := evCode_good G lf _ h1
      cases o1 with
      | normal =>
        simp only at he
        have good2 := evCode_good G lf _ he
        have hF1 : h1'.next ≤ F := Nat.le_trans good2.le.next hF
        refine wp_seq (code_ok G HC CS lf x (draws_ok G HC CS hm x hr.1) TO R S hF1 h1 fun l1 a1 w1 E1 R1 S1 d1 => ?_)
        exact ihy hr.2 (TO.mono E1.le) R1 S1 hF he fun l2 a2 w2 E2 R2 S2 d2 => cont l2 a2 w2 (.trans (S.hd S1.wf hF1) E1 E2) R2 S2 (d2.trans d1)
      | exit i =>
        cases he
        exact wp_seq (code_ok G HC CS lf x (draws_ok G HC CS hm x hr.1) TO R S hF h1 fun l1 a1 w1 E1 R1 S1 d1 => cont l1 a1 w1 E1 R1 S1 d1)
      | ret =>
        cases he
        exact wp_seq (code_ok G HC CS lf x (draws_ok G HC CS hm x hr.1) TO R S hF h1 fun l1 a1 w1 E1 R1 S1 d1 => cont l1 a1 w1 E1 R1 S1 d1)
  | _ => exact fun hr _ _ _ _ _ _ _ _ _ TO R S hF he cont => graft_one G HC CS hm lf _ r rfl hr TO R S hF he cont
theorem lst_uncons {n : Nat} {l : List Value} (h : l.length = n + 1) : ∃ t l2, l = t :: l2 ∧ l2.length = n := by
  cases l with
  | nil => simp at h
  | cons t l => exact ⟨t, l, rfl, by simpa using h⟩
theorem arr58 (tm : Array Value) (h : tm.size = 58) : ∃ t0 t1 t2 t3 t4 t5 t6 t7 t8 t9 t10 t11 t12 t13 t14 t15 t16 t17 t18 t19 t20 t21 t22 t23 t24 t25 t26 t27 t28 t29 t30 t31 t32 t33 t34 t35 t36 t37 t38 t39 t40 t41 t42 t43 t44 t45 t46 t47 t48 t49 t50 t51 t52 t53 t54 t55 t56 t57, tm = #[t0, t1, t2, t3, t4, t5, t6, t7, t8, t9, t10, t11, t12, t13, t14, t15, t16, t17, t18, t19, t20, t21, t22, t23, t24, t25, t26, t27, t28, t29, t30, t31, t32, t33, t34, t35, t36, t37, t38, t39, t40, t41, t42, t43, t44, t45, t46, t47, t48, t49, t50, t51, t52, t53, t54, t55, t56, t57] := by
  rcases tm with ⟨l⟩
  have h : l.length = 58 := h
  obtain ⟨t0, l0, rfl, h0⟩ := lst_uncons h
  obtain ⟨t1, l1, rfl, h1⟩ := lst_uncons h0
  obtain ⟨t2, l2, rfl, h2⟩ := lst_uncons h1
  obtain ⟨t3, l3, rfl, h3⟩ := lst_uncons h2
  obtain ⟨t4, l4, rfl, h4⟩ := lst_uncons h3
  obtain ⟨t5, l5, rfl, h5⟩ := lst_uncons h4
  obtain ⟨t6, l6, rfl, h6⟩ := lst_uncons h5
  obtain ⟨t7, l7, rfl, h7⟩ := lst_uncons h6
  obtain ⟨t8, l8, rfl, h8⟩ := lst_uncons h7
  obtain ⟨t9, l9, rfl, h9⟩ := lst_uncons h8
  obtain ⟨t10, l10, rfl, h10⟩ := lst_uncons h9
  obtain ⟨t11, l11, rfl, h11⟩ := lst_uncons h10
  obtain ⟨t12, l12, rfl, h12⟩ := lst_uncons h11
  obtain ⟨t13, l13, rfl, h13⟩ := lst_uncons h12
  obtain ⟨t14, l14, rfl, h14⟩ := lst_uncons h13
  obtain ⟨t15, l15, rfl, h15⟩ := lst_uncons h14
  obtain ⟨t16, l16, rfl, h16⟩ := lst_uncons h15
  obtain ⟨t17, l17, rfl, h17⟩ := lst_uncons h16
  obtain ⟨t18, l18, rfl, h18⟩ := lst_uncons h17
  obtain ⟨t19, l19, rfl, h19⟩ := lst_uncons h18
  obtain ⟨t20, l20, rfl, h20⟩ := lst_uncons h19
  obtain ⟨t21, l21, rfl, h21⟩ := lst_uncons h20
  obtain ⟨t22, l22, rfl, h22⟩ := lst_uncons h21
  obtain ⟨t23, l23, rfl, h23⟩ := lst_uncons h22
  obtain ⟨t24, l24, rfl, h24⟩ := lst_uncons h23
  obtain ⟨t25, l25, rfl, h25⟩ := lst_uncons h24
  obtain ⟨t26, l26, rfl, h26⟩ := lst_uncons h25
  obtain ⟨t27, l27, rfl, h27⟩ := lst_uncons h26
  obtain ⟨t28, l28, rfl, h28⟩ := lst_uncons h27
  obtain ⟨t29, l29, rfl, h29⟩ := lst_uncons h28
  obtain ⟨t30, l30, rfl, h30⟩ := lst_uncons h29
  obtain ⟨t31, l31, rfl, h31⟩ := lst_uncons h30
  obtain ⟨t32, l32, rfl, h32⟩ := lst_uncons h31
  obtain ⟨t33, l33, rfl, h33⟩ := lst_uncons h32
  obtain ⟨t34, l34, rfl, h34⟩ := lst_uncons h33
  obtain ⟨t35, l35, rfl, h35⟩ := lst_uncons h34
  obtain ⟨t36, l36, rfl, h36⟩ := lst_uncons h35
  obtain ⟨t37, l37, rfl, h37⟩ := lst_uncons h36
  obtain ⟨t38, l38, rfl, h38⟩ := lst_uncons h37
  obtain ⟨t39, l39, rfl, h39⟩ := lst_uncons h38
  obtain ⟨t40, l40, rfl, h40⟩ := lst_uncons h39
  obtain ⟨t41, l41, rfl, h41⟩ := lst_uncons h40
  obtain ⟨t42, l42, rfl, h42⟩ := lst_uncons h41
  obtain ⟨t43, l43, rfl, h43⟩ := lst_uncons h42
  obtain ⟨t44, l44, rfl, h44⟩ := lst_uncons h43
  obtain ⟨t45, l45, rfl, h45⟩ := lst_uncons h44
  obtain ⟨t46, l46, rfl, h46⟩ := lst_uncons h45
  obtain ⟨t47, l47, rfl, h47⟩ := lst_uncons h46
  obtain ⟨t48, l48, rfl, h48⟩ := lst_uncons h47
  obtain ⟨t49, l49, rfl, h49⟩ := lst_uncons h48
  obtain ⟨t50, l50, rfl, h50⟩ := lst_uncons h49
  obtain ⟨t51, l51, rfl, h51⟩ := lst_uncons h50
  obtain ⟨t52, l52, rfl, h52⟩ := lst_uncons h51
  obtain ⟨t53, l53, rfl, h53⟩ := lst_uncons h52
  obtain ⟨t54, l54, rfl, h54⟩ := lst_uncons h53
  obtain ⟨t55, l55, rfl, h55⟩ := lst_uncons h54
  obtain ⟨t56, l56, rfl, h56⟩ := lst_uncons h55
  obtain ⟨t57, l57, rfl, h57⟩ := lst_uncons h56
  obtain rfl := List.eq_nil_of_length_eq_zero h57
  exact ⟨t0, t1, t2, t3, t4, t5, t6, t7, t8, t9, t10, t11, t12, t13, t14, t15, t16, t17, t18, t19, t20, t21, t22, t23, t24, t25, t26, t27, t28, t29, t30, t31, t32, t33, t34, t35, t36, t37, t38, t39, t40, t41, t42, t43, t44, t45, t46, t47, t48, t49, t50, t51, t52, t53, t54, t55, t56, t57, rfl⟩
end Go.Eng
namespace Go.Proofs
open Go.Eng Go.RowKit Go.Shelf
noncomputable def Tryz.strPre : Code := match Tryz.f68.body with | some (.seq a (.seq b (.seq c (.seq d (.seq e _))))) => .seq a (.seq b (.seq c (.seq d e))) | _ => .skip
noncomputable def Tryz.strTail : Code := match Tryz.f68.body with | some (.seq _ (.seq _ (.seq _ (.seq _ (.seq _ r))))) => r | _ => .skip
theorem Tryz.hidS {p : Prop} (h : p) : Hid p := h
set_option maxHeartbeats 4000000 in
set_option maxRecDepth 100000 in
theorem Tryz.str_tail (neg : Bool) (ps : List (List UInt8)) (hne : ps.reverse.flatten ≠ []) (hlen : ps.length ≤ 20000) (htot : ps.flatten.length ≤ 1000000)
    (b1 o1 b3 o3 c : Nat) (w : World) (hneg : w.cell? ⟨b1, o1, none⟩ = some (.bool neg)) (hb1 : b1 < w.heap.size) (hb3 : b3 < w.heap.size)
    (hcells : ∀ j x, ps[j]? = some x → w.cell? ⟨b3, o3 + j, none⟩ = some (.string ⟨x.toArray⟩))
    (tm : Array Value) (hsz : tm.size = 58) (h1 : tm[1]? = some (.pointer (some ⟨b1, o1, none⟩))) (h3 : tm[3]? = some (.slice (some ⟨b3, o3, none⟩) ps.length c)) :
    Tryz.strTail.wp Tryz.prog (fun e a w' => e = .ret ∧ a.defers = [] ∧ a.tmps.getD 2 undef = .string ⟨((if neg then [45] else []) ++ ps.reverse.flatten).toArray⟩ ∧ Below w.heap.size w w') ⟨tm, []⟩ w := by
  have HC := Tryz.hidS hcells
  clear hcells
  obtain ⟨t0, t1, t2, t3, t4, t5, t6, t7, t8, t9, t10, t11, t12, t13, t14, t15, t16, t17, t18, t19, t20, t21, t22, t23, t24, t25, t26, t27, t28, t29, t30, t31, t32, t33, t34, t35, t36, t37, t38, t39, t40, t41, t42, t43, t44, t45, t46, t47, t48, t49, t50, t51, t52, t53, t54, t55, t56, t57, rfl⟩ := arr58 tm hsz
  simp only [List.getElem?_toArray, List.getElem?_cons_succ, List.getElem?_cons_zero, Option.some.injEq] at h1 h3
  subst h1
  subst h3
  clear hsz
  unfold Tryz.strTail
  simp only [Tryz.f68]
  have hF : Lib.IsBuilder 144 5 w.heap.size w.heap.size [] (w.alloc (.cells #[.pointer none, .slice none 0 0] 144)) := Lib.fresh_isBuilder 144 5 w
  have hB0 : Below w.heap.size w (w.alloc (.cells #[.pointer none, .slice none 0 0] 144)) := (Below.refl w.heap.size w).alloc (Nat.le_refl _) _
  have HF := Tryz.hidS hF
  have HB0 := Tryz.hidS hB0
  clear hF hB0
  obtain ⟨pre, hpre⟩ : ∃ pre : List UInt8, pre = if neg then [45] else [] := ⟨_, rfl⟩
  have hprel : pre.length ≤ 1 := by rw [hpre]; split <;> simp
  rw [← hpre]
  have tail : ∀ (k : Nat), ((ps.drop k).reverse.flatten).length ≤ 1000000 := fun k => by
    have e := congrArg (fun l => (List.flatten l).length) (List.take_append_drop k ps)
    simp only [List.flatten_append, List.length_append] at e
    have e2 : ((ps.drop k).reverse.flatten).length = ((ps.drop k).flatten).length := by
      simp only [List.length_flatten, List.map_reverse, List.sum_reverse]
    omega
  have HT := Tryz.hidS tail
  clear tail
  cases neg
  case' false =>
    have e0 : pre = [] := by simpa using hpre
    have H1 := Tryz.hidS (show Lib.IsBuilder 144 5 w.heap.size w.heap.size (Lib.byteCells pre) (w.alloc (.cells #[.pointer none, .slice none 0 0] 144)) by rw [e0]; exact HF.out)
    have HB1 := HB0
    go_wp2_with fail
  case' true =>
    have e0 : pre = [45] := by simpa using hpre
    go_wp2_with fail
    refine (Any.Builder_WriteByte Tryz.l167 Tryz.lX w.heap.size w.heap.size [] 45 _ HF.out (by simp) (by simp)).mono ?_
    rintro e w2 ⟨rfl, h2, hb2⟩
    have H1 := Tryz.hidS (show Lib.IsBuilder 144 5 w.heap.size w.heap.size (Lib.byteCells pre) w2 by rw [e0]; exact Or.inr h2)
    have HB1 := Tryz.hidS (HB0.out.trans hb2)
    clear h2 hb2
    go_wp2_with fail
  all_goals (
    go_loopw [9] (fun i wr => ∃ k : Nat, k ≤ ps.length ∧ i = .int .i64 ((k : Int) - 1) ∧ Hid (Lib.IsBuilder 144 5 w.heap.size w.heap.size (Lib.byteCells (pre ++ (ps.drop k).reverse.flatten)) wr) ∧ Hid (Below w.heap.size w wr)) (fun i _ => (intOf i + 1).toNat)
    case atStart => exact ⟨ps.length, Nat.le_refl _, rfl, by rw [List.drop_length]; simpa using H1, HB1⟩
    case round =>
      obtain ⟨k, hk, rfl, HB, HW⟩ := hrel
      by_cases hk0 : k = 0
      · subst hk0
        have hd : (ps.drop 0) = ps := List.drop_zero
        rw [hd] at HB
        go_wp2_with fail
        refine (Any.Builder_String { Tryz.l105 with } Tryz.lX w.heap.size w.heap.size (pre ++ ps.reverse.flatten) wr HB.out (fun q => hne (List.append_eq_nil_iff.1 q).2)).mono ?_
        rintro e w3 ⟨rfl, hb3'⟩
        go_wp2_with fail
        exact HW.out.trans hb3'
      · obtain ⟨m, rfl⟩ : ∃ m, k = m + 1 := ⟨k - 1, by omega⟩
        have hm : m < ps.length := by omega
        obtain ⟨x, hx⟩ : ∃ x, ps[m]? = some x := ⟨ps[m], List.getElem?_eq_getElem hm⟩
        have hc := HC.out m x hx
        rw [← HW.out.cell (p := ⟨b3, o3 + m, none⟩) hb3] at hc
        have hdrop : (ps.drop m).reverse.flatten = (ps.drop (m + 1)).reverse.flatten ++ x := by
          have e : ps.drop m = x :: ps.drop (m + 1) := by
            have := List.drop_eq_getElem_cons hm
            rw [List.getElem?_eq_getElem hm] at hx
            cases hx; exact this
          rw [e]; simp
        have hl := HT.out m
        rw [hdrop, List.length_append] at hl
        have Hd := Tryz.hidS hdrop
        have hBw : w.heap.size ≤ wr.heap.size := HW.out.size
        have i1 : ((m + 1 : Nat) : Int) - 1 = (m : Int) := by omega
        rw [i1]
        clear hdrop hx
        have hxs : (⟨x.toArray⟩ : ByteArray).size = x.length := rfl
        go_wp2_with fail
        refine (Any.Builder_WriteString { Tryz.l105 with } Tryz.lX w.heap.size w.heap.size _ ⟨x.toArray⟩ wr HB.out (by rw [Lib.byteCells_length, List.length_append, hxs]; omega) hBw).mono ?_
        rintro e w2' ⟨rfl, h2', hb2'⟩
        have H2 := Tryz.hidS (show Lib.IsBuilder 144 5 w.heap.size w.heap.size (Lib.byteCells (pre ++ (ps.drop m).reverse.flatten)) w2' by
          rw [Hd.out, ← List.append_assoc, Lib.byteCells_append]
          rw [Lib.strCells_eq] at h2'
          exact Or.inr h2')
        have Hb2 := Tryz.hidS (HW.out.trans hb2')
        clear h2' hb2'
        go_wp2_with fail
        exact ⟨⟨m, by omega, rfl, H2, Hb2⟩, by simp [intOf]⟩)
end Go.Proofs
namespace Go.Eng
open Go.RowKit
variable {key : Nat → Option FuncId} {P : Program} {T : Tab}
def Hp.tw (t : Blk) (cs : List AV) : Hp := ⟨fun k => if k = 0 then some { t with rw := false } else if k = 5 then some ⟨cs, false, 0⟩ else none, 6⟩
def Loc.tw (l : Loc) (a1 : At) : Loc := fun k => if k = 5 then some a1 else if k ≤ 4 then l k else none
theorem powT_rel {l l2 : Loc} {i : Nat} (hi : i < powT.length) {v : Value} (r : Rel key l powT[i] v) : Rel key l2 powT[i] v := by
 have e : powT[i] = .i .u64 ((10 ^ i : Nat) : Int) := by
  simp only [powT]; rw [List.getElem_map, List.getElem_range]
 rw [e] at r ⊢
 cases r; exact .i _ _
theorem tw_sim {F F' : Nat} {l : Loc} {h : Hp} {w : World} (S : Sim key F l h w) {t : Blk} {a0 : At} (ht : h.m 0 = some t) (hv : t.v = powT) (h0 : l 0 = some a0) {xs : List Nat} {a1 : At}
  (hb : a1.b < w.heap.size ∧ a1.w = false ∧ xs.length ≤ a1.n ∧ ∀ i (hi : i < xs.length), w.cell? ⟨a1.b, a1.o + i, none⟩ = some (.int .u32 ((xs[i] : Nat) : Int))) :
  Sim key F' (Loc.tw l a1) (Hp.tw t (xs.map fun x : Nat => .i .u32 (x : Int))) w := by
 refine ⟨fun k b a e1 e2 => ?_, fun k b a k' b' a' e1 e2 e3 => ?_, fun k a e => ?_, fun k a e => ?_, fun k hk => ?_⟩
 ·by_cases hk : k = 0
  ·subst hk
   have e2 : l 0 = some a := e2
   rw [h0] at e2
   cases e1; cases e2
   have H := S.holds 0 t a0 ht h0
   refine ⟨H.lt, H.len, fun i hi => ?_, H.scal, fun q => (by cases q), fun q => ⟨rfl, (H.whole q).2⟩⟩
   obtain ⟨v, c1, c2⟩ := H.cell i hi
   refine ⟨v, c1, ?_⟩
   have hi' : i < powT.length := by rw [← hv]; exact hi
   have e : t.v[i] = powT[i] := by simp only [hv]
   simp only at hi ⊢
   rw [e] at c2 ⊢
   exact powT_rel hi' c2
  ·by_cases hkn : k = 5
   ·subst hkn
    cases e1; cases e2
    obtain ⟨q1, q0, q2, q3⟩ := hb
    refine ⟨q1, by simpa using q2, fun i hi => ?_, fun i hi => ?_, fun q => (by cases q), fun q => ?_⟩
    ·simp only [List.length_map] at hi
     refine ⟨_, q3 i hi, ?_⟩
     simp only [List.getElem_map]
     exact .i _ _
    ·simp only [List.getElem_map]; rfl
    ·rw [q0] at q; cases q
   ·simp only [Hp.tw, if_neg hk, if_neg hkn] at e1; cases e1
 ·simp only [Hp.tw] at e1
  split at e1
  ·cases e1; cases e3
  ·split at e1
   ·cases e1; cases e3
   ·cases e1
 ·simp only [Loc.tw] at e
  split at e
  ·cases e; exact hb.1
  ·split at e
   ·exact S.lt k a e
   ·cases e
 ·left
  show k < 6
  simp only [Loc.tw] at e
  split at e
  ·omega
  ·split at e
   ·omega
   ·cases e
 ·have hk' : 6 ≤ k := hk
  simp only [Hp.tw]
  rw [if_neg (by omega), if_neg (by omega)]
theorem txt_tw {F : Nat} {l : Loc} {h : Hp} {w : World} (S : Sim key F l h w) {t : Blk} {a0 : At} (ht : h.m 0 = some t) (hv : t.v = powT) (h0 : l 0 = some a0) {neg : Bool} {wv : AV} {val : Value} {tx : List UInt8}
  (e : txtA [.ag [.b neg, wv]] h = some tx) (r : Rel key l wv val) : ∃ cs a1 wv' v, (∀ F', Sim key F' (Loc.tw l a1) (Hp.tw t cs) w) ∧ Rel key (Loc.tw l a1) wv' val ∧ wlen v ≤ 512 ∧ (neg = true → v ≠ 0) ∧
   tx = decI (if neg then -(v : Int) else (v : Int)) ∧ V (Hp.tw t cs) (fun _ => False) [] (D v) wv' := by
 have H0 := S.holds 0 t a0 ht h0
 have small : ∀ {wv' : AV}, Rel key (Loc.tw l ⟨a0.b, 0, 0, false⟩) wv' val → txtA [.ag [.b neg, wv']] (Hp.tw t []) = some tx → (∀ m off len cap z, wv' = .sl m off len cap z → False) →
   ∃ cs a1 wv' v, (∀ F', Sim key F' (Loc.tw l a1) (Hp.tw t cs) w) ∧ Rel key (Loc.tw l a1) wv' val ∧ wlen v ≤ 512 ∧ (neg = true → v ≠ 0) ∧
   tx = decI (if neg then -(v : Int) else (v : Int)) ∧ V (Hp.tw t cs) (fun _ => False) [] (D v) wv' := fun {wv'} r1 e1 hs => by
  obtain ⟨v, v1, v2, v3, v4⟩ := txtA_inv e1 fun m off len cap z q => (hs _ _ _ _ _ q).elim
  exact ⟨[], ⟨a0.b, 0, 0, false⟩, wv', v, fun F' => tw_sim (xs := []) S ht hv h0 ⟨H0.lt, rfl, Nat.le_refl _, fun i hi => by simp at hi⟩, r1, v1, v2, v3, v4⟩
 cases r with
 | @sl n off len cap cap' z a ha q1 q2 q3 =>
   replace e : (if len = 0 then wtx neg [] else if z = 1 then ((h.rd n off len).bind wordsA).bind (wtx neg) else none) = some tx := e
   split at e
   ·rename_i hl
    subst hl
    exact small (wv' := .e0) (.e0 _ _) e fun _ _ _ _ _ q => by cases q
   ·rename_i hl
    split at e
    ·rename_i hz
     subst hz
     simp only [Option.bind_eq_some_iff] at e
     obtain ⟨xs, ⟨cs, e1, e2⟩, e3⟩ := e
     obtain ⟨w1, w2⟩ := wordsA_ok e2
     unfold Hp.rd at e1
     split at e1
     ·rename_i b hb
      split at e1
      ·rename_i hle
       cases e1
       have hxl : xs.length = len := by
        have := congrArg List.length w1
        simp at this; omega
       have hg : ∀ i (hi : i < xs.length), b.v[off + i]? = some (.i .u32 ((xs[i] : Nat) : Int)) := fun i hi => by
        have : ((b.v.drop off).take len)[i]? = some (.i .u32 ((xs[i] : Nat) : Int)) := by
         rw [w1, List.getElem?_map, List.getElem?_eq_getElem hi]; rfl
        rw [List.getElem?_take, if_pos (by omega), List.getElem?_drop] at this
        exact this
       have H := S.holds n b a hb ha
       let a1 : At := ⟨a.b, a.o + off, a.n - off, false⟩
       have hsim : ∀ F', Sim key F' (Loc.tw l a1) (Hp.tw t (xs.map fun x : Nat => .i .u32 (x : Int))) w := fun F' => tw_sim S ht hv h0 ⟨H.lt, rfl, by show xs.length ≤ a.n - off; have := H.len; omega, fun i hi => by
        have h1 := hg i hi
        have hoi : off + i < b.v.length := by omega
        obtain ⟨v, c1, c2⟩ := H.cell (off + i) hoi
        rw [List.getElem?_eq_getElem hoi] at h1
        cases h1' : b.v[off + i] with
        | i k m =>
         rw [h1'] at h1 c2
         cases h1
         cases c2
         show w.cell? ⟨a.b, a.o + off + i, none⟩ = _
         rw [Nat.add_assoc]; exact c1
        | _ => rw [h1'] at h1; cases h1⟩
       have hrel : Rel key (Loc.tw l a1) (.sl 5 0 len cap 1) (.slice (some ⟨a.b, a.o + off, none⟩) len cap') := by
        have hl : Loc.tw l a1 5 = some a1 := rfl
        have := Rel.sl (key := key) (off := 0) (len := len) (cap := cap) (cap' := cap') (z := 1) hl q1 (by show 0 + cap' * 1 ≤ a.n - off; omega) q3
        exact this
       have htx : txtA [.ag [.b neg, .sl 5 0 len cap 1]] (Hp.tw t (xs.map fun x : Nat => .i .u32 (x : Int))) = some tx := by
        have hrd : (Hp.tw t (xs.map fun x : Nat => AV.i .u32 (x : Int))).rd 5 0 len = some (xs.map fun x : Nat => .i .u32 (x : Int)) := by
         simp only [Hp.rd, Hp.tw, if_neg (show (5 : Nat) ≠ 0 by decide), if_true]
         rw [if_pos (by simp; omega), List.drop_zero, List.take_of_length_le (by simp; omega)]
        show (if len = 0 then wtx neg [] else if 1 = 1 then (((Hp.tw t (xs.map fun x : Nat => AV.i .u32 (x : Int))).rd 5 0 len).bind wordsA).bind (wtx neg) else none) = _
        rw [if_neg hl, if_pos rfl, hrd, Option.bind_some, ← w1, e2, Option.bind_some]
        exact e3
       obtain ⟨v, v1, v2, v3, v4⟩ := txtA_inv htx fun m off' len' cap'' z q => by cases q; exact q3
       exact ⟨_, a1, _, v, hsim, hrel, v1, v2, v3, v4⟩
      ·cases e1
     ·cases e1
    ·cases e
 | sn => exact small .sn e fun _ _ _ _ _ q => by cases q
 | se b => exact small (.se b) e fun _ _ _ _ _ q => by cases q
 | e0 b c => exact small (.e0 b c) e fun _ _ _ _ _ q => by cases q
 | _ => simp [txtA] at e
end Go.Eng
namespace Go.Eng
open Go.RowKit
variable {key : Nat → Option FuncId} {P : Program} {T : Tab}
theorem res_tmp2 {fn : Func} (h : fn.results = #[.tmp 2]) (tmps : Array Value) (w : World) : (results fn tmps).run P w = .ok (tmps.getD 2 undef) w := by
 unfold results
 rw [h, Array.mapM_eq_mapM_toList]
 rfl
theorem rel_sv {l : Loc} {xs : List UInt8} {v : Value} (h : Rel key l (.s xs) v) : v = .string ⟨xs.toArray⟩ := by
 generalize hx : AV.s xs = x at h
 cases h <;> cases hx
 rfl
theorem dec_ne (v : Nat) : dec v ≠ [] := by
 unfold dec
 split
 ·simp
 ·rename_i h
  intro q
  have h1 := congrArg List.length q
  rw [dtx_len] at h1
  have := dlen_lt v
  simp at h1
  rw [h1] at this
  simp at this; omega
theorem txtA_shape {args : List AV} {h : Hp} {l : List UInt8} (e : txtA args h = some l) : ∃ neg w, args = [.ag [.b neg, w]] := by
 unfold txtA at e
 split at e
 ·exact ⟨_, _, rfl⟩
 ·exact ⟨_, _, rfl⟩
 ·exact ⟨_, _, rfl⟩
 ·exact ⟨_, _, rfl⟩
 ·cases e
theorem str_orc (K1 : ProgOk P key T E1.prog) (KE : PEnvOk E1) (hT0 : ∀ g n, T.gkey g = some n → n ≤ 4) {G : Nat} (hG : T.gkey G = some 0) {fn : Func} {g : Nat} (hfn : P.funcs[g]? = some fn) {pre tail : Code} (hbody : fn.body = some (graft pre tail)) (hpre : cCode P T pre = strA)
  (hnt : fn.ntmps = 58) (hres : fn.results = #[.tmp 2])
  (htail : ∀ (neg : Bool) (ps : List (List UInt8)), ps.reverse.flatten ≠ [] → ps.length ≤ 20000 → ps.flatten.length ≤ 1000000 →
   ∀ (b1 o1 b3 o3 c : Nat) (w : World), w.cell? ⟨b1, o1, none⟩ = some (.bool neg) → b1 < w.heap.size → b3 < w.heap.size →
   (∀ j x, ps[j]? = some x → w.cell? ⟨b3, o3 + j, none⟩ = some (.string ⟨x.toArray⟩)) →
   ∀ (tm : Array Value), tm.size = 58 → tm[1]? = some (.pointer (some ⟨b1, o1, none⟩)) → tm[3]? = some (.slice (some ⟨b3, o3, none⟩) ps.length c) →
   tail.wp P (fun e a w' => e = .ret ∧ a.defers = [] ∧ a.tmps.getD 2 undef = .string ⟨((if neg then [45] else []) ++ ps.reverse.flatten).toArray⟩ ∧ Below w.heap.size w w') ⟨tm, []⟩ w)
  {F : Nat} {args : List AV} {vs : Array Value} {h h' : Hp} {v : AV} {l : Loc} {w : World} (e : orcA 33 args h = some (v, h')) (TO : TabOk key T l)
  (RL : RelL key l args vs.toList) (S : Sim key F l h w) : Calls P g vs w fun e w' => ∃ l' val, e = .returned val ∧ Ext l h w l' h' w' ∧ Sim key F l' h' w' ∧ Rel key l' v val := by
 unfold orcA at e
 rw [if_pos rfl] at e
 split at e
 case isFalse => cases e
 rename_i ht
 simp only [Option.map_eq_some_iff, Prod.mk.injEq] at e
 obtain ⟨tx, e1, rfl, rfl⟩ := e
 obtain ⟨t, t1, t2⟩ := ht
 obtain ⟨m0, hl0⟩ := TO.g G 0 hG
 obtain ⟨neg, wv, rfl⟩ := txtA_shape e1
 have hvs : ∃ val, vs = #[.agg #[.bool neg, val]] ∧ Rel key l wv val := by
  have hlen := RL.1
  rcases vs with ⟨vs⟩
  match vs, hlen with
  | [x], _ =>
   have r := RL.2 0 (by simp) (by simp)
   simp only [List.getElem_cons_zero] at r
   cases r with
   | @ag _ ws hn hv =>
    rcases ws with ⟨ws⟩
    match ws, hn with
    | [a, b], _ =>
     have r1 := hv 0 (by simp) (by simp)
     have r2 := hv 1 (by simp) (by simp)
     simp only [List.getElem_cons_zero, List.getElem_toArray, List.getElem_cons_succ] at r1 r2
     cases r1
     exact ⟨b, rfl, r2⟩
 obtain ⟨val, rfl, rv⟩ := hvs
 obtain ⟨cs, a1, wv', z, hsim, rv', hz, hneg, htx, hV⟩ := txt_tw S t1 t2 hl0 e1 rv
 generalize hh0 : Hp.tw t cs = h0 at hsim hV
 generalize hll : Loc.tw l a1 = l0 at hsim rv'
 have hw0 : h0.wf := (hsim 0).wf
 have hT : HasT h0 := ⟨{ t with rw := false }, by rw [← hh0]; rfl, t2⟩
 have norw : ∀ k b, h0.m k = some b → b.rw = false := fun k b q => by
  rw [← hh0] at q
  simp only [Hp.tw] at q
  split at q
  ·cases q; rfl
  ·split at q
   ·cases q; rfl
   ·cases q
 have TO0 : TabOk key T l0 := ⟨TO.f, fun g' n' q => by
  have hn := hT0 g' n' q
  obtain ⟨m, hm⟩ := TO.g g' n' q
  refine ⟨m, ?_⟩
  rw [← hll]
  simp only [Loc.tw]
  rw [if_neg (by omega), if_pos hn]
  exact hm⟩
 have RA : RelL key l0 [.ag [.b neg, wv']] [.agg #[.bool neg, val]] := .cons ((RelL.cons (.b neg) (.cons rv' .nil)).ag) .nil
 have RF : RelF key l0 ([.ag [.b neg, wv']] ++ List.replicate 57 undefA) (#[.agg #[.bool neg, val]] ++ Array.replicate (fn.ntmps - (#[Value.agg #[.bool neg, val]] : Array Value).size) undef) := by
  rw [hnt]
  unfold RelF
  rw [Array.toList_append, Array.toList_replicate]
  exact RA.append ⟨by simp, fun i q1 q2 => by rw [List.getElem_replicate, List.getElem_replicate]; exact rel_undef⟩
 have hbel : ∀ {l1 h1 w1}, Ext l0 h0 w l1 h1 w1 → Below w.heap.size w w1 := fun {l1 h1 w1} E =>
  ⟨E.os, E.tape, E.output, E.size, fun b hb => E.frame b hb fun m blk a q1 q2 => by rw [norw m blk q1] at q2; cases q2⟩
 have hregs : (cCode P T pre).regsOk = true := by rw [hpre]; decide
 have goodCall := evF_good K1
 have final : Calls P g #[.agg #[.bool neg, val]] w fun e w' => e = .returned (.string ⟨tx.toArray⟩) ∧ Below w.heap.size w w' := by
  refine calls_of_wp hfn hbody ?_
  by_cases hz0 : z = 0
  ·subst hz0
   have hnf : neg = false := by
    cases neg
    ·rfl
    ·exact (hneg rfl rfl).elim
   subst hnf
   have htx' : tx = [48] := by rw [htx]; rfl
   obtain ⟨lf, fr', h1, ev, f2⟩ := str0_ev KE hw0 hT hV
   refine graft_ok (goodCall lf) K1.call (evF_sound K1 lf) K1.mixed lf tail pre hregs TO0 RF (hsim h1.next) (Nat.le_refl _) (by rw [hpre]; exact ev) fun l' a' w' E R' S' hd => ?_
   have r2 := RelF.get R' 2
   rw [f2] at r2
   refine ⟨hd, _, res_tmp2 hres _ _, ?_, hbel E⟩
   rw [htx']
   generalize a'.tmps.getD 2 undef = x at r2
   rw [rel_sv r2]
  ·obtain ⟨lf, fr', h1, p0, m, len, cap, ps, ev, hlen, f1, ⟨b0, hb0, hb0v⟩, f3, ⟨b1, hb1, hb1v⟩, rfl, g1, g2, g3⟩ := strA_ev KE (neg := neg) hw0 hT hz0 hz hV
   refine graft_ok (goodCall lf) K1.call (evF_sound K1 lf) K1.mixed lf tail pre hregs TO0 RF (hsim h1.next) (Nat.le_refl _) (by rw [hpre]; exact ev) fun l' a' w' E R' S' hd => ?_
   have r1 := RelF.get R' 1
   have r3 := RelF.get R' 3
   rw [f1] at r1
   rw [f3] at r3
   have hsz : a'.tmps.size = 58 := by
    have := R'.1
    simp at this; omega
   have gd : ∀ i, i < 58 → a'.tmps[i]? = some (a'.tmps.getD i undef) := fun i hi => by
    rw [Array.getD_eq_getD_getElem?, Array.getElem?_eq_getElem (by omega)]; rfl
   have gd1 := gd 1 (by omega)
   have gd3 := gd 3 (by omega)
   generalize a'.tmps.getD 1 undef = x1 at r1 gd1
   generalize a'.tmps.getD 3 undef = x3 at r3 gd3
   cases r1 with
   | @p _ _ a1' q1 =>
    cases r3 with
    | @sl _ _ _ _ cap' _ a3 q3 s1 s2 s3 =>
     have H0 := S'.holds _ _ _ hb0 q1
     have H3 := S'.holds _ _ _ hb1 q3
     have hneg' : w'.cell? ⟨a1'.b, a1'.o + 0, none⟩ = some (.bool neg) := by
      have hl : 0 < b0.v.length := by
       rcases Nat.eq_zero_or_pos b0.v.length with q | q
       ·rw [List.getElem?_eq_none (by omega)] at hb0v; cases hb0v
       ·exact q
      obtain ⟨y, c1, c2⟩ := H0.cell 0 hl
      rw [List.getElem?_eq_getElem hl] at hb0v
      rw [Option.some.inj hb0v] at c2
      cases c2; exact c1
     have hcells : ∀ j x, ps[j]? = some x → w'.cell? ⟨a3.b, a3.o + 0 + j, none⟩ = some (.string ⟨x.toArray⟩) := fun j x hx => by
      have hj : j < ps.length := by
       by_cases q : j < ps.length
       ·exact q
       ·rw [List.getElem?_eq_none (by omega)] at hx; cases hx
      have hj' : j < b1.v.length := by rw [hb1v]; simpa using hj
      obtain ⟨y, c1, c2⟩ := H3.cell j hj'
      have e : b1.v[j] = .s x := by
       simp only [hb1v, List.getElem_map]
       rw [List.getElem?_eq_getElem hj] at hx
       rw [Option.some.inj hx]
      rw [e] at c2
      have hy : y = .string ⟨x.toArray⟩ := by
       generalize hs : AV.s x = ax at c2
       cases c2 <;> cases hs
       rfl
      rw [Nat.add_zero, ← hy]; exact c1
     have hne : ps.reverse.flatten ≠ [] := by rw [g3]; exact dec_ne z
     have htot : ps.flatten.length ≤ 1000000 := by
      have h1 : ps.flatten.length = ps.reverse.flatten.length := by
       simp only [List.length_flatten, List.map_reverse, List.sum_reverse]
      rw [h1, g3]
      have h2 := dlen_w hz
      unfold dec
      rw [if_neg hz0, dtx_len]; omega
     have tl := htail neg ps hne g2 htot a1'.b (a1'.o + 0) a3.b (a3.o + 0) cap' w' hneg' H0.lt H3.lt hcells a'.tmps hsz gd1 gd3
     have ha : a' = ⟨a'.tmps, []⟩ := by
      rcases a' with ⟨tm, df⟩
      simp only at hd
      rw [hd]
     show tail.wp P (bodyPost P fn _) a' w'
     rw [ha]
     refine wp_mono tl ?_
     rintro e a2 w2 ⟨rfl, d2, v2, bl⟩
     refine ⟨d2, _, res_tmp2 hres _ _, ?_, (hbel E).trans ⟨bl.os, bl.tape, bl.output, bl.size, fun k hk => bl.block k (Nat.lt_of_lt_of_le hk E.size)⟩⟩
     rw [v2, g3, htx]
     unfold decI
     cases neg
     ·simp only [Bool.false_eq_true, if_false]
      rw [if_neg (by omega)]
      simp
     ·simp only [if_true]
      rw [if_pos (by omega)]
      simp
 exact orc_below S final (rel_str tx)
end Go.Eng
namespace Go.Eng
theorem prog_mem {f : Nat} {d : XD} (h : prog f = some d) : some d ∈ progL := by
 unfold prog at h
 cases h1 : progL[f]? with
 | none => rw [h1] at h; cases h
 | some x =>
  rw [h1] at h
  cases x with
  | none => cases h
  | some y => cases h; exact List.mem_of_getElem? h1
def dOkD : Option XD → Bool
 | some (.fn xf) => xf.body.dOk xf.n
 | _ => true
theorem dOk_all : progL.all dOkD = true := by kernel_rfl
def isO : Option XD → Bool
 | some (.orc _) => true
 | _ => false
theorem orc_at {f : Nat} {o : List AV → Hp → Option (AV × Hp)} (h : prog f = some (.orc o)) : o = orcA f ∧ (f = 33 ∨ f = 50 ∨ f = 51 ∨ f = 130 ∨ f = 131 ∨ f = 222) := by
 have hf : isO (prog f) = true := by rw [h]; rfl
 have all : (List.range progL.length).all (fun f => !isO (prog f) || (f == 33 || f == 50 || f == 51 || f == 130 || f == 131 || f == 222)) = true := by kernel_rfl
 have hlt : f < progL.length := by
  unfold prog at h
  by_cases q : f < progL.length
  ·exact q
  ·rw [List.getElem?_eq_none (by omega)] at h; cases h
 rw [List.all_eq_true] at all
 have := all f (List.mem_range.2 hlt)
 rw [hf] at this
 simp only [Bool.not_true, Bool.false_or, Bool.or_eq_true, beq_iff_eq] at this
 have hc : f = 33 ∨ f = 50 ∨ f = 51 ∨ f = 130 ∨ f = 131 ∨ f = 222 := by omega
 refine ⟨?_, hc⟩
 rcases hc with rfl | rfl | rfl | rfl | rfl | rfl
 ·first | (have e : prog 33 = some (.orc (orcA 33)) := rfl; rw [e] at h; cases h; rfl) | (have h' : (none : Option XD) = some (.orc o) := h; cases h')
 ·first | (have e : prog 50 = some (.orc (orcA 50)) := rfl; rw [e] at h; cases h; rfl) | (have h' : (none : Option XD) = some (.orc o) := h; cases h')
 ·first | (have e : prog 51 = some (.orc (orcA 51)) := rfl; rw [e] at h; cases h; rfl) | (have h' : (none : Option XD) = some (.orc o) := h; cases h')
 ·first | (have e : prog 130 = some (.orc (orcA 130)) := rfl; rw [e] at h; cases h; rfl) | (have h' : (none : Option XD) = some (.orc o) := h; cases h')
 ·first | (have e : prog 131 = some (.orc (orcA 131)) := rfl; rw [e] at h; cases h; rfl) | (have h' : (none : Option XD) = some (.orc o) := h; cases h')
 ·first | (have e : prog 222 = some (.orc (orcA 222)) := rfl; rw [e] at h; cases h; rfl) | (have h' : (none : Option XD) = some (.orc o) := h; cases h')
theorem e1_prog {f : Nat} {d : XD} (h : E1.prog f = some d) : prog f = some d ∧ f ≠ 33 := by
 have h2 : (if f = 33 then none else prog f) = some d := h
 split at h2
 ·cases h2
 ·rename_i hf; exact ⟨h2, hf⟩
theorem KE0 : PEnvOk E0 where
 fn := fun f xf h => by
  have := dOk_all
  rw [List.all_eq_true] at this
  exact this _ (prog_mem (show prog f = _ from h))
 orc := fun f o h Db r M hp args asv v M' e I hv => by
  obtain ⟨rfl, _⟩ := orc_at (show prog f = _ from h)
  exact orc_V rfl e I hv
theorem KE1 : PEnvOk E1 where
 fn := fun f xf h => by
  have := dOk_all
  rw [List.all_eq_true] at this
  exact this _ (prog_mem (e1_prog h).1)
 orc := fun f o h Db r M hp args asv v M' e I hv => by
  obtain ⟨rfl, _⟩ := orc_at (e1_prog h).1
  exact orc_V rfl e I hv
variable (P : Program) (T : Tab)
def AllOk : List (Option XD) → List (Option FuncId) → Prop
 | some (.fn xf) :: ps, some g :: ks => (∃ fn, P.funcs[g]? = some fn ∧ cFunc P T fn = some xf ∧ xf.body.regsOk = true) ∧ AllOk ps ks
 | _ :: ps, _ :: ks => AllOk ps ks
 | _, _ => True
def AllCal : List (Option FuncId) → Prop
 | some g :: ks => (∃ fn, P.funcs[g]? = some fn ∧ fn.body.isNone = false ∧ (fn.name == "runtime.NumGoroutine") = false) ∧ AllCal ks
 | none :: ks => AllCal ks
 | [] => True
variable {P T}
theorem allOk_at : ∀ {ps : List (Option XD)} {ks : List (Option FuncId)}, AllOk P T ps ks → ∀ {f : Nat} {xf : XF} {g : FuncId}, (ps[f]?).join = some (.fn xf) → (ks[f]?).join = some g → ∃ fn, P.funcs[g]? = some fn ∧ cFunc P T fn = some xf ∧ xf.body.regsOk = true
 | [], _, _, f, xf, g, h1, h2 => by simp at h1
 | p :: ps, [], _, f, xf, g, h1, h2 => by simp at h2
 | p :: ps, k :: ks, h, 0, xf, g, h1, h2 => by
  simp only [List.getElem?_cons_zero, Option.join_some] at h1 h2
  subst h1; subst h2
  exact h.1
 | p :: ps, k :: ks, h, f + 1, xf, g, h1, h2 => by
  simp only [List.getElem?_cons_succ] at h1 h2
  refine allOk_at (ps := ps) (ks := ks) ?_ h1 h2
  match p, k, h with
  | some (.fn xf), some g, h => exact h.2
  | some (.fn xf), none, h => exact h
  | some (.orc _), _, h => exact h
  | none, _, h => exact h
theorem allC_at : ∀ {ks : List (Option FuncId)}, AllCal P ks → ∀ {f : Nat} {g : FuncId}, (ks[f]?).join = some g → ∃ fn, P.funcs[g]? = some fn ∧ fn.body.isNone = false ∧ (fn.name == "runtime.NumGoroutine") = false
 | [], _, f, g, h => by simp at h
 | k :: ks, h, 0, g, h1 => by
  simp only [List.getElem?_cons_zero, Option.join_some] at h1
  subst h1
  exact h.1
 | k :: ks, h, f + 1, g, h1 => by
  simp only [List.getElem?_cons_succ] at h1
  refine allC_at (ks := ks) ?_ h1
  match k, h with
  | some g, h => exact h.2
  | none, h => exact h
theorem lib_good {f : Nat} {args : List AV} {h h' : Hp} {v : AV} (e : orcA f args h = some (v, h')) : HpOk h h' := by
 unfold orcA at e
 split at e
 ·split at e
  ·simp only [Option.map_eq_some_iff, Prod.mk.injEq] at e
   obtain ⟨_, _, _, rfl⟩ := e
   exact .refl h
  ·cases e
 ·split at e
  ·cases e
  ·simp only [Option.map_eq_some_iff, Prod.mk.injEq] at e
   obtain ⟨_, _, _, rfl⟩ := e
   exact .refl h
theorem progOk1 {keyL : List (Option FuncId)} {ρ : Go.Shelf.Ren} {G : Nat} (mixed : P.follows .mixedOrders = true) (hc : AllCal P keyL) (ha : AllOk P T progL keyL) (L : LibOk P ρ (fun f => (keyL[f]?).join) T G) :
  ProgOk P (fun f => (keyL[f]?).join) T E1.prog where
 mixed := mixed
 call := fun f g h => allC_at hc h
 fn := fun f xf g h1 h2 => allOk_at ha (e1_prog h1).1 h2
 good := fun f o args h v h' h1 e => by
  obtain ⟨rfl, _⟩ := orc_at (e1_prog h1).1
  exact lib_good e
 orc := fun f o g h1 hk F args vs h h' v l w e hF TO RL S => by
  obtain ⟨rfl, _⟩ := orc_at (e1_prog h1).1
  exact lib_orc L hk (e1_prog h1).2 e TO RL S
theorem progOk0 {keyL : List (Option FuncId)} {ρ : Go.Shelf.Ren} {G : Nat} (mixed : P.follows .mixedOrders = true) (hc : AllCal P keyL) (ha : AllOk P T progL keyL) (L : LibOk P ρ (fun f => (keyL[f]?).join) T G)
  (str : ∀ {g : Nat}, (keyL[33]?).join = some g → ∀ {F : Nat} {args : List AV} {vs : Array Value} {h h' : Hp} {v : AV} {l : Loc} {w : World}, orcA 33 args h = some (v, h') → TabOk (fun f => (keyL[f]?).join) T l →
   RelL (fun f => (keyL[f]?).join) l args vs.toList → Sim (fun f => (keyL[f]?).join) F l h w → Calls P g vs w fun e w' => ∃ l' val, e = .returned val ∧ Ext l h w l' h' w' ∧ Sim (fun f => (keyL[f]?).join) F l' h' w' ∧ Rel (fun f => (keyL[f]?).join) l' v val) :
  ProgOk P (fun f => (keyL[f]?).join) T E0.prog where
 mixed := mixed
 call := fun f g h => allC_at hc h
 fn := fun f xf g h1 h2 => allOk_at ha (show prog f = _ from h1) h2
 good := fun f o args h v h' h1 e => by
  obtain ⟨rfl, _⟩ := orc_at (show prog f = _ from h1)
  exact lib_good e
 orc := fun f o g h1 hk F args vs h h' v l w e hF TO RL S => by
  obtain ⟨rfl, hf⟩ := orc_at (show prog f = _ from h1)
  by_cases h33 : f = 33
  ·subst h33
   exact str hk e TO RL S
  ·exact lib_orc L hk h33 e TO RL S
end Go.Eng
namespace Go.Proofs
open Go.Eng
def Tryz.keyL : List (Option FuncId) := [none, none, some 12, some 26, some 67, some 15, some 8, some 17, some 19, some 18, some 16, some 20, none, some 40, some 24, some 44, some 32, some 48, some 49, some 50, some 51, some 52, some 55, some 53, some 54, some 43, some 45, some 46, some 47, some 56, some 57, some 58, some 41, some 68, some 79, some 80, some 81, some 82, some 83, some 88, some 84, some 85, some 86, some 87, some 77, some 78, some 75, some 76, some 101, some 102, some 103, some 104, none, none, none, some 125, some 126, some 127, some 128, some 129, some 130, some 131, some 132, some 120, some 121, some 122, some 123, some 28, some 124, some 119, none, none, none, none, none, none, some 151, some 152, some 153, some 154, some 149, some 150, none, none, none, some 168, none, none, none, none, none, none, none, none, none, none, none, none, none, none, none, none, none, none, none, none, none, some 69, none, none, some 93, none, none, none, some 70, none, none, some 140, some 111, some 115, some 114, none, none, some 95, some 94, some 113, some 116, some 108, some 96, some 135, some 136, some 137, some 109, some 148, some 138, some 147, some 146, some 156, none, none, none, none, none, none, none, none, none, some 173, some 171, some 172, none, none, none, none, none, none, none, none, none, some 192, none, none, none, none, none, none, none, none, none, none, none, none, none, none, none, none, none, none, none, none, none, none, some 110, none, none, some 34, none, none, some 166, none, some 72, some 139, some 71, some 73, none, none, some 33, some 63, none, some 98, some 99, none, none, none, none, none, none, none, some 112, some 92, none, none, none, none, none, none, some 134, none, none, none, none, none, some 155, none, none, none, none, none, none, none, none, none, none, some 7, none, none, none, none, none, none, none, none, some 23, some 25, none, none, none, none, none, none, none, some 29, some 30, some 31, some 35, some 36, some 37, none, none, none, none, none, none, none, none, none, none, none, none, none, none, none, none, none, some 62, some 64, some 65, some 66, none, none, none, none, none, none, none, none, none, some 97, some 100, none, none, none, none, none, none, none, none, none, none, none, none, none, none, none, none, none, none, none, none, none, none, none, none, none, none, none, none, none, none, none, none, none, none, none, none, none, none, none, none, none, none, none, none, none, none, none, none, none, none, none, none, none, none, none, none, none, none, none, none, none, none, none, none, none, none, none, none, none, none, none, none, none, none, none, none, none, none, none, none, none, none, none, none, none, none, none, none, none, none, none, none, none, none, none, none, none, none, none]
def Tryz.fkeyL : List (Option Nat) := [none, none, none, none, none, none, none, some 233, some 6, none, none, none, some 2, none, none, some 5, some 10, some 7, some 9, some 8, some 11, none, none, some 242, some 14, some 243, some 3, none, some 67, some 251, some 252, some 253, some 16, some 196, some 185, some 254, some 255, some 256, none, none, some 13, some 32, none, some 25, some 15, some 26, some 27, some 28, some 17, some 18, some 19, some 20, some 21, some 23, some 24, some 22, some 29, some 30, some 31, none, none, none, some 274, some 197, some 275, some 276, some 277, some 4, some 33, some 107, some 114, some 192, some 190, some 193, none, some 46, some 47, some 44, some 45, some 34, some 35, some 36, some 37, some 38, some 40, some 41, some 42, some 43, some 39, none, none, none, some 209, some 110, some 124, some 123, some 128, some 287, some 199, some 200, some 288, some 48, some 49, some 50, some 51, none, none, none, some 127, some 132, some 182, some 118, some 208, some 125, some 120, some 119, some 126, none, none, some 69, some 63, some 64, some 65, some 66, some 68, some 55, some 56, some 57, some 58, some 59, some 60, some 61, some 62, none, some 216, some 129, some 130, some 131, some 134, some 191, some 117, none, none, none, none, none, some 136, some 135, some 133, some 80, some 81, some 76, some 77, some 78, some 79, some 222, some 137, none, none, none, none, none, none, none, none, none, some 188, none, some 85, none, none, some 148, some 149, some 147, none, none, none, none, none, none, none, none, none, none, none, none, none, none, none, none, none, none, some 159]
def Tryz.T : Tab := { fkey := fun f => (Tryz.fkeyL[f]?).join, gkey := fun g => if g = 3 then some 0 else none }
abbrev OkC (p : Program) (n : Nat) : Prop := ∃ fn, p.funcs[n]? = some fn ∧ fn.body.isNone = false ∧ (fn.name == "runtime.NumGoroutine") = false
abbrev OkF (p : Program) (T : Tab) (n : Nat) (x : XF) : Prop := ∃ fn, p.funcs[n]? = some fn ∧ cFunc p T fn = some x ∧ x.body.regsOk = true
theorem Tryz.okc2 : OkC Tryz.prog 12 := ⟨_, Tryz.func12, by kernel_rfl, by kernel_rfl⟩
theorem Tryz.okc3 : OkC Tryz.prog 26 := ⟨_, Tryz.func26, by kernel_rfl, by kernel_rfl⟩
theorem Tryz.okc4 : OkC Tryz.prog 67 := ⟨_, Tryz.func67, by kernel_rfl, by kernel_rfl⟩
theorem Tryz.okc5 : OkC Tryz.prog 15 := ⟨_, Tryz.func15, by kernel_rfl, by kernel_rfl⟩
theorem Tryz.okc6 : OkC Tryz.prog 8 := ⟨_, Tryz.func8, by kernel_rfl, by kernel_rfl⟩
theorem Tryz.okc7 : OkC Tryz.prog 17 := ⟨_, Tryz.func17, by kernel_rfl, by kernel_rfl⟩
theorem Tryz.okc8 : OkC Tryz.prog 19 := ⟨_, Tryz.func19, by kernel_rfl, by kernel_rfl⟩
theorem Tryz.okc9 : OkC Tryz.prog 18 := ⟨_, Tryz.func18, by kernel_rfl, by kernel_rfl⟩
theorem Tryz.okc10 : OkC Tryz.prog 16 := ⟨_, Tryz.func16, by kernel_rfl, by kernel_rfl⟩
theorem Tryz.okc11 : OkC Tryz.prog 20 := ⟨_, Tryz.func20, by kernel_rfl, by kernel_rfl⟩
theorem Tryz.okc13 : OkC Tryz.prog 40 := ⟨_, Tryz.func40, by kernel_rfl, by kernel_rfl⟩
theorem Tryz.okc14 : OkC Tryz.prog 24 := ⟨_, Tryz.func24, by kernel_rfl, by kernel_rfl⟩
theorem Tryz.okc15 : OkC Tryz.prog 44 := ⟨_, Tryz.func44, by kernel_rfl, by kernel_rfl⟩
theorem Tryz.okc16 : OkC Tryz.prog 32 := ⟨_, Tryz.func32, by kernel_rfl, by kernel_rfl⟩
theorem Tryz.okc17 : OkC Tryz.prog 48 := ⟨_, Tryz.func48, by kernel_rfl, by kernel_rfl⟩
theorem Tryz.okc18 : OkC Tryz.prog 49 := ⟨_, Tryz.func49, by kernel_rfl, by kernel_rfl⟩
theorem Tryz.okc19 : OkC Tryz.prog 50 := ⟨_, Tryz.func50, by kernel_rfl, by kernel_rfl⟩
theorem Tryz.okc20 : OkC Tryz.prog 51 := ⟨_, Tryz.func51, by kernel_rfl, by kernel_rfl⟩
theorem Tryz.okc21 : OkC Tryz.prog 52 := ⟨_, Tryz.func52, by kernel_rfl, by kernel_rfl⟩
theorem Tryz.okc22 : OkC Tryz.prog 55 := ⟨_, Tryz.func55, by kernel_rfl, by kernel_rfl⟩
theorem Tryz.okc23 : OkC Tryz.prog 53 := ⟨_, Tryz.func53, by kernel_rfl, by kernel_rfl⟩
theorem Tryz.okc24 : OkC Tryz.prog 54 := ⟨_, Tryz.func54, by kernel_rfl, by kernel_rfl⟩
theorem Tryz.okc25 : OkC Tryz.prog 43 := ⟨_, Tryz.func43, by kernel_rfl, by kernel_rfl⟩
theorem Tryz.okc26 : OkC Tryz.prog 45 := ⟨_, Tryz.func45, by kernel_rfl, by kernel_rfl⟩
theorem Tryz.okc27 : OkC Tryz.prog 46 := ⟨_, Tryz.func46, by kernel_rfl, by kernel_rfl⟩
theorem Tryz.okc28 : OkC Tryz.prog 47 := ⟨_, Tryz.func47, by kernel_rfl, by kernel_rfl⟩
theorem Tryz.okc29 : OkC Tryz.prog 56 := ⟨_, Tryz.func56, by kernel_rfl, by kernel_rfl⟩
theorem Tryz.okc30 : OkC Tryz.prog 57 := ⟨_, Tryz.func57, by kernel_rfl, by kernel_rfl⟩
theorem Tryz.okc31 : OkC Tryz.prog 58 := ⟨_, Tryz.func58, by kernel_rfl, by kernel_rfl⟩
theorem Tryz.okc32 : OkC Tryz.prog 41 := ⟨_, Tryz.func41, by kernel_rfl, by kernel_rfl⟩
theorem Tryz.okc33 : OkC Tryz.prog 68 := ⟨_, Tryz.func68, by kernel_rfl, by kernel_rfl⟩
theorem Tryz.okc34 : OkC Tryz.prog 79 := ⟨_, Tryz.func79, by kernel_rfl, by kernel_rfl⟩
theorem Tryz.okc35 : OkC Tryz.prog 80 := ⟨_, Tryz.func80, by kernel_rfl, by kernel_rfl⟩
theorem Tryz.okc36 : OkC Tryz.prog 81 := ⟨_, Tryz.func81, by kernel_rfl, by kernel_rfl⟩
theorem Tryz.okc37 : OkC Tryz.prog 82 := ⟨_, Tryz.func82, by kernel_rfl, by kernel_rfl⟩
theorem Tryz.okc38 : OkC Tryz.prog 83 := ⟨_, Tryz.func83, by kernel_rfl, by kernel_rfl⟩
theorem Tryz.okc39 : OkC Tryz.prog 88 := ⟨_, Tryz.func88, by kernel_rfl, by kernel_rfl⟩
theorem Tryz.okc40 : OkC Tryz.prog 84 := ⟨_, Tryz.func84, by kernel_rfl, by kernel_rfl⟩
theorem Tryz.okc41 : OkC Tryz.prog 85 := ⟨_, Tryz.func85, by kernel_rfl, by kernel_rfl⟩
theorem Tryz.okc42 : OkC Tryz.prog 86 := ⟨_, Tryz.func86, by kernel_rfl, by kernel_rfl⟩
theorem Tryz.okc43 : OkC Tryz.prog 87 := ⟨_, Tryz.func87, by kernel_rfl, by kernel_rfl⟩
theorem Tryz.okc44 : OkC Tryz.prog 77 := ⟨_, Tryz.func77, by kernel_rfl, by kernel_rfl⟩
theorem Tryz.okc45 : OkC Tryz.prog 78 := ⟨_, Tryz.func78, by kernel_rfl, by kernel_rfl⟩
theorem Tryz.okc46 : OkC Tryz.prog 75 := ⟨_, Tryz.func75, by kernel_rfl, by kernel_rfl⟩
theorem Tryz.okc47 : OkC Tryz.prog 76 := ⟨_, Tryz.func76, by kernel_rfl, by kernel_rfl⟩
theorem Tryz.okc48 : OkC Tryz.prog 101 := ⟨_, Tryz.func101, by kernel_rfl, by kernel_rfl⟩
theorem Tryz.okc49 : OkC Tryz.prog 102 := ⟨_, Tryz.func102, by kernel_rfl, by kernel_rfl⟩
theorem Tryz.okc50 : OkC Tryz.prog 103 := ⟨_, Tryz.func103, by kernel_rfl, by kernel_rfl⟩
theorem Tryz.okc51 : OkC Tryz.prog 104 := ⟨_, Tryz.func104, by kernel_rfl, by kernel_rfl⟩
theorem Tryz.okc55 : OkC Tryz.prog 125 := ⟨_, Tryz.func125, by kernel_rfl, by kernel_rfl⟩
theorem Tryz.okc56 : OkC Tryz.prog 126 := ⟨_, Tryz.func126, by kernel_rfl, by kernel_rfl⟩
theorem Tryz.okc57 : OkC Tryz.prog 127 := ⟨_, Tryz.func127, by kernel_rfl, by kernel_rfl⟩
theorem Tryz.okc58 : OkC Tryz.prog 128 := ⟨_, Tryz.func128, by kernel_rfl, by kernel_rfl⟩
theorem Tryz.okc59 : OkC Tryz.prog 129 := ⟨_, Tryz.func129, by kernel_rfl, by kernel_rfl⟩
theorem Tryz.okc60 : OkC Tryz.prog 130 := ⟨_, Tryz.func130, by kernel_rfl, by kernel_rfl⟩
theorem Tryz.okc61 : OkC Tryz.prog 131 := ⟨_, Tryz.func131, by kernel_rfl, by kernel_rfl⟩
theorem Tryz.okc62 : OkC Tryz.prog 132 := ⟨_, Tryz.func132, by kernel_rfl, by kernel_rfl⟩
theorem Tryz.okc63 : OkC Tryz.prog 120 := ⟨_, Tryz.func120, by kernel_rfl, by kernel_rfl⟩
theorem Tryz.okc64 : OkC Tryz.prog 121 := ⟨_, Tryz.func121, by kernel_rfl, by kernel_rfl⟩
theorem Tryz.okc65 : OkC Tryz.prog 122 := ⟨_, Tryz.func122, by kernel_rfl, by kernel_rfl⟩
theorem Tryz.okc66 : OkC Tryz.prog 123 := ⟨_, Tryz.func123, by kernel_rfl, by kernel_rfl⟩
theorem Tryz.okc67 : OkC Tryz.prog 28 := ⟨_, Tryz.func28, by kernel_rfl, by kernel_rfl⟩
theorem Tryz.okc68 : OkC Tryz.prog 124 := ⟨_, Tryz.func124, by kernel_rfl, by kernel_rfl⟩
theorem Tryz.okc69 : OkC Tryz.prog 119 := ⟨_, Tryz.func119, by kernel_rfl, by kernel_rfl⟩
theorem Tryz.okc76 : OkC Tryz.prog 151 := ⟨_, Tryz.func151, by kernel_rfl, by kernel_rfl⟩
theorem Tryz.okc77 : OkC Tryz.prog 152 := ⟨_, Tryz.func152, by kernel_rfl, by kernel_rfl⟩
theorem Tryz.okc78 : OkC Tryz.prog 153 := ⟨_, Tryz.func153, by kernel_rfl, by kernel_rfl⟩
theorem Tryz.okc79 : OkC Tryz.prog 154 := ⟨_, Tryz.func154, by kernel_rfl, by kernel_rfl⟩
theorem Tryz.okc80 : OkC Tryz.prog 149 := ⟨_, Tryz.func149, by kernel_rfl, by kernel_rfl⟩
theorem Tryz.okc81 : OkC Tryz.prog 150 := ⟨_, Tryz.func150, by kernel_rfl, by kernel_rfl⟩
theorem Tryz.okc85 : OkC Tryz.prog 168 := ⟨_, Tryz.func168, by kernel_rfl, by kernel_rfl⟩
theorem Tryz.okc107 : OkC Tryz.prog 69 := ⟨_, Tryz.func69, by kernel_rfl, by kernel_rfl⟩
theorem Tryz.okc110 : OkC Tryz.prog 93 := ⟨_, Tryz.func93, by kernel_rfl, by kernel_rfl⟩
theorem Tryz.okc114 : OkC Tryz.prog 70 := ⟨_, Tryz.func70, by kernel_rfl, by kernel_rfl⟩
theorem Tryz.okc117 : OkC Tryz.prog 140 := ⟨_, Tryz.func140, by kernel_rfl, by kernel_rfl⟩
theorem Tryz.okc118 : OkC Tryz.prog 111 := ⟨_, Tryz.func111, by kernel_rfl, by kernel_rfl⟩
theorem Tryz.okc119 : OkC Tryz.prog 115 := ⟨_, Tryz.func115, by kernel_rfl, by kernel_rfl⟩
theorem Tryz.okc120 : OkC Tryz.prog 114 := ⟨_, Tryz.func114, by kernel_rfl, by kernel_rfl⟩
theorem Tryz.okc123 : OkC Tryz.prog 95 := ⟨_, Tryz.func95, by kernel_rfl, by kernel_rfl⟩
theorem Tryz.okc124 : OkC Tryz.prog 94 := ⟨_, Tryz.func94, by kernel_rfl, by kernel_rfl⟩
theorem Tryz.okc125 : OkC Tryz.prog 113 := ⟨_, Tryz.func113, by kernel_rfl, by kernel_rfl⟩
theorem Tryz.okc126 : OkC Tryz.prog 116 := ⟨_, Tryz.func116, by kernel_rfl, by kernel_rfl⟩
theorem Tryz.okc127 : OkC Tryz.prog 108 := ⟨_, Tryz.func108, by kernel_rfl, by kernel_rfl⟩
theorem Tryz.okc128 : OkC Tryz.prog 96 := ⟨_, Tryz.func96, by kernel_rfl, by kernel_rfl⟩
theorem Tryz.okc129 : OkC Tryz.prog 135 := ⟨_, Tryz.func135, by kernel_rfl, by kernel_rfl⟩
theorem Tryz.okc130 : OkC Tryz.prog 136 := ⟨_, Tryz.func136, by kernel_rfl, by kernel_rfl⟩
theorem Tryz.okc131 : OkC Tryz.prog 137 := ⟨_, Tryz.func137, by kernel_rfl, by kernel_rfl⟩
theorem Tryz.okc132 : OkC Tryz.prog 109 := ⟨_, Tryz.func109, by kernel_rfl, by kernel_rfl⟩
theorem Tryz.okc133 : OkC Tryz.prog 148 := ⟨_, Tryz.func148, by kernel_rfl, by kernel_rfl⟩
theorem Tryz.okc134 : OkC Tryz.prog 138 := ⟨_, Tryz.func138, by kernel_rfl, by kernel_rfl⟩
theorem Tryz.okc135 : OkC Tryz.prog 147 := ⟨_, Tryz.func147, by kernel_rfl, by kernel_rfl⟩
theorem Tryz.okc136 : OkC Tryz.prog 146 := ⟨_, Tryz.func146, by kernel_rfl, by kernel_rfl⟩
theorem Tryz.okc137 : OkC Tryz.prog 156 := ⟨_, Tryz.func156, by kernel_rfl, by kernel_rfl⟩
theorem Tryz.okc147 : OkC Tryz.prog 173 := ⟨_, Tryz.func173, by kernel_rfl, by kernel_rfl⟩
theorem Tryz.okc148 : OkC Tryz.prog 171 := ⟨_, Tryz.func171, by kernel_rfl, by kernel_rfl⟩
theorem Tryz.okc149 : OkC Tryz.prog 172 := ⟨_, Tryz.func172, by kernel_rfl, by kernel_rfl⟩
theorem Tryz.okc159 : OkC Tryz.prog 192 := ⟨_, Tryz.func192, by kernel_rfl, by kernel_rfl⟩
theorem Tryz.okc182 : OkC Tryz.prog 110 := ⟨_, Tryz.func110, by kernel_rfl, by kernel_rfl⟩
theorem Tryz.okc185 : OkC Tryz.prog 34 := ⟨_, Tryz.func34, by kernel_rfl, by kernel_rfl⟩
theorem Tryz.okc188 : OkC Tryz.prog 166 := ⟨_, Tryz.func166, by kernel_rfl, by kernel_rfl⟩
theorem Tryz.okc190 : OkC Tryz.prog 72 := ⟨_, Tryz.func72, by kernel_rfl, by kernel_rfl⟩
theorem Tryz.okc191 : OkC Tryz.prog 139 := ⟨_, Tryz.func139, by kernel_rfl, by kernel_rfl⟩
theorem Tryz.okc192 : OkC Tryz.prog 71 := ⟨_, Tryz.func71, by kernel_rfl, by kernel_rfl⟩
theorem Tryz.okc193 : OkC Tryz.prog 73 := ⟨_, Tryz.func73, by kernel_rfl, by kernel_rfl⟩
theorem Tryz.okc196 : OkC Tryz.prog 33 := ⟨_, Tryz.func33, by kernel_rfl, by kernel_rfl⟩
theorem Tryz.okc197 : OkC Tryz.prog 63 := ⟨_, Tryz.func63, by kernel_rfl, by kernel_rfl⟩
theorem Tryz.okc199 : OkC Tryz.prog 98 := ⟨_, Tryz.func98, by kernel_rfl, by kernel_rfl⟩
theorem Tryz.okc200 : OkC Tryz.prog 99 := ⟨_, Tryz.func99, by kernel_rfl, by kernel_rfl⟩
theorem Tryz.okc208 : OkC Tryz.prog 112 := ⟨_, Tryz.func112, by kernel_rfl, by kernel_rfl⟩
theorem Tryz.okc209 : OkC Tryz.prog 92 := ⟨_, Tryz.func92, by kernel_rfl, by kernel_rfl⟩
theorem Tryz.okc216 : OkC Tryz.prog 134 := ⟨_, Tryz.func134, by kernel_rfl, by kernel_rfl⟩
theorem Tryz.okc222 : OkC Tryz.prog 155 := ⟨_, Tryz.func155, by kernel_rfl, by kernel_rfl⟩
theorem Tryz.okc233 : OkC Tryz.prog 7 := ⟨_, Tryz.func7, by kernel_rfl, by kernel_rfl⟩
theorem Tryz.okc242 : OkC Tryz.prog 23 := ⟨_, Tryz.func23, by kernel_rfl, by kernel_rfl⟩
theorem Tryz.okc243 : OkC Tryz.prog 25 := ⟨_, Tryz.func25, by kernel_rfl, by kernel_rfl⟩
theorem Tryz.okc251 : OkC Tryz.prog 29 := ⟨_, Tryz.func29, by kernel_rfl, by kernel_rfl⟩
theorem Tryz.okc252 : OkC Tryz.prog 30 := ⟨_, Tryz.func30, by kernel_rfl, by kernel_rfl⟩
theorem Tryz.okc253 : OkC Tryz.prog 31 := ⟨_, Tryz.func31, by kernel_rfl, by kernel_rfl⟩
theorem Tryz.okc254 : OkC Tryz.prog 35 := ⟨_, Tryz.func35, by kernel_rfl, by kernel_rfl⟩
theorem Tryz.okc255 : OkC Tryz.prog 36 := ⟨_, Tryz.func36, by kernel_rfl, by kernel_rfl⟩
theorem Tryz.okc256 : OkC Tryz.prog 37 := ⟨_, Tryz.func37, by kernel_rfl, by kernel_rfl⟩
theorem Tryz.okc274 : OkC Tryz.prog 62 := ⟨_, Tryz.func62, by kernel_rfl, by kernel_rfl⟩
theorem Tryz.okc275 : OkC Tryz.prog 64 := ⟨_, Tryz.func64, by kernel_rfl, by kernel_rfl⟩
theorem Tryz.okc276 : OkC Tryz.prog 65 := ⟨_, Tryz.func65, by kernel_rfl, by kernel_rfl⟩
theorem Tryz.okc277 : OkC Tryz.prog 66 := ⟨_, Tryz.func66, by kernel_rfl, by kernel_rfl⟩
theorem Tryz.okc287 : OkC Tryz.prog 97 := ⟨_, Tryz.func97, by kernel_rfl, by kernel_rfl⟩
theorem Tryz.okc288 : OkC Tryz.prog 100 := ⟨_, Tryz.func100, by kernel_rfl, by kernel_rfl⟩
theorem Tryz.okf2 : OkF Tryz.prog Tryz.T 12 x_r10_Terrain := ⟨_, Tryz.func12, by kernel_rfl, by kernel_rfl⟩
theorem Tryz.okf3 : OkF Tryz.prog Tryz.T 26 x_terrain_Form := ⟨_, Tryz.func26, by kernel_rfl, by kernel_rfl⟩
theorem Tryz.okf4 : OkF Tryz.prog Tryz.T 67 x_r10_Form := ⟨_, Tryz.func67, by kernel_rfl, by kernel_rfl⟩
theorem Tryz.okf5 : OkF Tryz.prog Tryz.T 15 x_l10_lives := ⟨_, Tryz.func15, by kernel_rfl, by kernel_rfl⟩
theorem Tryz.okf6 : OkF Tryz.prog Tryz.T 8 x_r01_Around := ⟨_, Tryz.func8, by kernel_rfl, by kernel_rfl⟩
theorem Tryz.okf7 : OkF Tryz.prog Tryz.T 17 x_l10_of := ⟨_, Tryz.func17, by kernel_rfl, by kernel_rfl⟩
theorem Tryz.okf8 : OkF Tryz.prog Tryz.T 19 x_frac_Mul := ⟨_, Tryz.func19, by kernel_rfl, by kernel_rfl⟩
theorem Tryz.okf9 : OkF Tryz.prog Tryz.T 18 x_frac_Add := ⟨_, Tryz.func18, by kernel_rfl, by kernel_rfl⟩
theorem Tryz.okf10 : OkF Tryz.prog Tryz.T 16 x_terrain_Height := ⟨_, Tryz.func16, by kernel_rfl, by kernel_rfl⟩
theorem Tryz.okf11 : OkF Tryz.prog Tryz.T 20 x_frac_Compare := ⟨_, Tryz.func20, by kernel_rfl, by kernel_rfl⟩
theorem Tryz.okf13 : OkF Tryz.prog Tryz.T 40 x_r01_Pick := ⟨_, Tryz.func40, by kernel_rfl, by kernel_rfl⟩
theorem Tryz.okf14 : OkF Tryz.prog Tryz.T 24 x_terrain_Valid := ⟨_, Tryz.func24, by kernel_rfl, by kernel_rfl⟩
theorem Tryz.okf15 : OkF Tryz.prog Tryz.T 44 x_terrain_form := ⟨_, Tryz.func44, by kernel_rfl, by kernel_rfl⟩
theorem Tryz.okf16 : OkF Tryz.prog Tryz.T 32 x__skymosaic_frac_Frac__String := ⟨_, Tryz.func32, by kernel_rfl, by kernel_rfl⟩
theorem Tryz.okf17 : OkF Tryz.prog Tryz.T 48 x_frac_Of := ⟨_, Tryz.func48, by kernel_rfl, by kernel_rfl⟩
theorem Tryz.okf18 : OkF Tryz.prog Tryz.T 49 x_wide_Gcd := ⟨_, Tryz.func49, by kernel_rfl, by kernel_rfl⟩
theorem Tryz.okf19 : OkF Tryz.prog Tryz.T 50 x__skymosaic_frac_Frac__Den := ⟨_, Tryz.func50, by kernel_rfl, by kernel_rfl⟩
theorem Tryz.okf20 : OkF Tryz.prog Tryz.T 51 x_frac_times := ⟨_, Tryz.func51, by kernel_rfl, by kernel_rfl⟩
theorem Tryz.okf21 : OkF Tryz.prog Tryz.T 52 x_frac_over := ⟨_, Tryz.func52, by kernel_rfl, by kernel_rfl⟩
theorem Tryz.okf22 : OkF Tryz.prog Tryz.T 55 x_frac_lowest := ⟨_, Tryz.func55, by kernel_rfl, by kernel_rfl⟩
theorem Tryz.okf23 : OkF Tryz.prog Tryz.T 53 x_wide_Add := ⟨_, Tryz.func53, by kernel_rfl, by kernel_rfl⟩
theorem Tryz.okf24 : OkF Tryz.prog Tryz.T 54 x_frac_Make := ⟨_, Tryz.func54, by kernel_rfl, by kernel_rfl⟩
theorem Tryz.okf25 : OkF Tryz.prog Tryz.T 43 x_terrain_find := ⟨_, Tryz.func43, by kernel_rfl, by kernel_rfl⟩
theorem Tryz.okf26 : OkF Tryz.prog Tryz.T 45 x_terrain_add := ⟨_, Tryz.func45, by kernel_rfl, by kernel_rfl⟩
theorem Tryz.okf27 : OkF Tryz.prog Tryz.T 46 x_terrain_whole := ⟨_, Tryz.func46, by kernel_rfl, by kernel_rfl⟩
theorem Tryz.okf28 : OkF Tryz.prog Tryz.T 47 x_terrain_mul := ⟨_, Tryz.func47, by kernel_rfl, by kernel_rfl⟩
theorem Tryz.okf29 : OkF Tryz.prog Tryz.T 56 x_wide_Div := ⟨_, Tryz.func56, by kernel_rfl, by kernel_rfl⟩
theorem Tryz.okf30 : OkF Tryz.prog Tryz.T 57 x_wide_Compare := ⟨_, Tryz.func57, by kernel_rfl, by kernel_rfl⟩
theorem Tryz.okf31 : OkF Tryz.prog Tryz.T 58 x_wide_Sign := ⟨_, Tryz.func58, by kernel_rfl, by kernel_rfl⟩
theorem Tryz.okf32 : OkF Tryz.prog Tryz.T 41 x_terrain_within := ⟨_, Tryz.func41, by kernel_rfl, by kernel_rfl⟩
theorem Tryz.okf34 : OkF Tryz.prog Tryz.T 79 x_wide_From := ⟨_, Tryz.func79, by kernel_rfl, by kernel_rfl⟩
theorem Tryz.okf35 : OkF Tryz.prog Tryz.T 80 x_wide_divide := ⟨_, Tryz.func80, by kernel_rfl, by kernel_rfl⟩
theorem Tryz.okf36 : OkF Tryz.prog Tryz.T 81 x_wide_signed := ⟨_, Tryz.func81, by kernel_rfl, by kernel_rfl⟩
theorem Tryz.okf37 : OkF Tryz.prog Tryz.T 82 x_frac_must := ⟨_, Tryz.func82, by kernel_rfl, by kernel_rfl⟩
theorem Tryz.okf38 : OkF Tryz.prog Tryz.T 83 x_wide_Mul := ⟨_, Tryz.func83, by kernel_rfl, by kernel_rfl⟩
theorem Tryz.okf39 : OkF Tryz.prog Tryz.T 88 x_wide_Sub := ⟨_, Tryz.func88, by kernel_rfl, by kernel_rfl⟩
theorem Tryz.okf40 : OkF Tryz.prog Tryz.T 84 x_wide_sum := ⟨_, Tryz.func84, by kernel_rfl, by kernel_rfl⟩
theorem Tryz.okf41 : OkF Tryz.prog Tryz.T 85 x_wide_compare := ⟨_, Tryz.func85, by kernel_rfl, by kernel_rfl⟩
theorem Tryz.okf42 : OkF Tryz.prog Tryz.T 86 x_wide_difference := ⟨_, Tryz.func86, by kernel_rfl, by kernel_rfl⟩
theorem Tryz.okf43 : OkF Tryz.prog Tryz.T 87 x_wide_Neg := ⟨_, Tryz.func87, by kernel_rfl, by kernel_rfl⟩
theorem Tryz.okf44 : OkF Tryz.prog Tryz.T 77 x_poly_Digits := ⟨_, Tryz.func77, by kernel_rfl, by kernel_rfl⟩
theorem Tryz.okf45 : OkF Tryz.prog Tryz.T 78 x_terrain_place := ⟨_, Tryz.func78, by kernel_rfl, by kernel_rfl⟩
theorem Tryz.okf46 : OkF Tryz.prog Tryz.T 75 x_slices_ContainsFunc___int_int_ := ⟨_, Tryz.func75, by kernel_rfl, by kernel_rfl⟩
theorem Tryz.okf47 : OkF Tryz.prog Tryz.T 76 x_terrain_within_1 := ⟨_, Tryz.func76, by kernel_rfl, by kernel_rfl⟩
theorem Tryz.okf48 : OkF Tryz.prog Tryz.T 101 x_wide_short := ⟨_, Tryz.func101, by kernel_rfl, by kernel_rfl⟩
theorem Tryz.okf49 : OkF Tryz.prog Tryz.T 102 x_wide_normal := ⟨_, Tryz.func102, by kernel_rfl, by kernel_rfl⟩
theorem Tryz.okf55 : OkF Tryz.prog Tryz.T 125 x_math_bits_LeadingZeros32 := ⟨_, Tryz.func125, by kernel_rfl, by kernel_rfl⟩
theorem Tryz.okf56 : OkF Tryz.prog Tryz.T 126 x_wide_shifted := ⟨_, Tryz.func126, by kernel_rfl, by kernel_rfl⟩
theorem Tryz.okf57 : OkF Tryz.prog Tryz.T 127 x_wide_take := ⟨_, Tryz.func127, by kernel_rfl, by kernel_rfl⟩
theorem Tryz.okf58 : OkF Tryz.prog Tryz.T 128 x_wide_carrier := ⟨_, Tryz.func128, by kernel_rfl, by kernel_rfl⟩
theorem Tryz.okf59 : OkF Tryz.prog Tryz.T 129 x_wide_times := ⟨_, Tryz.func129, by kernel_rfl, by kernel_rfl⟩
theorem Tryz.okf60 : OkF Tryz.prog Tryz.T 130 x_cmp_Compare_int_ := ⟨_, Tryz.func130, by kernel_rfl, by kernel_rfl⟩
theorem Tryz.okf61 : OkF Tryz.prog Tryz.T 131 x_cmp_Compare_uint32_ := ⟨_, Tryz.func131, by kernel_rfl, by kernel_rfl⟩
theorem Tryz.okf62 : OkF Tryz.prog Tryz.T 132 x_wide_subtract := ⟨_, Tryz.func132, by kernel_rfl, by kernel_rfl⟩
theorem Tryz.okf63 : OkF Tryz.prog Tryz.T 120 x_poly_digits := ⟨_, Tryz.func120, by kernel_rfl, by kernel_rfl⟩
theorem Tryz.okf64 : OkF Tryz.prog Tryz.T 121 x__skymosaic_frac_Frac__Num := ⟨_, Tryz.func121, by kernel_rfl, by kernel_rfl⟩
theorem Tryz.okf65 : OkF Tryz.prog Tryz.T 122 x_frac_Div := ⟨_, Tryz.func122, by kernel_rfl, by kernel_rfl⟩
theorem Tryz.okf66 : OkF Tryz.prog Tryz.T 123 x_terrain_sub := ⟨_, Tryz.func123, by kernel_rfl, by kernel_rfl⟩
theorem Tryz.okf67 : OkF Tryz.prog Tryz.T 28 x_frac_Sign := ⟨_, Tryz.func28, by kernel_rfl, by kernel_rfl⟩
theorem Tryz.okf68 : OkF Tryz.prog Tryz.T 124 x_terrain_floor := ⟨_, Tryz.func124, by kernel_rfl, by kernel_rfl⟩
theorem Tryz.okf69 : OkF Tryz.prog Tryz.T 119 x_slices_IndexFunc___int_int_ := ⟨_, Tryz.func119, by kernel_rfl, by kernel_rfl⟩
theorem Tryz.okf76 : OkF Tryz.prog Tryz.T 151 x_math_bits_Len32 := ⟨_, Tryz.func151, by kernel_rfl, by kernel_rfl⟩
theorem Tryz.okf77 : OkF Tryz.prog Tryz.T 152 x_wide_carrier_1 := ⟨_, Tryz.func152, by kernel_rfl, by kernel_rfl⟩
theorem Tryz.okf78 : OkF Tryz.prog Tryz.T 153 x_cmp_isNaN_int_ := ⟨_, Tryz.func153, by kernel_rfl, by kernel_rfl⟩
theorem Tryz.okf79 : OkF Tryz.prog Tryz.T 154 x_cmp_isNaN_uint32_ := ⟨_, Tryz.func154, by kernel_rfl, by kernel_rfl⟩
theorem Tryz.okf80 : OkF Tryz.prog Tryz.T 149 x__skymosaic_wide_Int__Small := ⟨_, Tryz.func149, by kernel_rfl, by kernel_rfl⟩
theorem Tryz.okf81 : OkF Tryz.prog Tryz.T 150 x_frac_Sub := ⟨_, Tryz.func150, by kernel_rfl, by kernel_rfl⟩
theorem Tryz.okf85 : OkF Tryz.prog Tryz.T 168 x_internal_stringslite_HasPrefix := ⟨_, Tryz.func168, by kernel_rfl, by kernel_rfl⟩
theorem Tryz.okf107 : OkF Tryz.prog Tryz.T 69 x_r03_Text := ⟨_, Tryz.func69, by kernel_rfl, by kernel_rfl⟩
theorem Tryz.okf110 : OkF Tryz.prog Tryz.T 93 x_wide_Parse := ⟨_, Tryz.func93, by kernel_rfl, by kernel_rfl⟩
theorem Tryz.okf114 : OkF Tryz.prog Tryz.T 70 x_r03_Of := ⟨_, Tryz.func70, by kernel_rfl, by kernel_rfl⟩
theorem Tryz.okf117 : OkF Tryz.prog Tryz.T 140 x_r03_Small := ⟨_, Tryz.func140, by kernel_rfl, by kernel_rfl⟩
theorem Tryz.okf118 : OkF Tryz.prog Tryz.T 111 x_r03_Mul := ⟨_, Tryz.func111, by kernel_rfl, by kernel_rfl⟩
theorem Tryz.okf119 : OkF Tryz.prog Tryz.T 115 x_r03_Add := ⟨_, Tryz.func115, by kernel_rfl, by kernel_rfl⟩
theorem Tryz.okf120 : OkF Tryz.prog Tryz.T 114 x_r03_Div := ⟨_, Tryz.func114, by kernel_rfl, by kernel_rfl⟩
theorem Tryz.okf123 : OkF Tryz.prog Tryz.T 95 x_r03_Neg := ⟨_, Tryz.func95, by kernel_rfl, by kernel_rfl⟩
theorem Tryz.okf124 : OkF Tryz.prog Tryz.T 94 x_r03_Compare := ⟨_, Tryz.func94, by kernel_rfl, by kernel_rfl⟩
theorem Tryz.okf125 : OkF Tryz.prog Tryz.T 113 x_r03_Gcd := ⟨_, Tryz.func113, by kernel_rfl, by kernel_rfl⟩
theorem Tryz.okf126 : OkF Tryz.prog Tryz.T 116 x_r03_Fits := ⟨_, Tryz.func116, by kernel_rfl, by kernel_rfl⟩
theorem Tryz.okf127 : OkF Tryz.prog Tryz.T 108 x_r01_Decimal := ⟨_, Tryz.func108, by kernel_rfl, by kernel_rfl⟩
theorem Tryz.okf128 : OkF Tryz.prog Tryz.T 96 x_r03_Power := ⟨_, Tryz.func96, by kernel_rfl, by kernel_rfl⟩
theorem Tryz.okf129 : OkF Tryz.prog Tryz.T 135 x_strings_CutPrefix := ⟨_, Tryz.func135, by kernel_rfl, by kernel_rfl⟩
theorem Tryz.okf132 : OkF Tryz.prog Tryz.T 109 x_r03_normal := ⟨_, Tryz.func109, by kernel_rfl, by kernel_rfl⟩
theorem Tryz.okf133 : OkF Tryz.prog Tryz.T 148 x_r03_plus := ⟨_, Tryz.func148, by kernel_rfl, by kernel_rfl⟩
theorem Tryz.okf134 : OkF Tryz.prog Tryz.T 138 x_r03_compared := ⟨_, Tryz.func138, by kernel_rfl, by kernel_rfl⟩
theorem Tryz.okf135 : OkF Tryz.prog Tryz.T 147 x_r03_minus := ⟨_, Tryz.func147, by kernel_rfl, by kernel_rfl⟩
theorem Tryz.okf136 : OkF Tryz.prog Tryz.T 146 x_r03_divided := ⟨_, Tryz.func146, by kernel_rfl, by kernel_rfl⟩
theorem Tryz.okf137 : OkF Tryz.prog Tryz.T 156 x_internal_stringslite_CutPrefix := ⟨_, Tryz.func156, by kernel_rfl, by kernel_rfl⟩
theorem Tryz.okf147 : OkF Tryz.prog Tryz.T 173 x_r03_at := ⟨_, Tryz.func173, by kernel_rfl, by kernel_rfl⟩
theorem Tryz.okf148 : OkF Tryz.prog Tryz.T 171 x_r03_digit := ⟨_, Tryz.func171, by kernel_rfl, by kernel_rfl⟩
theorem Tryz.okf149 : OkF Tryz.prog Tryz.T 172 x_r03_small := ⟨_, Tryz.func172, by kernel_rfl, by kernel_rfl⟩
theorem Tryz.okf159 : OkF Tryz.prog Tryz.T 192 x_r03_digits := ⟨_, Tryz.func192, by kernel_rfl, by kernel_rfl⟩
theorem Tryz.okf182 : OkF Tryz.prog Tryz.T 110 x_r04_Make := ⟨_, Tryz.func110, by kernel_rfl, by kernel_rfl⟩
theorem Tryz.okf185 : OkF Tryz.prog Tryz.T 34 x_r04_Of := ⟨_, Tryz.func34, by kernel_rfl, by kernel_rfl⟩
theorem Tryz.okf188 : OkF Tryz.prog Tryz.T 166 x_r04_Neg := ⟨_, Tryz.func166, by kernel_rfl, by kernel_rfl⟩
theorem Tryz.okf190 : OkF Tryz.prog Tryz.T 72 x_r04_Add := ⟨_, Tryz.func72, by kernel_rfl, by kernel_rfl⟩
theorem Tryz.okf191 : OkF Tryz.prog Tryz.T 139 x_r04_Sub := ⟨_, Tryz.func139, by kernel_rfl, by kernel_rfl⟩
theorem Tryz.okf192 : OkF Tryz.prog Tryz.T 71 x_r04_Mul := ⟨_, Tryz.func71, by kernel_rfl, by kernel_rfl⟩
theorem Tryz.okf193 : OkF Tryz.prog Tryz.T 73 x_r04_Div := ⟨_, Tryz.func73, by kernel_rfl, by kernel_rfl⟩
theorem Tryz.okf196 : OkF Tryz.prog Tryz.T 33 x_r04_Text := ⟨_, Tryz.func33, by kernel_rfl, by kernel_rfl⟩
theorem Tryz.okf197 : OkF Tryz.prog Tryz.T 63 x_frac_Parse := ⟨_, Tryz.func63, by kernel_rfl, by kernel_rfl⟩
theorem Tryz.okf199 : OkF Tryz.prog Tryz.T 98 x_r04_Sign := ⟨_, Tryz.func98, by kernel_rfl, by kernel_rfl⟩
theorem Tryz.okf200 : OkF Tryz.prog Tryz.T 99 x_r04_Compare := ⟨_, Tryz.func99, by kernel_rfl, by kernel_rfl⟩
theorem Tryz.okf208 : OkF Tryz.prog Tryz.T 112 x_r04_ranged := ⟨_, Tryz.func112, by kernel_rfl, by kernel_rfl⟩
theorem Tryz.okf209 : OkF Tryz.prog Tryz.T 92 x_strings_Cut := ⟨_, Tryz.func92, by kernel_rfl, by kernel_rfl⟩
theorem Tryz.okf216 : OkF Tryz.prog Tryz.T 134 x_internal_stringslite_Cut := ⟨_, Tryz.func134, by kernel_rfl, by kernel_rfl⟩
theorem Tryz.okf233 : OkF Tryz.prog Tryz.T 7 x_l10_TerrainLong := ⟨_, Tryz.func7, by kernel_rfl, by kernel_rfl⟩
theorem Tryz.okf242 : OkF Tryz.prog Tryz.T 23 x_r10_Valid := ⟨_, Tryz.func23, by kernel_rfl, by kernel_rfl⟩
theorem Tryz.okf243 : OkF Tryz.prog Tryz.T 25 x_terrain_Facet := ⟨_, Tryz.func25, by kernel_rfl, by kernel_rfl⟩
theorem Tryz.okf251 : OkF Tryz.prog Tryz.T 29 x_r10_Coord := ⟨_, Tryz.func29, by kernel_rfl, by kernel_rfl⟩
theorem Tryz.okf252 : OkF Tryz.prog Tryz.T 30 x_l10_own := ⟨_, Tryz.func30, by kernel_rfl, by kernel_rfl⟩
theorem Tryz.okf253 : OkF Tryz.prog Tryz.T 31 x_r10_Height := ⟨_, Tryz.func31, by kernel_rfl, by kernel_rfl⟩
theorem Tryz.okf254 : OkF Tryz.prog Tryz.T 35 x_r10_Times := ⟨_, Tryz.func35, by kernel_rfl, by kernel_rfl⟩
theorem Tryz.okf255 : OkF Tryz.prog Tryz.T 36 x_r10_Plus := ⟨_, Tryz.func36, by kernel_rfl, by kernel_rfl⟩
theorem Tryz.okf256 : OkF Tryz.prog Tryz.T 37 x_r10_Over := ⟨_, Tryz.func37, by kernel_rfl, by kernel_rfl⟩
theorem Tryz.okf274 : OkF Tryz.prog Tryz.T 62 x_r10_Ratio := ⟨_, Tryz.func62, by kernel_rfl, by kernel_rfl⟩
theorem Tryz.okf275 : OkF Tryz.prog Tryz.T 64 x_r10_Long := ⟨_, Tryz.func64, by kernel_rfl, by kernel_rfl⟩
theorem Tryz.okf276 : OkF Tryz.prog Tryz.T 65 x_r10_place := ⟨_, Tryz.func65, by kernel_rfl, by kernel_rfl⟩
theorem Tryz.okf277 : OkF Tryz.prog Tryz.T 66 x_r10_On := ⟨_, Tryz.func66, by kernel_rfl, by kernel_rfl⟩
theorem Tryz.okf287 : OkF Tryz.prog Tryz.T 97 x_r10_Minus := ⟨_, Tryz.func97, by kernel_rfl, by kernel_rfl⟩
theorem Tryz.okf288 : OkF Tryz.prog Tryz.T 100 x_r10_Floor := ⟨_, Tryz.func100, by kernel_rfl, by kernel_rfl⟩
theorem Tryz.allc : AllCal Tryz.prog Tryz.keyL := ⟨Tryz.okc2, Tryz.okc3, Tryz.okc4, Tryz.okc5, Tryz.okc6, Tryz.okc7, Tryz.okc8, Tryz.okc9, Tryz.okc10, Tryz.okc11, Tryz.okc13, Tryz.okc14, Tryz.okc15, Tryz.okc16, Tryz.okc17, Tryz.okc18, Tryz.okc19, Tryz.okc20, Tryz.okc21, Tryz.okc22, Tryz.okc23, Tryz.okc24, Tryz.okc25, Tryz.okc26, Tryz.okc27, Tryz.okc28, Tryz.okc29, Tryz.okc30, Tryz.okc31, Tryz.okc32, Tryz.okc33, Tryz.okc34, Tryz.okc35, Tryz.okc36, Tryz.okc37, Tryz.okc38, Tryz.okc39, Tryz.okc40, Tryz.okc41, Tryz.okc42, Tryz.okc43, Tryz.okc44, Tryz.okc45, Tryz.okc46, Tryz.okc47, Tryz.okc48, Tryz.okc49, Tryz.okc50, Tryz.okc51, Tryz.okc55, Tryz.okc56, Tryz.okc57, Tryz.okc58, Tryz.okc59, Tryz.okc60, Tryz.okc61, Tryz.okc62, Tryz.okc63, Tryz.okc64, Tryz.okc65, Tryz.okc66, Tryz.okc67, Tryz.okc68, Tryz.okc69, Tryz.okc76, Tryz.okc77, Tryz.okc78, Tryz.okc79, Tryz.okc80, Tryz.okc81, Tryz.okc85, Tryz.okc107, Tryz.okc110, Tryz.okc114, Tryz.okc117, Tryz.okc118, Tryz.okc119, Tryz.okc120, Tryz.okc123, Tryz.okc124, Tryz.okc125, Tryz.okc126, Tryz.okc127, Tryz.okc128, Tryz.okc129, Tryz.okc130, Tryz.okc131, Tryz.okc132, Tryz.okc133, Tryz.okc134, Tryz.okc135, Tryz.okc136, Tryz.okc137, Tryz.okc147, Tryz.okc148, Tryz.okc149, Tryz.okc159, Tryz.okc182, Tryz.okc185, Tryz.okc188, Tryz.okc190, Tryz.okc191, Tryz.okc192, Tryz.okc193, Tryz.okc196, Tryz.okc197, Tryz.okc199, Tryz.okc200, Tryz.okc208, Tryz.okc209, Tryz.okc216, Tryz.okc222, Tryz.okc233, Tryz.okc242, Tryz.okc243, Tryz.okc251, Tryz.okc252, Tryz.okc253, Tryz.okc254, Tryz.okc255, Tryz.okc256, Tryz.okc274, Tryz.okc275, Tryz.okc276, Tryz.okc277, Tryz.okc287, Tryz.okc288, True.intro⟩
theorem Tryz.allf : AllOk Tryz.prog Tryz.T progL Tryz.keyL := ⟨Tryz.okf2, Tryz.okf3, Tryz.okf4, Tryz.okf5, Tryz.okf6, Tryz.okf7, Tryz.okf8, Tryz.okf9, Tryz.okf10, Tryz.okf11, Tryz.okf13, Tryz.okf14, Tryz.okf15, Tryz.okf16, Tryz.okf17, Tryz.okf18, Tryz.okf19, Tryz.okf20, Tryz.okf21, Tryz.okf22, Tryz.okf23, Tryz.okf24, Tryz.okf25, Tryz.okf26, Tryz.okf27, Tryz.okf28, Tryz.okf29, Tryz.okf30, Tryz.okf31, Tryz.okf32, Tryz.okf34, Tryz.okf35, Tryz.okf36, Tryz.okf37, Tryz.okf38, Tryz.okf39, Tryz.okf40, Tryz.okf41, Tryz.okf42, Tryz.okf43, Tryz.okf44, Tryz.okf45, Tryz.okf46, Tryz.okf47, Tryz.okf48, Tryz.okf49, Tryz.okf55, Tryz.okf56, Tryz.okf57, Tryz.okf58, Tryz.okf59, Tryz.okf60, Tryz.okf61, Tryz.okf62, Tryz.okf63, Tryz.okf64, Tryz.okf65, Tryz.okf66, Tryz.okf67, Tryz.okf68, Tryz.okf69, Tryz.okf76, Tryz.okf77, Tryz.okf78, Tryz.okf79, Tryz.okf80, Tryz.okf81, Tryz.okf85, Tryz.okf107, Tryz.okf110, Tryz.okf114, Tryz.okf117, Tryz.okf118, Tryz.okf119, Tryz.okf120, Tryz.okf123, Tryz.okf124, Tryz.okf125, Tryz.okf126, Tryz.okf127, Tryz.okf128, Tryz.okf129, Tryz.okf132, Tryz.okf133, Tryz.okf134, Tryz.okf135, Tryz.okf136, Tryz.okf137, Tryz.okf147, Tryz.okf148, Tryz.okf149, Tryz.okf159, Tryz.okf182, Tryz.okf185, Tryz.okf188, Tryz.okf190, Tryz.okf191, Tryz.okf192, Tryz.okf193, Tryz.okf196, Tryz.okf197, Tryz.okf199, Tryz.okf200, Tryz.okf208, Tryz.okf209, Tryz.okf216, Tryz.okf233, Tryz.okf242, Tryz.okf243, Tryz.okf251, Tryz.okf252, Tryz.okf253, Tryz.okf254, Tryz.okf255, Tryz.okf256, Tryz.okf274, Tryz.okf275, Tryz.okf276, Tryz.okf277, Tryz.okf287, Tryz.okf288, True.intro⟩
theorem Tryz.libok : LibOk Tryz.prog Tryz.lren (fun f => (Tryz.keyL[f]?).join) Tryz.T 3 where
  l105 := Tryz.l105
  l171 := Tryz.l171
  lX := Tryz.lX
  gname := by kernel_rfl
  gkey := rfl
  k50 := rfl
  k51 := rfl
  o130 := fun g h => ⟨Tryz.l160, by kernel_rfl, (Option.some.inj h).symm⟩
  o131 := fun g h => ⟨Tryz.l172, (Option.some.inj h).symm⟩
  o222 := fun g h => ⟨Tryz.l219, (Option.some.inj h).symm⟩
theorem Tryz.mixed : Tryz.prog.follows .mixedOrders = true := by kernel_rfl
theorem Tryz.progok1 : ProgOk Tryz.prog (fun f => (Tryz.keyL[f]?).join) Tryz.T E1.prog := progOk1 Tryz.mixed Tryz.allc Tryz.allf Tryz.libok
theorem Tryz.gk0 : ∀ g n, Tryz.T.gkey g = some n → n ≤ 4 := fun g n h => by
  have h : (if g = 3 then some 0 else none) = some n := h
  split at h
  · cases h; decide
  · cases h
theorem Tryz.progok : ProgOk Tryz.prog (fun f => (Tryz.keyL[f]?).join) Tryz.T E0.prog := progOk0 Tryz.mixed Tryz.allc Tryz.allf Tryz.libok fun {g} hk => by
  obtain rfl : g = 68 := (Option.some.inj hk).symm
  exact fun {_ _ _ _ _ _ _ _} e TO RL S => str_orc (pre := Tryz.strPre) (tail := Tryz.strTail) Tryz.progok1 KE1 Tryz.gk0 (G := 3) rfl Tryz.func68 rfl (by kernel_rfl) rfl rfl (fun neg ps h1 h2 h3 b1 o1 b3 o3 c w h4 h5 h6 h7 tm h8 h9 h10 => Tryz.str_tail neg ps h1 h2 h3 b1 o1 b3 o3 c w h4 h5 h6 h7 tm h8 h9 h10) e TO RL S
end Go.Proofs
namespace Go.Eng
open Go.RowKit
theorem tabIs_mem {P : Program} {W : World} {name : String} {k : IntKind} {zs : List Int} {g : Nat} {t e : TypeId} {n : Nat}
  (hg : P.globalNamed name = some g) (hty : (P.globals[g]?).map (·.type) = some t) (ht : P.underlying t = some (.array n e)) (he : P.underlying e = some (.int k)) (hce : P.cellsOf e = 1) (hct : P.cellsOf t = n) :
  ∀ {laid : List (String × DataW Unit)} {ps : List MemPlace}, DataW.LaidVars P W laid ps → (name, Lib.tabData k zs) ∈ laid → Lib.TabIs P W name k zs
 | [], _, _, hm => by cases hm
 | x :: laid, ps, h, hm => by
  obtain ⟨g', t', cs, fuel, p, q, hg', ht', hvar, hd, h2, h3⟩ := h
  rcases List.mem_cons.1 hm with rfl | hm
  ·obtain rfl := Option.some.inj (hg.symm.trans hg')
   obtain rfl := Option.some.inj (hty.symm.trans ht')
   unfold Lib.TabIs
   rw [hvar, ← Lib.cells_of_tab ht he hce hct hd]
  ·exact tabIs_mem hg hty ht he hce hct (by first | exact h2 | exact h3 | exact h3.1 | exact h2.1) hm
def IsRow (k : IntKind) (w : World) (a : Option Addr) (len cap : Nat) (zs : List Int) : Prop :=
 (a = none ∧ len = 0 ∧ cap = 0 ∧ zs = []) ∨
 ∃ x, a = some x ∧ len ≤ cap ∧ cap ≤ maxLen ∧ zs.length = cap ∧ (∀ i, i < zs.length → w.cell? (x.add i) = some (.int k (zs.getD i 0))) ∧ ∀ n ∈ zs, (Lit.int k n).wf = true
def hpA (bs : List (List AV)) : Hp := ⟨fun n => if n ≤ 4 then (globG n).map fun c => ⟨c, false, 0⟩ else (bs[n - 5]?).map fun c => ⟨c, false, 0⟩, bs.length + 5⟩
def locA (gs : Nat → Option At) (ats : List At) : Loc := fun n => if n ≤ 4 then gs n else ats[n - 5]?
def InW (c : List AV) (a : At) (W : World) : Prop :=
 a.b < W.heap.size ∧ a.w = false ∧ c.length ≤ a.n ∧ ∀ i (h : i < c.length), c[i].scal = true ∧ ∃ v, W.cell? ⟨a.b, a.o + i, none⟩ = some v ∧ ∀ key l, Rel key l c[i] v
def GlobIn (key : Nat → Option FuncId) (W : World) (n : Nat) (a : At) : Prop :=
 a.o = 0 ∧ ∃ c cs t fz, globG n = some c ∧ W.heap[a.b]? = some (.cells cs t fz) ∧ c.length ≤ a.n ∧ RelL key (fun _ => none) c cs.toList
theorem glob_scal : ∀ {n : Nat} {c : List AV}, globG n = some c → c.all AV.scal = true
 | 0, c, h => by cases h; rfl
 | 1, c, h => by cases h; rfl
 | 2, c, h => by cases h; rfl
 | 3, c, h => by cases h; rfl
 | 4, c, h => by cases h; rfl
 | n + 5, c, h => by cases h
theorem glob_pscal : ∀ {n : Nat} {c : List AV}, globG n = some c → (c.map cst0).all PV.scal = true
 | 0, c, h => by cases h; decide
 | 1, c, h => by cases h; decide
 | 2, c, h => by cases h; decide
 | 3, c, h => by cases h; rfl
 | 4, c, h => by cases h; rfl
 | n + 5, c, h => by cases h
theorem glob_le : ∀ {n : Nat} {c : List AV}, globG n = some c → n ≤ 4
 | 0, c, h => by omega
 | 1, c, h => by omega
 | 2, c, h => by omega
 | 3, c, h => by omega
 | 4, c, h => by omega
 | n + 5, c, h => by cases h
theorem simA {P : Program} {key : Nat → Option FuncId} {F : Nat} {W : World} {gs : Nat → Option At} (hgs : ∀ n a, n ≤ 4 → gs n = some a → GlobIn key W n a)
  {bs : List (List AV)} {ats : List At} (hl : ats.length = bs.length) (hin : ∀ (n : Nat) c a, bs[n]? = some c → ats[n]? = some a → InW c a W) : Sim key F (locA gs ats) (hpA bs) W := by
 have hlt : ∀ n a, n ≤ 4 → gs n = some a → a.b < W.heap.size := fun n a hn hg => by
  obtain ⟨_, c, cs, t, fz, _, h2, _⟩ := hgs n a hn hg
  rcases Nat.lt_or_ge a.b W.heap.size with q | q
  ·exact q
  ·rw [Array.getElem?_eq_none q] at h2; cases h2
 have hout : ∀ n, bs.length ≤ n → ats[n]? = none := fun n hn => List.getElem?_eq_none (by omega)
 have norw : ∀ n blk, (hpA bs).m n = some blk → blk.rw = false := fun n blk e => by
  simp only [hpA] at e
  split at e <;> (simp only [Option.map_eq_some_iff] at e; obtain ⟨c, _, rfl⟩ := e; rfl)
 refine ⟨fun n blk a e1 e2 => ?_, fun n blk a n' blk' a' e1 e2 e3 => ?_, fun n a e => ?_, fun n a e => ?_, fun n hn => ?_⟩
 ·by_cases hn : n ≤ 4
  ·simp only [hpA, if_pos hn, Option.map_eq_some_iff] at e1
   simp only [locA, if_pos hn] at e2
   obtain ⟨c, c1, rfl⟩ := e1
   obtain ⟨g1, c', cs, t, fz, g2, g3, g4, g5⟩ := hgs n a hn e2
   obtain rfl := Option.some.inj (c1.symm.trans g2)
   have hsz : c.length = cs.size := by simpa using g5.1
   refine ⟨hlt n a hn e2, g4, fun i hi => ?_, fun i hi => ?_, fun q => (by cases q), fun _ => ⟨rfl, g1, cs, t, fz, g3, hsz.symm⟩⟩
   ·have hi : i < c.length := hi
    have hi' : i < cs.toList.length := by simp; omega
    refine ⟨cs.toList[i], ?_, (g5.2 i hi hi').mono fun n a q => by cases q⟩
    have hb : W.heap[a.b]? = some (.cells cs t fz) := g3
    simp only [World.cell?, hb, g1, Nat.zero_add]
    rw [Array.getElem_toList, Array.getElem?_eq_getElem (by omega)]; rfl
   ·have := glob_scal c1
    rw [List.all_eq_true] at this
    exact this _ (List.getElem_mem _)
  ·simp only [hpA, if_neg hn, Option.map_eq_some_iff] at e1
   simp only [locA, if_neg hn] at e2
   obtain ⟨c, c1, rfl⟩ := e1
   obtain ⟨q1, q2, q3, q4⟩ := hin _ c a c1 e2
   exact ⟨q1, q3, fun i hi => by obtain ⟨_, v, v1, v2⟩ := q4 i hi; exact ⟨v, v1, v2 key _⟩, fun i hi => (q4 i hi).1, fun q => (by cases q), fun q => by rw [q2] at q; cases q⟩
 ·rw [norw n blk e1] at e3; cases e3
 ·by_cases hn : n ≤ 4
  ·simp only [locA, if_pos hn] at e
   exact hlt n a hn e
  ·simp only [locA, if_neg hn] at e
   have hb : n - 5 < bs.length := by
    rcases Nat.lt_or_ge (n - 5) bs.length with q | q
    ·exact q
    ·rw [hout _ q] at e; cases e
   exact (hin _ _ a (List.getElem?_eq_getElem hb) e).1
 ·left
  show n < bs.length + 5
  by_cases hn : n ≤ 4
  ·omega
  ·simp only [locA, if_neg hn] at e
   rcases Nat.lt_or_ge (n - 5) bs.length with q | q
   ·omega
   ·rw [hout _ q] at e; cases e
 ·have hn : bs.length + 5 ≤ n := hn
  simp only [hpA]
  rw [if_neg (by omega), List.getElem?_eq_none (by omega)]; rfl
theorem PInv.startG {bs : List (List AV)} (w : (hpA bs).wf) : PInv globG (fun _ => False) [] [] (hpA bs) := by
 refine ⟨rfl, fun i j m q => by simp at q, fun m q => by simp at q, w, fun n m q => by simp at q, fun n b m q => by simp at q, fun m d => d.elim, fun g l q => ?_⟩
 refine ⟨⟨l, false, 0⟩, ?_, ⟨rfl, glob_pscal q⟩, fun d => ?_⟩
 ·simp only [hpA, if_pos (glob_le q), q, Option.map_some]
 ·rcases d with d | d
  ·exact d
  ·exact noDM _ d
theorem glob_tab {P : Program} {key : Nat → Option FuncId} {W : World} {G : Nat} (hg : P.globalNamed "internal/strconv.uint64pow10" = some G) (ht : Lib.TabIs P W "internal/strconv.uint64pow10" .u64 Lib.pow10Tab) : GlobIn key W 0 ⟨G, 0, 20, true⟩ := by
 have hb : ∃ cs t fz, W.heap[G]? = some (.cells cs t fz) ∧ cs = (Lib.pow10Tab.map fun z => Value.int .u64 z).toArray := by
  unfold Lib.TabIs World.var? at ht
  rw [hg] at ht
  simp only [Option.bind_some] at ht
  split at ht
  ·rename_i cs t fz hh
   cases ht
   exact ⟨_, t, fz, hh, rfl⟩
  ·cases ht
 obtain ⟨cs, t, fz, hh, rfl⟩ := hb
 refine ⟨rfl, powT, _, t, fz, rfl, hh, Nat.le_refl _, by simp [Lib.pow10Tab, powT], fun i h1 h2 => ?_⟩
 have hpl : powT.length = 20 := rfl
 have hi' : i < 20 := by rw [← hpl]; exact h1
 simp only [powT, List.getElem_map, List.getElem_range, Lib.pow10Tab]
 exact .i _ _
theorem law_calls {P : Program} {key : Nat → Option FuncId} {T : Tab} (K : ProgOk P key T E0.prog) (hTf : ∀ f k, T.fkey f = some k → key k = some f) {W : World} {gs : Nat → Option At} (hgs : ∀ n a, n ≤ 4 → gs n = some a → GlobIn key W n a)
  (hT : ∀ g n, T.gkey g = some n → n ≤ 4 ∧ ∃ m, gs n = some ⟨g, 0, m, true⟩)
  {bs : List (List AV)} {ats : List At} (hl : ats.length = bs.length) (hin : ∀ (n : Nat) c a, bs[n]? = some c → ats[n]? = some a → InW c a W)
  {k g : Nat} (hk : key k = some g) (hpure : E0.pure k = true) {ps : List PV} (hfz : fzL (fz [] fzD) ps = some (ps, [])) (hpf : pf E0 k ps = some (.b true))
  {avs : List AV} {vs : Array Value} (hV : VL (hpA bs) (fun _ => False) [] ps avs) (hR : RelL key (locA gs ats) avs vs.toList) :
  Calls P g vs W fun e w' => e = .returned (.bool true) ∧ Below W.heap.size W w' := by
 have hc : pcl E0 k ps [] = some (.b true, roM [] []) := pcl_pure hpure hfz hpf
 obtain ⟨kk, hev⟩ := pcl_ex hc
 have hw : (hpA bs).wf := (simA (P := P) (key := key) (F := 0) hgs hl hin).wf
 have I : PInv globG (fun _ => False) [] [] (hpA bs) := PInv.startG hw
 obtain ⟨a, h', r', q1, q2, q3, q4⟩ := pvF_ok KE0 kk _ _ _ _ _ _ _ _ _ hev I (VL.dd hV)
 have ha : a = .b true := by cases q4; rfl
 subst ha
 have S := simA (P := P) (key := key) (F := h'.next) hgs hl hin
 have TO : TabOk key T (locA gs ats) := by
  refine ⟨fun f k e => ?_, fun g n e => ?_⟩
  ·exact hTf f k e
  ·obtain ⟨h4, m, hm⟩ := hT g n e
   exact ⟨m, by simp only [locA, if_pos h4]; exact hm⟩
 refine (evF_sound K kk h'.next k g avs vs _ h' _ _ W q1 hk (Nat.le_refl _) TO hR S).mono ?_
 rintro e w' ⟨l', val, rfl, E, S', rv⟩
 cases rv
 refine ⟨rfl, E.os, E.tape, E.output, E.size, fun b hb => E.frame b hb fun m blk a e1 e2 => ?_⟩
 exfalso
 simp only [hpA] at e1
 split at e1 <;> (simp only [Option.map_eq_some_iff] at e1; obtain ⟨c, c1, rfl⟩ := e1; cases e2)
theorem arg_row {k : IntKind} {W : World} (h0 : 0 < W.heap.size) {a : Option Addr} {len cap : Nat} {zs : List Int} (h : IsRow k W a len cap zs) (n : Nat) : ∃ (c : List AV) (at_ : At) (av : AV), InW c at_ W ∧
  (∀ key (l : Loc), l n = some at_ → Rel key l av (.slice a len cap)) ∧ (∀ (h : Hp) (D : Nat → Prop), h.m n = some ⟨c, false, 0⟩ → ¬ D n → V h D [] (.lst ((zs.take len).map fun z => .i k z)) av) := by
 have nilIn : InW [] ⟨0, 0, 0, false⟩ W := ⟨h0, rfl, Nat.le_refl _, fun i hi => by simp at hi⟩
 rcases h with ⟨rfl, rfl, rfl, rfl⟩ | ⟨x, rfl, hl, hm, hz, hcell, hwz⟩
 ·exact ⟨[], ⟨0, 0, 0, false⟩, .sn, nilIn, fun key l _ => .sn, fun h D _ _ => .lsn⟩
 ·by_cases hlen : len = 0
  ·subst hlen
   exact ⟨[], ⟨0, 0, 0, false⟩, .e0, nilIn, fun key l _ => .e0 _ _, fun h D _ _ => .le0⟩
  ·obtain ⟨b, off, spot⟩ := x
   have hc := hcell 0 (by omega)
   have hspot : spot = none := by simpa [Addr.add] using World.cell?_spot hc
   subst hspot
   have hlt : b < W.heap.size := by
    rcases Nat.lt_or_ge b W.heap.size with q | q
    ·exact q
    ·rw [add_at] at hc
     simp [World.cell?, Array.getElem?_eq_none q] at hc
   have hget : ∀ i (hi : i < ((zs.take len).map fun z => AV.i k z).length), ((zs.take len).map fun z => AV.i k z)[i] = .i k (zs.getD i 0) := fun i hi => by
    have hi' : i < zs.length := by simp at hi; omega
    simp only [List.getElem_map, List.getElem_take, List.getD]
    rw [List.getElem?_eq_getElem hi']; rfl
   refine ⟨(zs.take len).map fun z => .i k z, ⟨b, off, cap, false⟩, .sl n 0 len cap 1, ⟨hlt, rfl, by simp; omega, fun i hi => ?_⟩, fun key l hn => ?_, fun h D hb hD => ?_⟩
   ·rw [hget i hi]
    have hi' : i < zs.length := by simp at hi; omega
    have := hcell i hi'
    rw [add_at] at this
    exact ⟨rfl, _, this, fun key l => .i _ _⟩
   ·have := Rel.sl (key := key) (off := 0) (len := len) (cap := cap) (cap' := cap) (z := 1) hn (Nat.le_refl _) (by show 0 + cap * 1 ≤ cap; omega) hl
    exact this
   ·have hfl : flat ((zs.take len).map fun z => PV.i k z) = (zs.take len).map fun z => PV.i k z := by
     generalize zs.take len = ys
     induction ys with
     | nil => rfl
     | cons y ys ih => rw [List.map_cons]; show [PV.i k y] ++ flat _ = _; rw [ih]; rfl
    have hll : ((zs.take len).map fun z => PV.i k z).length = len := by simp; omega
    have := V.lst (h := h) (D := D) (r := []) (xs := (zs.take len).map fun z => PV.i k z) (m := n) (off := 0) (cap := cap) (z := 1) (fun i => .i k (zs.getD i 0)) hb hD (by rw [hfl, List.all_eq_true]; intro x hx; obtain ⟨y, _, rfl⟩ := List.mem_map.1 hx; rfl) (by decide) (fun x hx => by
     obtain ⟨y, _, rfl⟩ := List.mem_map.1 hx; rfl) (by rw [hll]; exact hl) (fun i hi => by
     rw [hfl] at hi
     have hi2 : i < ((zs.take len).map fun z => AV.i k z).length := by simpa using hi
     rw [Nat.zero_add, List.getElem?_eq_getElem hi2, hget i hi2]) (fun i hi => by
     have hi1 : i < ((zs.take len).map fun z => PV.i k z).length := by rw [hfl] at hi; exact hi
     have e : (flat ((zs.take len).map fun z => PV.i k z))[i] = .i k (zs.getD i 0) := by
      simp only [hfl, List.getElem_map, List.getElem_take, List.getD]
      rw [List.getElem?_eq_getElem (by simp at hi1; omega)]; rfl
     rw [e]
     exact .i _ _)
    rw [hll] at this
    exact this
theorem row_heap {P : Program} {W : World} {G : Nat} (hg : P.globalNamed "internal/strconv.uint64pow10" = some G) (ht : Lib.TabIs P W "internal/strconv.uint64pow10" .u64 Lib.pow10Tab) : 0 < W.heap.size := by
 unfold Lib.TabIs World.var? at ht
 rw [hg] at ht
 simp only [Option.bind_some] at ht
 split at ht
 ·rename_i cs t fz hh
  rcases Nat.eq_zero_or_pos W.heap.size with q | q
  ·rw [Array.getElem?_eq_none (by omega)] at hh; cases hh
  ·exact q
 ·cases ht
theorem ints_row {W : World} {a : Option Addr} {len cap : Nat} {zs : List Int} (h : IsRow .i64 W a len cap zs) : Ints (zs.take len) := by
 rcases h with ⟨rfl, rfl, rfl, rfl⟩ | ⟨x, rfl, hl, hm, hz, hcell, hwz⟩
 ·exact ⟨by simp, fun n hn => by simp at hn⟩
 ·refine ⟨?_, fun n hn => ?_⟩
  ·have : maxLen ≤ 9223372036854775807 := by decide
   simp; omega
  ·have := bounds_i64 (hwz n (List.mem_of_mem_take hn))
   exact this
end Go.Eng
namespace Go.Eng
def gI (p q : Int) : Int := ((Nat.gcd p.natAbs q.natAbs : Nat) : Int)
def lowP (p q : Int) : Int := (if q < 0 then -p else p) / gI p q
def lowQ (p q : Int) : Int := (if q < 0 then -q else q) / gI p q
theorem gI_ne {p q : Int} (h : q ≠ 0) : gI p q ≠ 0 := by
 unfold gI
 intro e
 have : Nat.gcd p.natAbs q.natAbs = 0 := by omega
 have := Nat.eq_zero_of_gcd_eq_zero_right this
 omega
theorem gI_pos {p q : Int} (h : q ≠ 0) : 0 < gI p q := by
 have := gI_ne (p := p) h
 unfold gI at *
 omega
theorem gI_dvdl (p q : Int) : gI p q ∣ p := Int.ofNat_dvd_left.2 (Nat.gcd_dvd_left _ _)
theorem gI_dvdr (p q : Int) : gI p q ∣ q := Int.ofNat_dvd_left.2 (Nat.gcd_dvd_right _ _)
theorem gI_neg (p q : Int) : gI (-p) (-q) = gI p q := by unfold gI; rw [Int.natAbs_neg, Int.natAbs_neg]
theorem low_mul {p q : Int} (h : q ≠ 0) : lowP p q * gI p q = (if q < 0 then -p else p) ∧ lowQ p q * gI p q = (if q < 0 then -q else q) := by
 unfold lowP lowQ
 refine ⟨Int.ediv_mul_cancel ?_, Int.ediv_mul_cancel ?_⟩
 ·split
  ·exact Int.dvd_neg.2 (gI_dvdl p q)
  ·exact gI_dvdl p q
 ·split
  ·exact Int.dvd_neg.2 (gI_dvdr p q)
  ·exact gI_dvdr p q
theorem low_pos {p q : Int} (h : q ≠ 0) : 0 < lowQ p q := by
 have h1 := (low_mul (p := p) h).2
 have h2 := gI_pos (p := p) h
 have h3 : 0 < lowQ p q * gI p q := by rw [h1]; split <;> omega
 exact Int.pos_of_mul_pos_left h3 h2
theorem low_cross {p q : Int} (h : q ≠ 0) : lowP p q * q = p * lowQ p q := by
 obtain ⟨h1, h2⟩ := low_mul (p := p) h
 have h3 := gI_ne (p := p) h
 apply Int.eq_of_mul_eq_mul_right h3
 rw [Int.mul_right_comm, h1, Int.mul_assoc, h2]
 split <;> grind
theorem low_cop {p q : Int} (h : q ≠ 0) : Nat.gcd (lowP p q).natAbs (lowQ p q).natAbs = 1 := by
 obtain ⟨h1, h2⟩ := low_mul (p := p) h
 have h3 := gI_pos (p := p) h
 have e1 : (lowP p q).natAbs * (gI p q).natAbs = p.natAbs := by rw [← Int.natAbs_mul, h1]; split <;> omega
 have e2 : (lowQ p q).natAbs * (gI p q).natAbs = q.natAbs := by rw [← Int.natAbs_mul, h2]; split <;> omega
 have e3 : (gI p q).natAbs = Nat.gcd p.natAbs q.natAbs := Int.natAbs_natCast _
 have e4 := Nat.gcd_mul_right (lowP p q).natAbs (gI p q).natAbs (lowQ p q).natAbs
 rw [e1, e2, ← e3] at e4
 have : 0 < (gI p q).natAbs := by omega
 exact Nat.eq_of_mul_eq_mul_right this (by rw [Nat.one_mul]; exact e4.symm)
theorem low_uniq {p q r s : Int} (hq : 0 < q) (hs : 0 < s) (c1 : Nat.gcd p.natAbs q.natAbs = 1) (c2 : Nat.gcd r.natAbs s.natAbs = 1) (h : p * s = r * q) : p = r ∧ q = s := by
 have n1 : p.natAbs * s.natAbs = r.natAbs * q.natAbs := by rw [← Int.natAbs_mul, ← Int.natAbs_mul, h]
 have d1 : q.natAbs ∣ s.natAbs := by
  have : q.natAbs ∣ p.natAbs * s.natAbs := ⟨r.natAbs, by rw [n1, Nat.mul_comm]⟩
  exact (Nat.Coprime.dvd_of_dvd_mul_left (by rw [Nat.coprime_comm]; exact c1) this)
 have d2 : s.natAbs ∣ q.natAbs := by
  have : s.natAbs ∣ r.natAbs * q.natAbs := ⟨p.natAbs, by rw [← n1, Nat.mul_comm]⟩
  exact (Nat.Coprime.dvd_of_dvd_mul_left (by rw [Nat.coprime_comm]; exact c2) this)
 have e : q.natAbs = s.natAbs := Nat.dvd_antisymm d1 d2
 have e2 : q = s := by omega
 subst e2
 exact ⟨Int.eq_of_mul_eq_mul_right (by omega) h, rfl⟩
theorem lowF_eq {p q r s : Int} (hq : q ≠ 0) (hs : s ≠ 0) (h : p * s = r * q) : lowP p q = lowP r s ∧ lowQ p q = lowQ r s := by
 refine low_uniq (low_pos hq) (low_pos hs) (low_cop hq) (low_cop hs) ?_
 have a := low_cross (p := p) hq
 have b := low_cross (p := r) hs
 apply Int.eq_of_mul_eq_mul_right (a := q * s) (Int.mul_ne_zero hq hs)
 calc lowP p q * lowQ r s * (q * s) = (lowP p q * q) * (lowQ r s * s) := by grind
  _ = p * lowQ p q * (lowQ r s * s) := by rw [a]
  _ = p * s * (lowQ p q * lowQ r s) := by grind
  _ = r * q * (lowQ p q * lowQ r s) := by rw [h]
  _ = r * lowQ r s * (lowQ p q * q) := by grind
  _ = lowP r s * s * (lowQ p q * q) := by rw [b]
  _ = lowP r s * lowQ p q * (q * s) := by grind
theorem low_self {p q : Int} (hq : 0 < q) (c : Nat.gcd p.natAbs q.natAbs = 1) : lowP p q = p ∧ lowQ p q = q := by
 unfold lowP lowQ gI
 rw [c, if_neg (by omega), if_neg (by omega)]
 exact ⟨Int.ediv_one _, Int.ediv_one _⟩
theorem lowP_le {p q : Int} (h : q ≠ 0) : (lowP p q).natAbs ≤ p.natAbs := by
 have h1 := (low_mul (p := p) h).1
 have h3 := gI_pos (p := p) h
 have e1 : (lowP p q).natAbs * (gI p q).natAbs = p.natAbs := by rw [← Int.natAbs_mul, h1]; split <;> omega
 rw [← e1]
 exact Nat.le_mul_of_pos_right _ (by omega)
theorem lowQ_le {p q : Int} (h : q ≠ 0) : (lowQ p q).natAbs ≤ q.natAbs := by
 have h1 := (low_mul (p := p) h).2
 have h3 := gI_pos (p := p) h
 have e1 : (lowQ p q).natAbs * (gI p q).natAbs = q.natAbs := by rw [← Int.natAbs_mul, h1]; split <;> omega
 rw [← e1]
 exact Nat.le_mul_of_pos_right _ (by omega)
end Go.Eng
namespace Go.Eng
theorem pow_bound {n K : Nat} (hn : n = 1229) (hK : K = 16384) : 10000 ^ n ≤ 2 ^ K := by
 obtain ⟨m, hm⟩ : ∃ m, m = 83 := ⟨_, rfl⟩
 have e : (10000 : Nat) ^ n = (10 ^ 59) ^ m * 10 ^ 19 := by
  rw [show (10000 : Nat) = 10 ^ 4 from rfl, ← Nat.pow_mul, ← Nat.pow_mul, ← Nat.pow_add]
  congr 1; omega
 have h1 : (10 : Nat) ^ 59 ≤ 2 ^ 196 := by decide
 have h2 : (10 : Nat) ^ 19 ≤ 2 ^ 64 := by decide
 have h3 : ((10 : Nat) ^ 59) ^ m ≤ (2 ^ 196) ^ m := Nat.pow_le_pow_left h1 m
 have h4 : (2 ^ 196) ^ m * 2 ^ 64 = 2 ^ (196 * m + 64) := by rw [← Nat.pow_mul, ← Nat.pow_add]
 rw [e]
 refine Nat.le_trans (Nat.mul_le_mul h3 h2) ?_
 rw [h4]
 exact Nat.pow_le_pow_right (by decide) (by omega)
def inR (v : Nat) : Prop := v < 2 ^ 16384
theorem fits_iff (v : Nat) : (tlen v < 1230 ∨ v < 2 ^ 16384) ↔ inR v := by
 obtain ⟨n, hn⟩ : ∃ n, n = 1229 := ⟨_, rfl⟩
 have hb := pow_bound (K := 16384) hn rfl
 unfold inR
 generalize (2 : Nat) ^ 16384 = q at *
 constructor
 ·rintro (h | h)
  ·have h2 : v < 10000 ^ n := tlen_iff.1 (by omega)
   exact Nat.lt_of_lt_of_le h2 hb
  ·exact h
 ·exact .inr
theorem wide_iff (v : Nat) : wlen v ≤ 512 ↔ inR v := by
 obtain ⟨n, hn⟩ : ∃ n, n = 512 := ⟨_, rfl⟩
 rw [← hn, wlen_iff]
 unfold inR
 have : (4294967296 : Nat) ^ n = 2 ^ 16384 := by
  rw [show (4294967296 : Nat) = 2 ^ 32 from rfl, ← Nat.pow_mul]
  congr 1; omega
 rw [this]
end Go.Eng
namespace Go.Eng
end Go.Eng
namespace Go.Eng
noncomputable instance inRdec (v : Nat) : Decidable (inR v) := Classical.propDecidable _
noncomputable def parseT (s : List UInt8) : Int × Int :=
 let neg : Bool := s.head? == some 45
 let ds := if neg then s.drop 1 else s
 if 5000 < s.length then (0, 4)
 else if ds = [] ∨ (ds.head? = some 48 ∧ (neg = true ∨ 1 < ds.length)) ∨ ¬ ds.all isDig = true then (0, 2)
 else if inR (tv ds) then (sgn neg (tv ds), 0) else (0, 4)
theorem head_len {l : List UInt8} : (l = [] ∨ ∃ c t, l = c :: t) := by cases l with
 | nil => exact .inl rfl
 | cons c t => exact .inr ⟨c, t, rfl⟩
theorem parseT_cases (s : List UInt8) : (5000 < s.length ∧ parseT s = (0, 4)) ∨ (s.length ≤ 5000 ∧ ∃ neg ds, ((neg = true ∧ s = 45 :: ds) ∨ (neg = false ∧ s = ds ∧ ds.head? ≠ some 45)) ∧
  ((ds = [] ∨ (ds.head? = some 48 ∧ (neg = true ∨ 1 < ds.length)) ∨ ¬ ds.all isDig = true) ∧ parseT s = (0, 2) ∨
   ds ≠ [] ∧ (ds.head? = some 48 → neg = false ∧ ds.length = 1) ∧ ds.all isDig = true ∧ (inR (tv ds) ∧ parseT s = (sgn neg (tv ds), 0) ∨ ¬ inR (tv ds) ∧ parseT s = (0, 4)))) := by
 by_cases hl : 5000 < s.length
 ·exact .inl ⟨hl, by unfold parseT; simp only [hl, if_true]⟩
 ·right
  refine ⟨by omega, s.head? == some 45, if (s.head? == some 45) then s.drop 1 else s, ?_, ?_⟩
  ·by_cases h : s.head? = some 45
   ·left
    rw [h]
    refine ⟨rfl, ?_⟩
    cases s with
    | nil => cases h
    | cons c t => simp only [List.head?_cons, Option.some.injEq] at h; subst h; rfl
   ·right
    have : (s.head? == some 45) = false := by simpa using h
    rw [this]
    exact ⟨rfl, by simp, by simpa using h⟩
  ·have e : parseT s = (if (if (s.head? == some 45) then s.drop 1 else s) = [] ∨ ((if (s.head? == some 45) then s.drop 1 else s).head? = some 48 ∧ ((s.head? == some 45) = true ∨ 1 < (if (s.head? == some 45) then s.drop 1 else s).length)) ∨ ¬ (if (s.head? == some 45) then s.drop 1 else s).all isDig = true then (0, 2)
     else if inR (tv (if (s.head? == some 45) then s.drop 1 else s)) then (sgn (s.head? == some 45) (tv (if (s.head? == some 45) then s.drop 1 else s)), 0) else (0, 4)) := by
    unfold parseT
    simp only [hl, if_false]
   rw [e]
   generalize (if (s.head? == some 45) = true then s.drop 1 else s) = ds
   generalize (s.head? == some 45) = neg
   by_cases h1 : ds = [] ∨ (ds.head? = some 48 ∧ (neg = true ∨ 1 < ds.length)) ∨ ¬ ds.all isDig = true
   ·exact .inl ⟨h1, by rw [if_pos h1]⟩
   ·right
    rw [if_neg h1]
    have n1 : ds ≠ [] := fun q => h1 (.inl q)
    refine ⟨n1, fun q => ?_, ?_, ?_⟩
    ·have h2 : ¬ (neg = true ∨ 1 < ds.length) := fun r => h1 (.inr (.inl ⟨q, r⟩))
     have h3 : ds.length ≠ 0 := fun r => n1 (List.eq_nil_of_length_eq_zero r)
     refine ⟨?_, ?_⟩
     ·cases neg
      ·rfl
      ·exact (h2 (.inl rfl)).elim
     ·have : ¬ 1 < ds.length := fun r => h2 (.inr r)
      omega
    ·by_cases q : ds.all isDig = true
     ·exact q
     ·exact (h1 (.inr (.inr q))).elim
    ·by_cases h3 : inR (tv ds)
     ·exact .inl ⟨h3, by rw [if_pos h3]⟩
     ·exact .inr ⟨h3, by rw [if_neg h3]⟩
end Go.Eng
namespace Go.Eng
theorem p_HasPrefix (s : List UInt8) (hs : s.length < 4611686018427387904) : pf E0 85 [.s s, .s [45]] = some (.b (s.head? == some 45)) := by
 refine pf_run (xf := x_internal_stringslite_HasPrefix) rfl (by simp [x_internal_stringslite_HasPrefix]) ?_
 simp only [x_internal_stringslite_HasPrefix]
 cases s with
 | nil =>
  have q1 : (((0 : Nat) : Int) ≥ 1) = False := by simp
  simp (disch := omega) only [go_sem, seval, wqa, wqb, wqc, wqd, wqe, Int.natCast_one, q1, Int.natCast_zero, Int.reduceLE, ge_iff_le]
  rfl
 | cons c t =>
  have q1 : (((t.length + 1 : Nat) : Int) ≥ 1) = True := by simp; omega
  have hc : slStrP (c :: t) none (some (.i .i64 1)) = some (.s [c]) := by
   simp only [slStrP, optP, show (PV.i IntKind.i64 1) = .i .i64 ((1 : Nat) : Int) from rfl, asNP_nat]
   rw [if_pos ⟨by omega, by simp⟩]; rfl
  simp (disch := omega) only [go_sem, seval, wqa, wqb, wqc, wqd, wqe, Int.natCast_one, q1, hc]
  congr 2
  by_cases h : c = 45
  ·subst h; rfl
  ·have : (some c == some (45 : UInt8)) = false := by simpa using h
   simp [h, this]
theorem p_CutPrefix {neg : Bool} {s ds : List UInt8} (hs : s.length < 4611686018427387904) (h : (neg = true ∧ s = 45 :: ds) ∨ (neg = false ∧ s = ds ∧ ds.head? ≠ some 45)) : pf E0 129 [.s s, .s [45]] = some (.tu [.s ds, .b neg]) := by
 have inner : pf E0 137 [.s s, .s [45]] = some (.tu [.s ds, .b neg]) := by
  refine pf_run (xf := x_internal_stringslite_CutPrefix) rfl (by simp [x_internal_stringslite_CutPrefix]) ?_
  simp only [x_internal_stringslite_CutPrefix]
  have hp := p_HasPrefix s hs
  rcases h with ⟨rfl, rfl⟩ | ⟨rfl, rfl, h45⟩
  ·have e : ((45 :: ds).head? == some (45 : UInt8)) = true := rfl
   rw [e] at hp
   have hc : slStrP (45 :: ds) (some (.i .i64 1)) none = some (.s ds) := by
    simp only [slStrP, optP, show (PV.i IntKind.i64 1) = .i .i64 ((1 : Nat) : Int) from rfl, asNP_nat]
    rw [if_pos ⟨by simp, Nat.le_refl _⟩]
    simp
   simp (disch := omega) only [go_sem, seval, wqa, wqb, wqc, wqd, wqe, hp, Int.natCast_one, hc]
  ·have e : (s.head? == some (45 : UInt8)) = false := by simpa using h45
   rw [e] at hp
   simp (disch := omega) only [go_sem, seval, wqa, wqb, wqc, wqd, wqe, hp]
 refine pf_run (xf := x_strings_CutPrefix) rfl (by simp [x_strings_CutPrefix]) ?_
 simp only [x_strings_CutPrefix]
 simp (disch := omega) only [go_sem, seval, wqa, wqb, wqc, wqd, wqe, inner]
set_option maxRecDepth 20000 in
theorem trim_dig (ds : List UInt8) : ((((ds.reverse.dropWhile (([48, 49, 50, 51, 52, 53, 54, 55, 56, 57] : List UInt8).contains ·)).reverse).dropWhile (([48, 49, 50, 51, 52, 53, 54, 55, 56, 57] : List UInt8).contains ·)) = []) = (ds.all isDig = true) := by
 have hc : ∀ c : UInt8, ([48, 49, 50, 51, 52, 53, 54, 55, 56, 57] : List UInt8).contains c = isDig c := fun c => by
  have h : ∀ n : Fin 256, ([48, 49, 50, 51, 52, 53, 54, 55, 56, 57] : List UInt8).contains (UInt8.ofNat n.val) = isDig (UInt8.ofNat n.val) := by decide
  have h2 := h ⟨c.toNat, c.toNat_lt⟩
  simpa using h2
 simp only [hc]
 have aux : ∀ l : List UInt8, l.dropWhile isDig = [] ↔ l.all isDig = true := fun l => by
  induction l with
  | nil => simp
  | cons c l ih =>
   rw [List.dropWhile_cons, List.all_cons, Bool.and_eq_true]
   by_cases h : isDig c = true
   ·rw [if_pos h, ih]; simp [h]
   ·rw [if_neg h]; simp [h]
 apply propext
 rw [aux, List.all_reverse]
 constructor
 ·intro h
  by_cases hd : ds.all isDig = true
  ·exact hd
  ·exfalso
   have h1 : ds.reverse.dropWhile isDig ≠ [] := fun q => hd (by rw [← List.all_reverse]; exact (aux _).1 q)
   obtain ⟨c, t, he⟩ : ∃ c t, ds.reverse.dropWhile isDig = c :: t := by
    cases hq : ds.reverse.dropWhile isDig with
    | nil => exact (h1 hq).elim
    | cons c t => exact ⟨c, t, rfl⟩
   have h2 := List.head?_dropWhile_not isDig ds.reverse
   rw [he] at h h2
   simp only [List.head?_cons] at h2
   simp only [List.all_cons, Bool.and_eq_true] at h
   rw [h.1] at h2
   simp at h2
 ·intro hd
  have : ds.reverse.dropWhile isDig = [] := (aux _).2 (by rw [List.all_reverse]; exact hd)
  rw [this]; rfl
theorem trim_ex (ds : List UInt8) (h : ds.length ≤ 9223372036854775807) : ∃ t, (t = [] ↔ ds.all isDig = true) ∧ pf E0 130 [.s ds, .s [48, 49, 50, 51, 52, 53, 54, 55, 56, 57]] = some (.s t) := by
 refine ⟨_, by rw [← trim_dig ds], porc_130 ?_ rfl⟩
 simp only [orcP, libP]
 rw [if_neg (by decide), if_pos ⟨trivial, h, by decide, by decide⟩]
 rfl
theorem atoi_cl {l : List UInt8} (h0 : l ≠ []) (h1 : l.length ≤ 18) (h2 : l.all isDig = true) : pf E0 131 [.s l] = some (.tu [.i .i64 (tv l : Nat), .inil]) := by
 refine porc_131 ?_ rfl
 simp only [orcP, libP]
 rw [if_neg (by decide), if_pos ⟨trivial, h0, h1, h2⟩]
 rfl
theorem w_one {v : Nat} (h : v < 4294967296) : PV.lst [(PV.i .u32 ((v : Nat) : Int))] = Dw 1 v := by
 have e : tab 1 (fun k => (PV.i .u32 ((dgt v k : Nat) : Int))) = [(PV.i .u32 ((dgt v 0 : Nat) : Int))] := rfl
 rw [Dw, e, dgt_z, Nat.mod_eq_of_lt h]
theorem dlen_wl {v n : Nat} (h : v < 10 ^ n) : wlen v ≤ n := by
 rw [wlen_iff]
 exact Nat.lt_of_lt_of_le h (Nat.pow_le_pow_left (by decide) n)
def wparse_R : XC := match x_wide_Parse.body with
 | .seq _ (.seq _ (.seq _ (.seq _ (.seq _ (.seq _ r))))) => r
 | _ => .skip
theorem wparse_l1 {F : PFin} {ds : List UInt8} (hl : ds.length ≤ 5000) (hd : ds.all isDig = true) {fr : PFr} {B : PB} {neg : Bool} (h2 : fr 2 = .p 0 0) (h4 : fr 4 = .s ds) (h5 : fr 5 = .b neg) (h6 : fr 6 = .nl)
  (cont : ∀ (fr' : PFr) (M' : PM), fr' 2 = .p 0 0 → fr' 5 = .b neg → (∀ M d, fz M (d + 1) (fr' 6) = some (D (tv ds), [])) → PM.blk M' 0 = some B → WK E0 F wparse_R [] fr' M') :
  WK E0 F (.loop x_wide_Parse_l1) [.block 0, .seq wparse_R] fr [some B] := by
 refine wk_ind x_wide_Parse_l1.eq_1 (fun (x : Nat × List UInt8) fr M => x.2.length ≤ ds.length ∧ x.2.all isDig = true ∧ (x.1 = 0 ∨ x.2.length % 9 = 0) ∧ x.1 * 10 ^ x.2.length + tv x.2 = tv ds ∧ fr 2 = .p 0 0 ∧ fr 4 = .s x.2 ∧ fr 5 = .b neg ∧ (∀ M d, fz M (d + 1) (fr 6) = some (D x.1, [])) ∧ PM.blk M 0 = some B) (fun x => x.2.length) ?_ (0, ds) ⟨Nat.le_refl _, hd, .inl rfl, by simp, h2, h4, h5, fun M d => by rw [h6]; rfl, rfl⟩
 rintro ⟨m, rs⟩ fr M ⟨hrl, hrd, h9, hv, h2, h4, h5, h6, hb⟩ ih
 simp only at hrl hrd h9 hv h4 h6 ih
 cases rs with
 | nil =>
  have hm : m = tv ds := by simpa [tv] using hv
  subst hm
  simp (disch := omega) only [go_sem, seval, wqa, wqb, wqc, wqd, wqe, h4, Int.natCast_zero, Int.lt_irrefl, gt_iff_lt]
  exact cont _ _ (by simp only [go_sem, seval, h2]) (by simp only [go_sem, seval, h5]) (fun M d => by simp only [go_sem, seval]; exact h6 M d) hb
 | cons c t =>
  have htl : t.length < 5000 := by simp only [List.length_cons] at hrl; omega
  obtain ⟨n, hn⟩ : ∃ n, n = t.length % 9 + 1 := ⟨_, rfl⟩
  have hn9 : n ≤ 9 := by omega
  have hnl : n ≤ (c :: t).length := by simp; omega
  have q1 : (((t.length + 1 : Nat) : Int) > 0) = True := by simp
  have i1 : (((t.length + 1 : Nat) : Int) - 1) = ((t.length : Nat) : Int) := by omega
  have i2 : ((t.length : Int)).tmod 9 = ((t.length % 9 : Nat) : Int) := nat_tmod t.length 9
  have i3 : ((t.length % 9 : Nat) : Int) + 1 = (n : Int) := by omega
  obtain ⟨a, ha⟩ : ∃ a, a = (c :: t).take n := ⟨_, rfl⟩
  obtain ⟨b, hbb⟩ : ∃ b, b = (c :: t).drop n := ⟨_, rfl⟩
  have hal : a.length = n := by rw [ha, List.length_take]; omega
  have hbl : b.length = (c :: t).length - n := by rw [hbb, List.length_drop]
  have hab : c :: t = a ++ b := by rw [ha, hbb, List.take_append_drop]
  have had : a.all isDig = true := by rw [hab, List.all_append, Bool.and_eq_true] at hrd; exact hrd.1
  have hbd : b.all isDig = true := by rw [hab, List.all_append, Bool.and_eq_true] at hrd; exact hrd.2
  have hc1 : slStrP (c :: t) none (some (.i .i64 (n : Int))) = some (.s a) := by
   simp only [slStrP, optP, asNP_nat]
   rw [if_pos ⟨by omega, hnl⟩, List.drop_zero, ha]
  have hc2 : slStrP (c :: t) (some (.i .i64 (n : Int))) none = some (.s b) := by
   simp only [slStrP, optP, asNP_nat]
   rw [if_pos ⟨hnl, Nat.le_refl _⟩, List.take_length, hbb]
  have hat := atoi_cl (l := a) (by intro q; rw [q] at hal; simp at hal; omega) (by omega) had
  have hav : tv a < 1000000000 := Nat.lt_of_lt_of_le (tv_lt a had) (by rw [hal]; exact Nat.pow_le_pow_right (by decide) hn9)
  have hvd := tv_lt ds hd
  have hmv : m < 10 ^ ds.length := by
   have : m * 1 ≤ m * 10 ^ (c :: t).length := Nat.mul_le_mul_left _ (Nat.pow_pos (by decide))
   omega
  have hml := dlen_wl hmv
  have hmlt := wlen_lt m
  have h59 : pf E0 59 [D m, Dw 1 1000000000] = some (Dw (wlen m + 1) (m * 1000000000)) := p_times' hmlt (by decide) (by omega) (by omega)
  have hmm : m * 1000000000 < 4294967296 ^ (wlen m + 1) := by rw [Nat.pow_succ]; exact Nat.mul_lt_mul'' hmlt (by decide)
  have h40 : pf E0 40 [Dw (wlen m + 1) (m * 1000000000), Dw 1 (tv a)] = some (Dw (max (wlen m + 1) 1 + 1) (m * 1000000000 + tv a)) := p_sum hmm (by omega) (by omega) (by omega)
  have hsl : m * 1000000000 + tv a < 4294967296 ^ (max (wlen m + 1) 1 + 1) := by
   rw [Nat.max_eq_left (by omega)]
   have h1 : m * 1000000000 + tv a < (m + 1) * 1000000000 := by rw [Nat.add_mul, Nat.one_mul]; exact Nat.add_lt_add_left hav _
   have h2 : (m + 1) * 1000000000 ≤ 4294967296 ^ wlen m * 4294967296 := by
    refine Nat.mul_le_mul (Nat.succ_le_of_lt hmlt) ?_
    omega
   rw [← Nat.pow_succ] at h2
   exact Nat.lt_of_lt_of_le h1 (Nat.le_trans h2 (Nat.pow_le_pow_right (by decide) (by omega)))
  have h49 : pf E0 49 [Dw (max (wlen m + 1) 1 + 1) (m * 1000000000 + tv a)] = some (D (m * 1000000000 + tv a)) := p_normal' hsl (by omega)
  have w1 : PV.lst [.i .u32 1000000000] = Dw 1 1000000000 := w_one (v := 1000000000) (by decide)
  have w2 : PV.lst [(PV.i .u32 ((tv a : Nat) : Int))] = Dw 1 (tv a) := w_one (by omega)
  simp (disch := omega) only [go_sem, seval, wqa, wqb, wqc, wqd, wqe, h4, q1, i1, i2, i3, hc1, hc2, hat, h6, w1, h59, blk_app, group, List.headD_cons, w2, h40, h49, set_app]
  have hnew : (m * 1000000000 + tv a) * 10 ^ b.length + tv b = tv ds := by
   rw [← hv, hab, tv_app, List.length_append, Nat.pow_add, hal]
   rcases h9 with h9 | h9
   ·rw [h9]; simp
   ·have : n = 9 := by simp only [List.length_cons] at h9; omega
    rw [this]
    show (m * 10 ^ 9 + tv a) * 10 ^ b.length + tv b = m * (10 ^ 9 * 10 ^ b.length) + (tv a * 10 ^ b.length + tv b)
    rw [Nat.add_mul, Nat.mul_assoc]; omega
  have hb9 : b.length % 9 = 0 := by rw [hbl]; simp only [List.length_cons]; omega
  refine ih (m * 1000000000 + tv a, b) _ _ (by rw [hbl]; simp only [List.length_cons]; omega) ⟨by simp only; omega, hbd, .inr hb9, hnew, by simp only [go_sem, seval, h2], by simp only [go_sem, seval], by simp only [go_sem, seval, h5], fun M d => by simp only [go_sem, seval], ?_⟩
  refine blk_old (blk_old hb _) _
theorem p_Parse (s : List UInt8) (hs : s.length < 4611686018427387904) : pf E0 110 [.s s] = some (.tu [wiP (clip (parseT s).1), .i .i64 (parseT s).2]) := by
 refine pf_run (xf := x_wide_Parse) rfl (by simp [x_wide_Parse]) ?_
 have c0 : clip 0 = wi0 := clip_ok (z := 0) (by simp [wlen_zero])
 rcases parseT_cases s with ⟨hl, hp⟩ | ⟨hl, neg, ds, hsg, hsp⟩
 ·rw [hp, c0]
  simp only [x_wide_Parse]
  have q1 : ((s.length : Int) > 5000) = True := by simp; omega
  simp (disch := omega) only [go_sem, seval, wqa, wqb, wqc, wqd, wqe, q1]
 ·have hdl : ds.length ≤ 5000 := by
   rcases hsg with ⟨_, rfl⟩ | ⟨_, rfl, _⟩
   ·simp at hl; omega
   ·exact hl
  have q1 : ((s.length : Int) > 5000) = False := by simp; omega
  have hcp := p_CutPrefix hs hsg
  obtain ⟨t, ht1, ht2⟩ := trim_ex ds (by omega)
  have good : ds.all isDig = true → (inR (tv ds) ∧ parseT s = (sgn neg (tv ds), 0) ∨ ¬ inR (tv ds) ∧ parseT s = (0, 4)) → ∀ {fr : PFr}, fr 2 = .p 0 0 → fr 4 = .s ds → fr 5 = .b neg → fr 6 = .nl →
    WK E0 ⟨[.cell 2 true 2, .tmp 3], fun w M2 => (fz M2 fzD w).map Prod.fst = some (.tu [wiP (clip (parseT s).1), .i .i64 (parseT s).2])⟩ (.loop x_wide_Parse_l1) [.block 0, .seq wparse_R] fr [some ⟨[.b false, .nl], true, 0⟩] := fun hd hp {fr} h2 h4 h5 h6 => by
   refine wparse_l1 hdl hd h2 h4 h5 h6 fun fr' M' g2 g5 g6 gb => ?_
   unfold wparse_R
   simp only [x_wide_Parse]
   have hsi := p_signed neg (wlen (tv ds)) (tv ds) (wlen_lt _) (by have := dlen_wl (tv_lt ds hd); omega)
   have hlt := blk_lt gb
   have hset : ∀ Y, PM.blk (List.set M' 0 (some Y)) 0 = some Y := fun Y => blk_setE hlt
   have hres : parseT s = ((if inR (tv ds) then (if neg then -(tv ds : Int) else (tv ds : Int)) else 0), lerr (tv ds : Int)) := by
    rcases hp with ⟨h1, h2⟩ | ⟨h1, h2⟩
    ·rw [h2, if_pos h1, lerr_ok (by simpa using (wide_iff _).2 h1)]; rfl
    ·rw [h2, if_neg h1, lerr_no (by simpa using fun q => h1 ((wide_iff _).1 q))]
   have hcl : clip (if neg then -(tv ds : Int) else (tv ds : Int)) = clip (parseT s).1 := by
    rw [hres]
    by_cases h1 : inR (tv ds)
    ·simp only [if_pos h1]
    ·simp only [if_neg h1]
     rw [clip_no, c0]
     cases neg <;> simp <;> exact Nat.lt_of_not_le fun q => h1 ((wide_iff _).1 q)
   rw [hcl] at hsi
   have he : lerr (tv ds : Int) = (parseT s).2 := by rw [hres]
   rw [he] at hsi
   simp (disch := omega) only [go_sem, seval, wqa, wqb, wqc, wqd, wqe, g2, g5, g6, hsi, gb, hset]
  simp only [x_wide_Parse]
  rcases head_len (l := ds) with rfl | ⟨c, r, rfl⟩
  ·have hp : parseT s = (0, 2) := by
    rcases hsp with ⟨_, h⟩ | ⟨h, _⟩
    ·exact h
    ·exact (h rfl).elim
   rw [hp, c0]
   simp (disch := omega) only [go_sem, seval, wqa, wqb, wqc, wqd, wqe, q1, hcp]
  ·have q0 : (c :: r = []) = False := by simp
   by_cases ha : (c :: r).all isDig = true
   ·have htn : (t = []) = True := by simp [ht1.2 ha]
    have hts : (t ≠ []) = False := by simp [ht1.2 ha]
    by_cases h48 : c.toNat = 48
    ·have q2 : ((c.toNat : Int) = 48) = True := by simp; omega
     have hc : c = 48 := UInt8.toNat_inj.1 h48
     cases neg
     ·by_cases hr : r = []
      ·have q3 : (((r.length + 1 : Nat) : Int) > 1) = False := by subst hr; simp
       have hp : inR (tv (c :: r)) ∧ parseT s = (sgn false (tv (c :: r)), 0) ∨ ¬ inR (tv (c :: r)) ∧ parseT s = (0, 4) := by
        rcases hsp with ⟨h | ⟨_, h | h⟩ | h, _⟩ | ⟨_, _, _, h⟩
        ·cases h
        ·cases h
        ·subst hr; simp at h
        ·exact (h ha).elim
        ·exact h
       simp (disch := omega) only [go_sem, seval, wqa, wqb, wqc, wqd, wqe, q1, hcp, q0, ht2, htn, q2, q3]
       exact good ha hp (by simp only [go_sem, seval]) (by simp only [go_sem, seval]) (by simp only [go_sem, seval]) (by simp only [go_sem, seval])
      ·have q3 : (((r.length + 1 : Nat) : Int) > 1) = True := by
        cases r with
        | nil => exact (hr rfl).elim
        | cons _ _ => simp; omega
       have hp : parseT s = (0, 2) := by
        rcases hsp with ⟨_, h⟩ | ⟨_, h, _⟩
        ·exact h
        ·have := (h (by rw [hc]; rfl)).2
         cases r with
         | nil => exact (hr rfl).elim
         | cons _ _ => simp at this
       rw [hp, c0]
       simp (disch := omega) only [go_sem, seval, wqa, wqb, wqc, wqd, wqe, q1, hcp, q0, ht2, htn, q2, q3]
     ·have hp : parseT s = (0, 2) := by
       rcases hsp with ⟨_, h⟩ | ⟨_, h, _⟩
       ·exact h
       ·have := (h (by rw [hc]; rfl)).1
        cases this
      rw [hp, c0]
      simp (disch := omega) only [go_sem, seval, wqa, wqb, wqc, wqd, wqe, q1, hcp, q0, ht2, htn, q2]
    ·have q2 : ((c.toNat : Int) = 48) = False := by simp; omega
     have hp : inR (tv (c :: r)) ∧ parseT s = (sgn neg (tv (c :: r)), 0) ∨ ¬ inR (tv (c :: r)) ∧ parseT s = (0, 4) := by
      rcases hsp with ⟨h | ⟨h, _⟩ | h, _⟩ | ⟨_, _, _, h⟩
      ·cases h
      ·simp only [List.head?_cons, Option.some.injEq] at h; rw [h] at h48; exact (h48 rfl).elim
      ·exact (h ha).elim
      ·exact h
     simp (disch := omega) only [go_sem, seval, wqa, wqb, wqc, wqd, wqe, q1, hcp, q0, ht2, htn, q2]
     exact good ha hp (by simp only [go_sem, seval]) (by simp only [go_sem, seval]) (by simp only [go_sem, seval]) (by simp only [go_sem, seval])
   ·have htn : (t = []) = False := by simp only [eq_iff_iff, iff_false]; exact fun q => ha (ht1.1 q)
    have hp : parseT s = (0, 2) := by
     rcases hsp with ⟨_, h⟩ | ⟨_, _, h, _⟩
     ·exact h
     ·exact (ha h).elim
    rw [hp, c0]
    simp (disch := omega) only [go_sem, seval, wqa, wqb, wqc, wqd, wqe, q1, hcp, q0, ht2, htn]
end Go.Eng
namespace Go.Eng
theorem dec_head {v : Nat} (h : v ≠ 0) : ∃ c t, dec v = c :: t ∧ 49 ≤ c.toNat ∧ c.toNat ≤ 57 ∧ (c :: t).length = dlen v := by
 have h1 := dlen_lt v
 have h0 : dlen v ≠ 0 := fun q => by rw [q] at h1; simp at h1; omega
 obtain ⟨n, hn⟩ : ∃ n, dlen v = n + 1 := ⟨dlen v - 1, by omega⟩
 have h2 : ¬ v < 10 ^ n := fun q => by have := dlen_iff.2 q; omega
 have e : dec v = UInt8.ofNat (48 + v / 10 ^ n % 10) :: dtx n v := by rw [dec_dtx h, hn]; rfl
 have hp : 0 < 10 ^ n := Nat.pow_pos (by decide)
 have h3 : v / 10 ^ n < 10 := by
  rw [Nat.div_lt_iff_lt_mul hp, Nat.mul_comm, ← Nat.pow_succ, show n.succ = dlen v from hn.symm]; exact h1
 have h4 : 0 < v / 10 ^ n := Nat.div_pos (by omega) hp
 have ht : (UInt8.ofNat (48 + v / 10 ^ n % 10)).toNat = 48 + v / 10 ^ n % 10 := dch _ (by omega)
 exact ⟨_, _, e, by rw [ht]; omega, by rw [ht]; omega, by rw [hn]; simp⟩
theorem dec_inj {v w : Nat} (h : dec v = dec w) : v = w := by
 have := congrArg tv h
 rwa [tv_dec, tv_dec] at this
theorem dec_45 (v : Nat) : ∀ l, dec v ≠ 45 :: l := fun l q => by
 by_cases h : v = 0
 ·subst h; cases q
 ·obtain ⟨c, t, e, h1, _⟩ := dec_head h
  rw [e] at q; cases q
  revert h1; decide
theorem decI_inj {z w : Int} (h : decI z = decI w) : z = w := by
 unfold decI at h
 split at h <;> split at h
 ·have := dec_inj (List.cons.inj h).2; omega
 ·exact (dec_45 _ _ h.symm).elim
 ·exact (dec_45 _ _ h).elim
 ·have := dec_inj h; omega
theorem two_bound {n K : Nat} (hn : n = 177) (hK : K = 16384) : 2 ^ K ≤ 10 ^ (28 * n) := by
 have e1 : (2 : Nat) ^ K ≤ (2 ^ 93) ^ n := by
  rw [← Nat.pow_mul 2]
  exact Nat.pow_le_pow_right (by decide) (by omega)
 have e2 : ((2 : Nat) ^ 93) ^ n ≤ (10 ^ 28) ^ n := Nat.pow_le_pow_left (by decide) n
 rw [← Nat.pow_mul 10] at e2
 exact Nat.le_trans e1 e2
theorem two_pos (K : Nat) : 0 < 2 ^ K := Nat.pow_pos (by decide)
theorem inR_zero : inR 0 := two_pos 16384
theorem inR_dlen {v : Nat} (h : inR v) : dlen v ≤ 4956 := by
 obtain ⟨n, hn⟩ : ∃ n, n = 177 := ⟨_, rfl⟩
 have e := two_bound (K := 16384) hn rfl
 have h : v < 2 ^ 16384 := h
 have := dlen_iff.2 (Nat.lt_of_lt_of_le h e)
 omega
theorem parseT_dec (z : Int) : parseT (decI z) = if inR z.natAbs then (z, 0) else (0, 4) := by
 by_cases h0 : z = 0
 ·subst h0
  have h1 : inR (0 : Int).natAbs := inR_zero
  have h2 : decI 0 = [48] := rfl
  rw [if_pos h1, h2]
  have h3 : inR (tv [48]) := h1
  unfold parseT
  rw [if_neg (by decide), if_neg (by decide)]
  exact if_pos h3
 ·have hv : z.natAbs ≠ 0 := by omega
  obtain ⟨c, t, e, hc1, hc2, hl⟩ := dec_head hv
  have hd := dig_dec z.natAbs
  have ht := tv_dec z.natAbs
  have h45 : c ≠ 45 := by rintro rfl; revert hc1; decide
  have h48 : c ≠ 48 := by rintro rfl; revert hc1; decide
  have hlen : (decI z).length ≤ dlen z.natAbs + 1 := by
   unfold decI; split <;> simp only [List.length_cons, e] at * <;> omega
  have hlen2 : dlen z.natAbs ≤ (decI z).length := by
   unfold decI; split <;> simp only [List.length_cons, e] at * <;> omega
  rcases parseT_cases (decI z) with ⟨h1, h2⟩ | ⟨h1, neg, ds, hsg, hsp⟩
  ·have : ¬ inR z.natAbs := fun q => by have := inR_dlen q; omega
   rw [if_neg this, h2]
  ·have hds : ds = dec z.natAbs ∧ sgn neg z.natAbs = z := by
    rcases hsg with ⟨rfl, g⟩ | ⟨rfl, g, g2⟩
    ·unfold decI at g
     split at g
     ·cases g; exact ⟨rfl, by unfold sgn; simp; omega⟩
     ·exact (dec_45 _ _ g).elim
    ·unfold decI at g
     split at g
     ·rw [← g] at g2; exact (g2 rfl).elim
     ·exact ⟨g.symm, by unfold sgn; simp; omega⟩
   obtain ⟨rfl, hs⟩ := hds
   rcases hsp with ⟨h | ⟨h, _⟩ | h, _⟩ | ⟨_, _, _, ⟨h3, h4⟩ | ⟨h3, h4⟩⟩
   ·rw [e] at h; cases h
   ·rw [e] at h; simp at h; exact (h48 h).elim
   ·exact (h hd).elim
   ·rw [ht] at h3 h4
    rw [if_pos h3, h4, hs]
   ·rw [ht] at h3
    rw [if_neg h3, h4]
theorem p_Str (x : WI) : pf E0 33 [wiP x] = some (.s (decI x.v)) := by
 refine porc_33 ?_ rfl
 have hw : ∀ (l : List Nat), Ok32 l → wordsP (l.map fun n => (PV.i .u32 ((n : Nat) : Int))) = some l := fun l => by
  induction l with
  | nil => intro _; rfl
  | cons n l ih =>
   intro h
   have h1 := h n (List.mem_cons_self ..)
   rw [List.map_cons]
   unfold wordsP
   rw [if_pos ⟨by omega, by omega⟩, ih fun x hx => h x (List.mem_cons_of_mem _ hx)]
   simp
 have hD : D x.v.natAbs = .lst ((dig x.v.natAbs).map fun n => (PV.i .u32 ((n : Nat) : Int))) := (W_dw _ _).symm
 have hg : (dig x.v.natAbs).getLast? ≠ some 0 := fun q => by
  by_cases h : x.v.natAbs = 0
  ·rw [h] at q; cases q
  ·have h1 := wlen_pos h
   have h2 : (dig x.v.natAbs).getLast? = some (dgt x.v.natAbs (wlen x.v.natAbs - 1)) := by
    rw [List.getLast?_eq_getElem?]
    unfold dig dw
    rw [tab_length, tab_lt (by omega)]
   rw [h2] at q
   have h3 := Option.some.inj q
   rw [dgt_def] at h3
   have h4 := wlen_le h
   have h5 : x.v.natAbs / 4294967296 ^ (wlen x.v.natAbs - 1) < 4294967296 := by
    have := wlen_lt x.v.natAbs
    rw [show wlen x.v.natAbs = wlen x.v.natAbs - 1 + 1 by omega, Nat.pow_succ] at this
    exact Nat.div_lt_of_lt_mul this
   have h6 := Nat.div_pos h4 (Bpos _)
   rw [Nat.mod_eq_of_lt h5] at h3
   omega
 have hx := x.lim
 rw [wiP_def, hD]
 simp only [orcP, txtP, if_true, hw _ (ok_dig _), Option.bind_some]
 unfold wtx
 have hnz : decide (x.v < 0) = true → dig x.v.natAbs ≠ [] := fun h => by
  have h1 : x.v < 0 := by simpa using h
  intro q
  have h2 := dig_length x.v.natAbs
  rw [q] at h2
  have := wlen_pos (v := x.v.natAbs) (by omega)
  simp at h2; omega
 rw [if_pos ⟨by rw [dig_length]; exact hx, hg, hnz⟩, val_dig]
 ·have e : (if decide (x.v < 0) = true then -((x.v.natAbs : Nat) : Int) else ((x.v.natAbs : Nat) : Int)) = x.v := by
   by_cases h : x.v < 0
   ·rw [if_pos (by simpa using h)]; omega
   ·rw [if_neg (by simpa using h)]; omega
  rw [e]; rfl
end Go.Eng
namespace Go.Eng
theorem dec_eval {v n : Nat} (h1 : 10 ^ n ≤ v) (h2 : v < 10 ^ (n + 1)) : dec v = dtx (n + 1) v := by
 have h0 : v ≠ 0 := by have := Nat.pow_pos (n := n) (by decide : 0 < 10); omega
 have : dlen v = n + 1 := by
  have a := dlen_iff.2 h2
  have b : ¬ dlen v ≤ n := fun q => by have := dlen_iff.1 q; omega
  omega
 rw [dec_dtx h0, this]
theorem from_ex {n : Int} (h : Fits64 n) : ∃ x : WI, x.v = n ∧ pf E0 34 [.i .i64 n] = some (wiP x) := ⟨wiOf n h, rfl, p_From h⟩
end Go.Eng
namespace Go.Eng
def isPP : PV → Bool
 | .p _ _ => true
 | _ => false
@[go_sem] theorem isPP_p (n o : Nat) : isPP (.p n o) = true := _root_.id rfl
def slotIn (E : PEnv) (ops : List XOper) (L : List Nat) (c : Nat × Nat) : Bool :=
 match ops[c.1]?, ops[c.2]? with
 | some a, some b =>
  match a.op with
  | .load _ _ (.t s) => L.contains s && calmOp E b.op && (ops.all fun o => o.dst != some s)
  | _ => false
 | _, _ => false
theorem wk_calmX {E : PEnv} {F : PFin} {ops : List XOper} {chk : List (Nat × Nat)} {ks : List KI} {fr : PFr} {M : PM} (L : List Nat) (hL : chk.all (fun c => calmC E ops c || slotIn E ops L c) = true) (hp : L.all (fun s => isPP (fr s)) = true) (w : WL E F ops ks fr M) :
  WK E F (.drw ops chk) ks fr M := by
 refine wk_calmG (fun fr2 Ms hT => ?_) w
 rw [List.all_eq_true] at hL hp ⊢
 rintro ⟨i, j⟩ hc
 have h1 := hL _ hc
 simp only [Bool.or_eq_true] at h1
 rcases h1 with h1 | h1
 ·exact calm_chk hT h1
 ·unfold slotIn at h1
  split at h1
  ·rename_i a b ha hb
   split at h1
   ·rename_i z k s hop
    simp only [Bool.and_eq_true] at h1
    obtain ⟨⟨c1, c2⟩, c3⟩ := h1
    have hs := hp s (List.contains_iff_mem.1 c1)
    cases hf : fr s with
    | p n o => exact calm_chkL hT ha hb hop c2 c3 hf
    | _ => rw [hf] at hs; simp [isPP] at hs
   ·cases h1
  ·cases h1
attribute [go_sem] List.all_cons List.all_nil
def slotIn2 (E : PEnv) (ops : List XOper) (L : List Nat) (c : Nat × Nat) : Bool :=
 match ops[c.1]?, ops[c.2]? with
 | some a, some b =>
  match a.op with
  | .load _ _ (.t s) => L.contains s && calmOp E b.op
  | _ => false
 | _, _ => false
theorem wk_calmR {E : PEnv} {F : PFin} {ops : List XOper} {chk : List (Nat × Nat)} {ks : List KI} {fr : PFr} {M : PM} (L : List Nat) (hL : chk.all (fun c => calmC E ops c || slotIn2 E ops L c) = true)
  (hr : WL E ⟨(0 :: 0 :: L).map XR.tmp, fun w _ => ∃ l, w = .tu l ∧ (l.drop 2).all isPP = true⟩ ops [] fr M) (w : WL E F ops ks fr M) : WK E F (.drw ops chk) ks fr M := by
 refine wk_calmG (fun fr2 Ms hT => ?_) w
 have hp : L.all (fun s => isPP (fr2 s)) = true := by
  obtain ⟨lf, q, fr3, M3, vs, e, h1, h2, l, h3, h4⟩ := hr
  simp only [Option.bind_eq_some_iff, unw] at e
  obtain ⟨⟨fr4, M4⟩, e1, e2⟩ := e
  simp only [Option.some.injEq, Prod.mk.injEq] at e2
  obtain ⟨_, e3, e4⟩ := e2
  rw [← e3, ← e4] at h2
  obtain ⟨Ms', g1, g2⟩ := pOpsT_of e1
  rw [g1] at hT
  cases hT
  have hres : ∀ (f : PFr) (N : PM) (l : List Nat), pRes f N (l.map XR.tmp) = some (l.map f) := fun f N l => by
   induction l with
   | nil => rfl
   | cons a l ih => simp only [List.map_cons, pRes, pResOne, ih]
  rw [hres] at h2
  cases h2
  simp only [List.map_cons, packP] at h3
  cases h3
  simpa [List.all_map] using h4
 rw [List.all_eq_true] at hL hp ⊢
 rintro ⟨i, j⟩ hc
 have h1 := hL _ hc
 simp only [Bool.or_eq_true] at h1
 rcases h1 with h1 | h1
 ·exact calm_chk hT h1
 ·unfold slotIn2 at h1
  split at h1
  ·rename_i a b ha hb
   split at h1
   ·rename_i z k s hop
    simp only [Bool.and_eq_true] at h1
    obtain ⟨c1, c2⟩ := h1
    have hs := hp s (List.contains_iff_mem.1 c1)
    cases hf : fr2 s with
    | p n o =>
     obtain ⟨fri, A, B, q1, q2, q3, q4⟩ := pOpsT_at hT ha
     obtain ⟨frj, C, D, p1, p2, p3, p4⟩ := pOpsT_at hT hb
     have p2' : Ms[(i, j).2 + 1]? = some D := p2
     have q2' : Ms[(i, j).1 + 1]? = some B := q2
     simp only [chkP, ha, q1, q2, p1, p2]
     rw [if_neg (by rw [hop]; simp [XO.cls])]
     rw [hop]
     show chkV ops j (.t s) C D (fr2 s) = true
     rw [hf]
     show verP (some n) C D = true
     rcases p3 with ⟨_, v, p3⟩ | ⟨_, p3⟩
     ·cases hopb : b.op with
      | call f l =>
       rw [hopb] at p3 c2
       obtain ⟨ns, rfl⟩ := pcl_mem c2 p3
       exact roM_verP ns C _
      | _ => rw [hopb] at c2; simp [calmOp] at c2
     ·rw [p3]; simp [verP]
    | _ => rw [hf] at hs; simp [isPP] at hs
   ·cases h1
  ·cases h1
theorem wk_roll {E : PEnv} {F : PFin} {a b : XC} (hab : a = b) {ks : List KI} {fr : PFr} {M : PM} (w : WK E F b (.loop a :: ks) fr M) : WK E F (.loop a) ks fr M := by
 rw [← hab] at w; exact wk_loop w
def fillC (z : List PV) (off n : Nat) (cs : List PV) : Option (List PV) := if cs.length = n ∧ off + n ≤ z.length ∧ cs.all PV.scal = true then some (psplice z off cs) else none
theorem fill_C {fr : PFr} (G : Nat → Option (List AV)) (z : List PV) (off n : Nat) (x : X) (ps : List (Nat × Nat × X)) : fillP G fr z ((off, (n, x)) :: ps) = fillB fr G ps (fillC z off n (x.pv G fr).cells) := by
 simp only [fillP]
 unfold fillC
 split <;> rfl
theorem fillC_def (z : List PV) (off n : Nat) (cs : List PV) : fillC z off n cs = if cs.length = n ∧ off + n ≤ z.length ∧ cs.all PV.scal = true then some (psplice z off cs) else none := rfl
end Go.Eng
namespace Go.Eng
structure FQ where
 p : WI
 q : WI
 q1 : 1 ≤ q.v
 cop : Nat.gcd p.v.natAbs q.v.natAbs = 1
theorem wl_sub1 {y : WI} (hy : 1 ≤ y.v) : wlen (y.v - 1).natAbs ≤ 512 := by
 have h := (wide_iff _).1 y.lim
 refine (wide_iff _).2 ?_
 unfold inR at *
 exact Nat.lt_of_le_of_lt (by omega) h
def FQ.l (f : FQ) : WI := ⟨f.q.v - 1, wl_sub1 f.q1⟩
noncomputable def fqP (f : FQ) : PV := .ag [.b (decide (f.p.v < 0)), D f.p.v.natAbs, .b (decide (f.l.v < 0)), D f.l.v.natAbs]
@[go_sem] theorem fz_fqP (M : PM) (d : Nat) (f : FQ) : fz M (d + 1 + 1) (fqP f) = some (fqP f, []) := _root_.id rfl
@[go_sem] theorem cells_fqP (f : FQ) : (fqP f).cells = [.b (decide (f.p.v < 0)), D f.p.v.natAbs, .b (decide (f.l.v < 0)), D f.l.v.natAbs] := _root_.id rfl
@[go_sem] theorem fold_fq (f : FQ) : PV.ag [.b (decide (f.p.v < 0)), D f.p.v.natAbs, .b (decide (f.l.v < 0)), D f.l.v.natAbs] = fqP f := _root_.id rfl
theorem p_must (x : WI) (e : Int) : pf E0 37 [wiP x, .i .i64 e] = some (wiP x) := by
 refine pf_run (xf := x_frac_must) rfl (by simp [x_frac_must]) ?_
 simp only [x_frac_must]
 simp (disch := omega) only [go_sem, seval, wqa, wqb, wqc, wqd, wqe]
theorem p_over (x g : WI) (h : g.v ≠ 0) : ∃ q : WI, q.v = x.v / g.v ∧ pf E0 21 [wiP x, wiP g] = some (wiP q) := by
 have fd := p_Div x g h
 refine ⟨x.div g h, rfl, ?_⟩
 refine pf_run (xf := x_frac_over) rfl (by simp [x_frac_over]) ?_
 simp only [x_frac_over]
 simp (disch := omega) only [go_sem, seval, wqa, wqb, wqc, wqd, wqe, fd]
noncomputable def wi1 : WI := wiOf 1 (by decide)
theorem wi1_v : wi1.v = 1 := rfl
theorem p_ftimes (x y : WI) : pf E0 20 [.lst [wiP x, wiP y]] = some (.tu [wiP (clip (x.v * y.v)), .i .i64 (lerr (x.v * y.v))]) := by
 refine pf_run (xf := x_frac_times) rfl (by simp [x_frac_times]) ?_
 simp only [x_frac_times]
 have f1 : pf E0 34 [.i .i64 1] = some (wiP wi1) := p_From (n := 1) (by decide)
 have m1 : pf E0 38 [wiP wi1, wiP x] = some (.tu [wiP x, .i .i64 0]) := by
  have h := p_Mul wi1 x
  rw [wi1_v, Int.one_mul, lerr_ok x.lim, clip_ok x.lim] at h
  exact h
 have m2 := p_Mul x y
 generalize wi1 = w1 at *
 simp (disch := omega) only [go_sem, seval, wqa, wqb, wqc, wqd, wqe, f1]
 refine wk_roll x_frac_times_l1.eq_1 ?_
 simp (disch := omega) only [go_sem, seval, wqa, wqb, wqc, wqd, wqe, m1]
 refine wk_roll x_frac_times_l1.eq_1 ?_
 by_cases h : wlen (x.v * y.v).natAbs ≤ 512
 ·have e := lerr_ok h
  rw [e] at m2 ⊢
  simp (disch := omega) only [go_sem, seval, wqa, wqb, wqc, wqd, wqe, m2]
  refine wk_roll x_frac_times_l1.eq_1 ?_
  simp (disch := omega) only [go_sem, seval, wqa, wqb, wqc, wqd, wqe, m2]
 ·have e := lerr_no h
  have e2 := clip_no h
  rw [e, e2] at m2 ⊢
  simp (disch := omega) only [go_sem, seval, wqa, wqb, wqc, wqd, wqe, m2]
theorem fq0_cop : Nat.gcd wi0.v.natAbs wi1.v.natAbs = 1 := by decide
noncomputable def fq0 : FQ := ⟨wi0, wi1, by decide, fq0_cop⟩
theorem fqP0 : fqP fq0 = .ag [.b false, .lst [], .b false, .lst []] := by
 have h1 : D (0 : Int).natAbs = .lst [] := D_zero.symm
 show PV.ag [.b (decide ((0 : Int) < 0)), D (0 : Int).natAbs, .b (decide ((1 : Int) - 1 < 0)), D ((1 : Int) - 1).natAbs] = _
 rw [show (1 : Int) - 1 = 0 by decide, h1]; rfl
theorem p_lowest (x y : WI) (hy : 1 ≤ y.v) (hc : Nat.gcd x.v.natAbs y.v.natAbs = 1) : pf E0 22 [wiP x, wiP y, .i .i64 0, .i .i64 0] = some (.tu [fqP ⟨x, y, hy, hc⟩, .i .i64 0]) := by
 refine pf_run (xf := x_frac_lowest) rfl (by simp [x_frac_lowest]) ?_
 simp only [x_frac_lowest]
 have f1 : pf E0 34 [.i .i64 1] = some (wiP wi1) := p_From (n := 1) (by decide)
 have s1 := p_Sub y wi1
 rw [wi1_v] at s1
 have m1 := p_must (clip (y.v - 1)) (lerr (y.v - 1))
 have cv := clip_v (wl_sub1 hy)
 generalize lerr (y.v - 1) = le at *
 generalize wi1 = w1 at *
 have hq : fqP ⟨x, y, hy, hc⟩ = .ag [.b (decide (x.v < 0)), D x.v.natAbs, .b (decide ((clip (y.v - 1)).v < 0)), D (clip (y.v - 1)).v.natAbs] := by rw [cv]; rfl
 rw [hq]
 generalize clip (y.v - 1) = z at *
 simp (disch := omega) only [go_sem, seval, wqa, wqb, wqc, wqd, wqe]
 refine wk_calmX [4, 5] rfl (by simp only [go_sem, seval]) ?_
 simp (disch := omega) only [go_sem, seval, wqa, wqb, wqc, wqd, wqe, f1, s1, m1, fill_C, fillC_def]
theorem p_lowestE (x y : WI) {e f : Int} (h : e ≠ 0 ∨ f ≠ 0) : pf E0 22 [wiP x, wiP y, .i .i64 e, .i .i64 f] = some (.tu [fqP fq0, .i .i64 4]) := by
 refine pf_run (xf := x_frac_lowest) rfl (by simp [x_frac_lowest]) ?_
 simp only [x_frac_lowest]
 rw [fqP0]
 by_cases he : e = 0
 ·have hf : (f = 0) = False := by simp; rcases h with h | h <;> first | exact h | exact absurd he h
  have he : (e = 0) = True := by simp [he]
  simp (disch := omega) only [go_sem, seval, wqa, wqb, wqc, wqd, wqe, he, hf]
 ·have he : (e = 0) = False := by simp [he]
  simp (disch := omega) only [go_sem, seval, wqa, wqb, wqc, wqd, wqe, he]
theorem p_Make0 (x y : WI) (h : y.v = 0) : pf E0 24 [wiP x, wiP y] = some (.tu [fqP fq0, .i .i64 1]) := by
 refine pf_run (xf := x_frac_Make) rfl (by simp [x_frac_Make]) ?_
 simp only [x_frac_Make]
 rw [fqP0]
 have sy := p_Sign y
 have sc : (cmpI y.v 0 = 0) = True := by rw [h]; simp [cmpI]
 simp (disch := omega) only [go_sem, seval, wqa, wqb, wqc, wqd, wqe, sy, sc]
theorem p_MakeP (x y g : WI) (hg : g.v = gI x.v y.v) (hy : 0 < y.v) : ∃ f : FQ, f.p.v = lowP x.v y.v ∧ f.q.v = lowQ x.v y.v ∧ ∃ a b : WI, pf E0 21 [wiP x, wiP g] = some (wiP a) ∧ pf E0 21 [wiP y, wiP g] = some (wiP b) ∧ pf E0 22 [wiP a, wiP b, .i .i64 0, .i .i64 0] = some (.tu [fqP f, .i .i64 0]) := by
 have gn : g.v ≠ 0 := by rw [hg]; exact gI_ne (by omega)
 obtain ⟨a, ha, fa⟩ := p_over x g gn
 obtain ⟨b, hb, fb⟩ := p_over y g gn
 have e1 : a.v = lowP x.v y.v := by rw [ha, hg]; unfold lowP; rw [if_neg (by omega)]
 have e2 : b.v = lowQ x.v y.v := by rw [hb, hg]; unfold lowQ; rw [if_neg (by omega)]
 have hq : 1 ≤ b.v := by rw [e2]; exact low_pos (by omega)
 have hc : Nat.gcd a.v.natAbs b.v.natAbs = 1 := by rw [e1, e2]; exact low_cop (by omega)
 exact ⟨⟨a, b, hq, hc⟩, e1, e2, a, b, fa, fb, p_lowest a b hq hc⟩
theorem low_negneg (p q : Int) (h : q < 0) : lowP (-p) (-q) = lowP p q ∧ lowQ (-p) (-q) = lowQ p q := by
 have h2 : ¬ -q < 0 := by omega
 unfold lowP lowQ
 rw [gI_neg]
 simp only [h, h2, if_true, if_false, and_self]
theorem p_Make (x y : WI) (h : y.v ≠ 0) : ∃ f : FQ, f.p.v = lowP x.v y.v ∧ f.q.v = lowQ x.v y.v ∧ pf E0 24 [wiP x, wiP y] = some (.tu [fqP f, .i .i64 0]) := by
 by_cases hn : y.v < 0
 ·have hg := p_Gcd x.neg y.neg
  obtain ⟨f, h1, h2, a, b, fa, fb, fl⟩ := p_MakeP x.neg y.neg (x.neg.gcd y.neg) rfl (by show 0 < -y.v; omega)
  obtain ⟨l1, l2⟩ := low_negneg x.v y.v hn
  refine ⟨f, h1.trans l1, h2.trans l2, ?_⟩
  generalize x.neg.gcd y.neg = g at *
  refine pf_run (xf := x_frac_Make) rfl (by simp [x_frac_Make]) ?_
  simp only [x_frac_Make]
  have sy := p_Sign y
  have sc : cmpI y.v 0 = -1 := by unfold cmpI; rw [if_pos hn]
  rw [sc] at sy
  have n1 := p_Neg x
  have n2 := p_Neg y
  generalize x.neg = xn at *
  generalize y.neg = yn at *
  simp (disch := omega) only [go_sem, seval, wqa, wqb, wqc, wqd, wqe, sy]
  refine wk_calmX [3] rfl (by simp only [go_sem, seval]) ?_
  simp (disch := omega) only [go_sem, seval, wqa, wqb, wqc, wqd, wqe, n1, n2, hg]
  refine wk_calmX [3, 6] rfl (by simp only [go_sem, seval]) ?_
  simp (disch := omega) only [go_sem, seval, wqa, wqb, wqc, wqd, wqe, fa, fb, fl]
 ·have hg := p_Gcd x y
  obtain ⟨f, h1, h2, a, b, fa, fb, fl⟩ := p_MakeP x y (x.gcd y) rfl (by omega)
  refine ⟨f, h1, h2, ?_⟩
  generalize x.gcd y = g at *
  refine pf_run (xf := x_frac_Make) rfl (by simp [x_frac_Make]) ?_
  simp only [x_frac_Make]
  have sy := p_Sign y
  have sc : cmpI y.v 0 = 1 := by unfold cmpI; rw [if_neg hn, if_pos (by omega)]
  rw [sc] at sy
  simp (disch := omega) only [go_sem, seval, wqa, wqb, wqc, wqd, wqe, sy, hg]
  refine wk_calmX [3, 6] rfl (by simp only [go_sem, seval]) ?_
  simp (disch := omega) only [go_sem, seval, wqa, wqb, wqc, wqd, wqe, fa, fb, fl]
end Go.Eng
namespace Go.Eng
theorem p_fNum (f : FQ) : pf E0 64 [fqP f] = some (wiP f.p) := by
 refine pf_run (xf := x__skymosaic_frac_Frac__Num) rfl (by simp [x__skymosaic_frac_Frac__Num]) ?_
 simp only [x__skymosaic_frac_Frac__Num]
 simp (disch := omega) only [go_sem, seval, wqa, wqb, wqc, wqd, wqe]
theorem p_fDen (f : FQ) : pf E0 19 [fqP f] = some (wiP f.q) := by
 refine pf_run (xf := x__skymosaic_frac_Frac__Den) rfl (by simp [x__skymosaic_frac_Frac__Den]) ?_
 simp only [x__skymosaic_frac_Frac__Den]
 have f1 : pf E0 34 [.i .i64 1] = some (wiP wi1) := p_From (n := 1) (by decide)
 have s1 := p_Add f.l wi1
 have e : f.l.v + wi1.v = f.q.v := by show f.q.v - 1 + 1 = f.q.v; omega
 have hc : clip f.q.v = f.q := clip_ok f.q.lim
 rw [e, hc] at s1
 have m1 := p_must f.q (lerr f.q.v)
 generalize lerr f.q.v = le at *
 generalize wi1 = w1 at *
 simp (disch := omega) only [go_sem, seval, wqa, wqb, wqc, wqd, wqe]
 refine wk_calmR [3] rfl ?_ ?_
 ·simp (disch := omega) only [go_sem, seval, wqa, wqb, wqc, wqd, wqe, f1, s1, m1]
  exact ⟨_, rfl, rfl⟩
 simp (disch := omega) only [go_sem, seval, wqa, wqb, wqc, wqd, wqe, f1, s1, m1]
theorem p_fOf {p q : Int} (hp : Fits64 p) (hq : Fits64 q) (h : q ≠ 0) : ∃ f : FQ, f.p.v = lowP p q ∧ f.q.v = lowQ p q ∧ pf E0 17 [.i .i64 p, .i .i64 q] = some (.tu [fqP f, .i .i64 0]) := by
 obtain ⟨x, hx, fx⟩ := from_ex hp
 obtain ⟨y, hy, fy⟩ := from_ex hq
 obtain ⟨f, h1, h2, fm⟩ := p_Make x y (by rw [hy]; exact h)
 rw [hx, hy] at h1 h2
 refine ⟨f, h1, h2, ?_⟩
 refine pf_run (xf := x_frac_Of) rfl (by simp [x_frac_Of]) ?_
 simp only [x_frac_Of]
 simp (disch := omega) only [go_sem, seval, wqa, wqb, wqc, wqd, wqe, fx, fy, fm]
theorem gI_of (x y : WI) : (x.gcd y).v = gI x.v y.v := rfl
@[go_sem] theorem grp_wi2 (x y : WI) : group 2 2 [.b (decide (x.v < 0)), Dw (wlen x.v.natAbs) x.v.natAbs, .b (decide (y.v < 0)), Dw (wlen y.v.natAbs) y.v.natAbs] = [wiP x, wiP y] := _root_.id rfl
theorem p_fAddR (a b : FQ) {g s t cx cy cs cd : WI} {ex ey es ed : Int} (hg : pf E0 18 [wiP a.q, wiP b.q] = some (wiP g)) (fs : pf E0 21 [wiP b.q, wiP g] = some (wiP s)) (ft : pf E0 21 [wiP a.q, wiP g] = some (wiP t))
  (nx : pf E0 20 [.lst [wiP a.p, wiP s]] = some (.tu [wiP cx, .i .i64 ex])) (ny : pf E0 20 [.lst [wiP b.p, wiP t]] = some (.tu [wiP cy, .i .i64 ey])) (ns : pf E0 23 [wiP cx, wiP cy] = some (.tu [wiP cs, .i .i64 es]))
  (nd : pf E0 20 [.lst [wiP t, wiP b.q]] = some (.tu [wiP cd, .i .i64 ed])) (f : FQ) (e : Int)
  (hR : (ex = 0 ∧ ey = 0 ∧ es = 0 ∧ ed = 0 ∧ pf E0 24 [wiP cs, wiP cd] = some (.tu [fqP f, .i .i64 e])) ∨ (¬ (ex = 0 ∧ ey = 0 ∧ es = 0 ∧ ed = 0) ∧ f = fq0 ∧ e = 4)) :
  pf E0 9 [fqP a, fqP b] = some (.tu [fqP f, .i .i64 e]) := by
 have da := p_fDen a
 have db := p_fDen b
 refine pf_run (xf := x_frac_Add) rfl (by simp [x_frac_Add]) ?_
 simp only [x_frac_Add]
 simp (disch := omega) only [go_sem, seval, wqa, wqb, wqc, wqd, wqe]
 refine wk_calmX [3] rfl (by simp only [go_sem, seval]) ?_
 simp (disch := omega) only [go_sem, seval, wqa, wqb, wqc, wqd, wqe, da, db, hg]
 refine wk_calmR [21, 6] rfl ?_ ?_
 ·simp (disch := omega) only [go_sem, seval, wqa, wqb, wqc, wqd, wqe, db, fs, nx, fill_C, fillC_def]
  exact ⟨_, rfl, rfl⟩
 simp (disch := omega) only [go_sem, seval, wqa, wqb, wqc, wqd, wqe, db, fs, nx, fill_C, fillC_def]
 refine wk_calmR [32, 6] rfl ?_ ?_
 ·simp (disch := omega) only [go_sem, seval, wqa, wqb, wqc, wqd, wqe, da, ft, ny, fill_C, fillC_def]
  exact ⟨_, rfl, rfl⟩
 simp (disch := omega) only [go_sem, seval, wqa, wqb, wqc, wqd, wqe, da, ft, ny, ns, fill_C, fillC_def]
 refine wk_calmX [6, 3] rfl (by simp only [go_sem, seval]) ?_
 rcases hR with ⟨h1, h2, h3, h4, hM⟩ | ⟨hn, hf, he⟩
 ·subst h1 h2 h3 h4
  simp (disch := omega) only [go_sem, seval, wqa, wqb, wqc, wqd, wqe, da, db, ft, nd, hM, fill_C, fillC_def]
 ·subst hf he
  rw [fqP0]
  by_cases h1 : ex = 0
  ·by_cases h2 : ey = 0
   ·by_cases h3 : es = 0
    ·have h4 : (ed = 0) = False := by simp; exact fun q => hn ⟨h1, h2, h3, q⟩
     subst h1 h2 h3
     simp (disch := omega) only [go_sem, seval, wqa, wqb, wqc, wqd, wqe, da, db, ft, nd, h4, fill_C, fillC_def]
    ·have h3 : (es = 0) = False := by simp [h3]
     subst h1 h2
     simp (disch := omega) only [go_sem, seval, wqa, wqb, wqc, wqd, wqe, da, db, ft, nd, h3, fill_C, fillC_def]
   ·have h2 : (ey = 0) = False := by simp [h2]
    subst h1
    simp (disch := omega) only [go_sem, seval, wqa, wqb, wqc, wqd, wqe, da, db, ft, nd, h2, fill_C, fillC_def]
  ·have h1 : (ex = 0) = False := by simp [h1]
   simp (disch := omega) only [go_sem, seval, wqa, wqb, wqc, wqd, wqe, da, db, ft, nd, h1, fill_C, fillC_def]
def adX (a b : FQ) : Int := a.p.v * (b.q.v / gI a.q.v b.q.v)
def adY (a b : FQ) : Int := b.p.v * (a.q.v / gI a.q.v b.q.v)
def adD (a b : FQ) : Int := a.q.v / gI a.q.v b.q.v * b.q.v
def adOk (a b : FQ) : Prop := inR (adX a b).natAbs ∧ inR (adY a b).natAbs ∧ inR (adX a b + adY a b).natAbs ∧ inR (adD a b).natAbs
theorem adD_ne (a b : FQ) : adD a b ≠ 0 := by
 have ha := a.q1
 have hb := b.q1
 have h1 : a.q.v / gI a.q.v b.q.v * gI a.q.v b.q.v = a.q.v := Int.ediv_mul_cancel (gI_dvdl _ _)
 have h2 : a.q.v / gI a.q.v b.q.v ≠ 0 := fun q => by rw [q] at h1; omega
 exact Int.mul_ne_zero h2 (by omega)
theorem inR_c {z : Int} (h : inR z.natAbs) : (clip z).v = z ∧ lerr z = 0 := ⟨clip_v ((wide_iff _).2 h), lerr_ok ((wide_iff _).2 h)⟩
theorem inR_l {z : Int} (h : lerr z = 0) : inR z.natAbs := by
 by_cases q : wlen z.natAbs ≤ 512
 ·exact (wide_iff _).1 q
 ·rw [lerr_no q] at h; cases h
theorem p_fAdd (a b : FQ) : (adOk a b → ∃ f : FQ, f.p.v = lowP (adX a b + adY a b) (adD a b) ∧ f.q.v = lowQ (adX a b + adY a b) (adD a b) ∧ pf E0 9 [fqP a, fqP b] = some (.tu [fqP f, .i .i64 0])) ∧
  (¬ adOk a b → pf E0 9 [fqP a, fqP b] = some (.tu [fqP fq0, .i .i64 4])) := by
 have hg := p_Gcd a.q b.q
 have gv := gI_of a.q b.q
 have gn : (a.q.gcd b.q).v ≠ 0 := by rw [gv]; exact gI_ne (by have := b.q1; omega)
 obtain ⟨s, hs, fs⟩ := p_over b.q (a.q.gcd b.q) gn
 obtain ⟨t, ht, ft⟩ := p_over a.q (a.q.gcd b.q) gn
 rw [gv] at hs ht
 have nx := p_ftimes a.p s
 have ny := p_ftimes b.p t
 have nd := p_ftimes t b.q
 have eX : a.p.v * s.v = adX a b := by rw [hs]; rfl
 have eY : b.p.v * t.v = adY a b := by rw [ht]; rfl
 have eD : t.v * b.q.v = adD a b := by rw [ht]; rfl
 rw [eX] at nx
 rw [eY] at ny
 rw [eD] at nd
 have ns := p_Add (clip (adX a b)) (clip (adY a b))
 constructor
 ·rintro ⟨r1, r2, r3, r4⟩
  obtain ⟨c1, l1⟩ := inR_c r1
  obtain ⟨c2, l2⟩ := inR_c r2
  obtain ⟨c3, l3⟩ := inR_c r3
  obtain ⟨c4, l4⟩ := inR_c r4
  rw [c1, c2] at ns
  obtain ⟨f, h1, h2, fm⟩ := p_Make (clip (adX a b + adY a b)) (clip (adD a b)) (by rw [c4]; exact adD_ne a b)
  rw [c3, c4] at h1 h2
  exact ⟨f, h1, h2, p_fAddR a b hg fs ft nx ny ns nd f 0 (.inl ⟨l1, l2, l3, l4, fm⟩)⟩
 ·intro hn
  refine p_fAddR a b hg fs ft nx ny ns nd fq0 4 (.inr ⟨fun ⟨l1, l2, l3, l4⟩ => hn ?_, rfl, rfl⟩)
  have r1 := inR_l l1
  have r2 := inR_l l2
  rw [(inR_c r1).1, (inR_c r2).1] at l3
  exact ⟨r1, r2, inR_l l3, inR_l l4⟩
end Go.Eng
namespace Go.Eng
def FQ.neg (f : FQ) : FQ := ⟨f.p.neg, f.q, f.q1, by show Nat.gcd (-f.p.v).natAbs f.q.v.natAbs = 1; rw [Int.natAbs_neg]; exact f.cop⟩
theorem p_fSub (a b : FQ) : pf E0 81 [fqP a, fqP b] = pf E0 9 [fqP a, fqP b.neg] := by
 have key : ∀ r : PV, pf E0 9 [fqP a, fqP b.neg] = some r → (∃ f e, r = .tu [fqP f, .i .i64 e]) → pf E0 81 [fqP a, fqP b] = some r := by
  rintro r hr ⟨f, e, rfl⟩
  refine pf_run (xf := x_frac_Sub) rfl (by simp [x_frac_Sub]) ?_
  simp only [x_frac_Sub]
  have n1 := p_Neg b.p
  have hb : fqP b.neg = .ag [.b (decide (b.p.neg.v < 0)), D b.p.neg.v.natAbs, .b (decide (b.l.v < 0)), D b.l.v.natAbs] := rfl
  rw [hb] at hr
  generalize b.p.neg = m at *
  simp (disch := omega) only [go_sem, seval, wqa, wqb, wqc, wqd, wqe]
  refine wk_calmR [2, 10] rfl ?_ ?_
  ·simp (disch := omega) only [go_sem, seval, wqa, wqb, wqc, wqd, wqe, n1, hr, fill_C, fillC_def]
   exact ⟨_, rfl, rfl⟩
  simp (disch := omega) only [go_sem, seval, wqa, wqb, wqc, wqd, wqe, n1, hr, fill_C, fillC_def]
 by_cases h : adOk a b.neg
 ·obtain ⟨f, _, _, h1⟩ := (p_fAdd a b.neg).1 h
  rw [h1]; exact key _ h1 ⟨_, _, rfl⟩
 ·have h1 := (p_fAdd a b.neg).2 h
  rw [h1]; exact key _ h1 ⟨_, _, rfl⟩
theorem p_fSign (a : FQ) : pf E0 67 [fqP a] = some (.i .i64 (cmpI a.p.v 0)) := by
 refine pf_run (xf := x_frac_Sign) rfl (by simp [x_frac_Sign]) ?_
 simp only [x_frac_Sign]
 simp (disch := omega) only [go_sem, seval, wqa, wqb, wqc, wqd, wqe]
theorem p_fMulR (a b : FQ) {g h u v w z cp cq : WI} {ep eq : Int} (f : FQ) (e : Int) (hg : pf E0 18 [wiP a.p, wiP b.q] = some (wiP g)) (hh : pf E0 18 [wiP b.p, wiP a.q] = some (wiP h))
  (fu : pf E0 21 [wiP a.p, wiP g] = some (wiP u)) (fv : pf E0 21 [wiP b.p, wiP h] = some (wiP v)) (n1 : pf E0 20 [.lst [wiP u, wiP v]] = some (.tu [wiP cp, .i .i64 ep]))
  (fw : pf E0 21 [wiP a.q, wiP h] = some (wiP w)) (fz' : pf E0 21 [wiP b.q, wiP g] = some (wiP z)) (n2 : pf E0 20 [.lst [wiP w, wiP z]] = some (.tu [wiP cq, .i .i64 eq]))
  (fl : pf E0 22 [wiP cp, wiP cq, .i .i64 ep, .i .i64 eq] = some (.tu [fqP f, .i .i64 e])) : pf E0 8 [fqP a, fqP b] = some (.tu [fqP f, .i .i64 e]) := by
 have da := p_fDen a
 have db := p_fDen b
 refine pf_run (xf := x_frac_Mul) rfl (by simp [x_frac_Mul]) ?_
 simp only [x_frac_Mul]
 simp (disch := omega) only [go_sem, seval, wqa, wqb, wqc, wqd, wqe]
 refine wk_calmR [12, 17, 2] rfl ?_ ?_
 ·simp (disch := omega) only [go_sem, seval, wqa, wqb, wqc, wqd, wqe, da, db, hg, hh]
  exact ⟨_, rfl, rfl⟩
 simp (disch := omega) only [go_sem, seval, wqa, wqb, wqc, wqd, wqe, da, db, hg, hh]
 refine wk_calmR [27, 7] rfl ?_ ?_
 ·simp (disch := omega) only [go_sem, seval, wqa, wqb, wqc, wqd, wqe, fu, fv, n1, fill_C, fillC_def]
  exact ⟨_, rfl, rfl⟩
 simp (disch := omega) only [go_sem, seval, wqa, wqb, wqc, wqd, wqe, fu, fv, n1, fill_C, fillC_def]
 refine wk_calmX [7, 3, 6] rfl (by simp only [go_sem, seval]) ?_
 simp (disch := omega) only [go_sem, seval, wqa, wqb, wqc, wqd, wqe, da, db, fw, fz', n2, fl, fill_C, fillC_def]
end Go.Eng
namespace Go.Eng
theorem div_cop {p s : Int} (hs : s ≠ 0) : Nat.Coprime (p / gI p s).natAbs (s / gI p s).natAbs := by
 have g := gI_pos (p := p) hs
 have e1 : (p / gI p s).natAbs * (gI p s).natAbs = p.natAbs := by rw [← Int.natAbs_mul, Int.ediv_mul_cancel (gI_dvdl p s)]
 have e2 : (s / gI p s).natAbs * (gI p s).natAbs = s.natAbs := by rw [← Int.natAbs_mul, Int.ediv_mul_cancel (gI_dvdr p s)]
 have e3 : (gI p s).natAbs = Nat.gcd p.natAbs s.natAbs := Int.natAbs_natCast _
 have e4 := Nat.gcd_mul_right (p / gI p s).natAbs (gI p s).natAbs (s / gI p s).natAbs
 rw [e1, e2, ← e3] at e4
 have : 0 < (gI p s).natAbs := by omega
 exact Nat.eq_of_mul_eq_mul_right this (by rw [Nat.one_mul]; exact e4.symm)
theorem mul_low {p q r s : Int} (hq : 0 < q) (hs : 0 < s) (c1 : Nat.gcd p.natAbs q.natAbs = 1) (c2 : Nat.gcd r.natAbs s.natAbs = 1) :
  p / gI p s * (r / gI r q) = lowP (p * r) (q * s) ∧ q / gI r q * (s / gI p s) = lowQ (p * r) (q * s) ∧ 0 < q / gI r q * (s / gI p s) ∧ Nat.gcd (p / gI p s * (r / gI r q)).natAbs (q / gI r q * (s / gI p s)).natAbs = 1 := by
 have g1 := gI_pos (p := p) (q := s) (by omega)
 have g2 := gI_pos (p := r) (q := q) (by omega)
 have k1 := div_cop (p := p) (s := s) (by omega)
 have k2 := div_cop (p := r) (s := q) (by omega)
 have a1 : p / gI p s * gI p s = p := Int.ediv_mul_cancel (gI_dvdl p s)
 have a2 : s / gI p s * gI p s = s := Int.ediv_mul_cancel (gI_dvdr p s)
 have a3 : r / gI r q * gI r q = r := Int.ediv_mul_cancel (gI_dvdl r q)
 have a4 : q / gI r q * gI r q = q := Int.ediv_mul_cancel (gI_dvdr r q)
 generalize gI p s = g at *
 generalize gI r q = h at *
 generalize p / g = u at *
 generalize s / g = z at *
 generalize r / h = v at *
 generalize q / h = w at *
 have z0 : 0 < z := Int.pos_of_mul_pos_left (by rw [a2]; exact hs) g1
 have w0 : 0 < w := Int.pos_of_mul_pos_left (by rw [a4]; exact hq) g2
 have du : u.natAbs ∣ p.natAbs := Int.natAbs_dvd_natAbs.2 ⟨g, a1.symm⟩
 have dw : w.natAbs ∣ q.natAbs := Int.natAbs_dvd_natAbs.2 ⟨h, a4.symm⟩
 have dv : v.natAbs ∣ r.natAbs := Int.natAbs_dvd_natAbs.2 ⟨h, a3.symm⟩
 have dz : z.natAbs ∣ s.natAbs := Int.natAbs_dvd_natAbs.2 ⟨g, a2.symm⟩
 have k3 : Nat.Coprime u.natAbs w.natAbs := Nat.Coprime.coprime_dvd_left du (Nat.Coprime.coprime_dvd_right dw c1)
 have k4 : Nat.Coprime v.natAbs z.natAbs := Nat.Coprime.coprime_dvd_left dv (Nat.Coprime.coprime_dvd_right dz c2)
 have hc : Nat.gcd (u * v).natAbs (w * z).natAbs = 1 := by
  rw [Int.natAbs_mul, Int.natAbs_mul]
  exact Nat.Coprime.mul_left (Nat.Coprime.mul_right k3 k1) (Nat.Coprime.mul_right k2 k4)
 have hp : 0 < w * z := Int.mul_pos w0 z0
 have hx : q * s ≠ 0 := Int.mul_ne_zero (by omega) (by omega)
 have cr := low_cross (p := p * r) hx
 obtain ⟨e1, e2⟩ := low_uniq (p := u * v) (q := w * z) hp (low_pos hx) hc (low_cop hx) (by
  apply Int.eq_of_mul_eq_mul_right (a := q * s) hx
  have : u * v * (q * s) = p * r * (w * z) := by rw [← a1, ← a2, ← a3, ← a4]; grind
  calc u * v * lowQ (p * r) (q * s) * (q * s) = u * v * (q * s) * lowQ (p * r) (q * s) := by grind
   _ = p * r * (w * z) * lowQ (p * r) (q * s) := by rw [this]
   _ = p * r * lowQ (p * r) (q * s) * (w * z) := by grind
   _ = lowP (p * r) (q * s) * (q * s) * (w * z) := by rw [cr]
   _ = lowP (p * r) (q * s) * (w * z) * (q * s) := by grind)
 exact ⟨e1, e2, hp, hc⟩
def muP (a b : FQ) : Int := lowP (a.p.v * b.p.v) (a.q.v * b.q.v)
def muQ (a b : FQ) : Int := lowQ (a.p.v * b.p.v) (a.q.v * b.q.v)
theorem p_fMul (a b : FQ) : (inR (muP a b).natAbs ∧ inR (muQ a b).natAbs → ∃ f : FQ, f.p.v = muP a b ∧ f.q.v = muQ a b ∧ pf E0 8 [fqP a, fqP b] = some (.tu [fqP f, .i .i64 0])) ∧
  (¬ (inR (muP a b).natAbs ∧ inR (muQ a b).natAbs) → pf E0 8 [fqP a, fqP b] = some (.tu [fqP fq0, .i .i64 4])) := by
 have qa := a.q1
 have qb := b.q1
 obtain ⟨m1, m2, m3, m4⟩ := mul_low (p := a.p.v) (q := a.q.v) (r := b.p.v) (s := b.q.v) (by omega) (by omega) a.cop b.cop
 have hg := p_Gcd a.p b.q
 have hh := p_Gcd b.p a.q
 have gv := gI_of a.p b.q
 have hv := gI_of b.p a.q
 have gn : (a.p.gcd b.q).v ≠ 0 := by rw [gv]; exact gI_ne (by omega)
 have hn : (b.p.gcd a.q).v ≠ 0 := by rw [hv]; exact gI_ne (by omega)
 obtain ⟨u, eu, fu⟩ := p_over a.p _ gn
 obtain ⟨v, ev, fv⟩ := p_over b.p _ hn
 obtain ⟨w, ew, fw⟩ := p_over a.q _ hn
 obtain ⟨z, ez, fz'⟩ := p_over b.q _ gn
 rw [gv] at eu ez
 rw [hv] at ev ew
 have n1 := p_ftimes u v
 have n2 := p_ftimes w z
 have e1 : u.v * v.v = muP a b := by rw [eu, ev]; exact m1
 have e2 : w.v * z.v = muQ a b := by rw [ew, ez]; exact m2
 rw [m1, m2] at m4
 rw [m2] at m3
 have m3 : 0 < muQ a b := m3
 have m4 : Nat.gcd (muP a b).natAbs (muQ a b).natAbs = 1 := m4
 rw [e1] at n1
 rw [e2] at n2
 constructor
 ·rintro ⟨r1, r2⟩
  obtain ⟨c1, l1⟩ := inR_c r1
  obtain ⟨c2, l2⟩ := inR_c r2
  have fl := p_lowest (clip (muP a b)) (clip (muQ a b)) (by rw [c2]; omega) (by rw [c1, c2]; exact m4)
  rw [l1] at n1
  rw [l2] at n2
  exact ⟨⟨clip (muP a b), clip (muQ a b), by rw [c2]; omega, by rw [c1, c2]; exact m4⟩, c1, c2, p_fMulR a b _ 0 hg hh fu fv n1 fw fz' n2 fl⟩
 ·intro hno
  refine p_fMulR a b fq0 4 hg hh fu fv n1 fw fz' n2 (p_lowestE _ _ ?_)
  by_cases l1 : lerr (muP a b) = 0
  ·right
   intro l2
   exact hno ⟨inR_l l1, inR_l l2⟩
  ·exact .inl l1
end Go.Eng
namespace Go.Eng
theorem p_fDiv0 (a b : FQ) (h : b.p.v = 0) : pf E0 65 [fqP a, fqP b] = some (.tu [fqP fq0, .i .i64 1]) := by
 have db := p_fDen b
 have mk := p_Make0 b.q b.p h
 refine pf_run (xf := x_frac_Div) rfl (by simp [x_frac_Div]) ?_
 simp only [x_frac_Div]
 rw [fqP0] at mk ⊢
 simp (disch := omega) only [go_sem, seval, wqa, wqb, wqc, wqd, wqe]
 refine wk_calmR [11] rfl ?_ ?_
 ·simp (disch := omega) only [go_sem, seval, wqa, wqb, wqc, wqd, wqe, db, mk]
  exact ⟨_, rfl, rfl⟩
 simp (disch := omega) only [go_sem, seval, wqa, wqb, wqc, wqd, wqe, db, mk]
theorem p_fDivR (a b f r : FQ) {e : Int} (h : pf E0 24 [wiP b.q, wiP b.p] = some (.tu [fqP f, .i .i64 0])) (hr : pf E0 8 [fqP a, fqP f] = some (.tu [fqP r, .i .i64 e])) : pf E0 65 [fqP a, fqP b] = some (.tu [fqP r, .i .i64 e]) := by
 have db := p_fDen b
 refine pf_run (xf := x_frac_Div) rfl (by simp [x_frac_Div]) ?_
 simp only [x_frac_Div]
 simp (disch := omega) only [go_sem, seval, wqa, wqb, wqc, wqd, wqe]
 refine wk_calmR [11] rfl ?_ ?_
 ·simp (disch := omega) only [go_sem, seval, wqa, wqb, wqc, wqd, wqe, db, h]
  exact ⟨_, rfl, rfl⟩
 simp (disch := omega) only [go_sem, seval, wqa, wqb, wqc, wqd, wqe, db, h, hr]
theorem div_low {p q r s : Int} (hr : r ≠ 0) (hs : 0 < s) (hq : 0 < q) : lowP (p * lowP s r) (q * lowQ s r) = lowP (p * s) (q * r) ∧ lowQ (p * lowP s r) (q * lowQ s r) = lowQ (p * s) (q * r) := by
 have h1 := low_pos (p := s) hr
 refine lowF_eq (Int.mul_ne_zero (by omega) (by omega)) (Int.mul_ne_zero (by omega) hr) ?_
 have h2 := low_cross (p := s) hr
 calc p * lowP s r * (q * r) = p * q * (lowP s r * r) := by grind
  _ = p * q * (s * lowQ s r) := by rw [h2]
  _ = p * s * (q * lowQ s r) := by grind
def dvP (a b : FQ) : Int := lowP (a.p.v * b.q.v) (a.q.v * b.p.v)
def dvQ (a b : FQ) : Int := lowQ (a.p.v * b.q.v) (a.q.v * b.p.v)
theorem p_fDiv (a b : FQ) (h : b.p.v ≠ 0) : (inR (dvP a b).natAbs ∧ inR (dvQ a b).natAbs → ∃ f : FQ, f.p.v = dvP a b ∧ f.q.v = dvQ a b ∧ pf E0 65 [fqP a, fqP b] = some (.tu [fqP f, .i .i64 0])) ∧
  (¬ (inR (dvP a b).natAbs ∧ inR (dvQ a b).natAbs) → pf E0 65 [fqP a, fqP b] = some (.tu [fqP fq0, .i .i64 4])) := by
 have qa := a.q1
 have qb := b.q1
 obtain ⟨f, f1, f2, fm⟩ := p_Make b.q b.p h
 obtain ⟨l1, l2⟩ := div_low (p := a.p.v) (q := a.q.v) (r := b.p.v) (s := b.q.v) h (by omega) (by omega)
 have e1 : muP a f = dvP a b := by unfold muP dvP; rw [f1, f2]; exact l1
 have e2 : muQ a f = dvQ a b := by unfold muQ dvQ; rw [f1, f2]; exact l2
 have hm := p_fMul a f
 rw [e1, e2] at hm
 refine ⟨fun hR => ?_, fun hn => p_fDivR a b f fq0 fm (hm.2 hn)⟩
 obtain ⟨r, r1, r2, hr⟩ := hm.1 hR
 exact ⟨r, r1, r2, p_fDivR a b f r fm hr⟩
end Go.Eng
namespace Go.Eng
noncomputable def ftx (p q : Int) : List UInt8 := if q = 1 then decI p else decI p ++ [47] ++ decI q
theorem decI_short (x : WI) : (decI x.v).length ≤ 1000000 := by
 have h := inR_dlen ((wide_iff _).1 x.lim)
 have h1 : (dec x.v.natAbs).length ≤ 4956 + 1 := by
  unfold dec; split
  ·simp
  ·rw [dtx_len]; omega
 unfold decI; split <;> (try simp only [List.length_cons]) <;> omega
theorem p_fString (f : FQ) : pf E0 16 [fqP f] = some (.s (ftx f.p.v f.q.v)) := by
 have df := p_fDen f
 have s1 := p_Str f.p
 have s2 := p_Str f.q
 have sg := p_Sign f.l
 have l1 := decI_short f.p
 have l2 := decI_short f.q
 have hl : f.l.v = f.q.v - 1 := rfl
 have q1 := f.q1
 refine pf_run (xf := x__skymosaic_frac_Frac__String) rfl (by simp [x__skymosaic_frac_Frac__String]) ?_
 simp only [x__skymosaic_frac_Frac__String]
 unfold ftx
 by_cases h : f.q.v = 1
 ·rw [if_pos h]
  have sc : (cmpI f.l.v 0 = 0) = True := by rw [hl, h]; simp [cmpI]
  simp (disch := omega) only [go_sem, seval, wqa, wqb, wqc, wqd, wqe, sg, sc, s1]
 ·rw [if_neg h]
  have sc : (cmpI f.l.v 0 = 0) = False := by
   have : cmpI f.l.v 0 = 1 := by unfold cmpI; rw [if_neg (by omega), if_pos (by omega)]
   rw [this]; simp
  have a1 : binP .add (.s (decI f.p.v)) (.s [47]) = some (.s (decI f.p.v ++ [47])) := bin_sadd _ _ (by simp only [List.length_cons, List.length_nil]; omega)
  have a2 : binP .add (.s (decI f.p.v ++ [47])) (.s (decI f.q.v)) = some (.s (decI f.p.v ++ [47] ++ decI f.q.v)) := bin_sadd _ _ (by simp only [List.length_append, List.length_cons, List.length_nil]; omega)
  simp (disch := omega) only [go_sem, seval, wqa, wqb, wqc, wqd, wqe, sg, sc]
  refine wk_calmX [1] rfl (by simp only [go_sem, seval]) ?_
  simp (disch := omega) only [go_sem, seval, wqa, wqb, wqc, wqd, wqe, df, s1, s2, a1, a2]
end Go.Eng
namespace Go.Eng
noncomputable def rfP (p q : Int) : PV := .ag [.b (decide (p < 0)), T p.natAbs, .b (decide (q < 0)), T q.natAbs]
@[go_sem] theorem fz_rfP (M : PM) (d : Nat) (p q : Int) : fz M (d + 1 + 1) (rfP p q) = some (rfP p q, []) := _root_.id rfl
@[go_sem] theorem cells_rfP (p q : Int) : (rfP p q).cells = [.b (decide (p < 0)), T p.natAbs, .b (decide (q < 0)), T q.natAbs] := _root_.id rfl
@[go_sem] theorem fold_rf (p q : Int) : PV.ag [.b (decide (p < 0)), T p.natAbs, .b (decide (q < 0)), T q.natAbs] = rfP p q := _root_.id rfl
theorem p_rfOf {n : Int} (h : Fits64 n) : pf E0 185 [.i .i64 n] = some (rfP n 1) := by
 have h1 := p_rOf n h
 have h2 := p_rOf 1 (by decide)
 obtain ⟨o, ho⟩ : ∃ o : Int, nP o = nP 1 ∧ rfP n o = rfP n 1 := ⟨1, rfl, rfl⟩
 rw [← ho.1] at h2
 rw [← ho.2]
 clear ho
 refine pf_run (xf := x_r04_Of) rfl (by simp [x_r04_Of]) ?_
 simp only [x_r04_Of]
 simp (disch := omega) only [go_sem, seval, wqa, wqb, wqc, wqd, wqe, h1, h2, fill_C, fillC_def]
theorem p_rfNeg (p q : Int) (lp : tlen p.natAbs < 100000) : pf E0 188 [rfP p q] = some (rfP (-p) q) := by
 have h1 := p_rNeg p (by omega)
 refine pf_run (xf := x_r04_Neg) rfl (by simp [x_r04_Neg]) ?_
 simp only [x_r04_Neg]
 simp (disch := omega) only [go_sem, seval, wqa, wqb, wqc, wqd, wqe]
 refine wk_calmR [6] rfl ?_ ?_
 ·simp (disch := omega) only [go_sem, seval, wqa, wqb, wqc, wqd, wqe, h1, fill_C, fillC_def]
  exact ⟨_, rfl, rfl⟩
 simp (disch := omega) only [go_sem, seval, wqa, wqb, wqc, wqd, wqe, h1, fill_C, fillC_def]
theorem p_rfMake0 (p : Int) : pf E0 182 [nP p, nP 0] = some (.tu [rfP 0 1, .i .i64 1]) := by
 have h1 := p_rfOf (n := 0) (by decide)
 obtain ⟨o, ho⟩ : ∃ o : Int, o = 0 := ⟨0, rfl⟩
 obtain ⟨r, hr⟩ : ∃ r : Int, r = 1 := ⟨1, rfl⟩
 have t0 : ((tlen o.natAbs : Int) = 0) = True := by rw [ho, Int.natAbs_zero, tlen_zero]; simp
 have e1 : nP 0 = nP o := by rw [ho]
 have e2 : rfP 0 1 = rfP o r := by rw [ho, hr]
 rw [e2] at h1
 rw [e1, e2]
 clear e1 e2 ho hr
 refine pf_run (xf := x_r04_Make) rfl (by simp [x_r04_Make]) ?_
 simp only [x_r04_Make]
 simp (disch := omega) only [go_sem, seval, wqa, wqb, wqc, wqd, wqe, t0, h1]
theorem p_rfMake (p q : Int) (h : q ≠ 0) (lp : tlen p.natAbs < 90000) (lq : tlen q.natAbs < 90000) : pf E0 182 [nP p, nP q] = some (.tu [rfP (lowP p q) (lowQ p q), .i .i64 0]) := by
 have t0 : ((tlen q.natAbs : Int) = 0) = False := by have := tlen_pos (v := q.natAbs) (by omega); simp; omega
 refine pf_run (xf := x_r04_Make) rfl (by simp [x_r04_Make]) ?_
 simp only [x_r04_Make]
 by_cases hn : q < 0
 ·have sn : decide (q < 0) = true := by simpa using hn
  have n1 := p_rNeg p (by omega)
  have n2 := p_rNeg q (by omega)
  have f1 : PV.ag [PV.b true, T q.natAbs] = nP q := by rw [← sn]; rfl
  have f2 : PV.ag [PV.b true, Tw (tlen q.natAbs) q.natAbs] = nP q := by rw [← sn]; rfl
  obtain ⟨l1, l2⟩ := low_negneg p q hn
  have gN := gI_ne (p := -p) (q := -q) (by omega)
  have gl : tlen (gI (-p) (-q)).natAbs < 90000 := by
   rw [gI_neg]
   have : (gI p q).natAbs ≤ q.natAbs := by
    unfold gI; rw [Int.natAbs_natCast]; exact Nat.gcd_le_right _ (by omega)
   have := tlen_mono this
   omega
  have g := p_rGcd (-p) (-q) (by rw [Int.natAbs_neg]; omega) (by rw [Int.natAbs_neg]; omega)
  have d1 := p_rDiv gN (x := -p) (by rw [Int.natAbs_neg]; omega) (by omega)
  have d2 := p_rDiv gN (x := -q) (by rw [Int.natAbs_neg]; omega) (by omega)
  rw [← l1, ← l2]
  have e1 : lowP (-p) (-q) = -p / gI (-p) (-q) := by unfold lowP; rw [if_neg (by omega)]
  have e2 : lowQ (-p) (-q) = -q / gI (-p) (-q) := by unfold lowQ; rw [if_neg (by omega)]
  rw [e1, e2]
  have hg : nP (((Nat.gcd (-p).natAbs (-q).natAbs : Nat) : Int)) = nP (gI (-p) (-q)) := rfl
  rw [hg] at g
  generalize gI (-p) (-q) = G at *
  generalize -p = P at *
  generalize -q = Q at *
  simp (disch := omega) only [go_sem, seval, wqa, wqb, wqc, wqd, wqe, t0, sn, f1, f2, n1, n2, g, d1, d2, fill_C, fillC_def]
 ·have sn : decide (q < 0) = false := by simpa using hn
  have f1 : PV.ag [PV.b false, T q.natAbs] = nP q := by rw [← sn]; rfl
  have f2 : PV.ag [PV.b false, Tw (tlen q.natAbs) q.natAbs] = nP q := by rw [← sn]; rfl
  have gN := gI_ne (p := p) (q := q) h
  have gl : tlen (gI p q).natAbs < 90000 := by
   have : (gI p q).natAbs ≤ q.natAbs := by
    unfold gI; rw [Int.natAbs_natCast]; exact Nat.gcd_le_right _ (by omega)
   have := tlen_mono this
   omega
  have g := p_rGcd p q (by omega) (by omega)
  have d1 := p_rDiv gN (x := p) (by omega) (by omega)
  have d2 := p_rDiv gN (x := q) (by omega) (by omega)
  have e1 : lowP p q = p / gI p q := by unfold lowP; rw [if_neg hn]
  have e2 : lowQ p q = q / gI p q := by unfold lowQ; rw [if_neg hn]
  rw [e1, e2]
  have hg : nP (((Nat.gcd p.natAbs q.natAbs : Nat) : Int)) = nP (gI p q) := rfl
  rw [hg] at g
  generalize gI p q = G at *
  simp (disch := omega) only [go_sem, seval, wqa, wqb, wqc, wqd, wqe, t0, sn, f1, f2, g, d1, d2, fill_C, fillC_def]
end Go.Eng
namespace Go.Eng
theorem p_rFits' {z : Int} (h : tlen z.natAbs < 100000000) : pf E0 126 [nP z] = some (.b (decide (inR z.natAbs))) := by
 have h1 := p_rFits z h
 have h2 : (tlen z.natAbs < 1230 ∨ z.natAbs < 2 ^ 16384) = inR z.natAbs := propext (fits_iff _)
 simp only [h2] at h1
 exact h1
theorem p_ranged0 (p q : Int) (lp : tlen p.natAbs < 90000) (lq : tlen q.natAbs < 90000) : (inR p.natAbs ∧ inR q.natAbs → pf E0 208 [rfP p q, .i .i64 0] = some (.tu [rfP p q, .i .i64 0])) ∧
  (¬ (inR p.natAbs ∧ inR q.natAbs) → pf E0 208 [rfP p q, .i .i64 0] = some (.tu [rfP 0 1, .i .i64 4])) := by
 have f1 := p_rFits' (z := p) (by omega)
 have f2 := p_rFits' (z := q) (by omega)
 have h1 := p_rfOf (n := 0) (by decide)
 obtain ⟨z, hz⟩ : ∃ z : PV, z = rfP 0 1 := ⟨_, rfl⟩
 constructor
 ·rintro ⟨r1, r2⟩
  rw [decide_eq_true r1] at f1
  rw [decide_eq_true r2] at f2
  refine pf_run (xf := x_r04_ranged) rfl (by simp [x_r04_ranged]) ?_
  simp only [x_r04_ranged]
  simp (disch := omega) only [go_sem, seval, wqa, wqb, wqc, wqd, wqe, f1, f2]
 ·intro hn
  clear hz z
  obtain ⟨o, ho⟩ : ∃ o : Int, o = 0 := ⟨0, rfl⟩
  obtain ⟨r, hr⟩ : ∃ r : Int, r = 1 := ⟨1, rfl⟩
  have e2 : rfP 0 1 = rfP o r := by rw [ho, hr]
  rw [e2] at h1 ⊢
  clear e2 ho hr
  refine pf_run (xf := x_r04_ranged) rfl (by simp [x_r04_ranged]) ?_
  simp only [x_r04_ranged]
  by_cases r1 : inR p.natAbs
  ·have r2 : ¬ inR q.natAbs := fun r2 => hn ⟨r1, r2⟩
   rw [decide_eq_true r1] at f1
   rw [decide_eq_false r2] at f2
   simp (disch := omega) only [go_sem, seval, wqa, wqb, wqc, wqd, wqe, f1, f2, h1]
  ·rw [decide_eq_false r1] at f1
   simp (disch := omega) only [go_sem, seval, wqa, wqb, wqc, wqd, wqe, f1, f2, h1]
theorem p_rangedE (p q : Int) {e : Int} (he : e ≠ 0) (lp : tlen p.natAbs < 90000) (lq : tlen q.natAbs < 90000) : pf E0 208 [rfP p q, .i .i64 e] = some (.tu [rfP 0 1, .i .i64 e]) := by
 have f1 := p_rFits' (z := p) (by omega)
 have f2 := p_rFits' (z := q) (by omega)
 have h1 := p_rfOf (n := 0) (by decide)
 have he : (e = 0) = False := by simp [he]
 obtain ⟨o, ho⟩ : ∃ o : Int, o = 0 := ⟨0, rfl⟩
 obtain ⟨r, hr⟩ : ∃ r : Int, r = 1 := ⟨1, rfl⟩
 have e2 : rfP 0 1 = rfP o r := by rw [ho, hr]
 rw [e2] at h1 ⊢
 clear e2 ho hr
 refine pf_run (xf := x_r04_ranged) rfl (by simp [x_r04_ranged]) ?_
 simp only [x_r04_ranged]
 simp (disch := omega) only [go_sem, seval, wqa, wqb, wqc, wqd, wqe, f1, f2, h1, he]
theorem p_rfMul (p q r s : Int) (h : q * s ≠ 0) (lp : tlen p.natAbs < 20000) (lq : tlen q.natAbs < 20000) (lr : tlen r.natAbs < 20000) (ls : tlen s.natAbs < 20000) {R : PV} {e : Int} (hR : pf E0 208 [rfP (lowP (p * r) (q * s)) (lowQ (p * r) (q * s)), .i .i64 0] = some (.tu [R, .i .i64 e]))
  (hz : ∃ u v, R = rfP u v) : pf E0 192 [rfP p q, rfP r s] = some (.tu [R, .i .i64 e]) := by
 obtain ⟨u, v, rfl⟩ := hz
 have t1 := tlen_mulI p r
 have t2 := tlen_mulI q s
 have m1 := p_rMul p r (by omega) (by omega)
 have m2 := p_rMul q s (by omega) (by omega)
 have mk := p_rfMake (p * r) (q * s) h (by omega) (by omega)
 generalize lowP (p * r) (q * s) = x at *
 generalize lowQ (p * r) (q * s) = y at *
 generalize p * r = pr at *
 generalize q * s = qs at *
 refine pf_run (xf := x_r04_Mul) rfl (by simp [x_r04_Mul]) ?_
 simp only [x_r04_Mul]
 simp (disch := omega) only [go_sem, seval, wqa, wqb, wqc, wqd, wqe]
 refine wk_calmR [14, 16] rfl ?_ ?_
 ·simp (disch := omega) only [go_sem, seval, wqa, wqb, wqc, wqd, wqe, m1, m2, mk]
  exact ⟨_, rfl, rfl⟩
 simp (disch := omega) only [go_sem, seval, wqa, wqb, wqc, wqd, wqe, m1, m2, mk, hR]
theorem p_rfDiv (p q r s : Int) (h : q * r ≠ 0) (lp : tlen p.natAbs < 20000) (lq : tlen q.natAbs < 20000) (lr : tlen r.natAbs < 20000) (ls : tlen s.natAbs < 20000) {R : PV} {e : Int} (hR : pf E0 208 [rfP (lowP (p * s) (q * r)) (lowQ (p * s) (q * r)), .i .i64 0] = some (.tu [R, .i .i64 e]))
  (hz : ∃ u v, R = rfP u v) : pf E0 193 [rfP p q, rfP r s] = some (.tu [R, .i .i64 e]) := by
 obtain ⟨u, v, rfl⟩ := hz
 have t1 := tlen_mulI p s
 have t2 := tlen_mulI q r
 have m1 := p_rMul p s (by omega) (by omega)
 have m2 := p_rMul q r (by omega) (by omega)
 have mk := p_rfMake (p * s) (q * r) h (by omega) (by omega)
 generalize lowP (p * s) (q * r) = x at *
 generalize lowQ (p * s) (q * r) = y at *
 generalize p * s = pr at *
 generalize q * r = qs at *
 refine pf_run (xf := x_r04_Div) rfl (by simp [x_r04_Div]) ?_
 simp only [x_r04_Div]
 simp (disch := omega) only [go_sem, seval, wqa, wqb, wqc, wqd, wqe]
 refine wk_calmR [14, 16] rfl ?_ ?_
 ·simp (disch := omega) only [go_sem, seval, wqa, wqb, wqc, wqd, wqe, m1, m2, mk]
  exact ⟨_, rfl, rfl⟩
 simp (disch := omega) only [go_sem, seval, wqa, wqb, wqc, wqd, wqe, m1, m2, mk, hR]
end Go.Eng
namespace Go.Eng
theorem decI_len2' (z : Int) : (decI z).length ≤ 4 * tlen z.natAbs + 2 := by
 have : dlen z.natAbs ≤ 4 * tlen z.natAbs := by
  rw [dlen_iff, Nat.pow_mul]; exact tlen_lt _
 have h1 : (dec z.natAbs).length ≤ 4 * tlen z.natAbs + 1 := by
  unfold dec; split
  ·simp
  ·rw [dtx_len]; omega
 unfold decI; split <;> (try simp only [List.length_cons]) <;> omega
theorem p_rfText (p q : Int) (lp : tlen p.natAbs < 20000) (lq : tlen q.natAbs < 20000) : pf E0 196 [rfP p q] = some (.s (ftx p q)) := by
 have t1 := p_Text (z := p) (by omega)
 have t2 := p_Text (z := q) (by omega)
 have l1 := decI_len2' p
 have l2 := decI_len2' q
 have e1 : decI 1 = [49] := by
  unfold decI; rw [if_neg (by decide)]
  show dec 1 = [49]
  rw [dec_eval (v := 1) (n := 0) (by decide) (by decide)]; rfl
 refine pf_run (xf := x_r04_Text) rfl (by simp [x_r04_Text]) ?_
 simp only [x_r04_Text]
 unfold ftx
 by_cases h : q = 1
 ·rw [if_pos h]
  have t2' : pf E0 107 [nP q] = some (.s [49]) := by rw [t2, h, e1]
  simp (disch := omega) only [go_sem, seval, wqa, wqb, wqc, wqd, wqe, t2', t1]
 ·rw [if_neg h]
  have hne : (decI q = [49]) = False := by
   simp only [eq_iff_iff, iff_false]
   intro e; rw [← e1] at e; exact h (decI_inj e)
  have a1 : binP .add (.s (decI p)) (.s [47]) = some (.s (decI p ++ [47])) := bin_sadd _ _ (by simp only [List.length_cons, List.length_nil]; omega)
  have a2 : binP .add (.s (decI p ++ [47])) (.s (decI q)) = some (.s (decI p ++ [47] ++ decI q)) := bin_sadd _ _ (by simp only [List.length_append, List.length_cons, List.length_nil]; omega)
  simp (disch := omega) only [go_sem, seval, wqa, wqb, wqc, wqd, wqe, t2, t1, hne, a1, a2]
theorem p_rfCompare (p q r s : Int) (lp : tlen p.natAbs < 20000) (lq : tlen q.natAbs < 20000) (lr : tlen r.natAbs < 20000) (ls : tlen s.natAbs < 20000) : pf E0 200 [rfP p q, rfP r s] = some (.i .i64 (cmpI (p * s) (r * q))) := by
 have t1 := tlen_mulI p s
 have t2 := tlen_mulI r q
 have m1 := p_rMul p s (by omega) (by omega)
 have m2 := p_rMul r q (by omega) (by omega)
 have c := p_rCompare (p * s) (r * q) (by omega) (by omega)
 generalize p * s = x at *
 generalize r * q = y at *
 refine pf_run (xf := x_r04_Compare) rfl (by simp [x_r04_Compare]) ?_
 simp only [x_r04_Compare]
 simp (disch := omega) only [go_sem, seval, wqa, wqb, wqc, wqd, wqe]
 refine wk_calmR [10, 12] rfl ?_ ?_
 ·simp (disch := omega) only [go_sem, seval, wqa, wqb, wqc, wqd, wqe, m1, m2, c]
  exact ⟨_, rfl, rfl⟩
 simp (disch := omega) only [go_sem, seval, wqa, wqb, wqc, wqd, wqe, m1, m2, c]
theorem p_rfSign (p q : Int) : pf E0 199 [rfP p q] = some (.i .i64 (cmpI p 0)) := by
 refine pf_run (xf := x_r04_Sign) rfl (by simp [x_r04_Sign]) ?_
 simp only [x_r04_Sign]
 by_cases h : p = 0
 ·have t0 : ((tlen p.natAbs : Int) = 0) = True := by rw [h, Int.natAbs_zero, tlen_zero]; simp
  have c : cmpI p 0 = 0 := by rw [h]; rfl
  rw [c]
  simp (disch := omega) only [go_sem, seval, wqa, wqb, wqc, wqd, wqe, t0]
 ·have t0 : ((tlen p.natAbs : Int) = 0) = False := by have := tlen_pos (v := p.natAbs) (by omega); simp; omega
  by_cases hn : p < 0
  ·have c : cmpI p 0 = -1 := by unfold cmpI; rw [if_pos hn]
   have sn : decide (p < 0) = true := by simpa using hn
   rw [c]
   simp (disch := omega) only [go_sem, seval, wqa, wqb, wqc, wqd, wqe, t0, sn]
  ·have c : cmpI p 0 = 1 := by unfold cmpI; rw [if_neg hn, if_pos (by omega)]
   have sn : decide (p < 0) = false := by simpa using hn
   rw [c]
   simp (disch := omega) only [go_sem, seval, wqa, wqb, wqc, wqd, wqe, t0, sn]
end Go.Eng
namespace Go.Eng
theorem app_l (b0 b1 b2 b3 b4 b5 b6 b7 : Option PB) (c0 c1 c2 c3 c4 c5 d0 d1 : PV) : appP [b0, b1, b2, b3, b4, b5, b6, b7, some ⟨[c0, c1, c2, c3, c4, c5], true, 0⟩, some ⟨[d0, d1], true, 0⟩] 2 32 (.sl 8 0 3 3 2) (.sl 9 0 1 1 2) =
  some (.sl 10 0 4 4 2, [b0, b1, b2, b3, b4, b5, b6, b7, none, some ⟨[d0, d1], true, 0⟩, some ⟨[c0, c1, c2, c3, c4, c5, d0, d1], true, 0⟩]) := rfl
theorem p_rfAdd (p q r s : Int) (q0 : 0 < q) (s0 : 0 < s) (lp : tlen p.natAbs < 20000) (lq : tlen q.natAbs < 20000) (lr : tlen r.natAbs < 20000) (ls : tlen s.natAbs < 20000) :
  (inR (p * (s / gI q s)).natAbs ∧ inR (r * (q / gI q s)).natAbs ∧ inR (p * (s / gI q s) + r * (q / gI q s)).natAbs ∧ inR (q / gI q s * s).natAbs →
   pf E0 190 [rfP p q, rfP r s] = some (.tu [rfP (lowP (p * (s / gI q s) + r * (q / gI q s)) (q / gI q s * s)) (lowQ (p * (s / gI q s) + r * (q / gI q s)) (q / gI q s * s)), .i .i64 0])) ∧
  (¬ (inR (p * (s / gI q s)).natAbs ∧ inR (r * (q / gI q s)).natAbs ∧ inR (p * (s / gI q s) + r * (q / gI q s)).natAbs ∧ inR (q / gI q s * s).natAbs) → pf E0 190 [rfP p q, rfP r s] = some (.tu [rfP 0 1, .i .i64 4])) := by
 have g := p_rGcd q s (by omega) (by omega)
 have hg : nP (((Nat.gcd q.natAbs s.natAbs : Nat) : Int)) = nP (gI q s) := rfl
 rw [hg] at g
 have gN := gI_ne (p := q) (q := s) (by omega)
 have gl : tlen (gI q s).natAbs < 20000 := by
  have : (gI q s).natAbs ≤ s.natAbs := by
   unfold gI; rw [Int.natAbs_natCast]; exact Nat.gcd_le_right _ (by omega)
  have := tlen_mono this
  omega
 have zN : q / gI q s * s ≠ 0 := by
  have h1 : q / gI q s * gI q s = q := Int.ediv_mul_cancel (gI_dvdl q s)
  have h2 : q / gI q s ≠ 0 := fun e => by rw [e] at h1; omega
  exact Int.mul_ne_zero h2 (by omega)
 have d1 := p_rDiv gN (x := s) (by omega) (by omega)
 have d2 := p_rDiv gN (x := q) (by omega) (by omega)
 have k1 : tlen (s / gI q s).natAbs < 20000 := by
  have : (s / gI q s).natAbs ≤ s.natAbs := by rw [Int.natAbs_ediv_of_dvd (gI_dvdr q s)]; exact Nat.div_le_self _ _
  have := tlen_mono this
  omega
 have k2 : tlen (q / gI q s).natAbs < 20000 := by
  have : (q / gI q s).natAbs ≤ q.natAbs := by rw [Int.natAbs_ediv_of_dvd (gI_dvdl q s)]; exact Nat.div_le_self _ _
  have := tlen_mono this
  omega
 generalize gI q s = G at *
 generalize s / G = S at *
 generalize q / G = Q at *
 have m1 := p_rMul p S (by omega) (by omega)
 have m2 := p_rMul r Q (by omega) (by omega)
 have m3 := p_rMul Q s (by omega) (by omega)
 have t1 := tlen_mulI p S
 have t2 := tlen_mulI r Q
 have t3 := tlen_mulI Q s
 generalize p * S = x at *
 generalize r * Q = y at *
 generalize Q * s = z at *
 have a1 := p_rAdd x y (by omega) (by omega)
 have t4 := tlen_addI x y
 have mk := p_rfMake (x + y) z zN (by omega) (by omega)
 have f1 := p_rFits' (z := x) (by omega)
 have f2 := p_rFits' (z := y) (by omega)
 have f3 := p_rFits' (z := z) (by omega)
 have f4 := p_rFits' (z := x + y) (by omega)
 generalize lowP (x + y) z = u at *
 generalize lowQ (x + y) z = v at *
 generalize x + y = w at *
 constructor
 ·rintro ⟨r1, r2, r4, r3⟩
  rw [decide_eq_true r1] at f1
  rw [decide_eq_true r2] at f2
  rw [decide_eq_true r3] at f3
  rw [decide_eq_true r4] at f4
  refine pf_run (xf := x_r04_Add) rfl (by simp [x_r04_Add]) ?_
  simp only [x_r04_Add]
  simp (disch := omega) only [go_sem, seval, wqa, wqb, wqc, wqd, wqe, g, d1, d2]
  refine wk_calmR [37, 9, 42] rfl ?_ ?_
  ·simp (disch := omega) only [go_sem, seval, wqa, wqb, wqc, wqd, wqe, m1, m2, m3, fill_C, fillC_def]
   exact ⟨_, rfl, rfl⟩
  simp (disch := omega) only [go_sem, seval, wqa, wqb, wqc, wqd, wqe, m1, m2, m3, a1, app_l, fill_C, fillC_def]
  refine wk_roll x_r04_Add_l1.eq_1 ?_
  simp (disch := omega) only [go_sem, seval, wqa, wqb, wqc, wqd, wqe, f1]
  refine wk_roll x_r04_Add_l1.eq_1 ?_
  simp (disch := omega) only [go_sem, seval, wqa, wqb, wqc, wqd, wqe, f2]
  refine wk_roll x_r04_Add_l1.eq_1 ?_
  simp (disch := omega) only [go_sem, seval, wqa, wqb, wqc, wqd, wqe, f3]
  refine wk_roll x_r04_Add_l1.eq_1 ?_
  simp (disch := omega) only [go_sem, seval, wqa, wqb, wqc, wqd, wqe, f4]
  refine wk_roll x_r04_Add_l1.eq_1 ?_
  simp (disch := omega) only [go_sem, seval, wqa, wqb, wqc, wqd, wqe, mk]
 ·intro hn
  have h1 := p_rfOf (n := 0) (by decide)
  obtain ⟨o, ho⟩ : ∃ o : Int, o = 0 := ⟨0, rfl⟩
  obtain ⟨k, hk⟩ : ∃ k : Int, k = 1 := ⟨1, rfl⟩
  have e2 : rfP 0 1 = rfP o k := by rw [ho, hk]
  rw [e2] at h1 ⊢
  clear e2 ho hk
  refine pf_run (xf := x_r04_Add) rfl (by simp [x_r04_Add]) ?_
  simp only [x_r04_Add]
  simp (disch := omega) only [go_sem, seval, wqa, wqb, wqc, wqd, wqe, g, d1, d2]
  refine wk_calmR [37, 9, 42] rfl ?_ ?_
  ·simp (disch := omega) only [go_sem, seval, wqa, wqb, wqc, wqd, wqe, m1, m2, m3, fill_C, fillC_def]
   exact ⟨_, rfl, rfl⟩
  simp (disch := omega) only [go_sem, seval, wqa, wqb, wqc, wqd, wqe, m1, m2, m3, a1, app_l, fill_C, fillC_def]
  refine wk_roll x_r04_Add_l1.eq_1 ?_
  by_cases r1 : inR x.natAbs
  ·rw [decide_eq_true r1] at f1
   simp (disch := omega) only [go_sem, seval, wqa, wqb, wqc, wqd, wqe, f1]
   refine wk_roll x_r04_Add_l1.eq_1 ?_
   by_cases r2 : inR y.natAbs
   ·rw [decide_eq_true r2] at f2
    simp (disch := omega) only [go_sem, seval, wqa, wqb, wqc, wqd, wqe, f2]
    refine wk_roll x_r04_Add_l1.eq_1 ?_
    by_cases r3 : inR z.natAbs
    ·rw [decide_eq_true r3] at f3
     simp (disch := omega) only [go_sem, seval, wqa, wqb, wqc, wqd, wqe, f3]
     refine wk_roll x_r04_Add_l1.eq_1 ?_
     rw [decide_eq_false fun r4 => hn ⟨r1, r2, r4, r3⟩] at f4
     simp (disch := omega) only [go_sem, seval, wqa, wqb, wqc, wqd, wqe, f4, h1]
    ·rw [decide_eq_false r3] at f3
     simp (disch := omega) only [go_sem, seval, wqa, wqb, wqc, wqd, wqe, f3, h1]
   ·rw [decide_eq_false r2] at f2
    simp (disch := omega) only [go_sem, seval, wqa, wqb, wqc, wqd, wqe, f2, h1]
  ·rw [decide_eq_false r1] at f1
   simp (disch := omega) only [go_sem, seval, wqa, wqb, wqc, wqd, wqe, f1, h1]
end Go.Eng
namespace Go.Eng
theorem inR_of {z : Int} (h : tlen z.natAbs < 1230) : inR z.natAbs := (fits_iff _).1 (.inl h)
end Go.Eng
namespace Go.Eng
theorem wi_ext {x y : WI} (h : x.v = y.v) : x = y := by cases x; cases y; cases h; rfl
theorem fq_ext {f g : FQ} (h1 : f.p.v = g.p.v) (h2 : f.q.v = g.q.v) : f = g := by
 have e1 := wi_ext h1
 have e2 := wi_ext h2
 cases f; cases g
 simp only at e1 e2
 subst e1 e2; rfl
def FQ.is (f : FQ) (n d : Int) : Prop := f.p.v * d = n * f.q.v
theorem is_low {f : FQ} {n d : Int} (h : d ≠ 0) (h1 : f.p.v = lowP n d) (h2 : f.q.v = lowQ n d) : f.is n d := by
 unfold FQ.is; rw [h1, h2]; exact low_cross h
theorem is_self (f : FQ) : f.is f.p.v f.q.v := rfl
theorem is_uniq {f g : FQ} {n d n' d' : Int} (hd : d ≠ 0) (hd' : d' ≠ 0) (hf : f.is n d) (hg : g.is n' d') (e : n * d' = n' * d) : f = g := by
 unfold FQ.is at hf hg
 have qf := f.q1
 have qg := g.q1
 have key : f.p.v * g.q.v = g.p.v * f.q.v := by
  apply Int.eq_of_mul_eq_mul_right (a := d * d') (Int.mul_ne_zero hd hd')
  calc f.p.v * g.q.v * (d * d') = f.p.v * d * (g.q.v * d') := by grind
   _ = n * f.q.v * (g.q.v * d') := by rw [hf]
   _ = n * d' * (f.q.v * g.q.v) := by grind
   _ = n' * d * (f.q.v * g.q.v) := by rw [e]
   _ = n' * g.q.v * (f.q.v * d) := by grind
   _ = g.p.v * d' * (f.q.v * d) := by rw [hg]
   _ = g.p.v * f.q.v * (d * d') := by grind
 obtain ⟨a, b⟩ := low_uniq (by omega) (by omega) f.cop g.cop key
 exact fq_ext a b
theorem is_scale {f : FQ} {n d : Int} (h : f.is n d) (k : Int) : f.is (n * k) (d * k) := by
 unfold FQ.is at *
 rw [← Int.mul_assoc, h]; grind
theorem ten4 (n : Nat) : (10 : Nat) ^ (4 * n) = 10000 ^ n := by rw [Nat.pow_mul]
theorem wi_tlen (x : WI) : tlen x.v.natAbs ≤ 1239 := by
 have h := inR_dlen ((wide_iff _).1 x.lim)
 obtain ⟨n, hn⟩ : ∃ n : Nat, n = 1239 := ⟨_, rfl⟩
 have h : dlen x.v.natAbs ≤ 4 * n := by omega
 rw [dlen_iff, ten4] at h
 rw [← hn, tlen_iff]
 exact h
def fsz (n : Nat) (f : FQ) : Prop := tlen f.p.v.natAbs ≤ n ∧ tlen f.q.v.natAbs ≤ n
theorem tlen_div {a g : Int} (h : g ∣ a) : tlen (a / g).natAbs ≤ tlen a.natAbs := by
 refine tlen_mono ?_
 rw [Int.natAbs_ediv_of_dvd h]; exact Nat.div_le_self _ _
theorem add_is (a b : FQ) {n m : Nat} (ha : fsz n a) (hb : fsz m b) (h : n + m + 1 < 1230) : ∃ f : FQ, pf E0 9 [fqP a, fqP b] = some (.tu [fqP f, .i .i64 0]) ∧ f.is (a.p.v * b.q.v + b.p.v * a.q.v) (a.q.v * b.q.v) ∧ fsz (n + m + 1) f := by
 obtain ⟨a1, a2⟩ := ha
 obtain ⟨b1, b2⟩ := hb
 have qa := a.q1
 have qb := b.q1
 have k1 := tlen_div (gI_dvdr a.q.v b.q.v)
 have k2 := tlen_div (gI_dvdl a.q.v b.q.v)
 have d1 : b.q.v / gI a.q.v b.q.v * gI a.q.v b.q.v = b.q.v := Int.ediv_mul_cancel (gI_dvdr _ _)
 have d2 : a.q.v / gI a.q.v b.q.v * gI a.q.v b.q.v = a.q.v := Int.ediv_mul_cancel (gI_dvdl _ _)
 have t1 : tlen (adX a b).natAbs ≤ n + m := Nat.le_trans (tlen_mulI _ _) (by omega)
 have t2 : tlen (adY a b).natAbs ≤ n + m := Nat.le_trans (tlen_mulI _ _) (by omega)
 have t3 : tlen (adD a b).natAbs ≤ n + m := Nat.le_trans (tlen_mulI _ _) (by omega)
 have t4 : tlen (adX a b + adY a b).natAbs ≤ n + m + 1 := Nat.le_trans (tlen_addI _ _) (by omega)
 have dn := adD_ne a b
 obtain ⟨f, h1, h2, hf⟩ := (p_fAdd a b).1 ⟨inR_of (by omega), inR_of (by omega), inR_of (by omega), inR_of (by omega)⟩
 refine ⟨f, hf, ?_, ?_, ?_⟩
 ·have hs := is_scale (is_low dn h1 h2) (gI a.q.v b.q.v)
  have e1 : (adX a b + adY a b) * gI a.q.v b.q.v = a.p.v * b.q.v + b.p.v * a.q.v := by
   unfold adX adY
   rw [Int.add_mul, Int.mul_assoc, Int.mul_assoc, d1, d2]
  have e2 : adD a b * gI a.q.v b.q.v = a.q.v * b.q.v := by
   unfold adD
   rw [Int.mul_right_comm, d2]
  rwa [e1, e2] at hs
 ·rw [h1]; exact Nat.le_trans (tlen_mono (lowP_le dn)) t4
 ·rw [h2]; exact Nat.le_trans (tlen_mono (lowQ_le dn)) (by omega)
theorem fsz_neg {n : Nat} {f : FQ} (h : fsz n f) : fsz n f.neg := ⟨by show tlen (-f.p.v).natAbs ≤ n; rw [Int.natAbs_neg]; exact h.1, h.2⟩
theorem sub_is (a b : FQ) {n m : Nat} (ha : fsz n a) (hb : fsz m b) (h : n + m + 1 < 1230) : ∃ f : FQ, pf E0 81 [fqP a, fqP b] = some (.tu [fqP f, .i .i64 0]) ∧ f.is (a.p.v * b.q.v - b.p.v * a.q.v) (a.q.v * b.q.v) ∧ fsz (n + m + 1) f := by
 obtain ⟨f, h1, h2, h3⟩ := add_is a b.neg ha (fsz_neg hb) h
 refine ⟨f, by rw [p_fSub]; exact h1, ?_, h3⟩
 have e : a.p.v * b.neg.q.v + b.neg.p.v * a.q.v = a.p.v * b.q.v - b.p.v * a.q.v := by
  show a.p.v * b.q.v + -b.p.v * a.q.v = _
  rw [Int.neg_mul]; omega
 rwa [e] at h2
theorem mul_is (a b : FQ) {n m : Nat} (ha : fsz n a) (hb : fsz m b) (h : n + m < 1230) : ∃ f : FQ, pf E0 8 [fqP a, fqP b] = some (.tu [fqP f, .i .i64 0]) ∧ f.is (a.p.v * b.p.v) (a.q.v * b.q.v) ∧ fsz (n + m) f := by
 obtain ⟨a1, a2⟩ := ha
 obtain ⟨b1, b2⟩ := hb
 have qa := a.q1
 have qb := b.q1
 have dn : a.q.v * b.q.v ≠ 0 := Int.mul_ne_zero (by omega) (by omega)
 have t1 : tlen (muP a b).natAbs ≤ n + m := Nat.le_trans (tlen_mono (lowP_le dn)) (Nat.le_trans (tlen_mulI _ _) (by omega))
 have t2 : tlen (muQ a b).natAbs ≤ n + m := Nat.le_trans (tlen_mono (lowQ_le dn)) (Nat.le_trans (tlen_mulI _ _) (by omega))
 obtain ⟨f, h1, h2, hf⟩ := (p_fMul a b).1 ⟨inR_of (by omega), inR_of (by omega)⟩
 exact ⟨f, hf, is_low dn h1 h2, by rw [h1]; exact t1, by rw [h2]; exact t2⟩
theorem div_is (a b : FQ) (hb0 : b.p.v ≠ 0) {n m : Nat} (ha : fsz n a) (hb : fsz m b) (h : n + m < 1230) : ∃ f : FQ, pf E0 65 [fqP a, fqP b] = some (.tu [fqP f, .i .i64 0]) ∧ f.is (a.p.v * b.q.v) (a.q.v * b.p.v) ∧ fsz (n + m) f := by
 obtain ⟨a1, a2⟩ := ha
 obtain ⟨b1, b2⟩ := hb
 have qa := a.q1
 have dn : a.q.v * b.p.v ≠ 0 := Int.mul_ne_zero (by omega) hb0
 have t1 : tlen (dvP a b).natAbs ≤ n + m := Nat.le_trans (tlen_mono (lowP_le dn)) (Nat.le_trans (tlen_mulI _ _) (by omega))
 have t2 : tlen (dvQ a b).natAbs ≤ n + m := Nat.le_trans (tlen_mono (lowQ_le dn)) (Nat.le_trans (tlen_mulI _ _) (by omega))
 obtain ⟨f, h1, h2, hf⟩ := (p_fDiv a b hb0).1 ⟨inR_of (by omega), inR_of (by omega)⟩
 exact ⟨f, hf, is_low dn h1 h2, by rw [h1]; exact t1, by rw [h2]; exact t2⟩
noncomputable def rfQ (f : FQ) : PV := rfP f.p.v f.q.v
theorem rfQ0 : rfP 0 1 = rfQ fq0 := rfl
theorem rfQ_of {f : FQ} {n d : Int} (h1 : f.p.v = n) (h2 : f.q.v = d) : rfP n d = rfQ f := by rw [← h1, ← h2]; rfl
theorem add_both (a b : FQ) : ∃ (f : FQ) (e : Int), pf E0 9 [fqP a, fqP b] = some (.tu [fqP f, .i .i64 e]) ∧ pf E0 190 [rfQ a, rfQ b] = some (.tu [rfQ f, .i .i64 e]) := by
 have la := wi_tlen a.p
 have lb := wi_tlen b.p
 have ka := wi_tlen a.q
 have kb := wi_tlen b.q
 have qa := a.q1
 have qb := b.q1
 have hr := p_rfAdd a.p.v a.q.v b.p.v b.q.v (by omega) (by omega) (by omega) (by omega) (by omega) (by omega)
 by_cases h : adOk a b
 ·obtain ⟨f, h1, h2, hf⟩ := (p_fAdd a b).1 h
  refine ⟨f, 0, hf, ?_⟩
  have := hr.1 h
  rw [← rfQ_of h1 h2]; exact this
 ·exact ⟨fq0, 4, (p_fAdd a b).2 h, hr.2 h⟩
theorem mul_both (a b : FQ) : ∃ (f : FQ) (e : Int), pf E0 8 [fqP a, fqP b] = some (.tu [fqP f, .i .i64 e]) ∧ pf E0 192 [rfQ a, rfQ b] = some (.tu [rfQ f, .i .i64 e]) := by
 have la := wi_tlen a.p
 have lb := wi_tlen b.p
 have ka := wi_tlen a.q
 have kb := wi_tlen b.q
 have qa := a.q1
 have qb := b.q1
 have dn : a.q.v * b.q.v ≠ 0 := Int.mul_ne_zero (by omega) (by omega)
 have t1 := Nat.le_trans (tlen_mono (lowP_le (p := a.p.v * b.p.v) dn)) (tlen_mulI a.p.v b.p.v)
 have t2 := Nat.le_trans (tlen_mono (lowQ_le (p := a.p.v * b.p.v) dn)) (tlen_mulI a.q.v b.q.v)
 have hg := p_ranged0 (lowP (a.p.v * b.p.v) (a.q.v * b.q.v)) (lowQ (a.p.v * b.p.v) (a.q.v * b.q.v)) (by omega) (by omega)
 by_cases h : inR (muP a b).natAbs ∧ inR (muQ a b).natAbs
 ·obtain ⟨f, h1, h2, hf⟩ := (p_fMul a b).1 h
  refine ⟨f, 0, hf, ?_⟩
  rw [← rfQ_of h1 h2]
  exact p_rfMul a.p.v a.q.v b.p.v b.q.v dn (by omega) (by omega) (by omega) (by omega) (hg.1 h) ⟨_, _, rfl⟩
 ·exact ⟨fq0, 4, (p_fMul a b).2 h, p_rfMul a.p.v a.q.v b.p.v b.q.v dn (by omega) (by omega) (by omega) (by omega) (hg.2 h) ⟨_, _, rfl⟩⟩
theorem cmpI_sub {a b c d : Int} (h : a - b = c - d) : cmpI a b = cmpI c d := by
 unfold cmpI
 have e1 : (a < b) = (c < d) := by simp only [eq_iff_iff]; omega
 have e2 : (b < a) = (d < c) := by simp only [eq_iff_iff]; omega
 simp only [e1, e2]
theorem cmpI_swap (a b : Int) : cmpI b a = -cmpI a b := by
 unfold cmpI
 rcases Int.lt_trichotomy a b with h | h | h
 ·rw [if_neg (by omega), if_pos h, if_pos h]; rfl
 ·subst h; rw [if_neg (by omega), if_neg (by omega)]; rfl
 ·rw [if_pos h, if_neg (by omega), if_pos h]
theorem cmpI_scale {a b k : Int} (hk : 0 < k) : cmpI (a * k) (b * k) = cmpI a b := by
 unfold cmpI
 rcases Int.lt_trichotomy a b with h | h | h
 ·have := Int.mul_lt_mul_of_pos_right h hk
  rw [if_pos this, if_pos h]
 ·subst h; rw [if_neg (by omega), if_neg (by omega), if_neg (by omega), if_neg (by omega)]
 ·have := Int.mul_lt_mul_of_pos_right h hk
  rw [if_neg (by omega), if_pos this, if_neg (by omega), if_pos h]
theorem cmp_step1 {p q r s : Int} (hq : 0 < q) (hs : 0 < s) (h : p / q ≠ r / s) : cmpI (p * s) (r * q) = cmpI (p / q) (r / s) := by
 have key : ∀ {p q r s : Int}, 0 < q → 0 < s → p / q < r / s → p * s < r * q := fun {p q r s} hq hs h => by
  have d1 := Int.mul_ediv_add_emod p q
  have d2 := Int.mul_ediv_add_emod r s
  have m1 := Int.emod_lt_of_pos p hq
  have m2 := Int.emod_nonneg r (show s ≠ 0 by omega)
  have h1 : p < q * (r / s) := by
   have : q * (p / q + 1) ≤ q * (r / s) := Int.mul_le_mul_of_nonneg_left (by omega) (by omega)
   rw [Int.mul_add] at this
   omega
  have h2 : p * s < q * (r / s) * s := Int.mul_lt_mul_of_pos_right h1 hs
  have h3 : q * (r / s) * s ≤ r * q := by
   have : s * (r / s) * q ≤ r * q := Int.mul_le_mul_of_nonneg_right (by omega) (by omega)
   have e : q * (r / s) * s = s * (r / s) * q := by grind
   omega
  omega
 unfold cmpI
 rcases Int.lt_trichotomy (p / q) (r / s) with g | g | g
 ·rw [if_pos (key hq hs g), if_pos g]
 ·exact (h g).elim
 ·have := key hs hq g
  rw [if_neg (by omega), if_pos this, if_neg (by omega), if_pos g]
theorem cmp_step2 {p q r s : Int} (h : p / q = r / s) : cmpI (p * s) (r * q) = cmpI (p % q * s) (r % s * q) := by
 refine cmpI_sub ?_
 have d1 := Int.mul_ediv_add_emod p q
 have d2 := Int.mul_ediv_add_emod r s
 rw [h] at d1
 have e1 : p * s = (q * (r / s) + p % q) * s := by rw [d1]
 have e2 : r * q = (s * (r / s) + r % s) * q := by rw [d2]
 rw [e1, e2]
 grind
theorem cmp_step3 {x y q s : Int} (hx : 0 ≤ x) (hy : 0 ≤ y) (hq : 0 < q) (hs : 0 < s) (h : x = 0 ∨ y = 0) : cmpI (x * s) (y * q) = cmpI x 0 - cmpI y 0 := by
 rcases h with h | h
 ·subst h
  have := cmpI_scale (a := 0) (b := y) hq
  rw [Int.zero_mul] at this
  rw [Int.zero_mul, this]
  have e : cmpI 0 0 = 0 := rfl
  rw [e, cmpI_swap 0 y]; omega
 ·subst h
  have := cmpI_scale (a := x) (b := 0) hs
  rw [Int.zero_mul] at this
  have e : cmpI 0 0 = 0 := rfl
  rw [Int.zero_mul, this, e]; omega
theorem cmp_step4 (x y q s : Int) : cmpI (x * s) (y * q) = -cmpI (q * y) (s * x) := by
 rw [Int.mul_comm x s, Int.mul_comm y q]; exact cmpI_swap _ _
def cmpF (a b : FQ) : Int := cmpI (a.p.v * b.q.v) (b.p.v * a.q.v)
theorem cmpF_is {f g : FQ} {n d n' d' : Int} (hd : 0 < d) (hd' : 0 < d') (hf : f.is n d) (hg : g.is n' d') : cmpF f g = cmpI (n * d') (n' * d) := by
 unfold FQ.is at hf hg
 have qf := f.q1
 have qg := g.q1
 unfold cmpF
 rw [← cmpI_scale (a := f.p.v * g.q.v) (k := d * d') (Int.mul_pos hd hd'), ← cmpI_scale (a := n * d') (k := f.q.v * g.q.v) (Int.mul_pos (by omega) (by omega))]
 congr 1
 ·calc f.p.v * g.q.v * (d * d') = f.p.v * d * (g.q.v * d') := by grind
   _ = n * f.q.v * (g.q.v * d') := by rw [hf]
   _ = n * d' * (f.q.v * g.q.v) := by grind
 ·calc g.p.v * f.q.v * (d * d') = g.p.v * d' * (f.q.v * d) := by grind
   _ = n' * g.q.v * (f.q.v * d) := by rw [hg]
   _ = n' * d * (f.q.v * g.q.v) := by grind
end Go.Eng
namespace Go.Eng
def isPR : PV → Bool
 | .p _ _ => true
 | .sl _ _ _ _ _ => true
 | .tu _ => true
 | _ => false
def slotIn3 (E : PEnv) (ops : List XOper) (L : List Nat) (c : Nat × Nat) : Bool :=
 match ops[c.1]?, ops[c.2]? with
 | some a, some b =>
  match a.op.looks with
  | .t s => a.op.cls == 2 && L.contains s && calmOp E b.op
  | _ => false
 | _, _ => false
end Go.Eng
namespace Go.Eng
def apP : PV → PV → Bool
 | .p a _, .p b _ => !(Nat.beq a b)
 | _, _ => false
def slotSt (ops : List XOper) (L R : List Nat) (c : Nat × Nat) : Bool :=
 match ops[c.1]?, ops[c.2]? with
 | some a, some b =>
  match a.op, b.op with
  | .load _ _ (.t s), .store _ (.t r) _ => L.contains s && R.contains r && fixedX ops c.2 (.t r)
  | _, _ => false
 | _, _ => false
theorem wk_calmW {E : PEnv} {F : PFin} {ops : List XOper} {chk : List (Nat × Nat)} {ks : List KI} {fr : PFr} {M : PM} (L R : List Nat) (hL : chk.all (fun c => calmC E ops c || slotIn2 E ops L c || slotSt ops L R c) = true)
  (hr : WL E ⟨(0 :: 0 :: (L ++ R)).map XR.tmp, fun w _ => ∃ l, w = .tu l ∧ ((l.drop 2).take L.length).all (fun x => isPP x && ((l.drop 2).drop L.length).all (apP x)) = true⟩ ops [] fr M) (w : WL E F ops ks fr M) : WK E F (.drw ops chk) ks fr M := by
 refine wk_calmG (fun fr2 Ms hT => ?_) w
 have hp : ∀ s ∈ L, isPP (fr2 s) = true ∧ ∀ r ∈ R, apP (fr2 s) (fr2 r) = true := by
  obtain ⟨lf, q, fr3, M3, vs, e, h1, h2, l, h3, h4⟩ := hr
  simp only [Option.bind_eq_some_iff, unw] at e
  obtain ⟨⟨fr4, M4⟩, e1, e2⟩ := e
  simp only [Option.some.injEq, Prod.mk.injEq] at e2
  obtain ⟨_, e3, e4⟩ := e2
  rw [← e3, ← e4] at h2
  obtain ⟨Ms', g1, g2⟩ := pOpsT_of e1
  rw [g1] at hT
  cases hT
  have hres : ∀ (f : PFr) (N : PM) (l : List Nat), pRes f N (l.map XR.tmp) = some (l.map f) := fun f N l => by
   induction l with
   | nil => rfl
   | cons a l ih => simp only [List.map_cons, pRes, pResOne, ih]
  rw [hres] at h2
  cases h2
  simp only [List.map_cons, packP] at h3
  cases h3
  have h5 : (((L ++ R).map fr2).take L.length).all (fun x => isPP x && (((L ++ R).map fr2).drop L.length).all (apP x)) = true := h4
  rw [List.map_append, List.take_left' (by simp), List.drop_left' (by simp)] at h5
  simp only [List.all_eq_true, List.mem_map, Bool.and_eq_true, forall_exists_index, and_imp, forall_apply_eq_imp_iff₂] at h5
  exact h5
 rw [List.all_eq_true] at hL ⊢
 rintro ⟨i, j⟩ hc
 have h1 := hL _ hc
 simp only [Bool.or_eq_true] at h1
 rcases h1 with (h1 | h1) | h1
 ·exact calm_chk hT h1
 ·unfold slotIn2 at h1
  split at h1
  ·rename_i a b ha hb
   split at h1
   ·rename_i z k s hop
    simp only [Bool.and_eq_true] at h1
    obtain ⟨c1, c2⟩ := h1
    have hs := (hp s (List.contains_iff_mem.1 c1)).1
    cases hf : fr2 s with
    | p n o =>
     obtain ⟨fri, A, B, q1, q2, q3, q4⟩ := pOpsT_at hT ha
     obtain ⟨frj, C, D, p1, p2, p3, p4⟩ := pOpsT_at hT hb
     have p2' : Ms[(i, j).2 + 1]? = some D := p2
     have q2' : Ms[(i, j).1 + 1]? = some B := q2
     simp only [chkP, ha, q1, q2, p1, p2]
     rw [if_neg (by rw [hop]; simp [XO.cls])]
     rw [hop]
     show chkV ops j (.t s) C D (fr2 s) = true
     rw [hf]
     show verP (some n) C D = true
     rcases p3 with ⟨_, v, p3⟩ | ⟨_, p3⟩
     ·cases hopb : b.op with
      | call f l =>
       rw [hopb] at p3 c2
       obtain ⟨ns, rfl⟩ := pcl_mem c2 p3
       exact roM_verP ns C _
      | _ => rw [hopb] at c2; simp [calmOp] at c2
     ·rw [p3]; simp [verP]
    | _ => rw [hf] at hs; simp [isPP] at hs
   ·cases h1
  ·cases h1
 ·unfold slotSt at h1
  split at h1
  ·rename_i a b ha hb
   split at h1
   ·rename_i z k s n r x hop hop2
    simp only [Bool.and_eq_true] at h1
    obtain ⟨⟨c1, c2⟩, c3⟩ := h1
    have hap := (hp s (List.contains_iff_mem.1 c1)).2 r (List.contains_iff_mem.1 c2)
    obtain ⟨fri, A, B, q1, q2, q3, q4⟩ := pOpsT_at hT ha
    obtain ⟨frj, C, D, p1, p2, p3, p4⟩ := pOpsT_at hT hb
    have p2' : Ms[(i, j).2 + 1]? = some D := p2
    have q2' : Ms[(i, j).1 + 1]? = some B := q2
    have e2 : fr2 r = frj r := p4 (.t r) c3
    simp only [chkP, ha, q1, q2, p1, p2]
    rw [if_neg (by rw [hop]; simp [XO.cls])]
    rw [hop]
    show chkV ops j (.t s) C D (fr2 s) = true
    cases hf : fr2 s with
    | p n1 o1 =>
     cases hg : fr2 r with
     | p n2 o2 =>
      rw [hf, hg] at hap
      have hne : n1 ≠ n2 := fun q => by rw [q] at hap; simp [apP] at hap
      show verP (some n1) C D = true
      rcases p3 with ⟨_, v, p3⟩ | ⟨_, p3⟩
      ·rw [hop2] at p3
       simp only [XO.pst, XO.pev] at p3
       rw [show X.pv E.glob frj (.t r) = .p n2 o2 from e2.symm.trans hg] at p3
       simp only at p3
       generalize (X.pv E.glob frj x).cells = cs at p3
       split at p3
       ·split at p3
        ·cases p3
         simp only [verP]
         rw [List.getElem?_set_ne (fun h => hne h.symm)]; simp
        ·cases p3
       ·cases p3
      ·rw [p3]; simp [verP]
     | _ => rw [hf, hg] at hap; simp [apP] at hap
    | _ => rw [hf] at hap; simp [apP] at hap
   ·cases h1
  ·cases h1
end Go.Eng
namespace Go.Eng
theorem mG (G L : PM) (k : Nat) : PM.blk (G ++ L) (G.length + k) = PM.blk L k := by
 unfold PM.blk
 rw [List.getElem?_append_right (by omega), Nat.add_sub_cancel_left]
theorem mG0 (G L : PM) : PM.blk (G ++ L) G.length = PM.blk L 0 := mG G L 0
theorem sG (G L : PM) (k : Nat) (v : Option PB) : (G ++ L).set (G.length + k) v = G ++ L.set k v := by
 rw [List.set_append_right _ _ (by omega), Nat.add_sub_cancel_left]
theorem sG0 (G L : PM) (v : Option PB) : (G ++ L).set G.length v = G ++ L.set 0 v := sG G L 0 v
theorem lG (G L : PM) : (G ++ L).length = G.length + L.length := List.length_append
theorem cmpI_rng (a b : Int) : -1 ≤ cmpI a b ∧ cmpI a b ≤ 1 := by unfold cmpI; split <;> (try split) <;> omega
theorem p_fCompare (a b : FQ) : pf E0 11 [fqP a, fqP b] = some (.i .i64 (cmpF a b)) := by
 have da := p_fDen a
 have db := p_fDen b
 have qa := a.q1
 have qb := b.q1
 refine pf_run (xf := x_frac_Compare) rfl (by simp [x_frac_Compare]) ?_
 simp only [x_frac_Compare]
 simp (disch := omega) only [go_sem, seval, wqa, wqb, wqc, wqd, wqe]
 refine wk_calmW [16, 3, 20] [5, 6] rfl ?_ ?_
 ·simp (disch := omega) only [go_sem, seval, wqa, wqb, wqc, wqd, wqe, da, db]
  exact ⟨_, rfl, rfl⟩
 simp (disch := omega) only [go_sem, seval, wqa, wqb, wqc, wqd, wqe, da, db]
 refine wk_ind x_frac_Compare_l1.eq_1 (fun (σ : (WI × WI) × (WI × WI) × Int) fr M => 1 ≤ σ.1.2.v ∧ 1 ≤ σ.2.1.2.v ∧ (σ.2.2 = 1 ∨ σ.2.2 = -1) ∧ σ.2.2 * cmpI (σ.1.1.v * σ.2.1.2.v) (σ.2.1.1.v * σ.1.2.v) = cmpF a b ∧
  fr 5 = .p 2 0 ∧ fr 6 = .p 3 0 ∧ fr 7 = .p 4 0 ∧ fr 8 = .p 5 0 ∧ fr 9 = .i .i64 σ.2.2 ∧ ∃ b0 b1 v2 v3 v4 v5 G, M = b0 :: b1 :: some ⟨(wiP σ.1.1).cells, true, v2⟩ :: some ⟨(wiP σ.1.2).cells, true, v3⟩ :: some ⟨(wiP σ.2.1.1).cells, true, v4⟩ :: some ⟨(wiP σ.2.1.2).cells, true, v5⟩ :: G)
  (fun σ => σ.1.2.v.toNat) ?_ ((a.p, a.q), (b.p, b.q), 1) ⟨qa, qb, .inl rfl, Int.one_mul _, by simp only [go_sem, seval], by simp only [go_sem, seval], by simp only [go_sem, seval], by simp only [go_sem, seval], by simp only [go_sem, seval], _, _, _, _, _, _, [], rfl⟩
 rintro ⟨⟨p, q⟩, ⟨r, s⟩, g⟩ fr M ⟨hq, hs, hg, hc, h5, h6, h7, h8, h9, b0, b1, v2, v3, v4, v5, G, rfl⟩ ih
 simp only at hq hs hg hc h5 h6 h7 h8 h9
 have d1 := p_Div p q (by omega)
 have d2 := p_Div r s (by omega)
 have xv : (p.div q (by omega)).v = p.v / q.v := rfl
 have ev : (p.mod q (by omega)).v = p.v % q.v := rfl
 have yv : (r.div s (by omega)).v = r.v / s.v := rfl
 have ov : (r.mod s (by omega)).v = r.v % s.v := rfl
 have e0 := Int.emod_nonneg p.v (show q.v ≠ 0 by omega)
 have o0 := Int.emod_nonneg r.v (show s.v ≠ 0 by omega)
 have e1 := Int.emod_lt_of_pos p.v (show 0 < q.v by omega)
 rw [← ev] at e0 e1
 rw [← ov] at o0
 have s1 := cmp_step1 (p := p.v) (q := q.v) (r := r.v) (s := s.v) (by omega) (by omega)
 have s2 := cmp_step2 (p := p.v) (q := q.v) (r := r.v) (s := s.v)
 rw [← xv, ← yv] at s1
 rw [← xv, ← yv, ← ev, ← ov] at s2
 generalize p.div q (by omega) = x at *
 generalize p.mod q (by omega) = e at *
 generalize r.div s (by omega) = y at *
 generalize r.mod s (by omega) = o at *
 have c1 := p_Compare x y
 have g1 := p_Sign e
 have g2 := p_Sign o
 have r1 := cmpI_rng x.v y.v
 have r2 := cmpI_rng e.v 0
 have r3 := cmpI_rng o.v 0
 by_cases hxy : x.v = y.v
 ·have t0 : (cmpI x.v y.v = 0) = True := by rw [cmpI_eq0]; simp [hxy]
  have hb := s2 hxy
  by_cases hz : e.v = 0 ∨ o.v = 0
  ·rw [cmp_step3 (by omega) (by omega) (by omega) (by omega) hz] at hb
   have hm : cmpF a b = g * (cmpI e.v 0 - cmpI o.v 0) := by rw [← hc, hb]
   have hl : -2 ≤ g * (cmpI e.v 0 - cmpI o.v 0) ∧ g * (cmpI e.v 0 - cmpI o.v 0) ≤ 2 := by rcases hg with rfl | rfl <;> omega
   rw [hm]
   by_cases he : e.v = 0
   ·have t1 : (cmpI e.v 0 = 0) = True := by rw [cmpI_eq0]; simp [he]
    simp (disch := omega) only [go_sem, seval, wqa, wqb, wqc, wqd, wqe, h5, h6, h7, h8, h9, d1, d2, mG, mG0, sG, sG0, lG, List.append_assoc, List.cons_append, List.nil_append, c1, g1, g2, t0, t1]
    refine wk_calmX [14] rfl (by simp only [go_sem, seval]) ?_
    simp (disch := omega) only [go_sem, seval, wqa, wqb, wqc, wqd, wqe, h5, h6, h7, h8, h9, d1, d2, mG, mG0, sG, sG0, lG, List.append_assoc, List.cons_append, List.nil_append, c1, g1, g2]
   ·have t1 : (cmpI e.v 0 = 0) = False := by rw [cmpI_eq0]; simp [he]
    have t2 : (cmpI o.v 0 = 0) = True := by rw [cmpI_eq0]; simp; omega
    simp (disch := omega) only [go_sem, seval, wqa, wqb, wqc, wqd, wqe, h5, h6, h7, h8, h9, d1, d2, mG, mG0, sG, sG0, lG, List.append_assoc, List.cons_append, List.nil_append, c1, g1, g2, t0, t1, t2]
    refine wk_calmX [14] rfl (by simp only [go_sem, seval]) ?_
    simp (disch := omega) only [go_sem, seval, wqa, wqb, wqc, wqd, wqe, h5, h6, h7, h8, h9, d1, d2, mG, mG0, sG, sG0, lG, List.append_assoc, List.cons_append, List.nil_append, c1, g1, g2]
  ·have t1 : (cmpI e.v 0 = 0) = False := by rw [cmpI_eq0]; simp; omega
   have t2 : (cmpI o.v 0 = 0) = False := by rw [cmpI_eq0]; simp; omega
   have n0 : -1 ≤ g ∧ g ≤ 1 := by omega
   rw [cmp_step4 e.v o.v q.v s.v] at hb
   simp (disch := omega) only [go_sem, seval, wqa, wqb, wqc, wqd, wqe, h5, h6, h7, h8, h9, d1, d2, mG, mG0, sG, sG0, lG, List.append_assoc, List.cons_append, List.nil_append, c1, g1, g2, t0, t1, t2]
   refine wk_calmW [11, 8, 14] [5, 6, 7] rfl ?_ ?_
   ·simp (disch := omega) only [go_sem, seval, wqa, wqb, wqc, wqd, wqe, h5, h6, h7, h8, h9, d1, d2, mG, mG0, sG, sG0, lG, List.append_assoc, List.cons_append, List.nil_append]
    exact ⟨_, rfl, rfl⟩
   simp (disch := omega) only [go_sem, seval, wqa, wqb, wqc, wqd, wqe, h5, h6, h7, h8, h9, d1, d2, mG, mG0, sG, sG0, lG, List.append_assoc, List.cons_append, List.nil_append]
   exact ih ((q, e), (s, o), 0 - g) _ _ (by simp only; omega) ⟨by simp only; omega, by simp only; omega, by simp only; omega, by simp only; rw [← hc, hb]; grind, by simp only [go_sem, seval, h5], by simp only [go_sem, seval, h6], by simp only [go_sem, seval, h7], by simp only [go_sem, seval, h8], by simp only [go_sem, seval], _, _, _, _, _, _, _, rfl⟩
 ·have t0 : (cmpI x.v y.v = 0) = False := by rw [cmpI_eq0]; simp [hxy]
  have hb := s1 hxy
  have hm : cmpF a b = g * cmpI x.v y.v := by rw [← hc, hb]
  have hl : -2 ≤ g * cmpI x.v y.v ∧ g * cmpI x.v y.v ≤ 2 := by rcases hg with rfl | rfl <;> omega
  rw [hm]
  simp (disch := omega) only [go_sem, seval, wqa, wqb, wqc, wqd, wqe, h5, h6, h7, h8, h9, d1, d2, mG, mG0, sG, sG0, lG, List.append_assoc, List.cons_append, List.nil_append, c1, t0]
end Go.Eng
namespace Go.Eng
@[go_sem] theorem fz_rfQ (M : PM) (d : Nat) (f : FQ) : fz M (d + 1 + 1) (rfQ f) = some (rfQ f, []) := _root_.id rfl
@[go_sem] theorem cells_rfQ (f : FQ) : (rfQ f).cells = [.b (decide (f.p.v < 0)), T f.p.v.natAbs, .b (decide (f.q.v < 0)), T f.q.v.natAbs] := _root_.id rfl
@[go_sem] theorem rfQ_fold (f : FQ) : rfP f.p.v f.q.v = rfQ f := _root_.id rfl
theorem sub_both (a b : FQ) : ∃ (f : FQ) (e : Int), pf E0 81 [fqP a, fqP b] = some (.tu [fqP f, .i .i64 e]) ∧ pf E0 191 [rfQ a, rfQ b] = some (.tu [rfQ f, .i .i64 e]) := by
 obtain ⟨f, e, h1, h2⟩ := add_both a b.neg
 refine ⟨f, e, by rw [p_fSub]; exact h1, ?_⟩
 have n1 : pf E0 188 [rfQ b] = some (rfQ b.neg) := p_rfNeg b.p.v b.q.v (by have := wi_tlen b.p; omega)
 generalize b.neg = c at *
 refine pf_run (xf := x_r04_Sub) rfl (by simp [x_r04_Sub]) ?_
 simp only [x_r04_Sub]
 simp (disch := omega) only [go_sem, seval, wqa, wqb, wqc, wqd, wqe]
 refine wk_calmX [2] rfl (by simp only [go_sem, seval]) ?_
 simp (disch := omega) only [go_sem, seval, wqa, wqb, wqc, wqd, wqe, n1, h2]
theorem p_rfDiv0 (p q r s : Int) (h : q * r = 0) (lp : tlen p.natAbs < 20000) (lq : tlen q.natAbs < 20000) (lr : tlen r.natAbs < 20000) (ls : tlen s.natAbs < 20000) : pf E0 193 [rfP p q, rfP r s] = some (.tu [rfQ fq0, .i .i64 1]) := by
 have m1 := p_rMul p s (by omega) (by omega)
 have m2 := p_rMul q r (by omega) (by omega)
 have mk := p_rfMake0 (p * s)
 rw [rfQ0, ← h] at mk
 have t1 : tlen (1 : Int).natAbs ≤ 1 := tlen_small (by decide)
 have hR := p_rangedE 0 1 (e := 1) (by decide) (by rw [Int.natAbs_zero, tlen_zero]; omega) (Nat.lt_of_le_of_lt t1 (by decide))
 rw [rfQ0] at hR
 generalize p * s = pr at *
 generalize q * r = qs at *
 generalize fq0 = z at *
 refine pf_run (xf := x_r04_Div) rfl (by simp [x_r04_Div]) ?_
 simp only [x_r04_Div]
 simp (disch := omega) only [go_sem, seval, wqa, wqb, wqc, wqd, wqe]
 refine wk_calmR [14, 16] rfl ?_ ?_
 ·simp (disch := omega) only [go_sem, seval, wqa, wqb, wqc, wqd, wqe, m1, m2, mk]
  exact ⟨_, rfl, rfl⟩
 simp (disch := omega) only [go_sem, seval, wqa, wqb, wqc, wqd, wqe, m1, m2, mk, hR]
theorem div_both (a b : FQ) : ∃ (f : FQ) (e : Int), pf E0 65 [fqP a, fqP b] = some (.tu [fqP f, .i .i64 e]) ∧ pf E0 193 [rfQ a, rfQ b] = some (.tu [rfQ f, .i .i64 e]) := by
 have la := wi_tlen a.p
 have lb := wi_tlen b.p
 have ka := wi_tlen a.q
 have kb := wi_tlen b.q
 have qa := a.q1
 have qb := b.q1
 by_cases h0 : b.p.v = 0
 ·refine ⟨fq0, 1, p_fDiv0 a b h0, ?_⟩
  exact p_rfDiv0 a.p.v a.q.v b.p.v b.q.v (by rw [h0, Int.mul_zero]) (by omega) (by omega) (by omega) (by omega)
 ·have dn : a.q.v * b.p.v ≠ 0 := Int.mul_ne_zero (by omega) h0
  have t1 := Nat.le_trans (tlen_mono (lowP_le (p := a.p.v * b.q.v) dn)) (tlen_mulI a.p.v b.q.v)
  have t2 := Nat.le_trans (tlen_mono (lowQ_le (p := a.p.v * b.q.v) dn)) (tlen_mulI a.q.v b.p.v)
  have hg := p_ranged0 (lowP (a.p.v * b.q.v) (a.q.v * b.p.v)) (lowQ (a.p.v * b.q.v) (a.q.v * b.p.v)) (by omega) (by omega)
  by_cases h : inR (dvP a b).natAbs ∧ inR (dvQ a b).natAbs
  ·obtain ⟨f, h1, h2, hf⟩ := (p_fDiv a b h0).1 h
   refine ⟨f, 0, hf, ?_⟩
   rw [← rfQ_of h1 h2]
   exact p_rfDiv a.p.v a.q.v b.p.v b.q.v dn (by omega) (by omega) (by omega) (by omega) (hg.1 h) ⟨_, _, rfl⟩
  ·exact ⟨fq0, 4, (p_fDiv a b h0).2 h, p_rfDiv a.p.v a.q.v b.p.v b.q.v dn (by omega) (by omega) (by omega) (by omega) (hg.2 h) ⟨_, _, rfl⟩⟩
end Go.Eng
namespace Go.Eng
theorem idx_cases : ∀ (s : List UInt8), (idxB s 47 = -1 ∧ (47 : UInt8) ∉ s) ∨ ∃ i : Nat, idxB s 47 = (i : Int) ∧ i < s.length ∧ s[i]? = some 47 ∧ ∀ j, j < i → s[j]? ≠ some 47
 | [] => .inl ⟨rfl, by simp⟩
 | b :: l => by
  by_cases hb : b = 47
  ·subst hb
   exact .inr ⟨0, by unfold idxB; simp, by simp, rfl, fun j hj => by omega⟩
  ·have hb' : (b == 47) = false := by simpa using hb
   rcases idx_cases l with ⟨h1, h2⟩ | ⟨i, h1, h2, h3, h4⟩
   ·left
    refine ⟨by unfold idxB; rw [hb', h1]; rfl, ?_⟩
    simp only [List.mem_cons, not_or]
    exact ⟨fun q => hb q.symm, h2⟩
   ·right
    refine ⟨i + 1, ?_, by simp; omega, by simpa using h3, fun j hj => ?_⟩
    ·unfold idxB
     have : (idxB l 47 == -1) = false := by rw [h1, beq_eq_false_iff_ne]; omega
     rw [hb', this, h1]; simp
    ·cases j with
     | zero => simpa using hb
     | succ j => simpa using h4 j (by omega)
theorem p_Index (s : List UInt8) : pf E0 222 [.s s, .s [47]] = some (.i .i64 (idxB s 47)) := by
 refine porc_222 ?_ rfl
 simp only [orcP, libP]
 rfl
theorem p_Cut (s : List UInt8) (hs : s.length < 4611686018427387904) : (idxB s 47 = -1 → pf E0 209 [.s s, .s [47]] = some (.tu [.s s, .s [], .b false])) ∧
  ∀ i : Nat, idxB s 47 = (i : Int) → i < s.length → pf E0 209 [.s s, .s [47]] = some (.tu [.s (s.take i), .s (s.drop (i + 1)), .b true]) := by
 have h1 := p_Index s
 constructor
 ·intro h
  rw [h] at h1
  have h2 : pf E0 216 [.s s, .s [47]] = some (.tu [.s s, .s [], .b false]) := by
   refine pf_run (xf := x_internal_stringslite_Cut) rfl (by simp [x_internal_stringslite_Cut]) ?_
   simp only [x_internal_stringslite_Cut]
   simp (disch := omega) only [go_sem, seval, wqa, wqb, wqc, wqd, wqe, h1]
  refine pf_run (xf := x_strings_Cut) rfl (by simp [x_strings_Cut]) ?_
  simp only [x_strings_Cut]
  simp (disch := omega) only [go_sem, seval, wqa, wqb, wqc, wqd, wqe, h2]
 ·intro i h hi
  rw [h] at h1
  have c1 : slStrP s none (some (.i .i64 (i : Int))) = some (.s (s.take i)) := by
   simp only [slStrP, optP, asNP_nat]
   rw [if_pos ⟨by omega, by omega⟩, List.drop_zero]
  have c2 : slStrP s (some (.i .i64 ((i : Int) + 1))) none = some (.s (s.drop (i + 1))) := by
   have e : ((i : Int) + 1) = ((i + 1 : Nat) : Int) := by omega
   rw [e]
   simp only [slStrP, optP, asNP_nat]
   rw [if_pos ⟨by omega, by omega⟩, List.take_length]
  have g : ((i : Int) ≥ 0) = True := by simp
  have h2 : pf E0 216 [.s s, .s [47]] = some (.tu [.s (s.take i), .s (s.drop (i + 1)), .b true]) := by
   refine pf_run (xf := x_internal_stringslite_Cut) rfl (by simp [x_internal_stringslite_Cut]) ?_
   simp only [x_internal_stringslite_Cut]
   simp (disch := omega) only [go_sem, seval, wqa, wqb, wqc, wqd, wqe, h1, g, c1, c2]
  refine pf_run (xf := x_strings_Cut) rfl (by simp [x_strings_Cut]) ?_
  simp only [x_strings_Cut]
  simp (disch := omega) only [go_sem, seval, wqa, wqb, wqc, wqd, wqe, h2]
def ParseR (s : List UInt8) (E1 E2 : Int) (g : FQ) (e3 : Int) (R : FQ) (e : Int) : Prop :=
 (¬ (E1 = 0 ∧ E2 = 0) ∧ R = fq0 ∧ e = 2) ∨ (E1 = 0 ∧ E2 = 0 ∧ ((e3 ≠ 0 ∧ R = fq0 ∧ e = 2) ∨ (e3 = 0 ∧ ftx g.p.v g.q.v ≠ s ∧ R = fq0 ∧ e = 2) ∨ (e3 = 0 ∧ ftx g.p.v g.q.v = s ∧ R = g ∧ e = 0)))
theorem p_fParseR {s T B0 B : List UInt8} {is : Bool} (hcut : pf E0 209 [.s s, .s [47]] = some (.tu [.s T, .s B0, .b is])) (hB : (is = true ∧ B = B0) ∨ (is = false ∧ B = [49])) {x y : WI} {E1 E2 : Int}
  (w1 : pf E0 110 [.s T] = some (.tu [wiP x, .i .i64 E1])) (w2 : pf E0 110 [.s B] = some (.tu [wiP y, .i .i64 E2])) {g R : FQ} {e3 e : Int} (mk : pf E0 24 [wiP x, wiP y] = some (.tu [fqP g, .i .i64 e3])) (hR : ParseR s E1 E2 g e3 R e) :
  pf E0 197 [.s s] = some (.tu [fqP R, .i .i64 e]) := by
 have st := p_fString g
 refine pf_run (xf := x_frac_Parse) rfl (by simp [x_frac_Parse]) ?_
 simp only [x_frac_Parse]
 rcases hB with ⟨rfl, rfl⟩ | ⟨rfl, rfl⟩ <;>
 (rcases hR with ⟨hn, rfl, rfl⟩ | ⟨rfl, rfl, ⟨hn, rfl, rfl⟩ | ⟨rfl, hn, rfl, rfl⟩ | ⟨rfl, hn, rfl, rfl⟩⟩
  ·rw [fqP0]
   by_cases h1 : E1 = 0
   ·have h2 : (E2 = 0) = False := by simp; exact fun q => hn ⟨h1, q⟩
    subst h1
    simp (disch := omega) only [go_sem, seval, wqa, wqb, wqc, wqd, wqe, hcut, w1, w2, h2]
   ·have h1 : (E1 = 0) = False := by simp [h1]
    simp (disch := omega) only [go_sem, seval, wqa, wqb, wqc, wqd, wqe, hcut, w1, w2, h1]
  ·rw [fqP0]
   have h1 : (e3 = 0) = False := by simp [hn]
   simp (disch := omega) only [go_sem, seval, wqa, wqb, wqc, wqd, wqe, hcut, w1, w2, mk, h1]
  ·rw [fqP0]
   have h1 : (ftx g.p.v g.q.v = s) = False := by simp [hn]
   simp (disch := omega) only [go_sem, seval, wqa, wqb, wqc, wqd, wqe, hcut, w1, w2, mk, st, h1]
  ·have h1 : (ftx R.p.v R.q.v = s) = True := by simp [hn]
   simp (disch := omega) only [go_sem, seval, wqa, wqb, wqc, wqd, wqe, hcut, w1, w2, mk, st, h1] )
end Go.Eng
namespace Go.Eng
def SplitR (s T B : List UInt8) : Prop := ((47 : UInt8) ∉ s ∧ T = s ∧ B = [49]) ∨ ∃ i : Nat, i < s.length ∧ s[i]? = some 47 ∧ (∀ j, j < i → s[j]? ≠ some 47) ∧ T = s.take i ∧ B = s.drop (i + 1)
theorem split_at {s A C T B : List UInt8} (e : s = A ++ 47 :: C) (hA : (47 : UInt8) ∉ A) (h : SplitR s T B) : T = A ∧ B = C := by
 subst e
 rcases h with ⟨h, _⟩ | ⟨i, h1, h2, h3, rfl, rfl⟩
 ·exact (h (by simp)).elim
 ·have hi : i = A.length := by
   rcases Nat.lt_trichotomy i A.length with h | h | h
   ·rw [List.getElem?_append_left h] at h2
    exact (hA (List.mem_of_getElem? h2)).elim
   ·exact h
   ·exact (h3 _ h (by simp)).elim
  subst hi
  exact ⟨by simp, by simp⟩
theorem decI_no47 (z : Int) : (47 : UInt8) ∉ decI z := by
 have key : ∀ v : Nat, (47 : UInt8) ∉ dec v := fun v h => by
  have h1 := dig_dec v
  rw [List.all_eq_true] at h1
  have h2 := h1 _ h
  revert h2; decide
 unfold decI
 split
 ·simp only [List.mem_cons, not_or]
  exact ⟨by decide, key _⟩
 ·exact key _
theorem decI_one : decI 1 = [49] := by
 unfold decI; rw [if_neg (by decide)]
 show dec 1 = [49]
 rw [dec_eval (v := 1) (n := 0) (by decide) (by decide)]; rfl
theorem split_ftx {h : FQ} {T B : List UInt8} (hs : SplitR (ftx h.p.v h.q.v) T B) : T = decI h.p.v ∧ B = decI h.q.v := by
 unfold ftx at hs
 by_cases hq : h.q.v = 1
 ·rw [if_pos hq] at hs
  rcases hs with ⟨_, h1, h2⟩ | ⟨i, _, h2, _⟩
  ·rw [hq, decI_one]; exact ⟨h1, h2⟩
  ·exact (decI_no47 _ (List.mem_of_getElem? h2)).elim
 ·rw [if_neg hq, List.append_assoc] at hs
  exact split_at rfl (decI_no47 _) hs
theorem parts_ex (s : List UInt8) (hs : s.length < 4611686018427387904) : ∃ (T B0 B : List UInt8) (is : Bool), pf E0 209 [.s s, .s [47]] = some (.tu [.s T, .s B0, .b is]) ∧ ((is = true ∧ B = B0) ∨ (is = false ∧ B = [49])) ∧ SplitR s T B ∧
  T.length < 4611686018427387904 ∧ B.length < 4611686018427387904 := by
 have hc := p_Cut s hs
 rcases idx_cases s with ⟨h1, h2⟩ | ⟨i, h1, h2, h3, h4⟩
 ·exact ⟨s, [], [49], false, hc.1 h1, .inr ⟨rfl, rfl⟩, .inl ⟨h2, rfl, rfl⟩, hs, by simp⟩
 ·exact ⟨_, _, _, true, hc.2 i h1 h2, .inl ⟨rfl, rfl⟩, .inr ⟨i, h2, h3, h4, rfl, rfl⟩, by simp; omega, by simp; omega⟩
theorem parse_own (h : FQ) (hl : (ftx h.p.v h.q.v).length < 4611686018427387904) : pf E0 197 [.s (ftx h.p.v h.q.v)] = some (.tu [fqP h, .i .i64 0]) := by
 obtain ⟨T, B0, B, is, hcut, hB, hS, lT, lB⟩ := parts_ex _ hl
 have w1 := p_Parse T lT
 have w2 := p_Parse B lB
 obtain ⟨rfl, rfl⟩ := split_ftx hS
 have p1 := parseT_dec h.p.v
 have p2 := parseT_dec h.q.v
 rw [if_pos ((wide_iff _).1 h.p.lim)] at p1
 rw [if_pos ((wide_iff _).1 h.q.lim)] at p2
 rw [p1] at w1
 rw [p2] at w2
 have hq := h.q1
 have c1 : (clip h.p.v).v = h.p.v := clip_v h.p.lim
 have c2 : (clip h.q.v).v = h.q.v := clip_v h.q.lim
 obtain ⟨g, g1, g2, mk⟩ := p_Make (clip h.p.v) (clip h.q.v) (by rw [c2]; omega)
 rw [c1, c2] at g1 g2
 obtain ⟨l1, l2⟩ := low_self (p := h.p.v) (q := h.q.v) (by omega) h.cop
 have hg : g = h := fq_ext (g1.trans l1) (g2.trans l2)
 subst hg
 exact p_fParseR hcut hB w1 w2 mk (.inr ⟨rfl, rfl, .inr (.inr ⟨rfl, rfl, rfl, rfl⟩)⟩)
end Go.Eng
namespace Go.Eng
theorem ftx_len (f : FQ) : (ftx f.p.v f.q.v).length < 4000000 := by
 have h1 := decI_short f.p
 have h2 := decI_short f.q
 unfold ftx
 split <;> (try simp only [List.length_append, List.length_cons, List.length_nil]) <;> omega
end Go.Eng
namespace Go.Eng
theorem is_val {f : FQ} {n d p q : Int} (hd : d ≠ 0) (hq : 0 < q) (hc : Nat.gcd p.natAbs q.natAbs = 1) (hf : f.is n d) (e : n * q = p * d) : f.p.v = p ∧ f.q.v = q := by
 unfold FQ.is at hf
 have q1 := f.q1
 refine low_uniq (by omega) hq f.cop hc ?_
 apply Int.eq_of_mul_eq_mul_right (a := d) hd
 calc f.p.v * q * d = f.p.v * d * q := by grind
  _ = n * f.q.v * q := by rw [hf]
  _ = n * q * f.q.v := by grind
  _ = p * d * f.q.v := by rw [e]
  _ = p * f.q.v * d := by grind
theorem ev_dec {z : Int} {v n : Nat} (hz : z = (v : Int)) (h1 : 10 ^ n ≤ v) (h2 : v < 10 ^ (n + 1)) : decI z = dtx (n + 1) v := by
 subst hz
 unfold decI; rw [if_neg (by omega), Int.natAbs_natCast]
 exact dec_eval h1 h2
theorem str_ex (f : FQ) {p q : Int} {t : List UInt8} (h1 : f.p.v = p) (h2 : f.q.v = q) (ht : ftx p q = t) : pf E0 16 [fqP f] = some (.s t) := by
 rw [← ht, ← h1, ← h2]; exact p_fString f
end Go.Eng
namespace Go.Eng
theorem add_comp {f g h : FQ} {n d m e : Int} (hf : f.is n d) (hg : g.is m e) (hh : h.is (f.p.v * g.q.v + g.p.v * f.q.v) (f.q.v * g.q.v)) : h.is (n * e + m * d) (d * e) := by
 have qf := f.q1
 have qg := g.q1
 unfold FQ.is at *
 apply Int.eq_of_mul_eq_mul_right (a := f.q.v * g.q.v) (Int.mul_ne_zero (by omega) (by omega))
 calc h.p.v * (d * e) * (f.q.v * g.q.v) = h.p.v * (f.q.v * g.q.v) * (d * e) := by grind
  _ = (f.p.v * g.q.v + g.p.v * f.q.v) * h.q.v * (d * e) := by rw [hh]
  _ = (f.p.v * d * g.q.v * e + g.p.v * e * f.q.v * d) * h.q.v := by grind
  _ = (n * f.q.v * g.q.v * e + m * g.q.v * f.q.v * d) * h.q.v := by rw [hf, hg]
  _ = (n * e + m * d) * h.q.v * (f.q.v * g.q.v) := by grind
theorem sub_comp {f g h : FQ} {n d m e : Int} (hf : f.is n d) (hg : g.is m e) (hh : h.is (f.p.v * g.q.v - g.p.v * f.q.v) (f.q.v * g.q.v)) : h.is (n * e - m * d) (d * e) := by
 have qf := f.q1
 have qg := g.q1
 unfold FQ.is at *
 apply Int.eq_of_mul_eq_mul_right (a := f.q.v * g.q.v) (Int.mul_ne_zero (by omega) (by omega))
 calc h.p.v * (d * e) * (f.q.v * g.q.v) = h.p.v * (f.q.v * g.q.v) * (d * e) := by grind
  _ = (f.p.v * g.q.v - g.p.v * f.q.v) * h.q.v * (d * e) := by rw [hh]
  _ = (f.p.v * d * g.q.v * e - g.p.v * e * f.q.v * d) * h.q.v := by grind
  _ = (n * f.q.v * g.q.v * e - m * g.q.v * f.q.v * d) * h.q.v := by rw [hf, hg]
  _ = (n * e - m * d) * h.q.v * (f.q.v * g.q.v) := by grind
theorem mul_comp {f g h : FQ} {n d m e : Int} (hf : f.is n d) (hg : g.is m e) (hh : h.is (f.p.v * g.p.v) (f.q.v * g.q.v)) : h.is (n * m) (d * e) := by
 have qf := f.q1
 have qg := g.q1
 unfold FQ.is at *
 apply Int.eq_of_mul_eq_mul_right (a := f.q.v * g.q.v) (Int.mul_ne_zero (by omega) (by omega))
 calc h.p.v * (d * e) * (f.q.v * g.q.v) = h.p.v * (f.q.v * g.q.v) * (d * e) := by grind
  _ = f.p.v * g.p.v * h.q.v * (d * e) := by rw [hh]
  _ = f.p.v * d * (g.p.v * e) * h.q.v := by grind
  _ = n * f.q.v * (m * g.q.v) * h.q.v := by rw [hf, hg]
  _ = n * m * h.q.v * (f.q.v * g.q.v) := by grind
theorem add_ix (a b : FQ) {n m : Nat} {x d y e : Int} (ha : fsz n a) (hb : fsz m b) (h : n + m + 1 < 1230) (xa : a.is x d) (xb : b.is y e) : ∃ f : FQ, pf E0 9 [fqP a, fqP b] = some (.tu [fqP f, .i .i64 0]) ∧ f.is (x * e + y * d) (d * e) ∧ fsz (n + m + 1) f := by
 obtain ⟨f, h1, h2, h3⟩ := add_is a b ha hb h
 exact ⟨f, h1, add_comp xa xb h2, h3⟩
theorem mul_ix (a b : FQ) {n m : Nat} {x d y e : Int} (ha : fsz n a) (hb : fsz m b) (h : n + m < 1230) (xa : a.is x d) (xb : b.is y e) : ∃ f : FQ, pf E0 8 [fqP a, fqP b] = some (.tu [fqP f, .i .i64 0]) ∧ f.is (x * y) (d * e) ∧ fsz (n + m) f := by
 obtain ⟨f, h1, h2, h3⟩ := mul_is a b ha hb h
 exact ⟨f, h1, mul_comp xa xb h2, h3⟩
end Go.Eng
namespace Go.Eng
theorem is_conv {f : FQ} {n d n' d' : Int} (hd : d ≠ 0) (h : f.is n d) (e : n * d' = n' * d) : f.is n' d' := by
 unfold FQ.is at *
 apply Int.eq_of_mul_eq_mul_right hd
 calc f.p.v * d' * d = f.p.v * d * d' := by grind
  _ = n * f.q.v * d' := by rw [h]
  _ = n * d' * f.q.v := by grind
  _ = n' * d * f.q.v := by rw [e]
  _ = n' * f.q.v * d := by grind
def hAt (hs : List Int) (k : Int) : Int := hs.getD k.toNat 0
def f0V (hs : List Int) (C i j : Int) : Int := hAt hs (j * C + i)
def f1V (hs : List Int) (C i j : Int) : Int := hAt hs (j * C + i + 1) - hAt hs (j * C + i)
def f2V (hs : List Int) (C i j : Int) : Int := hAt hs ((j + 1) * C + i) - hAt hs (j * C + i)
def f3V (hs : List Int) (C i j : Int) : Int := hAt hs ((j + 1) * C + i + 1) - hAt hs ((j + 1) * C + i) - hAt hs (j * C + i + 1) + hAt hs (j * C + i)
def bil (f0 f1 f2 f3 a b c d : Int) : Int := (f0 * b + f1 * a) * d + (f2 * b + f3 * a) * c
def bilV (hs : List Int) (C i j a b c d : Int) : Int := bil (f0V hs C i j) (f1V hs C i j) (f2V hs C i j) (f3V hs C i j) a b c d
theorem bil_right (hs : List Int) (C i j b c d : Int) : bilV hs C i j b b c d = bilV hs C (i + 1) j 0 b c d := by
 unfold bilV bil f0V f1V f2V f3V
 have e1 : j * C + (i + 1) = j * C + i + 1 := by omega
 have e2 : (j + 1) * C + (i + 1) = (j + 1) * C + i + 1 := by omega
 rw [e1, e2]
 grind
theorem bil_up (hs : List Int) (C i j a b d : Int) : bilV hs C i j a b d d = bilV hs C i (j + 1) a b 0 d := by
 unfold bilV bil f0V f1V f2V f3V
 grind
theorem facet_pick {N : Nat} {u S i : Int} (hS : 0 < S) (hN : 2 ≤ N) (h0 : 0 ≤ i) (h1 : i ≤ N - 2) (l : i * S ≤ u) (r : u ≤ (i + 1) * S) : min (u / S) (N - 2) = i ∨ (min (u / S) (N - 2) = i + 1 ∧ u = (i + 1) * S) := by
 have a1 : i ≤ u / S := Int.le_ediv_of_mul_le hS l
 by_cases h : u = (i + 1) * S
 ·have : u / S = i + 1 := by rw [h]; exact Int.mul_ediv_cancel _ (by omega)
  omega
 ·have : u / S < i + 1 := Int.ediv_lt_of_lt_mul hS (by omega)
  omega
end Go.Eng
namespace Go.Eng
theorem p_Around {n m : Int} (hn : Fits64 n) (hm : Fits64 m) (h1 : 1 ≤ m) : pf E0 6 [.i .i64 n, .i .i64 m] = some (.i .i64 (aro n m)) := by
 refine pf_run (xf := x_r01_Around) rfl (by simp [x_r01_Around]) ?_
 simp only [x_r01_Around]
 unfold Fits64 at hn hm
 have a0 := aro_nonneg n h1
 have a1 := aro_lt n h1
 have q1 : (m = 0) = False := by simp; omega
 by_cases h : n < 0
 ·have e : (0 - (n + 1)).tmod m = aro n m := by
   unfold aro
   rw [if_pos h, Int.tmod_eq_emod_of_nonneg (by omega)]
   congr 1; omega
  simp (disch := omega) only [go_sem, seval, wqa, wqb, wqc, wqd, wqe, h, q1, e]
 ·have e : n.tmod m = aro n m := by
   unfold aro
   rw [if_neg h, Int.tmod_eq_emod_of_nonneg (by omega)]
  simp (disch := omega) only [go_sem, seval, wqa, wqb, wqc, wqd, wqe, h, q1, e]
theorem p_Pick {xs : List Int} (hx : Ints xs) {i m : Int} (hi : Fits64 i) (hm : Fits64 m) (h1 : 1 ≤ m) : pf E0 13 [ints xs, .i .i64 i, .i .i64 m] = some (.i .i64 (pick xs i m)) := by
 refine pf_run (xf := x_r01_Pick) rfl (by simp [x_r01_Pick]) ?_
 simp only [x_r01_Pick]
 obtain ⟨hx1, hx2⟩ := hx
 unfold pick
 by_cases h : i < 0
 ·rw [if_pos (.inl h)]
  simp (disch := omega) only [go_sem, seval, wqa, wqb, wqc, wqd, wqe, h]
 ·by_cases h' : (xs.length : Int) ≤ i
  ·rw [if_pos (.inr h')]
   have q1 : (i ≥ (xs.length : Int)) = True := by simp; omega
   simp (disch := omega) only [go_sem, seval, wqa, wqb, wqc, wqd, wqe, h, q1]
  ·rw [if_neg (by omega)]
   have q1 : (i ≥ (xs.length : Int)) = False := by simp; omega
   obtain ⟨j, rfl⟩ : ∃ j : Nat, i = j := ⟨i.toNat, by omega⟩
   have hj : j < xs.length := by omega
   have hg : xs[j]? = some (xs.getD j 0) := by simp [hj]
   have ha := p_Around (n := xs.getD j 0) (m := m) (hx2 _ (by simp [hj])) hm h1
   simp (disch := omega) only [go_sem, seval, wqa, wqb, wqc, wqd, wqe, h, q1, idxP_ints hg, Int.toNat_natCast, ha]
end Go.Eng
namespace Go.Eng
def terP (X Y S C R : Int) (hs : List Int) : PV := .ag [.i .i64 X, .i .i64 Y, .i .i64 S, .i .i64 C, .i .i64 R, ints hs]
@[go_sem] theorem fz_terP (M : PM) (d : Nat) (X Y S C R : Int) (hs : List Int) : fz M (d + 1 + 1) (terP X Y S C R hs) = some (terP X Y S C R hs, []) := _root_.id rfl
@[go_sem] theorem cells_terP (X Y S C R : Int) (hs : List Int) : (terP X Y S C R hs).cells = [.i .i64 X, .i .i64 Y, .i .i64 S, .i .i64 C, .i .i64 R, ints hs] := _root_.id rfl
@[go_sem] theorem fold_ter (X Y S C R : Int) (hs : List Int) : PV.ag [.i .i64 X, .i .i64 Y, .i .i64 S, .i .i64 C, .i .i64 R, ints hs] = terP X Y S C R hs := _root_.id rfl
theorem p_twhole {n : Int} (hn : Fits64 n) : ∃ f : FQ, f.p.v = n ∧ f.q.v = 1 ∧ fsz 5 f ∧ pf E0 27 [.i .i64 n] = some (fqP f) := by
 have hn' := hn
 unfold Fits64 at hn'
 obtain ⟨f, f1, f2, fo⟩ := p_fOf hn (q := 1) (by decide) (by decide)
 obtain ⟨l1, l2⟩ := low_self (p := n) (q := 1) (by decide) (Nat.gcd_one_right _)
 have f1 := f1.trans l1
 have f2 := f2.trans l2
 refine ⟨f, f1, f2, ⟨by rw [f1]; exact tlen_small (by omega), by rw [f2]; exact tlen_small (by decide)⟩, ?_⟩
 refine pf_run (xf := x_terrain_whole) rfl (by simp [x_terrain_whole]) ?_
 simp only [x_terrain_whole]
 simp (disch := omega) only [go_sem, seval, wqa, wqb, wqc, wqd, wqe, fo]
theorem p_tadd {a b f : FQ} {e : Int} (h : pf E0 9 [fqP a, fqP b] = some (.tu [fqP f, .i .i64 e])) : pf E0 26 [fqP a, fqP b] = some (fqP f) := by
 refine pf_run (xf := x_terrain_add) rfl (by simp [x_terrain_add]) ?_
 simp only [x_terrain_add]
 simp (disch := omega) only [go_sem, seval, wqa, wqb, wqc, wqd, wqe, h]
theorem p_tmul {a b f : FQ} {e : Int} (h : pf E0 8 [fqP a, fqP b] = some (.tu [fqP f, .i .i64 e])) : pf E0 28 [fqP a, fqP b] = some (fqP f) := by
 refine pf_run (xf := x_terrain_mul) rfl (by simp [x_terrain_mul]) ?_
 simp only [x_terrain_mul]
 simp (disch := omega) only [go_sem, seval, wqa, wqb, wqc, wqd, wqe, h]
theorem p_tsub {a b f : FQ} {e : Int} (h : pf E0 81 [fqP a, fqP b] = some (.tu [fqP f, .i .i64 e])) : pf E0 66 [fqP a, fqP b] = some (fqP f) := by
 refine pf_run (xf := x_terrain_sub) rfl (by simp [x_terrain_sub]) ?_
 simp only [x_terrain_sub]
 simp (disch := omega) only [go_sem, seval, wqa, wqb, wqc, wqd, wqe, h]
theorem p_floor (s : FQ) (h : Fits64 (s.p.v / s.q.v)) : pf E0 68 [fqP s] = some (.i .i64 (s.p.v / s.q.v)) := by
 have hq := s.q1
 have a1 := p_fNum s
 have a2 := p_fDen s
 have dv := p_Div s.p s.q (by omega)
 have sm := p_Small (s.p.div s.q (by omega))
 have sv : (s.p.div s.q (by omega)).v = s.p.v / s.q.v := rfl
 have s1 : isSmall (s.p.v / s.q.v) = true := by unfold isSmall; exact decide_eq_true h
 have s2 : small (s.p.v / s.q.v) = s.p.v / s.q.v := by unfold small; rw [if_pos s1]
 rw [sv, s1, s2] at sm
 have sg := p_Sign (s.p.mod s.q (by omega))
 have mv : (s.p.mod s.q (by omega)).v = s.p.v % s.q.v := rfl
 have m0 := Int.emod_nonneg s.p.v (show s.q.v ≠ 0 by omega)
 have g0 : (cmpI (s.p.v % s.q.v) 0 < 0) = False := by rw [cmpI_neg]; simp; omega
 rw [mv] at sg
 generalize s.p.div s.q (by omega) = x at *
 generalize s.p.mod s.q (by omega) = y at *
 unfold Fits64 at h
 generalize s.p.v / s.q.v = k at *
 generalize s.p.v % s.q.v = r at *
 refine pf_run (xf := x_terrain_floor) rfl (by simp [x_terrain_floor]) ?_
 simp only [x_terrain_floor]
 simp (disch := omega) only [go_sem, seval, wqa, wqb, wqc, wqd, wqe]
 refine wk_calmX [1] rfl (by simp only [go_sem, seval]) ?_
 simp (disch := omega) only [go_sem, seval, wqa, wqb, wqc, wqd, wqe, a1, a2, dv, sm, sg, g0]
end Go.Eng
namespace Go.Eng
theorem floor_is {f : FQ} {n d : Int} (hd : 0 < d) (h : f.is n d) : f.p.v / f.q.v = n / d := by
 have hq := f.q1
 unfold FQ.is at h
 have e1 : f.p.v / f.q.v = (f.p.v * d) / (f.q.v * d) := (Int.mul_ediv_mul_of_pos_left _ _ hd).symm
 have e2 : n / d = (n * f.q.v) / (d * f.q.v) := (Int.mul_ediv_mul_of_pos_left _ _ (by omega)).symm
 rw [e1, e2, h, Int.mul_comm f.q.v d]
theorem sign_is {f : FQ} {n d : Int} (hd : 0 < d) (h : f.is n d) : cmpI f.p.v 0 = cmpI n 0 := by
 have hq := f.q1
 unfold FQ.is at h
 have e1 := cmpI_scale (a := f.p.v) (b := 0) hd
 have e2 := cmpI_scale (a := n) (b := 0) (k := f.q.v) (by omega)
 rw [Int.zero_mul] at e1 e2
 rw [← e1, ← e2, h]
theorem sub_ix (a b : FQ) {n m : Nat} {x d y e : Int} (ha : fsz n a) (hb : fsz m b) (h : n + m + 1 < 1230) (xa : a.is x d) (xb : b.is y e) : ∃ f : FQ, pf E0 81 [fqP a, fqP b] = some (.tu [fqP f, .i .i64 0]) ∧ f.is (x * e - y * d) (d * e) ∧ fsz (n + m + 1) f := by
 obtain ⟨f, h1, h2, h3⟩ := sub_is a b ha hb h
 exact ⟨f, h1, sub_comp xa xb h2, h3⟩
theorem div_comp {f g h : FQ} {n d m e : Int} (hf : f.is n d) (hg : g.is m e) (hm : g.p.v ≠ 0) (hh : h.is (f.p.v * g.q.v) (f.q.v * g.p.v)) : h.is (n * e) (d * m) := by
 have qf := f.q1
 have qg := g.q1
 unfold FQ.is at *
 apply Int.eq_of_mul_eq_mul_right (a := f.q.v * g.q.v * g.p.v) (Int.mul_ne_zero (Int.mul_ne_zero (by omega) (by omega)) hm)
 calc h.p.v * (d * m) * (f.q.v * g.q.v * g.p.v) = h.p.v * (f.q.v * g.p.v) * (d * (m * g.q.v)) := by grind
  _ = f.p.v * g.q.v * h.q.v * (d * (g.p.v * e)) := by rw [hh, hg]
  _ = f.p.v * d * (g.q.v * h.q.v * (g.p.v * e)) := by grind
  _ = n * f.q.v * (g.q.v * h.q.v * (g.p.v * e)) := by rw [hf]
  _ = n * e * h.q.v * (f.q.v * g.q.v * g.p.v) := by grind
theorem p_placeG {k : Nat} (hk : k ≤ 500) {x : FQ} {n d : Int} (zx : fsz k x) (hd : 0 < d) (xi : x.is n d) {F S : Int} {N : Nat} (hF : -4194304 ≤ F ∧ F ≤ 4194304) (hS : 1 ≤ S ∧ S ≤ 65536) (hN : 2 ≤ N ∧ N ≤ 128) :
  (0 ≤ n - F * d ∧ n - F * d ≤ (N - 1) * (d * S) → ∃ r : FQ, r.is (n - F * d - min ((n - F * d) / (d * S)) (N - 2) * (d * S)) (d * S) ∧ fsz (k + 20) r ∧
   pf E0 45 [fqP x, .i .i64 F, .i .i64 S, .i .i64 N] = some (.tu [.i .i64 (min ((n - F * d) / (d * S)) (N - 2)), fqP r, .b true])) ∧
  (¬ (0 ≤ n - F * d ∧ n - F * d ≤ (N - 1) * (d * S)) → pf E0 45 [fqP x, .i .i64 F, .i .i64 S, .i .i64 N] = some (.tu [.i .i64 0, fqP fq0, .b false])) := by
 obtain ⟨wF, a1, a2, az, aw⟩ := p_twhole (n := F) (by unfold Fits64; omega)
 obtain ⟨wS, b1, b2, bz, bw⟩ := p_twhole (n := S) (by unfold Fits64; omega)
 obtain ⟨wN, c1, c2, cz, cw⟩ := p_twhole (n := (N : Int) - 1) (by unfold Fits64; omega)
 have aI := is_self wF
 have bI := is_self wS
 have cI := is_self wN
 rw [a1, a2] at aI
 rw [b1, b2] at bI
 rw [c1, c2] at cI
 obtain ⟨u, fu, ui, uz⟩ := sub_ix x wF zx az (by omega) xi aI
 have tu := p_tsub fu
 obtain ⟨s, fs, si, sz⟩ := div_is u wS (by omega) uz bz (by omega)
 have si := div_comp ui bI (by omega) si
 have e1 : (n * 1 - F * d) * 1 = n - F * d := by omega
 have e2 : d * 1 * S = d * S := by rw [Int.mul_one]
 rw [e1, e2] at si
 have hD : 0 < d * S := Int.mul_pos hd (by omega)
 have sg := p_fSign s
 rw [sign_is hD si] at sg
 have cm := p_fCompare s wN
 rw [cmpF_is hD (by decide) si cI, Int.mul_one] at cm
 have fl := p_floor s
 rw [floor_is hD si] at fl
 generalize n - F * d = m at *
 generalize d * S = D at *
 constructor
 ·rintro ⟨h0, h1⟩
  have q0 := Int.ediv_nonneg h0 (show 0 ≤ D by omega)
  have q1 : m / D ≤ N - 1 := Int.ediv_le_of_le_mul hD h1
  have fl := fl (by unfold Fits64; omega)
  have mi : min (m / D) ((N : Int) - 2) = min (m / D) ((N : Int) - 2) := rfl
  obtain ⟨i, hi⟩ : ∃ i : Int, i = min (m / D) ((N : Int) - 2) := ⟨_, rfl⟩
  obtain ⟨wi, d1, d2, dz, dw⟩ := p_twhole (n := i) (by unfold Fits64; omega)
  have dI := is_self wi
  rw [d1, d2] at dI
  obtain ⟨r, fr', ri, rz⟩ := sub_ix s wi sz dz (by omega) si dI
  have tr := p_tsub fr'
  rw [Int.mul_one, Int.mul_one] at ri
  rw [← hi]
  refine ⟨r, ri, ⟨Nat.le_trans rz.1 (by omega), Nat.le_trans rz.2 (by omega)⟩, ?_⟩
  have t1 : (cmpI m 0 < 0) = False := by rw [cmpI_neg]; simp; omega
  have t2 : (cmpI m ((N - 1) * D) > 0) = False := by rw [cmpI_pos]; simp; omega
  have hmm : mmP false (.i .i64 (m / D)) [.i .i64 ((N : Int) - 2)] = some (.i .i64 i) := by
   simp only [mmP, if_true, Bool.false_eq_true, if_false]
   congr 2
   split <;> omega
  clear hi mi ri rz si
  generalize m / D = kk at *
  refine pf_run (xf := x_terrain_place) rfl (by simp [x_terrain_place]) ?_
  simp only [x_terrain_place]
  simp (disch := omega) only [go_sem, seval, wqa, wqb, wqc, wqd, wqe]
  refine wk_calmX [4] rfl (by simp only [go_sem, seval]) ?_
  simp (disch := omega) only [go_sem, seval, wqa, wqb, wqc, wqd, wqe, aw, bw, tu, fs]
  refine wk_calmX [11] rfl (by simp only [go_sem, seval]) ?_
  simp (disch := omega) only [go_sem, seval, wqa, wqb, wqc, wqd, wqe, cw, sg, cm, fl, t1, t2, hmm]
  refine wk_calmX [11] rfl (by simp only [go_sem, seval]) ?_
  simp (disch := omega) only [go_sem, seval, wqa, wqb, wqc, wqd, wqe, dw, tr]
 ·intro hn
  rw [fqP0]
  refine pf_run (xf := x_terrain_place) rfl (by simp [x_terrain_place]) ?_
  simp only [x_terrain_place]
  by_cases h0 : m < 0
  ·have t1 : (cmpI m 0 < 0) = True := by rw [cmpI_neg]; simp [h0]
   simp (disch := omega) only [go_sem, seval, wqa, wqb, wqc, wqd, wqe]
   refine wk_calmX [4] rfl (by simp only [go_sem, seval]) ?_
   simp (disch := omega) only [go_sem, seval, wqa, wqb, wqc, wqd, wqe, aw, bw, tu, fs]
   refine wk_calmX [11] rfl (by simp only [go_sem, seval]) ?_
   simp (disch := omega) only [go_sem, seval, wqa, wqb, wqc, wqd, wqe, sg, t1]
  ·have t1 : (cmpI m 0 < 0) = False := by rw [cmpI_neg]; simp [h0]
   have t2 : (cmpI m ((N - 1) * D) > 0) = True := by rw [cmpI_pos]; simp; omega
   simp (disch := omega) only [go_sem, seval, wqa, wqb, wqc, wqd, wqe]
   refine wk_calmX [4] rfl (by simp only [go_sem, seval]) ?_
   simp (disch := omega) only [go_sem, seval, wqa, wqb, wqc, wqd, wqe, aw, bw, tu, fs]
   refine wk_calmX [11] rfl (by simp only [go_sem, seval]) ?_
   simp (disch := omega) only [go_sem, seval, wqa, wqb, wqc, wqd, wqe, cw, sg, cm, t1, t2]
theorem p_place {x : FQ} {n d : Int} (zx : fsz 20 x) (hd : 0 < d) (xi : x.is n d) {F S : Int} {N : Nat} (hF : -4194304 ≤ F ∧ F ≤ 4194304) (hS : 1 ≤ S ∧ S ≤ 65536) (hN : 2 ≤ N ∧ N ≤ 128) :
  (0 ≤ n - F * d ∧ n - F * d ≤ (N - 1) * (d * S) → ∃ r : FQ, r.is (n - F * d - min ((n - F * d) / (d * S)) (N - 2) * (d * S)) (d * S) ∧ fsz 40 r ∧
   pf E0 45 [fqP x, .i .i64 F, .i .i64 S, .i .i64 N] = some (.tu [.i .i64 (min ((n - F * d) / (d * S)) (N - 2)), fqP r, .b true])) ∧
  (¬ (0 ≤ n - F * d ∧ n - F * d ≤ (N - 1) * (d * S)) → pf E0 45 [fqP x, .i .i64 F, .i .i64 S, .i .i64 N] = some (.tu [.i .i64 0, fqP fq0, .b false])) :=
 p_placeG (k := 20) (by decide) zx hd xi hF hS hN
def nbits (k : Nat) : Nat := if k = 0 then 0 else Nat.log2 k + 1
theorem nbits_half {k : Nat} (h : k ≠ 0) : nbits k = nbits (k / 2) + 1 := by
 unfold nbits
 rw [if_neg h]
 by_cases h2 : 2 ≤ k
 ·rw [if_neg (by omega), Nat.log2_def k, if_pos h2]
 ·have : k = 1 := by omega
  subst this; rfl
theorem nbits_le {k n : Nat} (h : k < 2 ^ n) : nbits k ≤ n := by
 unfold nbits
 split
 ·omega
 ·rename_i h0
  have := (Nat.log2_lt h0).2 h
  omega
theorem p_pdig (x : WI) (h : x.v.natAbs ≤ 4611686018427387904) : pf E0 63 [wiP x] = some (.i .i64 (nbits x.v.natAbs : Int)) := by
 have nb : nbits x.v.natAbs ≤ 63 := nbits_le (by omega)
 have fin : ∀ (y : WI), y.v = (x.v.natAbs : Int) → pf E0 80 [wiP y] = some (.tu [.i .i64 (x.v.natAbs : Int), .b true]) := fun y hy => by
  have sm := p_Small y
  have s1 : isSmall (x.v.natAbs : Int) = true := by unfold isSmall; exact decide_eq_true ⟨by omega, by omega⟩
  have s2 : small (x.v.natAbs : Int) = (x.v.natAbs : Int) := by unfold small; rw [if_pos s1]
  rw [hy, s1, s2] at sm
  exact sm
 have sg := p_Sign x
 refine pf_run (xf := x_poly_digits) rfl (by simp [x_poly_digits]) ?_
 simp only [x_poly_digits]
 by_cases hn : x.v < 0
 ·have t0 : (cmpI x.v 0 < 0) = True := by rw [cmpI_neg]; simp [hn]
  have n1 := p_Neg x
  have sm := fin x.neg (by show -x.v = _; omega)
  generalize x.neg = y at *
  generalize x.v.natAbs = K at *
  simp (disch := omega) only [go_sem, seval, wqa, wqb, wqc, wqd, wqe, sg, t0, n1, sm]
  refine wk_ind x_poly_digits_l1.eq_1 (fun (σ : Nat × Nat) fr M => σ.1 + nbits σ.2 = nbits K ∧ σ.2 ≤ K ∧ fr 3 = (PV.i .i64 ((σ.1 : Nat) : Int)) ∧ fr 4 = (PV.i .i64 ((σ.2 : Nat) : Int))) (fun σ => σ.2) ?_ (0, K) ⟨by simp, Nat.le_refl _, by simp only [go_sem, seval], by simp only [go_sem, seval]⟩
  rintro ⟨n, k⟩ fr M ⟨hs, hk, f3, f4⟩ ih
  simp only at hs hk f3 f4
  by_cases hk0 : k = 0
  ·have q1 : ((k : Int) > 0) = False := by simp; omega
   have hN : n = nbits K := by rw [← hs, hk0]; rfl
   rw [← hN]
   simp (disch := omega) only [go_sem, seval, wqa, wqb, wqc, wqd, wqe, f3, f4, q1]
  ·have q1 : ((k : Int) > 0) = True := by simp; omega
   have k2 : (k : Int).tdiv 2 = ((k / 2 : Nat) : Int) := nat_tdiv _ 2
   have hh := nbits_half hk0
   simp (disch := omega) only [go_sem, seval, wqa, wqb, wqc, wqd, wqe, f3, f4, q1, k2]
   exact ih (n + 1, k / 2) _ _ (by simp only; omega) ⟨by simp only; omega, by simp only; omega, by simp only [go_sem, seval]; rw [Int.natCast_succ], by simp only [go_sem, seval]⟩
 ·have t0 : (cmpI x.v 0 < 0) = False := by rw [cmpI_neg]; simp [hn]
  have sm := fin x (by omega)
  obtain ⟨K, hK⟩ : ∃ K : Nat, K = x.v.natAbs := ⟨_, rfl⟩
  rw [← hK] at sm nb ⊢
  have hKl : K ≤ 4611686018427387904 := by omega
  simp (disch := omega) only [go_sem, seval, wqa, wqb, wqc, wqd, wqe, sg, t0, sm]
  refine wk_ind x_poly_digits_l1.eq_1 (fun (σ : Nat × Nat) fr M => σ.1 + nbits σ.2 = nbits K ∧ σ.2 ≤ K ∧ fr 3 = (PV.i .i64 ((σ.1 : Nat) : Int)) ∧ fr 4 = (PV.i .i64 ((σ.2 : Nat) : Int))) (fun σ => σ.2) ?_ (0, K) ⟨by simp, Nat.le_refl _, by simp only [go_sem, seval], by simp only [go_sem, seval]⟩
  rintro ⟨n, k⟩ fr M ⟨hs, hk, f3, f4⟩ ih
  simp only at hs hk f3 f4
  by_cases hk0 : k = 0
  ·have q1 : ((k : Int) > 0) = False := by simp; omega
   have hN : n = nbits K := by rw [← hs, hk0]; rfl
   rw [← hN]
   simp (disch := omega) only [go_sem, seval, wqa, wqb, wqc, wqd, wqe, f3, f4, q1]
  ·have q1 : ((k : Int) > 0) = True := by simp; omega
   have k2 : (k : Int).tdiv 2 = ((k / 2 : Nat) : Int) := nat_tdiv _ 2
   have hh := nbits_half hk0
   simp (disch := omega) only [go_sem, seval, wqa, wqb, wqc, wqd, wqe, f3, f4, q1, k2]
   exact ih (n + 1, k / 2) _ _ (by simp only; omega) ⟨by simp only; omega, by simp only; omega, by simp only [go_sem, seval]; rw [Int.natCast_succ], by simp only [go_sem, seval]⟩
theorem p_Digits (x : FQ) (h1 : x.p.v.natAbs ≤ 4611686018427387904) (h2 : x.q.v.natAbs ≤ 4611686018427387904) : pf E0 44 [fqP x] = some (.i .i64 ((max (nbits x.p.v.natAbs) (nbits x.q.v.natAbs) : Nat) : Int)) := by
 have a1 := p_fNum x
 have a2 := p_fDen x
 have d1 := p_pdig x.p h1
 have d2 := p_pdig x.q h2
 generalize nbits x.p.v.natAbs = a at *
 generalize nbits x.q.v.natAbs = b at *
 have hm : mmP true (.i .i64 (a : Int)) [.i .i64 (b : Int)] = some (.i .i64 ((max a b : Nat) : Int)) := by
  simp only [mmP, if_true]
  congr 2
  split <;> omega
 refine pf_run (xf := x_poly_Digits) rfl (by simp [x_poly_Digits]) ?_
 simp only [x_poly_Digits]
 simp (disch := omega) only [go_sem, seval, wqa, wqb, wqc, wqd, wqe]
 refine wk_calmX [1] rfl (by simp only [go_sem, seval]) ?_
 simp (disch := omega) only [go_sem, seval, wqa, wqb, wqc, wqd, wqe, a1, a2, d1, d2, hm]
end Go.Eng
