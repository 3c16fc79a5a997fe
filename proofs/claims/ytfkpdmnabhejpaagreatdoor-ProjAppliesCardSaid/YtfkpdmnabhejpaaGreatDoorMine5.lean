/- The engine and the contracts on which the statement stands: no conditions of its own. -/
import Derived.Test.YtfkpdmnabhejpaaGreatDoorMine4
import Derived.Lib.Case
import Derived.Lib.Join
import Derived.BigCall
import Derived.BigGuard
import Derived.KernelRfl
import Derived.Lib.LaidTab
import Derived.ProofKit
import Derived.OpenShut
set_option linter.unusedSimpArgs false
set_option linter.unusedVariables false
set_option linter.unusedSectionVars false
namespace Go.Eng
variable {key : Nat → Option FuncId} {P : Program} {T : Tab} {call : Nat → List AV → Hp → Option (AV × Hp)} {F : Nat}
def graft : Code → Code → Code
 | .seq x y, r => .seq x (graft y r)
 | c, r => .seq c r
theorem zil (G : GoodCall call) (HC : Callable P key) (CS : CallSound P key T call) (hm : P.follows .mixedOrders = true) (lf : Nat) (c r : Code) (hg : graft c r = .seq c r) (hr : (cCode P T c).regsOk = true)
  {Q : Exit → Act → World → Prop} {l : Loc} {fr fr' : Fr} {a : Act} {h h' : Hp} {w : World} {out : Out} (TO : TabOk key T l) (R : RelF key l fr a.tmps) (S : Sim key F l h w) (hF : h'.next ≤ F)
  (he : evCode call lf (cCode P T c) fr h = some (out, fr', h'))
  (cont : ∀ l' a' w', Ext l h w l' h' w' → RelF key l' fr' a'.tmps → Sim key F l' h' w' → a'.defers = a.defers → Exit.then (r.wp P Q) Q out.toExit a' w') : (graft c r).wp P Q a w := by
 rw [hg]
 exact wp_seq (zdU G HC CS lf c (zcV G HC CS hm c hr) TO R S hF he cont)
theorem zgE (G : GoodCall call) (HC : Callable P key) (CS : CallSound P key T call) (hm : P.follows .mixedOrders = true) (lf : Nat) (r : Code) : ∀ (c : Code), (cCode P T c).regsOk = true →
  ∀ {Q : Exit → Act → World → Prop} {l : Loc} {fr fr' : Fr} {a : Act} {h h' : Hp} {w : World} {out : Out}, TabOk key T l → RelF key l fr a.tmps → Sim key F l h w → h'.next ≤ F →
  evCode call lf (cCode P T c) fr h = some (out, fr', h') →
  (∀ l' a' w', Ext l h w l' h' w' → RelF key l' fr' a'.tmps → Sim key F l' h' w' → a'.defers = a.defers → Exit.then (r.wp P Q) Q out.toExit a' w') → (graft c r).wp P Q a w := by
 intro c
 induction c with
 | seq x y _ ihy =>
  intro hr Q l fr fr' a h h' w out TO R S hF he cont
  simp only [cCode, XC.regsOk, Bool.and_eq_true] at hr
  simp only [cCode, evCode] at he
  show (Code.seq x (graft y r)).wp P Q a w
  cases h1 : evCode call lf (cCode P T x) fr h with
  | none => rw [h1] at he; cases he
  | some q =>
   obtain ⟨o1, fr1, h1'⟩ := q
   rw [h1] at he
   have good1 := zbu G lf _ h1
   cases o1 with
   | normal =>
    simp only at he
    have good2 := zbu G lf _ he
    have hF1 : h1'.next ≤ F := Nat.le_trans good2.le.next hF
    refine wp_seq (zdU G HC CS lf x (zcV G HC CS hm x hr.1) TO R S hF1 h1 fun l1 a1 w1 E1 R1 S1 d1 => ?_)
    exact ihy hr.2 (TO.mono E1.le) R1 S1 hF he fun l2 a2 w2 E2 R2 S2 d2 => cont l2 a2 w2 (.trans (S.hd S1.wf hF1) E1 E2) R2 S2 (d2.trans d1)
   | exit i =>
    cases he
    exact wp_seq (zdU G HC CS lf x (zcV G HC CS hm x hr.1) TO R S hF h1 fun l1 a1 w1 E1 R1 S1 d1 => cont l1 a1 w1 E1 R1 S1 d1)
   | ret =>
    cases he
    exact wp_seq (zdU G HC CS lf x (zcV G HC CS hm x hr.1) TO R S hF h1 fun l1 a1 w1 E1 R1 S1 d1 => cont l1 a1 w1 E1 R1 S1 d1)
 | _ => exact fun hr _ _ _ _ _ _ _ _ _ TO R S hF he cont => zil G HC CS hm lf _ r rfl hr TO R S hF he cont
theorem zab {n : Nat} {l : List Value} (h : l.length = n + 1) : ∃ t l2, l = t :: l2 ∧ l2.length = n := by
 cases l with
 | nil => simp at h
 | cons t l => exact ⟨t, l, rfl, by simpa using h⟩
theorem zpN (tm : Array Value) (h : tm.size = 58) : ∃ t0 t1 t2 t3 t4 t5 t6 t7 t8 t9 t10 t11 t12 t13 t14 t15 t16 t17 t18 t19 t20 t21 t22 t23 t24 t25 t26 t27 t28 t29 t30 t31 t32 t33 t34 t35 t36 t37 t38 t39 t40 t41 t42 t43 t44 t45 t46 t47 t48 t49 t50 t51 t52 t53 t54 t55 t56 t57, tm = #[t0, t1, t2, t3, t4, t5, t6, t7, t8, t9, t10, t11, t12, t13, t14, t15, t16, t17, t18, t19, t20, t21, t22, t23, t24, t25, t26, t27, t28, t29, t30, t31, t32, t33, t34, t35, t36, t37, t38, t39, t40, t41, t42, t43, t44, t45, t46, t47, t48, t49, t50, t51, t52, t53, t54, t55, t56, t57] := by
 rcases tm with ⟨l⟩
 have h : l.length = 58 := h
 obtain ⟨t0, l0, rfl, h0⟩ := zab h
 obtain ⟨t1, l1, rfl, h1⟩ := zab h0
 obtain ⟨t2, l2, rfl, h2⟩ := zab h1
 obtain ⟨t3, l3, rfl, h3⟩ := zab h2
 obtain ⟨t4, l4, rfl, h4⟩ := zab h3
 obtain ⟨t5, l5, rfl, h5⟩ := zab h4
 obtain ⟨t6, l6, rfl, h6⟩ := zab h5
 obtain ⟨t7, l7, rfl, h7⟩ := zab h6
 obtain ⟨t8, l8, rfl, h8⟩ := zab h7
 obtain ⟨t9, l9, rfl, h9⟩ := zab h8
 obtain ⟨t10, l10, rfl, h10⟩ := zab h9
 obtain ⟨t11, l11, rfl, h11⟩ := zab h10
 obtain ⟨t12, l12, rfl, h12⟩ := zab h11
 obtain ⟨t13, l13, rfl, h13⟩ := zab h12
 obtain ⟨t14, l14, rfl, h14⟩ := zab h13
 obtain ⟨t15, l15, rfl, h15⟩ := zab h14
 obtain ⟨t16, l16, rfl, h16⟩ := zab h15
 obtain ⟨t17, l17, rfl, h17⟩ := zab h16
 obtain ⟨t18, l18, rfl, h18⟩ := zab h17
 obtain ⟨t19, l19, rfl, h19⟩ := zab h18
 obtain ⟨t20, l20, rfl, h20⟩ := zab h19
 obtain ⟨t21, l21, rfl, h21⟩ := zab h20
 obtain ⟨t22, l22, rfl, h22⟩ := zab h21
 obtain ⟨t23, l23, rfl, h23⟩ := zab h22
 obtain ⟨t24, l24, rfl, h24⟩ := zab h23
 obtain ⟨t25, l25, rfl, h25⟩ := zab h24
 obtain ⟨t26, l26, rfl, h26⟩ := zab h25
 obtain ⟨t27, l27, rfl, h27⟩ := zab h26
 obtain ⟨t28, l28, rfl, h28⟩ := zab h27
 obtain ⟨t29, l29, rfl, h29⟩ := zab h28
 obtain ⟨t30, l30, rfl, h30⟩ := zab h29
 obtain ⟨t31, l31, rfl, h31⟩ := zab h30
 obtain ⟨t32, l32, rfl, h32⟩ := zab h31
 obtain ⟨t33, l33, rfl, h33⟩ := zab h32
 obtain ⟨t34, l34, rfl, h34⟩ := zab h33
 obtain ⟨t35, l35, rfl, h35⟩ := zab h34
 obtain ⟨t36, l36, rfl, h36⟩ := zab h35
 obtain ⟨t37, l37, rfl, h37⟩ := zab h36
 obtain ⟨t38, l38, rfl, h38⟩ := zab h37
 obtain ⟨t39, l39, rfl, h39⟩ := zab h38
 obtain ⟨t40, l40, rfl, h40⟩ := zab h39
 obtain ⟨t41, l41, rfl, h41⟩ := zab h40
 obtain ⟨t42, l42, rfl, h42⟩ := zab h41
 obtain ⟨t43, l43, rfl, h43⟩ := zab h42
 obtain ⟨t44, l44, rfl, h44⟩ := zab h43
 obtain ⟨t45, l45, rfl, h45⟩ := zab h44
 obtain ⟨t46, l46, rfl, h46⟩ := zab h45
 obtain ⟨t47, l47, rfl, h47⟩ := zab h46
 obtain ⟨t48, l48, rfl, h48⟩ := zab h47
 obtain ⟨t49, l49, rfl, h49⟩ := zab h48
 obtain ⟨t50, l50, rfl, h50⟩ := zab h49
 obtain ⟨t51, l51, rfl, h51⟩ := zab h50
 obtain ⟨t52, l52, rfl, h52⟩ := zab h51
 obtain ⟨t53, l53, rfl, h53⟩ := zab h52
 obtain ⟨t54, l54, rfl, h54⟩ := zab h53
 obtain ⟨t55, l55, rfl, h55⟩ := zab h54
 obtain ⟨t56, l56, rfl, h56⟩ := zab h55
 obtain ⟨t57, l57, rfl, h57⟩ := zab h56
 obtain rfl := List.eq_nil_of_length_eq_zero h57
 exact ⟨t0, t1, t2, t3, t4, t5, t6, t7, t8, t9, t10, t11, t12, t13, t14, t15, t16, t17, t18, t19, t20, t21, t22, t23, t24, t25, t26, t27, t28, t29, t30, t31, t32, t33, t34, t35, t36, t37, t38, t39, t40, t41, t42, t43, t44, t45, t46, t47, t48, t49, t50, t51, t52, t53, t54, t55, t56, t57, rfl⟩
end Go.Eng
namespace Go.Proofs
open Go.Eng Go.RowKit Go.Shelf
noncomputable def Tryz.strPre : Code := match Tryz.f77.body with | some (.seq a (.seq b (.seq c (.seq d (.seq e _))))) => .seq a (.seq b (.seq c (.seq d e))) | _ => .skip
noncomputable def Tryz.strTail : Code := match Tryz.f77.body with | some (.seq _ (.seq _ (.seq _ (.seq _ (.seq _ r))))) => r | _ => .skip
theorem Tryz.hidS {p : Prop} (h : p) : Hid p := h
set_option maxHeartbeats 4000000 in
set_option maxRecDepth 100000 in
theorem Tryz.str_tail (neg : Bool) (ps : List (List UInt8)) (hne : ps.reverse.flatten ≠ []) (hlen : ps.length ≤ 20000) (htot : ps.flatten.length ≤ 1000000)
  (b1 o1 b3 o3 c : Nat) (w : World) (hneg : w.cell? ⟨b1, o1, none⟩ = some (.bool neg)) (hb1 : b1 < w.heap.size) (hb3 : b3 < w.heap.size)
  (hcells : ∀ j x, ps[j]? = some x → w.cell? ⟨b3, o3 + j, none⟩ = some (.string ⟨x.toArray⟩))
  (tm : Array Value) (hsz : tm.size = 58) (h1 : tm[1]? = some (.pointer (some ⟨b1, o1, none⟩))) (h3 : tm[3]? = some (.slice (some ⟨b3, o3, none⟩) ps.length c)) :
  Tryz.strTail.wp Tryz.prog (fun e a w' => e = .ret ∧ a.defers = [] ∧ a.tmps.getD 2 undef = .string ⟨((if neg then [45] else []) ++ ps.reverse.flatten).toArray⟩ ∧ Below w.heap.size w w') ⟨tm, []⟩ w := by
 have HC := Tryz.hidS hcells
 clear hcells
 obtain ⟨t0, t1, t2, t3, t4, t5, t6, t7, t8, t9, t10, t11, t12, t13, t14, t15, t16, t17, t18, t19, t20, t21, t22, t23, t24, t25, t26, t27, t28, t29, t30, t31, t32, t33, t34, t35, t36, t37, t38, t39, t40, t41, t42, t43, t44, t45, t46, t47, t48, t49, t50, t51, t52, t53, t54, t55, t56, t57, rfl⟩ := zpN tm hsz
 simp only [List.getElem?_toArray, List.getElem?_cons_succ, List.getElem?_cons_zero, Option.some.injEq] at h1 h3
 subst h1
 subst h3
 clear hsz
 unfold Tryz.strTail
 simp only [Tryz.f77]
 have hF : Lib.IsBuilder 156 5 w.heap.size w.heap.size [] (w.alloc (.cells #[.pointer none, .slice none 0 0] 156)) := Lib.fresh_isBuilder 156 5 w
 have hB0 : Below w.heap.size w (w.alloc (.cells #[.pointer none, .slice none 0 0] 156)) := (Below.refl w.heap.size w).alloc (Nat.le_refl _) _
 have HF := Tryz.hidS hF
 have HB0 := Tryz.hidS hB0
 clear hF hB0
 obtain ⟨pre, hpre⟩ : ∃ pre : List UInt8, pre = if neg then [45] else [] := ⟨_, rfl⟩
 have hprel : pre.length ≤ 1 := by rw [hpre]; split <;> simp
 rw [← hpre]
 have tail : ∀ (k : Nat), ((ps.drop k).reverse.flatten).length ≤ 1000000 := fun k => by
  have e := congrArg (fun l => (List.flatten l).length) (List.take_append_drop k ps)
  simp only [List.flatten_append, List.length_append] at e
  have e2 : ((ps.drop k).reverse.flatten).length = ((ps.drop k).flatten).length := by
   simp only [List.length_flatten, List.map_reverse, List.sum_reverse]
  omega
 have HT := Tryz.hidS tail
 clear tail
 cases neg
 case' false =>
  have e0 : pre = [] := by simpa using hpre
  have H1 := Tryz.hidS (show Lib.IsBuilder 156 5 w.heap.size w.heap.size (Lib.byteCells pre) (w.alloc (.cells #[.pointer none, .slice none 0 0] 156)) by rw [e0]; exact HF.out)
  have HB1 := HB0
  go_wp2_with fail
 case' true =>
  have e0 : pre = [45] := by simpa using hpre
  go_wp2_with fail
  refine (Any.Builder_WriteByte Tryz.l167 Tryz.lX w.heap.size w.heap.size [] 45 _ HF.out (by simp) (by simp)).mono ?_
  rintro e w2 ⟨rfl, h2, hb2⟩
  have H1 := Tryz.hidS (show Lib.IsBuilder 156 5 w.heap.size w.heap.size (Lib.byteCells pre) w2 by rw [e0]; exact Or.inr h2)
  have HB1 := Tryz.hidS (HB0.out.trans hb2)
  clear h2 hb2
  go_wp2_with fail
 all_goals (
  go_loopw [9] (fun i wr => ∃ k : Nat, k ≤ ps.length ∧ i = .int .i64 ((k : Int) - 1) ∧ Hid (Lib.IsBuilder 156 5 w.heap.size w.heap.size (Lib.byteCells (pre ++ (ps.drop k).reverse.flatten)) wr) ∧ Hid (Below w.heap.size w wr)) (fun i _ => (intOf i + 1).toNat)
  case atStart => exact ⟨ps.length, Nat.le_refl _, rfl, by rw [List.drop_length]; simpa using H1, HB1⟩
  case round =>
   obtain ⟨k, hk, rfl, HB, HW⟩ := hrel
   by_cases hk0 : k = 0
   ·subst hk0
    have hd : (ps.drop 0) = ps := List.drop_zero
    rw [hd] at HB
    go_wp2_with fail
    refine (Any.Builder_String { Tryz.l105 with } Tryz.lX w.heap.size w.heap.size (pre ++ ps.reverse.flatten) wr HB.out (fun q => hne (List.append_eq_nil_iff.1 q).2)).mono ?_
    rintro e w3 ⟨rfl, hb3'⟩
    go_wp2_with fail
    exact HW.out.trans hb3'
   ·obtain ⟨m, rfl⟩ : ∃ m, k = m + 1 := ⟨k - 1, by omega⟩
    have hm : m < ps.length := by omega
    obtain ⟨x, hx⟩ : ∃ x, ps[m]? = some x := ⟨ps[m], List.getElem?_eq_getElem hm⟩
    have hc := HC.out m x hx
    rw [← HW.out.cell (p := ⟨b3, o3 + m, none⟩) hb3] at hc
    have hdrop : (ps.drop m).reverse.flatten = (ps.drop (m + 1)).reverse.flatten ++ x := by
     have e : ps.drop m = x :: ps.drop (m + 1) := by
      have := List.drop_eq_getElem_cons hm
      rw [List.getElem?_eq_getElem hm] at hx
      cases hx; exact this
     rw [e]; simp
    have hl := HT.out m
    rw [hdrop, List.length_append] at hl
    have Hd := Tryz.hidS hdrop
    have hBw : w.heap.size ≤ wr.heap.size := HW.out.size
    have i1 : ((m + 1 : Nat) : Int) - 1 = (m : Int) := by omega
    rw [i1]
    clear hdrop hx
    have hxs : (⟨x.toArray⟩ : ByteArray).size = x.length := rfl
    go_wp2_with fail
    refine (Any.Builder_WriteString { Tryz.l105 with } Tryz.lX w.heap.size w.heap.size _ ⟨x.toArray⟩ wr HB.out (by rw [Lib.byteCells_length, List.length_append, hxs]; omega) hBw).mono ?_
    rintro e w2' ⟨rfl, h2', hb2'⟩
    have H2 := Tryz.hidS (show Lib.IsBuilder 156 5 w.heap.size w.heap.size (Lib.byteCells (pre ++ (ps.drop m).reverse.flatten)) w2' by
     rw [Hd.out, ← List.append_assoc, Lib.byteCells_append]
     rw [Lib.strCells_eq] at h2'
     exact Or.inr h2')
    have Hb2 := Tryz.hidS (HW.out.trans hb2')
    clear h2' hb2'
    go_wp2_with fail
    exact ⟨⟨m, by omega, rfl, H2, Hb2⟩, by simp [intOf]⟩)
end Go.Proofs
namespace Go.Eng
open Go.RowKit
variable {key : Nat → Option FuncId} {P : Program} {T : Tab}
def Hp.tw (t : Blk) (cs : List AV) : Hp := ⟨fun k => if k = 0 then some { t with rw := false } else if k = 5 then some ⟨cs, false, 0⟩ else none, 6⟩
def Loc.tw (l : Loc) (a1 : At) : Loc := fun k => if k = 5 then some a1 else if k ≤ 4 then l k else none
theorem zkB {l l2 : Loc} {i : Nat} (hi : i < powT.length) {v : Value} (r : Rel key l powT[i] v) : Rel key l2 powT[i] v := by
 have e : powT[i] = .i .u64 ((10 ^ i : Nat) : Int) := by
  simp only [powT]; rw [List.getElem_map, List.getElem_range]
 rw [e] at r ⊢
 cases r; exact .i _ _
theorem zly {F F' : Nat} {l : Loc} {h : Hp} {w : World} (S : Sim key F l h w) {t : Blk} {a0 : At} (ht : h.m 0 = some t) (hv : t.v = powT) (h0 : l 0 = some a0) {xs : List Nat} {a1 : At}
  (hb : a1.b < w.heap.size ∧ a1.w = false ∧ xs.length ≤ a1.n ∧ ∀ i (hi : i < xs.length), w.cell? ⟨a1.b, a1.o + i, none⟩ = some (.int .u32 ((xs[i] : Nat) : Int))) :
  Sim key F' (Loc.tw l a1) (Hp.tw t (xs.map fun x : Nat => .i .u32 (x : Int))) w := by
 refine ⟨fun k b a e1 e2 => ?_, fun k b a k' b' a' e1 e2 e3 => ?_, fun k a e => ?_, fun k a e => ?_, fun k hk => ?_⟩
 ·by_cases hk : k = 0
  ·subst hk
   have e2 : l 0 = some a := e2
   rw [h0] at e2
   cases e1; cases e2
   have H := S.holds 0 t a0 ht h0
   refine ⟨H.lt, H.len, fun i hi => ?_, H.scal, fun q => (by cases q), fun q => ⟨rfl, (H.whole q).2⟩⟩
   obtain ⟨v, c1, c2⟩ := H.cell i hi
   refine ⟨v, c1, ?_⟩
   have hi' : i < powT.length := by rw [← hv]; exact hi
   have e : t.v[i] = powT[i] := by simp only [hv]
   simp only at hi ⊢
   rw [e] at c2 ⊢
   exact zkB hi' c2
  ·by_cases hkn : k = 5
   ·subst hkn
    cases e1; cases e2
    obtain ⟨q1, q0, q2, q3⟩ := hb
    refine ⟨q1, by simpa using q2, fun i hi => ?_, fun i hi => ?_, fun q => (by cases q), fun q => ?_⟩
    ·simp only [List.length_map] at hi
     refine ⟨_, q3 i hi, ?_⟩
     simp only [List.getElem_map]
     exact .i _ _
    ·simp only [List.getElem_map]; rfl
    ·rw [q0] at q; cases q
   ·simp only [Hp.tw, if_neg hk, if_neg hkn] at e1; cases e1
 ·simp only [Hp.tw] at e1
  split at e1
  ·cases e1; cases e3
  ·split at e1
   ·cases e1; cases e3
   ·cases e1
 ·simp only [Loc.tw] at e
  split at e
  ·cases e; exact hb.1
  ·split at e
   ·exact S.lt k a e
   ·cases e
 ·left
  show k < 6
  simp only [Loc.tw] at e
  split at e
  ·omega
  ·split at e
   ·omega
   ·cases e
 ·have hk' : 6 ≤ k := hk
  simp only [Hp.tw]
  rw [if_neg (by omega), if_neg (by omega)]
theorem zoO {F : Nat} {l : Loc} {h : Hp} {w : World} (S : Sim key F l h w) {t : Blk} {a0 : At} (ht : h.m 0 = some t) (hv : t.v = powT) (h0 : l 0 = some a0) {neg : Bool} {wv : AV} {val : Value} {tx : List UInt8}
  (e : txtA [.ag [.b neg, wv]] h = some tx) (r : Rel key l wv val) : ∃ cs a1 wv' v, (∀ F', Sim key F' (Loc.tw l a1) (Hp.tw t cs) w) ∧ Rel key (Loc.tw l a1) wv' val ∧ wlen v ≤ 512 ∧ (neg = true → v ≠ 0) ∧
   tx = decI (if neg then -(v : Int) else (v : Int)) ∧ V (Hp.tw t cs) (fun _ => False) [] (D v) wv' := by
 have H0 := S.holds 0 t a0 ht h0
 have small : ∀ {wv' : AV}, Rel key (Loc.tw l ⟨a0.b, 0, 0, false⟩) wv' val → txtA [.ag [.b neg, wv']] (Hp.tw t []) = some tx → (∀ m off len cap z, wv' = .sl m off len cap z → False) →
   ∃ cs a1 wv' v, (∀ F', Sim key F' (Loc.tw l a1) (Hp.tw t cs) w) ∧ Rel key (Loc.tw l a1) wv' val ∧ wlen v ≤ 512 ∧ (neg = true → v ≠ 0) ∧
   tx = decI (if neg then -(v : Int) else (v : Int)) ∧ V (Hp.tw t cs) (fun _ => False) [] (D v) wv' := fun {wv'} r1 e1 hs => by
  obtain ⟨v, v1, v2, v3, v4⟩ := zhk e1 fun m off len cap z q => (hs _ _ _ _ _ q).elim
  exact ⟨[], ⟨a0.b, 0, 0, false⟩, wv', v, fun F' => zly (xs := []) S ht hv h0 ⟨H0.lt, rfl, Nat.le_refl _, fun i hi => by simp at hi⟩, r1, v1, v2, v3, v4⟩
 cases r with
 | @sl n off len cap cap' z a ha q1 q2 q3 =>
   replace e : (if len = 0 then wtx neg [] else if z = 1 then ((h.rd n off len).bind wordsA).bind (wtx neg) else none) = some tx := e
   split at e
   ·rename_i hl
    subst hl
    exact small (wv' := .e0) (.e0 _ _) e fun _ _ _ _ _ q => by cases q
   ·rename_i hl
    split at e
    ·rename_i hz
     subst hz
     simp only [Option.bind_eq_some_iff] at e
     obtain ⟨xs, ⟨cs, e1, e2⟩, e3⟩ := e
     obtain ⟨w1, w2⟩ := zed e2
     unfold Hp.rd at e1
     split at e1
     ·rename_i b hb
      split at e1
      ·rename_i hle
       cases e1
       have hxl : xs.length = len := by
        have := congrArg List.length w1
        simp at this; omega
       have hg : ∀ i (hi : i < xs.length), b.v[off + i]? = some (.i .u32 ((xs[i] : Nat) : Int)) := fun i hi => by
        have : ((b.v.drop off).take len)[i]? = some (.i .u32 ((xs[i] : Nat) : Int)) := by
         rw [w1, List.getElem?_map, List.getElem?_eq_getElem hi]; rfl
        rw [List.getElem?_take, if_pos (by omega), List.getElem?_drop] at this
        exact this
       have H := S.holds n b a hb ha
       let a1 : At := ⟨a.b, a.o + off, a.n - off, false⟩
       have hsim : ∀ F', Sim key F' (Loc.tw l a1) (Hp.tw t (xs.map fun x : Nat => .i .u32 (x : Int))) w := fun F' => zly S ht hv h0 ⟨H.lt, rfl, by show xs.length ≤ a.n - off; have := H.len; omega, fun i hi => by
        have h1 := hg i hi
        have hoi : off + i < b.v.length := by omega
        obtain ⟨v, c1, c2⟩ := H.cell (off + i) hoi
        rw [List.getElem?_eq_getElem hoi] at h1
        cases h1' : b.v[off + i] with
        | i k m =>
         rw [h1'] at h1 c2
         cases h1
         cases c2
         show w.cell? ⟨a.b, a.o + off + i, none⟩ = _
         rw [Nat.add_assoc]; exact c1
        | _ => rw [h1'] at h1; cases h1⟩
       have hrel : Rel key (Loc.tw l a1) (.sl 5 0 len cap 1) (.slice (some ⟨a.b, a.o + off, none⟩) len cap') := by
        have hl : Loc.tw l a1 5 = some a1 := rfl
        have := Rel.sl (key := key) (off := 0) (len := len) (cap := cap) (cap' := cap') (z := 1) hl q1 (by show 0 + cap' * 1 ≤ a.n - off; omega) q3
        exact this
       have htx : txtA [.ag [.b neg, .sl 5 0 len cap 1]] (Hp.tw t (xs.map fun x : Nat => .i .u32 (x : Int))) = some tx := by
        have hrd : (Hp.tw t (xs.map fun x : Nat => AV.i .u32 (x : Int))).rd 5 0 len = some (xs.map fun x : Nat => .i .u32 (x : Int)) := by
         simp only [Hp.rd, Hp.tw, if_neg (show (5 : Nat) ≠ 0 by decide), if_true]
         rw [if_pos (by simp; omega), List.drop_zero, List.take_of_length_le (by simp; omega)]
        show (if len = 0 then wtx neg [] else if 1 = 1 then (((Hp.tw t (xs.map fun x : Nat => AV.i .u32 (x : Int))).rd 5 0 len).bind wordsA).bind (wtx neg) else none) = _
        rw [if_neg hl, if_pos rfl, hrd, Option.bind_some, ← w1, e2, Option.bind_some]
        exact e3
       obtain ⟨v, v1, v2, v3, v4⟩ := zhk htx fun m off' len' cap'' z q => by cases q; exact q3
       exact ⟨_, a1, _, v, hsim, hrel, v1, v2, v3, v4⟩
      ·cases e1
     ·cases e1
    ·cases e
 | sn => exact small .sn e fun _ _ _ _ _ q => by cases q
 | se b => exact small (.se b) e fun _ _ _ _ _ q => by cases q
 | e0 b c => exact small (.e0 b c) e fun _ _ _ _ _ q => by cases q
 | _ => simp [txtA] at e
end Go.Eng
namespace Go.Eng
open Go.RowKit
variable {key : Nat → Option FuncId} {P : Program} {T : Tab}
theorem zhe {fn : Func} (h : fn.results = #[.tmp 2]) (tmps : Array Value) (w : World) : (results fn tmps).run P w = .ok (tmps.getD 2 undef) w := by
 unfold results
 rw [h, Array.mapM_eq_mapM_toList]
 rfl
theorem zoG {l : Loc} {xs : List UInt8} {v : Value} (h : Rel key l (.s xs) v) : v = .string ⟨xs.toArray⟩ := by
 generalize hx : AV.s xs = x at h
 cases h <;> cases hx
 rfl
theorem znF (v : Nat) : dec v ≠ [] := by
 unfold dec
 split
 ·simp
 ·rename_i h
  intro q
  have h1 := congrArg List.length q
  rw [zbF] at h1
  have := zbE v
  simp at h1
  rw [h1] at this
  simp at this; omega
theorem zhK {args : List AV} {h : Hp} {l : List UInt8} (e : txtA args h = some l) : ∃ neg w, args = [.ag [.b neg, w]] := by
 unfold txtA at e
 split at e
 ·exact ⟨_, _, rfl⟩
 ·exact ⟨_, _, rfl⟩
 ·exact ⟨_, _, rfl⟩
 ·exact ⟨_, _, rfl⟩
 ·cases e
theorem zm6 (K1 : ProgOk P key T E1.prog) (KE : PEnvOk E1) (hT0 : ∀ g n, T.gkey g = some n → n ≤ 4) {G : Nat} (hG : T.gkey G = some 0) {fn : Func} {g : Nat} (hfn : P.funcs[g]? = some fn) {pre tail : Code} (hbody : fn.body = some (graft pre tail)) (hpre : cCode P T pre = strA)
  (hnt : fn.ntmps = 58) (hres : fn.results = #[.tmp 2])
  (htail : ∀ (neg : Bool) (ps : List (List UInt8)), ps.reverse.flatten ≠ [] → ps.length ≤ 20000 → ps.flatten.length ≤ 1000000 →
   ∀ (b1 o1 b3 o3 c : Nat) (w : World), w.cell? ⟨b1, o1, none⟩ = some (.bool neg) → b1 < w.heap.size → b3 < w.heap.size →
   (∀ j x, ps[j]? = some x → w.cell? ⟨b3, o3 + j, none⟩ = some (.string ⟨x.toArray⟩)) →
   ∀ (tm : Array Value), tm.size = 58 → tm[1]? = some (.pointer (some ⟨b1, o1, none⟩)) → tm[3]? = some (.slice (some ⟨b3, o3, none⟩) ps.length c) →
   tail.wp P (fun e a w' => e = .ret ∧ a.defers = [] ∧ a.tmps.getD 2 undef = .string ⟨((if neg then [45] else []) ++ ps.reverse.flatten).toArray⟩ ∧ Below w.heap.size w w') ⟨tm, []⟩ w)
  {F : Nat} {args : List AV} {vs : Array Value} {h h' : Hp} {v : AV} {l : Loc} {w : World} (e : orcA 33 args h = some (v, h')) (TO : TabOk key T l)
  (RL : RelL key l args vs.toList) (S : Sim key F l h w) : Calls P g vs w fun e w' => ∃ l' val, e = .returned val ∧ Ext l h w l' h' w' ∧ Sim key F l' h' w' ∧ Rel key l' v val := by
 unfold orcA at e
 rw [if_pos rfl] at e
 split at e
 case isFalse => cases e
 rename_i ht
 simp only [Option.map_eq_some_iff, Prod.mk.injEq] at e
 obtain ⟨tx, e1, rfl, rfl⟩ := e
 obtain ⟨t, t1, t2⟩ := ht
 obtain ⟨m0, hl0⟩ := TO.g G 0 hG
 obtain ⟨neg, wv, rfl⟩ := zhK e1
 have hvs : ∃ val, vs = #[.agg #[.bool neg, val]] ∧ Rel key l wv val := by
  have hlen := RL.1
  rcases vs with ⟨vs⟩
  match vs, hlen with
  | [x], _ =>
   have r := RL.2 0 (by simp) (by simp)
   simp only [List.getElem_cons_zero] at r
   cases r with
   | @ag _ ws hn hv =>
    rcases ws with ⟨ws⟩
    match ws, hn with
    | [a, b], _ =>
     have r1 := hv 0 (by simp) (by simp)
     have r2 := hv 1 (by simp) (by simp)
     simp only [List.getElem_cons_zero, List.getElem_toArray, List.getElem_cons_succ] at r1 r2
     cases r1
     exact ⟨b, rfl, r2⟩
 obtain ⟨val, rfl, rv⟩ := hvs
 obtain ⟨cs, a1, wv', z, hsim, rv', hz, hneg, htx, hV⟩ := zoO S t1 t2 hl0 e1 rv
 generalize hh0 : Hp.tw t cs = h0 at hsim hV
 generalize hll : Loc.tw l a1 = l0 at hsim rv'
 have hw0 : h0.wf := (hsim 0).wf
 have hT : HasT h0 := ⟨{ t with rw := false }, by rw [← hh0]; rfl, t2⟩
 have norw : ∀ k b, h0.m k = some b → b.rw = false := fun k b q => by
  rw [← hh0] at q
  simp only [Hp.tw] at q
  split at q
  ·cases q; rfl
  ·split at q
   ·cases q; rfl
   ·cases q
 have TO0 : TabOk key T l0 := ⟨TO.f, fun g' n' q => by
  have hn := hT0 g' n' q
  obtain ⟨m, hm⟩ := TO.g g' n' q
  refine ⟨m, ?_⟩
  rw [← hll]
  simp only [Loc.tw]
  rw [if_neg (by omega), if_pos hn]
  exact hm⟩
 have RA : RelL key l0 [.ag [.b neg, wv']] [.agg #[.bool neg, val]] := .cons ((RelL.cons (.b neg) (.cons rv' .nil)).ag) .nil
 have RF : RelF key l0 ([.ag [.b neg, wv']] ++ List.replicate 57 undefA) (#[.agg #[.bool neg, val]] ++ Array.replicate (fn.ntmps - (#[Value.agg #[.bool neg, val]] : Array Value).size) undef) := by
  rw [hnt]
  unfold RelF
  rw [Array.toList_append, Array.toList_replicate]
  exact RA.append ⟨by simp, fun i q1 q2 => by rw [List.getElem_replicate, List.getElem_replicate]; exact zby⟩
 have hbel : ∀ {l1 h1 w1}, Ext l0 h0 w l1 h1 w1 → Below w.heap.size w w1 := fun {l1 h1 w1} E =>
  ⟨E.os, E.tape, E.output, E.size, fun b hb => E.frame b hb fun m blk a q1 q2 => by rw [norw m blk q1] at q2; cases q2⟩
 have hregs : (cCode P T pre).regsOk = true := by rw [hpre]; decide
 have goodCall := zdE K1
 have final : Calls P g #[.agg #[.bool neg, val]] w fun e w' => e = .returned (.string ⟨tx.toArray⟩) ∧ Below w.heap.size w w' := by
  refine calls_of_wp hfn hbody ?_
  by_cases hz0 : z = 0
  ·subst hz0
   have hnf : neg = false := by
    cases neg
    ·rfl
    ·exact (hneg rfl rfl).elim
   subst hnf
   have htx' : tx = [48] := by rw [htx]; rfl
   obtain ⟨lf, fr', h1, ev, f2⟩ := zm3 KE hw0 hT hV
   refine zgE (goodCall lf) K1.call (zcl K1 lf) K1.mixed lf tail pre hregs TO0 RF (hsim h1.next) (Nat.le_refl _) (by rw [hpre]; exact ev) fun l' a' w' E R' S' hd => ?_
   have r2 := RelF.get R' 2
   rw [f2] at r2
   refine ⟨hd, _, zhe hres _ _, ?_, hbel E⟩
   rw [htx']
   generalize a'.tmps.getD 2 undef = x at r2
   rw [zoG r2]
  ·obtain ⟨lf, fr', h1, p0, m, len, cap, ps, ev, hlen, f1, ⟨b0, hb0, hb0v⟩, f3, ⟨b1, hb1, hb1v⟩, rfl, g1, g2, g3⟩ := zm4 KE (neg := neg) hw0 hT hz0 hz hV
   refine zgE (goodCall lf) K1.call (zcl K1 lf) K1.mixed lf tail pre hregs TO0 RF (hsim h1.next) (Nat.le_refl _) (by rw [hpre]; exact ev) fun l' a' w' E R' S' hd => ?_
   have r1 := RelF.get R' 1
   have r3 := RelF.get R' 3
   rw [f1] at r1
   rw [f3] at r3
   have hsz : a'.tmps.size = 58 := by
    have := R'.1
    simp at this; omega
   have gd : ∀ i, i < 58 → a'.tmps[i]? = some (a'.tmps.getD i undef) := fun i hi => by
    rw [Array.getD_eq_getD_getElem?, Array.getElem?_eq_getElem (by omega)]; rfl
   have gd1 := gd 1 (by omega)
   have gd3 := gd 3 (by omega)
   generalize a'.tmps.getD 1 undef = x1 at r1 gd1
   generalize a'.tmps.getD 3 undef = x3 at r3 gd3
   cases r1 with
   | @p _ _ a1' q1 =>
    cases r3 with
    | @sl _ _ _ _ cap' _ a3 q3 s1 s2 s3 =>
     have H0 := S'.holds _ _ _ hb0 q1
     have H3 := S'.holds _ _ _ hb1 q3
     have hneg' : w'.cell? ⟨a1'.b, a1'.o + 0, none⟩ = some (.bool neg) := by
      have hl : 0 < b0.v.length := by
       rcases Nat.eq_zero_or_pos b0.v.length with q | q
       ·rw [List.getElem?_eq_none (by omega)] at hb0v; cases hb0v
       ·exact q
      obtain ⟨y, c1, c2⟩ := H0.cell 0 hl
      rw [List.getElem?_eq_getElem hl] at hb0v
      rw [Option.some.inj hb0v] at c2
      cases c2; exact c1
     have hcells : ∀ j x, ps[j]? = some x → w'.cell? ⟨a3.b, a3.o + 0 + j, none⟩ = some (.string ⟨x.toArray⟩) := fun j x hx => by
      have hj : j < ps.length := by
       by_cases q : j < ps.length
       ·exact q
       ·rw [List.getElem?_eq_none (by omega)] at hx; cases hx
      have hj' : j < b1.v.length := by rw [hb1v]; simpa using hj
      obtain ⟨y, c1, c2⟩ := H3.cell j hj'
      have e : b1.v[j] = .s x := by
       simp only [hb1v, List.getElem_map]
       rw [List.getElem?_eq_getElem hj] at hx
       rw [Option.some.inj hx]
      rw [e] at c2
      have hy : y = .string ⟨x.toArray⟩ := by
       generalize hs : AV.s x = ax at c2
       cases c2 <;> cases hs
       rfl
      rw [Nat.add_zero, ← hy]; exact c1
     have hne : ps.reverse.flatten ≠ [] := by rw [g3]; exact znF z
     have htot : ps.flatten.length ≤ 1000000 := by
      have h1 : ps.flatten.length = ps.reverse.flatten.length := by
       simp only [List.length_flatten, List.map_reverse, List.sum_reverse]
      rw [h1, g3]
      have h2 := zk7 hz
      unfold dec
      rw [if_neg hz0, zbF]; omega
     have tl := htail neg ps hne g2 htot a1'.b (a1'.o + 0) a3.b (a3.o + 0) cap' w' hneg' H0.lt H3.lt hcells a'.tmps hsz gd1 gd3
     have ha : a' = ⟨a'.tmps, []⟩ := by
      rcases a' with ⟨tm, df⟩
      simp only at hd
      rw [hd]
     show tail.wp P (bodyPost P fn _) a' w'
     rw [ha]
     refine wp_mono tl ?_
     rintro e a2 w2 ⟨rfl, d2, v2, bl⟩
     refine ⟨d2, _, zhe hres _ _, ?_, (hbel E).trans ⟨bl.os, bl.tape, bl.output, bl.size, fun k hk => bl.block k (Nat.lt_of_lt_of_le hk E.size)⟩⟩
     rw [v2, g3, htx]
     unfold decI
     cases neg
     ·simp only [Bool.false_eq_true, if_false]
      rw [if_neg (by omega)]
      simp
     ·simp only [if_true]
      rw [if_pos (by omega)]
      simp
 exact zbO S final (zfc tx)
end Go.Eng
namespace Go.Eng
theorem zg8 {f : Nat} {d : XD} (h : prog f = some d) : some d ∈ progL := by
 unfold prog at h
 cases h1 : progL[f]? with
 | none => rw [h1] at h; cases h
 | some x =>
  rw [h1] at h
  cases x with
  | none => cases h
  | some y => cases h; exact List.mem_of_getElem? h1
def dOkD : Option XD → Bool
 | some (.fn xf) => xf.body.dOk xf.n
 | _ => true
theorem zhR : progL.all dOkD = true := by kernel_rfl
def isO : Option XD → Bool
 | some (.orc _) => true
 | _ => false
theorem zet {f : Nat} {o : List AV → Hp → Option (AV × Hp)} (h : prog f = some (.orc o)) : o = orcA f ∧ (f = 33 ∨ f = 50 ∨ f = 51 ∨ f = 130 ∨ f = 131 ∨ f = 222) := by
 have hf : isO (prog f) = true := by rw [h]; rfl
 have all : (List.range progL.length).all (fun f => !isO (prog f) || (f == 33 || f == 50 || f == 51 || f == 130 || f == 131 || f == 222)) = true := by kernel_rfl
 have hlt : f < progL.length := by
  unfold prog at h
  by_cases q : f < progL.length
  ·exact q
  ·rw [List.getElem?_eq_none (by omega)] at h; cases h
 rw [List.all_eq_true] at all
 have := all f (List.mem_range.2 hlt)
 rw [hf] at this
 simp only [Bool.not_true, Bool.false_or, Bool.or_eq_true, beq_iff_eq] at this
 have hc : f = 33 ∨ f = 50 ∨ f = 51 ∨ f = 130 ∨ f = 131 ∨ f = 222 := by omega
 refine ⟨?_, hc⟩
 rcases hc with rfl | rfl | rfl | rfl | rfl | rfl
 ·first | (have e : prog 33 = some (.orc (orcA 33)) := rfl; rw [e] at h; cases h; rfl) | (have h' : (none : Option XD) = some (.orc o) := h; cases h')
 ·first | (have e : prog 50 = some (.orc (orcA 50)) := rfl; rw [e] at h; cases h; rfl) | (have h' : (none : Option XD) = some (.orc o) := h; cases h')
 ·first | (have e : prog 51 = some (.orc (orcA 51)) := rfl; rw [e] at h; cases h; rfl) | (have h' : (none : Option XD) = some (.orc o) := h; cases h')
 ·first | (have e : prog 130 = some (.orc (orcA 130)) := rfl; rw [e] at h; cases h; rfl) | (have h' : (none : Option XD) = some (.orc o) := h; cases h')
 ·first | (have e : prog 131 = some (.orc (orcA 131)) := rfl; rw [e] at h; cases h; rfl) | (have h' : (none : Option XD) = some (.orc o) := h; cases h')
 ·first | (have e : prog 222 = some (.orc (orcA 222)) := rfl; rw [e] at h; cases h; rfl) | (have h' : (none : Option XD) = some (.orc o) := h; cases h')
theorem zdd {f : Nat} {d : XD} (h : E1.prog f = some d) : prog f = some d ∧ f ≠ 33 := by
 have h2 : (if f = 33 then none else prog f) = some d := h
 split at h2
 ·cases h2
 ·rename_i hf; exact ⟨h2, hf⟩
theorem KE0 : PEnvOk E0 where
 fn := fun f xf h => by
  have := zhR
  rw [List.all_eq_true] at this
  exact this _ (zg8 (show prog f = _ from h))
 orc := fun f o h Db r M hp args asv v M' e I hv => by
  obtain ⟨rfl, _⟩ := zet (show prog f = _ from h)
  exact zol rfl e I hv
theorem KE1 : PEnvOk E1 where
 fn := fun f xf h => by
  have := zhR
  rw [List.all_eq_true] at this
  exact this _ (zg8 (zdd h).1)
 orc := fun f o h Db r M hp args asv v M' e I hv => by
  obtain ⟨rfl, _⟩ := zet (zdd h).1
  exact zol rfl e I hv
variable (P : Program) (T : Tab)
def AllOk : List (Option XD) → List (Option FuncId) → Prop
 | some (.fn xf) :: ps, some g :: ks => (∃ fn, P.funcs[g]? = some fn ∧ cFunc P T fn = some xf ∧ xf.body.regsOk = true) ∧ AllOk ps ks
 | _ :: ps, _ :: ks => AllOk ps ks
 | _, _ => True
def AllCal : List (Option FuncId) → Prop
 | some g :: ks => (∃ fn, P.funcs[g]? = some fn ∧ fn.body.isNone = false ∧ (fn.name == "runtime.NumGoroutine") = false) ∧ AllCal ks
 | none :: ks => AllCal ks
 | [] => True
variable {P T}
theorem zeI : ∀ {ps : List (Option XD)} {ks : List (Option FuncId)}, AllOk P T ps ks → ∀ {f : Nat} {xf : XF} {g : FuncId}, (ps[f]?).join = some (.fn xf) → (ks[f]?).join = some g → ∃ fn, P.funcs[g]? = some fn ∧ cFunc P T fn = some xf ∧ xf.body.regsOk = true
 | [], _, _, f, xf, g, h1, h2 => by simp at h1
 | p :: ps, [], _, f, xf, g, h1, h2 => by simp at h2
 | p :: ps, k :: ks, h, 0, xf, g, h1, h2 => by
  simp only [List.getElem?_cons_zero, Option.join_some] at h1 h2
  subst h1; subst h2
  exact h.1
 | p :: ps, k :: ks, h, f + 1, xf, g, h1, h2 => by
  simp only [List.getElem?_cons_succ] at h1 h2
  refine zeI (ps := ps) (ks := ks) ?_ h1 h2
  match p, k, h with
  | some (.fn xf), some g, h => exact h.2
  | some (.fn xf), none, h => exact h
  | some (.orc _), _, h => exact h
  | none, _, h => exact h
theorem zfO : ∀ {ks : List (Option FuncId)}, AllCal P ks → ∀ {f : Nat} {g : FuncId}, (ks[f]?).join = some g → ∃ fn, P.funcs[g]? = some fn ∧ fn.body.isNone = false ∧ (fn.name == "runtime.NumGoroutine") = false
 | [], _, f, g, h => by simp at h
 | k :: ks, h, 0, g, h1 => by
  simp only [List.getElem?_cons_zero, Option.join_some] at h1
  subst h1
  exact h.1
 | k :: ks, h, f + 1, g, h1 => by
  simp only [List.getElem?_cons_succ] at h1
  refine zfO (ks := ks) ?_ h1
  match k, h with
  | some g, h => exact h.2
  | none, h => exact h
theorem zgJ {f : Nat} {args : List AV} {h h' : Hp} {v : AV} (e : orcA f args h = some (v, h')) : HpOk h h' := by
 unfold orcA at e
 split at e
 ·split at e
  ·simp only [Option.map_eq_some_iff, Prod.mk.injEq] at e
   obtain ⟨_, _, _, rfl⟩ := e
   exact .refl h
  ·cases e
 ·split at e
  ·cases e
  ·simp only [Option.map_eq_some_iff, Prod.mk.injEq] at e
   obtain ⟨_, _, _, rfl⟩ := e
   exact .refl h
theorem zmT {keyL : List (Option FuncId)} {ρ : Go.Shelf.Ren} {G : Nat} (mixed : P.follows .mixedOrders = true) (hc : AllCal P keyL) (ha : AllOk P T progL keyL) (L : LibOk P ρ (fun f => (keyL[f]?).join) T G) :
  ProgOk P (fun f => (keyL[f]?).join) T E1.prog where
 mixed := mixed
 call := fun f g h => zfO hc h
 fn := fun f xf g h1 h2 => zeI ha (zdd h1).1 h2
 good := fun f o args h v h' h1 e => by
  obtain ⟨rfl, _⟩ := zet (zdd h1).1
  exact zgJ e
 orc := fun f o g h1 hk F args vs h h' v l w e hF TO RL S => by
  obtain ⟨rfl, _⟩ := zet (zdd h1).1
  exact ziq L hk (zdd h1).2 e TO RL S
theorem zmS {keyL : List (Option FuncId)} {ρ : Go.Shelf.Ren} {G : Nat} (mixed : P.follows .mixedOrders = true) (hc : AllCal P keyL) (ha : AllOk P T progL keyL) (L : LibOk P ρ (fun f => (keyL[f]?).join) T G)
  (str : ∀ {g : Nat}, (keyL[33]?).join = some g → ∀ {F : Nat} {args : List AV} {vs : Array Value} {h h' : Hp} {v : AV} {l : Loc} {w : World}, orcA 33 args h = some (v, h') → TabOk (fun f => (keyL[f]?).join) T l →
   RelL (fun f => (keyL[f]?).join) l args vs.toList → Sim (fun f => (keyL[f]?).join) F l h w → Calls P g vs w fun e w' => ∃ l' val, e = .returned val ∧ Ext l h w l' h' w' ∧ Sim (fun f => (keyL[f]?).join) F l' h' w' ∧ Rel (fun f => (keyL[f]?).join) l' v val) :
  ProgOk P (fun f => (keyL[f]?).join) T E0.prog where
 mixed := mixed
 call := fun f g h => zfO hc h
 fn := fun f xf g h1 h2 => zeI ha (show prog f = _ from h1) h2
 good := fun f o args h v h' h1 e => by
  obtain ⟨rfl, _⟩ := zet (show prog f = _ from h1)
  exact zgJ e
 orc := fun f o g h1 hk F args vs h h' v l w e hF TO RL S => by
  obtain ⟨rfl, hf⟩ := zet (show prog f = _ from h1)
  by_cases h33 : f = 33
  ·subst h33
   exact str hk e TO RL S
  ·exact ziq L hk h33 e TO RL S
end Go.Eng
namespace Go.Proofs
open Go.Eng
def Tryz.keyL : List (Option FuncId) := [none, none, none, none, none, none, none, none, some 90, some 91, none, none, none, none, none, none, some 34, some 51, some 80, some 52, some 125, some 111, some 110, some 94, some 72, none, none, none, none, some 53, some 54, some 55, none, some 77, some 92, some 95, some 98, some 93, some 122, some 123, some 96, some 99, some 97, some 109, some 47, none, none, none, some 116, some 106, some 117, some 118, none, none, none, some 126, some 127, some 128, some 129, some 107, some 131, some 132, some 130, some 87, some 88, some 50, none, some 49, none, none, none, none, none, none, none, none, some 152, some 153, some 154, some 155, some 81, none, none, none, none, some 157, none, none, none, none, none, none, none, none, none, none, none, none, none, none, none, none, none, none, none, none, none, some 71, none, none, some 70, none, none, none, some 28, none, none, none, some 66, some 26, some 61, some 102, none, some 59, some 124, some 60, some 145, some 108, some 27, some 103, some 104, some 105, some 62, some 63, some 64, some 65, some 100, some 135, none, none, none, none, none, none, none, none, none, some 101, some 133, some 134, none, none, none, none, none, none, none, none, none, some 156, none, none, none, none, none, none, none, none, none, none, none, none, none, none, none, none, none, none, none, some 67, some 36, none, some 25, none, none, some 58, none, some 29, none, none, some 114, none, some 113, some 76, none, none, some 35, none, none, some 75, none, none, none, none, none, none, none, none, some 115, none, none, none, none, none, none, none, none, none, none, none, none, none, none, none, none, none, none, none, none, none, none, none, none, none, none, none, none, none, none, none, none, none, none, none, none, none, none, none, none, none, none, none, none, none, none, none, none, none, none, none, none, none, none, none, none, none, none, none, none, none, none, none, none, none, none, none, none, none, none, none, none, none, none, none, none, none, none, none, none, none, none, none, none, none, none, none, none, none, none, none, none, some 15, some 30, some 14, some 12, some 11, some 68, some 56, some 20, some 9, some 48, some 40, some 82, some 79, some 38, some 37, some 39, some 89, some 83, some 84, some 78, none, none, none, some 5, none, none, none, none, none, some 16, some 17, none, none, none, none, none, none, none, none, none, some 31, some 32, some 33, none, none, none, none, none, none, none, none, none, none, none, none, none, some 57, some 69, some 73, some 74, none, none, none, none, none, none, none, none, none, none, none, none, none, none, some 112, none, none, none, none, none, none, none, none, none, none, none, none]
def Tryz.fkeyL : List (Option Nat) := [none, none, none, none, none, some 324, none, none, none, some 309, none, some 305, some 304, none, some 303, some 301, some 330, some 331, none, none, some 308, none, none, none, none, some 182, some 119, some 128, some 114, some 187, some 302, some 341, some 342, some 343, some 16, some 196, some 180, some 315, some 314, some 316, some 311, none, none, none, none, none, none, some 44, some 310, some 67, some 65, some 17, some 19, some 29, some 30, some 31, some 307, some 357, some 185, some 123, some 125, some 120, some 132, some 133, some 134, some 135, some 118, some 179, some 306, some 358, some 110, some 107, some 24, some 359, some 360, some 199, some 193, some 33, some 320, some 313, some 18, some 80, some 312, some 318, some 319, none, none, some 63, some 64, some 317, some 8, some 9, some 34, some 37, some 23, some 35, some 40, some 42, some 36, some 41, some 136, some 147, some 121, some 129, some 130, some 131, some 49, some 59, some 127, some 43, some 22, some 21, some 375, some 192, some 190, some 208, some 48, some 50, some 51, none, none, none, some 38, some 39, some 124, some 20, some 55, some 56, some 57, some 58, some 62, some 60, some 61, some 148, some 149, some 137, none, none, none, none, none, none, none, none, none, some 126, none, none, none, none, none, none, some 76, some 77, some 78, some 79, some 159, some 85]
def Tryz.T : Tab := { fkey := fun f => (Tryz.fkeyL[f]?).join, gkey := fun g => if g = 4 then some 0 else none }
abbrev OkC (p : Program) (n : Nat) : Prop := ∃ fn, p.funcs[n]? = some fn ∧ fn.body.isNone = false ∧ (fn.name == "runtime.NumGoroutine") = false
abbrev OkF (p : Program) (T : Tab) (n : Nat) (x : XF) : Prop := ∃ fn, p.funcs[n]? = some fn ∧ cFunc p T fn = some x ∧ x.body.regsOk = true
theorem Tryz.okc8 : OkC Tryz.prog 90 := ⟨_, Tryz.func90, by kernel_rfl, by kernel_rfl⟩
theorem Tryz.okc9 : OkC Tryz.prog 91 := ⟨_, Tryz.func91, by kernel_rfl, by kernel_rfl⟩
theorem Tryz.okc16 : OkC Tryz.prog 34 := ⟨_, Tryz.func34, by kernel_rfl, by kernel_rfl⟩
theorem Tryz.okc17 : OkC Tryz.prog 51 := ⟨_, Tryz.func51, by kernel_rfl, by kernel_rfl⟩
theorem Tryz.okc18 : OkC Tryz.prog 80 := ⟨_, Tryz.func80, by kernel_rfl, by kernel_rfl⟩
theorem Tryz.okc19 : OkC Tryz.prog 52 := ⟨_, Tryz.func52, by kernel_rfl, by kernel_rfl⟩
theorem Tryz.okc20 : OkC Tryz.prog 125 := ⟨_, Tryz.func125, by kernel_rfl, by kernel_rfl⟩
theorem Tryz.okc21 : OkC Tryz.prog 111 := ⟨_, Tryz.func111, by kernel_rfl, by kernel_rfl⟩
theorem Tryz.okc22 : OkC Tryz.prog 110 := ⟨_, Tryz.func110, by kernel_rfl, by kernel_rfl⟩
theorem Tryz.okc23 : OkC Tryz.prog 94 := ⟨_, Tryz.func94, by kernel_rfl, by kernel_rfl⟩
theorem Tryz.okc24 : OkC Tryz.prog 72 := ⟨_, Tryz.func72, by kernel_rfl, by kernel_rfl⟩
theorem Tryz.okc29 : OkC Tryz.prog 53 := ⟨_, Tryz.func53, by kernel_rfl, by kernel_rfl⟩
theorem Tryz.okc30 : OkC Tryz.prog 54 := ⟨_, Tryz.func54, by kernel_rfl, by kernel_rfl⟩
theorem Tryz.okc31 : OkC Tryz.prog 55 := ⟨_, Tryz.func55, by kernel_rfl, by kernel_rfl⟩
theorem Tryz.okc33 : OkC Tryz.prog 77 := ⟨_, Tryz.func77, by kernel_rfl, by kernel_rfl⟩
theorem Tryz.okc34 : OkC Tryz.prog 92 := ⟨_, Tryz.func92, by kernel_rfl, by kernel_rfl⟩
theorem Tryz.okc35 : OkC Tryz.prog 95 := ⟨_, Tryz.func95, by kernel_rfl, by kernel_rfl⟩
theorem Tryz.okc36 : OkC Tryz.prog 98 := ⟨_, Tryz.func98, by kernel_rfl, by kernel_rfl⟩
theorem Tryz.okc37 : OkC Tryz.prog 93 := ⟨_, Tryz.func93, by kernel_rfl, by kernel_rfl⟩
theorem Tryz.okc38 : OkC Tryz.prog 122 := ⟨_, Tryz.func122, by kernel_rfl, by kernel_rfl⟩
theorem Tryz.okc39 : OkC Tryz.prog 123 := ⟨_, Tryz.func123, by kernel_rfl, by kernel_rfl⟩
theorem Tryz.okc40 : OkC Tryz.prog 96 := ⟨_, Tryz.func96, by kernel_rfl, by kernel_rfl⟩
theorem Tryz.okc41 : OkC Tryz.prog 99 := ⟨_, Tryz.func99, by kernel_rfl, by kernel_rfl⟩
theorem Tryz.okc42 : OkC Tryz.prog 97 := ⟨_, Tryz.func97, by kernel_rfl, by kernel_rfl⟩
theorem Tryz.okc43 : OkC Tryz.prog 109 := ⟨_, Tryz.func109, by kernel_rfl, by kernel_rfl⟩
theorem Tryz.okc44 : OkC Tryz.prog 47 := ⟨_, Tryz.func47, by kernel_rfl, by kernel_rfl⟩
theorem Tryz.okc48 : OkC Tryz.prog 116 := ⟨_, Tryz.func116, by kernel_rfl, by kernel_rfl⟩
theorem Tryz.okc49 : OkC Tryz.prog 106 := ⟨_, Tryz.func106, by kernel_rfl, by kernel_rfl⟩
theorem Tryz.okc50 : OkC Tryz.prog 117 := ⟨_, Tryz.func117, by kernel_rfl, by kernel_rfl⟩
theorem Tryz.okc51 : OkC Tryz.prog 118 := ⟨_, Tryz.func118, by kernel_rfl, by kernel_rfl⟩
theorem Tryz.okc55 : OkC Tryz.prog 126 := ⟨_, Tryz.func126, by kernel_rfl, by kernel_rfl⟩
theorem Tryz.okc56 : OkC Tryz.prog 127 := ⟨_, Tryz.func127, by kernel_rfl, by kernel_rfl⟩
theorem Tryz.okc57 : OkC Tryz.prog 128 := ⟨_, Tryz.func128, by kernel_rfl, by kernel_rfl⟩
theorem Tryz.okc58 : OkC Tryz.prog 129 := ⟨_, Tryz.func129, by kernel_rfl, by kernel_rfl⟩
theorem Tryz.okc59 : OkC Tryz.prog 107 := ⟨_, Tryz.func107, by kernel_rfl, by kernel_rfl⟩
theorem Tryz.okc60 : OkC Tryz.prog 131 := ⟨_, Tryz.func131, by kernel_rfl, by kernel_rfl⟩
theorem Tryz.okc61 : OkC Tryz.prog 132 := ⟨_, Tryz.func132, by kernel_rfl, by kernel_rfl⟩
theorem Tryz.okc62 : OkC Tryz.prog 130 := ⟨_, Tryz.func130, by kernel_rfl, by kernel_rfl⟩
theorem Tryz.okc63 : OkC Tryz.prog 87 := ⟨_, Tryz.func87, by kernel_rfl, by kernel_rfl⟩
theorem Tryz.okc64 : OkC Tryz.prog 88 := ⟨_, Tryz.func88, by kernel_rfl, by kernel_rfl⟩
theorem Tryz.okc65 : OkC Tryz.prog 50 := ⟨_, Tryz.func50, by kernel_rfl, by kernel_rfl⟩
theorem Tryz.okc67 : OkC Tryz.prog 49 := ⟨_, Tryz.func49, by kernel_rfl, by kernel_rfl⟩
theorem Tryz.okc76 : OkC Tryz.prog 152 := ⟨_, Tryz.func152, by kernel_rfl, by kernel_rfl⟩
theorem Tryz.okc77 : OkC Tryz.prog 153 := ⟨_, Tryz.func153, by kernel_rfl, by kernel_rfl⟩
theorem Tryz.okc78 : OkC Tryz.prog 154 := ⟨_, Tryz.func154, by kernel_rfl, by kernel_rfl⟩
theorem Tryz.okc79 : OkC Tryz.prog 155 := ⟨_, Tryz.func155, by kernel_rfl, by kernel_rfl⟩
theorem Tryz.okc80 : OkC Tryz.prog 81 := ⟨_, Tryz.func81, by kernel_rfl, by kernel_rfl⟩
theorem Tryz.okc85 : OkC Tryz.prog 157 := ⟨_, Tryz.func157, by kernel_rfl, by kernel_rfl⟩
theorem Tryz.okc107 : OkC Tryz.prog 71 := ⟨_, Tryz.func71, by kernel_rfl, by kernel_rfl⟩
theorem Tryz.okc110 : OkC Tryz.prog 70 := ⟨_, Tryz.func70, by kernel_rfl, by kernel_rfl⟩
theorem Tryz.okc114 : OkC Tryz.prog 28 := ⟨_, Tryz.func28, by kernel_rfl, by kernel_rfl⟩
theorem Tryz.okc118 : OkC Tryz.prog 66 := ⟨_, Tryz.func66, by kernel_rfl, by kernel_rfl⟩
theorem Tryz.okc119 : OkC Tryz.prog 26 := ⟨_, Tryz.func26, by kernel_rfl, by kernel_rfl⟩
theorem Tryz.okc120 : OkC Tryz.prog 61 := ⟨_, Tryz.func61, by kernel_rfl, by kernel_rfl⟩
theorem Tryz.okc121 : OkC Tryz.prog 102 := ⟨_, Tryz.func102, by kernel_rfl, by kernel_rfl⟩
theorem Tryz.okc123 : OkC Tryz.prog 59 := ⟨_, Tryz.func59, by kernel_rfl, by kernel_rfl⟩
theorem Tryz.okc124 : OkC Tryz.prog 124 := ⟨_, Tryz.func124, by kernel_rfl, by kernel_rfl⟩
theorem Tryz.okc125 : OkC Tryz.prog 60 := ⟨_, Tryz.func60, by kernel_rfl, by kernel_rfl⟩
theorem Tryz.okc126 : OkC Tryz.prog 145 := ⟨_, Tryz.func145, by kernel_rfl, by kernel_rfl⟩
theorem Tryz.okc127 : OkC Tryz.prog 108 := ⟨_, Tryz.func108, by kernel_rfl, by kernel_rfl⟩
theorem Tryz.okc128 : OkC Tryz.prog 27 := ⟨_, Tryz.func27, by kernel_rfl, by kernel_rfl⟩
theorem Tryz.okc129 : OkC Tryz.prog 103 := ⟨_, Tryz.func103, by kernel_rfl, by kernel_rfl⟩
theorem Tryz.okc130 : OkC Tryz.prog 104 := ⟨_, Tryz.func104, by kernel_rfl, by kernel_rfl⟩
theorem Tryz.okc131 : OkC Tryz.prog 105 := ⟨_, Tryz.func105, by kernel_rfl, by kernel_rfl⟩
theorem Tryz.okc132 : OkC Tryz.prog 62 := ⟨_, Tryz.func62, by kernel_rfl, by kernel_rfl⟩
theorem Tryz.okc133 : OkC Tryz.prog 63 := ⟨_, Tryz.func63, by kernel_rfl, by kernel_rfl⟩
theorem Tryz.okc134 : OkC Tryz.prog 64 := ⟨_, Tryz.func64, by kernel_rfl, by kernel_rfl⟩
theorem Tryz.okc135 : OkC Tryz.prog 65 := ⟨_, Tryz.func65, by kernel_rfl, by kernel_rfl⟩
theorem Tryz.okc136 : OkC Tryz.prog 100 := ⟨_, Tryz.func100, by kernel_rfl, by kernel_rfl⟩
theorem Tryz.okc137 : OkC Tryz.prog 135 := ⟨_, Tryz.func135, by kernel_rfl, by kernel_rfl⟩
theorem Tryz.okc147 : OkC Tryz.prog 101 := ⟨_, Tryz.func101, by kernel_rfl, by kernel_rfl⟩
theorem Tryz.okc148 : OkC Tryz.prog 133 := ⟨_, Tryz.func133, by kernel_rfl, by kernel_rfl⟩
theorem Tryz.okc149 : OkC Tryz.prog 134 := ⟨_, Tryz.func134, by kernel_rfl, by kernel_rfl⟩
theorem Tryz.okc159 : OkC Tryz.prog 156 := ⟨_, Tryz.func156, by kernel_rfl, by kernel_rfl⟩
theorem Tryz.okc179 : OkC Tryz.prog 67 := ⟨_, Tryz.func67, by kernel_rfl, by kernel_rfl⟩
theorem Tryz.okc180 : OkC Tryz.prog 36 := ⟨_, Tryz.func36, by kernel_rfl, by kernel_rfl⟩
theorem Tryz.okc182 : OkC Tryz.prog 25 := ⟨_, Tryz.func25, by kernel_rfl, by kernel_rfl⟩
theorem Tryz.okc185 : OkC Tryz.prog 58 := ⟨_, Tryz.func58, by kernel_rfl, by kernel_rfl⟩
theorem Tryz.okc187 : OkC Tryz.prog 29 := ⟨_, Tryz.func29, by kernel_rfl, by kernel_rfl⟩
theorem Tryz.okc190 : OkC Tryz.prog 114 := ⟨_, Tryz.func114, by kernel_rfl, by kernel_rfl⟩
theorem Tryz.okc192 : OkC Tryz.prog 113 := ⟨_, Tryz.func113, by kernel_rfl, by kernel_rfl⟩
theorem Tryz.okc193 : OkC Tryz.prog 76 := ⟨_, Tryz.func76, by kernel_rfl, by kernel_rfl⟩
theorem Tryz.okc196 : OkC Tryz.prog 35 := ⟨_, Tryz.func35, by kernel_rfl, by kernel_rfl⟩
theorem Tryz.okc199 : OkC Tryz.prog 75 := ⟨_, Tryz.func75, by kernel_rfl, by kernel_rfl⟩
theorem Tryz.okc208 : OkC Tryz.prog 115 := ⟨_, Tryz.func115, by kernel_rfl, by kernel_rfl⟩
theorem Tryz.okc301 : OkC Tryz.prog 15 := ⟨_, Tryz.func15, by kernel_rfl, by kernel_rfl⟩
theorem Tryz.okc302 : OkC Tryz.prog 30 := ⟨_, Tryz.func30, by kernel_rfl, by kernel_rfl⟩
theorem Tryz.okc303 : OkC Tryz.prog 14 := ⟨_, Tryz.func14, by kernel_rfl, by kernel_rfl⟩
theorem Tryz.okc304 : OkC Tryz.prog 12 := ⟨_, Tryz.func12, by kernel_rfl, by kernel_rfl⟩
theorem Tryz.okc305 : OkC Tryz.prog 11 := ⟨_, Tryz.func11, by kernel_rfl, by kernel_rfl⟩
theorem Tryz.okc306 : OkC Tryz.prog 68 := ⟨_, Tryz.func68, by kernel_rfl, by kernel_rfl⟩
theorem Tryz.okc307 : OkC Tryz.prog 56 := ⟨_, Tryz.func56, by kernel_rfl, by kernel_rfl⟩
theorem Tryz.okc308 : OkC Tryz.prog 20 := ⟨_, Tryz.func20, by kernel_rfl, by kernel_rfl⟩
theorem Tryz.okc309 : OkC Tryz.prog 9 := ⟨_, Tryz.func9, by kernel_rfl, by kernel_rfl⟩
theorem Tryz.okc310 : OkC Tryz.prog 48 := ⟨_, Tryz.func48, by kernel_rfl, by kernel_rfl⟩
theorem Tryz.okc311 : OkC Tryz.prog 40 := ⟨_, Tryz.func40, by kernel_rfl, by kernel_rfl⟩
theorem Tryz.okc312 : OkC Tryz.prog 82 := ⟨_, Tryz.func82, by kernel_rfl, by kernel_rfl⟩
theorem Tryz.okc313 : OkC Tryz.prog 79 := ⟨_, Tryz.func79, by kernel_rfl, by kernel_rfl⟩
theorem Tryz.okc314 : OkC Tryz.prog 38 := ⟨_, Tryz.func38, by kernel_rfl, by kernel_rfl⟩
theorem Tryz.okc315 : OkC Tryz.prog 37 := ⟨_, Tryz.func37, by kernel_rfl, by kernel_rfl⟩
theorem Tryz.okc316 : OkC Tryz.prog 39 := ⟨_, Tryz.func39, by kernel_rfl, by kernel_rfl⟩
theorem Tryz.okc317 : OkC Tryz.prog 89 := ⟨_, Tryz.func89, by kernel_rfl, by kernel_rfl⟩
theorem Tryz.okc318 : OkC Tryz.prog 83 := ⟨_, Tryz.func83, by kernel_rfl, by kernel_rfl⟩
theorem Tryz.okc319 : OkC Tryz.prog 84 := ⟨_, Tryz.func84, by kernel_rfl, by kernel_rfl⟩
theorem Tryz.okc320 : OkC Tryz.prog 78 := ⟨_, Tryz.func78, by kernel_rfl, by kernel_rfl⟩
theorem Tryz.okc324 : OkC Tryz.prog 5 := ⟨_, Tryz.func5, by kernel_rfl, by kernel_rfl⟩
theorem Tryz.okc330 : OkC Tryz.prog 16 := ⟨_, Tryz.func16, by kernel_rfl, by kernel_rfl⟩
theorem Tryz.okc331 : OkC Tryz.prog 17 := ⟨_, Tryz.func17, by kernel_rfl, by kernel_rfl⟩
theorem Tryz.okc341 : OkC Tryz.prog 31 := ⟨_, Tryz.func31, by kernel_rfl, by kernel_rfl⟩
theorem Tryz.okc342 : OkC Tryz.prog 32 := ⟨_, Tryz.func32, by kernel_rfl, by kernel_rfl⟩
theorem Tryz.okc343 : OkC Tryz.prog 33 := ⟨_, Tryz.func33, by kernel_rfl, by kernel_rfl⟩
theorem Tryz.okc357 : OkC Tryz.prog 57 := ⟨_, Tryz.func57, by kernel_rfl, by kernel_rfl⟩
theorem Tryz.okc358 : OkC Tryz.prog 69 := ⟨_, Tryz.func69, by kernel_rfl, by kernel_rfl⟩
theorem Tryz.okc359 : OkC Tryz.prog 73 := ⟨_, Tryz.func73, by kernel_rfl, by kernel_rfl⟩
theorem Tryz.okc360 : OkC Tryz.prog 74 := ⟨_, Tryz.func74, by kernel_rfl, by kernel_rfl⟩
theorem Tryz.okc375 : OkC Tryz.prog 112 := ⟨_, Tryz.func112, by kernel_rfl, by kernel_rfl⟩
theorem Tryz.okf8 : OkF Tryz.prog Tryz.T 90 zwK := ⟨_, Tryz.func90, by kernel_rfl, by kernel_rfl⟩
theorem Tryz.okf9 : OkF Tryz.prog Tryz.T 91 zwL := ⟨_, Tryz.func91, by kernel_rfl, by kernel_rfl⟩
theorem Tryz.okf16 : OkF Tryz.prog Tryz.T 34 zu4 := ⟨_, Tryz.func34, by kernel_rfl, by kernel_rfl⟩
theorem Tryz.okf17 : OkF Tryz.prog Tryz.T 51 zw1 := ⟨_, Tryz.func51, by kernel_rfl, by kernel_rfl⟩
theorem Tryz.okf18 : OkF Tryz.prog Tryz.T 80 zwH := ⟨_, Tryz.func80, by kernel_rfl, by kernel_rfl⟩
theorem Tryz.okf19 : OkF Tryz.prog Tryz.T 52 zu7 := ⟨_, Tryz.func52, by kernel_rfl, by kernel_rfl⟩
theorem Tryz.okf20 : OkF Tryz.prog Tryz.T 125 zwc := ⟨_, Tryz.func125, by kernel_rfl, by kernel_rfl⟩
theorem Tryz.okf21 : OkF Tryz.prog Tryz.T 111 zwj := ⟨_, Tryz.func111, by kernel_rfl, by kernel_rfl⟩
theorem Tryz.okf22 : OkF Tryz.prog Tryz.T 110 zvj := ⟨_, Tryz.func110, by kernel_rfl, by kernel_rfl⟩
theorem Tryz.okf23 : OkF Tryz.prog Tryz.T 94 zwI := ⟨_, Tryz.func94, by kernel_rfl, by kernel_rfl⟩
theorem Tryz.okf24 : OkF Tryz.prog Tryz.T 72 zvf := ⟨_, Tryz.func72, by kernel_rfl, by kernel_rfl⟩
theorem Tryz.okf29 : OkF Tryz.prog Tryz.T 53 zwZ := ⟨_, Tryz.func53, by kernel_rfl, by kernel_rfl⟩
theorem Tryz.okf30 : OkF Tryz.prog Tryz.T 54 zvN := ⟨_, Tryz.func54, by kernel_rfl, by kernel_rfl⟩
theorem Tryz.okf31 : OkF Tryz.prog Tryz.T 55 zwp := ⟨_, Tryz.func55, by kernel_rfl, by kernel_rfl⟩
theorem Tryz.okf34 : OkF Tryz.prog Tryz.T 92 zwk := ⟨_, Tryz.func92, by kernel_rfl, by kernel_rfl⟩
theorem Tryz.okf35 : OkF Tryz.prog Tryz.T 95 zu9 := ⟨_, Tryz.func95, by kernel_rfl, by kernel_rfl⟩
theorem Tryz.okf36 : OkF Tryz.prog Tryz.T 98 zv0 := ⟨_, Tryz.func98, by kernel_rfl, by kernel_rfl⟩
theorem Tryz.okf37 : OkF Tryz.prog Tryz.T 93 zwu := ⟨_, Tryz.func93, by kernel_rfl, by kernel_rfl⟩
theorem Tryz.okf38 : OkF Tryz.prog Tryz.T 122 zwP := ⟨_, Tryz.func122, by kernel_rfl, by kernel_rfl⟩
theorem Tryz.okf39 : OkF Tryz.prog Tryz.T 123 zwQ := ⟨_, Tryz.func123, by kernel_rfl, by kernel_rfl⟩
theorem Tryz.okf40 : OkF Tryz.prog Tryz.T 96 zwX := ⟨_, Tryz.func96, by kernel_rfl, by kernel_rfl⟩
theorem Tryz.okf41 : OkF Tryz.prog Tryz.T 99 zvJ := ⟨_, Tryz.func99, by kernel_rfl, by kernel_rfl⟩
theorem Tryz.okf42 : OkF Tryz.prog Tryz.T 97 zvb := ⟨_, Tryz.func97, by kernel_rfl, by kernel_rfl⟩
theorem Tryz.okf43 : OkF Tryz.prog Tryz.T 109 zwM := ⟨_, Tryz.func109, by kernel_rfl, by kernel_rfl⟩
theorem Tryz.okf44 : OkF Tryz.prog Tryz.T 47 zvZ := ⟨_, Tryz.func47, by kernel_rfl, by kernel_rfl⟩
theorem Tryz.okf48 : OkF Tryz.prog Tryz.T 116 zvH := ⟨_, Tryz.func116, by kernel_rfl, by kernel_rfl⟩
theorem Tryz.okf49 : OkF Tryz.prog Tryz.T 106 zvz := ⟨_, Tryz.func106, by kernel_rfl, by kernel_rfl⟩
theorem Tryz.okf55 : OkF Tryz.prog Tryz.T 126 zva := ⟨_, Tryz.func126, by kernel_rfl, by kernel_rfl⟩
theorem Tryz.okf56 : OkF Tryz.prog Tryz.T 127 zvL := ⟨_, Tryz.func127, by kernel_rfl, by kernel_rfl⟩
theorem Tryz.okf57 : OkF Tryz.prog Tryz.T 128 zws := ⟨_, Tryz.func128, by kernel_rfl, by kernel_rfl⟩
theorem Tryz.okf58 : OkF Tryz.prog Tryz.T 129 zvG := ⟨_, Tryz.func129, by kernel_rfl, by kernel_rfl⟩
theorem Tryz.okf59 : OkF Tryz.prog Tryz.T 107 zvq := ⟨_, Tryz.func107, by kernel_rfl, by kernel_rfl⟩
theorem Tryz.okf60 : OkF Tryz.prog Tryz.T 131 zvo := ⟨_, Tryz.func131, by kernel_rfl, by kernel_rfl⟩
theorem Tryz.okf61 : OkF Tryz.prog Tryz.T 132 zvh := ⟨_, Tryz.func132, by kernel_rfl, by kernel_rfl⟩
theorem Tryz.okf62 : OkF Tryz.prog Tryz.T 130 zve := ⟨_, Tryz.func130, by kernel_rfl, by kernel_rfl⟩
theorem Tryz.okf63 : OkF Tryz.prog Tryz.T 87 zvl := ⟨_, Tryz.func87, by kernel_rfl, by kernel_rfl⟩
theorem Tryz.okf64 : OkF Tryz.prog Tryz.T 88 zu8 := ⟨_, Tryz.func88, by kernel_rfl, by kernel_rfl⟩
theorem Tryz.okf65 : OkF Tryz.prog Tryz.T 50 zvE := ⟨_, Tryz.func50, by kernel_rfl, by kernel_rfl⟩
theorem Tryz.okf67 : OkF Tryz.prog Tryz.T 49 zwm := ⟨_, Tryz.func49, by kernel_rfl, by kernel_rfl⟩
theorem Tryz.okf76 : OkF Tryz.prog Tryz.T 152 zvs := ⟨_, Tryz.func152, by kernel_rfl, by kernel_rfl⟩
theorem Tryz.okf77 : OkF Tryz.prog Tryz.T 153 zvx := ⟨_, Tryz.func153, by kernel_rfl, by kernel_rfl⟩
theorem Tryz.okf78 : OkF Tryz.prog Tryz.T 154 zvw := ⟨_, Tryz.func154, by kernel_rfl, by kernel_rfl⟩
theorem Tryz.okf79 : OkF Tryz.prog Tryz.T 155 zvm := ⟨_, Tryz.func155, by kernel_rfl, by kernel_rfl⟩
theorem Tryz.okf80 : OkF Tryz.prog Tryz.T 81 zu6 := ⟨_, Tryz.func81, by kernel_rfl, by kernel_rfl⟩
theorem Tryz.okf85 : OkF Tryz.prog Tryz.T 157 zu2 := ⟨_, Tryz.func157, by kernel_rfl, by kernel_rfl⟩
theorem Tryz.okf107 : OkF Tryz.prog Tryz.T 71 zvC := ⟨_, Tryz.func71, by kernel_rfl, by kernel_rfl⟩
theorem Tryz.okf110 : OkF Tryz.prog Tryz.T 70 zvr := ⟨_, Tryz.func70, by kernel_rfl, by kernel_rfl⟩
theorem Tryz.okf114 : OkF Tryz.prog Tryz.T 28 zxh := ⟨_, Tryz.func28, by kernel_rfl, by kernel_rfl⟩
theorem Tryz.okf118 : OkF Tryz.prog Tryz.T 66 zvR := ⟨_, Tryz.func66, by kernel_rfl, by kernel_rfl⟩
theorem Tryz.okf119 : OkF Tryz.prog Tryz.T 26 zw9 := ⟨_, Tryz.func26, by kernel_rfl, by kernel_rfl⟩
theorem Tryz.okf120 : OkF Tryz.prog Tryz.T 61 zw8 := ⟨_, Tryz.func61, by kernel_rfl, by kernel_rfl⟩
theorem Tryz.okf121 : OkF Tryz.prog Tryz.T 102 zw3 := ⟨_, Tryz.func102, by kernel_rfl, by kernel_rfl⟩
theorem Tryz.okf123 : OkF Tryz.prog Tryz.T 59 zw0 := ⟨_, Tryz.func59, by kernel_rfl, by kernel_rfl⟩
theorem Tryz.okf124 : OkF Tryz.prog Tryz.T 124 zvV := ⟨_, Tryz.func124, by kernel_rfl, by kernel_rfl⟩
theorem Tryz.okf125 : OkF Tryz.prog Tryz.T 60 zw6 := ⟨_, Tryz.func60, by kernel_rfl, by kernel_rfl⟩
theorem Tryz.okf126 : OkF Tryz.prog Tryz.T 145 zwW := ⟨_, Tryz.func145, by kernel_rfl, by kernel_rfl⟩
theorem Tryz.okf127 : OkF Tryz.prog Tryz.T 108 zvY := ⟨_, Tryz.func108, by kernel_rfl, by kernel_rfl⟩
theorem Tryz.okf128 : OkF Tryz.prog Tryz.T 27 zwo := ⟨_, Tryz.func27, by kernel_rfl, by kernel_rfl⟩
theorem Tryz.okf129 : OkF Tryz.prog Tryz.T 103 zvn := ⟨_, Tryz.func103, by kernel_rfl, by kernel_rfl⟩
theorem Tryz.okf132 : OkF Tryz.prog Tryz.T 62 zwe := ⟨_, Tryz.func62, by kernel_rfl, by kernel_rfl⟩
theorem Tryz.okf133 : OkF Tryz.prog Tryz.T 63 zwR := ⟨_, Tryz.func63, by kernel_rfl, by kernel_rfl⟩
theorem Tryz.okf134 : OkF Tryz.prog Tryz.T 64 zvI := ⟨_, Tryz.func64, by kernel_rfl, by kernel_rfl⟩
theorem Tryz.okf135 : OkF Tryz.prog Tryz.T 65 zwr := ⟨_, Tryz.func65, by kernel_rfl, by kernel_rfl⟩
theorem Tryz.okf136 : OkF Tryz.prog Tryz.T 100 zvk := ⟨_, Tryz.func100, by kernel_rfl, by kernel_rfl⟩
theorem Tryz.okf137 : OkF Tryz.prog Tryz.T 135 zu1 := ⟨_, Tryz.func135, by kernel_rfl, by kernel_rfl⟩
theorem Tryz.okf147 : OkF Tryz.prog Tryz.T 101 zxq := ⟨_, Tryz.func101, by kernel_rfl, by kernel_rfl⟩
theorem Tryz.okf148 : OkF Tryz.prog Tryz.T 133 zvv := ⟨_, Tryz.func133, by kernel_rfl, by kernel_rfl⟩
theorem Tryz.okf149 : OkF Tryz.prog Tryz.T 134 zwv := ⟨_, Tryz.func134, by kernel_rfl, by kernel_rfl⟩
theorem Tryz.okf159 : OkF Tryz.prog Tryz.T 156 zwd := ⟨_, Tryz.func156, by kernel_rfl, by kernel_rfl⟩
theorem Tryz.okf179 : OkF Tryz.prog Tryz.T 67 zv3 := ⟨_, Tryz.func67, by kernel_rfl, by kernel_rfl⟩
theorem Tryz.okf180 : OkF Tryz.prog Tryz.T 36 zvc := ⟨_, Tryz.func36, by kernel_rfl, by kernel_rfl⟩
theorem Tryz.okf182 : OkF Tryz.prog Tryz.T 25 zvB := ⟨_, Tryz.func25, by kernel_rfl, by kernel_rfl⟩
theorem Tryz.okf185 : OkF Tryz.prog Tryz.T 58 zxm := ⟨_, Tryz.func58, by kernel_rfl, by kernel_rfl⟩
theorem Tryz.okf187 : OkF Tryz.prog Tryz.T 29 zvD := ⟨_, Tryz.func29, by kernel_rfl, by kernel_rfl⟩
theorem Tryz.okf190 : OkF Tryz.prog Tryz.T 114 zvP := ⟨_, Tryz.func114, by kernel_rfl, by kernel_rfl⟩
theorem Tryz.okf192 : OkF Tryz.prog Tryz.T 113 zw5 := ⟨_, Tryz.func113, by kernel_rfl, by kernel_rfl⟩
theorem Tryz.okf193 : OkF Tryz.prog Tryz.T 76 zvQ := ⟨_, Tryz.func76, by kernel_rfl, by kernel_rfl⟩
theorem Tryz.okf196 : OkF Tryz.prog Tryz.T 35 zwN := ⟨_, Tryz.func35, by kernel_rfl, by kernel_rfl⟩
theorem Tryz.okf199 : OkF Tryz.prog Tryz.T 75 zwY := ⟨_, Tryz.func75, by kernel_rfl, by kernel_rfl⟩
theorem Tryz.okf208 : OkF Tryz.prog Tryz.T 115 zvd := ⟨_, Tryz.func115, by kernel_rfl, by kernel_rfl⟩
theorem Tryz.okf301 : OkF Tryz.prog Tryz.T 15 zwF := ⟨_, Tryz.func15, by kernel_rfl, by kernel_rfl⟩
theorem Tryz.okf302 : OkF Tryz.prog Tryz.T 30 zv9 := ⟨_, Tryz.func30, by kernel_rfl, by kernel_rfl⟩
theorem Tryz.okf303 : OkF Tryz.prog Tryz.T 14 zwt := ⟨_, Tryz.func14, by kernel_rfl, by kernel_rfl⟩
theorem Tryz.okf304 : OkF Tryz.prog Tryz.T 12 zwl := ⟨_, Tryz.func12, by kernel_rfl, by kernel_rfl⟩
theorem Tryz.okf305 : OkF Tryz.prog Tryz.T 11 zuY := ⟨_, Tryz.func11, by kernel_rfl, by kernel_rfl⟩
theorem Tryz.okf306 : OkF Tryz.prog Tryz.T 68 zwO := ⟨_, Tryz.func68, by kernel_rfl, by kernel_rfl⟩
theorem Tryz.okf307 : OkF Tryz.prog Tryz.T 56 zw4 := ⟨_, Tryz.func56, by kernel_rfl, by kernel_rfl⟩
theorem Tryz.okf308 : OkF Tryz.prog Tryz.T 20 zvi := ⟨_, Tryz.func20, by kernel_rfl, by kernel_rfl⟩
theorem Tryz.okf309 : OkF Tryz.prog Tryz.T 9 zwn := ⟨_, Tryz.func9, by kernel_rfl, by kernel_rfl⟩
theorem Tryz.okf310 : OkF Tryz.prog Tryz.T 48 zwU := ⟨_, Tryz.func48, by kernel_rfl, by kernel_rfl⟩
theorem Tryz.okf311 : OkF Tryz.prog Tryz.T 40 zvM := ⟨_, Tryz.func40, by kernel_rfl, by kernel_rfl⟩
theorem Tryz.okf312 : OkF Tryz.prog Tryz.T 82 zww := ⟨_, Tryz.func82, by kernel_rfl, by kernel_rfl⟩
theorem Tryz.okf313 : OkF Tryz.prog Tryz.T 79 zv6 := ⟨_, Tryz.func79, by kernel_rfl, by kernel_rfl⟩
theorem Tryz.okf314 : OkF Tryz.prog Tryz.T 38 zvW := ⟨_, Tryz.func38, by kernel_rfl, by kernel_rfl⟩
theorem Tryz.okf315 : OkF Tryz.prog Tryz.T 37 zwf := ⟨_, Tryz.func37, by kernel_rfl, by kernel_rfl⟩
theorem Tryz.okf316 : OkF Tryz.prog Tryz.T 39 zvO := ⟨_, Tryz.func39, by kernel_rfl, by kernel_rfl⟩
theorem Tryz.okf317 : OkF Tryz.prog Tryz.T 89 zv7 := ⟨_, Tryz.func89, by kernel_rfl, by kernel_rfl⟩
theorem Tryz.okf318 : OkF Tryz.prog Tryz.T 83 zuW := ⟨_, Tryz.func83, by kernel_rfl, by kernel_rfl⟩
theorem Tryz.okf319 : OkF Tryz.prog Tryz.T 84 zv8 := ⟨_, Tryz.func84, by kernel_rfl, by kernel_rfl⟩
theorem Tryz.okf320 : OkF Tryz.prog Tryz.T 78 zvF := ⟨_, Tryz.func78, by kernel_rfl, by kernel_rfl⟩
theorem Tryz.okf324 : OkF Tryz.prog Tryz.T 5 zvt := ⟨_, Tryz.func5, by kernel_rfl, by kernel_rfl⟩
theorem Tryz.okf330 : OkF Tryz.prog Tryz.T 16 zuX := ⟨_, Tryz.func16, by kernel_rfl, by kernel_rfl⟩
theorem Tryz.okf331 : OkF Tryz.prog Tryz.T 17 zvK := ⟨_, Tryz.func17, by kernel_rfl, by kernel_rfl⟩
theorem Tryz.okf341 : OkF Tryz.prog Tryz.T 31 zwq := ⟨_, Tryz.func31, by kernel_rfl, by kernel_rfl⟩
theorem Tryz.okf342 : OkF Tryz.prog Tryz.T 32 zxp := ⟨_, Tryz.func32, by kernel_rfl, by kernel_rfl⟩
theorem Tryz.okf343 : OkF Tryz.prog Tryz.T 33 zu0 := ⟨_, Tryz.func33, by kernel_rfl, by kernel_rfl⟩
theorem Tryz.okf357 : OkF Tryz.prog Tryz.T 57 zwa := ⟨_, Tryz.func57, by kernel_rfl, by kernel_rfl⟩
theorem Tryz.okf358 : OkF Tryz.prog Tryz.T 69 zw2 := ⟨_, Tryz.func69, by kernel_rfl, by kernel_rfl⟩
theorem Tryz.okf359 : OkF Tryz.prog Tryz.T 73 zwb := ⟨_, Tryz.func73, by kernel_rfl, by kernel_rfl⟩
theorem Tryz.okf360 : OkF Tryz.prog Tryz.T 74 zw7 := ⟨_, Tryz.func74, by kernel_rfl, by kernel_rfl⟩
theorem Tryz.okf375 : OkF Tryz.prog Tryz.T 112 zv4 := ⟨_, Tryz.func112, by kernel_rfl, by kernel_rfl⟩
theorem Tryz.allc : AllCal Tryz.prog Tryz.keyL := ⟨Tryz.okc8, Tryz.okc9, Tryz.okc16, Tryz.okc17, Tryz.okc18, Tryz.okc19, Tryz.okc20, Tryz.okc21, Tryz.okc22, Tryz.okc23, Tryz.okc24, Tryz.okc29, Tryz.okc30, Tryz.okc31, Tryz.okc33, Tryz.okc34, Tryz.okc35, Tryz.okc36, Tryz.okc37, Tryz.okc38, Tryz.okc39, Tryz.okc40, Tryz.okc41, Tryz.okc42, Tryz.okc43, Tryz.okc44, Tryz.okc48, Tryz.okc49, Tryz.okc50, Tryz.okc51, Tryz.okc55, Tryz.okc56, Tryz.okc57, Tryz.okc58, Tryz.okc59, Tryz.okc60, Tryz.okc61, Tryz.okc62, Tryz.okc63, Tryz.okc64, Tryz.okc65, Tryz.okc67, Tryz.okc76, Tryz.okc77, Tryz.okc78, Tryz.okc79, Tryz.okc80, Tryz.okc85, Tryz.okc107, Tryz.okc110, Tryz.okc114, Tryz.okc118, Tryz.okc119, Tryz.okc120, Tryz.okc121, Tryz.okc123, Tryz.okc124, Tryz.okc125, Tryz.okc126, Tryz.okc127, Tryz.okc128, Tryz.okc129, Tryz.okc130, Tryz.okc131, Tryz.okc132, Tryz.okc133, Tryz.okc134, Tryz.okc135, Tryz.okc136, Tryz.okc137, Tryz.okc147, Tryz.okc148, Tryz.okc149, Tryz.okc159, Tryz.okc179, Tryz.okc180, Tryz.okc182, Tryz.okc185, Tryz.okc187, Tryz.okc190, Tryz.okc192, Tryz.okc193, Tryz.okc196, Tryz.okc199, Tryz.okc208, Tryz.okc301, Tryz.okc302, Tryz.okc303, Tryz.okc304, Tryz.okc305, Tryz.okc306, Tryz.okc307, Tryz.okc308, Tryz.okc309, Tryz.okc310, Tryz.okc311, Tryz.okc312, Tryz.okc313, Tryz.okc314, Tryz.okc315, Tryz.okc316, Tryz.okc317, Tryz.okc318, Tryz.okc319, Tryz.okc320, Tryz.okc324, Tryz.okc330, Tryz.okc331, Tryz.okc341, Tryz.okc342, Tryz.okc343, Tryz.okc357, Tryz.okc358, Tryz.okc359, Tryz.okc360, Tryz.okc375, True.intro⟩
theorem Tryz.allf : AllOk Tryz.prog Tryz.T progL Tryz.keyL := ⟨Tryz.okf8, Tryz.okf9, Tryz.okf16, Tryz.okf17, Tryz.okf18, Tryz.okf19, Tryz.okf20, Tryz.okf21, Tryz.okf22, Tryz.okf23, Tryz.okf24, Tryz.okf29, Tryz.okf30, Tryz.okf31, Tryz.okf34, Tryz.okf35, Tryz.okf36, Tryz.okf37, Tryz.okf38, Tryz.okf39, Tryz.okf40, Tryz.okf41, Tryz.okf42, Tryz.okf43, Tryz.okf44, Tryz.okf48, Tryz.okf49, Tryz.okf55, Tryz.okf56, Tryz.okf57, Tryz.okf58, Tryz.okf59, Tryz.okf60, Tryz.okf61, Tryz.okf62, Tryz.okf63, Tryz.okf64, Tryz.okf65, Tryz.okf67, Tryz.okf76, Tryz.okf77, Tryz.okf78, Tryz.okf79, Tryz.okf80, Tryz.okf85, Tryz.okf107, Tryz.okf110, Tryz.okf114, Tryz.okf118, Tryz.okf119, Tryz.okf120, Tryz.okf121, Tryz.okf123, Tryz.okf124, Tryz.okf125, Tryz.okf126, Tryz.okf127, Tryz.okf128, Tryz.okf129, Tryz.okf132, Tryz.okf133, Tryz.okf134, Tryz.okf135, Tryz.okf136, Tryz.okf137, Tryz.okf147, Tryz.okf148, Tryz.okf149, Tryz.okf159, Tryz.okf179, Tryz.okf180, Tryz.okf182, Tryz.okf185, Tryz.okf187, Tryz.okf190, Tryz.okf192, Tryz.okf193, Tryz.okf196, Tryz.okf199, Tryz.okf208, Tryz.okf301, Tryz.okf302, Tryz.okf303, Tryz.okf304, Tryz.okf305, Tryz.okf306, Tryz.okf307, Tryz.okf308, Tryz.okf309, Tryz.okf310, Tryz.okf311, Tryz.okf312, Tryz.okf313, Tryz.okf314, Tryz.okf315, Tryz.okf316, Tryz.okf317, Tryz.okf318, Tryz.okf319, Tryz.okf320, Tryz.okf324, Tryz.okf330, Tryz.okf331, Tryz.okf341, Tryz.okf342, Tryz.okf343, Tryz.okf357, Tryz.okf358, Tryz.okf359, Tryz.okf360, Tryz.okf375, True.intro⟩
theorem Tryz.libok : LibOk Tryz.prog Tryz.lren (fun f => (Tryz.keyL[f]?).join) Tryz.T 4 where
 l105 := Tryz.l105
 l171 := Tryz.l171
 lX := Tryz.lX
 gname := by kernel_rfl
 gkey := rfl
 k50 := rfl
 k51 := rfl
 o130 := fun g h => ⟨Tryz.l160, by kernel_rfl, (Option.some.inj h).symm⟩
 o131 := fun g h => ⟨Tryz.l172, (Option.some.inj h).symm⟩
 o222 := fun g h => by have h : (none : Option FuncId) = some g := h; cases h
theorem Tryz.mixed : Tryz.prog.follows .mixedOrders = true := by kernel_rfl
theorem Tryz.progok1 : ProgOk Tryz.prog (fun f => (Tryz.keyL[f]?).join) Tryz.T E1.prog := zmT Tryz.mixed Tryz.allc Tryz.allf Tryz.libok
theorem Tryz.gk0 : ∀ g n, Tryz.T.gkey g = some n → n ≤ 4 := fun g n h => by
 have h : (if g = 4 then some 0 else none) = some n := h
 split at h
 ·cases h; decide
 ·cases h
theorem Tryz.progok : ProgOk Tryz.prog (fun f => (Tryz.keyL[f]?).join) Tryz.T E0.prog := zmS Tryz.mixed Tryz.allc Tryz.allf Tryz.libok fun {g} hk => by
 obtain rfl : g = 77 := (Option.some.inj hk).symm
 exact fun {_ _ _ _ _ _ _ _} e TO RL S => zm6 (pre := Tryz.strPre) (tail := Tryz.strTail) Tryz.progok1 KE1 Tryz.gk0 (G := 4) rfl Tryz.func77 rfl (by kernel_rfl) rfl rfl (fun neg ps h1 h2 h3 b1 o1 b3 o3 c w h4 h5 h6 h7 tm h8 h9 h10 => Tryz.str_tail neg ps h1 h2 h3 b1 o1 b3 o3 c w h4 h5 h6 h7 tm h8 h9 h10) e TO RL S
end Go.Proofs
namespace Go.Eng
open Go.RowKit
theorem tabIs_mem {P : Program} {W : World} {name : String} {k : IntKind} {zs : List Int} {g : Nat} {t e : TypeId} {n : Nat}
  (hg : P.globalNamed name = some g) (hty : (P.globals[g]?).map (·.type) = some t) (ht : P.underlying t = some (.array n e)) (he : P.underlying e = some (.int k)) (hce : P.cellsOf e = 1) (hct : P.cellsOf t = n) :
  ∀ {laid : List (String × DataW Unit)} {ps : List MemPlace}, DataW.LaidVars P W laid ps → (name, Lib.tabData k zs) ∈ laid → Lib.TabIs P W name k zs
 | [], _, _, hm => by cases hm
 | x :: laid, ps, h, hm => by
  obtain ⟨g', t', cs, fuel, p, q, hg', ht', hvar, hd, h2, h3⟩ := h
  rcases List.mem_cons.1 hm with rfl | hm
  ·obtain rfl := Option.some.inj (hg.symm.trans hg')
   obtain rfl := Option.some.inj (hty.symm.trans ht')
   unfold Lib.TabIs
   rw [hvar, ← Lib.cells_of_tab ht he hce hct hd]
  ·exact tabIs_mem hg hty ht he hce hct (by first | exact h2 | exact h3 | exact h3.1 | exact h2.1) hm
def IsRow (k : IntKind) (w : World) (a : Option Addr) (len cap : Nat) (zs : List Int) : Prop :=
 (a = none ∧ len = 0 ∧ cap = 0 ∧ zs = []) ∨
 ∃ x, a = some x ∧ len ≤ cap ∧ cap ≤ maxLen ∧ zs.length = cap ∧ (∀ i, i < zs.length → w.cell? (x.add i) = some (.int k (zs.getD i 0))) ∧ ∀ n ∈ zs, (Lit.int k n).wf = true
def hpA (bs : List (List AV)) : Hp := ⟨fun n => if n ≤ 4 then (globG n).map fun c => ⟨c, false, 0⟩ else (bs[n - 5]?).map fun c => ⟨c, false, 0⟩, bs.length + 5⟩
def locA (gs : Nat → Option At) (ats : List At) : Loc := fun n => if n ≤ 4 then gs n else ats[n - 5]?
def InW (c : List AV) (a : At) (W : World) : Prop :=
 a.b < W.heap.size ∧ a.w = false ∧ c.length ≤ a.n ∧ ∀ i (h : i < c.length), c[i].scal = true ∧ ∃ v, W.cell? ⟨a.b, a.o + i, none⟩ = some v ∧ ∀ key l, Rel key l c[i] v
def GlobIn (key : Nat → Option FuncId) (W : World) (n : Nat) (a : At) : Prop :=
 a.o = 0 ∧ ∃ c cs t fz, globG n = some c ∧ W.heap[a.b]? = some (.cells cs t fz) ∧ c.length ≤ a.n ∧ RelL key (fun _ => none) c cs.toList
theorem zik : ∀ {n : Nat} {c : List AV}, globG n = some c → c.all AV.scal = true
 | 0, c, h => by cases h; rfl
 | 1, c, h => by cases h; rfl
 | 2, c, h => by cases h; rfl
 | 3, c, h => by cases h; rfl
 | 4, c, h => by cases h; rfl
 | n + 5, c, h => by cases h
theorem zht : ∀ {n : Nat} {c : List AV}, globG n = some c → (c.map cst0).all PV.scal = true
 | 0, c, h => by cases h; decide
 | 1, c, h => by cases h; decide
 | 2, c, h => by cases h; decide
 | 3, c, h => by cases h; rfl
 | 4, c, h => by cases h; rfl
 | n + 5, c, h => by cases h
theorem zl0 : ∀ {n : Nat} {c : List AV}, globG n = some c → n ≤ 4
 | 0, c, h => by omega
 | 1, c, h => by omega
 | 2, c, h => by omega
 | 3, c, h => by omega
 | 4, c, h => by omega
 | n + 5, c, h => by cases h
theorem ztn {P : Program} {key : Nat → Option FuncId} {F : Nat} {W : World} {gs : Nat → Option At} (hgs : ∀ n a, n ≤ 4 → gs n = some a → GlobIn key W n a)
  {bs : List (List AV)} {ats : List At} (hl : ats.length = bs.length) (hin : ∀ (n : Nat) c a, bs[n]? = some c → ats[n]? = some a → InW c a W) : Sim key F (locA gs ats) (hpA bs) W := by
 have hlt : ∀ n a, n ≤ 4 → gs n = some a → a.b < W.heap.size := fun n a hn hg => by
  obtain ⟨_, c, cs, t, fz, _, h2, _⟩ := hgs n a hn hg
  rcases Nat.lt_or_ge a.b W.heap.size with q | q
  ·exact q
  ·rw [Array.getElem?_eq_none q] at h2; cases h2
 have hout : ∀ n, bs.length ≤ n → ats[n]? = none := fun n hn => List.getElem?_eq_none (by omega)
 have norw : ∀ n blk, (hpA bs).m n = some blk → blk.rw = false := fun n blk e => by
  simp only [hpA] at e
  split at e <;> (simp only [Option.map_eq_some_iff] at e; obtain ⟨c, _, rfl⟩ := e; rfl)
 refine ⟨fun n blk a e1 e2 => ?_, fun n blk a n' blk' a' e1 e2 e3 => ?_, fun n a e => ?_, fun n a e => ?_, fun n hn => ?_⟩
 ·by_cases hn : n ≤ 4
  ·simp only [hpA, if_pos hn, Option.map_eq_some_iff] at e1
   simp only [locA, if_pos hn] at e2
   obtain ⟨c, c1, rfl⟩ := e1
   obtain ⟨g1, c', cs, t, fz, g2, g3, g4, g5⟩ := hgs n a hn e2
   obtain rfl := Option.some.inj (c1.symm.trans g2)
   have hsz : c.length = cs.size := by simpa using g5.1
   refine ⟨hlt n a hn e2, g4, fun i hi => ?_, fun i hi => ?_, fun q => (by cases q), fun _ => ⟨rfl, g1, cs, t, fz, g3, hsz.symm⟩⟩
   ·have hi : i < c.length := hi
    have hi' : i < cs.toList.length := by simp; omega
    refine ⟨cs.toList[i], ?_, (g5.2 i hi hi').mono fun n a q => by cases q⟩
    have hb : W.heap[a.b]? = some (.cells cs t fz) := g3
    simp only [World.cell?, hb, g1, Nat.zero_add]
    rw [Array.getElem_toList, Array.getElem?_eq_getElem (by omega)]; rfl
   ·have := zik c1
    rw [List.all_eq_true] at this
    exact this _ (List.getElem_mem _)
  ·simp only [hpA, if_neg hn, Option.map_eq_some_iff] at e1
   simp only [locA, if_neg hn] at e2
   obtain ⟨c, c1, rfl⟩ := e1
   obtain ⟨q1, q2, q3, q4⟩ := hin _ c a c1 e2
   exact ⟨q1, q3, fun i hi => by obtain ⟨_, v, v1, v2⟩ := q4 i hi; exact ⟨v, v1, v2 key _⟩, fun i hi => (q4 i hi).1, fun q => (by cases q), fun q => by rw [q2] at q; cases q⟩
 ·rw [norw n blk e1] at e3; cases e3
 ·by_cases hn : n ≤ 4
  ·simp only [locA, if_pos hn] at e
   exact hlt n a hn e
  ·simp only [locA, if_neg hn] at e
   have hb : n - 5 < bs.length := by
    rcases Nat.lt_or_ge (n - 5) bs.length with q | q
    ·exact q
    ·rw [hout _ q] at e; cases e
   exact (hin _ _ a (List.getElem?_eq_getElem hb) e).1
 ·left
  show n < bs.length + 5
  by_cases hn : n ≤ 4
  ·omega
  ·simp only [locA, if_neg hn] at e
   rcases Nat.lt_or_ge (n - 5) bs.length with q | q
   ·omega
   ·rw [hout _ q] at e; cases e
 ·have hn : bs.length + 5 ≤ n := hn
  simp only [hpA]
  rw [if_neg (by omega), List.getElem?_eq_none (by omega)]; rfl
theorem PInv.startG {bs : List (List AV)} (w : (hpA bs).wf) : PInv globG (fun _ => False) [] [] (hpA bs) := by
 refine ⟨rfl, fun i j m q => by simp at q, fun m q => by simp at q, w, fun n m q => by simp at q, fun n b m q => by simp at q, fun m d => d.elim, fun g l q => ?_⟩
 refine ⟨⟨l, false, 0⟩, ?_, ⟨rfl, zht q⟩, fun d => ?_⟩
 ·simp only [hpA, if_pos (zl0 q), q, Option.map_some]
 ·rcases d with d | d
  ·exact d
  ·exact ziD _ d
theorem glob_tab {P : Program} {key : Nat → Option FuncId} {W : World} {G : Nat} (hg : P.globalNamed "internal/strconv.uint64pow10" = some G) (ht : Lib.TabIs P W "internal/strconv.uint64pow10" .u64 Lib.pow10Tab) : GlobIn key W 0 ⟨G, 0, 20, true⟩ := by
 have hb : ∃ cs t fz, W.heap[G]? = some (.cells cs t fz) ∧ cs = (Lib.pow10Tab.map fun z => Value.int .u64 z).toArray := by
  unfold Lib.TabIs World.var? at ht
  rw [hg] at ht
  simp only [Option.bind_some] at ht
  split at ht
  ·rename_i cs t fz hh
   cases ht
   exact ⟨_, t, fz, hh, rfl⟩
  ·cases ht
 obtain ⟨cs, t, fz, hh, rfl⟩ := hb
 refine ⟨rfl, powT, _, t, fz, rfl, hh, Nat.le_refl _, by simp [Lib.pow10Tab, powT], fun i h1 h2 => ?_⟩
 have hpl : powT.length = 20 := rfl
 have hi' : i < 20 := by rw [← hpl]; exact h1
 simp only [powT, List.getElem_map, List.getElem_range, Lib.pow10Tab]
 exact .i _ _
theorem law_calls {P : Program} {key : Nat → Option FuncId} {T : Tab} (K : ProgOk P key T E0.prog) (hTf : ∀ f k, T.fkey f = some k → key k = some f) {W : World} {gs : Nat → Option At} (hgs : ∀ n a, n ≤ 4 → gs n = some a → GlobIn key W n a)
  (hT : ∀ g n, T.gkey g = some n → n ≤ 4 ∧ ∃ m, gs n = some ⟨g, 0, m, true⟩)
  {bs : List (List AV)} {ats : List At} (hl : ats.length = bs.length) (hin : ∀ (n : Nat) c a, bs[n]? = some c → ats[n]? = some a → InW c a W)
  {k g : Nat} (hk : key k = some g) (hpure : E0.pure k = true) {ps : List PV} (hfz : fzL (fz [] fzD) ps = some (ps, [])) (hpf : pf E0 k ps = some (.b true))
  {avs : List AV} {vs : Array Value} (hV : VL (hpA bs) (fun _ => False) [] ps avs) (hR : RelL key (locA gs ats) avs vs.toList) :
  Calls P g vs W fun e w' => e = .returned (.bool true) ∧ Below W.heap.size W w' := by
 have hc : pcl E0 k ps [] = some (.b true, roM [] []) := zg6 hpure hfz hpf
 obtain ⟨kk, hev⟩ := zeD hc
 have hw : (hpA bs).wf := (ztn (P := P) (key := key) (F := 0) hgs hl hin).wf
 have I : PInv globG (fun _ => False) [] [] (hpA bs) := PInv.startG hw
 obtain ⟨a, h', r', q1, q2, q3, q4⟩ := zhb KE0 kk _ _ _ _ _ _ _ _ _ hev I (VL.dd hV)
 have ha : a = .b true := by cases q4; rfl
 subst ha
 have S := ztn (P := P) (key := key) (F := h'.next) hgs hl hin
 have TO : TabOk key T (locA gs ats) := by
  refine ⟨fun f k e => ?_, fun g n e => ?_⟩
  ·exact hTf f k e
  ·obtain ⟨h4, m, hm⟩ := hT g n e
   exact ⟨m, by simp only [locA, if_pos h4]; exact hm⟩
 refine (zcl K kk h'.next k g avs vs _ h' _ _ W q1 hk (Nat.le_refl _) TO hR S).mono ?_
 rintro e w' ⟨l', val, rfl, E, S', rv⟩
 cases rv
 refine ⟨rfl, E.os, E.tape, E.output, E.size, fun b hb => E.frame b hb fun m blk a e1 e2 => ?_⟩
 exfalso
 simp only [hpA] at e1
 split at e1 <;> (simp only [Option.map_eq_some_iff] at e1; obtain ⟨c, c1, rfl⟩ := e1; cases e2)
theorem arg_row {k : IntKind} {W : World} (h0 : 0 < W.heap.size) {a : Option Addr} {len cap : Nat} {zs : List Int} (h : IsRow k W a len cap zs) (n : Nat) : ∃ (c : List AV) (at_ : At) (av : AV), InW c at_ W ∧
  (∀ key (l : Loc), l n = some at_ → Rel key l av (.slice a len cap)) ∧ (∀ (h : Hp) (D : Nat → Prop), h.m n = some ⟨c, false, 0⟩ → ¬ D n → V h D [] (.lst ((zs.take len).map fun z => .i k z)) av) := by
 have nilIn : InW [] ⟨0, 0, 0, false⟩ W := ⟨h0, rfl, Nat.le_refl _, fun i hi => by simp at hi⟩
 rcases h with ⟨rfl, rfl, rfl, rfl⟩ | ⟨x, rfl, hl, hm, hz, hcell, hwz⟩
 ·exact ⟨[], ⟨0, 0, 0, false⟩, .sn, nilIn, fun key l _ => .sn, fun h D _ _ => .lsn⟩
 ·by_cases hlen : len = 0
  ·subst hlen
   exact ⟨[], ⟨0, 0, 0, false⟩, .e0, nilIn, fun key l _ => .e0 _ _, fun h D _ _ => .le0⟩
  ·obtain ⟨b, off, spot⟩ := x
   have hc := hcell 0 (by omega)
   have hspot : spot = none := by simpa [Addr.add] using World.cell?_spot hc
   subst hspot
   have hlt : b < W.heap.size := by
    rcases Nat.lt_or_ge b W.heap.size with q | q
    ·exact q
    ·rw [zch] at hc
     simp [World.cell?, Array.getElem?_eq_none q] at hc
   have hget : ∀ i (hi : i < ((zs.take len).map fun z => AV.i k z).length), ((zs.take len).map fun z => AV.i k z)[i] = .i k (zs.getD i 0) := fun i hi => by
    have hi' : i < zs.length := by simp at hi; omega
    simp only [List.getElem_map, List.getElem_take, List.getD]
    rw [List.getElem?_eq_getElem hi']; rfl
   refine ⟨(zs.take len).map fun z => .i k z, ⟨b, off, cap, false⟩, .sl n 0 len cap 1, ⟨hlt, rfl, by simp; omega, fun i hi => ?_⟩, fun key l hn => ?_, fun h D hb hD => ?_⟩
   ·rw [hget i hi]
    have hi' : i < zs.length := by simp at hi; omega
    have := hcell i hi'
    rw [zch] at this
    exact ⟨rfl, _, this, fun key l => .i _ _⟩
   ·have := Rel.sl (key := key) (off := 0) (len := len) (cap := cap) (cap' := cap) (z := 1) hn (Nat.le_refl _) (by show 0 + cap * 1 ≤ cap; omega) hl
    exact this
   ·have hfl : flat ((zs.take len).map fun z => PV.i k z) = (zs.take len).map fun z => PV.i k z := by
     generalize zs.take len = ys
     induction ys with
     | nil => rfl
     | cons y ys ih => rw [List.map_cons]; show [PV.i k y] ++ flat _ = _; rw [ih]; rfl
    have hll : ((zs.take len).map fun z => PV.i k z).length = len := by simp; omega
    have := V.lst (h := h) (D := D) (r := []) (xs := (zs.take len).map fun z => PV.i k z) (m := n) (off := 0) (cap := cap) (z := 1) (fun i => .i k (zs.getD i 0)) hb hD (by rw [hfl, List.all_eq_true]; intro x hx; obtain ⟨y, _, rfl⟩ := List.mem_map.1 hx; rfl) (by decide) (fun x hx => by
     obtain ⟨y, _, rfl⟩ := List.mem_map.1 hx; rfl) (by rw [hll]; exact hl) (fun i hi => by
     rw [hfl] at hi
     have hi2 : i < ((zs.take len).map fun z => AV.i k z).length := by simpa using hi
     rw [Nat.zero_add, List.getElem?_eq_getElem hi2, hget i hi2]) (fun i hi => by
     have hi1 : i < ((zs.take len).map fun z => PV.i k z).length := by rw [hfl] at hi; exact hi
     have e : (flat ((zs.take len).map fun z => PV.i k z))[i] = .i k (zs.getD i 0) := by
      simp only [hfl, List.getElem_map, List.getElem_take, List.getD]
      rw [List.getElem?_eq_getElem (by simp at hi1; omega)]; rfl
     rw [e]
     exact .i _ _)
    rw [hll] at this
    exact this
theorem row_heap {P : Program} {W : World} {G : Nat} (hg : P.globalNamed "internal/strconv.uint64pow10" = some G) (ht : Lib.TabIs P W "internal/strconv.uint64pow10" .u64 Lib.pow10Tab) : 0 < W.heap.size := by
 unfold Lib.TabIs World.var? at ht
 rw [hg] at ht
 simp only [Option.bind_some] at ht
 split at ht
 ·rename_i cs t fz hh
  rcases Nat.eq_zero_or_pos W.heap.size with q | q
  ·rw [Array.getElem?_eq_none (by omega)] at hh; cases hh
  ·exact q
 ·cases ht
theorem ints_row {W : World} {a : Option Addr} {len cap : Nat} {zs : List Int} (h : IsRow .i64 W a len cap zs) : Ints (zs.take len) := by
 rcases h with ⟨rfl, rfl, rfl, rfl⟩ | ⟨x, rfl, hl, hm, hz, hcell, hwz⟩
 ·exact ⟨by simp, fun n hn => by simp at hn⟩
 ·refine ⟨?_, fun n hn => ?_⟩
  ·have : maxLen ≤ 9223372036854775807 := by decide
   simp; omega
  ·have := bounds_i64 (hwz n (List.mem_of_mem_take hn))
   exact this
end Go.Eng
namespace Go.Eng
theorem zje {n K : Nat} (hn : n = 1229) (hK : K = 16384) : 10000 ^ n ≤ 2 ^ K := by
 obtain ⟨m, hm⟩ : ∃ m, m = 83 := ⟨_, rfl⟩
 have e : (10000 : Nat) ^ n = (10 ^ 59) ^ m * 10 ^ 19 := by
  rw [show (10000 : Nat) = 10 ^ 4 from rfl, ← Nat.pow_mul, ← Nat.pow_mul, ← Nat.pow_add]
  congr 1; omega
 have h1 : (10 : Nat) ^ 59 ≤ 2 ^ 196 := by decide
 have h2 : (10 : Nat) ^ 19 ≤ 2 ^ 64 := by decide
 have h3 : ((10 : Nat) ^ 59) ^ m ≤ (2 ^ 196) ^ m := Nat.pow_le_pow_left h1 m
 have h4 : (2 ^ 196) ^ m * 2 ^ 64 = 2 ^ (196 * m + 64) := by rw [← Nat.pow_mul, ← Nat.pow_add]
 rw [e]
 refine Nat.le_trans (Nat.mul_le_mul h3 h2) ?_
 rw [h4]
 exact Nat.pow_le_pow_right (by decide) (by omega)
def inR (v : Nat) : Prop := v < 2 ^ 16384
theorem zgz (v : Nat) : (tlen v < 1230 ∨ v < 2 ^ 16384) ↔ inR v := by
 obtain ⟨n, hn⟩ : ∃ n, n = 1229 := ⟨_, rfl⟩
 have hb := zje (K := 16384) hn rfl
 unfold inR
 generalize (2 : Nat) ^ 16384 = q at *
 constructor
 ·rintro (h | h)
  ·have h2 : v < 10000 ^ n := zaN.1 (by omega)
   exact Nat.lt_of_lt_of_le h2 hb
  ·exact h
 ·exact .inr
theorem zaP (v : Nat) : wlen v ≤ 512 ↔ inR v := by
 obtain ⟨n, hn⟩ : ∃ n, n = 512 := ⟨_, rfl⟩
 rw [← hn, zaT]
 unfold inR
 have : (4294967296 : Nat) ^ n = 2 ^ 16384 := by
  rw [show (4294967296 : Nat) = 2 ^ 32 from rfl, ← Nat.pow_mul]
  congr 1; omega
 rw [this]
end Go.Eng
namespace Go.Eng
end Go.Eng
namespace Go.Eng
noncomputable instance inRdec (v : Nat) : Decidable (inR v) := Classical.propDecidable _
noncomputable def parseT (s : List UInt8) : Int × Int :=
 let neg : Bool := s.head? == some 45
 let ds := if neg then s.drop 1 else s
 if 5000 < s.length then (0, 4)
 else if ds = [] ∨ (ds.head? = some 48 ∧ (neg = true ∨ 1 < ds.length)) ∨ ¬ ds.all isDig = true then (0, 2)
 else if inR (tv ds) then (sgn neg (tv ds), 0) else (0, 4)
theorem zj9 {l : List UInt8} : (l = [] ∨ ∃ c t, l = c :: t) := by cases l with
 | nil => exact .inl rfl
 | cons c t => exact .inr ⟨c, t, rfl⟩
theorem zdy (s : List UInt8) : (5000 < s.length ∧ parseT s = (0, 4)) ∨ (s.length ≤ 5000 ∧ ∃ neg ds, ((neg = true ∧ s = 45 :: ds) ∨ (neg = false ∧ s = ds ∧ ds.head? ≠ some 45)) ∧
  ((ds = [] ∨ (ds.head? = some 48 ∧ (neg = true ∨ 1 < ds.length)) ∨ ¬ ds.all isDig = true) ∧ parseT s = (0, 2) ∨
   ds ≠ [] ∧ (ds.head? = some 48 → neg = false ∧ ds.length = 1) ∧ ds.all isDig = true ∧ (inR (tv ds) ∧ parseT s = (sgn neg (tv ds), 0) ∨ ¬ inR (tv ds) ∧ parseT s = (0, 4)))) := by
 by_cases hl : 5000 < s.length
 ·exact .inl ⟨hl, by unfold parseT; simp only [hl, if_true]⟩
 ·right
  refine ⟨by omega, s.head? == some 45, if (s.head? == some 45) then s.drop 1 else s, ?_, ?_⟩
  ·by_cases h : s.head? = some 45
   ·left
    rw [h]
    refine ⟨rfl, ?_⟩
    cases s with
    | nil => cases h
    | cons c t => simp only [List.head?_cons, Option.some.injEq] at h; subst h; rfl
   ·right
    have : (s.head? == some 45) = false := by simpa using h
    rw [this]
    exact ⟨rfl, by simp, by simpa using h⟩
  ·have e : parseT s = (if (if (s.head? == some 45) then s.drop 1 else s) = [] ∨ ((if (s.head? == some 45) then s.drop 1 else s).head? = some 48 ∧ ((s.head? == some 45) = true ∨ 1 < (if (s.head? == some 45) then s.drop 1 else s).length)) ∨ ¬ (if (s.head? == some 45) then s.drop 1 else s).all isDig = true then (0, 2)
     else if inR (tv (if (s.head? == some 45) then s.drop 1 else s)) then (sgn (s.head? == some 45) (tv (if (s.head? == some 45) then s.drop 1 else s)), 0) else (0, 4)) := by
    unfold parseT
    simp only [hl, if_false]
   rw [e]
   generalize (if (s.head? == some 45) = true then s.drop 1 else s) = ds
   generalize (s.head? == some 45) = neg
   by_cases h1 : ds = [] ∨ (ds.head? = some 48 ∧ (neg = true ∨ 1 < ds.length)) ∨ ¬ ds.all isDig = true
   ·exact .inl ⟨h1, by rw [if_pos h1]⟩
   ·right
    rw [if_neg h1]
    have n1 : ds ≠ [] := fun q => h1 (.inl q)
    refine ⟨n1, fun q => ?_, ?_, ?_⟩
    ·have h2 : ¬ (neg = true ∨ 1 < ds.length) := fun r => h1 (.inr (.inl ⟨q, r⟩))
     have h3 : ds.length ≠ 0 := fun r => n1 (List.eq_nil_of_length_eq_zero r)
     refine ⟨?_, ?_⟩
     ·cases neg
      ·rfl
      ·exact (h2 (.inl rfl)).elim
     ·have : ¬ 1 < ds.length := fun r => h2 (.inr r)
      omega
    ·by_cases q : ds.all isDig = true
     ·exact q
     ·exact (h1 (.inr (.inr q))).elim
    ·by_cases h3 : inR (tv ds)
     ·exact .inl ⟨h3, by rw [if_pos h3]⟩
     ·exact .inr ⟨h3, by rw [if_neg h3]⟩
end Go.Eng
namespace Go.Eng
theorem zf8 (s : List UInt8) (hs : s.length < 4611686018427387904) : pf E0 85 [.s s, .s [45]] = some (.b (s.head? == some 45)) := by
 refine zaa (xf := zu2) rfl (by simp [zu2]) ?_
 simp only [zu2]
 cases s with
 | nil =>
  have q1 : (((0 : Nat) : Int) ≥ 1) = False := by simp
  simp (disch := omega) only [go_sem, seval, wqq, Int.natCast_one, q1, Int.natCast_zero, Int.reduceLE, ge_iff_le]
  rfl
 | cons c t =>
  have q1 : (((t.length + 1 : Nat) : Int) ≥ 1) = True := by simp; omega
  have hc : slStrP (c :: t) none (some (.i .i64 1)) = some (.s [c]) := by
   simp only [slStrP, optP, show (PV.i IntKind.i64 1) = .i .i64 ((1 : Nat) : Int) from rfl, za7]
   rw [if_pos ⟨by omega, by simp⟩]; rfl
  simp (disch := omega) only [go_sem, seval, wqq, Int.natCast_one, q1, hc]
  congr 2
  by_cases h : c = 45
  ·subst h; rfl
  ·have : (some c == some (45 : UInt8)) = false := by simpa using h
   simp [h, this]
theorem zf6 {neg : Bool} {s ds : List UInt8} (hs : s.length < 4611686018427387904) (h : (neg = true ∧ s = 45 :: ds) ∨ (neg = false ∧ s = ds ∧ ds.head? ≠ some 45)) : pf E0 129 [.s s, .s [45]] = some (.tu [.s ds, .b neg]) := by
 have inner : pf E0 137 [.s s, .s [45]] = some (.tu [.s ds, .b neg]) := by
  refine zaa (xf := zu1) rfl (by simp [zu1]) ?_
  simp only [zu1]
  have hp := zf8 s hs
  rcases h with ⟨rfl, rfl⟩ | ⟨rfl, rfl, h45⟩
  ·have e : ((45 :: ds).head? == some (45 : UInt8)) = true := rfl
   rw [e] at hp
   have hc : slStrP (45 :: ds) (some (.i .i64 1)) none = some (.s ds) := by
    simp only [slStrP, optP, show (PV.i IntKind.i64 1) = .i .i64 ((1 : Nat) : Int) from rfl, za7]
    rw [if_pos ⟨by simp, Nat.le_refl _⟩]
    simp
   simp (disch := omega) only [go_sem, seval, wqq, hp, Int.natCast_one, hc]
  ·have e : (s.head? == some (45 : UInt8)) = false := by simpa using h45
   rw [e] at hp
   simp (disch := omega) only [go_sem, seval, wqq, hp]
 refine zaa (xf := zvn) rfl (by simp [zvn]) ?_
 simp only [zvn]
 simp (disch := omega) only [go_sem, seval, wqq, inner]
set_option maxRecDepth 20000 in
theorem zkS (ds : List UInt8) : ((((ds.reverse.dropWhile (([48, 49, 50, 51, 52, 53, 54, 55, 56, 57] : List UInt8).contains ·)).reverse).dropWhile (([48, 49, 50, 51, 52, 53, 54, 55, 56, 57] : List UInt8).contains ·)) = []) = (ds.all isDig = true) := by
 have hc : ∀ c : UInt8, ([48, 49, 50, 51, 52, 53, 54, 55, 56, 57] : List UInt8).contains c = isDig c := fun c => by
  have h : ∀ n : Fin 256, ([48, 49, 50, 51, 52, 53, 54, 55, 56, 57] : List UInt8).contains (UInt8.ofNat n.val) = isDig (UInt8.ofNat n.val) := by decide
  have h2 := h ⟨c.toNat, c.toNat_lt⟩
  simpa using h2
 simp only [hc]
 have aux : ∀ l : List UInt8, l.dropWhile isDig = [] ↔ l.all isDig = true := fun l => by
  induction l with
  | nil => simp
  | cons c l ih =>
   rw [List.dropWhile_cons, List.all_cons, Bool.and_eq_true]
   by_cases h : isDig c = true
   ·rw [if_pos h, ih]; simp [h]
   ·rw [if_neg h]; simp [h]
 apply propext
 rw [aux, List.all_reverse]
 constructor
 ·intro h
  by_cases hd : ds.all isDig = true
  ·exact hd
  ·exfalso
   have h1 : ds.reverse.dropWhile isDig ≠ [] := fun q => hd (by rw [← List.all_reverse]; exact (aux _).1 q)
   obtain ⟨c, t, he⟩ : ∃ c t, ds.reverse.dropWhile isDig = c :: t := by
    cases hq : ds.reverse.dropWhile isDig with
    | nil => exact (h1 hq).elim
    | cons c t => exact ⟨c, t, rfl⟩
   have h2 := List.head?_dropWhile_not isDig ds.reverse
   rw [he] at h h2
   simp only [List.head?_cons] at h2
   simp only [List.all_cons, Bool.and_eq_true] at h
   rw [h.1] at h2
   simp at h2
 ·intro hd
  have : ds.reverse.dropWhile isDig = [] := (aux _).2 (by rw [List.all_reverse]; exact hd)
  rw [this]; rfl
theorem zm8 (ds : List UInt8) (h : ds.length ≤ 9223372036854775807) : ∃ t, (t = [] ↔ ds.all isDig = true) ∧ pf E0 130 [.s ds, .s [48, 49, 50, 51, 52, 53, 54, 55, 56, 57]] = some (.s t) := by
 refine ⟨_, by rw [← zkS ds], zkz ?_ rfl⟩
 simp only [orcP, libP]
 rw [if_neg (by decide), if_pos ⟨trivial, h, by decide, by decide⟩]
 rfl
theorem zlF {l : List UInt8} (h0 : l ≠ []) (h1 : l.length ≤ 18) (h2 : l.all isDig = true) : pf E0 131 [.s l] = some (.tu [.i .i64 (tv l : Nat), .inil]) := by
 refine zkA ?_ rfl
 simp only [orcP, libP]
 rw [if_neg (by decide), if_pos ⟨trivial, h0, h1, h2⟩]
 rfl
theorem zoT {v : Nat} (h : v < 4294967296) : PV.lst [(PV.i .u32 ((v : Nat) : Int))] = Dw 1 v := by
 have e : tab 1 (fun k => (PV.i .u32 ((dgt v k : Nat) : Int))) = [(PV.i .u32 ((dgt v 0 : Nat) : Int))] := rfl
 rw [Dw, e, zfo, Nat.mod_eq_of_lt h]
theorem zh3 {v n : Nat} (h : v < 10 ^ n) : wlen v ≤ n := by
 rw [zaT]
 exact Nat.lt_of_lt_of_le h (Nat.pow_le_pow_left (by decide) n)
def wparse_R : XC := match zvr.body with
 | .seq _ (.seq _ (.seq _ (.seq _ (.seq _ (.seq _ r))))) => r
 | _ => .skip
theorem zjH {F : PFin} {ds : List UInt8} (hl : ds.length ≤ 5000) (hd : ds.all isDig = true) {fr : PFr} {B : PB} {neg : Bool} (h2 : fr 2 = .p 0 0) (h4 : fr 4 = .s ds) (h5 : fr 5 = .b neg) (h6 : fr 6 = .nl)
  (cont : ∀ (fr' : PFr) (M' : PM), fr' 2 = .p 0 0 → fr' 5 = .b neg → (∀ M d, fz M (d + 1) (fr' 6) = some (D (tv ds), [])) → PM.blk M' 0 = some B → WK E0 F wparse_R [] fr' M') :
  WK E0 F (.loop zv1) [.block 0, .seq wparse_R] fr [some B] := by
 refine zat zv1.eq_1 (fun (x : Nat × List UInt8) fr M => x.2.length ≤ ds.length ∧ x.2.all isDig = true ∧ (x.1 = 0 ∨ x.2.length % 9 = 0) ∧ x.1 * 10 ^ x.2.length + tv x.2 = tv ds ∧ fr 2 = .p 0 0 ∧ fr 4 = .s x.2 ∧ fr 5 = .b neg ∧ (∀ M d, fz M (d + 1) (fr 6) = some (D x.1, [])) ∧ PM.blk M 0 = some B) (fun x => x.2.length) ?_ (0, ds) ⟨Nat.le_refl _, hd, .inl rfl, by simp, h2, h4, h5, fun M d => by rw [h6]; rfl, rfl⟩
 rintro ⟨m, rs⟩ fr M ⟨hrl, hrd, h9, hv, h2, h4, h5, h6, hb⟩ ih
 simp only at hrl hrd h9 hv h4 h6 ih
 cases rs with
 | nil =>
  have hm : m = tv ds := by simpa [tv] using hv
  subst hm
  simp (disch := omega) only [go_sem, seval, wqq, h4, Int.natCast_zero, Int.lt_irrefl, gt_iff_lt]
  exact cont _ _ (by simp only [go_sem, seval, h2]) (by simp only [go_sem, seval, h5]) (fun M d => by simp only [go_sem, seval]; exact h6 M d) hb
 | cons c t =>
  have htl : t.length < 5000 := by simp only [List.length_cons] at hrl; omega
  obtain ⟨n, hn⟩ : ∃ n, n = t.length % 9 + 1 := ⟨_, rfl⟩
  have hn9 : n ≤ 9 := by omega
  have hnl : n ≤ (c :: t).length := by simp; omega
  have q1 : (((t.length + 1 : Nat) : Int) > 0) = True := by simp
  have i1 : (((t.length + 1 : Nat) : Int) - 1) = ((t.length : Nat) : Int) := by omega
  have i2 : ((t.length : Int)).tmod 9 = ((t.length % 9 : Nat) : Int) := zb6 t.length 9
  have i3 : ((t.length % 9 : Nat) : Int) + 1 = (n : Int) := by omega
  obtain ⟨a, ha⟩ : ∃ a, a = (c :: t).take n := ⟨_, rfl⟩
  obtain ⟨b, hbb⟩ : ∃ b, b = (c :: t).drop n := ⟨_, rfl⟩
  have hal : a.length = n := by rw [ha, List.length_take]; omega
  have hbl : b.length = (c :: t).length - n := by rw [hbb, List.length_drop]
  have hab : c :: t = a ++ b := by rw [ha, hbb, List.take_append_drop]
  have had : a.all isDig = true := by rw [hab, List.all_append, Bool.and_eq_true] at hrd; exact hrd.1
  have hbd : b.all isDig = true := by rw [hab, List.all_append, Bool.and_eq_true] at hrd; exact hrd.2
  have hc1 : slStrP (c :: t) none (some (.i .i64 (n : Int))) = some (.s a) := by
   simp only [slStrP, optP, za7]
   rw [if_pos ⟨by omega, hnl⟩, List.drop_zero, ha]
  have hc2 : slStrP (c :: t) (some (.i .i64 (n : Int))) none = some (.s b) := by
   simp only [slStrP, optP, za7]
   rw [if_pos ⟨hnl, Nat.le_refl _⟩, List.take_length, hbb]
  have hat := zlF (l := a) (by intro q; rw [q] at hal; simp at hal; omega) (by omega) had
  have hav : tv a < 1000000000 := Nat.lt_of_lt_of_le (zkT a had) (by rw [hal]; exact Nat.pow_le_pow_right (by decide) hn9)
  have hvd := zkT ds hd
  have hmv : m < 10 ^ ds.length := by
   have : m * 1 ≤ m * 10 ^ (c :: t).length := Nat.mul_le_mul_left _ (Nat.pow_pos (by decide))
   omega
  have hml := zh3 hmv
  have hmlt := zah m
  have h59 : pf E0 59 [D m, Dw 1 1000000000] = some (Dw (wlen m + 1) (m * 1000000000)) := zg4 hmlt (by decide) (by omega) (by omega)
  have hmm : m * 1000000000 < 4294967296 ^ (wlen m + 1) := by rw [Nat.pow_succ]; exact Nat.mul_lt_mul'' hmlt (by decide)
  have h40 : pf E0 40 [Dw (wlen m + 1) (m * 1000000000), Dw 1 (tv a)] = some (Dw (max (wlen m + 1) 1 + 1) (m * 1000000000 + tv a)) := zmM hmm (by omega) (by omega) (by omega)
  have hsl : m * 1000000000 + tv a < 4294967296 ^ (max (wlen m + 1) 1 + 1) := by
   rw [Nat.max_eq_left (by omega)]
   have h1 : m * 1000000000 + tv a < (m + 1) * 1000000000 := by rw [Nat.add_mul, Nat.one_mul]; exact Nat.add_lt_add_left hav _
   have h2 : (m + 1) * 1000000000 ≤ 4294967296 ^ wlen m * 4294967296 := by
    refine Nat.mul_le_mul (Nat.succ_le_of_lt hmlt) ?_
    omega
   rw [← Nat.pow_succ] at h2
   exact Nat.lt_of_lt_of_le h1 (Nat.le_trans h2 (Nat.pow_le_pow_right (by decide) (by omega)))
  have h49 : pf E0 49 [Dw (max (wlen m + 1) 1 + 1) (m * 1000000000 + tv a)] = some (D (m * 1000000000 + tv a)) := zbT hsl (by omega)
  have w1 : PV.lst [.i .u32 1000000000] = Dw 1 1000000000 := zoT (v := 1000000000) (by decide)
  have w2 : PV.lst [(PV.i .u32 ((tv a : Nat) : Int))] = Dw 1 (tv a) := zoT (by omega)
  simp (disch := omega) only [go_sem, seval, wqq, h4, q1, i1, i2, i3, hc1, hc2, hat, h6, w1, h59, za4, group, List.headD_cons, w2, h40, h49, zca]
  have hnew : (m * 1000000000 + tv a) * 10 ^ b.length + tv b = tv ds := by
   rw [← hv, hab, zlw, List.length_append, Nat.pow_add, hal]
   rcases h9 with h9 | h9
   ·rw [h9]; simp
   ·have : n = 9 := by simp only [List.length_cons] at h9; omega
    rw [this]
    show (m * 10 ^ 9 + tv a) * 10 ^ b.length + tv b = m * (10 ^ 9 * 10 ^ b.length) + (tv a * 10 ^ b.length + tv b)
    rw [Nat.add_mul, Nat.mul_assoc]; omega
  have hb9 : b.length % 9 = 0 := by rw [hbl]; simp only [List.length_cons]; omega
  refine ih (m * 1000000000 + tv a, b) _ _ (by rw [hbl]; simp only [List.length_cons]; omega) ⟨by simp only; omega, hbd, .inr hb9, hnew, by simp only [go_sem, seval, h2], by simp only [go_sem, seval], by simp only [go_sem, seval, h5], fun M d => by simp only [go_sem, seval], ?_⟩
  refine zba (zba hb _) _
theorem zmu (s : List UInt8) (hs : s.length < 4611686018427387904) : pf E0 110 [.s s] = some (.tu [wiP (clip (parseT s).1), .i .i64 (parseT s).2]) := by
 refine zaa (xf := zvr) rfl (by simp [zvr]) ?_
 have c0 : clip 0 = wi0 := zbt (z := 0) (by simp [zbA])
 rcases zdy s with ⟨hl, hp⟩ | ⟨hl, neg, ds, hsg, hsp⟩
 ·rw [hp, c0]
  simp only [zvr]
  have q1 : ((s.length : Int) > 5000) = True := by simp; omega
  simp (disch := omega) only [go_sem, seval, wqq, q1]
 ·have hdl : ds.length ≤ 5000 := by
   rcases hsg with ⟨_, rfl⟩ | ⟨_, rfl, _⟩
   ·simp at hl; omega
   ·exact hl
  have q1 : ((s.length : Int) > 5000) = False := by simp; omega
  have hcp := zf6 hs hsg
  obtain ⟨t, ht1, ht2⟩ := zm8 ds (by omega)
  have good : ds.all isDig = true → (inR (tv ds) ∧ parseT s = (sgn neg (tv ds), 0) ∨ ¬ inR (tv ds) ∧ parseT s = (0, 4)) → ∀ {fr : PFr}, fr 2 = .p 0 0 → fr 4 = .s ds → fr 5 = .b neg → fr 6 = .nl →
    WK E0 ⟨[.cell 2 true 2, .tmp 3], fun w M2 => (fz M2 fzD w).map Prod.fst = some (.tu [wiP (clip (parseT s).1), .i .i64 (parseT s).2])⟩ (.loop zv1) [.block 0, .seq wparse_R] fr [some ⟨[.b false, .nl], true, 0⟩] := fun hd hp {fr} h2 h4 h5 h6 => by
   refine zjH hdl hd h2 h4 h5 h6 fun fr' M' g2 g5 g6 gb => ?_
   unfold wparse_R
   simp only [zvr]
   have hsi := zaL neg (wlen (tv ds)) (tv ds) (zah _) (by have := zh3 (zkT ds hd); omega)
   have hlt := zci gb
   have hset : ∀ Y, PM.blk (List.set M' 0 (some Y)) 0 = some Y := fun Y => zbX hlt
   have hres : parseT s = ((if inR (tv ds) then (if neg then -(tv ds : Int) else (tv ds : Int)) else 0), lerr (tv ds : Int)) := by
    rcases hp with ⟨h1, h2⟩ | ⟨h1, h2⟩
    ·rw [h2, if_pos h1, zde (by simpa using (zaP _).2 h1)]; rfl
    ·rw [h2, if_neg h1, ze0 (by simpa using fun q => h1 ((zaP _).1 q))]
   have hcl : clip (if neg then -(tv ds : Int) else (tv ds : Int)) = clip (parseT s).1 := by
    rw [hres]
    by_cases h1 : inR (tv ds)
    ·simp only [if_pos h1]
    ·simp only [if_neg h1]
     rw [zeM, c0]
     cases neg <;> simp <;> exact Nat.lt_of_not_le fun q => h1 ((zaP _).1 q)
   rw [hcl] at hsi
   have he : lerr (tv ds : Int) = (parseT s).2 := by rw [hres]
   rw [he] at hsi
   simp (disch := omega) only [go_sem, seval, wqq, g2, g5, g6, hsi, gb, hset]
  simp only [zvr]
  rcases zj9 (l := ds) with rfl | ⟨c, r, rfl⟩
  ·have hp : parseT s = (0, 2) := by
    rcases hsp with ⟨_, h⟩ | ⟨h, _⟩
    ·exact h
    ·exact (h rfl).elim
   rw [hp, c0]
   simp (disch := omega) only [go_sem, seval, wqq, q1, hcp]
  ·have q0 : (c :: r = []) = False := by simp
   by_cases ha : (c :: r).all isDig = true
   ·have htn : (t = []) = True := by simp [ht1.2 ha]
    have hts : (t ≠ []) = False := by simp [ht1.2 ha]
    by_cases h48 : c.toNat = 48
    ·have q2 : ((c.toNat : Int) = 48) = True := by simp; omega
     have hc : c = 48 := UInt8.toNat_inj.1 h48
     cases neg
     ·by_cases hr : r = []
      ·have q3 : (((r.length + 1 : Nat) : Int) > 1) = False := by subst hr; simp
       have hp : inR (tv (c :: r)) ∧ parseT s = (sgn false (tv (c :: r)), 0) ∨ ¬ inR (tv (c :: r)) ∧ parseT s = (0, 4) := by
        rcases hsp with ⟨h | ⟨_, h | h⟩ | h, _⟩ | ⟨_, _, _, h⟩
        ·cases h
        ·cases h
        ·subst hr; simp at h
        ·exact (h ha).elim
        ·exact h
       simp (disch := omega) only [go_sem, seval, wqq, q1, hcp, q0, ht2, htn, q2, q3]
       exact good ha hp (by simp only [go_sem, seval]) (by simp only [go_sem, seval]) (by simp only [go_sem, seval]) (by simp only [go_sem, seval])
      ·have q3 : (((r.length + 1 : Nat) : Int) > 1) = True := by
        cases r with
        | nil => exact (hr rfl).elim
        | cons _ _ => simp; omega
       have hp : parseT s = (0, 2) := by
        rcases hsp with ⟨_, h⟩ | ⟨_, h, _⟩
        ·exact h
        ·have := (h (by rw [hc]; rfl)).2
         cases r with
         | nil => exact (hr rfl).elim
         | cons _ _ => simp at this
       rw [hp, c0]
       simp (disch := omega) only [go_sem, seval, wqq, q1, hcp, q0, ht2, htn, q2, q3]
     ·have hp : parseT s = (0, 2) := by
       rcases hsp with ⟨_, h⟩ | ⟨_, h, _⟩
       ·exact h
       ·have := (h (by rw [hc]; rfl)).1
        cases this
      rw [hp, c0]
      simp (disch := omega) only [go_sem, seval, wqq, q1, hcp, q0, ht2, htn, q2]
    ·have q2 : ((c.toNat : Int) = 48) = False := by simp; omega
     have hp : inR (tv (c :: r)) ∧ parseT s = (sgn neg (tv (c :: r)), 0) ∨ ¬ inR (tv (c :: r)) ∧ parseT s = (0, 4) := by
      rcases hsp with ⟨h | ⟨h, _⟩ | h, _⟩ | ⟨_, _, _, h⟩
      ·cases h
      ·simp only [List.head?_cons, Option.some.injEq] at h; rw [h] at h48; exact (h48 rfl).elim
      ·exact (h ha).elim
      ·exact h
     simp (disch := omega) only [go_sem, seval, wqq, q1, hcp, q0, ht2, htn, q2]
     exact good ha hp (by simp only [go_sem, seval]) (by simp only [go_sem, seval]) (by simp only [go_sem, seval]) (by simp only [go_sem, seval])
   ·have htn : (t = []) = False := by simp only [eq_iff_iff, iff_false]; exact fun q => ha (ht1.1 q)
    have hp : parseT s = (0, 2) := by
     rcases hsp with ⟨_, h⟩ | ⟨_, _, h, _⟩
     ·exact h
     ·exact (ha h).elim
    rw [hp, c0]
    simp (disch := omega) only [go_sem, seval, wqq, q1, hcp, q0, ht2, htn]
end Go.Eng
namespace Go.Eng
theorem zgp {v : Nat} (h : v ≠ 0) : ∃ c t, dec v = c :: t ∧ 49 ≤ c.toNat ∧ c.toNat ≤ 57 ∧ (c :: t).length = dlen v := by
 have h1 := zbE v
 have h0 : dlen v ≠ 0 := fun q => by rw [q] at h1; simp at h1; omega
 obtain ⟨n, hn⟩ : ∃ n, dlen v = n + 1 := ⟨dlen v - 1, by omega⟩
 have h2 : ¬ v < 10 ^ n := fun q => by have := zaw.2 q; omega
 have e : dec v = UInt8.ofNat (48 + v / 10 ^ n % 10) :: dtx n v := by rw [zck h, hn]; rfl
 have hp : 0 < 10 ^ n := Nat.pow_pos (by decide)
 have h3 : v / 10 ^ n < 10 := by
  rw [Nat.div_lt_iff_lt_mul hp, Nat.mul_comm, ← Nat.pow_succ, show n.succ = dlen v from hn.symm]; exact h1
 have h4 : 0 < v / 10 ^ n := Nat.div_pos (by omega) hp
 have ht : (UInt8.ofNat (48 + v / 10 ^ n % 10)).toNat = 48 + v / 10 ^ n % 10 := dch _ (by omega)
 exact ⟨_, _, e, by rw [ht]; omega, by rw [ht]; omega, by rw [hn]; simp⟩
theorem zhT {v w : Nat} (h : dec v = dec w) : v = w := by
 have := congrArg tv h
 rwa [zjz, zjz] at this
theorem zhS (v : Nat) : ∀ l, dec v ≠ 45 :: l := fun l q => by
 by_cases h : v = 0
 ·subst h; cases q
 ·obtain ⟨c, t, e, h1, _⟩ := zgp h
  rw [e] at q; cases q
  revert h1; decide
theorem zjR {z w : Int} (h : decI z = decI w) : z = w := by
 unfold decI at h
 split at h <;> split at h
 ·have := zhT (List.cons.inj h).2; omega
 ·exact (zhS _ _ h.symm).elim
 ·exact (zhS _ _ h).elim
 ·have := zhT h; omega
theorem zjB {n K : Nat} (hn : n = 177) (hK : K = 16384) : 2 ^ K ≤ 10 ^ (28 * n) := by
 have e1 : (2 : Nat) ^ K ≤ (2 ^ 93) ^ n := by
  rw [← Nat.pow_mul 2]
  exact Nat.pow_le_pow_right (by decide) (by omega)
 have e2 : ((2 : Nat) ^ 93) ^ n ≤ (10 ^ 28) ^ n := Nat.pow_le_pow_left (by decide) n
 rw [← Nat.pow_mul 10] at e2
 exact Nat.le_trans e1 e2
theorem zm9 (K : Nat) : 0 < 2 ^ K := Nat.pow_pos (by decide)
theorem zka : inR 0 := zm9 16384
theorem zeW {v : Nat} (h : inR v) : dlen v ≤ 4956 := by
 obtain ⟨n, hn⟩ : ∃ n, n = 177 := ⟨_, rfl⟩
 have e := zjB (K := 16384) hn rfl
 have h : v < 2 ^ 16384 := h
 have := zaw.2 (Nat.lt_of_lt_of_le h e)
 omega
theorem zdk (z : Int) : parseT (decI z) = if inR z.natAbs then (z, 0) else (0, 4) := by
 by_cases h0 : z = 0
 ·subst h0
  have h1 : inR (0 : Int).natAbs := zka
  have h2 : decI 0 = [48] := rfl
  rw [if_pos h1, h2]
  have h3 : inR (tv [48]) := h1
  unfold parseT
  rw [if_neg (by decide), if_neg (by decide)]
  exact if_pos h3
 ·have hv : z.natAbs ≠ 0 := by omega
  obtain ⟨c, t, e, hc1, hc2, hl⟩ := zgp hv
  have hd := zhY z.natAbs
  have ht := zjz z.natAbs
  have h45 : c ≠ 45 := by rintro rfl; revert hc1; decide
  have h48 : c ≠ 48 := by rintro rfl; revert hc1; decide
  have hlen : (decI z).length ≤ dlen z.natAbs + 1 := by
   unfold decI; split <;> simp only [List.length_cons, e] at * <;> omega
  have hlen2 : dlen z.natAbs ≤ (decI z).length := by
   unfold decI; split <;> simp only [List.length_cons, e] at * <;> omega
  rcases zdy (decI z) with ⟨h1, h2⟩ | ⟨h1, neg, ds, hsg, hsp⟩
  ·have : ¬ inR z.natAbs := fun q => by have := zeW q; omega
   rw [if_neg this, h2]
  ·have hds : ds = dec z.natAbs ∧ sgn neg z.natAbs = z := by
    rcases hsg with ⟨rfl, g⟩ | ⟨rfl, g, g2⟩
    ·unfold decI at g
     split at g
     ·cases g; exact ⟨rfl, by unfold sgn; simp; omega⟩
     ·exact (zhS _ _ g).elim
    ·unfold decI at g
     split at g
     ·rw [← g] at g2; exact (g2 rfl).elim
     ·exact ⟨g.symm, by unfold sgn; simp; omega⟩
   obtain ⟨rfl, hs⟩ := hds
   rcases hsp with ⟨h | ⟨h, _⟩ | h, _⟩ | ⟨_, _, _, ⟨h3, h4⟩ | ⟨h3, h4⟩⟩
   ·rw [e] at h; cases h
   ·rw [e] at h; simp at h; exact (h48 h).elim
   ·exact (h hd).elim
   ·rw [ht] at h3 h4
    rw [if_pos h3, h4, hs]
   ·rw [ht] at h3
    rw [if_neg h3, h4]
theorem zon (x : WI) : pf E0 33 [wiP x] = some (.s (decI x.v)) := by
 refine zmQ ?_ rfl
 have hw : ∀ (l : List Nat), Ok32 l → wordsP (l.map fun n => (PV.i .u32 ((n : Nat) : Int))) = some l := fun l => by
  induction l with
  | nil => intro _; rfl
  | cons n l ih =>
   intro h
   have h1 := h n (List.mem_cons_self ..)
   rw [List.map_cons]
   unfold wordsP
   rw [if_pos ⟨by omega, by omega⟩, ih fun x hx => h x (List.mem_cons_of_mem _ hx)]
   simp
 have hD : D x.v.natAbs = .lst ((dig x.v.natAbs).map fun n => (PV.i .u32 ((n : Nat) : Int))) := (zsf _ _).symm
 have hg : (dig x.v.natAbs).getLast? ≠ some 0 := fun q => by
  by_cases h : x.v.natAbs = 0
  ·rw [h] at q; cases q
  ·have h1 := za3 h
   have h2 : (dig x.v.natAbs).getLast? = some (dgt x.v.natAbs (wlen x.v.natAbs - 1)) := by
    rw [List.getLast?_eq_getElem?]
    unfold dig dw
    rw [za6, za0 (by omega)]
   rw [h2] at q
   have h3 := Option.some.inj q
   rw [zaj] at h3
   have h4 := zfi h
   have h5 : x.v.natAbs / 4294967296 ^ (wlen x.v.natAbs - 1) < 4294967296 := by
    have := zah x.v.natAbs
    rw [show wlen x.v.natAbs = wlen x.v.natAbs - 1 + 1 by omega, Nat.pow_succ] at this
    exact Nat.div_lt_of_lt_mul this
   have h6 := Nat.div_pos h4 (zbJ _)
   rw [Nat.mod_eq_of_lt h5] at h3
   omega
 have hx := x.lim
 rw [zec, hD]
 simp only [orcP, txtP, if_true, hw _ (zn2 _), Option.bind_some]
 unfold wtx
 have hnz : decide (x.v < 0) = true → dig x.v.natAbs ≠ [] := fun h => by
  have h1 : x.v < 0 := by simpa using h
  intro q
  have h2 := zen x.v.natAbs
  rw [q] at h2
  have := za3 (v := x.v.natAbs) (by omega)
  simp at h2; omega
 rw [if_pos ⟨by rw [zen]; exact hx, hg, hnz⟩, znb]
 ·have e : (if decide (x.v < 0) = true then -((x.v.natAbs : Nat) : Int) else ((x.v.natAbs : Nat) : Int)) = x.v := by
   by_cases h : x.v < 0
   ·rw [if_pos (by simpa using h)]; omega
   ·rw [if_neg (by simpa using h)]; omega
  rw [e]; rfl
end Go.Eng
namespace Go.Eng
theorem zeN {v n : Nat} (h1 : 10 ^ n ≤ v) (h2 : v < 10 ^ (n + 1)) : dec v = dtx (n + 1) v := by
 have h0 : v ≠ 0 := by have := Nat.pow_pos (n := n) (by decide : 0 < 10); omega
 have : dlen v = n + 1 := by
  have a := zaw.2 h2
  have b : ¬ dlen v ≤ n := fun q => by have := zaw.1 q; omega
  omega
 rw [zck h0, this]
theorem zie {n : Int} (h : Fits64 n) : ∃ x : WI, x.v = n ∧ pf E0 34 [.i .i64 n] = some (wiP x) := ⟨wiOf n h, rfl, zew h⟩
end Go.Eng
namespace Go.Eng
def isPP : PV → Bool
 | .p _ _ => true
 | _ => false
@[go_sem] theorem zsx (n o : Nat) : isPP (.p n o) = true := _root_.id rfl
def slotIn (E : PEnv) (ops : List XOper) (L : List Nat) (c : Nat × Nat) : Bool :=
 match ops[c.1]?, ops[c.2]? with
 | some a, some b =>
  match a.op with
  | .load _ _ (.t s) => L.contains s && calmOp E b.op && (ops.all fun o => o.dst != some s)
  | _ => false
 | _, _ => false
theorem zap {E : PEnv} {F : PFin} {ops : List XOper} {chk : List (Nat × Nat)} {ks : List KI} {fr : PFr} {M : PM} (L : List Nat) (hL : chk.all (fun c => calmC E ops c || slotIn E ops L c) = true) (hp : L.all (fun s => isPP (fr s)) = true) (w : WL E F ops ks fr M) :
  WK E F (.drw ops chk) ks fr M := by
 refine zdM (fun fr2 Ms hT => ?_) w
 rw [List.all_eq_true] at hL hp ⊢
 rintro ⟨i, j⟩ hc
 have h1 := hL _ hc
 simp only [Bool.or_eq_true] at h1
 rcases h1 with h1 | h1
 ·exact zcT hT h1
 ·unfold slotIn at h1
  split at h1
  ·rename_i a b ha hb
   split at h1
   ·rename_i z k s hop
    simp only [Bool.and_eq_true] at h1
    obtain ⟨⟨c1, c2⟩, c3⟩ := h1
    have hs := hp s (List.contains_iff_mem.1 c1)
    cases hf : fr s with
    | p n o => exact zhO hT ha hb hop c2 c3 hf
    | _ => rw [hf] at hs; simp [isPP] at hs
   ·cases h1
  ·cases h1
attribute [go_sem] List.all_cons List.all_nil
def slotIn2 (E : PEnv) (ops : List XOper) (L : List Nat) (c : Nat × Nat) : Bool :=
 match ops[c.1]?, ops[c.2]? with
 | some a, some b =>
  match a.op with
  | .load _ _ (.t s) => L.contains s && calmOp E b.op
  | _ => false
 | _, _ => false
theorem zaf {E : PEnv} {F : PFin} {ops : List XOper} {chk : List (Nat × Nat)} {ks : List KI} {fr : PFr} {M : PM} (L : List Nat) (hL : chk.all (fun c => calmC E ops c || slotIn2 E ops L c) = true)
  (hr : WL E ⟨(0 :: 0 :: L).map XR.tmp, fun w _ => ∃ l, w = .tu l ∧ (l.drop 2).all isPP = true⟩ ops [] fr M) (w : WL E F ops ks fr M) : WK E F (.drw ops chk) ks fr M := by
 refine zdM (fun fr2 Ms hT => ?_) w
 have hp : L.all (fun s => isPP (fr2 s)) = true := by
  obtain ⟨lf, q, fr3, M3, vs, e, h1, h2, l, h3, h4⟩ := hr
  simp only [Option.bind_eq_some_iff, unw] at e
  obtain ⟨⟨fr4, M4⟩, e1, e2⟩ := e
  simp only [Option.some.injEq, Prod.mk.injEq] at e2
  obtain ⟨_, e3, e4⟩ := e2
  rw [← e3, ← e4] at h2
  obtain ⟨Ms', g1, g2⟩ := zb8 e1
  rw [g1] at hT
  cases hT
  have hres : ∀ (f : PFr) (N : PM) (l : List Nat), pRes f N (l.map XR.tmp) = some (l.map f) := fun f N l => by
   induction l with
   | nil => rfl
   | cons a l ih => simp only [List.map_cons, pRes, pResOne, ih]
  rw [hres] at h2
  cases h2
  simp only [List.map_cons, packP] at h3
  cases h3
  simpa [List.all_map] using h4
 rw [List.all_eq_true] at hL hp ⊢
 rintro ⟨i, j⟩ hc
 have h1 := hL _ hc
 simp only [Bool.or_eq_true] at h1
 rcases h1 with h1 | h1
 ·exact zcT hT h1
 ·unfold slotIn2 at h1
  split at h1
  ·rename_i a b ha hb
   split at h1
   ·rename_i z k s hop
    simp only [Bool.and_eq_true] at h1
    obtain ⟨c1, c2⟩ := h1
    have hs := hp s (List.contains_iff_mem.1 c1)
    cases hf : fr2 s with
    | p n o =>
     obtain ⟨fri, A, B, q1, q2, q3, q4⟩ := zaM hT ha
     obtain ⟨frj, C, D, p1, p2, p3, p4⟩ := zaM hT hb
     have p2' : Ms[(i, j).2 + 1]? = some D := p2
     have q2' : Ms[(i, j).1 + 1]? = some B := q2
     simp only [chkP, ha, q1, q2, p1, p2]
     rw [if_neg (by rw [hop]; simp [XO.cls])]
     rw [hop]
     show chkV ops j (.t s) C D (fr2 s) = true
     rw [hf]
     show verP (some n) C D = true
     rcases p3 with ⟨_, v, p3⟩ | ⟨_, p3⟩
     ·cases hopb : b.op with
      | call f l =>
       rw [hopb] at p3 c2
       obtain ⟨ns, rfl⟩ := zdl c2 p3
       exact zcz ns C _
      | _ => rw [hopb] at c2; simp [calmOp] at c2
     ·rw [p3]; simp [verP]
    | _ => rw [hf] at hs; simp [isPP] at hs
   ·cases h1
  ·cases h1
theorem zac {E : PEnv} {F : PFin} {a b : XC} (hab : a = b) {ks : List KI} {fr : PFr} {M : PM} (w : WK E F b (.loop a :: ks) fr M) : WK E F (.loop a) ks fr M := by
 rw [← hab] at w; exact zcN w
def fillC (z : List PV) (off n : Nat) (cs : List PV) : Option (List PV) := if cs.length = n ∧ off + n ≤ z.length ∧ cs.all PV.scal = true then some (psplice z off cs) else none
theorem zaG {fr : PFr} (G : Nat → Option (List AV)) (z : List PV) (off n : Nat) (x : X) (ps : List (Nat × Nat × X)) : fillP G fr z ((off, (n, x)) :: ps) = fillB fr G ps (fillC z off n (x.pv G fr).cells) := by
 simp only [fillP]
 unfold fillC
 split <;> rfl
theorem zak (z : List PV) (off n : Nat) (cs : List PV) : fillC z off n cs = if cs.length = n ∧ off + n ≤ z.length ∧ cs.all PV.scal = true then some (psplice z off cs) else none := rfl
end Go.Eng
namespace Go.Eng
theorem zcE {z : Int} (h : tlen z.natAbs < 1230) : inR z.natAbs := (zgz _).1 (.inl h)
theorem znU {z : Int} (h : inR z.natAbs) : wlen z.natAbs ≤ 512 := (zaP _).2 h
theorem zjy (a b : Int) : tlen (a - b).natAbs ≤ max (tlen a.natAbs) (tlen b.natAbs) + 1 := by
 have := zc8 a (-b)
 rwa [Int.natAbs_neg] at this
end Go.Eng
namespace Go.Eng
noncomputable def cW (w : Nat → WI) : List PV := [.b (decide ((w 0).v < 0)), D (w 0).v.natAbs, .b (decide ((w 1).v < 0)), D (w 1).v.natAbs, .b (decide ((w 2).v < 0)), D (w 2).v.natAbs, .b (decide ((w 3).v < 0)), D (w 3).v.natAbs, .b (decide ((w 4).v < 0)), D (w 4).v.natAbs, .b (decide ((w 5).v < 0)), D (w 5).v.natAbs, .b (decide ((w 6).v < 0)), D (w 6).v.natAbs, .b (decide ((w 7).v < 0)), D (w 7).v.natAbs, .b (decide ((w 8).v < 0)), D (w 8).v.natAbs]
noncomputable def mW (w : Nat → WI) : PV := .ag (cW w)
def cI (p : Nat → Int) : List PV := [.i .i64 (p 0), .i .i64 (p 1), .i .i64 (p 2), .i .i64 (p 3), .i .i64 (p 4), .i .i64 (p 5), .i .i64 (p 6), .i .i64 (p 7), .i .i64 (p 8)]
def pI (p : Nat → Int) : PV := .ag (cI p)
theorem zad (w : Nat → WI) : cW w = [.b (decide ((w 0).v < 0)), D (w 0).v.natAbs, .b (decide ((w 1).v < 0)), D (w 1).v.natAbs, .b (decide ((w 2).v < 0)), D (w 2).v.natAbs, .b (decide ((w 3).v < 0)), D (w 3).v.natAbs, .b (decide ((w 4).v < 0)), D (w 4).v.natAbs, .b (decide ((w 5).v < 0)), D (w 5).v.natAbs, .b (decide ((w 6).v < 0)), D (w 6).v.natAbs, .b (decide ((w 7).v < 0)), D (w 7).v.natAbs, .b (decide ((w 8).v < 0)), D (w 8).v.natAbs] := _root_.id rfl
theorem zag (p : Nat → Int) : cI p = [.i .i64 (p 0), .i .i64 (p 1), .i .i64 (p 2), .i .i64 (p 3), .i .i64 (p 4), .i .i64 (p 5), .i .i64 (p 6), .i .i64 (p 7), .i .i64 (p 8)] := _root_.id rfl
@[go_sem] theorem zt1 (M : PM) (d : Nat) (w : Nat → WI) : fz M (d + 1 + 1) (mW w) = some (mW w, []) := _root_.id rfl
@[go_sem] theorem zo4 (w : Nat → WI) : (mW w).cells = cW w := _root_.id rfl
@[go_sem] theorem zt5 (M : PM) (d : Nat) (p : Nat → Int) : fz M (d + 1 + 1) (pI p) = some (pI p, []) := _root_.id rfl
@[go_sem] theorem zo7 (p : Nat → Int) : (pI p).cells = cI p := _root_.id rfl
@[go_sem] theorem zqe (w : Nat → WI) : PV.ag (cW w) = mW w := _root_.id rfl
@[go_sem] theorem zqh (p : Nat → Int) : PV.ag (cI p) = pI p := _root_.id rfl
noncomputable def zW : Nat → WI := fun _ => wi0
def zI : Nat → Int := fun _ => 0
noncomputable def cP (n : Nat) (w : Nat → WI) : List PV := [if 0 < n then .b (decide ((w 0).v < 0)) else .b false, if 0 < n then D (w 0).v.natAbs else .nl, if 1 < n then .b (decide ((w 1).v < 0)) else .b false, if 1 < n then D (w 1).v.natAbs else .nl, if 2 < n then .b (decide ((w 2).v < 0)) else .b false, if 2 < n then D (w 2).v.natAbs else .nl, if 3 < n then .b (decide ((w 3).v < 0)) else .b false, if 3 < n then D (w 3).v.natAbs else .nl, if 4 < n then .b (decide ((w 4).v < 0)) else .b false, if 4 < n then D (w 4).v.natAbs else .nl, if 5 < n then .b (decide ((w 5).v < 0)) else .b false, if 5 < n then D (w 5).v.natAbs else .nl, if 6 < n then .b (decide ((w 6).v < 0)) else .b false, if 6 < n then D (w 6).v.natAbs else .nl, if 7 < n then .b (decide ((w 7).v < 0)) else .b false, if 7 < n then D (w 7).v.natAbs else .nl, if 8 < n then .b (decide ((w 8).v < 0)) else .b false, if 8 < n then D (w 8).v.natAbs else .nl]
theorem zcR (n : Nat) (w : Nat → WI) : cP n w = [if 0 < n then .b (decide ((w 0).v < 0)) else .b false, if 0 < n then D (w 0).v.natAbs else .nl, if 1 < n then .b (decide ((w 1).v < 0)) else .b false, if 1 < n then D (w 1).v.natAbs else .nl, if 2 < n then .b (decide ((w 2).v < 0)) else .b false, if 2 < n then D (w 2).v.natAbs else .nl, if 3 < n then .b (decide ((w 3).v < 0)) else .b false, if 3 < n then D (w 3).v.natAbs else .nl, if 4 < n then .b (decide ((w 4).v < 0)) else .b false, if 4 < n then D (w 4).v.natAbs else .nl, if 5 < n then .b (decide ((w 5).v < 0)) else .b false, if 5 < n then D (w 5).v.natAbs else .nl, if 6 < n then .b (decide ((w 6).v < 0)) else .b false, if 6 < n then D (w 6).v.natAbs else .nl, if 7 < n then .b (decide ((w 7).v < 0)) else .b false, if 7 < n then D (w 7).v.natAbs else .nl, if 8 < n then .b (decide ((w 8).v < 0)) else .b false, if 8 < n then D (w 8).v.natAbs else .nl] := _root_.id rfl
theorem cP9 (w : Nat → WI) : cP 9 w = cW w := rfl
def cQ (n : Nat) (p : Nat → Int) : List PV := [.i .i64 (if 0 < n then p 0 else 0), .i .i64 (if 1 < n then p 1 else 0), .i .i64 (if 2 < n then p 2 else 0), .i .i64 (if 3 < n then p 3 else 0), .i .i64 (if 4 < n then p 4 else 0), .i .i64 (if 5 < n then p 5 else 0), .i .i64 (if 6 < n then p 6 else 0), .i .i64 (if 7 < n then p 7 else 0), .i .i64 (if 8 < n then p 8 else 0)]
theorem cQ9 (p : Nat → Int) : cQ 9 p = cI p := rfl
theorem zeh {i : Nat} (h : i < 9) : i = 0 ∨ i = 1 ∨ i = 2 ∨ i = 3 ∨ i = 4 ∨ i = 5 ∨ i = 6 ∨ i = 7 ∨ i = 8 := by omega
theorem zhJ {i : Nat} (h : i < 3) : i = 0 ∨ i = 1 ∨ i = 2 := by omega
@[go_sem] theorem zum (p : Nat → Int) : (cI p).all PV.scal = true := _root_.id rfl
@[go_sem] theorem zuo (w : Nat → WI) : (cW w).all PV.scal = true := _root_.id rfl
@[go_sem] theorem zua (p : Nat → Int) : (cI p).length = 9 := _root_.id rfl
@[go_sem] theorem zug (w : Nat → WI) : (cW w).length = 18 := _root_.id rfl
@[go_sem] theorem zux (p : Nat → Int) : (cI p).take 9 = cI p := _root_.id rfl
@[go_sem] theorem zuz (w : Nat → WI) : (cW w).take 18 = cW w := _root_.id rfl
@[go_sem] theorem zuc (n : Nat) (w : Nat → WI) : (cP n w).length = 18 := _root_.id rfl
@[go_sem] theorem zud (n : Nat) (p : Nat → Int) : (cQ n p).length = 9 := _root_.id rfl
@[go_sem] theorem zur (n : Nat) (w u : Nat → WI) : psplice (cP n w) 0 (cW u) = cW u := _root_.id rfl
@[go_sem] theorem zus (n : Nat) (w u : Nat → Int) : psplice (cQ n w) 0 (cI u) = cI u := _root_.id rfl
noncomputable def ofW (p : Nat → Int) : Nat → WI := fun e => clip (p e)
theorem zma {p : Nat → Int} {e : Nat} (h : Fits64 (p e)) : (ofW p e).v = p e := zdS (zgi h)
theorem zb9 {n : Int} (h : Fits64 n) : pf E0 34 [.i .i64 n] = some (wiP (clip n)) := by
 rw [zew h]
 congr 2
 exact WI.ext' (by rw [zdS (zgi h)]; rfl)
set_option maxHeartbeats 2000000 in
theorem zmF {p : Nat → Int} (hp : ∀ e, Fits64 (p e)) : pf E0 307 [pI p] = some (mW (ofW p)) := by
 refine zaa (xf := zw4) rfl (by simp [zw4]) ?_
 simp only [zw4]
 simp (disch := omega) only [go_sem, seval, wqq]
 refine zat zxD.eq_1 (fun (i : Nat) fr M => i ≤ 9 ∧ fr 2 = .p 1 0 ∧ fr 3 = .p 2 0 ∧ fr 7 = pI p ∧ fr 8 = (PV.i .i64 ((i : Nat) : Int)) ∧ ∃ b0 b1 v, M = [b0, some ⟨cP 0 zW, true, b1⟩, some ⟨cP i (ofW p), true, v⟩]) (fun i => 9 - i) ?_ 0 ⟨by omega, by simp only [go_sem, seval], by simp only [go_sem, seval], by simp only [go_sem, seval], by simp only [go_sem, seval], _, _, _, rfl⟩
 rintro i fr M ⟨hi, f2, f3, f7, f8, b0, b1, v, rfl⟩ ih
 rcases Nat.lt_or_ge i 9 with h9 | h9
 ·have q1 : ((i : Int) < 9) = True := eq_true (by omega)
  obtain rfl | rfl | rfl | rfl | rfl | rfl | rfl | rfl | rfl := zeh h9
  ·have fr0 := zb9 (hp 0)
   simp (disch := omega) only [go_sem, seval, wqq, f2, f3, f7, f8, pI, zag, zcR, fr0]
   exact ih 1 _ _ (by omega) ⟨by omega, by simp only [go_sem, seval, f2], by simp only [go_sem, seval, f3], by simp only [go_sem, seval, f7], by simp only [go_sem, seval], _, _, _, rfl⟩
  ·have fr0 := zb9 (hp 1)
   simp (disch := omega) only [go_sem, seval, wqq, f2, f3, f7, f8, pI, zag, zcR, fr0]
   exact ih 2 _ _ (by omega) ⟨by omega, by simp only [go_sem, seval, f2], by simp only [go_sem, seval, f3], by simp only [go_sem, seval, f7], by simp only [go_sem, seval], _, _, _, rfl⟩
  ·have fr0 := zb9 (hp 2)
   simp (disch := omega) only [go_sem, seval, wqq, f2, f3, f7, f8, pI, zag, zcR, fr0]
   exact ih 3 _ _ (by omega) ⟨by omega, by simp only [go_sem, seval, f2], by simp only [go_sem, seval, f3], by simp only [go_sem, seval, f7], by simp only [go_sem, seval], _, _, _, rfl⟩
  ·have fr0 := zb9 (hp 3)
   simp (disch := omega) only [go_sem, seval, wqq, f2, f3, f7, f8, pI, zag, zcR, fr0]
   exact ih 4 _ _ (by omega) ⟨by omega, by simp only [go_sem, seval, f2], by simp only [go_sem, seval, f3], by simp only [go_sem, seval, f7], by simp only [go_sem, seval], _, _, _, rfl⟩
  ·have fr0 := zb9 (hp 4)
   simp (disch := omega) only [go_sem, seval, wqq, f2, f3, f7, f8, pI, zag, zcR, fr0]
   exact ih 5 _ _ (by omega) ⟨by omega, by simp only [go_sem, seval, f2], by simp only [go_sem, seval, f3], by simp only [go_sem, seval, f7], by simp only [go_sem, seval], _, _, _, rfl⟩
  ·have fr0 := zb9 (hp 5)
   simp (disch := omega) only [go_sem, seval, wqq, f2, f3, f7, f8, pI, zag, zcR, fr0]
   exact ih 6 _ _ (by omega) ⟨by omega, by simp only [go_sem, seval, f2], by simp only [go_sem, seval, f3], by simp only [go_sem, seval, f7], by simp only [go_sem, seval], _, _, _, rfl⟩
  ·have fr0 := zb9 (hp 6)
   simp (disch := omega) only [go_sem, seval, wqq, f2, f3, f7, f8, pI, zag, zcR, fr0]
   exact ih 7 _ _ (by omega) ⟨by omega, by simp only [go_sem, seval, f2], by simp only [go_sem, seval, f3], by simp only [go_sem, seval, f7], by simp only [go_sem, seval], _, _, _, rfl⟩
  ·have fr0 := zb9 (hp 7)
   simp (disch := omega) only [go_sem, seval, wqq, f2, f3, f7, f8, pI, zag, zcR, fr0]
   exact ih 8 _ _ (by omega) ⟨by omega, by simp only [go_sem, seval, f2], by simp only [go_sem, seval, f3], by simp only [go_sem, seval, f7], by simp only [go_sem, seval], _, _, _, rfl⟩
  ·have fr0 := zb9 (hp 8)
   simp (disch := omega) only [go_sem, seval, wqq, f2, f3, f7, f8, pI, zag, zcR, fr0]
   exact ih 9 _ _ (by omega) ⟨by omega, by simp only [go_sem, seval, f2], by simp only [go_sem, seval, f3], by simp only [go_sem, seval, f7], by simp only [go_sem, seval], _, _, _, rfl⟩
 ·obtain rfl : i = 9 := by omega
  simp (disch := omega) only [go_sem, seval, wqq, f2, f3, f7, f8, cP9]
end Go.Eng
namespace Go.Eng
def gI (p q : Int) : Int := ((Nat.gcd p.natAbs q.natAbs : Nat) : Int)
def lowP (p q : Int) : Int := (if q < 0 then -p else p) / gI p q
def lowQ (p q : Int) : Int := (if q < 0 then -q else q) / gI p q
theorem zeS {p q : Int} (h : q ≠ 0) : gI p q ≠ 0 := by
 unfold gI
 intro e
 have : Nat.gcd p.natAbs q.natAbs = 0 := by omega
 have := Nat.eq_zero_of_gcd_eq_zero_right this
 omega
theorem zdY {p q : Int} (h : q ≠ 0) : 0 < gI p q := by
 have := zeS (p := p) h
 unfold gI at *
 omega
theorem zbH (p q : Int) : gI p q ∣ p := Int.ofNat_dvd_left.2 (Nat.gcd_dvd_left _ _)
theorem zcm (p q : Int) : gI p q ∣ q := Int.ofNat_dvd_left.2 (Nat.gcd_dvd_right _ _)
theorem zlc (p q : Int) : gI (-p) (-q) = gI p q := by unfold gI; rw [Int.natAbs_neg, Int.natAbs_neg]
theorem zd2 {p q : Int} (h : q ≠ 0) : lowP p q * gI p q = (if q < 0 then -p else p) ∧ lowQ p q * gI p q = (if q < 0 then -q else q) := by
 unfold lowP lowQ
 refine ⟨Int.ediv_mul_cancel ?_, Int.ediv_mul_cancel ?_⟩
 ·split
  ·exact Int.dvd_neg.2 (zbH p q)
  ·exact zbH p q
 ·split
  ·exact Int.dvd_neg.2 (zcm p q)
  ·exact zcm p q
theorem zdh {p q : Int} (h : q ≠ 0) : 0 < lowQ p q := by
 have h1 := (zd2 (p := p) h).2
 have h2 := zdY (p := p) h
 have h3 : 0 < lowQ p q * gI p q := by rw [h1]; split <;> omega
 exact Int.pos_of_mul_pos_left h3 h2
theorem zcn {p q : Int} (h : q ≠ 0) : lowP p q * q = p * lowQ p q := by
 obtain ⟨h1, h2⟩ := zd2 (p := p) h
 have h3 := zeS (p := p) h
 apply Int.eq_of_mul_eq_mul_right h3
 rw [Int.mul_right_comm, h1, Int.mul_assoc, h2]
 split <;> grind
theorem zd1 {p q : Int} (h : q ≠ 0) : Nat.gcd (lowP p q).natAbs (lowQ p q).natAbs = 1 := by
 obtain ⟨h1, h2⟩ := zd2 (p := p) h
 have h3 := zdY (p := p) h
 have e1 : (lowP p q).natAbs * (gI p q).natAbs = p.natAbs := by rw [← Int.natAbs_mul, h1]; split <;> omega
 have e2 : (lowQ p q).natAbs * (gI p q).natAbs = q.natAbs := by rw [← Int.natAbs_mul, h2]; split <;> omega
 have e3 : (gI p q).natAbs = Nat.gcd p.natAbs q.natAbs := Int.natAbs_natCast _
 have e4 := Nat.gcd_mul_right (lowP p q).natAbs (gI p q).natAbs (lowQ p q).natAbs
 rw [e1, e2, ← e3] at e4
 have : 0 < (gI p q).natAbs := by omega
 exact Nat.eq_of_mul_eq_mul_right this (by rw [Nat.one_mul]; exact e4.symm)
theorem zdI {p q r s : Int} (hq : 0 < q) (hs : 0 < s) (c1 : Nat.gcd p.natAbs q.natAbs = 1) (c2 : Nat.gcd r.natAbs s.natAbs = 1) (h : p * s = r * q) : p = r ∧ q = s := by
 have n1 : p.natAbs * s.natAbs = r.natAbs * q.natAbs := by rw [← Int.natAbs_mul, ← Int.natAbs_mul, h]
 have d1 : q.natAbs ∣ s.natAbs := by
  have : q.natAbs ∣ p.natAbs * s.natAbs := ⟨r.natAbs, by rw [n1, Nat.mul_comm]⟩
  exact (Nat.Coprime.dvd_of_dvd_mul_left (by rw [Nat.coprime_comm]; exact c1) this)
 have d2 : s.natAbs ∣ q.natAbs := by
  have : s.natAbs ∣ r.natAbs * q.natAbs := ⟨p.natAbs, by rw [← n1, Nat.mul_comm]⟩
  exact (Nat.Coprime.dvd_of_dvd_mul_left (by rw [Nat.coprime_comm]; exact c2) this)
 have e : q.natAbs = s.natAbs := Nat.dvd_antisymm d1 d2
 have e2 : q = s := by omega
 subst e2
 exact ⟨Int.eq_of_mul_eq_mul_right (by omega) h, rfl⟩
theorem zl7 {p q r s : Int} (hq : q ≠ 0) (hs : s ≠ 0) (h : p * s = r * q) : lowP p q = lowP r s ∧ lowQ p q = lowQ r s := by
 refine zdI (zdh hq) (zdh hs) (zd1 hq) (zd1 hs) ?_
 have a := zcn (p := p) hq
 have b := zcn (p := r) hs
 apply Int.eq_of_mul_eq_mul_right (a := q * s) (Int.mul_ne_zero hq hs)
 calc lowP p q * lowQ r s * (q * s) = (lowP p q * q) * (lowQ r s * s) := by grind
  _ = p * lowQ p q * (lowQ r s * s) := by rw [a]
  _ = p * s * (lowQ p q * lowQ r s) := by grind
  _ = r * q * (lowQ p q * lowQ r s) := by rw [h]
  _ = r * lowQ r s * (lowQ p q * q) := by grind
  _ = lowP r s * s * (lowQ p q * q) := by rw [b]
  _ = lowP r s * lowQ p q * (q * s) := by grind
theorem zdH {p q : Int} (hq : 0 < q) (c : Nat.gcd p.natAbs q.natAbs = 1) : lowP p q = p ∧ lowQ p q = q := by
 unfold lowP lowQ gI
 rw [c, if_neg (by omega), if_neg (by omega)]
 exact ⟨Int.ediv_one _, Int.ediv_one _⟩
theorem zdf {p q : Int} (h : q ≠ 0) : (lowP p q).natAbs ≤ p.natAbs := by
 have h1 := (zd2 (p := p) h).1
 have h3 := zdY (p := p) h
 have e1 : (lowP p q).natAbs * (gI p q).natAbs = p.natAbs := by rw [← Int.natAbs_mul, h1]; split <;> omega
 rw [← e1]
 exact Nat.le_mul_of_pos_right _ (by omega)
theorem zdg {p q : Int} (h : q ≠ 0) : (lowQ p q).natAbs ≤ q.natAbs := by
 have h1 := (zd2 (p := p) h).2
 have h3 := zdY (p := p) h
 have e1 : (lowQ p q).natAbs * (gI p q).natAbs = q.natAbs := by rw [← Int.natAbs_mul, h1]; split <;> omega
 rw [← e1]
 exact Nat.le_mul_of_pos_right _ (by omega)
end Go.Eng
namespace Go.Eng
structure FQ where
 p : WI
 q : WI
 q1 : 1 ≤ q.v
 cop : Nat.gcd p.v.natAbs q.v.natAbs = 1
theorem zjF {y : WI} (hy : 1 ≤ y.v) : wlen (y.v - 1).natAbs ≤ 512 := by
 have h := (zaP _).1 y.lim
 refine (zaP _).2 ?_
 unfold inR at *
 exact Nat.lt_of_le_of_lt (by omega) h
def FQ.l (f : FQ) : WI := ⟨f.q.v - 1, zjF f.q1⟩
noncomputable def fqP (f : FQ) : PV := .ag [.b (decide (f.p.v < 0)), D f.p.v.natAbs, .b (decide (f.l.v < 0)), D f.l.v.natAbs]
@[go_sem] theorem zsq (M : PM) (d : Nat) (f : FQ) : fz M (d + 1 + 1) (fqP f) = some (fqP f, []) := _root_.id rfl
@[go_sem] theorem znw (f : FQ) : (fqP f).cells = [.b (decide (f.p.v < 0)), D f.p.v.natAbs, .b (decide (f.l.v < 0)), D f.l.v.natAbs] := _root_.id rfl
@[go_sem] theorem zqd (f : FQ) : PV.ag [.b (decide (f.p.v < 0)), D f.p.v.natAbs, .b (decide (f.l.v < 0)), D f.l.v.natAbs] = fqP f := _root_.id rfl
theorem zlj (x : WI) (e : Int) : pf E0 37 [wiP x, .i .i64 e] = some (wiP x) := by
 refine zaa (xf := zwu) rfl (by simp [zwu]) ?_
 simp only [zwu]
 simp (disch := omega) only [go_sem, seval, wqq]
theorem zdw (x g : WI) (h : g.v ≠ 0) : ∃ q : WI, q.v = x.v / g.v ∧ pf E0 21 [wiP x, wiP g] = some (wiP q) := by
 have fd := zmp x g h
 refine ⟨x.div g h, rfl, ?_⟩
 refine zaa (xf := zwj) rfl (by simp [zwj]) ?_
 simp only [zwj]
 simp (disch := omega) only [go_sem, seval, wqq, fd]
noncomputable def wi1 : WI := wiOf 1 (by decide)
theorem zoU : wi1.v = 1 := rfl
theorem zc5 (x y : WI) : pf E0 20 [.lst [wiP x, wiP y]] = some (.tu [wiP (clip (x.v * y.v)), .i .i64 (lerr (x.v * y.v))]) := by
 refine zaa (xf := zwc) rfl (by simp [zwc]) ?_
 simp only [zwc]
 have f1 : pf E0 34 [.i .i64 1] = some (wiP wi1) := zew (n := 1) (by decide)
 have m1 : pf E0 38 [wiP wi1, wiP x] = some (.tu [wiP x, .i .i64 0]) := by
  have h := ziO wi1 x
  rw [zoU, Int.one_mul, zde x.lim, zbt x.lim] at h
  exact h
 have m2 := ziO x y
 generalize wi1 = w1 at *
 simp (disch := omega) only [go_sem, seval, wqq, f1]
 refine zac zv2.eq_1 ?_
 simp (disch := omega) only [go_sem, seval, wqq, m1]
 refine zac zv2.eq_1 ?_
 by_cases h : wlen (x.v * y.v).natAbs ≤ 512
 ·have e := zde h
  rw [e] at m2 ⊢
  simp (disch := omega) only [go_sem, seval, wqq, m2]
  refine zac zv2.eq_1 ?_
  simp (disch := omega) only [go_sem, seval, wqq, m2]
 ·have e := ze0 h
  have e2 := zeM h
  rw [e, e2] at m2 ⊢
  simp (disch := omega) only [go_sem, seval, wqq, m2]
theorem zlW : Nat.gcd wi0.v.natAbs wi1.v.natAbs = 1 := by decide
noncomputable def fq0 : FQ := ⟨wi0, wi1, by decide, zlW⟩
theorem zla : fqP fq0 = .ag [.b false, .lst [], .b false, .lst []] := by
 have h1 : D (0 : Int).natAbs = .lst [] := zni.symm
 show PV.ag [.b (decide ((0 : Int) < 0)), D (0 : Int).natAbs, .b (decide ((1 : Int) - 1 < 0)), D ((1 : Int) - 1).natAbs] = _
 rw [show (1 : Int) - 1 = 0 by decide, h1]; rfl
theorem zgX (x y : WI) (hy : 1 ≤ y.v) (hc : Nat.gcd x.v.natAbs y.v.natAbs = 1) : pf E0 22 [wiP x, wiP y, .i .i64 0, .i .i64 0] = some (.tu [fqP ⟨x, y, hy, hc⟩, .i .i64 0]) := by
 refine zaa (xf := zvj) rfl (by simp [zvj]) ?_
 simp only [zvj]
 have f1 : pf E0 34 [.i .i64 1] = some (wiP wi1) := zew (n := 1) (by decide)
 have s1 := zmw y wi1
 rw [zoU] at s1
 have m1 := zlj (clip (y.v - 1)) (lerr (y.v - 1))
 have cv := zdS (zjF hy)
 generalize lerr (y.v - 1) = le at *
 generalize wi1 = w1 at *
 have hq : fqP ⟨x, y, hy, hc⟩ = .ag [.b (decide (x.v < 0)), D x.v.natAbs, .b (decide ((clip (y.v - 1)).v < 0)), D (clip (y.v - 1)).v.natAbs] := by rw [cv]; rfl
 rw [hq]
 generalize clip (y.v - 1) = z at *
 simp (disch := omega) only [go_sem, seval, wqq]
 refine zap [4, 5] rfl (by simp only [go_sem, seval]) ?_
 simp (disch := omega) only [go_sem, seval, wqq, f1, s1, m1, zaG, zak]
theorem ziY (x y : WI) {e f : Int} (h : e ≠ 0 ∨ f ≠ 0) : pf E0 22 [wiP x, wiP y, .i .i64 e, .i .i64 f] = some (.tu [fqP fq0, .i .i64 4]) := by
 refine zaa (xf := zvj) rfl (by simp [zvj]) ?_
 simp only [zvj]
 rw [zla]
 by_cases he : e = 0
 ·have hf : (f = 0) = False := by simp; rcases h with h | h <;> first | exact h | exact absurd he h
  have he : (e = 0) = True := by simp [he]
  simp (disch := omega) only [go_sem, seval, wqq, he, hf]
 ·have he : (e = 0) = False := by simp [he]
  simp (disch := omega) only [go_sem, seval, wqq, he]
theorem zmt (x y : WI) (h : y.v = 0) : pf E0 24 [wiP x, wiP y] = some (.tu [fqP fq0, .i .i64 1]) := by
 refine zaa (xf := zvf) rfl (by simp [zvf]) ?_
 simp only [zvf]
 rw [zla]
 have sy := zbQ y
 have sc : (cmpI y.v 0 = 0) = True := by rw [h]; simp [cmpI]
 simp (disch := omega) only [go_sem, seval, wqq, sy, sc]
theorem ziN (x y g : WI) (hg : g.v = gI x.v y.v) (hy : 0 < y.v) : ∃ f : FQ, f.p.v = lowP x.v y.v ∧ f.q.v = lowQ x.v y.v ∧ ∃ a b : WI, pf E0 21 [wiP x, wiP g] = some (wiP a) ∧ pf E0 21 [wiP y, wiP g] = some (wiP b) ∧ pf E0 22 [wiP a, wiP b, .i .i64 0, .i .i64 0] = some (.tu [fqP f, .i .i64 0]) := by
 have gn : g.v ≠ 0 := by rw [hg]; exact zeS (by omega)
 obtain ⟨a, ha, fa⟩ := zdw x g gn
 obtain ⟨b, hb, fb⟩ := zdw y g gn
 have e1 : a.v = lowP x.v y.v := by rw [ha, hg]; unfold lowP; rw [if_neg (by omega)]
 have e2 : b.v = lowQ x.v y.v := by rw [hb, hg]; unfold lowQ; rw [if_neg (by omega)]
 have hq : 1 ≤ b.v := by rw [e2]; exact zdh (by omega)
 have hc : Nat.gcd a.v.natAbs b.v.natAbs = 1 := by rw [e1, e2]; exact zd1 (by omega)
 exact ⟨⟨a, b, hq, hc⟩, e1, e2, a, b, fa, fb, zgX a b hq hc⟩
theorem zer (p q : Int) (h : q < 0) : lowP (-p) (-q) = lowP p q ∧ lowQ (-p) (-q) = lowQ p q := by
 have h2 : ¬ -q < 0 := by omega
 unfold lowP lowQ
 rw [zlc]
 simp only [h, h2, if_true, if_false, and_self]
theorem zgS (x y : WI) (h : y.v ≠ 0) : ∃ f : FQ, f.p.v = lowP x.v y.v ∧ f.q.v = lowQ x.v y.v ∧ pf E0 24 [wiP x, wiP y] = some (.tu [fqP f, .i .i64 0]) := by
 by_cases hn : y.v < 0
 ·have hg := zf7 x.neg y.neg
  obtain ⟨f, h1, h2, a, b, fa, fb, fl⟩ := ziN x.neg y.neg (x.neg.gcd y.neg) rfl (by show 0 < -y.v; omega)
  obtain ⟨l1, l2⟩ := zer x.v y.v hn
  refine ⟨f, h1.trans l1, h2.trans l2, ?_⟩
  generalize x.neg.gcd y.neg = g at *
  refine zaa (xf := zvf) rfl (by simp [zvf]) ?_
  simp only [zvf]
  have sy := zbQ y
  have sc : cmpI y.v 0 = -1 := by unfold cmpI; rw [if_pos hn]
  rw [sc] at sy
  have n1 := zks x
  have n2 := zks y
  generalize x.neg = xn at *
  generalize y.neg = yn at *
  simp (disch := omega) only [go_sem, seval, wqq, sy]
  refine zap [3] rfl (by simp only [go_sem, seval]) ?_
  simp (disch := omega) only [go_sem, seval, wqq, n1, n2, hg]
  refine zap [3, 6] rfl (by simp only [go_sem, seval]) ?_
  simp (disch := omega) only [go_sem, seval, wqq, fa, fb, fl]
 ·have hg := zf7 x y
  obtain ⟨f, h1, h2, a, b, fa, fb, fl⟩ := ziN x y (x.gcd y) rfl (by omega)
  refine ⟨f, h1, h2, ?_⟩
  generalize x.gcd y = g at *
  refine zaa (xf := zvf) rfl (by simp [zvf]) ?_
  simp only [zvf]
  have sy := zbQ y
  have sc : cmpI y.v 0 = 1 := by unfold cmpI; rw [if_neg hn, if_pos (by omega)]
  rw [sc] at sy
  simp (disch := omega) only [go_sem, seval, wqq, sy, hg]
  refine zap [3, 6] rfl (by simp only [go_sem, seval]) ?_
  simp (disch := omega) only [go_sem, seval, wqq, fa, fb, fl]
end Go.Eng
namespace Go.Eng
theorem zop (f : FQ) : pf E0 64 [fqP f] = some (wiP f.p) := by
 refine zaa (xf := zu8) rfl (by simp [zu8]) ?_
 simp only [zu8]
 simp (disch := omega) only [go_sem, seval, wqq]
theorem zdv (f : FQ) : pf E0 19 [fqP f] = some (wiP f.q) := by
 refine zaa (xf := zu7) rfl (by simp [zu7]) ?_
 simp only [zu7]
 have f1 : pf E0 34 [.i .i64 1] = some (wiP wi1) := zew (n := 1) (by decide)
 have s1 := zko f.l wi1
 have e : f.l.v + wi1.v = f.q.v := by show f.q.v - 1 + 1 = f.q.v; omega
 have hc : clip f.q.v = f.q := zbt f.q.lim
 rw [e, hc] at s1
 have m1 := zlj f.q (lerr f.q.v)
 generalize lerr f.q.v = le at *
 generalize wi1 = w1 at *
 simp (disch := omega) only [go_sem, seval, wqq]
 refine zaf [3] rfl ?_ ?_
 ·simp (disch := omega) only [go_sem, seval, wqq, f1, s1, m1]
  exact ⟨_, rfl, rfl⟩
 simp (disch := omega) only [go_sem, seval, wqq, f1, s1, m1]
theorem zmC {p q : Int} (hp : Fits64 p) (hq : Fits64 q) (h : q ≠ 0) : ∃ f : FQ, f.p.v = lowP p q ∧ f.q.v = lowQ p q ∧ pf E0 17 [.i .i64 p, .i .i64 q] = some (.tu [fqP f, .i .i64 0]) := by
 obtain ⟨x, hx, fx⟩ := zie hp
 obtain ⟨y, hy, fy⟩ := zie hq
 obtain ⟨f, h1, h2, fm⟩ := zgS x y (by rw [hy]; exact h)
 rw [hx, hy] at h1 h2
 refine ⟨f, h1, h2, ?_⟩
 refine zaa (xf := zw1) rfl (by simp [zw1]) ?_
 simp only [zw1]
 simp (disch := omega) only [go_sem, seval, wqq, fx, fy, fm]
theorem zlY (x y : WI) : (x.gcd y).v = gI x.v y.v := rfl
@[go_sem] theorem zqo (x y : WI) : group 2 2 [.b (decide (x.v < 0)), Dw (wlen x.v.natAbs) x.v.natAbs, .b (decide (y.v < 0)), Dw (wlen y.v.natAbs) y.v.natAbs] = [wiP x, wiP y] := _root_.id rfl
theorem ziS (a b : FQ) {g s t cx cy cs cd : WI} {ex ey es ed : Int} (hg : pf E0 18 [wiP a.q, wiP b.q] = some (wiP g)) (fs : pf E0 21 [wiP b.q, wiP g] = some (wiP s)) (ft : pf E0 21 [wiP a.q, wiP g] = some (wiP t))
  (nx : pf E0 20 [.lst [wiP a.p, wiP s]] = some (.tu [wiP cx, .i .i64 ex])) (ny : pf E0 20 [.lst [wiP b.p, wiP t]] = some (.tu [wiP cy, .i .i64 ey])) (ns : pf E0 23 [wiP cx, wiP cy] = some (.tu [wiP cs, .i .i64 es]))
  (nd : pf E0 20 [.lst [wiP t, wiP b.q]] = some (.tu [wiP cd, .i .i64 ed])) (f : FQ) (e : Int)
  (hR : (ex = 0 ∧ ey = 0 ∧ es = 0 ∧ ed = 0 ∧ pf E0 24 [wiP cs, wiP cd] = some (.tu [fqP f, .i .i64 e])) ∨ (¬ (ex = 0 ∧ ey = 0 ∧ es = 0 ∧ ed = 0) ∧ f = fq0 ∧ e = 4)) :
  pf E0 9 [fqP a, fqP b] = some (.tu [fqP f, .i .i64 e]) := by
 have da := zdv a
 have db := zdv b
 refine zaa (xf := zwL) rfl (by simp [zwL]) ?_
 simp only [zwL]
 simp (disch := omega) only [go_sem, seval, wqq]
 refine zap [3] rfl (by simp only [go_sem, seval]) ?_
 simp (disch := omega) only [go_sem, seval, wqq, da, db, hg]
 refine zaf [21, 6] rfl ?_ ?_
 ·simp (disch := omega) only [go_sem, seval, wqq, db, fs, nx, zaG, zak]
  exact ⟨_, rfl, rfl⟩
 simp (disch := omega) only [go_sem, seval, wqq, db, fs, nx, zaG, zak]
 refine zaf [32, 6] rfl ?_ ?_
 ·simp (disch := omega) only [go_sem, seval, wqq, da, ft, ny, zaG, zak]
  exact ⟨_, rfl, rfl⟩
 simp (disch := omega) only [go_sem, seval, wqq, da, ft, ny, ns, zaG, zak]
 refine zap [6, 3] rfl (by simp only [go_sem, seval]) ?_
 rcases hR with ⟨h1, h2, h3, h4, hM⟩ | ⟨hn, hf, he⟩
 ·subst h1 h2 h3 h4
  simp (disch := omega) only [go_sem, seval, wqq, da, db, ft, nd, hM, zaG, zak]
 ·subst hf he
  rw [zla]
  by_cases h1 : ex = 0
  ·by_cases h2 : ey = 0
   ·by_cases h3 : es = 0
    ·have h4 : (ed = 0) = False := by simp; exact fun q => hn ⟨h1, h2, h3, q⟩
     subst h1 h2 h3
     simp (disch := omega) only [go_sem, seval, wqq, da, db, ft, nd, h4, zaG, zak]
    ·have h3 : (es = 0) = False := by simp [h3]
     subst h1 h2
     simp (disch := omega) only [go_sem, seval, wqq, da, db, ft, nd, h3, zaG, zak]
   ·have h2 : (ey = 0) = False := by simp [h2]
    subst h1
    simp (disch := omega) only [go_sem, seval, wqq, da, db, ft, nd, h2, zaG, zak]
  ·have h1 : (ex = 0) = False := by simp [h1]
   simp (disch := omega) only [go_sem, seval, wqq, da, db, ft, nd, h1, zaG, zak]
def adX (a b : FQ) : Int := a.p.v * (b.q.v / gI a.q.v b.q.v)
def adY (a b : FQ) : Int := b.p.v * (a.q.v / gI a.q.v b.q.v)
def adD (a b : FQ) : Int := a.q.v / gI a.q.v b.q.v * b.q.v
def adOk (a b : FQ) : Prop := inR (adX a b).natAbs ∧ inR (adY a b).natAbs ∧ inR (adX a b + adY a b).natAbs ∧ inR (adD a b).natAbs
theorem zkZ (a b : FQ) : adD a b ≠ 0 := by
 have ha := a.q1
 have hb := b.q1
 have h1 : a.q.v / gI a.q.v b.q.v * gI a.q.v b.q.v = a.q.v := Int.ediv_mul_cancel (zbH _ _)
 have h2 : a.q.v / gI a.q.v b.q.v ≠ 0 := fun q => by rw [q] at h1; omega
 exact Int.mul_ne_zero h2 (by omega)
theorem zd0 {z : Int} (h : inR z.natAbs) : (clip z).v = z ∧ lerr z = 0 := ⟨zdS ((zaP _).2 h), zde ((zaP _).2 h)⟩
theorem zf3 {z : Int} (h : lerr z = 0) : inR z.natAbs := by
 by_cases q : wlen z.natAbs ≤ 512
 ·exact (zaP _).1 q
 ·rw [ze0 q] at h; cases h
theorem ziR (a b : FQ) : (adOk a b → ∃ f : FQ, f.p.v = lowP (adX a b + adY a b) (adD a b) ∧ f.q.v = lowQ (adX a b + adY a b) (adD a b) ∧ pf E0 9 [fqP a, fqP b] = some (.tu [fqP f, .i .i64 0])) ∧
  (¬ adOk a b → pf E0 9 [fqP a, fqP b] = some (.tu [fqP fq0, .i .i64 4])) := by
 have hg := zf7 a.q b.q
 have gv := zlY a.q b.q
 have gn : (a.q.gcd b.q).v ≠ 0 := by rw [gv]; exact zeS (by have := b.q1; omega)
 obtain ⟨s, hs, fs⟩ := zdw b.q (a.q.gcd b.q) gn
 obtain ⟨t, ht, ft⟩ := zdw a.q (a.q.gcd b.q) gn
 rw [gv] at hs ht
 have nx := zc5 a.p s
 have ny := zc5 b.p t
 have nd := zc5 t b.q
 have eX : a.p.v * s.v = adX a b := by rw [hs]; rfl
 have eY : b.p.v * t.v = adY a b := by rw [ht]; rfl
 have eD : t.v * b.q.v = adD a b := by rw [ht]; rfl
 rw [eX] at nx
 rw [eY] at ny
 rw [eD] at nd
 have ns := zko (clip (adX a b)) (clip (adY a b))
 constructor
 ·rintro ⟨r1, r2, r3, r4⟩
  obtain ⟨c1, l1⟩ := zd0 r1
  obtain ⟨c2, l2⟩ := zd0 r2
  obtain ⟨c3, l3⟩ := zd0 r3
  obtain ⟨c4, l4⟩ := zd0 r4
  rw [c1, c2] at ns
  obtain ⟨f, h1, h2, fm⟩ := zgS (clip (adX a b + adY a b)) (clip (adD a b)) (by rw [c4]; exact zkZ a b)
  rw [c3, c4] at h1 h2
  exact ⟨f, h1, h2, ziS a b hg fs ft nx ny ns nd f 0 (.inl ⟨l1, l2, l3, l4, fm⟩)⟩
 ·intro hn
  refine ziS a b hg fs ft nx ny ns nd fq0 4 (.inr ⟨fun ⟨l1, l2, l3, l4⟩ => hn ?_, rfl, rfl⟩)
  have r1 := zf3 l1
  have r2 := zf3 l2
  rw [(zd0 r1).1, (zd0 r2).1] at l3
  exact ⟨r1, r2, zf3 l3, zf3 l4⟩
end Go.Eng
namespace Go.Eng
def FQ.neg (f : FQ) : FQ := ⟨f.p.neg, f.q, f.q1, by show Nat.gcd (-f.p.v).natAbs f.q.v.natAbs = 1; rw [Int.natAbs_neg]; exact f.cop⟩
theorem ziW (a : FQ) : pf E0 67 [fqP a] = some (.i .i64 (cmpI a.p.v 0)) := by
 refine zaa (xf := zwm) rfl (by simp [zwm]) ?_
 simp only [zwm]
 simp (disch := omega) only [go_sem, seval, wqq]
theorem ziV (a b : FQ) {g h u v w z cp cq : WI} {ep eq : Int} (f : FQ) (e : Int) (hg : pf E0 18 [wiP a.p, wiP b.q] = some (wiP g)) (hh : pf E0 18 [wiP b.p, wiP a.q] = some (wiP h))
  (fu : pf E0 21 [wiP a.p, wiP g] = some (wiP u)) (fv : pf E0 21 [wiP b.p, wiP h] = some (wiP v)) (n1 : pf E0 20 [.lst [wiP u, wiP v]] = some (.tu [wiP cp, .i .i64 ep]))
  (fw : pf E0 21 [wiP a.q, wiP h] = some (wiP w)) (fz' : pf E0 21 [wiP b.q, wiP g] = some (wiP z)) (n2 : pf E0 20 [.lst [wiP w, wiP z]] = some (.tu [wiP cq, .i .i64 eq]))
  (fl : pf E0 22 [wiP cp, wiP cq, .i .i64 ep, .i .i64 eq] = some (.tu [fqP f, .i .i64 e])) : pf E0 8 [fqP a, fqP b] = some (.tu [fqP f, .i .i64 e]) := by
 have da := zdv a
 have db := zdv b
 refine zaa (xf := zwK) rfl (by simp [zwK]) ?_
 simp only [zwK]
 simp (disch := omega) only [go_sem, seval, wqq]
 refine zaf [12, 17, 2] rfl ?_ ?_
 ·simp (disch := omega) only [go_sem, seval, wqq, da, db, hg, hh]
  exact ⟨_, rfl, rfl⟩
 simp (disch := omega) only [go_sem, seval, wqq, da, db, hg, hh]
 refine zaf [27, 7] rfl ?_ ?_
 ·simp (disch := omega) only [go_sem, seval, wqq, fu, fv, n1, zaG, zak]
  exact ⟨_, rfl, rfl⟩
 simp (disch := omega) only [go_sem, seval, wqq, fu, fv, n1, zaG, zak]
 refine zap [7, 3, 6] rfl (by simp only [go_sem, seval]) ?_
 simp (disch := omega) only [go_sem, seval, wqq, da, db, fw, fz', n2, fl, zaG, zak]
end Go.Eng
namespace Go.Eng
theorem zh0 {p s : Int} (hs : s ≠ 0) : Nat.Coprime (p / gI p s).natAbs (s / gI p s).natAbs := by
 have g := zdY (p := p) hs
 have e1 : (p / gI p s).natAbs * (gI p s).natAbs = p.natAbs := by rw [← Int.natAbs_mul, Int.ediv_mul_cancel (zbH p s)]
 have e2 : (s / gI p s).natAbs * (gI p s).natAbs = s.natAbs := by rw [← Int.natAbs_mul, Int.ediv_mul_cancel (zcm p s)]
 have e3 : (gI p s).natAbs = Nat.gcd p.natAbs s.natAbs := Int.natAbs_natCast _
 have e4 := Nat.gcd_mul_right (p / gI p s).natAbs (gI p s).natAbs (s / gI p s).natAbs
 rw [e1, e2, ← e3] at e4
 have : 0 < (gI p s).natAbs := by omega
 exact Nat.eq_of_mul_eq_mul_right this (by rw [Nat.one_mul]; exact e4.symm)
theorem zl8 {p q r s : Int} (hq : 0 < q) (hs : 0 < s) (c1 : Nat.gcd p.natAbs q.natAbs = 1) (c2 : Nat.gcd r.natAbs s.natAbs = 1) :
  p / gI p s * (r / gI r q) = lowP (p * r) (q * s) ∧ q / gI r q * (s / gI p s) = lowQ (p * r) (q * s) ∧ 0 < q / gI r q * (s / gI p s) ∧ Nat.gcd (p / gI p s * (r / gI r q)).natAbs (q / gI r q * (s / gI p s)).natAbs = 1 := by
 have g1 := zdY (p := p) (q := s) (by omega)
 have g2 := zdY (p := r) (q := q) (by omega)
 have k1 := zh0 (p := p) (s := s) (by omega)
 have k2 := zh0 (p := r) (s := q) (by omega)
 have a1 : p / gI p s * gI p s = p := Int.ediv_mul_cancel (zbH p s)
 have a2 : s / gI p s * gI p s = s := Int.ediv_mul_cancel (zcm p s)
 have a3 : r / gI r q * gI r q = r := Int.ediv_mul_cancel (zbH r q)
 have a4 : q / gI r q * gI r q = q := Int.ediv_mul_cancel (zcm r q)
 generalize gI p s = g at *
 generalize gI r q = h at *
 generalize p / g = u at *
 generalize s / g = z at *
 generalize r / h = v at *
 generalize q / h = w at *
 have z0 : 0 < z := Int.pos_of_mul_pos_left (by rw [a2]; exact hs) g1
 have w0 : 0 < w := Int.pos_of_mul_pos_left (by rw [a4]; exact hq) g2
 have du : u.natAbs ∣ p.natAbs := Int.natAbs_dvd_natAbs.2 ⟨g, a1.symm⟩
 have dw : w.natAbs ∣ q.natAbs := Int.natAbs_dvd_natAbs.2 ⟨h, a4.symm⟩
 have dv : v.natAbs ∣ r.natAbs := Int.natAbs_dvd_natAbs.2 ⟨h, a3.symm⟩
 have dz : z.natAbs ∣ s.natAbs := Int.natAbs_dvd_natAbs.2 ⟨g, a2.symm⟩
 have k3 : Nat.Coprime u.natAbs w.natAbs := Nat.Coprime.coprime_dvd_left du (Nat.Coprime.coprime_dvd_right dw c1)
 have k4 : Nat.Coprime v.natAbs z.natAbs := Nat.Coprime.coprime_dvd_left dv (Nat.Coprime.coprime_dvd_right dz c2)
 have hc : Nat.gcd (u * v).natAbs (w * z).natAbs = 1 := by
  rw [Int.natAbs_mul, Int.natAbs_mul]
  exact Nat.Coprime.mul_left (Nat.Coprime.mul_right k3 k1) (Nat.Coprime.mul_right k2 k4)
 have hp : 0 < w * z := Int.mul_pos w0 z0
 have hx : q * s ≠ 0 := Int.mul_ne_zero (by omega) (by omega)
 have cr := zcn (p := p * r) hx
 obtain ⟨e1, e2⟩ := zdI (p := u * v) (q := w * z) hp (zdh hx) hc (zd1 hx) (by
  apply Int.eq_of_mul_eq_mul_right (a := q * s) hx
  have : u * v * (q * s) = p * r * (w * z) := by rw [← a1, ← a2, ← a3, ← a4]; grind
  calc u * v * lowQ (p * r) (q * s) * (q * s) = u * v * (q * s) * lowQ (p * r) (q * s) := by grind
   _ = p * r * (w * z) * lowQ (p * r) (q * s) := by rw [this]
   _ = p * r * lowQ (p * r) (q * s) * (w * z) := by grind
   _ = lowP (p * r) (q * s) * (q * s) * (w * z) := by rw [cr]
   _ = lowP (p * r) (q * s) * (w * z) * (q * s) := by grind)
 exact ⟨e1, e2, hp, hc⟩
def muP (a b : FQ) : Int := lowP (a.p.v * b.p.v) (a.q.v * b.q.v)
def muQ (a b : FQ) : Int := lowQ (a.p.v * b.p.v) (a.q.v * b.q.v)
theorem zgW (a b : FQ) : (inR (muP a b).natAbs ∧ inR (muQ a b).natAbs → ∃ f : FQ, f.p.v = muP a b ∧ f.q.v = muQ a b ∧ pf E0 8 [fqP a, fqP b] = some (.tu [fqP f, .i .i64 0])) ∧
  (¬ (inR (muP a b).natAbs ∧ inR (muQ a b).natAbs) → pf E0 8 [fqP a, fqP b] = some (.tu [fqP fq0, .i .i64 4])) := by
 have qa := a.q1
 have qb := b.q1
 obtain ⟨m1, m2, m3, m4⟩ := zl8 (p := a.p.v) (q := a.q.v) (r := b.p.v) (s := b.q.v) (by omega) (by omega) a.cop b.cop
 have hg := zf7 a.p b.q
 have hh := zf7 b.p a.q
 have gv := zlY a.p b.q
 have hv := zlY b.p a.q
 have gn : (a.p.gcd b.q).v ≠ 0 := by rw [gv]; exact zeS (by omega)
 have hn : (b.p.gcd a.q).v ≠ 0 := by rw [hv]; exact zeS (by omega)
 obtain ⟨u, eu, fu⟩ := zdw a.p _ gn
 obtain ⟨v, ev, fv⟩ := zdw b.p _ hn
 obtain ⟨w, ew, fw⟩ := zdw a.q _ hn
 obtain ⟨z, ez, fz'⟩ := zdw b.q _ gn
 rw [gv] at eu ez
 rw [hv] at ev ew
 have n1 := zc5 u v
 have n2 := zc5 w z
 have e1 : u.v * v.v = muP a b := by rw [eu, ev]; exact m1
 have e2 : w.v * z.v = muQ a b := by rw [ew, ez]; exact m2
 rw [m1, m2] at m4
 rw [m2] at m3
 have m3 : 0 < muQ a b := m3
 have m4 : Nat.gcd (muP a b).natAbs (muQ a b).natAbs = 1 := m4
 rw [e1] at n1
 rw [e2] at n2
 constructor
 ·rintro ⟨r1, r2⟩
  obtain ⟨c1, l1⟩ := zd0 r1
  obtain ⟨c2, l2⟩ := zd0 r2
  have fl := zgX (clip (muP a b)) (clip (muQ a b)) (by rw [c2]; omega) (by rw [c1, c2]; exact m4)
  rw [l1] at n1
  rw [l2] at n2
  exact ⟨⟨clip (muP a b), clip (muQ a b), by rw [c2]; omega, by rw [c1, c2]; exact m4⟩, c1, c2, ziV a b _ 0 hg hh fu fv n1 fw fz' n2 fl⟩
 ·intro hno
  refine ziV a b fq0 4 hg hh fu fv n1 fw fz' n2 (ziY _ _ ?_)
  by_cases l1 : lerr (muP a b) = 0
  ·right
   intro l2
   exact hno ⟨zf3 l1, zf3 l2⟩
  ·exact .inl l1
end Go.Eng
namespace Go.Eng
theorem zmB (a b : FQ) (h : b.p.v = 0) : pf E0 65 [fqP a, fqP b] = some (.tu [fqP fq0, .i .i64 1]) := by
 have db := zdv b
 have mk := zmt b.q b.p h
 refine zaa (xf := zvE) rfl (by simp [zvE]) ?_
 simp only [zvE]
 rw [zla] at mk ⊢
 simp (disch := omega) only [go_sem, seval, wqq]
 refine zaf [11] rfl ?_ ?_
 ·simp (disch := omega) only [go_sem, seval, wqq, db, mk]
  exact ⟨_, rfl, rfl⟩
 simp (disch := omega) only [go_sem, seval, wqq, db, mk]
theorem ziU (a b f r : FQ) {e : Int} (h : pf E0 24 [wiP b.q, wiP b.p] = some (.tu [fqP f, .i .i64 0])) (hr : pf E0 8 [fqP a, fqP f] = some (.tu [fqP r, .i .i64 e])) : pf E0 65 [fqP a, fqP b] = some (.tu [fqP r, .i .i64 e]) := by
 have db := zdv b
 refine zaa (xf := zvE) rfl (by simp [zvE]) ?_
 simp only [zvE]
 simp (disch := omega) only [go_sem, seval, wqq]
 refine zaf [11] rfl ?_ ?_
 ·simp (disch := omega) only [go_sem, seval, wqq, db, h]
  exact ⟨_, rfl, rfl⟩
 simp (disch := omega) only [go_sem, seval, wqq, db, h, hr]
theorem zlO {p q r s : Int} (hr : r ≠ 0) (hs : 0 < s) (hq : 0 < q) : lowP (p * lowP s r) (q * lowQ s r) = lowP (p * s) (q * r) ∧ lowQ (p * lowP s r) (q * lowQ s r) = lowQ (p * s) (q * r) := by
 have h1 := zdh (p := s) hr
 refine zl7 (Int.mul_ne_zero (by omega) (by omega)) (Int.mul_ne_zero (by omega) hr) ?_
 have h2 := zcn (p := s) hr
 calc p * lowP s r * (q * r) = p * q * (lowP s r * r) := by grind
  _ = p * q * (s * lowQ s r) := by rw [h2]
  _ = p * s * (q * lowQ s r) := by grind
def dvP (a b : FQ) : Int := lowP (a.p.v * b.q.v) (a.q.v * b.p.v)
def dvQ (a b : FQ) : Int := lowQ (a.p.v * b.q.v) (a.q.v * b.p.v)
theorem ziT (a b : FQ) (h : b.p.v ≠ 0) : (inR (dvP a b).natAbs ∧ inR (dvQ a b).natAbs → ∃ f : FQ, f.p.v = dvP a b ∧ f.q.v = dvQ a b ∧ pf E0 65 [fqP a, fqP b] = some (.tu [fqP f, .i .i64 0])) ∧
  (¬ (inR (dvP a b).natAbs ∧ inR (dvQ a b).natAbs) → pf E0 65 [fqP a, fqP b] = some (.tu [fqP fq0, .i .i64 4])) := by
 have qa := a.q1
 have qb := b.q1
 obtain ⟨f, f1, f2, fm⟩ := zgS b.q b.p h
 obtain ⟨l1, l2⟩ := zlO (p := a.p.v) (q := a.q.v) (r := b.p.v) (s := b.q.v) h (by omega) (by omega)
 have e1 : muP a f = dvP a b := by unfold muP dvP; rw [f1, f2]; exact l1
 have e2 : muQ a f = dvQ a b := by unfold muQ dvQ; rw [f1, f2]; exact l2
 have hm := zgW a f
 rw [e1, e2] at hm
 refine ⟨fun hR => ?_, fun hn => ziU a b f fq0 fm (hm.2 hn)⟩
 obtain ⟨r, r1, r2, hr⟩ := hm.1 hR
 exact ⟨r, r1, r2, ziU a b f r fm hr⟩
end Go.Eng
namespace Go.Eng
noncomputable def ftx (p q : Int) : List UInt8 := if q = 1 then decI p else decI p ++ [47] ++ decI q
theorem zdc (x : WI) : (decI x.v).length ≤ 1000000 := by
 have h := zeW ((zaP _).1 x.lim)
 have h1 : (dec x.v.natAbs).length ≤ 4956 + 1 := by
  unfold dec; split
  ·simp
  ·rw [zbF]; omega
 unfold decI; split <;> (try simp only [List.length_cons]) <;> omega
theorem za9 (f : FQ) : pf E0 16 [fqP f] = some (.s (ftx f.p.v f.q.v)) := by
 have df := zdv f
 have s1 := zon f.p
 have s2 := zon f.q
 have sg := zbQ f.l
 have l1 := zdc f.p
 have l2 := zdc f.q
 have hl : f.l.v = f.q.v - 1 := rfl
 have q1 := f.q1
 refine zaa (xf := zu4) rfl (by simp [zu4]) ?_
 simp only [zu4]
 unfold ftx
 by_cases h : f.q.v = 1
 ·rw [if_pos h]
  have sc : (cmpI f.l.v 0 = 0) = True := by rw [hl, h]; simp [cmpI]
  simp (disch := omega) only [go_sem, seval, wqq, sg, sc, s1]
 ·rw [if_neg h]
  have sc : (cmpI f.l.v 0 = 0) = False := by
   have : cmpI f.l.v 0 = 1 := by unfold cmpI; rw [if_neg (by omega), if_pos (by omega)]
   rw [this]; simp
  have a1 : binP .add (.s (decI f.p.v)) (.s [47]) = some (.s (decI f.p.v ++ [47])) := zbc _ _ (by simp only [List.length_cons, List.length_nil]; omega)
  have a2 : binP .add (.s (decI f.p.v ++ [47])) (.s (decI f.q.v)) = some (.s (decI f.p.v ++ [47] ++ decI f.q.v)) := zbc _ _ (by simp only [List.length_append, List.length_cons, List.length_nil]; omega)
  simp (disch := omega) only [go_sem, seval, wqq, sg, sc]
  refine zap [1] rfl (by simp only [go_sem, seval]) ?_
  simp (disch := omega) only [go_sem, seval, wqq, df, s1, s2, a1, a2]
end Go.Eng
namespace Go.Eng
noncomputable def rfP (p q : Int) : PV := .ag [.b (decide (p < 0)), T p.natAbs, .b (decide (q < 0)), T q.natAbs]
@[go_sem] theorem zst (M : PM) (d : Nat) (p q : Int) : fz M (d + 1 + 1) (rfP p q) = some (rfP p q, []) := _root_.id rfl
@[go_sem] theorem znz (p q : Int) : (rfP p q).cells = [.b (decide (p < 0)), T p.natAbs, .b (decide (q < 0)), T q.natAbs] := _root_.id rfl
@[go_sem] theorem zqi (p q : Int) : PV.ag [.b (decide (p < 0)), T p.natAbs, .b (decide (q < 0)), T q.natAbs] = rfP p q := _root_.id rfl
theorem zeC {n : Int} (h : Fits64 n) : pf E0 185 [.i .i64 n] = some (rfP n 1) := by
 have h1 := zbp n h
 have h2 := zbp 1 (by decide)
 obtain ⟨o, ho⟩ : ∃ o : Int, nP o = nP 1 ∧ rfP n o = rfP n 1 := ⟨1, rfl, rfl⟩
 rw [← ho.1] at h2
 rw [← ho.2]
 clear ho
 refine zaa (xf := zxm) rfl (by simp [zxm]) ?_
 simp only [zxm]
 simp (disch := omega) only [go_sem, seval, wqq, h1, h2, zaG, zak]
theorem zi7 (p : Int) : pf E0 182 [nP p, nP 0] = some (.tu [rfP 0 1, .i .i64 1]) := by
 have h1 := zeC (n := 0) (by decide)
 obtain ⟨o, ho⟩ : ∃ o : Int, o = 0 := ⟨0, rfl⟩
 obtain ⟨r, hr⟩ : ∃ r : Int, r = 1 := ⟨1, rfl⟩
 have t0 : ((tlen o.natAbs : Int) = 0) = True := by rw [ho, Int.natAbs_zero, zaE]; simp
 have e1 : nP 0 = nP o := by rw [ho]
 have e2 : rfP 0 1 = rfP o r := by rw [ho, hr]
 rw [e2] at h1
 rw [e1, e2]
 clear e1 e2 ho hr
 refine zaa (xf := zvB) rfl (by simp [zvB]) ?_
 simp only [zvB]
 simp (disch := omega) only [go_sem, seval, wqq, t0, h1]
theorem zcx (p q : Int) (h : q ≠ 0) (lp : tlen p.natAbs < 90000) (lq : tlen q.natAbs < 90000) : pf E0 182 [nP p, nP q] = some (.tu [rfP (lowP p q) (lowQ p q), .i .i64 0]) := by
 have t0 : ((tlen q.natAbs : Int) = 0) = False := by have := zaO (v := q.natAbs) (by omega); simp; omega
 refine zaa (xf := zvB) rfl (by simp [zvB]) ?_
 simp only [zvB]
 by_cases hn : q < 0
 ·have sn : decide (q < 0) = true := by simpa using hn
  have n1 := zi4 p (by omega)
  have n2 := zi4 q (by omega)
  have f1 : PV.ag [PV.b true, T q.natAbs] = nP q := by rw [← sn]; rfl
  have f2 : PV.ag [PV.b true, Tw (tlen q.natAbs) q.natAbs] = nP q := by rw [← sn]; rfl
  obtain ⟨l1, l2⟩ := zer p q hn
  have gN := zeS (p := -p) (q := -q) (by omega)
  have gl : tlen (gI (-p) (-q)).natAbs < 90000 := by
   rw [zlc]
   have : (gI p q).natAbs ≤ q.natAbs := by
    unfold gI; rw [Int.natAbs_natCast]; exact Nat.gcd_le_right _ (by omega)
   have := zam this
   omega
  have g := zi1 (-p) (-q) (by rw [Int.natAbs_neg]; omega) (by rw [Int.natAbs_neg]; omega)
  have d1 := zdx gN (x := -p) (by rw [Int.natAbs_neg]; omega) (by omega)
  have d2 := zdx gN (x := -q) (by rw [Int.natAbs_neg]; omega) (by omega)
  rw [← l1, ← l2]
  have e1 : lowP (-p) (-q) = -p / gI (-p) (-q) := by unfold lowP; rw [if_neg (by omega)]
  have e2 : lowQ (-p) (-q) = -q / gI (-p) (-q) := by unfold lowQ; rw [if_neg (by omega)]
  rw [e1, e2]
  have hg : nP (((Nat.gcd (-p).natAbs (-q).natAbs : Nat) : Int)) = nP (gI (-p) (-q)) := rfl
  rw [hg] at g
  generalize gI (-p) (-q) = G at *
  generalize -p = P at *
  generalize -q = Q at *
  simp (disch := omega) only [go_sem, seval, wqq, t0, sn, f1, f2, n1, n2, g, d1, d2, zaG, zak]
 ·have sn : decide (q < 0) = false := by simpa using hn
  have f1 : PV.ag [PV.b false, T q.natAbs] = nP q := by rw [← sn]; rfl
  have f2 : PV.ag [PV.b false, Tw (tlen q.natAbs) q.natAbs] = nP q := by rw [← sn]; rfl
  have gN := zeS (p := p) (q := q) h
  have gl : tlen (gI p q).natAbs < 90000 := by
   have : (gI p q).natAbs ≤ q.natAbs := by
    unfold gI; rw [Int.natAbs_natCast]; exact Nat.gcd_le_right _ (by omega)
   have := zam this
   omega
  have g := zi1 p q (by omega) (by omega)
  have d1 := zdx gN (x := p) (by omega) (by omega)
  have d2 := zdx gN (x := q) (by omega) (by omega)
  have e1 : lowP p q = p / gI p q := by unfold lowP; rw [if_neg hn]
  have e2 : lowQ p q = q / gI p q := by unfold lowQ; rw [if_neg hn]
  rw [e1, e2]
  have hg : nP (((Nat.gcd p.natAbs q.natAbs : Nat) : Int)) = nP (gI p q) := rfl
  rw [hg] at g
  generalize gI p q = G at *
  simp (disch := omega) only [go_sem, seval, wqq, t0, sn, f1, f2, g, d1, d2, zaG, zak]
end Go.Eng
namespace Go.Eng
theorem zbB {z : Int} (h : tlen z.natAbs < 100000000) : pf E0 126 [nP z] = some (.b (decide (inR z.natAbs))) := by
 have h1 := zmH z h
 have h2 : (tlen z.natAbs < 1230 ∨ z.natAbs < 2 ^ 16384) = inR z.natAbs := propext (zgz _)
 simp only [h2] at h1
 exact h1
theorem zfC (p q : Int) (lp : tlen p.natAbs < 90000) (lq : tlen q.natAbs < 90000) : (inR p.natAbs ∧ inR q.natAbs → pf E0 208 [rfP p q, .i .i64 0] = some (.tu [rfP p q, .i .i64 0])) ∧
  (¬ (inR p.natAbs ∧ inR q.natAbs) → pf E0 208 [rfP p q, .i .i64 0] = some (.tu [rfP 0 1, .i .i64 4])) := by
 have f1 := zbB (z := p) (by omega)
 have f2 := zbB (z := q) (by omega)
 have h1 := zeC (n := 0) (by decide)
 obtain ⟨z, hz⟩ : ∃ z : PV, z = rfP 0 1 := ⟨_, rfl⟩
 constructor
 ·rintro ⟨r1, r2⟩
  rw [decide_eq_true r1] at f1
  rw [decide_eq_true r2] at f2
  refine zaa (xf := zvd) rfl (by simp [zvd]) ?_
  simp only [zvd]
  simp (disch := omega) only [go_sem, seval, wqq, f1, f2]
 ·intro hn
  clear hz z
  obtain ⟨o, ho⟩ : ∃ o : Int, o = 0 := ⟨0, rfl⟩
  obtain ⟨r, hr⟩ : ∃ r : Int, r = 1 := ⟨1, rfl⟩
  have e2 : rfP 0 1 = rfP o r := by rw [ho, hr]
  rw [e2] at h1 ⊢
  clear e2 ho hr
  refine zaa (xf := zvd) rfl (by simp [zvd]) ?_
  simp only [zvd]
  by_cases r1 : inR p.natAbs
  ·have r2 : ¬ inR q.natAbs := fun r2 => hn ⟨r1, r2⟩
   rw [decide_eq_true r1] at f1
   rw [decide_eq_false r2] at f2
   simp (disch := omega) only [go_sem, seval, wqq, f1, f2, h1]
  ·rw [decide_eq_false r1] at f1
   simp (disch := omega) only [go_sem, seval, wqq, f1, f2, h1]
theorem zi5 (p q : Int) {e : Int} (he : e ≠ 0) (lp : tlen p.natAbs < 90000) (lq : tlen q.natAbs < 90000) : pf E0 208 [rfP p q, .i .i64 e] = some (.tu [rfP 0 1, .i .i64 e]) := by
 have f1 := zbB (z := p) (by omega)
 have f2 := zbB (z := q) (by omega)
 have h1 := zeC (n := 0) (by decide)
 have he : (e = 0) = False := by simp [he]
 obtain ⟨o, ho⟩ : ∃ o : Int, o = 0 := ⟨0, rfl⟩
 obtain ⟨r, hr⟩ : ∃ r : Int, r = 1 := ⟨1, rfl⟩
 have e2 : rfP 0 1 = rfP o r := by rw [ho, hr]
 rw [e2] at h1 ⊢
 clear e2 ho hr
 refine zaa (xf := zvd) rfl (by simp [zvd]) ?_
 simp only [zvd]
 simp (disch := omega) only [go_sem, seval, wqq, f1, f2, h1, he]
theorem zi8 (p q r s : Int) (h : q * s ≠ 0) (lp : tlen p.natAbs < 20000) (lq : tlen q.natAbs < 20000) (lr : tlen r.natAbs < 20000) (ls : tlen s.natAbs < 20000) {R : PV} {e : Int} (hR : pf E0 208 [rfP (lowP (p * r) (q * s)) (lowQ (p * r) (q * s)), .i .i64 0] = some (.tu [R, .i .i64 e]))
  (hz : ∃ u v, R = rfP u v) : pf E0 192 [rfP p q, rfP r s] = some (.tu [R, .i .i64 e]) := by
 obtain ⟨u, v, rfl⟩ := hz
 have t1 := zav p r
 have t2 := zav q s
 have m1 := zbl p r (by omega) (by omega)
 have m2 := zbl q s (by omega) (by omega)
 have mk := zcx (p * r) (q * s) h (by omega) (by omega)
 generalize lowP (p * r) (q * s) = x at *
 generalize lowQ (p * r) (q * s) = y at *
 generalize p * r = pr at *
 generalize q * s = qs at *
 refine zaa (xf := zw5) rfl (by simp [zw5]) ?_
 simp only [zw5]
 simp (disch := omega) only [go_sem, seval, wqq]
 refine zaf [14, 16] rfl ?_ ?_
 ·simp (disch := omega) only [go_sem, seval, wqq, m1, m2, mk]
  exact ⟨_, rfl, rfl⟩
 simp (disch := omega) only [go_sem, seval, wqq, m1, m2, mk, hR]
theorem zi6 (p q r s : Int) (h : q * r ≠ 0) (lp : tlen p.natAbs < 20000) (lq : tlen q.natAbs < 20000) (lr : tlen r.natAbs < 20000) (ls : tlen s.natAbs < 20000) {R : PV} {e : Int} (hR : pf E0 208 [rfP (lowP (p * s) (q * r)) (lowQ (p * s) (q * r)), .i .i64 0] = some (.tu [R, .i .i64 e]))
  (hz : ∃ u v, R = rfP u v) : pf E0 193 [rfP p q, rfP r s] = some (.tu [R, .i .i64 e]) := by
 obtain ⟨u, v, rfl⟩ := hz
 have t1 := zav p s
 have t2 := zav q r
 have m1 := zbl p s (by omega) (by omega)
 have m2 := zbl q r (by omega) (by omega)
 have mk := zcx (p * s) (q * r) h (by omega) (by omega)
 generalize lowP (p * s) (q * r) = x at *
 generalize lowQ (p * s) (q * r) = y at *
 generalize p * s = pr at *
 generalize q * r = qs at *
 refine zaa (xf := zvQ) rfl (by simp [zvQ]) ?_
 simp only [zvQ]
 simp (disch := omega) only [go_sem, seval, wqq]
 refine zaf [14, 16] rfl ?_ ?_
 ·simp (disch := omega) only [go_sem, seval, wqq, m1, m2, mk]
  exact ⟨_, rfl, rfl⟩
 simp (disch := omega) only [go_sem, seval, wqq, m1, m2, mk, hR]
end Go.Eng
namespace Go.Eng
theorem zem (z : Int) : (decI z).length ≤ 4 * tlen z.natAbs + 2 := by
 have : dlen z.natAbs ≤ 4 * tlen z.natAbs := by
  rw [zaw, Nat.pow_mul]; exact zan _
 have h1 : (dec z.natAbs).length ≤ 4 * tlen z.natAbs + 1 := by
  unfold dec; split
  ·simp
  ·rw [zbF]; omega
 unfold decI; split <;> (try simp only [List.length_cons]) <;> omega
theorem zcy (p q : Int) (lp : tlen p.natAbs < 20000) (lq : tlen q.natAbs < 20000) : pf E0 196 [rfP p q] = some (.s (ftx p q)) := by
 have t1 := ziP (z := p) (by omega)
 have t2 := ziP (z := q) (by omega)
 have l1 := zem p
 have l2 := zem q
 have e1 : decI 1 = [49] := by
  unfold decI; rw [if_neg (by decide)]
  show dec 1 = [49]
  rw [zeN (v := 1) (n := 0) (by decide) (by decide)]; rfl
 refine zaa (xf := zwN) rfl (by simp [zwN]) ?_
 simp only [zwN]
 unfold ftx
 by_cases h : q = 1
 ·rw [if_pos h]
  have t2' : pf E0 107 [nP q] = some (.s [49]) := by rw [t2, h, e1]
  simp (disch := omega) only [go_sem, seval, wqq, t2', t1]
 ·rw [if_neg h]
  have hne : (decI q = [49]) = False := by
   simp only [eq_iff_iff, iff_false]
   intro e; rw [← e1] at e; exact h (zjR e)
  have a1 : binP .add (.s (decI p)) (.s [47]) = some (.s (decI p ++ [47])) := zbc _ _ (by simp only [List.length_cons, List.length_nil]; omega)
  have a2 : binP .add (.s (decI p ++ [47])) (.s (decI q)) = some (.s (decI p ++ [47] ++ decI q)) := zbc _ _ (by simp only [List.length_append, List.length_cons, List.length_nil]; omega)
  simp (disch := omega) only [go_sem, seval, wqq, t2, t1, hne, a1, a2]
theorem zkx (p q : Int) : pf E0 199 [rfP p q] = some (.i .i64 (cmpI p 0)) := by
 refine zaa (xf := zwY) rfl (by simp [zwY]) ?_
 simp only [zwY]
 by_cases h : p = 0
 ·have t0 : ((tlen p.natAbs : Int) = 0) = True := by rw [h, Int.natAbs_zero, zaE]; simp
  have c : cmpI p 0 = 0 := by rw [h]; rfl
  rw [c]
  simp (disch := omega) only [go_sem, seval, wqq, t0]
 ·have t0 : ((tlen p.natAbs : Int) = 0) = False := by have := zaO (v := p.natAbs) (by omega); simp; omega
  by_cases hn : p < 0
  ·have c : cmpI p 0 = -1 := by unfold cmpI; rw [if_pos hn]
   have sn : decide (p < 0) = true := by simpa using hn
   rw [c]
   simp (disch := omega) only [go_sem, seval, wqq, t0, sn]
  ·have c : cmpI p 0 = 1 := by unfold cmpI; rw [if_neg hn, if_pos (by omega)]
   have sn : decide (p < 0) = false := by simpa using hn
   rw [c]
   simp (disch := omega) only [go_sem, seval, wqq, t0, sn]
end Go.Eng
namespace Go.Eng
theorem znn (b0 b1 b2 b3 b4 b5 b6 b7 : Option PB) (c0 c1 c2 c3 c4 c5 d0 d1 : PV) : appP [b0, b1, b2, b3, b4, b5, b6, b7, some ⟨[c0, c1, c2, c3, c4, c5], true, 0⟩, some ⟨[d0, d1], true, 0⟩] 2 32 (.sl 8 0 3 3 2) (.sl 9 0 1 1 2) =
  some (.sl 10 0 4 4 2, [b0, b1, b2, b3, b4, b5, b6, b7, none, some ⟨[d0, d1], true, 0⟩, some ⟨[c0, c1, c2, c3, c4, c5, d0, d1], true, 0⟩]) := rfl
theorem zmK (p q r s : Int) (q0 : 0 < q) (s0 : 0 < s) (lp : tlen p.natAbs < 20000) (lq : tlen q.natAbs < 20000) (lr : tlen r.natAbs < 20000) (ls : tlen s.natAbs < 20000) :
  (inR (p * (s / gI q s)).natAbs ∧ inR (r * (q / gI q s)).natAbs ∧ inR (p * (s / gI q s) + r * (q / gI q s)).natAbs ∧ inR (q / gI q s * s).natAbs →
   pf E0 190 [rfP p q, rfP r s] = some (.tu [rfP (lowP (p * (s / gI q s) + r * (q / gI q s)) (q / gI q s * s)) (lowQ (p * (s / gI q s) + r * (q / gI q s)) (q / gI q s * s)), .i .i64 0])) ∧
  (¬ (inR (p * (s / gI q s)).natAbs ∧ inR (r * (q / gI q s)).natAbs ∧ inR (p * (s / gI q s) + r * (q / gI q s)).natAbs ∧ inR (q / gI q s * s).natAbs) → pf E0 190 [rfP p q, rfP r s] = some (.tu [rfP 0 1, .i .i64 4])) := by
 have g := zi1 q s (by omega) (by omega)
 have hg : nP (((Nat.gcd q.natAbs s.natAbs : Nat) : Int)) = nP (gI q s) := rfl
 rw [hg] at g
 have gN := zeS (p := q) (q := s) (by omega)
 have gl : tlen (gI q s).natAbs < 20000 := by
  have : (gI q s).natAbs ≤ s.natAbs := by
   unfold gI; rw [Int.natAbs_natCast]; exact Nat.gcd_le_right _ (by omega)
  have := zam this
  omega
 have zN : q / gI q s * s ≠ 0 := by
  have h1 : q / gI q s * gI q s = q := Int.ediv_mul_cancel (zbH q s)
  have h2 : q / gI q s ≠ 0 := fun e => by rw [e] at h1; omega
  exact Int.mul_ne_zero h2 (by omega)
 have d1 := zdx gN (x := s) (by omega) (by omega)
 have d2 := zdx gN (x := q) (by omega) (by omega)
 have k1 : tlen (s / gI q s).natAbs < 20000 := by
  have : (s / gI q s).natAbs ≤ s.natAbs := by rw [Int.natAbs_ediv_of_dvd (zcm q s)]; exact Nat.div_le_self _ _
  have := zam this
  omega
 have k2 : tlen (q / gI q s).natAbs < 20000 := by
  have : (q / gI q s).natAbs ≤ q.natAbs := by rw [Int.natAbs_ediv_of_dvd (zbH q s)]; exact Nat.div_le_self _ _
  have := zam this
  omega
 generalize gI q s = G at *
 generalize s / G = S at *
 generalize q / G = Q at *
 have m1 := zbl p S (by omega) (by omega)
 have m2 := zbl r Q (by omega) (by omega)
 have m3 := zbl Q s (by omega) (by omega)
 have t1 := zav p S
 have t2 := zav r Q
 have t3 := zav Q s
 generalize p * S = x at *
 generalize r * Q = y at *
 generalize Q * s = z at *
 have a1 := zez x y (by omega) (by omega)
 have t4 := zc8 x y
 have mk := zcx (x + y) z zN (by omega) (by omega)
 have f1 := zbB (z := x) (by omega)
 have f2 := zbB (z := y) (by omega)
 have f3 := zbB (z := z) (by omega)
 have f4 := zbB (z := x + y) (by omega)
 generalize lowP (x + y) z = u at *
 generalize lowQ (x + y) z = v at *
 generalize x + y = w at *
 constructor
 ·rintro ⟨r1, r2, r4, r3⟩
  rw [decide_eq_true r1] at f1
  rw [decide_eq_true r2] at f2
  rw [decide_eq_true r3] at f3
  rw [decide_eq_true r4] at f4
  refine zaa (xf := zvP) rfl (by simp [zvP]) ?_
  simp only [zvP]
  simp (disch := omega) only [go_sem, seval, wqq, g, d1, d2]
  refine zaf [37, 9, 42] rfl ?_ ?_
  ·simp (disch := omega) only [go_sem, seval, wqq, m1, m2, m3, zaG, zak]
   exact ⟨_, rfl, rfl⟩
  simp (disch := omega) only [go_sem, seval, wqq, m1, m2, m3, a1, znn, zaG, zak]
  refine zac zvg.eq_1 ?_
  simp (disch := omega) only [go_sem, seval, wqq, f1]
  refine zac zvg.eq_1 ?_
  simp (disch := omega) only [go_sem, seval, wqq, f2]
  refine zac zvg.eq_1 ?_
  simp (disch := omega) only [go_sem, seval, wqq, f3]
  refine zac zvg.eq_1 ?_
  simp (disch := omega) only [go_sem, seval, wqq, f4]
  refine zac zvg.eq_1 ?_
  simp (disch := omega) only [go_sem, seval, wqq, mk]
 ·intro hn
  have h1 := zeC (n := 0) (by decide)
  obtain ⟨o, ho⟩ : ∃ o : Int, o = 0 := ⟨0, rfl⟩
  obtain ⟨k, hk⟩ : ∃ k : Int, k = 1 := ⟨1, rfl⟩
  have e2 : rfP 0 1 = rfP o k := by rw [ho, hk]
  rw [e2] at h1 ⊢
  clear e2 ho hk
  refine zaa (xf := zvP) rfl (by simp [zvP]) ?_
  simp only [zvP]
  simp (disch := omega) only [go_sem, seval, wqq, g, d1, d2]
  refine zaf [37, 9, 42] rfl ?_ ?_
  ·simp (disch := omega) only [go_sem, seval, wqq, m1, m2, m3, zaG, zak]
   exact ⟨_, rfl, rfl⟩
  simp (disch := omega) only [go_sem, seval, wqq, m1, m2, m3, a1, znn, zaG, zak]
  refine zac zvg.eq_1 ?_
  by_cases r1 : inR x.natAbs
  ·rw [decide_eq_true r1] at f1
   simp (disch := omega) only [go_sem, seval, wqq, f1]
   refine zac zvg.eq_1 ?_
   by_cases r2 : inR y.natAbs
   ·rw [decide_eq_true r2] at f2
    simp (disch := omega) only [go_sem, seval, wqq, f2]
    refine zac zvg.eq_1 ?_
    by_cases r3 : inR z.natAbs
    ·rw [decide_eq_true r3] at f3
     simp (disch := omega) only [go_sem, seval, wqq, f3]
     refine zac zvg.eq_1 ?_
     rw [decide_eq_false fun r4 => hn ⟨r1, r2, r4, r3⟩] at f4
     simp (disch := omega) only [go_sem, seval, wqq, f4, h1]
    ·rw [decide_eq_false r3] at f3
     simp (disch := omega) only [go_sem, seval, wqq, f3, h1]
   ·rw [decide_eq_false r2] at f2
    simp (disch := omega) only [go_sem, seval, wqq, f2, h1]
  ·rw [decide_eq_false r1] at f1
   simp (disch := omega) only [go_sem, seval, wqq, f1, h1]
end Go.Eng
namespace Go.Eng
theorem zlD {x y : WI} (h : x.v = y.v) : x = y := by cases x; cases y; cases h; rfl
theorem zid {f g : FQ} (h1 : f.p.v = g.p.v) (h2 : f.q.v = g.q.v) : f = g := by
 have e1 := zlD h1
 have e2 := zlD h2
 cases f; cases g
 simp only at e1 e2
 subst e1 e2; rfl
def FQ.is (f : FQ) (n d : Int) : Prop := f.p.v * d = n * f.q.v
theorem zio {f : FQ} {n d : Int} (h : d ≠ 0) (h1 : f.p.v = lowP n d) (h2 : f.q.v = lowQ n d) : f.is n d := by
 unfold FQ.is; rw [h1, h2]; exact zcn h
theorem zb2 (f : FQ) : f.is f.p.v f.q.v := rfl
theorem zip {f g : FQ} {n d n' d' : Int} (hd : d ≠ 0) (hd' : d' ≠ 0) (hf : f.is n d) (hg : g.is n' d') (e : n * d' = n' * d) : f = g := by
 unfold FQ.is at hf hg
 have qf := f.q1
 have qg := g.q1
 have key : f.p.v * g.q.v = g.p.v * f.q.v := by
  apply Int.eq_of_mul_eq_mul_right (a := d * d') (Int.mul_ne_zero hd hd')
  calc f.p.v * g.q.v * (d * d') = f.p.v * d * (g.q.v * d') := by grind
   _ = n * f.q.v * (g.q.v * d') := by rw [hf]
   _ = n * d' * (f.q.v * g.q.v) := by grind
   _ = n' * d * (f.q.v * g.q.v) := by rw [e]
   _ = n' * g.q.v * (f.q.v * d) := by grind
   _ = g.p.v * d' * (f.q.v * d) := by rw [hg]
   _ = g.p.v * f.q.v * (d * d') := by grind
 obtain ⟨a, b⟩ := zdI (by omega) (by omega) f.cop g.cop key
 exact zid a b
theorem zkb {f : FQ} {n d : Int} (h : f.is n d) (k : Int) : f.is (n * k) (d * k) := by
 unfold FQ.is at *
 rw [← Int.mul_assoc, h]; grind
theorem zuw (n : Nat) : (10 : Nat) ^ (4 * n) = 10000 ^ n := by rw [Nat.pow_mul]
theorem zaz (x : WI) : tlen x.v.natAbs ≤ 1239 := by
 have h := zeW ((zaP _).1 x.lim)
 obtain ⟨n, hn⟩ : ∃ n : Nat, n = 1239 := ⟨_, rfl⟩
 have h : dlen x.v.natAbs ≤ 4 * n := by omega
 rw [zaw, zuw] at h
 rw [← hn, zaN]
 exact h
def fsz (n : Nat) (f : FQ) : Prop := tlen f.p.v.natAbs ≤ n ∧ tlen f.q.v.natAbs ≤ n
theorem zhh {a g : Int} (h : g ∣ a) : tlen (a / g).natAbs ≤ tlen a.natAbs := by
 refine zam ?_
 rw [Int.natAbs_ediv_of_dvd h]; exact Nat.div_le_self _ _
theorem znk (a b : FQ) {n m : Nat} (ha : fsz n a) (hb : fsz m b) (h : n + m + 1 < 1230) : ∃ f : FQ, pf E0 9 [fqP a, fqP b] = some (.tu [fqP f, .i .i64 0]) ∧ f.is (a.p.v * b.q.v + b.p.v * a.q.v) (a.q.v * b.q.v) ∧ fsz (n + m + 1) f := by
 obtain ⟨a1, a2⟩ := ha
 obtain ⟨b1, b2⟩ := hb
 have qa := a.q1
 have qb := b.q1
 have k1 := zhh (zcm a.q.v b.q.v)
 have k2 := zhh (zbH a.q.v b.q.v)
 have d1 : b.q.v / gI a.q.v b.q.v * gI a.q.v b.q.v = b.q.v := Int.ediv_mul_cancel (zcm _ _)
 have d2 : a.q.v / gI a.q.v b.q.v * gI a.q.v b.q.v = a.q.v := Int.ediv_mul_cancel (zbH _ _)
 have t1 : tlen (adX a b).natAbs ≤ n + m := Nat.le_trans (zav _ _) (by omega)
 have t2 : tlen (adY a b).natAbs ≤ n + m := Nat.le_trans (zav _ _) (by omega)
 have t3 : tlen (adD a b).natAbs ≤ n + m := Nat.le_trans (zav _ _) (by omega)
 have t4 : tlen (adX a b + adY a b).natAbs ≤ n + m + 1 := Nat.le_trans (zc8 _ _) (by omega)
 have dn := zkZ a b
 obtain ⟨f, h1, h2, hf⟩ := (ziR a b).1 ⟨zcE (by omega), zcE (by omega), zcE (by omega), zcE (by omega)⟩
 refine ⟨f, hf, ?_, ?_, ?_⟩
 ·have hs := zkb (zio dn h1 h2) (gI a.q.v b.q.v)
  have e1 : (adX a b + adY a b) * gI a.q.v b.q.v = a.p.v * b.q.v + b.p.v * a.q.v := by
   unfold adX adY
   rw [Int.add_mul, Int.mul_assoc, Int.mul_assoc, d1, d2]
  have e2 : adD a b * gI a.q.v b.q.v = a.q.v * b.q.v := by
   unfold adD
   rw [Int.mul_right_comm, d2]
  rwa [e1, e2] at hs
 ·rw [h1]; exact Nat.le_trans (zam (zdf dn)) t4
 ·rw [h2]; exact Nat.le_trans (zam (zdg dn)) (by omega)
theorem znZ (a b : FQ) {n m : Nat} (ha : fsz n a) (hb : fsz m b) (h : n + m < 1230) : ∃ f : FQ, pf E0 8 [fqP a, fqP b] = some (.tu [fqP f, .i .i64 0]) ∧ f.is (a.p.v * b.p.v) (a.q.v * b.q.v) ∧ fsz (n + m) f := by
 obtain ⟨a1, a2⟩ := ha
 obtain ⟨b1, b2⟩ := hb
 have qa := a.q1
 have qb := b.q1
 have dn : a.q.v * b.q.v ≠ 0 := Int.mul_ne_zero (by omega) (by omega)
 have t1 : tlen (muP a b).natAbs ≤ n + m := Nat.le_trans (zam (zdf dn)) (Nat.le_trans (zav _ _) (by omega))
 have t2 : tlen (muQ a b).natAbs ≤ n + m := Nat.le_trans (zam (zdg dn)) (Nat.le_trans (zav _ _) (by omega))
 obtain ⟨f, h1, h2, hf⟩ := (zgW a b).1 ⟨zcE (by omega), zcE (by omega)⟩
 exact ⟨f, hf, zio dn h1 h2, by rw [h1]; exact t1, by rw [h2]; exact t2⟩
theorem zgs (a b : FQ) (hb0 : b.p.v ≠ 0) {n m : Nat} (ha : fsz n a) (hb : fsz m b) (h : n + m < 1230) : ∃ f : FQ, pf E0 65 [fqP a, fqP b] = some (.tu [fqP f, .i .i64 0]) ∧ f.is (a.p.v * b.q.v) (a.q.v * b.p.v) ∧ fsz (n + m) f := by
 obtain ⟨a1, a2⟩ := ha
 obtain ⟨b1, b2⟩ := hb
 have qa := a.q1
 have dn : a.q.v * b.p.v ≠ 0 := Int.mul_ne_zero (by omega) hb0
 have t1 : tlen (dvP a b).natAbs ≤ n + m := Nat.le_trans (zam (zdf dn)) (Nat.le_trans (zav _ _) (by omega))
 have t2 : tlen (dvQ a b).natAbs ≤ n + m := Nat.le_trans (zam (zdg dn)) (Nat.le_trans (zav _ _) (by omega))
 obtain ⟨f, h1, h2, hf⟩ := (ziT a b hb0).1 ⟨zcE (by omega), zcE (by omega)⟩
 exact ⟨f, hf, zio dn h1 h2, by rw [h1]; exact t1, by rw [h2]; exact t2⟩
noncomputable def rfQ (f : FQ) : PV := rfP f.p.v f.q.v
theorem zrQ : rfP 0 1 = rfQ fq0 := rfl
theorem zd9 {f : FQ} {n d : Int} (h1 : f.p.v = n) (h2 : f.q.v = d) : rfP n d = rfQ f := by rw [← h1, ← h2]; rfl
theorem zjI (a b : FQ) : ∃ (f : FQ) (e : Int), pf E0 9 [fqP a, fqP b] = some (.tu [fqP f, .i .i64 e]) ∧ pf E0 190 [rfQ a, rfQ b] = some (.tu [rfQ f, .i .i64 e]) := by
 have la := zaz a.p
 have lb := zaz b.p
 have ka := zaz a.q
 have kb := zaz b.q
 have qa := a.q1
 have qb := b.q1
 have hr := zmK a.p.v a.q.v b.p.v b.q.v (by omega) (by omega) (by omega) (by omega) (by omega) (by omega)
 by_cases h : adOk a b
 ·obtain ⟨f, h1, h2, hf⟩ := (ziR a b).1 h
  refine ⟨f, 0, hf, ?_⟩
  have := hr.1 h
  rw [← zd9 h1 h2]; exact this
 ·exact ⟨fq0, 4, (ziR a b).2 h, hr.2 h⟩
theorem zkf (a b : FQ) : ∃ (f : FQ) (e : Int), pf E0 8 [fqP a, fqP b] = some (.tu [fqP f, .i .i64 e]) ∧ pf E0 192 [rfQ a, rfQ b] = some (.tu [rfQ f, .i .i64 e]) := by
 have la := zaz a.p
 have lb := zaz b.p
 have ka := zaz a.q
 have kb := zaz b.q
 have qa := a.q1
 have qb := b.q1
 have dn : a.q.v * b.q.v ≠ 0 := Int.mul_ne_zero (by omega) (by omega)
 have t1 := Nat.le_trans (zam (zdf (p := a.p.v * b.p.v) dn)) (zav a.p.v b.p.v)
 have t2 := Nat.le_trans (zam (zdg (p := a.p.v * b.p.v) dn)) (zav a.q.v b.q.v)
 have hg := zfC (lowP (a.p.v * b.p.v) (a.q.v * b.q.v)) (lowQ (a.p.v * b.p.v) (a.q.v * b.q.v)) (by omega) (by omega)
 by_cases h : inR (muP a b).natAbs ∧ inR (muQ a b).natAbs
 ·obtain ⟨f, h1, h2, hf⟩ := (zgW a b).1 h
  refine ⟨f, 0, hf, ?_⟩
  rw [← zd9 h1 h2]
  exact zi8 a.p.v a.q.v b.p.v b.q.v dn (by omega) (by omega) (by omega) (by omega) (hg.1 h) ⟨_, _, rfl⟩
 ·exact ⟨fq0, 4, (zgW a b).2 h, zi8 a.p.v a.q.v b.p.v b.q.v dn (by omega) (by omega) (by omega) (by omega) (hg.2 h) ⟨_, _, rfl⟩⟩
end Go.Eng
namespace Go.Eng
def isPR : PV → Bool
 | .p _ _ => true
 | .sl _ _ _ _ _ => true
 | .tu _ => true
 | _ => false
def slotIn3 (E : PEnv) (ops : List XOper) (L : List Nat) (c : Nat × Nat) : Bool :=
 match ops[c.1]?, ops[c.2]? with
 | some a, some b =>
  match a.op.looks with
  | .t s => a.op.cls == 2 && L.contains s && calmOp E b.op
  | _ => false
 | _, _ => false
end Go.Eng
namespace Go.Eng
def apP : PV → PV → Bool
 | .p a _, .p b _ => !(Nat.beq a b)
 | _, _ => false
def slotSt (ops : List XOper) (L R : List Nat) (c : Nat × Nat) : Bool :=
 match ops[c.1]?, ops[c.2]? with
 | some a, some b =>
  match a.op, b.op with
  | .load _ _ (.t s), .store _ (.t r) _ => L.contains s && R.contains r && fixedX ops c.2 (.t r)
  | _, _ => false
 | _, _ => false
theorem zcA {E : PEnv} {F : PFin} {ops : List XOper} {chk : List (Nat × Nat)} {ks : List KI} {fr : PFr} {M : PM} (L R : List Nat) (hL : chk.all (fun c => calmC E ops c || slotIn2 E ops L c || slotSt ops L R c) = true)
  (hr : WL E ⟨(0 :: 0 :: (L ++ R)).map XR.tmp, fun w _ => ∃ l, w = .tu l ∧ ((l.drop 2).take L.length).all (fun x => isPP x && ((l.drop 2).drop L.length).all (apP x)) = true⟩ ops [] fr M) (w : WL E F ops ks fr M) : WK E F (.drw ops chk) ks fr M := by
 refine zdM (fun fr2 Ms hT => ?_) w
 have hp : ∀ s ∈ L, isPP (fr2 s) = true ∧ ∀ r ∈ R, apP (fr2 s) (fr2 r) = true := by
  obtain ⟨lf, q, fr3, M3, vs, e, h1, h2, l, h3, h4⟩ := hr
  simp only [Option.bind_eq_some_iff, unw] at e
  obtain ⟨⟨fr4, M4⟩, e1, e2⟩ := e
  simp only [Option.some.injEq, Prod.mk.injEq] at e2
  obtain ⟨_, e3, e4⟩ := e2
  rw [← e3, ← e4] at h2
  obtain ⟨Ms', g1, g2⟩ := zb8 e1
  rw [g1] at hT
  cases hT
  have hres : ∀ (f : PFr) (N : PM) (l : List Nat), pRes f N (l.map XR.tmp) = some (l.map f) := fun f N l => by
   induction l with
   | nil => rfl
   | cons a l ih => simp only [List.map_cons, pRes, pResOne, ih]
  rw [hres] at h2
  cases h2
  simp only [List.map_cons, packP] at h3
  cases h3
  have h5 : (((L ++ R).map fr2).take L.length).all (fun x => isPP x && (((L ++ R).map fr2).drop L.length).all (apP x)) = true := h4
  rw [List.map_append, List.take_left' (by simp), List.drop_left' (by simp)] at h5
  simp only [List.all_eq_true, List.mem_map, Bool.and_eq_true, forall_exists_index, and_imp, forall_apply_eq_imp_iff₂] at h5
  exact h5
 rw [List.all_eq_true] at hL ⊢
 rintro ⟨i, j⟩ hc
 have h1 := hL _ hc
 simp only [Bool.or_eq_true] at h1
 rcases h1 with (h1 | h1) | h1
 ·exact zcT hT h1
 ·unfold slotIn2 at h1
  split at h1
  ·rename_i a b ha hb
   split at h1
   ·rename_i z k s hop
    simp only [Bool.and_eq_true] at h1
    obtain ⟨c1, c2⟩ := h1
    have hs := (hp s (List.contains_iff_mem.1 c1)).1
    cases hf : fr2 s with
    | p n o =>
     obtain ⟨fri, A, B, q1, q2, q3, q4⟩ := zaM hT ha
     obtain ⟨frj, C, D, p1, p2, p3, p4⟩ := zaM hT hb
     have p2' : Ms[(i, j).2 + 1]? = some D := p2
     have q2' : Ms[(i, j).1 + 1]? = some B := q2
     simp only [chkP, ha, q1, q2, p1, p2]
     rw [if_neg (by rw [hop]; simp [XO.cls])]
     rw [hop]
     show chkV ops j (.t s) C D (fr2 s) = true
     rw [hf]
     show verP (some n) C D = true
     rcases p3 with ⟨_, v, p3⟩ | ⟨_, p3⟩
     ·cases hopb : b.op with
      | call f l =>
       rw [hopb] at p3 c2
       obtain ⟨ns, rfl⟩ := zdl c2 p3
       exact zcz ns C _
      | _ => rw [hopb] at c2; simp [calmOp] at c2
     ·rw [p3]; simp [verP]
    | _ => rw [hf] at hs; simp [isPP] at hs
   ·cases h1
  ·cases h1
 ·unfold slotSt at h1
  split at h1
  ·rename_i a b ha hb
   split at h1
   ·rename_i z k s n r x hop hop2
    simp only [Bool.and_eq_true] at h1
    obtain ⟨⟨c1, c2⟩, c3⟩ := h1
    have hap := (hp s (List.contains_iff_mem.1 c1)).2 r (List.contains_iff_mem.1 c2)
    obtain ⟨fri, A, B, q1, q2, q3, q4⟩ := zaM hT ha
    obtain ⟨frj, C, D, p1, p2, p3, p4⟩ := zaM hT hb
    have p2' : Ms[(i, j).2 + 1]? = some D := p2
    have q2' : Ms[(i, j).1 + 1]? = some B := q2
    have e2 : fr2 r = frj r := p4 (.t r) c3
    simp only [chkP, ha, q1, q2, p1, p2]
    rw [if_neg (by rw [hop]; simp [XO.cls])]
    rw [hop]
    show chkV ops j (.t s) C D (fr2 s) = true
    cases hf : fr2 s with
    | p n1 o1 =>
     cases hg : fr2 r with
     | p n2 o2 =>
      rw [hf, hg] at hap
      have hne : n1 ≠ n2 := fun q => by rw [q] at hap; simp [apP] at hap
      show verP (some n1) C D = true
      rcases p3 with ⟨_, v, p3⟩ | ⟨_, p3⟩
      ·rw [hop2] at p3
       simp only [XO.pst, XO.pev] at p3
       rw [show X.pv E.glob frj (.t r) = .p n2 o2 from e2.symm.trans hg] at p3
       simp only at p3
       generalize (X.pv E.glob frj x).cells = cs at p3
       split at p3
       ·split at p3
        ·cases p3
         simp only [verP]
         rw [List.getElem?_set_ne (fun h => hne h.symm)]; simp
        ·cases p3
       ·cases p3
      ·rw [p3]; simp [verP]
     | _ => rw [hf, hg] at hap; simp [apP] at hap
    | _ => rw [hf] at hap; simp [apP] at hap
   ·cases h1
  ·cases h1
end Go.Eng
namespace Go.Eng
theorem mG (G L : PM) (k : Nat) : PM.blk (G ++ L) (G.length + k) = PM.blk L k := by
 unfold PM.blk
 rw [List.getElem?_append_right (by omega), Nat.add_sub_cancel_left]
theorem mG0 (G L : PM) : PM.blk (G ++ L) G.length = PM.blk L 0 := mG G L 0
theorem sG (G L : PM) (k : Nat) (v : Option PB) : (G ++ L).set (G.length + k) v = G ++ L.set k v := by
 rw [List.set_append_right _ _ (by omega), Nat.add_sub_cancel_left]
theorem sG0 (G L : PM) (v : Option PB) : (G ++ L).set G.length v = G ++ L.set 0 v := sG G L 0 v
theorem lG (G L : PM) : (G ++ L).length = G.length + L.length := List.length_append
theorem zjQ (a b : Int) : -1 ≤ cmpI a b ∧ cmpI a b ≤ 1 := by unfold cmpI; split <;> (try split) <;> omega
end Go.Eng
namespace Go.Eng
theorem zbM (p : Prop) : (p = True) ∨ (p = False) := by by_cases h : p <;> simp [h]
noncomputable def tW (a b : WI) : WI := clip (a.v * b.v)
noncomputable def aW (a b : WI) : WI := clip (a.v + b.v)
noncomputable def sW (a b : WI) : WI := clip (a.v - b.v)
theorem zao (a b : WI) : pf E0 313 [wiP a, wiP b] = some (wiP (tW a b)) := by
 have h := ziO a b
 unfold tW
 generalize clip (a.v * b.v) = c at *
 refine zaa (xf := zv6) rfl (by simp [zv6]) ?_
 simp only [zv6]
 simp (disch := omega) only [go_sem, seval, wqq, h]
theorem zax (a b : WI) : pf E0 312 [wiP a, wiP b] = some (wiP (aW a b)) := by
 have h := zko a b
 unfold aW
 generalize clip (a.v + b.v) = c at *
 refine zaa (xf := zww) rfl (by simp [zww]) ?_
 simp only [zww]
 simp (disch := omega) only [go_sem, seval, wqq, h]
theorem zbo (a b : WI) : pf E0 319 [wiP a, wiP b] = some (wiP (sW a b)) := by
 have h := zmw a b
 unfold sW
 generalize clip (a.v - b.v) = c at *
 refine zaa (xf := zv8) rfl (by simp [zv8]) ?_
 simp only [zv8]
 simp (disch := omega) only [go_sem, seval, wqq, h]
noncomputable def mnW (x : Nat → WI) (i k : Nat) : WI := sW (tW (x (3 * ((i + 1) % 3) + (k + 1) % 3)) (x (3 * ((i + 2) % 3) + (k + 2) % 3))) (tW (x (3 * ((i + 1) % 3) + (k + 2) % 3)) (x (3 * ((i + 2) % 3) + (k + 1) % 3)))
theorem zmE (x : Nat → WI) {i k : Nat} (hi : i < 3) (hk : k < 3) (b : Option PB) (G : PM) : ∃ G', pcl E0 318 [.i .i64 (i : Int), .i .i64 (k : Int), .p 0 0] (some ⟨cW x, true, 0⟩ :: b :: G) = some (wiP (mnW x i k), some ⟨cW x, true, 0⟩ :: b :: (G ++ G')) := by
 obtain rfl | rfl | rfl := zhJ hi <;> obtain rfl | rfl | rfl := zhJ hk
 ·have t1 := zao (x 4) (x 8)
  have t2 := zao (x 5) (x 7)
  have t3 := zbo (tW (x 4) (x 8)) (tW (x 5) (x 7))
  refine ⟨[some ⟨[.b (decide ((sW (tW (x 4) (x 8)) (tW (x 5) (x 7))).v < 0)), D (sW (tW (x 4) (x 8)) (tW (x 5) (x 7))).v.natAbs], true, 1⟩], ?_⟩
  show pcl E0 318 [.i .i64 0, .i .i64 0, .p 0 0] (some ⟨cW x, true, 0⟩ :: b :: G) = some (wiP (sW (tW (x 4) (x 8)) (tW (x 5) (x 7))), some ⟨cW x, true, 0⟩ :: b :: (G ++ [some ⟨[.b (decide ((sW (tW (x 4) (x 8)) (tW (x 5) (x 7))).v < 0)), D (sW (tW (x 4) (x 8)) (tW (x 5) (x 7))).v.natAbs], true, 1⟩]))
  refine zbw (xf := zuW) rfl rfl (by simp [zuW]) ?_
  simp only [zuW]
  simp (disch := omega) only [go_sem, seval, wqq]
  refine zaf [39, 45] rfl ?_ ?_
  ·simp (disch := omega) only [go_sem, seval, wqq, zad, t1, t2, t3, mG, mG0, sG, sG0, lG, lqq]
   exact ⟨_, rfl, rfl⟩
  simp (disch := omega) only [go_sem, seval, wqq, zad, t1, t2, t3, mG, mG0, sG, sG0, lG, lqq]
 ·have t1 := zao (x 5) (x 6)
  have t2 := zao (x 3) (x 8)
  have t3 := zbo (tW (x 5) (x 6)) (tW (x 3) (x 8))
  refine ⟨[some ⟨[.b (decide ((sW (tW (x 5) (x 6)) (tW (x 3) (x 8))).v < 0)), D (sW (tW (x 5) (x 6)) (tW (x 3) (x 8))).v.natAbs], true, 1⟩], ?_⟩
  show pcl E0 318 [.i .i64 0, .i .i64 1, .p 0 0] (some ⟨cW x, true, 0⟩ :: b :: G) = some (wiP (sW (tW (x 5) (x 6)) (tW (x 3) (x 8))), some ⟨cW x, true, 0⟩ :: b :: (G ++ [some ⟨[.b (decide ((sW (tW (x 5) (x 6)) (tW (x 3) (x 8))).v < 0)), D (sW (tW (x 5) (x 6)) (tW (x 3) (x 8))).v.natAbs], true, 1⟩]))
  refine zbw (xf := zuW) rfl rfl (by simp [zuW]) ?_
  simp only [zuW]
  simp (disch := omega) only [go_sem, seval, wqq]
  refine zaf [39, 45] rfl ?_ ?_
  ·simp (disch := omega) only [go_sem, seval, wqq, zad, t1, t2, t3, mG, mG0, sG, sG0, lG, lqq]
   exact ⟨_, rfl, rfl⟩
  simp (disch := omega) only [go_sem, seval, wqq, zad, t1, t2, t3, mG, mG0, sG, sG0, lG, lqq]
 ·have t1 := zao (x 3) (x 7)
  have t2 := zao (x 4) (x 6)
  have t3 := zbo (tW (x 3) (x 7)) (tW (x 4) (x 6))
  refine ⟨[some ⟨[.b (decide ((sW (tW (x 3) (x 7)) (tW (x 4) (x 6))).v < 0)), D (sW (tW (x 3) (x 7)) (tW (x 4) (x 6))).v.natAbs], true, 1⟩], ?_⟩
  show pcl E0 318 [.i .i64 0, .i .i64 2, .p 0 0] (some ⟨cW x, true, 0⟩ :: b :: G) = some (wiP (sW (tW (x 3) (x 7)) (tW (x 4) (x 6))), some ⟨cW x, true, 0⟩ :: b :: (G ++ [some ⟨[.b (decide ((sW (tW (x 3) (x 7)) (tW (x 4) (x 6))).v < 0)), D (sW (tW (x 3) (x 7)) (tW (x 4) (x 6))).v.natAbs], true, 1⟩]))
  refine zbw (xf := zuW) rfl rfl (by simp [zuW]) ?_
  simp only [zuW]
  simp (disch := omega) only [go_sem, seval, wqq]
  refine zaf [39, 45] rfl ?_ ?_
  ·simp (disch := omega) only [go_sem, seval, wqq, zad, t1, t2, t3, mG, mG0, sG, sG0, lG, lqq]
   exact ⟨_, rfl, rfl⟩
  simp (disch := omega) only [go_sem, seval, wqq, zad, t1, t2, t3, mG, mG0, sG, sG0, lG, lqq]
 ·have t1 := zao (x 7) (x 2)
  have t2 := zao (x 8) (x 1)
  have t3 := zbo (tW (x 7) (x 2)) (tW (x 8) (x 1))
  refine ⟨[some ⟨[.b (decide ((sW (tW (x 7) (x 2)) (tW (x 8) (x 1))).v < 0)), D (sW (tW (x 7) (x 2)) (tW (x 8) (x 1))).v.natAbs], true, 1⟩], ?_⟩
  show pcl E0 318 [.i .i64 1, .i .i64 0, .p 0 0] (some ⟨cW x, true, 0⟩ :: b :: G) = some (wiP (sW (tW (x 7) (x 2)) (tW (x 8) (x 1))), some ⟨cW x, true, 0⟩ :: b :: (G ++ [some ⟨[.b (decide ((sW (tW (x 7) (x 2)) (tW (x 8) (x 1))).v < 0)), D (sW (tW (x 7) (x 2)) (tW (x 8) (x 1))).v.natAbs], true, 1⟩]))
  refine zbw (xf := zuW) rfl rfl (by simp [zuW]) ?_
  simp only [zuW]
  simp (disch := omega) only [go_sem, seval, wqq]
  refine zaf [39, 45] rfl ?_ ?_
  ·simp (disch := omega) only [go_sem, seval, wqq, zad, t1, t2, t3, mG, mG0, sG, sG0, lG, lqq]
   exact ⟨_, rfl, rfl⟩
  simp (disch := omega) only [go_sem, seval, wqq, zad, t1, t2, t3, mG, mG0, sG, sG0, lG, lqq]
 ·have t1 := zao (x 8) (x 0)
  have t2 := zao (x 6) (x 2)
  have t3 := zbo (tW (x 8) (x 0)) (tW (x 6) (x 2))
  refine ⟨[some ⟨[.b (decide ((sW (tW (x 8) (x 0)) (tW (x 6) (x 2))).v < 0)), D (sW (tW (x 8) (x 0)) (tW (x 6) (x 2))).v.natAbs], true, 1⟩], ?_⟩
  show pcl E0 318 [.i .i64 1, .i .i64 1, .p 0 0] (some ⟨cW x, true, 0⟩ :: b :: G) = some (wiP (sW (tW (x 8) (x 0)) (tW (x 6) (x 2))), some ⟨cW x, true, 0⟩ :: b :: (G ++ [some ⟨[.b (decide ((sW (tW (x 8) (x 0)) (tW (x 6) (x 2))).v < 0)), D (sW (tW (x 8) (x 0)) (tW (x 6) (x 2))).v.natAbs], true, 1⟩]))
  refine zbw (xf := zuW) rfl rfl (by simp [zuW]) ?_
  simp only [zuW]
  simp (disch := omega) only [go_sem, seval, wqq]
  refine zaf [39, 45] rfl ?_ ?_
  ·simp (disch := omega) only [go_sem, seval, wqq, zad, t1, t2, t3, mG, mG0, sG, sG0, lG, lqq]
   exact ⟨_, rfl, rfl⟩
  simp (disch := omega) only [go_sem, seval, wqq, zad, t1, t2, t3, mG, mG0, sG, sG0, lG, lqq]
 ·have t1 := zao (x 6) (x 1)
  have t2 := zao (x 7) (x 0)
  have t3 := zbo (tW (x 6) (x 1)) (tW (x 7) (x 0))
  refine ⟨[some ⟨[.b (decide ((sW (tW (x 6) (x 1)) (tW (x 7) (x 0))).v < 0)), D (sW (tW (x 6) (x 1)) (tW (x 7) (x 0))).v.natAbs], true, 1⟩], ?_⟩
  show pcl E0 318 [.i .i64 1, .i .i64 2, .p 0 0] (some ⟨cW x, true, 0⟩ :: b :: G) = some (wiP (sW (tW (x 6) (x 1)) (tW (x 7) (x 0))), some ⟨cW x, true, 0⟩ :: b :: (G ++ [some ⟨[.b (decide ((sW (tW (x 6) (x 1)) (tW (x 7) (x 0))).v < 0)), D (sW (tW (x 6) (x 1)) (tW (x 7) (x 0))).v.natAbs], true, 1⟩]))
  refine zbw (xf := zuW) rfl rfl (by simp [zuW]) ?_
  simp only [zuW]
  simp (disch := omega) only [go_sem, seval, wqq]
  refine zaf [39, 45] rfl ?_ ?_
  ·simp (disch := omega) only [go_sem, seval, wqq, zad, t1, t2, t3, mG, mG0, sG, sG0, lG, lqq]
   exact ⟨_, rfl, rfl⟩
  simp (disch := omega) only [go_sem, seval, wqq, zad, t1, t2, t3, mG, mG0, sG, sG0, lG, lqq]
 ·have t1 := zao (x 1) (x 5)
  have t2 := zao (x 2) (x 4)
  have t3 := zbo (tW (x 1) (x 5)) (tW (x 2) (x 4))
  refine ⟨[some ⟨[.b (decide ((sW (tW (x 1) (x 5)) (tW (x 2) (x 4))).v < 0)), D (sW (tW (x 1) (x 5)) (tW (x 2) (x 4))).v.natAbs], true, 1⟩], ?_⟩
  show pcl E0 318 [.i .i64 2, .i .i64 0, .p 0 0] (some ⟨cW x, true, 0⟩ :: b :: G) = some (wiP (sW (tW (x 1) (x 5)) (tW (x 2) (x 4))), some ⟨cW x, true, 0⟩ :: b :: (G ++ [some ⟨[.b (decide ((sW (tW (x 1) (x 5)) (tW (x 2) (x 4))).v < 0)), D (sW (tW (x 1) (x 5)) (tW (x 2) (x 4))).v.natAbs], true, 1⟩]))
  refine zbw (xf := zuW) rfl rfl (by simp [zuW]) ?_
  simp only [zuW]
  simp (disch := omega) only [go_sem, seval, wqq]
  refine zaf [39, 45] rfl ?_ ?_
  ·simp (disch := omega) only [go_sem, seval, wqq, zad, t1, t2, t3, mG, mG0, sG, sG0, lG, lqq]
   exact ⟨_, rfl, rfl⟩
  simp (disch := omega) only [go_sem, seval, wqq, zad, t1, t2, t3, mG, mG0, sG, sG0, lG, lqq]
 ·have t1 := zao (x 2) (x 3)
  have t2 := zao (x 0) (x 5)
  have t3 := zbo (tW (x 2) (x 3)) (tW (x 0) (x 5))
  refine ⟨[some ⟨[.b (decide ((sW (tW (x 2) (x 3)) (tW (x 0) (x 5))).v < 0)), D (sW (tW (x 2) (x 3)) (tW (x 0) (x 5))).v.natAbs], true, 1⟩], ?_⟩
  show pcl E0 318 [.i .i64 2, .i .i64 1, .p 0 0] (some ⟨cW x, true, 0⟩ :: b :: G) = some (wiP (sW (tW (x 2) (x 3)) (tW (x 0) (x 5))), some ⟨cW x, true, 0⟩ :: b :: (G ++ [some ⟨[.b (decide ((sW (tW (x 2) (x 3)) (tW (x 0) (x 5))).v < 0)), D (sW (tW (x 2) (x 3)) (tW (x 0) (x 5))).v.natAbs], true, 1⟩]))
  refine zbw (xf := zuW) rfl rfl (by simp [zuW]) ?_
  simp only [zuW]
  simp (disch := omega) only [go_sem, seval, wqq]
  refine zaf [39, 45] rfl ?_ ?_
  ·simp (disch := omega) only [go_sem, seval, wqq, zad, t1, t2, t3, mG, mG0, sG, sG0, lG, lqq]
   exact ⟨_, rfl, rfl⟩
  simp (disch := omega) only [go_sem, seval, wqq, zad, t1, t2, t3, mG, mG0, sG, sG0, lG, lqq]
 ·have t1 := zao (x 0) (x 4)
  have t2 := zao (x 1) (x 3)
  have t3 := zbo (tW (x 0) (x 4)) (tW (x 1) (x 3))
  refine ⟨[some ⟨[.b (decide ((sW (tW (x 0) (x 4)) (tW (x 1) (x 3))).v < 0)), D (sW (tW (x 0) (x 4)) (tW (x 1) (x 3))).v.natAbs], true, 1⟩], ?_⟩
  show pcl E0 318 [.i .i64 2, .i .i64 2, .p 0 0] (some ⟨cW x, true, 0⟩ :: b :: G) = some (wiP (sW (tW (x 0) (x 4)) (tW (x 1) (x 3))), some ⟨cW x, true, 0⟩ :: b :: (G ++ [some ⟨[.b (decide ((sW (tW (x 0) (x 4)) (tW (x 1) (x 3))).v < 0)), D (sW (tW (x 0) (x 4)) (tW (x 1) (x 3))).v.natAbs], true, 1⟩]))
  refine zbw (xf := zuW) rfl rfl (by simp [zuW]) ?_
  simp only [zuW]
  simp (disch := omega) only [go_sem, seval, wqq]
  refine zaf [39, 45] rfl ?_ ?_
  ·simp (disch := omega) only [go_sem, seval, wqq, zad, t1, t2, t3, mG, mG0, sG, sG0, lG, lqq]
   exact ⟨_, rfl, rfl⟩
  simp (disch := omega) only [go_sem, seval, wqq, zad, t1, t2, t3, mG, mG0, sG, sG0, lG, lqq]
noncomputable def adW (x : Nat → WI) : Nat → WI := fun e => mnW x (e % 3) (e / 3)
end Go.Eng
namespace Go.Eng
noncomputable def cS (s : Nat → Bool) (w : Nat → WI) : List PV := [if s 0 then .b (decide ((w 0).v < 0)) else .b false, if s 0 then D (w 0).v.natAbs else .nl, if s 1 then .b (decide ((w 1).v < 0)) else .b false, if s 1 then D (w 1).v.natAbs else .nl, if s 2 then .b (decide ((w 2).v < 0)) else .b false, if s 2 then D (w 2).v.natAbs else .nl, if s 3 then .b (decide ((w 3).v < 0)) else .b false, if s 3 then D (w 3).v.natAbs else .nl, if s 4 then .b (decide ((w 4).v < 0)) else .b false, if s 4 then D (w 4).v.natAbs else .nl, if s 5 then .b (decide ((w 5).v < 0)) else .b false, if s 5 then D (w 5).v.natAbs else .nl, if s 6 then .b (decide ((w 6).v < 0)) else .b false, if s 6 then D (w 6).v.natAbs else .nl, if s 7 then .b (decide ((w 7).v < 0)) else .b false, if s 7 then D (w 7).v.natAbs else .nl, if s 8 then .b (decide ((w 8).v < 0)) else .b false, if s 8 then D (w 8).v.natAbs else .nl]
theorem zaq (s : Nat → Bool) (w : Nat → WI) : cS s w = [if s 0 then .b (decide ((w 0).v < 0)) else .b false, if s 0 then D (w 0).v.natAbs else .nl, if s 1 then .b (decide ((w 1).v < 0)) else .b false, if s 1 then D (w 1).v.natAbs else .nl, if s 2 then .b (decide ((w 2).v < 0)) else .b false, if s 2 then D (w 2).v.natAbs else .nl, if s 3 then .b (decide ((w 3).v < 0)) else .b false, if s 3 then D (w 3).v.natAbs else .nl, if s 4 then .b (decide ((w 4).v < 0)) else .b false, if s 4 then D (w 4).v.natAbs else .nl, if s 5 then .b (decide ((w 5).v < 0)) else .b false, if s 5 then D (w 5).v.natAbs else .nl, if s 6 then .b (decide ((w 6).v < 0)) else .b false, if s 6 then D (w 6).v.natAbs else .nl, if s 7 then .b (decide ((w 7).v < 0)) else .b false, if s 7 then D (w 7).v.natAbs else .nl, if s 8 then .b (decide ((w 8).v < 0)) else .b false, if s 8 then D (w 8).v.natAbs else .nl] := _root_.id rfl
@[go_sem] theorem zue (s : Nat → Bool) (w : Nat → WI) : (cS s w).length = 18 := _root_.id rfl
def sA (n : Nat) : Nat → Bool := fun e => decide (3 * (e % 3) + e / 3 < n)
set_option maxHeartbeats 2000000 in
theorem zmy (x : Nat → WI) : pf E0 311 [mW x] = some (mW (adW x)) := by
 refine zaa (xf := zvM) rfl (by simp [zvM]) ?_
 simp only [zvM]
 simp (disch := omega) only [go_sem, seval, wqq]
 refine zat zxc.eq_1 (fun (i : Nat) fr M => i ≤ 3 ∧ fr 2 = .p 1 0 ∧ fr 3 = .fn 318 [.p 0 0] ∧ fr 4 = .p 2 0 ∧ fr 8 = (PV.i .i64 ((i : Nat) : Int)) ∧ ∃ b v G, M = some ⟨cW x, true, 0⟩ :: some ⟨cP 0 zW, true, b⟩ :: some ⟨cS (sA (3 * i)) (adW x), true, v⟩ :: G) (fun i => 3 - i) ?_ 0 ⟨by omega, by simp only [go_sem, seval], by simp only [go_sem, seval], by simp only [go_sem, seval], by simp only [go_sem, seval], _, _, _, rfl⟩
 rintro i fr M ⟨hi, f2, f3, f4, f8, b, v, G, rfl⟩ ih
 rcases Nat.lt_or_ge i 3 with h3 | h3
 ·have q1 : ((i : Int) < 3) = True := eq_true (by omega)
  simp (disch := omega) only [go_sem, seval, wqq, f2, f3, f4, f8, q1]
  refine zat zxg.eq_1 (fun (k : Nat) fr M => k ≤ 3 ∧ fr 2 = .p 1 0 ∧ fr 3 = .fn 318 [.p 0 0] ∧ fr 4 = .p 2 0 ∧ fr 8 = (PV.i .i64 ((i : Nat) : Int)) ∧ fr 5 = (PV.i .i64 ((i : Nat) : Int)) ∧ fr 11 = (PV.i .i64 ((k : Nat) : Int)) ∧ ∃ b v G, M = some ⟨cW x, true, 0⟩ :: some ⟨cP 0 zW, true, b⟩ :: some ⟨cS (sA (3 * i + k)) (adW x), true, v⟩ :: G) (fun k => 3 - k) ?_ 0 ⟨by omega, by simp only [go_sem, seval, f2], by simp only [go_sem, seval, f3], by simp only [go_sem, seval, f4], by simp only [go_sem, seval, f8], by simp only [go_sem, seval], by simp only [go_sem, seval], _, _, _, rfl⟩
  rintro k fr M ⟨hk, f2, f3, f4, f8, f5, f11, b, v, G, rfl⟩ ih2
  rcases Nat.lt_or_ge k 3 with h4 | h4
  ·obtain ⟨G', mn⟩ := zmE x h3 h4 (some ⟨cP 0 zW, true, b⟩) (some ⟨cS (sA (3 * i + k)) (adW x), true, v⟩ :: G)
   have q2 : ((k : Int) < 3) = True := eq_true (by omega)
   obtain rfl | rfl | rfl := zhJ h3 <;> obtain rfl | rfl | rfl := zhJ h4
   ·have mn : pcl E0 318 [.i .i64 0, .i .i64 0, .p 0 0] _ = _ := mn
    simp (disch := omega) only [go_sem, seval, wqq, f2, f3, f4, f8, f5, f11, mn]
    exact ih2 1 _ _ (by omega) ⟨by omega, by simp only [go_sem, seval, f2], by simp only [go_sem, seval, f3], by simp only [go_sem, seval, f4], by simp only [go_sem, seval, f8], by simp only [go_sem, seval, f5], by simp only [go_sem, seval], _, _, _, rfl⟩
   ·have mn : pcl E0 318 [.i .i64 0, .i .i64 1, .p 0 0] _ = _ := mn
    simp (disch := omega) only [go_sem, seval, wqq, f2, f3, f4, f8, f5, f11, mn]
    exact ih2 2 _ _ (by omega) ⟨by omega, by simp only [go_sem, seval, f2], by simp only [go_sem, seval, f3], by simp only [go_sem, seval, f4], by simp only [go_sem, seval, f8], by simp only [go_sem, seval, f5], by simp only [go_sem, seval], _, _, _, rfl⟩
   ·have mn : pcl E0 318 [.i .i64 0, .i .i64 2, .p 0 0] _ = _ := mn
    simp (disch := omega) only [go_sem, seval, wqq, f2, f3, f4, f8, f5, f11, mn]
    exact ih2 3 _ _ (by omega) ⟨by omega, by simp only [go_sem, seval, f2], by simp only [go_sem, seval, f3], by simp only [go_sem, seval, f4], by simp only [go_sem, seval, f8], by simp only [go_sem, seval, f5], by simp only [go_sem, seval], _, _, _, rfl⟩
   ·have mn : pcl E0 318 [.i .i64 1, .i .i64 0, .p 0 0] _ = _ := mn
    simp (disch := omega) only [go_sem, seval, wqq, f2, f3, f4, f8, f5, f11, mn]
    exact ih2 1 _ _ (by omega) ⟨by omega, by simp only [go_sem, seval, f2], by simp only [go_sem, seval, f3], by simp only [go_sem, seval, f4], by simp only [go_sem, seval, f8], by simp only [go_sem, seval, f5], by simp only [go_sem, seval], _, _, _, rfl⟩
   ·have mn : pcl E0 318 [.i .i64 1, .i .i64 1, .p 0 0] _ = _ := mn
    simp (disch := omega) only [go_sem, seval, wqq, f2, f3, f4, f8, f5, f11, mn]
    exact ih2 2 _ _ (by omega) ⟨by omega, by simp only [go_sem, seval, f2], by simp only [go_sem, seval, f3], by simp only [go_sem, seval, f4], by simp only [go_sem, seval, f8], by simp only [go_sem, seval, f5], by simp only [go_sem, seval], _, _, _, rfl⟩
   ·have mn : pcl E0 318 [.i .i64 1, .i .i64 2, .p 0 0] _ = _ := mn
    simp (disch := omega) only [go_sem, seval, wqq, f2, f3, f4, f8, f5, f11, mn]
    exact ih2 3 _ _ (by omega) ⟨by omega, by simp only [go_sem, seval, f2], by simp only [go_sem, seval, f3], by simp only [go_sem, seval, f4], by simp only [go_sem, seval, f8], by simp only [go_sem, seval, f5], by simp only [go_sem, seval], _, _, _, rfl⟩
   ·have mn : pcl E0 318 [.i .i64 2, .i .i64 0, .p 0 0] _ = _ := mn
    simp (disch := omega) only [go_sem, seval, wqq, f2, f3, f4, f8, f5, f11, mn]
    exact ih2 1 _ _ (by omega) ⟨by omega, by simp only [go_sem, seval, f2], by simp only [go_sem, seval, f3], by simp only [go_sem, seval, f4], by simp only [go_sem, seval, f8], by simp only [go_sem, seval, f5], by simp only [go_sem, seval], _, _, _, rfl⟩
   ·have mn : pcl E0 318 [.i .i64 2, .i .i64 1, .p 0 0] _ = _ := mn
    simp (disch := omega) only [go_sem, seval, wqq, f2, f3, f4, f8, f5, f11, mn]
    exact ih2 2 _ _ (by omega) ⟨by omega, by simp only [go_sem, seval, f2], by simp only [go_sem, seval, f3], by simp only [go_sem, seval, f4], by simp only [go_sem, seval, f8], by simp only [go_sem, seval, f5], by simp only [go_sem, seval], _, _, _, rfl⟩
   ·have mn : pcl E0 318 [.i .i64 2, .i .i64 2, .p 0 0] _ = _ := mn
    simp (disch := omega) only [go_sem, seval, wqq, f2, f3, f4, f8, f5, f11, mn]
    exact ih2 3 _ _ (by omega) ⟨by omega, by simp only [go_sem, seval, f2], by simp only [go_sem, seval, f3], by simp only [go_sem, seval, f4], by simp only [go_sem, seval, f8], by simp only [go_sem, seval, f5], by simp only [go_sem, seval], _, _, _, rfl⟩
  ·obtain rfl : k = 3 := by omega
   simp (disch := omega) only [go_sem, seval, wqq, f2, f3, f4, f8, f5, f11]
   exact ih (i + 1) _ _ (by omega) ⟨by omega, by simp only [go_sem, seval, f2], by simp only [go_sem, seval, f3], by simp only [go_sem, seval, f4], by simp only [go_sem, seval]; rw [Int.natCast_succ], b, v, G, rfl⟩
 ·obtain rfl : i = 3 := by omega
  have c9 : cS (sA (3 * 3)) (adW x) = cW (adW x) := rfl
  simp (disch := omega) only [go_sem, seval, wqq, f2, f3, f4, f8, c9]
noncomputable def dtW (x : Nat → WI) : WI := aW (aW (tW (x 0) (adW x 0)) (tW (x 1) (adW x 3))) (tW (x 2) (adW x 6))
theorem zfA (x : Nat → WI) : pf E0 306 [mW x] = some (wiP (dtW x)) := by
 have ha := zmy x
 unfold dtW
 generalize adW x = a at *
 have t1 := zao (x 0) (a 0)
 have t2 := zao (x 1) (a 3)
 have t3 := zao (x 2) (a 6)
 generalize tW (x 0) (a 0) = u1 at *
 generalize tW (x 1) (a 3) = u2 at *
 generalize tW (x 2) (a 6) = u3 at *
 have t4 := zax u1 u2
 generalize aW u1 u2 = u4 at *
 have t5 := zax u4 u3
 refine zaa (xf := zwO) rfl (by simp [zwO]) ?_
 simp only [zwO]
 simp (disch := omega) only [go_sem, seval, wqq, ha]
 refine zaf [11, 13, 17, 19] rfl ?_ ?_
 ·simp (disch := omega) only [go_sem, seval, wqq, zad, t1, t2, t3, t4, t5]
  exact ⟨_, rfl, rfl⟩
 simp (disch := omega) only [go_sem, seval, wqq, zad, t1, t2, t3, t4, t5]
def okP (p : Nat → Int) : Prop := ∀ e, e < 9 → -1073741824 ≤ p e ∧ p e ≤ 1073741824
open Classical in
noncomputable def vlP (p : Nat → Int) : Int := if okP p then (if (dtW (ofW p)).v = 0 then 10 else 0) else 1
set_option maxHeartbeats 2000000 in
theorem zcw {p : Nat → Int} (hp : ∀ e, Fits64 (p e)) : pf E0 302 [pI p] = some (.i .i64 (vlP p)) := by
 have hm := zmF hp
 have hd := zfA (ofW p)
 have sg := zbQ (dtW (ofW p))
 have bad : ∀ e, e < 9 → ¬ (-1073741824 ≤ p e ∧ p e ≤ 1073741824) → vlP p = 1 := fun e he h => by unfold vlP; rw [if_neg fun q => h (q e he)]
 have good : okP p → vlP p = if (dtW (ofW p)).v = 0 then 10 else 0 := fun h => by unfold vlP; rw [if_pos h]
 generalize vlP p = V at *
 generalize dtW (ofW p) = dt at *
 refine zaa (xf := zv9) rfl (by simp [zv9]) ?_
 simp only [zv9]
 simp (disch := omega) only [go_sem, seval, wqq]
 refine zat zxs.eq_1 (fun (i : Nat) fr M => i ≤ 9 ∧ (∀ e, e < i → -1073741824 ≤ p e ∧ p e ≤ 1073741824) ∧ fr 1 = .p 0 0 ∧ fr 6 = pI p ∧ fr 7 = (PV.i .i64 ((i : Nat) : Int)) ∧ M = [some ⟨cI p, true, 0⟩]) (fun i => 9 - i) ?_ 0 ⟨by omega, fun e he => by omega, by simp only [go_sem, seval], by simp only [go_sem, seval], by simp only [go_sem, seval], rfl⟩
 rintro i fr M ⟨hi, hlo, f1, f6, f7, rfl⟩ ih
 rcases Nat.lt_or_ge i 9 with h9 | h9
 ·have nxt : ∀ j, (-1073741824 ≤ p j ∧ p j ≤ 1073741824) → j = i → ∀ e, e < j + 1 → -1073741824 ≤ p e ∧ p e ≤ 1073741824 := fun j hj hji e he => by
   subst hji
   rcases Nat.lt_or_ge e j with h | h
   ·exact hlo e h
   ·obtain rfl : e = j := by omega
    exact hj
  obtain rfl | rfl | rfl | rfl | rfl | rfl | rfl | rfl | rfl := zeh h9
  ·have hpe := hp 0
   unfold Fits64 at hpe
   rcases zbM (p 0 < -1073741824) with t1 | t1
   ·rw [bad 0 (by decide) (by have := of_eq_true t1; omega)]
    simp (disch := omega) only [go_sem, seval, wqq, f1, f6, f7, pI, zag, t1]
   ·rcases zbM (p 0 > 1073741824) with t2 | t2
    ·rw [bad 0 (by decide) (by have := of_eq_true t2; omega)]
     simp (disch := omega) only [go_sem, seval, wqq, f1, f6, f7, pI, zag, t1, t2]
    ·have u1 := of_eq_false t1
     have u2 := of_eq_false t2
     simp (disch := omega) only [go_sem, seval, wqq, f1, f6, f7, pI, zag, t1, t2]
     exact ih 1 _ _ (by omega) ⟨by omega, nxt 0 (by omega) rfl, by simp only [go_sem, seval, f1], by simp only [go_sem, seval, f6], by simp only [go_sem, seval], rfl⟩
  ·have hpe := hp 1
   unfold Fits64 at hpe
   rcases zbM (p 1 < -1073741824) with t1 | t1
   ·rw [bad 1 (by decide) (by have := of_eq_true t1; omega)]
    simp (disch := omega) only [go_sem, seval, wqq, f1, f6, f7, pI, zag, t1]
   ·rcases zbM (p 1 > 1073741824) with t2 | t2
    ·rw [bad 1 (by decide) (by have := of_eq_true t2; omega)]
     simp (disch := omega) only [go_sem, seval, wqq, f1, f6, f7, pI, zag, t1, t2]
    ·have u1 := of_eq_false t1
     have u2 := of_eq_false t2
     simp (disch := omega) only [go_sem, seval, wqq, f1, f6, f7, pI, zag, t1, t2]
     exact ih 2 _ _ (by omega) ⟨by omega, nxt 1 (by omega) rfl, by simp only [go_sem, seval, f1], by simp only [go_sem, seval, f6], by simp only [go_sem, seval], rfl⟩
  ·have hpe := hp 2
   unfold Fits64 at hpe
   rcases zbM (p 2 < -1073741824) with t1 | t1
   ·rw [bad 2 (by decide) (by have := of_eq_true t1; omega)]
    simp (disch := omega) only [go_sem, seval, wqq, f1, f6, f7, pI, zag, t1]
   ·rcases zbM (p 2 > 1073741824) with t2 | t2
    ·rw [bad 2 (by decide) (by have := of_eq_true t2; omega)]
     simp (disch := omega) only [go_sem, seval, wqq, f1, f6, f7, pI, zag, t1, t2]
    ·have u1 := of_eq_false t1
     have u2 := of_eq_false t2
     simp (disch := omega) only [go_sem, seval, wqq, f1, f6, f7, pI, zag, t1, t2]
     exact ih 3 _ _ (by omega) ⟨by omega, nxt 2 (by omega) rfl, by simp only [go_sem, seval, f1], by simp only [go_sem, seval, f6], by simp only [go_sem, seval], rfl⟩
  ·have hpe := hp 3
   unfold Fits64 at hpe
   rcases zbM (p 3 < -1073741824) with t1 | t1
   ·rw [bad 3 (by decide) (by have := of_eq_true t1; omega)]
    simp (disch := omega) only [go_sem, seval, wqq, f1, f6, f7, pI, zag, t1]
   ·rcases zbM (p 3 > 1073741824) with t2 | t2
    ·rw [bad 3 (by decide) (by have := of_eq_true t2; omega)]
     simp (disch := omega) only [go_sem, seval, wqq, f1, f6, f7, pI, zag, t1, t2]
    ·have u1 := of_eq_false t1
     have u2 := of_eq_false t2
     simp (disch := omega) only [go_sem, seval, wqq, f1, f6, f7, pI, zag, t1, t2]
     exact ih 4 _ _ (by omega) ⟨by omega, nxt 3 (by omega) rfl, by simp only [go_sem, seval, f1], by simp only [go_sem, seval, f6], by simp only [go_sem, seval], rfl⟩
  ·have hpe := hp 4
   unfold Fits64 at hpe
   rcases zbM (p 4 < -1073741824) with t1 | t1
   ·rw [bad 4 (by decide) (by have := of_eq_true t1; omega)]
    simp (disch := omega) only [go_sem, seval, wqq, f1, f6, f7, pI, zag, t1]
   ·rcases zbM (p 4 > 1073741824) with t2 | t2
    ·rw [bad 4 (by decide) (by have := of_eq_true t2; omega)]
     simp (disch := omega) only [go_sem, seval, wqq, f1, f6, f7, pI, zag, t1, t2]
    ·have u1 := of_eq_false t1
     have u2 := of_eq_false t2
     simp (disch := omega) only [go_sem, seval, wqq, f1, f6, f7, pI, zag, t1, t2]
     exact ih 5 _ _ (by omega) ⟨by omega, nxt 4 (by omega) rfl, by simp only [go_sem, seval, f1], by simp only [go_sem, seval, f6], by simp only [go_sem, seval], rfl⟩
  ·have hpe := hp 5
   unfold Fits64 at hpe
   rcases zbM (p 5 < -1073741824) with t1 | t1
   ·rw [bad 5 (by decide) (by have := of_eq_true t1; omega)]
    simp (disch := omega) only [go_sem, seval, wqq, f1, f6, f7, pI, zag, t1]
   ·rcases zbM (p 5 > 1073741824) with t2 | t2
    ·rw [bad 5 (by decide) (by have := of_eq_true t2; omega)]
     simp (disch := omega) only [go_sem, seval, wqq, f1, f6, f7, pI, zag, t1, t2]
    ·have u1 := of_eq_false t1
     have u2 := of_eq_false t2
     simp (disch := omega) only [go_sem, seval, wqq, f1, f6, f7, pI, zag, t1, t2]
     exact ih 6 _ _ (by omega) ⟨by omega, nxt 5 (by omega) rfl, by simp only [go_sem, seval, f1], by simp only [go_sem, seval, f6], by simp only [go_sem, seval], rfl⟩
  ·have hpe := hp 6
   unfold Fits64 at hpe
   rcases zbM (p 6 < -1073741824) with t1 | t1
   ·rw [bad 6 (by decide) (by have := of_eq_true t1; omega)]
    simp (disch := omega) only [go_sem, seval, wqq, f1, f6, f7, pI, zag, t1]
   ·rcases zbM (p 6 > 1073741824) with t2 | t2
    ·rw [bad 6 (by decide) (by have := of_eq_true t2; omega)]
     simp (disch := omega) only [go_sem, seval, wqq, f1, f6, f7, pI, zag, t1, t2]
    ·have u1 := of_eq_false t1
     have u2 := of_eq_false t2
     simp (disch := omega) only [go_sem, seval, wqq, f1, f6, f7, pI, zag, t1, t2]
     exact ih 7 _ _ (by omega) ⟨by omega, nxt 6 (by omega) rfl, by simp only [go_sem, seval, f1], by simp only [go_sem, seval, f6], by simp only [go_sem, seval], rfl⟩
  ·have hpe := hp 7
   unfold Fits64 at hpe
   rcases zbM (p 7 < -1073741824) with t1 | t1
   ·rw [bad 7 (by decide) (by have := of_eq_true t1; omega)]
    simp (disch := omega) only [go_sem, seval, wqq, f1, f6, f7, pI, zag, t1]
   ·rcases zbM (p 7 > 1073741824) with t2 | t2
    ·rw [bad 7 (by decide) (by have := of_eq_true t2; omega)]
     simp (disch := omega) only [go_sem, seval, wqq, f1, f6, f7, pI, zag, t1, t2]
    ·have u1 := of_eq_false t1
     have u2 := of_eq_false t2
     simp (disch := omega) only [go_sem, seval, wqq, f1, f6, f7, pI, zag, t1, t2]
     exact ih 8 _ _ (by omega) ⟨by omega, nxt 7 (by omega) rfl, by simp only [go_sem, seval, f1], by simp only [go_sem, seval, f6], by simp only [go_sem, seval], rfl⟩
  ·have hpe := hp 8
   unfold Fits64 at hpe
   rcases zbM (p 8 < -1073741824) with t1 | t1
   ·rw [bad 8 (by decide) (by have := of_eq_true t1; omega)]
    simp (disch := omega) only [go_sem, seval, wqq, f1, f6, f7, pI, zag, t1]
   ·rcases zbM (p 8 > 1073741824) with t2 | t2
    ·rw [bad 8 (by decide) (by have := of_eq_true t2; omega)]
     simp (disch := omega) only [go_sem, seval, wqq, f1, f6, f7, pI, zag, t1, t2]
    ·have u1 := of_eq_false t1
     have u2 := of_eq_false t2
     simp (disch := omega) only [go_sem, seval, wqq, f1, f6, f7, pI, zag, t1, t2]
     exact ih 9 _ _ (by omega) ⟨by omega, nxt 8 (by omega) rfl, by simp only [go_sem, seval, f1], by simp only [go_sem, seval, f6], by simp only [go_sem, seval], rfl⟩
 ·obtain rfl : i = 9 := by omega
  rw [good hlo]
  by_cases h0 : dt.v = 0
  ·have c0 : (cmpI dt.v 0 = 0) = True := by rw [zaY]; simp [h0]
   rw [if_pos h0]
   simp (disch := omega) only [go_sem, seval, wqq, f1, f6, f7, hm, hd, sg, c0]
  ·have c0 : (cmpI dt.v 0 = 0) = False := by rw [zaY]; simp [h0]
   rw [if_neg h0]
   simp (disch := omega) only [go_sem, seval, wqq, f1, f6, f7, hm, hd, sg, c0]
end Go.Eng
namespace Go.Eng
def gN (X : Nat → Int) : Nat → Nat
 | 0 => 0
 | i + 1 => Nat.gcd (gN X i) (X i).natAbs
def fN (X : Nat → Int) : Nat → Int
 | 0 => 0
 | i + 1 => if fN X i = 0 then cmpI (X i) 0 else fN X i
theorem zk9 (X : Nat → Int) : ∀ i, fN X i = 0 ∨ fN X i = 1 ∨ fN X i = -1
 | 0 => .inl rfl
 | i + 1 => by
  have h := zjQ (X i) 0
  have := zk9 X i
  unfold fN
  split <;> omega
theorem zib (X : Nat → Int) : ∀ i, fN X i = 0 → gN X i = 0
 | 0, _ => rfl
 | i + 1, h => by
  unfold fN at h
  split at h
  ·rename_i h0
   have h1 := zib X i h0
   rw [zaY] at h
   show Nat.gcd (gN X i) (X i).natAbs = 0
   rw [h1, h]; rfl
  ·rename_i h0; exact (h0 h).elim
noncomputable def gW (x : Nat → WI) : Nat → WI
 | 0 => wi0
 | i + 1 => (gW x i).gcd (x i)
theorem zsw (x : Nat → WI) : ∀ i, (gW x i).v = (gN (fun e => (x e).v) i : Int)
 | 0 => rfl
 | i + 1 => by
  show ((Nat.gcd (gW x i).v.natAbs (x i).v.natAbs : Nat) : Int) = _
  rw [zsw x i, Int.natAbs_natCast]; rfl
noncomputable def gC (x : Nat → WI) : Nat → List PV
 | 0 => [.b false, .nl]
 | i + 1 => [.b (decide ((gW x (i + 1)).v < 0)), D (gW x (i + 1)).v.natAbs]
def okN (X : Nat → Int) : Prop := ∀ e, e < 9 → -1073741824 ≤ X e / gN X 9 ∧ X e / gN X 9 ≤ 1073741824
open Classical in
noncomputable def nfP (X : Nat → Int) : Nat → Int := if okN X then fun e => X e / gN X 9 * fN X 9 else zI
open Classical in
noncomputable def nfE (X : Nat → Int) : Int := if okN X then 0 else 5
theorem pI0 : PV.ag [.i .i64 0, .i .i64 0, .i .i64 0, .i .i64 0, .i .i64 0, .i .i64 0, .i .i64 0, .i .i64 0, .i .i64 0] = pI zI := rfl
theorem zkX {q s : Int} (h1 : -9223372036854775808 ≤ q) (h2 : q ≤ 9223372036854775807) (ho : ¬ (-1073741824 ≤ q ∧ q ≤ 1073741824)) (hs : s = 1 ∨ s = -1) : IntKind.i64.wrap (q * s) < -1073741824 ∨ IntKind.i64.wrap (q * s) > 1073741824 := by
 rcases hs with rfl | rfl
 ·rw [Int.mul_one, wqa (by omega) (by omega)]; omega
 ·by_cases hm : q = -9223372036854775808
  ·subst hm; left; decide
  ·rw [show q * -1 = -q by omega, wqa (by omega) (by omega)]; omega
set_option maxHeartbeats 8000000 in
theorem ziZ (x : Nat → WI) (hg : gN (fun e => (x e).v) 9 ≠ 0) : pf E0 314 [mW x] = some (.tu [pI (nfP fun e => (x e).v), .i .i64 (nfE fun e => (x e).v)]) := by
 obtain ⟨X, hX⟩ : ∃ X : Nat → Int, X = fun e => (x e).v := ⟨_, rfl⟩
 have gv := zsw x 9
 rw [← hX] at hg gv ⊢
 have Xe : ∀ e, (x e).v = X e := fun e => by rw [hX]
 have fr9 := zk9 X 9
 have s9 : fN X 9 = 1 ∨ fN X 9 = -1 := by
  rcases fr9 with h | h
  ·exact (hg (zib X 9 h)).elim
  ·exact h
 have gw0 : (gW x 9).v ≠ 0 := by rw [gv]; omega
 have bad : ∀ e, e < 9 → ¬ (-1073741824 ≤ X e / gN X 9 ∧ X e / gN X 9 ≤ 1073741824) → nfP X = zI ∧ nfE X = 5 := fun e he h => by
  have hn : ¬ okN X := fun q => h (q e he)
  exact ⟨by unfold nfP; rw [if_neg hn], by unfold nfE; rw [if_neg hn]⟩
 have good : okN X → nfP X = (fun e => X e / gN X 9 * fN X 9) ∧ nfE X = 0 := fun h => ⟨by unfold nfP; rw [if_pos h], by unfold nfE; rw [if_pos h]⟩
 generalize nfP X = P at *
 generalize nfE X = E at *
 have sgn : ∀ e, pf E0 31 [wiP (x e)] = some (.i .i64 (cmpI (X e) 0)) := fun e => by rw [← Xe]; exact zbQ (x e)
 have gcd : ∀ e, pf E0 18 [wiP (gW x e), wiP (x e)] = some (wiP (gW x (e + 1))) := fun e => zf7 (gW x e) (x e)
 refine zaa (xf := zvW) rfl (by simp [zvW]) ?_
 simp only [zvW]
 simp (disch := omega) only [go_sem, seval, wqq]
 refine zat zxl.eq_1 (fun (i : Nat) fr M => i ≤ 9 ∧ fr 1 = .p 0 0 ∧ fr 2 = .p 1 0 ∧ fr 4 = .p 2 0 ∧ fr 5 = .i .i64 (fN X i) ∧ fr 17 = mW x ∧ fr 18 = (PV.i .i64 ((i : Nat) : Int)) ∧ ∃ b v G, M = some ⟨cW x, true, 0⟩ :: some ⟨cQ 0 zI, true, b⟩ :: some ⟨gC x i, true, v⟩ :: G) (fun i => 9 - i) ?_ 0 ⟨by omega, by simp only [go_sem, seval], by simp only [go_sem, seval], by simp only [go_sem, seval], by simp only [go_sem, seval]; try rfl, by simp only [go_sem, seval], by simp only [go_sem, seval], _, _, [], rfl⟩
 rintro i fr M ⟨hi, f1, f2, f4, f5, f17, f18, b, v, G, rfl⟩ ih
 rcases Nat.lt_or_ge i 9 with h9 | h9
 ·have h5 := f5
  by_cases h0 : fN X i = 0
  ·have hs : fN X (i + 1) = cmpI (X i) 0 := by show (if fN X i = 0 then _ else _) = _; rw [if_pos h0]
   rw [h0] at f5
   obtain rfl | rfl | rfl | rfl | rfl | rfl | rfl | rfl | rfl := zeh h9
   ·have g1 := gcd 0
    have g2 := sgn 0
    simp (disch := omega) only [go_sem, seval, wqq, f1, f2, f4, f5, f17, f18, mW, zad, gC, g1, g2, mG, mG0, sG, sG0, lG, lqq]
    exact ih 1 _ _ (by omega) ⟨by omega, by simp only [go_sem, seval, f1], by simp only [go_sem, seval, f2], by simp only [go_sem, seval, f4], by rw [hs]; simp only [go_sem, seval], by simp only [go_sem, seval, f17], by simp only [go_sem, seval], _, _, _, rfl⟩
   ·have g1 := gcd 1
    have g2 := sgn 1
    simp (disch := omega) only [go_sem, seval, wqq, f1, f2, f4, f5, f17, f18, mW, zad, gC, g1, g2, mG, mG0, sG, sG0, lG, lqq]
    exact ih 2 _ _ (by omega) ⟨by omega, by simp only [go_sem, seval, f1], by simp only [go_sem, seval, f2], by simp only [go_sem, seval, f4], by rw [hs]; simp only [go_sem, seval], by simp only [go_sem, seval, f17], by simp only [go_sem, seval], _, _, _, rfl⟩
   ·have g1 := gcd 2
    have g2 := sgn 2
    simp (disch := omega) only [go_sem, seval, wqq, f1, f2, f4, f5, f17, f18, mW, zad, gC, g1, g2, mG, mG0, sG, sG0, lG, lqq]
    exact ih 3 _ _ (by omega) ⟨by omega, by simp only [go_sem, seval, f1], by simp only [go_sem, seval, f2], by simp only [go_sem, seval, f4], by rw [hs]; simp only [go_sem, seval], by simp only [go_sem, seval, f17], by simp only [go_sem, seval], _, _, _, rfl⟩
   ·have g1 := gcd 3
    have g2 := sgn 3
    simp (disch := omega) only [go_sem, seval, wqq, f1, f2, f4, f5, f17, f18, mW, zad, gC, g1, g2, mG, mG0, sG, sG0, lG, lqq]
    exact ih 4 _ _ (by omega) ⟨by omega, by simp only [go_sem, seval, f1], by simp only [go_sem, seval, f2], by simp only [go_sem, seval, f4], by rw [hs]; simp only [go_sem, seval], by simp only [go_sem, seval, f17], by simp only [go_sem, seval], _, _, _, rfl⟩
   ·have g1 := gcd 4
    have g2 := sgn 4
    simp (disch := omega) only [go_sem, seval, wqq, f1, f2, f4, f5, f17, f18, mW, zad, gC, g1, g2, mG, mG0, sG, sG0, lG, lqq]
    exact ih 5 _ _ (by omega) ⟨by omega, by simp only [go_sem, seval, f1], by simp only [go_sem, seval, f2], by simp only [go_sem, seval, f4], by rw [hs]; simp only [go_sem, seval], by simp only [go_sem, seval, f17], by simp only [go_sem, seval], _, _, _, rfl⟩
   ·have g1 := gcd 5
    have g2 := sgn 5
    simp (disch := omega) only [go_sem, seval, wqq, f1, f2, f4, f5, f17, f18, mW, zad, gC, g1, g2, mG, mG0, sG, sG0, lG, lqq]
    exact ih 6 _ _ (by omega) ⟨by omega, by simp only [go_sem, seval, f1], by simp only [go_sem, seval, f2], by simp only [go_sem, seval, f4], by rw [hs]; simp only [go_sem, seval], by simp only [go_sem, seval, f17], by simp only [go_sem, seval], _, _, _, rfl⟩
   ·have g1 := gcd 6
    have g2 := sgn 6
    simp (disch := omega) only [go_sem, seval, wqq, f1, f2, f4, f5, f17, f18, mW, zad, gC, g1, g2, mG, mG0, sG, sG0, lG, lqq]
    exact ih 7 _ _ (by omega) ⟨by omega, by simp only [go_sem, seval, f1], by simp only [go_sem, seval, f2], by simp only [go_sem, seval, f4], by rw [hs]; simp only [go_sem, seval], by simp only [go_sem, seval, f17], by simp only [go_sem, seval], _, _, _, rfl⟩
   ·have g1 := gcd 7
    have g2 := sgn 7
    simp (disch := omega) only [go_sem, seval, wqq, f1, f2, f4, f5, f17, f18, mW, zad, gC, g1, g2, mG, mG0, sG, sG0, lG, lqq]
    exact ih 8 _ _ (by omega) ⟨by omega, by simp only [go_sem, seval, f1], by simp only [go_sem, seval, f2], by simp only [go_sem, seval, f4], by rw [hs]; simp only [go_sem, seval], by simp only [go_sem, seval, f17], by simp only [go_sem, seval], _, _, _, rfl⟩
   ·have g1 := gcd 8
    have g2 := sgn 8
    simp (disch := omega) only [go_sem, seval, wqq, f1, f2, f4, f5, f17, f18, mW, zad, gC, g1, g2, mG, mG0, sG, sG0, lG, lqq]
    exact ih 9 _ _ (by omega) ⟨by omega, by simp only [go_sem, seval, f1], by simp only [go_sem, seval, f2], by simp only [go_sem, seval, f4], by rw [hs]; simp only [go_sem, seval], by simp only [go_sem, seval, f17], by simp only [go_sem, seval], _, _, _, rfl⟩
  ·have hs : fN X (i + 1) = fN X i := by show (if fN X i = 0 then _ else _) = _; rw [if_neg h0]
   have t0 : (fN X i = 0) = False := eq_false h0
   obtain rfl | rfl | rfl | rfl | rfl | rfl | rfl | rfl | rfl := zeh h9
   ·have g1 := gcd 0
    simp (disch := omega) only [go_sem, seval, wqq, f1, f2, f4, f5, f17, f18, mW, zad, gC, g1, t0, mG, mG0, sG, sG0, lG, lqq]
    exact ih 1 _ _ (by omega) ⟨by omega, by simp only [go_sem, seval, f1], by simp only [go_sem, seval, f2], by simp only [go_sem, seval, f4], by rw [hs]; simp only [go_sem, seval, f5], by simp only [go_sem, seval, f17], by simp only [go_sem, seval], _, _, _, rfl⟩
   ·have g1 := gcd 1
    simp (disch := omega) only [go_sem, seval, wqq, f1, f2, f4, f5, f17, f18, mW, zad, gC, g1, t0, mG, mG0, sG, sG0, lG, lqq]
    exact ih 2 _ _ (by omega) ⟨by omega, by simp only [go_sem, seval, f1], by simp only [go_sem, seval, f2], by simp only [go_sem, seval, f4], by rw [hs]; simp only [go_sem, seval, f5], by simp only [go_sem, seval, f17], by simp only [go_sem, seval], _, _, _, rfl⟩
   ·have g1 := gcd 2
    simp (disch := omega) only [go_sem, seval, wqq, f1, f2, f4, f5, f17, f18, mW, zad, gC, g1, t0, mG, mG0, sG, sG0, lG, lqq]
    exact ih 3 _ _ (by omega) ⟨by omega, by simp only [go_sem, seval, f1], by simp only [go_sem, seval, f2], by simp only [go_sem, seval, f4], by rw [hs]; simp only [go_sem, seval, f5], by simp only [go_sem, seval, f17], by simp only [go_sem, seval], _, _, _, rfl⟩
   ·have g1 := gcd 3
    simp (disch := omega) only [go_sem, seval, wqq, f1, f2, f4, f5, f17, f18, mW, zad, gC, g1, t0, mG, mG0, sG, sG0, lG, lqq]
    exact ih 4 _ _ (by omega) ⟨by omega, by simp only [go_sem, seval, f1], by simp only [go_sem, seval, f2], by simp only [go_sem, seval, f4], by rw [hs]; simp only [go_sem, seval, f5], by simp only [go_sem, seval, f17], by simp only [go_sem, seval], _, _, _, rfl⟩
   ·have g1 := gcd 4
    simp (disch := omega) only [go_sem, seval, wqq, f1, f2, f4, f5, f17, f18, mW, zad, gC, g1, t0, mG, mG0, sG, sG0, lG, lqq]
    exact ih 5 _ _ (by omega) ⟨by omega, by simp only [go_sem, seval, f1], by simp only [go_sem, seval, f2], by simp only [go_sem, seval, f4], by rw [hs]; simp only [go_sem, seval, f5], by simp only [go_sem, seval, f17], by simp only [go_sem, seval], _, _, _, rfl⟩
   ·have g1 := gcd 5
    simp (disch := omega) only [go_sem, seval, wqq, f1, f2, f4, f5, f17, f18, mW, zad, gC, g1, t0, mG, mG0, sG, sG0, lG, lqq]
    exact ih 6 _ _ (by omega) ⟨by omega, by simp only [go_sem, seval, f1], by simp only [go_sem, seval, f2], by simp only [go_sem, seval, f4], by rw [hs]; simp only [go_sem, seval, f5], by simp only [go_sem, seval, f17], by simp only [go_sem, seval], _, _, _, rfl⟩
   ·have g1 := gcd 6
    simp (disch := omega) only [go_sem, seval, wqq, f1, f2, f4, f5, f17, f18, mW, zad, gC, g1, t0, mG, mG0, sG, sG0, lG, lqq]
    exact ih 7 _ _ (by omega) ⟨by omega, by simp only [go_sem, seval, f1], by simp only [go_sem, seval, f2], by simp only [go_sem, seval, f4], by rw [hs]; simp only [go_sem, seval, f5], by simp only [go_sem, seval, f17], by simp only [go_sem, seval], _, _, _, rfl⟩
   ·have g1 := gcd 7
    simp (disch := omega) only [go_sem, seval, wqq, f1, f2, f4, f5, f17, f18, mW, zad, gC, g1, t0, mG, mG0, sG, sG0, lG, lqq]
    exact ih 8 _ _ (by omega) ⟨by omega, by simp only [go_sem, seval, f1], by simp only [go_sem, seval, f2], by simp only [go_sem, seval, f4], by rw [hs]; simp only [go_sem, seval, f5], by simp only [go_sem, seval, f17], by simp only [go_sem, seval], _, _, _, rfl⟩
   ·have g1 := gcd 8
    simp (disch := omega) only [go_sem, seval, wqq, f1, f2, f4, f5, f17, f18, mW, zad, gC, g1, t0, mG, mG0, sG, sG0, lG, lqq]
    exact ih 9 _ _ (by omega) ⟨by omega, by simp only [go_sem, seval, f1], by simp only [go_sem, seval, f2], by simp only [go_sem, seval, f4], by rw [hs]; simp only [go_sem, seval, f5], by simp only [go_sem, seval, f17], by simp only [go_sem, seval], _, _, _, rfl⟩
 ·obtain rfl : i = 9 := by omega
  clear ih
  have gC9 : gC x 9 = [.b (decide ((gW x 9).v < 0)), D (gW x 9).v.natAbs] := rfl
  generalize hgw : gW x 9 = g at *
  simp (disch := omega) only [go_sem, seval, wqq, f1, f2, f4, f5, f17, f18, gC9, mG, mG0, sG, sG0, lG, lqq]
  have dvq : ∀ e, ((x e).div g gw0).v = X e / gN X 9 := fun e => by
   show (x e).v / g.v = _
   rw [Xe, gv]
  refine zat zxj.eq_1 (fun (i : Nat) fr M => i ≤ 9 ∧ (∀ e, e < i → -1073741824 ≤ X e / gN X 9 ∧ X e / gN X 9 ≤ 1073741824) ∧ fr 2 = .p 1 0 ∧ fr 4 = .p 2 0 ∧ fr 5 = .i .i64 (fN X 9) ∧ fr 8 = .p (G.length + 3) 0 ∧ fr 29 = mW x ∧ fr 30 = (PV.i .i64 ((i : Nat) : Int)) ∧ ∃ b v R, M = some ⟨cW x, true, 0⟩ :: some ⟨cQ 0 zI, true, b⟩ :: some ⟨[.b (decide (g.v < 0)), D g.v.natAbs], true, v⟩ :: (G ++ (some ⟨cQ i (fun e => X e / gN X 9 * fN X 9), true, i⟩ :: R)))
   (fun i => 9 - i) ?_ 0 ⟨by omega, fun e he => by omega, by simp only [go_sem, seval, f2], by simp only [go_sem, seval, f4], by simp only [go_sem, seval, f5], by simp only [go_sem, seval], by simp only [go_sem, seval], by simp only [go_sem, seval], b, v, [], rfl⟩
  clear b v f1 f2 f4 f5 f17 f18
  rintro i fr M ⟨hi, hlo, f2, f4, f5, f8, f29, f30, b, v, R, rfl⟩ ih
  rcases Nat.lt_or_ge i 9 with h9 | h9
  ·have nxt : ∀ j, (-1073741824 ≤ X j / gN X 9 ∧ X j / gN X 9 ≤ 1073741824) → j = i → ∀ e, e < j + 1 → -1073741824 ≤ X e / gN X 9 ∧ X e / gN X 9 ≤ 1073741824 := fun j hj hji e he => by
    subst hji
    rcases Nat.lt_or_ge e j with h | h
    ·exact hlo e h
    ·obtain rfl : e = j := by omega
     exact hj
   have dv := zmp (x i) g gw0
   have sm := ze4 ((x i).div g gw0)
   have dq := dvq i
   generalize (x i).div g gw0 = d at *
   generalize (x i).mod g gw0 = d2 at *
   by_cases hq : -1073741824 ≤ X i / gN X 9 ∧ X i / gN X 9 ≤ 1073741824
   ·have nx := nxt i hq rfl
    have s1 : isSmall d.v = true := by unfold isSmall; exact decide_eq_true (by rw [dq]; omega)
    have s2 : small d.v = X i / gN X 9 := by unfold small; rw [s1, dq]; rfl
    rw [s1, s2] at sm
    have hqs : -1073741824 ≤ X i / gN X 9 * fN X 9 ∧ X i / gN X 9 * fN X 9 ≤ 1073741824 := by
     rcases s9 with h | h <;> rw [h] <;> omega
    clear dvq bad nxt
    generalize hQ : (fun e => X e / (gN X 9 : Int) * fN X 9) = Y at *
    have hY : X i / gN X 9 * fN X 9 = Y i := by rw [← hQ]
    have t1 : (Y i < -1073741824) = False := eq_false (by omega)
    have t2 : (Y i > 1073741824) = False := eq_false (by omega)
    rw [hY] at hqs
    generalize X i / (gN X 9 : Int) = q at *
    obtain rfl | rfl | rfl | rfl | rfl | rfl | rfl | rfl | rfl := zeh h9
    ·simp (disch := omega) only [go_sem, seval, wqq, f2, f4, f5, f8, f29, f30, mW, zad, dv, sm, hY, t1, t2, mG, mG0, sG, sG0, lG, lqq]
     exact ih 1 _ _ (by omega) ⟨by omega, nx, by simp only [go_sem, seval, f2], by simp only [go_sem, seval, f4], by simp only [go_sem, seval, f5], by simp only [go_sem, seval, f8], by simp only [go_sem, seval, f29], by simp only [go_sem, seval], b, v, _, rfl⟩
    ·simp (disch := omega) only [go_sem, seval, wqq, f2, f4, f5, f8, f29, f30, mW, zad, dv, sm, hY, t1, t2, mG, mG0, sG, sG0, lG, lqq]
     exact ih 2 _ _ (by omega) ⟨by omega, nx, by simp only [go_sem, seval, f2], by simp only [go_sem, seval, f4], by simp only [go_sem, seval, f5], by simp only [go_sem, seval, f8], by simp only [go_sem, seval, f29], by simp only [go_sem, seval], b, v, _, rfl⟩
    ·simp (disch := omega) only [go_sem, seval, wqq, f2, f4, f5, f8, f29, f30, mW, zad, dv, sm, hY, t1, t2, mG, mG0, sG, sG0, lG, lqq]
     exact ih 3 _ _ (by omega) ⟨by omega, nx, by simp only [go_sem, seval, f2], by simp only [go_sem, seval, f4], by simp only [go_sem, seval, f5], by simp only [go_sem, seval, f8], by simp only [go_sem, seval, f29], by simp only [go_sem, seval], b, v, _, rfl⟩
    ·simp (disch := omega) only [go_sem, seval, wqq, f2, f4, f5, f8, f29, f30, mW, zad, dv, sm, hY, t1, t2, mG, mG0, sG, sG0, lG, lqq]
     exact ih 4 _ _ (by omega) ⟨by omega, nx, by simp only [go_sem, seval, f2], by simp only [go_sem, seval, f4], by simp only [go_sem, seval, f5], by simp only [go_sem, seval, f8], by simp only [go_sem, seval, f29], by simp only [go_sem, seval], b, v, _, rfl⟩
    ·simp (disch := omega) only [go_sem, seval, wqq, f2, f4, f5, f8, f29, f30, mW, zad, dv, sm, hY, t1, t2, mG, mG0, sG, sG0, lG, lqq]
     exact ih 5 _ _ (by omega) ⟨by omega, nx, by simp only [go_sem, seval, f2], by simp only [go_sem, seval, f4], by simp only [go_sem, seval, f5], by simp only [go_sem, seval, f8], by simp only [go_sem, seval, f29], by simp only [go_sem, seval], b, v, _, rfl⟩
    ·simp (disch := omega) only [go_sem, seval, wqq, f2, f4, f5, f8, f29, f30, mW, zad, dv, sm, hY, t1, t2, mG, mG0, sG, sG0, lG, lqq]
     exact ih 6 _ _ (by omega) ⟨by omega, nx, by simp only [go_sem, seval, f2], by simp only [go_sem, seval, f4], by simp only [go_sem, seval, f5], by simp only [go_sem, seval, f8], by simp only [go_sem, seval, f29], by simp only [go_sem, seval], b, v, _, rfl⟩
    ·simp (disch := omega) only [go_sem, seval, wqq, f2, f4, f5, f8, f29, f30, mW, zad, dv, sm, hY, t1, t2, mG, mG0, sG, sG0, lG, lqq]
     exact ih 7 _ _ (by omega) ⟨by omega, nx, by simp only [go_sem, seval, f2], by simp only [go_sem, seval, f4], by simp only [go_sem, seval, f5], by simp only [go_sem, seval, f8], by simp only [go_sem, seval, f29], by simp only [go_sem, seval], b, v, _, rfl⟩
    ·simp (disch := omega) only [go_sem, seval, wqq, f2, f4, f5, f8, f29, f30, mW, zad, dv, sm, hY, t1, t2, mG, mG0, sG, sG0, lG, lqq]
     exact ih 8 _ _ (by omega) ⟨by omega, nx, by simp only [go_sem, seval, f2], by simp only [go_sem, seval, f4], by simp only [go_sem, seval, f5], by simp only [go_sem, seval, f8], by simp only [go_sem, seval, f29], by simp only [go_sem, seval], b, v, _, rfl⟩
    ·simp (disch := omega) only [go_sem, seval, wqq, f2, f4, f5, f8, f29, f30, mW, zad, dv, sm, hY, t1, t2, mG, mG0, sG, sG0, lG, lqq]
     exact ih 9 _ _ (by omega) ⟨by omega, nx, by simp only [go_sem, seval, f2], by simp only [go_sem, seval, f4], by simp only [go_sem, seval, f5], by simp only [go_sem, seval, f8], by simp only [go_sem, seval, f29], by simp only [go_sem, seval], b, v, _, rfl⟩
   ·obtain ⟨rfl, rfl⟩ := bad i h9 hq
    clear ih good dvq bad nxt
    by_cases hs : isSmall d.v = true
    ·have s2 : small d.v = X i / gN X 9 := by unfold small; rw [if_pos hs, dq]
     rw [hs, s2] at sm
     have hb : -9223372036854775808 ≤ X i / gN X 9 ∧ X i / gN X 9 ≤ 9223372036854775807 := by rw [← dq]; exact of_decide_eq_true hs
     have wo := zkX hb.1 hb.2 hq s9
     generalize X i / (gN X 9 : Int) = q at *
     generalize hW : IntKind.i64.wrap (q * fN X 9) = w at *
     rcases zbM (w < -1073741824) with t1 | t1
     ·obtain rfl | rfl | rfl | rfl | rfl | rfl | rfl | rfl | rfl := zeh h9 <;>
      simp (disch := omega) only [go_sem, seval, wqq, f2, f4, f5, f8, f29, f30, mW, zad, dv, sm, hW, t1, pI0, mG, mG0, sG, sG0, lG, lqq]
     ·have t2 : (w > 1073741824) = True := eq_true (by have := of_eq_false t1; omega)
      obtain rfl | rfl | rfl | rfl | rfl | rfl | rfl | rfl | rfl := zeh h9 <;>
      simp (disch := omega) only [go_sem, seval, wqq, f2, f4, f5, f8, f29, f30, mW, zad, dv, sm, hW, t1, t2, pI0, mG, mG0, sG, sG0, lG, lqq]
    ·have hs : isSmall d.v = false := by simpa using hs
     have s2 : small d.v = 0 := by unfold small; rw [hs]; rfl
     rw [hs, s2] at sm
     obtain rfl | rfl | rfl | rfl | rfl | rfl | rfl | rfl | rfl := zeh h9 <;>
     simp (disch := omega) only [go_sem, seval, wqq, f2, f4, f5, f8, f29, f30, mW, zad, dv, sm, pI0, mG, mG0, sG, sG0, lG, lqq]
  ·obtain rfl : i = 9 := by omega
   obtain ⟨rfl, rfl⟩ := good hlo
   simp (disch := omega) only [go_sem, seval, wqq, f2, f4, f5, f8, f29, f30, cQ9, mG, mG0, sG, sG0, lG, lqq]
end Go.Eng
namespace Go.Eng
end Go.Eng
namespace Go.Eng
noncomputable def cN (z : Nat → Int) : List PV := [.b (decide (z 0 < 0)), T (z 0).natAbs, .b (decide (z 1 < 0)), T (z 1).natAbs, .b (decide (z 2 < 0)), T (z 2).natAbs, .b (decide (z 3 < 0)), T (z 3).natAbs, .b (decide (z 4 < 0)), T (z 4).natAbs, .b (decide (z 5 < 0)), T (z 5).natAbs, .b (decide (z 6 < 0)), T (z 6).natAbs, .b (decide (z 7 < 0)), T (z 7).natAbs, .b (decide (z 8 < 0)), T (z 8).natAbs]
noncomputable def nM (z : Nat → Int) : PV := .ag (cN z)
theorem zcc (z : Nat → Int) : cN z = [.b (decide (z 0 < 0)), T (z 0).natAbs, .b (decide (z 1 < 0)), T (z 1).natAbs, .b (decide (z 2 < 0)), T (z 2).natAbs, .b (decide (z 3 < 0)), T (z 3).natAbs, .b (decide (z 4 < 0)), T (z 4).natAbs, .b (decide (z 5 < 0)), T (z 5).natAbs, .b (decide (z 6 < 0)), T (z 6).natAbs, .b (decide (z 7 < 0)), T (z 7).natAbs, .b (decide (z 8 < 0)), T (z 8).natAbs] := _root_.id rfl
noncomputable def cT (s : Nat → Bool) (z : Nat → Int) : List PV := [if s 0 then .b (decide (z 0 < 0)) else .b false, if s 0 then T (z 0).natAbs else .nl, if s 1 then .b (decide (z 1 < 0)) else .b false, if s 1 then T (z 1).natAbs else .nl, if s 2 then .b (decide (z 2 < 0)) else .b false, if s 2 then T (z 2).natAbs else .nl, if s 3 then .b (decide (z 3 < 0)) else .b false, if s 3 then T (z 3).natAbs else .nl, if s 4 then .b (decide (z 4 < 0)) else .b false, if s 4 then T (z 4).natAbs else .nl, if s 5 then .b (decide (z 5 < 0)) else .b false, if s 5 then T (z 5).natAbs else .nl, if s 6 then .b (decide (z 6 < 0)) else .b false, if s 6 then T (z 6).natAbs else .nl, if s 7 then .b (decide (z 7 < 0)) else .b false, if s 7 then T (z 7).natAbs else .nl, if s 8 then .b (decide (z 8 < 0)) else .b false, if s 8 then T (z 8).natAbs else .nl]
theorem zcS (s : Nat → Bool) (z : Nat → Int) : cT s z = [if s 0 then .b (decide (z 0 < 0)) else .b false, if s 0 then T (z 0).natAbs else .nl, if s 1 then .b (decide (z 1 < 0)) else .b false, if s 1 then T (z 1).natAbs else .nl, if s 2 then .b (decide (z 2 < 0)) else .b false, if s 2 then T (z 2).natAbs else .nl, if s 3 then .b (decide (z 3 < 0)) else .b false, if s 3 then T (z 3).natAbs else .nl, if s 4 then .b (decide (z 4 < 0)) else .b false, if s 4 then T (z 4).natAbs else .nl, if s 5 then .b (decide (z 5 < 0)) else .b false, if s 5 then T (z 5).natAbs else .nl, if s 6 then .b (decide (z 6 < 0)) else .b false, if s 6 then T (z 6).natAbs else .nl, if s 7 then .b (decide (z 7 < 0)) else .b false, if s 7 then T (z 7).natAbs else .nl, if s 8 then .b (decide (z 8 < 0)) else .b false, if s 8 then T (z 8).natAbs else .nl] := _root_.id rfl
def sB (n : Nat) : Nat → Bool := fun e => decide (e < n)
@[go_sem] theorem zt2 (M : PM) (d : Nat) (w : Nat → Int) : fz M (d + 1 + 1) (nM w) = some (nM w, []) := _root_.id rfl
@[go_sem] theorem zo5 (w : Nat → Int) : (nM w).cells = cN w := _root_.id rfl
@[go_sem] theorem zqf (w : Nat → Int) : PV.ag (cN w) = nM w := _root_.id rfl
@[go_sem] theorem zun (w : Nat → Int) : (cN w).all PV.scal = true := _root_.id rfl
@[go_sem] theorem zub (w : Nat → Int) : (cN w).length = 18 := _root_.id rfl
@[go_sem] theorem zuy (w : Nat → Int) : (cN w).take 18 = cN w := _root_.id rfl
@[go_sem] theorem zuf (s : Nat → Bool) (w : Nat → Int) : (cT s w).length = 18 := _root_.id rfl
@[go_sem] theorem zut (s : Nat → Bool) (w u : Nat → Int) : psplice (cT s w) 0 (cN u) = cN u := _root_.id rfl
theorem cT9 (z : Nat → Int) : cT (sB 9) z = cN z := rfl
set_option maxHeartbeats 2000000 in
theorem zou {p : Nat → Int} (hp : ∀ e, Fits64 (p e)) : pf E0 357 [pI p] = some (nM p) := by
 refine zaa (xf := zwa) rfl (by simp [zwa]) ?_
 simp only [zwa]
 simp (disch := omega) only [go_sem, seval, wqq]
 refine zat zxu.eq_1 (fun (i : Nat) fr M => i ≤ 9 ∧ fr 1 = .p 0 0 ∧ fr 2 = .p 1 0 ∧ fr 3 = .p 2 0 ∧ fr 4 = (PV.i .i64 ((i : Nat) : Int)) ∧ ∃ b v, M = [some ⟨cI p, true, 0⟩, some ⟨cT (sB 0) p, true, b⟩, some ⟨cT (sB i) p, true, v⟩]) (fun i => 9 - i) ?_ 0 ⟨by omega, by simp only [go_sem, seval], by simp only [go_sem, seval], by simp only [go_sem, seval], by simp only [go_sem, seval], _, _, rfl⟩
 rintro i fr M ⟨hi, f1, f2, f3, f4, b, v, rfl⟩ ih
 rcases Nat.lt_or_ge i 9 with h9 | h9
 ·obtain rfl | rfl | rfl | rfl | rfl | rfl | rfl | rfl | rfl := zeh h9
  ·have h0 := zbp (p 0) (hp 0)
   simp (disch := omega) only [go_sem, seval, wqq, f1, f2, f3, f4, zag, zcS, h0]
   exact ih 1 _ _ (by omega) ⟨by omega, by simp only [go_sem, seval, f1], by simp only [go_sem, seval, f2], by simp only [go_sem, seval, f3], by simp only [go_sem, seval], _, _, rfl⟩
  ·have h0 := zbp (p 1) (hp 1)
   simp (disch := omega) only [go_sem, seval, wqq, f1, f2, f3, f4, zag, zcS, h0]
   exact ih 2 _ _ (by omega) ⟨by omega, by simp only [go_sem, seval, f1], by simp only [go_sem, seval, f2], by simp only [go_sem, seval, f3], by simp only [go_sem, seval], _, _, rfl⟩
  ·have h0 := zbp (p 2) (hp 2)
   simp (disch := omega) only [go_sem, seval, wqq, f1, f2, f3, f4, zag, zcS, h0]
   exact ih 3 _ _ (by omega) ⟨by omega, by simp only [go_sem, seval, f1], by simp only [go_sem, seval, f2], by simp only [go_sem, seval, f3], by simp only [go_sem, seval], _, _, rfl⟩
  ·have h0 := zbp (p 3) (hp 3)
   simp (disch := omega) only [go_sem, seval, wqq, f1, f2, f3, f4, zag, zcS, h0]
   exact ih 4 _ _ (by omega) ⟨by omega, by simp only [go_sem, seval, f1], by simp only [go_sem, seval, f2], by simp only [go_sem, seval, f3], by simp only [go_sem, seval], _, _, rfl⟩
  ·have h0 := zbp (p 4) (hp 4)
   simp (disch := omega) only [go_sem, seval, wqq, f1, f2, f3, f4, zag, zcS, h0]
   exact ih 5 _ _ (by omega) ⟨by omega, by simp only [go_sem, seval, f1], by simp only [go_sem, seval, f2], by simp only [go_sem, seval, f3], by simp only [go_sem, seval], _, _, rfl⟩
  ·have h0 := zbp (p 5) (hp 5)
   simp (disch := omega) only [go_sem, seval, wqq, f1, f2, f3, f4, zag, zcS, h0]
   exact ih 6 _ _ (by omega) ⟨by omega, by simp only [go_sem, seval, f1], by simp only [go_sem, seval, f2], by simp only [go_sem, seval, f3], by simp only [go_sem, seval], _, _, rfl⟩
  ·have h0 := zbp (p 6) (hp 6)
   simp (disch := omega) only [go_sem, seval, wqq, f1, f2, f3, f4, zag, zcS, h0]
   exact ih 7 _ _ (by omega) ⟨by omega, by simp only [go_sem, seval, f1], by simp only [go_sem, seval, f2], by simp only [go_sem, seval, f3], by simp only [go_sem, seval], _, _, rfl⟩
  ·have h0 := zbp (p 7) (hp 7)
   simp (disch := omega) only [go_sem, seval, wqq, f1, f2, f3, f4, zag, zcS, h0]
   exact ih 8 _ _ (by omega) ⟨by omega, by simp only [go_sem, seval, f1], by simp only [go_sem, seval, f2], by simp only [go_sem, seval, f3], by simp only [go_sem, seval], _, _, rfl⟩
  ·have h0 := zbp (p 8) (hp 8)
   simp (disch := omega) only [go_sem, seval, wqq, f1, f2, f3, f4, zag, zcS, h0]
   exact ih 9 _ _ (by omega) ⟨by omega, by simp only [go_sem, seval, f1], by simp only [go_sem, seval, f2], by simp only [go_sem, seval, f3], by simp only [go_sem, seval], _, _, rfl⟩
 ·obtain rfl : i = 9 := by omega
  simp (disch := omega) only [go_sem, seval, wqq, f1, f2, f3, f4, cT9]
def rtK (a b c d e : Int) : Int := a * (b * c) - a * (d * e)
def rdV (z : Nat → Int) : Int := 0 + rtK (z 0) (z 4) (z 8) (z 5) (z 7) + rtK (z 1) (z 5) (z 6) (z 3) (z 8) + rtK (z 2) (z 3) (z 7) (z 4) (z 6)
theorem zgf {a b c d e S : Int} (la : tlen a.natAbs ≤ 9000) (lb : tlen b.natAbs ≤ 9000) (lc : tlen c.natAbs ≤ 9000) (ld : tlen d.natAbs ≤ 9000) (le : tlen e.natAbs ≤ 9000) (lS : tlen S.natAbs ≤ 60000) :
  pf E0 118 [nP b, nP c] = some (nP (b * c)) ∧ pf E0 118 [nP a, nP (b * c)] = some (nP (a * (b * c))) ∧ pf E0 118 [nP d, nP e] = some (nP (d * e)) ∧ pf E0 118 [nP a, nP (d * e)] = some (nP (a * (d * e))) ∧
  pf E0 121 [nP (a * (b * c)), nP (a * (d * e))] = some (nP (rtK a b c d e)) ∧ pf E0 119 [nP S, nP (rtK a b c d e)] = some (nP (S + rtK a b c d e)) ∧ tlen (S + rtK a b c d e).natAbs ≤ max (tlen S.natAbs) 27001 + 1 := by
 have h1 := zav b c
 have h2 := zav a (b * c)
 have h3 := zav d e
 have h4 := zav a (d * e)
 have h5 := zjy (a * (b * c)) (a * (d * e))
 have h6 := zc8 S (rtK a b c d e)
 have h5 : tlen (rtK a b c d e).natAbs ≤ max (tlen (a * (b * c)).natAbs) (tlen (a * (d * e)).natAbs) + 1 := h5
 exact ⟨zbl _ _ (by omega) (by omega), zbl _ _ (by omega) (by omega), zbl _ _ (by omega) (by omega), zbl _ _ (by omega) (by omega), zov _ _ (by omega) (by omega), zez _ _ (by omega) (by omega), by omega⟩
set_option maxHeartbeats 2000000 in
theorem zow {z : Nat → Int} (hz : ∀ e, tlen (z e).natAbs ≤ 9000) : pf E0 358 [nM z] = some (nP (rdV z)) := by
 have o0 := zbp 0 (by decide)
 have n0 : PV.ag [.b false, Tw (tlen 0) 0] = nP 0 := rfl
 obtain ⟨a1, a2, a3, a4, a5, a6, a7⟩ := zgf (a := z 0) (b := z 4) (c := z 8) (d := z 5) (e := z 7) (S := 0) (hz _) (hz _) (hz _) (hz _) (hz _) (by rw [Int.natAbs_zero, zaE]; decide)
 obtain ⟨b1, b2, b3, b4, b5, b6, b7⟩ := zgf (a := z 1) (b := z 5) (c := z 6) (d := z 3) (e := z 8) (S := 0 + rtK (z 0) (z 4) (z 8) (z 5) (z 7)) (hz _) (hz _) (hz _) (hz _) (hz _) (by rw [Int.natAbs_zero, zaE] at a7; omega)
 obtain ⟨c1, c2, c3, c4, c5, c6, c7⟩ := zgf (a := z 2) (b := z 3) (c := z 7) (d := z 4) (e := z 6) (S := 0 + rtK (z 0) (z 4) (z 8) (z 5) (z 7) + rtK (z 1) (z 5) (z 6) (z 3) (z 8)) (hz _) (hz _) (hz _) (hz _) (hz _) (by rw [Int.natAbs_zero, zaE] at a7; omega)
 unfold rdV
 clear a7 b7 c7
 refine zaa (xf := zw2) rfl (by simp [zw2]) ?_
 simp only [zw2]
 simp (disch := omega) only [go_sem, seval, wqq, o0]
 refine zac zv5.eq_1 ?_
 simp (disch := omega) only [go_sem, seval, wqq]
 refine zaf [14] rfl ?_ ?_
 ·simp (disch := omega) only [go_sem, seval, wqq, zcc, a1, a2, a3, a4, a5, a6]
  exact ⟨_, rfl, rfl⟩
 simp (disch := omega) only [go_sem, seval, wqq, zcc, a1, a2, a3, a4, a5, a6]
 refine zaf [32] rfl ?_ ?_
 ·simp (disch := omega) only [go_sem, seval, wqq, zcc, a1, a2, a3, a4, a5, a6]
  exact ⟨_, rfl, rfl⟩
 simp (disch := omega) only [go_sem, seval, wqq, zcc, a1, a2, a3, a4, a5, a6]
 refine zap [3] rfl (by simp only [go_sem, seval]) ?_
 simp (disch := omega) only [go_sem, seval, wqq, n0, a1, a2, a3, a4, a5, a6]
 refine zac zv5.eq_1 ?_
 simp (disch := omega) only [go_sem, seval, wqq]
 refine zaf [14] rfl ?_ ?_
 ·simp (disch := omega) only [go_sem, seval, wqq, zcc, b1, b2, b3, b4, b5, b6]
  exact ⟨_, rfl, rfl⟩
 simp (disch := omega) only [go_sem, seval, wqq, zcc, b1, b2, b3, b4, b5, b6]
 refine zaf [32] rfl ?_ ?_
 ·simp (disch := omega) only [go_sem, seval, wqq, zcc, b1, b2, b3, b4, b5, b6]
  exact ⟨_, rfl, rfl⟩
 simp (disch := omega) only [go_sem, seval, wqq, zcc, b1, b2, b3, b4, b5, b6]
 refine zap [3] rfl (by simp only [go_sem, seval]) ?_
 simp (disch := omega) only [go_sem, seval, wqq, n0, b1, b2, b3, b4, b5, b6]
 refine zac zv5.eq_1 ?_
 simp (disch := omega) only [go_sem, seval, wqq]
 refine zaf [14] rfl ?_ ?_
 ·simp (disch := omega) only [go_sem, seval, wqq, zcc, c1, c2, c3, c4, c5, c6]
  exact ⟨_, rfl, rfl⟩
 simp (disch := omega) only [go_sem, seval, wqq, zcc, c1, c2, c3, c4, c5, c6]
 refine zaf [32] rfl ?_ ?_
 ·simp (disch := omega) only [go_sem, seval, wqq, zcc, c1, c2, c3, c4, c5, c6]
  exact ⟨_, rfl, rfl⟩
 simp (disch := omega) only [go_sem, seval, wqq, zcc, c1, c2, c3, c4, c5, c6]
 refine zap [3] rfl (by simp only [go_sem, seval]) ?_
 simp (disch := omega) only [go_sem, seval, wqq, n0, c1, c2, c3, c4, c5, c6]
 refine zac zv5.eq_1 ?_
 simp (disch := omega) only [go_sem, seval, wqq]
end Go.Eng
namespace Go.Eng
end Go.Eng
