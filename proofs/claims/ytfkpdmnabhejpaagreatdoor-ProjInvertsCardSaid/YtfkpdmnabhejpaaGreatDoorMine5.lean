/- The engine and the contracts on which the statement stands: no conditions of its own. -/
import Derived.Test.YtfkpdmnabhejpaaGreatDoorMine4
import Derived.KernelRfl
import Derived.Lib.LaidTab
import Derived.ProofKit
import Derived.OpenShut
set_option linter.unusedSimpArgs false
set_option linter.unusedVariables false
set_option linter.unusedSectionVars false
namespace Go.Eng
open Go.RowKit
variable {key : Nat → Option FuncId} {P : Program} {T : Tab}
def Hp.tw (t : Blk) (cs : List AV) : Hp := ⟨fun k => if k = 0 then some { t with rw := false } else if k = 5 then some ⟨cs, false, 0⟩ else none, 6⟩
def Loc.tw (l : Loc) (a1 : At) : Loc := fun k => if k = 5 then some a1 else if k ≤ 4 then l k else none
theorem zjw {l l2 : Loc} {i : Nat} (hi : i < powT.length) {v : Value} (r : Rel key l powT[i] v) : Rel key l2 powT[i] v := by
 have e : powT[i] = .i .u64 ((10 ^ i : Nat) : Int) := by
  simp only [powT]; rw [List.getElem_map, List.getElem_range]
 rw [e] at r ⊢
 cases r; exact .i _ _
theorem zkr {F F' : Nat} {l : Loc} {h : Hp} {w : World} (S : Sim key F l h w) {t : Blk} {a0 : At} (ht : h.m 0 = some t) (hv : t.v = powT) (h0 : l 0 = some a0) {xs : List Nat} {a1 : At}
  (hb : a1.b < w.heap.size ∧ a1.w = false ∧ xs.length ≤ a1.n ∧ ∀ i (hi : i < xs.length), w.cell? ⟨a1.b, a1.o + i, none⟩ = some (.int .u32 ((xs[i] : Nat) : Int))) :
  Sim key F' (Loc.tw l a1) (Hp.tw t (xs.map fun x : Nat => .i .u32 (x : Int))) w := by
 refine ⟨fun k b a e1 e2 => ?_, fun k b a k' b' a' e1 e2 e3 => ?_, fun k a e => ?_, fun k a e => ?_, fun k hk => ?_⟩
 ·by_cases hk : k = 0
  ·subst hk
   have e2 : l 0 = some a := e2
   rw [h0] at e2
   cases e1; cases e2
   have H := S.holds 0 t a0 ht h0
   refine ⟨H.lt, H.len, fun i hi => ?_, H.scal, fun q => (by cases q), fun q => ⟨rfl, (H.whole q).2⟩⟩
   obtain ⟨v, c1, c2⟩ := H.cell i hi
   refine ⟨v, c1, ?_⟩
   have hi' : i < powT.length := by rw [← hv]; exact hi
   have e : t.v[i] = powT[i] := by simp only [hv]
   simp only at hi ⊢
   rw [e] at c2 ⊢
   exact zjw hi' c2
  ·by_cases hkn : k = 5
   ·subst hkn
    cases e1; cases e2
    obtain ⟨q1, q0, q2, q3⟩ := hb
    refine ⟨q1, by simpa using q2, fun i hi => ?_, fun i hi => ?_, fun q => (by cases q), fun q => ?_⟩
    ·simp only [List.length_map] at hi
     refine ⟨_, q3 i hi, ?_⟩
     simp only [List.getElem_map]
     exact .i _ _
    ·simp only [List.getElem_map]; rfl
    ·rw [q0] at q; cases q
   ·simp only [Hp.tw, if_neg hk, if_neg hkn] at e1; cases e1
 ·simp only [Hp.tw] at e1
  split at e1
  ·cases e1; cases e3
  ·split at e1
   ·cases e1; cases e3
   ·cases e1
 ·simp only [Loc.tw] at e
  split at e
  ·cases e; exact hb.1
  ·split at e
   ·exact S.lt k a e
   ·cases e
 ·left
  show k < 6
  simp only [Loc.tw] at e
  split at e
  ·omega
  ·split at e
   ·omega
   ·cases e
 ·have hk' : 6 ≤ k := hk
  simp only [Hp.tw]
  rw [if_neg (by omega), if_neg (by omega)]
theorem znv {F : Nat} {l : Loc} {h : Hp} {w : World} (S : Sim key F l h w) {t : Blk} {a0 : At} (ht : h.m 0 = some t) (hv : t.v = powT) (h0 : l 0 = some a0) {neg : Bool} {wv : AV} {val : Value} {tx : List UInt8}
  (e : txtA [.ag [.b neg, wv]] h = some tx) (r : Rel key l wv val) : ∃ cs a1 wv' v, (∀ F', Sim key F' (Loc.tw l a1) (Hp.tw t cs) w) ∧ Rel key (Loc.tw l a1) wv' val ∧ wlen v ≤ 512 ∧ (neg = true → v ≠ 0) ∧
   tx = decI (if neg then -(v : Int) else (v : Int)) ∧ V (Hp.tw t cs) (fun _ => False) [] (D v) wv' := by
 have H0 := S.holds 0 t a0 ht h0
 have small : ∀ {wv' : AV}, Rel key (Loc.tw l ⟨a0.b, 0, 0, false⟩) wv' val → txtA [.ag [.b neg, wv']] (Hp.tw t []) = some tx → (∀ m off len cap z, wv' = .sl m off len cap z → False) →
   ∃ cs a1 wv' v, (∀ F', Sim key F' (Loc.tw l a1) (Hp.tw t cs) w) ∧ Rel key (Loc.tw l a1) wv' val ∧ wlen v ≤ 512 ∧ (neg = true → v ≠ 0) ∧
   tx = decI (if neg then -(v : Int) else (v : Int)) ∧ V (Hp.tw t cs) (fun _ => False) [] (D v) wv' := fun {wv'} r1 e1 hs => by
  obtain ⟨v, v1, v2, v3, v4⟩ := zgH e1 fun m off len cap z q => (hs _ _ _ _ _ q).elim
  exact ⟨[], ⟨a0.b, 0, 0, false⟩, wv', v, fun F' => zkr (xs := []) S ht hv h0 ⟨H0.lt, rfl, Nat.le_refl _, fun i hi => by simp at hi⟩, r1, v1, v2, v3, v4⟩
 cases r with
 | @sl n off len cap cap' z a ha q1 q2 q3 =>
   replace e : (if len = 0 then wtx neg [] else if z = 1 then ((h.rd n off len).bind wordsA).bind (wtx neg) else none) = some tx := e
   split at e
   ·rename_i hl
    subst hl
    exact small (wv' := .e0) (.e0 _ _) e fun _ _ _ _ _ q => by cases q
   ·rename_i hl
    split at e
    ·rename_i hz
     subst hz
     simp only [Option.bind_eq_some_iff] at e
     obtain ⟨xs, ⟨cs, e1, e2⟩, e3⟩ := e
     obtain ⟨w1, w2⟩ := zdL e2
     unfold Hp.rd at e1
     split at e1
     ·rename_i b hb
      split at e1
      ·rename_i hle
       cases e1
       have hxl : xs.length = len := by
        have := congrArg List.length w1
        simp at this; omega
       have hg : ∀ i (hi : i < xs.length), b.v[off + i]? = some (.i .u32 ((xs[i] : Nat) : Int)) := fun i hi => by
        have : ((b.v.drop off).take len)[i]? = some (.i .u32 ((xs[i] : Nat) : Int)) := by
         rw [w1, List.getElem?_map, List.getElem?_eq_getElem hi]; rfl
        rw [List.getElem?_take, if_pos (by omega), List.getElem?_drop] at this
        exact this
       have H := S.holds n b a hb ha
       let a1 : At := ⟨a.b, a.o + off, a.n - off, false⟩
       have hsim : ∀ F', Sim key F' (Loc.tw l a1) (Hp.tw t (xs.map fun x : Nat => .i .u32 (x : Int))) w := fun F' => zkr S ht hv h0 ⟨H.lt, rfl, by show xs.length ≤ a.n - off; have := H.len; omega, fun i hi => by
        have h1 := hg i hi
        have hoi : off + i < b.v.length := by omega
        obtain ⟨v, c1, c2⟩ := H.cell (off + i) hoi
        rw [List.getElem?_eq_getElem hoi] at h1
        cases h1' : b.v[off + i] with
        | i k m =>
         rw [h1'] at h1 c2
         cases h1
         cases c2
         show w.cell? ⟨a.b, a.o + off + i, none⟩ = _
         rw [Nat.add_assoc]; exact c1
        | _ => rw [h1'] at h1; cases h1⟩
       have hrel : Rel key (Loc.tw l a1) (.sl 5 0 len cap 1) (.slice (some ⟨a.b, a.o + off, none⟩) len cap') := by
        have hl : Loc.tw l a1 5 = some a1 := rfl
        have := Rel.sl (key := key) (off := 0) (len := len) (cap := cap) (cap' := cap') (z := 1) hl q1 (by show 0 + cap' * 1 ≤ a.n - off; omega) q3
        exact this
       have htx : txtA [.ag [.b neg, .sl 5 0 len cap 1]] (Hp.tw t (xs.map fun x : Nat => .i .u32 (x : Int))) = some tx := by
        have hrd : (Hp.tw t (xs.map fun x : Nat => AV.i .u32 (x : Int))).rd 5 0 len = some (xs.map fun x : Nat => .i .u32 (x : Int)) := by
         simp only [Hp.rd, Hp.tw, if_neg (show (5 : Nat) ≠ 0 by decide), if_true]
         rw [if_pos (by simp; omega), List.drop_zero, List.take_of_length_le (by simp; omega)]
        show (if len = 0 then wtx neg [] else if 1 = 1 then (((Hp.tw t (xs.map fun x : Nat => AV.i .u32 (x : Int))).rd 5 0 len).bind wordsA).bind (wtx neg) else none) = _
        rw [if_neg hl, if_pos rfl, hrd, Option.bind_some, ← w1, e2, Option.bind_some]
        exact e3
       obtain ⟨v, v1, v2, v3, v4⟩ := zgH htx fun m off' len' cap'' z q => by cases q; exact q3
       exact ⟨_, a1, _, v, hsim, hrel, v1, v2, v3, v4⟩
      ·cases e1
     ·cases e1
    ·cases e
 | sn => exact small .sn e fun _ _ _ _ _ q => by cases q
 | se b => exact small (.se b) e fun _ _ _ _ _ q => by cases q
 | e0 b c => exact small (.e0 b c) e fun _ _ _ _ _ q => by cases q
 | _ => simp [txtA] at e
end Go.Eng
namespace Go.Eng
open Go.RowKit
variable {key : Nat → Option FuncId} {P : Program} {T : Tab}
theorem zgD {fn : Func} (h : fn.results = #[.tmp 2]) (tmps : Array Value) (w : World) : (results fn tmps).run P w = .ok (tmps.getD 2 undef) w := by
 unfold results
 rw [h, Array.mapM_eq_mapM_toList]
 rfl
theorem znm {l : Loc} {xs : List UInt8} {v : Value} (h : Rel key l (.s xs) v) : v = .string ⟨xs.toArray⟩ := by
 generalize hx : AV.s xs = x at h
 cases h <;> cases hx
 rfl
theorem zmi (v : Nat) : dec v ≠ [] := by
 unfold dec
 split
 ·simp
 ·rename_i h
  intro q
  have h1 := congrArg List.length q
  rw [zcX] at h1
  have := zcW v
  simp at h1
  rw [h1] at this
  simp at this; omega
theorem zha {args : List AV} {h : Hp} {l : List UInt8} (e : txtA args h = some l) : ∃ neg w, args = [.ag [.b neg, w]] := by
 unfold txtA at e
 split at e
 ·exact ⟨_, _, rfl⟩
 ·exact ⟨_, _, rfl⟩
 ·exact ⟨_, _, rfl⟩
 ·exact ⟨_, _, rfl⟩
 ·cases e
theorem zlN (K1 : ProgOk P key T E1.prog) (KE : PEnvOk E1) (hT0 : ∀ g n, T.gkey g = some n → n ≤ 4) {G : Nat} (hG : T.gkey G = some 0) {fn : Func} {g : Nat} (hfn : P.funcs[g]? = some fn) {pre tail : Code} (hbody : fn.body = some (graft pre tail)) (hpre : cCode P T pre = strA)
  (hnt : fn.ntmps = 58) (hres : fn.results = #[.tmp 2])
  (htail : ∀ (neg : Bool) (ps : List (List UInt8)), ps.reverse.flatten ≠ [] → ps.length ≤ 20000 → ps.flatten.length ≤ 1000000 →
   ∀ (b1 o1 b3 o3 c : Nat) (w : World), w.cell? ⟨b1, o1, none⟩ = some (.bool neg) → b1 < w.heap.size → b3 < w.heap.size →
   (∀ j x, ps[j]? = some x → w.cell? ⟨b3, o3 + j, none⟩ = some (.string ⟨x.toArray⟩)) →
   ∀ (tm : Array Value), tm.size = 58 → tm[1]? = some (.pointer (some ⟨b1, o1, none⟩)) → tm[3]? = some (.slice (some ⟨b3, o3, none⟩) ps.length c) →
   tail.wp P (fun e a w' => e = .ret ∧ a.defers = [] ∧ a.tmps.getD 2 undef = .string ⟨((if neg then [45] else []) ++ ps.reverse.flatten).toArray⟩ ∧ Below w.heap.size w w') ⟨tm, []⟩ w)
  {F : Nat} {args : List AV} {vs : Array Value} {h h' : Hp} {v : AV} {l : Loc} {w : World} (e : orcA 33 args h = some (v, h')) (TO : TabOk key T l)
  (RL : RelL key l args vs.toList) (S : Sim key F l h w) : Calls P g vs w fun e w' => ∃ l' val, e = .returned val ∧ Ext l h w l' h' w' ∧ Sim key F l' h' w' ∧ Rel key l' v val := by
 unfold orcA at e
 rw [if_pos rfl] at e
 split at e
 case isFalse => cases e
 rename_i ht
 simp only [Option.map_eq_some_iff, Prod.mk.injEq] at e
 obtain ⟨tx, e1, rfl, rfl⟩ := e
 obtain ⟨t, t1, t2⟩ := ht
 obtain ⟨m0, hl0⟩ := TO.g G 0 hG
 obtain ⟨neg, wv, rfl⟩ := zha e1
 have hvs : ∃ val, vs = #[.agg #[.bool neg, val]] ∧ Rel key l wv val := by
  have hlen := RL.1
  rcases vs with ⟨vs⟩
  match vs, hlen with
  | [x], _ =>
   have r := RL.2 0 (by simp) (by simp)
   simp only [List.getElem_cons_zero] at r
   cases r with
   | @ag _ ws hn hv =>
    rcases ws with ⟨ws⟩
    match ws, hn with
    | [a, b], _ =>
     have r1 := hv 0 (by simp) (by simp)
     have r2 := hv 1 (by simp) (by simp)
     simp only [List.getElem_cons_zero, List.getElem_toArray, List.getElem_cons_succ] at r1 r2
     cases r1
     exact ⟨b, rfl, r2⟩
 obtain ⟨val, rfl, rv⟩ := hvs
 obtain ⟨cs, a1, wv', z, hsim, rv', hz, hneg, htx, hV⟩ := znv S t1 t2 hl0 e1 rv
 generalize hh0 : Hp.tw t cs = h0 at hsim hV
 generalize hll : Loc.tw l a1 = l0 at hsim rv'
 have hw0 : h0.wf := (hsim 0).wf
 have hT : HasT h0 := ⟨{ t with rw := false }, by rw [← hh0]; rfl, t2⟩
 have norw : ∀ k b, h0.m k = some b → b.rw = false := fun k b q => by
  rw [← hh0] at q
  simp only [Hp.tw] at q
  split at q
  ·cases q; rfl
  ·split at q
   ·cases q; rfl
   ·cases q
 have TO0 : TabOk key T l0 := ⟨TO.f, fun g' n' q => by
  have hn := hT0 g' n' q
  obtain ⟨m, hm⟩ := TO.g g' n' q
  refine ⟨m, ?_⟩
  rw [← hll]
  simp only [Loc.tw]
  rw [if_neg (by omega), if_pos hn]
  exact hm⟩
 have RA : RelL key l0 [.ag [.b neg, wv']] [.agg #[.bool neg, val]] := .cons ((RelL.cons (.b neg) (.cons rv' .nil)).ag) .nil
 have RF : RelF key l0 ([.ag [.b neg, wv']] ++ List.replicate 57 undefA) (#[.agg #[.bool neg, val]] ++ Array.replicate (fn.ntmps - (#[Value.agg #[.bool neg, val]] : Array Value).size) undef) := by
  rw [hnt]
  unfold RelF
  rw [Array.toList_append, Array.toList_replicate]
  exact RA.append ⟨by simp, fun i q1 q2 => by rw [List.getElem_replicate, List.getElem_replicate]; exact zbs⟩
 have hbel : ∀ {l1 h1 w1}, Ext l0 h0 w l1 h1 w1 → Below w.heap.size w w1 := fun {l1 h1 w1} E =>
  ⟨E.os, E.tape, E.output, E.size, fun b hb => E.frame b hb fun m blk a q1 q2 => by rw [norw m blk q1] at q2; cases q2⟩
 have hregs : (cCode P T pre).regsOk = true := by rw [hpre]; decide
 have goodCall := zdh K1
 have final : Calls P g #[.agg #[.bool neg, val]] w fun e w' => e = .returned (.string ⟨tx.toArray⟩) ∧ Below w.heap.size w w' := by
  refine calls_of_wp hfn hbody ?_
  by_cases hz0 : z = 0
  ·subst hz0
   have hnf : neg = false := by
    cases neg
    ·rfl
    ·exact (hneg rfl rfl).elim
   subst hnf
   have htx' : tx = [48] := by rw [htx]; rfl
   obtain ⟨lf, fr', h1, ev, f2⟩ := zlK KE hw0 hT hV
   refine zga (goodCall lf) K1.call (zb4 K1 lf) K1.mixed lf tail pre hregs TO0 RF (hsim h1.next) (Nat.le_refl _) (by rw [hpre]; exact ev) fun l' a' w' E R' S' hd => ?_
   have r2 := RelF.get R' 2
   rw [f2] at r2
   refine ⟨hd, _, zgD hres _ _, ?_, hbel E⟩
   rw [htx']
   generalize a'.tmps.getD 2 undef = x at r2
   rw [znm r2]
  ·obtain ⟨lf, fr', h1, p0, m, len, cap, ps, ev, hlen, f1, ⟨b0, hb0, hb0v⟩, f3, ⟨b1, hb1, hb1v⟩, rfl, g1, g2, g3⟩ := zlL KE (neg := neg) hw0 hT hz0 hz hV
   refine zga (goodCall lf) K1.call (zb4 K1 lf) K1.mixed lf tail pre hregs TO0 RF (hsim h1.next) (Nat.le_refl _) (by rw [hpre]; exact ev) fun l' a' w' E R' S' hd => ?_
   have r1 := RelF.get R' 1
   have r3 := RelF.get R' 3
   rw [f1] at r1
   rw [f3] at r3
   have hsz : a'.tmps.size = 58 := by
    have := R'.1
    simp at this; omega
   have gd : ∀ i, i < 58 → a'.tmps[i]? = some (a'.tmps.getD i undef) := fun i hi => by
    rw [Array.getD_eq_getD_getElem?, Array.getElem?_eq_getElem (by omega)]; rfl
   have gd1 := gd 1 (by omega)
   have gd3 := gd 3 (by omega)
   generalize a'.tmps.getD 1 undef = x1 at r1 gd1
   generalize a'.tmps.getD 3 undef = x3 at r3 gd3
   cases r1 with
   | @p _ _ a1' q1 =>
    cases r3 with
    | @sl _ _ _ _ cap' _ a3 q3 s1 s2 s3 =>
     have H0 := S'.holds _ _ _ hb0 q1
     have H3 := S'.holds _ _ _ hb1 q3
     have hneg' : w'.cell? ⟨a1'.b, a1'.o + 0, none⟩ = some (.bool neg) := by
      have hl : 0 < b0.v.length := by
       rcases Nat.eq_zero_or_pos b0.v.length with q | q
       ·rw [List.getElem?_eq_none (by omega)] at hb0v; cases hb0v
       ·exact q
      obtain ⟨y, c1, c2⟩ := H0.cell 0 hl
      rw [List.getElem?_eq_getElem hl] at hb0v
      rw [Option.some.inj hb0v] at c2
      cases c2; exact c1
     have hcells : ∀ j x, ps[j]? = some x → w'.cell? ⟨a3.b, a3.o + 0 + j, none⟩ = some (.string ⟨x.toArray⟩) := fun j x hx => by
      have hj : j < ps.length := by
       by_cases q : j < ps.length
       ·exact q
       ·rw [List.getElem?_eq_none (by omega)] at hx; cases hx
      have hj' : j < b1.v.length := by rw [hb1v]; simpa using hj
      obtain ⟨y, c1, c2⟩ := H3.cell j hj'
      have e : b1.v[j] = .s x := by
       simp only [hb1v, List.getElem_map]
       rw [List.getElem?_eq_getElem hj] at hx
       rw [Option.some.inj hx]
      rw [e] at c2
      have hy : y = .string ⟨x.toArray⟩ := by
       generalize hs : AV.s x = ax at c2
       cases c2 <;> cases hs
       rfl
      rw [Nat.add_zero, ← hy]; exact c1
     have hne : ps.reverse.flatten ≠ [] := by rw [g3]; exact zmi z
     have htot : ps.flatten.length ≤ 1000000 := by
      have h1 : ps.flatten.length = ps.reverse.flatten.length := by
       simp only [List.length_flatten, List.map_reverse, List.sum_reverse]
      rw [h1, g3]
      have h2 := zj0 hz
      unfold dec
      rw [if_neg hz0, zcX]; omega
     have tl := htail neg ps hne g2 htot a1'.b (a1'.o + 0) a3.b (a3.o + 0) cap' w' hneg' H0.lt H3.lt hcells a'.tmps hsz gd1 gd3
     have ha : a' = ⟨a'.tmps, []⟩ := by
      rcases a' with ⟨tm, df⟩
      simp only at hd
      rw [hd]
     show tail.wp P (bodyPost P fn _) a' w'
     rw [ha]
     refine wp_mono tl ?_
     rintro e a2 w2 ⟨rfl, d2, v2, bl⟩
     refine ⟨d2, _, zgD hres _ _, ?_, (hbel E).trans ⟨bl.os, bl.tape, bl.output, bl.size, fun k hk => bl.block k (Nat.lt_of_lt_of_le hk E.size)⟩⟩
     rw [v2, g3, htx]
     unfold decI
     cases neg
     ·simp only [Bool.false_eq_true, if_false]
      rw [if_neg (by omega)]
      simp
     ·simp only [if_true]
      rw [if_pos (by omega)]
      simp
 exact zbD S final (zeG tx)
end Go.Eng
namespace Go.Eng
theorem zgx {f : Nat} {d : XD} (h : prog f = some d) : some d ∈ progL := by
 unfold prog at h
 cases h1 : progL[f]? with
 | none => rw [h1] at h; cases h
 | some x =>
  rw [h1] at h
  cases x with
  | none => cases h
  | some y => cases h; exact List.mem_of_getElem? h1
def dOkD : Option XD → Bool
 | some (.fn xf) => xf.body.dOk xf.n
 | _ => true
theorem zhh : progL.all dOkD = true := by kernel_rfl
def isO : Option XD → Bool
 | some (.orc _) => true
 | _ => false
theorem zd1 {f : Nat} {o : List AV → Hp → Option (AV × Hp)} (h : prog f = some (.orc o)) : o = orcA f ∧ (f = 33 ∨ f = 50 ∨ f = 51 ∨ f = 130 ∨ f = 131 ∨ f = 222) := by
 have hf : isO (prog f) = true := by rw [h]; rfl
 have all : (List.range progL.length).all (fun f => !isO (prog f) || (f == 33 || f == 50 || f == 51 || f == 130 || f == 131 || f == 222)) = true := by kernel_rfl
 have hlt : f < progL.length := by
  unfold prog at h
  by_cases q : f < progL.length
  ·exact q
  ·rw [List.getElem?_eq_none (by omega)] at h; cases h
 rw [List.all_eq_true] at all
 have := all f (List.mem_range.2 hlt)
 rw [hf] at this
 simp only [Bool.not_true, Bool.false_or, Bool.or_eq_true, beq_iff_eq] at this
 have hc : f = 33 ∨ f = 50 ∨ f = 51 ∨ f = 130 ∨ f = 131 ∨ f = 222 := by omega
 refine ⟨?_, hc⟩
 rcases hc with rfl | rfl | rfl | rfl | rfl | rfl
 ·first | (have e : prog 33 = some (.orc (orcA 33)) := rfl; rw [e] at h; cases h; rfl) | (have h' : (none : Option XD) = some (.orc o) := h; cases h')
 ·first | (have e : prog 50 = some (.orc (orcA 50)) := rfl; rw [e] at h; cases h; rfl) | (have h' : (none : Option XD) = some (.orc o) := h; cases h')
 ·first | (have e : prog 51 = some (.orc (orcA 51)) := rfl; rw [e] at h; cases h; rfl) | (have h' : (none : Option XD) = some (.orc o) := h; cases h')
 ·first | (have e : prog 130 = some (.orc (orcA 130)) := rfl; rw [e] at h; cases h; rfl) | (have h' : (none : Option XD) = some (.orc o) := h; cases h')
 ·first | (have e : prog 131 = some (.orc (orcA 131)) := rfl; rw [e] at h; cases h; rfl) | (have h' : (none : Option XD) = some (.orc o) := h; cases h')
 ·first | (have e : prog 222 = some (.orc (orcA 222)) := rfl; rw [e] at h; cases h; rfl) | (have h' : (none : Option XD) = some (.orc o) := h; cases h')
theorem zcY {f : Nat} {d : XD} (h : E1.prog f = some d) : prog f = some d ∧ f ≠ 33 := by
 have h2 : (if f = 33 then none else prog f) = some d := h
 split at h2
 ·cases h2
 ·rename_i hf; exact ⟨h2, hf⟩
theorem KE0 : PEnvOk E0 where
 fn := fun f xf h => by
  have := zhh
  rw [List.all_eq_true] at this
  exact this _ (zgx (show prog f = _ from h))
 orc := fun f o h Db r M hp args asv v M' e I hv => by
  obtain ⟨rfl, _⟩ := zd1 (show prog f = _ from h)
  exact zmY rfl e I hv
theorem KE1 : PEnvOk E1 where
 fn := fun f xf h => by
  have := zhh
  rw [List.all_eq_true] at this
  exact this _ (zgx (zcY h).1)
 orc := fun f o h Db r M hp args asv v M' e I hv => by
  obtain ⟨rfl, _⟩ := zd1 (zcY h).1
  exact zmY rfl e I hv
variable (P : Program) (T : Tab)
def AllOk : List (Option XD) → List (Option FuncId) → Prop
 | some (.fn xf) :: ps, some g :: ks => (∃ fn, P.funcs[g]? = some fn ∧ cFunc P T fn = some xf ∧ xf.body.regsOk = true) ∧ AllOk ps ks
 | _ :: ps, _ :: ks => AllOk ps ks
 | _, _ => True
def AllCal : List (Option FuncId) → Prop
 | some g :: ks => (∃ fn, P.funcs[g]? = some fn ∧ fn.body.isNone = false ∧ (fn.name == "runtime.NumGoroutine") = false) ∧ AllCal ks
 | none :: ks => AllCal ks
 | [] => True
variable {P T}
theorem zec : ∀ {ps : List (Option XD)} {ks : List (Option FuncId)}, AllOk P T ps ks → ∀ {f : Nat} {xf : XF} {g : FuncId}, (ps[f]?).join = some (.fn xf) → (ks[f]?).join = some g → ∃ fn, P.funcs[g]? = some fn ∧ cFunc P T fn = some xf ∧ xf.body.regsOk = true
 | [], _, _, f, xf, g, h1, h2 => by simp at h1
 | p :: ps, [], _, f, xf, g, h1, h2 => by simp at h2
 | p :: ps, k :: ks, h, 0, xf, g, h1, h2 => by
  simp only [List.getElem?_cons_zero, Option.join_some] at h1 h2
  subst h1; subst h2
  exact h.1
 | p :: ps, k :: ks, h, f + 1, xf, g, h1, h2 => by
  simp only [List.getElem?_cons_succ] at h1 h2
  refine zec (ps := ps) (ks := ks) ?_ h1 h2
  match p, k, h with
  | some (.fn xf), some g, h => exact h.2
  | some (.fn xf), none, h => exact h
  | some (.orc _), _, h => exact h
  | none, _, h => exact h
theorem zfi : ∀ {ks : List (Option FuncId)}, AllCal P ks → ∀ {f : Nat} {g : FuncId}, (ks[f]?).join = some g → ∃ fn, P.funcs[g]? = some fn ∧ fn.body.isNone = false ∧ (fn.name == "runtime.NumGoroutine") = false
 | [], _, f, g, h => by simp at h
 | k :: ks, h, 0, g, h1 => by
  simp only [List.getElem?_cons_zero, Option.join_some] at h1
  subst h1
  exact h.1
 | k :: ks, h, f + 1, g, h1 => by
  simp only [List.getElem?_cons_succ] at h1
  refine zfi (ks := ks) ?_ h1
  match k, h with
  | some g, h => exact h.2
  | none, h => exact h
theorem zgf {f : Nat} {args : List AV} {h h' : Hp} {v : AV} (e : orcA f args h = some (v, h')) : HpOk h h' := by
 unfold orcA at e
 split at e
 ·split at e
  ·simp only [Option.map_eq_some_iff, Prod.mk.injEq] at e
   obtain ⟨_, _, _, rfl⟩ := e
   exact .refl h
  ·cases e
 ·split at e
  ·cases e
  ·simp only [Option.map_eq_some_iff, Prod.mk.injEq] at e
   obtain ⟨_, _, _, rfl⟩ := e
   exact .refl h
theorem zlA {keyL : List (Option FuncId)} {ρ : Go.Shelf.Ren} {G : Nat} (mixed : P.follows .mixedOrders = true) (hc : AllCal P keyL) (ha : AllOk P T progL keyL) (L : LibOk P ρ (fun f => (keyL[f]?).join) T G) :
  ProgOk P (fun f => (keyL[f]?).join) T E1.prog where
 mixed := mixed
 call := fun f g h => zfi hc h
 fn := fun f xf g h1 h2 => zec ha (zcY h1).1 h2
 good := fun f o args h v h' h1 e => by
  obtain ⟨rfl, _⟩ := zd1 (zcY h1).1
  exact zgf e
 orc := fun f o g h1 hk F args vs h h' v l w e hF TO RL S => by
  obtain ⟨rfl, _⟩ := zd1 (zcY h1).1
  exact zhL L hk (zcY h1).2 e TO RL S
theorem zlz {keyL : List (Option FuncId)} {ρ : Go.Shelf.Ren} {G : Nat} (mixed : P.follows .mixedOrders = true) (hc : AllCal P keyL) (ha : AllOk P T progL keyL) (L : LibOk P ρ (fun f => (keyL[f]?).join) T G)
  (str : ∀ {g : Nat}, (keyL[33]?).join = some g → ∀ {F : Nat} {args : List AV} {vs : Array Value} {h h' : Hp} {v : AV} {l : Loc} {w : World}, orcA 33 args h = some (v, h') → TabOk (fun f => (keyL[f]?).join) T l →
   RelL (fun f => (keyL[f]?).join) l args vs.toList → Sim (fun f => (keyL[f]?).join) F l h w → Calls P g vs w fun e w' => ∃ l' val, e = .returned val ∧ Ext l h w l' h' w' ∧ Sim (fun f => (keyL[f]?).join) F l' h' w' ∧ Rel (fun f => (keyL[f]?).join) l' v val) :
  ProgOk P (fun f => (keyL[f]?).join) T E0.prog where
 mixed := mixed
 call := fun f g h => zfi hc h
 fn := fun f xf g h1 h2 => zec ha (show prog f = _ from h1) h2
 good := fun f o args h v h' h1 e => by
  obtain ⟨rfl, _⟩ := zd1 (show prog f = _ from h1)
  exact zgf e
 orc := fun f o g h1 hk F args vs h h' v l w e hF TO RL S => by
  obtain ⟨rfl, hf⟩ := zd1 (show prog f = _ from h1)
  by_cases h33 : f = 33
  ·subst h33
   exact str hk e TO RL S
  ·exact zhL L hk h33 e TO RL S
end Go.Eng
namespace Go.Proofs
open Go.Eng
def Tryz.keyL : List (Option FuncId) := [none, none, none, none, none, none, none, none, some 90, some 91, none, none, none, none, none, none, some 34, some 51, some 80, some 52, some 125, some 111, some 110, some 94, some 72, none, none, none, none, some 53, some 54, some 55, none, some 77, some 92, some 95, some 98, some 93, some 122, some 123, some 96, some 99, some 97, some 109, some 47, none, none, none, some 116, some 106, some 117, some 118, none, none, none, some 126, some 127, some 128, some 129, some 107, some 131, some 132, some 130, some 87, some 88, some 50, none, some 49, none, none, none, none, none, none, none, none, some 152, some 153, some 154, some 155, some 81, none, none, none, none, none, none, none, none, none, none, none, none, none, none, none, none, none, none, none, none, none, none, none, none, none, none, none, none, none, none, none, none, none, some 28, none, none, some 86, some 66, some 26, some 61, some 102, none, some 59, some 124, some 60, none, none, none, none, none, none, some 62, some 63, some 64, some 65, some 100, none, none, none, none, none, none, none, none, none, none, some 101, some 133, some 134, none, none, none, none, none, none, none, none, none, some 156, none, none, none, none, none, none, none, none, none, none, none, none, none, none, none, none, none, none, none, none, some 36, none, none, none, none, none, none, none, none, none, none, none, none, none, none, none, none, none, none, none, none, none, none, none, none, none, none, none, none, none, none, none, none, none, none, none, none, none, none, none, none, none, none, none, none, none, none, none, none, none, none, none, none, none, none, none, none, none, none, none, none, none, none, none, none, none, none, none, none, none, none, none, none, none, none, none, none, none, none, none, none, none, none, none, none, none, none, none, none, none, none, none, none, none, none, none, none, none, none, none, none, none, none, none, none, none, none, none, none, none, none, none, none, none, none, none, none, none, none, none, none, some 15, some 30, some 14, some 12, some 11, some 68, some 56, some 20, some 9, some 48, some 40, some 82, some 79, some 38, some 37, some 39, some 89, some 83, some 84, some 78, none, some 4, none, none, none, none, none, none, none, some 16, some 17, some 18, some 19, some 21, some 22, some 23, some 24, none, none, none, some 31, none, none, none, none, none, none, none, none, none, none, none, some 43, some 44, none, some 46, some 57, some 69, none, none, none, none, none, none, none, none, none, none, none, none, none, none, none, none, none, none, none, none, none, none, none, none, none, none, none, none, none]
def Tryz.fkeyL : List (Option Nat) := [none, none, none, none, some 322, none, none, none, none, some 309, none, some 305, some 304, none, some 303, some 301, some 330, some 331, some 332, some 333, some 308, some 334, some 335, some 336, some 337, none, some 119, none, some 114, none, some 302, some 341, none, none, some 16, none, some 180, some 315, some 314, some 316, some 311, none, none, some 353, some 354, none, some 356, some 44, some 310, some 67, some 65, some 17, some 19, some 29, some 30, some 31, some 307, some 357, none, some 123, some 125, some 120, some 132, some 133, some 134, some 135, some 118, none, some 306, some 358, none, none, some 24, none, none, none, none, some 33, some 320, some 313, some 18, some 80, some 312, some 318, some 319, none, some 117, some 63, some 64, some 317, some 8, some 9, some 34, some 37, some 23, some 35, some 40, some 42, some 36, some 41, some 136, some 147, some 121, none, none, none, some 49, some 59, none, some 43, some 22, some 21, none, none, none, none, some 48, some 50, some 51, none, none, none, some 38, some 39, some 124, some 20, some 55, some 56, some 57, some 58, some 62, some 60, some 61, some 148, some 149, none, none, none, none, none, none, none, none, none, none, none, none, none, none, none, none, none, some 76, some 77, some 78, some 79, some 159]
def Tryz.T : Tab := { fkey := fun f => (Tryz.fkeyL[f]?).join, gkey := fun g => if g = 4 then some 0 else none }
abbrev OkC (p : Program) (n : Nat) : Prop := ∃ fn, p.funcs[n]? = some fn ∧ fn.body.isNone = false ∧ (fn.name == "runtime.NumGoroutine") = false
abbrev OkF (p : Program) (T : Tab) (n : Nat) (x : XF) : Prop := ∃ fn, p.funcs[n]? = some fn ∧ cFunc p T fn = some x ∧ x.body.regsOk = true
theorem Tryz.okc8 : OkC Tryz.prog 90 := ⟨_, Tryz.func90, by kernel_rfl, by kernel_rfl⟩
theorem Tryz.okc9 : OkC Tryz.prog 91 := ⟨_, Tryz.func91, by kernel_rfl, by kernel_rfl⟩
theorem Tryz.okc16 : OkC Tryz.prog 34 := ⟨_, Tryz.func34, by kernel_rfl, by kernel_rfl⟩
theorem Tryz.okc17 : OkC Tryz.prog 51 := ⟨_, Tryz.func51, by kernel_rfl, by kernel_rfl⟩
theorem Tryz.okc18 : OkC Tryz.prog 80 := ⟨_, Tryz.func80, by kernel_rfl, by kernel_rfl⟩
theorem Tryz.okc19 : OkC Tryz.prog 52 := ⟨_, Tryz.func52, by kernel_rfl, by kernel_rfl⟩
theorem Tryz.okc20 : OkC Tryz.prog 125 := ⟨_, Tryz.func125, by kernel_rfl, by kernel_rfl⟩
theorem Tryz.okc21 : OkC Tryz.prog 111 := ⟨_, Tryz.func111, by kernel_rfl, by kernel_rfl⟩
theorem Tryz.okc22 : OkC Tryz.prog 110 := ⟨_, Tryz.func110, by kernel_rfl, by kernel_rfl⟩
theorem Tryz.okc23 : OkC Tryz.prog 94 := ⟨_, Tryz.func94, by kernel_rfl, by kernel_rfl⟩
theorem Tryz.okc24 : OkC Tryz.prog 72 := ⟨_, Tryz.func72, by kernel_rfl, by kernel_rfl⟩
theorem Tryz.okc29 : OkC Tryz.prog 53 := ⟨_, Tryz.func53, by kernel_rfl, by kernel_rfl⟩
theorem Tryz.okc30 : OkC Tryz.prog 54 := ⟨_, Tryz.func54, by kernel_rfl, by kernel_rfl⟩
theorem Tryz.okc31 : OkC Tryz.prog 55 := ⟨_, Tryz.func55, by kernel_rfl, by kernel_rfl⟩
theorem Tryz.okc33 : OkC Tryz.prog 77 := ⟨_, Tryz.func77, by kernel_rfl, by kernel_rfl⟩
theorem Tryz.okc34 : OkC Tryz.prog 92 := ⟨_, Tryz.func92, by kernel_rfl, by kernel_rfl⟩
theorem Tryz.okc35 : OkC Tryz.prog 95 := ⟨_, Tryz.func95, by kernel_rfl, by kernel_rfl⟩
theorem Tryz.okc36 : OkC Tryz.prog 98 := ⟨_, Tryz.func98, by kernel_rfl, by kernel_rfl⟩
theorem Tryz.okc37 : OkC Tryz.prog 93 := ⟨_, Tryz.func93, by kernel_rfl, by kernel_rfl⟩
theorem Tryz.okc38 : OkC Tryz.prog 122 := ⟨_, Tryz.func122, by kernel_rfl, by kernel_rfl⟩
theorem Tryz.okc39 : OkC Tryz.prog 123 := ⟨_, Tryz.func123, by kernel_rfl, by kernel_rfl⟩
theorem Tryz.okc40 : OkC Tryz.prog 96 := ⟨_, Tryz.func96, by kernel_rfl, by kernel_rfl⟩
theorem Tryz.okc41 : OkC Tryz.prog 99 := ⟨_, Tryz.func99, by kernel_rfl, by kernel_rfl⟩
theorem Tryz.okc42 : OkC Tryz.prog 97 := ⟨_, Tryz.func97, by kernel_rfl, by kernel_rfl⟩
theorem Tryz.okc43 : OkC Tryz.prog 109 := ⟨_, Tryz.func109, by kernel_rfl, by kernel_rfl⟩
theorem Tryz.okc44 : OkC Tryz.prog 47 := ⟨_, Tryz.func47, by kernel_rfl, by kernel_rfl⟩
theorem Tryz.okc48 : OkC Tryz.prog 116 := ⟨_, Tryz.func116, by kernel_rfl, by kernel_rfl⟩
theorem Tryz.okc49 : OkC Tryz.prog 106 := ⟨_, Tryz.func106, by kernel_rfl, by kernel_rfl⟩
theorem Tryz.okc50 : OkC Tryz.prog 117 := ⟨_, Tryz.func117, by kernel_rfl, by kernel_rfl⟩
theorem Tryz.okc51 : OkC Tryz.prog 118 := ⟨_, Tryz.func118, by kernel_rfl, by kernel_rfl⟩
theorem Tryz.okc55 : OkC Tryz.prog 126 := ⟨_, Tryz.func126, by kernel_rfl, by kernel_rfl⟩
theorem Tryz.okc56 : OkC Tryz.prog 127 := ⟨_, Tryz.func127, by kernel_rfl, by kernel_rfl⟩
theorem Tryz.okc57 : OkC Tryz.prog 128 := ⟨_, Tryz.func128, by kernel_rfl, by kernel_rfl⟩
theorem Tryz.okc58 : OkC Tryz.prog 129 := ⟨_, Tryz.func129, by kernel_rfl, by kernel_rfl⟩
theorem Tryz.okc59 : OkC Tryz.prog 107 := ⟨_, Tryz.func107, by kernel_rfl, by kernel_rfl⟩
theorem Tryz.okc60 : OkC Tryz.prog 131 := ⟨_, Tryz.func131, by kernel_rfl, by kernel_rfl⟩
theorem Tryz.okc61 : OkC Tryz.prog 132 := ⟨_, Tryz.func132, by kernel_rfl, by kernel_rfl⟩
theorem Tryz.okc62 : OkC Tryz.prog 130 := ⟨_, Tryz.func130, by kernel_rfl, by kernel_rfl⟩
theorem Tryz.okc63 : OkC Tryz.prog 87 := ⟨_, Tryz.func87, by kernel_rfl, by kernel_rfl⟩
theorem Tryz.okc64 : OkC Tryz.prog 88 := ⟨_, Tryz.func88, by kernel_rfl, by kernel_rfl⟩
theorem Tryz.okc65 : OkC Tryz.prog 50 := ⟨_, Tryz.func50, by kernel_rfl, by kernel_rfl⟩
theorem Tryz.okc67 : OkC Tryz.prog 49 := ⟨_, Tryz.func49, by kernel_rfl, by kernel_rfl⟩
theorem Tryz.okc76 : OkC Tryz.prog 152 := ⟨_, Tryz.func152, by kernel_rfl, by kernel_rfl⟩
theorem Tryz.okc77 : OkC Tryz.prog 153 := ⟨_, Tryz.func153, by kernel_rfl, by kernel_rfl⟩
theorem Tryz.okc78 : OkC Tryz.prog 154 := ⟨_, Tryz.func154, by kernel_rfl, by kernel_rfl⟩
theorem Tryz.okc79 : OkC Tryz.prog 155 := ⟨_, Tryz.func155, by kernel_rfl, by kernel_rfl⟩
theorem Tryz.okc80 : OkC Tryz.prog 81 := ⟨_, Tryz.func81, by kernel_rfl, by kernel_rfl⟩
theorem Tryz.okc114 : OkC Tryz.prog 28 := ⟨_, Tryz.func28, by kernel_rfl, by kernel_rfl⟩
theorem Tryz.okc117 : OkC Tryz.prog 86 := ⟨_, Tryz.func86, by kernel_rfl, by kernel_rfl⟩
theorem Tryz.okc118 : OkC Tryz.prog 66 := ⟨_, Tryz.func66, by kernel_rfl, by kernel_rfl⟩
theorem Tryz.okc119 : OkC Tryz.prog 26 := ⟨_, Tryz.func26, by kernel_rfl, by kernel_rfl⟩
theorem Tryz.okc120 : OkC Tryz.prog 61 := ⟨_, Tryz.func61, by kernel_rfl, by kernel_rfl⟩
theorem Tryz.okc121 : OkC Tryz.prog 102 := ⟨_, Tryz.func102, by kernel_rfl, by kernel_rfl⟩
theorem Tryz.okc123 : OkC Tryz.prog 59 := ⟨_, Tryz.func59, by kernel_rfl, by kernel_rfl⟩
theorem Tryz.okc124 : OkC Tryz.prog 124 := ⟨_, Tryz.func124, by kernel_rfl, by kernel_rfl⟩
theorem Tryz.okc125 : OkC Tryz.prog 60 := ⟨_, Tryz.func60, by kernel_rfl, by kernel_rfl⟩
theorem Tryz.okc132 : OkC Tryz.prog 62 := ⟨_, Tryz.func62, by kernel_rfl, by kernel_rfl⟩
theorem Tryz.okc133 : OkC Tryz.prog 63 := ⟨_, Tryz.func63, by kernel_rfl, by kernel_rfl⟩
theorem Tryz.okc134 : OkC Tryz.prog 64 := ⟨_, Tryz.func64, by kernel_rfl, by kernel_rfl⟩
theorem Tryz.okc135 : OkC Tryz.prog 65 := ⟨_, Tryz.func65, by kernel_rfl, by kernel_rfl⟩
theorem Tryz.okc136 : OkC Tryz.prog 100 := ⟨_, Tryz.func100, by kernel_rfl, by kernel_rfl⟩
theorem Tryz.okc147 : OkC Tryz.prog 101 := ⟨_, Tryz.func101, by kernel_rfl, by kernel_rfl⟩
theorem Tryz.okc148 : OkC Tryz.prog 133 := ⟨_, Tryz.func133, by kernel_rfl, by kernel_rfl⟩
theorem Tryz.okc149 : OkC Tryz.prog 134 := ⟨_, Tryz.func134, by kernel_rfl, by kernel_rfl⟩
theorem Tryz.okc159 : OkC Tryz.prog 156 := ⟨_, Tryz.func156, by kernel_rfl, by kernel_rfl⟩
theorem Tryz.okc180 : OkC Tryz.prog 36 := ⟨_, Tryz.func36, by kernel_rfl, by kernel_rfl⟩
theorem Tryz.okc301 : OkC Tryz.prog 15 := ⟨_, Tryz.func15, by kernel_rfl, by kernel_rfl⟩
theorem Tryz.okc302 : OkC Tryz.prog 30 := ⟨_, Tryz.func30, by kernel_rfl, by kernel_rfl⟩
theorem Tryz.okc303 : OkC Tryz.prog 14 := ⟨_, Tryz.func14, by kernel_rfl, by kernel_rfl⟩
theorem Tryz.okc304 : OkC Tryz.prog 12 := ⟨_, Tryz.func12, by kernel_rfl, by kernel_rfl⟩
theorem Tryz.okc305 : OkC Tryz.prog 11 := ⟨_, Tryz.func11, by kernel_rfl, by kernel_rfl⟩
theorem Tryz.okc306 : OkC Tryz.prog 68 := ⟨_, Tryz.func68, by kernel_rfl, by kernel_rfl⟩
theorem Tryz.okc307 : OkC Tryz.prog 56 := ⟨_, Tryz.func56, by kernel_rfl, by kernel_rfl⟩
theorem Tryz.okc308 : OkC Tryz.prog 20 := ⟨_, Tryz.func20, by kernel_rfl, by kernel_rfl⟩
theorem Tryz.okc309 : OkC Tryz.prog 9 := ⟨_, Tryz.func9, by kernel_rfl, by kernel_rfl⟩
theorem Tryz.okc310 : OkC Tryz.prog 48 := ⟨_, Tryz.func48, by kernel_rfl, by kernel_rfl⟩
theorem Tryz.okc311 : OkC Tryz.prog 40 := ⟨_, Tryz.func40, by kernel_rfl, by kernel_rfl⟩
theorem Tryz.okc312 : OkC Tryz.prog 82 := ⟨_, Tryz.func82, by kernel_rfl, by kernel_rfl⟩
theorem Tryz.okc313 : OkC Tryz.prog 79 := ⟨_, Tryz.func79, by kernel_rfl, by kernel_rfl⟩
theorem Tryz.okc314 : OkC Tryz.prog 38 := ⟨_, Tryz.func38, by kernel_rfl, by kernel_rfl⟩
theorem Tryz.okc315 : OkC Tryz.prog 37 := ⟨_, Tryz.func37, by kernel_rfl, by kernel_rfl⟩
theorem Tryz.okc316 : OkC Tryz.prog 39 := ⟨_, Tryz.func39, by kernel_rfl, by kernel_rfl⟩
theorem Tryz.okc317 : OkC Tryz.prog 89 := ⟨_, Tryz.func89, by kernel_rfl, by kernel_rfl⟩
theorem Tryz.okc318 : OkC Tryz.prog 83 := ⟨_, Tryz.func83, by kernel_rfl, by kernel_rfl⟩
theorem Tryz.okc319 : OkC Tryz.prog 84 := ⟨_, Tryz.func84, by kernel_rfl, by kernel_rfl⟩
theorem Tryz.okc320 : OkC Tryz.prog 78 := ⟨_, Tryz.func78, by kernel_rfl, by kernel_rfl⟩
theorem Tryz.okc322 : OkC Tryz.prog 4 := ⟨_, Tryz.func4, by kernel_rfl, by kernel_rfl⟩
theorem Tryz.okc330 : OkC Tryz.prog 16 := ⟨_, Tryz.func16, by kernel_rfl, by kernel_rfl⟩
theorem Tryz.okc331 : OkC Tryz.prog 17 := ⟨_, Tryz.func17, by kernel_rfl, by kernel_rfl⟩
theorem Tryz.okc332 : OkC Tryz.prog 18 := ⟨_, Tryz.func18, by kernel_rfl, by kernel_rfl⟩
theorem Tryz.okc333 : OkC Tryz.prog 19 := ⟨_, Tryz.func19, by kernel_rfl, by kernel_rfl⟩
theorem Tryz.okc334 : OkC Tryz.prog 21 := ⟨_, Tryz.func21, by kernel_rfl, by kernel_rfl⟩
theorem Tryz.okc335 : OkC Tryz.prog 22 := ⟨_, Tryz.func22, by kernel_rfl, by kernel_rfl⟩
theorem Tryz.okc336 : OkC Tryz.prog 23 := ⟨_, Tryz.func23, by kernel_rfl, by kernel_rfl⟩
theorem Tryz.okc337 : OkC Tryz.prog 24 := ⟨_, Tryz.func24, by kernel_rfl, by kernel_rfl⟩
theorem Tryz.okc341 : OkC Tryz.prog 31 := ⟨_, Tryz.func31, by kernel_rfl, by kernel_rfl⟩
theorem Tryz.okc353 : OkC Tryz.prog 43 := ⟨_, Tryz.func43, by kernel_rfl, by kernel_rfl⟩
theorem Tryz.okc354 : OkC Tryz.prog 44 := ⟨_, Tryz.func44, by kernel_rfl, by kernel_rfl⟩
theorem Tryz.okc356 : OkC Tryz.prog 46 := ⟨_, Tryz.func46, by kernel_rfl, by kernel_rfl⟩
theorem Tryz.okc357 : OkC Tryz.prog 57 := ⟨_, Tryz.func57, by kernel_rfl, by kernel_rfl⟩
theorem Tryz.okc358 : OkC Tryz.prog 69 := ⟨_, Tryz.func69, by kernel_rfl, by kernel_rfl⟩
theorem Tryz.okf8 : OkF Tryz.prog Tryz.T 90 x_frac_Mul := ⟨_, Tryz.func90, by kernel_rfl, by kernel_rfl⟩
theorem Tryz.okf9 : OkF Tryz.prog Tryz.T 91 x_frac_Add := ⟨_, Tryz.func91, by kernel_rfl, by kernel_rfl⟩
theorem Tryz.okf16 : OkF Tryz.prog Tryz.T 34 x__skymosaic_frac_Frac__String := ⟨_, Tryz.func34, by kernel_rfl, by kernel_rfl⟩
theorem Tryz.okf17 : OkF Tryz.prog Tryz.T 51 x_frac_Of := ⟨_, Tryz.func51, by kernel_rfl, by kernel_rfl⟩
theorem Tryz.okf18 : OkF Tryz.prog Tryz.T 80 x_wide_Gcd := ⟨_, Tryz.func80, by kernel_rfl, by kernel_rfl⟩
theorem Tryz.okf19 : OkF Tryz.prog Tryz.T 52 x__skymosaic_frac_Frac__Den := ⟨_, Tryz.func52, by kernel_rfl, by kernel_rfl⟩
theorem Tryz.okf20 : OkF Tryz.prog Tryz.T 125 x_frac_times := ⟨_, Tryz.func125, by kernel_rfl, by kernel_rfl⟩
theorem Tryz.okf21 : OkF Tryz.prog Tryz.T 111 x_frac_over := ⟨_, Tryz.func111, by kernel_rfl, by kernel_rfl⟩
theorem Tryz.okf22 : OkF Tryz.prog Tryz.T 110 x_frac_lowest := ⟨_, Tryz.func110, by kernel_rfl, by kernel_rfl⟩
theorem Tryz.okf23 : OkF Tryz.prog Tryz.T 94 x_wide_Add := ⟨_, Tryz.func94, by kernel_rfl, by kernel_rfl⟩
theorem Tryz.okf24 : OkF Tryz.prog Tryz.T 72 x_frac_Make := ⟨_, Tryz.func72, by kernel_rfl, by kernel_rfl⟩
theorem Tryz.okf29 : OkF Tryz.prog Tryz.T 53 x_wide_Div := ⟨_, Tryz.func53, by kernel_rfl, by kernel_rfl⟩
theorem Tryz.okf30 : OkF Tryz.prog Tryz.T 54 x_wide_Compare := ⟨_, Tryz.func54, by kernel_rfl, by kernel_rfl⟩
theorem Tryz.okf31 : OkF Tryz.prog Tryz.T 55 x_wide_Sign := ⟨_, Tryz.func55, by kernel_rfl, by kernel_rfl⟩
theorem Tryz.okf34 : OkF Tryz.prog Tryz.T 92 x_wide_From := ⟨_, Tryz.func92, by kernel_rfl, by kernel_rfl⟩
theorem Tryz.okf35 : OkF Tryz.prog Tryz.T 95 x_wide_divide := ⟨_, Tryz.func95, by kernel_rfl, by kernel_rfl⟩
theorem Tryz.okf36 : OkF Tryz.prog Tryz.T 98 x_wide_signed := ⟨_, Tryz.func98, by kernel_rfl, by kernel_rfl⟩
theorem Tryz.okf37 : OkF Tryz.prog Tryz.T 93 x_frac_must := ⟨_, Tryz.func93, by kernel_rfl, by kernel_rfl⟩
theorem Tryz.okf38 : OkF Tryz.prog Tryz.T 122 x_wide_Mul := ⟨_, Tryz.func122, by kernel_rfl, by kernel_rfl⟩
theorem Tryz.okf39 : OkF Tryz.prog Tryz.T 123 x_wide_Sub := ⟨_, Tryz.func123, by kernel_rfl, by kernel_rfl⟩
theorem Tryz.okf40 : OkF Tryz.prog Tryz.T 96 x_wide_sum := ⟨_, Tryz.func96, by kernel_rfl, by kernel_rfl⟩
theorem Tryz.okf41 : OkF Tryz.prog Tryz.T 99 x_wide_compare := ⟨_, Tryz.func99, by kernel_rfl, by kernel_rfl⟩
theorem Tryz.okf42 : OkF Tryz.prog Tryz.T 97 x_wide_difference := ⟨_, Tryz.func97, by kernel_rfl, by kernel_rfl⟩
theorem Tryz.okf43 : OkF Tryz.prog Tryz.T 109 x_wide_Neg := ⟨_, Tryz.func109, by kernel_rfl, by kernel_rfl⟩
theorem Tryz.okf44 : OkF Tryz.prog Tryz.T 47 x_poly_Digits := ⟨_, Tryz.func47, by kernel_rfl, by kernel_rfl⟩
theorem Tryz.okf48 : OkF Tryz.prog Tryz.T 116 x_wide_short := ⟨_, Tryz.func116, by kernel_rfl, by kernel_rfl⟩
theorem Tryz.okf49 : OkF Tryz.prog Tryz.T 106 x_wide_normal := ⟨_, Tryz.func106, by kernel_rfl, by kernel_rfl⟩
theorem Tryz.okf55 : OkF Tryz.prog Tryz.T 126 x_math_bits_LeadingZeros32 := ⟨_, Tryz.func126, by kernel_rfl, by kernel_rfl⟩
theorem Tryz.okf56 : OkF Tryz.prog Tryz.T 127 x_wide_shifted := ⟨_, Tryz.func127, by kernel_rfl, by kernel_rfl⟩
theorem Tryz.okf57 : OkF Tryz.prog Tryz.T 128 x_wide_take := ⟨_, Tryz.func128, by kernel_rfl, by kernel_rfl⟩
theorem Tryz.okf58 : OkF Tryz.prog Tryz.T 129 x_wide_carrier := ⟨_, Tryz.func129, by kernel_rfl, by kernel_rfl⟩
theorem Tryz.okf59 : OkF Tryz.prog Tryz.T 107 x_wide_times := ⟨_, Tryz.func107, by kernel_rfl, by kernel_rfl⟩
theorem Tryz.okf60 : OkF Tryz.prog Tryz.T 131 x_cmp_Compare_int_ := ⟨_, Tryz.func131, by kernel_rfl, by kernel_rfl⟩
theorem Tryz.okf61 : OkF Tryz.prog Tryz.T 132 x_cmp_Compare_uint32_ := ⟨_, Tryz.func132, by kernel_rfl, by kernel_rfl⟩
theorem Tryz.okf62 : OkF Tryz.prog Tryz.T 130 x_wide_subtract := ⟨_, Tryz.func130, by kernel_rfl, by kernel_rfl⟩
theorem Tryz.okf63 : OkF Tryz.prog Tryz.T 87 x_poly_digits := ⟨_, Tryz.func87, by kernel_rfl, by kernel_rfl⟩
theorem Tryz.okf64 : OkF Tryz.prog Tryz.T 88 x__skymosaic_frac_Frac__Num := ⟨_, Tryz.func88, by kernel_rfl, by kernel_rfl⟩
theorem Tryz.okf65 : OkF Tryz.prog Tryz.T 50 x_frac_Div := ⟨_, Tryz.func50, by kernel_rfl, by kernel_rfl⟩
theorem Tryz.okf67 : OkF Tryz.prog Tryz.T 49 x_frac_Sign := ⟨_, Tryz.func49, by kernel_rfl, by kernel_rfl⟩
theorem Tryz.okf76 : OkF Tryz.prog Tryz.T 152 x_math_bits_Len32 := ⟨_, Tryz.func152, by kernel_rfl, by kernel_rfl⟩
theorem Tryz.okf77 : OkF Tryz.prog Tryz.T 153 x_wide_carrier_1 := ⟨_, Tryz.func153, by kernel_rfl, by kernel_rfl⟩
theorem Tryz.okf78 : OkF Tryz.prog Tryz.T 154 x_cmp_isNaN_int_ := ⟨_, Tryz.func154, by kernel_rfl, by kernel_rfl⟩
theorem Tryz.okf79 : OkF Tryz.prog Tryz.T 155 x_cmp_isNaN_uint32_ := ⟨_, Tryz.func155, by kernel_rfl, by kernel_rfl⟩
theorem Tryz.okf80 : OkF Tryz.prog Tryz.T 81 x__skymosaic_wide_Int__Small := ⟨_, Tryz.func81, by kernel_rfl, by kernel_rfl⟩
theorem Tryz.okf114 : OkF Tryz.prog Tryz.T 28 x_r03_Of := ⟨_, Tryz.func28, by kernel_rfl, by kernel_rfl⟩
theorem Tryz.okf117 : OkF Tryz.prog Tryz.T 86 x_r03_Small := ⟨_, Tryz.func86, by kernel_rfl, by kernel_rfl⟩
theorem Tryz.okf118 : OkF Tryz.prog Tryz.T 66 x_r03_Mul := ⟨_, Tryz.func66, by kernel_rfl, by kernel_rfl⟩
theorem Tryz.okf119 : OkF Tryz.prog Tryz.T 26 x_r03_Add := ⟨_, Tryz.func26, by kernel_rfl, by kernel_rfl⟩
theorem Tryz.okf120 : OkF Tryz.prog Tryz.T 61 x_r03_Div := ⟨_, Tryz.func61, by kernel_rfl, by kernel_rfl⟩
theorem Tryz.okf121 : OkF Tryz.prog Tryz.T 102 x_r03_Sub := ⟨_, Tryz.func102, by kernel_rfl, by kernel_rfl⟩
theorem Tryz.okf123 : OkF Tryz.prog Tryz.T 59 x_r03_Neg := ⟨_, Tryz.func59, by kernel_rfl, by kernel_rfl⟩
theorem Tryz.okf124 : OkF Tryz.prog Tryz.T 124 x_r03_Compare := ⟨_, Tryz.func124, by kernel_rfl, by kernel_rfl⟩
theorem Tryz.okf125 : OkF Tryz.prog Tryz.T 60 x_r03_Gcd := ⟨_, Tryz.func60, by kernel_rfl, by kernel_rfl⟩
theorem Tryz.okf132 : OkF Tryz.prog Tryz.T 62 x_r03_normal := ⟨_, Tryz.func62, by kernel_rfl, by kernel_rfl⟩
theorem Tryz.okf133 : OkF Tryz.prog Tryz.T 63 x_r03_plus := ⟨_, Tryz.func63, by kernel_rfl, by kernel_rfl⟩
theorem Tryz.okf134 : OkF Tryz.prog Tryz.T 64 x_r03_compared := ⟨_, Tryz.func64, by kernel_rfl, by kernel_rfl⟩
theorem Tryz.okf135 : OkF Tryz.prog Tryz.T 65 x_r03_minus := ⟨_, Tryz.func65, by kernel_rfl, by kernel_rfl⟩
theorem Tryz.okf136 : OkF Tryz.prog Tryz.T 100 x_r03_divided := ⟨_, Tryz.func100, by kernel_rfl, by kernel_rfl⟩
theorem Tryz.okf147 : OkF Tryz.prog Tryz.T 101 x_r03_at := ⟨_, Tryz.func101, by kernel_rfl, by kernel_rfl⟩
theorem Tryz.okf148 : OkF Tryz.prog Tryz.T 133 x_r03_digit := ⟨_, Tryz.func133, by kernel_rfl, by kernel_rfl⟩
theorem Tryz.okf149 : OkF Tryz.prog Tryz.T 134 x_r03_small := ⟨_, Tryz.func134, by kernel_rfl, by kernel_rfl⟩
theorem Tryz.okf159 : OkF Tryz.prog Tryz.T 156 x_r03_digits := ⟨_, Tryz.func156, by kernel_rfl, by kernel_rfl⟩
theorem Tryz.okf180 : OkF Tryz.prog Tryz.T 36 x_r04_Pick := ⟨_, Tryz.func36, by kernel_rfl, by kernel_rfl⟩
theorem Tryz.okf301 : OkF Tryz.prog Tryz.T 15 x_r12_Proj := ⟨_, Tryz.func15, by kernel_rfl, by kernel_rfl⟩
theorem Tryz.okf302 : OkF Tryz.prog Tryz.T 30 x_proj_Valid := ⟨_, Tryz.func30, by kernel_rfl, by kernel_rfl⟩
theorem Tryz.okf303 : OkF Tryz.prog Tryz.T 14 x_l12_lives := ⟨_, Tryz.func14, by kernel_rfl, by kernel_rfl⟩
theorem Tryz.okf304 : OkF Tryz.prog Tryz.T 12 x_l12_whole := ⟨_, Tryz.func12, by kernel_rfl, by kernel_rfl⟩
theorem Tryz.okf305 : OkF Tryz.prog Tryz.T 11 x_proj_Apply := ⟨_, Tryz.func11, by kernel_rfl, by kernel_rfl⟩
theorem Tryz.okf306 : OkF Tryz.prog Tryz.T 68 x_proj_det := ⟨_, Tryz.func68, by kernel_rfl, by kernel_rfl⟩
theorem Tryz.okf307 : OkF Tryz.prog Tryz.T 56 x_proj_of := ⟨_, Tryz.func56, by kernel_rfl, by kernel_rfl⟩
theorem Tryz.okf308 : OkF Tryz.prog Tryz.T 20 x_proj_Inverse := ⟨_, Tryz.func20, by kernel_rfl, by kernel_rfl⟩
theorem Tryz.okf309 : OkF Tryz.prog Tryz.T 9 x_proj_Four := ⟨_, Tryz.func9, by kernel_rfl, by kernel_rfl⟩
theorem Tryz.okf310 : OkF Tryz.prog Tryz.T 48 x_proj_row := ⟨_, Tryz.func48, by kernel_rfl, by kernel_rfl⟩
theorem Tryz.okf311 : OkF Tryz.prog Tryz.T 40 x_proj_adjoint := ⟨_, Tryz.func40, by kernel_rfl, by kernel_rfl⟩
theorem Tryz.okf312 : OkF Tryz.prog Tryz.T 82 x_proj_plus := ⟨_, Tryz.func82, by kernel_rfl, by kernel_rfl⟩
theorem Tryz.okf313 : OkF Tryz.prog Tryz.T 79 x_proj_times := ⟨_, Tryz.func79, by kernel_rfl, by kernel_rfl⟩
theorem Tryz.okf314 : OkF Tryz.prog Tryz.T 38 x_proj_normal := ⟨_, Tryz.func38, by kernel_rfl, by kernel_rfl⟩
theorem Tryz.okf315 : OkF Tryz.prog Tryz.T 37 x_proj_basis := ⟨_, Tryz.func37, by kernel_rfl, by kernel_rfl⟩
theorem Tryz.okf316 : OkF Tryz.prog Tryz.T 39 x_proj_product := ⟨_, Tryz.func39, by kernel_rfl, by kernel_rfl⟩
theorem Tryz.okf317 : OkF Tryz.prog Tryz.T 89 x_proj_row_1 := ⟨_, Tryz.func89, by kernel_rfl, by kernel_rfl⟩
theorem Tryz.okf318 : OkF Tryz.prog Tryz.T 83 x_proj_adjoint_1 := ⟨_, Tryz.func83, by kernel_rfl, by kernel_rfl⟩
theorem Tryz.okf319 : OkF Tryz.prog Tryz.T 84 x_proj_minus := ⟨_, Tryz.func84, by kernel_rfl, by kernel_rfl⟩
theorem Tryz.okf320 : OkF Tryz.prog Tryz.T 78 x_proj_basis_1 := ⟨_, Tryz.func78, by kernel_rfl, by kernel_rfl⟩
theorem Tryz.okf322 : OkF Tryz.prog Tryz.T 4 x_l12_ProjInverts := ⟨_, Tryz.func4, by kernel_rfl, by kernel_rfl⟩
theorem Tryz.okf330 : OkF Tryz.prog Tryz.T 16 x_l12_spoilt := ⟨_, Tryz.func16, by kernel_rfl, by kernel_rfl⟩
theorem Tryz.okf331 : OkF Tryz.prog Tryz.T 17 x_l12_multiple := ⟨_, Tryz.func17, by kernel_rfl, by kernel_rfl⟩
theorem Tryz.okf332 : OkF Tryz.prog Tryz.T 18 x_proj_Normal := ⟨_, Tryz.func18, by kernel_rfl, by kernel_rfl⟩
theorem Tryz.okf333 : OkF Tryz.prog Tryz.T 19 x_r12_Normal := ⟨_, Tryz.func19, by kernel_rfl, by kernel_rfl⟩
theorem Tryz.okf334 : OkF Tryz.prog Tryz.T 21 x_r12_Inverse := ⟨_, Tryz.func21, by kernel_rfl, by kernel_rfl⟩
theorem Tryz.okf335 : OkF Tryz.prog Tryz.T 22 x_proj_Compose := ⟨_, Tryz.func22, by kernel_rfl, by kernel_rfl⟩
theorem Tryz.okf336 : OkF Tryz.prog Tryz.T 23 x_r12_Compose := ⟨_, Tryz.func23, by kernel_rfl, by kernel_rfl⟩
theorem Tryz.okf337 : OkF Tryz.prog Tryz.T 24 x_proj_Same := ⟨_, Tryz.func24, by kernel_rfl, by kernel_rfl⟩
theorem Tryz.okf341 : OkF Tryz.prog Tryz.T 31 x_r12_Valid := ⟨_, Tryz.func31, by kernel_rfl, by kernel_rfl⟩
theorem Tryz.okf353 : OkF Tryz.prog Tryz.T 43 x_r12_normal := ⟨_, Tryz.func43, by kernel_rfl, by kernel_rfl⟩
theorem Tryz.okf354 : OkF Tryz.prog Tryz.T 44 x_r12_product := ⟨_, Tryz.func44, by kernel_rfl, by kernel_rfl⟩
theorem Tryz.okf356 : OkF Tryz.prog Tryz.T 46 x_r12_inverse := ⟨_, Tryz.func46, by kernel_rfl, by kernel_rfl⟩
theorem Tryz.okf357 : OkF Tryz.prog Tryz.T 57 x_r12_Matrix := ⟨_, Tryz.func57, by kernel_rfl, by kernel_rfl⟩
theorem Tryz.okf358 : OkF Tryz.prog Tryz.T 69 x_r12_det := ⟨_, Tryz.func69, by kernel_rfl, by kernel_rfl⟩
theorem Tryz.allc : AllCal Tryz.prog Tryz.keyL := ⟨Tryz.okc8, Tryz.okc9, Tryz.okc16, Tryz.okc17, Tryz.okc18, Tryz.okc19, Tryz.okc20, Tryz.okc21, Tryz.okc22, Tryz.okc23, Tryz.okc24, Tryz.okc29, Tryz.okc30, Tryz.okc31, Tryz.okc33, Tryz.okc34, Tryz.okc35, Tryz.okc36, Tryz.okc37, Tryz.okc38, Tryz.okc39, Tryz.okc40, Tryz.okc41, Tryz.okc42, Tryz.okc43, Tryz.okc44, Tryz.okc48, Tryz.okc49, Tryz.okc50, Tryz.okc51, Tryz.okc55, Tryz.okc56, Tryz.okc57, Tryz.okc58, Tryz.okc59, Tryz.okc60, Tryz.okc61, Tryz.okc62, Tryz.okc63, Tryz.okc64, Tryz.okc65, Tryz.okc67, Tryz.okc76, Tryz.okc77, Tryz.okc78, Tryz.okc79, Tryz.okc80, Tryz.okc114, Tryz.okc117, Tryz.okc118, Tryz.okc119, Tryz.okc120, Tryz.okc121, Tryz.okc123, Tryz.okc124, Tryz.okc125, Tryz.okc132, Tryz.okc133, Tryz.okc134, Tryz.okc135, Tryz.okc136, Tryz.okc147, Tryz.okc148, Tryz.okc149, Tryz.okc159, Tryz.okc180, Tryz.okc301, Tryz.okc302, Tryz.okc303, Tryz.okc304, Tryz.okc305, Tryz.okc306, Tryz.okc307, Tryz.okc308, Tryz.okc309, Tryz.okc310, Tryz.okc311, Tryz.okc312, Tryz.okc313, Tryz.okc314, Tryz.okc315, Tryz.okc316, Tryz.okc317, Tryz.okc318, Tryz.okc319, Tryz.okc320, Tryz.okc322, Tryz.okc330, Tryz.okc331, Tryz.okc332, Tryz.okc333, Tryz.okc334, Tryz.okc335, Tryz.okc336, Tryz.okc337, Tryz.okc341, Tryz.okc353, Tryz.okc354, Tryz.okc356, Tryz.okc357, Tryz.okc358, True.intro⟩
theorem Tryz.allf : AllOk Tryz.prog Tryz.T progL Tryz.keyL := ⟨Tryz.okf8, Tryz.okf9, Tryz.okf16, Tryz.okf17, Tryz.okf18, Tryz.okf19, Tryz.okf20, Tryz.okf21, Tryz.okf22, Tryz.okf23, Tryz.okf24, Tryz.okf29, Tryz.okf30, Tryz.okf31, Tryz.okf34, Tryz.okf35, Tryz.okf36, Tryz.okf37, Tryz.okf38, Tryz.okf39, Tryz.okf40, Tryz.okf41, Tryz.okf42, Tryz.okf43, Tryz.okf44, Tryz.okf48, Tryz.okf49, Tryz.okf55, Tryz.okf56, Tryz.okf57, Tryz.okf58, Tryz.okf59, Tryz.okf60, Tryz.okf61, Tryz.okf62, Tryz.okf63, Tryz.okf64, Tryz.okf65, Tryz.okf67, Tryz.okf76, Tryz.okf77, Tryz.okf78, Tryz.okf79, Tryz.okf80, Tryz.okf114, Tryz.okf117, Tryz.okf118, Tryz.okf119, Tryz.okf120, Tryz.okf121, Tryz.okf123, Tryz.okf124, Tryz.okf125, Tryz.okf132, Tryz.okf133, Tryz.okf134, Tryz.okf135, Tryz.okf136, Tryz.okf147, Tryz.okf148, Tryz.okf149, Tryz.okf159, Tryz.okf180, Tryz.okf301, Tryz.okf302, Tryz.okf303, Tryz.okf304, Tryz.okf305, Tryz.okf306, Tryz.okf307, Tryz.okf308, Tryz.okf309, Tryz.okf310, Tryz.okf311, Tryz.okf312, Tryz.okf313, Tryz.okf314, Tryz.okf315, Tryz.okf316, Tryz.okf317, Tryz.okf318, Tryz.okf319, Tryz.okf320, Tryz.okf322, Tryz.okf330, Tryz.okf331, Tryz.okf332, Tryz.okf333, Tryz.okf334, Tryz.okf335, Tryz.okf336, Tryz.okf337, Tryz.okf341, Tryz.okf353, Tryz.okf354, Tryz.okf356, Tryz.okf357, Tryz.okf358, True.intro⟩
theorem Tryz.libok : LibOk Tryz.prog Tryz.lren (fun f => (Tryz.keyL[f]?).join) Tryz.T 4 where
 l105 := Tryz.l105
 l171 := Tryz.l171
 lX := Tryz.lX
 gname := by kernel_rfl
 gkey := rfl
 k50 := rfl
 k51 := rfl
 o130 := fun g h => by have h : (none : Option FuncId) = some g := h; cases h
 o131 := fun g h => by have h : (none : Option FuncId) = some g := h; cases h
 o222 := fun g h => by have h : (none : Option FuncId) = some g := h; cases h
theorem Tryz.mixed : Tryz.prog.follows .mixedOrders = true := by kernel_rfl
theorem Tryz.progok1 : ProgOk Tryz.prog (fun f => (Tryz.keyL[f]?).join) Tryz.T E1.prog := zlA Tryz.mixed Tryz.allc Tryz.allf Tryz.libok
theorem Tryz.gk0 : ∀ g n, Tryz.T.gkey g = some n → n ≤ 4 := fun g n h => by
 have h : (if g = 4 then some 0 else none) = some n := h
 split at h
 ·cases h; decide
 ·cases h
theorem Tryz.progok : ProgOk Tryz.prog (fun f => (Tryz.keyL[f]?).join) Tryz.T E0.prog := zlz Tryz.mixed Tryz.allc Tryz.allf Tryz.libok fun {g} hk => by
 obtain rfl : g = 77 := (Option.some.inj hk).symm
 exact fun {_ _ _ _ _ _ _ _} e TO RL S => zlN (pre := Tryz.strPre) (tail := Tryz.strTail) Tryz.progok1 KE1 Tryz.gk0 (G := 4) rfl Tryz.func77 rfl (by kernel_rfl) rfl rfl (fun neg ps h1 h2 h3 b1 o1 b3 o3 c w h4 h5 h6 h7 tm h8 h9 h10 => Tryz.str_tail neg ps h1 h2 h3 b1 o1 b3 o3 c w h4 h5 h6 h7 tm h8 h9 h10) e TO RL S
end Go.Proofs
namespace Go.Eng
open Go.RowKit
theorem tabIs_mem {P : Program} {W : World} {name : String} {k : IntKind} {zs : List Int} {g : Nat} {t e : TypeId} {n : Nat}
  (hg : P.globalNamed name = some g) (hty : (P.globals[g]?).map (·.type) = some t) (ht : P.underlying t = some (.array n e)) (he : P.underlying e = some (.int k)) (hce : P.cellsOf e = 1) (hct : P.cellsOf t = n) :
  ∀ {laid : List (String × DataW Unit)} {ps : List MemPlace}, DataW.LaidVars P W laid ps → (name, Lib.tabData k zs) ∈ laid → Lib.TabIs P W name k zs
 | [], _, _, hm => by cases hm
 | x :: laid, ps, h, hm => by
  obtain ⟨g', t', cs, fuel, p, q, hg', ht', hvar, hd, h2, h3⟩ := h
  rcases List.mem_cons.1 hm with rfl | hm
  ·obtain rfl := Option.some.inj (hg.symm.trans hg')
   obtain rfl := Option.some.inj (hty.symm.trans ht')
   unfold Lib.TabIs
   rw [hvar, ← Lib.cells_of_tab ht he hce hct hd]
  ·exact tabIs_mem hg hty ht he hce hct (by first | exact h2 | exact h3 | exact h3.1 | exact h2.1) hm
def IsRow (k : IntKind) (w : World) (a : Option Addr) (len cap : Nat) (zs : List Int) : Prop :=
 (a = none ∧ len = 0 ∧ cap = 0 ∧ zs = []) ∨
 ∃ x, a = some x ∧ len ≤ cap ∧ cap ≤ maxLen ∧ zs.length = cap ∧ (∀ i, i < zs.length → w.cell? (x.add i) = some (.int k (zs.getD i 0))) ∧ ∀ n ∈ zs, (Lit.int k n).wf = true
def hpA (bs : List (List AV)) : Hp := ⟨fun n => if n ≤ 4 then (globG n).map fun c => ⟨c, false, 0⟩ else (bs[n - 5]?).map fun c => ⟨c, false, 0⟩, bs.length + 5⟩
def locA (gs : Nat → Option At) (ats : List At) : Loc := fun n => if n ≤ 4 then gs n else ats[n - 5]?
def InW (c : List AV) (a : At) (W : World) : Prop :=
 a.b < W.heap.size ∧ a.w = false ∧ c.length ≤ a.n ∧ ∀ i (h : i < c.length), c[i].scal = true ∧ ∃ v, W.cell? ⟨a.b, a.o + i, none⟩ = some v ∧ ∀ key l, Rel key l c[i] v
def GlobIn (key : Nat → Option FuncId) (W : World) (n : Nat) (a : At) : Prop :=
 a.o = 0 ∧ ∃ c cs t fz, globG n = some c ∧ W.heap[a.b]? = some (.cells cs t fz) ∧ c.length ≤ a.n ∧ RelL key (fun _ => none) c cs.toList
theorem zhG : ∀ {n : Nat} {c : List AV}, globG n = some c → c.all AV.scal = true
 | 0, c, h => by cases h; rfl
 | 1, c, h => by cases h; rfl
 | 2, c, h => by cases h; rfl
 | 3, c, h => by cases h; rfl
 | 4, c, h => by cases h; rfl
 | n + 5, c, h => by cases h
theorem zgR : ∀ {n : Nat} {c : List AV}, globG n = some c → (c.map cst0).all PV.scal = true
 | 0, c, h => by cases h; decide
 | 1, c, h => by cases h; decide
 | 2, c, h => by cases h; decide
 | 3, c, h => by cases h; rfl
 | 4, c, h => by cases h; rfl
 | n + 5, c, h => by cases h
theorem zkO : ∀ {n : Nat} {c : List AV}, globG n = some c → n ≤ 4
 | 0, c, h => by omega
 | 1, c, h => by omega
 | 2, c, h => by omega
 | 3, c, h => by omega
 | 4, c, h => by omega
 | n + 5, c, h => by cases h
theorem zrG {P : Program} {key : Nat → Option FuncId} {F : Nat} {W : World} {gs : Nat → Option At} (hgs : ∀ n a, n ≤ 4 → gs n = some a → GlobIn key W n a)
  {bs : List (List AV)} {ats : List At} (hl : ats.length = bs.length) (hin : ∀ (n : Nat) c a, bs[n]? = some c → ats[n]? = some a → InW c a W) : Sim key F (locA gs ats) (hpA bs) W := by
 have hlt : ∀ n a, n ≤ 4 → gs n = some a → a.b < W.heap.size := fun n a hn hg => by
  obtain ⟨_, c, cs, t, fz, _, h2, _⟩ := hgs n a hn hg
  rcases Nat.lt_or_ge a.b W.heap.size with q | q
  ·exact q
  ·rw [Array.getElem?_eq_none q] at h2; cases h2
 have hout : ∀ n, bs.length ≤ n → ats[n]? = none := fun n hn => List.getElem?_eq_none (by omega)
 have norw : ∀ n blk, (hpA bs).m n = some blk → blk.rw = false := fun n blk e => by
  simp only [hpA] at e
  split at e <;> (simp only [Option.map_eq_some_iff] at e; obtain ⟨c, _, rfl⟩ := e; rfl)
 refine ⟨fun n blk a e1 e2 => ?_, fun n blk a n' blk' a' e1 e2 e3 => ?_, fun n a e => ?_, fun n a e => ?_, fun n hn => ?_⟩
 ·by_cases hn : n ≤ 4
  ·simp only [hpA, if_pos hn, Option.map_eq_some_iff] at e1
   simp only [locA, if_pos hn] at e2
   obtain ⟨c, c1, rfl⟩ := e1
   obtain ⟨g1, c', cs, t, fz, g2, g3, g4, g5⟩ := hgs n a hn e2
   obtain rfl := Option.some.inj (c1.symm.trans g2)
   have hsz : c.length = cs.size := by simpa using g5.1
   refine ⟨hlt n a hn e2, g4, fun i hi => ?_, fun i hi => ?_, fun q => (by cases q), fun _ => ⟨rfl, g1, cs, t, fz, g3, hsz.symm⟩⟩
   ·have hi : i < c.length := hi
    have hi' : i < cs.toList.length := by simp; omega
    refine ⟨cs.toList[i], ?_, (g5.2 i hi hi').mono fun n a q => by cases q⟩
    have hb : W.heap[a.b]? = some (.cells cs t fz) := g3
    simp only [World.cell?, hb, g1, Nat.zero_add]
    rw [Array.getElem_toList, Array.getElem?_eq_getElem (by omega)]; rfl
   ·have := zhG c1
    rw [List.all_eq_true] at this
    exact this _ (List.getElem_mem _)
  ·simp only [hpA, if_neg hn, Option.map_eq_some_iff] at e1
   simp only [locA, if_neg hn] at e2
   obtain ⟨c, c1, rfl⟩ := e1
   obtain ⟨q1, q2, q3, q4⟩ := hin _ c a c1 e2
   exact ⟨q1, q3, fun i hi => by obtain ⟨_, v, v1, v2⟩ := q4 i hi; exact ⟨v, v1, v2 key _⟩, fun i hi => (q4 i hi).1, fun q => (by cases q), fun q => by rw [q2] at q; cases q⟩
 ·rw [norw n blk e1] at e3; cases e3
 ·by_cases hn : n ≤ 4
  ·simp only [locA, if_pos hn] at e
   exact hlt n a hn e
  ·simp only [locA, if_neg hn] at e
   have hb : n - 5 < bs.length := by
    rcases Nat.lt_or_ge (n - 5) bs.length with q | q
    ·exact q
    ·rw [hout _ q] at e; cases e
   exact (hin _ _ a (List.getElem?_eq_getElem hb) e).1
 ·left
  show n < bs.length + 5
  by_cases hn : n ≤ 4
  ·omega
  ·simp only [locA, if_neg hn] at e
   rcases Nat.lt_or_ge (n - 5) bs.length with q | q
   ·omega
   ·rw [hout _ q] at e; cases e
 ·have hn : bs.length + 5 ≤ n := hn
  simp only [hpA]
  rw [if_neg (by omega), List.getElem?_eq_none (by omega)]; rfl
theorem PInv.startG {bs : List (List AV)} (w : (hpA bs).wf) : PInv globG (fun _ => False) [] [] (hpA bs) := by
 refine ⟨rfl, fun i j m q => by simp at q, fun m q => by simp at q, w, fun n m q => by simp at q, fun n b m q => by simp at q, fun m d => d.elim, fun g l q => ?_⟩
 refine ⟨⟨l, false, 0⟩, ?_, ⟨rfl, zgR q⟩, fun d => ?_⟩
 ·simp only [hpA, if_pos (zkO q), q, Option.map_some]
 ·rcases d with d | d
  ·exact d
  ·exact zhW _ d
theorem glob_tab {P : Program} {key : Nat → Option FuncId} {W : World} {G : Nat} (hg : P.globalNamed "internal/strconv.uint64pow10" = some G) (ht : Lib.TabIs P W "internal/strconv.uint64pow10" .u64 Lib.pow10Tab) : GlobIn key W 0 ⟨G, 0, 20, true⟩ := by
 have hb : ∃ cs t fz, W.heap[G]? = some (.cells cs t fz) ∧ cs = (Lib.pow10Tab.map fun z => Value.int .u64 z).toArray := by
  unfold Lib.TabIs World.var? at ht
  rw [hg] at ht
  simp only [Option.bind_some] at ht
  split at ht
  ·rename_i cs t fz hh
   cases ht
   exact ⟨_, t, fz, hh, rfl⟩
  ·cases ht
 obtain ⟨cs, t, fz, hh, rfl⟩ := hb
 refine ⟨rfl, powT, _, t, fz, rfl, hh, Nat.le_refl _, by simp [Lib.pow10Tab, powT], fun i h1 h2 => ?_⟩
 have hpl : powT.length = 20 := rfl
 have hi' : i < 20 := by rw [← hpl]; exact h1
 simp only [powT, List.getElem_map, List.getElem_range, Lib.pow10Tab]
 exact .i _ _
theorem law_calls {P : Program} {key : Nat → Option FuncId} {T : Tab} (K : ProgOk P key T E0.prog) (hTf : ∀ f k, T.fkey f = some k → key k = some f) {W : World} {gs : Nat → Option At} (hgs : ∀ n a, n ≤ 4 → gs n = some a → GlobIn key W n a)
  (hT : ∀ g n, T.gkey g = some n → n ≤ 4 ∧ ∃ m, gs n = some ⟨g, 0, m, true⟩)
  {bs : List (List AV)} {ats : List At} (hl : ats.length = bs.length) (hin : ∀ (n : Nat) c a, bs[n]? = some c → ats[n]? = some a → InW c a W)
  {k g : Nat} (hk : key k = some g) (hpure : E0.pure k = true) {ps : List PV} (hfz : fzL (fz [] fzD) ps = some (ps, [])) (hpf : pf E0 k ps = some (.b true))
  {avs : List AV} {vs : Array Value} (hV : VL (hpA bs) (fun _ => False) [] ps avs) (hR : RelL key (locA gs ats) avs vs.toList) :
  Calls P g vs W fun e w' => e = .returned (.bool true) ∧ Below W.heap.size W w' := by
 have hc : pcl E0 k ps [] = some (.b true, roM [] []) := zgu hpure hfz hpf
 obtain ⟨kk, hev⟩ := zd8 hc
 have hw : (hpA bs).wf := (zrG (P := P) (key := key) (F := 0) hgs hl hin).wf
 have I : PInv globG (fun _ => False) [] [] (hpA bs) := PInv.startG hw
 obtain ⟨a, h', r', q1, q2, q3, q4⟩ := zgA KE0 kk _ _ _ _ _ _ _ _ _ hev I (VL.dd hV)
 have ha : a = .b true := by cases q4; rfl
 subst ha
 have S := zrG (P := P) (key := key) (F := h'.next) hgs hl hin
 have TO : TabOk key T (locA gs ats) := by
  refine ⟨fun f k e => ?_, fun g n e => ?_⟩
  ·exact hTf f k e
  ·obtain ⟨h4, m, hm⟩ := hT g n e
   exact ⟨m, by simp only [locA, if_pos h4]; exact hm⟩
 refine (zb4 K kk h'.next k g avs vs _ h' _ _ W q1 hk (Nat.le_refl _) TO hR S).mono ?_
 rintro e w' ⟨l', val, rfl, E, S', rv⟩
 cases rv
 refine ⟨rfl, E.os, E.tape, E.output, E.size, fun b hb => E.frame b hb fun m blk a e1 e2 => ?_⟩
 exfalso
 simp only [hpA] at e1
 split at e1 <;> (simp only [Option.map_eq_some_iff] at e1; obtain ⟨c, c1, rfl⟩ := e1; cases e2)
theorem arg_row {k : IntKind} {W : World} (h0 : 0 < W.heap.size) {a : Option Addr} {len cap : Nat} {zs : List Int} (h : IsRow k W a len cap zs) (n : Nat) : ∃ (c : List AV) (at_ : At) (av : AV), InW c at_ W ∧
  (∀ key (l : Loc), l n = some at_ → Rel key l av (.slice a len cap)) ∧ (∀ (h : Hp) (D : Nat → Prop), h.m n = some ⟨c, false, 0⟩ → ¬ D n → V h D [] (.lst ((zs.take len).map fun z => .i k z)) av) := by
 have nilIn : InW [] ⟨0, 0, 0, false⟩ W := ⟨h0, rfl, Nat.le_refl _, fun i hi => by simp at hi⟩
 rcases h with ⟨rfl, rfl, rfl, rfl⟩ | ⟨x, rfl, hl, hm, hz, hcell, hwz⟩
 ·exact ⟨[], ⟨0, 0, 0, false⟩, .sn, nilIn, fun key l _ => .sn, fun h D _ _ => .lsn⟩
 ·by_cases hlen : len = 0
  ·subst hlen
   exact ⟨[], ⟨0, 0, 0, false⟩, .e0, nilIn, fun key l _ => .e0 _ _, fun h D _ _ => .le0⟩
  ·obtain ⟨b, off, spot⟩ := x
   have hc := hcell 0 (by omega)
   have hspot : spot = none := by simpa [Addr.add] using World.cell?_spot hc
   subst hspot
   have hlt : b < W.heap.size := by
    rcases Nat.lt_or_ge b W.heap.size with q | q
    ·exact q
    ·rw [zb2] at hc
     simp [World.cell?, Array.getElem?_eq_none q] at hc
   have hget : ∀ i (hi : i < ((zs.take len).map fun z => AV.i k z).length), ((zs.take len).map fun z => AV.i k z)[i] = .i k (zs.getD i 0) := fun i hi => by
    have hi' : i < zs.length := by simp at hi; omega
    simp only [List.getElem_map, List.getElem_take, List.getD]
    rw [List.getElem?_eq_getElem hi']; rfl
   refine ⟨(zs.take len).map fun z => .i k z, ⟨b, off, cap, false⟩, .sl n 0 len cap 1, ⟨hlt, rfl, by simp; omega, fun i hi => ?_⟩, fun key l hn => ?_, fun h D hb hD => ?_⟩
   ·rw [hget i hi]
    have hi' : i < zs.length := by simp at hi; omega
    have := hcell i hi'
    rw [zb2] at this
    exact ⟨rfl, _, this, fun key l => .i _ _⟩
   ·have := Rel.sl (key := key) (off := 0) (len := len) (cap := cap) (cap' := cap) (z := 1) hn (Nat.le_refl _) (by show 0 + cap * 1 ≤ cap; omega) hl
    exact this
   ·have hfl : flat ((zs.take len).map fun z => PV.i k z) = (zs.take len).map fun z => PV.i k z := by
     generalize zs.take len = ys
     induction ys with
     | nil => rfl
     | cons y ys ih => rw [List.map_cons]; show [PV.i k y] ++ flat _ = _; rw [ih]; rfl
    have hll : ((zs.take len).map fun z => PV.i k z).length = len := by simp; omega
    have := V.lst (h := h) (D := D) (r := []) (xs := (zs.take len).map fun z => PV.i k z) (m := n) (off := 0) (cap := cap) (z := 1) (fun i => .i k (zs.getD i 0)) hb hD (by rw [hfl, List.all_eq_true]; intro x hx; obtain ⟨y, _, rfl⟩ := List.mem_map.1 hx; rfl) (by decide) (fun x hx => by
     obtain ⟨y, _, rfl⟩ := List.mem_map.1 hx; rfl) (by rw [hll]; exact hl) (fun i hi => by
     rw [hfl] at hi
     have hi2 : i < ((zs.take len).map fun z => AV.i k z).length := by simpa using hi
     rw [Nat.zero_add, List.getElem?_eq_getElem hi2, hget i hi2]) (fun i hi => by
     have hi1 : i < ((zs.take len).map fun z => PV.i k z).length := by rw [hfl] at hi; exact hi
     have e : (flat ((zs.take len).map fun z => PV.i k z))[i] = .i k (zs.getD i 0) := by
      simp only [hfl, List.getElem_map, List.getElem_take, List.getD]
      rw [List.getElem?_eq_getElem (by simp at hi1; omega)]; rfl
     rw [e]
     exact .i _ _)
    rw [hll] at this
    exact this
theorem row_heap {P : Program} {W : World} {G : Nat} (hg : P.globalNamed "internal/strconv.uint64pow10" = some G) (ht : Lib.TabIs P W "internal/strconv.uint64pow10" .u64 Lib.pow10Tab) : 0 < W.heap.size := by
 unfold Lib.TabIs World.var? at ht
 rw [hg] at ht
 simp only [Option.bind_some] at ht
 split at ht
 ·rename_i cs t fz hh
  rcases Nat.eq_zero_or_pos W.heap.size with q | q
  ·rw [Array.getElem?_eq_none (by omega)] at hh; cases hh
  ·exact q
 ·cases ht
theorem ints_row {W : World} {a : Option Addr} {len cap : Nat} {zs : List Int} (h : IsRow .i64 W a len cap zs) : Ints (zs.take len) := by
 rcases h with ⟨rfl, rfl, rfl, rfl⟩ | ⟨x, rfl, hl, hm, hz, hcell, hwz⟩
 ·exact ⟨by simp, fun n hn => by simp at hn⟩
 ·refine ⟨?_, fun n hn => ?_⟩
  ·have : maxLen ≤ 9223372036854775807 := by decide
   simp; omega
  ·have := bounds_i64 (hwz n (List.mem_of_mem_take hn))
   exact this
end Go.Eng
namespace Go.Eng
theorem zip {n K : Nat} (hn : n = 1229) (hK : K = 16384) : 10000 ^ n ≤ 2 ^ K := by
 obtain ⟨m, hm⟩ : ∃ m, m = 83 := ⟨_, rfl⟩
 have e : (10000 : Nat) ^ n = (10 ^ 59) ^ m * 10 ^ 19 := by
  rw [show (10000 : Nat) = 10 ^ 4 from rfl, ← Nat.pow_mul, ← Nat.pow_mul, ← Nat.pow_add]
  congr 1; omega
 have h1 : (10 : Nat) ^ 59 ≤ 2 ^ 196 := by decide
 have h2 : (10 : Nat) ^ 19 ≤ 2 ^ 64 := by decide
 have h3 : ((10 : Nat) ^ 59) ^ m ≤ (2 ^ 196) ^ m := Nat.pow_le_pow_left h1 m
 have h4 : (2 ^ 196) ^ m * 2 ^ 64 = 2 ^ (196 * m + 64) := by rw [← Nat.pow_mul, ← Nat.pow_add]
 rw [e]
 refine Nat.le_trans (Nat.mul_le_mul h3 h2) ?_
 rw [h4]
 exact Nat.pow_le_pow_right (by decide) (by omega)
def inR (v : Nat) : Prop := v < 2 ^ 16384
theorem zi8 (v : Nat) : (tlen v < 1230 ∨ v < 2 ^ 16384) ↔ inR v := by
 obtain ⟨n, hn⟩ : ∃ n, n = 1229 := ⟨_, rfl⟩
 have hb := zip (K := 16384) hn rfl
 unfold inR
 generalize (2 : Nat) ^ 16384 = q at *
 constructor
 ·rintro (h | h)
  ·have h2 : v < 10000 ^ n := za9.1 (by omega)
   exact Nat.lt_of_lt_of_le h2 hb
  ·exact h
 ·exact .inr
theorem zbU (v : Nat) : wlen v ≤ 512 ↔ inR v := by
 obtain ⟨n, hn⟩ : ∃ n, n = 512 := ⟨_, rfl⟩
 rw [← hn, zaV]
 unfold inR
 have : (4294967296 : Nat) ^ n = 2 ^ 16384 := by
  rw [show (4294967296 : Nat) = 2 ^ 32 from rfl, ← Nat.pow_mul]
  congr 1; omega
 rw [this]
end Go.Eng
namespace Go.Eng
end Go.Eng
namespace Go.Eng
noncomputable instance inRdec (v : Nat) : Decidable (inR v) := Classical.propDecidable _
end Go.Eng
namespace Go.Eng
end Go.Eng
namespace Go.Eng
theorem ziK {n K : Nat} (hn : n = 177) (hK : K = 16384) : 2 ^ K ≤ 10 ^ (28 * n) := by
 have e1 : (2 : Nat) ^ K ≤ (2 ^ 93) ^ n := by
  rw [← Nat.pow_mul 2]
  exact Nat.pow_le_pow_right (by decide) (by omega)
 have e2 : ((2 : Nat) ^ 93) ^ n ≤ (10 ^ 28) ^ n := Nat.pow_le_pow_left (by decide) n
 rw [← Nat.pow_mul 10] at e2
 exact Nat.le_trans e1 e2
theorem zjb {v : Nat} (h : inR v) : dlen v ≤ 4956 := by
 obtain ⟨n, hn⟩ : ∃ n, n = 177 := ⟨_, rfl⟩
 have e := ziK (K := 16384) hn rfl
 have h : v < 2 ^ 16384 := h
 have := za0.2 (Nat.lt_of_lt_of_le h e)
 omega
theorem zm1 (x : WI) : pf E0 33 [wiP x] = some (.s (decI x.v)) := by
 refine zlx ?_ rfl
 have hw : ∀ (l : List Nat), Ok32 l → wordsP (l.map fun n => (PV.i .u32 ((n : Nat) : Int))) = some l := fun l => by
  induction l with
  | nil => intro _; rfl
  | cons n l ih =>
   intro h
   have h1 := h n (List.mem_cons_self ..)
   rw [List.map_cons]
   unfold wordsP
   rw [if_pos ⟨by omega, by omega⟩, ih fun x hx => h x (List.mem_cons_of_mem _ hx)]
   simp
 have hD : D x.v.natAbs = .lst ((dig x.v.natAbs).map fun n => (PV.i .u32 ((n : Nat) : Int))) := (zqz _ _).symm
 have hg : (dig x.v.natAbs).getLast? ≠ some 0 := fun q => by
  by_cases h : x.v.natAbs = 0
  ·rw [h] at q; cases q
  ·have h1 := za2 h
   have h2 : (dig x.v.natAbs).getLast? = some (dgt x.v.natAbs (wlen x.v.natAbs - 1)) := by
    rw [List.getLast?_eq_getElem?]
    unfold dig dw
    rw [za4, zaY (by omega)]
   rw [h2] at q
   have h3 := Option.some.inj q
   rw [zal] at h3
   have h4 := zeM h
   have h5 : x.v.natAbs / 4294967296 ^ (wlen x.v.natAbs - 1) < 4294967296 := by
    have := zak x.v.natAbs
    rw [show wlen x.v.natAbs = wlen x.v.natAbs - 1 + 1 by omega, Nat.pow_succ] at this
    exact Nat.div_lt_of_lt_mul this
   have h6 := Nat.div_pos h4 (zbA _)
   rw [Nat.mod_eq_of_lt h5] at h3
   omega
 have hx := x.lim
 rw [zdK, hD]
 simp only [orcP, txtP, if_true, hw _ (zmF _), Option.bind_some]
 unfold wtx
 have hnz : decide (x.v < 0) = true → dig x.v.natAbs ≠ [] := fun h => by
  have h1 : x.v < 0 := by simpa using h
  intro q
  have h2 := zdV x.v.natAbs
  rw [q] at h2
  have := za2 (v := x.v.natAbs) (by omega)
  simp at h2; omega
 rw [if_pos ⟨by rw [zdV]; exact hx, hg, hnz⟩, zlS]
 ·have e : (if decide (x.v < 0) = true then -((x.v.natAbs : Nat) : Int) else ((x.v.natAbs : Nat) : Int)) = x.v := by
   by_cases h : x.v < 0
   ·rw [if_pos (by simpa using h)]; omega
   ·rw [if_neg (by simpa using h)]; omega
  rw [e]; rfl
end Go.Eng
namespace Go.Eng
theorem ziY {v n : Nat} (h1 : 10 ^ n ≤ v) (h2 : v < 10 ^ (n + 1)) : dec v = dtx (n + 1) v := by
 have h0 : v ≠ 0 := by have := Nat.pow_pos (n := n) (by decide : 0 < 10); omega
 have : dlen v = n + 1 := by
  have a := za0.2 h2
  have b : ¬ dlen v ≤ n := fun q => by have := za0.1 q; omega
  omega
 rw [zeh h0, this]
theorem zhy {n : Int} (h : Fits64 n) : ∃ x : WI, x.v = n ∧ pf E0 34 [.i .i64 n] = some (wiP x) := ⟨wiOf n h, rfl, zd4 h⟩
end Go.Eng
namespace Go.Eng
def isPP : PV → Bool
 | .p _ _ => true
 | _ => false
@[go_sem] theorem zqQ (n o : Nat) : isPP (.p n o) = true := _root_.id rfl
def slotIn (E : PEnv) (ops : List XOper) (L : List Nat) (c : Nat × Nat) : Bool :=
 match ops[c.1]?, ops[c.2]? with
 | some a, some b =>
  match a.op with
  | .load _ _ (.t s) => L.contains s && calmOp E b.op && (ops.all fun o => o.dst != some s)
  | _ => false
 | _, _ => false
theorem zai {E : PEnv} {F : PFin} {ops : List XOper} {chk : List (Nat × Nat)} {ks : List KI} {fr : PFr} {M : PM} (L : List Nat) (hL : chk.all (fun c => calmC E ops c || slotIn E ops L c) = true) (hp : L.all (fun s => isPP (fr s)) = true) (w : WL E F ops ks fr M) :
  WK E F (.drw ops chk) ks fr M := by
 refine zbW (fun fr2 Ms hT => ?_) w
 rw [List.all_eq_true] at hL hp ⊢
 rintro ⟨i, j⟩ hc
 have h1 := hL _ hc
 simp only [Bool.or_eq_true] at h1
 rcases h1 with h1 | h1
 ·exact zbv hT h1
 ·unfold slotIn at h1
  split at h1
  ·rename_i a b ha hb
   split at h1
   ·rename_i z k s hop
    simp only [Bool.and_eq_true] at h1
    obtain ⟨⟨c1, c2⟩, c3⟩ := h1
    have hs := hp s (List.contains_iff_mem.1 c1)
    cases hf : fr s with
    | p n o => exact zcC hT ha hb hop c2 c3 hf
    | _ => rw [hf] at hs; simp [isPP] at hs
   ·cases h1
  ·cases h1
attribute [go_sem] List.all_cons List.all_nil
def slotIn2 (E : PEnv) (ops : List XOper) (L : List Nat) (c : Nat × Nat) : Bool :=
 match ops[c.1]?, ops[c.2]? with
 | some a, some b =>
  match a.op with
  | .load _ _ (.t s) => L.contains s && calmOp E b.op
  | _ => false
 | _, _ => false
theorem zah {E : PEnv} {F : PFin} {ops : List XOper} {chk : List (Nat × Nat)} {ks : List KI} {fr : PFr} {M : PM} (L : List Nat) (hL : chk.all (fun c => calmC E ops c || slotIn2 E ops L c) = true)
  (hr : WL E ⟨(0 :: 0 :: L).map XR.tmp, fun w _ => ∃ l, w = .tu l ∧ (l.drop 2).all isPP = true⟩ ops [] fr M) (w : WL E F ops ks fr M) : WK E F (.drw ops chk) ks fr M := by
 refine zbW (fun fr2 Ms hT => ?_) w
 have hp : L.all (fun s => isPP (fr2 s)) = true := by
  obtain ⟨lf, q, fr3, M3, vs, e, h1, h2, l, h3, h4⟩ := hr
  simp only [Option.bind_eq_some_iff, unw] at e
  obtain ⟨⟨fr4, M4⟩, e1, e2⟩ := e
  simp only [Option.some.injEq, Prod.mk.injEq] at e2
  obtain ⟨_, e3, e4⟩ := e2
  rw [← e3, ← e4] at h2
  obtain ⟨Ms', g1, g2⟩ := zbS e1
  rw [g1] at hT
  cases hT
  have hres : ∀ (f : PFr) (N : PM) (l : List Nat), pRes f N (l.map XR.tmp) = some (l.map f) := fun f N l => by
   induction l with
   | nil => rfl
   | cons a l ih => simp only [List.map_cons, pRes, pResOne, ih]
  rw [hres] at h2
  cases h2
  simp only [List.map_cons, packP] at h3
  cases h3
  simpa [List.all_map] using h4
 rw [List.all_eq_true] at hL hp ⊢
 rintro ⟨i, j⟩ hc
 have h1 := hL _ hc
 simp only [Bool.or_eq_true] at h1
 rcases h1 with h1 | h1
 ·exact zbv hT h1
 ·unfold slotIn2 at h1
  split at h1
  ·rename_i a b ha hb
   split at h1
   ·rename_i z k s hop
    simp only [Bool.and_eq_true] at h1
    obtain ⟨c1, c2⟩ := h1
    have hs := hp s (List.contains_iff_mem.1 c1)
    cases hf : fr2 s with
    | p n o =>
     obtain ⟨fri, A, B, q1, q2, q3, q4⟩ := zaL hT ha
     obtain ⟨frj, C, D, p1, p2, p3, p4⟩ := zaL hT hb
     have p2' : Ms[(i, j).2 + 1]? = some D := p2
     have q2' : Ms[(i, j).1 + 1]? = some B := q2
     simp only [chkP, ha, q1, q2, p1, p2]
     rw [if_neg (by rw [hop]; simp [XO.cls])]
     rw [hop]
     show chkV ops j (.t s) C D (fr2 s) = true
     rw [hf]
     show verP (some n) C D = true
     rcases p3 with ⟨_, v, p3⟩ | ⟨_, p3⟩
     ·cases hopb : b.op with
      | call f l =>
       rw [hopb] at p3 c2
       obtain ⟨ns, rfl⟩ := zc3 c2 p3
       exact zcj ns C _
      | _ => rw [hopb] at c2; simp [calmOp] at c2
     ·rw [p3]; simp [verP]
    | _ => rw [hf] at hs; simp [isPP] at hs
   ·cases h1
  ·cases h1
theorem zaa {E : PEnv} {F : PFin} {a b : XC} (hab : a = b) {ks : List KI} {fr : PFr} {M : PM} (w : WK E F b (.loop a :: ks) fr M) : WK E F (.loop a) ks fr M := by
 rw [← hab] at w; exact zcw w
def fillC (z : List PV) (off n : Nat) (cs : List PV) : Option (List PV) := if cs.length = n ∧ off + n ≤ z.length ∧ cs.all PV.scal = true then some (psplice z off cs) else none
theorem zaK {fr : PFr} (G : Nat → Option (List AV)) (z : List PV) (off n : Nat) (x : X) (ps : List (Nat × Nat × X)) : fillP G fr z ((off, (n, x)) :: ps) = fillB fr G ps (fillC z off n (x.pv G fr).cells) := by
 simp only [fillP]
 unfold fillC
 split <;> rfl
theorem zan (z : List PV) (off n : Nat) (cs : List PV) : fillC z off n cs = if cs.length = n ∧ off + n ≤ z.length ∧ cs.all PV.scal = true then some (psplice z off cs) else none := rfl
end Go.Eng
namespace Go.Eng
theorem zdd {z : Int} (h : tlen z.natAbs < 1230) : inR z.natAbs := (zi8 _).1 (.inl h)
theorem zfd (a b : Int) : tlen (a - b).natAbs ≤ max (tlen a.natAbs) (tlen b.natAbs) + 1 := by
 have := zaR a (-b)
 rwa [Int.natAbs_neg] at this
end Go.Eng
namespace Go.Eng
noncomputable def cW (w : Nat → WI) : List PV := [.b (decide ((w 0).v < 0)), D (w 0).v.natAbs, .b (decide ((w 1).v < 0)), D (w 1).v.natAbs, .b (decide ((w 2).v < 0)), D (w 2).v.natAbs, .b (decide ((w 3).v < 0)), D (w 3).v.natAbs, .b (decide ((w 4).v < 0)), D (w 4).v.natAbs, .b (decide ((w 5).v < 0)), D (w 5).v.natAbs, .b (decide ((w 6).v < 0)), D (w 6).v.natAbs, .b (decide ((w 7).v < 0)), D (w 7).v.natAbs, .b (decide ((w 8).v < 0)), D (w 8).v.natAbs]
noncomputable def mW (w : Nat → WI) : PV := .ag (cW w)
def cI (p : Nat → Int) : List PV := [.i .i64 (p 0), .i .i64 (p 1), .i .i64 (p 2), .i .i64 (p 3), .i .i64 (p 4), .i .i64 (p 5), .i .i64 (p 6), .i .i64 (p 7), .i .i64 (p 8)]
def pI (p : Nat → Int) : PV := .ag (cI p)
theorem zae (w : Nat → WI) : cW w = [.b (decide ((w 0).v < 0)), D (w 0).v.natAbs, .b (decide ((w 1).v < 0)), D (w 1).v.natAbs, .b (decide ((w 2).v < 0)), D (w 2).v.natAbs, .b (decide ((w 3).v < 0)), D (w 3).v.natAbs, .b (decide ((w 4).v < 0)), D (w 4).v.natAbs, .b (decide ((w 5).v < 0)), D (w 5).v.natAbs, .b (decide ((w 6).v < 0)), D (w 6).v.natAbs, .b (decide ((w 7).v < 0)), D (w 7).v.natAbs, .b (decide ((w 8).v < 0)), D (w 8).v.natAbs] := _root_.id rfl
theorem zag (p : Nat → Int) : cI p = [.i .i64 (p 0), .i .i64 (p 1), .i .i64 (p 2), .i .i64 (p 3), .i .i64 (p 4), .i .i64 (p 5), .i .i64 (p 6), .i .i64 (p 7), .i .i64 (p 8)] := _root_.id rfl
@[go_sem] theorem zsj (M : PM) (d : Nat) (w : Nat → WI) : fz M (d + 1 + 1) (mW w) = some (mW w, []) := _root_.id rfl
@[go_sem] theorem znK (w : Nat → WI) : (mW w).cells = cW w := _root_.id rfl
@[go_sem] theorem zsn (M : PM) (d : Nat) (p : Nat → Int) : fz M (d + 1 + 1) (pI p) = some (pI p, []) := _root_.id rfl
@[go_sem] theorem znN (p : Nat → Int) : (pI p).cells = cI p := _root_.id rfl
@[go_sem] theorem zoP (w : Nat → WI) : PV.ag (cW w) = mW w := _root_.id rfl
@[go_sem] theorem zoS (p : Nat → Int) : PV.ag (cI p) = pI p := _root_.id rfl
noncomputable def zW : Nat → WI := fun _ => wi0
def zI : Nat → Int := fun _ => 0
noncomputable def cP (n : Nat) (w : Nat → WI) : List PV := [if 0 < n then .b (decide ((w 0).v < 0)) else .b false, if 0 < n then D (w 0).v.natAbs else .nl, if 1 < n then .b (decide ((w 1).v < 0)) else .b false, if 1 < n then D (w 1).v.natAbs else .nl, if 2 < n then .b (decide ((w 2).v < 0)) else .b false, if 2 < n then D (w 2).v.natAbs else .nl, if 3 < n then .b (decide ((w 3).v < 0)) else .b false, if 3 < n then D (w 3).v.natAbs else .nl, if 4 < n then .b (decide ((w 4).v < 0)) else .b false, if 4 < n then D (w 4).v.natAbs else .nl, if 5 < n then .b (decide ((w 5).v < 0)) else .b false, if 5 < n then D (w 5).v.natAbs else .nl, if 6 < n then .b (decide ((w 6).v < 0)) else .b false, if 6 < n then D (w 6).v.natAbs else .nl, if 7 < n then .b (decide ((w 7).v < 0)) else .b false, if 7 < n then D (w 7).v.natAbs else .nl, if 8 < n then .b (decide ((w 8).v < 0)) else .b false, if 8 < n then D (w 8).v.natAbs else .nl]
theorem zcB (n : Nat) (w : Nat → WI) : cP n w = [if 0 < n then .b (decide ((w 0).v < 0)) else .b false, if 0 < n then D (w 0).v.natAbs else .nl, if 1 < n then .b (decide ((w 1).v < 0)) else .b false, if 1 < n then D (w 1).v.natAbs else .nl, if 2 < n then .b (decide ((w 2).v < 0)) else .b false, if 2 < n then D (w 2).v.natAbs else .nl, if 3 < n then .b (decide ((w 3).v < 0)) else .b false, if 3 < n then D (w 3).v.natAbs else .nl, if 4 < n then .b (decide ((w 4).v < 0)) else .b false, if 4 < n then D (w 4).v.natAbs else .nl, if 5 < n then .b (decide ((w 5).v < 0)) else .b false, if 5 < n then D (w 5).v.natAbs else .nl, if 6 < n then .b (decide ((w 6).v < 0)) else .b false, if 6 < n then D (w 6).v.natAbs else .nl, if 7 < n then .b (decide ((w 7).v < 0)) else .b false, if 7 < n then D (w 7).v.natAbs else .nl, if 8 < n then .b (decide ((w 8).v < 0)) else .b false, if 8 < n then D (w 8).v.natAbs else .nl] := _root_.id rfl
theorem cP9 (w : Nat → WI) : cP 9 w = cW w := rfl
def cQ (n : Nat) (p : Nat → Int) : List PV := [.i .i64 (if 0 < n then p 0 else 0), .i .i64 (if 1 < n then p 1 else 0), .i .i64 (if 2 < n then p 2 else 0), .i .i64 (if 3 < n then p 3 else 0), .i .i64 (if 4 < n then p 4 else 0), .i .i64 (if 5 < n then p 5 else 0), .i .i64 (if 6 < n then p 6 else 0), .i .i64 (if 7 < n then p 7 else 0), .i .i64 (if 8 < n then p 8 else 0)]
theorem cQ9 (p : Nat → Int) : cQ 9 p = cI p := rfl
theorem zch {i : Nat} (h : i < 9) : i = 0 ∨ i = 1 ∨ i = 2 ∨ i = 3 ∨ i = 4 ∨ i = 5 ∨ i = 6 ∨ i = 7 ∨ i = 8 := by omega
theorem zc6 {i : Nat} (h : i < 3) : i = 0 ∨ i = 1 ∨ i = 2 := by omega
@[go_sem] theorem zsD (p : Nat → Int) : (cI p).all PV.scal = true := _root_.id rfl
@[go_sem] theorem zsF (w : Nat → WI) : (cW w).all PV.scal = true := _root_.id rfl
@[go_sem] theorem zss (p : Nat → Int) : (cI p).length = 9 := _root_.id rfl
@[go_sem] theorem zsy (w : Nat → WI) : (cW w).length = 18 := _root_.id rfl
@[go_sem] theorem zsN (p : Nat → Int) : (cI p).take 9 = cI p := _root_.id rfl
@[go_sem] theorem zsP (w : Nat → WI) : (cW w).take 18 = cW w := _root_.id rfl
@[go_sem] theorem zsu (n : Nat) (w : Nat → WI) : (cP n w).length = 18 := _root_.id rfl
@[go_sem] theorem zsv (n : Nat) (p : Nat → Int) : (cQ n p).length = 9 := _root_.id rfl
@[go_sem] theorem zsI (n : Nat) (w u : Nat → WI) : psplice (cP n w) 0 (cW u) = cW u := _root_.id rfl
@[go_sem] theorem zsJ (n : Nat) (w u : Nat → Int) : psplice (cQ n w) 0 (cI u) = cI u := _root_.id rfl
noncomputable def ofW (p : Nat → Int) : Nat → WI := fun e => clip (p e)
theorem zkX {p : Nat → Int} {e : Nat} (h : Fits64 (p e)) : (ofW p e).v = p e := zdq (zfP h)
theorem zbT {n : Int} (h : Fits64 n) : pf E0 34 [.i .i64 n] = some (wiP (clip n)) := by
 rw [zd4 h]
 congr 2
 exact WI.ext' (by rw [zdq (zfP h)]; rfl)
set_option maxHeartbeats 2000000 in
theorem zgZ {p : Nat → Int} (hp : ∀ e, Fits64 (p e)) : pf E0 307 [pI p] = some (mW (ofW p)) := by
 refine zac (xf := x_proj_of) rfl (by simp [x_proj_of]) ?_
 simp only [x_proj_of]
 simp (disch := omega) only [go_sem, seval, wqq]
 refine zar x_proj_of_l1.eq_1 (fun (i : Nat) fr M => i ≤ 9 ∧ fr 2 = .p 1 0 ∧ fr 3 = .p 2 0 ∧ fr 7 = pI p ∧ fr 8 = (PV.i .i64 ((i : Nat) : Int)) ∧ ∃ b0 b1 v, M = [b0, some ⟨cP 0 zW, true, b1⟩, some ⟨cP i (ofW p), true, v⟩]) (fun i => 9 - i) ?_ 0 ⟨by omega, by simp only [go_sem, seval], by simp only [go_sem, seval], by simp only [go_sem, seval], by simp only [go_sem, seval], _, _, _, rfl⟩
 rintro i fr M ⟨hi, f2, f3, f7, f8, b0, b1, v, rfl⟩ ih
 rcases Nat.lt_or_ge i 9 with h9 | h9
 ·have q1 : ((i : Int) < 9) = True := eq_true (by omega)
  obtain rfl | rfl | rfl | rfl | rfl | rfl | rfl | rfl | rfl := zch h9
  ·have fr0 := zbT (hp 0)
   simp (disch := omega) only [go_sem, seval, wqq, f2, f3, f7, f8, pI, zag, zcB, fr0]
   exact ih 1 _ _ (by omega) ⟨by omega, by simp only [go_sem, seval, f2], by simp only [go_sem, seval, f3], by simp only [go_sem, seval, f7], by simp only [go_sem, seval], _, _, _, rfl⟩
  ·have fr0 := zbT (hp 1)
   simp (disch := omega) only [go_sem, seval, wqq, f2, f3, f7, f8, pI, zag, zcB, fr0]
   exact ih 2 _ _ (by omega) ⟨by omega, by simp only [go_sem, seval, f2], by simp only [go_sem, seval, f3], by simp only [go_sem, seval, f7], by simp only [go_sem, seval], _, _, _, rfl⟩
  ·have fr0 := zbT (hp 2)
   simp (disch := omega) only [go_sem, seval, wqq, f2, f3, f7, f8, pI, zag, zcB, fr0]
   exact ih 3 _ _ (by omega) ⟨by omega, by simp only [go_sem, seval, f2], by simp only [go_sem, seval, f3], by simp only [go_sem, seval, f7], by simp only [go_sem, seval], _, _, _, rfl⟩
  ·have fr0 := zbT (hp 3)
   simp (disch := omega) only [go_sem, seval, wqq, f2, f3, f7, f8, pI, zag, zcB, fr0]
   exact ih 4 _ _ (by omega) ⟨by omega, by simp only [go_sem, seval, f2], by simp only [go_sem, seval, f3], by simp only [go_sem, seval, f7], by simp only [go_sem, seval], _, _, _, rfl⟩
  ·have fr0 := zbT (hp 4)
   simp (disch := omega) only [go_sem, seval, wqq, f2, f3, f7, f8, pI, zag, zcB, fr0]
   exact ih 5 _ _ (by omega) ⟨by omega, by simp only [go_sem, seval, f2], by simp only [go_sem, seval, f3], by simp only [go_sem, seval, f7], by simp only [go_sem, seval], _, _, _, rfl⟩
  ·have fr0 := zbT (hp 5)
   simp (disch := omega) only [go_sem, seval, wqq, f2, f3, f7, f8, pI, zag, zcB, fr0]
   exact ih 6 _ _ (by omega) ⟨by omega, by simp only [go_sem, seval, f2], by simp only [go_sem, seval, f3], by simp only [go_sem, seval, f7], by simp only [go_sem, seval], _, _, _, rfl⟩
  ·have fr0 := zbT (hp 6)
   simp (disch := omega) only [go_sem, seval, wqq, f2, f3, f7, f8, pI, zag, zcB, fr0]
   exact ih 7 _ _ (by omega) ⟨by omega, by simp only [go_sem, seval, f2], by simp only [go_sem, seval, f3], by simp only [go_sem, seval, f7], by simp only [go_sem, seval], _, _, _, rfl⟩
  ·have fr0 := zbT (hp 7)
   simp (disch := omega) only [go_sem, seval, wqq, f2, f3, f7, f8, pI, zag, zcB, fr0]
   exact ih 8 _ _ (by omega) ⟨by omega, by simp only [go_sem, seval, f2], by simp only [go_sem, seval, f3], by simp only [go_sem, seval, f7], by simp only [go_sem, seval], _, _, _, rfl⟩
  ·have fr0 := zbT (hp 8)
   simp (disch := omega) only [go_sem, seval, wqq, f2, f3, f7, f8, pI, zag, zcB, fr0]
   exact ih 9 _ _ (by omega) ⟨by omega, by simp only [go_sem, seval, f2], by simp only [go_sem, seval, f3], by simp only [go_sem, seval, f7], by simp only [go_sem, seval], _, _, _, rfl⟩
 ·obtain rfl : i = 9 := by omega
  simp (disch := omega) only [go_sem, seval, wqq, f2, f3, f7, f8, cP9]
end Go.Eng
namespace Go.Eng
def gI (p q : Int) : Int := ((Nat.gcd p.natAbs q.natAbs : Nat) : Int)
def lowP (p q : Int) : Int := (if q < 0 then -p else p) / gI p q
def lowQ (p q : Int) : Int := (if q < 0 then -q else q) / gI p q
theorem zgQ {p q : Int} (h : q ≠ 0) : gI p q ≠ 0 := by
 unfold gI
 intro e
 have : Nat.gcd p.natAbs q.natAbs = 0 := by omega
 have := Nat.eq_zero_of_gcd_eq_zero_right this
 omega
theorem zdv {p q : Int} (h : q ≠ 0) : 0 < gI p q := by
 have := zgQ (p := p) h
 unfold gI at *
 omega
theorem zb5 (p q : Int) : gI p q ∣ p := Int.ofNat_dvd_left.2 (Nat.gcd_dvd_left _ _)
theorem zcr (p q : Int) : gI p q ∣ q := Int.ofNat_dvd_left.2 (Nat.gcd_dvd_right _ _)
theorem zmu (p q : Int) : gI (-p) (-q) = gI p q := by unfold gI; rw [Int.natAbs_neg, Int.natAbs_neg]
theorem zdy {p q : Int} (h : q ≠ 0) : lowP p q * gI p q = (if q < 0 then -p else p) ∧ lowQ p q * gI p q = (if q < 0 then -q else q) := by
 unfold lowP lowQ
 refine ⟨Int.ediv_mul_cancel ?_, Int.ediv_mul_cancel ?_⟩
 ·split
  ·exact Int.dvd_neg.2 (zb5 p q)
  ·exact zb5 p q
 ·split
  ·exact Int.dvd_neg.2 (zcr p q)
  ·exact zcr p q
theorem zdz {p q : Int} (h : q ≠ 0) : 0 < lowQ p q := by
 have h1 := (zdy (p := p) h).2
 have h2 := zdv (p := p) h
 have h3 : 0 < lowQ p q * gI p q := by rw [h1]; split <;> omega
 exact Int.pos_of_mul_pos_left h3 h2
theorem zb6 {p q : Int} (h : q ≠ 0) : lowP p q * q = p * lowQ p q := by
 obtain ⟨h1, h2⟩ := zdy (p := p) h
 have h3 := zgQ (p := p) h
 apply Int.eq_of_mul_eq_mul_right h3
 rw [Int.mul_right_comm, h1, Int.mul_assoc, h2]
 split <;> grind
theorem zeq {p q : Int} (h : q ≠ 0) : Nat.gcd (lowP p q).natAbs (lowQ p q).natAbs = 1 := by
 obtain ⟨h1, h2⟩ := zdy (p := p) h
 have h3 := zdv (p := p) h
 have e1 : (lowP p q).natAbs * (gI p q).natAbs = p.natAbs := by rw [← Int.natAbs_mul, h1]; split <;> omega
 have e2 : (lowQ p q).natAbs * (gI p q).natAbs = q.natAbs := by rw [← Int.natAbs_mul, h2]; split <;> omega
 have e3 : (gI p q).natAbs = Nat.gcd p.natAbs q.natAbs := Int.natAbs_natCast _
 have e4 := Nat.gcd_mul_right (lowP p q).natAbs (gI p q).natAbs (lowQ p q).natAbs
 rw [e1, e2, ← e3] at e4
 have : 0 < (gI p q).natAbs := by omega
 exact Nat.eq_of_mul_eq_mul_right this (by rw [Nat.one_mul]; exact e4.symm)
theorem zes {p q r s : Int} (hq : 0 < q) (hs : 0 < s) (c1 : Nat.gcd p.natAbs q.natAbs = 1) (c2 : Nat.gcd r.natAbs s.natAbs = 1) (h : p * s = r * q) : p = r ∧ q = s := by
 have n1 : p.natAbs * s.natAbs = r.natAbs * q.natAbs := by rw [← Int.natAbs_mul, ← Int.natAbs_mul, h]
 have d1 : q.natAbs ∣ s.natAbs := by
  have : q.natAbs ∣ p.natAbs * s.natAbs := ⟨r.natAbs, by rw [n1, Nat.mul_comm]⟩
  exact (Nat.Coprime.dvd_of_dvd_mul_left (by rw [Nat.coprime_comm]; exact c1) this)
 have d2 : s.natAbs ∣ q.natAbs := by
  have : s.natAbs ∣ r.natAbs * q.natAbs := ⟨p.natAbs, by rw [← n1, Nat.mul_comm]⟩
  exact (Nat.Coprime.dvd_of_dvd_mul_left (by rw [Nat.coprime_comm]; exact c2) this)
 have e : q.natAbs = s.natAbs := Nat.dvd_antisymm d1 d2
 have e2 : q = s := by omega
 subst e2
 exact ⟨Int.eq_of_mul_eq_mul_right (by omega) h, rfl⟩
theorem zkU {p q r s : Int} (hq : q ≠ 0) (hs : s ≠ 0) (h : p * s = r * q) : lowP p q = lowP r s ∧ lowQ p q = lowQ r s := by
 refine zes (zdz hq) (zdz hs) (zeq hq) (zeq hs) ?_
 have a := zb6 (p := p) hq
 have b := zb6 (p := r) hs
 apply Int.eq_of_mul_eq_mul_right (a := q * s) (Int.mul_ne_zero hq hs)
 calc lowP p q * lowQ r s * (q * s) = (lowP p q * q) * (lowQ r s * s) := by grind
  _ = p * lowQ p q * (lowQ r s * s) := by rw [a]
  _ = p * s * (lowQ p q * lowQ r s) := by grind
  _ = r * q * (lowQ p q * lowQ r s) := by rw [h]
  _ = r * lowQ r s * (lowQ p q * q) := by grind
  _ = lowP r s * s * (lowQ p q * q) := by rw [b]
  _ = lowP r s * lowQ p q * (q * s) := by grind
theorem zer {p q : Int} (hq : 0 < q) (c : Nat.gcd p.natAbs q.natAbs = 1) : lowP p q = p ∧ lowQ p q = q := by
 unfold lowP lowQ gI
 rw [c, if_neg (by omega), if_neg (by omega)]
 exact ⟨Int.ediv_one _, Int.ediv_one _⟩
theorem zfD {p q : Int} (h : q ≠ 0) : (lowP p q).natAbs ≤ p.natAbs := by
 have h1 := (zdy (p := p) h).1
 have h3 := zdv (p := p) h
 have e1 : (lowP p q).natAbs * (gI p q).natAbs = p.natAbs := by rw [← Int.natAbs_mul, h1]; split <;> omega
 rw [← e1]
 exact Nat.le_mul_of_pos_right _ (by omega)
theorem zfE {p q : Int} (h : q ≠ 0) : (lowQ p q).natAbs ≤ q.natAbs := by
 have h1 := (zdy (p := p) h).2
 have h3 := zdv (p := p) h
 have e1 : (lowQ p q).natAbs * (gI p q).natAbs = q.natAbs := by rw [← Int.natAbs_mul, h1]; split <;> omega
 rw [← e1]
 exact Nat.le_mul_of_pos_right _ (by omega)
end Go.Eng
namespace Go.Eng
structure FQ where
 p : WI
 q : WI
 q1 : 1 ≤ q.v
 cop : Nat.gcd p.v.natAbs q.v.natAbs = 1
theorem ziO {y : WI} (hy : 1 ≤ y.v) : wlen (y.v - 1).natAbs ≤ 512 := by
 have h := (zbU _).1 y.lim
 refine (zbU _).2 ?_
 unfold inR at *
 exact Nat.lt_of_le_of_lt (by omega) h
def FQ.l (f : FQ) : WI := ⟨f.q.v - 1, ziO f.q1⟩
noncomputable def fqP (f : FQ) : PV := .ag [.b (decide (f.p.v < 0)), D f.p.v.natAbs, .b (decide (f.l.v < 0)), D f.l.v.natAbs]
@[go_sem] theorem zqL (M : PM) (d : Nat) (f : FQ) : fz M (d + 1 + 1) (fqP f) = some (fqP f, []) := _root_.id rfl
@[go_sem] theorem zmb (f : FQ) : (fqP f).cells = [.b (decide (f.p.v < 0)), D f.p.v.natAbs, .b (decide (f.l.v < 0)), D f.l.v.natAbs] := _root_.id rfl
@[go_sem] theorem zoO (f : FQ) : PV.ag [.b (decide (f.p.v < 0)), D f.p.v.natAbs, .b (decide (f.l.v < 0)), D f.l.v.natAbs] = fqP f := _root_.id rfl
theorem zka (x : WI) (e : Int) : pf E0 37 [wiP x, .i .i64 e] = some (wiP x) := by
 refine zac (xf := x_frac_must) rfl (by simp [x_frac_must]) ?_
 simp only [x_frac_must]
 simp (disch := omega) only [go_sem, seval, wqq]
theorem zde (x g : WI) (h : g.v ≠ 0) : ∃ q : WI, q.v = x.v / g.v ∧ pf E0 21 [wiP x, wiP g] = some (wiP q) := by
 have fd := zlc x g h
 refine ⟨x.div g h, rfl, ?_⟩
 refine zac (xf := x_frac_over) rfl (by simp [x_frac_over]) ?_
 simp only [x_frac_over]
 simp (disch := omega) only [go_sem, seval, wqq, fd]
noncomputable def wi1 : WI := wiOf 1 (by decide)
theorem znB : wi1.v = 1 := rfl
theorem zcO (x y : WI) : pf E0 20 [.lst [wiP x, wiP y]] = some (.tu [wiP (clip (x.v * y.v)), .i .i64 (lerr (x.v * y.v))]) := by
 refine zac (xf := x_frac_times) rfl (by simp [x_frac_times]) ?_
 simp only [x_frac_times]
 have f1 : pf E0 34 [.i .i64 1] = some (wiP wi1) := zd4 (n := 1) (by decide)
 have m1 : pf E0 38 [wiP wi1, wiP x] = some (.tu [wiP x, .i .i64 0]) := by
  have h := zh8 wi1 x
  rw [znB, Int.one_mul, zdx x.lim, zbK x.lim] at h
  exact h
 have m2 := zh8 x y
 generalize wi1 = w1 at *
 simp (disch := omega) only [go_sem, seval, wqq, f1]
 refine zaa x_frac_times_l1.eq_1 ?_
 simp (disch := omega) only [go_sem, seval, wqq, m1]
 refine zaa x_frac_times_l1.eq_1 ?_
 by_cases h : wlen (x.v * y.v).natAbs ≤ 512
 ·have e := zdx h
  rw [e] at m2 ⊢
  simp (disch := omega) only [go_sem, seval, wqq, m2]
  refine zaa x_frac_times_l1.eq_1 ?_
  simp (disch := omega) only [go_sem, seval, wqq, m2]
 ·have e := zfC h
  have e2 := zfr h
  rw [e, e2] at m2 ⊢
  simp (disch := omega) only [go_sem, seval, wqq, m2]
theorem zkK : Nat.gcd wi0.v.natAbs wi1.v.natAbs = 1 := by decide
noncomputable def fq0 : FQ := ⟨wi0, wi1, by decide, zkK⟩
theorem zqK : fqP fq0 = .ag [.b false, .lst [], .b false, .lst []] := by
 have h1 : D (0 : Int).natAbs = .lst [] := zlZ.symm
 show PV.ag [.b (decide ((0 : Int) < 0)), D (0 : Int).natAbs, .b (decide ((1 : Int) - 1 < 0)), D ((1 : Int) - 1).natAbs] = _
 rw [show (1 : Int) - 1 = 0 by decide, h1]; rfl
theorem zgp (x y : WI) (hy : 1 ≤ y.v) (hc : Nat.gcd x.v.natAbs y.v.natAbs = 1) : pf E0 22 [wiP x, wiP y, .i .i64 0, .i .i64 0] = some (.tu [fqP ⟨x, y, hy, hc⟩, .i .i64 0]) := by
 refine zac (xf := x_frac_lowest) rfl (by simp [x_frac_lowest]) ?_
 simp only [x_frac_lowest]
 have f1 : pf E0 34 [.i .i64 1] = some (wiP wi1) := zd4 (n := 1) (by decide)
 have s1 := zlh y wi1
 rw [znB] at s1
 have m1 := zka (clip (y.v - 1)) (lerr (y.v - 1))
 have cv := zdq (ziO hy)
 generalize lerr (y.v - 1) = le at *
 generalize wi1 = w1 at *
 have hq : fqP ⟨x, y, hy, hc⟩ = .ag [.b (decide (x.v < 0)), D x.v.natAbs, .b (decide ((clip (y.v - 1)).v < 0)), D (clip (y.v - 1)).v.natAbs] := by rw [cv]; rfl
 rw [hq]
 generalize clip (y.v - 1) = z at *
 simp (disch := omega) only [go_sem, seval, wqq]
 refine zai [4, 5] rfl (by simp only [go_sem, seval]) ?_
 simp (disch := omega) only [go_sem, seval, wqq, f1, s1, m1, zaK, zan]
theorem zig (x y : WI) {e f : Int} (h : e ≠ 0 ∨ f ≠ 0) : pf E0 22 [wiP x, wiP y, .i .i64 e, .i .i64 f] = some (.tu [fqP fq0, .i .i64 4]) := by
 refine zac (xf := x_frac_lowest) rfl (by simp [x_frac_lowest]) ?_
 simp only [x_frac_lowest]
 rw [zqK]
 by_cases he : e = 0
 ·have hf : (f = 0) = False := by simp; rcases h with h | h <;> first | exact h | exact absurd he h
  have he : (e = 0) = True := by simp [he]
  simp (disch := omega) only [go_sem, seval, wqq, he, hf]
 ·have he : (e = 0) = False := by simp [he]
  simp (disch := omega) only [go_sem, seval, wqq, he]
theorem zh7 (x y g : WI) (hg : g.v = gI x.v y.v) (hy : 0 < y.v) : ∃ f : FQ, f.p.v = lowP x.v y.v ∧ f.q.v = lowQ x.v y.v ∧ ∃ a b : WI, pf E0 21 [wiP x, wiP g] = some (wiP a) ∧ pf E0 21 [wiP y, wiP g] = some (wiP b) ∧ pf E0 22 [wiP a, wiP b, .i .i64 0, .i .i64 0] = some (.tu [fqP f, .i .i64 0]) := by
 have gn : g.v ≠ 0 := by rw [hg]; exact zgQ (by omega)
 obtain ⟨a, ha, fa⟩ := zde x g gn
 obtain ⟨b, hb, fb⟩ := zde y g gn
 have e1 : a.v = lowP x.v y.v := by rw [ha, hg]; unfold lowP; rw [if_neg (by omega)]
 have e2 : b.v = lowQ x.v y.v := by rw [hb, hg]; unfold lowQ; rw [if_neg (by omega)]
 have hq : 1 ≤ b.v := by rw [e2]; exact zdz (by omega)
 have hc : Nat.gcd a.v.natAbs b.v.natAbs = 1 := by rw [e1, e2]; exact zeq (by omega)
 exact ⟨⟨a, b, hq, hc⟩, e1, e2, a, b, fa, fb, zgp a b hq hc⟩
theorem zgT (p q : Int) (h : q < 0) : lowP (-p) (-q) = lowP p q ∧ lowQ (-p) (-q) = lowQ p q := by
 have h2 : ¬ -q < 0 := by omega
 unfold lowP lowQ
 rw [zmu]
 simp only [h, h2, if_true, if_false, and_self]
theorem zh6 (x y : WI) (h : y.v ≠ 0) : ∃ f : FQ, f.p.v = lowP x.v y.v ∧ f.q.v = lowQ x.v y.v ∧ pf E0 24 [wiP x, wiP y] = some (.tu [fqP f, .i .i64 0]) := by
 by_cases hn : y.v < 0
 ·have hg := zfG x.neg y.neg
  obtain ⟨f, h1, h2, a, b, fa, fb, fl⟩ := zh7 x.neg y.neg (x.neg.gcd y.neg) rfl (by show 0 < -y.v; omega)
  obtain ⟨l1, l2⟩ := zgT x.v y.v hn
  refine ⟨f, h1.trans l1, h2.trans l2, ?_⟩
  generalize x.neg.gcd y.neg = g at *
  refine zac (xf := x_frac_Make) rfl (by simp [x_frac_Make]) ?_
  simp only [x_frac_Make]
  have sy := zbX y
  have sc : cmpI y.v 0 = -1 := by unfold cmpI; rw [if_pos hn]
  rw [sc] at sy
  have n1 := zjp x
  have n2 := zjp y
  generalize x.neg = xn at *
  generalize y.neg = yn at *
  simp (disch := omega) only [go_sem, seval, wqq, sy]
  refine zai [3] rfl (by simp only [go_sem, seval]) ?_
  simp (disch := omega) only [go_sem, seval, wqq, n1, n2, hg]
  refine zai [3, 6] rfl (by simp only [go_sem, seval]) ?_
  simp (disch := omega) only [go_sem, seval, wqq, fa, fb, fl]
 ·have hg := zfG x y
  obtain ⟨f, h1, h2, a, b, fa, fb, fl⟩ := zh7 x y (x.gcd y) rfl (by omega)
  refine ⟨f, h1, h2, ?_⟩
  generalize x.gcd y = g at *
  refine zac (xf := x_frac_Make) rfl (by simp [x_frac_Make]) ?_
  simp only [x_frac_Make]
  have sy := zbX y
  have sc : cmpI y.v 0 = 1 := by unfold cmpI; rw [if_neg hn, if_pos (by omega)]
  rw [sc] at sy
  simp (disch := omega) only [go_sem, seval, wqq, sy, hg]
  refine zai [3, 6] rfl (by simp only [go_sem, seval]) ?_
  simp (disch := omega) only [go_sem, seval, wqq, fa, fb, fl]
end Go.Eng
namespace Go.Eng
theorem zm5 (f : FQ) : pf E0 64 [fqP f] = some (wiP f.p) := by
 refine zac (xf := x__skymosaic_frac_Frac__Num) rfl (by simp [x__skymosaic_frac_Frac__Num]) ?_
 simp only [x__skymosaic_frac_Frac__Num]
 simp (disch := omega) only [go_sem, seval, wqq]
theorem zdE (f : FQ) : pf E0 19 [fqP f] = some (wiP f.q) := by
 refine zac (xf := x__skymosaic_frac_Frac__Den) rfl (by simp [x__skymosaic_frac_Frac__Den]) ?_
 simp only [x__skymosaic_frac_Frac__Den]
 have f1 : pf E0 34 [.i .i64 1] = some (wiP wi1) := zd4 (n := 1) (by decide)
 have s1 := zjo f.l wi1
 have e : f.l.v + wi1.v = f.q.v := by show f.q.v - 1 + 1 = f.q.v; omega
 have hc : clip f.q.v = f.q := zbK f.q.lim
 rw [e, hc] at s1
 have m1 := zka f.q (lerr f.q.v)
 generalize lerr f.q.v = le at *
 generalize wi1 = w1 at *
 simp (disch := omega) only [go_sem, seval, wqq]
 refine zah [3] rfl ?_ ?_
 ·simp (disch := omega) only [go_sem, seval, wqq, f1, s1, m1]
  exact ⟨_, rfl, rfl⟩
 simp (disch := omega) only [go_sem, seval, wqq, f1, s1, m1]
theorem zll {p q : Int} (hp : Fits64 p) (hq : Fits64 q) (h : q ≠ 0) : ∃ f : FQ, f.p.v = lowP p q ∧ f.q.v = lowQ p q ∧ pf E0 17 [.i .i64 p, .i .i64 q] = some (.tu [fqP f, .i .i64 0]) := by
 obtain ⟨x, hx, fx⟩ := zhy hp
 obtain ⟨y, hy, fy⟩ := zhy hq
 obtain ⟨f, h1, h2, fm⟩ := zh6 x y (by rw [hy]; exact h)
 rw [hx, hy] at h1 h2
 refine ⟨f, h1, h2, ?_⟩
 refine zac (xf := x_frac_Of) rfl (by simp [x_frac_Of]) ?_
 simp only [x_frac_Of]
 simp (disch := omega) only [go_sem, seval, wqq, fx, fy, fm]
theorem zkM (x y : WI) : (x.gcd y).v = gI x.v y.v := rfl
@[go_sem] theorem zoY (x y : WI) : group 2 2 [.b (decide (x.v < 0)), Dw (wlen x.v.natAbs) x.v.natAbs, .b (decide (y.v < 0)), Dw (wlen y.v.natAbs) y.v.natAbs] = [wiP x, wiP y] := _root_.id rfl
theorem zib (a b : FQ) {g s t cx cy cs cd : WI} {ex ey es ed : Int} (hg : pf E0 18 [wiP a.q, wiP b.q] = some (wiP g)) (fs : pf E0 21 [wiP b.q, wiP g] = some (wiP s)) (ft : pf E0 21 [wiP a.q, wiP g] = some (wiP t))
  (nx : pf E0 20 [.lst [wiP a.p, wiP s]] = some (.tu [wiP cx, .i .i64 ex])) (ny : pf E0 20 [.lst [wiP b.p, wiP t]] = some (.tu [wiP cy, .i .i64 ey])) (ns : pf E0 23 [wiP cx, wiP cy] = some (.tu [wiP cs, .i .i64 es]))
  (nd : pf E0 20 [.lst [wiP t, wiP b.q]] = some (.tu [wiP cd, .i .i64 ed])) (f : FQ) (e : Int)
  (hR : (ex = 0 ∧ ey = 0 ∧ es = 0 ∧ ed = 0 ∧ pf E0 24 [wiP cs, wiP cd] = some (.tu [fqP f, .i .i64 e])) ∨ (¬ (ex = 0 ∧ ey = 0 ∧ es = 0 ∧ ed = 0) ∧ f = fq0 ∧ e = 4)) :
  pf E0 9 [fqP a, fqP b] = some (.tu [fqP f, .i .i64 e]) := by
 have da := zdE a
 have db := zdE b
 refine zac (xf := x_frac_Add) rfl (by simp [x_frac_Add]) ?_
 simp only [x_frac_Add]
 simp (disch := omega) only [go_sem, seval, wqq]
 refine zai [3] rfl (by simp only [go_sem, seval]) ?_
 simp (disch := omega) only [go_sem, seval, wqq, da, db, hg]
 refine zah [21, 6] rfl ?_ ?_
 ·simp (disch := omega) only [go_sem, seval, wqq, db, fs, nx, zaK, zan]
  exact ⟨_, rfl, rfl⟩
 simp (disch := omega) only [go_sem, seval, wqq, db, fs, nx, zaK, zan]
 refine zah [32, 6] rfl ?_ ?_
 ·simp (disch := omega) only [go_sem, seval, wqq, da, ft, ny, zaK, zan]
  exact ⟨_, rfl, rfl⟩
 simp (disch := omega) only [go_sem, seval, wqq, da, ft, ny, ns, zaK, zan]
 refine zai [6, 3] rfl (by simp only [go_sem, seval]) ?_
 rcases hR with ⟨h1, h2, h3, h4, hM⟩ | ⟨hn, hf, he⟩
 ·subst h1 h2 h3 h4
  simp (disch := omega) only [go_sem, seval, wqq, da, db, ft, nd, hM, zaK, zan]
 ·subst hf he
  rw [zqK]
  by_cases h1 : ex = 0
  ·by_cases h2 : ey = 0
   ·by_cases h3 : es = 0
    ·have h4 : (ed = 0) = False := by simp; exact fun q => hn ⟨h1, h2, h3, q⟩
     subst h1 h2 h3
     simp (disch := omega) only [go_sem, seval, wqq, da, db, ft, nd, h4, zaK, zan]
    ·have h3 : (es = 0) = False := by simp [h3]
     subst h1 h2
     simp (disch := omega) only [go_sem, seval, wqq, da, db, ft, nd, h3, zaK, zan]
   ·have h2 : (ey = 0) = False := by simp [h2]
    subst h1
    simp (disch := omega) only [go_sem, seval, wqq, da, db, ft, nd, h2, zaK, zan]
  ·have h1 : (ex = 0) = False := by simp [h1]
   simp (disch := omega) only [go_sem, seval, wqq, da, db, ft, nd, h1, zaK, zan]
def adX (a b : FQ) : Int := a.p.v * (b.q.v / gI a.q.v b.q.v)
def adY (a b : FQ) : Int := b.p.v * (a.q.v / gI a.q.v b.q.v)
def adD (a b : FQ) : Int := a.q.v / gI a.q.v b.q.v * b.q.v
def adOk (a b : FQ) : Prop := inR (adX a b).natAbs ∧ inR (adY a b).natAbs ∧ inR (adX a b + adY a b).natAbs ∧ inR (adD a b).natAbs
theorem zjR (a b : FQ) : adD a b ≠ 0 := by
 have ha := a.q1
 have hb := b.q1
 have h1 : a.q.v / gI a.q.v b.q.v * gI a.q.v b.q.v = a.q.v := Int.ediv_mul_cancel (zb5 _ _)
 have h2 : a.q.v / gI a.q.v b.q.v ≠ 0 := fun q => by rw [q] at h1; omega
 exact Int.mul_ne_zero h2 (by omega)
theorem zdw {z : Int} (h : inR z.natAbs) : (clip z).v = z ∧ lerr z = 0 := ⟨zdq ((zbU _).2 h), zdx ((zbU _).2 h)⟩
theorem zfz {z : Int} (h : lerr z = 0) : inR z.natAbs := by
 by_cases q : wlen z.natAbs ≤ 512
 ·exact (zbU _).1 q
 ·rw [zfC q] at h; cases h
theorem zm3 (a b : FQ) : (adOk a b → ∃ f : FQ, f.p.v = lowP (adX a b + adY a b) (adD a b) ∧ f.q.v = lowQ (adX a b + adY a b) (adD a b) ∧ pf E0 9 [fqP a, fqP b] = some (.tu [fqP f, .i .i64 0])) ∧
  (¬ adOk a b → pf E0 9 [fqP a, fqP b] = some (.tu [fqP fq0, .i .i64 4])) := by
 have hg := zfG a.q b.q
 have gv := zkM a.q b.q
 have gn : (a.q.gcd b.q).v ≠ 0 := by rw [gv]; exact zgQ (by have := b.q1; omega)
 obtain ⟨s, hs, fs⟩ := zde b.q (a.q.gcd b.q) gn
 obtain ⟨t, ht, ft⟩ := zde a.q (a.q.gcd b.q) gn
 rw [gv] at hs ht
 have nx := zcO a.p s
 have ny := zcO b.p t
 have nd := zcO t b.q
 have eX : a.p.v * s.v = adX a b := by rw [hs]; rfl
 have eY : b.p.v * t.v = adY a b := by rw [ht]; rfl
 have eD : t.v * b.q.v = adD a b := by rw [ht]; rfl
 rw [eX] at nx
 rw [eY] at ny
 rw [eD] at nd
 have ns := zjo (clip (adX a b)) (clip (adY a b))
 constructor
 ·rintro ⟨r1, r2, r3, r4⟩
  obtain ⟨c1, l1⟩ := zdw r1
  obtain ⟨c2, l2⟩ := zdw r2
  obtain ⟨c3, l3⟩ := zdw r3
  obtain ⟨c4, l4⟩ := zdw r4
  rw [c1, c2] at ns
  obtain ⟨f, h1, h2, fm⟩ := zh6 (clip (adX a b + adY a b)) (clip (adD a b)) (by rw [c4]; exact zjR a b)
  rw [c3, c4] at h1 h2
  exact ⟨f, h1, h2, zib a b hg fs ft nx ny ns nd f 0 (.inl ⟨l1, l2, l3, l4, fm⟩)⟩
 ·intro hn
  refine zib a b hg fs ft nx ny ns nd fq0 4 (.inr ⟨fun ⟨l1, l2, l3, l4⟩ => hn ?_, rfl, rfl⟩)
  have r1 := zfz l1
  have r2 := zfz l2
  rw [(zdw r1).1, (zdw r2).1] at l3
  exact ⟨r1, r2, zfz l3, zfz l4⟩
end Go.Eng
namespace Go.Eng
def FQ.neg (f : FQ) : FQ := ⟨f.p.neg, f.q, f.q1, by show Nat.gcd (-f.p.v).natAbs f.q.v.natAbs = 1; rw [Int.natAbs_neg]; exact f.cop⟩
theorem zlm (a : FQ) : pf E0 67 [fqP a] = some (.i .i64 (cmpI a.p.v 0)) := by
 refine zac (xf := x_frac_Sign) rfl (by simp [x_frac_Sign]) ?_
 simp only [x_frac_Sign]
 simp (disch := omega) only [go_sem, seval, wqq]
theorem zid (a b : FQ) {g h u v w z cp cq : WI} {ep eq : Int} (f : FQ) (e : Int) (hg : pf E0 18 [wiP a.p, wiP b.q] = some (wiP g)) (hh : pf E0 18 [wiP b.p, wiP a.q] = some (wiP h))
  (fu : pf E0 21 [wiP a.p, wiP g] = some (wiP u)) (fv : pf E0 21 [wiP b.p, wiP h] = some (wiP v)) (n1 : pf E0 20 [.lst [wiP u, wiP v]] = some (.tu [wiP cp, .i .i64 ep]))
  (fw : pf E0 21 [wiP a.q, wiP h] = some (wiP w)) (fz' : pf E0 21 [wiP b.q, wiP g] = some (wiP z)) (n2 : pf E0 20 [.lst [wiP w, wiP z]] = some (.tu [wiP cq, .i .i64 eq]))
  (fl : pf E0 22 [wiP cp, wiP cq, .i .i64 ep, .i .i64 eq] = some (.tu [fqP f, .i .i64 e])) : pf E0 8 [fqP a, fqP b] = some (.tu [fqP f, .i .i64 e]) := by
 have da := zdE a
 have db := zdE b
 refine zac (xf := x_frac_Mul) rfl (by simp [x_frac_Mul]) ?_
 simp only [x_frac_Mul]
 simp (disch := omega) only [go_sem, seval, wqq]
 refine zah [12, 17, 2] rfl ?_ ?_
 ·simp (disch := omega) only [go_sem, seval, wqq, da, db, hg, hh]
  exact ⟨_, rfl, rfl⟩
 simp (disch := omega) only [go_sem, seval, wqq, da, db, hg, hh]
 refine zah [27, 7] rfl ?_ ?_
 ·simp (disch := omega) only [go_sem, seval, wqq, fu, fv, n1, zaK, zan]
  exact ⟨_, rfl, rfl⟩
 simp (disch := omega) only [go_sem, seval, wqq, fu, fv, n1, zaK, zan]
 refine zai [7, 3, 6] rfl (by simp only [go_sem, seval]) ?_
 simp (disch := omega) only [go_sem, seval, wqq, da, db, fw, fz', n2, fl, zaK, zan]
end Go.Eng
namespace Go.Eng
theorem zhl {p s : Int} (hs : s ≠ 0) : Nat.Coprime (p / gI p s).natAbs (s / gI p s).natAbs := by
 have g := zdv (p := p) hs
 have e1 : (p / gI p s).natAbs * (gI p s).natAbs = p.natAbs := by rw [← Int.natAbs_mul, Int.ediv_mul_cancel (zb5 p s)]
 have e2 : (s / gI p s).natAbs * (gI p s).natAbs = s.natAbs := by rw [← Int.natAbs_mul, Int.ediv_mul_cancel (zcr p s)]
 have e3 : (gI p s).natAbs = Nat.gcd p.natAbs s.natAbs := Int.natAbs_natCast _
 have e4 := Nat.gcd_mul_right (p / gI p s).natAbs (gI p s).natAbs (s / gI p s).natAbs
 rw [e1, e2, ← e3] at e4
 have : 0 < (gI p s).natAbs := by omega
 exact Nat.eq_of_mul_eq_mul_right this (by rw [Nat.one_mul]; exact e4.symm)
theorem zkV {p q r s : Int} (hq : 0 < q) (hs : 0 < s) (c1 : Nat.gcd p.natAbs q.natAbs = 1) (c2 : Nat.gcd r.natAbs s.natAbs = 1) :
  p / gI p s * (r / gI r q) = lowP (p * r) (q * s) ∧ q / gI r q * (s / gI p s) = lowQ (p * r) (q * s) ∧ 0 < q / gI r q * (s / gI p s) ∧ Nat.gcd (p / gI p s * (r / gI r q)).natAbs (q / gI r q * (s / gI p s)).natAbs = 1 := by
 have g1 := zdv (p := p) (q := s) (by omega)
 have g2 := zdv (p := r) (q := q) (by omega)
 have k1 := zhl (p := p) (s := s) (by omega)
 have k2 := zhl (p := r) (s := q) (by omega)
 have a1 : p / gI p s * gI p s = p := Int.ediv_mul_cancel (zb5 p s)
 have a2 : s / gI p s * gI p s = s := Int.ediv_mul_cancel (zcr p s)
 have a3 : r / gI r q * gI r q = r := Int.ediv_mul_cancel (zb5 r q)
 have a4 : q / gI r q * gI r q = q := Int.ediv_mul_cancel (zcr r q)
 generalize gI p s = g at *
 generalize gI r q = h at *
 generalize p / g = u at *
 generalize s / g = z at *
 generalize r / h = v at *
 generalize q / h = w at *
 have z0 : 0 < z := Int.pos_of_mul_pos_left (by rw [a2]; exact hs) g1
 have w0 : 0 < w := Int.pos_of_mul_pos_left (by rw [a4]; exact hq) g2
 have du : u.natAbs ∣ p.natAbs := Int.natAbs_dvd_natAbs.2 ⟨g, a1.symm⟩
 have dw : w.natAbs ∣ q.natAbs := Int.natAbs_dvd_natAbs.2 ⟨h, a4.symm⟩
 have dv : v.natAbs ∣ r.natAbs := Int.natAbs_dvd_natAbs.2 ⟨h, a3.symm⟩
 have dz : z.natAbs ∣ s.natAbs := Int.natAbs_dvd_natAbs.2 ⟨g, a2.symm⟩
 have k3 : Nat.Coprime u.natAbs w.natAbs := Nat.Coprime.coprime_dvd_left du (Nat.Coprime.coprime_dvd_right dw c1)
 have k4 : Nat.Coprime v.natAbs z.natAbs := Nat.Coprime.coprime_dvd_left dv (Nat.Coprime.coprime_dvd_right dz c2)
 have hc : Nat.gcd (u * v).natAbs (w * z).natAbs = 1 := by
  rw [Int.natAbs_mul, Int.natAbs_mul]
  exact Nat.Coprime.mul_left (Nat.Coprime.mul_right k3 k1) (Nat.Coprime.mul_right k2 k4)
 have hp : 0 < w * z := Int.mul_pos w0 z0
 have hx : q * s ≠ 0 := Int.mul_ne_zero (by omega) (by omega)
 have cr := zb6 (p := p * r) hx
 obtain ⟨e1, e2⟩ := zes (p := u * v) (q := w * z) hp (zdz hx) hc (zeq hx) (by
  apply Int.eq_of_mul_eq_mul_right (a := q * s) hx
  have : u * v * (q * s) = p * r * (w * z) := by rw [← a1, ← a2, ← a3, ← a4]; grind
  calc u * v * lowQ (p * r) (q * s) * (q * s) = u * v * (q * s) * lowQ (p * r) (q * s) := by grind
   _ = p * r * (w * z) * lowQ (p * r) (q * s) := by rw [this]
   _ = p * r * lowQ (p * r) (q * s) * (w * z) := by grind
   _ = lowP (p * r) (q * s) * (q * s) * (w * z) := by rw [cr]
   _ = lowP (p * r) (q * s) * (w * z) * (q * s) := by grind)
 exact ⟨e1, e2, hp, hc⟩
def muP (a b : FQ) : Int := lowP (a.p.v * b.p.v) (a.q.v * b.q.v)
def muQ (a b : FQ) : Int := lowQ (a.p.v * b.p.v) (a.q.v * b.q.v)
theorem zj9 (a b : FQ) : (inR (muP a b).natAbs ∧ inR (muQ a b).natAbs → ∃ f : FQ, f.p.v = muP a b ∧ f.q.v = muQ a b ∧ pf E0 8 [fqP a, fqP b] = some (.tu [fqP f, .i .i64 0])) ∧
  (¬ (inR (muP a b).natAbs ∧ inR (muQ a b).natAbs) → pf E0 8 [fqP a, fqP b] = some (.tu [fqP fq0, .i .i64 4])) := by
 have qa := a.q1
 have qb := b.q1
 obtain ⟨m1, m2, m3, m4⟩ := zkV (p := a.p.v) (q := a.q.v) (r := b.p.v) (s := b.q.v) (by omega) (by omega) a.cop b.cop
 have hg := zfG a.p b.q
 have hh := zfG b.p a.q
 have gv := zkM a.p b.q
 have hv := zkM b.p a.q
 have gn : (a.p.gcd b.q).v ≠ 0 := by rw [gv]; exact zgQ (by omega)
 have hn : (b.p.gcd a.q).v ≠ 0 := by rw [hv]; exact zgQ (by omega)
 obtain ⟨u, eu, fu⟩ := zde a.p _ gn
 obtain ⟨v, ev, fv⟩ := zde b.p _ hn
 obtain ⟨w, ew, fw⟩ := zde a.q _ hn
 obtain ⟨z, ez, fz'⟩ := zde b.q _ gn
 rw [gv] at eu ez
 rw [hv] at ev ew
 have n1 := zcO u v
 have n2 := zcO w z
 have e1 : u.v * v.v = muP a b := by rw [eu, ev]; exact m1
 have e2 : w.v * z.v = muQ a b := by rw [ew, ez]; exact m2
 rw [m1, m2] at m4
 rw [m2] at m3
 have m3 : 0 < muQ a b := m3
 have m4 : Nat.gcd (muP a b).natAbs (muQ a b).natAbs = 1 := m4
 rw [e1] at n1
 rw [e2] at n2
 constructor
 ·rintro ⟨r1, r2⟩
  obtain ⟨c1, l1⟩ := zdw r1
  obtain ⟨c2, l2⟩ := zdw r2
  have fl := zgp (clip (muP a b)) (clip (muQ a b)) (by rw [c2]; omega) (by rw [c1, c2]; exact m4)
  rw [l1] at n1
  rw [l2] at n2
  exact ⟨⟨clip (muP a b), clip (muQ a b), by rw [c2]; omega, by rw [c1, c2]; exact m4⟩, c1, c2, zid a b _ 0 hg hh fu fv n1 fw fz' n2 fl⟩
 ·intro hno
  refine zid a b fq0 4 hg hh fu fv n1 fw fz' n2 (zig _ _ ?_)
  by_cases l1 : lerr (muP a b) = 0
  ·right
   intro l2
   exact hno ⟨zfz l1, zfz l2⟩
  ·exact .inl l1
end Go.Eng
namespace Go.Eng
theorem zic (a b f r : FQ) {e : Int} (h : pf E0 24 [wiP b.q, wiP b.p] = some (.tu [fqP f, .i .i64 0])) (hr : pf E0 8 [fqP a, fqP f] = some (.tu [fqP r, .i .i64 e])) : pf E0 65 [fqP a, fqP b] = some (.tu [fqP r, .i .i64 e]) := by
 have db := zdE b
 refine zac (xf := x_frac_Div) rfl (by simp [x_frac_Div]) ?_
 simp only [x_frac_Div]
 simp (disch := omega) only [go_sem, seval, wqq]
 refine zah [11] rfl ?_ ?_
 ·simp (disch := omega) only [go_sem, seval, wqq, db, h]
  exact ⟨_, rfl, rfl⟩
 simp (disch := omega) only [go_sem, seval, wqq, db, h, hr]
theorem zkB {p q r s : Int} (hr : r ≠ 0) (hs : 0 < s) (hq : 0 < q) : lowP (p * lowP s r) (q * lowQ s r) = lowP (p * s) (q * r) ∧ lowQ (p * lowP s r) (q * lowQ s r) = lowQ (p * s) (q * r) := by
 have h1 := zdz (p := s) hr
 refine zkU (Int.mul_ne_zero (by omega) (by omega)) (Int.mul_ne_zero (by omega) hr) ?_
 have h2 := zb6 (p := s) hr
 calc p * lowP s r * (q * r) = p * q * (lowP s r * r) := by grind
  _ = p * q * (s * lowQ s r) := by rw [h2]
  _ = p * s * (q * lowQ s r) := by grind
def dvP (a b : FQ) : Int := lowP (a.p.v * b.q.v) (a.q.v * b.p.v)
def dvQ (a b : FQ) : Int := lowQ (a.p.v * b.q.v) (a.q.v * b.p.v)
theorem zm4 (a b : FQ) (h : b.p.v ≠ 0) : (inR (dvP a b).natAbs ∧ inR (dvQ a b).natAbs → ∃ f : FQ, f.p.v = dvP a b ∧ f.q.v = dvQ a b ∧ pf E0 65 [fqP a, fqP b] = some (.tu [fqP f, .i .i64 0])) ∧
  (¬ (inR (dvP a b).natAbs ∧ inR (dvQ a b).natAbs) → pf E0 65 [fqP a, fqP b] = some (.tu [fqP fq0, .i .i64 4])) := by
 have qa := a.q1
 have qb := b.q1
 obtain ⟨f, f1, f2, fm⟩ := zh6 b.q b.p h
 obtain ⟨l1, l2⟩ := zkB (p := a.p.v) (q := a.q.v) (r := b.p.v) (s := b.q.v) h (by omega) (by omega)
 have e1 : muP a f = dvP a b := by unfold muP dvP; rw [f1, f2]; exact l1
 have e2 : muQ a f = dvQ a b := by unfold muQ dvQ; rw [f1, f2]; exact l2
 have hm := zj9 a f
 rw [e1, e2] at hm
 refine ⟨fun hR => ?_, fun hn => zic a b f fq0 fm (hm.2 hn)⟩
 obtain ⟨r, r1, r2, hr⟩ := hm.1 hR
 exact ⟨r, r1, r2, zic a b f r fm hr⟩
end Go.Eng
namespace Go.Eng
noncomputable def ftx (p q : Int) : List UInt8 := if q = 1 then decI p else decI p ++ [47] ++ decI q
theorem zdU (x : WI) : (decI x.v).length ≤ 1000000 := by
 have h := zjb ((zbU _).1 x.lim)
 have h1 : (dec x.v.natAbs).length ≤ 4956 + 1 := by
  unfold dec; split
  ·simp
  ·rw [zcX]; omega
 unfold decI; split <;> (try simp only [List.length_cons]) <;> omega
theorem zie (f : FQ) : pf E0 16 [fqP f] = some (.s (ftx f.p.v f.q.v)) := by
 have df := zdE f
 have s1 := zm1 f.p
 have s2 := zm1 f.q
 have sg := zbX f.l
 have l1 := zdU f.p
 have l2 := zdU f.q
 have hl : f.l.v = f.q.v - 1 := rfl
 have q1 := f.q1
 refine zac (xf := x__skymosaic_frac_Frac__String) rfl (by simp [x__skymosaic_frac_Frac__String]) ?_
 simp only [x__skymosaic_frac_Frac__String]
 unfold ftx
 by_cases h : f.q.v = 1
 ·rw [if_pos h]
  have sc : (cmpI f.l.v 0 = 0) = True := by rw [hl, h]; simp [cmpI]
  simp (disch := omega) only [go_sem, seval, wqq, sg, sc, s1]
 ·rw [if_neg h]
  have sc : (cmpI f.l.v 0 = 0) = False := by
   have : cmpI f.l.v 0 = 1 := by unfold cmpI; rw [if_neg (by omega), if_pos (by omega)]
   rw [this]; simp
  have a1 : binP .add (.s (decI f.p.v)) (.s [47]) = some (.s (decI f.p.v ++ [47])) := zee _ _ (by simp only [List.length_cons, List.length_nil]; omega)
  have a2 : binP .add (.s (decI f.p.v ++ [47])) (.s (decI f.q.v)) = some (.s (decI f.p.v ++ [47] ++ decI f.q.v)) := zee _ _ (by simp only [List.length_append, List.length_cons, List.length_nil]; omega)
  simp (disch := omega) only [go_sem, seval, wqq, sg, sc]
  refine zai [1] rfl (by simp only [go_sem, seval]) ?_
  simp (disch := omega) only [go_sem, seval, wqq, df, s1, s2, a1, a2]
end Go.Eng
namespace Go.Eng
end Go.Eng
namespace Go.Eng
end Go.Eng
namespace Go.Eng
end Go.Eng
namespace Go.Eng
end Go.Eng
namespace Go.Eng
def FQ.is (f : FQ) (n d : Int) : Prop := f.p.v * d = n * f.q.v
theorem zhK {f : FQ} {n d : Int} (h : d ≠ 0) (h1 : f.p.v = lowP n d) (h2 : f.q.v = lowQ n d) : f.is n d := by
 unfold FQ.is; rw [h1, h2]; exact zb6 h
theorem zfB (f : FQ) : f.is f.p.v f.q.v := rfl
theorem zjc {f : FQ} {n d : Int} (h : f.is n d) (k : Int) : f.is (n * k) (d * k) := by
 unfold FQ.is at *
 rw [← Int.mul_assoc, h]; grind
def fsz (n : Nat) (f : FQ) : Prop := tlen f.p.v.natAbs ≤ n ∧ tlen f.q.v.natAbs ≤ n
theorem zgG {a g : Int} (h : g ∣ a) : tlen (a / g).natAbs ≤ tlen a.natAbs := by
 refine zax ?_
 rw [Int.natAbs_ediv_of_dvd h]; exact Nat.div_le_self _ _
theorem zl1 (a b : FQ) {n m : Nat} (ha : fsz n a) (hb : fsz m b) (h : n + m + 1 < 1230) : ∃ f : FQ, pf E0 9 [fqP a, fqP b] = some (.tu [fqP f, .i .i64 0]) ∧ f.is (a.p.v * b.q.v + b.p.v * a.q.v) (a.q.v * b.q.v) ∧ fsz (n + m + 1) f := by
 obtain ⟨a1, a2⟩ := ha
 obtain ⟨b1, b2⟩ := hb
 have qa := a.q1
 have qb := b.q1
 have k1 := zgG (zcr a.q.v b.q.v)
 have k2 := zgG (zb5 a.q.v b.q.v)
 have d1 : b.q.v / gI a.q.v b.q.v * gI a.q.v b.q.v = b.q.v := Int.ediv_mul_cancel (zcr _ _)
 have d2 : a.q.v / gI a.q.v b.q.v * gI a.q.v b.q.v = a.q.v := Int.ediv_mul_cancel (zb5 _ _)
 have t1 : tlen (adX a b).natAbs ≤ n + m := Nat.le_trans (zav _ _) (by omega)
 have t2 : tlen (adY a b).natAbs ≤ n + m := Nat.le_trans (zav _ _) (by omega)
 have t3 : tlen (adD a b).natAbs ≤ n + m := Nat.le_trans (zav _ _) (by omega)
 have t4 : tlen (adX a b + adY a b).natAbs ≤ n + m + 1 := Nat.le_trans (zaR _ _) (by omega)
 have dn := zjR a b
 obtain ⟨f, h1, h2, hf⟩ := (zm3 a b).1 ⟨zdd (by omega), zdd (by omega), zdd (by omega), zdd (by omega)⟩
 refine ⟨f, hf, ?_, ?_, ?_⟩
 ·have hs := zjc (zhK dn h1 h2) (gI a.q.v b.q.v)
  have e1 : (adX a b + adY a b) * gI a.q.v b.q.v = a.p.v * b.q.v + b.p.v * a.q.v := by
   unfold adX adY
   rw [Int.add_mul, Int.mul_assoc, Int.mul_assoc, d1, d2]
  have e2 : adD a b * gI a.q.v b.q.v = a.q.v * b.q.v := by
   unfold adD
   rw [Int.mul_right_comm, d2]
  rwa [e1, e2] at hs
 ·rw [h1]; exact Nat.le_trans (zax (zfD dn)) t4
 ·rw [h2]; exact Nat.le_trans (zax (zfE dn)) (by omega)
theorem zmC (a b : FQ) {n m : Nat} (ha : fsz n a) (hb : fsz m b) (h : n + m < 1230) : ∃ f : FQ, pf E0 8 [fqP a, fqP b] = some (.tu [fqP f, .i .i64 0]) ∧ f.is (a.p.v * b.p.v) (a.q.v * b.q.v) ∧ fsz (n + m) f := by
 obtain ⟨a1, a2⟩ := ha
 obtain ⟨b1, b2⟩ := hb
 have qa := a.q1
 have qb := b.q1
 have dn : a.q.v * b.q.v ≠ 0 := Int.mul_ne_zero (by omega) (by omega)
 have t1 : tlen (muP a b).natAbs ≤ n + m := Nat.le_trans (zax (zfD dn)) (Nat.le_trans (zav _ _) (by omega))
 have t2 : tlen (muQ a b).natAbs ≤ n + m := Nat.le_trans (zax (zfE dn)) (Nat.le_trans (zav _ _) (by omega))
 obtain ⟨f, h1, h2, hf⟩ := (zj9 a b).1 ⟨zdd (by omega), zdd (by omega)⟩
 exact ⟨f, hf, zhK dn h1 h2, by rw [h1]; exact t1, by rw [h2]; exact t2⟩
theorem zjZ (a b : FQ) (hb0 : b.p.v ≠ 0) {n m : Nat} (ha : fsz n a) (hb : fsz m b) (h : n + m < 1230) : ∃ f : FQ, pf E0 65 [fqP a, fqP b] = some (.tu [fqP f, .i .i64 0]) ∧ f.is (a.p.v * b.q.v) (a.q.v * b.p.v) ∧ fsz (n + m) f := by
 obtain ⟨a1, a2⟩ := ha
 obtain ⟨b1, b2⟩ := hb
 have qa := a.q1
 have dn : a.q.v * b.p.v ≠ 0 := Int.mul_ne_zero (by omega) hb0
 have t1 : tlen (dvP a b).natAbs ≤ n + m := Nat.le_trans (zax (zfD dn)) (Nat.le_trans (zav _ _) (by omega))
 have t2 : tlen (dvQ a b).natAbs ≤ n + m := Nat.le_trans (zax (zfE dn)) (Nat.le_trans (zav _ _) (by omega))
 obtain ⟨f, h1, h2, hf⟩ := (zm4 a b hb0).1 ⟨zdd (by omega), zdd (by omega)⟩
 exact ⟨f, hf, zhK dn h1 h2, by rw [h1]; exact t1, by rw [h2]; exact t2⟩
end Go.Eng
namespace Go.Eng
def isPR : PV → Bool
 | .p _ _ => true
 | .sl _ _ _ _ _ => true
 | .tu _ => true
 | _ => false
def slotIn3 (E : PEnv) (ops : List XOper) (L : List Nat) (c : Nat × Nat) : Bool :=
 match ops[c.1]?, ops[c.2]? with
 | some a, some b =>
  match a.op.looks with
  | .t s => a.op.cls == 2 && L.contains s && calmOp E b.op
  | _ => false
 | _, _ => false
end Go.Eng
namespace Go.Eng
def apP : PV → PV → Bool
 | .p a _, .p b _ => !(Nat.beq a b)
 | _, _ => false
def slotSt (ops : List XOper) (L R : List Nat) (c : Nat × Nat) : Bool :=
 match ops[c.1]?, ops[c.2]? with
 | some a, some b =>
  match a.op, b.op with
  | .load _ _ (.t s), .store _ (.t r) _ => L.contains s && R.contains r && fixedX ops c.2 (.t r)
  | _, _ => false
 | _, _ => false
theorem zjM {E : PEnv} {F : PFin} {ops : List XOper} {chk : List (Nat × Nat)} {ks : List KI} {fr : PFr} {M : PM} (L R : List Nat) (hL : chk.all (fun c => calmC E ops c || slotIn2 E ops L c || slotSt ops L R c) = true)
  (hr : WL E ⟨(0 :: 0 :: (L ++ R)).map XR.tmp, fun w _ => ∃ l, w = .tu l ∧ ((l.drop 2).take L.length).all (fun x => isPP x && ((l.drop 2).drop L.length).all (apP x)) = true⟩ ops [] fr M) (w : WL E F ops ks fr M) : WK E F (.drw ops chk) ks fr M := by
 refine zbW (fun fr2 Ms hT => ?_) w
 have hp : ∀ s ∈ L, isPP (fr2 s) = true ∧ ∀ r ∈ R, apP (fr2 s) (fr2 r) = true := by
  obtain ⟨lf, q, fr3, M3, vs, e, h1, h2, l, h3, h4⟩ := hr
  simp only [Option.bind_eq_some_iff, unw] at e
  obtain ⟨⟨fr4, M4⟩, e1, e2⟩ := e
  simp only [Option.some.injEq, Prod.mk.injEq] at e2
  obtain ⟨_, e3, e4⟩ := e2
  rw [← e3, ← e4] at h2
  obtain ⟨Ms', g1, g2⟩ := zbS e1
  rw [g1] at hT
  cases hT
  have hres : ∀ (f : PFr) (N : PM) (l : List Nat), pRes f N (l.map XR.tmp) = some (l.map f) := fun f N l => by
   induction l with
   | nil => rfl
   | cons a l ih => simp only [List.map_cons, pRes, pResOne, ih]
  rw [hres] at h2
  cases h2
  simp only [List.map_cons, packP] at h3
  cases h3
  have h5 : (((L ++ R).map fr2).take L.length).all (fun x => isPP x && (((L ++ R).map fr2).drop L.length).all (apP x)) = true := h4
  rw [List.map_append, List.take_left' (by simp), List.drop_left' (by simp)] at h5
  simp only [List.all_eq_true, List.mem_map, Bool.and_eq_true, forall_exists_index, and_imp, forall_apply_eq_imp_iff₂] at h5
  exact h5
 rw [List.all_eq_true] at hL ⊢
 rintro ⟨i, j⟩ hc
 have h1 := hL _ hc
 simp only [Bool.or_eq_true] at h1
 rcases h1 with (h1 | h1) | h1
 ·exact zbv hT h1
 ·unfold slotIn2 at h1
  split at h1
  ·rename_i a b ha hb
   split at h1
   ·rename_i z k s hop
    simp only [Bool.and_eq_true] at h1
    obtain ⟨c1, c2⟩ := h1
    have hs := (hp s (List.contains_iff_mem.1 c1)).1
    cases hf : fr2 s with
    | p n o =>
     obtain ⟨fri, A, B, q1, q2, q3, q4⟩ := zaL hT ha
     obtain ⟨frj, C, D, p1, p2, p3, p4⟩ := zaL hT hb
     have p2' : Ms[(i, j).2 + 1]? = some D := p2
     have q2' : Ms[(i, j).1 + 1]? = some B := q2
     simp only [chkP, ha, q1, q2, p1, p2]
     rw [if_neg (by rw [hop]; simp [XO.cls])]
     rw [hop]
     show chkV ops j (.t s) C D (fr2 s) = true
     rw [hf]
     show verP (some n) C D = true
     rcases p3 with ⟨_, v, p3⟩ | ⟨_, p3⟩
     ·cases hopb : b.op with
      | call f l =>
       rw [hopb] at p3 c2
       obtain ⟨ns, rfl⟩ := zc3 c2 p3
       exact zcj ns C _
      | _ => rw [hopb] at c2; simp [calmOp] at c2
     ·rw [p3]; simp [verP]
    | _ => rw [hf] at hs; simp [isPP] at hs
   ·cases h1
  ·cases h1
 ·unfold slotSt at h1
  split at h1
  ·rename_i a b ha hb
   split at h1
   ·rename_i z k s n r x hop hop2
    simp only [Bool.and_eq_true] at h1
    obtain ⟨⟨c1, c2⟩, c3⟩ := h1
    have hap := (hp s (List.contains_iff_mem.1 c1)).2 r (List.contains_iff_mem.1 c2)
    obtain ⟨fri, A, B, q1, q2, q3, q4⟩ := zaL hT ha
    obtain ⟨frj, C, D, p1, p2, p3, p4⟩ := zaL hT hb
    have p2' : Ms[(i, j).2 + 1]? = some D := p2
    have q2' : Ms[(i, j).1 + 1]? = some B := q2
    have e2 : fr2 r = frj r := p4 (.t r) c3
    simp only [chkP, ha, q1, q2, p1, p2]
    rw [if_neg (by rw [hop]; simp [XO.cls])]
    rw [hop]
    show chkV ops j (.t s) C D (fr2 s) = true
    cases hf : fr2 s with
    | p n1 o1 =>
     cases hg : fr2 r with
     | p n2 o2 =>
      rw [hf, hg] at hap
      have hne : n1 ≠ n2 := fun q => by rw [q] at hap; simp [apP] at hap
      show verP (some n1) C D = true
      rcases p3 with ⟨_, v, p3⟩ | ⟨_, p3⟩
      ·rw [hop2] at p3
       simp only [XO.pst, XO.pev] at p3
       rw [show X.pv E.glob frj (.t r) = .p n2 o2 from e2.symm.trans hg] at p3
       simp only at p3
       generalize (X.pv E.glob frj x).cells = cs at p3
       split at p3
       ·split at p3
        ·cases p3
         simp only [verP]
         rw [List.getElem?_set_ne (fun h => hne h.symm)]; simp
        ·cases p3
       ·cases p3
      ·rw [p3]; simp [verP]
     | _ => rw [hf, hg] at hap; simp [apP] at hap
    | _ => rw [hf] at hap; simp [apP] at hap
   ·cases h1
  ·cases h1
end Go.Eng
namespace Go.Eng
theorem mG (G L : PM) (k : Nat) : PM.blk (G ++ L) (G.length + k) = PM.blk L k := by
 unfold PM.blk
 rw [List.getElem?_append_right (by omega), Nat.add_sub_cancel_left]
theorem mG0 (G L : PM) : PM.blk (G ++ L) G.length = PM.blk L 0 := mG G L 0
theorem sG (G L : PM) (k : Nat) (v : Option PB) : (G ++ L).set (G.length + k) v = G ++ L.set k v := by
 rw [List.set_append_right _ _ (by omega), Nat.add_sub_cancel_left]
theorem sG0 (G L : PM) (v : Option PB) : (G ++ L).set G.length v = G ++ L.set 0 v := sG G L 0 v
theorem lG (G L : PM) : (G ++ L).length = G.length + L.length := List.length_append
theorem ziW (a b : Int) : -1 ≤ cmpI a b ∧ cmpI a b ≤ 1 := by unfold cmpI; split <;> (try split) <;> omega
end Go.Eng
namespace Go.Eng
theorem zbu (p : Prop) : (p = True) ∨ (p = False) := by by_cases h : p <;> simp [h]
noncomputable def tW (a b : WI) : WI := clip (a.v * b.v)
noncomputable def aW (a b : WI) : WI := clip (a.v + b.v)
noncomputable def sW (a b : WI) : WI := clip (a.v - b.v)
theorem zam (a b : WI) : pf E0 313 [wiP a, wiP b] = some (wiP (tW a b)) := by
 have h := zh8 a b
 unfold tW
 generalize clip (a.v * b.v) = c at *
 refine zac (xf := x_proj_times) rfl (by simp [x_proj_times]) ?_
 simp only [x_proj_times]
 simp (disch := omega) only [go_sem, seval, wqq, h]
theorem zaw (a b : WI) : pf E0 312 [wiP a, wiP b] = some (wiP (aW a b)) := by
 have h := zjo a b
 unfold aW
 generalize clip (a.v + b.v) = c at *
 refine zac (xf := x_proj_plus) rfl (by simp [x_proj_plus]) ?_
 simp only [x_proj_plus]
 simp (disch := omega) only [go_sem, seval, wqq, h]
theorem zbj (a b : WI) : pf E0 319 [wiP a, wiP b] = some (wiP (sW a b)) := by
 have h := zlh a b
 unfold sW
 generalize clip (a.v - b.v) = c at *
 refine zac (xf := x_proj_minus) rfl (by simp [x_proj_minus]) ?_
 simp only [x_proj_minus]
 simp (disch := omega) only [go_sem, seval, wqq, h]
noncomputable def mnW (x : Nat → WI) (i k : Nat) : WI := sW (tW (x (3 * ((i + 1) % 3) + (k + 1) % 3)) (x (3 * ((i + 2) % 3) + (k + 2) % 3))) (tW (x (3 * ((i + 1) % 3) + (k + 2) % 3)) (x (3 * ((i + 2) % 3) + (k + 1) % 3)))
theorem zlo (x : Nat → WI) {i k : Nat} (hi : i < 3) (hk : k < 3) (b : Option PB) (G : PM) : ∃ G', pcl E0 318 [.i .i64 (i : Int), .i .i64 (k : Int), .p 0 0] (some ⟨cW x, true, 0⟩ :: b :: G) = some (wiP (mnW x i k), some ⟨cW x, true, 0⟩ :: b :: (G ++ G')) := by
 obtain rfl | rfl | rfl := zc6 hi <;> obtain rfl | rfl | rfl := zc6 hk
 ·have t1 := zam (x 4) (x 8)
  have t2 := zam (x 5) (x 7)
  have t3 := zbj (tW (x 4) (x 8)) (tW (x 5) (x 7))
  refine ⟨[some ⟨[.b (decide ((sW (tW (x 4) (x 8)) (tW (x 5) (x 7))).v < 0)), D (sW (tW (x 4) (x 8)) (tW (x 5) (x 7))).v.natAbs], true, 1⟩], ?_⟩
  show pcl E0 318 [.i .i64 0, .i .i64 0, .p 0 0] (some ⟨cW x, true, 0⟩ :: b :: G) = some (wiP (sW (tW (x 4) (x 8)) (tW (x 5) (x 7))), some ⟨cW x, true, 0⟩ :: b :: (G ++ [some ⟨[.b (decide ((sW (tW (x 4) (x 8)) (tW (x 5) (x 7))).v < 0)), D (sW (tW (x 4) (x 8)) (tW (x 5) (x 7))).v.natAbs], true, 1⟩]))
  refine zbq (xf := x_proj_adjoint_1) rfl rfl (by simp [x_proj_adjoint_1]) ?_
  simp only [x_proj_adjoint_1]
  simp (disch := omega) only [go_sem, seval, wqq]
  refine zah [39, 45] rfl ?_ ?_
  ·simp (disch := omega) only [go_sem, seval, wqq, zae, t1, t2, t3, mG, mG0, sG, sG0, lG, lqq]
   exact ⟨_, rfl, rfl⟩
  simp (disch := omega) only [go_sem, seval, wqq, zae, t1, t2, t3, mG, mG0, sG, sG0, lG, lqq]
 ·have t1 := zam (x 5) (x 6)
  have t2 := zam (x 3) (x 8)
  have t3 := zbj (tW (x 5) (x 6)) (tW (x 3) (x 8))
  refine ⟨[some ⟨[.b (decide ((sW (tW (x 5) (x 6)) (tW (x 3) (x 8))).v < 0)), D (sW (tW (x 5) (x 6)) (tW (x 3) (x 8))).v.natAbs], true, 1⟩], ?_⟩
  show pcl E0 318 [.i .i64 0, .i .i64 1, .p 0 0] (some ⟨cW x, true, 0⟩ :: b :: G) = some (wiP (sW (tW (x 5) (x 6)) (tW (x 3) (x 8))), some ⟨cW x, true, 0⟩ :: b :: (G ++ [some ⟨[.b (decide ((sW (tW (x 5) (x 6)) (tW (x 3) (x 8))).v < 0)), D (sW (tW (x 5) (x 6)) (tW (x 3) (x 8))).v.natAbs], true, 1⟩]))
  refine zbq (xf := x_proj_adjoint_1) rfl rfl (by simp [x_proj_adjoint_1]) ?_
  simp only [x_proj_adjoint_1]
  simp (disch := omega) only [go_sem, seval, wqq]
  refine zah [39, 45] rfl ?_ ?_
  ·simp (disch := omega) only [go_sem, seval, wqq, zae, t1, t2, t3, mG, mG0, sG, sG0, lG, lqq]
   exact ⟨_, rfl, rfl⟩
  simp (disch := omega) only [go_sem, seval, wqq, zae, t1, t2, t3, mG, mG0, sG, sG0, lG, lqq]
 ·have t1 := zam (x 3) (x 7)
  have t2 := zam (x 4) (x 6)
  have t3 := zbj (tW (x 3) (x 7)) (tW (x 4) (x 6))
  refine ⟨[some ⟨[.b (decide ((sW (tW (x 3) (x 7)) (tW (x 4) (x 6))).v < 0)), D (sW (tW (x 3) (x 7)) (tW (x 4) (x 6))).v.natAbs], true, 1⟩], ?_⟩
  show pcl E0 318 [.i .i64 0, .i .i64 2, .p 0 0] (some ⟨cW x, true, 0⟩ :: b :: G) = some (wiP (sW (tW (x 3) (x 7)) (tW (x 4) (x 6))), some ⟨cW x, true, 0⟩ :: b :: (G ++ [some ⟨[.b (decide ((sW (tW (x 3) (x 7)) (tW (x 4) (x 6))).v < 0)), D (sW (tW (x 3) (x 7)) (tW (x 4) (x 6))).v.natAbs], true, 1⟩]))
  refine zbq (xf := x_proj_adjoint_1) rfl rfl (by simp [x_proj_adjoint_1]) ?_
  simp only [x_proj_adjoint_1]
  simp (disch := omega) only [go_sem, seval, wqq]
  refine zah [39, 45] rfl ?_ ?_
  ·simp (disch := omega) only [go_sem, seval, wqq, zae, t1, t2, t3, mG, mG0, sG, sG0, lG, lqq]
   exact ⟨_, rfl, rfl⟩
  simp (disch := omega) only [go_sem, seval, wqq, zae, t1, t2, t3, mG, mG0, sG, sG0, lG, lqq]
 ·have t1 := zam (x 7) (x 2)
  have t2 := zam (x 8) (x 1)
  have t3 := zbj (tW (x 7) (x 2)) (tW (x 8) (x 1))
  refine ⟨[some ⟨[.b (decide ((sW (tW (x 7) (x 2)) (tW (x 8) (x 1))).v < 0)), D (sW (tW (x 7) (x 2)) (tW (x 8) (x 1))).v.natAbs], true, 1⟩], ?_⟩
  show pcl E0 318 [.i .i64 1, .i .i64 0, .p 0 0] (some ⟨cW x, true, 0⟩ :: b :: G) = some (wiP (sW (tW (x 7) (x 2)) (tW (x 8) (x 1))), some ⟨cW x, true, 0⟩ :: b :: (G ++ [some ⟨[.b (decide ((sW (tW (x 7) (x 2)) (tW (x 8) (x 1))).v < 0)), D (sW (tW (x 7) (x 2)) (tW (x 8) (x 1))).v.natAbs], true, 1⟩]))
  refine zbq (xf := x_proj_adjoint_1) rfl rfl (by simp [x_proj_adjoint_1]) ?_
  simp only [x_proj_adjoint_1]
  simp (disch := omega) only [go_sem, seval, wqq]
  refine zah [39, 45] rfl ?_ ?_
  ·simp (disch := omega) only [go_sem, seval, wqq, zae, t1, t2, t3, mG, mG0, sG, sG0, lG, lqq]
   exact ⟨_, rfl, rfl⟩
  simp (disch := omega) only [go_sem, seval, wqq, zae, t1, t2, t3, mG, mG0, sG, sG0, lG, lqq]
 ·have t1 := zam (x 8) (x 0)
  have t2 := zam (x 6) (x 2)
  have t3 := zbj (tW (x 8) (x 0)) (tW (x 6) (x 2))
  refine ⟨[some ⟨[.b (decide ((sW (tW (x 8) (x 0)) (tW (x 6) (x 2))).v < 0)), D (sW (tW (x 8) (x 0)) (tW (x 6) (x 2))).v.natAbs], true, 1⟩], ?_⟩
  show pcl E0 318 [.i .i64 1, .i .i64 1, .p 0 0] (some ⟨cW x, true, 0⟩ :: b :: G) = some (wiP (sW (tW (x 8) (x 0)) (tW (x 6) (x 2))), some ⟨cW x, true, 0⟩ :: b :: (G ++ [some ⟨[.b (decide ((sW (tW (x 8) (x 0)) (tW (x 6) (x 2))).v < 0)), D (sW (tW (x 8) (x 0)) (tW (x 6) (x 2))).v.natAbs], true, 1⟩]))
  refine zbq (xf := x_proj_adjoint_1) rfl rfl (by simp [x_proj_adjoint_1]) ?_
  simp only [x_proj_adjoint_1]
  simp (disch := omega) only [go_sem, seval, wqq]
  refine zah [39, 45] rfl ?_ ?_
  ·simp (disch := omega) only [go_sem, seval, wqq, zae, t1, t2, t3, mG, mG0, sG, sG0, lG, lqq]
   exact ⟨_, rfl, rfl⟩
  simp (disch := omega) only [go_sem, seval, wqq, zae, t1, t2, t3, mG, mG0, sG, sG0, lG, lqq]
 ·have t1 := zam (x 6) (x 1)
  have t2 := zam (x 7) (x 0)
  have t3 := zbj (tW (x 6) (x 1)) (tW (x 7) (x 0))
  refine ⟨[some ⟨[.b (decide ((sW (tW (x 6) (x 1)) (tW (x 7) (x 0))).v < 0)), D (sW (tW (x 6) (x 1)) (tW (x 7) (x 0))).v.natAbs], true, 1⟩], ?_⟩
  show pcl E0 318 [.i .i64 1, .i .i64 2, .p 0 0] (some ⟨cW x, true, 0⟩ :: b :: G) = some (wiP (sW (tW (x 6) (x 1)) (tW (x 7) (x 0))), some ⟨cW x, true, 0⟩ :: b :: (G ++ [some ⟨[.b (decide ((sW (tW (x 6) (x 1)) (tW (x 7) (x 0))).v < 0)), D (sW (tW (x 6) (x 1)) (tW (x 7) (x 0))).v.natAbs], true, 1⟩]))
  refine zbq (xf := x_proj_adjoint_1) rfl rfl (by simp [x_proj_adjoint_1]) ?_
  simp only [x_proj_adjoint_1]
  simp (disch := omega) only [go_sem, seval, wqq]
  refine zah [39, 45] rfl ?_ ?_
  ·simp (disch := omega) only [go_sem, seval, wqq, zae, t1, t2, t3, mG, mG0, sG, sG0, lG, lqq]
   exact ⟨_, rfl, rfl⟩
  simp (disch := omega) only [go_sem, seval, wqq, zae, t1, t2, t3, mG, mG0, sG, sG0, lG, lqq]
 ·have t1 := zam (x 1) (x 5)
  have t2 := zam (x 2) (x 4)
  have t3 := zbj (tW (x 1) (x 5)) (tW (x 2) (x 4))
  refine ⟨[some ⟨[.b (decide ((sW (tW (x 1) (x 5)) (tW (x 2) (x 4))).v < 0)), D (sW (tW (x 1) (x 5)) (tW (x 2) (x 4))).v.natAbs], true, 1⟩], ?_⟩
  show pcl E0 318 [.i .i64 2, .i .i64 0, .p 0 0] (some ⟨cW x, true, 0⟩ :: b :: G) = some (wiP (sW (tW (x 1) (x 5)) (tW (x 2) (x 4))), some ⟨cW x, true, 0⟩ :: b :: (G ++ [some ⟨[.b (decide ((sW (tW (x 1) (x 5)) (tW (x 2) (x 4))).v < 0)), D (sW (tW (x 1) (x 5)) (tW (x 2) (x 4))).v.natAbs], true, 1⟩]))
  refine zbq (xf := x_proj_adjoint_1) rfl rfl (by simp [x_proj_adjoint_1]) ?_
  simp only [x_proj_adjoint_1]
  simp (disch := omega) only [go_sem, seval, wqq]
  refine zah [39, 45] rfl ?_ ?_
  ·simp (disch := omega) only [go_sem, seval, wqq, zae, t1, t2, t3, mG, mG0, sG, sG0, lG, lqq]
   exact ⟨_, rfl, rfl⟩
  simp (disch := omega) only [go_sem, seval, wqq, zae, t1, t2, t3, mG, mG0, sG, sG0, lG, lqq]
 ·have t1 := zam (x 2) (x 3)
  have t2 := zam (x 0) (x 5)
  have t3 := zbj (tW (x 2) (x 3)) (tW (x 0) (x 5))
  refine ⟨[some ⟨[.b (decide ((sW (tW (x 2) (x 3)) (tW (x 0) (x 5))).v < 0)), D (sW (tW (x 2) (x 3)) (tW (x 0) (x 5))).v.natAbs], true, 1⟩], ?_⟩
  show pcl E0 318 [.i .i64 2, .i .i64 1, .p 0 0] (some ⟨cW x, true, 0⟩ :: b :: G) = some (wiP (sW (tW (x 2) (x 3)) (tW (x 0) (x 5))), some ⟨cW x, true, 0⟩ :: b :: (G ++ [some ⟨[.b (decide ((sW (tW (x 2) (x 3)) (tW (x 0) (x 5))).v < 0)), D (sW (tW (x 2) (x 3)) (tW (x 0) (x 5))).v.natAbs], true, 1⟩]))
  refine zbq (xf := x_proj_adjoint_1) rfl rfl (by simp [x_proj_adjoint_1]) ?_
  simp only [x_proj_adjoint_1]
  simp (disch := omega) only [go_sem, seval, wqq]
  refine zah [39, 45] rfl ?_ ?_
  ·simp (disch := omega) only [go_sem, seval, wqq, zae, t1, t2, t3, mG, mG0, sG, sG0, lG, lqq]
   exact ⟨_, rfl, rfl⟩
  simp (disch := omega) only [go_sem, seval, wqq, zae, t1, t2, t3, mG, mG0, sG, sG0, lG, lqq]
 ·have t1 := zam (x 0) (x 4)
  have t2 := zam (x 1) (x 3)
  have t3 := zbj (tW (x 0) (x 4)) (tW (x 1) (x 3))
  refine ⟨[some ⟨[.b (decide ((sW (tW (x 0) (x 4)) (tW (x 1) (x 3))).v < 0)), D (sW (tW (x 0) (x 4)) (tW (x 1) (x 3))).v.natAbs], true, 1⟩], ?_⟩
  show pcl E0 318 [.i .i64 2, .i .i64 2, .p 0 0] (some ⟨cW x, true, 0⟩ :: b :: G) = some (wiP (sW (tW (x 0) (x 4)) (tW (x 1) (x 3))), some ⟨cW x, true, 0⟩ :: b :: (G ++ [some ⟨[.b (decide ((sW (tW (x 0) (x 4)) (tW (x 1) (x 3))).v < 0)), D (sW (tW (x 0) (x 4)) (tW (x 1) (x 3))).v.natAbs], true, 1⟩]))
  refine zbq (xf := x_proj_adjoint_1) rfl rfl (by simp [x_proj_adjoint_1]) ?_
  simp only [x_proj_adjoint_1]
  simp (disch := omega) only [go_sem, seval, wqq]
  refine zah [39, 45] rfl ?_ ?_
  ·simp (disch := omega) only [go_sem, seval, wqq, zae, t1, t2, t3, mG, mG0, sG, sG0, lG, lqq]
   exact ⟨_, rfl, rfl⟩
  simp (disch := omega) only [go_sem, seval, wqq, zae, t1, t2, t3, mG, mG0, sG, sG0, lG, lqq]
noncomputable def adW (x : Nat → WI) : Nat → WI := fun e => mnW x (e % 3) (e / 3)
end Go.Eng
namespace Go.Eng
noncomputable def cS (s : Nat → Bool) (w : Nat → WI) : List PV := [if s 0 then .b (decide ((w 0).v < 0)) else .b false, if s 0 then D (w 0).v.natAbs else .nl, if s 1 then .b (decide ((w 1).v < 0)) else .b false, if s 1 then D (w 1).v.natAbs else .nl, if s 2 then .b (decide ((w 2).v < 0)) else .b false, if s 2 then D (w 2).v.natAbs else .nl, if s 3 then .b (decide ((w 3).v < 0)) else .b false, if s 3 then D (w 3).v.natAbs else .nl, if s 4 then .b (decide ((w 4).v < 0)) else .b false, if s 4 then D (w 4).v.natAbs else .nl, if s 5 then .b (decide ((w 5).v < 0)) else .b false, if s 5 then D (w 5).v.natAbs else .nl, if s 6 then .b (decide ((w 6).v < 0)) else .b false, if s 6 then D (w 6).v.natAbs else .nl, if s 7 then .b (decide ((w 7).v < 0)) else .b false, if s 7 then D (w 7).v.natAbs else .nl, if s 8 then .b (decide ((w 8).v < 0)) else .b false, if s 8 then D (w 8).v.natAbs else .nl]
theorem zao (s : Nat → Bool) (w : Nat → WI) : cS s w = [if s 0 then .b (decide ((w 0).v < 0)) else .b false, if s 0 then D (w 0).v.natAbs else .nl, if s 1 then .b (decide ((w 1).v < 0)) else .b false, if s 1 then D (w 1).v.natAbs else .nl, if s 2 then .b (decide ((w 2).v < 0)) else .b false, if s 2 then D (w 2).v.natAbs else .nl, if s 3 then .b (decide ((w 3).v < 0)) else .b false, if s 3 then D (w 3).v.natAbs else .nl, if s 4 then .b (decide ((w 4).v < 0)) else .b false, if s 4 then D (w 4).v.natAbs else .nl, if s 5 then .b (decide ((w 5).v < 0)) else .b false, if s 5 then D (w 5).v.natAbs else .nl, if s 6 then .b (decide ((w 6).v < 0)) else .b false, if s 6 then D (w 6).v.natAbs else .nl, if s 7 then .b (decide ((w 7).v < 0)) else .b false, if s 7 then D (w 7).v.natAbs else .nl, if s 8 then .b (decide ((w 8).v < 0)) else .b false, if s 8 then D (w 8).v.natAbs else .nl] := _root_.id rfl
@[go_sem] theorem zsw (s : Nat → Bool) (w : Nat → WI) : (cS s w).length = 18 := _root_.id rfl
def sA (n : Nat) : Nat → Bool := fun e => decide (3 * (e % 3) + e / 3 < n)
set_option maxHeartbeats 2000000 in
theorem zli (x : Nat → WI) : pf E0 311 [mW x] = some (mW (adW x)) := by
 refine zac (xf := x_proj_adjoint) rfl (by simp [x_proj_adjoint]) ?_
 simp only [x_proj_adjoint]
 simp (disch := omega) only [go_sem, seval, wqq]
 refine zar x_proj_adjoint_l1.eq_1 (fun (i : Nat) fr M => i ≤ 3 ∧ fr 2 = .p 1 0 ∧ fr 3 = .fn 318 [.p 0 0] ∧ fr 4 = .p 2 0 ∧ fr 8 = (PV.i .i64 ((i : Nat) : Int)) ∧ ∃ b v G, M = some ⟨cW x, true, 0⟩ :: some ⟨cP 0 zW, true, b⟩ :: some ⟨cS (sA (3 * i)) (adW x), true, v⟩ :: G) (fun i => 3 - i) ?_ 0 ⟨by omega, by simp only [go_sem, seval], by simp only [go_sem, seval], by simp only [go_sem, seval], by simp only [go_sem, seval], _, _, _, rfl⟩
 rintro i fr M ⟨hi, f2, f3, f4, f8, b, v, G, rfl⟩ ih
 rcases Nat.lt_or_ge i 3 with h3 | h3
 ·have q1 : ((i : Int) < 3) = True := eq_true (by omega)
  simp (disch := omega) only [go_sem, seval, wqq, f2, f3, f4, f8, q1]
  refine zar x_proj_adjoint_l2.eq_1 (fun (k : Nat) fr M => k ≤ 3 ∧ fr 2 = .p 1 0 ∧ fr 3 = .fn 318 [.p 0 0] ∧ fr 4 = .p 2 0 ∧ fr 8 = (PV.i .i64 ((i : Nat) : Int)) ∧ fr 5 = (PV.i .i64 ((i : Nat) : Int)) ∧ fr 11 = (PV.i .i64 ((k : Nat) : Int)) ∧ ∃ b v G, M = some ⟨cW x, true, 0⟩ :: some ⟨cP 0 zW, true, b⟩ :: some ⟨cS (sA (3 * i + k)) (adW x), true, v⟩ :: G) (fun k => 3 - k) ?_ 0 ⟨by omega, by simp only [go_sem, seval, f2], by simp only [go_sem, seval, f3], by simp only [go_sem, seval, f4], by simp only [go_sem, seval, f8], by simp only [go_sem, seval], by simp only [go_sem, seval], _, _, _, rfl⟩
  rintro k fr M ⟨hk, f2, f3, f4, f8, f5, f11, b, v, G, rfl⟩ ih2
  rcases Nat.lt_or_ge k 3 with h4 | h4
  ·obtain ⟨G', mn⟩ := zlo x h3 h4 (some ⟨cP 0 zW, true, b⟩) (some ⟨cS (sA (3 * i + k)) (adW x), true, v⟩ :: G)
   have q2 : ((k : Int) < 3) = True := eq_true (by omega)
   obtain rfl | rfl | rfl := zc6 h3 <;> obtain rfl | rfl | rfl := zc6 h4
   ·have mn : pcl E0 318 [.i .i64 0, .i .i64 0, .p 0 0] _ = _ := mn
    simp (disch := omega) only [go_sem, seval, wqq, f2, f3, f4, f8, f5, f11, mn]
    exact ih2 1 _ _ (by omega) ⟨by omega, by simp only [go_sem, seval, f2], by simp only [go_sem, seval, f3], by simp only [go_sem, seval, f4], by simp only [go_sem, seval, f8], by simp only [go_sem, seval, f5], by simp only [go_sem, seval], _, _, _, rfl⟩
   ·have mn : pcl E0 318 [.i .i64 0, .i .i64 1, .p 0 0] _ = _ := mn
    simp (disch := omega) only [go_sem, seval, wqq, f2, f3, f4, f8, f5, f11, mn]
    exact ih2 2 _ _ (by omega) ⟨by omega, by simp only [go_sem, seval, f2], by simp only [go_sem, seval, f3], by simp only [go_sem, seval, f4], by simp only [go_sem, seval, f8], by simp only [go_sem, seval, f5], by simp only [go_sem, seval], _, _, _, rfl⟩
   ·have mn : pcl E0 318 [.i .i64 0, .i .i64 2, .p 0 0] _ = _ := mn
    simp (disch := omega) only [go_sem, seval, wqq, f2, f3, f4, f8, f5, f11, mn]
    exact ih2 3 _ _ (by omega) ⟨by omega, by simp only [go_sem, seval, f2], by simp only [go_sem, seval, f3], by simp only [go_sem, seval, f4], by simp only [go_sem, seval, f8], by simp only [go_sem, seval, f5], by simp only [go_sem, seval], _, _, _, rfl⟩
   ·have mn : pcl E0 318 [.i .i64 1, .i .i64 0, .p 0 0] _ = _ := mn
    simp (disch := omega) only [go_sem, seval, wqq, f2, f3, f4, f8, f5, f11, mn]
    exact ih2 1 _ _ (by omega) ⟨by omega, by simp only [go_sem, seval, f2], by simp only [go_sem, seval, f3], by simp only [go_sem, seval, f4], by simp only [go_sem, seval, f8], by simp only [go_sem, seval, f5], by simp only [go_sem, seval], _, _, _, rfl⟩
   ·have mn : pcl E0 318 [.i .i64 1, .i .i64 1, .p 0 0] _ = _ := mn
    simp (disch := omega) only [go_sem, seval, wqq, f2, f3, f4, f8, f5, f11, mn]
    exact ih2 2 _ _ (by omega) ⟨by omega, by simp only [go_sem, seval, f2], by simp only [go_sem, seval, f3], by simp only [go_sem, seval, f4], by simp only [go_sem, seval, f8], by simp only [go_sem, seval, f5], by simp only [go_sem, seval], _, _, _, rfl⟩
   ·have mn : pcl E0 318 [.i .i64 1, .i .i64 2, .p 0 0] _ = _ := mn
    simp (disch := omega) only [go_sem, seval, wqq, f2, f3, f4, f8, f5, f11, mn]
    exact ih2 3 _ _ (by omega) ⟨by omega, by simp only [go_sem, seval, f2], by simp only [go_sem, seval, f3], by simp only [go_sem, seval, f4], by simp only [go_sem, seval, f8], by simp only [go_sem, seval, f5], by simp only [go_sem, seval], _, _, _, rfl⟩
   ·have mn : pcl E0 318 [.i .i64 2, .i .i64 0, .p 0 0] _ = _ := mn
    simp (disch := omega) only [go_sem, seval, wqq, f2, f3, f4, f8, f5, f11, mn]
    exact ih2 1 _ _ (by omega) ⟨by omega, by simp only [go_sem, seval, f2], by simp only [go_sem, seval, f3], by simp only [go_sem, seval, f4], by simp only [go_sem, seval, f8], by simp only [go_sem, seval, f5], by simp only [go_sem, seval], _, _, _, rfl⟩
   ·have mn : pcl E0 318 [.i .i64 2, .i .i64 1, .p 0 0] _ = _ := mn
    simp (disch := omega) only [go_sem, seval, wqq, f2, f3, f4, f8, f5, f11, mn]
    exact ih2 2 _ _ (by omega) ⟨by omega, by simp only [go_sem, seval, f2], by simp only [go_sem, seval, f3], by simp only [go_sem, seval, f4], by simp only [go_sem, seval, f8], by simp only [go_sem, seval, f5], by simp only [go_sem, seval], _, _, _, rfl⟩
   ·have mn : pcl E0 318 [.i .i64 2, .i .i64 2, .p 0 0] _ = _ := mn
    simp (disch := omega) only [go_sem, seval, wqq, f2, f3, f4, f8, f5, f11, mn]
    exact ih2 3 _ _ (by omega) ⟨by omega, by simp only [go_sem, seval, f2], by simp only [go_sem, seval, f3], by simp only [go_sem, seval, f4], by simp only [go_sem, seval, f8], by simp only [go_sem, seval, f5], by simp only [go_sem, seval], _, _, _, rfl⟩
  ·obtain rfl : k = 3 := by omega
   simp (disch := omega) only [go_sem, seval, wqq, f2, f3, f4, f8, f5, f11]
   exact ih (i + 1) _ _ (by omega) ⟨by omega, by simp only [go_sem, seval, f2], by simp only [go_sem, seval, f3], by simp only [go_sem, seval, f4], by simp only [go_sem, seval]; rw [Int.natCast_succ], b, v, G, rfl⟩
 ·obtain rfl : i = 3 := by omega
  have c9 : cS (sA (3 * 3)) (adW x) = cW (adW x) := rfl
  simp (disch := omega) only [go_sem, seval, wqq, f2, f3, f4, f8, c9]
noncomputable def dtW (x : Nat → WI) : WI := aW (aW (tW (x 0) (adW x 0)) (tW (x 1) (adW x 3))) (tW (x 2) (adW x 6))
theorem ze4 (x : Nat → WI) : pf E0 306 [mW x] = some (wiP (dtW x)) := by
 have ha := zli x
 unfold dtW
 generalize adW x = a at *
 have t1 := zam (x 0) (a 0)
 have t2 := zam (x 1) (a 3)
 have t3 := zam (x 2) (a 6)
 generalize tW (x 0) (a 0) = u1 at *
 generalize tW (x 1) (a 3) = u2 at *
 generalize tW (x 2) (a 6) = u3 at *
 have t4 := zaw u1 u2
 generalize aW u1 u2 = u4 at *
 have t5 := zaw u4 u3
 refine zac (xf := x_proj_det) rfl (by simp [x_proj_det]) ?_
 simp only [x_proj_det]
 simp (disch := omega) only [go_sem, seval, wqq, ha]
 refine zah [11, 13, 17, 19] rfl ?_ ?_
 ·simp (disch := omega) only [go_sem, seval, wqq, zae, t1, t2, t3, t4, t5]
  exact ⟨_, rfl, rfl⟩
 simp (disch := omega) only [go_sem, seval, wqq, zae, t1, t2, t3, t4, t5]
def okP (p : Nat → Int) : Prop := ∀ e, e < 9 → -1073741824 ≤ p e ∧ p e ≤ 1073741824
open Classical in
noncomputable def vlP (p : Nat → Int) : Int := if okP p then (if (dtW (ofW p)).v = 0 then 10 else 0) else 1
set_option maxHeartbeats 2000000 in
theorem zcP {p : Nat → Int} (hp : ∀ e, Fits64 (p e)) : pf E0 302 [pI p] = some (.i .i64 (vlP p)) := by
 have hm := zgZ hp
 have hd := ze4 (ofW p)
 have sg := zbX (dtW (ofW p))
 have bad : ∀ e, e < 9 → ¬ (-1073741824 ≤ p e ∧ p e ≤ 1073741824) → vlP p = 1 := fun e he h => by unfold vlP; rw [if_neg fun q => h (q e he)]
 have good : okP p → vlP p = if (dtW (ofW p)).v = 0 then 10 else 0 := fun h => by unfold vlP; rw [if_pos h]
 generalize vlP p = V at *
 generalize dtW (ofW p) = dt at *
 refine zac (xf := x_proj_Valid) rfl (by simp [x_proj_Valid]) ?_
 simp only [x_proj_Valid]
 simp (disch := omega) only [go_sem, seval, wqq]
 refine zar x_proj_Valid_l1.eq_1 (fun (i : Nat) fr M => i ≤ 9 ∧ (∀ e, e < i → -1073741824 ≤ p e ∧ p e ≤ 1073741824) ∧ fr 1 = .p 0 0 ∧ fr 6 = pI p ∧ fr 7 = (PV.i .i64 ((i : Nat) : Int)) ∧ M = [some ⟨cI p, true, 0⟩]) (fun i => 9 - i) ?_ 0 ⟨by omega, fun e he => by omega, by simp only [go_sem, seval], by simp only [go_sem, seval], by simp only [go_sem, seval], rfl⟩
 rintro i fr M ⟨hi, hlo, f1, f6, f7, rfl⟩ ih
 rcases Nat.lt_or_ge i 9 with h9 | h9
 ·have nxt : ∀ j, (-1073741824 ≤ p j ∧ p j ≤ 1073741824) → j = i → ∀ e, e < j + 1 → -1073741824 ≤ p e ∧ p e ≤ 1073741824 := fun j hj hji e he => by
   subst hji
   rcases Nat.lt_or_ge e j with h | h
   ·exact hlo e h
   ·obtain rfl : e = j := by omega
    exact hj
  obtain rfl | rfl | rfl | rfl | rfl | rfl | rfl | rfl | rfl := zch h9
  ·have hpe := hp 0
   unfold Fits64 at hpe
   rcases zbu (p 0 < -1073741824) with t1 | t1
   ·rw [bad 0 (by decide) (by have := of_eq_true t1; omega)]
    simp (disch := omega) only [go_sem, seval, wqq, f1, f6, f7, pI, zag, t1]
   ·rcases zbu (p 0 > 1073741824) with t2 | t2
    ·rw [bad 0 (by decide) (by have := of_eq_true t2; omega)]
     simp (disch := omega) only [go_sem, seval, wqq, f1, f6, f7, pI, zag, t1, t2]
    ·have u1 := of_eq_false t1
     have u2 := of_eq_false t2
     simp (disch := omega) only [go_sem, seval, wqq, f1, f6, f7, pI, zag, t1, t2]
     exact ih 1 _ _ (by omega) ⟨by omega, nxt 0 (by omega) rfl, by simp only [go_sem, seval, f1], by simp only [go_sem, seval, f6], by simp only [go_sem, seval], rfl⟩
  ·have hpe := hp 1
   unfold Fits64 at hpe
   rcases zbu (p 1 < -1073741824) with t1 | t1
   ·rw [bad 1 (by decide) (by have := of_eq_true t1; omega)]
    simp (disch := omega) only [go_sem, seval, wqq, f1, f6, f7, pI, zag, t1]
   ·rcases zbu (p 1 > 1073741824) with t2 | t2
    ·rw [bad 1 (by decide) (by have := of_eq_true t2; omega)]
     simp (disch := omega) only [go_sem, seval, wqq, f1, f6, f7, pI, zag, t1, t2]
    ·have u1 := of_eq_false t1
     have u2 := of_eq_false t2
     simp (disch := omega) only [go_sem, seval, wqq, f1, f6, f7, pI, zag, t1, t2]
     exact ih 2 _ _ (by omega) ⟨by omega, nxt 1 (by omega) rfl, by simp only [go_sem, seval, f1], by simp only [go_sem, seval, f6], by simp only [go_sem, seval], rfl⟩
  ·have hpe := hp 2
   unfold Fits64 at hpe
   rcases zbu (p 2 < -1073741824) with t1 | t1
   ·rw [bad 2 (by decide) (by have := of_eq_true t1; omega)]
    simp (disch := omega) only [go_sem, seval, wqq, f1, f6, f7, pI, zag, t1]
   ·rcases zbu (p 2 > 1073741824) with t2 | t2
    ·rw [bad 2 (by decide) (by have := of_eq_true t2; omega)]
     simp (disch := omega) only [go_sem, seval, wqq, f1, f6, f7, pI, zag, t1, t2]
    ·have u1 := of_eq_false t1
     have u2 := of_eq_false t2
     simp (disch := omega) only [go_sem, seval, wqq, f1, f6, f7, pI, zag, t1, t2]
     exact ih 3 _ _ (by omega) ⟨by omega, nxt 2 (by omega) rfl, by simp only [go_sem, seval, f1], by simp only [go_sem, seval, f6], by simp only [go_sem, seval], rfl⟩
  ·have hpe := hp 3
   unfold Fits64 at hpe
   rcases zbu (p 3 < -1073741824) with t1 | t1
   ·rw [bad 3 (by decide) (by have := of_eq_true t1; omega)]
    simp (disch := omega) only [go_sem, seval, wqq, f1, f6, f7, pI, zag, t1]
   ·rcases zbu (p 3 > 1073741824) with t2 | t2
    ·rw [bad 3 (by decide) (by have := of_eq_true t2; omega)]
     simp (disch := omega) only [go_sem, seval, wqq, f1, f6, f7, pI, zag, t1, t2]
    ·have u1 := of_eq_false t1
     have u2 := of_eq_false t2
     simp (disch := omega) only [go_sem, seval, wqq, f1, f6, f7, pI, zag, t1, t2]
     exact ih 4 _ _ (by omega) ⟨by omega, nxt 3 (by omega) rfl, by simp only [go_sem, seval, f1], by simp only [go_sem, seval, f6], by simp only [go_sem, seval], rfl⟩
  ·have hpe := hp 4
   unfold Fits64 at hpe
   rcases zbu (p 4 < -1073741824) with t1 | t1
   ·rw [bad 4 (by decide) (by have := of_eq_true t1; omega)]
    simp (disch := omega) only [go_sem, seval, wqq, f1, f6, f7, pI, zag, t1]
   ·rcases zbu (p 4 > 1073741824) with t2 | t2
    ·rw [bad 4 (by decide) (by have := of_eq_true t2; omega)]
     simp (disch := omega) only [go_sem, seval, wqq, f1, f6, f7, pI, zag, t1, t2]
    ·have u1 := of_eq_false t1
     have u2 := of_eq_false t2
     simp (disch := omega) only [go_sem, seval, wqq, f1, f6, f7, pI, zag, t1, t2]
     exact ih 5 _ _ (by omega) ⟨by omega, nxt 4 (by omega) rfl, by simp only [go_sem, seval, f1], by simp only [go_sem, seval, f6], by simp only [go_sem, seval], rfl⟩
  ·have hpe := hp 5
   unfold Fits64 at hpe
   rcases zbu (p 5 < -1073741824) with t1 | t1
   ·rw [bad 5 (by decide) (by have := of_eq_true t1; omega)]
    simp (disch := omega) only [go_sem, seval, wqq, f1, f6, f7, pI, zag, t1]
   ·rcases zbu (p 5 > 1073741824) with t2 | t2
    ·rw [bad 5 (by decide) (by have := of_eq_true t2; omega)]
     simp (disch := omega) only [go_sem, seval, wqq, f1, f6, f7, pI, zag, t1, t2]
    ·have u1 := of_eq_false t1
     have u2 := of_eq_false t2
     simp (disch := omega) only [go_sem, seval, wqq, f1, f6, f7, pI, zag, t1, t2]
     exact ih 6 _ _ (by omega) ⟨by omega, nxt 5 (by omega) rfl, by simp only [go_sem, seval, f1], by simp only [go_sem, seval, f6], by simp only [go_sem, seval], rfl⟩
  ·have hpe := hp 6
   unfold Fits64 at hpe
   rcases zbu (p 6 < -1073741824) with t1 | t1
   ·rw [bad 6 (by decide) (by have := of_eq_true t1; omega)]
    simp (disch := omega) only [go_sem, seval, wqq, f1, f6, f7, pI, zag, t1]
   ·rcases zbu (p 6 > 1073741824) with t2 | t2
    ·rw [bad 6 (by decide) (by have := of_eq_true t2; omega)]
     simp (disch := omega) only [go_sem, seval, wqq, f1, f6, f7, pI, zag, t1, t2]
    ·have u1 := of_eq_false t1
     have u2 := of_eq_false t2
     simp (disch := omega) only [go_sem, seval, wqq, f1, f6, f7, pI, zag, t1, t2]
     exact ih 7 _ _ (by omega) ⟨by omega, nxt 6 (by omega) rfl, by simp only [go_sem, seval, f1], by simp only [go_sem, seval, f6], by simp only [go_sem, seval], rfl⟩
  ·have hpe := hp 7
   unfold Fits64 at hpe
   rcases zbu (p 7 < -1073741824) with t1 | t1
   ·rw [bad 7 (by decide) (by have := of_eq_true t1; omega)]
    simp (disch := omega) only [go_sem, seval, wqq, f1, f6, f7, pI, zag, t1]
   ·rcases zbu (p 7 > 1073741824) with t2 | t2
    ·rw [bad 7 (by decide) (by have := of_eq_true t2; omega)]
     simp (disch := omega) only [go_sem, seval, wqq, f1, f6, f7, pI, zag, t1, t2]
    ·have u1 := of_eq_false t1
     have u2 := of_eq_false t2
     simp (disch := omega) only [go_sem, seval, wqq, f1, f6, f7, pI, zag, t1, t2]
     exact ih 8 _ _ (by omega) ⟨by omega, nxt 7 (by omega) rfl, by simp only [go_sem, seval, f1], by simp only [go_sem, seval, f6], by simp only [go_sem, seval], rfl⟩
  ·have hpe := hp 8
   unfold Fits64 at hpe
   rcases zbu (p 8 < -1073741824) with t1 | t1
   ·rw [bad 8 (by decide) (by have := of_eq_true t1; omega)]
    simp (disch := omega) only [go_sem, seval, wqq, f1, f6, f7, pI, zag, t1]
   ·rcases zbu (p 8 > 1073741824) with t2 | t2
    ·rw [bad 8 (by decide) (by have := of_eq_true t2; omega)]
     simp (disch := omega) only [go_sem, seval, wqq, f1, f6, f7, pI, zag, t1, t2]
    ·have u1 := of_eq_false t1
     have u2 := of_eq_false t2
     simp (disch := omega) only [go_sem, seval, wqq, f1, f6, f7, pI, zag, t1, t2]
     exact ih 9 _ _ (by omega) ⟨by omega, nxt 8 (by omega) rfl, by simp only [go_sem, seval, f1], by simp only [go_sem, seval, f6], by simp only [go_sem, seval], rfl⟩
 ·obtain rfl : i = 9 := by omega
  rw [good hlo]
  by_cases h0 : dt.v = 0
  ·have c0 : (cmpI dt.v 0 = 0) = True := by rw [zaT]; simp [h0]
   rw [if_pos h0]
   simp (disch := omega) only [go_sem, seval, wqq, f1, f6, f7, hm, hd, sg, c0]
  ·have c0 : (cmpI dt.v 0 = 0) = False := by rw [zaT]; simp [h0]
   rw [if_neg h0]
   simp (disch := omega) only [go_sem, seval, wqq, f1, f6, f7, hm, hd, sg, c0]
end Go.Eng
namespace Go.Eng
def gN (X : Nat → Int) : Nat → Nat
 | 0 => 0
 | i + 1 => Nat.gcd (gN X i) (X i).natAbs
def fN (X : Nat → Int) : Nat → Int
 | 0 => 0
 | i + 1 => if fN X i = 0 then cmpI (X i) 0 else fN X i
theorem zhw (X : Nat → Int) : ∀ i, fN X i = 0 ∨ fN X i = 1 ∨ fN X i = -1
 | 0 => .inl rfl
 | i + 1 => by
  have h := ziW (X i) 0
  have := zhw X i
  unfold fN
  split <;> omega
theorem zfx (X : Nat → Int) : ∀ i, fN X i = 0 → gN X i = 0
 | 0, _ => rfl
 | i + 1, h => by
  unfold fN at h
  split at h
  ·rename_i h0
   have h1 := zfx X i h0
   rw [zaT] at h
   show Nat.gcd (gN X i) (X i).natAbs = 0
   rw [h1, h]; rfl
  ·rename_i h0; exact (h0 h).elim
noncomputable def gW (x : Nat → WI) : Nat → WI
 | 0 => wi0
 | i + 1 => (gW x i).gcd (x i)
theorem zqP (x : Nat → WI) : ∀ i, (gW x i).v = (gN (fun e => (x e).v) i : Int)
 | 0 => rfl
 | i + 1 => by
  show ((Nat.gcd (gW x i).v.natAbs (x i).v.natAbs : Nat) : Int) = _
  rw [zqP x i, Int.natAbs_natCast]; rfl
noncomputable def gC (x : Nat → WI) : Nat → List PV
 | 0 => [.b false, .nl]
 | i + 1 => [.b (decide ((gW x (i + 1)).v < 0)), D (gW x (i + 1)).v.natAbs]
def okN (X : Nat → Int) : Prop := ∀ e, e < 9 → -1073741824 ≤ X e / gN X 9 ∧ X e / gN X 9 ≤ 1073741824
open Classical in
noncomputable def nfP (X : Nat → Int) : Nat → Int := if okN X then fun e => X e / gN X 9 * fN X 9 else zI
open Classical in
noncomputable def nfE (X : Nat → Int) : Int := if okN X then 0 else 5
theorem pI0 : PV.ag [.i .i64 0, .i .i64 0, .i .i64 0, .i .i64 0, .i .i64 0, .i .i64 0, .i .i64 0, .i .i64 0, .i .i64 0] = pI zI := rfl
theorem zjP {q s : Int} (h1 : -9223372036854775808 ≤ q) (h2 : q ≤ 9223372036854775807) (ho : ¬ (-1073741824 ≤ q ∧ q ≤ 1073741824)) (hs : s = 1 ∨ s = -1) : IntKind.i64.wrap (q * s) < -1073741824 ∨ IntKind.i64.wrap (q * s) > 1073741824 := by
 rcases hs with rfl | rfl
 ·rw [Int.mul_one, wqa (by omega) (by omega)]; omega
 ·by_cases hm : q = -9223372036854775808
  ·subst hm; left; decide
  ·rw [show q * -1 = -q by omega, wqa (by omega) (by omega)]; omega
set_option maxHeartbeats 8000000 in
theorem zey (x : Nat → WI) (hg : gN (fun e => (x e).v) 9 ≠ 0) : pf E0 314 [mW x] = some (.tu [pI (nfP fun e => (x e).v), .i .i64 (nfE fun e => (x e).v)]) := by
 obtain ⟨X, hX⟩ : ∃ X : Nat → Int, X = fun e => (x e).v := ⟨_, rfl⟩
 have gv := zqP x 9
 rw [← hX] at hg gv ⊢
 have Xe : ∀ e, (x e).v = X e := fun e => by rw [hX]
 have fr9 := zhw X 9
 have s9 : fN X 9 = 1 ∨ fN X 9 = -1 := by
  rcases fr9 with h | h
  ·exact (hg (zfx X 9 h)).elim
  ·exact h
 have gw0 : (gW x 9).v ≠ 0 := by rw [gv]; omega
 have bad : ∀ e, e < 9 → ¬ (-1073741824 ≤ X e / gN X 9 ∧ X e / gN X 9 ≤ 1073741824) → nfP X = zI ∧ nfE X = 5 := fun e he h => by
  have hn : ¬ okN X := fun q => h (q e he)
  exact ⟨by unfold nfP; rw [if_neg hn], by unfold nfE; rw [if_neg hn]⟩
 have good : okN X → nfP X = (fun e => X e / gN X 9 * fN X 9) ∧ nfE X = 0 := fun h => ⟨by unfold nfP; rw [if_pos h], by unfold nfE; rw [if_pos h]⟩
 generalize nfP X = P at *
 generalize nfE X = E at *
 have sgn : ∀ e, pf E0 31 [wiP (x e)] = some (.i .i64 (cmpI (X e) 0)) := fun e => by rw [← Xe]; exact zbX (x e)
 have gcd : ∀ e, pf E0 18 [wiP (gW x e), wiP (x e)] = some (wiP (gW x (e + 1))) := fun e => zfG (gW x e) (x e)
 refine zac (xf := x_proj_normal) rfl (by simp [x_proj_normal]) ?_
 simp only [x_proj_normal]
 simp (disch := omega) only [go_sem, seval, wqq]
 refine zar x_proj_normal_l1.eq_1 (fun (i : Nat) fr M => i ≤ 9 ∧ fr 1 = .p 0 0 ∧ fr 2 = .p 1 0 ∧ fr 4 = .p 2 0 ∧ fr 5 = .i .i64 (fN X i) ∧ fr 17 = mW x ∧ fr 18 = (PV.i .i64 ((i : Nat) : Int)) ∧ ∃ b v G, M = some ⟨cW x, true, 0⟩ :: some ⟨cQ 0 zI, true, b⟩ :: some ⟨gC x i, true, v⟩ :: G) (fun i => 9 - i) ?_ 0 ⟨by omega, by simp only [go_sem, seval], by simp only [go_sem, seval], by simp only [go_sem, seval], by simp only [go_sem, seval]; try rfl, by simp only [go_sem, seval], by simp only [go_sem, seval], _, _, [], rfl⟩
 rintro i fr M ⟨hi, f1, f2, f4, f5, f17, f18, b, v, G, rfl⟩ ih
 rcases Nat.lt_or_ge i 9 with h9 | h9
 ·have h5 := f5
  by_cases h0 : fN X i = 0
  ·have hs : fN X (i + 1) = cmpI (X i) 0 := by show (if fN X i = 0 then _ else _) = _; rw [if_pos h0]
   rw [h0] at f5
   obtain rfl | rfl | rfl | rfl | rfl | rfl | rfl | rfl | rfl := zch h9
   ·have g1 := gcd 0
    have g2 := sgn 0
    simp (disch := omega) only [go_sem, seval, wqq, f1, f2, f4, f5, f17, f18, mW, zae, gC, g1, g2, mG, mG0, sG, sG0, lG, lqq]
    exact ih 1 _ _ (by omega) ⟨by omega, by simp only [go_sem, seval, f1], by simp only [go_sem, seval, f2], by simp only [go_sem, seval, f4], by rw [hs]; simp only [go_sem, seval], by simp only [go_sem, seval, f17], by simp only [go_sem, seval], _, _, _, rfl⟩
   ·have g1 := gcd 1
    have g2 := sgn 1
    simp (disch := omega) only [go_sem, seval, wqq, f1, f2, f4, f5, f17, f18, mW, zae, gC, g1, g2, mG, mG0, sG, sG0, lG, lqq]
    exact ih 2 _ _ (by omega) ⟨by omega, by simp only [go_sem, seval, f1], by simp only [go_sem, seval, f2], by simp only [go_sem, seval, f4], by rw [hs]; simp only [go_sem, seval], by simp only [go_sem, seval, f17], by simp only [go_sem, seval], _, _, _, rfl⟩
   ·have g1 := gcd 2
    have g2 := sgn 2
    simp (disch := omega) only [go_sem, seval, wqq, f1, f2, f4, f5, f17, f18, mW, zae, gC, g1, g2, mG, mG0, sG, sG0, lG, lqq]
    exact ih 3 _ _ (by omega) ⟨by omega, by simp only [go_sem, seval, f1], by simp only [go_sem, seval, f2], by simp only [go_sem, seval, f4], by rw [hs]; simp only [go_sem, seval], by simp only [go_sem, seval, f17], by simp only [go_sem, seval], _, _, _, rfl⟩
   ·have g1 := gcd 3
    have g2 := sgn 3
    simp (disch := omega) only [go_sem, seval, wqq, f1, f2, f4, f5, f17, f18, mW, zae, gC, g1, g2, mG, mG0, sG, sG0, lG, lqq]
    exact ih 4 _ _ (by omega) ⟨by omega, by simp only [go_sem, seval, f1], by simp only [go_sem, seval, f2], by simp only [go_sem, seval, f4], by rw [hs]; simp only [go_sem, seval], by simp only [go_sem, seval, f17], by simp only [go_sem, seval], _, _, _, rfl⟩
   ·have g1 := gcd 4
    have g2 := sgn 4
    simp (disch := omega) only [go_sem, seval, wqq, f1, f2, f4, f5, f17, f18, mW, zae, gC, g1, g2, mG, mG0, sG, sG0, lG, lqq]
    exact ih 5 _ _ (by omega) ⟨by omega, by simp only [go_sem, seval, f1], by simp only [go_sem, seval, f2], by simp only [go_sem, seval, f4], by rw [hs]; simp only [go_sem, seval], by simp only [go_sem, seval, f17], by simp only [go_sem, seval], _, _, _, rfl⟩
   ·have g1 := gcd 5
    have g2 := sgn 5
    simp (disch := omega) only [go_sem, seval, wqq, f1, f2, f4, f5, f17, f18, mW, zae, gC, g1, g2, mG, mG0, sG, sG0, lG, lqq]
    exact ih 6 _ _ (by omega) ⟨by omega, by simp only [go_sem, seval, f1], by simp only [go_sem, seval, f2], by simp only [go_sem, seval, f4], by rw [hs]; simp only [go_sem, seval], by simp only [go_sem, seval, f17], by simp only [go_sem, seval], _, _, _, rfl⟩
   ·have g1 := gcd 6
    have g2 := sgn 6
    simp (disch := omega) only [go_sem, seval, wqq, f1, f2, f4, f5, f17, f18, mW, zae, gC, g1, g2, mG, mG0, sG, sG0, lG, lqq]
    exact ih 7 _ _ (by omega) ⟨by omega, by simp only [go_sem, seval, f1], by simp only [go_sem, seval, f2], by simp only [go_sem, seval, f4], by rw [hs]; simp only [go_sem, seval], by simp only [go_sem, seval, f17], by simp only [go_sem, seval], _, _, _, rfl⟩
   ·have g1 := gcd 7
    have g2 := sgn 7
    simp (disch := omega) only [go_sem, seval, wqq, f1, f2, f4, f5, f17, f18, mW, zae, gC, g1, g2, mG, mG0, sG, sG0, lG, lqq]
    exact ih 8 _ _ (by omega) ⟨by omega, by simp only [go_sem, seval, f1], by simp only [go_sem, seval, f2], by simp only [go_sem, seval, f4], by rw [hs]; simp only [go_sem, seval], by simp only [go_sem, seval, f17], by simp only [go_sem, seval], _, _, _, rfl⟩
   ·have g1 := gcd 8
    have g2 := sgn 8
    simp (disch := omega) only [go_sem, seval, wqq, f1, f2, f4, f5, f17, f18, mW, zae, gC, g1, g2, mG, mG0, sG, sG0, lG, lqq]
    exact ih 9 _ _ (by omega) ⟨by omega, by simp only [go_sem, seval, f1], by simp only [go_sem, seval, f2], by simp only [go_sem, seval, f4], by rw [hs]; simp only [go_sem, seval], by simp only [go_sem, seval, f17], by simp only [go_sem, seval], _, _, _, rfl⟩
  ·have hs : fN X (i + 1) = fN X i := by show (if fN X i = 0 then _ else _) = _; rw [if_neg h0]
   have t0 : (fN X i = 0) = False := eq_false h0
   obtain rfl | rfl | rfl | rfl | rfl | rfl | rfl | rfl | rfl := zch h9
   ·have g1 := gcd 0
    simp (disch := omega) only [go_sem, seval, wqq, f1, f2, f4, f5, f17, f18, mW, zae, gC, g1, t0, mG, mG0, sG, sG0, lG, lqq]
    exact ih 1 _ _ (by omega) ⟨by omega, by simp only [go_sem, seval, f1], by simp only [go_sem, seval, f2], by simp only [go_sem, seval, f4], by rw [hs]; simp only [go_sem, seval, f5], by simp only [go_sem, seval, f17], by simp only [go_sem, seval], _, _, _, rfl⟩
   ·have g1 := gcd 1
    simp (disch := omega) only [go_sem, seval, wqq, f1, f2, f4, f5, f17, f18, mW, zae, gC, g1, t0, mG, mG0, sG, sG0, lG, lqq]
    exact ih 2 _ _ (by omega) ⟨by omega, by simp only [go_sem, seval, f1], by simp only [go_sem, seval, f2], by simp only [go_sem, seval, f4], by rw [hs]; simp only [go_sem, seval, f5], by simp only [go_sem, seval, f17], by simp only [go_sem, seval], _, _, _, rfl⟩
   ·have g1 := gcd 2
    simp (disch := omega) only [go_sem, seval, wqq, f1, f2, f4, f5, f17, f18, mW, zae, gC, g1, t0, mG, mG0, sG, sG0, lG, lqq]
    exact ih 3 _ _ (by omega) ⟨by omega, by simp only [go_sem, seval, f1], by simp only [go_sem, seval, f2], by simp only [go_sem, seval, f4], by rw [hs]; simp only [go_sem, seval, f5], by simp only [go_sem, seval, f17], by simp only [go_sem, seval], _, _, _, rfl⟩
   ·have g1 := gcd 3
    simp (disch := omega) only [go_sem, seval, wqq, f1, f2, f4, f5, f17, f18, mW, zae, gC, g1, t0, mG, mG0, sG, sG0, lG, lqq]
    exact ih 4 _ _ (by omega) ⟨by omega, by simp only [go_sem, seval, f1], by simp only [go_sem, seval, f2], by simp only [go_sem, seval, f4], by rw [hs]; simp only [go_sem, seval, f5], by simp only [go_sem, seval, f17], by simp only [go_sem, seval], _, _, _, rfl⟩
   ·have g1 := gcd 4
    simp (disch := omega) only [go_sem, seval, wqq, f1, f2, f4, f5, f17, f18, mW, zae, gC, g1, t0, mG, mG0, sG, sG0, lG, lqq]
    exact ih 5 _ _ (by omega) ⟨by omega, by simp only [go_sem, seval, f1], by simp only [go_sem, seval, f2], by simp only [go_sem, seval, f4], by rw [hs]; simp only [go_sem, seval, f5], by simp only [go_sem, seval, f17], by simp only [go_sem, seval], _, _, _, rfl⟩
   ·have g1 := gcd 5
    simp (disch := omega) only [go_sem, seval, wqq, f1, f2, f4, f5, f17, f18, mW, zae, gC, g1, t0, mG, mG0, sG, sG0, lG, lqq]
    exact ih 6 _ _ (by omega) ⟨by omega, by simp only [go_sem, seval, f1], by simp only [go_sem, seval, f2], by simp only [go_sem, seval, f4], by rw [hs]; simp only [go_sem, seval, f5], by simp only [go_sem, seval, f17], by simp only [go_sem, seval], _, _, _, rfl⟩
   ·have g1 := gcd 6
    simp (disch := omega) only [go_sem, seval, wqq, f1, f2, f4, f5, f17, f18, mW, zae, gC, g1, t0, mG, mG0, sG, sG0, lG, lqq]
    exact ih 7 _ _ (by omega) ⟨by omega, by simp only [go_sem, seval, f1], by simp only [go_sem, seval, f2], by simp only [go_sem, seval, f4], by rw [hs]; simp only [go_sem, seval, f5], by simp only [go_sem, seval, f17], by simp only [go_sem, seval], _, _, _, rfl⟩
   ·have g1 := gcd 7
    simp (disch := omega) only [go_sem, seval, wqq, f1, f2, f4, f5, f17, f18, mW, zae, gC, g1, t0, mG, mG0, sG, sG0, lG, lqq]
    exact ih 8 _ _ (by omega) ⟨by omega, by simp only [go_sem, seval, f1], by simp only [go_sem, seval, f2], by simp only [go_sem, seval, f4], by rw [hs]; simp only [go_sem, seval, f5], by simp only [go_sem, seval, f17], by simp only [go_sem, seval], _, _, _, rfl⟩
   ·have g1 := gcd 8
    simp (disch := omega) only [go_sem, seval, wqq, f1, f2, f4, f5, f17, f18, mW, zae, gC, g1, t0, mG, mG0, sG, sG0, lG, lqq]
    exact ih 9 _ _ (by omega) ⟨by omega, by simp only [go_sem, seval, f1], by simp only [go_sem, seval, f2], by simp only [go_sem, seval, f4], by rw [hs]; simp only [go_sem, seval, f5], by simp only [go_sem, seval, f17], by simp only [go_sem, seval], _, _, _, rfl⟩
 ·obtain rfl : i = 9 := by omega
  clear ih
  have gC9 : gC x 9 = [.b (decide ((gW x 9).v < 0)), D (gW x 9).v.natAbs] := rfl
  generalize hgw : gW x 9 = g at *
  simp (disch := omega) only [go_sem, seval, wqq, f1, f2, f4, f5, f17, f18, gC9, mG, mG0, sG, sG0, lG, lqq]
  have dvq : ∀ e, ((x e).div g gw0).v = X e / gN X 9 := fun e => by
   show (x e).v / g.v = _
   rw [Xe, gv]
  refine zar x_proj_normal_l2.eq_1 (fun (i : Nat) fr M => i ≤ 9 ∧ (∀ e, e < i → -1073741824 ≤ X e / gN X 9 ∧ X e / gN X 9 ≤ 1073741824) ∧ fr 2 = .p 1 0 ∧ fr 4 = .p 2 0 ∧ fr 5 = .i .i64 (fN X 9) ∧ fr 8 = .p (G.length + 3) 0 ∧ fr 29 = mW x ∧ fr 30 = (PV.i .i64 ((i : Nat) : Int)) ∧ ∃ b v R, M = some ⟨cW x, true, 0⟩ :: some ⟨cQ 0 zI, true, b⟩ :: some ⟨[.b (decide (g.v < 0)), D g.v.natAbs], true, v⟩ :: (G ++ (some ⟨cQ i (fun e => X e / gN X 9 * fN X 9), true, i⟩ :: R)))
   (fun i => 9 - i) ?_ 0 ⟨by omega, fun e he => by omega, by simp only [go_sem, seval, f2], by simp only [go_sem, seval, f4], by simp only [go_sem, seval, f5], by simp only [go_sem, seval], by simp only [go_sem, seval], by simp only [go_sem, seval], b, v, [], rfl⟩
  clear b v f1 f2 f4 f5 f17 f18
  rintro i fr M ⟨hi, hlo, f2, f4, f5, f8, f29, f30, b, v, R, rfl⟩ ih
  rcases Nat.lt_or_ge i 9 with h9 | h9
  ·have nxt : ∀ j, (-1073741824 ≤ X j / gN X 9 ∧ X j / gN X 9 ≤ 1073741824) → j = i → ∀ e, e < j + 1 → -1073741824 ≤ X e / gN X 9 ∧ X e / gN X 9 ≤ 1073741824 := fun j hj hji e he => by
    subst hji
    rcases Nat.lt_or_ge e j with h | h
    ·exact hlo e h
    ·obtain rfl : e = j := by omega
     exact hj
   have dv := zlc (x i) g gw0
   have sm := zew ((x i).div g gw0)
   have dq := dvq i
   generalize (x i).div g gw0 = d at *
   generalize (x i).mod g gw0 = d2 at *
   by_cases hq : -1073741824 ≤ X i / gN X 9 ∧ X i / gN X 9 ≤ 1073741824
   ·have nx := nxt i hq rfl
    have s1 : isSmall d.v = true := by unfold isSmall; exact decide_eq_true (by rw [dq]; omega)
    have s2 : small d.v = X i / gN X 9 := by unfold small; rw [s1, dq]; rfl
    rw [s1, s2] at sm
    have hqs : -1073741824 ≤ X i / gN X 9 * fN X 9 ∧ X i / gN X 9 * fN X 9 ≤ 1073741824 := by
     rcases s9 with h | h <;> rw [h] <;> omega
    clear dvq bad nxt
    generalize hQ : (fun e => X e / (gN X 9 : Int) * fN X 9) = Y at *
    have hY : X i / gN X 9 * fN X 9 = Y i := by rw [← hQ]
    have t1 : (Y i < -1073741824) = False := eq_false (by omega)
    have t2 : (Y i > 1073741824) = False := eq_false (by omega)
    rw [hY] at hqs
    generalize X i / (gN X 9 : Int) = q at *
    obtain rfl | rfl | rfl | rfl | rfl | rfl | rfl | rfl | rfl := zch h9
    ·simp (disch := omega) only [go_sem, seval, wqq, f2, f4, f5, f8, f29, f30, mW, zae, dv, sm, hY, t1, t2, mG, mG0, sG, sG0, lG, lqq]
     exact ih 1 _ _ (by omega) ⟨by omega, nx, by simp only [go_sem, seval, f2], by simp only [go_sem, seval, f4], by simp only [go_sem, seval, f5], by simp only [go_sem, seval, f8], by simp only [go_sem, seval, f29], by simp only [go_sem, seval], b, v, _, rfl⟩
    ·simp (disch := omega) only [go_sem, seval, wqq, f2, f4, f5, f8, f29, f30, mW, zae, dv, sm, hY, t1, t2, mG, mG0, sG, sG0, lG, lqq]
     exact ih 2 _ _ (by omega) ⟨by omega, nx, by simp only [go_sem, seval, f2], by simp only [go_sem, seval, f4], by simp only [go_sem, seval, f5], by simp only [go_sem, seval, f8], by simp only [go_sem, seval, f29], by simp only [go_sem, seval], b, v, _, rfl⟩
    ·simp (disch := omega) only [go_sem, seval, wqq, f2, f4, f5, f8, f29, f30, mW, zae, dv, sm, hY, t1, t2, mG, mG0, sG, sG0, lG, lqq]
     exact ih 3 _ _ (by omega) ⟨by omega, nx, by simp only [go_sem, seval, f2], by simp only [go_sem, seval, f4], by simp only [go_sem, seval, f5], by simp only [go_sem, seval, f8], by simp only [go_sem, seval, f29], by simp only [go_sem, seval], b, v, _, rfl⟩
    ·simp (disch := omega) only [go_sem, seval, wqq, f2, f4, f5, f8, f29, f30, mW, zae, dv, sm, hY, t1, t2, mG, mG0, sG, sG0, lG, lqq]
     exact ih 4 _ _ (by omega) ⟨by omega, nx, by simp only [go_sem, seval, f2], by simp only [go_sem, seval, f4], by simp only [go_sem, seval, f5], by simp only [go_sem, seval, f8], by simp only [go_sem, seval, f29], by simp only [go_sem, seval], b, v, _, rfl⟩
    ·simp (disch := omega) only [go_sem, seval, wqq, f2, f4, f5, f8, f29, f30, mW, zae, dv, sm, hY, t1, t2, mG, mG0, sG, sG0, lG, lqq]
     exact ih 5 _ _ (by omega) ⟨by omega, nx, by simp only [go_sem, seval, f2], by simp only [go_sem, seval, f4], by simp only [go_sem, seval, f5], by simp only [go_sem, seval, f8], by simp only [go_sem, seval, f29], by simp only [go_sem, seval], b, v, _, rfl⟩
    ·simp (disch := omega) only [go_sem, seval, wqq, f2, f4, f5, f8, f29, f30, mW, zae, dv, sm, hY, t1, t2, mG, mG0, sG, sG0, lG, lqq]
     exact ih 6 _ _ (by omega) ⟨by omega, nx, by simp only [go_sem, seval, f2], by simp only [go_sem, seval, f4], by simp only [go_sem, seval, f5], by simp only [go_sem, seval, f8], by simp only [go_sem, seval, f29], by simp only [go_sem, seval], b, v, _, rfl⟩
    ·simp (disch := omega) only [go_sem, seval, wqq, f2, f4, f5, f8, f29, f30, mW, zae, dv, sm, hY, t1, t2, mG, mG0, sG, sG0, lG, lqq]
     exact ih 7 _ _ (by omega) ⟨by omega, nx, by simp only [go_sem, seval, f2], by simp only [go_sem, seval, f4], by simp only [go_sem, seval, f5], by simp only [go_sem, seval, f8], by simp only [go_sem, seval, f29], by simp only [go_sem, seval], b, v, _, rfl⟩
    ·simp (disch := omega) only [go_sem, seval, wqq, f2, f4, f5, f8, f29, f30, mW, zae, dv, sm, hY, t1, t2, mG, mG0, sG, sG0, lG, lqq]
     exact ih 8 _ _ (by omega) ⟨by omega, nx, by simp only [go_sem, seval, f2], by simp only [go_sem, seval, f4], by simp only [go_sem, seval, f5], by simp only [go_sem, seval, f8], by simp only [go_sem, seval, f29], by simp only [go_sem, seval], b, v, _, rfl⟩
    ·simp (disch := omega) only [go_sem, seval, wqq, f2, f4, f5, f8, f29, f30, mW, zae, dv, sm, hY, t1, t2, mG, mG0, sG, sG0, lG, lqq]
     exact ih 9 _ _ (by omega) ⟨by omega, nx, by simp only [go_sem, seval, f2], by simp only [go_sem, seval, f4], by simp only [go_sem, seval, f5], by simp only [go_sem, seval, f8], by simp only [go_sem, seval, f29], by simp only [go_sem, seval], b, v, _, rfl⟩
   ·obtain ⟨rfl, rfl⟩ := bad i h9 hq
    clear ih good dvq bad nxt
    by_cases hs : isSmall d.v = true
    ·have s2 : small d.v = X i / gN X 9 := by unfold small; rw [if_pos hs, dq]
     rw [hs, s2] at sm
     have hb : -9223372036854775808 ≤ X i / gN X 9 ∧ X i / gN X 9 ≤ 9223372036854775807 := by rw [← dq]; exact of_decide_eq_true hs
     have wo := zjP hb.1 hb.2 hq s9
     generalize X i / (gN X 9 : Int) = q at *
     generalize hW : IntKind.i64.wrap (q * fN X 9) = w at *
     rcases zbu (w < -1073741824) with t1 | t1
     ·obtain rfl | rfl | rfl | rfl | rfl | rfl | rfl | rfl | rfl := zch h9 <;>
      simp (disch := omega) only [go_sem, seval, wqq, f2, f4, f5, f8, f29, f30, mW, zae, dv, sm, hW, t1, pI0, mG, mG0, sG, sG0, lG, lqq]
     ·have t2 : (w > 1073741824) = True := eq_true (by have := of_eq_false t1; omega)
      obtain rfl | rfl | rfl | rfl | rfl | rfl | rfl | rfl | rfl := zch h9 <;>
      simp (disch := omega) only [go_sem, seval, wqq, f2, f4, f5, f8, f29, f30, mW, zae, dv, sm, hW, t1, t2, pI0, mG, mG0, sG, sG0, lG, lqq]
    ·have hs : isSmall d.v = false := by simpa using hs
     have s2 : small d.v = 0 := by unfold small; rw [hs]; rfl
     rw [hs, s2] at sm
     obtain rfl | rfl | rfl | rfl | rfl | rfl | rfl | rfl | rfl := zch h9 <;>
     simp (disch := omega) only [go_sem, seval, wqq, f2, f4, f5, f8, f29, f30, mW, zae, dv, sm, pI0, mG, mG0, sG, sG0, lG, lqq]
  ·obtain rfl : i = 9 := by omega
   obtain ⟨rfl, rfl⟩ := good hlo
   simp (disch := omega) only [go_sem, seval, wqq, f2, f4, f5, f8, f29, f30, cQ9, mG, mG0, sG, sG0, lG, lqq]
end Go.Eng
namespace Go.Eng
theorem zjt {z : Int} (lz : tlen z.natAbs < 100000) : pf E0 117 [nP z] = some (.tu [.i .i64 (small z), .b (isSmall z)]) := by
 obtain ⟨mx, hmx⟩ : ∃ mx : Int, mx = 9223372036854775807 := ⟨_, rfl⟩
 obtain ⟨mn, hmn⟩ : ∃ mn : Int, mn = -9223372036854775808 := ⟨_, rfl⟩
 have o1 : pf E0 114 [.i .i64 9223372036854775807] = some (nP mx) := by rw [hmx]; exact zb8 9223372036854775807 (by unfold Fits64; omega)
 have o2 : pf E0 114 [.i .i64 (-9223372036854775808)] = some (nP mn) := by rw [hmn]; exact zb8 (-9223372036854775808) (by unfold Fits64; omega)
 have l1 : tlen (9223372036854775807 : Int).natAbs < 100000 := by
  have : tlen (9223372036854775807 : Int).natAbs ≤ 5 := zau (by decide)
  omega
 have l2 : tlen (-9223372036854775808 : Int).natAbs < 100000 := by
  have : tlen (-9223372036854775808 : Int).natAbs ≤ 5 := zau (by decide)
  omega
 have c1 := zd7 z mx (by omega) (by rw [hmx]; omega)
 have c2 := zd7 z mn (by omega) (by rw [hmn]; omega)
 refine zac (xf := x_r03_Small) rfl (by simp [x_r03_Small]) ?_
 simp only [x_r03_Small]
 have hcz : (nP z).cells = [.b (decide (z < 0)), T z.natAbs] := rfl
 by_cases h1 : 9223372036854775807 < z
 ·have hf : isSmall z = false := decide_eq_false (by omega)
  have hf2 : small z = 0 := by unfold small; rw [hf]; rfl
  have q1 : (cmpI z mx > 0) = True := by rw [zfV]; simp; omega
  simp (disch := omega) only [go_sem, seval, wqq]
  refine zbW (fun fr2 Ms hT => by rw [List.all_cons, List.all_cons, zbv hT rfl, zcC hT (i := 5) (j := 6) rfl rfl rfl rfl rfl (n := 0) (o := 0) (by simp only [go_sem, seval])]; rfl) ?_
  simp (disch := omega) only [go_sem, seval, wqq, o1, o2, c1, c2, q1, hf, hf2]
 ·have q1 : (cmpI z mx > 0) = False := by rw [zfV]; simp; omega
  by_cases h2 : z < -9223372036854775808
  ·have hf : isSmall z = false := decide_eq_false (by omega)
   have hf2 : small z = 0 := by unfold small; rw [hf]; rfl
   have q2 : (cmpI z mn < 0) = True := by rw [zbL]; simp; omega
   simp (disch := omega) only [go_sem, seval, wqq]
   refine zbW (fun fr2 Ms hT => by rw [List.all_cons, List.all_cons, zbv hT rfl, zcC hT (i := 5) (j := 6) rfl rfl rfl rfl rfl (n := 0) (o := 0) (by simp only [go_sem, seval])]; rfl) ?_
   simp (disch := omega) only [go_sem, seval, wqq, o1, o2, c1, c2, q1, q2, hf, hf2]
  ·have q2 : (cmpI z mn < 0) = False := by rw [zbL]; simp; omega
   have hf : isSmall z = true := decide_eq_true (by omega)
   have hf2 : small z = z := by unfold small; rw [hf]; rfl
   rw [hf, hf2]
   simp (disch := omega) only [go_sem, seval, wqq]
   refine zbW (fun fr2 Ms hT => by rw [List.all_cons, List.all_cons, zbv hT rfl, zcC hT (i := 5) (j := 6) rfl rfl rfl rfl rfl (n := 0) (o := 0) (by simp only [go_sem, seval])]; rfl) ?_
   simp (disch := omega) only [go_sem, seval, wqq, o1, o2, c1, c2, q1, q2]
   have hv : z.natAbs ≤ 9223372036854775808 := by omega
   have eT : T z.natAbs = Tw (tlen z.natAbs) z.natAbs := rfl
   refine zar x_r03_Small_l1.eq_1 (fun (i : Nat) fr M => i ≤ tlen z.natAbs ∧ fr 1 = .p 0 0 ∧ fr 5 = .i .i64 ((i : Int) - 1) ∧ fr 4 = .i .i64 (sgn (decide (z < 0)) (z.natAbs / 10000 ^ i)) ∧ M = [some ⟨[.b (decide (z < 0)), T z.natAbs], true, 0⟩]) id ?_ (tlen z.natAbs) ⟨Nat.le_refl _, by simp only [go_sem, seval], by simp only [go_sem, seval], by simp only [go_sem, seval]; rw [Nat.div_eq_of_lt (zaq _)]; unfold sgn; split <;> rfl, rfl⟩
   rintro i fr M ⟨hi, g1, g5, g4, rfl⟩ ih
   by_cases hi0 : i = 0
   ·subst hi0
    have e0 : sgn (decide (z < 0)) (z.natAbs / 10000 ^ 0) = z := by
     rw [Nat.pow_zero, Nat.div_one]; unfold sgn
     by_cases q : z < 0
     ·simp [q]; omega
     ·simp [q]; omega
    rw [e0] at g4
    simp (disch := omega) only [go_sem, seval, wqq, g1, g4, g5, Int.natCast_zero, Int.zero_sub, Int.reduceNeg, Int.reduceLE, ge_iff_le]
   ·obtain ⟨m, rfl⟩ : ∃ m, i = m + 1 := ⟨i - 1, by omega⟩
    have q1 : (((m + 1 : Nat) : Int) - 1 ≥ 0) = True := by simp
    have q2 : (((m + 1 : Nat) : Int) - 1) = (m : Int) := by omega
    have hml : m < tlen z.natAbs := by omega
    have hsp : z.natAbs / 10000 ^ m = z.natAbs / 10000 ^ (m + 1) * 10000 + tdg z.natAbs m := by rw [zbw, zas]; omega
    have hd := zdJ z.natAbs m
    have hle := Nat.div_le_self z.natAbs (10000 ^ m)
    have fin := fun (fr' : PFr) (f1 : fr' 1 = .p 0 0) (f5 : fr' 5 = .i .i64 ((m : Int) - 1)) (f4 : fr' 4 = .i .i64 (sgn (decide (z < 0)) (z.natAbs / 10000 ^ m))) => ih m fr' _ (by simp only [id]; omega) ⟨by omega, f1, f5, f4, rfl⟩
    unfold sgn at g4 fin
    rw [hsp] at fin hle
    generalize z.natAbs / 10000 ^ (m + 1) = u at *
    by_cases q : z < 0
    ·simp only [q, decide_true, if_true] at g4 fin
     have e1 : -(u : Int) * 10000 - ((tdg z.natAbs m : Nat) : Int) = -((u * 10000 + tdg z.natAbs m : Nat) : Int) := by omega
     rw [← e1] at fin
     simp (disch := omega) only [go_sem, seval, wqq, g1, g4, g5, q, q1, q2, eT, zbN]
     exact fin _ (by simp only [go_sem, seval, g1]) (by simp only [go_sem, seval]) (by simp only [go_sem, seval])
    ·simp only [q, decide_false, Bool.false_eq_true, if_false] at g4 fin
     have e1 : (u : Int) * 10000 + ((tdg z.natAbs m : Nat) : Int) = ((u * 10000 + tdg z.natAbs m : Nat) : Int) := by omega
     rw [← e1] at fin
     simp (disch := omega) only [go_sem, seval, wqq, g1, g4, g5, q, q1, q2, eT, zbN]
     exact fin _ (by simp only [go_sem, seval, g1]) (by simp only [go_sem, seval]) (by simp only [go_sem, seval])
end Go.Eng
namespace Go.Eng
noncomputable def cN (z : Nat → Int) : List PV := [.b (decide (z 0 < 0)), T (z 0).natAbs, .b (decide (z 1 < 0)), T (z 1).natAbs, .b (decide (z 2 < 0)), T (z 2).natAbs, .b (decide (z 3 < 0)), T (z 3).natAbs, .b (decide (z 4 < 0)), T (z 4).natAbs, .b (decide (z 5 < 0)), T (z 5).natAbs, .b (decide (z 6 < 0)), T (z 6).natAbs, .b (decide (z 7 < 0)), T (z 7).natAbs, .b (decide (z 8 < 0)), T (z 8).natAbs]
noncomputable def nM (z : Nat → Int) : PV := .ag (cN z)
theorem zad (z : Nat → Int) : cN z = [.b (decide (z 0 < 0)), T (z 0).natAbs, .b (decide (z 1 < 0)), T (z 1).natAbs, .b (decide (z 2 < 0)), T (z 2).natAbs, .b (decide (z 3 < 0)), T (z 3).natAbs, .b (decide (z 4 < 0)), T (z 4).natAbs, .b (decide (z 5 < 0)), T (z 5).natAbs, .b (decide (z 6 < 0)), T (z 6).natAbs, .b (decide (z 7 < 0)), T (z 7).natAbs, .b (decide (z 8 < 0)), T (z 8).natAbs] := _root_.id rfl
noncomputable def cT (s : Nat → Bool) (z : Nat → Int) : List PV := [if s 0 then .b (decide (z 0 < 0)) else .b false, if s 0 then T (z 0).natAbs else .nl, if s 1 then .b (decide (z 1 < 0)) else .b false, if s 1 then T (z 1).natAbs else .nl, if s 2 then .b (decide (z 2 < 0)) else .b false, if s 2 then T (z 2).natAbs else .nl, if s 3 then .b (decide (z 3 < 0)) else .b false, if s 3 then T (z 3).natAbs else .nl, if s 4 then .b (decide (z 4 < 0)) else .b false, if s 4 then T (z 4).natAbs else .nl, if s 5 then .b (decide (z 5 < 0)) else .b false, if s 5 then T (z 5).natAbs else .nl, if s 6 then .b (decide (z 6 < 0)) else .b false, if s 6 then T (z 6).natAbs else .nl, if s 7 then .b (decide (z 7 < 0)) else .b false, if s 7 then T (z 7).natAbs else .nl, if s 8 then .b (decide (z 8 < 0)) else .b false, if s 8 then T (z 8).natAbs else .nl]
theorem zaA (s : Nat → Bool) (z : Nat → Int) : cT s z = [if s 0 then .b (decide (z 0 < 0)) else .b false, if s 0 then T (z 0).natAbs else .nl, if s 1 then .b (decide (z 1 < 0)) else .b false, if s 1 then T (z 1).natAbs else .nl, if s 2 then .b (decide (z 2 < 0)) else .b false, if s 2 then T (z 2).natAbs else .nl, if s 3 then .b (decide (z 3 < 0)) else .b false, if s 3 then T (z 3).natAbs else .nl, if s 4 then .b (decide (z 4 < 0)) else .b false, if s 4 then T (z 4).natAbs else .nl, if s 5 then .b (decide (z 5 < 0)) else .b false, if s 5 then T (z 5).natAbs else .nl, if s 6 then .b (decide (z 6 < 0)) else .b false, if s 6 then T (z 6).natAbs else .nl, if s 7 then .b (decide (z 7 < 0)) else .b false, if s 7 then T (z 7).natAbs else .nl, if s 8 then .b (decide (z 8 < 0)) else .b false, if s 8 then T (z 8).natAbs else .nl] := _root_.id rfl
def sB (n : Nat) : Nat → Bool := fun e => decide (e < n)
@[go_sem] theorem zsk (M : PM) (d : Nat) (w : Nat → Int) : fz M (d + 1 + 1) (nM w) = some (nM w, []) := _root_.id rfl
@[go_sem] theorem znL (w : Nat → Int) : (nM w).cells = cN w := _root_.id rfl
@[go_sem] theorem zoQ (w : Nat → Int) : PV.ag (cN w) = nM w := _root_.id rfl
@[go_sem] theorem zsE (w : Nat → Int) : (cN w).all PV.scal = true := _root_.id rfl
@[go_sem] theorem zst (w : Nat → Int) : (cN w).length = 18 := _root_.id rfl
@[go_sem] theorem zsO (w : Nat → Int) : (cN w).take 18 = cN w := _root_.id rfl
@[go_sem] theorem zsx (s : Nat → Bool) (w : Nat → Int) : (cT s w).length = 18 := _root_.id rfl
@[go_sem] theorem zsK (s : Nat → Bool) (w u : Nat → Int) : psplice (cT s w) 0 (cN u) = cN u := _root_.id rfl
theorem cT9 (z : Nat → Int) : cT (sB 9) z = cN z := rfl
set_option maxHeartbeats 2000000 in
theorem ze6 {p : Nat → Int} (hp : ∀ e, Fits64 (p e)) : pf E0 357 [pI p] = some (nM p) := by
 refine zac (xf := x_r12_Matrix) rfl (by simp [x_r12_Matrix]) ?_
 simp only [x_r12_Matrix]
 simp (disch := omega) only [go_sem, seval, wqq]
 refine zar x_r12_Matrix_l1.eq_1 (fun (i : Nat) fr M => i ≤ 9 ∧ fr 1 = .p 0 0 ∧ fr 2 = .p 1 0 ∧ fr 3 = .p 2 0 ∧ fr 4 = (PV.i .i64 ((i : Nat) : Int)) ∧ ∃ b v, M = [some ⟨cI p, true, 0⟩, some ⟨cT (sB 0) p, true, b⟩, some ⟨cT (sB i) p, true, v⟩]) (fun i => 9 - i) ?_ 0 ⟨by omega, by simp only [go_sem, seval], by simp only [go_sem, seval], by simp only [go_sem, seval], by simp only [go_sem, seval], _, _, rfl⟩
 rintro i fr M ⟨hi, f1, f2, f3, f4, b, v, rfl⟩ ih
 rcases Nat.lt_or_ge i 9 with h9 | h9
 ·obtain rfl | rfl | rfl | rfl | rfl | rfl | rfl | rfl | rfl := zch h9
  ·have h0 := zb8 (p 0) (hp 0)
   simp (disch := omega) only [go_sem, seval, wqq, f1, f2, f3, f4, zag, zaA, h0]
   exact ih 1 _ _ (by omega) ⟨by omega, by simp only [go_sem, seval, f1], by simp only [go_sem, seval, f2], by simp only [go_sem, seval, f3], by simp only [go_sem, seval], _, _, rfl⟩
  ·have h0 := zb8 (p 1) (hp 1)
   simp (disch := omega) only [go_sem, seval, wqq, f1, f2, f3, f4, zag, zaA, h0]
   exact ih 2 _ _ (by omega) ⟨by omega, by simp only [go_sem, seval, f1], by simp only [go_sem, seval, f2], by simp only [go_sem, seval, f3], by simp only [go_sem, seval], _, _, rfl⟩
  ·have h0 := zb8 (p 2) (hp 2)
   simp (disch := omega) only [go_sem, seval, wqq, f1, f2, f3, f4, zag, zaA, h0]
   exact ih 3 _ _ (by omega) ⟨by omega, by simp only [go_sem, seval, f1], by simp only [go_sem, seval, f2], by simp only [go_sem, seval, f3], by simp only [go_sem, seval], _, _, rfl⟩
  ·have h0 := zb8 (p 3) (hp 3)
   simp (disch := omega) only [go_sem, seval, wqq, f1, f2, f3, f4, zag, zaA, h0]
   exact ih 4 _ _ (by omega) ⟨by omega, by simp only [go_sem, seval, f1], by simp only [go_sem, seval, f2], by simp only [go_sem, seval, f3], by simp only [go_sem, seval], _, _, rfl⟩
  ·have h0 := zb8 (p 4) (hp 4)
   simp (disch := omega) only [go_sem, seval, wqq, f1, f2, f3, f4, zag, zaA, h0]
   exact ih 5 _ _ (by omega) ⟨by omega, by simp only [go_sem, seval, f1], by simp only [go_sem, seval, f2], by simp only [go_sem, seval, f3], by simp only [go_sem, seval], _, _, rfl⟩
  ·have h0 := zb8 (p 5) (hp 5)
   simp (disch := omega) only [go_sem, seval, wqq, f1, f2, f3, f4, zag, zaA, h0]
   exact ih 6 _ _ (by omega) ⟨by omega, by simp only [go_sem, seval, f1], by simp only [go_sem, seval, f2], by simp only [go_sem, seval, f3], by simp only [go_sem, seval], _, _, rfl⟩
  ·have h0 := zb8 (p 6) (hp 6)
   simp (disch := omega) only [go_sem, seval, wqq, f1, f2, f3, f4, zag, zaA, h0]
   exact ih 7 _ _ (by omega) ⟨by omega, by simp only [go_sem, seval, f1], by simp only [go_sem, seval, f2], by simp only [go_sem, seval, f3], by simp only [go_sem, seval], _, _, rfl⟩
  ·have h0 := zb8 (p 7) (hp 7)
   simp (disch := omega) only [go_sem, seval, wqq, f1, f2, f3, f4, zag, zaA, h0]
   exact ih 8 _ _ (by omega) ⟨by omega, by simp only [go_sem, seval, f1], by simp only [go_sem, seval, f2], by simp only [go_sem, seval, f3], by simp only [go_sem, seval], _, _, rfl⟩
  ·have h0 := zb8 (p 8) (hp 8)
   simp (disch := omega) only [go_sem, seval, wqq, f1, f2, f3, f4, zag, zaA, h0]
   exact ih 9 _ _ (by omega) ⟨by omega, by simp only [go_sem, seval, f1], by simp only [go_sem, seval, f2], by simp only [go_sem, seval, f3], by simp only [go_sem, seval], _, _, rfl⟩
 ·obtain rfl : i = 9 := by omega
  simp (disch := omega) only [go_sem, seval, wqq, f1, f2, f3, f4, cT9]
def rtK (a b c d e : Int) : Int := a * (b * c) - a * (d * e)
def rdV (z : Nat → Int) : Int := 0 + rtK (z 0) (z 4) (z 8) (z 5) (z 7) + rtK (z 1) (z 5) (z 6) (z 3) (z 8) + rtK (z 2) (z 3) (z 7) (z 4) (z 6)
theorem zfN {a b c d e S : Int} (la : tlen a.natAbs ≤ 9000) (lb : tlen b.natAbs ≤ 9000) (lc : tlen c.natAbs ≤ 9000) (ld : tlen d.natAbs ≤ 9000) (le : tlen e.natAbs ≤ 9000) (lS : tlen S.natAbs ≤ 60000) :
  pf E0 118 [nP b, nP c] = some (nP (b * c)) ∧ pf E0 118 [nP a, nP (b * c)] = some (nP (a * (b * c))) ∧ pf E0 118 [nP d, nP e] = some (nP (d * e)) ∧ pf E0 118 [nP a, nP (d * e)] = some (nP (a * (d * e))) ∧
  pf E0 121 [nP (a * (b * c)), nP (a * (d * e))] = some (nP (rtK a b c d e)) ∧ pf E0 119 [nP S, nP (rtK a b c d e)] = some (nP (S + rtK a b c d e)) ∧ tlen (S + rtK a b c d e).natAbs ≤ max (tlen S.natAbs) 27001 + 1 := by
 have h1 := zav b c
 have h2 := zav a (b * c)
 have h3 := zav d e
 have h4 := zav a (d * e)
 have h5 := zfd (a * (b * c)) (a * (d * e))
 have h6 := zaR S (rtK a b c d e)
 have h5 : tlen (rtK a b c d e).natAbs ≤ max (tlen (a * (b * c)).natAbs) (tlen (a * (d * e)).natAbs) + 1 := h5
 exact ⟨zdF _ _ (by omega) (by omega), zdF _ _ (by omega) (by omega), zdF _ _ (by omega) (by omega), zdF _ _ (by omega) (by omega), zna _ _ (by omega) (by omega), zd6 _ _ (by omega) (by omega), by omega⟩
set_option maxHeartbeats 2000000 in
theorem zke {z : Nat → Int} (hz : ∀ e, tlen (z e).natAbs ≤ 9000) : pf E0 358 [nM z] = some (nP (rdV z)) := by
 have o0 := zb8 0 (by decide)
 have n0 : PV.ag [.b false, Tw (tlen 0) 0] = nP 0 := rfl
 obtain ⟨a1, a2, a3, a4, a5, a6, a7⟩ := zfN (a := z 0) (b := z 4) (c := z 8) (d := z 5) (e := z 7) (S := 0) (hz _) (hz _) (hz _) (hz _) (hz _) (by rw [Int.natAbs_zero, zay]; decide)
 obtain ⟨b1, b2, b3, b4, b5, b6, b7⟩ := zfN (a := z 1) (b := z 5) (c := z 6) (d := z 3) (e := z 8) (S := 0 + rtK (z 0) (z 4) (z 8) (z 5) (z 7)) (hz _) (hz _) (hz _) (hz _) (hz _) (by rw [Int.natAbs_zero, zay] at a7; omega)
 obtain ⟨c1, c2, c3, c4, c5, c6, c7⟩ := zfN (a := z 2) (b := z 3) (c := z 7) (d := z 4) (e := z 6) (S := 0 + rtK (z 0) (z 4) (z 8) (z 5) (z 7) + rtK (z 1) (z 5) (z 6) (z 3) (z 8)) (hz _) (hz _) (hz _) (hz _) (hz _) (by rw [Int.natAbs_zero, zay] at a7; omega)
 unfold rdV
 clear a7 b7 c7
 refine zac (xf := x_r12_det) rfl (by simp [x_r12_det]) ?_
 simp only [x_r12_det]
 simp (disch := omega) only [go_sem, seval, wqq, o0]
 refine zaa x_r12_det_l1.eq_1 ?_
 simp (disch := omega) only [go_sem, seval, wqq]
 refine zah [14] rfl ?_ ?_
 ·simp (disch := omega) only [go_sem, seval, wqq, zad, a1, a2, a3, a4, a5, a6]
  exact ⟨_, rfl, rfl⟩
 simp (disch := omega) only [go_sem, seval, wqq, zad, a1, a2, a3, a4, a5, a6]
 refine zah [32] rfl ?_ ?_
 ·simp (disch := omega) only [go_sem, seval, wqq, zad, a1, a2, a3, a4, a5, a6]
  exact ⟨_, rfl, rfl⟩
 simp (disch := omega) only [go_sem, seval, wqq, zad, a1, a2, a3, a4, a5, a6]
 refine zai [3] rfl (by simp only [go_sem, seval]) ?_
 simp (disch := omega) only [go_sem, seval, wqq, n0, a1, a2, a3, a4, a5, a6]
 refine zaa x_r12_det_l1.eq_1 ?_
 simp (disch := omega) only [go_sem, seval, wqq]
 refine zah [14] rfl ?_ ?_
 ·simp (disch := omega) only [go_sem, seval, wqq, zad, b1, b2, b3, b4, b5, b6]
  exact ⟨_, rfl, rfl⟩
 simp (disch := omega) only [go_sem, seval, wqq, zad, b1, b2, b3, b4, b5, b6]
 refine zah [32] rfl ?_ ?_
 ·simp (disch := omega) only [go_sem, seval, wqq, zad, b1, b2, b3, b4, b5, b6]
  exact ⟨_, rfl, rfl⟩
 simp (disch := omega) only [go_sem, seval, wqq, zad, b1, b2, b3, b4, b5, b6]
 refine zai [3] rfl (by simp only [go_sem, seval]) ?_
 simp (disch := omega) only [go_sem, seval, wqq, n0, b1, b2, b3, b4, b5, b6]
 refine zaa x_r12_det_l1.eq_1 ?_
 simp (disch := omega) only [go_sem, seval, wqq]
 refine zah [14] rfl ?_ ?_
 ·simp (disch := omega) only [go_sem, seval, wqq, zad, c1, c2, c3, c4, c5, c6]
  exact ⟨_, rfl, rfl⟩
 simp (disch := omega) only [go_sem, seval, wqq, zad, c1, c2, c3, c4, c5, c6]
 refine zah [32] rfl ?_ ?_
 ·simp (disch := omega) only [go_sem, seval, wqq, zad, c1, c2, c3, c4, c5, c6]
  exact ⟨_, rfl, rfl⟩
 simp (disch := omega) only [go_sem, seval, wqq, zad, c1, c2, c3, c4, c5, c6]
 refine zai [3] rfl (by simp only [go_sem, seval]) ?_
 simp (disch := omega) only [go_sem, seval, wqq, n0, c1, c2, c3, c4, c5, c6]
 refine zaa x_r12_det_l1.eq_1 ?_
 simp (disch := omega) only [go_sem, seval, wqq]
end Go.Eng
namespace Go.Eng
theorem zj3 {z : Nat → Int} (hz : ∀ e, tlen (z e).natAbs ≤ 9000) : ∀ i, tlen (gN z i) ≤ 9000
 | 0 => by show tlen 0 ≤ 9000; rw [zay]; decide
 | i + 1 => by
  show tlen (Nat.gcd (gN z i) (z i).natAbs) ≤ 9000
  by_cases h : gN z i = 0
  ·rw [h, Nat.gcd_zero_left]; exact hz i
  ·exact Nat.le_trans (zax (Nat.gcd_le_left _ (Nat.pos_of_ne_zero h))) (zj3 hz i)
theorem gF (n : Nat) : PV.ag [.b false, T n] = nP ((n : Nat) : Int) := by
 unfold nP
 rw [Int.natAbs_natCast, show decide (((n : Nat) : Int) < 0) = false from decide_eq_false (by omega)]
theorem gF' (n : Nat) : PV.ag [.b false, T (Int.natAbs ((n : Nat) : Int))] = nP ((n : Nat) : Int) := by rw [Int.natAbs_natCast, gF]
set_option maxHeartbeats 8000000 in
theorem zez {z : Nat → Int} (hz : ∀ e, tlen (z e).natAbs ≤ 9000) (hg : gN z 9 ≠ 0) : pf E0 353 [nM z] = some (.tu [pI (nfP z), .i .i64 (nfE z)]) := by
 have fr9 := zhw z 9
 have s9 : fN z 9 = 1 ∨ fN z 9 = -1 := by
  rcases fr9 with h | h
  ·exact (hg (zfx z 9 h)).elim
  ·exact h
 have bad : ∀ e, e < 9 → ¬ (-1073741824 ≤ z e / gN z 9 ∧ z e / gN z 9 ≤ 1073741824) → nfP z = zI ∧ nfE z = 5 := fun e he h => by
  have hn : ¬ okN z := fun q => h (q e he)
  exact ⟨by unfold nfP; rw [if_neg hn], by unfold nfE; rw [if_neg hn]⟩
 have good : okN z → nfP z = (fun e => z e / gN z 9 * fN z 9) ∧ nfE z = 0 := fun h => ⟨by unfold nfP; rw [if_pos h], by unfold nfE; rw [if_pos h]⟩
 generalize nfP z = P at *
 generalize nfE z = E at *
 have gl := zj3 hz
 have gcd : ∀ e, pf E0 125 [nP ((gN z e : Nat) : Int), nP (z e)] = some (nP ((gN z (e + 1) : Nat) : Int)) := fun e => by
  have := zm9 ((gN z e : Nat) : Int) (z e) (by rw [Int.natAbs_natCast]; exact Nat.lt_of_le_of_lt (gl e) (by decide)) (Nat.lt_of_le_of_lt (hz e) (by decide))
  rw [Int.natAbs_natCast] at this
  exact this
 have o0 := zb8 0 (by decide)
 refine zac (xf := x_r12_normal) rfl (by simp [x_r12_normal]) ?_
 simp only [x_r12_normal]
 simp (disch := omega) only [go_sem, seval, wqq, o0]
 refine zar x_r12_normal_l1.eq_1 (fun (i : Nat) fr M => i ≤ 9 ∧ fr 1 = .p 0 0 ∧ fr 2 = .p 1 0 ∧ fr 4 = .p 2 0 ∧ fr 5 = .b (decide (fN z i < 0)) ∧ fr 6 = .b (decide (fN z i ≠ 0)) ∧ fr 7 = (PV.i .i64 ((i : Nat) : Int)) ∧ ∃ b v G, M = some ⟨cN z, true, 0⟩ :: some ⟨cQ 0 zI, true, b⟩ :: some ⟨[.b false, T (gN z i)], true, v⟩ :: G) (fun i => 9 - i) ?_ 0 ⟨by omega, by simp only [go_sem, seval], by simp only [go_sem, seval], by simp only [go_sem, seval], by simp only [go_sem, seval]; try rfl, by simp only [go_sem, seval]; try rfl, by simp only [go_sem, seval], _, _, [], rfl⟩
 rintro i fr M ⟨hi, f1, f2, f4, f5, f6, f7, b, v, G, rfl⟩ ih
 rcases Nat.lt_or_ge i 9 with h9 | h9
 ·by_cases h0 : fN z i = 0
  ·have hs : fN z (i + 1) = cmpI (z i) 0 := by show (if fN z i = 0 then _ else _) = _; rw [if_pos h0]
   have f5' : fr 5 = .b false := by rw [f5, h0]; rfl
   have f6' : fr 6 = .b false := by rw [f6, h0]; rfl
   by_cases hz0 : z i = 0
   ·have hc : cmpI (z i) 0 = 0 := by rw [hz0]; rfl
    have tl : ((tlen (z i).natAbs : Int) > 0) = False := eq_false (by rw [hz0, Int.natAbs_zero, zay]; decide)
    obtain rfl | rfl | rfl | rfl | rfl | rfl | rfl | rfl | rfl := zch h9
    ·have g1 := gcd 0
     simp (disch := omega) only [go_sem, seval, wqq, f1, f2, f4, f5', f6', f7, zad, gF, gF', g1, tl, mG, mG0, sG, sG0, lG, lqq]
     exact ih 1 _ _ (by omega) ⟨by omega, by simp only [go_sem, seval, f1], by simp only [go_sem, seval, f2], by simp only [go_sem, seval, f4], by rw [hs, hc]; simp only [go_sem, seval, f5']; try rfl, by rw [hs, hc]; simp only [go_sem, seval, f6']; try rfl, by simp only [go_sem, seval], _, _, _, by simp only [Int.natAbs_natCast]; rfl⟩
    ·have g1 := gcd 1
     simp (disch := omega) only [go_sem, seval, wqq, f1, f2, f4, f5', f6', f7, zad, gF, gF', g1, tl, mG, mG0, sG, sG0, lG, lqq]
     exact ih 2 _ _ (by omega) ⟨by omega, by simp only [go_sem, seval, f1], by simp only [go_sem, seval, f2], by simp only [go_sem, seval, f4], by rw [hs, hc]; simp only [go_sem, seval, f5']; try rfl, by rw [hs, hc]; simp only [go_sem, seval, f6']; try rfl, by simp only [go_sem, seval], _, _, _, by simp only [Int.natAbs_natCast]; rfl⟩
    ·have g1 := gcd 2
     simp (disch := omega) only [go_sem, seval, wqq, f1, f2, f4, f5', f6', f7, zad, gF, gF', g1, tl, mG, mG0, sG, sG0, lG, lqq]
     exact ih 3 _ _ (by omega) ⟨by omega, by simp only [go_sem, seval, f1], by simp only [go_sem, seval, f2], by simp only [go_sem, seval, f4], by rw [hs, hc]; simp only [go_sem, seval, f5']; try rfl, by rw [hs, hc]; simp only [go_sem, seval, f6']; try rfl, by simp only [go_sem, seval], _, _, _, by simp only [Int.natAbs_natCast]; rfl⟩
    ·have g1 := gcd 3
     simp (disch := omega) only [go_sem, seval, wqq, f1, f2, f4, f5', f6', f7, zad, gF, gF', g1, tl, mG, mG0, sG, sG0, lG, lqq]
     exact ih 4 _ _ (by omega) ⟨by omega, by simp only [go_sem, seval, f1], by simp only [go_sem, seval, f2], by simp only [go_sem, seval, f4], by rw [hs, hc]; simp only [go_sem, seval, f5']; try rfl, by rw [hs, hc]; simp only [go_sem, seval, f6']; try rfl, by simp only [go_sem, seval], _, _, _, by simp only [Int.natAbs_natCast]; rfl⟩
    ·have g1 := gcd 4
     simp (disch := omega) only [go_sem, seval, wqq, f1, f2, f4, f5', f6', f7, zad, gF, gF', g1, tl, mG, mG0, sG, sG0, lG, lqq]
     exact ih 5 _ _ (by omega) ⟨by omega, by simp only [go_sem, seval, f1], by simp only [go_sem, seval, f2], by simp only [go_sem, seval, f4], by rw [hs, hc]; simp only [go_sem, seval, f5']; try rfl, by rw [hs, hc]; simp only [go_sem, seval, f6']; try rfl, by simp only [go_sem, seval], _, _, _, by simp only [Int.natAbs_natCast]; rfl⟩
    ·have g1 := gcd 5
     simp (disch := omega) only [go_sem, seval, wqq, f1, f2, f4, f5', f6', f7, zad, gF, gF', g1, tl, mG, mG0, sG, sG0, lG, lqq]
     exact ih 6 _ _ (by omega) ⟨by omega, by simp only [go_sem, seval, f1], by simp only [go_sem, seval, f2], by simp only [go_sem, seval, f4], by rw [hs, hc]; simp only [go_sem, seval, f5']; try rfl, by rw [hs, hc]; simp only [go_sem, seval, f6']; try rfl, by simp only [go_sem, seval], _, _, _, by simp only [Int.natAbs_natCast]; rfl⟩
    ·have g1 := gcd 6
     simp (disch := omega) only [go_sem, seval, wqq, f1, f2, f4, f5', f6', f7, zad, gF, gF', g1, tl, mG, mG0, sG, sG0, lG, lqq]
     exact ih 7 _ _ (by omega) ⟨by omega, by simp only [go_sem, seval, f1], by simp only [go_sem, seval, f2], by simp only [go_sem, seval, f4], by rw [hs, hc]; simp only [go_sem, seval, f5']; try rfl, by rw [hs, hc]; simp only [go_sem, seval, f6']; try rfl, by simp only [go_sem, seval], _, _, _, by simp only [Int.natAbs_natCast]; rfl⟩
    ·have g1 := gcd 7
     simp (disch := omega) only [go_sem, seval, wqq, f1, f2, f4, f5', f6', f7, zad, gF, gF', g1, tl, mG, mG0, sG, sG0, lG, lqq]
     exact ih 8 _ _ (by omega) ⟨by omega, by simp only [go_sem, seval, f1], by simp only [go_sem, seval, f2], by simp only [go_sem, seval, f4], by rw [hs, hc]; simp only [go_sem, seval, f5']; try rfl, by rw [hs, hc]; simp only [go_sem, seval, f6']; try rfl, by simp only [go_sem, seval], _, _, _, by simp only [Int.natAbs_natCast]; rfl⟩
    ·have g1 := gcd 8
     simp (disch := omega) only [go_sem, seval, wqq, f1, f2, f4, f5', f6', f7, zad, gF, gF', g1, tl, mG, mG0, sG, sG0, lG, lqq]
     exact ih 9 _ _ (by omega) ⟨by omega, by simp only [go_sem, seval, f1], by simp only [go_sem, seval, f2], by simp only [go_sem, seval, f4], by rw [hs, hc]; simp only [go_sem, seval, f5']; try rfl, by rw [hs, hc]; simp only [go_sem, seval, f6']; try rfl, by simp only [go_sem, seval], _, _, _, by simp only [Int.natAbs_natCast]; rfl⟩
   ·have tl : ((tlen (z i).natAbs : Int) > 0) = True := eq_true (by have := za7 (v := (z i).natAbs) (by omega); omega)
    have c1 : decide (cmpI (z i) 0 < 0) = decide (z i < 0) := decide_eq_decide.2 (by rw [zbL])
    have c2 : decide (cmpI (z i) 0 ≠ 0) = true := decide_eq_true (by rw [ne_eq, zaT]; exact hz0)
    obtain rfl | rfl | rfl | rfl | rfl | rfl | rfl | rfl | rfl := zch h9
    ·have g1 := gcd 0
     simp (disch := omega) only [go_sem, seval, wqq, f1, f2, f4, f5', f6', f7, zad, gF, gF', g1, tl, mG, mG0, sG, sG0, lG, lqq]
     exact ih 1 _ _ (by omega) ⟨by omega, by simp only [go_sem, seval, f1], by simp only [go_sem, seval, f2], by simp only [go_sem, seval, f4], by rw [hs, c1]; simp only [go_sem, seval], by rw [hs, c2]; simp only [go_sem, seval], by simp only [go_sem, seval], _, _, _, by simp only [Int.natAbs_natCast]; rfl⟩
    ·have g1 := gcd 1
     simp (disch := omega) only [go_sem, seval, wqq, f1, f2, f4, f5', f6', f7, zad, gF, gF', g1, tl, mG, mG0, sG, sG0, lG, lqq]
     exact ih 2 _ _ (by omega) ⟨by omega, by simp only [go_sem, seval, f1], by simp only [go_sem, seval, f2], by simp only [go_sem, seval, f4], by rw [hs, c1]; simp only [go_sem, seval], by rw [hs, c2]; simp only [go_sem, seval], by simp only [go_sem, seval], _, _, _, by simp only [Int.natAbs_natCast]; rfl⟩
    ·have g1 := gcd 2
     simp (disch := omega) only [go_sem, seval, wqq, f1, f2, f4, f5', f6', f7, zad, gF, gF', g1, tl, mG, mG0, sG, sG0, lG, lqq]
     exact ih 3 _ _ (by omega) ⟨by omega, by simp only [go_sem, seval, f1], by simp only [go_sem, seval, f2], by simp only [go_sem, seval, f4], by rw [hs, c1]; simp only [go_sem, seval], by rw [hs, c2]; simp only [go_sem, seval], by simp only [go_sem, seval], _, _, _, by simp only [Int.natAbs_natCast]; rfl⟩
    ·have g1 := gcd 3
     simp (disch := omega) only [go_sem, seval, wqq, f1, f2, f4, f5', f6', f7, zad, gF, gF', g1, tl, mG, mG0, sG, sG0, lG, lqq]
     exact ih 4 _ _ (by omega) ⟨by omega, by simp only [go_sem, seval, f1], by simp only [go_sem, seval, f2], by simp only [go_sem, seval, f4], by rw [hs, c1]; simp only [go_sem, seval], by rw [hs, c2]; simp only [go_sem, seval], by simp only [go_sem, seval], _, _, _, by simp only [Int.natAbs_natCast]; rfl⟩
    ·have g1 := gcd 4
     simp (disch := omega) only [go_sem, seval, wqq, f1, f2, f4, f5', f6', f7, zad, gF, gF', g1, tl, mG, mG0, sG, sG0, lG, lqq]
     exact ih 5 _ _ (by omega) ⟨by omega, by simp only [go_sem, seval, f1], by simp only [go_sem, seval, f2], by simp only [go_sem, seval, f4], by rw [hs, c1]; simp only [go_sem, seval], by rw [hs, c2]; simp only [go_sem, seval], by simp only [go_sem, seval], _, _, _, by simp only [Int.natAbs_natCast]; rfl⟩
    ·have g1 := gcd 5
     simp (disch := omega) only [go_sem, seval, wqq, f1, f2, f4, f5', f6', f7, zad, gF, gF', g1, tl, mG, mG0, sG, sG0, lG, lqq]
     exact ih 6 _ _ (by omega) ⟨by omega, by simp only [go_sem, seval, f1], by simp only [go_sem, seval, f2], by simp only [go_sem, seval, f4], by rw [hs, c1]; simp only [go_sem, seval], by rw [hs, c2]; simp only [go_sem, seval], by simp only [go_sem, seval], _, _, _, by simp only [Int.natAbs_natCast]; rfl⟩
    ·have g1 := gcd 6
     simp (disch := omega) only [go_sem, seval, wqq, f1, f2, f4, f5', f6', f7, zad, gF, gF', g1, tl, mG, mG0, sG, sG0, lG, lqq]
     exact ih 7 _ _ (by omega) ⟨by omega, by simp only [go_sem, seval, f1], by simp only [go_sem, seval, f2], by simp only [go_sem, seval, f4], by rw [hs, c1]; simp only [go_sem, seval], by rw [hs, c2]; simp only [go_sem, seval], by simp only [go_sem, seval], _, _, _, by simp only [Int.natAbs_natCast]; rfl⟩
    ·have g1 := gcd 7
     simp (disch := omega) only [go_sem, seval, wqq, f1, f2, f4, f5', f6', f7, zad, gF, gF', g1, tl, mG, mG0, sG, sG0, lG, lqq]
     exact ih 8 _ _ (by omega) ⟨by omega, by simp only [go_sem, seval, f1], by simp only [go_sem, seval, f2], by simp only [go_sem, seval, f4], by rw [hs, c1]; simp only [go_sem, seval], by rw [hs, c2]; simp only [go_sem, seval], by simp only [go_sem, seval], _, _, _, by simp only [Int.natAbs_natCast]; rfl⟩
    ·have g1 := gcd 8
     simp (disch := omega) only [go_sem, seval, wqq, f1, f2, f4, f5', f6', f7, zad, gF, gF', g1, tl, mG, mG0, sG, sG0, lG, lqq]
     exact ih 9 _ _ (by omega) ⟨by omega, by simp only [go_sem, seval, f1], by simp only [go_sem, seval, f2], by simp only [go_sem, seval, f4], by rw [hs, c1]; simp only [go_sem, seval], by rw [hs, c2]; simp only [go_sem, seval], by simp only [go_sem, seval], _, _, _, by simp only [Int.natAbs_natCast]; rfl⟩
  ·have hs : fN z (i + 1) = fN z i := by show (if fN z i = 0 then _ else _) = _; rw [if_neg h0]
   have f6' : fr 6 = .b true := by rw [f6]; congr 1; exact decide_eq_true h0
   obtain rfl | rfl | rfl | rfl | rfl | rfl | rfl | rfl | rfl := zch h9
   ·have g1 := gcd 0
    simp (disch := omega) only [go_sem, seval, wqq, f1, f2, f4, f5, f6', f7, zad, gF, gF', g1, mG, mG0, sG, sG0, lG, lqq]
    exact ih 1 _ _ (by omega) ⟨by omega, by simp only [go_sem, seval, f1], by simp only [go_sem, seval, f2], by simp only [go_sem, seval, f4], by rw [hs]; simp only [go_sem, seval, f5], by rw [hs]; simp only [go_sem, seval, f6]; try rfl, by simp only [go_sem, seval], _, _, _, by simp only [Int.natAbs_natCast]; rfl⟩
   ·have g1 := gcd 1
    simp (disch := omega) only [go_sem, seval, wqq, f1, f2, f4, f5, f6', f7, zad, gF, gF', g1, mG, mG0, sG, sG0, lG, lqq]
    exact ih 2 _ _ (by omega) ⟨by omega, by simp only [go_sem, seval, f1], by simp only [go_sem, seval, f2], by simp only [go_sem, seval, f4], by rw [hs]; simp only [go_sem, seval, f5], by rw [hs]; simp only [go_sem, seval, f6]; try rfl, by simp only [go_sem, seval], _, _, _, by simp only [Int.natAbs_natCast]; rfl⟩
   ·have g1 := gcd 2
    simp (disch := omega) only [go_sem, seval, wqq, f1, f2, f4, f5, f6', f7, zad, gF, gF', g1, mG, mG0, sG, sG0, lG, lqq]
    exact ih 3 _ _ (by omega) ⟨by omega, by simp only [go_sem, seval, f1], by simp only [go_sem, seval, f2], by simp only [go_sem, seval, f4], by rw [hs]; simp only [go_sem, seval, f5], by rw [hs]; simp only [go_sem, seval, f6]; try rfl, by simp only [go_sem, seval], _, _, _, by simp only [Int.natAbs_natCast]; rfl⟩
   ·have g1 := gcd 3
    simp (disch := omega) only [go_sem, seval, wqq, f1, f2, f4, f5, f6', f7, zad, gF, gF', g1, mG, mG0, sG, sG0, lG, lqq]
    exact ih 4 _ _ (by omega) ⟨by omega, by simp only [go_sem, seval, f1], by simp only [go_sem, seval, f2], by simp only [go_sem, seval, f4], by rw [hs]; simp only [go_sem, seval, f5], by rw [hs]; simp only [go_sem, seval, f6]; try rfl, by simp only [go_sem, seval], _, _, _, by simp only [Int.natAbs_natCast]; rfl⟩
   ·have g1 := gcd 4
    simp (disch := omega) only [go_sem, seval, wqq, f1, f2, f4, f5, f6', f7, zad, gF, gF', g1, mG, mG0, sG, sG0, lG, lqq]
    exact ih 5 _ _ (by omega) ⟨by omega, by simp only [go_sem, seval, f1], by simp only [go_sem, seval, f2], by simp only [go_sem, seval, f4], by rw [hs]; simp only [go_sem, seval, f5], by rw [hs]; simp only [go_sem, seval, f6]; try rfl, by simp only [go_sem, seval], _, _, _, by simp only [Int.natAbs_natCast]; rfl⟩
   ·have g1 := gcd 5
    simp (disch := omega) only [go_sem, seval, wqq, f1, f2, f4, f5, f6', f7, zad, gF, gF', g1, mG, mG0, sG, sG0, lG, lqq]
    exact ih 6 _ _ (by omega) ⟨by omega, by simp only [go_sem, seval, f1], by simp only [go_sem, seval, f2], by simp only [go_sem, seval, f4], by rw [hs]; simp only [go_sem, seval, f5], by rw [hs]; simp only [go_sem, seval, f6]; try rfl, by simp only [go_sem, seval], _, _, _, by simp only [Int.natAbs_natCast]; rfl⟩
   ·have g1 := gcd 6
    simp (disch := omega) only [go_sem, seval, wqq, f1, f2, f4, f5, f6', f7, zad, gF, gF', g1, mG, mG0, sG, sG0, lG, lqq]
    exact ih 7 _ _ (by omega) ⟨by omega, by simp only [go_sem, seval, f1], by simp only [go_sem, seval, f2], by simp only [go_sem, seval, f4], by rw [hs]; simp only [go_sem, seval, f5], by rw [hs]; simp only [go_sem, seval, f6]; try rfl, by simp only [go_sem, seval], _, _, _, by simp only [Int.natAbs_natCast]; rfl⟩
   ·have g1 := gcd 7
    simp (disch := omega) only [go_sem, seval, wqq, f1, f2, f4, f5, f6', f7, zad, gF, gF', g1, mG, mG0, sG, sG0, lG, lqq]
    exact ih 8 _ _ (by omega) ⟨by omega, by simp only [go_sem, seval, f1], by simp only [go_sem, seval, f2], by simp only [go_sem, seval, f4], by rw [hs]; simp only [go_sem, seval, f5], by rw [hs]; simp only [go_sem, seval, f6]; try rfl, by simp only [go_sem, seval], _, _, _, by simp only [Int.natAbs_natCast]; rfl⟩
   ·have g1 := gcd 8
    simp (disch := omega) only [go_sem, seval, wqq, f1, f2, f4, f5, f6', f7, zad, gF, gF', g1, mG, mG0, sG, sG0, lG, lqq]
    exact ih 9 _ _ (by omega) ⟨by omega, by simp only [go_sem, seval, f1], by simp only [go_sem, seval, f2], by simp only [go_sem, seval, f4], by rw [hs]; simp only [go_sem, seval, f5], by rw [hs]; simp only [go_sem, seval, f6]; try rfl, by simp only [go_sem, seval], _, _, _, by simp only [Int.natAbs_natCast]; rfl⟩
 ·obtain rfl : i = 9 := by omega
  clear ih
  simp (disch := omega) only [go_sem, seval, wqq, f1, f2, f4, f5, f6, f7, mG, mG0, sG, sG0, lG, lqq]
  have hgl := gl 9
  have gn0 : ((gN z 9 : Nat) : Int) ≠ 0 := by omega
  have z9i : [PV.i .i64 0, PV.i .i64 0, PV.i .i64 0, PV.i .i64 0, PV.i .i64 0, PV.i .i64 0, PV.i .i64 0, PV.i .i64 0, PV.i .i64 0] = cI zI := rfl
  refine zar x_r12_normal_l2.eq_1 (fun (i : Nat) fr M => i ≤ 9 ∧ (∀ e, e < i → -1073741824 ≤ z e / gN z 9 ∧ z e / gN z 9 ≤ 1073741824) ∧ fr 1 = .p 0 0 ∧ fr 2 = .p 1 0 ∧ fr 4 = .p 2 0 ∧ fr 5 = .b (decide (fN z 9 < 0)) ∧ fr 9 = .p (G.length + 3) 0 ∧ fr 10 = (PV.i .i64 ((i : Nat) : Int)) ∧ ∃ b v w R, M = some ⟨cN z, true, 0⟩ :: some ⟨cQ 0 zI, true, b⟩ :: some ⟨[.b false, T (gN z 9)], true, v⟩ :: (G ++ (some ⟨cQ i (fun e => z e / gN z 9 * fN z 9), true, w⟩ :: R)))
   (fun i => 9 - i) ?_ 0 ⟨by omega, fun e he => by omega, by simp only [go_sem, seval, f1], by simp only [go_sem, seval, f2], by simp only [go_sem, seval, f4], by simp only [go_sem, seval, f5], by simp only [go_sem, seval], by simp only [go_sem, seval], b, v, _, [], rfl⟩
  clear b v f1 f2 f4 f5 f6 f7
  rintro i fr M ⟨hi, hlo, f1, f2, f4, f5, f9, f10, b, v, w, R, rfl⟩ ih
  rcases Nat.lt_or_ge i 9 with h9 | h9
  ·have nxt : ∀ j, (-1073741824 ≤ z j / gN z 9 ∧ z j / gN z 9 ≤ 1073741824) → j = i → ∀ e, e < j + 1 → -1073741824 ≤ z e / gN z 9 ∧ z e / gN z 9 ≤ 1073741824 := fun j hj hji e he => by
    subst hji
    rcases Nat.lt_or_ge e j with h | h
    ·exact hlo e h
    ·obtain rfl : e = j := by omega
     exact hj
   have lq : tlen (z i / gN z 9).natAbs ≤ 9000 := Nat.le_trans (zax (zf4 _ _)) (hz i)
   have dv := zkc (x := z i) (y := ((gN z 9 : Nat) : Int)) gn0 (Nat.lt_of_le_of_lt (hz i) (by decide)) (by rw [Int.natAbs_natCast]; omega)
   have ng := zkd (z i / gN z 9) (by omega)
   have lq2 : tlen (-(z i / gN z 9)).natAbs ≤ 9000 := by rw [Int.natAbs_neg]; exact lq
   have keyG : ∀ s : Int, (s = 1 ∨ s = -1) → pf E0 117 [nP (z i / gN z 9 * s)] = some (.tu [.i .i64 (small (z i / gN z 9 * s)), .b (isSmall (z i / gN z 9 * s))]) := fun s hs => by
    refine zjt ?_
    rcases hs with rfl | rfl
    ·rw [Int.mul_one]; omega
    ·rw [show z i / (gN z 9 : Int) * -1 = -(z i / gN z 9) by omega]; omega
   have key := keyG _ s9
   clear keyG
   have neg1 : fN z 9 = -1 → -(z i / (gN z 9 : Int)) = z i / gN z 9 * fN z 9 := fun h => by rw [h]; omega
   have pos1 : fN z 9 = 1 → z i / (gN z 9 : Int) = z i / gN z 9 * fN z 9 := fun h => by rw [h]; omega
   have abs1 : (-1073741824 ≤ z i / gN z 9 * fN z 9 ∧ z i / gN z 9 * fN z 9 ≤ 1073741824) ↔ (-1073741824 ≤ z i / gN z 9 ∧ z i / gN z 9 ≤ 1073741824) := by
    rcases s9 with h | h <;> rw [h] <;> omega
   generalize z i % ((gN z 9 : Nat) : Int) = d2 at *
   by_cases hq : -1073741824 ≤ z i / gN z 9 ∧ z i / gN z 9 ≤ 1073741824
   ·have nx := nxt i hq rfl
    have hqs := abs1.2 hq
    have s1 : isSmall (z i / gN z 9 * fN z 9) = true := by unfold isSmall; exact decide_eq_true (by omega)
    have s2 : small (z i / gN z 9 * fN z 9) = z i / gN z 9 * fN z 9 := by unfold small; rw [s1]; rfl
    rw [s1, s2] at key
    clear bad nxt
    generalize hQ : (fun e => z e / (gN z 9 : Int) * fN z 9) = Y at *
    have hY : z i / gN z 9 * fN z 9 = Y i := by rw [← hQ]
    rw [hY] at hqs key neg1 pos1
    have t1 : (Y i < -1073741824) = False := eq_false (by omega)
    have t2 : (Y i > 1073741824) = False := eq_false (by omega)
    rcases s9 with h | h
    ·have p1 := pos1 h
     have f5 : fr 5 = .b false := by rw [f5, h]; rfl
     rw [p1] at dv
     have f5' : decide (fN z 9 < 0) = false := by rw [h]; rfl
     obtain rfl | rfl | rfl | rfl | rfl | rfl | rfl | rfl | rfl := zch h9
     ·simp (disch := omega) only [go_sem, seval, wqq, f1, f2, f4, f5, f9, f10, zad, gF, gF', dv, key, t1, t2, mG, mG0, sG, sG0, lG, lqq]
      exact ih 1 _ _ (by omega) ⟨by omega, nx, by simp only [go_sem, seval, f1], by simp only [go_sem, seval, f2], by simp only [go_sem, seval, f4], by rw [f5']; simp only [go_sem, seval, f5], by simp only [go_sem, seval, f9], by simp only [go_sem, seval], b, v, _, _, rfl⟩
     ·simp (disch := omega) only [go_sem, seval, wqq, f1, f2, f4, f5, f9, f10, zad, gF, gF', dv, key, t1, t2, mG, mG0, sG, sG0, lG, lqq]
      exact ih 2 _ _ (by omega) ⟨by omega, nx, by simp only [go_sem, seval, f1], by simp only [go_sem, seval, f2], by simp only [go_sem, seval, f4], by rw [f5']; simp only [go_sem, seval, f5], by simp only [go_sem, seval, f9], by simp only [go_sem, seval], b, v, _, _, rfl⟩
     ·simp (disch := omega) only [go_sem, seval, wqq, f1, f2, f4, f5, f9, f10, zad, gF, gF', dv, key, t1, t2, mG, mG0, sG, sG0, lG, lqq]
      exact ih 3 _ _ (by omega) ⟨by omega, nx, by simp only [go_sem, seval, f1], by simp only [go_sem, seval, f2], by simp only [go_sem, seval, f4], by rw [f5']; simp only [go_sem, seval, f5], by simp only [go_sem, seval, f9], by simp only [go_sem, seval], b, v, _, _, rfl⟩
     ·simp (disch := omega) only [go_sem, seval, wqq, f1, f2, f4, f5, f9, f10, zad, gF, gF', dv, key, t1, t2, mG, mG0, sG, sG0, lG, lqq]
      exact ih 4 _ _ (by omega) ⟨by omega, nx, by simp only [go_sem, seval, f1], by simp only [go_sem, seval, f2], by simp only [go_sem, seval, f4], by rw [f5']; simp only [go_sem, seval, f5], by simp only [go_sem, seval, f9], by simp only [go_sem, seval], b, v, _, _, rfl⟩
     ·simp (disch := omega) only [go_sem, seval, wqq, f1, f2, f4, f5, f9, f10, zad, gF, gF', dv, key, t1, t2, mG, mG0, sG, sG0, lG, lqq]
      exact ih 5 _ _ (by omega) ⟨by omega, nx, by simp only [go_sem, seval, f1], by simp only [go_sem, seval, f2], by simp only [go_sem, seval, f4], by rw [f5']; simp only [go_sem, seval, f5], by simp only [go_sem, seval, f9], by simp only [go_sem, seval], b, v, _, _, rfl⟩
     ·simp (disch := omega) only [go_sem, seval, wqq, f1, f2, f4, f5, f9, f10, zad, gF, gF', dv, key, t1, t2, mG, mG0, sG, sG0, lG, lqq]
      exact ih 6 _ _ (by omega) ⟨by omega, nx, by simp only [go_sem, seval, f1], by simp only [go_sem, seval, f2], by simp only [go_sem, seval, f4], by rw [f5']; simp only [go_sem, seval, f5], by simp only [go_sem, seval, f9], by simp only [go_sem, seval], b, v, _, _, rfl⟩
     ·simp (disch := omega) only [go_sem, seval, wqq, f1, f2, f4, f5, f9, f10, zad, gF, gF', dv, key, t1, t2, mG, mG0, sG, sG0, lG, lqq]
      exact ih 7 _ _ (by omega) ⟨by omega, nx, by simp only [go_sem, seval, f1], by simp only [go_sem, seval, f2], by simp only [go_sem, seval, f4], by rw [f5']; simp only [go_sem, seval, f5], by simp only [go_sem, seval, f9], by simp only [go_sem, seval], b, v, _, _, rfl⟩
     ·simp (disch := omega) only [go_sem, seval, wqq, f1, f2, f4, f5, f9, f10, zad, gF, gF', dv, key, t1, t2, mG, mG0, sG, sG0, lG, lqq]
      exact ih 8 _ _ (by omega) ⟨by omega, nx, by simp only [go_sem, seval, f1], by simp only [go_sem, seval, f2], by simp only [go_sem, seval, f4], by rw [f5']; simp only [go_sem, seval, f5], by simp only [go_sem, seval, f9], by simp only [go_sem, seval], b, v, _, _, rfl⟩
     ·simp (disch := omega) only [go_sem, seval, wqq, f1, f2, f4, f5, f9, f10, zad, gF, gF', dv, key, t1, t2, mG, mG0, sG, sG0, lG, lqq]
      exact ih 9 _ _ (by omega) ⟨by omega, nx, by simp only [go_sem, seval, f1], by simp only [go_sem, seval, f2], by simp only [go_sem, seval, f4], by rw [f5']; simp only [go_sem, seval, f5], by simp only [go_sem, seval, f9], by simp only [go_sem, seval], b, v, _, _, rfl⟩
    ·have p1 := neg1 h
     have f5 : fr 5 = .b true := by rw [f5, h]; rfl
     rw [p1] at ng
     have f5' : decide (fN z 9 < 0) = true := by rw [h]; rfl
     generalize z i / ((gN z 9 : Nat) : Int) = q at *
     obtain rfl | rfl | rfl | rfl | rfl | rfl | rfl | rfl | rfl := zch h9
     ·simp (disch := omega) only [go_sem, seval, wqq, f1, f2, f4, f5, f9, f10, zad, gF, gF', dv, ng, key, t1, t2, mG, mG0, sG, sG0, lG, lqq]
      exact ih 1 _ _ (by omega) ⟨by omega, nx, by simp only [go_sem, seval, f1], by simp only [go_sem, seval, f2], by simp only [go_sem, seval, f4], by rw [f5']; simp only [go_sem, seval, f5], by simp only [go_sem, seval, f9], by simp only [go_sem, seval], b, v, _, _, rfl⟩
     ·simp (disch := omega) only [go_sem, seval, wqq, f1, f2, f4, f5, f9, f10, zad, gF, gF', dv, ng, key, t1, t2, mG, mG0, sG, sG0, lG, lqq]
      exact ih 2 _ _ (by omega) ⟨by omega, nx, by simp only [go_sem, seval, f1], by simp only [go_sem, seval, f2], by simp only [go_sem, seval, f4], by rw [f5']; simp only [go_sem, seval, f5], by simp only [go_sem, seval, f9], by simp only [go_sem, seval], b, v, _, _, rfl⟩
     ·simp (disch := omega) only [go_sem, seval, wqq, f1, f2, f4, f5, f9, f10, zad, gF, gF', dv, ng, key, t1, t2, mG, mG0, sG, sG0, lG, lqq]
      exact ih 3 _ _ (by omega) ⟨by omega, nx, by simp only [go_sem, seval, f1], by simp only [go_sem, seval, f2], by simp only [go_sem, seval, f4], by rw [f5']; simp only [go_sem, seval, f5], by simp only [go_sem, seval, f9], by simp only [go_sem, seval], b, v, _, _, rfl⟩
     ·simp (disch := omega) only [go_sem, seval, wqq, f1, f2, f4, f5, f9, f10, zad, gF, gF', dv, ng, key, t1, t2, mG, mG0, sG, sG0, lG, lqq]
      exact ih 4 _ _ (by omega) ⟨by omega, nx, by simp only [go_sem, seval, f1], by simp only [go_sem, seval, f2], by simp only [go_sem, seval, f4], by rw [f5']; simp only [go_sem, seval, f5], by simp only [go_sem, seval, f9], by simp only [go_sem, seval], b, v, _, _, rfl⟩
     ·simp (disch := omega) only [go_sem, seval, wqq, f1, f2, f4, f5, f9, f10, zad, gF, gF', dv, ng, key, t1, t2, mG, mG0, sG, sG0, lG, lqq]
      exact ih 5 _ _ (by omega) ⟨by omega, nx, by simp only [go_sem, seval, f1], by simp only [go_sem, seval, f2], by simp only [go_sem, seval, f4], by rw [f5']; simp only [go_sem, seval, f5], by simp only [go_sem, seval, f9], by simp only [go_sem, seval], b, v, _, _, rfl⟩
     ·simp (disch := omega) only [go_sem, seval, wqq, f1, f2, f4, f5, f9, f10, zad, gF, gF', dv, ng, key, t1, t2, mG, mG0, sG, sG0, lG, lqq]
      exact ih 6 _ _ (by omega) ⟨by omega, nx, by simp only [go_sem, seval, f1], by simp only [go_sem, seval, f2], by simp only [go_sem, seval, f4], by rw [f5']; simp only [go_sem, seval, f5], by simp only [go_sem, seval, f9], by simp only [go_sem, seval], b, v, _, _, rfl⟩
     ·simp (disch := omega) only [go_sem, seval, wqq, f1, f2, f4, f5, f9, f10, zad, gF, gF', dv, ng, key, t1, t2, mG, mG0, sG, sG0, lG, lqq]
      exact ih 7 _ _ (by omega) ⟨by omega, nx, by simp only [go_sem, seval, f1], by simp only [go_sem, seval, f2], by simp only [go_sem, seval, f4], by rw [f5']; simp only [go_sem, seval, f5], by simp only [go_sem, seval, f9], by simp only [go_sem, seval], b, v, _, _, rfl⟩
     ·simp (disch := omega) only [go_sem, seval, wqq, f1, f2, f4, f5, f9, f10, zad, gF, gF', dv, ng, key, t1, t2, mG, mG0, sG, sG0, lG, lqq]
      exact ih 8 _ _ (by omega) ⟨by omega, nx, by simp only [go_sem, seval, f1], by simp only [go_sem, seval, f2], by simp only [go_sem, seval, f4], by rw [f5']; simp only [go_sem, seval, f5], by simp only [go_sem, seval, f9], by simp only [go_sem, seval], b, v, _, _, rfl⟩
     ·simp (disch := omega) only [go_sem, seval, wqq, f1, f2, f4, f5, f9, f10, zad, gF, gF', dv, ng, key, t1, t2, mG, mG0, sG, sG0, lG, lqq]
      exact ih 9 _ _ (by omega) ⟨by omega, nx, by simp only [go_sem, seval, f1], by simp only [go_sem, seval, f2], by simp only [go_sem, seval, f4], by rw [f5']; simp only [go_sem, seval, f5], by simp only [go_sem, seval, f9], by simp only [go_sem, seval], b, v, _, _, rfl⟩
   ·obtain ⟨rfl, rfl⟩ := bad i h9 hq
    have hqs : ¬ (-1073741824 ≤ z i / gN z 9 * fN z 9 ∧ z i / gN z 9 * fN z 9 ≤ 1073741824) := fun q => hq (abs1.1 q)
    clear ih good bad nxt abs1
    have sml : ∀ Q : Int, ¬ (-1073741824 ≤ Q ∧ Q ≤ 1073741824) → (isSmall Q = false ∧ small Q = 0) ∨ (isSmall Q = true ∧ small Q = Q) := fun Q _ => by
     by_cases hs : isSmall Q = true
     ·exact .inr ⟨hs, by unfold small; rw [if_pos hs]⟩
     ·have hs : isSmall Q = false := by simpa using hs
      exact .inl ⟨hs, by unfold small; rw [hs]; rfl⟩
    rcases s9 with h | h
    ·have p1 := pos1 h
     have f5 : fr 5 = .b false := by rw [f5, h]; rfl
     rw [← p1] at key hqs
     generalize z i / ((gN z 9 : Nat) : Int) = q at *
     rcases sml q hqs with ⟨a1, a2⟩ | ⟨a1, a2⟩
     ·rw [a1, a2] at key
      obtain rfl | rfl | rfl | rfl | rfl | rfl | rfl | rfl | rfl := zch h9 <;>
      simp (disch := omega) only [go_sem, seval, wqq, f1, f2, f4, f5, f9, f10, zad, gF, gF', dv, key, pI0, mG, mG0, sG, sG0, lG, lqq]
     ·rw [a1, a2] at key
      rcases zbu (q < -1073741824) with t1 | t1
      ·obtain rfl | rfl | rfl | rfl | rfl | rfl | rfl | rfl | rfl := zch h9 <;>
       simp (disch := omega) only [go_sem, seval, wqq, f1, f2, f4, f5, f9, f10, zad, gF, gF', dv, key, t1, pI0, mG, mG0, sG, sG0, lG, lqq]
      ·have t2 : (q > 1073741824) = True := eq_true (by have := of_eq_false t1; omega)
       obtain rfl | rfl | rfl | rfl | rfl | rfl | rfl | rfl | rfl := zch h9 <;>
       simp (disch := omega) only [go_sem, seval, wqq, f1, f2, f4, f5, f9, f10, zad, gF, gF', dv, key, t1, t2, pI0, mG, mG0, sG, sG0, lG, lqq]
    ·have p1 := neg1 h
     have f5 : fr 5 = .b true := by rw [f5, h]; rfl
     rw [p1] at ng
     generalize z i / ((gN z 9 : Nat) : Int) * fN z 9 = Q at *
     generalize z i / ((gN z 9 : Nat) : Int) = q at *
     rcases sml Q hqs with ⟨a1, a2⟩ | ⟨a1, a2⟩
     ·rw [a1, a2] at key
      obtain rfl | rfl | rfl | rfl | rfl | rfl | rfl | rfl | rfl := zch h9 <;>
      simp (disch := omega) only [go_sem, seval, wqq, f1, f2, f4, f5, f9, f10, zad, gF, gF', dv, ng, key, pI0, mG, mG0, sG, sG0, lG, lqq]
     ·rw [a1, a2] at key
      rcases zbu (Q < -1073741824) with t1 | t1
      ·obtain rfl | rfl | rfl | rfl | rfl | rfl | rfl | rfl | rfl := zch h9 <;>
       simp (disch := omega) only [go_sem, seval, wqq, f1, f2, f4, f5, f9, f10, zad, gF, gF', dv, ng, key, t1, pI0, mG, mG0, sG, sG0, lG, lqq]
      ·have t2 : (Q > 1073741824) = True := eq_true (by have := of_eq_false t1; omega)
       obtain rfl | rfl | rfl | rfl | rfl | rfl | rfl | rfl | rfl := zch h9 <;>
       simp (disch := omega) only [go_sem, seval, wqq, f1, f2, f4, f5, f9, f10, zad, gF, gF', dv, ng, key, t1, t2, pI0, mG, mG0, sG, sG0, lG, lqq]
  ·obtain rfl : i = 9 := by omega
   obtain ⟨rfl, rfl⟩ := good hlo
   simp (disch := omega) only [go_sem, seval, wqq, f1, f2, f4, f5, f9, f10, cQ9, mG, mG0, sG, sG0, lG, lqq]
end Go.Eng
