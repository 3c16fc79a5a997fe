/- The engine and the contracts on which the statement stands: no conditions of its own. -/
import Derived.Test.YtndbnkkjmeeldaaGreatDoorMine3
import Derived.KernelRfl
import Derived.Lib.LaidTab
import Derived.ProofKit
import Derived.OpenShut
set_option linter.unusedSimpArgs false
set_option linter.unusedVariables false
set_option linter.unusedSectionVars false
namespace Go.Eng
open Go.RowKit
variable {key : Nat → Option FuncId} {P : Program} {T : Tab}
def Hp.tw (t : Blk) (cs : List AV) : Hp := ⟨fun k => if k = 0 then some { t with rw := false } else if k = 5 then some ⟨cs, false, 0⟩ else none, 6⟩
def Loc.tw (l : Loc) (a1 : At) : Loc := fun k => if k = 5 then some a1 else if k ≤ 4 then l k else none
theorem powT_rel {l l2 : Loc} {i : Nat} (hi : i < powT.length) {v : Value} (r : Rel key l powT[i] v) : Rel key l2 powT[i] v := by
  have e : powT[i] = .i .u64 ((10 ^ i : Nat) : Int) := by
    simp only [powT]; rw [List.getElem_map, List.getElem_range]
  rw [e] at r ⊢
  cases r; exact .i _ _
theorem tw_sim {F F' : Nat} {l : Loc} {h : Hp} {w : World} (S : Sim key F l h w) {t : Blk} {a0 : At} (ht : h.m 0 = some t) (hv : t.v = powT) (h0 : l 0 = some a0) {xs : List Nat} {a1 : At}
    (hb : a1.b < w.heap.size ∧ a1.w = false ∧ xs.length ≤ a1.n ∧ ∀ i (hi : i < xs.length), w.cell? ⟨a1.b, a1.o + i, none⟩ = some (.int .u32 ((xs[i] : Nat) : Int))) :
    Sim key F' (Loc.tw l a1) (Hp.tw t (xs.map fun x : Nat => .i .u32 (x : Int))) w := by
  refine ⟨fun k b a e1 e2 => ?_, fun k b a k' b' a' e1 e2 e3 => ?_, fun k a e => ?_, fun k a e => ?_, fun k hk => ?_⟩
  · by_cases hk : k = 0
    · subst hk
      have e2 : l 0 = some a := e2
      rw [h0] at e2
      cases e1; cases e2
      have H := S.holds 0 t a0 ht h0
      refine ⟨H.lt, H.len, fun i hi => ?_, H.scal, fun q => (by cases q), fun q => ⟨rfl, (H.whole q).2⟩⟩
      obtain ⟨v, c1, c2⟩ := H.cell i hi
      refine ⟨v, c1, ?_⟩
      have hi' : i < powT.length := by rw [← hv]; exact hi
      have e : t.v[i] = powT[i] := by simp only [hv]
      simp only at hi ⊢
      rw [e] at c2 ⊢
      exact powT_rel hi' c2
    · by_cases hkn : k = 5
      · subst hkn
        cases e1; cases e2
        obtain ⟨q1, q0, q2, q3⟩ := hb
        refine ⟨q1, by simpa using q2, fun i hi => ?_, fun i hi => ?_, fun q => (by cases q), fun q => ?_⟩
        · simp only [List.length_map] at hi
          refine ⟨_, q3 i hi, ?_⟩
          simp only [List.getElem_map]
          exact .i _ _
        · simp only [List.getElem_map]; rfl
        · rw [q0] at q; cases q
      · simp only [Hp.tw, if_neg hk, if_neg hkn] at e1; cases e1
  · simp only [Hp.tw] at e1
    split at e1
    · cases e1; cases e3
    · split at e1
      · cases e1; cases e3
      · cases e1
  · simp only [Loc.tw] at e
    split at e
    · cases e; exact hb.1
    · split at e
      · exact S.lt k a e
      · cases e
  · left
    show k < 6
    simp only [Loc.tw] at e
    split at e
    · omega
    · split at e
      · omega
      · cases e
  · have hk' : 6 ≤ k := hk
    simp only [Hp.tw]
    rw [if_neg (by omega), if_neg (by omega)]
theorem txt_tw {F : Nat} {l : Loc} {h : Hp} {w : World} (S : Sim key F l h w) {t : Blk} {a0 : At} (ht : h.m 0 = some t) (hv : t.v = powT) (h0 : l 0 = some a0) {neg : Bool} {wv : AV} {val : Value} {tx : List UInt8}
    (e : txtA [.ag [.b neg, wv]] h = some tx) (r : Rel key l wv val) : ∃ cs a1 wv' v, (∀ F', Sim key F' (Loc.tw l a1) (Hp.tw t cs) w) ∧ Rel key (Loc.tw l a1) wv' val ∧ wlen v ≤ 512 ∧ (neg = true → v ≠ 0) ∧
      tx = decI (if neg then -(v : Int) else (v : Int)) ∧ V (Hp.tw t cs) (fun _ => False) [] (D v) wv' := by
  have H0 := S.holds 0 t a0 ht h0
  have small : ∀ {wv' : AV}, Rel key (Loc.tw l ⟨a0.b, 0, 0, false⟩) wv' val → txtA [.ag [.b neg, wv']] (Hp.tw t []) = some tx → (∀ m off len cap z, wv' = .sl m off len cap z → False) →
      ∃ cs a1 wv' v, (∀ F', Sim key F' (Loc.tw l a1) (Hp.tw t cs) w) ∧ Rel key (Loc.tw l a1) wv' val ∧ wlen v ≤ 512 ∧ (neg = true → v ≠ 0) ∧
      tx = decI (if neg then -(v : Int) else (v : Int)) ∧ V (Hp.tw t cs) (fun _ => False) [] (D v) wv' := fun {wv'} r1 e1 hs => by
    obtain ⟨v, v1, v2, v3, v4⟩ := txtA_inv e1 fun m off len cap z q => (hs _ _ _ _ _ q).elim
    exact ⟨[], ⟨a0.b, 0, 0, false⟩, wv', v, fun F' => tw_sim (xs := []) S ht hv h0 ⟨H0.lt, rfl, Nat.le_refl _, fun i hi => by simp at hi⟩, r1, v1, v2, v3, v4⟩
  cases r with
  | @sl n off len cap cap' z a ha q1 q2 q3 =>
      replace e : (if len = 0 then wtx neg [] else if z = 1 then ((h.rd n off len).bind wordsA).bind (wtx neg) else none) = some tx := e
      split at e
      · rename_i hl
        subst hl
        exact small (wv' := .e0) (.e0 _ _) e fun _ _ _ _ _ q => by cases q
      · rename_i hl
        split at e
        · rename_i hz
          subst hz
          simp only [Option.bind_eq_some_iff] at e
          obtain ⟨xs, ⟨cs, e1, e2⟩, e3⟩ := e
          obtain ⟨w1, w2⟩ := wordsA_ok e2
          unfold Hp.rd at e1
          split at e1
          · rename_i b hb
            split at e1
            · rename_i hle
              cases e1
              have hxl : xs.length = len := by
                have := congrArg List.length w1
                simp at this; omega
              have hg : ∀ i (hi : i < xs.length), b.v[off + i]? = some (.i .u32 ((xs[i] : Nat) : Int)) := fun i hi => by
                have : ((b.v.drop off).take len)[i]? = some (.i .u32 ((xs[i] : Nat) : Int)) := by
                  rw [w1, List.getElem?_map, List.getElem?_eq_getElem hi]; rfl
                rw [List.getElem?_take, if_pos (by omega), List.getElem?_drop] at this
                exact this
              have H := S.holds n b a hb ha
              let a1 : At := ⟨a.b, a.o + off, a.n - off, false⟩
              have hsim : ∀ F', Sim key F' (Loc.tw l a1) (Hp.tw t (xs.map fun x : Nat => .i .u32 (x : Int))) w := fun F' => tw_sim S ht hv h0 ⟨H.lt, rfl, by show xs.length ≤ a.n - off; have := H.len; omega, fun i hi => by
                have h1 := hg i hi
                have hoi : off + i < b.v.length := by omega
                obtain ⟨v, c1, c2⟩ := H.cell (off + i) hoi
                rw [List.getElem?_eq_getElem hoi] at h1
                cases h1' : b.v[off + i] with
                | i k m =>
                  rw [h1'] at h1 c2
                  cases h1
                  cases c2
                  show w.cell? ⟨a.b, a.o + off + i, none⟩ = _
                  rw [Nat.add_assoc]; exact c1
                | _ => rw [h1'] at h1; cases h1⟩
              have hrel : Rel key (Loc.tw l a1) (.sl 5 0 len cap 1) (.slice (some ⟨a.b, a.o + off, none⟩) len cap') := by
                have hl : Loc.tw l a1 5 = some a1 := rfl
                have := Rel.sl (key := key) (off := 0) (len := len) (cap := cap) (cap' := cap') (z := 1) hl q1 (by show 0 + cap' * 1 ≤ a.n - off; omega) q3
                exact this
              have htx : txtA [.ag [.b neg, .sl 5 0 len cap 1]] (Hp.tw t (xs.map fun x : Nat => .i .u32 (x : Int))) = some tx := by
                have hrd : (Hp.tw t (xs.map fun x : Nat => AV.i .u32 (x : Int))).rd 5 0 len = some (xs.map fun x : Nat => .i .u32 (x : Int)) := by
                  simp only [Hp.rd, Hp.tw, if_neg (show (5 : Nat) ≠ 0 by decide), if_true]
                  rw [if_pos (by simp; omega), List.drop_zero, List.take_of_length_le (by simp; omega)]
                show (if len = 0 then wtx neg [] else if 1 = 1 then (((Hp.tw t (xs.map fun x : Nat => AV.i .u32 (x : Int))).rd 5 0 len).bind wordsA).bind (wtx neg) else none) = _
                rw [if_neg hl, if_pos rfl, hrd, Option.bind_some, ← w1, e2, Option.bind_some]
                exact e3
              obtain ⟨v, v1, v2, v3, v4⟩ := txtA_inv htx fun m off' len' cap'' z q => by cases q; exact q3
              exact ⟨_, a1, _, v, hsim, hrel, v1, v2, v3, v4⟩
            · cases e1
          · cases e1
        · cases e
  | sn => exact small .sn e fun _ _ _ _ _ q => by cases q
  | se b => exact small (.se b) e fun _ _ _ _ _ q => by cases q
  | e0 b c => exact small (.e0 b c) e fun _ _ _ _ _ q => by cases q
  | _ => simp [txtA] at e
end Go.Eng
namespace Go.Eng
open Go.RowKit
variable {key : Nat → Option FuncId} {P : Program} {T : Tab}
theorem res_tmp2 {fn : Func} (h : fn.results = #[.tmp 2]) (tmps : Array Value) (w : World) : (results fn tmps).run P w = .ok (tmps.getD 2 undef) w := by
  unfold results
  rw [h, Array.mapM_eq_mapM_toList]
  rfl
theorem rel_sv {l : Loc} {xs : List UInt8} {v : Value} (h : Rel key l (.s xs) v) : v = .string ⟨xs.toArray⟩ := by
  generalize hx : AV.s xs = x at h
  cases h <;> cases hx
  rfl
theorem dec_ne (v : Nat) : dec v ≠ [] := by
  unfold dec
  split
  · simp
  · rename_i h
    intro q
    have h1 := congrArg List.length q
    rw [dtx_len] at h1
    have := dlen_lt v
    simp at h1
    rw [h1] at this
    simp at this; omega
theorem txtA_shape {args : List AV} {h : Hp} {l : List UInt8} (e : txtA args h = some l) : ∃ neg w, args = [.ag [.b neg, w]] := by
  unfold txtA at e
  split at e
  · exact ⟨_, _, rfl⟩
  · exact ⟨_, _, rfl⟩
  · exact ⟨_, _, rfl⟩
  · exact ⟨_, _, rfl⟩
  · cases e
theorem str_orc (K1 : ProgOk P key T E1.prog) (KE : PEnvOk E1) (hT0 : ∀ g n, T.gkey g = some n → n ≤ 4) {G : Nat} (hG : T.gkey G = some 0) {fn : Func} {g : Nat} (hfn : P.funcs[g]? = some fn) {pre tail : Code} (hbody : fn.body = some (graft pre tail)) (hpre : cCode P T pre = strA)
    (hnt : fn.ntmps = 58) (hres : fn.results = #[.tmp 2])
    (htail : ∀ (neg : Bool) (ps : List (List UInt8)), ps.reverse.flatten ≠ [] → ps.length ≤ 20000 → ps.flatten.length ≤ 1000000 →
      ∀ (b1 o1 b3 o3 c : Nat) (w : World), w.cell? ⟨b1, o1, none⟩ = some (.bool neg) → b1 < w.heap.size → b3 < w.heap.size →
      (∀ j x, ps[j]? = some x → w.cell? ⟨b3, o3 + j, none⟩ = some (.string ⟨x.toArray⟩)) →
      ∀ (tm : Array Value), tm.size = 58 → tm[1]? = some (.pointer (some ⟨b1, o1, none⟩)) → tm[3]? = some (.slice (some ⟨b3, o3, none⟩) ps.length c) →
      tail.wp P (fun e a w' => e = .ret ∧ a.defers = [] ∧ a.tmps.getD 2 undef = .string ⟨((if neg then [45] else []) ++ ps.reverse.flatten).toArray⟩ ∧ Below w.heap.size w w') ⟨tm, []⟩ w)
    {F : Nat} {args : List AV} {vs : Array Value} {h h' : Hp} {v : AV} {l : Loc} {w : World} (e : orcA 33 args h = some (v, h')) (TO : TabOk key T l)
    (RL : RelL key l args vs.toList) (S : Sim key F l h w) : Calls P g vs w fun e w' => ∃ l' val, e = .returned val ∧ Ext l h w l' h' w' ∧ Sim key F l' h' w' ∧ Rel key l' v val := by
  unfold orcA at e
  rw [if_pos rfl] at e
  split at e
  case isFalse => cases e
  rename_i ht
  simp only [Option.map_eq_some_iff, Prod.mk.injEq] at e
  obtain ⟨tx, e1, rfl, rfl⟩ := e
  obtain ⟨t, t1, t2⟩ := ht
  obtain ⟨m0, hl0⟩ := TO.g G 0 hG
  obtain ⟨neg, wv, rfl⟩ := txtA_shape e1
  have hvs : ∃ val, vs = #[.agg #[.bool neg, val]] ∧ Rel key l wv val := by
    have hlen := RL.1
    rcases vs with ⟨vs⟩
    match vs, hlen with
    | [x], _ =>
      have r := RL.2 0 (by simp) (by simp)
      simp only [List.getElem_cons_zero] at r
      cases r with
      | @ag _ ws hn hv =>
        rcases ws with ⟨ws⟩
        match ws, hn with
        | [a, b], _ =>
          have r1 := hv 0 (by simp) (by simp)
          have r2 := hv 1 (by simp) (by simp)
          simp only [List.getElem_cons_zero, List.getElem_toArray, List.getElem_cons_succ] at r1 r2
          cases r1
          exact ⟨b, rfl, r2⟩
  obtain ⟨val, rfl, rv⟩ := hvs
  obtain ⟨cs, a1, wv', z, hsim, rv', hz, hneg, htx, hV⟩ := txt_tw S t1 t2 hl0 e1 rv
  generalize hh0 : Hp.tw t cs = h0 at hsim hV
  generalize hll : Loc.tw l a1 = l0 at hsim rv'
  have hw0 : h0.wf := (hsim 0).wf
  have hT : HasT h0 := ⟨{ t with rw := false }, by rw [← hh0]; rfl, t2⟩
  have norw : ∀ k b, h0.m k = some b → b.rw = false := fun k b q => by
    rw [← hh0] at q
    simp only [Hp.tw] at q
    split at q
    · cases q; rfl
    · split at q
      · cases q; rfl
      · cases q
  have TO0 : TabOk key T l0 := ⟨TO.f, fun g' n' q => by
    have hn := hT0 g' n' q
    obtain ⟨m, hm⟩ := TO.g g' n' q
    refine ⟨m, ?_⟩
    rw [← hll]
    simp only [Loc.tw]
    rw [if_neg (by omega), if_pos hn]
    exact hm⟩
  have RA : RelL key l0 [.ag [.b neg, wv']] [.agg #[.bool neg, val]] := .cons ((RelL.cons (.b neg) (.cons rv' .nil)).ag) .nil
  have RF : RelF key l0 ([.ag [.b neg, wv']] ++ List.replicate 57 undefA) (#[.agg #[.bool neg, val]] ++ Array.replicate (fn.ntmps - (#[Value.agg #[.bool neg, val]] : Array Value).size) undef) := by
    rw [hnt]
    unfold RelF
    rw [Array.toList_append, Array.toList_replicate]
    exact RA.append ⟨by simp, fun i q1 q2 => by rw [List.getElem_replicate, List.getElem_replicate]; exact rel_undef⟩
  have hbel : ∀ {l1 h1 w1}, Ext l0 h0 w l1 h1 w1 → Below w.heap.size w w1 := fun {l1 h1 w1} E =>
    ⟨E.os, E.tape, E.output, E.size, fun b hb => E.frame b hb fun m blk a q1 q2 => by rw [norw m blk q1] at q2; cases q2⟩
  have hregs : (cCode P T pre).regsOk = true := by rw [hpre]; decide
  have goodCall := evF_good K1
  have final : Calls P g #[.agg #[.bool neg, val]] w fun e w' => e = .returned (.string ⟨tx.toArray⟩) ∧ Below w.heap.size w w' := by
    refine calls_of_wp hfn hbody ?_
    by_cases hz0 : z = 0
    · subst hz0
      have hnf : neg = false := by
        cases neg
        · rfl
        · exact (hneg rfl rfl).elim
      subst hnf
      have htx' : tx = [48] := by rw [htx]; rfl
      obtain ⟨lf, fr', h1, ev, f2⟩ := str0_ev KE hw0 hT hV
      refine graft_ok (goodCall lf) K1.call (evF_sound K1 lf) K1.mixed lf tail pre hregs TO0 RF (hsim h1.next) (Nat.le_refl _) (by rw [hpre]; exact ev) fun l' a' w' E R' S' hd => ?_
      have r2 := RelF.get R' 2
      rw [f2] at r2
      refine ⟨hd, _, res_tmp2 hres _ _, ?_, hbel E⟩
      rw [htx']
      generalize a'.tmps.getD 2 undef = x at r2
      rw [rel_sv r2]
    · obtain ⟨lf, fr', h1, p0, m, len, cap, ps, ev, hlen, f1, ⟨b0, hb0, hb0v⟩, f3, ⟨b1, hb1, hb1v⟩, rfl, g1, g2, g3⟩ := strA_ev KE (neg := neg) hw0 hT hz0 hz hV
      refine graft_ok (goodCall lf) K1.call (evF_sound K1 lf) K1.mixed lf tail pre hregs TO0 RF (hsim h1.next) (Nat.le_refl _) (by rw [hpre]; exact ev) fun l' a' w' E R' S' hd => ?_
      have r1 := RelF.get R' 1
      have r3 := RelF.get R' 3
      rw [f1] at r1
      rw [f3] at r3
      have hsz : a'.tmps.size = 58 := by
        have := R'.1
        simp at this; omega
      have gd : ∀ i, i < 58 → a'.tmps[i]? = some (a'.tmps.getD i undef) := fun i hi => by
        rw [Array.getD_eq_getD_getElem?, Array.getElem?_eq_getElem (by omega)]; rfl
      have gd1 := gd 1 (by omega)
      have gd3 := gd 3 (by omega)
      generalize a'.tmps.getD 1 undef = x1 at r1 gd1
      generalize a'.tmps.getD 3 undef = x3 at r3 gd3
      cases r1 with
      | @p _ _ a1' q1 =>
        cases r3 with
        | @sl _ _ _ _ cap' _ a3 q3 s1 s2 s3 =>
          have H0 := S'.holds _ _ _ hb0 q1
          have H3 := S'.holds _ _ _ hb1 q3
          have hneg' : w'.cell? ⟨a1'.b, a1'.o + 0, none⟩ = some (.bool neg) := by
            have hl : 0 < b0.v.length := by
              rcases Nat.eq_zero_or_pos b0.v.length with q | q
              · rw [List.getElem?_eq_none (by omega)] at hb0v; cases hb0v
              · exact q
            obtain ⟨y, c1, c2⟩ := H0.cell 0 hl
            rw [List.getElem?_eq_getElem hl] at hb0v
            rw [Option.some.inj hb0v] at c2
            cases c2; exact c1
          have hcells : ∀ j x, ps[j]? = some x → w'.cell? ⟨a3.b, a3.o + 0 + j, none⟩ = some (.string ⟨x.toArray⟩) := fun j x hx => by
            have hj : j < ps.length := by
              by_cases q : j < ps.length
              · exact q
              · rw [List.getElem?_eq_none (by omega)] at hx; cases hx
            have hj' : j < b1.v.length := by rw [hb1v]; simpa using hj
            obtain ⟨y, c1, c2⟩ := H3.cell j hj'
            have e : b1.v[j] = .s x := by
              simp only [hb1v, List.getElem_map]
              rw [List.getElem?_eq_getElem hj] at hx
              rw [Option.some.inj hx]
            rw [e] at c2
            have hy : y = .string ⟨x.toArray⟩ := by
              generalize hs : AV.s x = ax at c2
              cases c2 <;> cases hs
              rfl
            rw [Nat.add_zero, ← hy]; exact c1
          have hne : ps.reverse.flatten ≠ [] := by rw [g3]; exact dec_ne z
          have htot : ps.flatten.length ≤ 1000000 := by
            have h1 : ps.flatten.length = ps.reverse.flatten.length := by
              simp only [List.length_flatten, List.map_reverse, List.sum_reverse]
            rw [h1, g3]
            have h2 := dlen_w hz
            unfold dec
            rw [if_neg hz0, dtx_len]; omega
          have tl := htail neg ps hne g2 htot a1'.b (a1'.o + 0) a3.b (a3.o + 0) cap' w' hneg' H0.lt H3.lt hcells a'.tmps hsz gd1 gd3
          have ha : a' = ⟨a'.tmps, []⟩ := by
            rcases a' with ⟨tm, df⟩
            simp only at hd
            rw [hd]
          show tail.wp P (bodyPost P fn _) a' w'
          rw [ha]
          refine wp_mono tl ?_
          rintro e a2 w2 ⟨rfl, d2, v2, bl⟩
          refine ⟨d2, _, res_tmp2 hres _ _, ?_, (hbel E).trans ⟨bl.os, bl.tape, bl.output, bl.size, fun k hk => bl.block k (Nat.lt_of_lt_of_le hk E.size)⟩⟩
          rw [v2, g3, htx]
          unfold decI
          cases neg
          · simp only [Bool.false_eq_true, if_false]
            rw [if_neg (by omega)]
            simp
          · simp only [if_true]
            rw [if_pos (by omega)]
            simp
  exact orc_below S final (rel_str tx)
end Go.Eng
namespace Go.Eng
theorem prog_mem {f : Nat} {d : XD} (h : prog f = some d) : some d ∈ progL := by
  unfold prog at h
  cases h1 : progL[f]? with
  | none => rw [h1] at h; cases h
  | some x =>
    rw [h1] at h
    cases x with
    | none => cases h
    | some y => cases h; exact List.mem_of_getElem? h1
def dOkD : Option XD → Bool
  | some (.fn xf) => xf.body.dOk xf.n
  | _ => true
theorem dOk_all : progL.all dOkD = true := by kernel_rfl
def isO : Option XD → Bool
  | some (.orc _) => true
  | _ => false
theorem orc_at {f : Nat} {o : List AV → Hp → Option (AV × Hp)} (h : prog f = some (.orc o)) : o = orcA f ∧ (f = 33 ∨ f = 50 ∨ f = 51 ∨ f = 130 ∨ f = 131 ∨ f = 222) := by
  have hf : isO (prog f) = true := by rw [h]; rfl
  have all : (List.range progL.length).all (fun f => !isO (prog f) || (f == 33 || f == 50 || f == 51 || f == 130 || f == 131 || f == 222)) = true := by kernel_rfl
  have hlt : f < progL.length := by
    unfold prog at h
    by_cases q : f < progL.length
    · exact q
    · rw [List.getElem?_eq_none (by omega)] at h; cases h
  rw [List.all_eq_true] at all
  have := all f (List.mem_range.2 hlt)
  rw [hf] at this
  simp only [Bool.not_true, Bool.false_or, Bool.or_eq_true, beq_iff_eq] at this
  have hc : f = 33 ∨ f = 50 ∨ f = 51 ∨ f = 130 ∨ f = 131 ∨ f = 222 := by omega
  refine ⟨?_, hc⟩
  rcases hc with rfl | rfl | rfl | rfl | rfl | rfl
  · first | (have e : prog 33 = some (.orc (orcA 33)) := rfl; rw [e] at h; cases h; rfl) | (have h' : (none : Option XD) = some (.orc o) := h; cases h')
  · first | (have e : prog 50 = some (.orc (orcA 50)) := rfl; rw [e] at h; cases h; rfl) | (have h' : (none : Option XD) = some (.orc o) := h; cases h')
  · first | (have e : prog 51 = some (.orc (orcA 51)) := rfl; rw [e] at h; cases h; rfl) | (have h' : (none : Option XD) = some (.orc o) := h; cases h')
  · first | (have e : prog 130 = some (.orc (orcA 130)) := rfl; rw [e] at h; cases h; rfl) | (have h' : (none : Option XD) = some (.orc o) := h; cases h')
  · first | (have e : prog 131 = some (.orc (orcA 131)) := rfl; rw [e] at h; cases h; rfl) | (have h' : (none : Option XD) = some (.orc o) := h; cases h')
  · first | (have e : prog 222 = some (.orc (orcA 222)) := rfl; rw [e] at h; cases h; rfl) | (have h' : (none : Option XD) = some (.orc o) := h; cases h')
theorem e1_prog {f : Nat} {d : XD} (h : E1.prog f = some d) : prog f = some d ∧ f ≠ 33 := by
  have h2 : (if f = 33 then none else prog f) = some d := h
  split at h2
  · cases h2
  · rename_i hf; exact ⟨h2, hf⟩
theorem KE0 : PEnvOk E0 where
  fn := fun f xf h => by
    have := dOk_all
    rw [List.all_eq_true] at this
    exact this _ (prog_mem (show prog f = _ from h))
  orc := fun f o h Db r M hp args asv v M' e I hv => by
    obtain ⟨rfl, _⟩ := orc_at (show prog f = _ from h)
    exact orc_V rfl e I hv
theorem KE1 : PEnvOk E1 where
  fn := fun f xf h => by
    have := dOk_all
    rw [List.all_eq_true] at this
    exact this _ (prog_mem (e1_prog h).1)
  orc := fun f o h Db r M hp args asv v M' e I hv => by
    obtain ⟨rfl, _⟩ := orc_at (e1_prog h).1
    exact orc_V rfl e I hv
variable (P : Program) (T : Tab)
def AllOk : List (Option XD) → List (Option FuncId) → Prop
  | some (.fn xf) :: ps, some g :: ks => (∃ fn, P.funcs[g]? = some fn ∧ cFunc P T fn = some xf ∧ xf.body.regsOk = true) ∧ AllOk ps ks
  | _ :: ps, _ :: ks => AllOk ps ks
  | _, _ => True
def AllCal : List (Option FuncId) → Prop
  | some g :: ks => (∃ fn, P.funcs[g]? = some fn ∧ fn.body.isNone = false ∧ (fn.name == "runtime.NumGoroutine") = false) ∧ AllCal ks
  | none :: ks => AllCal ks
  | [] => True
variable {P T}
theorem allOk_at : ∀ {ps : List (Option XD)} {ks : List (Option FuncId)}, AllOk P T ps ks → ∀ {f : Nat} {xf : XF} {g : FuncId}, (ps[f]?).join = some (.fn xf) → (ks[f]?).join = some g → ∃ fn, P.funcs[g]? = some fn ∧ cFunc P T fn = some xf ∧ xf.body.regsOk = true
  | [], _, _, f, xf, g, h1, h2 => by simp at h1
  | p :: ps, [], _, f, xf, g, h1, h2 => by simp at h2
  | p :: ps, k :: ks, h, 0, xf, g, h1, h2 => by
    simp only [List.getElem?_cons_zero, Option.join_some] at h1 h2
    subst h1; subst h2
    exact h.1
  | p :: ps, k :: ks, h, f + 1, xf, g, h1, h2 => by
    simp only [List.getElem?_cons_succ] at h1 h2
    refine allOk_at (ps := ps) (ks := ks) ?_ h1 h2
    match p, k, h with
    | some (.fn xf), some g, h => exact h.2
    | some (.fn xf), none, h => exact h
    | some (.orc _), _, h => exact h
    | none, _, h => exact h
theorem allC_at : ∀ {ks : List (Option FuncId)}, AllCal P ks → ∀ {f : Nat} {g : FuncId}, (ks[f]?).join = some g → ∃ fn, P.funcs[g]? = some fn ∧ fn.body.isNone = false ∧ (fn.name == "runtime.NumGoroutine") = false
  | [], _, f, g, h => by simp at h
  | k :: ks, h, 0, g, h1 => by
    simp only [List.getElem?_cons_zero, Option.join_some] at h1
    subst h1
    exact h.1
  | k :: ks, h, f + 1, g, h1 => by
    simp only [List.getElem?_cons_succ] at h1
    refine allC_at (ks := ks) ?_ h1
    match k, h with
    | some g, h => exact h.2
    | none, h => exact h
theorem lib_good {f : Nat} {args : List AV} {h h' : Hp} {v : AV} (e : orcA f args h = some (v, h')) : HpOk h h' := by
  unfold orcA at e
  split at e
  · split at e
    · simp only [Option.map_eq_some_iff, Prod.mk.injEq] at e
      obtain ⟨_, _, _, rfl⟩ := e
      exact .refl h
    · cases e
  · split at e
    · cases e
    · simp only [Option.map_eq_some_iff, Prod.mk.injEq] at e
      obtain ⟨_, _, _, rfl⟩ := e
      exact .refl h
theorem progOk1 {keyL : List (Option FuncId)} {ρ : Go.Shelf.Ren} {G : Nat} (mixed : P.follows .mixedOrders = true) (hc : AllCal P keyL) (ha : AllOk P T progL keyL) (L : LibOk P ρ (fun f => (keyL[f]?).join) T G) :
    ProgOk P (fun f => (keyL[f]?).join) T E1.prog where
  mixed := mixed
  call := fun f g h => allC_at hc h
  fn := fun f xf g h1 h2 => allOk_at ha (e1_prog h1).1 h2
  good := fun f o args h v h' h1 e => by
    obtain ⟨rfl, _⟩ := orc_at (e1_prog h1).1
    exact lib_good e
  orc := fun f o g h1 hk F args vs h h' v l w e hF TO RL S => by
    obtain ⟨rfl, _⟩ := orc_at (e1_prog h1).1
    exact lib_orc L hk (e1_prog h1).2 e TO RL S
theorem progOk0 {keyL : List (Option FuncId)} {ρ : Go.Shelf.Ren} {G : Nat} (mixed : P.follows .mixedOrders = true) (hc : AllCal P keyL) (ha : AllOk P T progL keyL) (L : LibOk P ρ (fun f => (keyL[f]?).join) T G)
    (str : ∀ {g : Nat}, (keyL[33]?).join = some g → ∀ {F : Nat} {args : List AV} {vs : Array Value} {h h' : Hp} {v : AV} {l : Loc} {w : World}, orcA 33 args h = some (v, h') → TabOk (fun f => (keyL[f]?).join) T l →
      RelL (fun f => (keyL[f]?).join) l args vs.toList → Sim (fun f => (keyL[f]?).join) F l h w → Calls P g vs w fun e w' => ∃ l' val, e = .returned val ∧ Ext l h w l' h' w' ∧ Sim (fun f => (keyL[f]?).join) F l' h' w' ∧ Rel (fun f => (keyL[f]?).join) l' v val) :
    ProgOk P (fun f => (keyL[f]?).join) T E0.prog where
  mixed := mixed
  call := fun f g h => allC_at hc h
  fn := fun f xf g h1 h2 => allOk_at ha (show prog f = _ from h1) h2
  good := fun f o args h v h' h1 e => by
    obtain ⟨rfl, _⟩ := orc_at (show prog f = _ from h1)
    exact lib_good e
  orc := fun f o g h1 hk F args vs h h' v l w e hF TO RL S => by
    obtain ⟨rfl, hf⟩ := orc_at (show prog f = _ from h1)
    by_cases h33 : f = 33
    · subst h33
      exact str hk e TO RL S
    · exact lib_orc L hk h33 e TO RL S
end Go.Eng
namespace Go.Proofs
open Go.Eng
def Tryz.keyL : List (Option FuncId) := [none, none, some 12, some 26, none, some 15, some 8, some 17, some 19, some 18, some 16, some 20, none, some 40, some 24, some 44, some 32, some 48, some 49, some 50, some 51, some 52, some 55, some 53, some 54, some 43, some 45, some 46, some 47, some 56, some 57, some 58, some 41, some 68, some 79, some 80, some 81, some 82, some 83, some 88, some 84, some 85, some 86, some 87, some 77, some 78, some 75, some 76, some 101, some 102, some 103, some 104, none, none, none, some 125, some 126, some 127, some 128, some 129, some 130, some 131, some 132, some 120, some 121, some 122, some 123, some 28, some 124, some 119, none, none, none, none, none, none, some 151, some 152, some 153, some 154, some 149, some 150, none, none, none, none, none, none, none, none, none, none, none, none, none, none, none, none, none, none, none, none, none, none, none, none, none, none, none, none, none, none, none, none, none, none, none, none, none, none, none, none, none, none, none, none, none, none, none, none, none, none, none, none, none, none, none, none, none, none, none, none, none, none, none, none, none, none, none, none, none, none, none, none, none, none, none, none, none, none, none, none, none, none, none, none, none, none, none, none, none, none, none, none, none, none, none, none, none, none, none, none, none, none, none, none, none, none, none, none, none, none, none, none, none, none, none, none, none, none, none, none, none, none, none, none, none, none, none, none, none, none, none, none, none, none, none, none, none, none, none, none, none, none, none, none, none, none, none, none, some 5, none, none, none, none, none, none, none, none, some 13, none, some 22, some 23, some 25, some 27, none, none, none, none, none, none, none, none, none, none, none, none, none, none, none, none, none, none, some 42, some 59, some 60, some 61, none, none, none, none, none, none, none, none, none, none, none, none, none, some 91, some 90, some 89, none, none, none, none, none, none, none, none, none, some 133, none, none, none, none, none, none, none, none, none, none, none, none, none, none, none, none, none, none, none, none, none, none, none, none, none, none, none, none, none, none, none, none, none, none, none, none, none, none, none, none, none, none, none, none, none, none, none, none, none, none, none, none, none, none, none, none, none, none, none, none, none, none, none, none, none, none, none, none, none, none, none, none, none, none, none, none, none, none, none, none, none, none, none, none, none, none, none, none, none, none, none, none, none, none, none]
def Tryz.fkeyL : List (Option Nat) := [none, none, none, none, none, some 230, none, none, some 6, none, none, none, some 2, some 239, none, some 5, some 10, some 7, some 9, some 8, some 11, none, some 241, some 242, some 14, some 243, some 3, some 244, some 67, none, none, none, some 16, none, none, none, none, none, none, none, some 13, some 32, some 263, some 25, some 15, some 26, some 27, some 28, some 17, some 18, some 19, some 20, some 21, some 23, some 24, some 22, some 29, some 30, some 31, some 264, some 265, some 266, none, none, none, none, none, none, some 33, none, none, none, none, none, none, some 46, some 47, some 44, some 45, some 34, some 35, some 36, some 37, some 38, some 40, some 41, some 42, some 43, some 39, some 282, some 281, some 280, none, none, none, none, none, none, none, none, none, some 48, some 49, some 50, some 51, none, none, none, none, none, none, none, none, none, none, none, none, none, none, some 69, some 63, some 64, some 65, some 66, some 68, some 55, some 56, some 57, some 58, some 59, some 60, some 61, some 62, some 292, none, none, none, none, none, none, none, none, none, none, none, none, none, none, none, some 80, some 81, some 76, some 77, some 78, some 79]
def Tryz.T : Tab := { fkey := fun f => (Tryz.fkeyL[f]?).join, gkey := fun g => if g = 3 then some 0 else none }
abbrev OkC (p : Program) (n : Nat) : Prop := ∃ fn, p.funcs[n]? = some fn ∧ fn.body.isNone = false ∧ (fn.name == "runtime.NumGoroutine") = false
abbrev OkF (p : Program) (T : Tab) (n : Nat) (x : XF) : Prop := ∃ fn, p.funcs[n]? = some fn ∧ cFunc p T fn = some x ∧ x.body.regsOk = true
theorem Tryz.okc2 : OkC Tryz.prog 12 := ⟨_, Tryz.func12, by kernel_rfl, by kernel_rfl⟩
theorem Tryz.okc3 : OkC Tryz.prog 26 := ⟨_, Tryz.func26, by kernel_rfl, by kernel_rfl⟩
theorem Tryz.okc5 : OkC Tryz.prog 15 := ⟨_, Tryz.func15, by kernel_rfl, by kernel_rfl⟩
theorem Tryz.okc6 : OkC Tryz.prog 8 := ⟨_, Tryz.func8, by kernel_rfl, by kernel_rfl⟩
theorem Tryz.okc7 : OkC Tryz.prog 17 := ⟨_, Tryz.func17, by kernel_rfl, by kernel_rfl⟩
theorem Tryz.okc8 : OkC Tryz.prog 19 := ⟨_, Tryz.func19, by kernel_rfl, by kernel_rfl⟩
theorem Tryz.okc9 : OkC Tryz.prog 18 := ⟨_, Tryz.func18, by kernel_rfl, by kernel_rfl⟩
theorem Tryz.okc10 : OkC Tryz.prog 16 := ⟨_, Tryz.func16, by kernel_rfl, by kernel_rfl⟩
theorem Tryz.okc11 : OkC Tryz.prog 20 := ⟨_, Tryz.func20, by kernel_rfl, by kernel_rfl⟩
theorem Tryz.okc13 : OkC Tryz.prog 40 := ⟨_, Tryz.func40, by kernel_rfl, by kernel_rfl⟩
theorem Tryz.okc14 : OkC Tryz.prog 24 := ⟨_, Tryz.func24, by kernel_rfl, by kernel_rfl⟩
theorem Tryz.okc15 : OkC Tryz.prog 44 := ⟨_, Tryz.func44, by kernel_rfl, by kernel_rfl⟩
theorem Tryz.okc16 : OkC Tryz.prog 32 := ⟨_, Tryz.func32, by kernel_rfl, by kernel_rfl⟩
theorem Tryz.okc17 : OkC Tryz.prog 48 := ⟨_, Tryz.func48, by kernel_rfl, by kernel_rfl⟩
theorem Tryz.okc18 : OkC Tryz.prog 49 := ⟨_, Tryz.func49, by kernel_rfl, by kernel_rfl⟩
theorem Tryz.okc19 : OkC Tryz.prog 50 := ⟨_, Tryz.func50, by kernel_rfl, by kernel_rfl⟩
theorem Tryz.okc20 : OkC Tryz.prog 51 := ⟨_, Tryz.func51, by kernel_rfl, by kernel_rfl⟩
theorem Tryz.okc21 : OkC Tryz.prog 52 := ⟨_, Tryz.func52, by kernel_rfl, by kernel_rfl⟩
theorem Tryz.okc22 : OkC Tryz.prog 55 := ⟨_, Tryz.func55, by kernel_rfl, by kernel_rfl⟩
theorem Tryz.okc23 : OkC Tryz.prog 53 := ⟨_, Tryz.func53, by kernel_rfl, by kernel_rfl⟩
theorem Tryz.okc24 : OkC Tryz.prog 54 := ⟨_, Tryz.func54, by kernel_rfl, by kernel_rfl⟩
theorem Tryz.okc25 : OkC Tryz.prog 43 := ⟨_, Tryz.func43, by kernel_rfl, by kernel_rfl⟩
theorem Tryz.okc26 : OkC Tryz.prog 45 := ⟨_, Tryz.func45, by kernel_rfl, by kernel_rfl⟩
theorem Tryz.okc27 : OkC Tryz.prog 46 := ⟨_, Tryz.func46, by kernel_rfl, by kernel_rfl⟩
theorem Tryz.okc28 : OkC Tryz.prog 47 := ⟨_, Tryz.func47, by kernel_rfl, by kernel_rfl⟩
theorem Tryz.okc29 : OkC Tryz.prog 56 := ⟨_, Tryz.func56, by kernel_rfl, by kernel_rfl⟩
theorem Tryz.okc30 : OkC Tryz.prog 57 := ⟨_, Tryz.func57, by kernel_rfl, by kernel_rfl⟩
theorem Tryz.okc31 : OkC Tryz.prog 58 := ⟨_, Tryz.func58, by kernel_rfl, by kernel_rfl⟩
theorem Tryz.okc32 : OkC Tryz.prog 41 := ⟨_, Tryz.func41, by kernel_rfl, by kernel_rfl⟩
theorem Tryz.okc33 : OkC Tryz.prog 68 := ⟨_, Tryz.func68, by kernel_rfl, by kernel_rfl⟩
theorem Tryz.okc34 : OkC Tryz.prog 79 := ⟨_, Tryz.func79, by kernel_rfl, by kernel_rfl⟩
theorem Tryz.okc35 : OkC Tryz.prog 80 := ⟨_, Tryz.func80, by kernel_rfl, by kernel_rfl⟩
theorem Tryz.okc36 : OkC Tryz.prog 81 := ⟨_, Tryz.func81, by kernel_rfl, by kernel_rfl⟩
theorem Tryz.okc37 : OkC Tryz.prog 82 := ⟨_, Tryz.func82, by kernel_rfl, by kernel_rfl⟩
theorem Tryz.okc38 : OkC Tryz.prog 83 := ⟨_, Tryz.func83, by kernel_rfl, by kernel_rfl⟩
theorem Tryz.okc39 : OkC Tryz.prog 88 := ⟨_, Tryz.func88, by kernel_rfl, by kernel_rfl⟩
theorem Tryz.okc40 : OkC Tryz.prog 84 := ⟨_, Tryz.func84, by kernel_rfl, by kernel_rfl⟩
theorem Tryz.okc41 : OkC Tryz.prog 85 := ⟨_, Tryz.func85, by kernel_rfl, by kernel_rfl⟩
theorem Tryz.okc42 : OkC Tryz.prog 86 := ⟨_, Tryz.func86, by kernel_rfl, by kernel_rfl⟩
theorem Tryz.okc43 : OkC Tryz.prog 87 := ⟨_, Tryz.func87, by kernel_rfl, by kernel_rfl⟩
theorem Tryz.okc44 : OkC Tryz.prog 77 := ⟨_, Tryz.func77, by kernel_rfl, by kernel_rfl⟩
theorem Tryz.okc45 : OkC Tryz.prog 78 := ⟨_, Tryz.func78, by kernel_rfl, by kernel_rfl⟩
theorem Tryz.okc46 : OkC Tryz.prog 75 := ⟨_, Tryz.func75, by kernel_rfl, by kernel_rfl⟩
theorem Tryz.okc47 : OkC Tryz.prog 76 := ⟨_, Tryz.func76, by kernel_rfl, by kernel_rfl⟩
theorem Tryz.okc48 : OkC Tryz.prog 101 := ⟨_, Tryz.func101, by kernel_rfl, by kernel_rfl⟩
theorem Tryz.okc49 : OkC Tryz.prog 102 := ⟨_, Tryz.func102, by kernel_rfl, by kernel_rfl⟩
theorem Tryz.okc50 : OkC Tryz.prog 103 := ⟨_, Tryz.func103, by kernel_rfl, by kernel_rfl⟩
theorem Tryz.okc51 : OkC Tryz.prog 104 := ⟨_, Tryz.func104, by kernel_rfl, by kernel_rfl⟩
theorem Tryz.okc55 : OkC Tryz.prog 125 := ⟨_, Tryz.func125, by kernel_rfl, by kernel_rfl⟩
theorem Tryz.okc56 : OkC Tryz.prog 126 := ⟨_, Tryz.func126, by kernel_rfl, by kernel_rfl⟩
theorem Tryz.okc57 : OkC Tryz.prog 127 := ⟨_, Tryz.func127, by kernel_rfl, by kernel_rfl⟩
theorem Tryz.okc58 : OkC Tryz.prog 128 := ⟨_, Tryz.func128, by kernel_rfl, by kernel_rfl⟩
theorem Tryz.okc59 : OkC Tryz.prog 129 := ⟨_, Tryz.func129, by kernel_rfl, by kernel_rfl⟩
theorem Tryz.okc60 : OkC Tryz.prog 130 := ⟨_, Tryz.func130, by kernel_rfl, by kernel_rfl⟩
theorem Tryz.okc61 : OkC Tryz.prog 131 := ⟨_, Tryz.func131, by kernel_rfl, by kernel_rfl⟩
theorem Tryz.okc62 : OkC Tryz.prog 132 := ⟨_, Tryz.func132, by kernel_rfl, by kernel_rfl⟩
theorem Tryz.okc63 : OkC Tryz.prog 120 := ⟨_, Tryz.func120, by kernel_rfl, by kernel_rfl⟩
theorem Tryz.okc64 : OkC Tryz.prog 121 := ⟨_, Tryz.func121, by kernel_rfl, by kernel_rfl⟩
theorem Tryz.okc65 : OkC Tryz.prog 122 := ⟨_, Tryz.func122, by kernel_rfl, by kernel_rfl⟩
theorem Tryz.okc66 : OkC Tryz.prog 123 := ⟨_, Tryz.func123, by kernel_rfl, by kernel_rfl⟩
theorem Tryz.okc67 : OkC Tryz.prog 28 := ⟨_, Tryz.func28, by kernel_rfl, by kernel_rfl⟩
theorem Tryz.okc68 : OkC Tryz.prog 124 := ⟨_, Tryz.func124, by kernel_rfl, by kernel_rfl⟩
theorem Tryz.okc69 : OkC Tryz.prog 119 := ⟨_, Tryz.func119, by kernel_rfl, by kernel_rfl⟩
theorem Tryz.okc76 : OkC Tryz.prog 151 := ⟨_, Tryz.func151, by kernel_rfl, by kernel_rfl⟩
theorem Tryz.okc77 : OkC Tryz.prog 152 := ⟨_, Tryz.func152, by kernel_rfl, by kernel_rfl⟩
theorem Tryz.okc78 : OkC Tryz.prog 153 := ⟨_, Tryz.func153, by kernel_rfl, by kernel_rfl⟩
theorem Tryz.okc79 : OkC Tryz.prog 154 := ⟨_, Tryz.func154, by kernel_rfl, by kernel_rfl⟩
theorem Tryz.okc80 : OkC Tryz.prog 149 := ⟨_, Tryz.func149, by kernel_rfl, by kernel_rfl⟩
theorem Tryz.okc81 : OkC Tryz.prog 150 := ⟨_, Tryz.func150, by kernel_rfl, by kernel_rfl⟩
theorem Tryz.okc230 : OkC Tryz.prog 5 := ⟨_, Tryz.func5, by kernel_rfl, by kernel_rfl⟩
theorem Tryz.okc239 : OkC Tryz.prog 13 := ⟨_, Tryz.func13, by kernel_rfl, by kernel_rfl⟩
theorem Tryz.okc241 : OkC Tryz.prog 22 := ⟨_, Tryz.func22, by kernel_rfl, by kernel_rfl⟩
theorem Tryz.okc242 : OkC Tryz.prog 23 := ⟨_, Tryz.func23, by kernel_rfl, by kernel_rfl⟩
theorem Tryz.okc243 : OkC Tryz.prog 25 := ⟨_, Tryz.func25, by kernel_rfl, by kernel_rfl⟩
theorem Tryz.okc244 : OkC Tryz.prog 27 := ⟨_, Tryz.func27, by kernel_rfl, by kernel_rfl⟩
theorem Tryz.okc263 : OkC Tryz.prog 42 := ⟨_, Tryz.func42, by kernel_rfl, by kernel_rfl⟩
theorem Tryz.okc264 : OkC Tryz.prog 59 := ⟨_, Tryz.func59, by kernel_rfl, by kernel_rfl⟩
theorem Tryz.okc265 : OkC Tryz.prog 60 := ⟨_, Tryz.func60, by kernel_rfl, by kernel_rfl⟩
theorem Tryz.okc266 : OkC Tryz.prog 61 := ⟨_, Tryz.func61, by kernel_rfl, by kernel_rfl⟩
theorem Tryz.okc280 : OkC Tryz.prog 91 := ⟨_, Tryz.func91, by kernel_rfl, by kernel_rfl⟩
theorem Tryz.okc281 : OkC Tryz.prog 90 := ⟨_, Tryz.func90, by kernel_rfl, by kernel_rfl⟩
theorem Tryz.okc282 : OkC Tryz.prog 89 := ⟨_, Tryz.func89, by kernel_rfl, by kernel_rfl⟩
theorem Tryz.okc292 : OkC Tryz.prog 133 := ⟨_, Tryz.func133, by kernel_rfl, by kernel_rfl⟩
theorem Tryz.okf2 : OkF Tryz.prog Tryz.T 12 x_r10_Terrain := ⟨_, Tryz.func12, by kernel_rfl, by kernel_rfl⟩
theorem Tryz.okf3 : OkF Tryz.prog Tryz.T 26 x_terrain_Form := ⟨_, Tryz.func26, by kernel_rfl, by kernel_rfl⟩
theorem Tryz.okf5 : OkF Tryz.prog Tryz.T 15 x_l10_lives := ⟨_, Tryz.func15, by kernel_rfl, by kernel_rfl⟩
theorem Tryz.okf6 : OkF Tryz.prog Tryz.T 8 x_r01_Around := ⟨_, Tryz.func8, by kernel_rfl, by kernel_rfl⟩
theorem Tryz.okf7 : OkF Tryz.prog Tryz.T 17 x_l10_of := ⟨_, Tryz.func17, by kernel_rfl, by kernel_rfl⟩
theorem Tryz.okf8 : OkF Tryz.prog Tryz.T 19 x_frac_Mul := ⟨_, Tryz.func19, by kernel_rfl, by kernel_rfl⟩
theorem Tryz.okf9 : OkF Tryz.prog Tryz.T 18 x_frac_Add := ⟨_, Tryz.func18, by kernel_rfl, by kernel_rfl⟩
theorem Tryz.okf10 : OkF Tryz.prog Tryz.T 16 x_terrain_Height := ⟨_, Tryz.func16, by kernel_rfl, by kernel_rfl⟩
theorem Tryz.okf11 : OkF Tryz.prog Tryz.T 20 x_frac_Compare := ⟨_, Tryz.func20, by kernel_rfl, by kernel_rfl⟩
theorem Tryz.okf13 : OkF Tryz.prog Tryz.T 40 x_r01_Pick := ⟨_, Tryz.func40, by kernel_rfl, by kernel_rfl⟩
theorem Tryz.okf14 : OkF Tryz.prog Tryz.T 24 x_terrain_Valid := ⟨_, Tryz.func24, by kernel_rfl, by kernel_rfl⟩
theorem Tryz.okf15 : OkF Tryz.prog Tryz.T 44 x_terrain_form := ⟨_, Tryz.func44, by kernel_rfl, by kernel_rfl⟩
theorem Tryz.okf16 : OkF Tryz.prog Tryz.T 32 x__skymosaic_frac_Frac__String := ⟨_, Tryz.func32, by kernel_rfl, by kernel_rfl⟩
theorem Tryz.okf17 : OkF Tryz.prog Tryz.T 48 x_frac_Of := ⟨_, Tryz.func48, by kernel_rfl, by kernel_rfl⟩
theorem Tryz.okf18 : OkF Tryz.prog Tryz.T 49 x_wide_Gcd := ⟨_, Tryz.func49, by kernel_rfl, by kernel_rfl⟩
theorem Tryz.okf19 : OkF Tryz.prog Tryz.T 50 x__skymosaic_frac_Frac__Den := ⟨_, Tryz.func50, by kernel_rfl, by kernel_rfl⟩
theorem Tryz.okf20 : OkF Tryz.prog Tryz.T 51 x_frac_times := ⟨_, Tryz.func51, by kernel_rfl, by kernel_rfl⟩
theorem Tryz.okf21 : OkF Tryz.prog Tryz.T 52 x_frac_over := ⟨_, Tryz.func52, by kernel_rfl, by kernel_rfl⟩
theorem Tryz.okf22 : OkF Tryz.prog Tryz.T 55 x_frac_lowest := ⟨_, Tryz.func55, by kernel_rfl, by kernel_rfl⟩
theorem Tryz.okf23 : OkF Tryz.prog Tryz.T 53 x_wide_Add := ⟨_, Tryz.func53, by kernel_rfl, by kernel_rfl⟩
theorem Tryz.okf24 : OkF Tryz.prog Tryz.T 54 x_frac_Make := ⟨_, Tryz.func54, by kernel_rfl, by kernel_rfl⟩
theorem Tryz.okf25 : OkF Tryz.prog Tryz.T 43 x_terrain_find := ⟨_, Tryz.func43, by kernel_rfl, by kernel_rfl⟩
theorem Tryz.okf26 : OkF Tryz.prog Tryz.T 45 x_terrain_add := ⟨_, Tryz.func45, by kernel_rfl, by kernel_rfl⟩
theorem Tryz.okf27 : OkF Tryz.prog Tryz.T 46 x_terrain_whole := ⟨_, Tryz.func46, by kernel_rfl, by kernel_rfl⟩
theorem Tryz.okf28 : OkF Tryz.prog Tryz.T 47 x_terrain_mul := ⟨_, Tryz.func47, by kernel_rfl, by kernel_rfl⟩
theorem Tryz.okf29 : OkF Tryz.prog Tryz.T 56 x_wide_Div := ⟨_, Tryz.func56, by kernel_rfl, by kernel_rfl⟩
theorem Tryz.okf30 : OkF Tryz.prog Tryz.T 57 x_wide_Compare := ⟨_, Tryz.func57, by kernel_rfl, by kernel_rfl⟩
theorem Tryz.okf31 : OkF Tryz.prog Tryz.T 58 x_wide_Sign := ⟨_, Tryz.func58, by kernel_rfl, by kernel_rfl⟩
theorem Tryz.okf32 : OkF Tryz.prog Tryz.T 41 x_terrain_within := ⟨_, Tryz.func41, by kernel_rfl, by kernel_rfl⟩
theorem Tryz.okf34 : OkF Tryz.prog Tryz.T 79 x_wide_From := ⟨_, Tryz.func79, by kernel_rfl, by kernel_rfl⟩
theorem Tryz.okf35 : OkF Tryz.prog Tryz.T 80 x_wide_divide := ⟨_, Tryz.func80, by kernel_rfl, by kernel_rfl⟩
theorem Tryz.okf36 : OkF Tryz.prog Tryz.T 81 x_wide_signed := ⟨_, Tryz.func81, by kernel_rfl, by kernel_rfl⟩
theorem Tryz.okf37 : OkF Tryz.prog Tryz.T 82 x_frac_must := ⟨_, Tryz.func82, by kernel_rfl, by kernel_rfl⟩
theorem Tryz.okf38 : OkF Tryz.prog Tryz.T 83 x_wide_Mul := ⟨_, Tryz.func83, by kernel_rfl, by kernel_rfl⟩
theorem Tryz.okf39 : OkF Tryz.prog Tryz.T 88 x_wide_Sub := ⟨_, Tryz.func88, by kernel_rfl, by kernel_rfl⟩
theorem Tryz.okf40 : OkF Tryz.prog Tryz.T 84 x_wide_sum := ⟨_, Tryz.func84, by kernel_rfl, by kernel_rfl⟩
theorem Tryz.okf41 : OkF Tryz.prog Tryz.T 85 x_wide_compare := ⟨_, Tryz.func85, by kernel_rfl, by kernel_rfl⟩
theorem Tryz.okf42 : OkF Tryz.prog Tryz.T 86 x_wide_difference := ⟨_, Tryz.func86, by kernel_rfl, by kernel_rfl⟩
theorem Tryz.okf43 : OkF Tryz.prog Tryz.T 87 x_wide_Neg := ⟨_, Tryz.func87, by kernel_rfl, by kernel_rfl⟩
theorem Tryz.okf44 : OkF Tryz.prog Tryz.T 77 x_poly_Digits := ⟨_, Tryz.func77, by kernel_rfl, by kernel_rfl⟩
theorem Tryz.okf45 : OkF Tryz.prog Tryz.T 78 x_terrain_place := ⟨_, Tryz.func78, by kernel_rfl, by kernel_rfl⟩
theorem Tryz.okf46 : OkF Tryz.prog Tryz.T 75 x_slices_ContainsFunc___int_int_ := ⟨_, Tryz.func75, by kernel_rfl, by kernel_rfl⟩
theorem Tryz.okf47 : OkF Tryz.prog Tryz.T 76 x_terrain_within_1 := ⟨_, Tryz.func76, by kernel_rfl, by kernel_rfl⟩
theorem Tryz.okf48 : OkF Tryz.prog Tryz.T 101 x_wide_short := ⟨_, Tryz.func101, by kernel_rfl, by kernel_rfl⟩
theorem Tryz.okf49 : OkF Tryz.prog Tryz.T 102 x_wide_normal := ⟨_, Tryz.func102, by kernel_rfl, by kernel_rfl⟩
theorem Tryz.okf55 : OkF Tryz.prog Tryz.T 125 x_math_bits_LeadingZeros32 := ⟨_, Tryz.func125, by kernel_rfl, by kernel_rfl⟩
theorem Tryz.okf56 : OkF Tryz.prog Tryz.T 126 x_wide_shifted := ⟨_, Tryz.func126, by kernel_rfl, by kernel_rfl⟩
theorem Tryz.okf57 : OkF Tryz.prog Tryz.T 127 x_wide_take := ⟨_, Tryz.func127, by kernel_rfl, by kernel_rfl⟩
theorem Tryz.okf58 : OkF Tryz.prog Tryz.T 128 x_wide_carrier := ⟨_, Tryz.func128, by kernel_rfl, by kernel_rfl⟩
theorem Tryz.okf59 : OkF Tryz.prog Tryz.T 129 x_wide_times := ⟨_, Tryz.func129, by kernel_rfl, by kernel_rfl⟩
theorem Tryz.okf60 : OkF Tryz.prog Tryz.T 130 x_cmp_Compare_int_ := ⟨_, Tryz.func130, by kernel_rfl, by kernel_rfl⟩
theorem Tryz.okf61 : OkF Tryz.prog Tryz.T 131 x_cmp_Compare_uint32_ := ⟨_, Tryz.func131, by kernel_rfl, by kernel_rfl⟩
theorem Tryz.okf62 : OkF Tryz.prog Tryz.T 132 x_wide_subtract := ⟨_, Tryz.func132, by kernel_rfl, by kernel_rfl⟩
theorem Tryz.okf63 : OkF Tryz.prog Tryz.T 120 x_poly_digits := ⟨_, Tryz.func120, by kernel_rfl, by kernel_rfl⟩
theorem Tryz.okf64 : OkF Tryz.prog Tryz.T 121 x__skymosaic_frac_Frac__Num := ⟨_, Tryz.func121, by kernel_rfl, by kernel_rfl⟩
theorem Tryz.okf65 : OkF Tryz.prog Tryz.T 122 x_frac_Div := ⟨_, Tryz.func122, by kernel_rfl, by kernel_rfl⟩
theorem Tryz.okf66 : OkF Tryz.prog Tryz.T 123 x_terrain_sub := ⟨_, Tryz.func123, by kernel_rfl, by kernel_rfl⟩
theorem Tryz.okf67 : OkF Tryz.prog Tryz.T 28 x_frac_Sign := ⟨_, Tryz.func28, by kernel_rfl, by kernel_rfl⟩
theorem Tryz.okf68 : OkF Tryz.prog Tryz.T 124 x_terrain_floor := ⟨_, Tryz.func124, by kernel_rfl, by kernel_rfl⟩
theorem Tryz.okf69 : OkF Tryz.prog Tryz.T 119 x_slices_IndexFunc___int_int_ := ⟨_, Tryz.func119, by kernel_rfl, by kernel_rfl⟩
theorem Tryz.okf76 : OkF Tryz.prog Tryz.T 151 x_math_bits_Len32 := ⟨_, Tryz.func151, by kernel_rfl, by kernel_rfl⟩
theorem Tryz.okf77 : OkF Tryz.prog Tryz.T 152 x_wide_carrier_1 := ⟨_, Tryz.func152, by kernel_rfl, by kernel_rfl⟩
theorem Tryz.okf78 : OkF Tryz.prog Tryz.T 153 x_cmp_isNaN_int_ := ⟨_, Tryz.func153, by kernel_rfl, by kernel_rfl⟩
theorem Tryz.okf79 : OkF Tryz.prog Tryz.T 154 x_cmp_isNaN_uint32_ := ⟨_, Tryz.func154, by kernel_rfl, by kernel_rfl⟩
theorem Tryz.okf80 : OkF Tryz.prog Tryz.T 149 x__skymosaic_wide_Int__Small := ⟨_, Tryz.func149, by kernel_rfl, by kernel_rfl⟩
theorem Tryz.okf81 : OkF Tryz.prog Tryz.T 150 x_frac_Sub := ⟨_, Tryz.func150, by kernel_rfl, by kernel_rfl⟩
theorem Tryz.okf230 : OkF Tryz.prog Tryz.T 5 x_l10_TerrainValid := ⟨_, Tryz.func5, by kernel_rfl, by kernel_rfl⟩
theorem Tryz.okf239 : OkF Tryz.prog Tryz.T 13 x_terrain_Raise := ⟨_, Tryz.func13, by kernel_rfl, by kernel_rfl⟩
theorem Tryz.okf241 : OkF Tryz.prog Tryz.T 22 x_r10_Spoilt := ⟨_, Tryz.func22, by kernel_rfl, by kernel_rfl⟩
theorem Tryz.okf242 : OkF Tryz.prog Tryz.T 23 x_r10_Valid := ⟨_, Tryz.func23, by kernel_rfl, by kernel_rfl⟩
theorem Tryz.okf243 : OkF Tryz.prog Tryz.T 25 x_terrain_Facet := ⟨_, Tryz.func25, by kernel_rfl, by kernel_rfl⟩
theorem Tryz.okf244 : OkF Tryz.prog Tryz.T 27 x_terrain_Range := ⟨_, Tryz.func27, by kernel_rfl, by kernel_rfl⟩
theorem Tryz.okf263 : OkF Tryz.prog Tryz.T 42 x_slices_Clone___int_int_ := ⟨_, Tryz.func42, by kernel_rfl, by kernel_rfl⟩
theorem Tryz.okf264 : OkF Tryz.prog Tryz.T 59 x_terrain_meeting := ⟨_, Tryz.func59, by kernel_rfl, by kernel_rfl⟩
theorem Tryz.okf265 : OkF Tryz.prog Tryz.T 60 x_slices_Min___int_int_ := ⟨_, Tryz.func60, by kernel_rfl, by kernel_rfl⟩
theorem Tryz.okf266 : OkF Tryz.prog Tryz.T 61 x_slices_Max___int_int_ := ⟨_, Tryz.func61, by kernel_rfl, by kernel_rfl⟩
theorem Tryz.okf280 : OkF Tryz.prog Tryz.T 91 x__skymosaic_ival_Ival__Lo := ⟨_, Tryz.func91, by kernel_rfl, by kernel_rfl⟩
theorem Tryz.okf281 : OkF Tryz.prog Tryz.T 90 x__skymosaic_ival_Ival__Hi := ⟨_, Tryz.func90, by kernel_rfl, by kernel_rfl⟩
theorem Tryz.okf282 : OkF Tryz.prog Tryz.T 89 x_terrain_meeting_1 := ⟨_, Tryz.func89, by kernel_rfl, by kernel_rfl⟩
theorem Tryz.okf292 : OkF Tryz.prog Tryz.T 133 x_ival_fraction := ⟨_, Tryz.func133, by kernel_rfl, by kernel_rfl⟩
theorem Tryz.allc : AllCal Tryz.prog Tryz.keyL := ⟨Tryz.okc2, Tryz.okc3, Tryz.okc5, Tryz.okc6, Tryz.okc7, Tryz.okc8, Tryz.okc9, Tryz.okc10, Tryz.okc11, Tryz.okc13, Tryz.okc14, Tryz.okc15, Tryz.okc16, Tryz.okc17, Tryz.okc18, Tryz.okc19, Tryz.okc20, Tryz.okc21, Tryz.okc22, Tryz.okc23, Tryz.okc24, Tryz.okc25, Tryz.okc26, Tryz.okc27, Tryz.okc28, Tryz.okc29, Tryz.okc30, Tryz.okc31, Tryz.okc32, Tryz.okc33, Tryz.okc34, Tryz.okc35, Tryz.okc36, Tryz.okc37, Tryz.okc38, Tryz.okc39, Tryz.okc40, Tryz.okc41, Tryz.okc42, Tryz.okc43, Tryz.okc44, Tryz.okc45, Tryz.okc46, Tryz.okc47, Tryz.okc48, Tryz.okc49, Tryz.okc50, Tryz.okc51, Tryz.okc55, Tryz.okc56, Tryz.okc57, Tryz.okc58, Tryz.okc59, Tryz.okc60, Tryz.okc61, Tryz.okc62, Tryz.okc63, Tryz.okc64, Tryz.okc65, Tryz.okc66, Tryz.okc67, Tryz.okc68, Tryz.okc69, Tryz.okc76, Tryz.okc77, Tryz.okc78, Tryz.okc79, Tryz.okc80, Tryz.okc81, Tryz.okc230, Tryz.okc239, Tryz.okc241, Tryz.okc242, Tryz.okc243, Tryz.okc244, Tryz.okc263, Tryz.okc264, Tryz.okc265, Tryz.okc266, Tryz.okc280, Tryz.okc281, Tryz.okc282, Tryz.okc292, True.intro⟩
theorem Tryz.allf : AllOk Tryz.prog Tryz.T progL Tryz.keyL := ⟨Tryz.okf2, Tryz.okf3, Tryz.okf5, Tryz.okf6, Tryz.okf7, Tryz.okf8, Tryz.okf9, Tryz.okf10, Tryz.okf11, Tryz.okf13, Tryz.okf14, Tryz.okf15, Tryz.okf16, Tryz.okf17, Tryz.okf18, Tryz.okf19, Tryz.okf20, Tryz.okf21, Tryz.okf22, Tryz.okf23, Tryz.okf24, Tryz.okf25, Tryz.okf26, Tryz.okf27, Tryz.okf28, Tryz.okf29, Tryz.okf30, Tryz.okf31, Tryz.okf32, Tryz.okf34, Tryz.okf35, Tryz.okf36, Tryz.okf37, Tryz.okf38, Tryz.okf39, Tryz.okf40, Tryz.okf41, Tryz.okf42, Tryz.okf43, Tryz.okf44, Tryz.okf45, Tryz.okf46, Tryz.okf47, Tryz.okf48, Tryz.okf49, Tryz.okf55, Tryz.okf56, Tryz.okf57, Tryz.okf58, Tryz.okf59, Tryz.okf60, Tryz.okf61, Tryz.okf62, Tryz.okf63, Tryz.okf64, Tryz.okf65, Tryz.okf66, Tryz.okf67, Tryz.okf68, Tryz.okf69, Tryz.okf76, Tryz.okf77, Tryz.okf78, Tryz.okf79, Tryz.okf80, Tryz.okf81, Tryz.okf230, Tryz.okf239, Tryz.okf241, Tryz.okf242, Tryz.okf243, Tryz.okf244, Tryz.okf263, Tryz.okf264, Tryz.okf265, Tryz.okf266, Tryz.okf280, Tryz.okf281, Tryz.okf282, Tryz.okf292, True.intro⟩
theorem Tryz.libok : LibOk Tryz.prog Tryz.lren (fun f => (Tryz.keyL[f]?).join) Tryz.T 3 where
  l105 := Tryz.l105
  l171 := Tryz.l171
  lX := Tryz.lX
  gname := by kernel_rfl
  gkey := rfl
  k50 := rfl
  k51 := rfl
  o130 := fun g h => by have h : (none : Option FuncId) = some g := h; cases h
  o131 := fun g h => by have h : (none : Option FuncId) = some g := h; cases h
  o222 := fun g h => by have h : (none : Option FuncId) = some g := h; cases h
theorem Tryz.mixed : Tryz.prog.follows .mixedOrders = true := by kernel_rfl
theorem Tryz.progok1 : ProgOk Tryz.prog (fun f => (Tryz.keyL[f]?).join) Tryz.T E1.prog := progOk1 Tryz.mixed Tryz.allc Tryz.allf Tryz.libok
theorem Tryz.gk0 : ∀ g n, Tryz.T.gkey g = some n → n ≤ 4 := fun g n h => by
  have h : (if g = 3 then some 0 else none) = some n := h
  split at h
  · cases h; decide
  · cases h
theorem Tryz.progok : ProgOk Tryz.prog (fun f => (Tryz.keyL[f]?).join) Tryz.T E0.prog := progOk0 Tryz.mixed Tryz.allc Tryz.allf Tryz.libok fun {g} hk => by
  obtain rfl : g = 68 := (Option.some.inj hk).symm
  exact fun {_ _ _ _ _ _ _ _} e TO RL S => str_orc (pre := Tryz.strPre) (tail := Tryz.strTail) Tryz.progok1 KE1 Tryz.gk0 (G := 3) rfl Tryz.func68 rfl (by kernel_rfl) rfl rfl (fun neg ps h1 h2 h3 b1 o1 b3 o3 c w h4 h5 h6 h7 tm h8 h9 h10 => Tryz.str_tail neg ps h1 h2 h3 b1 o1 b3 o3 c w h4 h5 h6 h7 tm h8 h9 h10) e TO RL S
end Go.Proofs
namespace Go.Eng
open Go.RowKit
theorem tabIs_mem {P : Program} {W : World} {name : String} {k : IntKind} {zs : List Int} {g : Nat} {t e : TypeId} {n : Nat}
    (hg : P.globalNamed name = some g) (hty : (P.globals[g]?).map (·.type) = some t) (ht : P.underlying t = some (.array n e)) (he : P.underlying e = some (.int k)) (hce : P.cellsOf e = 1) (hct : P.cellsOf t = n) :
    ∀ {laid : List (String × DataW Unit)} {ps : List MemPlace}, DataW.LaidVars P W laid ps → (name, Lib.tabData k zs) ∈ laid → Lib.TabIs P W name k zs
  | [], _, _, hm => by cases hm
  | x :: laid, ps, h, hm => by
    obtain ⟨g', t', cs, fuel, p, q, hg', ht', hvar, hd, h2, h3⟩ := h
    rcases List.mem_cons.1 hm with rfl | hm
    · obtain rfl := Option.some.inj (hg.symm.trans hg')
      obtain rfl := Option.some.inj (hty.symm.trans ht')
      unfold Lib.TabIs
      rw [hvar, ← Lib.cells_of_tab ht he hce hct hd]
    · exact tabIs_mem hg hty ht he hce hct (by first | exact h2 | exact h3 | exact h3.1 | exact h2.1) hm
def IsRow (k : IntKind) (w : World) (a : Option Addr) (len cap : Nat) (zs : List Int) : Prop :=
  (a = none ∧ len = 0 ∧ cap = 0 ∧ zs = []) ∨
  ∃ x, a = some x ∧ len ≤ cap ∧ cap ≤ maxLen ∧ zs.length = cap ∧ (∀ i, i < zs.length → w.cell? (x.add i) = some (.int k (zs.getD i 0))) ∧ ∀ n ∈ zs, (Lit.int k n).wf = true
def hpA (bs : List (List AV)) : Hp := ⟨fun n => if n ≤ 4 then (globG n).map fun c => ⟨c, false, 0⟩ else (bs[n - 5]?).map fun c => ⟨c, false, 0⟩, bs.length + 5⟩
def locA (gs : Nat → Option At) (ats : List At) : Loc := fun n => if n ≤ 4 then gs n else ats[n - 5]?
def InW (c : List AV) (a : At) (W : World) : Prop :=
  a.b < W.heap.size ∧ a.w = false ∧ c.length ≤ a.n ∧ ∀ i (h : i < c.length), c[i].scal = true ∧ ∃ v, W.cell? ⟨a.b, a.o + i, none⟩ = some v ∧ ∀ key l, Rel key l c[i] v
def GlobIn (key : Nat → Option FuncId) (W : World) (n : Nat) (a : At) : Prop :=
  a.o = 0 ∧ ∃ c cs t fz, globG n = some c ∧ W.heap[a.b]? = some (.cells cs t fz) ∧ c.length ≤ a.n ∧ RelL key (fun _ => none) c cs.toList
theorem glob_scal : ∀ {n : Nat} {c : List AV}, globG n = some c → c.all AV.scal = true
  | 0, c, h => by cases h; rfl
  | 1, c, h => by cases h; rfl
  | 2, c, h => by cases h; rfl
  | 3, c, h => by cases h; rfl
  | 4, c, h => by cases h; rfl
  | n + 5, c, h => by cases h
theorem glob_pscal : ∀ {n : Nat} {c : List AV}, globG n = some c → (c.map cst0).all PV.scal = true
  | 0, c, h => by cases h; decide
  | 1, c, h => by cases h; decide
  | 2, c, h => by cases h; decide
  | 3, c, h => by cases h; rfl
  | 4, c, h => by cases h; rfl
  | n + 5, c, h => by cases h
theorem glob_le : ∀ {n : Nat} {c : List AV}, globG n = some c → n ≤ 4
  | 0, c, h => by omega
  | 1, c, h => by omega
  | 2, c, h => by omega
  | 3, c, h => by omega
  | 4, c, h => by omega
  | n + 5, c, h => by cases h
theorem simA {P : Program} {key : Nat → Option FuncId} {F : Nat} {W : World} {gs : Nat → Option At} (hgs : ∀ n a, n ≤ 4 → gs n = some a → GlobIn key W n a)
    {bs : List (List AV)} {ats : List At} (hl : ats.length = bs.length) (hin : ∀ (n : Nat) c a, bs[n]? = some c → ats[n]? = some a → InW c a W) : Sim key F (locA gs ats) (hpA bs) W := by
  have hlt : ∀ n a, n ≤ 4 → gs n = some a → a.b < W.heap.size := fun n a hn hg => by
    obtain ⟨_, c, cs, t, fz, _, h2, _⟩ := hgs n a hn hg
    rcases Nat.lt_or_ge a.b W.heap.size with q | q
    · exact q
    · rw [Array.getElem?_eq_none q] at h2; cases h2
  have hout : ∀ n, bs.length ≤ n → ats[n]? = none := fun n hn => List.getElem?_eq_none (by omega)
  have norw : ∀ n blk, (hpA bs).m n = some blk → blk.rw = false := fun n blk e => by
    simp only [hpA] at e
    split at e <;> (simp only [Option.map_eq_some_iff] at e; obtain ⟨c, _, rfl⟩ := e; rfl)
  refine ⟨fun n blk a e1 e2 => ?_, fun n blk a n' blk' a' e1 e2 e3 => ?_, fun n a e => ?_, fun n a e => ?_, fun n hn => ?_⟩
  · by_cases hn : n ≤ 4
    · simp only [hpA, if_pos hn, Option.map_eq_some_iff] at e1
      simp only [locA, if_pos hn] at e2
      obtain ⟨c, c1, rfl⟩ := e1
      obtain ⟨g1, c', cs, t, fz, g2, g3, g4, g5⟩ := hgs n a hn e2
      obtain rfl := Option.some.inj (c1.symm.trans g2)
      have hsz : c.length = cs.size := by simpa using g5.1
      refine ⟨hlt n a hn e2, g4, fun i hi => ?_, fun i hi => ?_, fun q => (by cases q), fun _ => ⟨rfl, g1, cs, t, fz, g3, hsz.symm⟩⟩
      · have hi : i < c.length := hi
        have hi' : i < cs.toList.length := by simp; omega
        refine ⟨cs.toList[i], ?_, (g5.2 i hi hi').mono fun n a q => by cases q⟩
        have hb : W.heap[a.b]? = some (.cells cs t fz) := g3
        simp only [World.cell?, hb, g1, Nat.zero_add]
        rw [Array.getElem_toList, Array.getElem?_eq_getElem (by omega)]; rfl
      · have := glob_scal c1
        rw [List.all_eq_true] at this
        exact this _ (List.getElem_mem _)
    · simp only [hpA, if_neg hn, Option.map_eq_some_iff] at e1
      simp only [locA, if_neg hn] at e2
      obtain ⟨c, c1, rfl⟩ := e1
      obtain ⟨q1, q2, q3, q4⟩ := hin _ c a c1 e2
      exact ⟨q1, q3, fun i hi => by obtain ⟨_, v, v1, v2⟩ := q4 i hi; exact ⟨v, v1, v2 key _⟩, fun i hi => (q4 i hi).1, fun q => (by cases q), fun q => by rw [q2] at q; cases q⟩
  · rw [norw n blk e1] at e3; cases e3
  · by_cases hn : n ≤ 4
    · simp only [locA, if_pos hn] at e
      exact hlt n a hn e
    · simp only [locA, if_neg hn] at e
      have hb : n - 5 < bs.length := by
        rcases Nat.lt_or_ge (n - 5) bs.length with q | q
        · exact q
        · rw [hout _ q] at e; cases e
      exact (hin _ _ a (List.getElem?_eq_getElem hb) e).1
  · left
    show n < bs.length + 5
    by_cases hn : n ≤ 4
    · omega
    · simp only [locA, if_neg hn] at e
      rcases Nat.lt_or_ge (n - 5) bs.length with q | q
      · omega
      · rw [hout _ q] at e; cases e
  · have hn : bs.length + 5 ≤ n := hn
    simp only [hpA]
    rw [if_neg (by omega), List.getElem?_eq_none (by omega)]; rfl
theorem PInv.startG {bs : List (List AV)} (w : (hpA bs).wf) : PInv globG (fun _ => False) [] [] (hpA bs) := by
  refine ⟨rfl, fun i j m q => by simp at q, fun m q => by simp at q, w, fun n m q => by simp at q, fun n b m q => by simp at q, fun m d => d.elim, fun g l q => ?_⟩
  refine ⟨⟨l, false, 0⟩, ?_, ⟨rfl, glob_pscal q⟩, fun d => ?_⟩
  · simp only [hpA, if_pos (glob_le q), q, Option.map_some]
  · rcases d with d | d
    · exact d
    · exact noDM _ d
theorem glob_tab {P : Program} {key : Nat → Option FuncId} {W : World} {G : Nat} (hg : P.globalNamed "internal/strconv.uint64pow10" = some G) (ht : Lib.TabIs P W "internal/strconv.uint64pow10" .u64 Lib.pow10Tab) : GlobIn key W 0 ⟨G, 0, 20, true⟩ := by
  have hb : ∃ cs t fz, W.heap[G]? = some (.cells cs t fz) ∧ cs = (Lib.pow10Tab.map fun z => Value.int .u64 z).toArray := by
    unfold Lib.TabIs World.var? at ht
    rw [hg] at ht
    simp only [Option.bind_some] at ht
    split at ht
    · rename_i cs t fz hh
      cases ht
      exact ⟨_, t, fz, hh, rfl⟩
    · cases ht
  obtain ⟨cs, t, fz, hh, rfl⟩ := hb
  refine ⟨rfl, powT, _, t, fz, rfl, hh, Nat.le_refl _, by simp [Lib.pow10Tab, powT], fun i h1 h2 => ?_⟩
  have hpl : powT.length = 20 := rfl
  have hi' : i < 20 := by rw [← hpl]; exact h1
  simp only [powT, List.getElem_map, List.getElem_range, Lib.pow10Tab]
  exact .i _ _
theorem law_calls {P : Program} {key : Nat → Option FuncId} {T : Tab} (K : ProgOk P key T E0.prog) (hTf : ∀ f k, T.fkey f = some k → key k = some f) {W : World} {gs : Nat → Option At} (hgs : ∀ n a, n ≤ 4 → gs n = some a → GlobIn key W n a)
    (hT : ∀ g n, T.gkey g = some n → n ≤ 4 ∧ ∃ m, gs n = some ⟨g, 0, m, true⟩)
    {bs : List (List AV)} {ats : List At} (hl : ats.length = bs.length) (hin : ∀ (n : Nat) c a, bs[n]? = some c → ats[n]? = some a → InW c a W)
    {k g : Nat} (hk : key k = some g) (hpure : E0.pure k = true) {ps : List PV} (hfz : fzL (fz [] fzD) ps = some (ps, [])) (hpf : pf E0 k ps = some (.b true))
    {avs : List AV} {vs : Array Value} (hV : VL (hpA bs) (fun _ => False) [] ps avs) (hR : RelL key (locA gs ats) avs vs.toList) :
    Calls P g vs W fun e w' => e = .returned (.bool true) ∧ Below W.heap.size W w' := by
  have hc : pcl E0 k ps [] = some (.b true, roM [] []) := pcl_pure hpure hfz hpf
  obtain ⟨kk, hev⟩ := pcl_ex hc
  have hw : (hpA bs).wf := (simA (P := P) (key := key) (F := 0) hgs hl hin).wf
  have I : PInv globG (fun _ => False) [] [] (hpA bs) := PInv.startG hw
  obtain ⟨a, h', r', q1, q2, q3, q4⟩ := pvF_ok KE0 kk _ _ _ _ _ _ _ _ _ hev I (VL.dd hV)
  have ha : a = .b true := by cases q4; rfl
  subst ha
  have S := simA (P := P) (key := key) (F := h'.next) hgs hl hin
  have TO : TabOk key T (locA gs ats) := by
    refine ⟨fun f k e => ?_, fun g n e => ?_⟩
    · exact hTf f k e
    · obtain ⟨h4, m, hm⟩ := hT g n e
      exact ⟨m, by simp only [locA, if_pos h4]; exact hm⟩
  refine (evF_sound K kk h'.next k g avs vs _ h' _ _ W q1 hk (Nat.le_refl _) TO hR S).mono ?_
  rintro e w' ⟨l', val, rfl, E, S', rv⟩
  cases rv
  refine ⟨rfl, E.os, E.tape, E.output, E.size, fun b hb => E.frame b hb fun m blk a e1 e2 => ?_⟩
  exfalso
  simp only [hpA] at e1
  split at e1 <;> (simp only [Option.map_eq_some_iff] at e1; obtain ⟨c, c1, rfl⟩ := e1; cases e2)
theorem arg_row {k : IntKind} {W : World} (h0 : 0 < W.heap.size) {a : Option Addr} {len cap : Nat} {zs : List Int} (h : IsRow k W a len cap zs) (n : Nat) : ∃ (c : List AV) (at_ : At) (av : AV), InW c at_ W ∧
    (∀ key (l : Loc), l n = some at_ → Rel key l av (.slice a len cap)) ∧ (∀ (h : Hp) (D : Nat → Prop), h.m n = some ⟨c, false, 0⟩ → ¬ D n → V h D [] (.lst ((zs.take len).map fun z => .i k z)) av) := by
  have nilIn : InW [] ⟨0, 0, 0, false⟩ W := ⟨h0, rfl, Nat.le_refl _, fun i hi => by simp at hi⟩
  rcases h with ⟨rfl, rfl, rfl, rfl⟩ | ⟨x, rfl, hl, hm, hz, hcell, hwz⟩
  · exact ⟨[], ⟨0, 0, 0, false⟩, .sn, nilIn, fun key l _ => .sn, fun h D _ _ => .lsn⟩
  · by_cases hlen : len = 0
    · subst hlen
      exact ⟨[], ⟨0, 0, 0, false⟩, .e0, nilIn, fun key l _ => .e0 _ _, fun h D _ _ => .le0⟩
    · obtain ⟨b, off, spot⟩ := x
      have hc := hcell 0 (by omega)
      have hspot : spot = none := by simpa [Addr.add] using World.cell?_spot hc
      subst hspot
      have hlt : b < W.heap.size := by
        rcases Nat.lt_or_ge b W.heap.size with q | q
        · exact q
        · rw [add_at] at hc
          simp [World.cell?, Array.getElem?_eq_none q] at hc
      have hget : ∀ i (hi : i < ((zs.take len).map fun z => AV.i k z).length), ((zs.take len).map fun z => AV.i k z)[i] = .i k (zs.getD i 0) := fun i hi => by
        have hi' : i < zs.length := by simp at hi; omega
        simp only [List.getElem_map, List.getElem_take, List.getD]
        rw [List.getElem?_eq_getElem hi']; rfl
      refine ⟨(zs.take len).map fun z => .i k z, ⟨b, off, cap, false⟩, .sl n 0 len cap 1, ⟨hlt, rfl, by simp; omega, fun i hi => ?_⟩, fun key l hn => ?_, fun h D hb hD => ?_⟩
      · rw [hget i hi]
        have hi' : i < zs.length := by simp at hi; omega
        have := hcell i hi'
        rw [add_at] at this
        exact ⟨rfl, _, this, fun key l => .i _ _⟩
      · have := Rel.sl (key := key) (off := 0) (len := len) (cap := cap) (cap' := cap) (z := 1) hn (Nat.le_refl _) (by show 0 + cap * 1 ≤ cap; omega) hl
        exact this
      · have hfl : flat ((zs.take len).map fun z => PV.i k z) = (zs.take len).map fun z => PV.i k z := by
          generalize zs.take len = ys
          induction ys with
          | nil => rfl
          | cons y ys ih => rw [List.map_cons]; show [PV.i k y] ++ flat _ = _; rw [ih]; rfl
        have hll : ((zs.take len).map fun z => PV.i k z).length = len := by simp; omega
        have := V.lst (h := h) (D := D) (r := []) (xs := (zs.take len).map fun z => PV.i k z) (m := n) (off := 0) (cap := cap) (z := 1) (fun i => .i k (zs.getD i 0)) hb hD (by rw [hfl, List.all_eq_true]; intro x hx; obtain ⟨y, _, rfl⟩ := List.mem_map.1 hx; rfl) (by decide) (fun x hx => by
          obtain ⟨y, _, rfl⟩ := List.mem_map.1 hx; rfl) (by rw [hll]; exact hl) (fun i hi => by
          rw [hfl] at hi
          have hi2 : i < ((zs.take len).map fun z => AV.i k z).length := by simpa using hi
          rw [Nat.zero_add, List.getElem?_eq_getElem hi2, hget i hi2]) (fun i hi => by
          have hi1 : i < ((zs.take len).map fun z => PV.i k z).length := by rw [hfl] at hi; exact hi
          have e : (flat ((zs.take len).map fun z => PV.i k z))[i] = .i k (zs.getD i 0) := by
            simp only [hfl, List.getElem_map, List.getElem_take, List.getD]
            rw [List.getElem?_eq_getElem (by simp at hi1; omega)]; rfl
          rw [e]
          exact .i _ _)
        rw [hll] at this
        exact this
theorem row_heap {P : Program} {W : World} {G : Nat} (hg : P.globalNamed "internal/strconv.uint64pow10" = some G) (ht : Lib.TabIs P W "internal/strconv.uint64pow10" .u64 Lib.pow10Tab) : 0 < W.heap.size := by
  unfold Lib.TabIs World.var? at ht
  rw [hg] at ht
  simp only [Option.bind_some] at ht
  split at ht
  · rename_i cs t fz hh
    rcases Nat.eq_zero_or_pos W.heap.size with q | q
    · rw [Array.getElem?_eq_none (by omega)] at hh; cases hh
    · exact q
  · cases ht
theorem ints_row {W : World} {a : Option Addr} {len cap : Nat} {zs : List Int} (h : IsRow .i64 W a len cap zs) : Ints (zs.take len) := by
  rcases h with ⟨rfl, rfl, rfl, rfl⟩ | ⟨x, rfl, hl, hm, hz, hcell, hwz⟩
  · exact ⟨by simp, fun n hn => by simp at hn⟩
  · refine ⟨?_, fun n hn => ?_⟩
    · have : maxLen ≤ 9223372036854775807 := by decide
      simp; omega
    · have := bounds_i64 (hwz n (List.mem_of_mem_take hn))
      exact this
end Go.Eng
namespace Go.Eng
def gI (p q : Int) : Int := ((Nat.gcd p.natAbs q.natAbs : Nat) : Int)
def lowP (p q : Int) : Int := (if q < 0 then -p else p) / gI p q
def lowQ (p q : Int) : Int := (if q < 0 then -q else q) / gI p q
theorem gI_ne {p q : Int} (h : q ≠ 0) : gI p q ≠ 0 := by
  unfold gI
  intro e
  have : Nat.gcd p.natAbs q.natAbs = 0 := by omega
  have := Nat.eq_zero_of_gcd_eq_zero_right this
  omega
theorem gI_pos {p q : Int} (h : q ≠ 0) : 0 < gI p q := by
  have := gI_ne (p := p) h
  unfold gI at *
  omega
theorem gI_dvdl (p q : Int) : gI p q ∣ p := Int.ofNat_dvd_left.2 (Nat.gcd_dvd_left _ _)
theorem gI_dvdr (p q : Int) : gI p q ∣ q := Int.ofNat_dvd_left.2 (Nat.gcd_dvd_right _ _)
theorem gI_neg (p q : Int) : gI (-p) (-q) = gI p q := by unfold gI; rw [Int.natAbs_neg, Int.natAbs_neg]
theorem low_mul {p q : Int} (h : q ≠ 0) : lowP p q * gI p q = (if q < 0 then -p else p) ∧ lowQ p q * gI p q = (if q < 0 then -q else q) := by
  unfold lowP lowQ
  refine ⟨Int.ediv_mul_cancel ?_, Int.ediv_mul_cancel ?_⟩
  · split
    · exact Int.dvd_neg.2 (gI_dvdl p q)
    · exact gI_dvdl p q
  · split
    · exact Int.dvd_neg.2 (gI_dvdr p q)
    · exact gI_dvdr p q
theorem low_pos {p q : Int} (h : q ≠ 0) : 0 < lowQ p q := by
  have h1 := (low_mul (p := p) h).2
  have h2 := gI_pos (p := p) h
  have h3 : 0 < lowQ p q * gI p q := by rw [h1]; split <;> omega
  exact Int.pos_of_mul_pos_left h3 h2
theorem low_cross {p q : Int} (h : q ≠ 0) : lowP p q * q = p * lowQ p q := by
  obtain ⟨h1, h2⟩ := low_mul (p := p) h
  have h3 := gI_ne (p := p) h
  apply Int.eq_of_mul_eq_mul_right h3
  rw [Int.mul_right_comm, h1, Int.mul_assoc, h2]
  split <;> grind
theorem low_cop {p q : Int} (h : q ≠ 0) : Nat.gcd (lowP p q).natAbs (lowQ p q).natAbs = 1 := by
  obtain ⟨h1, h2⟩ := low_mul (p := p) h
  have h3 := gI_pos (p := p) h
  have e1 : (lowP p q).natAbs * (gI p q).natAbs = p.natAbs := by rw [← Int.natAbs_mul, h1]; split <;> omega
  have e2 : (lowQ p q).natAbs * (gI p q).natAbs = q.natAbs := by rw [← Int.natAbs_mul, h2]; split <;> omega
  have e3 : (gI p q).natAbs = Nat.gcd p.natAbs q.natAbs := Int.natAbs_natCast _
  have e4 := Nat.gcd_mul_right (lowP p q).natAbs (gI p q).natAbs (lowQ p q).natAbs
  rw [e1, e2, ← e3] at e4
  have : 0 < (gI p q).natAbs := by omega
  exact Nat.eq_of_mul_eq_mul_right this (by rw [Nat.one_mul]; exact e4.symm)
theorem low_uniq {p q r s : Int} (hq : 0 < q) (hs : 0 < s) (c1 : Nat.gcd p.natAbs q.natAbs = 1) (c2 : Nat.gcd r.natAbs s.natAbs = 1) (h : p * s = r * q) : p = r ∧ q = s := by
  have n1 : p.natAbs * s.natAbs = r.natAbs * q.natAbs := by rw [← Int.natAbs_mul, ← Int.natAbs_mul, h]
  have d1 : q.natAbs ∣ s.natAbs := by
    have : q.natAbs ∣ p.natAbs * s.natAbs := ⟨r.natAbs, by rw [n1, Nat.mul_comm]⟩
    exact (Nat.Coprime.dvd_of_dvd_mul_left (by rw [Nat.coprime_comm]; exact c1) this)
  have d2 : s.natAbs ∣ q.natAbs := by
    have : s.natAbs ∣ r.natAbs * q.natAbs := ⟨p.natAbs, by rw [← n1, Nat.mul_comm]⟩
    exact (Nat.Coprime.dvd_of_dvd_mul_left (by rw [Nat.coprime_comm]; exact c2) this)
  have e : q.natAbs = s.natAbs := Nat.dvd_antisymm d1 d2
  have e2 : q = s := by omega
  subst e2
  exact ⟨Int.eq_of_mul_eq_mul_right (by omega) h, rfl⟩
theorem lowF_eq {p q r s : Int} (hq : q ≠ 0) (hs : s ≠ 0) (h : p * s = r * q) : lowP p q = lowP r s ∧ lowQ p q = lowQ r s := by
  refine low_uniq (low_pos hq) (low_pos hs) (low_cop hq) (low_cop hs) ?_
  have a := low_cross (p := p) hq
  have b := low_cross (p := r) hs
  apply Int.eq_of_mul_eq_mul_right (a := q * s) (Int.mul_ne_zero hq hs)
  calc lowP p q * lowQ r s * (q * s) = (lowP p q * q) * (lowQ r s * s) := by grind
    _ = p * lowQ p q * (lowQ r s * s) := by rw [a]
    _ = p * s * (lowQ p q * lowQ r s) := by grind
    _ = r * q * (lowQ p q * lowQ r s) := by rw [h]
    _ = r * lowQ r s * (lowQ p q * q) := by grind
    _ = lowP r s * s * (lowQ p q * q) := by rw [b]
    _ = lowP r s * lowQ p q * (q * s) := by grind
theorem low_self {p q : Int} (hq : 0 < q) (c : Nat.gcd p.natAbs q.natAbs = 1) : lowP p q = p ∧ lowQ p q = q := by
  unfold lowP lowQ gI
  rw [c, if_neg (by omega), if_neg (by omega)]
  exact ⟨Int.ediv_one _, Int.ediv_one _⟩
theorem lowP_le {p q : Int} (h : q ≠ 0) : (lowP p q).natAbs ≤ p.natAbs := by
  have h1 := (low_mul (p := p) h).1
  have h3 := gI_pos (p := p) h
  have e1 : (lowP p q).natAbs * (gI p q).natAbs = p.natAbs := by rw [← Int.natAbs_mul, h1]; split <;> omega
  rw [← e1]
  exact Nat.le_mul_of_pos_right _ (by omega)
theorem lowQ_le {p q : Int} (h : q ≠ 0) : (lowQ p q).natAbs ≤ q.natAbs := by
  have h1 := (low_mul (p := p) h).2
  have h3 := gI_pos (p := p) h
  have e1 : (lowQ p q).natAbs * (gI p q).natAbs = q.natAbs := by rw [← Int.natAbs_mul, h1]; split <;> omega
  rw [← e1]
  exact Nat.le_mul_of_pos_right _ (by omega)
end Go.Eng
namespace Go.Eng
theorem pow_bound {n K : Nat} (hn : n = 1229) (hK : K = 16384) : 10000 ^ n ≤ 2 ^ K := by
  obtain ⟨m, hm⟩ : ∃ m, m = 83 := ⟨_, rfl⟩
  have e : (10000 : Nat) ^ n = (10 ^ 59) ^ m * 10 ^ 19 := by
    rw [show (10000 : Nat) = 10 ^ 4 from rfl, ← Nat.pow_mul, ← Nat.pow_mul, ← Nat.pow_add]
    congr 1; omega
  have h1 : (10 : Nat) ^ 59 ≤ 2 ^ 196 := by decide
  have h2 : (10 : Nat) ^ 19 ≤ 2 ^ 64 := by decide
  have h3 : ((10 : Nat) ^ 59) ^ m ≤ (2 ^ 196) ^ m := Nat.pow_le_pow_left h1 m
  have h4 : (2 ^ 196) ^ m * 2 ^ 64 = 2 ^ (196 * m + 64) := by rw [← Nat.pow_mul, ← Nat.pow_add]
  rw [e]
  refine Nat.le_trans (Nat.mul_le_mul h3 h2) ?_
  rw [h4]
  exact Nat.pow_le_pow_right (by decide) (by omega)
def inR (v : Nat) : Prop := v < 2 ^ 16384
theorem fits_iff (v : Nat) : (tlen v < 1230 ∨ v < 2 ^ 16384) ↔ inR v := by
  obtain ⟨n, hn⟩ : ∃ n, n = 1229 := ⟨_, rfl⟩
  have hb := pow_bound (K := 16384) hn rfl
  unfold inR
  generalize (2 : Nat) ^ 16384 = q at *
  constructor
  · rintro (h | h)
    · have h2 : v < 10000 ^ n := tlen_iff.1 (by omega)
      exact Nat.lt_of_lt_of_le h2 hb
    · exact h
  · exact .inr
theorem wide_iff (v : Nat) : wlen v ≤ 512 ↔ inR v := by
  obtain ⟨n, hn⟩ : ∃ n, n = 512 := ⟨_, rfl⟩
  rw [← hn, wlen_iff]
  unfold inR
  have : (4294967296 : Nat) ^ n = 2 ^ 16384 := by
    rw [show (4294967296 : Nat) = 2 ^ 32 from rfl, ← Nat.pow_mul]
    congr 1; omega
  rw [this]
end Go.Eng
namespace Go.Eng
end Go.Eng
namespace Go.Eng
end Go.Eng
namespace Go.Eng
end Go.Eng
namespace Go.Eng
theorem two_bound {n K : Nat} (hn : n = 177) (hK : K = 16384) : 2 ^ K ≤ 10 ^ (28 * n) := by
  have e1 : (2 : Nat) ^ K ≤ (2 ^ 93) ^ n := by
    rw [← Nat.pow_mul 2]
    exact Nat.pow_le_pow_right (by decide) (by omega)
  have e2 : ((2 : Nat) ^ 93) ^ n ≤ (10 ^ 28) ^ n := Nat.pow_le_pow_left (by decide) n
  rw [← Nat.pow_mul 10] at e2
  exact Nat.le_trans e1 e2
theorem inR_dlen {v : Nat} (h : inR v) : dlen v ≤ 4956 := by
  obtain ⟨n, hn⟩ : ∃ n, n = 177 := ⟨_, rfl⟩
  have e := two_bound (K := 16384) hn rfl
  have h : v < 2 ^ 16384 := h
  have := dlen_iff.2 (Nat.lt_of_lt_of_le h e)
  omega
theorem p_Str (x : WI) : pf E0 33 [wiP x] = some (.s (decI x.v)) := by
  refine porc_33 ?_ rfl
  have hw : ∀ (l : List Nat), Ok32 l → wordsP (l.map fun n => (PV.i .u32 ((n : Nat) : Int))) = some l := fun l => by
    induction l with
    | nil => intro _; rfl
    | cons n l ih =>
      intro h
      have h1 := h n (List.mem_cons_self ..)
      rw [List.map_cons]
      unfold wordsP
      rw [if_pos ⟨by omega, by omega⟩, ih fun x hx => h x (List.mem_cons_of_mem _ hx)]
      simp
  have hD : D x.v.natAbs = .lst ((dig x.v.natAbs).map fun n => (PV.i .u32 ((n : Nat) : Int))) := (W_dw _ _).symm
  have hg : (dig x.v.natAbs).getLast? ≠ some 0 := fun q => by
    by_cases h : x.v.natAbs = 0
    · rw [h] at q; cases q
    · have h1 := wlen_pos h
      have h2 : (dig x.v.natAbs).getLast? = some (dgt x.v.natAbs (wlen x.v.natAbs - 1)) := by
        rw [List.getLast?_eq_getElem?]
        unfold dig dw
        rw [tab_length, tab_lt (by omega)]
      rw [h2] at q
      have h3 := Option.some.inj q
      rw [dgt_def] at h3
      have h4 := wlen_le h
      have h5 : x.v.natAbs / 4294967296 ^ (wlen x.v.natAbs - 1) < 4294967296 := by
        have := wlen_lt x.v.natAbs
        rw [show wlen x.v.natAbs = wlen x.v.natAbs - 1 + 1 by omega, Nat.pow_succ] at this
        exact Nat.div_lt_of_lt_mul this
      have h6 := Nat.div_pos h4 (Bpos _)
      rw [Nat.mod_eq_of_lt h5] at h3
      omega
  have hx := x.lim
  rw [wiP_def, hD]
  simp only [orcP, txtP, if_true, hw _ (ok_dig _), Option.bind_some]
  unfold wtx
  have hnz : decide (x.v < 0) = true → dig x.v.natAbs ≠ [] := fun h => by
    have h1 : x.v < 0 := by simpa using h
    intro q
    have h2 := dig_length x.v.natAbs
    rw [q] at h2
    have := wlen_pos (v := x.v.natAbs) (by omega)
    simp at h2; omega
  rw [if_pos ⟨by rw [dig_length]; exact hx, hg, hnz⟩, val_dig]
  · have e : (if decide (x.v < 0) = true then -((x.v.natAbs : Nat) : Int) else ((x.v.natAbs : Nat) : Int)) = x.v := by
      by_cases h : x.v < 0
      · rw [if_pos (by simpa using h)]; omega
      · rw [if_neg (by simpa using h)]; omega
    rw [e]; rfl
end Go.Eng
namespace Go.Eng
theorem dec_eval {v n : Nat} (h1 : 10 ^ n ≤ v) (h2 : v < 10 ^ (n + 1)) : dec v = dtx (n + 1) v := by
  have h0 : v ≠ 0 := by have := Nat.pow_pos (n := n) (by decide : 0 < 10); omega
  have : dlen v = n + 1 := by
    have a := dlen_iff.2 h2
    have b : ¬ dlen v ≤ n := fun q => by have := dlen_iff.1 q; omega
    omega
  rw [dec_dtx h0, this]
theorem from_ex {n : Int} (h : Fits64 n) : ∃ x : WI, x.v = n ∧ pf E0 34 [.i .i64 n] = some (wiP x) := ⟨wiOf n h, rfl, p_From h⟩
end Go.Eng
namespace Go.Eng
def isPP : PV → Bool
  | .p _ _ => true
  | _ => false
@[go_sem] theorem isPP_p (n o : Nat) : isPP (.p n o) = true := _root_.id rfl
def slotIn (E : PEnv) (ops : List XOper) (L : List Nat) (c : Nat × Nat) : Bool :=
  match ops[c.1]?, ops[c.2]? with
  | some a, some b =>
    match a.op with
    | .load _ _ (.t s) => L.contains s && calmOp E b.op && (ops.all fun o => o.dst != some s)
    | _ => false
  | _, _ => false
theorem wk_calmX {E : PEnv} {F : PFin} {ops : List XOper} {chk : List (Nat × Nat)} {ks : List KI} {fr : PFr} {M : PM} (L : List Nat) (hL : chk.all (fun c => calmC E ops c || slotIn E ops L c) = true) (hp : L.all (fun s => isPP (fr s)) = true) (w : WL E F ops ks fr M) :
    WK E F (.drw ops chk) ks fr M := by
  refine wk_calmG (fun fr2 Ms hT => ?_) w
  rw [List.all_eq_true] at hL hp ⊢
  rintro ⟨i, j⟩ hc
  have h1 := hL _ hc
  simp only [Bool.or_eq_true] at h1
  rcases h1 with h1 | h1
  · exact calm_chk hT h1
  · unfold slotIn at h1
    split at h1
    · rename_i a b ha hb
      split at h1
      · rename_i z k s hop
        simp only [Bool.and_eq_true] at h1
        obtain ⟨⟨c1, c2⟩, c3⟩ := h1
        have hs := hp s (List.contains_iff_mem.1 c1)
        cases hf : fr s with
        | p n o => exact calm_chkL hT ha hb hop c2 c3 hf
        | _ => rw [hf] at hs; simp [isPP] at hs
      · cases h1
    · cases h1
attribute [go_sem] List.all_cons List.all_nil
def slotIn2 (E : PEnv) (ops : List XOper) (L : List Nat) (c : Nat × Nat) : Bool :=
  match ops[c.1]?, ops[c.2]? with
  | some a, some b =>
    match a.op with
    | .load _ _ (.t s) => L.contains s && calmOp E b.op
    | _ => false
  | _, _ => false
theorem wk_calmR {E : PEnv} {F : PFin} {ops : List XOper} {chk : List (Nat × Nat)} {ks : List KI} {fr : PFr} {M : PM} (L : List Nat) (hL : chk.all (fun c => calmC E ops c || slotIn2 E ops L c) = true)
    (hr : WL E ⟨(0 :: 0 :: L).map XR.tmp, fun w _ => ∃ l, w = .tu l ∧ (l.drop 2).all isPP = true⟩ ops [] fr M) (w : WL E F ops ks fr M) : WK E F (.drw ops chk) ks fr M := by
  refine wk_calmG (fun fr2 Ms hT => ?_) w
  have hp : L.all (fun s => isPP (fr2 s)) = true := by
    obtain ⟨lf, q, fr3, M3, vs, e, h1, h2, l, h3, h4⟩ := hr
    simp only [Option.bind_eq_some_iff, unw] at e
    obtain ⟨⟨fr4, M4⟩, e1, e2⟩ := e
    simp only [Option.some.injEq, Prod.mk.injEq] at e2
    obtain ⟨_, e3, e4⟩ := e2
    rw [← e3, ← e4] at h2
    obtain ⟨Ms', g1, g2⟩ := pOpsT_of e1
    rw [g1] at hT
    cases hT
    have hres : ∀ (f : PFr) (N : PM) (l : List Nat), pRes f N (l.map XR.tmp) = some (l.map f) := fun f N l => by
      induction l with
      | nil => rfl
      | cons a l ih => simp only [List.map_cons, pRes, pResOne, ih]
    rw [hres] at h2
    cases h2
    simp only [List.map_cons, packP] at h3
    cases h3
    simpa [List.all_map] using h4
  rw [List.all_eq_true] at hL hp ⊢
  rintro ⟨i, j⟩ hc
  have h1 := hL _ hc
  simp only [Bool.or_eq_true] at h1
  rcases h1 with h1 | h1
  · exact calm_chk hT h1
  · unfold slotIn2 at h1
    split at h1
    · rename_i a b ha hb
      split at h1
      · rename_i z k s hop
        simp only [Bool.and_eq_true] at h1
        obtain ⟨c1, c2⟩ := h1
        have hs := hp s (List.contains_iff_mem.1 c1)
        cases hf : fr2 s with
        | p n o =>
          obtain ⟨fri, A, B, q1, q2, q3, q4⟩ := pOpsT_at hT ha
          obtain ⟨frj, C, D, p1, p2, p3, p4⟩ := pOpsT_at hT hb
          have p2' : Ms[(i, j).2 + 1]? = some D := p2
          have q2' : Ms[(i, j).1 + 1]? = some B := q2
          simp only [chkP, ha, q1, q2, p1, p2]
          rw [if_neg (by rw [hop]; simp [XO.cls])]
          rw [hop]
          show chkV ops j (.t s) C D (fr2 s) = true
          rw [hf]
          show verP (some n) C D = true
          rcases p3 with ⟨_, v, p3⟩ | ⟨_, p3⟩
          · cases hopb : b.op with
            | call f l =>
              rw [hopb] at p3 c2
              obtain ⟨ns, rfl⟩ := pcl_mem c2 p3
              exact roM_verP ns C _
            | _ => rw [hopb] at c2; simp [calmOp] at c2
          · rw [p3]; simp [verP]
        | _ => rw [hf] at hs; simp [isPP] at hs
      · cases h1
    · cases h1
theorem wk_roll {E : PEnv} {F : PFin} {a b : XC} (hab : a = b) {ks : List KI} {fr : PFr} {M : PM} (w : WK E F b (.loop a :: ks) fr M) : WK E F (.loop a) ks fr M := by
  rw [← hab] at w; exact wk_loop w
def fillC (z : List PV) (off n : Nat) (cs : List PV) : Option (List PV) := if cs.length = n ∧ off + n ≤ z.length ∧ cs.all PV.scal = true then some (psplice z off cs) else none
theorem fill_C {fr : PFr} (G : Nat → Option (List AV)) (z : List PV) (off n : Nat) (x : X) (ps : List (Nat × Nat × X)) : fillP G fr z ((off, (n, x)) :: ps) = fillB fr G ps (fillC z off n (x.pv G fr).cells) := by
  simp only [fillP]
  unfold fillC
  split <;> rfl
theorem fillC_def (z : List PV) (off n : Nat) (cs : List PV) : fillC z off n cs = if cs.length = n ∧ off + n ≤ z.length ∧ cs.all PV.scal = true then some (psplice z off cs) else none := rfl
end Go.Eng
namespace Go.Eng
structure FQ where
  p : WI
  q : WI
  q1 : 1 ≤ q.v
  cop : Nat.gcd p.v.natAbs q.v.natAbs = 1
theorem wl_sub1 {y : WI} (hy : 1 ≤ y.v) : wlen (y.v - 1).natAbs ≤ 512 := by
  have h := (wide_iff _).1 y.lim
  refine (wide_iff _).2 ?_
  unfold inR at *
  exact Nat.lt_of_le_of_lt (by omega) h
def FQ.l (f : FQ) : WI := ⟨f.q.v - 1, wl_sub1 f.q1⟩
noncomputable def fqP (f : FQ) : PV := .ag [.b (decide (f.p.v < 0)), D f.p.v.natAbs, .b (decide (f.l.v < 0)), D f.l.v.natAbs]
@[go_sem] theorem fz_fqP (M : PM) (d : Nat) (f : FQ) : fz M (d + 1 + 1) (fqP f) = some (fqP f, []) := _root_.id rfl
@[go_sem] theorem cells_fqP (f : FQ) : (fqP f).cells = [.b (decide (f.p.v < 0)), D f.p.v.natAbs, .b (decide (f.l.v < 0)), D f.l.v.natAbs] := _root_.id rfl
@[go_sem] theorem fold_fq (f : FQ) : PV.ag [.b (decide (f.p.v < 0)), D f.p.v.natAbs, .b (decide (f.l.v < 0)), D f.l.v.natAbs] = fqP f := _root_.id rfl
theorem p_must (x : WI) (e : Int) : pf E0 37 [wiP x, .i .i64 e] = some (wiP x) := by
  refine pf_run (xf := x_frac_must) rfl (by simp [x_frac_must]) ?_
  simp only [x_frac_must]
  simp (disch := omega) only [go_sem, seval, wqa, wqb, wqc, wqd, wqe]
theorem p_over (x g : WI) (h : g.v ≠ 0) : ∃ q : WI, q.v = x.v / g.v ∧ pf E0 21 [wiP x, wiP g] = some (wiP q) := by
  have fd := p_Div x g h
  refine ⟨x.div g h, rfl, ?_⟩
  refine pf_run (xf := x_frac_over) rfl (by simp [x_frac_over]) ?_
  simp only [x_frac_over]
  simp (disch := omega) only [go_sem, seval, wqa, wqb, wqc, wqd, wqe, fd]
noncomputable def wi1 : WI := wiOf 1 (by decide)
theorem wi1_v : wi1.v = 1 := rfl
theorem p_ftimes (x y : WI) : pf E0 20 [.lst [wiP x, wiP y]] = some (.tu [wiP (clip (x.v * y.v)), .i .i64 (lerr (x.v * y.v))]) := by
  refine pf_run (xf := x_frac_times) rfl (by simp [x_frac_times]) ?_
  simp only [x_frac_times]
  have f1 : pf E0 34 [.i .i64 1] = some (wiP wi1) := p_From (n := 1) (by decide)
  have m1 : pf E0 38 [wiP wi1, wiP x] = some (.tu [wiP x, .i .i64 0]) := by
    have h := p_Mul wi1 x
    rw [wi1_v, Int.one_mul, lerr_ok x.lim, clip_ok x.lim] at h
    exact h
  have m2 := p_Mul x y
  generalize wi1 = w1 at *
  simp (disch := omega) only [go_sem, seval, wqa, wqb, wqc, wqd, wqe, f1]
  refine wk_roll x_frac_times_l1.eq_1 ?_
  simp (disch := omega) only [go_sem, seval, wqa, wqb, wqc, wqd, wqe, m1]
  refine wk_roll x_frac_times_l1.eq_1 ?_
  by_cases h : wlen (x.v * y.v).natAbs ≤ 512
  · have e := lerr_ok h
    rw [e] at m2 ⊢
    simp (disch := omega) only [go_sem, seval, wqa, wqb, wqc, wqd, wqe, m2]
    refine wk_roll x_frac_times_l1.eq_1 ?_
    simp (disch := omega) only [go_sem, seval, wqa, wqb, wqc, wqd, wqe, m2]
  · have e := lerr_no h
    have e2 := clip_no h
    rw [e, e2] at m2 ⊢
    simp (disch := omega) only [go_sem, seval, wqa, wqb, wqc, wqd, wqe, m2]
theorem fq0_cop : Nat.gcd wi0.v.natAbs wi1.v.natAbs = 1 := by decide
noncomputable def fq0 : FQ := ⟨wi0, wi1, by decide, fq0_cop⟩
theorem fqP0 : fqP fq0 = .ag [.b false, .lst [], .b false, .lst []] := by
  have h1 : D (0 : Int).natAbs = .lst [] := D_zero.symm
  show PV.ag [.b (decide ((0 : Int) < 0)), D (0 : Int).natAbs, .b (decide ((1 : Int) - 1 < 0)), D ((1 : Int) - 1).natAbs] = _
  rw [show (1 : Int) - 1 = 0 by decide, h1]; rfl
theorem p_lowest (x y : WI) (hy : 1 ≤ y.v) (hc : Nat.gcd x.v.natAbs y.v.natAbs = 1) : pf E0 22 [wiP x, wiP y, .i .i64 0, .i .i64 0] = some (.tu [fqP ⟨x, y, hy, hc⟩, .i .i64 0]) := by
  refine pf_run (xf := x_frac_lowest) rfl (by simp [x_frac_lowest]) ?_
  simp only [x_frac_lowest]
  have f1 : pf E0 34 [.i .i64 1] = some (wiP wi1) := p_From (n := 1) (by decide)
  have s1 := p_Sub y wi1
  rw [wi1_v] at s1
  have m1 := p_must (clip (y.v - 1)) (lerr (y.v - 1))
  have cv := clip_v (wl_sub1 hy)
  generalize lerr (y.v - 1) = le at *
  generalize wi1 = w1 at *
  have hq : fqP ⟨x, y, hy, hc⟩ = .ag [.b (decide (x.v < 0)), D x.v.natAbs, .b (decide ((clip (y.v - 1)).v < 0)), D (clip (y.v - 1)).v.natAbs] := by rw [cv]; rfl
  rw [hq]
  generalize clip (y.v - 1) = z at *
  simp (disch := omega) only [go_sem, seval, wqa, wqb, wqc, wqd, wqe]
  refine wk_calmX [4, 5] rfl (by simp only [go_sem, seval]) ?_
  simp (disch := omega) only [go_sem, seval, wqa, wqb, wqc, wqd, wqe, f1, s1, m1, fill_C, fillC_def]
theorem p_lowestE (x y : WI) {e f : Int} (h : e ≠ 0 ∨ f ≠ 0) : pf E0 22 [wiP x, wiP y, .i .i64 e, .i .i64 f] = some (.tu [fqP fq0, .i .i64 4]) := by
  refine pf_run (xf := x_frac_lowest) rfl (by simp [x_frac_lowest]) ?_
  simp only [x_frac_lowest]
  rw [fqP0]
  by_cases he : e = 0
  · have hf : (f = 0) = False := by simp; rcases h with h | h <;> first | exact h | exact absurd he h
    have he : (e = 0) = True := by simp [he]
    simp (disch := omega) only [go_sem, seval, wqa, wqb, wqc, wqd, wqe, he, hf]
  · have he : (e = 0) = False := by simp [he]
    simp (disch := omega) only [go_sem, seval, wqa, wqb, wqc, wqd, wqe, he]
theorem p_MakeP (x y g : WI) (hg : g.v = gI x.v y.v) (hy : 0 < y.v) : ∃ f : FQ, f.p.v = lowP x.v y.v ∧ f.q.v = lowQ x.v y.v ∧ ∃ a b : WI, pf E0 21 [wiP x, wiP g] = some (wiP a) ∧ pf E0 21 [wiP y, wiP g] = some (wiP b) ∧ pf E0 22 [wiP a, wiP b, .i .i64 0, .i .i64 0] = some (.tu [fqP f, .i .i64 0]) := by
  have gn : g.v ≠ 0 := by rw [hg]; exact gI_ne (by omega)
  obtain ⟨a, ha, fa⟩ := p_over x g gn
  obtain ⟨b, hb, fb⟩ := p_over y g gn
  have e1 : a.v = lowP x.v y.v := by rw [ha, hg]; unfold lowP; rw [if_neg (by omega)]
  have e2 : b.v = lowQ x.v y.v := by rw [hb, hg]; unfold lowQ; rw [if_neg (by omega)]
  have hq : 1 ≤ b.v := by rw [e2]; exact low_pos (by omega)
  have hc : Nat.gcd a.v.natAbs b.v.natAbs = 1 := by rw [e1, e2]; exact low_cop (by omega)
  exact ⟨⟨a, b, hq, hc⟩, e1, e2, a, b, fa, fb, p_lowest a b hq hc⟩
theorem low_negneg (p q : Int) (h : q < 0) : lowP (-p) (-q) = lowP p q ∧ lowQ (-p) (-q) = lowQ p q := by
  have h2 : ¬ -q < 0 := by omega
  unfold lowP lowQ
  rw [gI_neg]
  simp only [h, h2, if_true, if_false, and_self]
theorem p_Make (x y : WI) (h : y.v ≠ 0) : ∃ f : FQ, f.p.v = lowP x.v y.v ∧ f.q.v = lowQ x.v y.v ∧ pf E0 24 [wiP x, wiP y] = some (.tu [fqP f, .i .i64 0]) := by
  by_cases hn : y.v < 0
  · have hg := p_Gcd x.neg y.neg
    obtain ⟨f, h1, h2, a, b, fa, fb, fl⟩ := p_MakeP x.neg y.neg (x.neg.gcd y.neg) rfl (by show 0 < -y.v; omega)
    obtain ⟨l1, l2⟩ := low_negneg x.v y.v hn
    refine ⟨f, h1.trans l1, h2.trans l2, ?_⟩
    generalize x.neg.gcd y.neg = g at *
    refine pf_run (xf := x_frac_Make) rfl (by simp [x_frac_Make]) ?_
    simp only [x_frac_Make]
    have sy := p_Sign y
    have sc : cmpI y.v 0 = -1 := by unfold cmpI; rw [if_pos hn]
    rw [sc] at sy
    have n1 := p_Neg x
    have n2 := p_Neg y
    generalize x.neg = xn at *
    generalize y.neg = yn at *
    simp (disch := omega) only [go_sem, seval, wqa, wqb, wqc, wqd, wqe, sy]
    refine wk_calmX [3] rfl (by simp only [go_sem, seval]) ?_
    simp (disch := omega) only [go_sem, seval, wqa, wqb, wqc, wqd, wqe, n1, n2, hg]
    refine wk_calmX [3, 6] rfl (by simp only [go_sem, seval]) ?_
    simp (disch := omega) only [go_sem, seval, wqa, wqb, wqc, wqd, wqe, fa, fb, fl]
  · have hg := p_Gcd x y
    obtain ⟨f, h1, h2, a, b, fa, fb, fl⟩ := p_MakeP x y (x.gcd y) rfl (by omega)
    refine ⟨f, h1, h2, ?_⟩
    generalize x.gcd y = g at *
    refine pf_run (xf := x_frac_Make) rfl (by simp [x_frac_Make]) ?_
    simp only [x_frac_Make]
    have sy := p_Sign y
    have sc : cmpI y.v 0 = 1 := by unfold cmpI; rw [if_neg hn, if_pos (by omega)]
    rw [sc] at sy
    simp (disch := omega) only [go_sem, seval, wqa, wqb, wqc, wqd, wqe, sy, hg]
    refine wk_calmX [3, 6] rfl (by simp only [go_sem, seval]) ?_
    simp (disch := omega) only [go_sem, seval, wqa, wqb, wqc, wqd, wqe, fa, fb, fl]
end Go.Eng
namespace Go.Eng
theorem p_fNum (f : FQ) : pf E0 64 [fqP f] = some (wiP f.p) := by
  refine pf_run (xf := x__skymosaic_frac_Frac__Num) rfl (by simp [x__skymosaic_frac_Frac__Num]) ?_
  simp only [x__skymosaic_frac_Frac__Num]
  simp (disch := omega) only [go_sem, seval, wqa, wqb, wqc, wqd, wqe]
theorem p_fDen (f : FQ) : pf E0 19 [fqP f] = some (wiP f.q) := by
  refine pf_run (xf := x__skymosaic_frac_Frac__Den) rfl (by simp [x__skymosaic_frac_Frac__Den]) ?_
  simp only [x__skymosaic_frac_Frac__Den]
  have f1 : pf E0 34 [.i .i64 1] = some (wiP wi1) := p_From (n := 1) (by decide)
  have s1 := p_Add f.l wi1
  have e : f.l.v + wi1.v = f.q.v := by show f.q.v - 1 + 1 = f.q.v; omega
  have hc : clip f.q.v = f.q := clip_ok f.q.lim
  rw [e, hc] at s1
  have m1 := p_must f.q (lerr f.q.v)
  generalize lerr f.q.v = le at *
  generalize wi1 = w1 at *
  simp (disch := omega) only [go_sem, seval, wqa, wqb, wqc, wqd, wqe]
  refine wk_calmR [3] rfl ?_ ?_
  · simp (disch := omega) only [go_sem, seval, wqa, wqb, wqc, wqd, wqe, f1, s1, m1]
    exact ⟨_, rfl, rfl⟩
  simp (disch := omega) only [go_sem, seval, wqa, wqb, wqc, wqd, wqe, f1, s1, m1]
theorem p_fOf {p q : Int} (hp : Fits64 p) (hq : Fits64 q) (h : q ≠ 0) : ∃ f : FQ, f.p.v = lowP p q ∧ f.q.v = lowQ p q ∧ pf E0 17 [.i .i64 p, .i .i64 q] = some (.tu [fqP f, .i .i64 0]) := by
  obtain ⟨x, hx, fx⟩ := from_ex hp
  obtain ⟨y, hy, fy⟩ := from_ex hq
  obtain ⟨f, h1, h2, fm⟩ := p_Make x y (by rw [hy]; exact h)
  rw [hx, hy] at h1 h2
  refine ⟨f, h1, h2, ?_⟩
  refine pf_run (xf := x_frac_Of) rfl (by simp [x_frac_Of]) ?_
  simp only [x_frac_Of]
  simp (disch := omega) only [go_sem, seval, wqa, wqb, wqc, wqd, wqe, fx, fy, fm]
theorem gI_of (x y : WI) : (x.gcd y).v = gI x.v y.v := rfl
@[go_sem] theorem grp_wi2 (x y : WI) : group 2 2 [.b (decide (x.v < 0)), Dw (wlen x.v.natAbs) x.v.natAbs, .b (decide (y.v < 0)), Dw (wlen y.v.natAbs) y.v.natAbs] = [wiP x, wiP y] := _root_.id rfl
theorem p_fAddR (a b : FQ) {g s t cx cy cs cd : WI} {ex ey es ed : Int} (hg : pf E0 18 [wiP a.q, wiP b.q] = some (wiP g)) (fs : pf E0 21 [wiP b.q, wiP g] = some (wiP s)) (ft : pf E0 21 [wiP a.q, wiP g] = some (wiP t))
    (nx : pf E0 20 [.lst [wiP a.p, wiP s]] = some (.tu [wiP cx, .i .i64 ex])) (ny : pf E0 20 [.lst [wiP b.p, wiP t]] = some (.tu [wiP cy, .i .i64 ey])) (ns : pf E0 23 [wiP cx, wiP cy] = some (.tu [wiP cs, .i .i64 es]))
    (nd : pf E0 20 [.lst [wiP t, wiP b.q]] = some (.tu [wiP cd, .i .i64 ed])) (f : FQ) (e : Int)
    (hR : (ex = 0 ∧ ey = 0 ∧ es = 0 ∧ ed = 0 ∧ pf E0 24 [wiP cs, wiP cd] = some (.tu [fqP f, .i .i64 e])) ∨ (¬ (ex = 0 ∧ ey = 0 ∧ es = 0 ∧ ed = 0) ∧ f = fq0 ∧ e = 4)) :
    pf E0 9 [fqP a, fqP b] = some (.tu [fqP f, .i .i64 e]) := by
  have da := p_fDen a
  have db := p_fDen b
  refine pf_run (xf := x_frac_Add) rfl (by simp [x_frac_Add]) ?_
  simp only [x_frac_Add]
  simp (disch := omega) only [go_sem, seval, wqa, wqb, wqc, wqd, wqe]
  refine wk_calmX [3] rfl (by simp only [go_sem, seval]) ?_
  simp (disch := omega) only [go_sem, seval, wqa, wqb, wqc, wqd, wqe, da, db, hg]
  refine wk_calmR [21, 6] rfl ?_ ?_
  · simp (disch := omega) only [go_sem, seval, wqa, wqb, wqc, wqd, wqe, db, fs, nx, fill_C, fillC_def]
    exact ⟨_, rfl, rfl⟩
  simp (disch := omega) only [go_sem, seval, wqa, wqb, wqc, wqd, wqe, db, fs, nx, fill_C, fillC_def]
  refine wk_calmR [32, 6] rfl ?_ ?_
  · simp (disch := omega) only [go_sem, seval, wqa, wqb, wqc, wqd, wqe, da, ft, ny, fill_C, fillC_def]
    exact ⟨_, rfl, rfl⟩
  simp (disch := omega) only [go_sem, seval, wqa, wqb, wqc, wqd, wqe, da, ft, ny, ns, fill_C, fillC_def]
  refine wk_calmX [6, 3] rfl (by simp only [go_sem, seval]) ?_
  rcases hR with ⟨h1, h2, h3, h4, hM⟩ | ⟨hn, hf, he⟩
  · subst h1 h2 h3 h4
    simp (disch := omega) only [go_sem, seval, wqa, wqb, wqc, wqd, wqe, da, db, ft, nd, hM, fill_C, fillC_def]
  · subst hf he
    rw [fqP0]
    by_cases h1 : ex = 0
    · by_cases h2 : ey = 0
      · by_cases h3 : es = 0
        · have h4 : (ed = 0) = False := by simp; exact fun q => hn ⟨h1, h2, h3, q⟩
          subst h1 h2 h3
          simp (disch := omega) only [go_sem, seval, wqa, wqb, wqc, wqd, wqe, da, db, ft, nd, h4, fill_C, fillC_def]
        · have h3 : (es = 0) = False := by simp [h3]
          subst h1 h2
          simp (disch := omega) only [go_sem, seval, wqa, wqb, wqc, wqd, wqe, da, db, ft, nd, h3, fill_C, fillC_def]
      · have h2 : (ey = 0) = False := by simp [h2]
        subst h1
        simp (disch := omega) only [go_sem, seval, wqa, wqb, wqc, wqd, wqe, da, db, ft, nd, h2, fill_C, fillC_def]
    · have h1 : (ex = 0) = False := by simp [h1]
      simp (disch := omega) only [go_sem, seval, wqa, wqb, wqc, wqd, wqe, da, db, ft, nd, h1, fill_C, fillC_def]
def adX (a b : FQ) : Int := a.p.v * (b.q.v / gI a.q.v b.q.v)
def adY (a b : FQ) : Int := b.p.v * (a.q.v / gI a.q.v b.q.v)
def adD (a b : FQ) : Int := a.q.v / gI a.q.v b.q.v * b.q.v
def adOk (a b : FQ) : Prop := inR (adX a b).natAbs ∧ inR (adY a b).natAbs ∧ inR (adX a b + adY a b).natAbs ∧ inR (adD a b).natAbs
theorem adD_ne (a b : FQ) : adD a b ≠ 0 := by
  have ha := a.q1
  have hb := b.q1
  have h1 : a.q.v / gI a.q.v b.q.v * gI a.q.v b.q.v = a.q.v := Int.ediv_mul_cancel (gI_dvdl _ _)
  have h2 : a.q.v / gI a.q.v b.q.v ≠ 0 := fun q => by rw [q] at h1; omega
  exact Int.mul_ne_zero h2 (by omega)
theorem inR_c {z : Int} (h : inR z.natAbs) : (clip z).v = z ∧ lerr z = 0 := ⟨clip_v ((wide_iff _).2 h), lerr_ok ((wide_iff _).2 h)⟩
theorem inR_l {z : Int} (h : lerr z = 0) : inR z.natAbs := by
  by_cases q : wlen z.natAbs ≤ 512
  · exact (wide_iff _).1 q
  · rw [lerr_no q] at h; cases h
theorem p_fAdd (a b : FQ) : (adOk a b → ∃ f : FQ, f.p.v = lowP (adX a b + adY a b) (adD a b) ∧ f.q.v = lowQ (adX a b + adY a b) (adD a b) ∧ pf E0 9 [fqP a, fqP b] = some (.tu [fqP f, .i .i64 0])) ∧
    (¬ adOk a b → pf E0 9 [fqP a, fqP b] = some (.tu [fqP fq0, .i .i64 4])) := by
  have hg := p_Gcd a.q b.q
  have gv := gI_of a.q b.q
  have gn : (a.q.gcd b.q).v ≠ 0 := by rw [gv]; exact gI_ne (by have := b.q1; omega)
  obtain ⟨s, hs, fs⟩ := p_over b.q (a.q.gcd b.q) gn
  obtain ⟨t, ht, ft⟩ := p_over a.q (a.q.gcd b.q) gn
  rw [gv] at hs ht
  have nx := p_ftimes a.p s
  have ny := p_ftimes b.p t
  have nd := p_ftimes t b.q
  have eX : a.p.v * s.v = adX a b := by rw [hs]; rfl
  have eY : b.p.v * t.v = adY a b := by rw [ht]; rfl
  have eD : t.v * b.q.v = adD a b := by rw [ht]; rfl
  rw [eX] at nx
  rw [eY] at ny
  rw [eD] at nd
  have ns := p_Add (clip (adX a b)) (clip (adY a b))
  constructor
  · rintro ⟨r1, r2, r3, r4⟩
    obtain ⟨c1, l1⟩ := inR_c r1
    obtain ⟨c2, l2⟩ := inR_c r2
    obtain ⟨c3, l3⟩ := inR_c r3
    obtain ⟨c4, l4⟩ := inR_c r4
    rw [c1, c2] at ns
    obtain ⟨f, h1, h2, fm⟩ := p_Make (clip (adX a b + adY a b)) (clip (adD a b)) (by rw [c4]; exact adD_ne a b)
    rw [c3, c4] at h1 h2
    exact ⟨f, h1, h2, p_fAddR a b hg fs ft nx ny ns nd f 0 (.inl ⟨l1, l2, l3, l4, fm⟩)⟩
  · intro hn
    refine p_fAddR a b hg fs ft nx ny ns nd fq0 4 (.inr ⟨fun ⟨l1, l2, l3, l4⟩ => hn ?_, rfl, rfl⟩)
    have r1 := inR_l l1
    have r2 := inR_l l2
    rw [(inR_c r1).1, (inR_c r2).1] at l3
    exact ⟨r1, r2, inR_l l3, inR_l l4⟩
end Go.Eng
namespace Go.Eng
def FQ.neg (f : FQ) : FQ := ⟨f.p.neg, f.q, f.q1, by show Nat.gcd (-f.p.v).natAbs f.q.v.natAbs = 1; rw [Int.natAbs_neg]; exact f.cop⟩
theorem p_fSub (a b : FQ) : pf E0 81 [fqP a, fqP b] = pf E0 9 [fqP a, fqP b.neg] := by
  have key : ∀ r : PV, pf E0 9 [fqP a, fqP b.neg] = some r → (∃ f e, r = .tu [fqP f, .i .i64 e]) → pf E0 81 [fqP a, fqP b] = some r := by
    rintro r hr ⟨f, e, rfl⟩
    refine pf_run (xf := x_frac_Sub) rfl (by simp [x_frac_Sub]) ?_
    simp only [x_frac_Sub]
    have n1 := p_Neg b.p
    have hb : fqP b.neg = .ag [.b (decide (b.p.neg.v < 0)), D b.p.neg.v.natAbs, .b (decide (b.l.v < 0)), D b.l.v.natAbs] := rfl
    rw [hb] at hr
    generalize b.p.neg = m at *
    simp (disch := omega) only [go_sem, seval, wqa, wqb, wqc, wqd, wqe]
    refine wk_calmR [2, 10] rfl ?_ ?_
    · simp (disch := omega) only [go_sem, seval, wqa, wqb, wqc, wqd, wqe, n1, hr, fill_C, fillC_def]
      exact ⟨_, rfl, rfl⟩
    simp (disch := omega) only [go_sem, seval, wqa, wqb, wqc, wqd, wqe, n1, hr, fill_C, fillC_def]
  by_cases h : adOk a b.neg
  · obtain ⟨f, _, _, h1⟩ := (p_fAdd a b.neg).1 h
    rw [h1]; exact key _ h1 ⟨_, _, rfl⟩
  · have h1 := (p_fAdd a b.neg).2 h
    rw [h1]; exact key _ h1 ⟨_, _, rfl⟩
theorem p_fSign (a : FQ) : pf E0 67 [fqP a] = some (.i .i64 (cmpI a.p.v 0)) := by
  refine pf_run (xf := x_frac_Sign) rfl (by simp [x_frac_Sign]) ?_
  simp only [x_frac_Sign]
  simp (disch := omega) only [go_sem, seval, wqa, wqb, wqc, wqd, wqe]
theorem p_fMulR (a b : FQ) {g h u v w z cp cq : WI} {ep eq : Int} (f : FQ) (e : Int) (hg : pf E0 18 [wiP a.p, wiP b.q] = some (wiP g)) (hh : pf E0 18 [wiP b.p, wiP a.q] = some (wiP h))
    (fu : pf E0 21 [wiP a.p, wiP g] = some (wiP u)) (fv : pf E0 21 [wiP b.p, wiP h] = some (wiP v)) (n1 : pf E0 20 [.lst [wiP u, wiP v]] = some (.tu [wiP cp, .i .i64 ep]))
    (fw : pf E0 21 [wiP a.q, wiP h] = some (wiP w)) (fz' : pf E0 21 [wiP b.q, wiP g] = some (wiP z)) (n2 : pf E0 20 [.lst [wiP w, wiP z]] = some (.tu [wiP cq, .i .i64 eq]))
    (fl : pf E0 22 [wiP cp, wiP cq, .i .i64 ep, .i .i64 eq] = some (.tu [fqP f, .i .i64 e])) : pf E0 8 [fqP a, fqP b] = some (.tu [fqP f, .i .i64 e]) := by
  have da := p_fDen a
  have db := p_fDen b
  refine pf_run (xf := x_frac_Mul) rfl (by simp [x_frac_Mul]) ?_
  simp only [x_frac_Mul]
  simp (disch := omega) only [go_sem, seval, wqa, wqb, wqc, wqd, wqe]
  refine wk_calmR [12, 17, 2] rfl ?_ ?_
  · simp (disch := omega) only [go_sem, seval, wqa, wqb, wqc, wqd, wqe, da, db, hg, hh]
    exact ⟨_, rfl, rfl⟩
  simp (disch := omega) only [go_sem, seval, wqa, wqb, wqc, wqd, wqe, da, db, hg, hh]
  refine wk_calmR [27, 7] rfl ?_ ?_
  · simp (disch := omega) only [go_sem, seval, wqa, wqb, wqc, wqd, wqe, fu, fv, n1, fill_C, fillC_def]
    exact ⟨_, rfl, rfl⟩
  simp (disch := omega) only [go_sem, seval, wqa, wqb, wqc, wqd, wqe, fu, fv, n1, fill_C, fillC_def]
  refine wk_calmX [7, 3, 6] rfl (by simp only [go_sem, seval]) ?_
  simp (disch := omega) only [go_sem, seval, wqa, wqb, wqc, wqd, wqe, da, db, fw, fz', n2, fl, fill_C, fillC_def]
end Go.Eng
namespace Go.Eng
theorem div_cop {p s : Int} (hs : s ≠ 0) : Nat.Coprime (p / gI p s).natAbs (s / gI p s).natAbs := by
  have g := gI_pos (p := p) hs
  have e1 : (p / gI p s).natAbs * (gI p s).natAbs = p.natAbs := by rw [← Int.natAbs_mul, Int.ediv_mul_cancel (gI_dvdl p s)]
  have e2 : (s / gI p s).natAbs * (gI p s).natAbs = s.natAbs := by rw [← Int.natAbs_mul, Int.ediv_mul_cancel (gI_dvdr p s)]
  have e3 : (gI p s).natAbs = Nat.gcd p.natAbs s.natAbs := Int.natAbs_natCast _
  have e4 := Nat.gcd_mul_right (p / gI p s).natAbs (gI p s).natAbs (s / gI p s).natAbs
  rw [e1, e2, ← e3] at e4
  have : 0 < (gI p s).natAbs := by omega
  exact Nat.eq_of_mul_eq_mul_right this (by rw [Nat.one_mul]; exact e4.symm)
theorem mul_low {p q r s : Int} (hq : 0 < q) (hs : 0 < s) (c1 : Nat.gcd p.natAbs q.natAbs = 1) (c2 : Nat.gcd r.natAbs s.natAbs = 1) :
    p / gI p s * (r / gI r q) = lowP (p * r) (q * s) ∧ q / gI r q * (s / gI p s) = lowQ (p * r) (q * s) ∧ 0 < q / gI r q * (s / gI p s) ∧ Nat.gcd (p / gI p s * (r / gI r q)).natAbs (q / gI r q * (s / gI p s)).natAbs = 1 := by
  have g1 := gI_pos (p := p) (q := s) (by omega)
  have g2 := gI_pos (p := r) (q := q) (by omega)
  have k1 := div_cop (p := p) (s := s) (by omega)
  have k2 := div_cop (p := r) (s := q) (by omega)
  have a1 : p / gI p s * gI p s = p := Int.ediv_mul_cancel (gI_dvdl p s)
  have a2 : s / gI p s * gI p s = s := Int.ediv_mul_cancel (gI_dvdr p s)
  have a3 : r / gI r q * gI r q = r := Int.ediv_mul_cancel (gI_dvdl r q)
  have a4 : q / gI r q * gI r q = q := Int.ediv_mul_cancel (gI_dvdr r q)
  generalize gI p s = g at *
  generalize gI r q = h at *
  generalize p / g = u at *
  generalize s / g = z at *
  generalize r / h = v at *
  generalize q / h = w at *
  have z0 : 0 < z := Int.pos_of_mul_pos_left (by rw [a2]; exact hs) g1
  have w0 : 0 < w := Int.pos_of_mul_pos_left (by rw [a4]; exact hq) g2
  have du : u.natAbs ∣ p.natAbs := Int.natAbs_dvd_natAbs.2 ⟨g, a1.symm⟩
  have dw : w.natAbs ∣ q.natAbs := Int.natAbs_dvd_natAbs.2 ⟨h, a4.symm⟩
  have dv : v.natAbs ∣ r.natAbs := Int.natAbs_dvd_natAbs.2 ⟨h, a3.symm⟩
  have dz : z.natAbs ∣ s.natAbs := Int.natAbs_dvd_natAbs.2 ⟨g, a2.symm⟩
  have k3 : Nat.Coprime u.natAbs w.natAbs := Nat.Coprime.coprime_dvd_left du (Nat.Coprime.coprime_dvd_right dw c1)
  have k4 : Nat.Coprime v.natAbs z.natAbs := Nat.Coprime.coprime_dvd_left dv (Nat.Coprime.coprime_dvd_right dz c2)
  have hc : Nat.gcd (u * v).natAbs (w * z).natAbs = 1 := by
    rw [Int.natAbs_mul, Int.natAbs_mul]
    exact Nat.Coprime.mul_left (Nat.Coprime.mul_right k3 k1) (Nat.Coprime.mul_right k2 k4)
  have hp : 0 < w * z := Int.mul_pos w0 z0
  have hx : q * s ≠ 0 := Int.mul_ne_zero (by omega) (by omega)
  have cr := low_cross (p := p * r) hx
  obtain ⟨e1, e2⟩ := low_uniq (p := u * v) (q := w * z) hp (low_pos hx) hc (low_cop hx) (by
    apply Int.eq_of_mul_eq_mul_right (a := q * s) hx
    have : u * v * (q * s) = p * r * (w * z) := by rw [← a1, ← a2, ← a3, ← a4]; grind
    calc u * v * lowQ (p * r) (q * s) * (q * s) = u * v * (q * s) * lowQ (p * r) (q * s) := by grind
      _ = p * r * (w * z) * lowQ (p * r) (q * s) := by rw [this]
      _ = p * r * lowQ (p * r) (q * s) * (w * z) := by grind
      _ = lowP (p * r) (q * s) * (q * s) * (w * z) := by rw [cr]
      _ = lowP (p * r) (q * s) * (w * z) * (q * s) := by grind)
  exact ⟨e1, e2, hp, hc⟩
def muP (a b : FQ) : Int := lowP (a.p.v * b.p.v) (a.q.v * b.q.v)
def muQ (a b : FQ) : Int := lowQ (a.p.v * b.p.v) (a.q.v * b.q.v)
theorem p_fMul (a b : FQ) : (inR (muP a b).natAbs ∧ inR (muQ a b).natAbs → ∃ f : FQ, f.p.v = muP a b ∧ f.q.v = muQ a b ∧ pf E0 8 [fqP a, fqP b] = some (.tu [fqP f, .i .i64 0])) ∧
    (¬ (inR (muP a b).natAbs ∧ inR (muQ a b).natAbs) → pf E0 8 [fqP a, fqP b] = some (.tu [fqP fq0, .i .i64 4])) := by
  have qa := a.q1
  have qb := b.q1
  obtain ⟨m1, m2, m3, m4⟩ := mul_low (p := a.p.v) (q := a.q.v) (r := b.p.v) (s := b.q.v) (by omega) (by omega) a.cop b.cop
  have hg := p_Gcd a.p b.q
  have hh := p_Gcd b.p a.q
  have gv := gI_of a.p b.q
  have hv := gI_of b.p a.q
  have gn : (a.p.gcd b.q).v ≠ 0 := by rw [gv]; exact gI_ne (by omega)
  have hn : (b.p.gcd a.q).v ≠ 0 := by rw [hv]; exact gI_ne (by omega)
  obtain ⟨u, eu, fu⟩ := p_over a.p _ gn
  obtain ⟨v, ev, fv⟩ := p_over b.p _ hn
  obtain ⟨w, ew, fw⟩ := p_over a.q _ hn
  obtain ⟨z, ez, fz'⟩ := p_over b.q _ gn
  rw [gv] at eu ez
  rw [hv] at ev ew
  have n1 := p_ftimes u v
  have n2 := p_ftimes w z
  have e1 : u.v * v.v = muP a b := by rw [eu, ev]; exact m1
  have e2 : w.v * z.v = muQ a b := by rw [ew, ez]; exact m2
  rw [m1, m2] at m4
  rw [m2] at m3
  have m3 : 0 < muQ a b := m3
  have m4 : Nat.gcd (muP a b).natAbs (muQ a b).natAbs = 1 := m4
  rw [e1] at n1
  rw [e2] at n2
  constructor
  · rintro ⟨r1, r2⟩
    obtain ⟨c1, l1⟩ := inR_c r1
    obtain ⟨c2, l2⟩ := inR_c r2
    have fl := p_lowest (clip (muP a b)) (clip (muQ a b)) (by rw [c2]; omega) (by rw [c1, c2]; exact m4)
    rw [l1] at n1
    rw [l2] at n2
    exact ⟨⟨clip (muP a b), clip (muQ a b), by rw [c2]; omega, by rw [c1, c2]; exact m4⟩, c1, c2, p_fMulR a b _ 0 hg hh fu fv n1 fw fz' n2 fl⟩
  · intro hno
    refine p_fMulR a b fq0 4 hg hh fu fv n1 fw fz' n2 (p_lowestE _ _ ?_)
    by_cases l1 : lerr (muP a b) = 0
    · right
      intro l2
      exact hno ⟨inR_l l1, inR_l l2⟩
    · exact .inl l1
end Go.Eng
namespace Go.Eng
theorem p_fDivR (a b f r : FQ) {e : Int} (h : pf E0 24 [wiP b.q, wiP b.p] = some (.tu [fqP f, .i .i64 0])) (hr : pf E0 8 [fqP a, fqP f] = some (.tu [fqP r, .i .i64 e])) : pf E0 65 [fqP a, fqP b] = some (.tu [fqP r, .i .i64 e]) := by
  have db := p_fDen b
  refine pf_run (xf := x_frac_Div) rfl (by simp [x_frac_Div]) ?_
  simp only [x_frac_Div]
  simp (disch := omega) only [go_sem, seval, wqa, wqb, wqc, wqd, wqe]
  refine wk_calmR [11] rfl ?_ ?_
  · simp (disch := omega) only [go_sem, seval, wqa, wqb, wqc, wqd, wqe, db, h]
    exact ⟨_, rfl, rfl⟩
  simp (disch := omega) only [go_sem, seval, wqa, wqb, wqc, wqd, wqe, db, h, hr]
theorem div_low {p q r s : Int} (hr : r ≠ 0) (hs : 0 < s) (hq : 0 < q) : lowP (p * lowP s r) (q * lowQ s r) = lowP (p * s) (q * r) ∧ lowQ (p * lowP s r) (q * lowQ s r) = lowQ (p * s) (q * r) := by
  have h1 := low_pos (p := s) hr
  refine lowF_eq (Int.mul_ne_zero (by omega) (by omega)) (Int.mul_ne_zero (by omega) hr) ?_
  have h2 := low_cross (p := s) hr
  calc p * lowP s r * (q * r) = p * q * (lowP s r * r) := by grind
    _ = p * q * (s * lowQ s r) := by rw [h2]
    _ = p * s * (q * lowQ s r) := by grind
def dvP (a b : FQ) : Int := lowP (a.p.v * b.q.v) (a.q.v * b.p.v)
def dvQ (a b : FQ) : Int := lowQ (a.p.v * b.q.v) (a.q.v * b.p.v)
theorem p_fDiv (a b : FQ) (h : b.p.v ≠ 0) : (inR (dvP a b).natAbs ∧ inR (dvQ a b).natAbs → ∃ f : FQ, f.p.v = dvP a b ∧ f.q.v = dvQ a b ∧ pf E0 65 [fqP a, fqP b] = some (.tu [fqP f, .i .i64 0])) ∧
    (¬ (inR (dvP a b).natAbs ∧ inR (dvQ a b).natAbs) → pf E0 65 [fqP a, fqP b] = some (.tu [fqP fq0, .i .i64 4])) := by
  have qa := a.q1
  have qb := b.q1
  obtain ⟨f, f1, f2, fm⟩ := p_Make b.q b.p h
  obtain ⟨l1, l2⟩ := div_low (p := a.p.v) (q := a.q.v) (r := b.p.v) (s := b.q.v) h (by omega) (by omega)
  have e1 : muP a f = dvP a b := by unfold muP dvP; rw [f1, f2]; exact l1
  have e2 : muQ a f = dvQ a b := by unfold muQ dvQ; rw [f1, f2]; exact l2
  have hm := p_fMul a f
  rw [e1, e2] at hm
  refine ⟨fun hR => ?_, fun hn => p_fDivR a b f fq0 fm (hm.2 hn)⟩
  obtain ⟨r, r1, r2, hr⟩ := hm.1 hR
  exact ⟨r, r1, r2, p_fDivR a b f r fm hr⟩
end Go.Eng
namespace Go.Eng
noncomputable def ftx (p q : Int) : List UInt8 := if q = 1 then decI p else decI p ++ [47] ++ decI q
theorem decI_short (x : WI) : (decI x.v).length ≤ 1000000 := by
  have h := inR_dlen ((wide_iff _).1 x.lim)
  have h1 : (dec x.v.natAbs).length ≤ 4956 + 1 := by
    unfold dec; split
    · simp
    · rw [dtx_len]; omega
  unfold decI; split <;> (try simp only [List.length_cons]) <;> omega
theorem p_fString (f : FQ) : pf E0 16 [fqP f] = some (.s (ftx f.p.v f.q.v)) := by
  have df := p_fDen f
  have s1 := p_Str f.p
  have s2 := p_Str f.q
  have sg := p_Sign f.l
  have l1 := decI_short f.p
  have l2 := decI_short f.q
  have hl : f.l.v = f.q.v - 1 := rfl
  have q1 := f.q1
  refine pf_run (xf := x__skymosaic_frac_Frac__String) rfl (by simp [x__skymosaic_frac_Frac__String]) ?_
  simp only [x__skymosaic_frac_Frac__String]
  unfold ftx
  by_cases h : f.q.v = 1
  · rw [if_pos h]
    have sc : (cmpI f.l.v 0 = 0) = True := by rw [hl, h]; simp [cmpI]
    simp (disch := omega) only [go_sem, seval, wqa, wqb, wqc, wqd, wqe, sg, sc, s1]
  · rw [if_neg h]
    have sc : (cmpI f.l.v 0 = 0) = False := by
      have : cmpI f.l.v 0 = 1 := by unfold cmpI; rw [if_neg (by omega), if_pos (by omega)]
      rw [this]; simp
    have a1 : binP .add (.s (decI f.p.v)) (.s [47]) = some (.s (decI f.p.v ++ [47])) := bin_sadd _ _ (by simp only [List.length_cons, List.length_nil]; omega)
    have a2 : binP .add (.s (decI f.p.v ++ [47])) (.s (decI f.q.v)) = some (.s (decI f.p.v ++ [47] ++ decI f.q.v)) := bin_sadd _ _ (by simp only [List.length_append, List.length_cons, List.length_nil]; omega)
    simp (disch := omega) only [go_sem, seval, wqa, wqb, wqc, wqd, wqe, sg, sc]
    refine wk_calmX [1] rfl (by simp only [go_sem, seval]) ?_
    simp (disch := omega) only [go_sem, seval, wqa, wqb, wqc, wqd, wqe, df, s1, s2, a1, a2]
end Go.Eng
namespace Go.Eng
end Go.Eng
namespace Go.Eng
end Go.Eng
namespace Go.Eng
end Go.Eng
namespace Go.Eng
end Go.Eng
namespace Go.Eng
theorem inR_of {z : Int} (h : tlen z.natAbs < 1230) : inR z.natAbs := (fits_iff _).1 (.inl h)
end Go.Eng
namespace Go.Eng
def FQ.is (f : FQ) (n d : Int) : Prop := f.p.v * d = n * f.q.v
theorem is_low {f : FQ} {n d : Int} (h : d ≠ 0) (h1 : f.p.v = lowP n d) (h2 : f.q.v = lowQ n d) : f.is n d := by
  unfold FQ.is; rw [h1, h2]; exact low_cross h
theorem is_self (f : FQ) : f.is f.p.v f.q.v := rfl
theorem is_scale {f : FQ} {n d : Int} (h : f.is n d) (k : Int) : f.is (n * k) (d * k) := by
  unfold FQ.is at *
  rw [← Int.mul_assoc, h]; grind
def fsz (n : Nat) (f : FQ) : Prop := tlen f.p.v.natAbs ≤ n ∧ tlen f.q.v.natAbs ≤ n
theorem tlen_div {a g : Int} (h : g ∣ a) : tlen (a / g).natAbs ≤ tlen a.natAbs := by
  refine tlen_mono ?_
  rw [Int.natAbs_ediv_of_dvd h]; exact Nat.div_le_self _ _
theorem add_is (a b : FQ) {n m : Nat} (ha : fsz n a) (hb : fsz m b) (h : n + m + 1 < 1230) : ∃ f : FQ, pf E0 9 [fqP a, fqP b] = some (.tu [fqP f, .i .i64 0]) ∧ f.is (a.p.v * b.q.v + b.p.v * a.q.v) (a.q.v * b.q.v) ∧ fsz (n + m + 1) f := by
  obtain ⟨a1, a2⟩ := ha
  obtain ⟨b1, b2⟩ := hb
  have qa := a.q1
  have qb := b.q1
  have k1 := tlen_div (gI_dvdr a.q.v b.q.v)
  have k2 := tlen_div (gI_dvdl a.q.v b.q.v)
  have d1 : b.q.v / gI a.q.v b.q.v * gI a.q.v b.q.v = b.q.v := Int.ediv_mul_cancel (gI_dvdr _ _)
  have d2 : a.q.v / gI a.q.v b.q.v * gI a.q.v b.q.v = a.q.v := Int.ediv_mul_cancel (gI_dvdl _ _)
  have t1 : tlen (adX a b).natAbs ≤ n + m := Nat.le_trans (tlen_mulI _ _) (by omega)
  have t2 : tlen (adY a b).natAbs ≤ n + m := Nat.le_trans (tlen_mulI _ _) (by omega)
  have t3 : tlen (adD a b).natAbs ≤ n + m := Nat.le_trans (tlen_mulI _ _) (by omega)
  have t4 : tlen (adX a b + adY a b).natAbs ≤ n + m + 1 := Nat.le_trans (tlen_addI _ _) (by omega)
  have dn := adD_ne a b
  obtain ⟨f, h1, h2, hf⟩ := (p_fAdd a b).1 ⟨inR_of (by omega), inR_of (by omega), inR_of (by omega), inR_of (by omega)⟩
  refine ⟨f, hf, ?_, ?_, ?_⟩
  · have hs := is_scale (is_low dn h1 h2) (gI a.q.v b.q.v)
    have e1 : (adX a b + adY a b) * gI a.q.v b.q.v = a.p.v * b.q.v + b.p.v * a.q.v := by
      unfold adX adY
      rw [Int.add_mul, Int.mul_assoc, Int.mul_assoc, d1, d2]
    have e2 : adD a b * gI a.q.v b.q.v = a.q.v * b.q.v := by
      unfold adD
      rw [Int.mul_right_comm, d2]
    rwa [e1, e2] at hs
  · rw [h1]; exact Nat.le_trans (tlen_mono (lowP_le dn)) t4
  · rw [h2]; exact Nat.le_trans (tlen_mono (lowQ_le dn)) (by omega)
theorem fsz_neg {n : Nat} {f : FQ} (h : fsz n f) : fsz n f.neg := ⟨by show tlen (-f.p.v).natAbs ≤ n; rw [Int.natAbs_neg]; exact h.1, h.2⟩
theorem sub_is (a b : FQ) {n m : Nat} (ha : fsz n a) (hb : fsz m b) (h : n + m + 1 < 1230) : ∃ f : FQ, pf E0 81 [fqP a, fqP b] = some (.tu [fqP f, .i .i64 0]) ∧ f.is (a.p.v * b.q.v - b.p.v * a.q.v) (a.q.v * b.q.v) ∧ fsz (n + m + 1) f := by
  obtain ⟨f, h1, h2, h3⟩ := add_is a b.neg ha (fsz_neg hb) h
  refine ⟨f, by rw [p_fSub]; exact h1, ?_, h3⟩
  have e : a.p.v * b.neg.q.v + b.neg.p.v * a.q.v = a.p.v * b.q.v - b.p.v * a.q.v := by
    show a.p.v * b.q.v + -b.p.v * a.q.v = _
    rw [Int.neg_mul]; omega
  rwa [e] at h2
theorem mul_is (a b : FQ) {n m : Nat} (ha : fsz n a) (hb : fsz m b) (h : n + m < 1230) : ∃ f : FQ, pf E0 8 [fqP a, fqP b] = some (.tu [fqP f, .i .i64 0]) ∧ f.is (a.p.v * b.p.v) (a.q.v * b.q.v) ∧ fsz (n + m) f := by
  obtain ⟨a1, a2⟩ := ha
  obtain ⟨b1, b2⟩ := hb
  have qa := a.q1
  have qb := b.q1
  have dn : a.q.v * b.q.v ≠ 0 := Int.mul_ne_zero (by omega) (by omega)
  have t1 : tlen (muP a b).natAbs ≤ n + m := Nat.le_trans (tlen_mono (lowP_le dn)) (Nat.le_trans (tlen_mulI _ _) (by omega))
  have t2 : tlen (muQ a b).natAbs ≤ n + m := Nat.le_trans (tlen_mono (lowQ_le dn)) (Nat.le_trans (tlen_mulI _ _) (by omega))
  obtain ⟨f, h1, h2, hf⟩ := (p_fMul a b).1 ⟨inR_of (by omega), inR_of (by omega)⟩
  exact ⟨f, hf, is_low dn h1 h2, by rw [h1]; exact t1, by rw [h2]; exact t2⟩
theorem div_is (a b : FQ) (hb0 : b.p.v ≠ 0) {n m : Nat} (ha : fsz n a) (hb : fsz m b) (h : n + m < 1230) : ∃ f : FQ, pf E0 65 [fqP a, fqP b] = some (.tu [fqP f, .i .i64 0]) ∧ f.is (a.p.v * b.q.v) (a.q.v * b.p.v) ∧ fsz (n + m) f := by
  obtain ⟨a1, a2⟩ := ha
  obtain ⟨b1, b2⟩ := hb
  have qa := a.q1
  have dn : a.q.v * b.p.v ≠ 0 := Int.mul_ne_zero (by omega) hb0
  have t1 : tlen (dvP a b).natAbs ≤ n + m := Nat.le_trans (tlen_mono (lowP_le dn)) (Nat.le_trans (tlen_mulI _ _) (by omega))
  have t2 : tlen (dvQ a b).natAbs ≤ n + m := Nat.le_trans (tlen_mono (lowQ_le dn)) (Nat.le_trans (tlen_mulI _ _) (by omega))
  obtain ⟨f, h1, h2, hf⟩ := (p_fDiv a b hb0).1 ⟨inR_of (by omega), inR_of (by omega)⟩
  exact ⟨f, hf, is_low dn h1 h2, by rw [h1]; exact t1, by rw [h2]; exact t2⟩
theorem cmpI_sub {a b c d : Int} (h : a - b = c - d) : cmpI a b = cmpI c d := by
  unfold cmpI
  have e1 : (a < b) = (c < d) := by simp only [eq_iff_iff]; omega
  have e2 : (b < a) = (d < c) := by simp only [eq_iff_iff]; omega
  simp only [e1, e2]
theorem cmpI_swap (a b : Int) : cmpI b a = -cmpI a b := by
  unfold cmpI
  rcases Int.lt_trichotomy a b with h | h | h
  · rw [if_neg (by omega), if_pos h, if_pos h]; rfl
  · subst h; rw [if_neg (by omega), if_neg (by omega)]; rfl
  · rw [if_pos h, if_neg (by omega), if_pos h]
theorem cmpI_scale {a b k : Int} (hk : 0 < k) : cmpI (a * k) (b * k) = cmpI a b := by
  unfold cmpI
  rcases Int.lt_trichotomy a b with h | h | h
  · have := Int.mul_lt_mul_of_pos_right h hk
    rw [if_pos this, if_pos h]
  · subst h; rw [if_neg (by omega), if_neg (by omega), if_neg (by omega), if_neg (by omega)]
  · have := Int.mul_lt_mul_of_pos_right h hk
    rw [if_neg (by omega), if_pos this, if_neg (by omega), if_pos h]
theorem cmp_step1 {p q r s : Int} (hq : 0 < q) (hs : 0 < s) (h : p / q ≠ r / s) : cmpI (p * s) (r * q) = cmpI (p / q) (r / s) := by
  have key : ∀ {p q r s : Int}, 0 < q → 0 < s → p / q < r / s → p * s < r * q := fun {p q r s} hq hs h => by
    have d1 := Int.mul_ediv_add_emod p q
    have d2 := Int.mul_ediv_add_emod r s
    have m1 := Int.emod_lt_of_pos p hq
    have m2 := Int.emod_nonneg r (show s ≠ 0 by omega)
    have h1 : p < q * (r / s) := by
      have : q * (p / q + 1) ≤ q * (r / s) := Int.mul_le_mul_of_nonneg_left (by omega) (by omega)
      rw [Int.mul_add] at this
      omega
    have h2 : p * s < q * (r / s) * s := Int.mul_lt_mul_of_pos_right h1 hs
    have h3 : q * (r / s) * s ≤ r * q := by
      have : s * (r / s) * q ≤ r * q := Int.mul_le_mul_of_nonneg_right (by omega) (by omega)
      have e : q * (r / s) * s = s * (r / s) * q := by grind
      omega
    omega
  unfold cmpI
  rcases Int.lt_trichotomy (p / q) (r / s) with g | g | g
  · rw [if_pos (key hq hs g), if_pos g]
  · exact (h g).elim
  · have := key hs hq g
    rw [if_neg (by omega), if_pos this, if_neg (by omega), if_pos g]
theorem cmp_step2 {p q r s : Int} (h : p / q = r / s) : cmpI (p * s) (r * q) = cmpI (p % q * s) (r % s * q) := by
  refine cmpI_sub ?_
  have d1 := Int.mul_ediv_add_emod p q
  have d2 := Int.mul_ediv_add_emod r s
  rw [h] at d1
  have e1 : p * s = (q * (r / s) + p % q) * s := by rw [d1]
  have e2 : r * q = (s * (r / s) + r % s) * q := by rw [d2]
  rw [e1, e2]
  grind
theorem cmp_step3 {x y q s : Int} (hx : 0 ≤ x) (hy : 0 ≤ y) (hq : 0 < q) (hs : 0 < s) (h : x = 0 ∨ y = 0) : cmpI (x * s) (y * q) = cmpI x 0 - cmpI y 0 := by
  rcases h with h | h
  · subst h
    have := cmpI_scale (a := 0) (b := y) hq
    rw [Int.zero_mul] at this
    rw [Int.zero_mul, this]
    have e : cmpI 0 0 = 0 := rfl
    rw [e, cmpI_swap 0 y]; omega
  · subst h
    have := cmpI_scale (a := x) (b := 0) hs
    rw [Int.zero_mul] at this
    have e : cmpI 0 0 = 0 := rfl
    rw [Int.zero_mul, this, e]; omega
theorem cmp_step4 (x y q s : Int) : cmpI (x * s) (y * q) = -cmpI (q * y) (s * x) := by
  rw [Int.mul_comm x s, Int.mul_comm y q]; exact cmpI_swap _ _
def cmpF (a b : FQ) : Int := cmpI (a.p.v * b.q.v) (b.p.v * a.q.v)
theorem cmpF_is {f g : FQ} {n d n' d' : Int} (hd : 0 < d) (hd' : 0 < d') (hf : f.is n d) (hg : g.is n' d') : cmpF f g = cmpI (n * d') (n' * d) := by
  unfold FQ.is at hf hg
  have qf := f.q1
  have qg := g.q1
  unfold cmpF
  rw [← cmpI_scale (a := f.p.v * g.q.v) (k := d * d') (Int.mul_pos hd hd'), ← cmpI_scale (a := n * d') (k := f.q.v * g.q.v) (Int.mul_pos (by omega) (by omega))]
  congr 1
  · calc f.p.v * g.q.v * (d * d') = f.p.v * d * (g.q.v * d') := by grind
      _ = n * f.q.v * (g.q.v * d') := by rw [hf]
      _ = n * d' * (f.q.v * g.q.v) := by grind
  · calc g.p.v * f.q.v * (d * d') = g.p.v * d' * (f.q.v * d) := by grind
      _ = n' * g.q.v * (f.q.v * d) := by rw [hg]
      _ = n' * d * (f.q.v * g.q.v) := by grind
end Go.Eng
namespace Go.Eng
def isPR : PV → Bool
  | .p _ _ => true
  | .sl _ _ _ _ _ => true
  | .tu _ => true
  | _ => false
def slotIn3 (E : PEnv) (ops : List XOper) (L : List Nat) (c : Nat × Nat) : Bool :=
  match ops[c.1]?, ops[c.2]? with
  | some a, some b =>
    match a.op.looks with
    | .t s => a.op.cls == 2 && L.contains s && calmOp E b.op
    | _ => false
  | _, _ => false
end Go.Eng
namespace Go.Eng
def apP : PV → PV → Bool
  | .p a _, .p b _ => !(Nat.beq a b)
  | _, _ => false
def slotSt (ops : List XOper) (L R : List Nat) (c : Nat × Nat) : Bool :=
  match ops[c.1]?, ops[c.2]? with
  | some a, some b =>
    match a.op, b.op with
    | .load _ _ (.t s), .store _ (.t r) _ => L.contains s && R.contains r && fixedX ops c.2 (.t r)
    | _, _ => false
  | _, _ => false
theorem wk_calmW {E : PEnv} {F : PFin} {ops : List XOper} {chk : List (Nat × Nat)} {ks : List KI} {fr : PFr} {M : PM} (L R : List Nat) (hL : chk.all (fun c => calmC E ops c || slotIn2 E ops L c || slotSt ops L R c) = true)
    (hr : WL E ⟨(0 :: 0 :: (L ++ R)).map XR.tmp, fun w _ => ∃ l, w = .tu l ∧ ((l.drop 2).take L.length).all (fun x => isPP x && ((l.drop 2).drop L.length).all (apP x)) = true⟩ ops [] fr M) (w : WL E F ops ks fr M) : WK E F (.drw ops chk) ks fr M := by
  refine wk_calmG (fun fr2 Ms hT => ?_) w
  have hp : ∀ s ∈ L, isPP (fr2 s) = true ∧ ∀ r ∈ R, apP (fr2 s) (fr2 r) = true := by
    obtain ⟨lf, q, fr3, M3, vs, e, h1, h2, l, h3, h4⟩ := hr
    simp only [Option.bind_eq_some_iff, unw] at e
    obtain ⟨⟨fr4, M4⟩, e1, e2⟩ := e
    simp only [Option.some.injEq, Prod.mk.injEq] at e2
    obtain ⟨_, e3, e4⟩ := e2
    rw [← e3, ← e4] at h2
    obtain ⟨Ms', g1, g2⟩ := pOpsT_of e1
    rw [g1] at hT
    cases hT
    have hres : ∀ (f : PFr) (N : PM) (l : List Nat), pRes f N (l.map XR.tmp) = some (l.map f) := fun f N l => by
      induction l with
      | nil => rfl
      | cons a l ih => simp only [List.map_cons, pRes, pResOne, ih]
    rw [hres] at h2
    cases h2
    simp only [List.map_cons, packP] at h3
    cases h3
    have h5 : (((L ++ R).map fr2).take L.length).all (fun x => isPP x && (((L ++ R).map fr2).drop L.length).all (apP x)) = true := h4
    rw [List.map_append, List.take_left' (by simp), List.drop_left' (by simp)] at h5
    simp only [List.all_eq_true, List.mem_map, Bool.and_eq_true, forall_exists_index, and_imp, forall_apply_eq_imp_iff₂] at h5
    exact h5
  rw [List.all_eq_true] at hL ⊢
  rintro ⟨i, j⟩ hc
  have h1 := hL _ hc
  simp only [Bool.or_eq_true] at h1
  rcases h1 with (h1 | h1) | h1
  · exact calm_chk hT h1
  · unfold slotIn2 at h1
    split at h1
    · rename_i a b ha hb
      split at h1
      · rename_i z k s hop
        simp only [Bool.and_eq_true] at h1
        obtain ⟨c1, c2⟩ := h1
        have hs := (hp s (List.contains_iff_mem.1 c1)).1
        cases hf : fr2 s with
        | p n o =>
          obtain ⟨fri, A, B, q1, q2, q3, q4⟩ := pOpsT_at hT ha
          obtain ⟨frj, C, D, p1, p2, p3, p4⟩ := pOpsT_at hT hb
          have p2' : Ms[(i, j).2 + 1]? = some D := p2
          have q2' : Ms[(i, j).1 + 1]? = some B := q2
          simp only [chkP, ha, q1, q2, p1, p2]
          rw [if_neg (by rw [hop]; simp [XO.cls])]
          rw [hop]
          show chkV ops j (.t s) C D (fr2 s) = true
          rw [hf]
          show verP (some n) C D = true
          rcases p3 with ⟨_, v, p3⟩ | ⟨_, p3⟩
          · cases hopb : b.op with
            | call f l =>
              rw [hopb] at p3 c2
              obtain ⟨ns, rfl⟩ := pcl_mem c2 p3
              exact roM_verP ns C _
            | _ => rw [hopb] at c2; simp [calmOp] at c2
          · rw [p3]; simp [verP]
        | _ => rw [hf] at hs; simp [isPP] at hs
      · cases h1
    · cases h1
  · unfold slotSt at h1
    split at h1
    · rename_i a b ha hb
      split at h1
      · rename_i z k s n r x hop hop2
        simp only [Bool.and_eq_true] at h1
        obtain ⟨⟨c1, c2⟩, c3⟩ := h1
        have hap := (hp s (List.contains_iff_mem.1 c1)).2 r (List.contains_iff_mem.1 c2)
        obtain ⟨fri, A, B, q1, q2, q3, q4⟩ := pOpsT_at hT ha
        obtain ⟨frj, C, D, p1, p2, p3, p4⟩ := pOpsT_at hT hb
        have p2' : Ms[(i, j).2 + 1]? = some D := p2
        have q2' : Ms[(i, j).1 + 1]? = some B := q2
        have e2 : fr2 r = frj r := p4 (.t r) c3
        simp only [chkP, ha, q1, q2, p1, p2]
        rw [if_neg (by rw [hop]; simp [XO.cls])]
        rw [hop]
        show chkV ops j (.t s) C D (fr2 s) = true
        cases hf : fr2 s with
        | p n1 o1 =>
          cases hg : fr2 r with
          | p n2 o2 =>
            rw [hf, hg] at hap
            have hne : n1 ≠ n2 := fun q => by rw [q] at hap; simp [apP] at hap
            show verP (some n1) C D = true
            rcases p3 with ⟨_, v, p3⟩ | ⟨_, p3⟩
            · rw [hop2] at p3
              simp only [XO.pst, XO.pev] at p3
              rw [show X.pv E.glob frj (.t r) = .p n2 o2 from e2.symm.trans hg] at p3
              simp only at p3
              generalize (X.pv E.glob frj x).cells = cs at p3
              split at p3
              · split at p3
                · cases p3
                  simp only [verP]
                  rw [List.getElem?_set_ne (fun h => hne h.symm)]; simp
                · cases p3
              · cases p3
            · rw [p3]; simp [verP]
          | _ => rw [hf, hg] at hap; simp [apP] at hap
        | _ => rw [hf] at hap; simp [apP] at hap
      · cases h1
    · cases h1
end Go.Eng
namespace Go.Eng
theorem mG (G L : PM) (k : Nat) : PM.blk (G ++ L) (G.length + k) = PM.blk L k := by
  unfold PM.blk
  rw [List.getElem?_append_right (by omega), Nat.add_sub_cancel_left]
theorem mG0 (G L : PM) : PM.blk (G ++ L) G.length = PM.blk L 0 := mG G L 0
theorem sG (G L : PM) (k : Nat) (v : Option PB) : (G ++ L).set (G.length + k) v = G ++ L.set k v := by
  rw [List.set_append_right _ _ (by omega), Nat.add_sub_cancel_left]
theorem sG0 (G L : PM) (v : Option PB) : (G ++ L).set G.length v = G ++ L.set 0 v := sG G L 0 v
theorem lG (G L : PM) : (G ++ L).length = G.length + L.length := List.length_append
theorem cmpI_rng (a b : Int) : -1 ≤ cmpI a b ∧ cmpI a b ≤ 1 := by unfold cmpI; split <;> (try split) <;> omega
theorem p_fCompare (a b : FQ) : pf E0 11 [fqP a, fqP b] = some (.i .i64 (cmpF a b)) := by
  have da := p_fDen a
  have db := p_fDen b
  have qa := a.q1
  have qb := b.q1
  refine pf_run (xf := x_frac_Compare) rfl (by simp [x_frac_Compare]) ?_
  simp only [x_frac_Compare]
  simp (disch := omega) only [go_sem, seval, wqa, wqb, wqc, wqd, wqe]
  refine wk_calmW [16, 3, 20] [5, 6] rfl ?_ ?_
  · simp (disch := omega) only [go_sem, seval, wqa, wqb, wqc, wqd, wqe, da, db]
    exact ⟨_, rfl, rfl⟩
  simp (disch := omega) only [go_sem, seval, wqa, wqb, wqc, wqd, wqe, da, db]
  refine wk_ind x_frac_Compare_l1.eq_1 (fun (σ : (WI × WI) × (WI × WI) × Int) fr M => 1 ≤ σ.1.2.v ∧ 1 ≤ σ.2.1.2.v ∧ (σ.2.2 = 1 ∨ σ.2.2 = -1) ∧ σ.2.2 * cmpI (σ.1.1.v * σ.2.1.2.v) (σ.2.1.1.v * σ.1.2.v) = cmpF a b ∧
    fr 5 = .p 2 0 ∧ fr 6 = .p 3 0 ∧ fr 7 = .p 4 0 ∧ fr 8 = .p 5 0 ∧ fr 9 = .i .i64 σ.2.2 ∧ ∃ b0 b1 v2 v3 v4 v5 G, M = b0 :: b1 :: some ⟨(wiP σ.1.1).cells, true, v2⟩ :: some ⟨(wiP σ.1.2).cells, true, v3⟩ :: some ⟨(wiP σ.2.1.1).cells, true, v4⟩ :: some ⟨(wiP σ.2.1.2).cells, true, v5⟩ :: G)
    (fun σ => σ.1.2.v.toNat) ?_ ((a.p, a.q), (b.p, b.q), 1) ⟨qa, qb, .inl rfl, Int.one_mul _, by simp only [go_sem, seval], by simp only [go_sem, seval], by simp only [go_sem, seval], by simp only [go_sem, seval], by simp only [go_sem, seval], _, _, _, _, _, _, [], rfl⟩
  rintro ⟨⟨p, q⟩, ⟨r, s⟩, g⟩ fr M ⟨hq, hs, hg, hc, h5, h6, h7, h8, h9, b0, b1, v2, v3, v4, v5, G, rfl⟩ ih
  simp only at hq hs hg hc h5 h6 h7 h8 h9
  have d1 := p_Div p q (by omega)
  have d2 := p_Div r s (by omega)
  have xv : (p.div q (by omega)).v = p.v / q.v := rfl
  have ev : (p.mod q (by omega)).v = p.v % q.v := rfl
  have yv : (r.div s (by omega)).v = r.v / s.v := rfl
  have ov : (r.mod s (by omega)).v = r.v % s.v := rfl
  have e0 := Int.emod_nonneg p.v (show q.v ≠ 0 by omega)
  have o0 := Int.emod_nonneg r.v (show s.v ≠ 0 by omega)
  have e1 := Int.emod_lt_of_pos p.v (show 0 < q.v by omega)
  rw [← ev] at e0 e1
  rw [← ov] at o0
  have s1 := cmp_step1 (p := p.v) (q := q.v) (r := r.v) (s := s.v) (by omega) (by omega)
  have s2 := cmp_step2 (p := p.v) (q := q.v) (r := r.v) (s := s.v)
  rw [← xv, ← yv] at s1
  rw [← xv, ← yv, ← ev, ← ov] at s2
  generalize p.div q (by omega) = x at *
  generalize p.mod q (by omega) = e at *
  generalize r.div s (by omega) = y at *
  generalize r.mod s (by omega) = o at *
  have c1 := p_Compare x y
  have g1 := p_Sign e
  have g2 := p_Sign o
  have r1 := cmpI_rng x.v y.v
  have r2 := cmpI_rng e.v 0
  have r3 := cmpI_rng o.v 0
  by_cases hxy : x.v = y.v
  · have t0 : (cmpI x.v y.v = 0) = True := by rw [cmpI_eq0]; simp [hxy]
    have hb := s2 hxy
    by_cases hz : e.v = 0 ∨ o.v = 0
    · rw [cmp_step3 (by omega) (by omega) (by omega) (by omega) hz] at hb
      have hm : cmpF a b = g * (cmpI e.v 0 - cmpI o.v 0) := by rw [← hc, hb]
      have hl : -2 ≤ g * (cmpI e.v 0 - cmpI o.v 0) ∧ g * (cmpI e.v 0 - cmpI o.v 0) ≤ 2 := by rcases hg with rfl | rfl <;> omega
      rw [hm]
      by_cases he : e.v = 0
      · have t1 : (cmpI e.v 0 = 0) = True := by rw [cmpI_eq0]; simp [he]
        simp (disch := omega) only [go_sem, seval, wqa, wqb, wqc, wqd, wqe, h5, h6, h7, h8, h9, d1, d2, mG, mG0, sG, sG0, lG, List.append_assoc, List.cons_append, List.nil_append, c1, g1, g2, t0, t1]
        refine wk_calmX [14] rfl (by simp only [go_sem, seval]) ?_
        simp (disch := omega) only [go_sem, seval, wqa, wqb, wqc, wqd, wqe, h5, h6, h7, h8, h9, d1, d2, mG, mG0, sG, sG0, lG, List.append_assoc, List.cons_append, List.nil_append, c1, g1, g2]
      · have t1 : (cmpI e.v 0 = 0) = False := by rw [cmpI_eq0]; simp [he]
        have t2 : (cmpI o.v 0 = 0) = True := by rw [cmpI_eq0]; simp; omega
        simp (disch := omega) only [go_sem, seval, wqa, wqb, wqc, wqd, wqe, h5, h6, h7, h8, h9, d1, d2, mG, mG0, sG, sG0, lG, List.append_assoc, List.cons_append, List.nil_append, c1, g1, g2, t0, t1, t2]
        refine wk_calmX [14] rfl (by simp only [go_sem, seval]) ?_
        simp (disch := omega) only [go_sem, seval, wqa, wqb, wqc, wqd, wqe, h5, h6, h7, h8, h9, d1, d2, mG, mG0, sG, sG0, lG, List.append_assoc, List.cons_append, List.nil_append, c1, g1, g2]
    · have t1 : (cmpI e.v 0 = 0) = False := by rw [cmpI_eq0]; simp; omega
      have t2 : (cmpI o.v 0 = 0) = False := by rw [cmpI_eq0]; simp; omega
      have n0 : -1 ≤ g ∧ g ≤ 1 := by omega
      rw [cmp_step4 e.v o.v q.v s.v] at hb
      simp (disch := omega) only [go_sem, seval, wqa, wqb, wqc, wqd, wqe, h5, h6, h7, h8, h9, d1, d2, mG, mG0, sG, sG0, lG, List.append_assoc, List.cons_append, List.nil_append, c1, g1, g2, t0, t1, t2]
      refine wk_calmW [11, 8, 14] [5, 6, 7] rfl ?_ ?_
      · simp (disch := omega) only [go_sem, seval, wqa, wqb, wqc, wqd, wqe, h5, h6, h7, h8, h9, d1, d2, mG, mG0, sG, sG0, lG, List.append_assoc, List.cons_append, List.nil_append]
        exact ⟨_, rfl, rfl⟩
      simp (disch := omega) only [go_sem, seval, wqa, wqb, wqc, wqd, wqe, h5, h6, h7, h8, h9, d1, d2, mG, mG0, sG, sG0, lG, List.append_assoc, List.cons_append, List.nil_append]
      exact ih ((q, e), (s, o), 0 - g) _ _ (by simp only; omega) ⟨by simp only; omega, by simp only; omega, by simp only; omega, by simp only; rw [← hc, hb]; grind, by simp only [go_sem, seval, h5], by simp only [go_sem, seval, h6], by simp only [go_sem, seval, h7], by simp only [go_sem, seval, h8], by simp only [go_sem, seval], _, _, _, _, _, _, _, rfl⟩
  · have t0 : (cmpI x.v y.v = 0) = False := by rw [cmpI_eq0]; simp [hxy]
    have hb := s1 hxy
    have hm : cmpF a b = g * cmpI x.v y.v := by rw [← hc, hb]
    have hl : -2 ≤ g * cmpI x.v y.v ∧ g * cmpI x.v y.v ≤ 2 := by rcases hg with rfl | rfl <;> omega
    rw [hm]
    simp (disch := omega) only [go_sem, seval, wqa, wqb, wqc, wqd, wqe, h5, h6, h7, h8, h9, d1, d2, mG, mG0, sG, sG0, lG, List.append_assoc, List.cons_append, List.nil_append, c1, t0]
end Go.Eng
namespace Go.Eng
end Go.Eng
namespace Go.Eng
end Go.Eng
namespace Go.Eng
end Go.Eng
namespace Go.Eng
end Go.Eng
namespace Go.Eng
theorem is_val {f : FQ} {n d p q : Int} (hd : d ≠ 0) (hq : 0 < q) (hc : Nat.gcd p.natAbs q.natAbs = 1) (hf : f.is n d) (e : n * q = p * d) : f.p.v = p ∧ f.q.v = q := by
  unfold FQ.is at hf
  have q1 := f.q1
  refine low_uniq (by omega) hq f.cop hc ?_
  apply Int.eq_of_mul_eq_mul_right (a := d) hd
  calc f.p.v * q * d = f.p.v * d * q := by grind
    _ = n * f.q.v * q := by rw [hf]
    _ = n * q * f.q.v := by grind
    _ = p * d * f.q.v := by rw [e]
    _ = p * f.q.v * d := by grind
theorem ev_dec {z : Int} {v n : Nat} (hz : z = (v : Int)) (h1 : 10 ^ n ≤ v) (h2 : v < 10 ^ (n + 1)) : decI z = dtx (n + 1) v := by
  subst hz
  unfold decI; rw [if_neg (by omega), Int.natAbs_natCast]
  exact dec_eval h1 h2
theorem str_ex (f : FQ) {p q : Int} {t : List UInt8} (h1 : f.p.v = p) (h2 : f.q.v = q) (ht : ftx p q = t) : pf E0 16 [fqP f] = some (.s t) := by
  rw [← ht, ← h1, ← h2]; exact p_fString f
end Go.Eng
namespace Go.Eng
theorem add_comp {f g h : FQ} {n d m e : Int} (hf : f.is n d) (hg : g.is m e) (hh : h.is (f.p.v * g.q.v + g.p.v * f.q.v) (f.q.v * g.q.v)) : h.is (n * e + m * d) (d * e) := by
  have qf := f.q1
  have qg := g.q1
  unfold FQ.is at *
  apply Int.eq_of_mul_eq_mul_right (a := f.q.v * g.q.v) (Int.mul_ne_zero (by omega) (by omega))
  calc h.p.v * (d * e) * (f.q.v * g.q.v) = h.p.v * (f.q.v * g.q.v) * (d * e) := by grind
    _ = (f.p.v * g.q.v + g.p.v * f.q.v) * h.q.v * (d * e) := by rw [hh]
    _ = (f.p.v * d * g.q.v * e + g.p.v * e * f.q.v * d) * h.q.v := by grind
    _ = (n * f.q.v * g.q.v * e + m * g.q.v * f.q.v * d) * h.q.v := by rw [hf, hg]
    _ = (n * e + m * d) * h.q.v * (f.q.v * g.q.v) := by grind
theorem sub_comp {f g h : FQ} {n d m e : Int} (hf : f.is n d) (hg : g.is m e) (hh : h.is (f.p.v * g.q.v - g.p.v * f.q.v) (f.q.v * g.q.v)) : h.is (n * e - m * d) (d * e) := by
  have qf := f.q1
  have qg := g.q1
  unfold FQ.is at *
  apply Int.eq_of_mul_eq_mul_right (a := f.q.v * g.q.v) (Int.mul_ne_zero (by omega) (by omega))
  calc h.p.v * (d * e) * (f.q.v * g.q.v) = h.p.v * (f.q.v * g.q.v) * (d * e) := by grind
    _ = (f.p.v * g.q.v - g.p.v * f.q.v) * h.q.v * (d * e) := by rw [hh]
    _ = (f.p.v * d * g.q.v * e - g.p.v * e * f.q.v * d) * h.q.v := by grind
    _ = (n * f.q.v * g.q.v * e - m * g.q.v * f.q.v * d) * h.q.v := by rw [hf, hg]
    _ = (n * e - m * d) * h.q.v * (f.q.v * g.q.v) := by grind
theorem mul_comp {f g h : FQ} {n d m e : Int} (hf : f.is n d) (hg : g.is m e) (hh : h.is (f.p.v * g.p.v) (f.q.v * g.q.v)) : h.is (n * m) (d * e) := by
  have qf := f.q1
  have qg := g.q1
  unfold FQ.is at *
  apply Int.eq_of_mul_eq_mul_right (a := f.q.v * g.q.v) (Int.mul_ne_zero (by omega) (by omega))
  calc h.p.v * (d * e) * (f.q.v * g.q.v) = h.p.v * (f.q.v * g.q.v) * (d * e) := by grind
    _ = f.p.v * g.p.v * h.q.v * (d * e) := by rw [hh]
    _ = f.p.v * d * (g.p.v * e) * h.q.v := by grind
    _ = n * f.q.v * (m * g.q.v) * h.q.v := by rw [hf, hg]
    _ = n * m * h.q.v * (f.q.v * g.q.v) := by grind
theorem add_ix (a b : FQ) {n m : Nat} {x d y e : Int} (ha : fsz n a) (hb : fsz m b) (h : n + m + 1 < 1230) (xa : a.is x d) (xb : b.is y e) : ∃ f : FQ, pf E0 9 [fqP a, fqP b] = some (.tu [fqP f, .i .i64 0]) ∧ f.is (x * e + y * d) (d * e) ∧ fsz (n + m + 1) f := by
  obtain ⟨f, h1, h2, h3⟩ := add_is a b ha hb h
  exact ⟨f, h1, add_comp xa xb h2, h3⟩
theorem mul_ix (a b : FQ) {n m : Nat} {x d y e : Int} (ha : fsz n a) (hb : fsz m b) (h : n + m < 1230) (xa : a.is x d) (xb : b.is y e) : ∃ f : FQ, pf E0 8 [fqP a, fqP b] = some (.tu [fqP f, .i .i64 0]) ∧ f.is (x * y) (d * e) ∧ fsz (n + m) f := by
  obtain ⟨f, h1, h2, h3⟩ := mul_is a b ha hb h
  exact ⟨f, h1, mul_comp xa xb h2, h3⟩
end Go.Eng
namespace Go.Eng
theorem is_conv {f : FQ} {n d n' d' : Int} (hd : d ≠ 0) (h : f.is n d) (e : n * d' = n' * d) : f.is n' d' := by
  unfold FQ.is at *
  apply Int.eq_of_mul_eq_mul_right hd
  calc f.p.v * d' * d = f.p.v * d * d' := by grind
    _ = n * f.q.v * d' := by rw [h]
    _ = n * d' * f.q.v := by grind
    _ = n' * d * f.q.v := by rw [e]
    _ = n' * f.q.v * d := by grind
def hAt (hs : List Int) (k : Int) : Int := hs.getD k.toNat 0
def f0V (hs : List Int) (C i j : Int) : Int := hAt hs (j * C + i)
def f1V (hs : List Int) (C i j : Int) : Int := hAt hs (j * C + i + 1) - hAt hs (j * C + i)
def f2V (hs : List Int) (C i j : Int) : Int := hAt hs ((j + 1) * C + i) - hAt hs (j * C + i)
def f3V (hs : List Int) (C i j : Int) : Int := hAt hs ((j + 1) * C + i + 1) - hAt hs ((j + 1) * C + i) - hAt hs (j * C + i + 1) + hAt hs (j * C + i)
def bil (f0 f1 f2 f3 a b c d : Int) : Int := (f0 * b + f1 * a) * d + (f2 * b + f3 * a) * c
def bilV (hs : List Int) (C i j a b c d : Int) : Int := bil (f0V hs C i j) (f1V hs C i j) (f2V hs C i j) (f3V hs C i j) a b c d
theorem bil_right (hs : List Int) (C i j b c d : Int) : bilV hs C i j b b c d = bilV hs C (i + 1) j 0 b c d := by
  unfold bilV bil f0V f1V f2V f3V
  have e1 : j * C + (i + 1) = j * C + i + 1 := by omega
  have e2 : (j + 1) * C + (i + 1) = (j + 1) * C + i + 1 := by omega
  rw [e1, e2]
  grind
theorem bil_up (hs : List Int) (C i j a b d : Int) : bilV hs C i j a b d d = bilV hs C i (j + 1) a b 0 d := by
  unfold bilV bil f0V f1V f2V f3V
  grind
theorem facet_pick {N : Nat} {u S i : Int} (hS : 0 < S) (hN : 2 ≤ N) (h0 : 0 ≤ i) (h1 : i ≤ N - 2) (l : i * S ≤ u) (r : u ≤ (i + 1) * S) : min (u / S) (N - 2) = i ∨ (min (u / S) (N - 2) = i + 1 ∧ u = (i + 1) * S) := by
  have a1 : i ≤ u / S := Int.le_ediv_of_mul_le hS l
  by_cases h : u = (i + 1) * S
  · have : u / S = i + 1 := by rw [h]; exact Int.mul_ediv_cancel _ (by omega)
    omega
  · have : u / S < i + 1 := Int.ediv_lt_of_lt_mul hS (by omega)
    omega
end Go.Eng
namespace Go.Eng
theorem p_Around {n m : Int} (hn : Fits64 n) (hm : Fits64 m) (h1 : 1 ≤ m) : pf E0 6 [.i .i64 n, .i .i64 m] = some (.i .i64 (aro n m)) := by
  refine pf_run (xf := x_r01_Around) rfl (by simp [x_r01_Around]) ?_
  simp only [x_r01_Around]
  unfold Fits64 at hn hm
  have a0 := aro_nonneg n h1
  have a1 := aro_lt n h1
  have q1 : (m = 0) = False := by simp; omega
  by_cases h : n < 0
  · have e : (0 - (n + 1)).tmod m = aro n m := by
      unfold aro
      rw [if_pos h, Int.tmod_eq_emod_of_nonneg (by omega)]
      congr 1; omega
    simp (disch := omega) only [go_sem, seval, wqa, wqb, wqc, wqd, wqe, h, q1, e]
  · have e : n.tmod m = aro n m := by
      unfold aro
      rw [if_neg h, Int.tmod_eq_emod_of_nonneg (by omega)]
    simp (disch := omega) only [go_sem, seval, wqa, wqb, wqc, wqd, wqe, h, q1, e]
theorem p_Pick {xs : List Int} (hx : Ints xs) {i m : Int} (hi : Fits64 i) (hm : Fits64 m) (h1 : 1 ≤ m) : pf E0 13 [ints xs, .i .i64 i, .i .i64 m] = some (.i .i64 (pick xs i m)) := by
  refine pf_run (xf := x_r01_Pick) rfl (by simp [x_r01_Pick]) ?_
  simp only [x_r01_Pick]
  obtain ⟨hx1, hx2⟩ := hx
  unfold pick
  by_cases h : i < 0
  · rw [if_pos (.inl h)]
    simp (disch := omega) only [go_sem, seval, wqa, wqb, wqc, wqd, wqe, h]
  · by_cases h' : (xs.length : Int) ≤ i
    · rw [if_pos (.inr h')]
      have q1 : (i ≥ (xs.length : Int)) = True := by simp; omega
      simp (disch := omega) only [go_sem, seval, wqa, wqb, wqc, wqd, wqe, h, q1]
    · rw [if_neg (by omega)]
      have q1 : (i ≥ (xs.length : Int)) = False := by simp; omega
      obtain ⟨j, rfl⟩ : ∃ j : Nat, i = j := ⟨i.toNat, by omega⟩
      have hj : j < xs.length := by omega
      have hg : xs[j]? = some (xs.getD j 0) := by simp [hj]
      have ha := p_Around (n := xs.getD j 0) (m := m) (hx2 _ (by simp [hj])) hm h1
      simp (disch := omega) only [go_sem, seval, wqa, wqb, wqc, wqd, wqe, h, q1, idxP_ints hg, Int.toNat_natCast, ha]
end Go.Eng
namespace Go.Eng
def terP (X Y S C R : Int) (hs : List Int) : PV := .ag [.i .i64 X, .i .i64 Y, .i .i64 S, .i .i64 C, .i .i64 R, ints hs]
@[go_sem] theorem fz_terP (M : PM) (d : Nat) (X Y S C R : Int) (hs : List Int) : fz M (d + 1 + 1) (terP X Y S C R hs) = some (terP X Y S C R hs, []) := _root_.id rfl
@[go_sem] theorem cells_terP (X Y S C R : Int) (hs : List Int) : (terP X Y S C R hs).cells = [.i .i64 X, .i .i64 Y, .i .i64 S, .i .i64 C, .i .i64 R, ints hs] := _root_.id rfl
@[go_sem] theorem fold_ter (X Y S C R : Int) (hs : List Int) : PV.ag [.i .i64 X, .i .i64 Y, .i .i64 S, .i .i64 C, .i .i64 R, ints hs] = terP X Y S C R hs := _root_.id rfl
theorem p_twhole {n : Int} (hn : Fits64 n) : ∃ f : FQ, f.p.v = n ∧ f.q.v = 1 ∧ fsz 5 f ∧ pf E0 27 [.i .i64 n] = some (fqP f) := by
  have hn' := hn
  unfold Fits64 at hn'
  obtain ⟨f, f1, f2, fo⟩ := p_fOf hn (q := 1) (by decide) (by decide)
  obtain ⟨l1, l2⟩ := low_self (p := n) (q := 1) (by decide) (Nat.gcd_one_right _)
  have f1 := f1.trans l1
  have f2 := f2.trans l2
  refine ⟨f, f1, f2, ⟨by rw [f1]; exact tlen_small (by omega), by rw [f2]; exact tlen_small (by decide)⟩, ?_⟩
  refine pf_run (xf := x_terrain_whole) rfl (by simp [x_terrain_whole]) ?_
  simp only [x_terrain_whole]
  simp (disch := omega) only [go_sem, seval, wqa, wqb, wqc, wqd, wqe, fo]
theorem p_tadd {a b f : FQ} {e : Int} (h : pf E0 9 [fqP a, fqP b] = some (.tu [fqP f, .i .i64 e])) : pf E0 26 [fqP a, fqP b] = some (fqP f) := by
  refine pf_run (xf := x_terrain_add) rfl (by simp [x_terrain_add]) ?_
  simp only [x_terrain_add]
  simp (disch := omega) only [go_sem, seval, wqa, wqb, wqc, wqd, wqe, h]
theorem p_tmul {a b f : FQ} {e : Int} (h : pf E0 8 [fqP a, fqP b] = some (.tu [fqP f, .i .i64 e])) : pf E0 28 [fqP a, fqP b] = some (fqP f) := by
  refine pf_run (xf := x_terrain_mul) rfl (by simp [x_terrain_mul]) ?_
  simp only [x_terrain_mul]
  simp (disch := omega) only [go_sem, seval, wqa, wqb, wqc, wqd, wqe, h]
theorem p_tsub {a b f : FQ} {e : Int} (h : pf E0 81 [fqP a, fqP b] = some (.tu [fqP f, .i .i64 e])) : pf E0 66 [fqP a, fqP b] = some (fqP f) := by
  refine pf_run (xf := x_terrain_sub) rfl (by simp [x_terrain_sub]) ?_
  simp only [x_terrain_sub]
  simp (disch := omega) only [go_sem, seval, wqa, wqb, wqc, wqd, wqe, h]
theorem p_floor (s : FQ) (h : Fits64 (s.p.v / s.q.v)) : pf E0 68 [fqP s] = some (.i .i64 (s.p.v / s.q.v)) := by
  have hq := s.q1
  have a1 := p_fNum s
  have a2 := p_fDen s
  have dv := p_Div s.p s.q (by omega)
  have sm := p_Small (s.p.div s.q (by omega))
  have sv : (s.p.div s.q (by omega)).v = s.p.v / s.q.v := rfl
  have s1 : isSmall (s.p.v / s.q.v) = true := by unfold isSmall; exact decide_eq_true h
  have s2 : small (s.p.v / s.q.v) = s.p.v / s.q.v := by unfold small; rw [if_pos s1]
  rw [sv, s1, s2] at sm
  have sg := p_Sign (s.p.mod s.q (by omega))
  have mv : (s.p.mod s.q (by omega)).v = s.p.v % s.q.v := rfl
  have m0 := Int.emod_nonneg s.p.v (show s.q.v ≠ 0 by omega)
  have g0 : (cmpI (s.p.v % s.q.v) 0 < 0) = False := by rw [cmpI_neg]; simp; omega
  rw [mv] at sg
  generalize s.p.div s.q (by omega) = x at *
  generalize s.p.mod s.q (by omega) = y at *
  unfold Fits64 at h
  generalize s.p.v / s.q.v = k at *
  generalize s.p.v % s.q.v = r at *
  refine pf_run (xf := x_terrain_floor) rfl (by simp [x_terrain_floor]) ?_
  simp only [x_terrain_floor]
  simp (disch := omega) only [go_sem, seval, wqa, wqb, wqc, wqd, wqe]
  refine wk_calmX [1] rfl (by simp only [go_sem, seval]) ?_
  simp (disch := omega) only [go_sem, seval, wqa, wqb, wqc, wqd, wqe, a1, a2, dv, sm, sg, g0]
end Go.Eng
namespace Go.Eng
theorem floor_is {f : FQ} {n d : Int} (hd : 0 < d) (h : f.is n d) : f.p.v / f.q.v = n / d := by
  have hq := f.q1
  unfold FQ.is at h
  have e1 : f.p.v / f.q.v = (f.p.v * d) / (f.q.v * d) := (Int.mul_ediv_mul_of_pos_left _ _ hd).symm
  have e2 : n / d = (n * f.q.v) / (d * f.q.v) := (Int.mul_ediv_mul_of_pos_left _ _ (by omega)).symm
  rw [e1, e2, h, Int.mul_comm f.q.v d]
theorem sign_is {f : FQ} {n d : Int} (hd : 0 < d) (h : f.is n d) : cmpI f.p.v 0 = cmpI n 0 := by
  have hq := f.q1
  unfold FQ.is at h
  have e1 := cmpI_scale (a := f.p.v) (b := 0) hd
  have e2 := cmpI_scale (a := n) (b := 0) (k := f.q.v) (by omega)
  rw [Int.zero_mul] at e1 e2
  rw [← e1, ← e2, h]
theorem sub_ix (a b : FQ) {n m : Nat} {x d y e : Int} (ha : fsz n a) (hb : fsz m b) (h : n + m + 1 < 1230) (xa : a.is x d) (xb : b.is y e) : ∃ f : FQ, pf E0 81 [fqP a, fqP b] = some (.tu [fqP f, .i .i64 0]) ∧ f.is (x * e - y * d) (d * e) ∧ fsz (n + m + 1) f := by
  obtain ⟨f, h1, h2, h3⟩ := sub_is a b ha hb h
  exact ⟨f, h1, sub_comp xa xb h2, h3⟩
theorem div_comp {f g h : FQ} {n d m e : Int} (hf : f.is n d) (hg : g.is m e) (hm : g.p.v ≠ 0) (hh : h.is (f.p.v * g.q.v) (f.q.v * g.p.v)) : h.is (n * e) (d * m) := by
  have qf := f.q1
  have qg := g.q1
  unfold FQ.is at *
  apply Int.eq_of_mul_eq_mul_right (a := f.q.v * g.q.v * g.p.v) (Int.mul_ne_zero (Int.mul_ne_zero (by omega) (by omega)) hm)
  calc h.p.v * (d * m) * (f.q.v * g.q.v * g.p.v) = h.p.v * (f.q.v * g.p.v) * (d * (m * g.q.v)) := by grind
    _ = f.p.v * g.q.v * h.q.v * (d * (g.p.v * e)) := by rw [hh, hg]
    _ = f.p.v * d * (g.q.v * h.q.v * (g.p.v * e)) := by grind
    _ = n * f.q.v * (g.q.v * h.q.v * (g.p.v * e)) := by rw [hf]
    _ = n * e * h.q.v * (f.q.v * g.q.v * g.p.v) := by grind
theorem p_placeG {k : Nat} (hk : k ≤ 500) {x : FQ} {n d : Int} (zx : fsz k x) (hd : 0 < d) (xi : x.is n d) {F S : Int} {N : Nat} (hF : -4194304 ≤ F ∧ F ≤ 4194304) (hS : 1 ≤ S ∧ S ≤ 65536) (hN : 2 ≤ N ∧ N ≤ 128) :
    (0 ≤ n - F * d ∧ n - F * d ≤ (N - 1) * (d * S) → ∃ r : FQ, r.is (n - F * d - min ((n - F * d) / (d * S)) (N - 2) * (d * S)) (d * S) ∧ fsz (k + 20) r ∧
      pf E0 45 [fqP x, .i .i64 F, .i .i64 S, .i .i64 N] = some (.tu [.i .i64 (min ((n - F * d) / (d * S)) (N - 2)), fqP r, .b true])) ∧
    (¬ (0 ≤ n - F * d ∧ n - F * d ≤ (N - 1) * (d * S)) → pf E0 45 [fqP x, .i .i64 F, .i .i64 S, .i .i64 N] = some (.tu [.i .i64 0, fqP fq0, .b false])) := by
  obtain ⟨wF, a1, a2, az, aw⟩ := p_twhole (n := F) (by unfold Fits64; omega)
  obtain ⟨wS, b1, b2, bz, bw⟩ := p_twhole (n := S) (by unfold Fits64; omega)
  obtain ⟨wN, c1, c2, cz, cw⟩ := p_twhole (n := (N : Int) - 1) (by unfold Fits64; omega)
  have aI := is_self wF
  have bI := is_self wS
  have cI := is_self wN
  rw [a1, a2] at aI
  rw [b1, b2] at bI
  rw [c1, c2] at cI
  obtain ⟨u, fu, ui, uz⟩ := sub_ix x wF zx az (by omega) xi aI
  have tu := p_tsub fu
  obtain ⟨s, fs, si, sz⟩ := div_is u wS (by omega) uz bz (by omega)
  have si := div_comp ui bI (by omega) si
  have e1 : (n * 1 - F * d) * 1 = n - F * d := by omega
  have e2 : d * 1 * S = d * S := by rw [Int.mul_one]
  rw [e1, e2] at si
  have hD : 0 < d * S := Int.mul_pos hd (by omega)
  have sg := p_fSign s
  rw [sign_is hD si] at sg
  have cm := p_fCompare s wN
  rw [cmpF_is hD (by decide) si cI, Int.mul_one] at cm
  have fl := p_floor s
  rw [floor_is hD si] at fl
  generalize n - F * d = m at *
  generalize d * S = D at *
  constructor
  · rintro ⟨h0, h1⟩
    have q0 := Int.ediv_nonneg h0 (show 0 ≤ D by omega)
    have q1 : m / D ≤ N - 1 := Int.ediv_le_of_le_mul hD h1
    have fl := fl (by unfold Fits64; omega)
    have mi : min (m / D) ((N : Int) - 2) = min (m / D) ((N : Int) - 2) := rfl
    obtain ⟨i, hi⟩ : ∃ i : Int, i = min (m / D) ((N : Int) - 2) := ⟨_, rfl⟩
    obtain ⟨wi, d1, d2, dz, dw⟩ := p_twhole (n := i) (by unfold Fits64; omega)
    have dI := is_self wi
    rw [d1, d2] at dI
    obtain ⟨r, fr', ri, rz⟩ := sub_ix s wi sz dz (by omega) si dI
    have tr := p_tsub fr'
    rw [Int.mul_one, Int.mul_one] at ri
    rw [← hi]
    refine ⟨r, ri, ⟨Nat.le_trans rz.1 (by omega), Nat.le_trans rz.2 (by omega)⟩, ?_⟩
    have t1 : (cmpI m 0 < 0) = False := by rw [cmpI_neg]; simp; omega
    have t2 : (cmpI m ((N - 1) * D) > 0) = False := by rw [cmpI_pos]; simp; omega
    have hmm : mmP false (.i .i64 (m / D)) [.i .i64 ((N : Int) - 2)] = some (.i .i64 i) := by
      simp only [mmP, if_true, Bool.false_eq_true, if_false]
      congr 2
      split <;> omega
    clear hi mi ri rz si
    generalize m / D = kk at *
    refine pf_run (xf := x_terrain_place) rfl (by simp [x_terrain_place]) ?_
    simp only [x_terrain_place]
    simp (disch := omega) only [go_sem, seval, wqa, wqb, wqc, wqd, wqe]
    refine wk_calmX [4] rfl (by simp only [go_sem, seval]) ?_
    simp (disch := omega) only [go_sem, seval, wqa, wqb, wqc, wqd, wqe, aw, bw, tu, fs]
    refine wk_calmX [11] rfl (by simp only [go_sem, seval]) ?_
    simp (disch := omega) only [go_sem, seval, wqa, wqb, wqc, wqd, wqe, cw, sg, cm, fl, t1, t2, hmm]
    refine wk_calmX [11] rfl (by simp only [go_sem, seval]) ?_
    simp (disch := omega) only [go_sem, seval, wqa, wqb, wqc, wqd, wqe, dw, tr]
  · intro hn
    rw [fqP0]
    refine pf_run (xf := x_terrain_place) rfl (by simp [x_terrain_place]) ?_
    simp only [x_terrain_place]
    by_cases h0 : m < 0
    · have t1 : (cmpI m 0 < 0) = True := by rw [cmpI_neg]; simp [h0]
      simp (disch := omega) only [go_sem, seval, wqa, wqb, wqc, wqd, wqe]
      refine wk_calmX [4] rfl (by simp only [go_sem, seval]) ?_
      simp (disch := omega) only [go_sem, seval, wqa, wqb, wqc, wqd, wqe, aw, bw, tu, fs]
      refine wk_calmX [11] rfl (by simp only [go_sem, seval]) ?_
      simp (disch := omega) only [go_sem, seval, wqa, wqb, wqc, wqd, wqe, sg, t1]
    · have t1 : (cmpI m 0 < 0) = False := by rw [cmpI_neg]; simp [h0]
      have t2 : (cmpI m ((N - 1) * D) > 0) = True := by rw [cmpI_pos]; simp; omega
      simp (disch := omega) only [go_sem, seval, wqa, wqb, wqc, wqd, wqe]
      refine wk_calmX [4] rfl (by simp only [go_sem, seval]) ?_
      simp (disch := omega) only [go_sem, seval, wqa, wqb, wqc, wqd, wqe, aw, bw, tu, fs]
      refine wk_calmX [11] rfl (by simp only [go_sem, seval]) ?_
      simp (disch := omega) only [go_sem, seval, wqa, wqb, wqc, wqd, wqe, cw, sg, cm, t1, t2]
theorem p_place {x : FQ} {n d : Int} (zx : fsz 20 x) (hd : 0 < d) (xi : x.is n d) {F S : Int} {N : Nat} (hF : -4194304 ≤ F ∧ F ≤ 4194304) (hS : 1 ≤ S ∧ S ≤ 65536) (hN : 2 ≤ N ∧ N ≤ 128) :
    (0 ≤ n - F * d ∧ n - F * d ≤ (N - 1) * (d * S) → ∃ r : FQ, r.is (n - F * d - min ((n - F * d) / (d * S)) (N - 2) * (d * S)) (d * S) ∧ fsz 40 r ∧
      pf E0 45 [fqP x, .i .i64 F, .i .i64 S, .i .i64 N] = some (.tu [.i .i64 (min ((n - F * d) / (d * S)) (N - 2)), fqP r, .b true])) ∧
    (¬ (0 ≤ n - F * d ∧ n - F * d ≤ (N - 1) * (d * S)) → pf E0 45 [fqP x, .i .i64 F, .i .i64 S, .i .i64 N] = some (.tu [.i .i64 0, fqP fq0, .b false])) :=
  p_placeG (k := 20) (by decide) zx hd xi hF hS hN
def nbits (k : Nat) : Nat := if k = 0 then 0 else Nat.log2 k + 1
theorem nbits_half {k : Nat} (h : k ≠ 0) : nbits k = nbits (k / 2) + 1 := by
  unfold nbits
  rw [if_neg h]
  by_cases h2 : 2 ≤ k
  · rw [if_neg (by omega), Nat.log2_def k, if_pos h2]
  · have : k = 1 := by omega
    subst this; rfl
theorem nbits_le {k n : Nat} (h : k < 2 ^ n) : nbits k ≤ n := by
  unfold nbits
  split
  · omega
  · rename_i h0
    have := (Nat.log2_lt h0).2 h
    omega
theorem p_pdig (x : WI) (h : x.v.natAbs ≤ 4611686018427387904) : pf E0 63 [wiP x] = some (.i .i64 (nbits x.v.natAbs : Int)) := by
  have nb : nbits x.v.natAbs ≤ 63 := nbits_le (by omega)
  have fin : ∀ (y : WI), y.v = (x.v.natAbs : Int) → pf E0 80 [wiP y] = some (.tu [.i .i64 (x.v.natAbs : Int), .b true]) := fun y hy => by
    have sm := p_Small y
    have s1 : isSmall (x.v.natAbs : Int) = true := by unfold isSmall; exact decide_eq_true ⟨by omega, by omega⟩
    have s2 : small (x.v.natAbs : Int) = (x.v.natAbs : Int) := by unfold small; rw [if_pos s1]
    rw [hy, s1, s2] at sm
    exact sm
  have sg := p_Sign x
  refine pf_run (xf := x_poly_digits) rfl (by simp [x_poly_digits]) ?_
  simp only [x_poly_digits]
  by_cases hn : x.v < 0
  · have t0 : (cmpI x.v 0 < 0) = True := by rw [cmpI_neg]; simp [hn]
    have n1 := p_Neg x
    have sm := fin x.neg (by show -x.v = _; omega)
    generalize x.neg = y at *
    generalize x.v.natAbs = K at *
    simp (disch := omega) only [go_sem, seval, wqa, wqb, wqc, wqd, wqe, sg, t0, n1, sm]
    refine wk_ind x_poly_digits_l1.eq_1 (fun (σ : Nat × Nat) fr M => σ.1 + nbits σ.2 = nbits K ∧ σ.2 ≤ K ∧ fr 3 = (PV.i .i64 ((σ.1 : Nat) : Int)) ∧ fr 4 = (PV.i .i64 ((σ.2 : Nat) : Int))) (fun σ => σ.2) ?_ (0, K) ⟨by simp, Nat.le_refl _, by simp only [go_sem, seval], by simp only [go_sem, seval]⟩
    rintro ⟨n, k⟩ fr M ⟨hs, hk, f3, f4⟩ ih
    simp only at hs hk f3 f4
    by_cases hk0 : k = 0
    · have q1 : ((k : Int) > 0) = False := by simp; omega
      have hN : n = nbits K := by rw [← hs, hk0]; rfl
      rw [← hN]
      simp (disch := omega) only [go_sem, seval, wqa, wqb, wqc, wqd, wqe, f3, f4, q1]
    · have q1 : ((k : Int) > 0) = True := by simp; omega
      have k2 : (k : Int).tdiv 2 = ((k / 2 : Nat) : Int) := nat_tdiv _ 2
      have hh := nbits_half hk0
      simp (disch := omega) only [go_sem, seval, wqa, wqb, wqc, wqd, wqe, f3, f4, q1, k2]
      exact ih (n + 1, k / 2) _ _ (by simp only; omega) ⟨by simp only; omega, by simp only; omega, by simp only [go_sem, seval]; rw [Int.natCast_succ], by simp only [go_sem, seval]⟩
  · have t0 : (cmpI x.v 0 < 0) = False := by rw [cmpI_neg]; simp [hn]
    have sm := fin x (by omega)
    obtain ⟨K, hK⟩ : ∃ K : Nat, K = x.v.natAbs := ⟨_, rfl⟩
    rw [← hK] at sm nb ⊢
    have hKl : K ≤ 4611686018427387904 := by omega
    simp (disch := omega) only [go_sem, seval, wqa, wqb, wqc, wqd, wqe, sg, t0, sm]
    refine wk_ind x_poly_digits_l1.eq_1 (fun (σ : Nat × Nat) fr M => σ.1 + nbits σ.2 = nbits K ∧ σ.2 ≤ K ∧ fr 3 = (PV.i .i64 ((σ.1 : Nat) : Int)) ∧ fr 4 = (PV.i .i64 ((σ.2 : Nat) : Int))) (fun σ => σ.2) ?_ (0, K) ⟨by simp, Nat.le_refl _, by simp only [go_sem, seval], by simp only [go_sem, seval]⟩
    rintro ⟨n, k⟩ fr M ⟨hs, hk, f3, f4⟩ ih
    simp only at hs hk f3 f4
    by_cases hk0 : k = 0
    · have q1 : ((k : Int) > 0) = False := by simp; omega
      have hN : n = nbits K := by rw [← hs, hk0]; rfl
      rw [← hN]
      simp (disch := omega) only [go_sem, seval, wqa, wqb, wqc, wqd, wqe, f3, f4, q1]
    · have q1 : ((k : Int) > 0) = True := by simp; omega
      have k2 : (k : Int).tdiv 2 = ((k / 2 : Nat) : Int) := nat_tdiv _ 2
      have hh := nbits_half hk0
      simp (disch := omega) only [go_sem, seval, wqa, wqb, wqc, wqd, wqe, f3, f4, q1, k2]
      exact ih (n + 1, k / 2) _ _ (by simp only; omega) ⟨by simp only; omega, by simp only; omega, by simp only [go_sem, seval]; rw [Int.natCast_succ], by simp only [go_sem, seval]⟩
theorem p_Digits (x : FQ) (h1 : x.p.v.natAbs ≤ 4611686018427387904) (h2 : x.q.v.natAbs ≤ 4611686018427387904) : pf E0 44 [fqP x] = some (.i .i64 ((max (nbits x.p.v.natAbs) (nbits x.q.v.natAbs) : Nat) : Int)) := by
  have a1 := p_fNum x
  have a2 := p_fDen x
  have d1 := p_pdig x.p h1
  have d2 := p_pdig x.q h2
  generalize nbits x.p.v.natAbs = a at *
  generalize nbits x.q.v.natAbs = b at *
  have hm : mmP true (.i .i64 (a : Int)) [.i .i64 (b : Int)] = some (.i .i64 ((max a b : Nat) : Int)) := by
    simp only [mmP, if_true]
    congr 2
    split <;> omega
  refine pf_run (xf := x_poly_Digits) rfl (by simp [x_poly_Digits]) ?_
  simp only [x_poly_Digits]
  simp (disch := omega) only [go_sem, seval, wqa, wqb, wqc, wqd, wqe]
  refine wk_calmX [1] rfl (by simp only [go_sem, seval]) ?_
  simp (disch := omega) only [go_sem, seval, wqa, wqb, wqc, wqd, wqe, a1, a2, d1, d2, hm]
end Go.Eng
namespace Go.Eng
def outR (most n : Int) : Prop := n < 0 - most ∨ n > most
instance (most n : Int) : Decidable (outR most n) := inferInstanceAs (Decidable (_ ∨ _))
theorem p_wclos {most n : Int} (hm : 0 ≤ most ∧ most ≤ 1152921504606846976) (hn : Fits64 n) : pf E0 47 [.i .i64 n, .fp [.i .i64 most]] = some (.b (decide (outR most n))) := by
  unfold Fits64 at hn
  refine pf_run (xf := x_terrain_within_1) rfl (by simp [x_terrain_within_1]) ?_
  simp only [x_terrain_within_1]
  by_cases h1 : n < 0 - most
  · rw [decide_eq_true (show outR most n from .inl h1)]
    have h1 : (n < 0 - most) = True := eq_true h1
    simp (disch := omega) only [go_sem, seval, wqa, wqb, wqc, wqd, wqe, h1]
  · by_cases h2 : n > most
    · rw [decide_eq_true (show outR most n from .inr h2)]
      have h1 : (n < 0 - most) = False := eq_false h1
      have h2 : (n > most) = True := by simp [h2]
      simp (disch := omega) only [go_sem, seval, wqa, wqb, wqc, wqd, wqe, h1, h2]
    · rw [decide_eq_false (show ¬ outR most n from fun q => q.elim h1 h2)]
      have h1 : (n < 0 - most) = False := eq_false h1
      have h2 : (n > most) = False := by simp [h2]
      simp (disch := omega) only [go_sem, seval, wqa, wqb, wqc, wqd, wqe, h1, h2]
theorem first_ex {P : Nat → Prop} (h : ∃ j, P j) : ∃ j, P j ∧ ∀ i, i < j → ¬ P i := by
  obtain ⟨j, hj⟩ := h
  induction j using Nat.strongRecOn with
  | _ j ih =>
    by_cases q : ∃ i, i < j ∧ P i
    · obtain ⟨i, h1, h2⟩ := q
      exact ih i h1 h2
    · exact ⟨j, hj, fun i hi hp => q ⟨i, hi, hp⟩⟩
theorem p_IndexF {most : Int} (hm : 0 ≤ most ∧ most ≤ 1152921504606846976) {ns : List Int} (hs : Ints ns) : ∃ k : Int, (0 ≤ k ↔ ∃ n ∈ ns, outR most n) ∧ pf E0 69 [ints ns, .fn 47 [.fp [.i .i64 most]]] = some (.i .i64 k) := by
  obtain ⟨l1, l2⟩ := hs
  have key : ∀ k : Int, ((∃ j : Nat, k = (j : Int) ∧ j < ns.length ∧ outR most (ns.getD j 0) ∧ ∀ i, i < j → ¬ outR most (ns.getD i 0)) ∨ (k = -1 ∧ ∀ i, i < ns.length → ¬ outR most (ns.getD i 0))) → pf E0 69 [ints ns, .fn 47 [.fp [.i .i64 most]]] = some (.i .i64 k) := by
    intro k hk
    refine pf_run (xf := x_slices_IndexFunc___int_int_) rfl (by simp [x_slices_IndexFunc___int_int_]) ?_
    simp only [x_slices_IndexFunc___int_int_]
    simp (disch := omega) only [go_sem, seval, wqa, wqb, wqc, wqd, wqe]
    refine wk_ind x_slices_IndexFunc___int_int__l1.eq_1 (fun (j : Nat) fr M => j ≤ ns.length ∧ (∀ i : Nat, k = (i : Int) → j ≤ i) ∧ fr 0 = ints ns ∧ fr 1 = .fn 47 [.fp [.i .i64 most]] ∧ fr 7 = .i .i64 (ns.length : Int) ∧ fr 8 = (PV.i .i64 ((j : Nat) : Int)) ∧ M = []) (fun j => ns.length - j) ?_ 0 ⟨Nat.zero_le _, fun i _ => Nat.zero_le _, by simp only [go_sem, seval], by simp only [go_sem, seval], by simp only [go_sem, seval], by simp only [go_sem, seval], rfl⟩
    rintro j fr M ⟨hj, hlo, f0, f1, f7, f8, rfl⟩ ih
    by_cases hjl : j < ns.length
    · have q1 : ((j : Int) < (ns.length : Int)) = True := by simp; omega
      have hg : ns[j]? = some (ns.getD j 0) := by simp [hjl]
      have cl := p_wclos (n := ns.getD j 0) hm (l2 _ (by simp [hjl]))
      by_cases ho : outR most (ns.getD j 0)
      · rw [decide_eq_true ho] at cl
        have hkj : k = (j : Int) := by
          rcases hk with ⟨i, h1, h2, h3, h4⟩ | ⟨h1, h2⟩
          · have := hlo i h1
            rcases Nat.lt_or_ge j i with q | q
            · exact (h4 j q ho).elim
            · omega
          · exact (h2 j hjl ho).elim
        rw [hkj]
        simp (disch := omega) only [go_sem, seval, wqa, wqb, wqc, wqd, wqe, f0, f1, f7, f8, q1, idxP_ints hg, Int.toNat_natCast, cl]
      · rw [decide_eq_false ho] at cl
        simp (disch := omega) only [go_sem, seval, wqa, wqb, wqc, wqd, wqe, f0, f1, f7, f8, q1, idxP_ints hg, Int.toNat_natCast, cl]
        refine ih (j + 1) _ _ (by omega) ⟨by omega, ?_, by simp only [go_sem, seval, f0], by simp only [go_sem, seval, f1], by simp only [go_sem, seval, f7], by simp only [go_sem, seval]; rw [Int.natCast_succ], rfl⟩
        intro i hi
        have := hlo i hi
        rcases hk with ⟨i', h1, h2, h3, h4⟩ | ⟨h1, h2⟩
        · have : i = i' := by omega
          subst this
          rcases Nat.lt_or_ge j i with q | q
          · omega
          · have : j = i := by omega
            subst this; exact (ho h3).elim
        · omega
    · have q1 : ((j : Int) < (ns.length : Int)) = False := by simp; omega
      have hkm : k = -1 := by
        rcases hk with ⟨i, h1, h2, h3, h4⟩ | ⟨h1, h2⟩
        · have := hlo i h1; omega
        · exact h1
      rw [hkm]
      simp (disch := omega) only [go_sem, seval, wqa, wqb, wqc, wqd, wqe, f7, f8, q1]
  by_cases h : ∃ j : Nat, j < ns.length ∧ outR most (ns.getD j 0)
  · obtain ⟨j, hj1, hj2, hj3⟩ : ∃ j : Nat, j < ns.length ∧ outR most (ns.getD j 0) ∧ ∀ i, i < j → ¬ outR most (ns.getD i 0) := by
      obtain ⟨j, h1, h2⟩ := first_ex h
      exact ⟨j, h1.1, h1.2, fun i hi ho => h2 i hi ⟨by omega, ho⟩⟩
    refine ⟨j, ⟨fun _ => ⟨ns.getD j 0, by simp [hj1], hj2⟩, fun _ => by omega⟩, key _ (.inl ⟨j, rfl, hj1, hj2, hj3⟩)⟩
  · refine ⟨-1, ⟨fun q => by omega, ?_⟩, key _ (.inr ⟨rfl, fun i hi ho => h ⟨i, hi, ho⟩⟩)⟩
    rintro ⟨n, h1, h2⟩
    obtain ⟨i, hi, rfl⟩ := List.getElem_of_mem h1
    exact (h ⟨i, hi, by simpa [hi] using h2⟩).elim
theorem p_within {most : Int} (hm : 0 ≤ most ∧ most ≤ 1152921504606846976) {ns : List Int} (hs : Ints ns) : pf E0 32 [.i .i64 most, ints ns] = some (.b (decide (∀ n ∈ ns, ¬ outR most n))) := by
  obtain ⟨k, h1, h2⟩ := p_IndexF hm hs
  have h3 : pf E0 46 [ints ns, .fn 47 [.fp [.i .i64 most]]] = some (.b (decide (0 ≤ k))) := by
    refine pf_run (xf := x_slices_ContainsFunc___int_int_) rfl (by simp [x_slices_ContainsFunc___int_int_]) ?_
    simp only [x_slices_ContainsFunc___int_int_]
    have e : (k ≥ 0) = (0 ≤ k) := rfl
    simp (disch := omega) only [go_sem, seval, wqa, wqb, wqc, wqd, wqe, h2, e]
  have h4 : decide (∀ n ∈ ns, ¬ outR most n) = !decide (0 ≤ k) := by
    by_cases hk : 0 ≤ k
    · rw [decide_eq_true hk]
      obtain ⟨n, q1, q2⟩ := h1.1 hk
      exact decide_eq_false fun q => q n q1 q2
    · rw [decide_eq_false hk]
      exact decide_eq_true fun n q1 q2 => hk (h1.2 ⟨n, q1, q2⟩)
  rw [h4]
  refine pf_run (xf := x_terrain_within) rfl (by simp [x_terrain_within]) ?_
  simp only [x_terrain_within]
  simp (disch := omega) only [go_sem, seval, wqa, wqb, wqc, wqd, wqe, h3]
end Go.Eng
namespace Go.Eng
structure TerOk (X Y S : Int) (C R : Nat) (hs : List Int) : Prop where
  c : 2 ≤ C ∧ C ≤ 128
  r : 2 ≤ R ∧ R ≤ 128
  s : 1 ≤ S ∧ S ≤ 65536
  x : -1048576 ≤ X ∧ X + (C - 1) * S ≤ 1048576
  y : -1048576 ≤ Y ∧ Y + (R - 1) * S ≤ 1048576
  len : hs.length = C * R
  h : ∀ n ∈ hs, -16384 ≤ n ∧ n ≤ 16384
theorem TerOk.ints {X Y S : Int} {C R : Nat} {hs : List Int} (t : TerOk X Y S C R hs) : Ints hs := by
  refine ⟨?_, fun n hn => ?_⟩
  · have : C * R ≤ 128 * 128 := Nat.mul_le_mul t.c.2 t.r.2
    rw [t.len]; omega
  · have := t.h n hn
    unfold Fits64; omega
theorem intsG2 (a b : Int) : PV.lst (group 1 2 [.i .i64 a, .i .i64 b]) = ints [a, b] := rfl
theorem p_Valid0 {X Y S : Int} {C R : Nat} {hs : List Int} (t : TerOk X Y S C R hs) : pf E0 14 [terP X Y S C R hs] = some (.i .i64 0) := by
  obtain ⟨⟨c1, c2⟩, ⟨r1, r2⟩, ⟨s1, s2⟩, ⟨x1, x2⟩, ⟨y1, y2⟩, hl, hh⟩ := id t
  have m1 : 0 ≤ ((C : Int) - 1) * S := Int.mul_nonneg (by omega) (by omega)
  have m2 : 0 ≤ ((R : Int) - 1) * S := Int.mul_nonneg (by omega) (by omega)
  have hCR : (C : Int) * (R : Int) = ((C * R : Nat) : Int) := by push_cast; rfl
  have hcr : C * R ≤ 128 * 128 := Nat.mul_le_mul c2 r2
  have w1 := p_within (most := 1048576) (by decide) (ns := [X, Y]) ⟨by simp, fun n hn => by
    simp only [List.mem_cons, List.not_mem_nil, or_false] at hn
    unfold Fits64; omega⟩
  have w2 := p_within (most := 1048576) (by decide) (ns := [X + ((C : Int) - 1) * S, Y + ((R : Int) - 1) * S]) ⟨by simp, fun n hn => by
    simp only [List.mem_cons, List.not_mem_nil, or_false] at hn
    unfold Fits64; omega⟩
  have w3 := p_within (most := 16384) (by decide) t.ints
  rw [decide_eq_true (fun n hn => by
    simp only [List.mem_cons, List.not_mem_nil, or_false] at hn
    unfold outR; omega)] at w1
  rw [decide_eq_true (fun n hn => by
    simp only [List.mem_cons, List.not_mem_nil, or_false] at hn
    unfold outR; omega)] at w2
  rw [decide_eq_true (fun n hn => by have := hh n hn; unfold outR; omega)] at w3
  have g1 : mmP false (.i .i64 (C : Int)) [.i .i64 (R : Int)] = some (.i .i64 ((min C R : Nat) : Int)) := by
    simp only [mmP, if_true, Bool.false_eq_true, if_false]
    congr 2
    split <;> omega
  have g2 : mmP true (.i .i64 (C : Int)) [.i .i64 (R : Int)] = some (.i .i64 ((max C R : Nat) : Int)) := by
    simp only [mmP, if_true]
    congr 2
    split <;> omega
  have t1 : (((min C R : Nat) : Int) < 2) = False := by simp; omega
  have t2 : (((max C R : Nat) : Int) > 128) = False := by simp; omega
  have t3 : (S < 1) = False := by simp; omega
  have t4 : (S > 65536) = False := by simp; omega
  have t5 : ((hs.length : Int) = (C : Int) * (R : Int)) = True := eq_true (by rw [hCR, hl])
  have b1 : ((C : Int) - 1) * S ≤ 127 * 65536 := Int.mul_le_mul (by omega) (by omega) (by omega) (by omega)
  have b2 : ((R : Int) - 1) * S ≤ 127 * 65536 := Int.mul_le_mul (by omega) (by omega) (by omega) (by omega)
  refine pf_run (xf := x_terrain_Valid) rfl (by simp [x_terrain_Valid]) ?_
  simp only [x_terrain_Valid]
  simp (disch := omega) only [go_sem, seval, wqa, wqb, wqc, wqd, wqe, g1, g2, t1, t2, t3, t4, t5, intsG2, w1, w2, w3, fill_C, fillC_def]
end Go.Eng
namespace Go.Eng
def arr4 (a b c d : Int) : PV := .ag [.i .i64 a, .i .i64 b, .i .i64 c, .i .i64 d]
@[go_sem] theorem fz_arr4 (M : PM) (e : Nat) (a b c d : Int) : fz M (e + 1 + 1) (arr4 a b c d) = some (arr4 a b c d, []) := _root_.id rfl
@[go_sem] theorem cells_arr4 (a b c d : Int) : (arr4 a b c d).cells = [.i .i64 a, .i .i64 b, .i .i64 c, .i .i64 d] := _root_.id rfl
@[go_sem] theorem fold_arr4 (a b c d : Int) : PV.ag [.i .i64 a, .i .i64 b, .i .i64 c, .i .i64 d] = arr4 a b c d := _root_.id rfl
def formV (hs : List Int) (C i j : Int) : PV := arr4 (f0V hs C i j) (f1V hs C i j) (f2V hs C i j) (f3V hs C i j)
theorem ez_ints (hs : List Int) : ez 1 (hs.map fun n => PV.i .i64 n) = true := by
  unfold ez
  simp [List.all_map, PV.cells]
theorem slP_ints {hs : List Int} {k : Nat} (hk : k ≤ hs.length) : slP 1 (ints hs) (some (.i .i64 (k : Int))) none none = some (ints (hs.drop k)) := by
  unfold ints
  have e := ez_ints hs
  simp [slP, optP, asNP_nat, e, hk]
  rw [List.take_of_length_le (by simp)]
theorem node_at {X Y S : Int} {C R : Nat} {hs : List Int} (t : TerOk X Y S C R hs) {i j : Nat} (hi : i < C) (hj : j < R) : j * C + i < hs.length := by
  rw [t.len]
  have : j * C + C ≤ R * C := by
    have : (j + 1) * C ≤ R * C := Nat.mul_le_mul_right C (by omega)
    rw [Nat.add_mul, Nat.one_mul] at this; exact this
  rw [Nat.mul_comm C R]; omega
theorem hAt_b {X Y S : Int} {C R : Nat} {hs : List Int} (t : TerOk X Y S C R hs) {k : Nat} (hk : k < hs.length) : -16384 ≤ hs.getD k 0 ∧ hs.getD k 0 ≤ 16384 := t.h _ (by simp [hk])
theorem get_some {hs : List Int} {k : Nat} (hk : k < hs.length) : hs[k]? = some (hs.getD k 0) := by simp [hk]
theorem p_tform {X Y S : Int} {C R : Nat} {hs : List Int} (t : TerOk X Y S C R hs) {i j : Nat} (hi : i + 1 < C) (hj : j + 1 < R) : pf E0 15 [terP X Y S C R hs, .i .i64 i, .i .i64 j] = some (formV hs C i j) := by
  have n1 := node_at t (i := i) (j := j) (by omega) (by omega)
  have n2 := node_at t (i := i + 1) (j := j) hi (by omega)
  have n3 := node_at t (i := i) (j := j + 1) (by omega) hj
  have n4 := node_at t (i := i + 1) (j := j + 1) hi hj
  have e1 : (j : Int) * (C : Int) + (i : Int) = ((j * C + i : Nat) : Int) := by push_cast; rfl
  have e2 : ((j : Int) + 1) * (C : Int) + (i : Int) = (((j + 1) * C + i : Nat) : Int) := by push_cast; rfl
  have v0 : f0V hs C i j = hs.getD (j * C + i) 0 := by unfold f0V; rw [e1]; rfl
  have v1 : f1V hs C i j = hs.getD (j * C + i + 1) 0 - hs.getD (j * C + i) 0 := by
    unfold f1V; rw [e1, show ((j * C + i : Nat) : Int) + 1 = ((j * C + i + 1 : Nat) : Int) by omega]; rfl
  have v2 : f2V hs C i j = hs.getD ((j + 1) * C + i) 0 - hs.getD (j * C + i) 0 := by unfold f2V; rw [e1, e2]; rfl
  have v3 : f3V hs C i j = hs.getD ((j + 1) * C + i + 1) 0 - hs.getD ((j + 1) * C + i) 0 - hs.getD (j * C + i + 1) 0 + hs.getD (j * C + i) 0 := by
    unfold f3V; rw [e1, e2, show ((j * C + i : Nat) : Int) + 1 = ((j * C + i + 1 : Nat) : Int) by omega, show (((j + 1) * C + i : Nat) : Int) + 1 = (((j + 1) * C + i + 1 : Nat) : Int) by omega]; rfl
  have b1 := hAt_b t n1
  have b2 := hAt_b t (k := j * C + i + 1) n2
  have b3 := hAt_b t n3
  have b4 := hAt_b t (k := (j + 1) * C + i + 1) n4
  have g1 : (hs.drop (j * C + i))[0]? = some (hs.getD (j * C + i) 0) := by rw [List.getElem?_drop]; exact get_some n1
  have g2 : (hs.drop (j * C + i))[1]? = some (hs.getD (j * C + i + 1) 0) := by rw [List.getElem?_drop]; exact get_some n2
  have g3 : (hs.drop ((j + 1) * C + i))[0]? = some (hs.getD ((j + 1) * C + i) 0) := by rw [List.getElem?_drop]; exact get_some n3
  have g4 : (hs.drop ((j + 1) * C + i))[1]? = some (hs.getD ((j + 1) * C + i + 1) 0) := by rw [List.getElem?_drop]; exact get_some n4
  have s1 := slP_ints (hs := hs) (k := j * C + i) (by omega)
  have s2 := slP_ints (hs := hs) (k := (j + 1) * C + i) (by omega)
  have hl : hs.length ≤ 16384 := by
    have : C * R ≤ 128 * 128 := Nat.mul_le_mul t.c.2 t.r.2
    rw [t.len]; omega
  have hc := t.c
  have hr := t.r
  have p1 : (j : Int) * (C : Int) ≤ 16384 := by omega
  have p0 : 0 ≤ (j : Int) * (C : Int) := Int.mul_nonneg (by omega) (by omega)
  have p2 : ((j : Int) + 1) * (C : Int) ≤ 16600 := by rw [Int.add_mul, Int.one_mul]; omega
  have p3 : 0 ≤ ((j : Int) + 1) * (C : Int) := Int.mul_nonneg (by omega) (by omega)
  unfold formV
  rw [v0, v1, v2, v3]
  generalize hs.getD (j * C + i + 1) 0 = z2 at *
  generalize hs.getD (j * C + i) 0 = z1 at *
  generalize hs.getD ((j + 1) * C + i + 1) 0 = z4 at *
  generalize hs.getD ((j + 1) * C + i) 0 = z3 at *
  refine pf_run (xf := x_terrain_form) rfl (by simp [x_terrain_form]) ?_
  simp only [x_terrain_form]
  simp (disch := omega) only [go_sem, seval, wqa, wqb, wqc, wqd, wqe, e1, e2, s1, s2, idxP_ints g1, idxP_ints g2, idxP_ints g3, idxP_ints g4]
theorem p_tForm {X Y S : Int} {C R : Nat} {hs : List Int} (t : TerOk X Y S C R hs) {i j : Nat} (hi : i + 1 < C) (hj : j + 1 < R) : pf E0 3 [terP X Y S C R hs, .i .i64 i, .i .i64 j] = some (.tu [formV hs C i j, .i .i64 0]) := by
  have hv := p_Valid0 t
  have hf := p_tform t hi hj
  obtain ⟨a, b, c, d, he⟩ : ∃ a b c d, formV hs C i j = arr4 a b c d := ⟨_, _, _, _, rfl⟩
  rw [he] at hf ⊢
  have hc := t.c
  have hr := t.r
  have t1 : ((if (j : Int) < (i : Int) then (j : Int) else (i : Int)) < 0) = False := eq_false (by split <;> omega)
  have t2 : ((i : Int) > (C : Int) - 2) = False := by simp; omega
  have t3 : ((j : Int) > (R : Int) - 2) = False := by simp; omega
  refine pf_run (xf := x_terrain_Form) rfl (by simp [x_terrain_Form]) ?_
  simp only [x_terrain_Form]
  simp (disch := omega) only [go_sem, seval, wqa, wqb, wqc, wqd, wqe, hv, hf, t1, t2, t3]
end Go.Eng
namespace Go.Eng
noncomputable def spotP (i j : Int) (p q : FQ) : PV := .ag [.i .i64 i, .i .i64 j, .b (decide (p.p.v < 0)), D p.p.v.natAbs, .b (decide (p.l.v < 0)), D p.l.v.natAbs, .b (decide (q.p.v < 0)), D q.p.v.natAbs, .b (decide (q.l.v < 0)), D q.l.v.natAbs]
@[go_sem] theorem fz_spotP (M : PM) (e : Nat) (i j : Int) (p q : FQ) : fz M (e + 1 + 1) (spotP i j p q) = some (spotP i j p q, []) := _root_.id rfl
@[go_sem] theorem cells_spotP (i j : Int) (p q : FQ) : (spotP i j p q).cells = [.i .i64 i, .i .i64 j, .b (decide (p.p.v < 0)), D p.p.v.natAbs, .b (decide (p.l.v < 0)), D p.l.v.natAbs, .b (decide (q.p.v < 0)), D q.p.v.natAbs, .b (decide (q.l.v < 0)), D q.l.v.natAbs] := _root_.id rfl
@[go_sem] theorem fold_spot (i j : Int) (p q : FQ) : PV.ag [.i .i64 i, .i .i64 j, .b (decide (p.p.v < 0)), D p.p.v.natAbs, .b (decide (p.l.v < 0)), D p.l.v.natAbs, .b (decide (q.p.v < 0)), D q.p.v.natAbs, .b (decide (q.l.v < 0)), D q.l.v.natAbs] = spotP i j p q := _root_.id rfl
theorem spot0 : spotP 0 0 fq0 fq0 = .ag [.i .i64 0, .i .i64 0, .b false, .lst [], .b false, .lst [], .b false, .lst [], .b false, .lst []] := by
  have h := fqP0
  unfold fqP at h
  injection h with h
  injection h with h1 h
  injection h with h2 h
  injection h with h3 h
  injection h with h4 _
  unfold spotP
  rw [h1, h2, h3, h4]
def few (x : FQ) : Prop := x.p.v.natAbs ≤ 4611686018427387904 ∧ x.q.v.natAbs ≤ 4611686018427387904
theorem p_find {X Y S : Int} {C R : Nat} {hs : List Int} (t : TerOk X Y S C R hs) {x y : FQ} (hx : few x) (hy : few y) {i j : Int} {p q : FQ}
    (px : pf E0 45 [fqP x, .i .i64 X, .i .i64 S, .i .i64 C] = some (.tu [.i .i64 i, fqP p, .b true])) (py : pf E0 45 [fqP y, .i .i64 Y, .i .i64 S, .i .i64 R] = some (.tu [.i .i64 j, fqP q, .b true])) :
    pf E0 25 [terP X Y S C R hs, fqP x, fqP y] = some (.tu [spotP i j p q, .i .i64 0]) := by
  have hv := p_Valid0 t
  have d1 := p_Digits x hx.1 hx.2
  have d2 := p_Digits y hy.1 hy.2
  have l1 : max (nbits x.p.v.natAbs) (nbits x.q.v.natAbs) ≤ 63 := by
    have := nbits_le (k := x.p.v.natAbs) (n := 63) (by have := hx.1; omega)
    have := nbits_le (k := x.q.v.natAbs) (n := 63) (by have := hx.2; omega)
    omega
  have l2 : max (nbits y.p.v.natAbs) (nbits y.q.v.natAbs) ≤ 63 := by
    have := nbits_le (k := y.p.v.natAbs) (n := 63) (by have := hy.1; omega)
    have := nbits_le (k := y.q.v.natAbs) (n := 63) (by have := hy.2; omega)
    omega
  generalize max (nbits x.p.v.natAbs) (nbits x.q.v.natAbs) = a at *
  generalize max (nbits y.p.v.natAbs) (nbits y.q.v.natAbs) = b at *
  have t1 : ((if (b : Int) > (a : Int) then (b : Int) else (a : Int)) > 1024) = False := eq_false (by split <;> omega)
  refine pf_run (xf := x_terrain_find) rfl (by simp [x_terrain_find]) ?_
  simp only [x_terrain_find]
  simp (disch := omega) only [go_sem, seval, wqa, wqb, wqc, wqd, wqe, hv]
  refine wk_calmX [5] rfl (by simp only [go_sem, seval]) ?_
  simp (disch := omega) only [go_sem, seval, wqa, wqb, wqc, wqd, wqe, d1, d2, t1, px, py, fill_C, fillC_def]
theorem p_findO {X Y S : Int} {C R : Nat} {hs : List Int} (t : TerOk X Y S C R hs) {x y : FQ} (hx : few x) (hy : few y) {i j : Int} {p q : FQ} {bx by_ : Bool} (hb : bx = false ∨ by_ = false)
    (px : pf E0 45 [fqP x, .i .i64 X, .i .i64 S, .i .i64 C] = some (.tu [.i .i64 i, fqP p, .b bx])) (py : pf E0 45 [fqP y, .i .i64 Y, .i .i64 S, .i .i64 R] = some (.tu [.i .i64 j, fqP q, .b by_])) :
    pf E0 25 [terP X Y S C R hs, fqP x, fqP y] = some (.tu [spotP 0 0 fq0 fq0, .i .i64 15]) := by
  have hv := p_Valid0 t
  have d1 := p_Digits x hx.1 hx.2
  have d2 := p_Digits y hy.1 hy.2
  have l1 : max (nbits x.p.v.natAbs) (nbits x.q.v.natAbs) ≤ 63 := by
    have := nbits_le (k := x.p.v.natAbs) (n := 63) (by have := hx.1; omega)
    have := nbits_le (k := x.q.v.natAbs) (n := 63) (by have := hx.2; omega)
    omega
  have l2 : max (nbits y.p.v.natAbs) (nbits y.q.v.natAbs) ≤ 63 := by
    have := nbits_le (k := y.p.v.natAbs) (n := 63) (by have := hy.1; omega)
    have := nbits_le (k := y.q.v.natAbs) (n := 63) (by have := hy.2; omega)
    omega
  generalize max (nbits x.p.v.natAbs) (nbits x.q.v.natAbs) = a at *
  generalize max (nbits y.p.v.natAbs) (nbits y.q.v.natAbs) = b at *
  have t1 : ((if (b : Int) > (a : Int) then (b : Int) else (a : Int)) > 1024) = False := eq_false (by split <;> omega)
  rw [spot0]
  refine pf_run (xf := x_terrain_find) rfl (by simp [x_terrain_find]) ?_
  simp only [x_terrain_find]
  cases bx
  · simp (disch := omega) only [go_sem, seval, wqa, wqb, wqc, wqd, wqe, hv]
    refine wk_calmX [5] rfl (by simp only [go_sem, seval]) ?_
    simp (disch := omega) only [go_sem, seval, wqa, wqb, wqc, wqd, wqe, d1, d2, t1, px, py]
  · obtain rfl : by_ = false := by simpa using hb
    simp (disch := omega) only [go_sem, seval, wqa, wqb, wqc, wqd, wqe, hv]
    refine wk_calmX [5] rfl (by simp only [go_sem, seval]) ?_
    simp (disch := omega) only [go_sem, seval, wqa, wqb, wqc, wqd, wqe, d1, d2, t1, px, py]
theorem p_HeightO {X Y S : Int} {C R : Nat} {hs : List Int} {x y : FQ} {s : PV} {e : Int} (he : e ≠ 0) (hs' : ∃ i j p q, s = spotP i j p q) (hf : pf E0 25 [terP X Y S C R hs, fqP x, fqP y] = some (.tu [s, .i .i64 e])) :
    pf E0 10 [terP X Y S C R hs, fqP x, fqP y] = some (.tu [fqP fq0, .i .i64 e]) := by
  obtain ⟨i, j, p, q, rfl⟩ := hs'
  have he : (e = 0) = False := by simp [he]
  rw [fqP0]
  refine pf_run (xf := x_terrain_Height) rfl (by simp [x_terrain_Height]) ?_
  simp only [x_terrain_Height]
  simp (disch := omega) only [go_sem, seval, wqa, wqb, wqc, wqd, wqe, hf, he]
end Go.Eng
namespace Go.Eng
theorem height_ex {k : Nat} (hk : k ≤ 500) {p q : FQ} (zp : fsz k p) (zq : fsz 40 q) {u D v E : Int} (hD : D ≠ 0) (hE : E ≠ 0) (pi : p.is u D) (qi : q.is v E) {f0 f1 f2 f3 : Int} (h0 : Fits64 f0) (h1 : Fits64 f1) (h2 : Fits64 f2) (h3 : Fits64 f3) :
    ∃ w0 w1 w2 w3 m1 lo m3 sl m h : FQ, pf E0 27 [.i .i64 f0] = some (fqP w0) ∧ pf E0 27 [.i .i64 f1] = some (fqP w1) ∧ pf E0 27 [.i .i64 f2] = some (fqP w2) ∧ pf E0 27 [.i .i64 f3] = some (fqP w3) ∧
      pf E0 28 [fqP w1, fqP p] = some (fqP m1) ∧ pf E0 26 [fqP w0, fqP m1] = some (fqP lo) ∧ pf E0 28 [fqP w3, fqP p] = some (fqP m3) ∧ pf E0 26 [fqP w2, fqP m3] = some (fqP sl) ∧ pf E0 28 [fqP sl, fqP q] = some (fqP m) ∧ pf E0 26 [fqP lo, fqP m] = some (fqP h) ∧
      h.is (bil f0 f1 f2 f3 u D v E) (D * E) ∧ fsz (2 * k + 70) h := by
  obtain ⟨w0, a0, b0, z0, g0⟩ := p_twhole h0
  obtain ⟨w1, a1, b1, z1, g1⟩ := p_twhole h1
  obtain ⟨w2, a2, b2, z2, g2⟩ := p_twhole h2
  obtain ⟨w3, a3, b3, z3, g3⟩ := p_twhole h3
  have i0 := is_self w0
  have i1 := is_self w1
  have i2 := is_self w2
  have i3 := is_self w3
  rw [a0, b0] at i0
  rw [a1, b1] at i1
  rw [a2, b2] at i2
  rw [a3, b3] at i3
  obtain ⟨m1, c1, j1, y1⟩ := mul_ix w1 p z1 zp (by omega) i1 pi
  obtain ⟨lo, c2, j2, y2⟩ := add_ix w0 m1 z0 y1 (by omega) i0 j1
  obtain ⟨m3, c3, j3, y3⟩ := mul_ix w3 p z3 zp (by omega) i3 pi
  obtain ⟨sl, c4, j4, y4⟩ := add_ix w2 m3 z2 y3 (by omega) i2 j3
  obtain ⟨m, c5, j5, y5⟩ := mul_ix sl q y4 zq (by omega) j4 qi
  obtain ⟨h, c6, j6, y6⟩ := add_ix lo m y2 y5 (by omega) j2 j5
  refine ⟨w0, w1, w2, w3, m1, lo, m3, sl, m, h, g0, g1, g2, g3, p_tmul c1, p_tadd c2, p_tmul c3, p_tadd c4, p_tmul c5, p_tadd c6, ?_, Nat.le_trans y6.1 (by omega), Nat.le_trans y6.2 (by omega)⟩
  refine is_conv ?_ j6 ?_
  · refine Int.mul_ne_zero ?_ ?_
    · rw [Int.one_mul, Int.one_mul]; exact hD
    · rw [Int.one_mul, Int.one_mul]; exact Int.mul_ne_zero hD hE
  · unfold bil; grind
theorem hAt_all {X Y S : Int} {C R : Nat} {hs : List Int} (t : TerOk X Y S C R hs) (k : Int) : -16384 ≤ hAt hs k ∧ hAt hs k ≤ 16384 := by
  unfold hAt
  by_cases h : k.toNat < hs.length
  · exact hAt_b t h
  · have : hs.getD k.toNat 0 = 0 := by simp [List.getD, List.getElem?_eq_none (Nat.le_of_not_lt h)]
    rw [this]; omega
theorem p_HeightG {k : Nat} (hk : k ≤ 500) {X Y S : Int} {C R : Nat} {hs : List Int} (t : TerOk X Y S C R hs) {x y : FQ} {i j : Nat} (hi : i + 1 < C) (hj : j + 1 < R) {p q : FQ} (zp : fsz k p) (zq : fsz 40 q) {u D v E : Int} (hD : D ≠ 0) (hE : E ≠ 0) (pi : p.is u D) (qi : q.is v E)
    (hf : pf E0 25 [terP X Y S C R hs, fqP x, fqP y] = some (.tu [spotP i j p q, .i .i64 0])) : ∃ h : FQ, pf E0 10 [terP X Y S C R hs, fqP x, fqP y] = some (.tu [fqP h, .i .i64 0]) ∧ h.is (bilV hs C i j u D v E) (D * E) ∧ fsz (2 * k + 70) h := by
  have b := hAt_all t
  have b1 := b ((j : Int) * C + i)
  have b2 := b ((j : Int) * C + i + 1)
  have b3 := b (((j : Int) + 1) * C + i)
  have b4 := b (((j : Int) + 1) * C + i + 1)
  obtain ⟨w0, w1, w2, w3, m1, lo, m3, sl, m, h, g0, g1, g2, g3, c1, c2, c3, c4, c5, c6, hi', hz⟩ := height_ex hk zp zq hD hE pi qi (f0 := f0V hs C i j) (f1 := f1V hs C i j) (f2 := f2V hs C i j) (f3 := f3V hs C i j)
    (by unfold Fits64 f0V; omega) (by unfold Fits64 f1V; omega) (by unfold Fits64 f2V; omega) (by unfold Fits64 f3V; omega)
  have tf := p_tform t hi hj
  have tf : pf E0 15 [terP X Y S C R hs, .i .i64 i, .i .i64 j] = some (arr4 (f0V hs C i j) (f1V hs C i j) (f2V hs C i j) (f3V hs C i j)) := tf
  refine ⟨h, ?_, hi', hz⟩
  clear hi'
  generalize f0V hs C i j = f0 at *
  generalize f1V hs C i j = f1 at *
  generalize f2V hs C i j = f2 at *
  generalize f3V hs C i j = f3 at *
  refine pf_run (xf := x_terrain_Height) rfl (by simp [x_terrain_Height]) ?_
  simp only [x_terrain_Height]
  simp (disch := omega) only [go_sem, seval, wqa, wqb, wqc, wqd, wqe, hf, tf]
  refine wk_calmR [33, 36] rfl ?_ ?_
  · simp (disch := omega) only [go_sem, seval, wqa, wqb, wqc, wqd, wqe, g0, g1, c1, c2]
    exact ⟨_, rfl, rfl⟩
  simp (disch := omega) only [go_sem, seval, wqa, wqb, wqc, wqd, wqe, g0, g1, c1, c2]
  refine wk_calmR [43, 46] rfl ?_ ?_
  · simp (disch := omega) only [go_sem, seval, wqa, wqb, wqc, wqd, wqe, g2, g3, c3, c4]
    exact ⟨_, rfl, rfl⟩
  simp (disch := omega) only [go_sem, seval, wqa, wqb, wqc, wqd, wqe, g2, g3, c3, c4]
  refine wk_calmX [11] rfl (by simp only [go_sem, seval]) ?_
  simp (disch := omega) only [go_sem, seval, wqa, wqb, wqc, wqd, wqe, c5, c6]
theorem p_HeightR {X Y S : Int} {C R : Nat} {hs : List Int} (t : TerOk X Y S C R hs) {x y : FQ} {i j : Nat} (hi : i + 1 < C) (hj : j + 1 < R) {p q : FQ} (zp : fsz 40 p) (zq : fsz 40 q) {u D v E : Int} (hD : D ≠ 0) (hE : E ≠ 0) (pi : p.is u D) (qi : q.is v E)
    (hf : pf E0 25 [terP X Y S C R hs, fqP x, fqP y] = some (.tu [spotP i j p q, .i .i64 0])) : ∃ h : FQ, pf E0 10 [terP X Y S C R hs, fqP x, fqP y] = some (.tu [fqP h, .i .i64 0]) ∧ h.is (bilV hs C i j u D v E) (D * E) ∧ fsz 150 h :=
  p_HeightG (k := 40) (by decide) t hi hj zp zq hD hE pi qi hf
theorem p_HeightAt {X Y S : Int} {C R : Nat} {hs : List Int} (t : TerOk X Y S C R hs) {x y : FQ} (hx : few x) (hy : few y) (zx : fsz 20 x) (zy : fsz 20 y) {xn xd yn yd : Int} (dx : 0 < xd) (dy : 0 < yd) (xi : x.is xn xd) (yi : y.is yn yd)
    {i j : Nat} (hi : i + 1 < C) (hj : j + 1 < R) (x1 : (i : Int) * (xd * S) ≤ xn - X * xd) (x2 : xn - X * xd ≤ ((i : Int) + 1) * (xd * S)) (y1 : (j : Int) * (yd * S) ≤ yn - Y * yd) (y2 : yn - Y * yd ≤ ((j : Int) + 1) * (yd * S)) :
    ∃ h : FQ, pf E0 10 [terP X Y S C R hs, fqP x, fqP y] = some (.tu [fqP h, .i .i64 0]) ∧
      h.is (bilV hs C i j (xn - X * xd - i * (xd * S)) (xd * S) (yn - Y * yd - j * (yd * S)) (yd * S)) (xd * S * (yd * S)) ∧ fsz 150 h := by
  have hS := t.s
  have hc := t.c
  have hr := t.r
  have tx := t.x
  have ty := t.y
  have m1 : 0 ≤ ((C : Int) - 1) * S := Int.mul_nonneg (by omega) (by omega)
  have m2 : 0 ≤ ((R : Int) - 1) * S := Int.mul_nonneg (by omega) (by omega)
  have hD : 0 < xd * S := Int.mul_pos dx (by omega)
  have hE : 0 < yd * S := Int.mul_pos dy (by omega)
  have pX := (p_place zx dx xi (F := X) (S := S) (N := C) (by omega) hS hc).1
  have pY := (p_place zy dy yi (F := Y) (S := S) (N := R) (by omega) hS hr).1
  generalize xn - X * xd = u at *
  generalize yn - Y * yd = v at *
  generalize xd * S = D at *
  generalize yd * S = E at *
  have q1 : 0 ≤ (i : Int) * D := Int.mul_nonneg (by omega) (by omega)
  have q2 : 0 ≤ (j : Int) * E := Int.mul_nonneg (by omega) (by omega)
  have q3 : ((i : Int) + 1) * D ≤ ((C : Int) - 1) * D := Int.mul_le_mul_of_nonneg_right (by omega) (by omega)
  have q4 : ((j : Int) + 1) * E ≤ ((R : Int) - 1) * E := Int.mul_le_mul_of_nonneg_right (by omega) (by omega)
  obtain ⟨p, pi, zp, fp⟩ := pX ⟨by omega, by omega⟩
  obtain ⟨q, qi, zq, fq⟩ := pY ⟨by omega, by omega⟩
  have kx : ∃ iN : Nat, (iN : Int) = min (u / D) ((C : Int) - 2) ∧ iN + 1 < C ∧ ∀ jj c d : Int, bilV hs C iN jj (u - iN * D) D c d = bilV hs C i jj (u - i * D) D c d := by
    rcases facet_pick (N := C) hD hc.1 (i := (i : Int)) (by omega) (by omega) x1 x2 with h | ⟨h, hu⟩
    · exact ⟨i, h.symm, hi, fun jj c d => rfl⟩
    · refine ⟨i + 1, by rw [h]; push_cast; rfl, by omega, fun jj c d => ?_⟩
      have e1 : u - ((i + 1 : Nat) : Int) * D = 0 := by rw [hu]; push_cast; omega
      have e2 : u - (i : Int) * D = D := by rw [hu, Int.add_mul, Int.one_mul]; omega
      rw [e1, e2, bil_right]; push_cast; rfl
  have ky : ∃ jN : Nat, (jN : Int) = min (v / E) ((R : Int) - 2) ∧ jN + 1 < R ∧ ∀ ii a b : Int, bilV hs C ii jN a b (v - jN * E) E = bilV hs C ii j a b (v - j * E) E := by
    rcases facet_pick (N := R) hE hr.1 (i := (j : Int)) (by omega) (by omega) y1 y2 with h | ⟨h, hu⟩
    · exact ⟨j, h.symm, hj, fun jj c d => rfl⟩
    · refine ⟨j + 1, by rw [h]; push_cast; rfl, by omega, fun ii a b => ?_⟩
      have e1 : v - ((j + 1 : Nat) : Int) * E = 0 := by rw [hu]; push_cast; omega
      have e2 : v - (j : Int) * E = E := by rw [hu, Int.add_mul, Int.one_mul]; omega
      rw [e1, e2, bil_up]; push_cast; rfl
  obtain ⟨iN, hiN, hiC, bx⟩ := kx
  obtain ⟨jN, hjN, hjR, by_⟩ := ky
  rw [← hiN] at fp pi
  rw [← hjN] at fq qi
  have hfind := p_find t hx hy fp fq
  obtain ⟨h, fh, hh, hz⟩ := p_HeightR t hiC hjR zp zq (by omega) (by omega) pi qi hfind
  rw [bx, by_] at hh
  exact ⟨h, fh, hh, hz⟩
theorem p_HeightOut {X Y S : Int} {C R : Nat} {hs : List Int} (t : TerOk X Y S C R hs) {x y : FQ} (hx : few x) (hy : few y) (zx : fsz 20 x) (zy : fsz 20 y) {xn xd yn yd : Int} (dx : 0 < xd) (dy : 0 < yd) (xi : x.is xn xd) (yi : y.is yn yd)
    (ho : ¬ (0 ≤ xn - X * xd ∧ xn - X * xd ≤ ((C : Int) - 1) * (xd * S)) ∨ ¬ (0 ≤ yn - Y * yd ∧ yn - Y * yd ≤ ((R : Int) - 1) * (yd * S))) : pf E0 10 [terP X Y S C R hs, fqP x, fqP y] = some (.tu [fqP fq0, .i .i64 15]) := by
  have hS := t.s
  have hc := t.c
  have hr := t.r
  have tx := t.x
  have ty := t.y
  have m1 : 0 ≤ ((C : Int) - 1) * S := Int.mul_nonneg (by omega) (by omega)
  have m2 : 0 ≤ ((R : Int) - 1) * S := Int.mul_nonneg (by omega) (by omega)
  have pX := p_place zx dx xi (F := X) (S := S) (N := C) (by omega) hS hc
  have pY := p_place zy dy yi (F := Y) (S := S) (N := R) (by omega) hS hr
  have kx : ∃ (i : Int) (p : FQ) (b : Bool), pf E0 45 [fqP x, .i .i64 X, .i .i64 S, .i .i64 C] = some (.tu [.i .i64 i, fqP p, .b b]) ∧ (¬ (0 ≤ xn - X * xd ∧ xn - X * xd ≤ ((C : Int) - 1) * (xd * S)) → b = false) := by
    by_cases h : 0 ≤ xn - X * xd ∧ xn - X * xd ≤ ((C : Int) - 1) * (xd * S)
    · obtain ⟨p, _, _, fp⟩ := pX.1 h
      exact ⟨_, p, true, fp, fun q => (q h).elim⟩
    · exact ⟨0, fq0, false, pX.2 h, fun _ => rfl⟩
  have ky : ∃ (i : Int) (p : FQ) (b : Bool), pf E0 45 [fqP y, .i .i64 Y, .i .i64 S, .i .i64 R] = some (.tu [.i .i64 i, fqP p, .b b]) ∧ (¬ (0 ≤ yn - Y * yd ∧ yn - Y * yd ≤ ((R : Int) - 1) * (yd * S)) → b = false) := by
    by_cases h : 0 ≤ yn - Y * yd ∧ yn - Y * yd ≤ ((R : Int) - 1) * (yd * S)
    · obtain ⟨p, _, _, fp⟩ := pY.1 h
      exact ⟨_, p, true, fp, fun q => (q h).elim⟩
    · exact ⟨0, fq0, false, pY.2 h, fun _ => rfl⟩
  obtain ⟨i, p, b, fp, hb⟩ := kx
  obtain ⟨j, q, c, fq, hc'⟩ := ky
  have hf := p_findO t hx hy (ho.imp hb hc') fp fq
  exact p_HeightO (by decide) ⟨_, _, _, _, rfl⟩ hf
end Go.Eng
namespace Go.Eng
def hgtN (n : Nat) : Int := (((if n % 3 = 0 then 0 else n) % 90 : Nat) : Int) - 20
def hgtV (xs : List Int) (i : Nat) : Int := hgtN (pick xs (5 + (i : Int)) 1000).toNat
theorem hgtN_b (n : Nat) : -20 ≤ hgtN n ∧ hgtN n ≤ 69 := by
  unfold hgtN
  have := Nat.mod_lt (if n % 3 = 0 then 0 else n) (show 0 < 90 by decide)
  omega
def hgtL (xs : List Int) (i : Nat) : List PV := ((List.range i).map (hgtV xs)).map fun n => PV.i .i64 n
theorem hgtL_succ (xs : List Int) (i : Nat) : hgtL xs (i + 1) = hgtL xs i ++ [.i .i64 (hgtV xs i)] := by unfold hgtL; rw [List.range_succ, List.map_append, List.map_append]; rfl
theorem hgtL_len (xs : List Int) (i : Nat) : (hgtL xs i).length = i := by unfold hgtL; simp
theorem ap_nil1 (b0 b1 : Option PB) (w : PV) : appP [b0, b1, some ⟨[w], true, 0⟩] 1 8 .nl (.sl 2 0 1 1 1) = some (.sl 3 0 1 1 1, [b0, b1, some ⟨[w], true, 0⟩, some ⟨[w], true, 0⟩]) := rfl
theorem ap_G (b0 b1 : Option PB) (G : PM) (L : List PV) (w : PV) {i : Nat} (hl : L.length = i) (hi : i ≤ 100) (h0 : 0 < i) : appP (b0 :: b1 :: (G ++ [some ⟨L, true, 0⟩, some ⟨[w], true, 0⟩])) 1 8 (.sl (G.length + 2) 0 i i 1) (.sl (G.length + 3) 0 1 1 1) =
    some (.sl (G.length + 4) 0 (i + 1) (i + 1) 1, b0 :: b1 :: (G ++ [none, some ⟨[w], true, 0⟩, some ⟨L ++ [w], true, 0⟩])) := by
  have e1 : PM.blk (b0 :: b1 :: (G ++ [some (⟨L, true, 0⟩ : PB), some (⟨[w], true, 0⟩ : PB)])) (G.length + 3) = some (⟨[w], true, 0⟩ : PB) := by
    show PM.blk (G ++ [some (⟨L, true, 0⟩ : PB), some (⟨[w], true, 0⟩ : PB)]) (G.length + 1) = _
    rw [mG]; rfl
  have e2 : PM.blk (b0 :: b1 :: (G ++ [some (⟨L, true, 0⟩ : PB), some (⟨[w], true, 0⟩ : PB)])) (G.length + 2) = some (⟨L, true, 0⟩ : PB) := by
    show PM.blk (G ++ [some (⟨L, true, 0⟩ : PB), some (⟨[w], true, 0⟩ : PB)]) (G.length) = _
    rw [mG0]; rfl
  have e3 : (b0 :: b1 :: (G ++ [some (⟨L, true, 0⟩ : PB), some (⟨[w], true, 0⟩ : PB)])).set (G.length + 2) none = b0 :: b1 :: (G ++ [none, some (⟨[w], true, 0⟩ : PB)]) := by
    show b0 :: b1 :: (G ++ [some (⟨L, true, 0⟩ : PB), some (⟨[w], true, 0⟩ : PB)]).set G.length none = _
    rw [sG0]; rfl
  have es : srcP (b0 :: b1 :: (G ++ [some (⟨L, true, 0⟩ : PB), some (⟨[w], true, 0⟩ : PB)])) 1 (.sl (G.length + 3) 0 1 1 1) = some (1, [w]) := by
    simp only [srcP, PM.rd, e1]
    rfl
  unfold appP
  rw [es]
  simp only [e2]
  rw [if_neg (by simp), if_neg (by decide), if_pos ⟨trivial, by rw [hl]; omega, by omega⟩, e3]
  simp only [List.drop_zero, Nat.mul_one, List.cons_append, List.append_assoc, List.nil_append, List.length_cons, List.length_append, List.length_nil]
  rw [List.take_of_length_le (by omega)]
theorem p_Terrain {xs : List Int} (hx : Ints xs) : ∃ (X Y S : Int) (C R : Nat) (hs : List Int), TerOk X Y S C R hs ∧ (-30 ≤ X ∧ X ≤ 29) ∧ (-30 ≤ Y ∧ Y ≤ 29) ∧ S ≤ 20 ∧ C ≤ 6 ∧ R ≤ 6 ∧ (∀ n ∈ hs, -20 ≤ n ∧ n ≤ 69) ∧ pf E0 2 [ints xs] = some (terP X Y S C R hs) := by
  have k0 := p_Pick hx (i := 0) (m := 60) (by decide) (by decide) (by decide)
  have k1 := p_Pick hx (i := 1) (m := 60) (by decide) (by decide) (by decide)
  have k2 := p_Pick hx (i := 2) (m := 20) (by decide) (by decide) (by decide)
  have k3 := p_Pick hx (i := 3) (m := 5) (by decide) (by decide) (by decide)
  have k4 := p_Pick hx (i := 4) (m := 5) (by decide) (by decide) (by decide)
  have a0 := pick_nonneg xs 0 (m := 60) (by decide)
  have a1 := pick_nonneg xs 1 (m := 60) (by decide)
  have a2 := pick_nonneg xs 2 (m := 20) (by decide)
  have a3 := pick_nonneg xs 3 (m := 5) (by decide)
  have a4 := pick_nonneg xs 4 (m := 5) (by decide)
  have b0 := pick_lt xs 0 (m := 60) (by decide)
  have b1 := pick_lt xs 1 (m := 60) (by decide)
  have b2 := pick_lt xs 2 (m := 20) (by decide)
  have b3 := pick_lt xs 3 (m := 5) (by decide)
  have b4 := pick_lt xs 4 (m := 5) (by decide)
  generalize pick xs 0 60 = x0 at *
  generalize pick xs 1 60 = x1 at *
  generalize pick xs 2 20 = x2 at *
  obtain ⟨c, hc⟩ : ∃ c : Nat, pick xs 3 5 = (c : Int) := ⟨(pick xs 3 5).toNat, by omega⟩
  obtain ⟨r, hr⟩ : ∃ r : Nat, pick xs 4 5 = (r : Int) := ⟨(pick xs 4 5).toNat, by omega⟩
  rw [hc] at k3 b3
  rw [hr] at k4 b4
  clear a3 a4
  obtain ⟨C, hC⟩ : ∃ C : Nat, C = c + 2 := ⟨_, rfl⟩
  obtain ⟨R, hR⟩ : ∃ R : Nat, R = r + 2 := ⟨_, rfl⟩
  have eC : (2 : Int) + (c : Int) = (C : Int) := by omega
  have eR : (2 : Int) + (r : Int) = (R : Int) := by omega
  have eCR : (C : Int) * (R : Int) = ((C * R : Nat) : Int) := by push_cast; rfl
  have hCR : C * R ≤ 36 := by
    have : C * R ≤ 6 * 6 := Nat.mul_le_mul (by omega) (by omega)
    omega
  have hCR4 : 4 ≤ C * R := by
    have : 2 * 2 ≤ C * R := Nat.mul_le_mul (by omega) (by omega)
    omega
  have fin : ∃ hs : List Int, hs.length = C * R ∧ (∀ n ∈ hs, -20 ≤ n ∧ n ≤ 69) ∧ pf E0 2 [ints xs] = some (terP (x0 - 30) (x1 - 30) (1 + x2) C R hs) := by
    refine ⟨(List.range (C * R)).map (hgtV xs), by simp, fun n hn => by
      obtain ⟨i, _, rfl⟩ := List.mem_map.1 hn
      exact hgtN_b _, ?_⟩
    refine pf_run (xf := x_r10_Terrain) rfl (by simp [x_r10_Terrain]) ?_
    simp only [x_r10_Terrain]
    simp (disch := omega) only [go_sem, seval, wqa, wqb, wqc, wqd, wqe, k0, k1, k2, k3, k4, eC, eR, fill_C, fillC_def]
    have pk : ∀ i : Nat, i ≤ 100 → ∃ n : Nat, n < 1000 ∧ hgtV xs i = hgtN n ∧ pf E0 13 [ints xs, .i .i64 (5 + (i : Int)), .i .i64 1000] = some (.i .i64 (n : Int)) := fun i hi => by
      have h1 := p_Pick hx (i := 5 + (i : Int)) (m := 1000) (by unfold Fits64; omega) (by decide) (by decide)
      have h2 := pick_nonneg xs (5 + (i : Int)) (m := 1000) (by decide)
      have h3 := pick_lt xs (5 + (i : Int)) (m := 1000) (by decide)
      refine ⟨(pick xs (5 + (i : Int)) 1000).toNat, by omega, rfl, ?_⟩
      rw [h1, Int.toNat_of_nonneg h2]
    have z90 : (0 : Int).tmod 90 = 0 := rfl
    refine wk_roll x_r10_Terrain_l1.eq_1 ?_
    obtain ⟨n, hn, hv, pn⟩ := pk 0 (by decide)
    have pn : pf E0 13 [ints xs, .i .i64 5, .i .i64 1000] = some (.i .i64 (n : Int)) := pn
    have q1 : ((0 : Int) < ((C * R : Nat) : Int)) = True := eq_true (by omega)
    have t3 : (n : Int).tmod 3 = ((n % 3 : Nat) : Int) := nat_tmod _ 3
    have t90 : (n : Int).tmod 90 = ((n % 90 : Nat) : Int) := nat_tmod _ 90
    have hT : hgtL xs 1 = [.i .i64 (hgtN n)] := by rw [hgtL_succ, hv]; rfl
    by_cases h3 : n % 3 = 0
    · have t0 : (((n % 3 : Nat) : Int) = 0) = True := eq_true (by omega)
      have hw : hgtN n = -20 := by unfold hgtN; rw [if_pos h3]; rfl
      rw [hw] at hT
      simp (disch := omega) only [go_sem, seval, wqa, wqb, wqc, wqd, wqe, eCR, q1, pn, t3, t0, z90, ap_nil1]
      refine wk_ind x_r10_Terrain_l1.eq_1 (fun (i : Nat) fr M => 1 ≤ i ∧ i ≤ C * R ∧ fr 0 = ints xs ∧ fr 2 = .p 0 0 ∧ fr 3 = .p 1 0 ∧ fr 4 = (PV.i .i64 ((i : Nat) : Int)) ∧ ∃ v G, M = some ⟨[.i .i64 0, .i .i64 0, .i .i64 0, .i .i64 0, .i .i64 0, .nl], true, 0⟩ :: some ⟨[.i .i64 (x0 - 30), .i .i64 (x1 - 30), .i .i64 (1 + x2), .i .i64 C, .i .i64 R, .sl (G.length + 2) 0 i i 1], true, v⟩ :: (G ++ [some ⟨hgtL xs i, true, 0⟩]))
        (fun i => C * R - i) ?_ 1 ⟨by omega, by omega, by simp only [go_sem, seval], by simp only [go_sem, seval], by simp only [go_sem, seval], by simp only [go_sem, seval], _, [some ⟨[.i .i64 (-20)], true, 0⟩], by rw [hT]; rfl⟩
      rintro i fr M ⟨hi1, hi, f0, f2, f3, f4, v, G, rfl⟩ ih
      have hll := hgtL_len xs i
      by_cases hil : i < C * R
      · have q1 : ((i : Int) < ((C * R : Nat) : Int)) = True := eq_true (by omega)
        obtain ⟨n, hn, hv, pn⟩ := pk i (by omega)
        have t3 : (n : Int).tmod 3 = ((n % 3 : Nat) : Int) := nat_tmod _ 3
        have t90 : (n : Int).tmod 90 = ((n % 90 : Nat) : Int) := nat_tmod _ 90
        have hT := hgtL_succ xs i
        rw [hv] at hT
        have apx : ∀ w : PV, appP (some ⟨[.i .i64 0, .i .i64 0, .i .i64 0, .i .i64 0, .i .i64 0, .nl], true, 0⟩ :: some ⟨[.i .i64 (x0 - 30), .i .i64 (x1 - 30), .i .i64 (1 + x2), .i .i64 C, .i .i64 R, .sl (G.length + 2) 0 i i 1], true, v⟩ :: (G ++ [some ⟨hgtL xs i, true, 0⟩, some ⟨[w], true, 0⟩])) 1 8 (.sl (G.length + 2) 0 i i 1) (.sl (G.length + 3) 0 1 1 1) = _ := fun w => ap_G _ _ G (hgtL xs i) w hll (by omega) hi1
        by_cases h3 : n % 3 = 0
        · have t0 : (((n % 3 : Nat) : Int) = 0) = True := eq_true (by omega)
          have hw : hgtN n = -20 := by unfold hgtN; rw [if_pos h3]; rfl
          rw [hw] at hT
          simp (disch := omega) only [go_sem, seval, wqa, wqb, wqc, wqd, wqe, f0, f2, f3, f4, eCR, q1, pn, t3, t0, z90, apx, mG, mG0, sG, sG0, lG, List.append_assoc, List.cons_append, List.nil_append]
          exact ih (i + 1) _ _ (by omega) ⟨by omega, by omega, by simp only [go_sem, seval, f0], by simp only [go_sem, seval, f2], by simp only [go_sem, seval, f3], by simp only [go_sem, seval]; rw [Int.natCast_succ], v + 1, G ++ [none, some ⟨[.i .i64 (-20)], true, 0⟩], by rw [hT]; simp⟩
        · have t0 : (((n % 3 : Nat) : Int) = 0) = False := eq_false (by omega)
          have hw : hgtN n = ((n % 90 : Nat) : Int) - 20 := by unfold hgtN; rw [if_neg h3]
          rw [hw] at hT
          simp (disch := omega) only [go_sem, seval, wqa, wqb, wqc, wqd, wqe, f0, f2, f3, f4, eCR, q1, pn, t3, t0, t90, apx, mG, mG0, sG, sG0, lG, List.append_assoc, List.cons_append, List.nil_append]
          exact ih (i + 1) _ _ (by omega) ⟨by omega, by omega, by simp only [go_sem, seval, f0], by simp only [go_sem, seval, f2], by simp only [go_sem, seval, f3], by simp only [go_sem, seval]; rw [Int.natCast_succ], v + 1, G ++ [none, some ⟨[.i .i64 (((n % 90 : Nat) : Int) - 20)], true, 0⟩], by rw [hT]; simp⟩
      · obtain rfl : i = C * R := by omega
        have q1 : (((C * R : Nat) : Int) < ((C * R : Nat) : Int)) = False := eq_false (by omega)
        have hne : (C * R = 0) = False := eq_false (by omega)
        have hle : (C * R ≤ C * R) = True := eq_true (Nat.le_refl _)
        have htk : (hgtL xs (C * R)).take (C * R) = hgtL xs (C * R) := List.take_of_length_le (by rw [hll]; omega)
        have fzH : ∀ (M : PM) (d : Nat), fzL (fz M (d + 1)) (hgtL xs (C * R)) = some (hgtL xs (C * R), []) := fun M d => fzL_map' M d _ (fun _ => rfl) _
        have gr : group 1 (C * R) (hgtL xs (C * R)) = hgtL xs (C * R) := group_one _ _ hll
        have hI : PV.lst (hgtL xs (C * R)) = ints ((List.range (C * R)).map (hgtV xs)) := rfl
        simp (disch := omega) only [go_sem, seval, wqa, wqb, wqc, wqd, wqe, f0, f2, f3, f4, eCR, q1, hne, hll, hle, htk, fzH, gr, hI, mG, mG0, sG, sG0, lG, List.append_assoc, List.cons_append, List.nil_append]
    · have t0 : (((n % 3 : Nat) : Int) = 0) = False := eq_false (by omega)
      have hw : hgtN n = ((n % 90 : Nat) : Int) - 20 := by unfold hgtN; rw [if_neg h3]
      rw [hw] at hT
      simp (disch := omega) only [go_sem, seval, wqa, wqb, wqc, wqd, wqe, eCR, q1, pn, t3, t0, t90, ap_nil1]
      refine wk_ind x_r10_Terrain_l1.eq_1 (fun (i : Nat) fr M => 1 ≤ i ∧ i ≤ C * R ∧ fr 0 = ints xs ∧ fr 2 = .p 0 0 ∧ fr 3 = .p 1 0 ∧ fr 4 = (PV.i .i64 ((i : Nat) : Int)) ∧ ∃ v G, M = some ⟨[.i .i64 0, .i .i64 0, .i .i64 0, .i .i64 0, .i .i64 0, .nl], true, 0⟩ :: some ⟨[.i .i64 (x0 - 30), .i .i64 (x1 - 30), .i .i64 (1 + x2), .i .i64 C, .i .i64 R, .sl (G.length + 2) 0 i i 1], true, v⟩ :: (G ++ [some ⟨hgtL xs i, true, 0⟩]))
        (fun i => C * R - i) ?_ 1 ⟨by omega, by omega, by simp only [go_sem, seval], by simp only [go_sem, seval], by simp only [go_sem, seval], by simp only [go_sem, seval], _, [some ⟨[.i .i64 (((n % 90 : Nat) : Int) - 20)], true, 0⟩], by rw [hT]; rfl⟩
      rintro i fr M ⟨hi1, hi, f0, f2, f3, f4, v, G, rfl⟩ ih
      have hll := hgtL_len xs i
      by_cases hil : i < C * R
      · have q1 : ((i : Int) < ((C * R : Nat) : Int)) = True := eq_true (by omega)
        obtain ⟨n, hn, hv, pn⟩ := pk i (by omega)
        have t3 : (n : Int).tmod 3 = ((n % 3 : Nat) : Int) := nat_tmod _ 3
        have t90 : (n : Int).tmod 90 = ((n % 90 : Nat) : Int) := nat_tmod _ 90
        have hT := hgtL_succ xs i
        rw [hv] at hT
        have apx : ∀ w : PV, appP (some ⟨[.i .i64 0, .i .i64 0, .i .i64 0, .i .i64 0, .i .i64 0, .nl], true, 0⟩ :: some ⟨[.i .i64 (x0 - 30), .i .i64 (x1 - 30), .i .i64 (1 + x2), .i .i64 C, .i .i64 R, .sl (G.length + 2) 0 i i 1], true, v⟩ :: (G ++ [some ⟨hgtL xs i, true, 0⟩, some ⟨[w], true, 0⟩])) 1 8 (.sl (G.length + 2) 0 i i 1) (.sl (G.length + 3) 0 1 1 1) = _ := fun w => ap_G _ _ G (hgtL xs i) w hll (by omega) hi1
        by_cases h3 : n % 3 = 0
        · have t0 : (((n % 3 : Nat) : Int) = 0) = True := eq_true (by omega)
          have hw : hgtN n = -20 := by unfold hgtN; rw [if_pos h3]; rfl
          rw [hw] at hT
          simp (disch := omega) only [go_sem, seval, wqa, wqb, wqc, wqd, wqe, f0, f2, f3, f4, eCR, q1, pn, t3, t0, z90, apx, mG, mG0, sG, sG0, lG, List.append_assoc, List.cons_append, List.nil_append]
          exact ih (i + 1) _ _ (by omega) ⟨by omega, by omega, by simp only [go_sem, seval, f0], by simp only [go_sem, seval, f2], by simp only [go_sem, seval, f3], by simp only [go_sem, seval]; rw [Int.natCast_succ], v + 1, G ++ [none, some ⟨[.i .i64 (-20)], true, 0⟩], by rw [hT]; simp⟩
        · have t0 : (((n % 3 : Nat) : Int) = 0) = False := eq_false (by omega)
          have hw : hgtN n = ((n % 90 : Nat) : Int) - 20 := by unfold hgtN; rw [if_neg h3]
          rw [hw] at hT
          simp (disch := omega) only [go_sem, seval, wqa, wqb, wqc, wqd, wqe, f0, f2, f3, f4, eCR, q1, pn, t3, t0, t90, apx, mG, mG0, sG, sG0, lG, List.append_assoc, List.cons_append, List.nil_append]
          exact ih (i + 1) _ _ (by omega) ⟨by omega, by omega, by simp only [go_sem, seval, f0], by simp only [go_sem, seval, f2], by simp only [go_sem, seval, f3], by simp only [go_sem, seval]; rw [Int.natCast_succ], v + 1, G ++ [none, some ⟨[.i .i64 (((n % 90 : Nat) : Int) - 20)], true, 0⟩], by rw [hT]; simp⟩
      · obtain rfl : i = C * R := by omega
        have q1 : (((C * R : Nat) : Int) < ((C * R : Nat) : Int)) = False := eq_false (by omega)
        have hne : (C * R = 0) = False := eq_false (by omega)
        have hle : (C * R ≤ C * R) = True := eq_true (Nat.le_refl _)
        have htk : (hgtL xs (C * R)).take (C * R) = hgtL xs (C * R) := List.take_of_length_le (by rw [hll]; omega)
        have fzH : ∀ (M : PM) (d : Nat), fzL (fz M (d + 1)) (hgtL xs (C * R)) = some (hgtL xs (C * R), []) := fun M d => fzL_map' M d _ (fun _ => rfl) _
        have gr : group 1 (C * R) (hgtL xs (C * R)) = hgtL xs (C * R) := group_one _ _ hll
        have hI : PV.lst (hgtL xs (C * R)) = ints ((List.range (C * R)).map (hgtV xs)) := rfl
        simp (disch := omega) only [go_sem, seval, wqa, wqb, wqc, wqd, wqe, f0, f2, f3, f4, eCR, q1, hne, hll, hle, htk, fzH, gr, hI, mG, mG0, sG, sG0, lG, List.append_assoc, List.cons_append, List.nil_append]
  obtain ⟨hs, h1, h2, h3⟩ := fin
  have m1 : ((C : Int) - 1) * (1 + x2) ≤ 5 * 20 := Int.mul_le_mul (by omega) (by omega) (by omega) (by omega)
  have m2 : ((R : Int) - 1) * (1 + x2) ≤ 5 * 20 := Int.mul_le_mul (by omega) (by omega) (by omega) (by omega)
  exact ⟨x0 - 30, x1 - 30, 1 + x2, C, R, hs, ⟨by omega, by omega, by omega, by omega, by omega, h1, fun n hn => by have := h2 n hn; omega⟩, by omega, by omega, by omega, by omega, by omega, h2, h3⟩
end Go.Eng
namespace Go.Eng
theorem eqa_self (a b c d : Int) : eqaP [1, 1, 1, 1] (arr4 a b c d) (arr4 a b c d) = some true := by
  unfold arr4
  rw [eqaP_ag]
  simp [eqCellsP, eqCellP]
theorem p_of10 {n d : Int} (hn : Fits64 n) (hd : Fits64 d) (h : d ≠ 0) : ∃ f : FQ, f.is n d ∧ fsz 5 f ∧ f.p.v.natAbs ≤ n.natAbs ∧ f.q.v.natAbs ≤ d.natAbs ∧ pf E0 7 [.i .i64 n, .i .i64 d] = some (fqP f) := by
  obtain ⟨f, f1, f2, fo⟩ := p_fOf hn hd h
  have l1 : f.p.v.natAbs ≤ n.natAbs := by rw [f1]; exact lowP_le h
  have l2 : f.q.v.natAbs ≤ d.natAbs := by rw [f2]; exact lowQ_le h
  unfold Fits64 at hn hd
  refine ⟨f, is_low h f1 f2, ⟨tlen_small (by omega), tlen_small (by omega)⟩, l1, l2, ?_⟩
  refine pf_run (xf := x_l10_of) rfl (by simp [x_l10_of]) ?_
  simp only [x_l10_of]
  simp (disch := omega) only [go_sem, seval, wqa, wqb, wqc, wqd, wqe, fo]
theorem fsz_mono {n m : Nat} {f : FQ} (h : fsz n f) (l : n ≤ m) : fsz m f := ⟨Nat.le_trans h.1 l, Nat.le_trans h.2 l⟩
theorem p_lives10 : pf E0 5 [] = some (.b true) := by
  have t : TerOk 0 0 10 2 2 [0, 10, 20, 40] := ⟨by decide, by decide, by decide, by decide, by decide, rfl, by decide⟩
  have ff := p_tForm t (i := 0) (j := 0) (by decide) (by decide)
  have fe : formV [0, 10, 20, 40] ((2 : Nat) : Int) ((0 : Nat) : Int) ((0 : Nat) : Int) = arr4 0 10 20 10 := rfl
  rw [fe] at ff
  have ff : pf E0 3 [terP 0 0 10 2 2 [0, 10, 20, 40], .i .i64 0, .i .i64 0] = some (.tu [arr4 0 10 20 10, .i .i64 0]) := ff
  obtain ⟨a, ai, az, a1, a2, fa⟩ := p_of10 (n := 5) (d := 1) (by decide) (by decide) (by decide)
  obtain ⟨b, bi, bz, b1, b2, fb⟩ := p_of10 (n := 10) (d := 1) (by decide) (by decide) (by decide)
  obtain ⟨c, ci, cz, c1, c2, fc⟩ := p_of10 (n := 11) (d := 1) (by decide) (by decide) (by decide)
  obtain ⟨z, zi, zz, z1, z2, fz0⟩ := p_of10 (n := 0) (d := 1) (by decide) (by decide) (by decide)
  have ha : few a := ⟨by omega, by omega⟩
  have hb : few b := ⟨by omega, by omega⟩
  have hc : few c := ⟨by omega, by omega⟩
  have hz : few z := ⟨by omega, by omega⟩
  obtain ⟨h, gh, hi, _⟩ := p_HeightAt t ha ha (fsz_mono az (by decide)) (fsz_mono az (by decide)) (by decide) (by decide) ai ai (i := 0) (j := 0) (by decide) (by decide) (by decide) (by decide) (by decide) (by decide)
  obtain ⟨k, gk, ki, _⟩ := p_HeightAt t hb hb (fsz_mono bz (by decide)) (fsz_mono bz (by decide)) (by decide) (by decide) bi bi (i := 0) (j := 0) (by decide) (by decide) (by decide) (by decide) (by decide) (by decide)
  have go := p_HeightOut t hc hz (fsz_mono cz (by decide)) (fsz_mono zz (by decide)) (by decide) (by decide) ci zi (by decide)
  obtain ⟨h1, h2⟩ := is_val (p := 35) (q := 2) (by decide) (by decide) (by decide) hi (by decide)
  obtain ⟨k1, k2⟩ := is_val (p := 40) (q := 1) (by decide) (by decide) (by decide) ki (by decide)
  have d35 : decI 35 = [51, 53] := (ev_dec (v := 35) (n := 1) rfl (by decide) (by decide)).trans rfl
  have d2 : decI 2 = [50] := (ev_dec (v := 2) (n := 0) rfl (by decide) (by decide)).trans rfl
  have d40 : decI 40 = [52, 48] := (ev_dec (v := 40) (n := 1) rfl (by decide) (by decide)).trans rfl
  have s1 := str_ex h (t := [51, 53, 47, 50]) h1 h2 (by unfold ftx; rw [if_neg (by decide), d35, d2]; rfl)
  have s2 := str_ex k (t := [52, 48]) k1 k2 (by unfold ftx; rw [if_pos rfl, d40])
  have gr : PV.lst (group 1 4 [.i .i64 0, .i .i64 10, .i .i64 20, .i .i64 40]) = ints [0, 10, 20, 40] := rfl
  have gh : pf E0 10 [terP 0 0 10 2 2 [0, 10, 20, 40], fqP a, fqP a] = some (.tu [fqP h, .i .i64 0]) := gh
  have gk : pf E0 10 [terP 0 0 10 2 2 [0, 10, 20, 40], fqP b, fqP b] = some (.tu [fqP k, .i .i64 0]) := gk
  have go : pf E0 10 [terP 0 0 10 2 2 [0, 10, 20, 40], fqP c, fqP z] = some (.tu [fqP fq0, .i .i64 15]) := go
  clear hi ki h1 h2 k1 k2 ai bi ci zi
  generalize fq0 = y at *
  refine pf_run (xf := x_l10_lives) rfl (by simp [x_l10_lives]) ?_
  simp only [x_l10_lives]
  simp (disch := omega) only [go_sem, seval, wqa, wqb, wqc, wqd, wqe, gr, ff, fill_C, fillC_def]
  refine wk_calmX [1] rfl (by simp only [go_sem, seval]) ?_
  simp (disch := omega) only [go_sem, seval, wqa, wqb, wqc, wqd, wqe, fa, gr, gh]
  refine wk_calmX [1] rfl (by simp only [go_sem, seval]) ?_
  simp (disch := omega) only [go_sem, seval, wqa, wqb, wqc, wqd, wqe, fb, gr, gk]
  refine wk_calmX [1] rfl (by simp only [go_sem, seval]) ?_
  simp (disch := omega) only [go_sem, seval, wqa, wqb, wqc, wqd, wqe, fc, fz0, gr, go, s1, s2, eqa_self, fill_C, fillC_def]
end Go.Eng
namespace Go.Eng
theorem fst1 (p : Prop) : (p = True) ∨ (p = False) := by by_cases h : p <;> simp [h]
def okA (S C R : Int) (hs : List Int) : Prop := 2 ≤ C ∧ C ≤ 128 ∧ 2 ≤ R ∧ R ≤ 128 ∧ 1 ≤ S ∧ S ≤ 65536 ∧ (hs.length : Int) = C * R
def okB (X Y S C R : Int) : Prop := -1048576 ≤ X ∧ -1048576 ≤ Y ∧ X + (C - 1) * S ≤ 1048576 ∧ Y + (R - 1) * S ≤ 1048576
def okD (hs : List Int) : Prop := ∀ n ∈ hs, -16384 ≤ n ∧ n ≤ 16384
open Classical in
noncomputable def validV (X Y S C R : Int) (hs : List Int) : Int := if okA S C R hs then (if okB X Y S C R ∧ okD hs then 0 else 5) else 1
theorem valid1 {X Y S C R : Int} {hs : List Int} (h : ¬ okA S C R hs) : validV X Y S C R hs = 1 := by unfold validV; rw [if_neg h]
theorem valid5 {X Y S C R : Int} {hs : List Int} (h : okA S C R hs) (h2 : ¬ (okB X Y S C R ∧ okD hs)) : validV X Y S C R hs = 5 := by unfold validV; rw [if_pos h, if_neg h2]
theorem valid0 {X Y S C R : Int} {hs : List Int} (h : okA S C R hs) (h2 : okB X Y S C R) (h3 : okD hs) : validV X Y S C R hs = 0 := by unfold validV; rw [if_pos h, if_pos ⟨h2, h3⟩]
theorem prod_b {C R : Int} (h1 : 2 ≤ C) (h2 : C ≤ 128) (h3 : 2 ≤ R) (h4 : R ≤ 128) : 0 ≤ C * R ∧ C * R ≤ 16384 := ⟨Int.mul_nonneg (by omega) (by omega), by
  have : C * R ≤ 128 * 128 := Int.mul_le_mul h2 h4 (by omega) (by omega)
  omega⟩
theorem prod_s {C S : Int} (h1 : 2 ≤ C) (h2 : C ≤ 128) (h3 : 1 ≤ S) (h4 : S ≤ 65536) : 0 ≤ (C - 1) * S ∧ (C - 1) * S ≤ 8388608 := ⟨Int.mul_nonneg (by omega) (by omega), by
  have : (C - 1) * S ≤ 127 * 65536 := Int.mul_le_mul (by omega) h4 (by omega) (by omega)
  omega⟩
set_option maxHeartbeats 4000000 in
set_option maxRecDepth 40000 in
theorem p_ValidG {X Y S C R : Int} {hs : List Int} (fX : Fits64 X) (fY : Fits64 Y) (fS : Fits64 S) (fC : Fits64 C) (fR : Fits64 R) (hi : Ints hs) : pf E0 14 [terP X Y S C R hs] = some (.i .i64 (validV X Y S C R hs)) := by
  unfold Fits64 at fX fY fS fC fR
  rcases fst1 ((if R < C then R else C) < 2) with h0 | h0
  · have e := of_eq_true h0
    have hv : validV X Y S C R hs = 1 := valid1 fun q => by obtain ⟨q1, q2, q3, q4, q5, q6, q7⟩ := q; first | omega | (split at e <;> omega)
    rw [hv]
    refine pf_run (xf := x_terrain_Valid) rfl (by simp [x_terrain_Valid]) ?_
    simp only [x_terrain_Valid]
    simp (disch := omega) only [go_sem, seval, wqa, wqb, wqc, wqd, wqe, h0]
  rcases fst1 ((if R > C then R else C) > 128) with h1 | h1
  · have e := of_eq_true h1
    have e0 := of_eq_false h0
    have hv : validV X Y S C R hs = 1 := valid1 fun q => by obtain ⟨q1, q2, q3, q4, q5, q6, q7⟩ := q; first | omega | (split at e <;> omega)
    rw [hv]
    refine pf_run (xf := x_terrain_Valid) rfl (by simp [x_terrain_Valid]) ?_
    simp only [x_terrain_Valid]
    simp (disch := omega) only [go_sem, seval, wqa, wqb, wqc, wqd, wqe, h0, h1]
  rcases fst1 (S < 1) with h2 | h2
  · have e := of_eq_true h2
    have e0 := of_eq_false h0
    have e1 := of_eq_false h1
    have hv : validV X Y S C R hs = 1 := valid1 fun q => by obtain ⟨q1, q2, q3, q4, q5, q6, q7⟩ := q; first | omega | (split at e <;> omega)
    rw [hv]
    refine pf_run (xf := x_terrain_Valid) rfl (by simp [x_terrain_Valid]) ?_
    simp only [x_terrain_Valid]
    simp (disch := omega) only [go_sem, seval, wqa, wqb, wqc, wqd, wqe, h0, h1, h2]
  rcases fst1 (S > 65536) with h3 | h3
  · have e := of_eq_true h3
    have e0 := of_eq_false h0
    have e1 := of_eq_false h1
    have e2 := of_eq_false h2
    have hv : validV X Y S C R hs = 1 := valid1 fun q => by obtain ⟨q1, q2, q3, q4, q5, q6, q7⟩ := q; first | omega | (split at e <;> omega)
    rw [hv]
    refine pf_run (xf := x_terrain_Valid) rfl (by simp [x_terrain_Valid]) ?_
    simp only [x_terrain_Valid]
    simp (disch := omega) only [go_sem, seval, wqa, wqb, wqc, wqd, wqe, h0, h1, h2, h3]
  rcases fst1 (¬ (hs.length : Int) = C * R) with h4 | h4
  · have e := of_eq_true h4
    have e0 := of_eq_false h0
    have e1 := of_eq_false h1
    have e2 := of_eq_false h2
    have e3 := of_eq_false h3
    have pb := prod_b (C := C) (R := R) (by first | omega | (split at * <;> omega)) (by first | omega | (split at * <;> omega)) (by first | omega | (split at * <;> omega)) (by first | omega | (split at * <;> omega))
    have hv : validV X Y S C R hs = 1 := valid1 fun q => by obtain ⟨q1, q2, q3, q4, q5, q6, q7⟩ := q; first | omega | (split at e <;> omega)
    rw [hv]
    refine pf_run (xf := x_terrain_Valid) rfl (by simp [x_terrain_Valid]) ?_
    simp only [x_terrain_Valid]
    simp (disch := omega) only [go_sem, seval, wqa, wqb, wqc, wqd, wqe, h0, h1, h2, h3, h4]
  have e0 := of_eq_false h0
  have e1 := of_eq_false h1
  have e2 := of_eq_false h2
  have e3 := of_eq_false h3
  have a1 : 2 ≤ C ∧ 2 ≤ R ∧ C ≤ 128 ∧ R ≤ 128 := by split at e0 <;> split at e1 <;> omega
  have pb := prod_b a1.1 a1.2.2.1 a1.2.1 a1.2.2.2
  have e4 : (hs.length : Int) = C * R := by have := of_eq_false h4; omega
  have h4 : ((hs.length : Int) = C * R) = True := eq_true e4
  have hA : okA S C R hs := ⟨a1.1, a1.2.2.1, a1.2.1, a1.2.2.2, by omega, by omega, e4⟩
  have ps := prod_s (C := C) (S := S) a1.1 a1.2.2.1 (by omega) (by omega)
  have pr := prod_s (C := R) (S := S) a1.2.1 a1.2.2.2 (by omega) (by omega)
  have w1 := p_within (most := 1048576) (by decide) (ns := [X, Y]) ⟨by simp, fun n hn => by
    simp only [List.mem_cons, List.not_mem_nil, or_false] at hn
    unfold Fits64; omega⟩
  have w3 := p_within (most := 16384) (by decide) hi
  by_cases b1 : ∀ n ∈ [X, Y], ¬ outR 1048576 n
  · rw [decide_eq_true b1] at w1
    have x1 := b1 X (by simp)
    have y1 := b1 Y (by simp)
    unfold outR at x1 y1
    have w2 := p_within (most := 1048576) (by decide) (ns := [X + (C - 1) * S, Y + (R - 1) * S]) ⟨by simp, fun n hn => by
      simp only [List.mem_cons, List.not_mem_nil, or_false] at hn
      unfold Fits64; omega⟩
    by_cases b2 : ∀ n ∈ [X + (C - 1) * S, Y + (R - 1) * S], ¬ outR 1048576 n
    · rw [decide_eq_true b2] at w2
      have x2 := b2 (X + (C - 1) * S) (by simp)
      have y2 := b2 (Y + (R - 1) * S) (by simp)
      unfold outR at x2 y2
      have hB : okB X Y S C R := ⟨by omega, by omega, by omega, by omega⟩
      by_cases b3 : ∀ n ∈ hs, ¬ outR 16384 n
      · rw [decide_eq_true b3] at w3
        rw [valid0 hA hB fun n hn => by have := b3 n hn; unfold outR at this; omega]
        refine pf_run (xf := x_terrain_Valid) rfl (by simp [x_terrain_Valid]) ?_
        simp only [x_terrain_Valid]
        simp (disch := omega) only [go_sem, seval, wqa, wqb, wqc, wqd, wqe, h0, h1, h2, h3, h4, w1, w2, w3, intsG2, fill_C, fillC_def]
      · rw [decide_eq_false b3] at w3
        rw [valid5 hA fun q => b3 fun n hn => by have := q.2 n hn; unfold outR; omega]
        refine pf_run (xf := x_terrain_Valid) rfl (by simp [x_terrain_Valid]) ?_
        simp only [x_terrain_Valid]
        simp (disch := omega) only [go_sem, seval, wqa, wqb, wqc, wqd, wqe, h0, h1, h2, h3, h4, w1, w2, w3, intsG2, fill_C, fillC_def]
    · rw [decide_eq_false b2] at w2
      rw [valid5 hA fun q => b2 fun n hn => by
        simp only [List.mem_cons, List.not_mem_nil, or_false] at hn
        obtain ⟨⟨q1, q2, q3, q4⟩, _⟩ := q
        unfold outR; omega]
      refine pf_run (xf := x_terrain_Valid) rfl (by simp [x_terrain_Valid]) ?_
      simp only [x_terrain_Valid]
      simp (disch := omega) only [go_sem, seval, wqa, wqb, wqc, wqd, wqe, h0, h1, h2, h3, h4, w1, w2, intsG2, fill_C, fillC_def]
  · rw [decide_eq_false b1] at w1
    rw [valid5 hA fun q => b1 fun n hn => by
      simp only [List.mem_cons, List.not_mem_nil, or_false] at hn
      obtain ⟨⟨q1, q2, q3, q4⟩, _⟩ := q
      unfold outR; omega]
    refine pf_run (xf := x_terrain_Valid) rfl (by simp [x_terrain_Valid]) ?_
    simp only [x_terrain_Valid]
    simp (disch := omega) only [go_sem, seval, wqa, wqb, wqc, wqd, wqe, h0, h1, h2, h3, h4, w1, intsG2, fill_C, fillC_def]
set_option maxHeartbeats 4000000 in
set_option maxRecDepth 40000 in
theorem p_rValidG {X Y S C R : Int} {hs : List Int} (fX : Fits64 X) (fY : Fits64 Y) (fS : Fits64 S) (fC : Fits64 C) (fR : Fits64 R) (hi : Ints hs) : pf E0 242 [terP X Y S C R hs] = some (.i .i64 (validV X Y S C R hs)) := by
  unfold Fits64 at fX fY fS fC fR
  rcases fst1 (C < 2) with h0 | h0
  · have e := of_eq_true h0
    have hv : validV X Y S C R hs = 1 := valid1 fun q => by obtain ⟨q1, q2, q3, q4, q5, q6, q7⟩ := q; first | omega | (split at e <;> omega)
    rw [hv]
    refine pf_run (xf := x_r10_Valid) rfl (by simp [x_r10_Valid]) ?_
    simp only [x_r10_Valid]
    simp (disch := omega) only [go_sem, seval, wqa, wqb, wqc, wqd, wqe, h0]
  rcases fst1 (C > 128) with h1 | h1
  · have e := of_eq_true h1
    have e0 := of_eq_false h0
    have hv : validV X Y S C R hs = 1 := valid1 fun q => by obtain ⟨q1, q2, q3, q4, q5, q6, q7⟩ := q; first | omega | (split at e <;> omega)
    rw [hv]
    refine pf_run (xf := x_r10_Valid) rfl (by simp [x_r10_Valid]) ?_
    simp only [x_r10_Valid]
    simp (disch := omega) only [go_sem, seval, wqa, wqb, wqc, wqd, wqe, h0, h1]
  rcases fst1 (R < 2) with h2 | h2
  · have e := of_eq_true h2
    have e0 := of_eq_false h0
    have e1 := of_eq_false h1
    have hv : validV X Y S C R hs = 1 := valid1 fun q => by obtain ⟨q1, q2, q3, q4, q5, q6, q7⟩ := q; first | omega | (split at e <;> omega)
    rw [hv]
    refine pf_run (xf := x_r10_Valid) rfl (by simp [x_r10_Valid]) ?_
    simp only [x_r10_Valid]
    simp (disch := omega) only [go_sem, seval, wqa, wqb, wqc, wqd, wqe, h0, h1, h2]
  rcases fst1 (R > 128) with h3 | h3
  · have e := of_eq_true h3
    have e0 := of_eq_false h0
    have e1 := of_eq_false h1
    have e2 := of_eq_false h2
    have hv : validV X Y S C R hs = 1 := valid1 fun q => by obtain ⟨q1, q2, q3, q4, q5, q6, q7⟩ := q; first | omega | (split at e <;> omega)
    rw [hv]
    refine pf_run (xf := x_r10_Valid) rfl (by simp [x_r10_Valid]) ?_
    simp only [x_r10_Valid]
    simp (disch := omega) only [go_sem, seval, wqa, wqb, wqc, wqd, wqe, h0, h1, h2, h3]
  rcases fst1 (S < 1) with h4 | h4
  · have e := of_eq_true h4
    have e0 := of_eq_false h0
    have e1 := of_eq_false h1
    have e2 := of_eq_false h2
    have e3 := of_eq_false h3
    have hv : validV X Y S C R hs = 1 := valid1 fun q => by obtain ⟨q1, q2, q3, q4, q5, q6, q7⟩ := q; first | omega | (split at e <;> omega)
    rw [hv]
    refine pf_run (xf := x_r10_Valid) rfl (by simp [x_r10_Valid]) ?_
    simp only [x_r10_Valid]
    simp (disch := omega) only [go_sem, seval, wqa, wqb, wqc, wqd, wqe, h0, h1, h2, h3, h4]
  rcases fst1 (S > 65536) with h5 | h5
  · have e := of_eq_true h5
    have e0 := of_eq_false h0
    have e1 := of_eq_false h1
    have e2 := of_eq_false h2
    have e3 := of_eq_false h3
    have e4 := of_eq_false h4
    have hv : validV X Y S C R hs = 1 := valid1 fun q => by obtain ⟨q1, q2, q3, q4, q5, q6, q7⟩ := q; first | omega | (split at e <;> omega)
    rw [hv]
    refine pf_run (xf := x_r10_Valid) rfl (by simp [x_r10_Valid]) ?_
    simp only [x_r10_Valid]
    simp (disch := omega) only [go_sem, seval, wqa, wqb, wqc, wqd, wqe, h0, h1, h2, h3, h4, h5]
  rcases fst1 (¬ (hs.length : Int) = C * R) with h6 | h6
  · have e := of_eq_true h6
    have e0 := of_eq_false h0
    have e1 := of_eq_false h1
    have e2 := of_eq_false h2
    have e3 := of_eq_false h3
    have e4 := of_eq_false h4
    have e5 := of_eq_false h5
    have pb := prod_b (C := C) (R := R) (by first | omega | (split at * <;> omega)) (by first | omega | (split at * <;> omega)) (by first | omega | (split at * <;> omega)) (by first | omega | (split at * <;> omega))
    have hv : validV X Y S C R hs = 1 := valid1 fun q => by obtain ⟨q1, q2, q3, q4, q5, q6, q7⟩ := q; first | omega | (split at e <;> omega)
    rw [hv]
    refine pf_run (xf := x_r10_Valid) rfl (by simp [x_r10_Valid]) ?_
    simp only [x_r10_Valid]
    simp (disch := omega) only [go_sem, seval, wqa, wqb, wqc, wqd, wqe, h0, h1, h2, h3, h4, h5, h6]
  have e0 := of_eq_false h0
  have e1 := of_eq_false h1
  have e2 := of_eq_false h2
  have e3 := of_eq_false h3
  have e4 := of_eq_false h4
  have e5 := of_eq_false h5
  have e6 : (hs.length : Int) = C * R := by have := of_eq_false h6; omega
  have h6 : ((hs.length : Int) = C * R) = True := eq_true e6
  have hA : okA S C R hs := ⟨by omega, by omega, by omega, by omega, by omega, by omega, e6⟩
  have pb := prod_b (C := C) (R := R) (by omega) (by omega) (by omega) (by omega)
  have ps := prod_s (C := C) (S := S) (by omega) (by omega) (by omega) (by omega)
  have pr := prod_s (C := R) (S := S) (by omega) (by omega) (by omega) (by omega)
  rw [Int.mul_comm] at ps pr
  have nB : ¬ okB X Y S C R → validV X Y S C R hs = 5 := fun q => valid5 hA fun z => q z.1
  have k1 : (C - 1) * S = S * (C - 1) := Int.mul_comm _ _
  have k2 : (R - 1) * S = S * (R - 1) := Int.mul_comm _ _
  rcases fst1 (X < -1048576) with g0 | g0
  · have e := of_eq_true g0
    rw [nB fun q => by obtain ⟨q1, q2, q3, q4⟩ := q; omega]
    refine pf_run (xf := x_r10_Valid) rfl (by simp [x_r10_Valid]) ?_
    simp only [x_r10_Valid]
    simp (disch := omega) only [go_sem, seval, wqa, wqb, wqc, wqd, wqe, h0, h1, h2, h3, h4, h5, h6, g0]
  have d0 := of_eq_false g0
  rcases fst1 (Y < -1048576) with g1 | g1
  · have e := of_eq_true g1
    rw [nB fun q => by obtain ⟨q1, q2, q3, q4⟩ := q; omega]
    refine pf_run (xf := x_r10_Valid) rfl (by simp [x_r10_Valid]) ?_
    simp only [x_r10_Valid]
    simp (disch := omega) only [go_sem, seval, wqa, wqb, wqc, wqd, wqe, h0, h1, h2, h3, h4, h5, h6, g0, g1]
  have d1 := of_eq_false g1
  rcases fst1 (X > 1048576 - S * (C - 1)) with g2 | g2
  · have e := of_eq_true g2
    rw [nB fun q => by obtain ⟨q1, q2, q3, q4⟩ := q; omega]
    refine pf_run (xf := x_r10_Valid) rfl (by simp [x_r10_Valid]) ?_
    simp only [x_r10_Valid]
    simp (disch := omega) only [go_sem, seval, wqa, wqb, wqc, wqd, wqe, h0, h1, h2, h3, h4, h5, h6, g0, g1, g2]
  have d2 := of_eq_false g2
  rcases fst1 (Y > 1048576 - S * (R - 1)) with g3 | g3
  · have e := of_eq_true g3
    rw [nB fun q => by obtain ⟨q1, q2, q3, q4⟩ := q; omega]
    refine pf_run (xf := x_r10_Valid) rfl (by simp [x_r10_Valid]) ?_
    simp only [x_r10_Valid]
    simp (disch := omega) only [go_sem, seval, wqa, wqb, wqc, wqd, wqe, h0, h1, h2, h3, h4, h5, h6, g0, g1, g2, g3]
  have d3 := of_eq_false g3
  have hB : okB X Y S C R := ⟨by omega, by omega, by omega, by omega⟩
  have res : ∀ v : Int, ((∃ i : Nat, i < hs.length ∧ ¬ (-16384 ≤ hs.getD i 0 ∧ hs.getD i 0 ≤ 16384)) → v = 5) → ((∀ i : Nat, i < hs.length → -16384 ≤ hs.getD i 0 ∧ hs.getD i 0 ≤ 16384) → v = 0) → validV X Y S C R hs = v := fun v z1 z2 => by
    by_cases hd : okD hs
    · rw [valid0 hA hB hd, z2 fun i hi => hd _ (by simp [hi])]
    · rw [valid5 hA fun q => hd q.2, z1]
      by_cases q : ∃ i : Nat, i < hs.length ∧ ¬ (-16384 ≤ hs.getD i 0 ∧ hs.getD i 0 ≤ 16384)
      · exact q
      · exact (hd fun n hn => by
          obtain ⟨i, hi', rfl⟩ := List.getElem_of_mem hn
          by_cases z : -16384 ≤ hs.getD i 0 ∧ hs.getD i 0 ≤ 16384
          · simpa [hi'] using z
          · exact (q ⟨i, hi', z⟩).elim).elim
  generalize validV X Y S C R hs = v at *
  have l1 := hi.1
  refine pf_run (xf := x_r10_Valid) rfl (by simp [x_r10_Valid]) ?_
  simp only [x_r10_Valid]
  simp (disch := omega) only [go_sem, seval, wqa, wqb, wqc, wqd, wqe, h0, h1, h2, h3, h4, h5, h6, g0, g1, g2, g3]
  refine wk_ind x_r10_Valid_l1.eq_1 (fun (i : Nat) fr M => i ≤ hs.length ∧ (∀ k : Nat, k < i → -16384 ≤ hs.getD k 0 ∧ hs.getD k 0 ≤ 16384) ∧ fr 1 = .p 0 0 ∧ fr 3 = (PV.i .i64 ((i : Nat) : Int)) ∧ M = [some ⟨[.i .i64 X, .i .i64 Y, .i .i64 S, .i .i64 C, .i .i64 R, ints hs], true, 0⟩]) (fun i => hs.length - i) ?_ 0 ⟨Nat.zero_le _, fun k hk => by omega, by simp only [go_sem, seval], by simp only [go_sem, seval], rfl⟩
  rintro i fr M ⟨hi1, hlo, f1, f3, rfl⟩ ih
  by_cases hil : i < hs.length
  · have q1 : ((i : Int) < (hs.length : Int)) = True := eq_true (by omega)
    have gi := get_some hil
    generalize hz : hs.getD i 0 = z at *
    rcases fst1 (z < -16384) with t0 | t0
    · have e := of_eq_true t0
      have hv := res 5 (fun _ => rfl) (fun q => by have := q i hil; rw [hz] at this; omega)
      rw [hv]
      simp (disch := omega) only [go_sem, seval, wqa, wqb, wqc, wqd, wqe, f1, f3, q1, idxP_ints gi, Int.toNat_natCast, t0]
    · rcases fst1 (z > 16384) with t1 | t1
      · have e := of_eq_true t1
        have hv := res 5 (fun _ => rfl) (fun q => by have := q i hil; rw [hz] at this; omega)
        rw [hv]
        simp (disch := omega) only [go_sem, seval, wqa, wqb, wqc, wqd, wqe, f1, f3, q1, idxP_ints gi, Int.toNat_natCast, t0, t1]
      · have u0 := of_eq_false t0
        have u1 := of_eq_false t1
        simp (disch := omega) only [go_sem, seval, wqa, wqb, wqc, wqd, wqe, f1, f3, q1, idxP_ints gi, Int.toNat_natCast, t0, t1]
        refine ih (i + 1) _ _ (by omega) ⟨by omega, ?_, by simp only [go_sem, seval, f1], by simp only [go_sem, seval]; rw [Int.natCast_succ], rfl⟩
        intro k hk
        rcases Nat.lt_or_ge k i with h | h
        · exact hlo k h
        · have : k = i := by omega
          subst this; rw [hz]; omega
  · have q1 : ((i : Int) < (hs.length : Int)) = False := eq_false (by omega)
    have hv := res 0 (fun ⟨k, hk, hn⟩ => (hn (hlo k (by omega))).elim) (fun _ => rfl)
    rw [hv]
    simp (disch := omega) only [go_sem, seval, wqa, wqb, wqc, wqd, wqe, f1, f3, q1]
end Go.Eng
namespace Go.Eng
theorem p_findE {X Y S C R : Int} {hs : List Int} {e : Int} (he : e ≠ 0) (hv : pf E0 14 [terP X Y S C R hs] = some (.i .i64 e)) (x y : FQ) : pf E0 25 [terP X Y S C R hs, fqP x, fqP y] = some (.tu [spotP 0 0 fq0 fq0, .i .i64 e]) := by
  have he : (e = 0) = False := by simp [he]
  rw [spot0]
  refine pf_run (xf := x_terrain_find) rfl (by simp [x_terrain_find]) ?_
  simp only [x_terrain_find]
  simp (disch := omega) only [go_sem, seval, wqa, wqb, wqc, wqd, wqe, hv, he]
theorem p_HeightE {X Y S C R : Int} {hs : List Int} {e : Int} (he : e ≠ 0) (hv : pf E0 14 [terP X Y S C R hs] = some (.i .i64 e)) (x y : FQ) : pf E0 10 [terP X Y S C R hs, fqP x, fqP y] = some (.tu [fqP fq0, .i .i64 e]) := by
  have hf := p_findE he hv x y
  have he : (e = 0) = False := by simp [he]
  rw [fqP0]
  refine pf_run (xf := x_terrain_Height) rfl (by simp [x_terrain_Height]) ?_
  simp only [x_terrain_Height]
  simp (disch := omega) only [go_sem, seval, wqa, wqb, wqc, wqd, wqe, hf, he]
theorem p_Facet {X Y S C R : Int} {hs : List Int} {e i j : Int} {p q x y : FQ} (hf : pf E0 25 [terP X Y S C R hs, fqP x, fqP y] = some (.tu [spotP i j p q, .i .i64 e])) : pf E0 243 [terP X Y S C R hs, fqP x, fqP y] = some (.tu [.i .i64 i, .i .i64 j, .i .i64 e]) := by
  refine pf_run (xf := x_terrain_Facet) rfl (by simp [x_terrain_Facet]) ?_
  simp only [x_terrain_Facet]
  simp (disch := omega) only [go_sem, seval, wqa, wqb, wqc, wqd, wqe, hf]
theorem p_FormE {X Y S C R : Int} {hs : List Int} {e : Int} (he : e ≠ 0) (hv : pf E0 14 [terP X Y S C R hs] = some (.i .i64 e)) (i j : Int) : pf E0 3 [terP X Y S C R hs, .i .i64 i, .i .i64 j] = some (.tu [arr4 0 0 0 0, .i .i64 e]) := by
  have he : (e = 0) = False := by simp [he]
  refine pf_run (xf := x_terrain_Form) rfl (by simp [x_terrain_Form]) ?_
  simp only [x_terrain_Form]
  simp (disch := omega) only [go_sem, seval, wqa, wqb, wqc, wqd, wqe, hv, he]
theorem p_RaiseE {X Y S C R : Int} {hs : List Int} {e : Int} (he : e ≠ 0) (hv : pf E0 14 [terP X Y S C R hs] = some (.i .i64 e)) (i j h : Int) : pf E0 239 [terP X Y S C R hs, .i .i64 i, .i .i64 j, .i .i64 h] = some (.tu [terP 0 0 0 0 0 [], .i .i64 e]) := by
  have he : (e = 0) = False := by simp [he]
  have hz : terP 0 0 0 0 0 [] = .ag [.i .i64 0, .i .i64 0, .i .i64 0, .i .i64 0, .i .i64 0, .lst []] := rfl
  rw [hz]
  refine pf_run (xf := x_terrain_Raise) rfl (by simp [x_terrain_Raise]) ?_
  simp only [x_terrain_Raise]
  simp (disch := omega) only [go_sem, seval, wqa, wqb, wqc, wqd, wqe, hv, he]
theorem p_RangeE {X Y S C R : Int} {hs : List Int} {e : Int} (he : e ≠ 0) (hv : pf E0 14 [terP X Y S C R hs] = some (.i .i64 e)) : pf E0 244 [terP X Y S C R hs, .ag [.b false, .lst [], .b false, .lst []], .ag [.b false, .lst [], .b false, .lst []]] = some (.tu [.i .i64 0, .i .i64 0, .i .i64 e]) := by
  have he : (e = 0) = False := by simp [he]
  refine pf_run (xf := x_terrain_Range) rfl (by simp [x_terrain_Range]) ?_
  simp only [x_terrain_Range]
  simp (disch := omega) only [go_sem, seval, wqa, wqb, wqc, wqd, wqe, hv, he]
end Go.Eng
namespace Go.Eng
theorem flat_ints (hs : List Int) : flat (hs.map fun n => PV.i .i64 n) = hs.map fun n => .i .i64 n := by
  induction hs with
  | nil => rfl
  | cons a l ih => rw [List.map_cons]; show [PV.i .i64 a] ++ flat _ = _; rw [ih]; rfl
theorem app_ints (M : PM) {hs : List Int} (h : hs ≠ []) (hl : hs.length ≤ 100000) : appP M 1 8 .nl (ints hs) = some (.sl M.length 0 hs.length hs.length 1, M ++ [some ⟨hs.map fun n => .i .i64 n, true, 0⟩]) := by
  have h0 : hs.length ≠ 0 := fun q => h (List.length_eq_zero_iff.1 q)
  unfold ints appP srcP
  simp only [ez_ints, if_true, List.length_map, flat_ints, h0, if_false]
  rw [if_pos (by omega)]
theorem fz_ints_b (M : PM) (d : Nat) (hs : List Int) : fzL (fz M (d + 1)) (hs.map fun n => PV.i .i64 n) = some (hs.map fun n => .i .i64 n, []) := fzL_map' M d _ (fun _ => rfl) _
theorem TerOk.set {X Y S : Int} {C R : Nat} {hs : List Int} (t : TerOk X Y S C R hs) {k : Nat} {h : Int} (hh : -16384 ≤ h ∧ h ≤ 16384) : TerOk X Y S C R (hs.set k h) :=
  ⟨t.c, t.r, t.s, t.x, t.y, by rw [List.length_set]; exact t.len, fun n hn => by
    rcases List.mem_or_eq_of_mem_set hn with q | rfl
    · exact t.h n q
    · exact hh⟩
end Go.Eng
namespace Go.Eng
end Go.Eng
namespace Go.Eng
end Go.Eng
namespace Go.Eng
end Go.Eng
namespace Go.Eng
end Go.Eng
namespace Go.Eng
end Go.Eng
namespace Go.Eng
theorem ap_G2 (b0 b1 : Option PB) (G : PM) (L : List PV) (w : PV) {i : Nat} (hl : L.length = i) (hi : i ≤ 100000) (h0 : 0 < i) : appP (b0 :: b1 :: (G ++ [some ⟨L, true, 0⟩, some ⟨[w], true, 0⟩])) 1 8 (.sl (G.length + 2) 0 i i 1) (.sl (G.length + 3) 0 1 1 1) =
    some (.sl (G.length + 4) 0 (i + 1) (i + 1) 1, b0 :: b1 :: (G ++ [none, some ⟨[w], true, 0⟩, some ⟨L ++ [w], true, 0⟩])) := by
  have e1 : PM.blk (b0 :: b1 :: (G ++ [some (⟨L, true, 0⟩ : PB), some (⟨[w], true, 0⟩ : PB)])) (G.length + 3) = some (⟨[w], true, 0⟩ : PB) := by
    show PM.blk (G ++ [some (⟨L, true, 0⟩ : PB), some (⟨[w], true, 0⟩ : PB)]) (G.length + 1) = _
    rw [mG]; rfl
  have e2 : PM.blk (b0 :: b1 :: (G ++ [some (⟨L, true, 0⟩ : PB), some (⟨[w], true, 0⟩ : PB)])) (G.length + 2) = some (⟨L, true, 0⟩ : PB) := by
    show PM.blk (G ++ [some (⟨L, true, 0⟩ : PB), some (⟨[w], true, 0⟩ : PB)]) (G.length) = _
    rw [mG0]; rfl
  have e3 : (b0 :: b1 :: (G ++ [some (⟨L, true, 0⟩ : PB), some (⟨[w], true, 0⟩ : PB)])).set (G.length + 2) none = b0 :: b1 :: (G ++ [none, some (⟨[w], true, 0⟩ : PB)]) := by
    show b0 :: b1 :: (G ++ [some (⟨L, true, 0⟩ : PB), some (⟨[w], true, 0⟩ : PB)]).set G.length none = _
    rw [sG0]; rfl
  have es : srcP (b0 :: b1 :: (G ++ [some (⟨L, true, 0⟩ : PB), some (⟨[w], true, 0⟩ : PB)])) 1 (.sl (G.length + 3) 0 1 1 1) = some (1, [w]) := by
    simp only [srcP, PM.rd, e1]
    rfl
  unfold appP
  rw [es]
  simp only [e2]
  rw [if_neg (by simp), if_neg (by decide), if_pos ⟨trivial, by rw [hl]; omega, by omega⟩, e3]
  simp only [List.drop_zero, Nat.mul_one, List.cons_append, List.append_assoc, List.nil_append, List.length_cons, List.length_append, List.length_nil]
  rw [List.take_of_length_le (by omega)]
end Go.Eng
namespace Go.Eng
theorem wrap_fits (n : Int) : Fits64 (IntKind.i64.wrap n) := by
  have h0 := Int.emod_nonneg n (show (18446744073709551616 : Int) ≠ 0 by decide)
  have h1 := Int.emod_lt_of_pos n (show (0 : Int) < 18446744073709551616 by decide)
  have e : IntKind.i64.wrap n = if n % 18446744073709551616 ≥ 9223372036854775808 then n % 18446744073709551616 - 18446744073709551616 else n % 18446744073709551616 := by
    show (if (true && decide (n % 18446744073709551616 ≥ 9223372036854775808)) = true then n % 18446744073709551616 - 18446744073709551616 else n % 18446744073709551616) = _
    simp
  unfold Fits64
  rw [e]
  split <;> omega
end Go.Eng
